/- Texts of this seat, put together: Qf70, Qf71, Qf72, Qf13, Qf73, Qf14, Qf15, Qf74, Qf16, Qf75. -/
import Derived.Test.YtklepiechbnenaaZFnLevels
import Derived.Test.YtklepiechbnenaaBFnLevels0
import Derived.Test.YtklepiechbnenaaBFnLevels1
import Derived.Test.YtklepiechbnenaaBFnLevels4
import Derived.Test.YtklepiechbnenaaBFnLevels5
namespace Go.Proofs.Ytklepiechbnenaa.Q
open Go.RowKit Go.Proofs.YtklepiechbnenaaW.PrintWords Go.Proofs.YtklepiechbnenaaW.PrintLast Go.Proofs.YtklepiechbnenaaW.PrintMore
attribute [local go_sem] max2_int min2_int max_two min_two max_three min_three max_four min_four   -- for this text's walks alone
set_option linter.unusedVariables false
set_option linter.unusedSimpArgs false

/-! ### impl_isTopicArea: function 70 -/
def impl_isTopicArea.f (a0 : Int) (a1 : Int) : Option (Bool) := (impl_within.f a0 1 5).bind fun t373 => (if t373 = true then ((impl_within.f a1 1 9).bind fun t374 => (some t374)) else (some false))
set_option maxHeartbeats 8000000 in
set_option maxRecDepth 100000 in
theorem impl_isTopicArea.calls (a0 : Int) (a1 : Int) (r : Bool) (w : World) (h : impl_isTopicArea.f a0 a1 = some r) :
  Calls Try.prog 70 #[.int .i64 a0, .int .i64 a1] w fun e w' => e = .returned (.bool r) ∧ Drawn0 w w' := by
 have H : ((impl_within.f a0 1 5).bind fun t373 => (if t373 = true then ((impl_within.f a1 1 9).bind fun t374 => (some t374)) else (some false))) = some r := h
 clear h
 replace H := Option.bind_eq_some_iff.mp H
 obtain ⟨t373, A30, H⟩ := H
 replace H : (if t373 = true then ((impl_within.f a1 1 9).bind fun t374 => (some t374)) else (some false)) = some r := H
 have A3 := Aside0.mk A30
 clear A30
 by_cases c4 : t373 = true
 ·
  subst c4
  have H1 : ((impl_within.f a1 1 9).bind fun t374 => (some t374)) = some r := by rw [if_pos rfl] at H; exact H
  clear H
  have H := H1
  clear H1
  replace H := Option.bind_eq_some_iff.mp H
  obtain ⟨t374, A50, H⟩ := H
  replace H : (some t374) = some r := H
  have A5 := Aside0.mk A50
  clear A50
  obtain rfl := Option.some.inj H
  go_enter Try.func70, Try.ntmps70
  go_wp2_with (first | ((with_reducible refine gate_callee (f := 60) rfl ?_); refine goesL_ (some 6) rfl rfl Try.func60 (by kernel_rfl) rfl #[.int .i64 a0, .int .i64 1, .int .i64 5] rfl zq1 ?_; (with_reducible refine (impl_within.calls a0 1 5 true _ A3.out).mono ?_); rintro e w' ⟨rfl, ⟨nd, rfl⟩⟩; refine ⟨_, rfl, ?_⟩) | (go_at_call 60; (with_reducible refine (impl_within.calls a1 1 9 t374 _ A5.out).mono ?_); rintro e w' ⟨rfl, ⟨nd, rfl⟩⟩))
  go_ret
  exact ⟨by first | rfl | (simp; done) | (simp [*]; done), by repeat (first | exact Drawn0.refl _ | apply Drawn0.step)⟩
 ·
  replace c4 := Bool.eq_false_iff.mpr c4
  subst c4
  have H1 : (some false) = some r := by rw [if_neg (show ¬ (false = true) by decide)] at H; exact H
  clear H
  have H := H1
  clear H1
  obtain rfl := Option.some.inj H
  go_enter Try.func70, Try.ntmps70
  go_wp2_with (first | ((with_reducible refine gate_callee (f := 60) rfl ?_); refine goesL_ (some 6) rfl rfl Try.func60 (by kernel_rfl) rfl #[.int .i64 a0, .int .i64 1, .int .i64 5] rfl zq1 ?_; (with_reducible refine (impl_within.calls a0 1 5 false _ A3.out).mono ?_); rintro e w' ⟨rfl, ⟨nd, rfl⟩⟩; refine ⟨_, rfl, ?_⟩))
  go_ret
  exact ⟨by first | rfl | (simp; done) | (simp [*]; done), by repeat (first | exact Drawn0.refl _ | apply Drawn0.step)⟩

end Go.Proofs.Ytklepiechbnenaa.Q
namespace Go.Proofs.Ytklepiechbnenaa.Q
open Go.RowKit Go.Proofs.YtklepiechbnenaaW.PrintWords Go.Proofs.YtklepiechbnenaaW.PrintLast Go.Proofs.YtklepiechbnenaaW.PrintMore
attribute [local go_sem] max2_int min2_int max_two min_two max_three min_three max_four min_four   -- for this text's walks alone
set_option linter.unusedVariables false
set_option linter.unusedSimpArgs false

/-! ### impl_isStateHour: function 71 -/
def impl_isStateHour.f (a0 : Int) : Option (Bool) := (impl_within.f a0 0 239).bind fun t375 => (some t375)
set_option maxHeartbeats 8000000 in
set_option maxRecDepth 100000 in
theorem impl_isStateHour.calls (a0 : Int) (r : Bool) (w : World) (h : impl_isStateHour.f a0 = some r) :
  Calls Try.prog 71 #[.int .i64 a0] w fun e w' => e = .returned (.bool r) ∧ Drawn0 w w' := by
 have H : ((impl_within.f a0 0 239).bind fun t375 => (some t375)) = some r := h
 clear h
 replace H := Option.bind_eq_some_iff.mp H
 obtain ⟨t375, A20, H⟩ := H
 replace H : (some t375) = some r := H
 have A2 := Aside0.mk A20
 clear A20
 obtain rfl := Option.some.inj H
 go_enter Try.func71, Try.ntmps71
 go_wp2_with (first | ((with_reducible refine gate_callee (f := 60) rfl ?_); refine goesL_ (some 4) rfl rfl Try.func60 (by kernel_rfl) rfl #[.int .i64 a0, .int .i64 0, .int .i64 239] rfl zq1 ?_; (with_reducible refine (impl_within.calls a0 0 239 t375 _ A2.out).mono ?_); rintro e w' ⟨rfl, ⟨nd, rfl⟩⟩; refine ⟨_, rfl, ?_⟩))
 go_ret
 exact ⟨by first | rfl | (simp; done) | (simp [*]; done), by repeat (first | exact Drawn0.refl _ | apply Drawn0.step)⟩

end Go.Proofs.Ytklepiechbnenaa.Q
namespace Go.Proofs.Ytklepiechbnenaa.Q
open Go.RowKit Go.Proofs.YtklepiechbnenaaW.PrintWords Go.Proofs.YtklepiechbnenaaW.PrintLast Go.Proofs.YtklepiechbnenaaW.PrintMore
attribute [local go_sem] max2_int min2_int max_two min_two max_three min_three max_four min_four   -- for this text's walks alone
set_option linter.unusedVariables false
set_option linter.unusedSimpArgs false

/-! ### impl_topicLevel: function 72 -/
def impl_topicLevel.l0 : Nat → Int → Int → Int → List (S31) → Int → Int → Option (Int)
 | 0, _, _, _, _, _, _ => none
 | k + 1, x1, x2, x3, x11, x12, x13 => if x13 < x12 then (if 0 ≤ x13 then (if x13 < (x11.length : Int) then (if ((rd_T31 x11 x13).f1) = x1 then (if ((rd_T31 x11 x13).f3) = x2 then ((impl_within.f x3 ((rd_T31 x11 x13).f4) (wrap64 (((rd_T31 x11 x13).f5) - 1))).bind fun t378 => (if t378 = true then (some ((rd_T31 x11 x13).f2)) else (impl_topicLevel.l0 k x1 x2 x3 x11 x12 (wrap64 (x13 + 1))))) else (impl_topicLevel.l0 k x1 x2 x3 x11 x12 (wrap64 (x13 + 1)))) else (impl_topicLevel.l0 k x1 x2 x3 x11 x12 (wrap64 (x13 + 1)))) else (none)) else (none)) else (some 0)
def impl_topicLevel.f (k : Nat) (l0 : List (S31)) (a1 : Int) (a2 : Int) (a3 : Int) : Option (Int) := impl_topicLevel.l0 k a1 a2 a3 l0 (l0.length : Int) 0
theorem impl_topicLevel.mono_l : ∀ k, (∀ y0 y1 y2 y3 y4 y5, LeO (impl_topicLevel.l0 k y0 y1 y2 y3 y4 y5) (impl_topicLevel.l0 (k + 1) y0 y1 y2 y3 y4 y5))
 | 0 => fun _ _ _ _ _ _ r h => by simp [impl_topicLevel.l0] at h
 | k + 1 => by
  have ih0 := impl_topicLevel.mono_l k
  ·
   intro y0 y1 y2 y3 y4 y5
   unfold impl_topicLevel.l0
   repeat' first
   | (with_reducible exact ih0 _ _ _ _ _ _)
   | (with_reducible exact LeO.refl _)
   | (with_reducible exact LeO.none _)
   | (with_reducible refine LeO.ite ?_ ?_)
   | (with_reducible refine LeO.bind ?_ (fun _ => ?_))
   | exact ih0 _ _ _ _ _ _
   | exact LeO.none _
   | refine LeO.ite ?_ ?_
   | refine LeO.bind ?_ (fun _ => ?_)
theorem impl_topicLevel.mono : ∀ a0 a1 a2 a3 k, LeO (impl_topicLevel.f k a0 a1 a2 a3) (impl_topicLevel.f (k + 1) a0 a1 a2 a3) := by
 intro a0 a1 a2 a3 k
 have ih0 := impl_topicLevel.mono_l k
 unfold impl_topicLevel.f
 repeat' first
   | (with_reducible exact ih0 _ _ _ _ _ _)
   | (with_reducible exact LeO.refl _)
   | (with_reducible exact LeO.none _)
   | (with_reducible refine LeO.ite ?_ ?_)
   | (with_reducible refine LeO.bind ?_ (fun _ => ?_))
   | exact ih0 _ _ _ _ _ _
   | exact LeO.none _
   | refine LeO.ite ?_ ?_
   | refine LeO.bind ?_ (fun _ => ?_)
set_option maxHeartbeats 8000000 in
set_option maxRecDepth 100000 in
theorem impl_topicLevel.calls (k : Nat) (A0 : Option Addr) (c0 : Nat) (l0 : List (S31)) (a1 : Int) (a2 : Int) (a3 : Int) (r : Int) (w : World) (hr0 : Kd.C k31 w A0 l0.length l0) (hc0 : l0.length ≤ c0) (h : impl_topicLevel.f k l0 a1 a2 a3 = some r) :
  Calls Try.prog 72 #[.slice A0 l0.length c0, .int .i64 a1, .int .i64 a2, .int .i64 a3] w fun e w' => e = .returned (.int .i64 r) ∧ Below w.heap.size w w' := by
 have hu31 := Try.underlying31
 have HR0 := Aside0.mk hr0
 have HC0 := Aside0.mk hc0
 clear hr0 hc0
 have HB := Aside0.mk (Below.refl w.heap.size w)
 have H : (impl_topicLevel.l0 k a1 a2 a3 l0 (l0.length : Int) 0) = some r := h
 clear h
 have H' := Aside0.mk H
 clear H
 go_enter Try.func72, Try.ntmps72
 go_wp2
 go_loopg [13] k (fun kq v13 w' => ∃ (x13_1 : Int), v13 = .int .i64 x13_1 ∧ Aside0 (impl_topicLevel.l0 kq a1 a2 a3 l0 (l0.length : Int) x13_1 = some r) ∧ Aside0 (kq ≤ k) ∧ Aside0 (Below w.heap.size w w'))
 case atStart => exact ⟨(0), (by first | rfl | (simp; done) | (simp [*]; done)), H', ⟨Nat.le_refl _⟩, ⟨by repeat (first | (with_reducible first | exact HB.out | apply below_alloc | apply pw_below_drewN | apply below_drew1) | exact HB.out)⟩⟩
 case round =>
  clear H'
  try clear p2
  obtain ⟨x13_1, rfl, HA, HK1, HB⟩ := hrel
  cases gk with
  | zero => exact absurd HA.out (by simp [impl_topicLevel.l0])
  | succ k1 =>
   have H := HA.out
   clear HA
   simp only [impl_topicLevel.l0] at H
   by_cases c5 : x13_1 < (l0.length : Int)
   ·
    rw [if_pos c5] at H
    have c5b0 : decide (x13_1 < (l0.length : Int)) = true := decide_eq_true c5
    clear c5
    by_cases c6 : 0 ≤ x13_1
    ·
     rw [if_pos c6] at H
     have c6b0 : decide (0 ≤ x13_1) = true := decide_eq_true c6
     clear c6
     by_cases c7 : x13_1 < (l0.length : Int)
     ·
      rw [if_pos c7] at H
      have c7b0 : decide (x13_1 < (l0.length : Int)) = true := decide_eq_true c7
      clear c7
      by_cases c8 : ((rd_T31 l0 x13_1).f1) = a1
      ·
       rw [if_pos c8] at H
       have c8b0 : (((rd_T31 l0 x13_1).f1) == a1) = true := beq_iff_eq.mpr c8
       have c8b1 : (((rd_T31 l0 x13_1).f1) != a1) = false := bne_eq_false_iff_eq.mpr c8
       clear c8
       by_cases c9 : ((rd_T31 l0 x13_1).f3) = a2
       ·
        rw [if_pos c9] at H
        have c9b0 : (((rd_T31 l0 x13_1).f3) == a2) = true := beq_iff_eq.mpr c9
        have c9b1 : (((rd_T31 l0 x13_1).f3) != a2) = false := bne_eq_false_iff_eq.mpr c9
        clear c9
        replace H := Option.bind_eq_some_iff.mp H
        obtain ⟨t378, A100, H⟩ := H
        replace H : (if t378 = true then (some ((rd_T31 l0 x13_1).f2)) else (impl_topicLevel.l0 k1 a1 a2 a3 l0 (l0.length : Int) (wrap64 (x13_1 + 1)))) = some r := H
        have A10 := Aside0.mk A100
        clear A100
        by_cases c11 : t378 = true
        ·
         subst c11
         have H1 : (some ((rd_T31 l0 x13_1).f2)) = some r := by rw [if_pos rfl] at H; exact H
         clear H
         have H := H1
         clear H1
         obtain rfl := Option.some.inj H
         have p376 : 0 ≤ (x13_1 : Int) := of_decide_eq_true zq2
         have q376 : x13_1 < (l0.length : Int) := of_decide_eq_true zq2
         obtain ⟨ad376, e376, hx376_0, hx376_1, hx376_2, hx376_3, hx376_4, hx376_5⟩ := at_T31 HR0.out x13_1 p376 q376
         cases e376
         replace hx376_0 := (HB.out.cell (World.block_lt_of_cell? w _ hx376_0)).trans hx376_0
         replace hx376_1 := (HB.out.cell (World.block_lt_of_cell? w _ hx376_1)).trans hx376_1
         replace hx376_2 := (HB.out.cell (World.block_lt_of_cell? w _ hx376_2)).trans hx376_2
         replace hx376_3 := (HB.out.cell (World.block_lt_of_cell? w _ hx376_3)).trans hx376_3
         replace hx376_4 := (HB.out.cell (World.block_lt_of_cell? w _ hx376_4)).trans hx376_4
         replace hx376_5 := (HB.out.cell (World.block_lt_of_cell? w _ hx376_5)).trans hx376_5
         replace p376 := eq_true p376
         replace q376 := eq_true q376
         go_wp2_with (first | ((with_reducible refine gate_dst (N := 10) rfl ?_); refine box_event ?hg (N := 10) ?hd (cs := #[.int .i64 0, .int .i64 0, .int .i64 0, .int .i64 0, .int .i64 0, .int .i64 0]) (t := 31) ?hr ?_; (case hd => rfl); (case hg => rfl); (case hr => first | (go_simp; done) | (go_simp; rfl)); intro gb377 hg w12 hbox hb; have n0_ := Aside0.mk (below_step zq0 hb); have n1_ := Aside0.mk (hbox); have n2_ := Aside0.mk ((by rw [hg]; exact (below_size zq0) : w.heap.size ≤ gb377)); have n3_ := Aside0.mk ((by rw [hg]; exact (below_size zq0) : w.heap.size ≤ gb377)); clear HB; have HB := n0_; have BK377 := n1_; have GW377 := n2_; have GE377 := n3_; clear n0_ n1_ n2_ n3_; clear hb hbox hg; have hcz13_0 : w12.cell? ⟨gb377, 0, none⟩ = some (.int .i64 0) := (blk_cell BK377.out 0).trans rfl; have hcz13_1 : w12.cell? ⟨gb377, 1, none⟩ = some (.int .i64 0) := (blk_cell BK377.out 1).trans rfl; have hcz13_2 : w12.cell? ⟨gb377, 2, none⟩ = some (.int .i64 0) := (blk_cell BK377.out 2).trans rfl; have hcz13_3 : w12.cell? ⟨gb377, 3, none⟩ = some (.int .i64 0) := (blk_cell BK377.out 3).trans rfl; have hcz13_4 : w12.cell? ⟨gb377, 4, none⟩ = some (.int .i64 0) := (blk_cell BK377.out 4).trans rfl; have hcz13_5 : w12.cell? ⟨gb377, 5, none⟩ = some (.int .i64 0) := (blk_cell BK377.out 5).trans rfl; have hfz13_0 := blk_frozen BK377.out 0; have hfz13_1 := blk_frozen BK377.out 1; have hfz13_2 := blk_frozen BK377.out 2; have hfz13_3 := blk_frozen BK377.out 3; have hfz13_4 := blk_frozen BK377.out 4; have hfz13_5 := blk_frozen BK377.out 5) | (go_at_call 60; (with_reducible refine (impl_within.calls a3 ((rd_T31 l0 x13_1).f4) (wrap64 (((rd_T31 l0 x13_1).f5) - 1)) true _ A10.out).mono ?_); rintro e w' ⟨rfl, ⟨nd, rfl⟩⟩))
         go_ret
         exact ⟨by first | rfl | (simp [errW_none, errW_some] <;> rfl) | (simp [*, errW_none, errW_some] <;> rfl), by repeat (first | (with_reducible first | exact HB.out | apply below_alloc | apply pw_below_drewN | apply below_drew1 | refine below_set ?_ GE377.out) | exact HB.out)⟩
        ·
         replace c11 := Bool.eq_false_iff.mpr c11
         subst c11
         have H1 : (impl_topicLevel.l0 k1 a1 a2 a3 l0 (l0.length : Int) (wrap64 (x13_1 + 1))) = some r := by rw [if_neg (show ¬ (false = true) by decide)] at H; exact H
         clear H
         have H := H1
         clear H1
         have H' := Aside0.mk H
         clear H
         have p376 : 0 ≤ (x13_1 : Int) := of_decide_eq_true zq2
         have q376 : x13_1 < (l0.length : Int) := of_decide_eq_true zq2
         obtain ⟨ad376, e376, hx376_0, hx376_1, hx376_2, hx376_3, hx376_4, hx376_5⟩ := at_T31 HR0.out x13_1 p376 q376
         cases e376
         replace hx376_0 := (HB.out.cell (World.block_lt_of_cell? w _ hx376_0)).trans hx376_0
         replace hx376_1 := (HB.out.cell (World.block_lt_of_cell? w _ hx376_1)).trans hx376_1
         replace hx376_2 := (HB.out.cell (World.block_lt_of_cell? w _ hx376_2)).trans hx376_2
         replace hx376_3 := (HB.out.cell (World.block_lt_of_cell? w _ hx376_3)).trans hx376_3
         replace hx376_4 := (HB.out.cell (World.block_lt_of_cell? w _ hx376_4)).trans hx376_4
         replace hx376_5 := (HB.out.cell (World.block_lt_of_cell? w _ hx376_5)).trans hx376_5
         replace p376 := eq_true p376
         replace q376 := eq_true q376
         go_wp2_with (first | ((with_reducible refine gate_dst (N := 10) rfl ?_); refine box_event ?hg (N := 10) ?hd (cs := #[.int .i64 0, .int .i64 0, .int .i64 0, .int .i64 0, .int .i64 0, .int .i64 0]) (t := 31) ?hr ?_; (case hd => rfl); (case hg => rfl); (case hr => first | (go_simp; done) | (go_simp; rfl)); intro gb377 hg w14 hbox hb; have n0_ := Aside0.mk (below_step zq0 hb); have n1_ := Aside0.mk (hbox); have n2_ := Aside0.mk ((by rw [hg]; exact (below_size zq0) : w.heap.size ≤ gb377)); have n3_ := Aside0.mk ((by rw [hg]; exact (below_size zq0) : w.heap.size ≤ gb377)); clear HB; have HB := n0_; have BK377 := n1_; have GW377 := n2_; have GE377 := n3_; clear n0_ n1_ n2_ n3_; clear hb hbox hg; have hcz15_0 : w14.cell? ⟨gb377, 0, none⟩ = some (.int .i64 0) := (blk_cell BK377.out 0).trans rfl; have hcz15_1 : w14.cell? ⟨gb377, 1, none⟩ = some (.int .i64 0) := (blk_cell BK377.out 1).trans rfl; have hcz15_2 : w14.cell? ⟨gb377, 2, none⟩ = some (.int .i64 0) := (blk_cell BK377.out 2).trans rfl; have hcz15_3 : w14.cell? ⟨gb377, 3, none⟩ = some (.int .i64 0) := (blk_cell BK377.out 3).trans rfl; have hcz15_4 : w14.cell? ⟨gb377, 4, none⟩ = some (.int .i64 0) := (blk_cell BK377.out 4).trans rfl; have hcz15_5 : w14.cell? ⟨gb377, 5, none⟩ = some (.int .i64 0) := (blk_cell BK377.out 5).trans rfl; have hfz15_0 := blk_frozen BK377.out 0; have hfz15_1 := blk_frozen BK377.out 1; have hfz15_2 := blk_frozen BK377.out 2; have hfz15_3 := blk_frozen BK377.out 3; have hfz15_4 := blk_frozen BK377.out 4; have hfz15_5 := blk_frozen BK377.out 5) | (go_at_call 60; (with_reducible refine (impl_within.calls a3 ((rd_T31 l0 x13_1).f4) (wrap64 (((rd_T31 l0 x13_1).f5) - 1)) false _ A10.out).mono ?_); rintro e w' ⟨rfl, ⟨nd, rfl⟩⟩))
         go_roundg k1
         case measure => have := HK1.out; omega
         case rel => exact ⟨(wrap64 (x13_1 + 1)), (by first | rfl | (simp; done) | (simp [*]; done)), H', ⟨by have := HK1.out; omega⟩, ⟨by repeat (first | (with_reducible first | exact HB.out | apply below_alloc | apply pw_below_drewN | apply below_drew1 | refine below_set ?_ GE377.out) | exact HB.out)⟩⟩
       ·
        rw [if_neg c9] at H
        have c9b0 : (((rd_T31 l0 x13_1).f3) == a2) = false := beq_eq_false_iff_ne.mpr c9
        have c9b1 : (((rd_T31 l0 x13_1).f3) != a2) = true := bne_iff_ne.mpr c9
        have H' := Aside0.mk H
        clear H
        have p376 : 0 ≤ (x13_1 : Int) := of_decide_eq_true zq2
        have q376 : x13_1 < (l0.length : Int) := of_decide_eq_true zq2
        obtain ⟨ad376, e376, hx376_0, hx376_1, hx376_2, hx376_3, hx376_4, hx376_5⟩ := at_T31 HR0.out x13_1 p376 q376
        cases e376
        replace hx376_0 := (HB.out.cell (World.block_lt_of_cell? w _ hx376_0)).trans hx376_0
        replace hx376_1 := (HB.out.cell (World.block_lt_of_cell? w _ hx376_1)).trans hx376_1
        replace hx376_2 := (HB.out.cell (World.block_lt_of_cell? w _ hx376_2)).trans hx376_2
        replace hx376_3 := (HB.out.cell (World.block_lt_of_cell? w _ hx376_3)).trans hx376_3
        replace hx376_4 := (HB.out.cell (World.block_lt_of_cell? w _ hx376_4)).trans hx376_4
        replace hx376_5 := (HB.out.cell (World.block_lt_of_cell? w _ hx376_5)).trans hx376_5
        replace p376 := eq_true p376
        replace q376 := eq_true q376
        go_wp2_with (first | ((with_reducible refine gate_dst (N := 10) rfl ?_); refine box_event ?hg (N := 10) ?hd (cs := #[.int .i64 0, .int .i64 0, .int .i64 0, .int .i64 0, .int .i64 0, .int .i64 0]) (t := 31) ?hr ?_; (case hd => rfl); (case hg => rfl); (case hr => first | (go_simp; done) | (go_simp; rfl)); intro gb377 hg w16 hbox hb; have n0_ := Aside0.mk (below_step zq0 hb); have n1_ := Aside0.mk (hbox); have n2_ := Aside0.mk ((by rw [hg]; exact (below_size zq0) : w.heap.size ≤ gb377)); have n3_ := Aside0.mk ((by rw [hg]; exact (below_size zq0) : w.heap.size ≤ gb377)); clear HB; have HB := n0_; have BK377 := n1_; have GW377 := n2_; have GE377 := n3_; clear n0_ n1_ n2_ n3_; clear hb hbox hg; have hcz17_0 : w16.cell? ⟨gb377, 0, none⟩ = some (.int .i64 0) := (blk_cell BK377.out 0).trans rfl; have hcz17_1 : w16.cell? ⟨gb377, 1, none⟩ = some (.int .i64 0) := (blk_cell BK377.out 1).trans rfl; have hcz17_2 : w16.cell? ⟨gb377, 2, none⟩ = some (.int .i64 0) := (blk_cell BK377.out 2).trans rfl; have hcz17_3 : w16.cell? ⟨gb377, 3, none⟩ = some (.int .i64 0) := (blk_cell BK377.out 3).trans rfl; have hcz17_4 : w16.cell? ⟨gb377, 4, none⟩ = some (.int .i64 0) := (blk_cell BK377.out 4).trans rfl; have hcz17_5 : w16.cell? ⟨gb377, 5, none⟩ = some (.int .i64 0) := (blk_cell BK377.out 5).trans rfl; have hfz17_0 := blk_frozen BK377.out 0; have hfz17_1 := blk_frozen BK377.out 1; have hfz17_2 := blk_frozen BK377.out 2; have hfz17_3 := blk_frozen BK377.out 3; have hfz17_4 := blk_frozen BK377.out 4; have hfz17_5 := blk_frozen BK377.out 5))
        go_roundg k1
        case measure => have := HK1.out; omega
        case rel => exact ⟨(wrap64 (x13_1 + 1)), (by first | rfl | (simp; done) | (simp [*]; done)), H', ⟨by have := HK1.out; omega⟩, ⟨by repeat (first | (with_reducible first | exact HB.out | apply below_alloc | apply pw_below_drewN | apply below_drew1 | refine below_set ?_ GE377.out) | exact HB.out)⟩⟩
      ·
       rw [if_neg c8] at H
       have c8b0 : (((rd_T31 l0 x13_1).f1) == a1) = false := beq_eq_false_iff_ne.mpr c8
       have c8b1 : (((rd_T31 l0 x13_1).f1) != a1) = true := bne_iff_ne.mpr c8
       have H' := Aside0.mk H
       clear H
       have p376 : 0 ≤ (x13_1 : Int) := of_decide_eq_true zq2
       have q376 : x13_1 < (l0.length : Int) := of_decide_eq_true zq2
       obtain ⟨ad376, e376, hx376_0, hx376_1, hx376_2, hx376_3, hx376_4, hx376_5⟩ := at_T31 HR0.out x13_1 p376 q376
       cases e376
       replace hx376_0 := (HB.out.cell (World.block_lt_of_cell? w _ hx376_0)).trans hx376_0
       replace hx376_1 := (HB.out.cell (World.block_lt_of_cell? w _ hx376_1)).trans hx376_1
       replace hx376_2 := (HB.out.cell (World.block_lt_of_cell? w _ hx376_2)).trans hx376_2
       replace hx376_3 := (HB.out.cell (World.block_lt_of_cell? w _ hx376_3)).trans hx376_3
       replace hx376_4 := (HB.out.cell (World.block_lt_of_cell? w _ hx376_4)).trans hx376_4
       replace hx376_5 := (HB.out.cell (World.block_lt_of_cell? w _ hx376_5)).trans hx376_5
       replace p376 := eq_true p376
       replace q376 := eq_true q376
       go_wp2_with (first | ((with_reducible refine gate_dst (N := 10) rfl ?_); refine box_event ?hg (N := 10) ?hd (cs := #[.int .i64 0, .int .i64 0, .int .i64 0, .int .i64 0, .int .i64 0, .int .i64 0]) (t := 31) ?hr ?_; (case hd => rfl); (case hg => rfl); (case hr => first | (go_simp; done) | (go_simp; rfl)); intro gb377 hg w18 hbox hb; have n0_ := Aside0.mk (below_step zq0 hb); have n1_ := Aside0.mk (hbox); have n2_ := Aside0.mk ((by rw [hg]; exact (below_size zq0) : w.heap.size ≤ gb377)); have n3_ := Aside0.mk ((by rw [hg]; exact (below_size zq0) : w.heap.size ≤ gb377)); clear HB; have HB := n0_; have BK377 := n1_; have GW377 := n2_; have GE377 := n3_; clear n0_ n1_ n2_ n3_; clear hb hbox hg; have hcz19_0 : w18.cell? ⟨gb377, 0, none⟩ = some (.int .i64 0) := (blk_cell BK377.out 0).trans rfl; have hcz19_1 : w18.cell? ⟨gb377, 1, none⟩ = some (.int .i64 0) := (blk_cell BK377.out 1).trans rfl; have hcz19_2 : w18.cell? ⟨gb377, 2, none⟩ = some (.int .i64 0) := (blk_cell BK377.out 2).trans rfl; have hcz19_3 : w18.cell? ⟨gb377, 3, none⟩ = some (.int .i64 0) := (blk_cell BK377.out 3).trans rfl; have hcz19_4 : w18.cell? ⟨gb377, 4, none⟩ = some (.int .i64 0) := (blk_cell BK377.out 4).trans rfl; have hcz19_5 : w18.cell? ⟨gb377, 5, none⟩ = some (.int .i64 0) := (blk_cell BK377.out 5).trans rfl; have hfz19_0 := blk_frozen BK377.out 0; have hfz19_1 := blk_frozen BK377.out 1; have hfz19_2 := blk_frozen BK377.out 2; have hfz19_3 := blk_frozen BK377.out 3; have hfz19_4 := blk_frozen BK377.out 4; have hfz19_5 := blk_frozen BK377.out 5))
       go_roundg k1
       case measure => have := HK1.out; omega
       case rel => exact ⟨(wrap64 (x13_1 + 1)), (by first | rfl | (simp; done) | (simp [*]; done)), H', ⟨by have := HK1.out; omega⟩, ⟨by repeat (first | (with_reducible first | exact HB.out | apply below_alloc | apply pw_below_drewN | apply below_drew1 | refine below_set ?_ GE377.out) | exact HB.out)⟩⟩
     ·
      rw [if_neg c7] at H
      exact absurd H (by simp)
    ·
     rw [if_neg c6] at H
     exact absurd H (by simp)
   ·
    rw [if_neg c5] at H
    have c5b0 : decide (x13_1 < (l0.length : Int)) = false := decide_eq_false c5
    clear c5
    obtain rfl := Option.some.inj H
    go_wp2
    go_ret
    exact ⟨by first | rfl | (simp [errW_none, errW_some] <;> rfl) | (simp [*, errW_none, errW_some] <;> rfl), by repeat (first | (with_reducible first | exact HB.out | apply below_alloc | apply pw_below_drewN | apply below_drew1) | exact HB.out)⟩
/-- The warning holds at the hour (by the programs' own sum). -/
def atB (x : S31) (h : Int) : Bool := decide (x.f4 ≤ h ∧ h ≤ wrap64 (x.f5 - 1))
def holdsB (t a h : Int) (x : S31) : Bool := decide (x.f1 = t) && (decide (x.f3 = a) && atB x h)
/-- The level of topic t and area a at hour h. -/
def lvl (l : List S31) (t a h : Int) : Int := Gen.run (fun i (_ : Unit) => if holdsB t a h (l.getD i z31) = true then .inl (l.getD i z31).f2 else .inr ()) (fun _ => 0) l.length 0 ()
theorem rdW_ (l : List S31) (i : Nat) : rd_T31 l (i : Int) = l.getD i z31 := rfl
theorem ev_topicLevel (l : List S31) (hl : l.length ≤ 4611686018427387904) (t a h : Int) : Ev (fun k => impl_topicLevel.f k l t a h) (lvl l t a h) := by
 unfold impl_topicLevel.f lvl
 refine Gen.ev_run (fun k (_ : Unit) i => impl_topicLevel.l0 k t a h l (l.length : Int) i) l.length _ (fun _ => 0) (fun _ _ => True) ?_ ?_ ?_ l.length 0 () (by omega) trivial
 ·
  intro i s b hi _ hf
  refine Gen.Ev.eq_now fun k => ?_
  obtain ⟨hh, rfl⟩ := Gen.inl_of hf
  unfold holdsB at hh
  simp only [Bool.and_eq_true, decide_eq_true_eq] at hh
  simp only [impl_topicLevel.l0]
  rw [if_pos (by omega), if_pos (by omega), if_pos (by omega), rdW_, if_pos hh.1, if_pos hh.2.1, within_f]
  simp only [Option.bind_some]
  rw [if_pos (by exact hh.2.2)]
 ·
  intro i s s' r hi _ hf
  refine ⟨trivial, fun he => Ev.congr (fun k => ?_) he⟩
  have hh := (Gen.inr_of hf).1
  simp only [impl_topicLevel.l0]
  rw [if_pos (by omega), if_pos (by omega), if_pos (by omega), rdW_, Gen.wrapS i (by omega)]
  by_cases h1 : (l.getD i z31).f1 = t
  ·
   by_cases h2 : (l.getD i z31).f3 = a
   ·
    rw [if_pos h1, if_pos h2, within_f]
    simp only [Option.bind_some]
    rw [if_neg]
    intro h3
    unfold holdsB at hh
    rw [decide_eq_true h1, decide_eq_true h2] at hh
    rw [show decide ((l.getD i z31).f4 ≤ h ∧ h ≤ wrap64 ((l.getD i z31).f5 - 1)) = atB (l.getD i z31) h from rfl] at h3
    rw [h3] at hh
    cases hh
   ·
    rw [if_pos h1, if_neg h2]
  ·
   rw [if_neg h1]
 ·
  intro s _
  refine Gen.Ev.eq_now fun k => ?_
  simp only [impl_topicLevel.l0]
  rw [if_neg (by omega)]

end Go.Proofs.Ytklepiechbnenaa.Q
namespace Go.Proofs.Ytklepiechbnenaa.Q
open Go.RowKit Go.Proofs.YtklepiechbnenaaW.PrintWords Go.Proofs.YtklepiechbnenaaW.PrintLast Go.Proofs.YtklepiechbnenaaW.PrintMore
attribute [local go_sem] max2_int min2_int max_two min_two max_three min_three max_four min_four   -- for this text's walks alone
set_option linter.unusedVariables false
set_option linter.unusedSimpArgs false

/-! ### impl_TopicLevel: function 13 -/
def impl_TopicLevel.f (k : Nat) (l0 : List (S31)) (a1 : Int) (a2 : Int) (a3 : Int) : Option (Int × Bool) := (impl_IsConsistent.f k l0).bind fun t379 => (if t379 = true then ((impl_isTopicArea.f a1 a2).bind fun t380 => (if t380 = true then ((impl_isStateHour.f a3).bind fun t381 => (if t381 = true then ((impl_topicLevel.f k l0 a1 a2 a3).bind fun t382 => (some (t382, true))) else (some (0, false)))) else (some (0, false)))) else (some (0, false)))
theorem impl_TopicLevel.mono : ∀ a0 a1 a2 a3 k, LeO (impl_TopicLevel.f k a0 a1 a2 a3) (impl_TopicLevel.f (k + 1) a0 a1 a2 a3) := by
 intro a0 a1 a2 a3 k
 unfold impl_TopicLevel.f
 repeat' first
   | (with_reducible exact impl_IsConsistent.mono _ _)
   | (with_reducible exact impl_topicLevel.mono _ _ _ _ _)
   | (with_reducible exact LeO.refl _)
   | (with_reducible exact LeO.none _)
   | (with_reducible refine LeO.ite ?_ ?_)
   | (with_reducible refine LeO.bind ?_ (fun _ => ?_))
   | exact impl_IsConsistent.mono _ _
   | exact impl_topicLevel.mono _ _ _ _ _
   | exact LeO.none _
   | refine LeO.ite ?_ ?_
   | refine LeO.bind ?_ (fun _ => ?_)
set_option maxHeartbeats 8000000 in
set_option maxRecDepth 100000 in
theorem impl_TopicLevel.calls (k : Nat) (A0 : Option Addr) (c0 : Nat) (l0 : List (S31)) (a1 : Int) (a2 : Int) (a3 : Int) (r1 : Int) (r2 : Bool) (w : World) (hr0 : Kd.C k31 w A0 l0.length l0) (hc0 : l0.length ≤ c0) (h : impl_TopicLevel.f k l0 a1 a2 a3 = some (r1, r2)) :
  Calls Try.prog 13 #[.slice A0 l0.length c0, .int .i64 a1, .int .i64 a2, .int .i64 a3] w fun e w' => e = .returned (.tuple #[.int .i64 r1, .bool r2]) ∧ Below w.heap.size w w' := by
 have HR0 := Aside0.mk hr0
 have HC0 := Aside0.mk hc0
 clear hr0 hc0
 have HB := Aside0.mk (Below.refl w.heap.size w)
 have H : ((impl_IsConsistent.f k l0).bind fun t379 => (if t379 = true then ((impl_isTopicArea.f a1 a2).bind fun t380 => (if t380 = true then ((impl_isStateHour.f a3).bind fun t381 => (if t381 = true then ((impl_topicLevel.f k l0 a1 a2 a3).bind fun t382 => (some (t382, true))) else (some (0, false)))) else (some (0, false)))) else (some (0, false)))) = some (r1, r2) := h
 clear h
 replace H := Option.bind_eq_some_iff.mp H
 obtain ⟨t379, A50, H⟩ := H
 replace H : (if t379 = true then ((impl_isTopicArea.f a1 a2).bind fun t380 => (if t380 = true then ((impl_isStateHour.f a3).bind fun t381 => (if t381 = true then ((impl_topicLevel.f k l0 a1 a2 a3).bind fun t382 => (some (t382, true))) else (some (0, false)))) else (some (0, false)))) else (some (0, false))) = some (r1, r2) := H
 have A5 := Aside0.mk A50
 clear A50
 by_cases c6 : t379 = true
 ·
  subst c6
  have H1 : ((impl_isTopicArea.f a1 a2).bind fun t380 => (if t380 = true then ((impl_isStateHour.f a3).bind fun t381 => (if t381 = true then ((impl_topicLevel.f k l0 a1 a2 a3).bind fun t382 => (some (t382, true))) else (some (0, false)))) else (some (0, false)))) = some (r1, r2) := by rw [if_pos rfl] at H; exact H
  clear H
  have H := H1
  clear H1
  replace H := Option.bind_eq_some_iff.mp H
  obtain ⟨t380, A70, H⟩ := H
  replace H : (if t380 = true then ((impl_isStateHour.f a3).bind fun t381 => (if t381 = true then ((impl_topicLevel.f k l0 a1 a2 a3).bind fun t382 => (some (t382, true))) else (some (0, false)))) else (some (0, false))) = some (r1, r2) := H
  have A7 := Aside0.mk A70
  clear A70
  by_cases c8 : t380 = true
  ·
   subst c8
   have H1 : ((impl_isStateHour.f a3).bind fun t381 => (if t381 = true then ((impl_topicLevel.f k l0 a1 a2 a3).bind fun t382 => (some (t382, true))) else (some (0, false)))) = some (r1, r2) := by rw [if_pos rfl] at H; exact H
   clear H
   have H := H1
   clear H1
   replace H := Option.bind_eq_some_iff.mp H
   obtain ⟨t381, A90, H⟩ := H
   replace H : (if t381 = true then ((impl_topicLevel.f k l0 a1 a2 a3).bind fun t382 => (some (t382, true))) else (some (0, false))) = some (r1, r2) := H
   have A9 := Aside0.mk A90
   clear A90
   by_cases c10 : t381 = true
   ·
    subst c10
    have H1 : ((impl_topicLevel.f k l0 a1 a2 a3).bind fun t382 => (some (t382, true))) = some (r1, r2) := by rw [if_pos rfl] at H; exact H
    clear H
    have H := H1
    clear H1
    replace H := Option.bind_eq_some_iff.mp H
    obtain ⟨t382, A110, H⟩ := H
    replace H : (some (t382, true)) = some (r1, r2) := H
    have A11 := Aside0.mk A110
    clear A110
    simp only [Option.some.injEq, Prod.mk.injEq] at H
    obtain ⟨rfl, rfl⟩ := H
    go_enter Try.func13, Try.ntmps13
    go_wp2_with (first | ((with_reducible refine gate_callee (f := 12) rfl ?_); refine goesL_ (some 11) rfl rfl Try.func12 (by kernel_rfl) rfl #[.slice A0 l0.length c0] rfl zq1 ?_; (with_reducible refine (impl_IsConsistent.calls k _ _ l0 true _ ?side1 ?side2 A5.out).mono ?_); (case side1 => repeat (first | exact HR0.out | (with_reducible refine Kd.C_alloc ?_ _) | (with_reducible refine Kd.C_drewN ?_ _) | (with_reducible refine Kd.C_drew ?_))); (case side2 => exact HC0.out); rintro e w12 ⟨rfl, hb⟩; refine ⟨_, rfl, ?_⟩; have n0_ := Aside0.mk (below_step zq0 hb); clear HB; have HB := n0_; clear n0_; (try clear hb); (try clear hb2); (try clear hk); (try clear hi)) | (go_at_call 70; (with_reducible refine (impl_isTopicArea.calls a1 a2 true _ A7.out).mono ?_); rintro e w' ⟨rfl, ⟨nd, rfl⟩⟩) | (go_at_call 71; (with_reducible refine (impl_isStateHour.calls a3 true _ A9.out).mono ?_); rintro e w' ⟨rfl, ⟨nd, rfl⟩⟩) | ((with_reducible refine gate_callee (f := 72) rfl ?_); refine goesL_ (some 28) rfl rfl Try.func72 (by kernel_rfl) rfl #[.slice A0 l0.length c0, .int .i64 a1, .int .i64 a2, .int .i64 a3] rfl zq1 ?_; (with_reducible refine (impl_topicLevel.calls k _ _ l0 a1 a2 a3 t382 _ ?side1 ?side2 A11.out).mono ?_); (case side1 => repeat (first | exact (Kd.C_below HR0.out zq0) | (with_reducible refine Kd.C_alloc ?_ _) | (with_reducible refine Kd.C_drewN ?_ _) | (with_reducible refine Kd.C_drew ?_))); (case side2 => exact HC0.out); rintro e w13 ⟨rfl, hb⟩; refine ⟨_, rfl, ?_⟩; have n0_ := Aside0.mk (below_step zq0 hb); clear HB; have HB := n0_; clear n0_; (try clear hb); (try clear hb2); (try clear hk); (try clear hi)))
    go_ret2
    exact ⟨by first | rfl | (simp [errW_none, errW_some] <;> rfl) | (simp [*, errW_none, errW_some] <;> rfl), by repeat (first | (with_reducible first | exact HB.out | apply below_alloc | apply pw_below_drewN | apply below_drew1) | exact HB.out)⟩
   ·
    replace c10 := Bool.eq_false_iff.mpr c10
    subst c10
    have H1 : (some (0, false)) = some (r1, r2) := by rw [if_neg (show ¬ (false = true) by decide)] at H; exact H
    clear H
    have H := H1
    clear H1
    simp only [Option.some.injEq, Prod.mk.injEq] at H
    obtain ⟨rfl, rfl⟩ := H
    go_enter Try.func13, Try.ntmps13
    go_wp2_with (first | ((with_reducible refine gate_callee (f := 12) rfl ?_); refine goesL_ (some 11) rfl rfl Try.func12 (by kernel_rfl) rfl #[.slice A0 l0.length c0] rfl zq1 ?_; (with_reducible refine (impl_IsConsistent.calls k _ _ l0 true _ ?side1 ?side2 A5.out).mono ?_); (case side1 => repeat (first | exact HR0.out | (with_reducible refine Kd.C_alloc ?_ _) | (with_reducible refine Kd.C_drewN ?_ _) | (with_reducible refine Kd.C_drew ?_))); (case side2 => exact HC0.out); rintro e w14 ⟨rfl, hb⟩; refine ⟨_, rfl, ?_⟩; have n0_ := Aside0.mk (below_step zq0 hb); clear HB; have HB := n0_; clear n0_; (try clear hb); (try clear hb2); (try clear hk); (try clear hi)) | (go_at_call 70; (with_reducible refine (impl_isTopicArea.calls a1 a2 true _ A7.out).mono ?_); rintro e w' ⟨rfl, ⟨nd, rfl⟩⟩) | (go_at_call 71; (with_reducible refine (impl_isStateHour.calls a3 false _ A9.out).mono ?_); rintro e w' ⟨rfl, ⟨nd, rfl⟩⟩))
    go_ret2
    exact ⟨by first | rfl | (simp [errW_none, errW_some] <;> rfl) | (simp [*, errW_none, errW_some] <;> rfl), by repeat (first | (with_reducible first | exact HB.out | apply below_alloc | apply pw_below_drewN | apply below_drew1) | exact HB.out)⟩
  ·
   replace c8 := Bool.eq_false_iff.mpr c8
   subst c8
   have H1 : (some (0, false)) = some (r1, r2) := by rw [if_neg (show ¬ (false = true) by decide)] at H; exact H
   clear H
   have H := H1
   clear H1
   simp only [Option.some.injEq, Prod.mk.injEq] at H
   obtain ⟨rfl, rfl⟩ := H
   go_enter Try.func13, Try.ntmps13
   go_wp2_with (first | ((with_reducible refine gate_callee (f := 12) rfl ?_); refine goesL_ (some 11) rfl rfl Try.func12 (by kernel_rfl) rfl #[.slice A0 l0.length c0] rfl zq1 ?_; (with_reducible refine (impl_IsConsistent.calls k _ _ l0 true _ ?side1 ?side2 A5.out).mono ?_); (case side1 => repeat (first | exact HR0.out | (with_reducible refine Kd.C_alloc ?_ _) | (with_reducible refine Kd.C_drewN ?_ _) | (with_reducible refine Kd.C_drew ?_))); (case side2 => exact HC0.out); rintro e w15 ⟨rfl, hb⟩; refine ⟨_, rfl, ?_⟩; have n0_ := Aside0.mk (below_step zq0 hb); clear HB; have HB := n0_; clear n0_; (try clear hb); (try clear hb2); (try clear hk); (try clear hi)) | (go_at_call 70; (with_reducible refine (impl_isTopicArea.calls a1 a2 false _ A7.out).mono ?_); rintro e w' ⟨rfl, ⟨nd, rfl⟩⟩))
   go_ret2
   exact ⟨by first | rfl | (simp [errW_none, errW_some] <;> rfl) | (simp [*, errW_none, errW_some] <;> rfl), by repeat (first | (with_reducible first | exact HB.out | apply below_alloc | apply pw_below_drewN | apply below_drew1) | exact HB.out)⟩
 ·
  replace c6 := Bool.eq_false_iff.mpr c6
  subst c6
  have H1 : (some (0, false)) = some (r1, r2) := by rw [if_neg (show ¬ (false = true) by decide)] at H; exact H
  clear H
  have H := H1
  clear H1
  simp only [Option.some.injEq, Prod.mk.injEq] at H
  obtain ⟨rfl, rfl⟩ := H
  go_enter Try.func13, Try.ntmps13
  go_wp2_with (first | ((with_reducible refine gate_callee (f := 12) rfl ?_); refine goesL_ (some 11) rfl rfl Try.func12 (by kernel_rfl) rfl #[.slice A0 l0.length c0] rfl zq1 ?_; (with_reducible refine (impl_IsConsistent.calls k _ _ l0 false _ ?side1 ?side2 A5.out).mono ?_); (case side1 => repeat (first | exact HR0.out | (with_reducible refine Kd.C_alloc ?_ _) | (with_reducible refine Kd.C_drewN ?_ _) | (with_reducible refine Kd.C_drew ?_))); (case side2 => exact HC0.out); rintro e w16 ⟨rfl, hb⟩; refine ⟨_, rfl, ?_⟩; have n0_ := Aside0.mk (below_step zq0 hb); clear HB; have HB := n0_; clear n0_; (try clear hb); (try clear hb2); (try clear hk); (try clear hi)))
  go_ret2
  exact ⟨by first | rfl | (simp [errW_none, errW_some] <;> rfl) | (simp [*, errW_none, errW_some] <;> rfl), by repeat (first | (with_reducible first | exact HB.out | apply below_alloc | apply pw_below_drewN | apply below_drew1) | exact HB.out)⟩

end Go.Proofs.Ytklepiechbnenaa.Q
namespace Go.Proofs.Ytklepiechbnenaa.Q
open Go.RowKit Go.Proofs.YtklepiechbnenaaW.PrintWords Go.Proofs.YtklepiechbnenaaW.PrintLast Go.Proofs.YtklepiechbnenaaW.PrintMore
attribute [local go_sem] max2_int min2_int max_two min_two max_three min_three max_four min_four   -- for this text's walks alone
set_option linter.unusedVariables false
set_option linter.unusedSimpArgs false

/-! ### impl_areaLevel: function 73 -/
def impl_areaLevel.l0 : Nat → List (S31) → Int → Int → Int → Int → Option (Int)
 | 0, _, _, _, _, _ => none
 | k + 1, x0, x1, x2, x7, x8 => if x8 ≤ 5 then ((impl_topicLevel.f k x0 x8 x1 x2).bind fun t383 => (impl_areaLevel.l0 k x0 x1 x2 (mx x7 t383) (wrap64 (x8 + 1)))) else (some x7)
def impl_areaLevel.f (k : Nat) (l0 : List (S31)) (a1 : Int) (a2 : Int) : Option (Int) := impl_areaLevel.l0 k l0 a1 a2 0 1
theorem impl_areaLevel.mono_l : ∀ k, (∀ y0 y1 y2 y3 y4, LeO (impl_areaLevel.l0 k y0 y1 y2 y3 y4) (impl_areaLevel.l0 (k + 1) y0 y1 y2 y3 y4))
 | 0 => fun _ _ _ _ _ r h => by simp [impl_areaLevel.l0] at h
 | k + 1 => by
  have ih0 := impl_areaLevel.mono_l k
  ·
   intro y0 y1 y2 y3 y4
   unfold impl_areaLevel.l0
   repeat' first
   | (with_reducible exact ih0 _ _ _ _ _)
   | (with_reducible exact impl_topicLevel.mono _ _ _ _ _)
   | (with_reducible exact LeO.refl _)
   | (with_reducible exact LeO.none _)
   | (with_reducible refine LeO.ite ?_ ?_)
   | (with_reducible refine LeO.bind ?_ (fun _ => ?_))
   | exact ih0 _ _ _ _ _
   | exact impl_topicLevel.mono _ _ _ _ _
   | exact LeO.none _
   | refine LeO.ite ?_ ?_
   | refine LeO.bind ?_ (fun _ => ?_)
theorem impl_areaLevel.mono : ∀ a0 a1 a2 k, LeO (impl_areaLevel.f k a0 a1 a2) (impl_areaLevel.f (k + 1) a0 a1 a2) := by
 intro a0 a1 a2 k
 have ih0 := impl_areaLevel.mono_l k
 unfold impl_areaLevel.f
 repeat' first
   | (with_reducible exact ih0 _ _ _ _ _)
   | (with_reducible exact impl_topicLevel.mono _ _ _ _ _)
   | (with_reducible exact LeO.refl _)
   | (with_reducible exact LeO.none _)
   | (with_reducible refine LeO.ite ?_ ?_)
   | (with_reducible refine LeO.bind ?_ (fun _ => ?_))
   | exact ih0 _ _ _ _ _
   | exact impl_topicLevel.mono _ _ _ _ _
   | exact LeO.none _
   | refine LeO.ite ?_ ?_
   | refine LeO.bind ?_ (fun _ => ?_)
set_option maxHeartbeats 8000000 in
set_option maxRecDepth 100000 in
theorem impl_areaLevel.calls (k : Nat) (A0 : Option Addr) (c0 : Nat) (l0 : List (S31)) (a1 : Int) (a2 : Int) (r : Int) (w : World) (hr0 : Kd.C k31 w A0 l0.length l0) (hc0 : l0.length ≤ c0) (h : impl_areaLevel.f k l0 a1 a2 = some r) :
  Calls Try.prog 73 #[.slice A0 l0.length c0, .int .i64 a1, .int .i64 a2] w fun e w' => e = .returned (.int .i64 r) ∧ Below w.heap.size w w' := by
 have HR0 := Aside0.mk hr0
 have HC0 := Aside0.mk hc0
 clear hr0 hc0
 have HB := Aside0.mk (Below.refl w.heap.size w)
 have H : (impl_areaLevel.l0 k l0 a1 a2 0 1) = some r := h
 clear h
 have H' := Aside0.mk H
 clear H
 go_enter Try.func73, Try.ntmps73
 go_wp2
 go_loopg [7, 8] k (fun kq v7 v8 w' => ∃ (x7_1 : Int) (x8_1 : Int), v7 = .int .i64 x7_1 ∧ v8 = .int .i64 x8_1 ∧ Aside0 (impl_areaLevel.l0 kq l0 a1 a2 x7_1 x8_1 = some r) ∧ Aside0 (kq ≤ k) ∧ Aside0 (Below w.heap.size w w'))
 case atStart => exact ⟨(0), (1), (by first | rfl | (simp; done) | (simp [*]; done)), (by first | rfl | (simp; done) | (simp [*]; done)), H', ⟨Nat.le_refl _⟩, ⟨by repeat (first | (with_reducible first | exact HB.out | apply below_alloc | apply pw_below_drewN | apply below_drew1) | exact HB.out)⟩⟩
 case round =>
  clear H'
  try clear p2
  obtain ⟨x7_1, x8_1, rfl, rfl, HA, HK1, HB⟩ := hrel
  cases gk with
  | zero => exact absurd HA.out (by simp [impl_areaLevel.l0])
  | succ k1 =>
   have H := HA.out
   clear HA
   simp only [impl_areaLevel.l0] at H
   by_cases c4 : x8_1 ≤ 5
   ·
    rw [if_pos c4] at H
    have c4b0 : decide (x8_1 ≤ 5) = true := decide_eq_true c4
    clear c4
    replace H := Option.bind_eq_some_iff.mp H
    obtain ⟨t383, A50, H⟩ := H
    replace H : (impl_areaLevel.l0 k1 l0 a1 a2 (mx x7_1 t383) (wrap64 (x8_1 + 1))) = some r := H
    have A5 := Aside0.mk A50
    clear A50
    obtain ⟨ji6, hji6⟩ : ∃ j_ : Int, (mx x7_1 t383) = j_ := ⟨_, rfl⟩
    replace H : (impl_areaLevel.l0 k1 l0 a1 a2 ji6 (wrap64 (x8_1 + 1))) = some r := by first | (rw [hji6] at H; exact H) | (simp only [hji6] at H ⊢; exact H)
    (try rw [hji6] at A5)
    have hji6_ : (if x7_1 < t383 then t383 else x7_1) = ji6 := hji6
    have H' := Aside0.mk H
    clear H
    go_wp2_with (first | ((with_reducible refine gate_callee (f := 72) rfl ?_); refine goesL_ (some 18) rfl rfl Try.func72 (by kernel_rfl) rfl #[.slice A0 l0.length c0, .int .i64 x8_1, .int .i64 a1, .int .i64 a2] rfl zq1 ?_; (with_reducible refine (impl_topicLevel.calls k1 _ _ l0 x8_1 a1 a2 t383 _ ?side1 ?side2 A5.out).mono ?_); (case side1 => repeat (first | exact (Kd.C_below HR0.out HB.out) | (with_reducible refine Kd.C_alloc ?_ _) | (with_reducible refine Kd.C_drewN ?_ _) | (with_reducible refine Kd.C_drew ?_))); (case side2 => exact HC0.out); rintro e w7 ⟨rfl, hb⟩; refine ⟨_, rfl, ?_⟩; have n0_ := Aside0.mk (below_step zq0 hb); clear HB; have HB := n0_; clear n0_; (try clear hb); (try clear hb2); (try clear hk); (try clear hi)))
    go_roundg k1
    case measure => have := HK1.out; omega
    case rel => exact ⟨(ji6), (wrap64 (x8_1 + 1)), (by first | rfl | (simp; done) | (simp only [← hji6] <;> (first | rfl | simp)) | (simp [*]; done)), (by first | rfl | (simp; done) | (simp [*]; done)), H', ⟨by have := HK1.out; omega⟩, ⟨by repeat (first | (with_reducible first | exact HB.out | apply below_alloc | apply pw_below_drewN | apply below_drew1) | exact HB.out)⟩⟩
   ·
    rw [if_neg c4] at H
    have c4b0 : decide (x8_1 ≤ 5) = false := decide_eq_false c4
    clear c4
    obtain rfl := Option.some.inj H
    go_wp2
    go_ret
    exact ⟨by first | rfl | (simp [errW_none, errW_some] <;> rfl) | (simp [*, errW_none, errW_some] <;> rfl), by repeat (first | (with_reducible first | exact HB.out | apply below_alloc | apply pw_below_drewN | apply below_drew1) | exact HB.out)⟩
/-- The level of area a at hour h. -/
def great (l : List S31) (a h : Int) : Int := Gen.run (fun i (s : Int) => .inr (mx s (lvl l (i : Int) a h))) (fun s => s) 5 1 0
theorem ev_areaLevel (l : List S31) (hl : l.length ≤ 4611686018427387904) (a h : Int) : Ev (fun k => impl_areaLevel.f k l a h) (great l a h) := by
 unfold impl_areaLevel.f great
 refine Gen.ev_run (fun k (s : Int) i => impl_areaLevel.l0 k l a h s i) 6 _ (fun s => s) (fun _ _ => True) ?_ ?_ ?_ 5 1 0 (by omega) trivial
 ·
  intro i s b hi _ hf; cases hf
 ·
  intro i s s' r hi _ hf
  cases hf
  refine ⟨trivial, fun he => ?_⟩
  simp only [impl_areaLevel.l0]
  refine Ev.congr (fun k => if_pos (by omega)) ?_
  refine Ev.bind (f := fun k t => _) (ev_topicLevel l hl _ _ _) ?_
  rw [Gen.wrapS i (by omega)]
  exact he
 ·
  intro s _
  refine Gen.Ev.eq_now fun k => ?_
  simp only [impl_areaLevel.l0]
  rw [if_neg (by omega)]

end Go.Proofs.Ytklepiechbnenaa.Q
namespace Go.Proofs.Ytklepiechbnenaa.Q
open Go.RowKit Go.Proofs.YtklepiechbnenaaW.PrintWords Go.Proofs.YtklepiechbnenaaW.PrintLast Go.Proofs.YtklepiechbnenaaW.PrintMore
attribute [local go_sem] max2_int min2_int max_two min_two max_three min_three max_four min_four   -- for this text's walks alone
set_option linter.unusedVariables false
set_option linter.unusedSimpArgs false

/-! ### impl_WarningHours: function 14 -/
mutual
def impl_WarningHours.j0 : Nat → List (S31) → Int → Bool → Option (Int × Bool)
 | 0, _, _, _ => none
 | k + 1, x0, x1, x15 => if x15 = true then (some (0, false)) else (impl_WarningHours.l0 k x0 x1 0 0)
def impl_WarningHours.l0 : Nat → List (S31) → Int → Int → Int → Option (Int × Bool)
 | 0, _, _, _, _ => none
 | k + 1, x0, x1, x6, x16 => if x16 < 240 then ((impl_areaLevel.f k x0 x1 x16).bind fun t386 => (if t386 > 0 then (impl_WarningHours.l0 k x0 x1 (wrap64 (x6 + 1)) (wrap64 (x16 + 1))) else (impl_WarningHours.l0 k x0 x1 x6 (wrap64 (x16 + 1))))) else (some (x6, true))
end
def impl_WarningHours.f (k : Nat) (l0 : List (S31)) (a1 : Int) : Option (Int × Bool) := (impl_IsConsistent.f k l0).bind fun t384 => (if t384 = true then ((impl_within.f a1 1 9).bind fun t385 => (impl_WarningHours.j0 k l0 a1 (!t385))) else (impl_WarningHours.j0 k l0 a1 true))
theorem impl_WarningHours.mono_l : ∀ k, (∀ y0 y1 y2, LeO (impl_WarningHours.j0 k y0 y1 y2) (impl_WarningHours.j0 (k + 1) y0 y1 y2)) ∧ (∀ y0 y1 y2 y3, LeO (impl_WarningHours.l0 k y0 y1 y2 y3) (impl_WarningHours.l0 (k + 1) y0 y1 y2 y3))
 | 0 => ⟨fun _ _ _ r h => by simp [impl_WarningHours.j0] at h, fun _ _ _ _ r h => by simp [impl_WarningHours.l0] at h⟩
 | k + 1 => by
  obtain ⟨ih0, ih1⟩ := impl_WarningHours.mono_l k
  refine ⟨?_, ?_⟩
  ·
   intro y0 y1 y2
   unfold impl_WarningHours.j0
   repeat' first
   | (with_reducible exact ih0 _ _ _)
   | (with_reducible exact ih1 _ _ _ _)
   | (with_reducible exact impl_IsConsistent.mono _ _)
   | (with_reducible exact impl_areaLevel.mono _ _ _ _)
   | (with_reducible exact LeO.refl _)
   | (with_reducible exact LeO.none _)
   | (with_reducible refine LeO.ite ?_ ?_)
   | (with_reducible refine LeO.bind ?_ (fun _ => ?_))
   | exact ih0 _ _ _
   | exact ih1 _ _ _ _
   | exact impl_IsConsistent.mono _ _
   | exact impl_areaLevel.mono _ _ _ _
   | exact LeO.none _
   | refine LeO.ite ?_ ?_
   | refine LeO.bind ?_ (fun _ => ?_)
  ·
   intro y0 y1 y2 y3
   unfold impl_WarningHours.l0
   repeat' first
   | (with_reducible exact ih0 _ _ _)
   | (with_reducible exact ih1 _ _ _ _)
   | (with_reducible exact impl_IsConsistent.mono _ _)
   | (with_reducible exact impl_areaLevel.mono _ _ _ _)
   | (with_reducible exact LeO.refl _)
   | (with_reducible exact LeO.none _)
   | (with_reducible refine LeO.ite ?_ ?_)
   | (with_reducible refine LeO.bind ?_ (fun _ => ?_))
   | exact ih0 _ _ _
   | exact ih1 _ _ _ _
   | exact impl_IsConsistent.mono _ _
   | exact impl_areaLevel.mono _ _ _ _
   | exact LeO.none _
   | refine LeO.ite ?_ ?_
   | refine LeO.bind ?_ (fun _ => ?_)
theorem impl_WarningHours.mono : ∀ a0 a1 k, LeO (impl_WarningHours.f k a0 a1) (impl_WarningHours.f (k + 1) a0 a1) := by
 intro a0 a1 k
 obtain ⟨ih0, ih1⟩ := impl_WarningHours.mono_l k
 unfold impl_WarningHours.f
 repeat' first
   | (with_reducible exact ih0 _ _ _)
   | (with_reducible exact ih1 _ _ _ _)
   | (with_reducible exact impl_IsConsistent.mono _ _)
   | (with_reducible exact impl_areaLevel.mono _ _ _ _)
   | (with_reducible exact LeO.refl _)
   | (with_reducible exact LeO.none _)
   | (with_reducible refine LeO.ite ?_ ?_)
   | (with_reducible refine LeO.bind ?_ (fun _ => ?_))
   | exact ih0 _ _ _
   | exact ih1 _ _ _ _
   | exact impl_IsConsistent.mono _ _
   | exact impl_areaLevel.mono _ _ _ _
   | exact LeO.none _
   | refine LeO.ite ?_ ?_
   | refine LeO.bind ?_ (fun _ => ?_)
set_option maxHeartbeats 8000000 in
set_option maxRecDepth 100000 in
theorem impl_WarningHours.calls (k : Nat) (A0 : Option Addr) (c0 : Nat) (l0 : List (S31)) (a1 : Int) (r1 : Int) (r2 : Bool) (w : World) (hr0 : Kd.C k31 w A0 l0.length l0) (hc0 : l0.length ≤ c0) (h : impl_WarningHours.f k l0 a1 = some (r1, r2)) :
  Calls Try.prog 14 #[.slice A0 l0.length c0, .int .i64 a1] w fun e w' => e = .returned (.tuple #[.int .i64 r1, .bool r2]) ∧ Below w.heap.size w w' := by
 have HR0 := Aside0.mk hr0
 have HC0 := Aside0.mk hc0
 clear hr0 hc0
 have HB := Aside0.mk (Below.refl w.heap.size w)
 have H : ((impl_IsConsistent.f k l0).bind fun t384 => (if t384 = true then ((impl_within.f a1 1 9).bind fun t385 => (impl_WarningHours.j0 k l0 a1 (!t385))) else (impl_WarningHours.j0 k l0 a1 true))) = some (r1, r2) := h
 clear h
 have HC3 := Aside0.mk H
 clear H
 go_enter Try.func14, Try.ntmps14
 go_upto_region 1 with (fail)
 go_cut [15] (fun v15 wc => ∃ (kq : Nat) (x15_2 : Bool), v15 = .bool x15_2 ∧ Aside0 (impl_WarningHours.j0 kq l0 a1 x15_2 = some (r1, r2)) ∧ Aside0 (kq ≤ k) ∧ Aside0 (Below w.heap.size w wc))
 case first =>
  have H := HC3.out
  clear HC3
  replace H := Option.bind_eq_some_iff.mp H
  obtain ⟨t384, A40, H⟩ := H
  replace H : (if t384 = true then ((impl_within.f a1 1 9).bind fun t385 => (impl_WarningHours.j0 k l0 a1 (!t385))) else (impl_WarningHours.j0 k l0 a1 true)) = some (r1, r2) := H
  have A4 := Aside0.mk A40
  clear A40
  by_cases c5 : t384 = true
  ·
   subst c5
   have H1 : ((impl_within.f a1 1 9).bind fun t385 => (impl_WarningHours.j0 k l0 a1 (!t385))) = some (r1, r2) := by rw [if_pos rfl] at H; exact H
   clear H
   have H := H1
   clear H1
   replace H := Option.bind_eq_some_iff.mp H
   obtain ⟨t385, A60, H⟩ := H
   replace H : (impl_WarningHours.j0 k l0 a1 (!t385)) = some (r1, r2) := H
   have A6 := Aside0.mk A60
   clear A60
   have H' := Aside0.mk H
   clear H
   go_wp2_with (first | ((with_reducible refine gate_callee (f := 12) rfl ?_); refine goesL_ (some 9) rfl rfl Try.func12 (by kernel_rfl) rfl #[.slice A0 l0.length c0] rfl zq1 ?_; (with_reducible refine (impl_IsConsistent.calls k _ _ l0 true _ ?side1 ?side2 A4.out).mono ?_); (case side1 => repeat (first | exact (Kd.C_below HR0.out HB.out) | (with_reducible refine Kd.C_alloc ?_ _) | (with_reducible refine Kd.C_drewN ?_ _) | (with_reducible refine Kd.C_drew ?_))); (case side2 => exact HC0.out); rintro e w7 ⟨rfl, hb⟩; refine ⟨_, rfl, ?_⟩; have n0_ := Aside0.mk (below_step zq0 hb); clear HB; have HB := n0_; clear n0_; (try clear hb); (try clear hb2); (try clear hk); (try clear hi)) | (go_at_call 60; (with_reducible refine (impl_within.calls a1 1 9 t385 _ A6.out).mono ?_); rintro e w' ⟨rfl, ⟨nd, rfl⟩⟩))
   go_meet
   case rel => exact ⟨_, (!t385), (by first | rfl | (simp; done) | (simp [*]; done)), H', ⟨by first | omega | exact Nat.le_refl _⟩, ⟨by repeat (first | (with_reducible first | exact HB.out | apply below_alloc | apply pw_below_drewN | apply below_drew1) | exact HB.out)⟩⟩
  ·
   replace c5 := Bool.eq_false_iff.mpr c5
   subst c5
   have H1 : (impl_WarningHours.j0 k l0 a1 true) = some (r1, r2) := by rw [if_neg (show ¬ (false = true) by decide)] at H; exact H
   clear H
   have H := H1
   clear H1
   have H' := Aside0.mk H
   clear H
   go_wp2_with (first | ((with_reducible refine gate_callee (f := 12) rfl ?_); refine goesL_ (some 9) rfl rfl Try.func12 (by kernel_rfl) rfl #[.slice A0 l0.length c0] rfl zq1 ?_; (with_reducible refine (impl_IsConsistent.calls k _ _ l0 false _ ?side1 ?side2 A4.out).mono ?_); (case side1 => repeat (first | exact (Kd.C_below HR0.out HB.out) | (with_reducible refine Kd.C_alloc ?_ _) | (with_reducible refine Kd.C_drewN ?_ _) | (with_reducible refine Kd.C_drew ?_))); (case side2 => exact HC0.out); rintro e w8 ⟨rfl, hb⟩; refine ⟨_, rfl, ?_⟩; have n0_ := Aside0.mk (below_step zq0 hb); clear HB; have HB := n0_; clear n0_; (try clear hb); (try clear hb2); (try clear hk); (try clear hi)))
   go_meet
   case rel => exact ⟨_, (true), (by first | rfl | (simp; done) | (simp [*]; done)), H', ⟨by first | omega | exact Nat.le_refl _⟩, ⟨by repeat (first | (with_reducible first | exact HB.out | apply below_alloc | apply pw_below_drewN | apply below_drew1) | exact HB.out)⟩⟩
 case rest =>
  clear HC3
  try clear c1
  try clear p2
  try clear c5
  obtain ⟨kq, x15_2, rfl, HA, HJ2, HB⟩ := hcut
  cases kq with
  | zero => exact absurd HA.out (by simp [impl_WarningHours.j0])
  | succ kj2 =>
   have H := HA.out
   clear HA
   simp only [impl_WarningHours.j0] at H
   by_cases c9 : x15_2 = true
   ·
    subst c9
    have H1 : (some (0, false)) = some (r1, r2) := by rw [if_pos rfl] at H; exact H
    clear H
    have H := H1
    clear H1
    simp only [Option.some.injEq, Prod.mk.injEq] at H
    obtain ⟨rfl, rfl⟩ := H
    go_wp2
    go_ret2
    exact ⟨by first | rfl | (simp [errW_none, errW_some] <;> rfl) | (simp [*, errW_none, errW_some] <;> rfl), by repeat (first | (with_reducible first | exact HB.out | apply below_alloc | apply pw_below_drewN | apply below_drew1) | exact HB.out)⟩
   ·
    replace c9 := Bool.eq_false_iff.mpr c9
    subst c9
    have H1 : (impl_WarningHours.l0 kj2 l0 a1 0 0) = some (r1, r2) := by rw [if_neg (show ¬ (false = true) by decide)] at H; exact H
    clear H
    have H := H1
    clear H1
    have H' := Aside0.mk H
    clear H
    go_wp2
    go_loopg [6, 16] kj2 (fun kq v6 v16 w' => ∃ (x6_2 : Int) (x16_2 : Int), v6 = .int .i64 x6_2 ∧ v16 = .int .i64 x16_2 ∧ Aside0 (impl_WarningHours.l0 kq l0 a1 x6_2 x16_2 = some (r1, r2)) ∧ Aside0 (kq ≤ kj2) ∧ Aside0 (Below w.heap.size w w'))
    case atStart => exact ⟨(0), (0), (by first | rfl | (simp; done) | (simp [*]; done)), (by first | rfl | (simp; done) | (simp [*]; done)), H', ⟨Nat.le_refl _⟩, ⟨by repeat (first | (with_reducible first | exact HB.out | apply below_alloc | apply pw_below_drewN | apply below_drew1) | exact HB.out)⟩⟩
    case round =>
     clear H'
     try clear c1
     try clear p2
     try clear c5
     try clear c9
     try clear p2
     obtain ⟨x6_2, x16_2, rfl, rfl, HA, HK2, HB⟩ := hrel
     cases gk with
     | zero => exact absurd HA.out (by simp [impl_WarningHours.l0])
     | succ k2 =>
      have H := HA.out
      clear HA
      simp only [impl_WarningHours.l0] at H
      by_cases c10 : x16_2 < 240
      ·
       rw [if_pos c10] at H
       have c10b0 : decide (x16_2 < 240) = true := decide_eq_true c10
       clear c10
       replace H := Option.bind_eq_some_iff.mp H
       obtain ⟨t386, A110, H⟩ := H
       replace H : (if t386 > 0 then (impl_WarningHours.l0 k2 l0 a1 (wrap64 (x6_2 + 1)) (wrap64 (x16_2 + 1))) else (impl_WarningHours.l0 k2 l0 a1 x6_2 (wrap64 (x16_2 + 1)))) = some (r1, r2) := H
       have A11 := Aside0.mk A110
       clear A110
       by_cases c12 : t386 > 0
       ·
        rw [if_pos c12] at H
        have c12b0 : decide (0 < t386) = true := decide_eq_true c12
        clear c12
        have H' := Aside0.mk H
        clear H
        go_wp2_with (first | ((with_reducible refine gate_callee (f := 73) rfl ?_); refine goesL_ (some 22) rfl rfl Try.func73 (by kernel_rfl) rfl #[.slice A0 l0.length c0, .int .i64 a1, .int .i64 x16_2] rfl zq1 ?_; (with_reducible refine (impl_areaLevel.calls k2 _ _ l0 a1 x16_2 t386 _ ?side1 ?side2 A11.out).mono ?_); (case side1 => repeat (first | exact (Kd.C_below HR0.out HB.out) | (with_reducible refine Kd.C_alloc ?_ _) | (with_reducible refine Kd.C_drewN ?_ _) | (with_reducible refine Kd.C_drew ?_))); (case side2 => exact HC0.out); rintro e w13 ⟨rfl, hb⟩; refine ⟨_, rfl, ?_⟩; have n0_ := Aside0.mk (below_step zq0 hb); clear HB; have HB := n0_; clear n0_; (try clear hb); (try clear hb2); (try clear hk); (try clear hi)))
        go_roundg k2
        case measure => have := HJ2.out; have := HK2.out; omega
        case rel => exact ⟨(wrap64 (x6_2 + 1)), (wrap64 (x16_2 + 1)), (by first | rfl | (simp; done) | (simp [*]; done)), (by first | rfl | (simp; done) | (simp [*]; done)), H', ⟨by have := HJ2.out; have := HK2.out; omega⟩, ⟨by repeat (first | (with_reducible first | exact HB.out | apply below_alloc | apply pw_below_drewN | apply below_drew1) | exact HB.out)⟩⟩
       ·
        rw [if_neg c12] at H
        have c12b0 : decide (0 < t386) = false := decide_eq_false c12
        clear c12
        have H' := Aside0.mk H
        clear H
        go_wp2_with (first | ((with_reducible refine gate_callee (f := 73) rfl ?_); refine goesL_ (some 22) rfl rfl Try.func73 (by kernel_rfl) rfl #[.slice A0 l0.length c0, .int .i64 a1, .int .i64 x16_2] rfl zq1 ?_; (with_reducible refine (impl_areaLevel.calls k2 _ _ l0 a1 x16_2 t386 _ ?side1 ?side2 A11.out).mono ?_); (case side1 => repeat (first | exact (Kd.C_below HR0.out HB.out) | (with_reducible refine Kd.C_alloc ?_ _) | (with_reducible refine Kd.C_drewN ?_ _) | (with_reducible refine Kd.C_drew ?_))); (case side2 => exact HC0.out); rintro e w14 ⟨rfl, hb⟩; refine ⟨_, rfl, ?_⟩; have n0_ := Aside0.mk (below_step zq0 hb); clear HB; have HB := n0_; clear n0_; (try clear hb); (try clear hb2); (try clear hk); (try clear hi)))
        go_roundg k2
        case measure => have := HJ2.out; have := HK2.out; omega
        case rel => exact ⟨(x6_2), (wrap64 (x16_2 + 1)), (by first | rfl | (simp; done) | (simp [*]; done)), (by first | rfl | (simp; done) | (simp [*]; done)), H', ⟨by have := HJ2.out; have := HK2.out; omega⟩, ⟨by repeat (first | (with_reducible first | exact HB.out | apply below_alloc | apply pw_below_drewN | apply below_drew1) | exact HB.out)⟩⟩
      ·
       rw [if_neg c10] at H
       have c10b0 : decide (x16_2 < 240) = false := decide_eq_false c10
       clear c10
       simp only [Option.some.injEq, Prod.mk.injEq] at H
       obtain ⟨rfl, rfl⟩ := H
       go_wp2
       go_ret2
       exact ⟨by first | rfl | (simp [errW_none, errW_some] <;> rfl) | (simp [*, errW_none, errW_some] <;> rfl), by repeat (first | (with_reducible first | exact HB.out | apply below_alloc | apply pw_below_drewN | apply below_drew1) | exact HB.out)⟩

end Go.Proofs.Ytklepiechbnenaa.Q
namespace Go.Proofs.Ytklepiechbnenaa.Q
open Go.RowKit Go.Proofs.YtklepiechbnenaaW.PrintWords Go.Proofs.YtklepiechbnenaaW.PrintLast Go.Proofs.YtklepiechbnenaaW.PrintMore
attribute [local go_sem] max2_int min2_int max_two min_two max_three min_three max_four min_four   -- for this text's walks alone
set_option linter.unusedVariables false
set_option linter.unusedSimpArgs false

/-! ### spec_DrawCancelWarning: function 15 -/
def spec_DrawCancelWarning.f (k : Nat) (l0 : List Int) : Option ((List (S31)) × Int × Int) := (spec_DrawChangeLevel.f k l0).bind fun bt387 => (some (bt387.1, bt387.2.1, bt387.2.2.2))
theorem spec_DrawCancelWarning.mono : ∀ a0 k, LeO (spec_DrawCancelWarning.f k a0) (spec_DrawCancelWarning.f (k + 1) a0) := by
 intro a0 k
 unfold spec_DrawCancelWarning.f
 repeat' first
   | (with_reducible exact spec_DrawChangeLevel.mono _ _)
   | (with_reducible exact LeO.refl _)
   | (with_reducible exact LeO.none _)
   | (with_reducible refine LeO.ite ?_ ?_)
   | (with_reducible refine LeO.bind ?_ (fun _ => ?_))
   | exact spec_DrawChangeLevel.mono _ _
   | exact LeO.none _
   | refine LeO.ite ?_ ?_
   | refine LeO.bind ?_ (fun _ => ?_)
set_option maxHeartbeats 8000000 in
set_option maxRecDepth 100000 in
theorem spec_DrawCancelWarning.calls (k : Nat) (A0 : Option Addr) (c0 : Nat) (l0 : List Int) (r1 : List (S31)) (r2 : Int) (r3 : Int) (w : World) (hr0 : Kd.C (Kd.int .u8) w A0 l0.length l0) (hc0 : l0.length ≤ c0) (h : spec_DrawCancelWarning.f k l0 = some (r1, r2, r3)) :
  Calls Try.prog 15 #[.slice A0 l0.length c0] w fun e w' => ∃ v0_ : Value, e = .returned (.tuple #[v0_, .int .i64 r2, .int .i64 r3]) ∧ Kd.R k31 31 w' w.heap.size (fun _ => True) v0_ r1 ∧ Below w.heap.size w w' := by
 have HR0 := Aside0.mk hr0
 have HC0 := Aside0.mk hc0
 clear hr0 hc0
 have HB := Aside0.mk (Below.refl w.heap.size w)
 have H : ((spec_DrawChangeLevel.f k l0).bind fun bt387 => (some (bt387.1, bt387.2.1, bt387.2.2.2))) = some (r1, r2, r3) := h
 clear h
 replace H := Option.bind_eq_some_iff.mp H
 obtain ⟨⟨t387, t388, t389, t390⟩, A20, H⟩ := H
 replace H : (some (t387, t388, t390)) = some (r1, r2, r3) := H
 have A2 := Aside0.mk A20
 clear A20
 simp only [Option.some.injEq, Prod.mk.injEq] at H
 obtain ⟨rfl, rfl, rfl⟩ := H
 go_enter Try.func15, Try.ntmps15
 go_wp2_with (first | ((with_reducible refine gate_callee (f := 8) rfl ?_); refine goesL_ (some 11) rfl rfl Try.func8 (by kernel_rfl) rfl #[.slice A0 l0.length c0] rfl zq1 ?_; (with_reducible refine (spec_DrawChangeLevel.calls k _ _ l0 t387 t388 t389 t390 _ ?side1 ?side2 A2.out).mono ?_); (case side1 => repeat (first | exact HR0.out | (with_reducible refine Kd.C_alloc ?_ _) | (with_reducible refine Kd.C_drewN ?_ _) | (with_reducible refine Kd.C_drew ?_))); (case side2 => exact HC0.out); rintro e w3 ⟨v391, rfl, ho0, hb⟩; refine ⟨_, rfl, ?_⟩; have n0_ := Aside0.mk (Kd.R_lower ho0 (below_size zq0)); have n1_ := Aside0.mk (below_step zq0 hb); clear HB; have HO392 := n0_; have HB := n1_; clear n0_ n1_; (try clear hb); (try clear hb2); (try clear hk); (try clear hi); (try clear ho0)))
 go_ret3
 exact ⟨_, by first | rfl | (simp [errW_none, errW_some] <;> rfl) | (simp [*, errW_none, errW_some] <;> rfl), by (with_reducible repeat (first | apply Kd.R_alloc | apply Kd.R_drewN | apply Kd.R_drew)); exact HO392.out, by repeat (first | (with_reducible first | exact HB.out | apply below_alloc | apply pw_below_drewN | apply below_drew1) | exact HB.out)⟩

end Go.Proofs.Ytklepiechbnenaa.Q
namespace Go.Proofs.Ytklepiechbnenaa.Q
open Go.RowKit Go.Proofs.YtklepiechbnenaaW.PrintWords Go.Proofs.YtklepiechbnenaaW.PrintLast Go.Proofs.YtklepiechbnenaaW.PrintMore
attribute [local go_sem] max2_int min2_int max_two min_two max_three min_three max_four min_four   -- for this text's walks alone
set_option linter.unusedVariables false
set_option linter.unusedSimpArgs false

/-! ### impl_Warning_74: function 74 -/
/-- slices.Delete at warnings, of one element. -/
def impl_Warning_74.f (l0 : List S31) (a1 a2 : Int) : Option (List S31) := if 0 ≤ a1 ∧ a2 = a1 + 1 ∧ a1 < (l0.length : Int) then some (l0.eraseIdx a1.toNat) else none
theorem impl_Warning_74.cells (w : World) (g : Nat) (cur : Array Value) (T : TypeId) (o : Nat) (vs : List Value) (h : w.heap[g]? = some (.cells cur T (0, 0))) (hv : o + vs.length ≤ cur.size) :
  ∃ cur', (w.setCells g o vs).heap[g]? = some (.cells cur' T (0, 0)) ∧ cur'.size = cur.size ∧ cur'.toList = cur.toList.take o ++ vs ++ cur.toList.drop (o + vs.length) := by
 induction vs generalizing w cur o with
 | nil => exact ⟨cur, h, rfl, by simp⟩
 | cons v vs ih =>
  have h1 := blk_set h o v
  obtain ⟨c2, e1, e2, e3⟩ := ih (w.setCell ⟨g, o, none⟩ v) (cur.setIfInBounds o v) (o + 1) h1 (by rw [Array.size_setIfInBounds]; simp only [List.length_cons] at hv; omega)
  refine ⟨c2, e1, by rw [e2, Array.size_setIfInBounds], ?_⟩
  rw [e3]
  simp only [List.length_cons] at hv ⊢
  have ho : o < cur.toList.length := by rw [Array.length_toList]; omega
  have ho2 : o < (cur.toList.set o v).length := by rw [List.length_set]; exact ho
  rw [Array.toList_setIfInBounds, List.take_succ_eq_append_getElem ho2, List.take_set_of_le (Nat.le_refl _), List.getElem_set_self, List.drop_set_of_lt (by omega), show o + 1 + vs.length = o + (vs.length + 1) by omega]
  simp
theorem sc_below {B g : Nat} {a : World} (hg : B ≤ g) : ∀ (vs : List Value) (o : Nat) (w : World), Below B a w → Below B a (w.setCells g o vs)
 | [], _, _, h => h
 | v :: r, o, w, h => sc_below hg r (o + 1) _ (h.setCell (p := ⟨g, o, none⟩) hg v)
theorem sc_other {k g : Nat} (hk : k ≠ g) : ∀ (vs : List Value) (o : Nat) (w : World), (w.setCells g o vs).heap[k]? = w.heap[k]?
 | [], _, _ => rfl
 | v :: r, o, w => (sc_other hk r (o + 1) _).trans (Below.heap_setCell w ⟨g, o, none⟩ v k hk)
theorem sc_size {g : Nat} : ∀ (vs : List Value) (o : Nat) (w : World), (w.setCells g o vs).heap.size = w.heap.size
 | [], _, _ => rfl
 | v :: r, o, w => (sc_size r (o + 1) _).trans (by simp [World.setCell])
theorem run_clear_one (W : World) (b o c : Nat) (ty : TypeId) (hc : ∀ j, j < 6 → (W.cell? ⟨b, o + j, none⟩).isSome = true) (hf : ∀ j, j < 6 → W.frozen? ⟨b, o + j, none⟩ = false) :
  (Builtin.clear_ #[24] ty #[.slice (some ⟨b, o, none⟩) 1 c]).run Try.prog W = .ok (.tuple #[]) (W.setCells b o (List.replicate 6 (.int .i64 0))) := by
 have hst := run_storeCells_cells (P := Try.prog) b o (List.replicate 6 (.int .i64 0)) 0 W (by intro j hj; exact hc j (by simpa using hj)) (by intro j hj; exact hf j (by simpa using hj)) (by intro v hv'; rw [List.eq_of_mem_replicate hv']; rfl)
 simp only [Nat.add_zero] at hst
 have hzc : (Builtin.zeroCells (Value.agg #[.int .i64 0, .int .i64 0, .int .i64 0, .int .i64 0, .int .i64 0, .int .i64 0]).cells 1).toList = List.replicate 6 (.int .i64 0) := by
  simp only [Value.cells, Builtin.zeroCells, Array.toList_map, Array.toList_range]
  rfl
 generalize (List.replicate 6 (Value.int .i64 0)) = Z at hst hzc ⊢
 simp [Builtin.clear_, run_underlying Try.underlying24, Try.zeroValue31, hzc, hst]
theorem reps_erase {α : Type} {R : α → List Value → Prop} {ps : List α} {cs : List Value} (h : Reps R 6 ps cs) (i : Nat) (hi : i < ps.length) : Reps R 6 (ps.eraseIdx i) (cs.take (i * 6) ++ cs.drop ((i + 1) * 6)) := by
 have hl := h.1
 have hln : (ps.eraseIdx i).length = ps.length - 1 := by rw [List.length_eraseIdx, if_pos hi]
 refine ⟨by rw [hln, List.length_append, List.length_take, List.length_drop, hl]; omega, fun j p hj => ?_⟩
 rw [List.getElem?_eraseIdx] at hj
 by_cases hji : j < i
 ·
  rw [if_pos hji] at hj
  have e : ((cs.take (i * 6) ++ cs.drop ((i + 1) * 6)).drop (j * 6)).take 6 = (cs.drop (j * 6)).take 6 := by
   refine List.ext_getElem? fun t => ?_
   rw [List.getElem?_take, List.getElem?_take]
   by_cases ht : t < 6
   ·
    rw [if_pos ht, if_pos ht, List.getElem?_drop, List.getElem?_drop, List.getElem?_append_left (by rw [List.length_take]; omega), List.getElem?_take_of_lt (by omega)]
   ·
    rw [if_neg ht, if_neg ht]
  rw [e]
  exact h.2 j p hj
 ·
  rw [if_neg hji] at hj
  have e : ((cs.take (i * 6) ++ cs.drop ((i + 1) * 6)).drop (j * 6)).take 6 = (cs.drop ((j + 1) * 6)).take 6 := by
   refine List.ext_getElem? fun t => ?_
   rw [List.getElem?_take, List.getElem?_take]
   by_cases ht : t < 6
   ·
    rw [if_pos ht, if_pos ht, List.getElem?_drop, List.getElem?_drop, List.getElem?_append_right (by rw [List.length_take]; omega), List.getElem?_drop, List.length_take]
    congr 1
    omega
   ·
    rw [if_neg ht, if_neg ht]
  rw [e]
  exact h.2 (j + 1) p hj
theorem impl_Warning_74.seen (cur cur1 cur2 : Array Value) (inner news : List Value) (n cap i : Nat) (hi : i < n) (hn : n ≤ cap) (hcs : cur.size = cap * 6) (hcs1 : cur1.size = cur.size) (hnl : news.length = (n - (i + 1)) * 6) (htk : cur.toList.take (n * 6) = inner) (hcl1 : cur1.toList = cur.toList.take (i * 6) ++ news ++ cur.toList.drop (i * 6 + news.length)) (hm : i + (n - (i + 1)) = n - 1)
  (hcl2 : cur2.toList = cur1.toList.take ((i + (n - (i + 1))) * 6) ++ List.replicate 6 (.int .i64 0) ++ cur1.toList.drop ((i + (n - (i + 1))) * 6 + (List.replicate 6 (.int .i64 0) : List Value).length)) (hnews : news = inner.drop ((i + 1) * 6)) :
  cur2.toList.take ((n - 1) * 6) = inner.take (i * 6) ++ inner.drop ((i + 1) * 6) := by
 have hL : cur.toList.length = cap * 6 := by rw [Array.length_toList]; exact hcs
 have hL1 : cur1.toList.length = cap * 6 := by rw [Array.length_toList, hcs1]; exact hcs
 have hl1 : (cur.toList.take (i * 6)).length = i * 6 := by rw [List.length_take, hL]; omega
 have hl2 : (cur.toList.take (i * 6) ++ news).length = (n - 1) * 6 := by rw [List.length_append, hl1, hnl]; omega
 rw [hm] at hcl2
 rw [hcl2, List.append_assoc, List.take_append_of_le_length (by rw [List.length_take, hL1]; omega), List.take_take, Nat.min_self, hcl1, List.take_append_of_le_length (by rw [hl2]; exact Nat.le_refl _), List.take_of_length_le (by rw [hl2]; exact Nat.le_refl _), hnews]
 congr 1
 rw [← htk, List.take_take]
 congr 1
 omega
theorem reps_one {w : World} {b : Nat} {ok : Nat → Prop} {xs : List S31} {cs : List Value} (h : Reps (k31.M w b ok) k31.sz xs cs) : ∀ u ∈ cs, u.oneCell' = true := by
 intro u hu
 obtain ⟨t, ht, rfl⟩ := List.getElem_of_mem hu
 have hl : cs.length = xs.length * 6 := h.1
 have hx := h.2 (t / 6) xs[t / 6] (List.getElem?_eq_getElem (by omega))
 refine k31.K_one (k31.K_of_M hx) _ ?_
 change cs[t] ∈ (cs.drop (t / 6 * 6)).take 6
 rw [List.mem_iff_getElem?]
 refine ⟨t % 6, ?_⟩
 rw [List.getElem?_take_of_lt (by omega), List.getElem?_drop, show t / 6 * 6 + t % 6 = t by omega, List.getElem?_eq_getElem ht]
set_option maxHeartbeats 4000000 in
set_option maxRecDepth 1000000 in
theorem impl_Warning_74.calls (P0_ : Nat → Prop) (u9000_ : Value) (l0 : List S31) (a1 a2 : Int) (r : List S31) (w0 w : World) (hB : Below w0.heap.size w0 w) (ho0 : Kd.R k31 31 w w0.heap.size P0_ u9000_ l0) (h : impl_Warning_74.f l0 a1 a2 = some r) :
  Calls Try.prog 74 #[u9000_, .int .i64 a1, .int .i64 a2] w fun e w' => ∃ v0_ : Value, e = .returned (v0_) ∧ Kd.R k31 31 w' w0.heap.size (fun k_ => (P0_ k_ ∨ w.heap.size ≤ k_)) v0_ r ∧ Below w0.heap.size w0 w' ∧ Kept w w' (fun k_ => P0_ k_) := by
 have hu := Try.underlying31
 unfold impl_Warning_74.f at h
 by_cases hc : 0 ≤ a1 ∧ a2 = a1 + 1 ∧ a1 < (l0.length : Int)
 ·
  rw [if_pos hc] at h
  obtain rfl := Option.some.inj h
  clear h
  obtain ⟨h0, rfl, h1⟩ := hc
  obtain ⟨i, rfl⟩ : ∃ i : Nat, a1 = (i : Int) := ⟨a1.toNat, by omega⟩
  have hi : i < l0.length := by omega
  rw [Int.toNat_natCast]
  obtain ⟨hok, inner, hown, hrep⟩ := ho0
  obtain ⟨hlen, hor⟩ := hown
  rcases hor with ⟨rfl, hn⟩ | ⟨g, cap, cur, rfl, hg, hh, hncap, hcap, hcs, htk⟩
  ·
   omega
  ·
   have hP : P0_ g := hok g rfl
   change cur.size = cap * 6 at hcs
   change inner.length = l0.length * 6 at hlen
   change cur.toList.take (l0.length * 6) = inner at htk
   obtain ⟨i0, hi0, hz0, hz1, hz2⟩ := info_parts info31
   have hlt := blk_lt hh
   have c0 : ∀ t, w.cell? ⟨g, t, none⟩ = cur[t]? := fun t => blk_cell hh t
   have f0 : ∀ t, w.frozen? ⟨g, t, none⟩ = false := fun t => blk_frozen hh t
   obtain ⟨news, hnews⟩ : ∃ news, news = inner.drop ((i + 1) * 6) := ⟨_, rfl⟩
   have hnl : news.length = (l0.length - (i + 1)) * 6 := by rw [hnews, List.length_drop, hlen, Nat.sub_mul]
   have hget : ∀ t, t < (l0.length - (i + 1)) * 6 → news[t]? = cur[(i + 1) * 6 + t]? := by
    intro t ht
    rw [hnews, ← htk, List.getElem?_drop, List.getElem?_take_of_lt (by rw [Nat.sub_mul] at ht; omega), Array.getElem?_toList]
   obtain ⟨A, hA, hsrc⟩ : ∃ A : Addr, (if cap = i + 1 then some (⟨g, 0, none⟩ : Addr) else some ⟨g, (i + 1) * 6, none⟩) = some A ∧ Hid (∀ t u, news[t]? = some u → w.drew.cell? (A.add t) = some u) := by
    by_cases h : cap = i + 1
    ·
     refine ⟨⟨g, 0, none⟩, by simp [h], fun t u hu => ?_⟩
     have h0 : news.length = 0 := by rw [hnl]; omega
     rw [List.length_eq_zero_iff.1 h0] at hu
     simp at hu
    ·
     refine ⟨⟨g, (i + 1) * 6, none⟩, by simp [h], fun t u hu => ?_⟩
     have ht : t < (l0.length - (i + 1)) * 6 := by
      have := (List.getElem?_eq_some_iff.1 hu).1
      rwa [hnl] at this
     rw [Addr.add_lit]
     exact (c0 _).trans ((hget t ht).symm.trans hu)
   have s1 : Hid (news.length = (l0.length - (i + 1)) * 6) := hnl
   have s2 : Hid (∀ u ∈ news, u.oneCell' = true) := by
    intro u hu
    rw [hnews] at hu
    exact reps_one hrep u (List.mem_of_mem_drop hu)
   have hfit : i * 6 + news.length ≤ cur.size := by rw [hnl, hcs, Nat.sub_mul]; omega
   have s3 : Hid (∀ t, t < news.length → (w.drew.cell? ⟨g, 0 + i * 6 + t, none⟩).isSome = true ∧ w.drew.frozen? ⟨g, 0 + i * 6 + t, none⟩ = false) := by
    intro t ht
    rw [Nat.zero_add]
    exact ⟨by show (w.cell? _).isSome = true; rw [c0, Array.getElem?_eq_getElem (by omega)]; rfl, f0 _⟩
   obtain ⟨W1, hW1⟩ : ∃ W1, W1 = w.drew.setCells g (0 + i * 6) news := ⟨_, rfl⟩
   obtain ⟨cur1, hh1, hcs1, hcl1⟩ := impl_Warning_74.cells w.drew g cur 31 (0 + i * 6) news hh (by rw [Nat.zero_add]; exact hfit)
   rw [← hW1] at hh1
   rw [Nat.zero_add] at hcl1
   have hm : i + (l0.length - (i + 1)) = l0.length - 1 := by omega
   have hcl : ∀ ty, (Builtin.clear_ #[24] ty #[.slice (some ⟨g, (i + (l0.length - (i + 1))) * 6, none⟩) (l0.length - (i + (l0.length - (i + 1)))) (cap - (i + (l0.length - (i + 1))))]).run Try.prog W1 = .ok (.tuple #[]) (W1.setCells g ((i + (l0.length - (i + 1))) * 6) (List.replicate 6 (.int .i64 0))) := by
    intro ty
    rw [show l0.length - (i + (l0.length - (i + 1))) = 1 by omega]
    refine run_clear_one W1 g _ _ ty (fun j hj => ?_) (fun j hj => blk_frozen hh1 _)
    rw [blk_cell hh1, Array.getElem?_eq_getElem (by rw [hcs1, hcs]; omega)]
    rfl
   obtain ⟨cur2, hh2, hcs2, hcl2⟩ := impl_Warning_74.cells W1 g cur1 31 ((i + (l0.length - (i + 1))) * 6) (List.replicate 6 (.int .i64 0)) hh1 (by rw [hcs1, hcs, List.length_replicate]; omega)
   have E2 := Aside0.mk (show ∃ cur2, (W1.setCells g ((i + (l0.length - (i + 1))) * 6) (List.replicate 6 (.int .i64 0))).heap[g]? = some (.cells cur2 31 (0, 0)) ∧ cur2.size = cap * 6 ∧ cur2.toList.take ((l0.length - 1) * 6) = inner.take (i * 6) ++ inner.drop ((i + 1) * 6) from by
    exact ⟨cur2, hh2, by rw [hcs2, hcs1, hcs], impl_Warning_74.seen cur cur1 cur2 inner news l0.length cap i hi hncap hcs hcs1 hnl htk hcl1 hm hcl2 hnews⟩)
   have SO := Aside0.mk (show ∀ k, k ≠ g → (W1.setCells g ((i + (l0.length - (i + 1))) * 6) (List.replicate 6 (.int .i64 0))).heap[k]? = w.heap[k]? from fun k hk => (sc_other hk _ _ W1).trans (by rw [hW1]; exact sc_other hk _ _ _))
   have BL := Aside0.mk (show Below w0.heap.size w0 (W1.setCells g ((i + (l0.length - (i + 1))) * 6) (List.replicate 6 (.int .i64 0))) from sc_below hg _ _ _ (by rw [hW1]; exact sc_below hg _ _ _ (below_drew hB)))
   have SZ := Aside0.mk (show (W1.setCells g ((i + (l0.length - (i + 1))) * 6) (List.replicate 6 (.int .i64 0))).heap.size = w.heap.size from (sc_size _ _ _).trans (by rw [hW1]; exact sc_size _ _ _))
   have HRP := Aside0.mk hrep
   clear hh2 hcs2 hcl2 hm
   have hW : Hid (W1 = w.drew.setCells g (0 + i * 6) news) := hW1
   have C0 := Aside0.mk c0
   have F0 := Aside0.mk f0
   have NL := Aside0.mk hnl
   have CS := Aside0.mk hcs
   have HI := Aside0.mk hi
   have hic : i ≤ cap := by omega
   have hjc : i + 1 ≤ cap := by omega
   have hjn : i + 1 ≤ l0.length := hi
   have hz1a : (0 : Int) ≤ (i : Int) + 1 := by omega
   have hz1b : (i : Int) + 1 ≤ (l0.length : Int) := by omega
   have hnm : cap ≤ 9223372036854775807 := by simpa [maxLen] using hcap
   clear c0 f0 hnl hcs hcs1 hrep htk hlen h0 h1 hok hh hlt hget hW1 hh1 hcl1 hfit hnews
   have mixed : Try.prog.follows .mixedOrders = true := by kernel_rfl
   go_enter Try.func74, Try.ntmps74
   go_wp2_with fail
   go_region_law_o (refine step_append_room rfl (.tmp 22) (.tmp 25) 24 rfl 31 i0 6 Try.underlying24 hi0 hz1 g 0 i cap (by simp [Act.eval, Act.put]) A (l0.length - (i + 1)) (cap - (i + 1)) news (by simp [Act.eval, Act.put]) s1.out hsrc.out s2.out (by omega) s3.out ?_; rw [← hW.out])
   go_wp2
   go_ret
   refine ⟨_, rfl, ?_, ?_, ?_⟩
   ·
    obtain ⟨cur2, hh2, hcs2, hcl2⟩ := E2.out
    refine ⟨fun k hk => ?_, inner.take (i * 6) ++ inner.drop ((i + 1) * 6), ⟨?_, .inr ⟨g, cap, cur2, ?_, hg, hh2, ?_, hcap, ?_, ?_⟩⟩, ?_⟩
    ·
     have : g = k := by simpa [Value.ownBlock] using hk
     subst this
     exact .inl hP
    ·
     exact (reps_erase HRP.out i HI.out).1
    ·
     rw [List.length_eraseIdx, if_pos HI.out, show i + (l0.length - (i + 1)) = l0.length - 1 by omega]
     rfl
    ·
     rw [List.length_eraseIdx, if_pos HI.out]; omega
    ·
     exact hcs2
    ·
     rw [List.length_eraseIdx, if_pos HI.out]; exact hcl2
    ·
     exact (reps_erase HRP.out i HI.out).imp_ (fun p c hp => Kd.M_step (k31.M_mono (fun k hk => ⟨.inl hk.1, hk.2⟩) hp) (fun k hk _ => SO.out k (fun e => hk.2 (by rw [e]; rfl))))
   ·
    exact BL.out
   ·
    exact ⟨Nat.le_of_eq SZ.out.symm, fun k hk hn => SO.out k (fun e => hn (by rw [e]; exact hP))⟩
 ·
  rw [if_neg hc] at h
  cases h

end Go.Proofs.Ytklepiechbnenaa.Q
namespace Go.Proofs.Ytklepiechbnenaa.Q
open Go.RowKit Go.Proofs.YtklepiechbnenaaW.PrintWords Go.Proofs.YtklepiechbnenaaW.PrintLast Go.Proofs.YtklepiechbnenaaW.PrintMore
attribute [local go_sem] max2_int min2_int max_two min_two max_three min_three max_four min_four   -- for this text's walks alone
set_option linter.unusedVariables false
set_option linter.unusedSimpArgs false

/-! ### impl_CancelWarning: function 16 -/
def impl_CancelWarning.j0 : Nat → List (S31) → Int → Int → Bool → Option ((List (S31)) × Bool)
 | 0, _, _, _, _ => none
 | k + 1, x0, x2, x8, x23 => if x23 = true then (some (([] : List (S31)), false)) else ((impl_Warning_61.f x0).bind fun t395 => (if 0 ≤ x8 then (if x8 < (x0.length : Int) then (if x2 ≤ ((rd_T31 x0 x8).f4) then ((impl_Warning_74.f t395 x8 (wrap64 (x8 + 1))).bind fun t399 => (some (t399, true))) else (if x8 < (t395.length : Int) then (some ((t395.set (x8 : Int).toNat (⟨(rd_T31 t395 x8).f0, (rd_T31 t395 x8).f1, (rd_T31 t395 x8).f2, (rd_T31 t395 x8).f3, (rd_T31 t395 x8).f4, x2⟩ : S31)), true)) else (none))) else (none)) else (none)))
def impl_CancelWarning.f (k : Nat) (l0 : List (S31)) (a1 : Int) (a2 : Int) : Option ((List (S31)) × Bool) := (impl_warningAt.f k l0 a1).bind fun t393 => (if t393 < 0 then (impl_CancelWarning.j0 k l0 a2 t393 true) else (if 0 ≤ t393 then (if t393 < (l0.length : Int) then (impl_CancelWarning.j0 k l0 a2 t393 (decide (a2 ≥ ((rd_T31 l0 t393).f5)))) else (none)) else (none)))
theorem impl_CancelWarning.mono_l : ∀ k, (∀ y0 y1 y2 y3, LeO (impl_CancelWarning.j0 k y0 y1 y2 y3) (impl_CancelWarning.j0 (k + 1) y0 y1 y2 y3))
 | 0 => fun _ _ _ _ r h => by simp [impl_CancelWarning.j0] at h
 | k + 1 => by
  have ih0 := impl_CancelWarning.mono_l k
  ·
   intro y0 y1 y2 y3
   unfold impl_CancelWarning.j0
   repeat' first
   | (with_reducible exact ih0 _ _ _ _)
   | (with_reducible exact impl_warningAt.mono _ _ _)
   | (with_reducible exact LeO.refl _)
   | (with_reducible exact LeO.none _)
   | (with_reducible refine LeO.ite ?_ ?_)
   | (with_reducible refine LeO.bind ?_ (fun _ => ?_))
   | exact ih0 _ _ _ _
   | exact impl_warningAt.mono _ _ _
   | exact LeO.none _
   | refine LeO.ite ?_ ?_
   | refine LeO.bind ?_ (fun _ => ?_)
theorem impl_CancelWarning.mono : ∀ a0 a1 a2 k, LeO (impl_CancelWarning.f k a0 a1 a2) (impl_CancelWarning.f (k + 1) a0 a1 a2) := by
 intro a0 a1 a2 k
 have ih0 := impl_CancelWarning.mono_l k
 unfold impl_CancelWarning.f
 repeat' first
   | (with_reducible exact ih0 _ _ _ _)
   | (with_reducible exact impl_warningAt.mono _ _ _)
   | (with_reducible exact LeO.refl _)
   | (with_reducible exact LeO.none _)
   | (with_reducible refine LeO.ite ?_ ?_)
   | (with_reducible refine LeO.bind ?_ (fun _ => ?_))
   | exact ih0 _ _ _ _
   | exact impl_warningAt.mono _ _ _
   | exact LeO.none _
   | refine LeO.ite ?_ ?_
   | refine LeO.bind ?_ (fun _ => ?_)
set_option maxHeartbeats 8000000 in
set_option maxRecDepth 100000 in
theorem impl_CancelWarning.calls (k : Nat) (A0 : Option Addr) (c0 : Nat) (l0 : List (S31)) (a1 : Int) (a2 : Int) (r1 : List (S31)) (r2 : Bool) (w : World) (hr0 : Kd.C k31 w A0 l0.length l0) (hc0 : l0.length ≤ c0) (h : impl_CancelWarning.f k l0 a1 a2 = some (r1, r2)) :
  Calls Try.prog 16 #[.slice A0 l0.length c0, .int .i64 a1, .int .i64 a2] w fun e w' => ∃ v0_ : Value, e = .returned (.tuple #[v0_, .bool r2]) ∧ Kd.R k31 31 w' w.heap.size (fun _ => True) v0_ r1 ∧ Below w.heap.size w w' := by
 have HR0 := Aside0.mk hr0
 have HC0 := Aside0.mk hc0
 clear hr0 hc0
 have HB := Aside0.mk (Below.refl w.heap.size w)
 have H : ((impl_warningAt.f k l0 a1).bind fun t393 => (if t393 < 0 then (impl_CancelWarning.j0 k l0 a2 t393 true) else (if 0 ≤ t393 then (if t393 < (l0.length : Int) then (impl_CancelWarning.j0 k l0 a2 t393 (decide (a2 ≥ ((rd_T31 l0 t393).f5)))) else (none)) else (none)))) = some (r1, r2) := h
 clear h
 replace H := Option.bind_eq_some_iff.mp H
 obtain ⟨t393, A40, H⟩ := H
 replace H : (if t393 < 0 then (impl_CancelWarning.j0 k l0 a2 t393 true) else (if 0 ≤ t393 then (if t393 < (l0.length : Int) then (impl_CancelWarning.j0 k l0 a2 t393 (decide (a2 ≥ ((rd_T31 l0 t393).f5)))) else (none)) else (none))) = some (r1, r2) := H
 have A4 := Aside0.mk A40
 clear A40
 have HC5 := Aside0.mk H
 clear H
 go_enter Try.func16, Try.ntmps16
 go_upto_region 2 with (first | ((with_reducible refine gate_callee (f := 59) rfl ?_); refine goesL_ (some 12) rfl rfl Try.func59 (by kernel_rfl) rfl #[.slice A0 l0.length c0, .int .i64 a1] rfl zq1 ?_; (with_reducible refine (impl_warningAt.calls k _ _ l0 a1 t393 _ ?side1 ?side2 A4.out).mono ?_); (case side1 => repeat (first | exact HR0.out | (with_reducible refine Kd.C_alloc ?_ _) | (with_reducible refine Kd.C_drewN ?_ _) | (with_reducible refine Kd.C_drew ?_))); (case side2 => exact HC0.out); rintro e w6 ⟨rfl, hb⟩; refine ⟨_, rfl, ?_⟩; have n0_ := Aside0.mk (below_step zq0 hb); clear HB; have HB := n0_; clear n0_; (try clear hb); (try clear hb2); (try clear hk); (try clear hi)))
 (try simp only [Act.put, List.setIfInBounds_toArray, List.set_cons_zero, List.set_cons_succ])
 go_cut [23] (fun v23 wc => ∃ (kq : Nat) (x23_4 : Bool), v23 = .bool x23_4 ∧ Aside0 (impl_CancelWarning.j0 kq l0 a2 t393 x23_4 = some (r1, r2)) ∧ Aside0 (kq ≤ k) ∧ Aside0 (Below w.heap.size w wc))
 case first =>
  have H := HC5.out
  clear HC5
  by_cases c7 : t393 < 0
  ·
   rw [if_pos c7] at H
   have c7b0 : decide (t393 < 0) = true := decide_eq_true c7
   clear c7
   (first | rw [c7b0] | (simp only [i64_w, i32_w]; rw [c7b0]) | skip)
   have H' := Aside0.mk H
   clear H
   go_wp2
   go_meet
   case rel => exact ⟨_, (true), (by first | rfl | (simp; done) | (simp [*]; done)), H', ⟨by first | omega | exact Nat.le_refl _⟩, ⟨by repeat (first | (with_reducible first | exact HB.out | apply below_alloc | apply pw_below_drewN | apply below_drew1) | exact HB.out)⟩⟩
  ·
   rw [if_neg c7] at H
   have c7b0 : decide (t393 < 0) = false := decide_eq_false c7
   clear c7
   (first | rw [c7b0] | (simp only [i64_w, i32_w]; rw [c7b0]) | skip)
   by_cases c8 : 0 ≤ t393
   ·
    rw [if_pos c8] at H
    have c8b0 : decide (0 ≤ t393) = true := decide_eq_true c8
    clear c8
    by_cases c9 : t393 < (l0.length : Int)
    ·
     rw [if_pos c9] at H
     have c9b0 : decide (t393 < (l0.length : Int)) = true := decide_eq_true c9
     clear c9
     have H' := Aside0.mk H
     clear H
     have p394 : 0 ≤ (t393 : Int) := of_decide_eq_true zq2
     have q394 : t393 < (l0.length : Int) := of_decide_eq_true zq2
     obtain ⟨ad394, e394, hx394_0, hx394_1, hx394_2, hx394_3, hx394_4, hx394_5⟩ := at_T31 HR0.out t393 p394 q394
     cases e394
     replace hx394_0 := (HB.out.cell (World.block_lt_of_cell? w _ hx394_0)).trans hx394_0
     replace hx394_1 := (HB.out.cell (World.block_lt_of_cell? w _ hx394_1)).trans hx394_1
     replace hx394_2 := (HB.out.cell (World.block_lt_of_cell? w _ hx394_2)).trans hx394_2
     replace hx394_3 := (HB.out.cell (World.block_lt_of_cell? w _ hx394_3)).trans hx394_3
     replace hx394_4 := (HB.out.cell (World.block_lt_of_cell? w _ hx394_4)).trans hx394_4
     replace hx394_5 := (HB.out.cell (World.block_lt_of_cell? w _ hx394_5)).trans hx394_5
     replace p394 := eq_true p394
     replace q394 := eq_true q394
     go_wp2
     go_meet
     case rel => exact ⟨_, (decide (a2 ≥ ((rd_T31 l0 t393).f5))), (by first | rfl | (simp; done) | (simp [*]; done)), H', ⟨by first | omega | exact Nat.le_refl _⟩, ⟨by repeat (first | (with_reducible first | exact HB.out | apply below_alloc | apply pw_below_drewN | apply below_drew1) | exact HB.out)⟩⟩
    ·
     rw [if_neg c9] at H
     exact absurd H (by simp)
   ·
    rw [if_neg c8] at H
    exact absurd H (by simp)
 case rest =>
  clear HC5
  try clear c1
  try clear p2
  try clear p3
  try clear q3
  try clear hx3
  try clear c5
  try clear c7
  try clear c7b0
  try clear c8
  try clear c8b0
  try clear c9
  try clear c9b0
  try clear hx394_0
  try clear hx394_1
  try clear hx394_2
  try clear hx394_3
  try clear hx394_4
  try clear hx394_5
  try clear p394
  try clear q394
  obtain ⟨kq, x23_4, rfl, HA, HJ4, HB⟩ := hcut
  cases kq with
  | zero => exact absurd HA.out (by simp [impl_CancelWarning.j0])
  | succ kj4 =>
   have H := HA.out
   clear HA
   simp only [impl_CancelWarning.j0] at H
   by_cases c10 : x23_4 = true
   ·
    subst c10
    have H1 : (some (([] : List (S31)), false)) = some (r1, r2) := by rw [if_pos rfl] at H; exact H
    clear H
    have H := H1
    clear H1
    simp only [Option.some.injEq, Prod.mk.injEq] at H
    obtain ⟨rfl, rfl⟩ := H
    go_wp2
    go_ret2
    exact ⟨_, by first | rfl | (simp [errW_none, errW_some] <;> rfl) | (simp [*, errW_none, errW_some] <;> rfl), by first | exact Kd.R_nil _ _ _ _ _ | exact Kd.N_nil _ _ _ _ _ | exact Kd.V_nil _ _ _ _ _ | exact Kd.Q_nil _ _ _ _ _ | exact Kd.S_nil _ _ _ _ _, by repeat (first | (with_reducible first | exact HB.out | apply below_alloc | apply pw_below_drewN | apply below_drew1) | exact HB.out)⟩
   ·
    replace c10 := Bool.eq_false_iff.mpr c10
    subst c10
    have H1 : ((impl_Warning_61.f l0).bind fun t395 => (if 0 ≤ t393 then (if t393 < (l0.length : Int) then (if a2 ≤ ((rd_T31 l0 t393).f4) then ((impl_Warning_74.f t395 t393 (wrap64 (t393 + 1))).bind fun t399 => (some (t399, true))) else (if t393 < (t395.length : Int) then (some ((t395.set (t393 : Int).toNat (⟨(rd_T31 t395 t393).f0, (rd_T31 t395 t393).f1, (rd_T31 t395 t393).f2, (rd_T31 t395 t393).f3, (rd_T31 t395 t393).f4, a2⟩ : S31)), true)) else (none))) else (none)) else (none))) = some (r1, r2) := by rw [if_neg (show ¬ (false = true) by decide)] at H; exact H
    clear H
    have H := H1
    clear H1
    replace H := Option.bind_eq_some_iff.mp H
    obtain ⟨t395, A110, H⟩ := H
    replace H : (if 0 ≤ t393 then (if t393 < (l0.length : Int) then (if a2 ≤ ((rd_T31 l0 t393).f4) then ((impl_Warning_74.f t395 t393 (wrap64 (t393 + 1))).bind fun t399 => (some (t399, true))) else (if t393 < (t395.length : Int) then (some ((t395.set (t393 : Int).toNat (⟨(rd_T31 t395 t393).f0, (rd_T31 t395 t393).f1, (rd_T31 t395 t393).f2, (rd_T31 t395 t393).f3, (rd_T31 t395 t393).f4, a2⟩ : S31)), true)) else (none))) else (none)) else (none)) = some (r1, r2) := H
    have A11 := Aside0.mk A110
    clear A110
    by_cases c12 : 0 ≤ t393
    ·
     rw [if_pos c12] at H
     have c12b0 : decide (0 ≤ t393) = true := decide_eq_true c12
     clear c12
     by_cases c13 : t393 < (l0.length : Int)
     ·
      rw [if_pos c13] at H
      have c13b0 : decide (t393 < (l0.length : Int)) = true := decide_eq_true c13
      clear c13
      by_cases c14 : a2 ≤ ((rd_T31 l0 t393).f4)
      ·
       rw [if_pos c14] at H
       have c14b0 : decide (a2 ≤ ((rd_T31 l0 t393).f4)) = true := decide_eq_true c14
       clear c14
       replace H := Option.bind_eq_some_iff.mp H
       obtain ⟨t399, A150, H⟩ := H
       replace H : (some (t399, true)) = some (r1, r2) := H
       have A15 := Aside0.mk A150
       clear A150
       simp only [Option.some.injEq, Prod.mk.injEq] at H
       obtain ⟨rfl, rfl⟩ := H
       go_wp2_with (first | ((with_reducible refine gate_callee (f := 61) rfl ?_); refine goesL_ (some 25) rfl rfl Try.func61 (by kernel_rfl) rfl #[.slice A0 l0.length c0] rfl zq1 ?_; (with_reducible refine (impl_Warning_61.calls _ _ l0 t395 _ ?side1 ?side2 A11.out).mono ?_); (case side1 => repeat (first | exact (Kd.C_below HR0.out HB.out) | (with_reducible refine Kd.C_alloc ?_ _) | (with_reducible refine Kd.C_drewN ?_ _) | (with_reducible refine Kd.C_drew ?_))); (case side2 => exact HC0.out); rintro e w16 ⟨v396, rfl, ho0, hb⟩; refine ⟨_, rfl, ?_⟩; have n0_ := Aside0.mk (Kd.R_lower ho0 (below_size zq0)); have n1_ := Aside0.mk (below_step zq0 hb); clear HB; have HO397 := n0_; have HB := n1_; clear n0_ n1_; (try clear hb); (try clear hb2); (try clear hk); (try clear hi); (try clear ho0); have p398 : 0 ≤ (t393 : Int) := of_decide_eq_true zq2; have q398 : t393 < (l0.length : Int) := of_decide_eq_true zq2; obtain ⟨ad398, e398, hx398_0, hx398_1, hx398_2, hx398_3, hx398_4, hx398_5⟩ := at_T31 HR0.out t393 p398 q398; cases e398; replace hx398_0 := (HB.out.cell (World.block_lt_of_cell? w _ hx398_0)).trans hx398_0; replace hx398_1 := (HB.out.cell (World.block_lt_of_cell? w _ hx398_1)).trans hx398_1; replace hx398_2 := (HB.out.cell (World.block_lt_of_cell? w _ hx398_2)).trans hx398_2; replace hx398_3 := (HB.out.cell (World.block_lt_of_cell? w _ hx398_3)).trans hx398_3; replace hx398_4 := (HB.out.cell (World.block_lt_of_cell? w _ hx398_4)).trans hx398_4; replace hx398_5 := (HB.out.cell (World.block_lt_of_cell? w _ hx398_5)).trans hx398_5; replace p398 := eq_true p398; replace q398 := eq_true q398; obtain ⟨Ao17, co17, eo17⟩ := Kd.R_slice HO397.out; subst eo17) | ((with_reducible refine gate_callee (f := 74) rfl ?_); refine goesL_ (some 37) rfl rfl Try.func74 (by kernel_rfl) rfl #[.slice Ao17 t395.length co17, .int .i64 t393, .int .i64 (wrap64 (t393 + 1))] rfl zq1 ?_; (with_reducible refine (impl_Warning_74.calls (fun k_ => some k_ = (.slice Ao17 t395.length co17 : Value).ownBlock) (.slice Ao17 t395.length co17) t395 t393 (wrap64 (t393 + 1)) t399 w _ ?side1 ?side2 A15.out).mono ?_); (case side1 => repeat (first | (with_reducible first | exact HB.out | apply below_alloc | apply pw_below_drewN | apply below_drew1) | exact HB.out)); (case side2 => exact Kd.R_tight rfl HO397.out); rintro e w18 ⟨v400, rfl, ho0, hb, hkp⟩; refine ⟨_, rfl, ?_⟩; have n0_ := Aside0.mk (Kd.R_mono (ok' := fun k_ => True) ho0 (fun k_ hk_ => trivial)); have n1_ := Aside0.mk (hb); clear HB; clear HO397; have HO401 := n0_; have HB := n1_; clear n0_ n1_; (try clear hb); (try clear hkp); (try clear ho0)))
       go_ret2
       exact ⟨_, by first | rfl | (simp [errW_none, errW_some] <;> rfl) | (simp [*, errW_none, errW_some] <;> rfl), by (with_reducible repeat (first | apply Kd.R_alloc | apply Kd.R_drewN | apply Kd.R_drew)); exact HO401.out, by repeat (first | (with_reducible first | exact HB.out | apply below_alloc | apply pw_below_drewN | apply below_drew1) | exact HB.out)⟩
      ·
       rw [if_neg c14] at H
       have c14b0 : decide (a2 ≤ ((rd_T31 l0 t393).f4)) = false := decide_eq_false c14
       clear c14
       by_cases c19 : t393 < (t395.length : Int)
       ·
        rw [if_pos c19] at H
        have c19b0 : decide (t393 < (t395.length : Int)) = true := decide_eq_true c19
        clear c19
        obtain ⟨y402, hy402⟩ : ∃ y_ : List (S31), y_ = (t395.set (t393 : Int).toNat (⟨(rd_T31 t395 t393).f0, (rd_T31 t395 t393).f1, (rd_T31 t395 t393).f2, (rd_T31 t395 t393).f3, (rd_T31 t395 t393).f4, a2⟩ : S31)) := ⟨_, rfl⟩
        replace H : (some (y402, true)) = some (r1, r2) := by first | (rw [hy402]; with_reducible exact H) | (have H2_ := (Option.bind_some _ _).symm.trans H; rw [hy402]; with_reducible exact H2_) | (have H2_ := (Option.bind_some _ _).symm.trans H; with_reducible exact H2_) | with_reducible exact H | (rw [hy402]; exact H) | exact H
        have Ny402 := Aside0.mk hy402
        clear hy402
        simp only [Option.some.injEq, Prod.mk.injEq] at H
        obtain ⟨rfl, rfl⟩ := H
        go_wp2_with (first | ((with_reducible refine gate_callee (f := 61) rfl ?_); refine goesL_ (some 25) rfl rfl Try.func61 (by kernel_rfl) rfl #[.slice A0 l0.length c0] rfl zq1 ?_; (with_reducible refine (impl_Warning_61.calls _ _ l0 t395 _ ?side1 ?side2 A11.out).mono ?_); (case side1 => repeat (first | exact (Kd.C_below HR0.out HB.out) | (with_reducible refine Kd.C_alloc ?_ _) | (with_reducible refine Kd.C_drewN ?_ _) | (with_reducible refine Kd.C_drew ?_))); (case side2 => exact HC0.out); rintro e w21 ⟨v396, rfl, ho0, hb⟩; refine ⟨_, rfl, ?_⟩; have n0_ := Aside0.mk (Kd.R_lower ho0 (below_size zq0)); have n1_ := Aside0.mk (below_step zq0 hb); clear HB; have HO397 := n0_; have HB := n1_; clear n0_ n1_; (try clear hb); (try clear hb2); (try clear hk); (try clear hi); (try clear ho0); have p398 : 0 ≤ (t393 : Int) := of_decide_eq_true zq2; have q398 : t393 < (l0.length : Int) := of_decide_eq_true zq2; obtain ⟨ad398, e398, hx398_0, hx398_1, hx398_2, hx398_3, hx398_4, hx398_5⟩ := at_T31 HR0.out t393 p398 q398; cases e398; replace hx398_0 := (HB.out.cell (World.block_lt_of_cell? w _ hx398_0)).trans hx398_0; replace hx398_1 := (HB.out.cell (World.block_lt_of_cell? w _ hx398_1)).trans hx398_1; replace hx398_2 := (HB.out.cell (World.block_lt_of_cell? w _ hx398_2)).trans hx398_2; replace hx398_3 := (HB.out.cell (World.block_lt_of_cell? w _ hx398_3)).trans hx398_3; replace hx398_4 := (HB.out.cell (World.block_lt_of_cell? w _ hx398_4)).trans hx398_4; replace hx398_5 := (HB.out.cell (World.block_lt_of_cell? w _ hx398_5)).trans hx398_5; replace p398 := eq_true p398; replace q398 := eq_true q398; have p20 : 0 ≤ (t393 : Int) := of_decide_eq_true zq2; have q20 : (t393 : Int) < ((t395.length : Int) : Int) := of_decide_eq_true zq2; obtain ⟨go20, co20, eo20, gb20, gl20, cl20, HG20⟩ := Kd.R_form HO397.out (by omega); (first | cases eo20 | (injection eo20 with ea_ en_ ec_; (first | subst ea_ | (injection ea_ with ea_; subst ea_)); subst ec_; clear en_)); have GB20 := Aside0.mk gb20; have GG20 := Aside0.mk HG20; clear gb20 gl20 HG20; obtain ⟨ce20, hcl20, hM20, hcc20, hfr20⟩ := Kd.R_elem HO397.out z31 (t393 : Int) p20 q20; obtain rfl := k31_openM hM20; have hx20_0 : w21.cell? ⟨go20, (t393 : Int).toNat * 6, none⟩ = some (.int .i64 ((rd_T31 t395 t393).f0)) := hcc20 0 _ rfl; have hx20_1 : w21.cell? ⟨go20, (t393 : Int).toNat * 6 + 1, none⟩ = some (.int .i64 ((rd_T31 t395 t393).f1)) := hcc20 1 _ rfl; have hx20_2 : w21.cell? ⟨go20, (t393 : Int).toNat * 6 + 2, none⟩ = some (.int .i64 ((rd_T31 t395 t393).f2)) := hcc20 2 _ rfl; have hx20_3 : w21.cell? ⟨go20, (t393 : Int).toNat * 6 + 3, none⟩ = some (.int .i64 ((rd_T31 t395 t393).f3)) := hcc20 3 _ rfl; have hx20_4 : w21.cell? ⟨go20, (t393 : Int).toNat * 6 + 4, none⟩ = some (.int .i64 ((rd_T31 t395 t393).f4)) := hcc20 4 _ rfl; have hx20_5 : w21.cell? ⟨go20, (t393 : Int).toNat * 6 + 5, none⟩ = some (.int .i64 ((rd_T31 t395 t393).f5)) := hcc20 5 _ rfl; have hf20_0 : w21.frozen? ⟨go20, (t393 : Int).toNat * 6, none⟩ = false := hfr20 0; have hf20_1 : w21.frozen? ⟨go20, (t393 : Int).toNat * 6 + 1, none⟩ = false := hfr20 1; have hf20_2 : w21.frozen? ⟨go20, (t393 : Int).toNat * 6 + 2, none⟩ = false := hfr20 2; have hf20_3 : w21.frozen? ⟨go20, (t393 : Int).toNat * 6 + 3, none⟩ = false := hfr20 3; have hf20_4 : w21.frozen? ⟨go20, (t393 : Int).toNat * 6 + 4, none⟩ = false := hfr20 4; have hf20_5 : w21.frozen? ⟨go20, (t393 : Int).toNat * 6 + 5, none⟩ = false := hfr20 5; clear hcl20 hcc20 hfr20 hM20; replace p20 := eq_true p20; replace q20 := eq_true q20; have HX22 := Aside0.mk (show Kd.R k31 31 w21 w.heap.size (fun _ => True) (.slice (some ⟨go20, 0, none⟩) t395.length co20) t395 from (zqR HO397.out)); obtain ⟨ce22, hcl22, hM22, hcc22, hfr22⟩ := Kd.R_elem HX22.out z31 (t393 : Int) (of_decide_eq_true zq2) (by have h_ : (t393 : Int) < ((t395.length : Int) : Int) := of_decide_eq_true zq2; first | exact h_ | (have e_ := (Kd.R_reads' HO397.out).1; omega) | simpa using h_); obtain rfl := k31_openM hM22; have HP22 := Kd.R_seg HX22.out (t393 : Int) (of_decide_eq_true zq2) (by have h_ : (t393 : Int) < ((t395.length : Int) : Int) := of_decide_eq_true zq2; first | exact h_ | (have e_ := (Kd.R_reads' HO397.out).1; omega) | simpa using h_) (seg := [.int .i64 a2]) (j := 5) hcl22 hcc22 (show 6 ≤ 6 from by decide) (x' := (⟨(rd_T31 t395 t393).f0, (rd_T31 t395 t393).f1, (rd_T31 t395 t393).f2, (rd_T31 t395 t393).f3, (rd_T31 t395 t393).f4, a2⟩ : S31)) (k31_mkM _ _ _ (⟨(rd_T31 t395 t393).f0, (rd_T31 t395 t393).f1, (rd_T31 t395 t393).f2, (rd_T31 t395 t393).f3, (rd_T31 t395 t393).f4, a2⟩ : S31) ) (fun _ hk => hk); have hx22_5 := hcc22 5 _ rfl; (try simp only [show (k31).sz = 6 from rfl, Nat.mul_one, Nat.add_zero] at hx22_5); have hf22_5 := hfr22 5; (try simp only [show (k31).sz = 6 from rfl, Nat.mul_one, Nat.add_zero] at hf22_5); clear hcl22 hcc22 hfr22 hM22) | ((with_reducible refine gate_store (t := 3) (p := 42) rfl ?_); refine store_event (t := 3) (p := 42) (v := ?vo_w23) (w1 := (w21.setCell ⟨go20, (t393 : Int).toNat * 6 + 5, none⟩ (.int .i64 a2))) ?hg ?ho ?hn ?hr ?_; (case ho => rfl); (case hg => rfl); (case hn => rfl); (case hr => first | (go_simp; done) | (go_simp; rfl)); intro w23 hw; have hg : w21.grownBy w23 (some go20) := (by rw [hw]; exact HP22.2); have hp_ : Kd.R k31 31 w23 w.heap.size (fun _ => True) (.slice (some ⟨go20, 0, none⟩) t395.length co20) y402 := (by rw [hw, Ny402.out]; exact HP22.1); clear HP22; have n0_ := Aside0.mk (hp_); have n1_ := Aside0.mk ((by rw [hw]; exact below_set (HB.out) GB20.out : Below w.heap.size w w23)); clear HO397; clear HB; have HO397 := n0_; have HB := n1_; clear n0_ n1_; clear hg hw hp_))
        go_ret2
        exact ⟨_, by first | rfl | (simp [errW_none, errW_some] <;> rfl) | (simp [*, errW_none, errW_some] <;> rfl), by (with_reducible repeat (first | apply Kd.R_alloc | apply Kd.R_drewN | apply Kd.R_drew)); exact HO397.out, by repeat (first | (with_reducible first | exact HB.out | apply below_alloc | apply pw_below_drewN | apply below_drew1) | exact HB.out)⟩
       ·
        rw [if_neg c19] at H
        exact absurd H (by simp)
     ·
      rw [if_neg c13] at H
      exact absurd H (by simp)
    ·
     rw [if_neg c12] at H
     exact absurd H (by simp)

end Go.Proofs.Ytklepiechbnenaa.Q
namespace Go.Proofs.Ytklepiechbnenaa.Q
open Go.RowKit Go.Proofs.YtklepiechbnenaaW.PrintWords Go.Proofs.YtklepiechbnenaaW.PrintLast Go.Proofs.YtklepiechbnenaaW.PrintMore
attribute [local go_sem] max2_int min2_int max_two min_two max_three min_three max_four min_four   -- for this text's walks alone
set_option linter.unusedVariables false
set_option linter.unusedSimpArgs false

/-! ### spec_l14Checked: function 75 -/
def spec_l14Checked.f (k : Nat) (l0 : List (S31)) : Option ((List (S31)) × Bool) := (spec_l14List.f k l0).bind fun t403 => (if t403 = true then (some (l0, true)) else (some ((([] : List (S31))), false)))
theorem spec_l14Checked.mono : ∀ a0 k, LeO (spec_l14Checked.f k a0) (spec_l14Checked.f (k + 1) a0) := by
 intro a0 k
 unfold spec_l14Checked.f
 repeat' first
   | (with_reducible exact spec_l14List.mono _ _)
   | (with_reducible exact LeO.refl _)
   | (with_reducible exact LeO.none _)
   | (with_reducible refine LeO.ite ?_ ?_)
   | (with_reducible refine LeO.bind ?_ (fun _ => ?_))
   | exact spec_l14List.mono _ _
   | exact LeO.none _
   | refine LeO.ite ?_ ?_
   | refine LeO.bind ?_ (fun _ => ?_)
set_option maxHeartbeats 8000000 in
set_option maxRecDepth 100000 in
theorem spec_l14Checked.calls (k : Nat) (P0_ : Nat → Prop) (u9000_ : Value) (l0 : List (S31)) (r1 : List (S31)) (r2 : Bool) (w0 w : World) (hB : Below w0.heap.size w0 w) (ho0 : Kd.R k31 31 w w0.heap.size P0_ u9000_ l0) (h : spec_l14Checked.f k l0 = some (r1, r2)) :
  Calls Try.prog 75 #[u9000_] w fun e w' => ∃ v0_ : Value, e = .returned (.tuple #[v0_, .bool r2]) ∧ Kd.R k31 31 w' w0.heap.size (fun k_ => (P0_ k_ ∨ w.heap.size ≤ k_)) v0_ r1 ∧ Below w0.heap.size w0 w' ∧ Kept w w' (fun k_ => P0_ k_) := by
 have HO0 := Aside0.mk (show Kd.R k31 31 w w0.heap.size (fun k_ => (P0_ k_ ∨ w.heap.size ≤ k_)) u9000_ l0 from Kd.R_mono ho0 (fun k_ hk => (.inl hk)))
 have HK := Aside0.mk (Kept.refl w (fun k_ => P0_ k_))
 have HW0 := Aside0.mk hB.size
 have HB := Aside0.mk hB
 clear hB
 have H : ((spec_l14List.f k l0).bind fun t403 => (if t403 = true then (some (l0, true)) else (some ((([] : List (S31))), false)))) = some (r1, r2) := h
 clear h
 replace H := Option.bind_eq_some_iff.mp H
 obtain ⟨t403, A20, H⟩ := H
 replace H : (if t403 = true then (some (l0, true)) else (some ((([] : List (S31))), false))) = some (r1, r2) := H
 have A2 := Aside0.mk A20
 clear A20
 by_cases c3 : t403 = true
 ·
  subst c3
  have H1 : (some (l0, true)) = some (r1, r2) := by rw [if_pos rfl] at H; exact H
  clear H
  have H := H1
  clear H1
  simp only [Option.some.injEq, Prod.mk.injEq] at H
  obtain ⟨rfl, rfl⟩ := H
  obtain ⟨Ao4, co4, eo4⟩ := Kd.R_slice HO0.out
  subst eo4
  go_enter Try.func75, Try.ntmps75
  go_wp2_with (first | ((with_reducible refine gate_callee (f := 63) rfl ?_); refine goesL_ (some 5) rfl rfl Try.func63 (by kernel_rfl) rfl #[.slice Ao4 l0.length co4] rfl zq1 ?_; (with_reducible refine (spec_l14List.calls k _ _ l0 true _ ?side1 ?side2 A2.out).mono ?_); (case side1 => repeat (first | exact (Kd.R_reads' HO0.out).2.2 | (with_reducible refine Kd.C_alloc ?_ _) | (with_reducible refine Kd.C_drewN ?_ _) | (with_reducible refine Kd.C_drew ?_))); (case side2 => exact (Kd.R_reads' HO0.out).2.1); rintro e w5 ⟨rfl, hb⟩; refine ⟨_, rfl, ?_⟩; have n0_ := Aside0.mk (Kd.R_below (zqR HO0.out) hb); have n1_ := Aside0.mk (Kept.below (S := (fun k_ => P0_ k_)) zq26 hb); have n2_ := Aside0.mk (below_step zq0 hb); clear HO0; clear HK; clear HB; have HO0 := n0_; have HK := n1_; have HB := n2_; clear n0_ n1_ n2_; (try clear hb); (try clear hb2); (try clear hk); (try clear hi)))
  go_ret2
  exact ⟨_, by first | rfl | (simp [errW_none, errW_some] <;> rfl) | (simp [*, errW_none, errW_some] <;> rfl), by (with_reducible repeat (first | apply Kd.R_alloc | apply Kd.R_drewN | apply Kd.R_drew)); exact HO0.out, by repeat (first | (with_reducible first | exact HB.out | apply below_alloc | apply pw_below_drewN | apply below_drew1) | exact HB.out), by repeat (first | (with_reducible first | exact HK.out | apply Kept.alloc | apply Kept.drewN | apply Kept.drew) | exact HK.out)⟩
 ·
  replace c3 := Bool.eq_false_iff.mpr c3
  subst c3
  have H1 : (some ((([] : List (S31))), false)) = some (r1, r2) := by rw [if_neg (show ¬ (false = true) by decide)] at H; exact H
  clear H
  have H := H1
  clear H1
  obtain ⟨y404, hy404⟩ : ∃ y_ : List (S31), y_ = (([] : List (S31))) := ⟨_, rfl⟩
  replace H : (some (y404, false)) = some (r1, r2) := by first | (rw [hy404]; with_reducible exact H) | (have H2_ := (Option.bind_some _ _).symm.trans H; rw [hy404]; with_reducible exact H2_) | (have H2_ := (Option.bind_some _ _).symm.trans H; with_reducible exact H2_) | with_reducible exact H | (rw [hy404]; exact H) | exact H
  have Ny404 := Aside0.mk hy404
  clear hy404
  simp only [Option.some.injEq, Prod.mk.injEq] at H
  obtain ⟨rfl, rfl⟩ := H
  obtain ⟨Ao6, co6, eo6⟩ := Kd.R_slice HO0.out
  subst eo6
  go_enter Try.func75, Try.ntmps75
  go_wp2_with (first | ((with_reducible refine gate_callee (f := 63) rfl ?_); refine goesL_ (some 5) rfl rfl Try.func63 (by kernel_rfl) rfl #[.slice Ao6 l0.length co6] rfl zq1 ?_; (with_reducible refine (spec_l14List.calls k _ _ l0 false _ ?side1 ?side2 A2.out).mono ?_); (case side1 => repeat (first | exact (Kd.R_reads' HO0.out).2.2 | (with_reducible refine Kd.C_alloc ?_ _) | (with_reducible refine Kd.C_drewN ?_ _) | (with_reducible refine Kd.C_drew ?_))); (case side2 => exact (Kd.R_reads' HO0.out).2.1); rintro e w7 ⟨rfl, hb⟩; refine ⟨_, rfl, ?_⟩; have n0_ := Aside0.mk (Kd.R_below (zqR HO0.out) hb); have n1_ := Aside0.mk (Kept.below (S := (fun k_ => P0_ k_)) zq26 hb); have n2_ := Aside0.mk (below_step zq0 hb); clear HO0; clear HK; clear HB; have HO0 := n0_; have HK := n1_; have HB := n2_; clear n0_ n1_ n2_; (try clear hb); (try clear hb2); (try clear hk); (try clear hi)) | ((with_reducible refine gate_dst (N := 7) rfl ?_); refine Kd.R_lit k31 _ 31 ?hg (N := 7) ?hd (xs := ([] : List (S31))) (inner := []) (ok := fun _ => True) (okp := fun _ => True) ?hr ?hp (fun _ hk => hk) trivial (Below.refl _ _) (Nat.le_refl _) (by simp) ?_; (case hd => rfl); (case hg => rfl); (case hr => first | (go_simp; done) | (go_simp; rfl)); (case hp => exact (Reps.none _ _)); intro v405 w8 ho9 hb hg_ hnew_; clear hg_ hnew_; (first | rw [← Ny404.out] at ho9 | (simp only [Int.reduceToNat] at ho9; rw [← Ny404.out] at ho9)); have n0_ := Aside0.mk (Kd.R_elder' (zqR HO0.out) (Kd.R_base ho9) hb); have n1_ := Aside0.mk (Kd.R_lower (Kd.R_new' (Kd.R_newM (M := fun k_ => (P0_ k_ ∨ w.heap.size ≤ k_)) ho9 (by first | exact HK.out.1 | exact (show Kept w _ (fun k_ => P0_ k_) from by repeat (first | (with_reducible first | exact HK.out | apply Kept.alloc | apply Kept.drewN | apply Kept.drew) | exact HK.out)).1) (fun k_ h_ => .inr h_)) (Kd.R_lt (zqR HO0.out))) (below_size zq0)); have n2_ := Aside0.mk (Kept.below (S := (fun k_ => P0_ k_)) zq26 hb); have n3_ := Aside0.mk (below_step zq0 hb); clear HO0; clear HK; clear HB; have HO0 := n0_; have HO406 := n1_; have HK := n2_; have HB := n3_; clear n0_ n1_ n2_ n3_; clear hb ho9))
  go_ret2
  exact ⟨_, by first | rfl | (simp [errW_none, errW_some] <;> rfl) | (simp [*, errW_none, errW_some] <;> rfl), by (with_reducible repeat (first | apply Kd.R_alloc | apply Kd.R_drewN | apply Kd.R_drew)); exact Kd.R_mono HO406.out (fun _ hk => hk.1.1), by repeat (first | (with_reducible first | exact HB.out | apply below_alloc | apply pw_below_drewN | apply below_drew1) | exact HB.out), by repeat (first | (with_reducible first | exact HK.out | apply Kept.alloc | apply Kept.drewN | apply Kept.drew) | exact HK.out)⟩

end Go.Proofs.Ytklepiechbnenaa.Q
