/- Texts of this seat, put together: Qf62, Qf9, Qf64. -/
import Derived.Test.YtklepiechbnenaaZFnLevels
import Derived.Test.YtklepiechbnenaaBFnLevels0
import Derived.Test.YtklepiechbnenaaBFnLevels4
import Derived.Test.YtklepiechbnenaaBFnLevels5
namespace Go.Proofs.Ytklepiechbnenaa.Q
open Go.RowKit Go.Proofs.YtklepiechbnenaaW.PrintWords Go.Proofs.YtklepiechbnenaaW.PrintLast Go.Proofs.YtklepiechbnenaaW.PrintMore
attribute [local go_sem] max2_int min2_int max_two min_two max_three min_three max_four min_four   -- for this text's walks alone
set_option linter.unusedVariables false
set_option linter.unusedSimpArgs false

/-! ### impl_issued: function 62 -/
mutual
def impl_issued.j0 : Nat → List (S31) → Int → Int → Int → Int → Int → Int → Option ((List (S31)) × Int × Bool)
 | 0, _, _, _, _, _, _, _ => none
 | k + 1, x0, x294000, x294001, x294002, x294003, x294004, x294005 => (impl_Warning_61.f x0).bind fun t295 => ((some (([(⟨x294000, x294001, x294002, x294003, x294004, x294005⟩ : S31)] : List (S31)) : List (S31))).bind fun y298 => (if t295.length + y298.length < 2932031007402 then ((impl_checkedWarnings.f k (t295 ++ y298)).bind fun bt304 => (impl_issued.j1 k bt304.1 (!bt304.2) x294000 x294001 x294002 x294003 x294004 x294005)) else (none)))
def impl_issued.j1 : Nat → List (S31) → Bool → Int → Int → Int → Int → Int → Int → Option ((List (S31)) × Int × Bool)
 | 0, _, _, _, _, _, _, _, _ => none
 | k + 1, x7, x32, x294000, x294001, x294002, x294003, x294004, x294005 => if x32 = true then (some (([] : List (S31)), 0, false)) else (some (x7, x294000, true))
end
def impl_issued.f (k : Nat) (l0 : List (S31)) (a1_0 : Int) (a1_1 : Int) (a1_2 : Int) (a1_3 : Int) (a1_4 : Int) (a1_5 : Int) : Option ((List (S31)) × Int × Bool) := if (l0.length : Int) > 0 then (if 0 ≤ (wrap64 ((l0.length : Int) - 1)) then (if (wrap64 ((l0.length : Int) - 1)) < (l0.length : Int) then (impl_issued.j0 k l0 (wrap64 (((rd_T31 l0 (wrap64 ((l0.length : Int) - 1))).f0) + 1)) a1_1 a1_2 a1_3 a1_4 a1_5) else (none)) else (none)) else (impl_issued.j0 k l0 1 a1_1 a1_2 a1_3 a1_4 a1_5)
theorem impl_issued.mono_l : ∀ k, (∀ y0 y1 y2 y3 y4 y5 y6, LeO (impl_issued.j0 k y0 y1 y2 y3 y4 y5 y6) (impl_issued.j0 (k + 1) y0 y1 y2 y3 y4 y5 y6)) ∧ (∀ y0 y1 y2 y3 y4 y5 y6 y7, LeO (impl_issued.j1 k y0 y1 y2 y3 y4 y5 y6 y7) (impl_issued.j1 (k + 1) y0 y1 y2 y3 y4 y5 y6 y7))
 | 0 => ⟨fun _ _ _ _ _ _ _ r h => by simp [impl_issued.j0] at h, fun _ _ _ _ _ _ _ _ r h => by simp [impl_issued.j1] at h⟩
 | k + 1 => by
  obtain ⟨ih0, ih1⟩ := impl_issued.mono_l k
  refine ⟨?_, ?_⟩
  ·
   intro y0 y1 y2 y3 y4 y5 y6
   unfold impl_issued.j0
   repeat' first
   | (with_reducible exact ih0 _ _ _ _ _ _ _)
   | (with_reducible exact ih1 _ _ _ _ _ _ _ _)
   | (with_reducible exact impl_checkedWarnings.mono _ _)
   | (with_reducible exact LeO.refl _)
   | (with_reducible exact LeO.none _)
   | (with_reducible refine LeO.ite ?_ ?_)
   | (with_reducible refine LeO.bind ?_ (fun _ => ?_))
   | exact ih0 _ _ _ _ _ _ _
   | exact ih1 _ _ _ _ _ _ _ _
   | exact impl_checkedWarnings.mono _ _
   | exact LeO.none _
   | refine LeO.ite ?_ ?_
   | refine LeO.bind ?_ (fun _ => ?_)
  ·
   intro y0 y1 y2 y3 y4 y5 y6 y7
   unfold impl_issued.j1
   repeat' first
   | (with_reducible exact ih0 _ _ _ _ _ _ _)
   | (with_reducible exact ih1 _ _ _ _ _ _ _ _)
   | (with_reducible exact impl_checkedWarnings.mono _ _)
   | (with_reducible exact LeO.refl _)
   | (with_reducible exact LeO.none _)
   | (with_reducible refine LeO.ite ?_ ?_)
   | (with_reducible refine LeO.bind ?_ (fun _ => ?_))
   | exact ih0 _ _ _ _ _ _ _
   | exact ih1 _ _ _ _ _ _ _ _
   | exact impl_checkedWarnings.mono _ _
   | exact LeO.none _
   | refine LeO.ite ?_ ?_
   | refine LeO.bind ?_ (fun _ => ?_)
theorem impl_issued.mono : ∀ a0 a1 a2 a3 a4 a5 a6 k, LeO (impl_issued.f k a0 a1 a2 a3 a4 a5 a6) (impl_issued.f (k + 1) a0 a1 a2 a3 a4 a5 a6) := by
 intro a0 a1 a2 a3 a4 a5 a6 k
 obtain ⟨ih0, ih1⟩ := impl_issued.mono_l k
 unfold impl_issued.f
 repeat' first
   | (with_reducible exact ih0 _ _ _ _ _ _ _)
   | (with_reducible exact ih1 _ _ _ _ _ _ _ _)
   | (with_reducible exact impl_checkedWarnings.mono _ _)
   | (with_reducible exact LeO.refl _)
   | (with_reducible exact LeO.none _)
   | (with_reducible refine LeO.ite ?_ ?_)
   | (with_reducible refine LeO.bind ?_ (fun _ => ?_))
   | exact ih0 _ _ _ _ _ _ _
   | exact ih1 _ _ _ _ _ _ _ _
   | exact impl_checkedWarnings.mono _ _
   | exact LeO.none _
   | refine LeO.ite ?_ ?_
   | refine LeO.bind ?_ (fun _ => ?_)
def impl_issued.T4 : Bool × List (List Nat × List Nat) := (true, [([], []), ([0], [0]), ([], []), ([2], [2]), ([1, 3, 1], [1, 3]), ([4, 4], [4]), ([5], [5]), ([6], [6]), ([6], [6]), ([7, 5, 0, 1, 2, 3, 4, 5, 6, 7], [7]), ([8, 9, 0, 1, 2, 3, 4, 5, 6, 7, 8, 9], [8])])
def impl_issued.B4 : List Nat := [0, 1, 0, 4, 15, 31, 63, 127, 127, 255, 1023]
theorem impl_issued.tab4 : rtab .any (opsOf Try.f62 4) = impl_issued.T4 := by kernel_rfl
theorem impl_issued.bits4 : waitsOk impl_issued.T4.2 impl_issued.B4 = true := by kernel_rfl
set_option maxHeartbeats 8000000 in
set_option maxRecDepth 100000 in
theorem impl_issued.calls (k : Nat) (A0 : Option Addr) (c0 : Nat) (l0 : List (S31)) (a1_0 : Int) (a1_1 : Int) (a1_2 : Int) (a1_3 : Int) (a1_4 : Int) (a1_5 : Int) (r1 : List (S31)) (r2 : Int) (r3 : Bool) (w : World) (hr0 : Kd.C k31 w A0 l0.length l0) (hc0 : l0.length ≤ c0) (h : impl_issued.f k l0 a1_0 a1_1 a1_2 a1_3 a1_4 a1_5 = some (r1, r2, r3)) :
  Calls Try.prog 62 #[.slice A0 l0.length c0, .agg #[.int .i64 a1_0, .int .i64 a1_1, .int .i64 a1_2, .int .i64 a1_3, .int .i64 a1_4, .int .i64 a1_5]] w fun e w' => ∃ v0_ : Value, e = .returned (.tuple #[v0_, .int .i64 r2, .bool r3]) ∧ Kd.R k31 31 w' w.heap.size (fun _ => True) v0_ r1 ∧ Below w.heap.size w w' := by
 have hu31 := Try.underlying31
 have HR0 := Aside0.mk hr0
 have HC0 := Aside0.mk hc0
 clear hr0 hc0
 have HB := Aside0.mk (Below.refl w.heap.size w)
 have H : (if (l0.length : Int) > 0 then (if 0 ≤ (wrap64 ((l0.length : Int) - 1)) then (if (wrap64 ((l0.length : Int) - 1)) < (l0.length : Int) then (impl_issued.j0 k l0 (wrap64 (((rd_T31 l0 (wrap64 ((l0.length : Int) - 1))).f0) + 1)) a1_1 a1_2 a1_3 a1_4 a1_5) else (none)) else (none)) else (impl_issued.j0 k l0 1 a1_1 a1_2 a1_3 a1_4 a1_5)) = some (r1, r2, r3) := h
 clear h
 have HC3 := Aside0.mk H
 clear H
 go_enter Try.func62, Try.ntmps62
 go_upto_if 12 with (first | ((with_reducible refine gate_dst (N := 3) rfl ?_); refine box_event ?hg (N := 3) ?hd (cs := #[.int .i64 a1_0, .int .i64 a1_1, .int .i64 a1_2, .int .i64 a1_3, .int .i64 a1_4, .int .i64 a1_5]) (t := 31) ?hr ?_; (case hd => rfl); (case hg => rfl); (case hr => first | (go_simp; done) | (go_simp; rfl)); intro gb293 hg w4 hbox hb; have n0_ := Aside0.mk (below_step zq0 hb); have n1_ := Aside0.mk (hbox); have n2_ := Aside0.mk ((by rw [hg]; exact (below_size zq0) : w.heap.size ≤ gb293)); have n3_ := Aside0.mk ((by rw [hg]; exact (below_size zq0) : w.heap.size ≤ gb293)); clear HB; have HB := n0_; have BK293 := n1_; have GW293 := n2_; have GE293 := n3_; clear n0_ n1_ n2_ n3_; clear hb hbox hg; have hcz5_0 : w4.cell? ⟨gb293, 0, none⟩ = some (.int .i64 a1_0) := (blk_cell BK293.out 0).trans rfl; have hcz5_1 : w4.cell? ⟨gb293, 1, none⟩ = some (.int .i64 a1_1) := (blk_cell BK293.out 1).trans rfl; have hcz5_2 : w4.cell? ⟨gb293, 2, none⟩ = some (.int .i64 a1_2) := (blk_cell BK293.out 2).trans rfl; have hcz5_3 : w4.cell? ⟨gb293, 3, none⟩ = some (.int .i64 a1_3) := (blk_cell BK293.out 3).trans rfl; have hcz5_4 : w4.cell? ⟨gb293, 4, none⟩ = some (.int .i64 a1_4) := (blk_cell BK293.out 4).trans rfl; have hcz5_5 : w4.cell? ⟨gb293, 5, none⟩ = some (.int .i64 a1_5) := (blk_cell BK293.out 5).trans rfl; have hfz5_0 := blk_frozen BK293.out 0; have hfz5_1 := blk_frozen BK293.out 1; have hfz5_2 := blk_frozen BK293.out 2; have hfz5_3 := blk_frozen BK293.out 3; have hfz5_4 := blk_frozen BK293.out 4; have hfz5_5 := blk_frozen BK293.out 5))
 (try simp only [Act.put, List.setIfInBounds_toArray, List.set_cons_zero, List.set_cons_succ])
 go_cut [] (fun wc => ∃ (kq : Nat) (x294000_2 : Int), Aside0 (impl_issued.j0 kq l0 x294000_2 a1_1 a1_2 a1_3 a1_4 a1_5 = some (r1, r2, r3)) ∧ Aside0 (kq ≤ k) ∧ Aside0 (wc.heap[gb293]? = some (.cells #[.int .i64 x294000_2, .int .i64 a1_1, .int .i64 a1_2, .int .i64 a1_3, .int .i64 a1_4, .int .i64 a1_5] 31 (0, 0))) ∧ Aside0 (Below w.heap.size w wc))
 case first =>
  have H := HC3.out
  clear HC3
  by_cases c6 : (l0.length : Int) > 0
  ·
   rw [if_pos c6] at H
   have c6b0 : decide (0 < (l0.length : Int)) = true := decide_eq_true c6
   have c6b1 : decide (0 < l0.length) = true := decide_eq_true (by omega)
   clear c6
   (first | rw [c6b0] | (simp only [i64_w, i32_w]; rw [c6b0]) | rw [c6b1] | skip)
   obtain ⟨ji7, hji7⟩ : ∃ j_ : Int, (wrap64 ((l0.length : Int) - 1)) = j_ := ⟨_, rfl⟩
   replace H : (if 0 ≤ (ji7) then (if (ji7) < (l0.length : Int) then (impl_issued.j0 k l0 (wrap64 (((rd_T31 l0 (ji7)).f0) + 1)) a1_1 a1_2 a1_3 a1_4 a1_5) else (none)) else (none)) = some (r1, r2, r3) := by first | (rw [hji7] at H; exact H) | (simp only [hji7] at H ⊢; exact H)
   have hji7w : (IntKind.i64.wrap ((l0.length : Int) - 1)) = ji7 := (i64_w _).trans hji7
   by_cases c8 : 0 ≤ (ji7)
   ·
    rw [if_pos c8] at H
    have c8b0 : decide (0 ≤ (ji7)) = true := decide_eq_true c8
    clear c8
    by_cases c9 : (ji7) < (l0.length : Int)
    ·
     rw [if_pos c9] at H
     have c9b0 : decide ((ji7) < (l0.length : Int)) = true := decide_eq_true c9
     clear c9
     have H' := Aside0.mk H
     clear H
     have p294 : 0 ≤ ((ji7) : Int) := of_decide_eq_true zq2
     have q294 : (ji7) < (l0.length : Int) := of_decide_eq_true zq2
     obtain ⟨ad294, e294, hx294_0, hx294_1, hx294_2, hx294_3, hx294_4, hx294_5⟩ := at_T31 HR0.out (ji7) p294 q294
     cases e294
     have hn294_0 : ad294.block ≠ gb293 := Nat.ne_of_lt (Nat.lt_of_lt_of_le (by have := World.block_lt_of_cell? _ _ hx294_0; first | rwa [add_block] at this | exact this) GW293.out)
     replace hx294_0 := (HB.out.cell (World.block_lt_of_cell? w _ hx294_0)).trans hx294_0
     replace hx294_1 := (HB.out.cell (World.block_lt_of_cell? w _ hx294_1)).trans hx294_1
     replace hx294_2 := (HB.out.cell (World.block_lt_of_cell? w _ hx294_2)).trans hx294_2
     replace hx294_3 := (HB.out.cell (World.block_lt_of_cell? w _ hx294_3)).trans hx294_3
     replace hx294_4 := (HB.out.cell (World.block_lt_of_cell? w _ hx294_4)).trans hx294_4
     replace hx294_5 := (HB.out.cell (World.block_lt_of_cell? w _ hx294_5)).trans hx294_5
     replace hx294_0 := (cell_far (p := ⟨gb293, 0, none⟩) (by first | (rw [add_block]; exact hn294_0) | (show (Addr.add _ _).block ≠ _; rw [add_block]; exact hn294_0) | exact hn294_0) (.int .i64 1)).trans hx294_0
     replace hx294_1 := (cell_far (p := ⟨gb293, 0, none⟩) (by first | (rw [add_block]; exact hn294_0) | (show (Addr.add _ _).block ≠ _; rw [add_block]; exact hn294_0) | exact hn294_0) (.int .i64 1)).trans hx294_1
     replace hx294_2 := (cell_far (p := ⟨gb293, 0, none⟩) (by first | (rw [add_block]; exact hn294_0) | (show (Addr.add _ _).block ≠ _; rw [add_block]; exact hn294_0) | exact hn294_0) (.int .i64 1)).trans hx294_2
     replace hx294_3 := (cell_far (p := ⟨gb293, 0, none⟩) (by first | (rw [add_block]; exact hn294_0) | (show (Addr.add _ _).block ≠ _; rw [add_block]; exact hn294_0) | exact hn294_0) (.int .i64 1)).trans hx294_3
     replace hx294_4 := (cell_far (p := ⟨gb293, 0, none⟩) (by first | (rw [add_block]; exact hn294_0) | (show (Addr.add _ _).block ≠ _; rw [add_block]; exact hn294_0) | exact hn294_0) (.int .i64 1)).trans hx294_4
     replace hx294_5 := (cell_far (p := ⟨gb293, 0, none⟩) (by first | (rw [add_block]; exact hn294_0) | (show (Addr.add _ _).block ≠ _; rw [add_block]; exact hn294_0) | exact hn294_0) (.int .i64 1)).trans hx294_5
     clear hn294_0
     replace p294 := eq_true p294
     replace q294 := eq_true q294
     have hcz10_0 : w4.cell? ⟨gb293, 0, none⟩ = some (.int .i64 a1_0) := (blk_cell BK293.out 0).trans rfl
     have hcz10_1 : w4.cell? ⟨gb293, 1, none⟩ = some (.int .i64 a1_1) := (blk_cell BK293.out 1).trans rfl
     have hcz10_2 : w4.cell? ⟨gb293, 2, none⟩ = some (.int .i64 a1_2) := (blk_cell BK293.out 2).trans rfl
     have hcz10_3 : w4.cell? ⟨gb293, 3, none⟩ = some (.int .i64 a1_3) := (blk_cell BK293.out 3).trans rfl
     have hcz10_4 : w4.cell? ⟨gb293, 4, none⟩ = some (.int .i64 a1_4) := (blk_cell BK293.out 4).trans rfl
     have hcz10_5 : w4.cell? ⟨gb293, 5, none⟩ = some (.int .i64 a1_5) := (blk_cell BK293.out 5).trans rfl
     have hfz10_0 := blk_frozen BK293.out 0
     have hfz10_1 := blk_frozen BK293.out 1
     have hfz10_2 := blk_frozen BK293.out 2
     have hfz10_3 := blk_frozen BK293.out 3
     have hfz10_4 := blk_frozen BK293.out 4
     have hfz10_5 := blk_frozen BK293.out 5
     go_wp2
     go_meet
     case rel => exact ⟨_, (wrap64 (((rd_T31 l0 (ji7)).f0) + 1)), H', ⟨by first | omega | exact Nat.le_refl _⟩, ⟨by (with_reducible repeat (first | refine blk_drewN ?_ _ | refine blk_drew ?_ | refine blk_alloc ?_ _)); refine blk_put (cs := #[.int .i64 1, .int .i64 a1_1, .int .i64 a1_2, .int .i64 a1_3, .int .i64 a1_4, .int .i64 a1_5]) ?_ 0 _ rfl; (with_reducible repeat (first | refine blk_drewN ?_ _ | refine blk_drew ?_ | refine blk_alloc ?_ _)); refine blk_put (cs := #[.int .i64 a1_0, .int .i64 a1_1, .int .i64 a1_2, .int .i64 a1_3, .int .i64 a1_4, .int .i64 a1_5]) ?_ 0 _ rfl; (with_reducible repeat (first | refine blk_drewN ?_ _ | refine blk_drew ?_ | refine blk_alloc ?_ _)); exact BK293.out⟩, ⟨by repeat (first | (with_reducible first | exact HB.out | apply below_alloc | apply pw_below_drewN | apply below_drew1 | refine below_set ?_ GE293.out) | exact HB.out)⟩⟩
    ·
     rw [if_neg c9] at H
     exact absurd H (by simp)
   ·
    rw [if_neg c8] at H
    exact absurd H (by simp)
  ·
   rw [if_neg c6] at H
   have c6b0 : decide (0 < (l0.length : Int)) = false := decide_eq_false c6
   have c6b1 : decide (0 < l0.length) = false := decide_eq_false (by omega)
   clear c6
   (first | rw [c6b0] | (simp only [i64_w, i32_w]; rw [c6b0]) | rw [c6b1] | skip)
   have H' := Aside0.mk H
   clear H
   go_wp2
   go_meet
   case rel => exact ⟨_, (1), H', ⟨by first | omega | exact Nat.le_refl _⟩, ⟨by (with_reducible repeat (first | refine blk_drewN ?_ _ | refine blk_drew ?_ | refine blk_alloc ?_ _)); refine blk_put (cs := #[.int .i64 a1_0, .int .i64 a1_1, .int .i64 a1_2, .int .i64 a1_3, .int .i64 a1_4, .int .i64 a1_5]) ?_ 0 _ rfl; (with_reducible repeat (first | refine blk_drewN ?_ _ | refine blk_drew ?_ | refine blk_alloc ?_ _)); exact BK293.out⟩, ⟨by repeat (first | (with_reducible first | exact HB.out | apply below_alloc | apply pw_below_drewN | apply below_drew1 | refine below_set ?_ GE293.out) | exact HB.out)⟩⟩
 case rest =>
  clear HC3
  try clear p2
  try clear q2
  try clear hx2
  try clear c6
  try clear c6b0
  try clear c6b1
  try clear p6
  try clear c8
  try clear c8b0
  try clear c9
  try clear c9b0
  try clear hcz10_0
  try clear hcz10_1
  try clear hcz10_2
  try clear hcz10_3
  try clear hcz10_4
  try clear hcz10_5
  try clear hcz5_0
  try clear hcz5_1
  try clear hcz5_2
  try clear hcz5_3
  try clear hcz5_4
  try clear hcz5_5
  try clear hfz10_0
  try clear hfz10_1
  try clear hfz10_2
  try clear hfz10_3
  try clear hfz10_4
  try clear hfz10_5
  try clear hfz5_0
  try clear hfz5_1
  try clear hfz5_2
  try clear hfz5_3
  try clear hfz5_4
  try clear hfz5_5
  try clear hx294_0
  try clear hx294_1
  try clear hx294_2
  try clear hx294_3
  try clear hx294_4
  try clear hx294_5
  try clear p294
  try clear q294
  obtain ⟨kq, x294000_2, HA, HJ2, BK293, HB⟩ := hcut
  cases kq with
  | zero => exact absurd HA.out (by simp [impl_issued.j0])
  | succ kj2 =>
   have H := HA.out
   clear HA
   simp only [impl_issued.j0] at H
   replace H := Option.bind_eq_some_iff.mp H
   obtain ⟨t295, A110, H⟩ := H
   replace H : ((some (([(⟨x294000_2, a1_1, a1_2, a1_3, a1_4, a1_5⟩ : S31)] : List (S31)) : List (S31))).bind fun y298 => (if t295.length + y298.length < 2932031007402 then ((impl_checkedWarnings.f kj2 (t295 ++ y298)).bind fun bt304 => (impl_issued.j1 kj2 bt304.1 (!bt304.2) x294000_2 a1_1 a1_2 a1_3 a1_4 a1_5)) else (none))) = some (r1, r2, r3) := H
   have A11 := Aside0.mk A110
   clear A110
   obtain ⟨y298, hy298⟩ : ∃ y_ : List (S31), y_ = (([(⟨x294000_2, a1_1, a1_2, a1_3, a1_4, a1_5⟩ : S31)] : List (S31))) := ⟨_, rfl⟩
   replace H : (if t295.length + y298.length < 2932031007402 then ((impl_checkedWarnings.f kj2 (t295 ++ y298)).bind fun bt304 => (impl_issued.j1 kj2 bt304.1 (!bt304.2) x294000_2 a1_1 a1_2 a1_3 a1_4 a1_5)) else (none)) = some (r1, r2, r3) := by first | (rw [hy298]; with_reducible exact H) | (have H2_ := (Option.bind_some _ _).symm.trans H; rw [hy298]; with_reducible exact H2_) | (have H2_ := (Option.bind_some _ _).symm.trans H; with_reducible exact H2_) | with_reducible exact H | (rw [hy298]; exact H) | exact H
   have Ny298 := Aside0.mk hy298
   clear hy298
   by_cases c12 : t295.length + y298.length < 2932031007402
   ·
    rw [if_pos c12] at H
    have LMc12 := Aside0.mk c12
    clear c12
    obtain ⟨y301, hy301⟩ : ∃ y_ : List (S31), y_ = (t295 ++ y298) := ⟨_, rfl⟩
    replace H : ((impl_checkedWarnings.f kj2 y301).bind fun bt304 => (impl_issued.j1 kj2 bt304.1 (!bt304.2) x294000_2 a1_1 a1_2 a1_3 a1_4 a1_5)) = some (r1, r2, r3) := by first | (rw [hy301]; with_reducible exact H) | (have H2_ := (Option.bind_some _ _).symm.trans H; rw [hy301]; with_reducible exact H2_) | (have H2_ := (Option.bind_some _ _).symm.trans H; with_reducible exact H2_) | with_reducible exact H | (rw [hy301]; exact H) | exact H
    have Ny301 := Aside0.mk hy301
    clear hy301
    replace H := Option.bind_eq_some_iff.mp H
    obtain ⟨⟨t304, t307⟩, A130, H⟩ := H
    replace H : (impl_issued.j1 kj2 t304 (!t307) x294000_2 a1_1 a1_2 a1_3 a1_4 a1_5) = some (r1, r2, r3) := H
    have A13 := Aside0.mk A130
    clear A130
    have HC14 := Aside0.mk H
    clear H
    try go_wp2
    have n0_ := Aside0.mk (blk_drew BK293.out)
    have n1_ := Aside0.mk (below_drew1 HB.out)
    clear BK293
    clear HB
    have BK293 := n0_
    have HB := n1_
    clear n0_ n1_
    refine start_ (n := 11) (S := fun w' => w'.cell? ⟨gb293, 0, none⟩ = some (.int .i64 x294000_2) ∧ w'.cell? ⟨gb293, 1, none⟩ = some (.int .i64 a1_1) ∧ w'.cell? ⟨gb293, 2, none⟩ = some (.int .i64 a1_2) ∧ w'.cell? ⟨gb293, 3, none⟩ = some (.int .i64 a1_3) ∧ w'.cell? ⟨gb293, 4, none⟩ = some (.int .i64 a1_4) ∧ w'.cell? ⟨gb293, 5, none⟩ = some (.int .i64 a1_5)) (ds := []) #[false, false, false, false, false, false, false, false, false, false, false] (by kernel_rfl) rfl rfl ⟨(blk_cell BK293.out 0).trans rfl, (blk_cell BK293.out 1).trans rfl, (blk_cell BK293.out 2).trans rfl, (blk_cell BK293.out 3).trans rfl, (blk_cell BK293.out 4).trans rfl, (blk_cell BK293.out 5).trans rfl⟩ (fun hHeld => ?_); refine with_tabW impl_issued.tab4 impl_issued.bits4 (fun HT_ HW_ => ?_)
    generalize wc.drew = w15 at BK293 HB hHeld ⊢
    refine pure_ (i := 0) (N := some 23) (v := ?_) (a' := ?_) #[true, false, false, false, false, false, false, false, false, false, false] rfl rfl (any_of HT_.out (by kernel_rfl)) (fun _ _ _ h => h) (Or.inl ⟨by rfl, ?_⟩) ?_ ?_
    rotate_left
    · exact zqB
    rotate_left
    · exact zqA
    refine take_ (i := 2) (N := some 25) (v := ?_) (a' := ?_) #[true, false, true, false, false, false, false, false, false, false, false] rfl rfl (take_ofW HT_.out HW_.out (by kernel_rfl)) (fun _ _ _ h => h) (Or.inl ⟨by rfl, ?_⟩) hHeld ?_ ?_
    rotate_left
    ·
     rintro w' ⟨s0, s1, s2, s3, s4, s5⟩
     go_simp
     with_reducible rfl
    rotate_left
    · exact zqA
    refine join_ (σ := Value × Value) 7 #[true, true, true, true, false, false, false, false, false, false, false] (fun s_ => [(24, s_.1), (26, s_.2)]) (fun s_ w' => (w'.cell? ⟨gb293, 0, none⟩ = some (.int .i64 x294000_2) ∧ w'.cell? ⟨gb293, 1, none⟩ = some (.int .i64 a1_1) ∧ w'.cell? ⟨gb293, 2, none⟩ = some (.int .i64 a1_2) ∧ w'.cell? ⟨gb293, 3, none⟩ = some (.int .i64 a1_3) ∧ w'.cell? ⟨gb293, 4, none⟩ = some (.int .i64 a1_4) ∧ w'.cell? ⟨gb293, 5, none⟩ = some (.int .i64 a1_5)) ∧ (Kd.R k31 31 w' w.heap.size (fun k_ => some k_ ≠ (s_.2 : Value).ownBlock ∧ k_ ≠ gb293) s_.1 t295) ∧ (Kd.R k31 31 w' w.heap.size (fun k_ => some k_ ≠ (s_.1 : Value).ownBlock ∧ k_ ≠ gb293) s_.2 y298) ∧ (w'.heap[gb293]? = some (.cells #[.int .i64 x294000_2, .int .i64 a1_1, .int .i64 a1_2, .int .i64 a1_3, .int .i64 a1_4, .int .i64 a1_5] 31 (0, 0))) ∧ (Below w.heap.size w w')) ?_ ?_
    rotate_left
    ·
     intro hCont
     refine two_ (i := 1) (j := 3) (Ni := some 24) (Nj := some 26) #[true, true, true, false, false, false, false, false, false, false, false] #[true, false, true, true, false, false, false, false, false, false, false] rfl rfl rfl rfl (two_of HT_.out (by kernel_rfl)) (by decide) (by decide) (fun K hK => ?_) (fun K hK => ?_)
     ·
      skip
      refine goes_ Try.func61 (by kernel_rfl) rfl #[.slice A0 l0.length c0] (by rfl) rfl rfl zq1 ?_
      with_reducible refine (impl_Warning_61.calls _ _ l0 t295 _ ?side1 ?side2 A11.out).mono ?_
      (case side1 => repeat (first | exact (Kd.C_below HR0.out HB.out) | (with_reducible refine Kd.C_alloc ?_ _) | (with_reducible refine Kd.C_drewN ?_ _) | (with_reducible refine Kd.C_drew ?_)))
      (case side2 => exact HC0.out)
      rintro e w16 ⟨v296, rfl, ho0, hb⟩
      refine ⟨_, rfl, ?_⟩
      have n0_ := Aside0.mk (Kd.R_lower (Kd.R_newB ho0 (g := gb293) (o := .cells #[.int .i64 x294000_2, .int .i64 a1_1, .int .i64 a1_2, .int .i64 a1_3, .int .i64 a1_4, .int .i64 a1_5] 31 (0, 0)) (zqK BK293.out)) (below_size zq14))
      have n1_ := Aside0.mk (blk_below (g := gb293) (o := .cells #[.int .i64 x294000_2, .int .i64 a1_1, .int .i64 a1_2, .int .i64 a1_3, .int .i64 a1_4, .int .i64 a1_5] 31 (0, 0)) (zqK BK293.out) hb)
      have n2_ := Aside0.mk (below_step zq14 hb)
      clear BK293
      clear HB
      have HO297 := n0_
      have BK293 := n1_
      have HB := n2_
      clear n0_ n1_ n2_
      (try clear hb)
      (try clear hb2)
      (try clear hk)
      (try clear hi)
      (try clear ho0)
      refine hK.out _ _ ⟨(blk_cell BK293.out 0).trans rfl, (blk_cell BK293.out 1).trans rfl, (blk_cell BK293.out 2).trans rfl, (blk_cell BK293.out 3).trans rfl, (blk_cell BK293.out 4).trans rfl, (blk_cell BK293.out 5).trans rfl⟩ (fun hHeld => ?_)
      clear hK K
      refine norm_ (a' := ?_) ?_ ?_
      rotate_left
      ·
       show Act.put _ (some 24) _ = _
       simp only [Act.put, List.setIfInBounds_toArray, List.set_cons_zero, List.set_cons_succ, i64_w, i32_w]
       rfl
      refine one_ (i := 3) (N := some 26) #[true, true, true, true, false, false, false, false, false, false, false] rfl rfl (one_of HT_.out (by kernel_rfl)) (by decide) (fun K hK => ?_)
      refine Kd.R_lit_step k31 _ 31 ?hg (N := 26) ?hd (xs := ([(⟨x294000_2, a1_1, a1_2, a1_3, a1_4, a1_5⟩ : S31)] : List (S31))) (inner := [.int .i64 x294000_2, .int .i64 a1_1, .int .i64 a1_2, .int .i64 a1_3, .int .i64 a1_4, .int .i64 a1_5]) (ok := fun _ => True) (okp := fun _ => True) ?hr ?hp (fun _ hk => hk) trivial (Below.refl _ _) (Nat.le_refl _) (by simp) ?_; (case hd => rfl); (case hg => rfl); (case hr => first | (go_simp; done) | (go_simp; rfl)); (case hp => exact (Reps.c6 (show Kd.M k31 _ _ _ (⟨x294000_2, a1_1, a1_2, a1_3, a1_4, a1_5⟩ : S31) [.int .i64 x294000_2, .int .i64 a1_1, .int .i64 a1_2, .int .i64 a1_3, .int .i64 a1_4, .int .i64 a1_5] from (k31_mkM _ _ _ (⟨x294000_2, a1_1, a1_2, a1_3, a1_4, a1_5⟩ : S31) )) (Reps.none _ _)))
      intro v299 w17 ho18 hb hg_ hnew_
      clear hg_ hnew_
      (first | rw [← Ny298.out] at ho18 | (simp only [Int.reduceToNat] at ho18; rw [← Ny298.out] at ho18))
      have n0_ := Aside0.mk (Kd.R_elder' (zqR HO297.out) (Kd.R_base ho18) hb)
      have n1_ := Aside0.mk (Kd.R_lower (Kd.R_newB (Kd.R_new' ho18 (Kd.R_lt (zqR HO297.out))) (g := gb293) (o := .cells #[.int .i64 x294000_2, .int .i64 a1_1, .int .i64 a1_2, .int .i64 a1_3, .int .i64 a1_4, .int .i64 a1_5] 31 (0, 0)) (zqK BK293.out)) (below_size zq14))
      have n2_ := Aside0.mk (blk_below (g := gb293) (o := .cells #[.int .i64 x294000_2, .int .i64 a1_1, .int .i64 a1_2, .int .i64 a1_3, .int .i64 a1_4, .int .i64 a1_5] 31 (0, 0)) (zqK BK293.out) hb)
      have n3_ := Aside0.mk (below_step zq14 hb)
      clear HO297
      clear BK293
      clear HB
      have HO297 := n0_
      have HO300 := n1_
      have BK293 := n2_
      have HB := n3_
      clear n0_ n1_ n2_ n3_
      clear hb ho18
      refine hK.out _ _ ⟨(blk_cell BK293.out 0).trans rfl, (blk_cell BK293.out 1).trans rfl, (blk_cell BK293.out 2).trans rfl, (blk_cell BK293.out 3).trans rfl, (blk_cell BK293.out 4).trans rfl, (blk_cell BK293.out 5).trans rfl⟩ (fun hHeld => ?_)
      clear hK K
      refine norm_ (a' := ?_) ?_ ?_
      rotate_left
      ·
       show Act.put _ (some 26) _ = _
       simp only [Act.put, List.setIfInBounds_toArray, List.set_cons_zero, List.set_cons_succ, i64_w, i32_w]
       rfl
      exact norm_ (by simp only [putAll, Act.put, List.setIfInBounds_toArray, List.set_cons_zero, List.set_cons_succ]) (hCont (v296, v299) _ ⟨hHeld, (by (with_reducible repeat (first | apply Kd.R_alloc | apply Kd.R_drewN | apply Kd.R_drew)); exact Kd.R_mono HO297.out (fun _ hk => ⟨hk.2, hk.1.2⟩)), (by (with_reducible repeat (first | apply Kd.R_alloc | apply Kd.R_drewN | apply Kd.R_drew)); exact Kd.R_mono HO300.out (fun _ hk => ⟨hk.1.2, hk.2⟩)), (zqK BK293.out), zq14⟩)
     ·
      skip
      refine Kd.R_lit_step k31 _ 31 ?hg (N := 26) ?hd (xs := ([(⟨x294000_2, a1_1, a1_2, a1_3, a1_4, a1_5⟩ : S31)] : List (S31))) (inner := [.int .i64 x294000_2, .int .i64 a1_1, .int .i64 a1_2, .int .i64 a1_3, .int .i64 a1_4, .int .i64 a1_5]) (ok := fun _ => True) (okp := fun _ => True) ?hr ?hp (fun _ hk => hk) trivial (Below.refl _ _) (Nat.le_refl _) (by simp) ?_; (case hd => rfl); (case hg => rfl); (case hr => first | (go_simp; done) | (go_simp; rfl)); (case hp => exact (Reps.c6 (show Kd.M k31 _ _ _ (⟨x294000_2, a1_1, a1_2, a1_3, a1_4, a1_5⟩ : S31) [.int .i64 x294000_2, .int .i64 a1_1, .int .i64 a1_2, .int .i64 a1_3, .int .i64 a1_4, .int .i64 a1_5] from (k31_mkM _ _ _ (⟨x294000_2, a1_1, a1_2, a1_3, a1_4, a1_5⟩ : S31) )) (Reps.none _ _)))
      intro v299 w16 ho17 hb hg_ hnew_
      clear hg_ hnew_
      (first | rw [← Ny298.out] at ho17 | (simp only [Int.reduceToNat] at ho17; rw [← Ny298.out] at ho17))
      have n0_ := Aside0.mk (Kd.R_lower (Kd.R_newB ho17 (g := gb293) (o := .cells #[.int .i64 x294000_2, .int .i64 a1_1, .int .i64 a1_2, .int .i64 a1_3, .int .i64 a1_4, .int .i64 a1_5] 31 (0, 0)) (zqK BK293.out)) (below_size zq14))
      have n1_ := Aside0.mk (blk_below (g := gb293) (o := .cells #[.int .i64 x294000_2, .int .i64 a1_1, .int .i64 a1_2, .int .i64 a1_3, .int .i64 a1_4, .int .i64 a1_5] 31 (0, 0)) (zqK BK293.out) hb)
      have n2_ := Aside0.mk (below_step zq14 hb)
      clear BK293
      clear HB
      have HO300 := n0_
      have BK293 := n1_
      have HB := n2_
      clear n0_ n1_ n2_
      clear hb ho17
      refine hK.out _ _ ⟨(blk_cell BK293.out 0).trans rfl, (blk_cell BK293.out 1).trans rfl, (blk_cell BK293.out 2).trans rfl, (blk_cell BK293.out 3).trans rfl, (blk_cell BK293.out 4).trans rfl, (blk_cell BK293.out 5).trans rfl⟩ (fun hHeld => ?_)
      clear hK K
      refine norm_ (a' := ?_) ?_ ?_
      rotate_left
      ·
       show Act.put _ (some 26) _ = _
       simp only [Act.put, List.setIfInBounds_toArray, List.set_cons_zero, List.set_cons_succ, i64_w, i32_w]
       rfl
      refine one_ (i := 1) (N := some 24) #[true, true, true, true, false, false, false, false, false, false, false] rfl rfl (one_of HT_.out (by kernel_rfl)) (by decide) (fun K hK => ?_)
      refine goes_ Try.func61 (by kernel_rfl) rfl #[.slice A0 l0.length c0] (by rfl) rfl rfl zq1 ?_
      with_reducible refine (impl_Warning_61.calls _ _ l0 t295 _ ?side1 ?side2 A11.out).mono ?_
      (case side1 => repeat (first | exact (Kd.C_below HR0.out HB.out) | (with_reducible refine Kd.C_alloc ?_ _) | (with_reducible refine Kd.C_drewN ?_ _) | (with_reducible refine Kd.C_drew ?_)))
      (case side2 => exact HC0.out)
      rintro e w18 ⟨v296, rfl, ho0, hb⟩
      refine ⟨_, rfl, ?_⟩
      have n0_ := Aside0.mk (Kd.R_elder' (zqR HO300.out) (Kd.R_base ho0) hb)
      have n1_ := Aside0.mk (Kd.R_lower (Kd.R_newB (Kd.R_new' ho0 (Kd.R_lt (zqR HO300.out))) (g := gb293) (o := .cells #[.int .i64 x294000_2, .int .i64 a1_1, .int .i64 a1_2, .int .i64 a1_3, .int .i64 a1_4, .int .i64 a1_5] 31 (0, 0)) (zqK BK293.out)) (below_size zq14))
      have n2_ := Aside0.mk (blk_below (g := gb293) (o := .cells #[.int .i64 x294000_2, .int .i64 a1_1, .int .i64 a1_2, .int .i64 a1_3, .int .i64 a1_4, .int .i64 a1_5] 31 (0, 0)) (zqK BK293.out) hb)
      have n3_ := Aside0.mk (below_step zq14 hb)
      clear HO300
      clear BK293
      clear HB
      have HO300 := n0_
      have HO297 := n1_
      have BK293 := n2_
      have HB := n3_
      clear n0_ n1_ n2_ n3_
      (try clear hb)
      (try clear hb2)
      (try clear hk)
      (try clear hi)
      (try clear ho0)
      refine hK.out _ _ ⟨(blk_cell BK293.out 0).trans rfl, (blk_cell BK293.out 1).trans rfl, (blk_cell BK293.out 2).trans rfl, (blk_cell BK293.out 3).trans rfl, (blk_cell BK293.out 4).trans rfl, (blk_cell BK293.out 5).trans rfl⟩ (fun hHeld => ?_)
      clear hK K
      refine norm_ (a' := ?_) ?_ ?_
      rotate_left
      ·
       show Act.put _ (some 24) _ = _
       simp only [Act.put, List.setIfInBounds_toArray, List.set_cons_zero, List.set_cons_succ, i64_w, i32_w]
       rfl
      exact norm_ (by simp only [putAll, Act.put, List.setIfInBounds_toArray, List.set_cons_zero, List.set_cons_succ]) (hCont (v296, v299) _ ⟨hHeld, (by (with_reducible repeat (first | apply Kd.R_alloc | apply Kd.R_drewN | apply Kd.R_drew)); exact Kd.R_mono HO297.out (fun _ hk => ⟨hk.1.2, hk.2⟩)), (by (with_reducible repeat (first | apply Kd.R_alloc | apply Kd.R_drewN | apply Kd.R_drew)); exact Kd.R_mono HO300.out (fun _ hk => ⟨hk.2, hk.1.2⟩)), (zqK BK293.out), zq14⟩)
    rintro ⟨v296, v299⟩ w19 ⟨hS_, h0_, h1_, h2_, h3_⟩
    have n0_ : Aside0 (Kd.R k31 31 w19 w.heap.size (fun k_ => some k_ ≠ (v299 : Value).ownBlock ∧ k_ ≠ gb293) v296 t295) := ⟨h0_⟩
    have n1_ : Aside0 (Kd.R k31 31 w19 w.heap.size (fun k_ => some k_ ≠ (v296 : Value).ownBlock ∧ k_ ≠ gb293) v299 y298) := ⟨h1_⟩
    have n2_ : Aside0 (w19.heap[gb293]? = some (.cells #[.int .i64 x294000_2, .int .i64 a1_1, .int .i64 a1_2, .int .i64 a1_3, .int .i64 a1_4, .int .i64 a1_5] 31 (0, 0))) := ⟨h2_⟩
    have n3_ : Aside0 (Below w.heap.size w w19) := ⟨h3_⟩
    clear BK293
    clear HB
    clear h0_ h1_ h2_ h3_
    have HO297 := n0_
    have HO300 := n1_
    have BK293 := n2_
    have HB := n3_
    clear n0_ n1_ n2_ n3_
    have hHeld : w19.cell? ⟨gb293, 0, none⟩ = some (.int .i64 x294000_2) ∧ w19.cell? ⟨gb293, 1, none⟩ = some (.int .i64 a1_1) ∧ w19.cell? ⟨gb293, 2, none⟩ = some (.int .i64 a1_2) ∧ w19.cell? ⟨gb293, 3, none⟩ = some (.int .i64 a1_3) ∧ w19.cell? ⟨gb293, 4, none⟩ = some (.int .i64 a1_4) ∧ w19.cell? ⟨gb293, 5, none⟩ = some (.int .i64 a1_5) := hS_
    obtain ⟨Ao21, co21, eo21⟩ := Kd.R_slice HO300.out
    (first | subst eo21 | (injection eo21 with f1_ f2_ f3_; have f4_ := f1_.symm; have f5_ := f3_.symm; clear f1_ f2_ f3_; subst f4_; subst f5_))
    refine norm_ (a' := ?_) ?_ ?_
    rotate_left
    ·
     simp only [putAll, Act.put, List.setIfInBounds_toArray, List.set_cons_zero, List.set_cons_succ]
     rfl
    refine one_ (i := 4) (N := some 27) #[true, true, true, true, true, false, false, false, false, false, false] rfl rfl (one_of HT_.out (by kernel_rfl)) (by decide) (fun K hK => ?_)
    refine Kd.R_append_rows_step k31 (w0 := w) w.heap.size (by rfl) (.tmp 24) (.tmp 26) 24 31 (.agg #[(.int .i64 0), (.int .i64 0), (.int .i64 0), (.int .i64 0), (.int .i64 0), (.int .i64 0)]) 48 rfl Try.underlying24 info31 rfl (by decide) (by omega) v296 t295 y298 _ _ _ (fun k_ => some k_ ≠ (.slice Ao21 y298.length co21 : Value).ownBlock ∧ k_ ≠ gb293) (fun _ => False) rfl rfl ?aO ?aR (fun _ _ h => h) (fun _ h => h.elim) ?aF ?aB ?aS ?aL ?_
    (case aR => repeat (first | exact (Kd.R_reads' HO300.out).2.2 | (with_reducible refine Kd.C_alloc ?_ _) | (with_reducible refine Kd.C_drewN ?_ _) | (with_reducible refine Kd.C_drew ?_)))
    (case aB => exact zq14)
    (case aF => exact (fun k_ hk => ⟨Kd.fresh' (Kd.R_lt (zqR HO300.out)) k_ hk, Kd.freshB (g := gb293) (o := .cells #[.int .i64 x294000_2, .int .i64 a1_1, .int .i64 a1_2, .int .i64 a1_3, .int .i64 a1_4, .int .i64 a1_5] 31 (0, 0)) (zqK BK293.out) k_ hk⟩))
    (case aO => exact (zqR HO297.out))
    (case aS => exact (below_size zq14))
    (case aL => have := LMc12.out; omega)
    intro v302 w20 ho hb hg hat
    rw [← Ny301.out] at ho
    have n0_ := Aside0.mk (blk_grown (g := gb293) (o := .cells #[.int .i64 x294000_2, .int .i64 a1_1, .int .i64 a1_2, .int .i64 a1_3, .int .i64 a1_4, .int .i64 a1_5] 31 (0, 0)) (zqK BK293.out) hg (Kd.R_away HO297.out (fun _ hk => hk.2)))
    have n1_ := Aside0.mk (Kd.R_after (ok := (fun k_ => k_ ≠ gb293)) (by (with_reducible repeat (first | apply Kd.R_alloc | apply Kd.R_drewN | apply Kd.R_drew)); exact Kd.R_mono HO300.out (fun _ hk => ⟨hk.2, hk.1⟩)) hg hat)
    have n2_ := Aside0.mk (hb)
    have n3_ := Aside0.mk (ho)
    clear BK293
    clear HO300
    clear HB
    clear HO297
    have BK293 := n0_
    have HO300 := n1_
    have HB := n2_
    have HO303 := n3_
    clear n0_ n1_ n2_ n3_
    clear ho hb hg hat
    obtain ⟨Ao22, co22, eo22⟩ := Kd.R_slice HO303.out
    (first | subst eo22 | (injection eo22 with f1_ f2_ f3_; have f4_ := f1_.symm; have f5_ := f3_.symm; clear f1_ f2_ f3_; subst f4_; subst f5_))
    refine hK.out _ _ ⟨(blk_cell BK293.out 0).trans rfl, (blk_cell BK293.out 1).trans rfl, (blk_cell BK293.out 2).trans rfl, (blk_cell BK293.out 3).trans rfl, (blk_cell BK293.out 4).trans rfl, (blk_cell BK293.out 5).trans rfl⟩ (fun hHeld => ?_)
    clear hK K
    refine norm_ (a' := ?_) ?_ ?_
    rotate_left
    ·
     show Act.put _ (some 27) _ = _
     simp only [Act.put, List.setIfInBounds_toArray, List.set_cons_zero, List.set_cons_succ, i64_w, i32_w]
     rfl
    refine one_ (i := 5) (N := some 28) #[true, true, true, true, true, true, false, false, false, false, false] rfl rfl (one_of HT_.out (by kernel_rfl)) (by decide) (fun K hK => ?_)
    refine goes_ Try.func85 (by kernel_rfl) rfl #[.slice Ao22 y301.length co22] (by rfl) rfl rfl zq1 ?_
    with_reducible refine (impl_checkedWarnings.calls kj2 (fun k_ => some k_ = (.slice Ao22 y301.length co22 : Value).ownBlock) (.slice Ao22 y301.length co22) y301 t304 t307 w _ ?side1 ?side2 A13.out).mono ?_
    (case side1 => repeat (first | (with_reducible first | exact HB.out | apply below_alloc | apply pw_below_drewN | apply below_drew1 | refine below_set ?_ GE293.out) | exact HB.out))
    (case side2 => exact Kd.R_tight rfl HO303.out)
    rintro e w23 ⟨v305, rfl, ho0, hb, hkp⟩
    refine ⟨_, rfl, ?_⟩
    have n0_ := Aside0.mk (blk_kept (zqK BK293.out) hkp (fun hs_ => (fun e_ => (Kd.R_away HO303.out (fun _ hk => hk.2)) e_) hs_))
    have n1_ := Aside0.mk (Kd.R_mono (ok' := fun k_ => k_ ≠ gb293 ∧ some k_ ≠ (v305 : Value).ownBlock) (Kd.R_keptB (HO300.out) hkp (fun k_ hk_ hs_ => (hk_.2) hs_)) (fun k_ hk_ => ⟨hk_.1.1, fun e_ => Or.elim (ho0.1 k_ e_.symm) (fun hs_ => hk_.2.1 hs_) (fun hn_ => Nat.not_le.2 hk_.2.2 hn_)⟩))
    have n2_ := Aside0.mk (Kd.R_mono (ok' := fun k_ => some k_ ≠ (.slice Ao21 y298.length co21 : Value).ownBlock ∧ k_ ≠ gb293) ho0 (fun k_ hk_ => ⟨Or.elim hk_ (fun hs_ => fun e_ => (((HO300.out).1 k_ e_.symm).2) hs_) (fun hn_ => (Kd.fresh' (Kd.R_lt (zqR HO300.out)) k_ hn_)), Or.elim hk_ (fun hs_ => fun e_ => (Kd.R_away HO303.out (fun _ hk => hk.2)) (by rw [← e_]; exact hs_)) (fun hn_ => (Kd.freshB (g := gb293) (o := .cells #[.int .i64 x294000_2, .int .i64 a1_1, .int .i64 a1_2, .int .i64 a1_3, .int .i64 a1_4, .int .i64 a1_5] 31 (0, 0)) (zqK BK293.out) k_ hn_))⟩))
    have n3_ := Aside0.mk (hb)
    clear BK293
    clear HO300
    clear HB
    clear HO303
    have BK293 := n0_
    have HO300 := n1_
    have HO306 := n2_
    have HB := n3_
    clear n0_ n1_ n2_ n3_
    (try clear hb)
    (try clear hkp)
    (try clear ho0)
    refine hK.out _ _ ⟨(blk_cell BK293.out 0).trans rfl, (blk_cell BK293.out 1).trans rfl, (blk_cell BK293.out 2).trans rfl, (blk_cell BK293.out 3).trans rfl, (blk_cell BK293.out 4).trans rfl, (blk_cell BK293.out 5).trans rfl⟩ (fun hHeld => ?_)
    clear hK K
    refine norm_ (a' := ?_) ?_ ?_
    rotate_left
    ·
     show Act.put _ (some 28) _ = _
     simp only [Act.put, List.setIfInBounds_toArray, List.set_cons_zero, List.set_cons_succ, i64_w, i32_w]
     rfl
    refine pure_ (i := 6) (N := some 22) (v := ?_) (a' := ?_) #[true, true, true, true, true, true, true, false, false, false, false] rfl rfl (any_of HT_.out (by kernel_rfl)) (fun _ _ _ h => h) (Or.inl ⟨by rfl, ?_⟩) ?_ ?_
    rotate_left
    · exact zqB
    rotate_left
    · exact zqA
    refine pure_ (i := 7) (N := some 29) (v := ?_) (a' := ?_) #[true, true, true, true, true, true, true, true, false, false, false] rfl rfl (any_of HT_.out (by kernel_rfl)) (fun _ _ _ h => h) (Or.inl ⟨by rfl, ?_⟩) ?_ ?_
    rotate_left
    · exact zqB
    rotate_left
    · exact zqA
    refine pure_ (i := 8) (N := some 30) (v := ?_) (a' := ?_) #[true, true, true, true, true, true, true, true, true, false, false] rfl rfl (any_of HT_.out (by kernel_rfl)) (fun _ _ _ h => h) (Or.inl ⟨by rfl, ?_⟩) ?_ ?_
    rotate_left
    · exact zqB
    rotate_left
    · exact zqA
    refine pure_ (i := 9) (N := some 7) (v := ?_) (a' := ?_) #[true, true, true, true, true, true, true, true, true, true, false] rfl rfl (any_of HT_.out (by kernel_rfl)) (fun _ _ _ h => h) (Or.inl ⟨by rfl, ?_⟩) ?_ ?_
    rotate_left
    · exact zqB
    rotate_left
    · exact zqA
    refine pure_ (i := 10) (N := some 8) (v := ?_) (a' := ?_) #[true, true, true, true, true, true, true, true, true, true, true] rfl rfl (any_of HT_.out (by kernel_rfl)) (fun _ _ _ h => h) (Or.inl ⟨by rfl, ?_⟩) ?_ ?_
    rotate_left
    · exact zqB
    rotate_left
    · exact zqA
    refine done_ (done_of HT_.out (by kernel_rfl)) ?_
    go_upto_region 5 with (fail)
    go_cut [32] (fun v32 wc => ∃ (kq : Nat) (x32_13 : Bool), v32 = .bool x32_13 ∧ Aside0 (impl_issued.j1 kq t304 x32_13 x294000_2 a1_1 a1_2 a1_3 a1_4 a1_5 = some (r1, r2, r3)) ∧ Aside0 (kq ≤ kj2) ∧ Aside0 (Kd.R k31 31 wc w.heap.size (fun k_ => k_ ≠ gb293) v305 t304) ∧ Aside0 (wc.heap[gb293]? = some (.cells #[.int .i64 x294000_2, .int .i64 a1_1, .int .i64 a1_2, .int .i64 a1_3, .int .i64 a1_4, .int .i64 a1_5] 31 (0, 0))) ∧ Aside0 (Below w.heap.size w wc))
    case first =>
     have H := HC14.out
     clear HC14
     have H' := Aside0.mk H
     clear H
     go_wp2
     go_meet
     case rel => exact ⟨_, (!t307), (by first | rfl | (simp; done) | (simp [*]; done)), H', ⟨by have := HJ2.out; first | omega | exact Nat.le_refl _⟩, ⟨by (with_reducible repeat (first | apply Kd.R_alloc | apply Kd.R_drewN | apply Kd.R_drew)); exact Kd.R_mono HO306.out (fun _ hk => hk.2)⟩, ⟨by (with_reducible repeat (first | refine blk_drewN ?_ _ | refine blk_drew ?_ | refine blk_alloc ?_ _)); exact BK293.out⟩, ⟨by repeat (first | (with_reducible first | exact HB.out | apply below_alloc | apply pw_below_drewN | apply below_drew1 | refine below_set ?_ GE293.out) | exact HB.out)⟩⟩
    case rest =>
     clear HC14
     try clear c1
     try clear p2
     try clear q2
     try clear hx2
     try clear c6
     try clear c6b0
     try clear c6b1
     try clear p6
     try clear c8
     try clear c8b0
     try clear c9
     try clear c9b0
     try clear c12
     try clear hcz10_0
     try clear hcz10_1
     try clear hcz10_2
     try clear hcz10_3
     try clear hcz10_4
     try clear hcz10_5
     try clear hcz5_0
     try clear hcz5_1
     try clear hcz5_2
     try clear hcz5_3
     try clear hcz5_4
     try clear hcz5_5
     try clear hfz10_0
     try clear hfz10_1
     try clear hfz10_2
     try clear hfz10_3
     try clear hfz10_4
     try clear hfz10_5
     try clear hfz5_0
     try clear hfz5_1
     try clear hfz5_2
     try clear hfz5_3
     try clear hfz5_4
     try clear hfz5_5
     try clear hx294_0
     try clear hx294_1
     try clear hx294_2
     try clear hx294_3
     try clear hx294_4
     try clear hx294_5
     try clear p2
     try clear p294
     try clear p6
     try clear q2
     try clear q294
     obtain ⟨kq, x32_13, rfl, HA, HJ13, HO_7, BK293, HB⟩ := hcut
     cases kq with
     | zero => exact absurd HA.out (by simp [impl_issued.j1])
     | succ kj13 =>
      have H := HA.out
      clear HA
      simp only [impl_issued.j1] at H
      by_cases c24 : x32_13 = true
      ·
       subst c24
       have H1 : (some (([] : List (S31)), 0, false)) = some (r1, r2, r3) := by rw [if_pos rfl] at H; exact H
       clear H
       have H := H1
       clear H1
       simp only [Option.some.injEq, Prod.mk.injEq] at H
       obtain ⟨rfl, rfl, rfl⟩ := H
       go_wp2
       go_ret3
       exact ⟨_, by first | rfl | (simp [errW_none, errW_some] <;> rfl) | (simp [*, errW_none, errW_some] <;> rfl), by first | exact Kd.R_nil _ _ _ _ _ | exact Kd.N_nil _ _ _ _ _ | exact Kd.V_nil _ _ _ _ _ | exact Kd.Q_nil _ _ _ _ _ | exact Kd.S_nil _ _ _ _ _, by repeat (first | (with_reducible first | exact HB.out | apply below_alloc | apply pw_below_drewN | apply below_drew1 | refine below_set ?_ GE293.out) | exact HB.out)⟩
      ·
       replace c24 := Bool.eq_false_iff.mpr c24
       subst c24
       have H1 : (some (t304, x294000_2, true)) = some (r1, r2, r3) := by rw [if_neg (show ¬ (false = true) by decide)] at H; exact H
       clear H
       have H := H1
       clear H1
       simp only [Option.some.injEq, Prod.mk.injEq] at H
       obtain ⟨rfl, rfl, rfl⟩ := H
       try go_wp2
       have n0_ := Aside0.mk (Kd.R_drew HO_7.out)
       have n1_ := Aside0.mk (blk_drew BK293.out)
       have n2_ := Aside0.mk (below_drew1 HB.out)
       clear HO_7
       clear BK293
       clear HB
       have HO_7 := n0_
       have BK293 := n1_
       have HB := n2_
       clear n0_ n1_ n2_
       refine start_ (n := 6) (S := fun w' => w'.cell? ⟨gb293, 0, none⟩ = some (.int .i64 x294000_2) ∧ w'.cell? ⟨gb293, 1, none⟩ = some (.int .i64 a1_1) ∧ w'.cell? ⟨gb293, 2, none⟩ = some (.int .i64 a1_2) ∧ w'.cell? ⟨gb293, 3, none⟩ = some (.int .i64 a1_3) ∧ w'.cell? ⟨gb293, 4, none⟩ = some (.int .i64 a1_4) ∧ w'.cell? ⟨gb293, 5, none⟩ = some (.int .i64 a1_5)) (ds := []) #[false, false, false, false, false, false] (by kernel_rfl) rfl rfl ⟨(blk_cell BK293.out 0).trans rfl, (blk_cell BK293.out 1).trans rfl, (blk_cell BK293.out 2).trans rfl, (blk_cell BK293.out 3).trans rfl, (blk_cell BK293.out 4).trans rfl, (blk_cell BK293.out 5).trans rfl⟩ (fun hHeld => ?_)
       generalize wc.drew = w25 at HO_7 BK293 HB hHeld ⊢
       refine pure_ (i := 0) (N := some 33) (v := ?_) (a' := ?_) #[true, false, false, false, false, false] rfl rfl (by kernel_rfl) (fun _ _ _ h => h) (Or.inl ⟨by rfl, ?_⟩) ?_ ?_
       rotate_left
       · exact zqB
       rotate_left
       · exact zqA
       refine pure_ (i := 1) (N := some 34) (v := ?_) (a' := ?_) #[true, true, false, false, false, false] rfl rfl (by kernel_rfl) (fun _ _ _ h => h) (Or.inl ⟨by rfl, ?_⟩) ?_ ?_
       rotate_left
       · exact zqB
       rotate_left
       · exact zqA
       refine pure_ (i := 3) (N := some 4) (v := ?_) (a' := ?_) #[true, true, false, true, false, false] rfl rfl (by kernel_rfl) (fun _ _ _ h => h) (Or.inl ⟨by rfl, ?_⟩) ?_ ?_
       rotate_left
       · exact zqB
       rotate_left
       · exact zqA
       refine take_ (i := 2) (N := some 35) (v := ?_) (a' := ?_) #[true, true, true, true, false, false] rfl rfl (by kernel_rfl) (fun _ _ _ h => h) (Or.inl ⟨by rfl, ?_⟩) hHeld ?_ ?_
       rotate_left
       ·
        rintro w' ⟨s0, s1, s2, s3, s4, s5⟩
        go_simp
        with_reducible rfl
       rotate_left
       · exact zqA
       refine pure_ (i := 4) (N := some 5) (v := ?_) (a' := ?_) #[true, true, true, true, true, false] rfl rfl (by kernel_rfl) (fun _ _ _ h => h) (Or.inl ⟨by rfl, ?_⟩) ?_ ?_
       rotate_left
       · exact zqB
       rotate_left
       · exact zqA
       refine pure_ (i := 5) (N := some 6) (v := ?_) (a' := ?_) #[true, true, true, true, true, true] rfl rfl (by kernel_rfl) (fun _ _ _ h => h) (Or.inl ⟨by rfl, ?_⟩) ?_ ?_
       rotate_left
       · exact zqB
       rotate_left
       · exact zqA
       refine done_ (by kernel_rfl) ?_
       try go_wp2
       go_ret3
       exact ⟨_, by first | rfl | (simp [errW_none, errW_some] <;> rfl) | (simp [*, errW_none, errW_some] <;> rfl), by (with_reducible repeat (first | apply Kd.R_alloc | apply Kd.R_drewN | apply Kd.R_drew)); exact Kd.R_mono HO_7.out (fun _ hk => trivial), by repeat (first | (with_reducible first | exact HB.out | apply below_alloc | apply pw_below_drewN | apply below_drew1 | refine below_set ?_ GE293.out) | exact HB.out)⟩
   ·
    rw [if_neg c12] at H
    exact absurd H (by simp)

end Go.Proofs.Ytklepiechbnenaa.Q
namespace Go.Proofs.Ytklepiechbnenaa.Q
open Go.RowKit Go.Proofs.YtklepiechbnenaaW.PrintWords Go.Proofs.YtklepiechbnenaaW.PrintLast Go.Proofs.YtklepiechbnenaaW.PrintMore
attribute [local go_sem] max2_int min2_int max_two min_two max_three min_three max_four min_four   -- for this text's walks alone
set_option linter.unusedVariables false
set_option linter.unusedSimpArgs false

/-! ### impl_ChangeLevel: function 9 -/
def impl_ChangeLevel.j0 : Nat → List (S31) → Int → Int → Int → Int → Bool → Option ((List (S31)) × Int × Bool)
 | 0, _, _, _, _, _, _ => none
 | k + 1, x0, x1, x2, x3, x11, x41 => if x41 = true then (some (([] : List (S31)), 0, false)) else ((impl_Warning_61.f x0).bind fun t312 => (if 0 ≤ x11 then (if x11 < (x0.length : Int) then (if x3 ≤ ((rd_T31 x0 x11).f4) then (if x11 < (t312.length : Int) then (some ((t312.set (x11 : Int).toNat (⟨(rd_T31 t312 x11).f0, (rd_T31 t312 x11).f1, x2, (rd_T31 t312 x11).f3, (rd_T31 t312 x11).f4, (rd_T31 t312 x11).f5⟩ : S31)), x1, true)) else (none)) else (if x11 < (t312.length : Int) then ((impl_issued.f k (t312.set (x11 : Int).toNat (⟨(rd_T31 t312 x11).f0, (rd_T31 t312 x11).f1, (rd_T31 t312 x11).f2, (rd_T31 t312 x11).f3, (rd_T31 t312 x11).f4, x3⟩ : S31)) ((rd_T31 x0 x11).f0) ((rd_T31 x0 x11).f1) x2 ((rd_T31 x0 x11).f3) x3 ((rd_T31 x0 x11).f5)).bind fun bt320 => (some (bt320.1, bt320.2.1, bt320.2.2))) else (none))) else (none)) else (none)))
def impl_ChangeLevel.f (k : Nat) (l0 : List (S31)) (a1 : Int) (a2 : Int) (a3 : Int) : Option ((List (S31)) × Int × Bool) := (impl_warningAt.f k l0 a1).bind fun t308 => (if t308 < 0 then (impl_ChangeLevel.j0 k l0 a1 a2 a3 t308 true) else (if 0 ≤ t308 then (if t308 < (l0.length : Int) then (if a2 = ((rd_T31 l0 t308).f2) then (impl_ChangeLevel.j0 k l0 a1 a2 a3 t308 true) else ((impl_within.f a2 1 3).bind fun t310 => (if t310 = true then (impl_ChangeLevel.j0 k l0 a1 a2 a3 t308 (decide (a3 ≥ ((rd_T31 l0 t308).f5)))) else (impl_ChangeLevel.j0 k l0 a1 a2 a3 t308 true)))) else (none)) else (none)))
theorem impl_ChangeLevel.mono_l : ∀ k, (∀ y0 y1 y2 y3 y4 y5, LeO (impl_ChangeLevel.j0 k y0 y1 y2 y3 y4 y5) (impl_ChangeLevel.j0 (k + 1) y0 y1 y2 y3 y4 y5))
 | 0 => fun _ _ _ _ _ _ r h => by simp [impl_ChangeLevel.j0] at h
 | k + 1 => by
  have ih0 := impl_ChangeLevel.mono_l k
  ·
   intro y0 y1 y2 y3 y4 y5
   unfold impl_ChangeLevel.j0
   repeat' first
   | (with_reducible exact ih0 _ _ _ _ _ _)
   | (with_reducible exact impl_issued.mono _ _ _ _ _ _ _ _)
   | (with_reducible exact impl_warningAt.mono _ _ _)
   | (with_reducible exact LeO.refl _)
   | (with_reducible exact LeO.none _)
   | (with_reducible refine LeO.ite ?_ ?_)
   | (with_reducible refine LeO.bind ?_ (fun _ => ?_))
   | exact ih0 _ _ _ _ _ _
   | exact impl_issued.mono _ _ _ _ _ _ _ _
   | exact impl_warningAt.mono _ _ _
   | exact LeO.none _
   | refine LeO.ite ?_ ?_
   | refine LeO.bind ?_ (fun _ => ?_)
theorem impl_ChangeLevel.mono : ∀ a0 a1 a2 a3 k, LeO (impl_ChangeLevel.f k a0 a1 a2 a3) (impl_ChangeLevel.f (k + 1) a0 a1 a2 a3) := by
 intro a0 a1 a2 a3 k
 have ih0 := impl_ChangeLevel.mono_l k
 unfold impl_ChangeLevel.f
 repeat' first
   | (with_reducible exact ih0 _ _ _ _ _ _)
   | (with_reducible exact impl_issued.mono _ _ _ _ _ _ _ _)
   | (with_reducible exact impl_warningAt.mono _ _ _)
   | (with_reducible exact LeO.refl _)
   | (with_reducible exact LeO.none _)
   | (with_reducible refine LeO.ite ?_ ?_)
   | (with_reducible refine LeO.bind ?_ (fun _ => ?_))
   | exact ih0 _ _ _ _ _ _
   | exact impl_issued.mono _ _ _ _ _ _ _ _
   | exact impl_warningAt.mono _ _ _
   | exact LeO.none _
   | refine LeO.ite ?_ ?_
   | refine LeO.bind ?_ (fun _ => ?_)
set_option maxHeartbeats 8000000 in
set_option maxRecDepth 100000 in
theorem impl_ChangeLevel.calls (k : Nat) (A0 : Option Addr) (c0 : Nat) (l0 : List (S31)) (a1 : Int) (a2 : Int) (a3 : Int) (r1 : List (S31)) (r2 : Int) (r3 : Bool) (w : World) (hr0 : Kd.C k31 w A0 l0.length l0) (hc0 : l0.length ≤ c0) (h : impl_ChangeLevel.f k l0 a1 a2 a3 = some (r1, r2, r3)) :
  Calls Try.prog 9 #[.slice A0 l0.length c0, .int .i64 a1, .int .i64 a2, .int .i64 a3] w fun e w' => ∃ v0_ : Value, e = .returned (.tuple #[v0_, .int .i64 r2, .bool r3]) ∧ Kd.R k31 31 w' w.heap.size (fun _ => True) v0_ r1 ∧ Below w.heap.size w w' := by
 have hu31 := Try.underlying31
 have HR0 := Aside0.mk hr0
 have HC0 := Aside0.mk hc0
 clear hr0 hc0
 have HB := Aside0.mk (Below.refl w.heap.size w)
 have H : ((impl_warningAt.f k l0 a1).bind fun t308 => (if t308 < 0 then (impl_ChangeLevel.j0 k l0 a1 a2 a3 t308 true) else (if 0 ≤ t308 then (if t308 < (l0.length : Int) then (if a2 = ((rd_T31 l0 t308).f2) then (impl_ChangeLevel.j0 k l0 a1 a2 a3 t308 true) else ((impl_within.f a2 1 3).bind fun t310 => (if t310 = true then (impl_ChangeLevel.j0 k l0 a1 a2 a3 t308 (decide (a3 ≥ ((rd_T31 l0 t308).f5)))) else (impl_ChangeLevel.j0 k l0 a1 a2 a3 t308 true)))) else (none)) else (none)))) = some (r1, r2, r3) := h
 clear h
 replace H := Option.bind_eq_some_iff.mp H
 obtain ⟨t308, A50, H⟩ := H
 replace H : (if t308 < 0 then (impl_ChangeLevel.j0 k l0 a1 a2 a3 t308 true) else (if 0 ≤ t308 then (if t308 < (l0.length : Int) then (if a2 = ((rd_T31 l0 t308).f2) then (impl_ChangeLevel.j0 k l0 a1 a2 a3 t308 true) else ((impl_within.f a2 1 3).bind fun t310 => (if t310 = true then (impl_ChangeLevel.j0 k l0 a1 a2 a3 t308 (decide (a3 ≥ ((rd_T31 l0 t308).f5)))) else (impl_ChangeLevel.j0 k l0 a1 a2 a3 t308 true)))) else (none)) else (none))) = some (r1, r2, r3) := H
 have A5 := Aside0.mk A50
 clear A50
 have HC6 := Aside0.mk H
 clear H
 go_enter Try.func9, Try.ntmps9
 go_upto_region 2 with (first | ((with_reducible refine gate_callee (f := 59) rfl ?_); refine goesL_ (some 16) rfl rfl Try.func59 (by kernel_rfl) rfl #[.slice A0 l0.length c0, .int .i64 a1] rfl zq1 ?_; (with_reducible refine (impl_warningAt.calls k _ _ l0 a1 t308 _ ?side1 ?side2 A5.out).mono ?_); (case side1 => repeat (first | exact HR0.out | (with_reducible refine Kd.C_alloc ?_ _) | (with_reducible refine Kd.C_drewN ?_ _) | (with_reducible refine Kd.C_drew ?_))); (case side2 => exact HC0.out); rintro e w7 ⟨rfl, hb⟩; refine ⟨_, rfl, ?_⟩; have n0_ := Aside0.mk (below_step zq0 hb); clear HB; have HB := n0_; clear n0_; (try clear hb); (try clear hb2); (try clear hk); (try clear hi)))
 (try simp only [Act.put, List.setIfInBounds_toArray, List.set_cons_zero, List.set_cons_succ])
 go_cut [41] (fun v41 wc => ∃ (kq : Nat) (x41_5 : Bool), v41 = .bool x41_5 ∧ Aside0 (impl_ChangeLevel.j0 kq l0 a1 a2 a3 t308 x41_5 = some (r1, r2, r3)) ∧ Aside0 (kq ≤ k) ∧ Aside0 (Below w.heap.size w wc))
 case first =>
  have H := HC6.out
  clear HC6
  by_cases c8 : t308 < 0
  ·
   rw [if_pos c8] at H
   have c8b0 : decide (t308 < 0) = true := decide_eq_true c8
   clear c8
   (first | rw [c8b0] | (simp only [i64_w, i32_w]; rw [c8b0]) | skip)
   have H' := Aside0.mk H
   clear H
   go_wp2
   go_meet
   case rel => exact ⟨_, (true), (by first | rfl | (simp; done) | (simp [*]; done)), H', ⟨by first | omega | exact Nat.le_refl _⟩, ⟨by repeat (first | (with_reducible first | exact HB.out | apply below_alloc | apply pw_below_drewN | apply below_drew1) | exact HB.out)⟩⟩
  ·
   rw [if_neg c8] at H
   have c8b0 : decide (t308 < 0) = false := decide_eq_false c8
   clear c8
   (first | rw [c8b0] | (simp only [i64_w, i32_w]; rw [c8b0]) | skip)
   by_cases c9 : 0 ≤ t308
   ·
    rw [if_pos c9] at H
    have c9b0 : decide (0 ≤ t308) = true := decide_eq_true c9
    clear c9
    by_cases c10 : t308 < (l0.length : Int)
    ·
     rw [if_pos c10] at H
     have c10b0 : decide (t308 < (l0.length : Int)) = true := decide_eq_true c10
     clear c10
     by_cases c11 : a2 = ((rd_T31 l0 t308).f2)
     ·
      rw [if_pos c11] at H
      have c11b0 : (a2 == ((rd_T31 l0 t308).f2)) = true := beq_iff_eq.mpr c11
      have c11b1 : (a2 != ((rd_T31 l0 t308).f2)) = false := bne_eq_false_iff_eq.mpr c11
      clear c11
      have H' := Aside0.mk H
      clear H
      have p309 : 0 ≤ (t308 : Int) := of_decide_eq_true zq2
      have q309 : t308 < (l0.length : Int) := of_decide_eq_true zq2
      obtain ⟨ad309, e309, hx309_0, hx309_1, hx309_2, hx309_3, hx309_4, hx309_5⟩ := at_T31 HR0.out t308 p309 q309
      cases e309
      replace hx309_0 := (HB.out.cell (World.block_lt_of_cell? w _ hx309_0)).trans hx309_0
      replace hx309_1 := (HB.out.cell (World.block_lt_of_cell? w _ hx309_1)).trans hx309_1
      replace hx309_2 := (HB.out.cell (World.block_lt_of_cell? w _ hx309_2)).trans hx309_2
      replace hx309_3 := (HB.out.cell (World.block_lt_of_cell? w _ hx309_3)).trans hx309_3
      replace hx309_4 := (HB.out.cell (World.block_lt_of_cell? w _ hx309_4)).trans hx309_4
      replace hx309_5 := (HB.out.cell (World.block_lt_of_cell? w _ hx309_5)).trans hx309_5
      replace p309 := eq_true p309
      replace q309 := eq_true q309
      go_wp2
      go_meet
      case rel => exact ⟨_, (true), (by first | rfl | (simp; done) | (simp [*]; done)), H', ⟨by first | omega | exact Nat.le_refl _⟩, ⟨by repeat (first | (with_reducible first | exact HB.out | apply below_alloc | apply pw_below_drewN | apply below_drew1) | exact HB.out)⟩⟩
     ·
      rw [if_neg c11] at H
      have c11b0 : (a2 == ((rd_T31 l0 t308).f2)) = false := beq_eq_false_iff_ne.mpr c11
      have c11b1 : (a2 != ((rd_T31 l0 t308).f2)) = true := bne_iff_ne.mpr c11
      replace H := Option.bind_eq_some_iff.mp H
      obtain ⟨t310, A120, H⟩ := H
      replace H : (if t310 = true then (impl_ChangeLevel.j0 k l0 a1 a2 a3 t308 (decide (a3 ≥ ((rd_T31 l0 t308).f5)))) else (impl_ChangeLevel.j0 k l0 a1 a2 a3 t308 true)) = some (r1, r2, r3) := H
      have A12 := Aside0.mk A120
      clear A120
      by_cases c13 : t310 = true
      ·
       subst c13
       have H1 : (impl_ChangeLevel.j0 k l0 a1 a2 a3 t308 (decide (a3 ≥ ((rd_T31 l0 t308).f5)))) = some (r1, r2, r3) := by rw [if_pos rfl] at H; exact H
       clear H
       have H := H1
       clear H1
       have H' := Aside0.mk H
       clear H
       have p309 : 0 ≤ (t308 : Int) := of_decide_eq_true zq2
       have q309 : t308 < (l0.length : Int) := of_decide_eq_true zq2
       obtain ⟨ad309, e309, hx309_0, hx309_1, hx309_2, hx309_3, hx309_4, hx309_5⟩ := at_T31 HR0.out t308 p309 q309
       cases e309
       replace hx309_0 := (HB.out.cell (World.block_lt_of_cell? w _ hx309_0)).trans hx309_0
       replace hx309_1 := (HB.out.cell (World.block_lt_of_cell? w _ hx309_1)).trans hx309_1
       replace hx309_2 := (HB.out.cell (World.block_lt_of_cell? w _ hx309_2)).trans hx309_2
       replace hx309_3 := (HB.out.cell (World.block_lt_of_cell? w _ hx309_3)).trans hx309_3
       replace hx309_4 := (HB.out.cell (World.block_lt_of_cell? w _ hx309_4)).trans hx309_4
       replace hx309_5 := (HB.out.cell (World.block_lt_of_cell? w _ hx309_5)).trans hx309_5
       replace p309 := eq_true p309
       replace q309 := eq_true q309
       go_wp2_with (first | (go_at_call 60; (with_reducible refine (impl_within.calls a2 1 3 true _ A12.out).mono ?_); rintro e w' ⟨rfl, ⟨nd, rfl⟩⟩; have p311 : 0 ≤ (t308 : Int) := of_decide_eq_true zq2; have q311 : t308 < (l0.length : Int) := of_decide_eq_true zq2; obtain ⟨ad311, e311, hx311_0, hx311_1, hx311_2, hx311_3, hx311_4, hx311_5⟩ := at_T31 HR0.out t308 p311 q311; obtain rfl : ad309 = ad311 := (by injection e311); replace hx311_0 := (HB.out.cell (World.block_lt_of_cell? w _ hx311_0)).trans hx311_0; replace hx311_1 := (HB.out.cell (World.block_lt_of_cell? w _ hx311_1)).trans hx311_1; replace hx311_2 := (HB.out.cell (World.block_lt_of_cell? w _ hx311_2)).trans hx311_2; replace hx311_3 := (HB.out.cell (World.block_lt_of_cell? w _ hx311_3)).trans hx311_3; replace hx311_4 := (HB.out.cell (World.block_lt_of_cell? w _ hx311_4)).trans hx311_4; replace hx311_5 := (HB.out.cell (World.block_lt_of_cell? w _ hx311_5)).trans hx311_5; replace p311 := eq_true p311; replace q311 := eq_true q311))
       go_meet
       case rel => exact ⟨_, (decide (a3 ≥ ((rd_T31 l0 t308).f5))), (by first | rfl | (simp; done) | (simp [*]; done)), H', ⟨by first | omega | exact Nat.le_refl _⟩, ⟨by repeat (first | (with_reducible first | exact HB.out | apply below_alloc | apply pw_below_drewN | apply below_drew1) | exact HB.out)⟩⟩
      ·
       replace c13 := Bool.eq_false_iff.mpr c13
       subst c13
       have H1 : (impl_ChangeLevel.j0 k l0 a1 a2 a3 t308 true) = some (r1, r2, r3) := by rw [if_neg (show ¬ (false = true) by decide)] at H; exact H
       clear H
       have H := H1
       clear H1
       have H' := Aside0.mk H
       clear H
       have p309 : 0 ≤ (t308 : Int) := of_decide_eq_true zq2
       have q309 : t308 < (l0.length : Int) := of_decide_eq_true zq2
       obtain ⟨ad309, e309, hx309_0, hx309_1, hx309_2, hx309_3, hx309_4, hx309_5⟩ := at_T31 HR0.out t308 p309 q309
       cases e309
       replace hx309_0 := (HB.out.cell (World.block_lt_of_cell? w _ hx309_0)).trans hx309_0
       replace hx309_1 := (HB.out.cell (World.block_lt_of_cell? w _ hx309_1)).trans hx309_1
       replace hx309_2 := (HB.out.cell (World.block_lt_of_cell? w _ hx309_2)).trans hx309_2
       replace hx309_3 := (HB.out.cell (World.block_lt_of_cell? w _ hx309_3)).trans hx309_3
       replace hx309_4 := (HB.out.cell (World.block_lt_of_cell? w _ hx309_4)).trans hx309_4
       replace hx309_5 := (HB.out.cell (World.block_lt_of_cell? w _ hx309_5)).trans hx309_5
       replace p309 := eq_true p309
       replace q309 := eq_true q309
       go_wp2_with (first | (go_at_call 60; (with_reducible refine (impl_within.calls a2 1 3 false _ A12.out).mono ?_); rintro e w' ⟨rfl, ⟨nd, rfl⟩⟩))
       go_meet
       case rel => exact ⟨_, (true), (by first | rfl | (simp; done) | (simp [*]; done)), H', ⟨by first | omega | exact Nat.le_refl _⟩, ⟨by repeat (first | (with_reducible first | exact HB.out | apply below_alloc | apply pw_below_drewN | apply below_drew1) | exact HB.out)⟩⟩
    ·
     rw [if_neg c10] at H
     exact absurd H (by simp)
   ·
    rw [if_neg c9] at H
    exact absurd H (by simp)
 case rest =>
  clear HC6
  try clear c1
  try clear p2
  try clear p3
  try clear q3
  try clear hx3
  try clear c5
  try clear c8
  try clear c8b0
  try clear c9
  try clear c9b0
  try clear c10
  try clear c10b0
  try clear c11
  try clear c11b0
  try clear c11b1
  try clear c13
  try clear hx309_0
  try clear hx309_1
  try clear hx309_2
  try clear hx309_3
  try clear hx309_4
  try clear hx309_5
  try clear hx311_0
  try clear hx311_1
  try clear hx311_2
  try clear hx311_3
  try clear hx311_4
  try clear hx311_5
  try clear p309
  try clear p311
  try clear q309
  try clear q311
  obtain ⟨kq, x41_5, rfl, HA, HJ5, HB⟩ := hcut
  cases kq with
  | zero => exact absurd HA.out (by simp [impl_ChangeLevel.j0])
  | succ kj5 =>
   have H := HA.out
   clear HA
   simp only [impl_ChangeLevel.j0] at H
   by_cases c14 : x41_5 = true
   ·
    subst c14
    have H1 : (some (([] : List (S31)), 0, false)) = some (r1, r2, r3) := by rw [if_pos rfl] at H; exact H
    clear H
    have H := H1
    clear H1
    simp only [Option.some.injEq, Prod.mk.injEq] at H
    obtain ⟨rfl, rfl, rfl⟩ := H
    go_wp2
    go_ret3
    exact ⟨_, by first | rfl | (simp [errW_none, errW_some] <;> rfl) | (simp [*, errW_none, errW_some] <;> rfl), by first | exact Kd.R_nil _ _ _ _ _ | exact Kd.N_nil _ _ _ _ _ | exact Kd.V_nil _ _ _ _ _ | exact Kd.Q_nil _ _ _ _ _ | exact Kd.S_nil _ _ _ _ _, by repeat (first | (with_reducible first | exact HB.out | apply below_alloc | apply pw_below_drewN | apply below_drew1) | exact HB.out)⟩
   ·
    replace c14 := Bool.eq_false_iff.mpr c14
    subst c14
    have H1 : ((impl_Warning_61.f l0).bind fun t312 => (if 0 ≤ t308 then (if t308 < (l0.length : Int) then (if a3 ≤ ((rd_T31 l0 t308).f4) then (if t308 < (t312.length : Int) then (some ((t312.set (t308 : Int).toNat (⟨(rd_T31 t312 t308).f0, (rd_T31 t312 t308).f1, a2, (rd_T31 t312 t308).f3, (rd_T31 t312 t308).f4, (rd_T31 t312 t308).f5⟩ : S31)), a1, true)) else (none)) else (if t308 < (t312.length : Int) then ((impl_issued.f kj5 (t312.set (t308 : Int).toNat (⟨(rd_T31 t312 t308).f0, (rd_T31 t312 t308).f1, (rd_T31 t312 t308).f2, (rd_T31 t312 t308).f3, (rd_T31 t312 t308).f4, a3⟩ : S31)) ((rd_T31 l0 t308).f0) ((rd_T31 l0 t308).f1) a2 ((rd_T31 l0 t308).f3) a3 ((rd_T31 l0 t308).f5)).bind fun bt320 => (some (bt320.1, bt320.2.1, bt320.2.2))) else (none))) else (none)) else (none))) = some (r1, r2, r3) := by rw [if_neg (show ¬ (false = true) by decide)] at H; exact H
    clear H
    have H := H1
    clear H1
    replace H := Option.bind_eq_some_iff.mp H
    obtain ⟨t312, A150, H⟩ := H
    replace H : (if 0 ≤ t308 then (if t308 < (l0.length : Int) then (if a3 ≤ ((rd_T31 l0 t308).f4) then (if t308 < (t312.length : Int) then (some ((t312.set (t308 : Int).toNat (⟨(rd_T31 t312 t308).f0, (rd_T31 t312 t308).f1, a2, (rd_T31 t312 t308).f3, (rd_T31 t312 t308).f4, (rd_T31 t312 t308).f5⟩ : S31)), a1, true)) else (none)) else (if t308 < (t312.length : Int) then ((impl_issued.f kj5 (t312.set (t308 : Int).toNat (⟨(rd_T31 t312 t308).f0, (rd_T31 t312 t308).f1, (rd_T31 t312 t308).f2, (rd_T31 t312 t308).f3, (rd_T31 t312 t308).f4, a3⟩ : S31)) ((rd_T31 l0 t308).f0) ((rd_T31 l0 t308).f1) a2 ((rd_T31 l0 t308).f3) a3 ((rd_T31 l0 t308).f5)).bind fun bt320 => (some (bt320.1, bt320.2.1, bt320.2.2))) else (none))) else (none)) else (none)) = some (r1, r2, r3) := H
    have A15 := Aside0.mk A150
    clear A150
    by_cases c16 : 0 ≤ t308
    ·
     rw [if_pos c16] at H
     have c16b0 : decide (0 ≤ t308) = true := decide_eq_true c16
     clear c16
     by_cases c17 : t308 < (l0.length : Int)
     ·
      rw [if_pos c17] at H
      have c17b0 : decide (t308 < (l0.length : Int)) = true := decide_eq_true c17
      clear c17
      by_cases c18 : a3 ≤ ((rd_T31 l0 t308).f4)
      ·
       rw [if_pos c18] at H
       have c18b0 : decide (a3 ≤ ((rd_T31 l0 t308).f4)) = true := decide_eq_true c18
       clear c18
       by_cases c19 : t308 < (t312.length : Int)
       ·
        rw [if_pos c19] at H
        have c19b0 : decide (t308 < (t312.length : Int)) = true := decide_eq_true c19
        clear c19
        obtain ⟨y316, hy316⟩ : ∃ y_ : List (S31), y_ = (t312.set (t308 : Int).toNat (⟨(rd_T31 t312 t308).f0, (rd_T31 t312 t308).f1, a2, (rd_T31 t312 t308).f3, (rd_T31 t312 t308).f4, (rd_T31 t312 t308).f5⟩ : S31)) := ⟨_, rfl⟩
        replace H : (some (y316, a1, true)) = some (r1, r2, r3) := by first | (rw [hy316]; with_reducible exact H) | (have H2_ := (Option.bind_some _ _).symm.trans H; rw [hy316]; with_reducible exact H2_) | (have H2_ := (Option.bind_some _ _).symm.trans H; with_reducible exact H2_) | with_reducible exact H | (rw [hy316]; exact H) | exact H
        have Ny316 := Aside0.mk hy316
        clear hy316
        simp only [Option.some.injEq, Prod.mk.injEq] at H
        obtain ⟨rfl, rfl, rfl⟩ := H
        go_wp2_with (first | ((with_reducible refine gate_callee (f := 61) rfl ?_); refine goesL_ (some 43) rfl rfl Try.func61 (by kernel_rfl) rfl #[.slice A0 l0.length c0] rfl zq1 ?_; (with_reducible refine (impl_Warning_61.calls _ _ l0 t312 _ ?side1 ?side2 A15.out).mono ?_); (case side1 => repeat (first | exact (Kd.C_below HR0.out HB.out) | (with_reducible refine Kd.C_alloc ?_ _) | (with_reducible refine Kd.C_drewN ?_ _) | (with_reducible refine Kd.C_drew ?_))); (case side2 => exact HC0.out); rintro e w21 ⟨v313, rfl, ho0, hb⟩; refine ⟨_, rfl, ?_⟩; have n0_ := Aside0.mk (Kd.R_lower ho0 (below_size zq0)); have n1_ := Aside0.mk (below_step zq0 hb); clear HB; have HO314 := n0_; have HB := n1_; clear n0_ n1_; (try clear hb); (try clear hb2); (try clear hk); (try clear hi); (try clear ho0); have p315 : 0 ≤ (t308 : Int) := of_decide_eq_true zq2; have q315 : t308 < (l0.length : Int) := of_decide_eq_true zq2; obtain ⟨ad315, e315, hx315_0, hx315_1, hx315_2, hx315_3, hx315_4, hx315_5⟩ := at_T31 HR0.out t308 p315 q315; cases e315; replace hx315_0 := (HB.out.cell (World.block_lt_of_cell? w _ hx315_0)).trans hx315_0; replace hx315_1 := (HB.out.cell (World.block_lt_of_cell? w _ hx315_1)).trans hx315_1; replace hx315_2 := (HB.out.cell (World.block_lt_of_cell? w _ hx315_2)).trans hx315_2; replace hx315_3 := (HB.out.cell (World.block_lt_of_cell? w _ hx315_3)).trans hx315_3; replace hx315_4 := (HB.out.cell (World.block_lt_of_cell? w _ hx315_4)).trans hx315_4; replace hx315_5 := (HB.out.cell (World.block_lt_of_cell? w _ hx315_5)).trans hx315_5; replace p315 := eq_true p315; replace q315 := eq_true q315; have p20 : 0 ≤ (t308 : Int) := of_decide_eq_true zq2; have q20 : (t308 : Int) < ((t312.length : Int) : Int) := of_decide_eq_true zq2; obtain ⟨go20, co20, eo20, gb20, gl20, cl20, HG20⟩ := Kd.R_form HO314.out (by omega); (first | cases eo20 | (injection eo20 with ea_ en_ ec_; (first | subst ea_ | (injection ea_ with ea_; subst ea_)); subst ec_; clear en_)); have GB20 := Aside0.mk gb20; have GG20 := Aside0.mk HG20; clear gb20 gl20 HG20; obtain ⟨ce20, hcl20, hM20, hcc20, hfr20⟩ := Kd.R_elem HO314.out z31 (t308 : Int) p20 q20; obtain rfl := k31_openM hM20; have hx20_0 : w21.cell? ⟨go20, (t308 : Int).toNat * 6, none⟩ = some (.int .i64 ((rd_T31 t312 t308).f0)) := hcc20 0 _ rfl; have hx20_1 : w21.cell? ⟨go20, (t308 : Int).toNat * 6 + 1, none⟩ = some (.int .i64 ((rd_T31 t312 t308).f1)) := hcc20 1 _ rfl; have hx20_2 : w21.cell? ⟨go20, (t308 : Int).toNat * 6 + 2, none⟩ = some (.int .i64 ((rd_T31 t312 t308).f2)) := hcc20 2 _ rfl; have hx20_3 : w21.cell? ⟨go20, (t308 : Int).toNat * 6 + 3, none⟩ = some (.int .i64 ((rd_T31 t312 t308).f3)) := hcc20 3 _ rfl; have hx20_4 : w21.cell? ⟨go20, (t308 : Int).toNat * 6 + 4, none⟩ = some (.int .i64 ((rd_T31 t312 t308).f4)) := hcc20 4 _ rfl; have hx20_5 : w21.cell? ⟨go20, (t308 : Int).toNat * 6 + 5, none⟩ = some (.int .i64 ((rd_T31 t312 t308).f5)) := hcc20 5 _ rfl; have hf20_0 : w21.frozen? ⟨go20, (t308 : Int).toNat * 6, none⟩ = false := hfr20 0; have hf20_1 : w21.frozen? ⟨go20, (t308 : Int).toNat * 6 + 1, none⟩ = false := hfr20 1; have hf20_2 : w21.frozen? ⟨go20, (t308 : Int).toNat * 6 + 2, none⟩ = false := hfr20 2; have hf20_3 : w21.frozen? ⟨go20, (t308 : Int).toNat * 6 + 3, none⟩ = false := hfr20 3; have hf20_4 : w21.frozen? ⟨go20, (t308 : Int).toNat * 6 + 4, none⟩ = false := hfr20 4; have hf20_5 : w21.frozen? ⟨go20, (t308 : Int).toNat * 6 + 5, none⟩ = false := hfr20 5; clear hcl20 hcc20 hfr20 hM20; replace p20 := eq_true p20; replace q20 := eq_true q20; have HX22 := Aside0.mk (show Kd.R k31 31 w21 w.heap.size (fun _ => True) (.slice (some ⟨go20, 0, none⟩) t312.length co20) t312 from (zqR HO314.out)); obtain ⟨ce22, hcl22, hM22, hcc22, hfr22⟩ := Kd.R_elem HX22.out z31 (t308 : Int) (of_decide_eq_true zq2) (by have h_ : (t308 : Int) < ((t312.length : Int) : Int) := of_decide_eq_true zq2; first | exact h_ | (have e_ := (Kd.R_reads' HO314.out).1; omega) | simpa using h_); obtain rfl := k31_openM hM22; have HP22 := Kd.R_seg HX22.out (t308 : Int) (of_decide_eq_true zq2) (by have h_ : (t308 : Int) < ((t312.length : Int) : Int) := of_decide_eq_true zq2; first | exact h_ | (have e_ := (Kd.R_reads' HO314.out).1; omega) | simpa using h_) (seg := [.int .i64 a2]) (j := 2) hcl22 hcc22 (show 3 ≤ 6 from by decide) (x' := (⟨(rd_T31 t312 t308).f0, (rd_T31 t312 t308).f1, a2, (rd_T31 t312 t308).f3, (rd_T31 t312 t308).f4, (rd_T31 t312 t308).f5⟩ : S31)) (k31_mkM _ _ _ (⟨(rd_T31 t312 t308).f0, (rd_T31 t312 t308).f1, a2, (rd_T31 t312 t308).f3, (rd_T31 t312 t308).f4, (rd_T31 t312 t308).f5⟩ : S31) ) (fun _ hk => hk); have hx22_2 := hcc22 2 _ rfl; (try simp only [show (k31).sz = 6 from rfl, Nat.mul_one, Nat.add_zero] at hx22_2); have hf22_2 := hfr22 2; (try simp only [show (k31).sz = 6 from rfl, Nat.mul_one, Nat.add_zero] at hf22_2); clear hcl22 hcc22 hfr22 hM22) | ((with_reducible refine gate_store (t := 3) (p := 55) rfl ?_); refine store_event (t := 3) (p := 55) (v := ?vo_w23) (w1 := (w21.setCell ⟨go20, (t308 : Int).toNat * 6 + 2, none⟩ (.int .i64 a2))) ?hg ?ho ?hn ?hr ?_; (case ho => rfl); (case hg => rfl); (case hn => rfl); (case hr => first | (go_simp; done) | (go_simp; rfl)); intro w23 hw; have hg : w21.grownBy w23 (some go20) := (by rw [hw]; exact HP22.2); have hp_ : Kd.R k31 31 w23 w.heap.size (fun _ => True) (.slice (some ⟨go20, 0, none⟩) t312.length co20) y316 := (by rw [hw, Ny316.out]; exact HP22.1); clear HP22; have n0_ := Aside0.mk (hp_); have n1_ := Aside0.mk ((by rw [hw]; exact below_set (HB.out) GB20.out : Below w.heap.size w w23)); clear HO314; clear HB; have HO314 := n0_; have HB := n1_; clear n0_ n1_; clear hg hw hp_))
        go_ret3
        exact ⟨_, by first | rfl | (simp [errW_none, errW_some] <;> rfl) | (simp [*, errW_none, errW_some] <;> rfl), by (with_reducible repeat (first | apply Kd.R_alloc | apply Kd.R_drewN | apply Kd.R_drew)); exact HO314.out, by repeat (first | (with_reducible first | exact HB.out | apply below_alloc | apply pw_below_drewN | apply below_drew1) | exact HB.out)⟩
       ·
        rw [if_neg c19] at H
        exact absurd H (by simp)
      ·
       rw [if_neg c18] at H
       have c18b0 : decide (a3 ≤ ((rd_T31 l0 t308).f4)) = false := decide_eq_false c18
       clear c18
       by_cases c24 : t308 < (t312.length : Int)
       ·
        rw [if_pos c24] at H
        have c24b0 : decide (t308 < (t312.length : Int)) = true := decide_eq_true c24
        clear c24
        obtain ⟨y319, hy319⟩ : ∃ y_ : List (S31), y_ = (t312.set (t308 : Int).toNat (⟨(rd_T31 t312 t308).f0, (rd_T31 t312 t308).f1, (rd_T31 t312 t308).f2, (rd_T31 t312 t308).f3, (rd_T31 t312 t308).f4, a3⟩ : S31)) := ⟨_, rfl⟩
        replace H : ((impl_issued.f kj5 y319 ((rd_T31 l0 t308).f0) ((rd_T31 l0 t308).f1) a2 ((rd_T31 l0 t308).f3) a3 ((rd_T31 l0 t308).f5)).bind fun bt320 => (some (bt320.1, bt320.2.1, bt320.2.2))) = some (r1, r2, r3) := by first | (rw [hy319]; with_reducible exact H) | (have H2_ := (Option.bind_some _ _).symm.trans H; rw [hy319]; with_reducible exact H2_) | (have H2_ := (Option.bind_some _ _).symm.trans H; with_reducible exact H2_) | with_reducible exact H | (rw [hy319]; exact H) | exact H
        have Ny319 := Aside0.mk hy319
        clear hy319
        replace H := Option.bind_eq_some_iff.mp H
        obtain ⟨⟨t320, t323, t324⟩, A260, H⟩ := H
        replace H : (some (t320, t323, t324)) = some (r1, r2, r3) := H
        have A26 := Aside0.mk A260
        clear A260
        simp only [Option.some.injEq, Prod.mk.injEq] at H
        obtain ⟨rfl, rfl, rfl⟩ := H
        go_wp2_with (first | ((with_reducible refine gate_callee (f := 61) rfl ?_); refine goesL_ (some 43) rfl rfl Try.func61 (by kernel_rfl) rfl #[.slice A0 l0.length c0] rfl zq1 ?_; (with_reducible refine (impl_Warning_61.calls _ _ l0 t312 _ ?side1 ?side2 A15.out).mono ?_); (case side1 => repeat (first | exact (Kd.C_below HR0.out HB.out) | (with_reducible refine Kd.C_alloc ?_ _) | (with_reducible refine Kd.C_drewN ?_ _) | (with_reducible refine Kd.C_drew ?_))); (case side2 => exact HC0.out); rintro e w27 ⟨v313, rfl, ho0, hb⟩; refine ⟨_, rfl, ?_⟩; have n0_ := Aside0.mk (Kd.R_lower ho0 (below_size zq0)); have n1_ := Aside0.mk (below_step zq0 hb); clear HB; have HO314 := n0_; have HB := n1_; clear n0_ n1_; (try clear hb); (try clear hb2); (try clear hk); (try clear hi); (try clear ho0); have p315 : 0 ≤ (t308 : Int) := of_decide_eq_true zq2; have q315 : t308 < (l0.length : Int) := of_decide_eq_true zq2; obtain ⟨ad315, e315, hx315_0, hx315_1, hx315_2, hx315_3, hx315_4, hx315_5⟩ := at_T31 HR0.out t308 p315 q315; cases e315; replace hx315_0 := (HB.out.cell (World.block_lt_of_cell? w _ hx315_0)).trans hx315_0; replace hx315_1 := (HB.out.cell (World.block_lt_of_cell? w _ hx315_1)).trans hx315_1; replace hx315_2 := (HB.out.cell (World.block_lt_of_cell? w _ hx315_2)).trans hx315_2; replace hx315_3 := (HB.out.cell (World.block_lt_of_cell? w _ hx315_3)).trans hx315_3; replace hx315_4 := (HB.out.cell (World.block_lt_of_cell? w _ hx315_4)).trans hx315_4; replace hx315_5 := (HB.out.cell (World.block_lt_of_cell? w _ hx315_5)).trans hx315_5; replace p315 := eq_true p315; replace q315 := eq_true q315; have p317 : 0 ≤ (t308 : Int) := of_decide_eq_true zq2; have q317 : t308 < (l0.length : Int) := of_decide_eq_true zq2; obtain ⟨ad317, e317, hx317_0, hx317_1, hx317_2, hx317_3, hx317_4, hx317_5⟩ := at_T31 HR0.out t308 p317 q317; obtain rfl : ad315 = ad317 := (by injection e317); replace hx317_0 := (HB.out.cell (World.block_lt_of_cell? w _ hx317_0)).trans hx317_0; replace hx317_1 := (HB.out.cell (World.block_lt_of_cell? w _ hx317_1)).trans hx317_1; replace hx317_2 := (HB.out.cell (World.block_lt_of_cell? w _ hx317_2)).trans hx317_2; replace hx317_3 := (HB.out.cell (World.block_lt_of_cell? w _ hx317_3)).trans hx317_3; replace hx317_4 := (HB.out.cell (World.block_lt_of_cell? w _ hx317_4)).trans hx317_4; replace hx317_5 := (HB.out.cell (World.block_lt_of_cell? w _ hx317_5)).trans hx317_5; replace p317 := eq_true p317; replace q317 := eq_true q317) | ((with_reducible refine gate_dst (N := 13) rfl ?_); refine box_event ?hg (N := 13) ?hd (cs := #[.int .i64 0, .int .i64 0, .int .i64 0, .int .i64 0, .int .i64 0, .int .i64 0]) (t := 31) ?hr ?_; (case hd => rfl); (case hg => rfl); (case hr => first | (go_simp; done) | (go_simp; rfl)); intro gb318 hg w28 hbox hb; have n0_ := Aside0.mk (Kd.R_below (Kd.R_elderB (zqR HO314.out) gb318 (Nat.le_of_eq hg.symm)) hb); have n1_ := Aside0.mk (below_step zq0 hb); have n2_ := Aside0.mk (hbox); have n3_ := Aside0.mk ((by rw [hg]; exact (below_size zq0) : w.heap.size ≤ gb318)); have n4_ := Aside0.mk ((by rw [hg]; exact (below_size zq0) : w.heap.size ≤ gb318)); clear HO314; clear HB; have HO314 := n0_; have HB := n1_; have BK318 := n2_; have GW318 := n3_; have GE318 := n4_; clear n0_ n1_ n2_ n3_ n4_; clear hb hbox hg; have hcz29_0 : w28.cell? ⟨gb318, 0, none⟩ = some (.int .i64 0) := (blk_cell BK318.out 0).trans rfl; have hcz29_1 : w28.cell? ⟨gb318, 1, none⟩ = some (.int .i64 0) := (blk_cell BK318.out 1).trans rfl; have hcz29_2 : w28.cell? ⟨gb318, 2, none⟩ = some (.int .i64 0) := (blk_cell BK318.out 2).trans rfl; have hcz29_3 : w28.cell? ⟨gb318, 3, none⟩ = some (.int .i64 0) := (blk_cell BK318.out 3).trans rfl; have hcz29_4 : w28.cell? ⟨gb318, 4, none⟩ = some (.int .i64 0) := (blk_cell BK318.out 4).trans rfl; have hcz29_5 : w28.cell? ⟨gb318, 5, none⟩ = some (.int .i64 0) := (blk_cell BK318.out 5).trans rfl; have hfz29_0 := blk_frozen BK318.out 0; have hfz29_1 := blk_frozen BK318.out 1; have hfz29_2 := blk_frozen BK318.out 2; have hfz29_3 := blk_frozen BK318.out 3; have hfz29_4 := blk_frozen BK318.out 4; have hfz29_5 := blk_frozen BK318.out 5) | ((with_reducible refine gate_store (t := 31) (p := 13) rfl ?_); refine store_event (t := 31) (p := 13) (v := ?vo_w30) (w1 := ((((((w28.setCell ⟨gb318, 0, none⟩ (.int .i64 ((rd_T31 l0 t308).f0))).setCell ⟨gb318, 1, none⟩ (.int .i64 ((rd_T31 l0 t308).f1))).setCell ⟨gb318, 2, none⟩ (.int .i64 ((rd_T31 l0 t308).f2))).setCell ⟨gb318, 3, none⟩ (.int .i64 ((rd_T31 l0 t308).f3))).setCell ⟨gb318, 4, none⟩ (.int .i64 ((rd_T31 l0 t308).f4))).setCell ⟨gb318, 5, none⟩ (.int .i64 ((rd_T31 l0 t308).f5)))) ?hg ?ho ?hn ?hr ?_; (case ho => rfl); (case hg => rfl); (case hn => rfl); (case hr => first | (go_simp; done) | (go_simp; rfl)); intro w30 hw; have n0_ : Aside0 (Kd.R k31 31 w30 w.heap.size (fun k_ => k_ ≠ gb318) v313 t312) := ⟨(by rw [hw]; exact (by (with_reducible repeat (first | apply Kd.R_alloc | apply Kd.R_drewN | apply Kd.R_drew)); exact Kd.R_mono (Kd.R_far (p := ⟨gb318, 5, none⟩) (Kd.R_far (p := ⟨gb318, 4, none⟩) (Kd.R_far (p := ⟨gb318, 3, none⟩) (Kd.R_far (p := ⟨gb318, 2, none⟩) (Kd.R_far (p := ⟨gb318, 1, none⟩) (Kd.R_far (p := ⟨gb318, 0, none⟩) (Kd.R_mono HO314.out (fun k_ hk => (⟨hk, hk.2⟩ : _ ∧ k_ ≠ gb318))) (fun _ hk => hk.2) (.int .i64 ((rd_T31 l0 t308).f0))) (fun _ hk => hk.2) (.int .i64 ((rd_T31 l0 t308).f1))) (fun _ hk => hk.2) (.int .i64 ((rd_T31 l0 t308).f2))) (fun _ hk => hk.2) (.int .i64 ((rd_T31 l0 t308).f3))) (fun _ hk => hk.2) (.int .i64 ((rd_T31 l0 t308).f4))) (fun _ hk => hk.2) (.int .i64 ((rd_T31 l0 t308).f5))) (fun _ hk => hk.1.2)))⟩; have n1_ : Aside0 (w30.heap[gb318]? = some (.cells #[.int .i64 ((rd_T31 l0 t308).f0), .int .i64 ((rd_T31 l0 t308).f1), .int .i64 ((rd_T31 l0 t308).f2), .int .i64 ((rd_T31 l0 t308).f3), .int .i64 ((rd_T31 l0 t308).f4), .int .i64 ((rd_T31 l0 t308).f5)] 31 (0, 0))) := ⟨(by rw [hw]; exact (by (with_reducible repeat (first | refine blk_drewN ?_ _ | refine blk_drew ?_ | refine blk_alloc ?_ _)); refine blk_put (cs := #[.int .i64 ((rd_T31 l0 t308).f0), .int .i64 ((rd_T31 l0 t308).f1), .int .i64 ((rd_T31 l0 t308).f2), .int .i64 ((rd_T31 l0 t308).f3), .int .i64 ((rd_T31 l0 t308).f4), .int .i64 0]) ?_ 5 _ rfl; (with_reducible repeat (first | refine blk_drewN ?_ _ | refine blk_drew ?_ | refine blk_alloc ?_ _)); refine blk_put (cs := #[.int .i64 ((rd_T31 l0 t308).f0), .int .i64 ((rd_T31 l0 t308).f1), .int .i64 ((rd_T31 l0 t308).f2), .int .i64 ((rd_T31 l0 t308).f3), .int .i64 0, .int .i64 0]) ?_ 4 _ rfl; (with_reducible repeat (first | refine blk_drewN ?_ _ | refine blk_drew ?_ | refine blk_alloc ?_ _)); refine blk_put (cs := #[.int .i64 ((rd_T31 l0 t308).f0), .int .i64 ((rd_T31 l0 t308).f1), .int .i64 ((rd_T31 l0 t308).f2), .int .i64 0, .int .i64 0, .int .i64 0]) ?_ 3 _ rfl; (with_reducible repeat (first | refine blk_drewN ?_ _ | refine blk_drew ?_ | refine blk_alloc ?_ _)); refine blk_put (cs := #[.int .i64 ((rd_T31 l0 t308).f0), .int .i64 ((rd_T31 l0 t308).f1), .int .i64 0, .int .i64 0, .int .i64 0, .int .i64 0]) ?_ 2 _ rfl; (with_reducible repeat (first | refine blk_drewN ?_ _ | refine blk_drew ?_ | refine blk_alloc ?_ _)); refine blk_put (cs := #[.int .i64 ((rd_T31 l0 t308).f0), .int .i64 0, .int .i64 0, .int .i64 0, .int .i64 0, .int .i64 0]) ?_ 1 _ rfl; (with_reducible repeat (first | refine blk_drewN ?_ _ | refine blk_drew ?_ | refine blk_alloc ?_ _)); refine blk_put (cs := #[.int .i64 0, .int .i64 0, .int .i64 0, .int .i64 0, .int .i64 0, .int .i64 0]) ?_ 0 _ rfl; (with_reducible repeat (first | refine blk_drewN ?_ _ | refine blk_drew ?_ | refine blk_alloc ?_ _)); exact BK318.out))⟩; have n2_ : Aside0 (Below w.heap.size w w30) := ⟨(by rw [hw]; exact zq24)⟩; clear hw; clear HO314; clear BK318; clear HB; have HO314 := n0_; have BK318 := n1_; have HB := n2_; clear n0_ n1_ n2_; have hcz31_0 : w30.cell? ⟨gb318, 0, none⟩ = some (.int .i64 ((rd_T31 l0 t308).f0)) := (blk_cell BK318.out 0).trans rfl; have hcz31_1 : w30.cell? ⟨gb318, 1, none⟩ = some (.int .i64 ((rd_T31 l0 t308).f1)) := (blk_cell BK318.out 1).trans rfl; have hcz31_2 : w30.cell? ⟨gb318, 2, none⟩ = some (.int .i64 ((rd_T31 l0 t308).f2)) := (blk_cell BK318.out 2).trans rfl; have hcz31_3 : w30.cell? ⟨gb318, 3, none⟩ = some (.int .i64 ((rd_T31 l0 t308).f3)) := (blk_cell BK318.out 3).trans rfl; have hcz31_4 : w30.cell? ⟨gb318, 4, none⟩ = some (.int .i64 ((rd_T31 l0 t308).f4)) := (blk_cell BK318.out 4).trans rfl; have hcz31_5 : w30.cell? ⟨gb318, 5, none⟩ = some (.int .i64 ((rd_T31 l0 t308).f5)) := (blk_cell BK318.out 5).trans rfl; have hfz31_0 := blk_frozen BK318.out 0; have hfz31_1 := blk_frozen BK318.out 1; have hfz31_2 := blk_frozen BK318.out 2; have hfz31_3 := blk_frozen BK318.out 3; have hfz31_4 := blk_frozen BK318.out 4; have hfz31_5 := blk_frozen BK318.out 5) | ((with_reducible refine gate_store (t := 3) (p := 64) rfl ?_); refine store_event (t := 3) (p := 64) (v := ?vo_w32) (w1 := (w30.setCell ⟨gb318, 2, none⟩ (.int .i64 a2))) ?hg ?ho ?hn ?hr ?_; (case ho => rfl); (case hg => rfl); (case hn => rfl); (case hr => first | (go_simp; done) | (go_simp; rfl)); intro w32 hw; have n0_ : Aside0 (Kd.R k31 31 w32 w.heap.size (fun k_ => k_ ≠ gb318) v313 t312) := ⟨(by rw [hw]; exact (by (with_reducible repeat (first | apply Kd.R_alloc | apply Kd.R_drewN | apply Kd.R_drew)); exact Kd.R_mono (Kd.R_far (p := ⟨gb318, 2, none⟩) (Kd.R_mono HO314.out (fun k_ hk => (⟨hk, hk⟩ : _ ∧ k_ ≠ gb318))) (fun _ hk => hk.2) (.int .i64 a2)) (fun _ hk => hk.1)))⟩; have n1_ : Aside0 (w32.heap[gb318]? = some (.cells #[.int .i64 ((rd_T31 l0 t308).f0), .int .i64 ((rd_T31 l0 t308).f1), .int .i64 a2, .int .i64 ((rd_T31 l0 t308).f3), .int .i64 ((rd_T31 l0 t308).f4), .int .i64 ((rd_T31 l0 t308).f5)] 31 (0, 0))) := ⟨(by rw [hw]; exact (by (with_reducible repeat (first | refine blk_drewN ?_ _ | refine blk_drew ?_ | refine blk_alloc ?_ _)); refine blk_put (cs := #[.int .i64 ((rd_T31 l0 t308).f0), .int .i64 ((rd_T31 l0 t308).f1), .int .i64 ((rd_T31 l0 t308).f2), .int .i64 ((rd_T31 l0 t308).f3), .int .i64 ((rd_T31 l0 t308).f4), .int .i64 ((rd_T31 l0 t308).f5)]) ?_ 2 _ rfl; (with_reducible repeat (first | refine blk_drewN ?_ _ | refine blk_drew ?_ | refine blk_alloc ?_ _)); exact BK318.out))⟩; have n2_ : Aside0 (Below w.heap.size w w32) := ⟨(by rw [hw]; exact zq24)⟩; clear hw; clear HO314; clear BK318; clear HB; have HO314 := n0_; have BK318 := n1_; have HB := n2_; clear n0_ n1_ n2_; have hcz33_0 : w32.cell? ⟨gb318, 0, none⟩ = some (.int .i64 ((rd_T31 l0 t308).f0)) := (blk_cell BK318.out 0).trans rfl; have hcz33_1 : w32.cell? ⟨gb318, 1, none⟩ = some (.int .i64 ((rd_T31 l0 t308).f1)) := (blk_cell BK318.out 1).trans rfl; have hcz33_2 : w32.cell? ⟨gb318, 2, none⟩ = some (.int .i64 a2) := (blk_cell BK318.out 2).trans rfl; have hcz33_3 : w32.cell? ⟨gb318, 3, none⟩ = some (.int .i64 ((rd_T31 l0 t308).f3)) := (blk_cell BK318.out 3).trans rfl; have hcz33_4 : w32.cell? ⟨gb318, 4, none⟩ = some (.int .i64 ((rd_T31 l0 t308).f4)) := (blk_cell BK318.out 4).trans rfl; have hcz33_5 : w32.cell? ⟨gb318, 5, none⟩ = some (.int .i64 ((rd_T31 l0 t308).f5)) := (blk_cell BK318.out 5).trans rfl; have hfz33_0 := blk_frozen BK318.out 0; have hfz33_1 := blk_frozen BK318.out 1; have hfz33_2 := blk_frozen BK318.out 2; have hfz33_3 := blk_frozen BK318.out 3; have hfz33_4 := blk_frozen BK318.out 4; have hfz33_5 := blk_frozen BK318.out 5) | ((with_reducible refine gate_store (t := 3) (p := 65) rfl ?_); refine store_event (t := 3) (p := 65) (v := ?vo_w34) (w1 := (w32.setCell ⟨gb318, 4, none⟩ (.int .i64 a3))) ?hg ?ho ?hn ?hr ?_; (case ho => rfl); (case hg => rfl); (case hn => rfl); (case hr => first | (go_simp; done) | (go_simp; rfl)); intro w34 hw; have n0_ : Aside0 (Kd.R k31 31 w34 w.heap.size (fun k_ => k_ ≠ gb318) v313 t312) := ⟨(by rw [hw]; exact (by (with_reducible repeat (first | apply Kd.R_alloc | apply Kd.R_drewN | apply Kd.R_drew)); exact Kd.R_mono (Kd.R_far (p := ⟨gb318, 4, none⟩) (Kd.R_mono HO314.out (fun k_ hk => (⟨hk, hk⟩ : _ ∧ k_ ≠ gb318))) (fun _ hk => hk.2) (.int .i64 a3)) (fun _ hk => hk.1)))⟩; have n1_ : Aside0 (w34.heap[gb318]? = some (.cells #[.int .i64 ((rd_T31 l0 t308).f0), .int .i64 ((rd_T31 l0 t308).f1), .int .i64 a2, .int .i64 ((rd_T31 l0 t308).f3), .int .i64 a3, .int .i64 ((rd_T31 l0 t308).f5)] 31 (0, 0))) := ⟨(by rw [hw]; exact (by (with_reducible repeat (first | refine blk_drewN ?_ _ | refine blk_drew ?_ | refine blk_alloc ?_ _)); refine blk_put (cs := #[.int .i64 ((rd_T31 l0 t308).f0), .int .i64 ((rd_T31 l0 t308).f1), .int .i64 a2, .int .i64 ((rd_T31 l0 t308).f3), .int .i64 ((rd_T31 l0 t308).f4), .int .i64 ((rd_T31 l0 t308).f5)]) ?_ 4 _ rfl; (with_reducible repeat (first | refine blk_drewN ?_ _ | refine blk_drew ?_ | refine blk_alloc ?_ _)); exact BK318.out))⟩; have n2_ : Aside0 (Below w.heap.size w w34) := ⟨(by rw [hw]; exact zq24)⟩; clear hw; clear HO314; clear BK318; clear HB; have HO314 := n0_; have BK318 := n1_; have HB := n2_; clear n0_ n1_ n2_; have p25 : 0 ≤ (t308 : Int) := of_decide_eq_true zq2; have q25 : (t308 : Int) < ((t312.length : Int) : Int) := of_decide_eq_true zq2; obtain ⟨go25, co25, eo25, gb25, gl25, cl25, HG25⟩ := Kd.R_form HO314.out (by omega); (first | cases eo25 | (injection eo25 with ea_ en_ ec_; (first | subst ea_ | (injection ea_ with ea_; subst ea_)); subst ec_; clear en_)); have GB25 := Aside0.mk gb25; have GG25 := Aside0.mk HG25; clear gb25 gl25 HG25; obtain ⟨ce25, hcl25, hM25, hcc25, hfr25⟩ := Kd.R_elem HO314.out z31 (t308 : Int) p25 q25; obtain rfl := k31_openM hM25; have hx25_0 : w34.cell? ⟨go25, (t308 : Int).toNat * 6, none⟩ = some (.int .i64 ((rd_T31 t312 t308).f0)) := hcc25 0 _ rfl; have hx25_1 : w34.cell? ⟨go25, (t308 : Int).toNat * 6 + 1, none⟩ = some (.int .i64 ((rd_T31 t312 t308).f1)) := hcc25 1 _ rfl; have hx25_2 : w34.cell? ⟨go25, (t308 : Int).toNat * 6 + 2, none⟩ = some (.int .i64 ((rd_T31 t312 t308).f2)) := hcc25 2 _ rfl; have hx25_3 : w34.cell? ⟨go25, (t308 : Int).toNat * 6 + 3, none⟩ = some (.int .i64 ((rd_T31 t312 t308).f3)) := hcc25 3 _ rfl; have hx25_4 : w34.cell? ⟨go25, (t308 : Int).toNat * 6 + 4, none⟩ = some (.int .i64 ((rd_T31 t312 t308).f4)) := hcc25 4 _ rfl; have hx25_5 : w34.cell? ⟨go25, (t308 : Int).toNat * 6 + 5, none⟩ = some (.int .i64 ((rd_T31 t312 t308).f5)) := hcc25 5 _ rfl; have hf25_0 : w34.frozen? ⟨go25, (t308 : Int).toNat * 6, none⟩ = false := hfr25 0; have hf25_1 : w34.frozen? ⟨go25, (t308 : Int).toNat * 6 + 1, none⟩ = false := hfr25 1; have hf25_2 : w34.frozen? ⟨go25, (t308 : Int).toNat * 6 + 2, none⟩ = false := hfr25 2; have hf25_3 : w34.frozen? ⟨go25, (t308 : Int).toNat * 6 + 3, none⟩ = false := hfr25 3; have hf25_4 : w34.frozen? ⟨go25, (t308 : Int).toNat * 6 + 4, none⟩ = false := hfr25 4; have hf25_5 : w34.frozen? ⟨go25, (t308 : Int).toNat * 6 + 5, none⟩ = false := hfr25 5; clear hcl25 hcc25 hfr25 hM25; replace p25 := eq_true p25; replace q25 := eq_true q25; have HX35 := Aside0.mk (show Kd.R k31 31 w34 w.heap.size (fun k_ => k_ ≠ gb318) (.slice (some ⟨go25, 0, none⟩) t312.length co25) t312 from (zqR HO314.out)); obtain ⟨ce35, hcl35, hM35, hcc35, hfr35⟩ := Kd.R_elem HX35.out z31 (t308 : Int) (of_decide_eq_true zq2) (by have h_ : (t308 : Int) < ((t312.length : Int) : Int) := of_decide_eq_true zq2; first | exact h_ | (have e_ := (Kd.R_reads' HO314.out).1; omega) | simpa using h_); obtain rfl := k31_openM hM35; have HP35 := Kd.R_seg HX35.out (t308 : Int) (of_decide_eq_true zq2) (by have h_ : (t308 : Int) < ((t312.length : Int) : Int) := of_decide_eq_true zq2; first | exact h_ | (have e_ := (Kd.R_reads' HO314.out).1; omega) | simpa using h_) (seg := [.int .i64 a3]) (j := 5) hcl35 hcc35 (show 6 ≤ 6 from by decide) (x' := (⟨(rd_T31 t312 t308).f0, (rd_T31 t312 t308).f1, (rd_T31 t312 t308).f2, (rd_T31 t312 t308).f3, (rd_T31 t312 t308).f4, a3⟩ : S31)) (k31_mkM _ _ _ (⟨(rd_T31 t312 t308).f0, (rd_T31 t312 t308).f1, (rd_T31 t312 t308).f2, (rd_T31 t312 t308).f3, (rd_T31 t312 t308).f4, a3⟩ : S31) ) (fun _ hk => hk); have hx35_5 := hcc35 5 _ rfl; (try simp only [show (k31).sz = 6 from rfl, Nat.mul_one, Nat.add_zero] at hx35_5); have hf35_5 := hfr35 5; (try simp only [show (k31).sz = 6 from rfl, Nat.mul_one, Nat.add_zero] at hf35_5); clear hcl35 hcc35 hfr35 hM35) | ((with_reducible refine gate_store (t := 3) (p := 70) rfl ?_); refine store_event (t := 3) (p := 70) (v := ?vo_w36) (w1 := (w34.setCell ⟨go25, (t308 : Int).toNat * 6 + 5, none⟩ (.int .i64 a3))) ?hg ?ho ?hn ?hr ?_; (case ho => rfl); (case hg => rfl); (case hn => rfl); (case hr => first | (go_simp; done) | (go_simp; rfl)); intro w36 hw; have hg : w34.grownBy w36 (some go25) := (by rw [hw]; exact HP35.2); have hp_ : Kd.R k31 31 w36 w.heap.size (fun k_ => k_ ≠ gb318) (.slice (some ⟨go25, 0, none⟩) t312.length co25) y319 := (by rw [hw, Ny319.out]; exact HP35.1); clear HP35; have n0_ := Aside0.mk (hp_); have n1_ := Aside0.mk (blk_grown (g := gb318) (o := .cells #[.int .i64 ((rd_T31 l0 t308).f0), .int .i64 ((rd_T31 l0 t308).f1), .int .i64 a2, .int .i64 ((rd_T31 l0 t308).f3), .int .i64 a3, .int .i64 ((rd_T31 l0 t308).f5)] 31 (0, 0)) (zqK BK318.out) hg (Kd.R_away HO314.out (fun _ hk => hk))); have n2_ := Aside0.mk ((by rw [hw]; exact below_set (HB.out) GB25.out : Below w.heap.size w w36)); clear HO314; clear BK318; clear HB; have HO314 := n0_; have BK318 := n1_; have HB := n2_; clear n0_ n1_ n2_; clear hg hw hp_; have hcz37_0 : w36.cell? ⟨gb318, 0, none⟩ = some (.int .i64 ((rd_T31 l0 t308).f0)) := (blk_cell BK318.out 0).trans rfl; have hcz37_1 : w36.cell? ⟨gb318, 1, none⟩ = some (.int .i64 ((rd_T31 l0 t308).f1)) := (blk_cell BK318.out 1).trans rfl; have hcz37_2 : w36.cell? ⟨gb318, 2, none⟩ = some (.int .i64 a2) := (blk_cell BK318.out 2).trans rfl; have hcz37_3 : w36.cell? ⟨gb318, 3, none⟩ = some (.int .i64 ((rd_T31 l0 t308).f3)) := (blk_cell BK318.out 3).trans rfl; have hcz37_4 : w36.cell? ⟨gb318, 4, none⟩ = some (.int .i64 a3) := (blk_cell BK318.out 4).trans rfl; have hcz37_5 : w36.cell? ⟨gb318, 5, none⟩ = some (.int .i64 ((rd_T31 l0 t308).f5)) := (blk_cell BK318.out 5).trans rfl; have hfz37_0 := blk_frozen BK318.out 0; have hfz37_1 := blk_frozen BK318.out 1; have hfz37_2 := blk_frozen BK318.out 2; have hfz37_3 := blk_frozen BK318.out 3; have hfz37_4 := blk_frozen BK318.out 4; have hfz37_5 := blk_frozen BK318.out 5) | ((with_reducible refine gate_callee (f := 62) rfl ?_); refine goesL_ (some 73) rfl rfl Try.func62 (by kernel_rfl) rfl #[.slice (some ⟨go25, 0, none⟩) y319.length co25, .agg #[.int .i64 ((rd_T31 l0 t308).f0), .int .i64 ((rd_T31 l0 t308).f1), .int .i64 a2, .int .i64 ((rd_T31 l0 t308).f3), .int .i64 a3, .int .i64 ((rd_T31 l0 t308).f5)]] rfl (by (try simp only [List.map_toArray, List.map_cons, List.map_nil]); first | done | (rw [show y319.length = t312.length from (Kd.R_reads' HO314.out).1.symm] <;> rfl) | rfl | (simp only [List.length_drop, List.length_take]; rfl)) ?_; (with_reducible refine (impl_issued.calls kj5 _ _ y319 ((rd_T31 l0 t308).f0) ((rd_T31 l0 t308).f1) a2 ((rd_T31 l0 t308).f3) a3 ((rd_T31 l0 t308).f5) t320 t323 t324 _ ?side1 ?side2 A26.out).mono ?_); (case side1 => repeat (first | exact (Kd.R_reads' HO314.out).2.2 | (with_reducible refine Kd.C_alloc ?_ _) | (with_reducible refine Kd.C_drewN ?_ _) | (with_reducible refine Kd.C_drew ?_))); (case side2 => rw [show y319.length = t312.length from (Kd.R_reads' HO314.out).1.symm]; exact (Kd.R_reads' HO314.out).2.1); rintro e w38 ⟨v321, rfl, ho0, hb⟩; refine ⟨_, rfl, ?_⟩; have n0_ := Aside0.mk (Kd.R_elder' (zqR HO314.out) (Kd.R_base ho0) hb); have n1_ := Aside0.mk (Kd.R_lower (Kd.R_newB (Kd.R_new' ho0 (Kd.R_lt (zqR HO314.out))) (g := gb318) (o := .cells #[.int .i64 ((rd_T31 l0 t308).f0), .int .i64 ((rd_T31 l0 t308).f1), .int .i64 a2, .int .i64 ((rd_T31 l0 t308).f3), .int .i64 a3, .int .i64 ((rd_T31 l0 t308).f5)] 31 (0, 0)) (zqK BK318.out)) (below_size zq24)); have n2_ := Aside0.mk (blk_below (g := gb318) (o := .cells #[.int .i64 ((rd_T31 l0 t308).f0), .int .i64 ((rd_T31 l0 t308).f1), .int .i64 a2, .int .i64 ((rd_T31 l0 t308).f3), .int .i64 a3, .int .i64 ((rd_T31 l0 t308).f5)] 31 (0, 0)) (zqK BK318.out) hb); have n3_ := Aside0.mk (below_step zq24 hb); clear HO314; clear BK318; clear HB; have HO314 := n0_; have HO322 := n1_; have BK318 := n2_; have HB := n3_; clear n0_ n1_ n2_ n3_; (try clear hb); (try clear hb2); (try clear hk); (try clear hi); (try clear ho0)))
        go_ret3
        exact ⟨_, by first | rfl | (simp [errW_none, errW_some] <;> rfl) | (simp [*, errW_none, errW_some] <;> rfl), by (with_reducible repeat (first | apply Kd.R_alloc | apply Kd.R_drewN | apply Kd.R_drew)); exact Kd.R_mono HO322.out (fun _ hk => trivial), by repeat (first | (with_reducible first | exact HB.out | apply below_alloc | apply pw_below_drewN | apply below_drew1 | refine below_set ?_ GE318.out) | exact HB.out)⟩
       ·
        rw [if_neg c24] at H
        exact absurd H (by simp)
     ·
      rw [if_neg c17] at H
      exact absurd H (by simp)
    ·
     rw [if_neg c16] at H
     exact absurd H (by simp)

end Go.Proofs.Ytklepiechbnenaa.Q
namespace Go.Proofs.Ytklepiechbnenaa.Q
open Go.RowKit Go.Proofs.YtklepiechbnenaaW.PrintWords Go.Proofs.YtklepiechbnenaaW.PrintLast Go.Proofs.YtklepiechbnenaaW.PrintMore
attribute [local go_sem] max2_int min2_int max_two min_two max_three min_three max_four min_four   -- for this text's walks alone
set_option linter.unusedVariables false
set_option linter.unusedSimpArgs false

/-! ### spec_l14With: function 64 -/
def spec_l14With.f (l0 : List (S31)) (a1 : Int) (a2_0 : Int) (a2_1 : Int) (a2_2 : Int) (a2_3 : Int) (a2_4 : Int) (a2_5 : Int) : Option ((List (S31))) := (some (([] : List (S31)) : List (S31))).bind fun y326 => (if y326.length + l0.length < 2932031007402 then ((some (y326 ++ l0 : List (S31))).bind fun y329 => (if 0 ≤ a1 then (if a1 < (y329.length : Int) then (some (y329.set (a1 : Int).toNat (⟨a2_0, a2_1, a2_2, a2_3, a2_4, a2_5⟩ : S31))) else (none)) else (none))) else (none))
set_option maxHeartbeats 8000000 in
set_option maxRecDepth 100000 in
theorem spec_l14With.calls (A0 : Option Addr) (c0 : Nat) (l0 : List (S31)) (a1 : Int) (a2_0 : Int) (a2_1 : Int) (a2_2 : Int) (a2_3 : Int) (a2_4 : Int) (a2_5 : Int) (r : List (S31)) (w : World) (hr0 : Kd.C k31 w A0 l0.length l0) (hc0 : l0.length ≤ c0) (h : spec_l14With.f l0 a1 a2_0 a2_1 a2_2 a2_3 a2_4 a2_5 = some r) :
  Calls Try.prog 64 #[.slice A0 l0.length c0, .int .i64 a1, .agg #[.int .i64 a2_0, .int .i64 a2_1, .int .i64 a2_2, .int .i64 a2_3, .int .i64 a2_4, .int .i64 a2_5]] w fun e w' => ∃ v0_ : Value, e = .returned (v0_) ∧ Kd.R k31 31 w' w.heap.size (fun _ => True) v0_ r ∧ Below w.heap.size w w' := by
 have hu31 := Try.underlying31
 have HR0 := Aside0.mk hr0
 have HC0 := Aside0.mk hc0
 clear hr0 hc0
 have HB := Aside0.mk (Below.refl w.heap.size w)
 have H : ((some (([] : List (S31)) : List (S31))).bind fun y326 => (if y326.length + l0.length < 2932031007402 then ((some (y326 ++ l0 : List (S31))).bind fun y329 => (if 0 ≤ a1 then (if a1 < (y329.length : Int) then (some (y329.set (a1 : Int).toNat (⟨a2_0, a2_1, a2_2, a2_3, a2_4, a2_5⟩ : S31))) else (none)) else (none))) else (none))) = some r := h
 clear h
 obtain ⟨y326, hy326⟩ : ∃ y_ : List (S31), y_ = (([] : List (S31))) := ⟨_, rfl⟩
 replace H : (if y326.length + l0.length < 2932031007402 then ((some (y326 ++ l0 : List (S31))).bind fun y329 => (if 0 ≤ a1 then (if a1 < (y329.length : Int) then (some (y329.set (a1 : Int).toNat (⟨a2_0, a2_1, a2_2, a2_3, a2_4, a2_5⟩ : S31))) else (none)) else (none))) else (none)) = some r := by first | (rw [hy326]; with_reducible exact H) | (have H2_ := (Option.bind_some _ _).symm.trans H; rw [hy326]; with_reducible exact H2_) | (have H2_ := (Option.bind_some _ _).symm.trans H; with_reducible exact H2_) | with_reducible exact H | (rw [hy326]; exact H) | exact H
 have Ny326 := Aside0.mk hy326
 clear hy326
 by_cases c4 : y326.length + l0.length < 2932031007402
 ·
  rw [if_pos c4] at H
  have LMc4 := Aside0.mk c4
  clear c4
  obtain ⟨y329, hy329⟩ : ∃ y_ : List (S31), y_ = (y326 ++ l0) := ⟨_, rfl⟩
  replace H : (if 0 ≤ a1 then (if a1 < (y329.length : Int) then (some (y329.set (a1 : Int).toNat (⟨a2_0, a2_1, a2_2, a2_3, a2_4, a2_5⟩ : S31))) else (none)) else (none)) = some r := by first | (rw [hy329]; with_reducible exact H) | (have H2_ := (Option.bind_some _ _).symm.trans H; rw [hy329]; with_reducible exact H2_) | (have H2_ := (Option.bind_some _ _).symm.trans H; with_reducible exact H2_) | with_reducible exact H | (rw [hy329]; exact H) | exact H
  have Ny329 := Aside0.mk hy329
  clear hy329
  by_cases c5 : 0 ≤ a1
  ·
   rw [if_pos c5] at H
   have c5b0 : decide (0 ≤ a1) = true := decide_eq_true c5
   clear c5
   by_cases c6 : a1 < (y329.length : Int)
   ·
    rw [if_pos c6] at H
    have c6b0 : decide (a1 < (y329.length : Int)) = true := decide_eq_true c6
    clear c6
    obtain ⟨y332, hy332⟩ : ∃ y_ : List (S31), y_ = (y329.set (a1 : Int).toNat (⟨a2_0, a2_1, a2_2, a2_3, a2_4, a2_5⟩ : S31)) := ⟨_, rfl⟩
    replace H : (some y332) = some r := by first | (rw [hy332]; with_reducible exact H) | (have H2_ := (Option.bind_some _ _).symm.trans H; rw [hy332]; with_reducible exact H2_) | (have H2_ := (Option.bind_some _ _).symm.trans H; with_reducible exact H2_) | with_reducible exact H | (rw [hy332]; exact H) | exact H
    have Ny332 := Aside0.mk hy332
    clear hy332
    obtain rfl := Option.some.inj H
    go_enter Try.func64, Try.ntmps64
    go_wp2_with (first | ((with_reducible refine gate_dst (N := 5) rfl ?_); refine box_event ?hg (N := 5) ?hd (cs := #[.int .i64 a2_0, .int .i64 a2_1, .int .i64 a2_2, .int .i64 a2_3, .int .i64 a2_4, .int .i64 a2_5]) (t := 31) ?hr ?_; (case hd => rfl); (case hg => rfl); (case hr => first | (go_simp; done) | (go_simp; rfl)); intro gb325 hg w8 hbox hb; have n0_ := Aside0.mk (below_step zq0 hb); have n1_ := Aside0.mk (hbox); have n2_ := Aside0.mk ((by rw [hg]; exact (below_size zq0) : w.heap.size ≤ gb325)); have n3_ := Aside0.mk ((by rw [hg]; exact (below_size zq0) : w.heap.size ≤ gb325)); clear HB; have HB := n0_; have BK325 := n1_; have GW325 := n2_; have GE325 := n3_; clear n0_ n1_ n2_ n3_; clear hb hbox hg) | ((with_reducible refine gate_dst (N := 8) rfl ?_); refine Kd.R_lit k31 _ 31 ?hg (N := 8) ?hd (xs := ([] : List (S31))) (inner := []) (ok := fun _ => True) (okp := fun _ => True) ?hr ?hp (fun _ hk => hk) trivial (Below.refl _ _) (Nat.le_refl _) (by simp) ?_; (case hd => rfl); (case hg => rfl); (case hr => first | (go_simp; done) | (go_simp; rfl)); (case hp => exact (Reps.none _ _)); intro v327 w9 ho10 hb hg_ hnew_; clear hg_ hnew_; (first | rw [← Ny326.out] at ho10 | (simp only [Int.reduceToNat] at ho10; rw [← Ny326.out] at ho10)); have n0_ := Aside0.mk (Kd.R_lower (Kd.R_newB ho10 (g := gb325) (o := .cells #[.int .i64 a2_0, .int .i64 a2_1, .int .i64 a2_2, .int .i64 a2_3, .int .i64 a2_4, .int .i64 a2_5] 31 (0, 0)) (zqK BK325.out)) (below_size zq28)); have n1_ := Aside0.mk (blk_below (g := gb325) (o := .cells #[.int .i64 a2_0, .int .i64 a2_1, .int .i64 a2_2, .int .i64 a2_3, .int .i64 a2_4, .int .i64 a2_5] 31 (0, 0)) (zqK BK325.out) hb); have n2_ := Aside0.mk (below_step zq28 hb); clear BK325; clear HB; have HO328 := n0_; have BK325 := n1_; have HB := n2_; clear n0_ n1_ n2_; clear hb ho10) | ((with_reducible refine gate_builtin (b := .append) (xs := #[.tmp 8, .tmp 9]) rfl ?_); at_builtin; refine Kd.R_append_rows k31 (w0 := w) w.heap.size rfl (.tmp 8) (.tmp 9) 24 31 (.agg #[(.int .i64 0), (.int .i64 0), (.int .i64 0), (.int .i64 0), (.int .i64 0), (.int .i64 0)]) 48 rfl Try.underlying24 info31 rfl (by decide) (by omega) v327 y326 l0 _ _ _ (fun k_ => k_ ≠ gb325) (fun _ => False) rfl rfl ?aO ?aR (fun _ _ h => h) (fun _ h => h.elim) ?aF ?aB ?aS ?aL ?_; (case aR => repeat (first | exact (Kd.C_below HR0.out HB.out) | (with_reducible refine Kd.C_alloc ?_ _) | (with_reducible refine Kd.C_drewN ?_ _) | (with_reducible refine Kd.C_drew ?_))); (case aB => exact zq28); (case aF => exact (fun k_ hk => Kd.freshB (g := gb325) (o := .cells #[.int .i64 a2_0, .int .i64 a2_1, .int .i64 a2_2, .int .i64 a2_3, .int .i64 a2_4, .int .i64 a2_5] 31 (0, 0)) (zqK BK325.out) k_ hk)); (case aO => exact (by (with_reducible repeat (first | apply Kd.R_alloc | apply Kd.R_drewN | apply Kd.R_drew)); exact Kd.R_mono HO328.out (fun _ hk => hk.2))); (case aS => exact (below_size zq28)); (case aL => have := LMc4.out; omega); intro v330 w11 ho hb hg hat; rw [← Ny329.out] at ho; have n0_ := Aside0.mk (blk_grown (g := gb325) (o := .cells #[.int .i64 a2_0, .int .i64 a2_1, .int .i64 a2_2, .int .i64 a2_3, .int .i64 a2_4, .int .i64 a2_5] 31 (0, 0)) (zqK BK325.out) hg (Kd.R_away HO328.out (fun _ hk => hk.2))); have n1_ := Aside0.mk (hb); have n2_ := Aside0.mk (ho); clear BK325; clear HB; clear HO328; have BK325 := n0_; have HB := n1_; have HO331 := n2_; clear n0_ n1_ n2_; clear ho hb hg hat; have hcz12_0 : w11.cell? ⟨gb325, 0, none⟩ = some (.int .i64 a2_0) := (blk_cell BK325.out 0).trans rfl; have hcz12_1 : w11.cell? ⟨gb325, 1, none⟩ = some (.int .i64 a2_1) := (blk_cell BK325.out 1).trans rfl; have hcz12_2 : w11.cell? ⟨gb325, 2, none⟩ = some (.int .i64 a2_2) := (blk_cell BK325.out 2).trans rfl; have hcz12_3 : w11.cell? ⟨gb325, 3, none⟩ = some (.int .i64 a2_3) := (blk_cell BK325.out 3).trans rfl; have hcz12_4 : w11.cell? ⟨gb325, 4, none⟩ = some (.int .i64 a2_4) := (blk_cell BK325.out 4).trans rfl; have hcz12_5 : w11.cell? ⟨gb325, 5, none⟩ = some (.int .i64 a2_5) := (blk_cell BK325.out 5).trans rfl; have hfz12_0 := blk_frozen BK325.out 0; have hfz12_1 := blk_frozen BK325.out 1; have hfz12_2 := blk_frozen BK325.out 2; have hfz12_3 := blk_frozen BK325.out 3; have hfz12_4 := blk_frozen BK325.out 4; have hfz12_5 := blk_frozen BK325.out 5; have p7 : 0 ≤ (a1 : Int) := of_decide_eq_true zq2; have q7 : (a1 : Int) < ((y329.length : Int) : Int) := of_decide_eq_true zq2; obtain ⟨go7, co7, eo7, gb7, gl7, cl7, HG7⟩ := Kd.R_form HO331.out (by omega); (first | cases eo7 | (injection eo7 with ea_ en_ ec_; (first | subst ea_ | (injection ea_ with ea_; subst ea_)); subst ec_; clear en_)); have GB7 := Aside0.mk gb7; have GG7 := Aside0.mk HG7; clear gb7 gl7 HG7; obtain ⟨ce7, hcl7, hM7, hcc7, hfr7⟩ := Kd.R_elem HO331.out z31 (a1 : Int) p7 q7; obtain rfl := k31_openM hM7; have hx7_0 : w11.cell? ⟨go7, (a1 : Int).toNat * 6, none⟩ = some (.int .i64 ((rd_T31 y329 a1).f0)) := hcc7 0 _ rfl; have hx7_1 : w11.cell? ⟨go7, (a1 : Int).toNat * 6 + 1, none⟩ = some (.int .i64 ((rd_T31 y329 a1).f1)) := hcc7 1 _ rfl; have hx7_2 : w11.cell? ⟨go7, (a1 : Int).toNat * 6 + 2, none⟩ = some (.int .i64 ((rd_T31 y329 a1).f2)) := hcc7 2 _ rfl; have hx7_3 : w11.cell? ⟨go7, (a1 : Int).toNat * 6 + 3, none⟩ = some (.int .i64 ((rd_T31 y329 a1).f3)) := hcc7 3 _ rfl; have hx7_4 : w11.cell? ⟨go7, (a1 : Int).toNat * 6 + 4, none⟩ = some (.int .i64 ((rd_T31 y329 a1).f4)) := hcc7 4 _ rfl; have hx7_5 : w11.cell? ⟨go7, (a1 : Int).toNat * 6 + 5, none⟩ = some (.int .i64 ((rd_T31 y329 a1).f5)) := hcc7 5 _ rfl; have hf7_0 : w11.frozen? ⟨go7, (a1 : Int).toNat * 6, none⟩ = false := hfr7 0; have hf7_1 : w11.frozen? ⟨go7, (a1 : Int).toNat * 6 + 1, none⟩ = false := hfr7 1; have hf7_2 : w11.frozen? ⟨go7, (a1 : Int).toNat * 6 + 2, none⟩ = false := hfr7 2; have hf7_3 : w11.frozen? ⟨go7, (a1 : Int).toNat * 6 + 3, none⟩ = false := hfr7 3; have hf7_4 : w11.frozen? ⟨go7, (a1 : Int).toNat * 6 + 4, none⟩ = false := hfr7 4; have hf7_5 : w11.frozen? ⟨go7, (a1 : Int).toNat * 6 + 5, none⟩ = false := hfr7 5; clear hcl7 hcc7 hfr7 hM7; replace p7 := eq_true p7; replace q7 := eq_true q7; have HX13 := Aside0.mk (show Kd.R k31 31 w11 w.heap.size (fun k_ => k_ ≠ gb325) (.slice (some ⟨go7, 0, none⟩) y329.length co7) y329 from (zqR HO331.out)); obtain ⟨ce13, hcl13, hM13, hcc13, hfr13⟩ := Kd.R_elem HX13.out z31 (a1 : Int) (of_decide_eq_true zq2) (by have h_ : (a1 : Int) < ((y329.length : Int) : Int) := of_decide_eq_true zq2; first | exact h_ | (have e_ := (Kd.R_reads' HO331.out).1; omega) | simpa using h_); obtain rfl := k31_openM hM13; have HP13 := Kd.R_seg HX13.out (a1 : Int) (of_decide_eq_true zq2) (by have h_ : (a1 : Int) < ((y329.length : Int) : Int) := of_decide_eq_true zq2; first | exact h_ | (have e_ := (Kd.R_reads' HO331.out).1; omega) | simpa using h_) (seg := [.int .i64 a2_0, .int .i64 a2_1, .int .i64 a2_2, .int .i64 a2_3, .int .i64 a2_4, .int .i64 a2_5]) (j := 0) hcl13 hcc13 (show 6 ≤ 6 from by decide) (x' := (⟨a2_0, a2_1, a2_2, a2_3, a2_4, a2_5⟩ : S31)) (k31_mkM _ _ _ (⟨a2_0, a2_1, a2_2, a2_3, a2_4, a2_5⟩ : S31) ) (fun _ hk => hk); have hx13_0 := hcc13 0 _ rfl; (try simp only [show (k31).sz = 6 from rfl, Nat.mul_one, Nat.add_zero] at hx13_0); have hf13_0 := hfr13 0; (try simp only [show (k31).sz = 6 from rfl, Nat.mul_one, Nat.add_zero] at hf13_0); have hx13_1 := hcc13 1 _ rfl; (try simp only [show (k31).sz = 6 from rfl, Nat.mul_one, Nat.add_zero] at hx13_1); have hf13_1 := hfr13 1; (try simp only [show (k31).sz = 6 from rfl, Nat.mul_one, Nat.add_zero] at hf13_1); have hx13_2 := hcc13 2 _ rfl; (try simp only [show (k31).sz = 6 from rfl, Nat.mul_one, Nat.add_zero] at hx13_2); have hf13_2 := hfr13 2; (try simp only [show (k31).sz = 6 from rfl, Nat.mul_one, Nat.add_zero] at hf13_2); have hx13_3 := hcc13 3 _ rfl; (try simp only [show (k31).sz = 6 from rfl, Nat.mul_one, Nat.add_zero] at hx13_3); have hf13_3 := hfr13 3; (try simp only [show (k31).sz = 6 from rfl, Nat.mul_one, Nat.add_zero] at hf13_3); have hx13_4 := hcc13 4 _ rfl; (try simp only [show (k31).sz = 6 from rfl, Nat.mul_one, Nat.add_zero] at hx13_4); have hf13_4 := hfr13 4; (try simp only [show (k31).sz = 6 from rfl, Nat.mul_one, Nat.add_zero] at hf13_4); have hx13_5 := hcc13 5 _ rfl; (try simp only [show (k31).sz = 6 from rfl, Nat.mul_one, Nat.add_zero] at hx13_5); have hf13_5 := hfr13 5; (try simp only [show (k31).sz = 6 from rfl, Nat.mul_one, Nat.add_zero] at hf13_5); clear hcl13 hcc13 hfr13 hM13) | ((with_reducible refine gate_store (t := 31) (p := 14) rfl ?_); refine store_event (t := 31) (p := 14) (v := ?vo_w14) (w1 := ((((((w11.setCell ⟨go7, (a1 : Int).toNat * 6, none⟩ (.int .i64 a2_0)).setCell ⟨go7, (a1 : Int).toNat * 6 + 1, none⟩ (.int .i64 a2_1)).setCell ⟨go7, (a1 : Int).toNat * 6 + 2, none⟩ (.int .i64 a2_2)).setCell ⟨go7, (a1 : Int).toNat * 6 + 3, none⟩ (.int .i64 a2_3)).setCell ⟨go7, (a1 : Int).toNat * 6 + 4, none⟩ (.int .i64 a2_4)).setCell ⟨go7, (a1 : Int).toNat * 6 + 5, none⟩ (.int .i64 a2_5))) ?hg ?ho ?hn ?hr ?_; (case ho => rfl); (case hg => rfl); (case hn => rfl); (case hr => first | (go_simp; done) | (go_simp; rfl)); intro w14 hw; have hg : w11.grownBy w14 (some go7) := (by rw [hw]; exact HP13.2); have hp_ : Kd.R k31 31 w14 w.heap.size (fun k_ => k_ ≠ gb325) (.slice (some ⟨go7, 0, none⟩) y329.length co7) y332 := (by rw [hw, Ny332.out]; exact HP13.1); clear HP13; have n0_ := Aside0.mk (blk_grown (g := gb325) (o := .cells #[.int .i64 a2_0, .int .i64 a2_1, .int .i64 a2_2, .int .i64 a2_3, .int .i64 a2_4, .int .i64 a2_5] 31 (0, 0)) (zqK BK325.out) hg (Kd.R_away HO331.out (fun _ hk => hk))); have n1_ := Aside0.mk (hp_); have n2_ := Aside0.mk ((by rw [hw]; exact below_set (below_set (below_set (below_set (below_set (below_set (HB.out) GB7.out) GB7.out) GB7.out) GB7.out) GB7.out) GB7.out : Below w.heap.size w w14)); clear BK325; clear HO331; clear HB; have BK325 := n0_; have HO331 := n1_; have HB := n2_; clear n0_ n1_ n2_; clear hg hw hp_))
    go_ret
    exact ⟨_, by first | rfl | (simp [errW_none, errW_some] <;> rfl) | (simp [*, errW_none, errW_some] <;> rfl), by (with_reducible repeat (first | apply Kd.R_alloc | apply Kd.R_drewN | apply Kd.R_drew)); exact Kd.R_mono HO331.out (fun _ hk => trivial), by repeat (first | (with_reducible first | exact HB.out | apply below_alloc | apply pw_below_drewN | apply below_drew1 | refine below_set ?_ GE325.out) | exact HB.out)⟩
   ·
    rw [if_neg c6] at H
    exact absurd H (by simp)
  ·
   rw [if_neg c5] at H
   exact absurd H (by simp)
 ·
  rw [if_neg c4] at H
  exact absurd H (by simp)

end Go.Proofs.Ytklepiechbnenaa.Q
