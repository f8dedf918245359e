/- Texts of this seat, put together: Qf65, Qf10, Qe1, Qf11. -/
import Derived.Test.YtklepiechbnenaaZFnLevels
import Derived.Test.YtklepiechbnenaaWEqStruct
import Derived.Test.YtklepiechbnenaaBFnLevels0
import Derived.Test.YtklepiechbnenaaBFnLevels1
import Derived.Test.YtklepiechbnenaaBFnLevels4
import Derived.Test.YtklepiechbnenaaBFnLevels6
namespace Go.Proofs.Ytklepiechbnenaa.Q
open Go.RowKit Go.Proofs.YtklepiechbnenaaW.PrintWords Go.Proofs.YtklepiechbnenaaW.PrintLast Go.Proofs.YtklepiechbnenaaW.PrintMore
attribute [local go_sem] max2_int min2_int max_two min_two max_three min_three max_four min_four   -- for this text's walks alone
set_option linter.unusedVariables false
set_option linter.unusedSimpArgs false

/-! ### spec_l14Issue: function 65 -/
def spec_l14Issue.j0 : Nat → List (S31) → Int → Int → Int → Int → Int → Int → Int → Option ((List (S31)) × Int)
 | 0, _, _, _, _, _, _, _, _ => none
 | k + 1, x0, x6, x334000, x334001, x334002, x334003, x334004, x334005 => (some (([] : List (S31)) : List (S31))).bind fun y335 => (if y335.length + x0.length < 2932031007402 then ((some (y335 ++ x0 : List (S31))).bind fun y338 => ((some (([(⟨x6, x334001, x334002, x334003, x334004, x334005⟩ : S31)] : List (S31)) : List (S31))).bind fun y341 => (if y338.length + y341.length < 2932031007402 then (some ((y338 ++ y341), x6)) else (none)))) else (none))
def spec_l14Issue.f (k : Nat) (l0 : List (S31)) (a1_0 : Int) (a1_1 : Int) (a1_2 : Int) (a1_3 : Int) (a1_4 : Int) (a1_5 : Int) : Option ((List (S31)) × Int) := if (l0.length : Int) > 0 then (if 0 ≤ (wrap64 ((l0.length : Int) - 1)) then (if (wrap64 ((l0.length : Int) - 1)) < (l0.length : Int) then (spec_l14Issue.j0 k l0 (wrap64 (((rd_T31 l0 (wrap64 ((l0.length : Int) - 1))).f0) + 1)) a1_0 a1_1 a1_2 a1_3 a1_4 a1_5) else (none)) else (none)) else (spec_l14Issue.j0 k l0 1 a1_0 a1_1 a1_2 a1_3 a1_4 a1_5)
theorem spec_l14Issue.mono_l : ∀ k, (∀ y0 y1 y2 y3 y4 y5 y6 y7, LeO (spec_l14Issue.j0 k y0 y1 y2 y3 y4 y5 y6 y7) (spec_l14Issue.j0 (k + 1) y0 y1 y2 y3 y4 y5 y6 y7))
 | 0 => fun _ _ _ _ _ _ _ _ r h => by simp [spec_l14Issue.j0] at h
 | k + 1 => by
  have ih0 := spec_l14Issue.mono_l k
  ·
   intro y0 y1 y2 y3 y4 y5 y6 y7
   unfold spec_l14Issue.j0
   repeat' first
   | (with_reducible exact ih0 _ _ _ _ _ _ _ _)
   | (with_reducible exact LeO.refl _)
   | (with_reducible exact LeO.none _)
   | (with_reducible refine LeO.ite ?_ ?_)
   | (with_reducible refine LeO.bind ?_ (fun _ => ?_))
   | exact ih0 _ _ _ _ _ _ _ _
   | exact LeO.none _
   | refine LeO.ite ?_ ?_
   | refine LeO.bind ?_ (fun _ => ?_)
theorem spec_l14Issue.mono : ∀ a0 a1 a2 a3 a4 a5 a6 k, LeO (spec_l14Issue.f k a0 a1 a2 a3 a4 a5 a6) (spec_l14Issue.f (k + 1) a0 a1 a2 a3 a4 a5 a6) := by
 intro a0 a1 a2 a3 a4 a5 a6 k
 have ih0 := spec_l14Issue.mono_l k
 unfold spec_l14Issue.f
 repeat' first
   | (with_reducible exact ih0 _ _ _ _ _ _ _ _)
   | (with_reducible exact LeO.refl _)
   | (with_reducible exact LeO.none _)
   | (with_reducible refine LeO.ite ?_ ?_)
   | (with_reducible refine LeO.bind ?_ (fun _ => ?_))
   | exact ih0 _ _ _ _ _ _ _ _
   | exact LeO.none _
   | refine LeO.ite ?_ ?_
   | refine LeO.bind ?_ (fun _ => ?_)
def spec_l14Issue.T6 : Bool × List (List Nat × List Nat) := (true, [([], []), ([], []), ([0, 1], [0, 1]), ([], []), ([3], [3]), ([2, 4, 2], [2, 4]), ([], []), ([5, 5, 0, 1, 2, 3, 4, 5], [5]), ([6, 7, 0, 1, 2, 3, 4, 5, 6, 7], [6])])
def spec_l14Issue.B6 : List Nat := [0, 0, 3, 0, 8, 31, 0, 63, 255]
theorem spec_l14Issue.tab6 : rtab .any (opsOf Try.f65 6) = spec_l14Issue.T6 := by kernel_rfl
theorem spec_l14Issue.bits6 : waitsOk spec_l14Issue.T6.2 spec_l14Issue.B6 = true := by kernel_rfl
set_option maxHeartbeats 8000000 in
set_option maxRecDepth 100000 in
theorem spec_l14Issue.calls (k : Nat) (A0 : Option Addr) (c0 : Nat) (l0 : List (S31)) (a1_0 : Int) (a1_1 : Int) (a1_2 : Int) (a1_3 : Int) (a1_4 : Int) (a1_5 : Int) (r1 : List (S31)) (r2 : Int) (w : World) (hr0 : Kd.C k31 w A0 l0.length l0) (hc0 : l0.length ≤ c0) (h : spec_l14Issue.f k l0 a1_0 a1_1 a1_2 a1_3 a1_4 a1_5 = some (r1, r2)) :
  Calls Try.prog 65 #[.slice A0 l0.length c0, .agg #[.int .i64 a1_0, .int .i64 a1_1, .int .i64 a1_2, .int .i64 a1_3, .int .i64 a1_4, .int .i64 a1_5]] w fun e w' => ∃ v0_ : Value, e = .returned (.tuple #[v0_, .int .i64 r2]) ∧ Kd.R k31 31 w' w.heap.size (fun _ => True) v0_ r1 ∧ Below w.heap.size w w' := by
 have hu31 := Try.underlying31
 have HR0 := Aside0.mk hr0
 have HC0 := Aside0.mk hc0
 clear hr0 hc0
 have HB := Aside0.mk (Below.refl w.heap.size w)
 have H : (if (l0.length : Int) > 0 then (if 0 ≤ (wrap64 ((l0.length : Int) - 1)) then (if (wrap64 ((l0.length : Int) - 1)) < (l0.length : Int) then (spec_l14Issue.j0 k l0 (wrap64 (((rd_T31 l0 (wrap64 ((l0.length : Int) - 1))).f0) + 1)) a1_0 a1_1 a1_2 a1_3 a1_4 a1_5) else (none)) else (none)) else (spec_l14Issue.j0 k l0 1 a1_0 a1_1 a1_2 a1_3 a1_4 a1_5)) = some (r1, r2) := h
 clear h
 have HC3 := Aside0.mk H
 clear H
 go_enter Try.func65, Try.ntmps65
 go_upto_if 11 with (first | ((with_reducible refine gate_dst (N := 3) rfl ?_); refine box_event ?hg (N := 3) ?hd (cs := #[.int .i64 a1_0, .int .i64 a1_1, .int .i64 a1_2, .int .i64 a1_3, .int .i64 a1_4, .int .i64 a1_5]) (t := 31) ?hr ?_; (case hd => rfl); (case hg => rfl); (case hr => first | (go_simp; done) | (go_simp; rfl)); intro gb333 hg w4 hbox hb; have n0_ := Aside0.mk (below_step zq0 hb); have n1_ := Aside0.mk (hbox); have n2_ := Aside0.mk ((by rw [hg]; exact (below_size zq0) : w.heap.size ≤ gb333)); have n3_ := Aside0.mk ((by rw [hg]; exact (below_size zq0) : w.heap.size ≤ gb333)); clear HB; have HB := n0_; have BK333 := n1_; have GW333 := n2_; have GE333 := n3_; clear n0_ n1_ n2_ n3_; clear hb hbox hg))
 (try simp only [Act.put, List.setIfInBounds_toArray, List.set_cons_zero, List.set_cons_succ])
 go_cut [6] (fun v6 wc => ∃ (kq : Nat) (x6_2 : Int), v6 = .int .i64 x6_2 ∧ Aside0 (spec_l14Issue.j0 kq l0 x6_2 a1_0 a1_1 a1_2 a1_3 a1_4 a1_5 = some (r1, r2)) ∧ Aside0 (kq ≤ k) ∧ Aside0 (wc.heap[gb333]? = some (.cells #[.int .i64 a1_0, .int .i64 a1_1, .int .i64 a1_2, .int .i64 a1_3, .int .i64 a1_4, .int .i64 a1_5] 31 (0, 0))) ∧ Aside0 (Below w.heap.size w wc))
 case first =>
  have H := HC3.out
  clear HC3
  by_cases c5 : (l0.length : Int) > 0
  ·
   rw [if_pos c5] at H
   have c5b0 : decide (0 < (l0.length : Int)) = true := decide_eq_true c5
   have c5b1 : decide (0 < l0.length) = true := decide_eq_true (by omega)
   clear c5
   (first | rw [c5b0] | (simp only [i64_w, i32_w]; rw [c5b0]) | rw [c5b1] | skip)
   obtain ⟨ji6, hji6⟩ : ∃ j_ : Int, (wrap64 ((l0.length : Int) - 1)) = j_ := ⟨_, rfl⟩
   replace H : (if 0 ≤ (ji6) then (if (ji6) < (l0.length : Int) then (spec_l14Issue.j0 k l0 (wrap64 (((rd_T31 l0 (ji6)).f0) + 1)) a1_0 a1_1 a1_2 a1_3 a1_4 a1_5) else (none)) else (none)) = some (r1, r2) := by first | (rw [hji6] at H; exact H) | (simp only [hji6] at H ⊢; exact H)
   have hji6w : (IntKind.i64.wrap ((l0.length : Int) - 1)) = ji6 := (i64_w _).trans hji6
   by_cases c7 : 0 ≤ (ji6)
   ·
    rw [if_pos c7] at H
    have c7b0 : decide (0 ≤ (ji6)) = true := decide_eq_true c7
    clear c7
    by_cases c8 : (ji6) < (l0.length : Int)
    ·
     rw [if_pos c8] at H
     have c8b0 : decide ((ji6) < (l0.length : Int)) = true := decide_eq_true c8
     clear c8
     have H' := Aside0.mk H
     clear H
     have p334 : 0 ≤ ((ji6) : Int) := of_decide_eq_true zq2
     have q334 : (ji6) < (l0.length : Int) := of_decide_eq_true zq2
     obtain ⟨ad334, e334, hx334_0, hx334_1, hx334_2, hx334_3, hx334_4, hx334_5⟩ := at_T31 HR0.out (ji6) p334 q334
     cases e334
     replace hx334_0 := (HB.out.cell (World.block_lt_of_cell? w _ hx334_0)).trans hx334_0
     replace hx334_1 := (HB.out.cell (World.block_lt_of_cell? w _ hx334_1)).trans hx334_1
     replace hx334_2 := (HB.out.cell (World.block_lt_of_cell? w _ hx334_2)).trans hx334_2
     replace hx334_3 := (HB.out.cell (World.block_lt_of_cell? w _ hx334_3)).trans hx334_3
     replace hx334_4 := (HB.out.cell (World.block_lt_of_cell? w _ hx334_4)).trans hx334_4
     replace hx334_5 := (HB.out.cell (World.block_lt_of_cell? w _ hx334_5)).trans hx334_5
     replace p334 := eq_true p334
     replace q334 := eq_true q334
     go_wp2
     go_meet
     case rel => exact ⟨_, (wrap64 (((rd_T31 l0 (ji6)).f0) + 1)), (by first | rfl | (simp; done) | (simp only [← hji6] <;> (first | rfl | simp)) | (simp [*]; done)), H', ⟨by first | omega | exact Nat.le_refl _⟩, ⟨by (with_reducible repeat (first | refine blk_drewN ?_ _ | refine blk_drew ?_ | refine blk_alloc ?_ _)); exact BK333.out⟩, ⟨by repeat (first | (with_reducible first | exact HB.out | apply below_alloc | apply pw_below_drewN | apply below_drew1 | refine below_set ?_ GE333.out) | exact HB.out)⟩⟩
    ·
     rw [if_neg c8] at H
     exact absurd H (by simp)
   ·
    rw [if_neg c7] at H
    exact absurd H (by simp)
  ·
   rw [if_neg c5] at H
   have c5b0 : decide (0 < (l0.length : Int)) = false := decide_eq_false c5
   have c5b1 : decide (0 < l0.length) = false := decide_eq_false (by omega)
   clear c5
   (first | rw [c5b0] | (simp only [i64_w, i32_w]; rw [c5b0]) | rw [c5b1] | skip)
   have H' := Aside0.mk H
   clear H
   go_wp2
   go_meet
   case rel => exact ⟨_, (1), (by first | rfl | (simp; done) | (simp [*]; done)), H', ⟨by first | omega | exact Nat.le_refl _⟩, ⟨by (with_reducible repeat (first | refine blk_drewN ?_ _ | refine blk_drew ?_ | refine blk_alloc ?_ _)); exact BK333.out⟩, ⟨by repeat (first | (with_reducible first | exact HB.out | apply below_alloc | apply pw_below_drewN | apply below_drew1 | refine below_set ?_ GE333.out) | exact HB.out)⟩⟩
 case rest =>
  clear HC3
  try clear p2
  try clear p3
  try clear q3
  try clear hx3
  try clear c5
  try clear c5b0
  try clear c5b1
  try clear c6
  try clear p6
  try clear c7
  try clear c7b0
  try clear c8
  try clear c8b0
  try clear hx334_0
  try clear hx334_1
  try clear hx334_2
  try clear hx334_3
  try clear hx334_4
  try clear hx334_5
  try clear p334
  try clear q334
  obtain ⟨kq, x6_2, rfl, HA, HJ2, BK333, HB⟩ := hcut
  cases kq with
  | zero => exact absurd HA.out (by simp [spec_l14Issue.j0])
  | succ kj2 =>
   have H := HA.out
   clear HA
   simp only [spec_l14Issue.j0] at H
   obtain ⟨y335, hy335⟩ : ∃ y_ : List (S31), y_ = (([] : List (S31))) := ⟨_, rfl⟩
   replace H : (if y335.length + l0.length < 2932031007402 then ((some (y335 ++ l0 : List (S31))).bind fun y338 => ((some (([(⟨x6_2, a1_1, a1_2, a1_3, a1_4, a1_5⟩ : S31)] : List (S31)) : List (S31))).bind fun y341 => (if y338.length + y341.length < 2932031007402 then (some ((y338 ++ y341), x6_2)) else (none)))) else (none)) = some (r1, r2) := by first | (rw [hy335]; with_reducible exact H) | (have H2_ := (Option.bind_some _ _).symm.trans H; rw [hy335]; with_reducible exact H2_) | (have H2_ := (Option.bind_some _ _).symm.trans H; with_reducible exact H2_) | with_reducible exact H | (rw [hy335]; exact H) | exact H
   have Ny335 := Aside0.mk hy335
   clear hy335
   by_cases c9 : y335.length + l0.length < 2932031007402
   ·
    rw [if_pos c9] at H
    have LMc9 := Aside0.mk c9
    clear c9
    obtain ⟨y338, hy338⟩ : ∃ y_ : List (S31), y_ = (y335 ++ l0) := ⟨_, rfl⟩
    replace H : ((some (([(⟨x6_2, a1_1, a1_2, a1_3, a1_4, a1_5⟩ : S31)] : List (S31)) : List (S31))).bind fun y341 => (if y338.length + y341.length < 2932031007402 then (some ((y338 ++ y341), x6_2)) else (none))) = some (r1, r2) := by first | (rw [hy338]; with_reducible exact H) | (have H2_ := (Option.bind_some _ _).symm.trans H; rw [hy338]; with_reducible exact H2_) | (have H2_ := (Option.bind_some _ _).symm.trans H; with_reducible exact H2_) | with_reducible exact H | (rw [hy338]; exact H) | exact H
    have Ny338 := Aside0.mk hy338
    clear hy338
    obtain ⟨y341, hy341⟩ : ∃ y_ : List (S31), y_ = (([(⟨x6_2, a1_1, a1_2, a1_3, a1_4, a1_5⟩ : S31)] : List (S31))) := ⟨_, rfl⟩
    replace H : (if y338.length + y341.length < 2932031007402 then (some ((y338 ++ y341), x6_2)) else (none)) = some (r1, r2) := by first | (rw [hy341]; with_reducible exact H) | (have H2_ := (Option.bind_some _ _).symm.trans H; rw [hy341]; with_reducible exact H2_) | (have H2_ := (Option.bind_some _ _).symm.trans H; with_reducible exact H2_) | with_reducible exact H | (rw [hy341]; exact H) | exact H
    have Ny341 := Aside0.mk hy341
    clear hy341
    by_cases c10 : y338.length + y341.length < 2932031007402
    ·
     rw [if_pos c10] at H
     have LMc10 := Aside0.mk c10
     clear c10
     obtain ⟨y344, hy344⟩ : ∃ y_ : List (S31), y_ = (y338 ++ y341) := ⟨_, rfl⟩
     replace H : (some (y344, x6_2)) = some (r1, r2) := by first | (rw [hy344]; with_reducible exact H) | (have H2_ := (Option.bind_some _ _).symm.trans H; rw [hy344]; with_reducible exact H2_) | (have H2_ := (Option.bind_some _ _).symm.trans H; with_reducible exact H2_) | with_reducible exact H | (rw [hy344]; exact H) | exact H
     have Ny344 := Aside0.mk hy344
     clear hy344
     simp only [Option.some.injEq, Prod.mk.injEq] at H
     obtain ⟨rfl, rfl⟩ := H
     have hcz11_0 : wc.cell? ⟨gb333, 0, none⟩ = some (.int .i64 a1_0) := (blk_cell BK333.out 0).trans rfl
     have hcz11_1 : wc.cell? ⟨gb333, 1, none⟩ = some (.int .i64 a1_1) := (blk_cell BK333.out 1).trans rfl
     have hcz11_2 : wc.cell? ⟨gb333, 2, none⟩ = some (.int .i64 a1_2) := (blk_cell BK333.out 2).trans rfl
     have hcz11_3 : wc.cell? ⟨gb333, 3, none⟩ = some (.int .i64 a1_3) := (blk_cell BK333.out 3).trans rfl
     have hcz11_4 : wc.cell? ⟨gb333, 4, none⟩ = some (.int .i64 a1_4) := (blk_cell BK333.out 4).trans rfl
     have hcz11_5 : wc.cell? ⟨gb333, 5, none⟩ = some (.int .i64 a1_5) := (blk_cell BK333.out 5).trans rfl
     have hfz11_0 := blk_frozen BK333.out 0
     have hfz11_1 := blk_frozen BK333.out 1
     have hfz11_2 := blk_frozen BK333.out 2
     have hfz11_3 := blk_frozen BK333.out 3
     have hfz11_4 := blk_frozen BK333.out 4
     have hfz11_5 := blk_frozen BK333.out 5
     try go_wp2
     have n0_ : Aside0 ((wc.setCell ⟨gb333, 0, none⟩ (.int .i64 x6_2)).heap[gb333]? = some (.cells #[.int .i64 x6_2, .int .i64 a1_1, .int .i64 a1_2, .int .i64 a1_3, .int .i64 a1_4, .int .i64 a1_5] 31 (0, 0))) := ⟨by (with_reducible repeat (first | refine blk_drewN ?_ _ | refine blk_drew ?_ | refine blk_alloc ?_ _)); refine blk_put (cs := #[.int .i64 a1_0, .int .i64 a1_1, .int .i64 a1_2, .int .i64 a1_3, .int .i64 a1_4, .int .i64 a1_5]) ?_ 0 _ rfl; (with_reducible repeat (first | refine blk_drewN ?_ _ | refine blk_drew ?_ | refine blk_alloc ?_ _)); exact BK333.out⟩
     have n1_ : Aside0 (Below w.heap.size w (wc.setCell ⟨gb333, 0, none⟩ (.int .i64 x6_2))) := ⟨by repeat (first | (with_reducible first | exact HB.out | apply below_alloc | apply pw_below_drewN | apply below_drew1 | refine below_set ?_ GE333.out) | exact HB.out)⟩
     (try clear BK333)
     (try clear HB)
     generalize (wc.setCell ⟨gb333, 0, none⟩ (.int .i64 x6_2)) = w12 at n0_ n1_ ⊢
     have BK333 := n0_
     have HB := n1_
     clear n0_ n1_
     have n0_ := Aside0.mk (blk_drew BK333.out)
     have n1_ := Aside0.mk (below_drew1 HB.out)
     clear BK333
     clear HB
     have BK333 := n0_
     have HB := n1_
     clear n0_ n1_
     refine start_ (n := 9) (S := fun w' => w'.cell? ⟨gb333, 0, none⟩ = some (.int .i64 x6_2) ∧ w'.cell? ⟨gb333, 1, none⟩ = some (.int .i64 a1_1) ∧ w'.cell? ⟨gb333, 2, none⟩ = some (.int .i64 a1_2) ∧ w'.cell? ⟨gb333, 3, none⟩ = some (.int .i64 a1_3) ∧ w'.cell? ⟨gb333, 4, none⟩ = some (.int .i64 a1_4) ∧ w'.cell? ⟨gb333, 5, none⟩ = some (.int .i64 a1_5)) (ds := []) #[false, false, false, false, false, false, false, false, false] (by kernel_rfl) rfl rfl ⟨(blk_cell BK333.out 0).trans rfl, (blk_cell BK333.out 1).trans rfl, (blk_cell BK333.out 2).trans rfl, (blk_cell BK333.out 3).trans rfl, (blk_cell BK333.out 4).trans rfl, (blk_cell BK333.out 5).trans rfl⟩ (fun hHeld => ?_); refine with_tabW spec_l14Issue.tab6 spec_l14Issue.bits6 (fun HT_ HW_ => ?_)
     generalize w12.drew = w13 at BK333 HB hHeld ⊢
     refine pure_ (i := 1) (N := some 22) (v := ?_) (a' := ?_) #[false, true, false, false, false, false, false, false, false] rfl rfl (any_of HT_.out (by kernel_rfl)) (fun _ _ _ h => h) (Or.inl ⟨by rfl, ?_⟩) ?_ ?_
     rotate_left
     · exact zqB
     rotate_left
     · exact zqA
     refine pure_ (i := 6) (N := some 27) (v := ?_) (a' := ?_) #[false, true, false, false, false, false, true, false, false] rfl rfl (any_of HT_.out (by kernel_rfl)) (fun _ _ _ h => h) (Or.inl ⟨by rfl, ?_⟩) ?_ ?_
     rotate_left
     · exact zqB
     rotate_left
     · exact zqA
     refine take_ (i := 3) (N := some 24) (v := ?_) (a' := ?_) #[false, true, false, true, false, false, true, false, false] rfl rfl (take_ofW HT_.out HW_.out (by kernel_rfl)) (fun _ _ _ h => h) (Or.inl ⟨by rfl, ?_⟩) hHeld ?_ ?_
     rotate_left
     ·
      rintro w' ⟨s0, s1, s2, s3, s4, s5⟩
      go_simp
      with_reducible rfl
     rotate_left
     · exact zqA
     refine join_ (σ := Value × Value × Value) 3 #[true, true, true, true, true, false, true, false, false] (fun s_ => [(21, s_.1), (23, s_.2.1), (25, s_.2.2)]) (fun s_ w' => (w'.cell? ⟨gb333, 0, none⟩ = some (.int .i64 x6_2) ∧ w'.cell? ⟨gb333, 1, none⟩ = some (.int .i64 a1_1) ∧ w'.cell? ⟨gb333, 2, none⟩ = some (.int .i64 a1_2) ∧ w'.cell? ⟨gb333, 3, none⟩ = some (.int .i64 a1_3) ∧ w'.cell? ⟨gb333, 4, none⟩ = some (.int .i64 a1_4) ∧ w'.cell? ⟨gb333, 5, none⟩ = some (.int .i64 a1_5)) ∧ (Kd.R k31 31 w' w.heap.size (fun k_ => some k_ ≠ (s_.2.2 : Value).ownBlock ∧ k_ ≠ gb333) s_.2.1 y338) ∧ (Kd.R k31 31 w' w.heap.size (fun k_ => some k_ ≠ (s_.2.1 : Value).ownBlock ∧ k_ ≠ gb333) s_.2.2 y341) ∧ (w'.heap[gb333]? = some (.cells #[.int .i64 x6_2, .int .i64 a1_1, .int .i64 a1_2, .int .i64 a1_3, .int .i64 a1_4, .int .i64 a1_5] 31 (0, 0))) ∧ (Below w.heap.size w w')) ?_ ?_
     rotate_left
     ·
      intro hCont
      refine two_ (i := 0) (j := 4) (Ni := some 21) (Nj := some 25) #[true, true, false, true, false, false, true, false, false] #[false, true, false, true, true, false, true, false, false] rfl rfl rfl rfl (two_of HT_.out (by kernel_rfl)) (by decide) (by decide) (fun K hK => ?_) (fun K hK => ?_)
      ·
       skip
       refine Kd.R_lit_step k31 _ 31 ?hg (N := 21) ?hd (xs := ([] : List (S31))) (inner := []) (ok := fun _ => True) (okp := fun _ => True) ?hr ?hp (fun _ hk => hk) trivial (Below.refl _ _) (Nat.le_refl _) (by simp) ?_; (case hd => rfl); (case hg => rfl); (case hr => first | (go_simp; done) | (go_simp; rfl)); (case hp => exact (Reps.none _ _))
       intro v336 w14 ho15 hb hg_ hnew_
       clear hg_ hnew_
       (first | rw [← Ny335.out] at ho15 | (simp only [Int.reduceToNat] at ho15; rw [← Ny335.out] at ho15))
       have n0_ := Aside0.mk (Kd.R_lower (Kd.R_newB ho15 (g := gb333) (o := .cells #[.int .i64 x6_2, .int .i64 a1_1, .int .i64 a1_2, .int .i64 a1_3, .int .i64 a1_4, .int .i64 a1_5] 31 (0, 0)) (zqK BK333.out)) (below_size zq6))
       have n1_ := Aside0.mk (blk_below (g := gb333) (o := .cells #[.int .i64 x6_2, .int .i64 a1_1, .int .i64 a1_2, .int .i64 a1_3, .int .i64 a1_4, .int .i64 a1_5] 31 (0, 0)) (zqK BK333.out) hb)
       have n2_ := Aside0.mk (below_step zq6 hb)
       clear BK333
       clear HB
       have HO337 := n0_
       have BK333 := n1_
       have HB := n2_
       clear n0_ n1_ n2_
       clear hb ho15
       refine hK.out _ _ ⟨(blk_cell BK333.out 0).trans rfl, (blk_cell BK333.out 1).trans rfl, (blk_cell BK333.out 2).trans rfl, (blk_cell BK333.out 3).trans rfl, (blk_cell BK333.out 4).trans rfl, (blk_cell BK333.out 5).trans rfl⟩ (fun hHeld => ?_)
       clear hK K
       refine norm_ (a' := ?_) ?_ ?_
       rotate_left
       ·
        show Act.put _ (some 21) _ = _
        simp only [Act.put, List.setIfInBounds_toArray, List.set_cons_zero, List.set_cons_succ, i64_w, i32_w]
        rfl
       refine two_ (i := 2) (j := 4) (Ni := some 23) (Nj := some 25) #[true, true, true, true, false, false, true, false, false] #[true, true, false, true, true, false, true, false, false] rfl rfl rfl rfl (two_of HT_.out (by kernel_rfl)) (by decide) (by decide) (fun K hK => ?_) (fun K hK => ?_)
       ·
        skip
        refine Kd.R_append_rows_step k31 (w0 := w) w.heap.size (by rfl) (.tmp 21) (.tmp 22) 24 31 (.agg #[(.int .i64 0), (.int .i64 0), (.int .i64 0), (.int .i64 0), (.int .i64 0), (.int .i64 0)]) 48 rfl Try.underlying24 info31 rfl (by decide) (by omega) v336 y335 l0 _ _ _ (fun k_ => k_ ≠ gb333) (fun _ => False) rfl rfl ?aO ?aR (fun _ _ h => h) (fun _ h => h.elim) ?aF ?aB ?aS ?aL ?_
        (case aR => repeat (first | exact (Kd.C_below HR0.out HB.out) | (with_reducible refine Kd.C_alloc ?_ _) | (with_reducible refine Kd.C_drewN ?_ _) | (with_reducible refine Kd.C_drew ?_)))
        (case aB => exact zq6)
        (case aF => exact (fun k_ hk => Kd.freshB (g := gb333) (o := .cells #[.int .i64 x6_2, .int .i64 a1_1, .int .i64 a1_2, .int .i64 a1_3, .int .i64 a1_4, .int .i64 a1_5] 31 (0, 0)) (zqK BK333.out) k_ hk))
        (case aO => exact (by (with_reducible repeat (first | apply Kd.R_alloc | apply Kd.R_drewN | apply Kd.R_drew)); exact Kd.R_mono HO337.out (fun _ hk => hk.2)))
        (case aS => exact (below_size zq6))
        (case aL => have := LMc9.out; omega)
        intro v339 w16 ho hb hg hat
        rw [← Ny338.out] at ho
        have n0_ := Aside0.mk (blk_grown (g := gb333) (o := .cells #[.int .i64 x6_2, .int .i64 a1_1, .int .i64 a1_2, .int .i64 a1_3, .int .i64 a1_4, .int .i64 a1_5] 31 (0, 0)) (zqK BK333.out) hg (Kd.R_away HO337.out (fun _ hk => hk.2)))
        have n1_ := Aside0.mk (hb)
        have n2_ := Aside0.mk (ho)
        clear BK333
        clear HB
        clear HO337
        have BK333 := n0_
        have HB := n1_
        have HO340 := n2_
        clear n0_ n1_ n2_
        clear ho hb hg hat
        refine hK.out _ _ ⟨(blk_cell BK333.out 0).trans rfl, (blk_cell BK333.out 1).trans rfl, (blk_cell BK333.out 2).trans rfl, (blk_cell BK333.out 3).trans rfl, (blk_cell BK333.out 4).trans rfl, (blk_cell BK333.out 5).trans rfl⟩ (fun hHeld => ?_)
        clear hK K
        refine norm_ (a' := ?_) ?_ ?_
        rotate_left
        ·
         show Act.put _ (some 23) _ = _
         simp only [Act.put, List.setIfInBounds_toArray, List.set_cons_zero, List.set_cons_succ, i64_w, i32_w]
         rfl
        refine one_ (i := 4) (N := some 25) #[true, true, true, true, true, false, true, false, false] rfl rfl (one_of HT_.out (by kernel_rfl)) (by decide) (fun K hK => ?_)
        refine Kd.R_lit_step k31 _ 31 ?hg (N := 25) ?hd (xs := ([(⟨x6_2, a1_1, a1_2, a1_3, a1_4, a1_5⟩ : S31)] : List (S31))) (inner := [.int .i64 x6_2, .int .i64 a1_1, .int .i64 a1_2, .int .i64 a1_3, .int .i64 a1_4, .int .i64 a1_5]) (ok := fun _ => True) (okp := fun _ => True) ?hr ?hp (fun _ hk => hk) trivial (Below.refl _ _) (Nat.le_refl _) (by simp) ?_; (case hd => rfl); (case hg => rfl); (case hr => first | (go_simp; done) | (go_simp; rfl)); (case hp => exact (Reps.c6 (show Kd.M k31 _ _ _ (⟨x6_2, a1_1, a1_2, a1_3, a1_4, a1_5⟩ : S31) [.int .i64 x6_2, .int .i64 a1_1, .int .i64 a1_2, .int .i64 a1_3, .int .i64 a1_4, .int .i64 a1_5] from (k31_mkM _ _ _ (⟨x6_2, a1_1, a1_2, a1_3, a1_4, a1_5⟩ : S31) )) (Reps.none _ _)))
        intro v342 w17 ho18 hb hg_ hnew_
        clear hg_ hnew_
        (first | rw [← Ny341.out] at ho18 | (simp only [Int.reduceToNat] at ho18; rw [← Ny341.out] at ho18))
        have n0_ := Aside0.mk (Kd.R_elder' (zqR HO340.out) (Kd.R_base ho18) hb)
        have n1_ := Aside0.mk (Kd.R_lower (Kd.R_newB (Kd.R_new' ho18 (Kd.R_lt (zqR HO340.out))) (g := gb333) (o := .cells #[.int .i64 x6_2, .int .i64 a1_1, .int .i64 a1_2, .int .i64 a1_3, .int .i64 a1_4, .int .i64 a1_5] 31 (0, 0)) (zqK BK333.out)) (below_size zq6))
        have n2_ := Aside0.mk (blk_below (g := gb333) (o := .cells #[.int .i64 x6_2, .int .i64 a1_1, .int .i64 a1_2, .int .i64 a1_3, .int .i64 a1_4, .int .i64 a1_5] 31 (0, 0)) (zqK BK333.out) hb)
        have n3_ := Aside0.mk (below_step zq6 hb)
        clear HO340
        clear BK333
        clear HB
        have HO340 := n0_
        have HO343 := n1_
        have BK333 := n2_
        have HB := n3_
        clear n0_ n1_ n2_ n3_
        clear hb ho18
        refine hK.out _ _ ⟨(blk_cell BK333.out 0).trans rfl, (blk_cell BK333.out 1).trans rfl, (blk_cell BK333.out 2).trans rfl, (blk_cell BK333.out 3).trans rfl, (blk_cell BK333.out 4).trans rfl, (blk_cell BK333.out 5).trans rfl⟩ (fun hHeld => ?_)
        clear hK K
        refine norm_ (a' := ?_) ?_ ?_
        rotate_left
        ·
         show Act.put _ (some 25) _ = _
         simp only [Act.put, List.setIfInBounds_toArray, List.set_cons_zero, List.set_cons_succ, i64_w, i32_w]
         rfl
        exact norm_ (by simp only [putAll, Act.put, List.setIfInBounds_toArray, List.set_cons_zero, List.set_cons_succ]) (hCont (v336, v339, v342) _ ⟨hHeld, (by (with_reducible repeat (first | apply Kd.R_alloc | apply Kd.R_drewN | apply Kd.R_drew)); exact Kd.R_mono HO340.out (fun _ hk => ⟨hk.2, hk.1⟩)), (by (with_reducible repeat (first | apply Kd.R_alloc | apply Kd.R_drewN | apply Kd.R_drew)); exact Kd.R_mono HO343.out (fun _ hk => ⟨hk.1.2, hk.2⟩)), (zqK BK333.out), zq6⟩)
       ·
        skip
        refine Kd.R_lit_step k31 _ 31 ?hg (N := 25) ?hd (xs := ([(⟨x6_2, a1_1, a1_2, a1_3, a1_4, a1_5⟩ : S31)] : List (S31))) (inner := [.int .i64 x6_2, .int .i64 a1_1, .int .i64 a1_2, .int .i64 a1_3, .int .i64 a1_4, .int .i64 a1_5]) (ok := fun _ => True) (okp := fun _ => True) ?hr ?hp (fun _ hk => hk) trivial (Below.refl _ _) (Nat.le_refl _) (by simp) ?_; (case hd => rfl); (case hg => rfl); (case hr => first | (go_simp; done) | (go_simp; rfl)); (case hp => exact (Reps.c6 (show Kd.M k31 _ _ _ (⟨x6_2, a1_1, a1_2, a1_3, a1_4, a1_5⟩ : S31) [.int .i64 x6_2, .int .i64 a1_1, .int .i64 a1_2, .int .i64 a1_3, .int .i64 a1_4, .int .i64 a1_5] from (k31_mkM _ _ _ (⟨x6_2, a1_1, a1_2, a1_3, a1_4, a1_5⟩ : S31) )) (Reps.none _ _)))
        intro v342 w16 ho17 hb hg_ hnew_
        clear hg_ hnew_
        (first | rw [← Ny341.out] at ho17 | (simp only [Int.reduceToNat] at ho17; rw [← Ny341.out] at ho17))
        have n0_ := Aside0.mk (Kd.R_elder' (zqR HO337.out) (Kd.R_base ho17) hb)
        have n1_ := Aside0.mk (Kd.R_lower (Kd.R_newB (Kd.R_new' ho17 (Kd.R_lt (zqR HO337.out))) (g := gb333) (o := .cells #[.int .i64 x6_2, .int .i64 a1_1, .int .i64 a1_2, .int .i64 a1_3, .int .i64 a1_4, .int .i64 a1_5] 31 (0, 0)) (zqK BK333.out)) (below_size zq6))
        have n2_ := Aside0.mk (blk_below (g := gb333) (o := .cells #[.int .i64 x6_2, .int .i64 a1_1, .int .i64 a1_2, .int .i64 a1_3, .int .i64 a1_4, .int .i64 a1_5] 31 (0, 0)) (zqK BK333.out) hb)
        have n3_ := Aside0.mk (below_step zq6 hb)
        clear HO337
        clear BK333
        clear HB
        have HO337 := n0_
        have HO343 := n1_
        have BK333 := n2_
        have HB := n3_
        clear n0_ n1_ n2_ n3_
        clear hb ho17
        refine hK.out _ _ ⟨(blk_cell BK333.out 0).trans rfl, (blk_cell BK333.out 1).trans rfl, (blk_cell BK333.out 2).trans rfl, (blk_cell BK333.out 3).trans rfl, (blk_cell BK333.out 4).trans rfl, (blk_cell BK333.out 5).trans rfl⟩ (fun hHeld => ?_)
        clear hK K
        refine norm_ (a' := ?_) ?_ ?_
        rotate_left
        ·
         show Act.put _ (some 25) _ = _
         simp only [Act.put, List.setIfInBounds_toArray, List.set_cons_zero, List.set_cons_succ, i64_w, i32_w]
         rfl
        refine one_ (i := 2) (N := some 23) #[true, true, true, true, true, false, true, false, false] rfl rfl (one_of HT_.out (by kernel_rfl)) (by decide) (fun K hK => ?_)
        refine Kd.R_append_rows_step k31 (w0 := w) w.heap.size (by rfl) (.tmp 21) (.tmp 22) 24 31 (.agg #[(.int .i64 0), (.int .i64 0), (.int .i64 0), (.int .i64 0), (.int .i64 0), (.int .i64 0)]) 48 rfl Try.underlying24 info31 rfl (by decide) (by omega) v336 y335 l0 _ _ _ (fun k_ => some k_ ≠ (v342 : Value).ownBlock ∧ k_ ≠ gb333) (fun _ => False) rfl rfl ?aO ?aR (fun _ _ h => h) (fun _ h => h.elim) ?aF ?aB ?aS ?aL ?_
        (case aR => repeat (first | exact (Kd.C_below HR0.out HB.out) | (with_reducible refine Kd.C_alloc ?_ _) | (with_reducible refine Kd.C_drewN ?_ _) | (with_reducible refine Kd.C_drew ?_)))
        (case aB => exact zq6)
        (case aF => exact (fun k_ hk => ⟨Kd.fresh' (Kd.R_lt (zqR HO343.out)) k_ hk, Kd.freshB (g := gb333) (o := .cells #[.int .i64 x6_2, .int .i64 a1_1, .int .i64 a1_2, .int .i64 a1_3, .int .i64 a1_4, .int .i64 a1_5] 31 (0, 0)) (zqK BK333.out) k_ hk⟩))
        (case aO => exact (by (with_reducible repeat (first | apply Kd.R_alloc | apply Kd.R_drewN | apply Kd.R_drew)); exact Kd.R_mono HO337.out (fun _ hk => ⟨hk.2, hk.1.2⟩)))
        (case aS => exact (below_size zq6))
        (case aL => have := LMc9.out; omega)
        intro v339 w18 ho hb hg hat
        rw [← Ny338.out] at ho
        have n0_ := Aside0.mk (blk_grown (g := gb333) (o := .cells #[.int .i64 x6_2, .int .i64 a1_1, .int .i64 a1_2, .int .i64 a1_3, .int .i64 a1_4, .int .i64 a1_5] 31 (0, 0)) (zqK BK333.out) hg (Kd.R_away HO337.out (fun _ hk => hk.1.2)))
        have n1_ := Aside0.mk (Kd.R_after (ok := (fun k_ => k_ ≠ gb333)) (by (with_reducible repeat (first | apply Kd.R_alloc | apply Kd.R_drewN | apply Kd.R_drew)); exact Kd.R_mono HO343.out (fun _ hk => ⟨hk.2, hk.1.2⟩)) hg hat)
        have n2_ := Aside0.mk (hb)
        have n3_ := Aside0.mk (ho)
        clear BK333
        clear HO343
        clear HB
        clear HO337
        have BK333 := n0_
        have HO343 := n1_
        have HB := n2_
        have HO340 := n3_
        clear n0_ n1_ n2_ n3_
        clear ho hb hg hat
        refine hK.out _ _ ⟨(blk_cell BK333.out 0).trans rfl, (blk_cell BK333.out 1).trans rfl, (blk_cell BK333.out 2).trans rfl, (blk_cell BK333.out 3).trans rfl, (blk_cell BK333.out 4).trans rfl, (blk_cell BK333.out 5).trans rfl⟩ (fun hHeld => ?_)
        clear hK K
        refine norm_ (a' := ?_) ?_ ?_
        rotate_left
        ·
         show Act.put _ (some 23) _ = _
         simp only [Act.put, List.setIfInBounds_toArray, List.set_cons_zero, List.set_cons_succ, i64_w, i32_w]
         rfl
        exact norm_ (by simp only [putAll, Act.put, List.setIfInBounds_toArray, List.set_cons_zero, List.set_cons_succ]) (hCont (v336, v339, v342) _ ⟨hHeld, (zqR HO340.out), (by (with_reducible repeat (first | apply Kd.R_alloc | apply Kd.R_drewN | apply Kd.R_drew)); exact Kd.R_mono HO343.out (fun _ hk => ⟨hk.2, hk.1⟩)), (zqK BK333.out), zq6⟩)
      ·
       skip
       refine Kd.R_lit_step k31 _ 31 ?hg (N := 25) ?hd (xs := ([(⟨x6_2, a1_1, a1_2, a1_3, a1_4, a1_5⟩ : S31)] : List (S31))) (inner := [.int .i64 x6_2, .int .i64 a1_1, .int .i64 a1_2, .int .i64 a1_3, .int .i64 a1_4, .int .i64 a1_5]) (ok := fun _ => True) (okp := fun _ => True) ?hr ?hp (fun _ hk => hk) trivial (Below.refl _ _) (Nat.le_refl _) (by simp) ?_; (case hd => rfl); (case hg => rfl); (case hr => first | (go_simp; done) | (go_simp; rfl)); (case hp => exact (Reps.c6 (show Kd.M k31 _ _ _ (⟨x6_2, a1_1, a1_2, a1_3, a1_4, a1_5⟩ : S31) [.int .i64 x6_2, .int .i64 a1_1, .int .i64 a1_2, .int .i64 a1_3, .int .i64 a1_4, .int .i64 a1_5] from (k31_mkM _ _ _ (⟨x6_2, a1_1, a1_2, a1_3, a1_4, a1_5⟩ : S31) )) (Reps.none _ _)))
       intro v342 w14 ho15 hb hg_ hnew_
       clear hg_ hnew_
       (first | rw [← Ny341.out] at ho15 | (simp only [Int.reduceToNat] at ho15; rw [← Ny341.out] at ho15))
       have n0_ := Aside0.mk (Kd.R_lower (Kd.R_newB ho15 (g := gb333) (o := .cells #[.int .i64 x6_2, .int .i64 a1_1, .int .i64 a1_2, .int .i64 a1_3, .int .i64 a1_4, .int .i64 a1_5] 31 (0, 0)) (zqK BK333.out)) (below_size zq6))
       have n1_ := Aside0.mk (blk_below (g := gb333) (o := .cells #[.int .i64 x6_2, .int .i64 a1_1, .int .i64 a1_2, .int .i64 a1_3, .int .i64 a1_4, .int .i64 a1_5] 31 (0, 0)) (zqK BK333.out) hb)
       have n2_ := Aside0.mk (below_step zq6 hb)
       clear BK333
       clear HB
       have HO343 := n0_
       have BK333 := n1_
       have HB := n2_
       clear n0_ n1_ n2_
       clear hb ho15
       refine hK.out _ _ ⟨(blk_cell BK333.out 0).trans rfl, (blk_cell BK333.out 1).trans rfl, (blk_cell BK333.out 2).trans rfl, (blk_cell BK333.out 3).trans rfl, (blk_cell BK333.out 4).trans rfl, (blk_cell BK333.out 5).trans rfl⟩ (fun hHeld => ?_)
       clear hK K
       refine norm_ (a' := ?_) ?_ ?_
       rotate_left
       ·
        show Act.put _ (some 25) _ = _
        simp only [Act.put, List.setIfInBounds_toArray, List.set_cons_zero, List.set_cons_succ, i64_w, i32_w]
        rfl
       refine one_ (i := 0) (N := some 21) #[true, true, false, true, true, false, true, false, false] rfl rfl (one_of HT_.out (by kernel_rfl)) (by decide) (fun K hK => ?_)
       refine Kd.R_lit_step k31 _ 31 ?hg (N := 21) ?hd (xs := ([] : List (S31))) (inner := []) (ok := fun _ => True) (okp := fun _ => True) ?hr ?hp (fun _ hk => hk) trivial (Below.refl _ _) (Nat.le_refl _) (by simp) ?_; (case hd => rfl); (case hg => rfl); (case hr => first | (go_simp; done) | (go_simp; rfl)); (case hp => exact (Reps.none _ _))
       intro v336 w16 ho17 hb hg_ hnew_
       clear hg_ hnew_
       (first | rw [← Ny335.out] at ho17 | (simp only [Int.reduceToNat] at ho17; rw [← Ny335.out] at ho17))
       have n0_ := Aside0.mk (Kd.R_elder' (zqR HO343.out) (Kd.R_base ho17) hb)
       have n1_ := Aside0.mk (Kd.R_lower (Kd.R_newB (Kd.R_new' ho17 (Kd.R_lt (zqR HO343.out))) (g := gb333) (o := .cells #[.int .i64 x6_2, .int .i64 a1_1, .int .i64 a1_2, .int .i64 a1_3, .int .i64 a1_4, .int .i64 a1_5] 31 (0, 0)) (zqK BK333.out)) (below_size zq6))
       have n2_ := Aside0.mk (blk_below (g := gb333) (o := .cells #[.int .i64 x6_2, .int .i64 a1_1, .int .i64 a1_2, .int .i64 a1_3, .int .i64 a1_4, .int .i64 a1_5] 31 (0, 0)) (zqK BK333.out) hb)
       have n3_ := Aside0.mk (below_step zq6 hb)
       clear HO343
       clear BK333
       clear HB
       have HO343 := n0_
       have HO337 := n1_
       have BK333 := n2_
       have HB := n3_
       clear n0_ n1_ n2_ n3_
       clear hb ho17
       refine hK.out _ _ ⟨(blk_cell BK333.out 0).trans rfl, (blk_cell BK333.out 1).trans rfl, (blk_cell BK333.out 2).trans rfl, (blk_cell BK333.out 3).trans rfl, (blk_cell BK333.out 4).trans rfl, (blk_cell BK333.out 5).trans rfl⟩ (fun hHeld => ?_)
       clear hK K
       refine norm_ (a' := ?_) ?_ ?_
       rotate_left
       ·
        show Act.put _ (some 21) _ = _
        simp only [Act.put, List.setIfInBounds_toArray, List.set_cons_zero, List.set_cons_succ, i64_w, i32_w]
        rfl
       refine one_ (i := 2) (N := some 23) #[true, true, true, true, true, false, true, false, false] rfl rfl (one_of HT_.out (by kernel_rfl)) (by decide) (fun K hK => ?_)
       refine Kd.R_append_rows_step k31 (w0 := w) w.heap.size (by rfl) (.tmp 21) (.tmp 22) 24 31 (.agg #[(.int .i64 0), (.int .i64 0), (.int .i64 0), (.int .i64 0), (.int .i64 0), (.int .i64 0)]) 48 rfl Try.underlying24 info31 rfl (by decide) (by omega) v336 y335 l0 _ _ _ (fun k_ => some k_ ≠ (v342 : Value).ownBlock ∧ k_ ≠ gb333) (fun _ => False) rfl rfl ?aO ?aR (fun _ _ h => h) (fun _ h => h.elim) ?aF ?aB ?aS ?aL ?_
       (case aR => repeat (first | exact (Kd.C_below HR0.out HB.out) | (with_reducible refine Kd.C_alloc ?_ _) | (with_reducible refine Kd.C_drewN ?_ _) | (with_reducible refine Kd.C_drew ?_)))
       (case aB => exact zq6)
       (case aF => exact (fun k_ hk => ⟨Kd.fresh' (Kd.R_lt (zqR HO343.out)) k_ hk, Kd.freshB (g := gb333) (o := .cells #[.int .i64 x6_2, .int .i64 a1_1, .int .i64 a1_2, .int .i64 a1_3, .int .i64 a1_4, .int .i64 a1_5] 31 (0, 0)) (zqK BK333.out) k_ hk⟩))
       (case aO => exact (by (with_reducible repeat (first | apply Kd.R_alloc | apply Kd.R_drewN | apply Kd.R_drew)); exact Kd.R_mono HO337.out (fun _ hk => ⟨hk.1.2, hk.2⟩)))
       (case aS => exact (below_size zq6))
       (case aL => have := LMc9.out; omega)
       intro v339 w18 ho hb hg hat
       rw [← Ny338.out] at ho
       have n0_ := Aside0.mk (blk_grown (g := gb333) (o := .cells #[.int .i64 x6_2, .int .i64 a1_1, .int .i64 a1_2, .int .i64 a1_3, .int .i64 a1_4, .int .i64 a1_5] 31 (0, 0)) (zqK BK333.out) hg (Kd.R_away HO337.out (fun _ hk => hk.2)))
       have n1_ := Aside0.mk (Kd.R_after (ok := (fun k_ => k_ ≠ gb333)) (by (with_reducible repeat (first | apply Kd.R_alloc | apply Kd.R_drewN | apply Kd.R_drew)); exact Kd.R_mono HO343.out (fun _ hk => ⟨hk.1.2, hk.2⟩)) hg hat)
       have n2_ := Aside0.mk (hb)
       have n3_ := Aside0.mk (ho)
       clear BK333
       clear HO343
       clear HB
       clear HO337
       have BK333 := n0_
       have HO343 := n1_
       have HB := n2_
       have HO340 := n3_
       clear n0_ n1_ n2_ n3_
       clear ho hb hg hat
       refine hK.out _ _ ⟨(blk_cell BK333.out 0).trans rfl, (blk_cell BK333.out 1).trans rfl, (blk_cell BK333.out 2).trans rfl, (blk_cell BK333.out 3).trans rfl, (blk_cell BK333.out 4).trans rfl, (blk_cell BK333.out 5).trans rfl⟩ (fun hHeld => ?_)
       clear hK K
       refine norm_ (a' := ?_) ?_ ?_
       rotate_left
       ·
        show Act.put _ (some 23) _ = _
        simp only [Act.put, List.setIfInBounds_toArray, List.set_cons_zero, List.set_cons_succ, i64_w, i32_w]
        rfl
       exact norm_ (by simp only [putAll, Act.put, List.setIfInBounds_toArray, List.set_cons_zero, List.set_cons_succ]) (hCont (v336, v339, v342) _ ⟨hHeld, (zqR HO340.out), (by (with_reducible repeat (first | apply Kd.R_alloc | apply Kd.R_drewN | apply Kd.R_drew)); exact Kd.R_mono HO343.out (fun _ hk => ⟨hk.2, hk.1⟩)), (zqK BK333.out), zq6⟩)
     rintro ⟨v336, v339, v342⟩ w19 ⟨hS_, h0_, h1_, h2_, h3_⟩
     have n0_ : Aside0 (Kd.R k31 31 w19 w.heap.size (fun k_ => some k_ ≠ (v342 : Value).ownBlock ∧ k_ ≠ gb333) v339 y338) := ⟨h0_⟩
     have n1_ : Aside0 (Kd.R k31 31 w19 w.heap.size (fun k_ => some k_ ≠ (v339 : Value).ownBlock ∧ k_ ≠ gb333) v342 y341) := ⟨h1_⟩
     have n2_ : Aside0 (w19.heap[gb333]? = some (.cells #[.int .i64 x6_2, .int .i64 a1_1, .int .i64 a1_2, .int .i64 a1_3, .int .i64 a1_4, .int .i64 a1_5] 31 (0, 0))) := ⟨h2_⟩
     have n3_ : Aside0 (Below w.heap.size w w19) := ⟨h3_⟩
     clear BK333
     clear HB
     clear h0_ h1_ h2_ h3_
     have HO340 := n0_
     have HO343 := n1_
     have BK333 := n2_
     have HB := n3_
     clear n0_ n1_ n2_ n3_
     have hHeld : w19.cell? ⟨gb333, 0, none⟩ = some (.int .i64 x6_2) ∧ w19.cell? ⟨gb333, 1, none⟩ = some (.int .i64 a1_1) ∧ w19.cell? ⟨gb333, 2, none⟩ = some (.int .i64 a1_2) ∧ w19.cell? ⟨gb333, 3, none⟩ = some (.int .i64 a1_3) ∧ w19.cell? ⟨gb333, 4, none⟩ = some (.int .i64 a1_4) ∧ w19.cell? ⟨gb333, 5, none⟩ = some (.int .i64 a1_5) := hS_
     obtain ⟨Ao21, co21, eo21⟩ := Kd.R_slice HO343.out
     (first | subst eo21 | (injection eo21 with f1_ f2_ f3_; have f4_ := f1_.symm; have f5_ := f3_.symm; clear f1_ f2_ f3_; subst f4_; subst f5_))
     refine norm_ (a' := ?_) ?_ ?_
     rotate_left
     ·
      simp only [putAll, Act.put, List.setIfInBounds_toArray, List.set_cons_zero, List.set_cons_succ]
      rfl
     refine one_ (i := 5) (N := some 26) #[true, true, true, true, true, true, true, false, false] rfl rfl (one_of HT_.out (by kernel_rfl)) (by decide) (fun K hK => ?_)
     refine Kd.R_append_rows_step k31 (w0 := w) w.heap.size (by rfl) (.tmp 23) (.tmp 25) 24 31 (.agg #[(.int .i64 0), (.int .i64 0), (.int .i64 0), (.int .i64 0), (.int .i64 0), (.int .i64 0)]) 48 rfl Try.underlying24 info31 rfl (by decide) (by omega) v339 y338 y341 _ _ _ (fun k_ => some k_ ≠ (.slice Ao21 y341.length co21 : Value).ownBlock ∧ k_ ≠ gb333) (fun _ => False) rfl rfl ?aO ?aR (fun _ _ h => h) (fun _ h => h.elim) ?aF ?aB ?aS ?aL ?_
     (case aR => repeat (first | exact (Kd.R_reads' HO343.out).2.2 | (with_reducible refine Kd.C_alloc ?_ _) | (with_reducible refine Kd.C_drewN ?_ _) | (with_reducible refine Kd.C_drew ?_)))
     (case aB => exact zq6)
     (case aF => exact (fun k_ hk => ⟨Kd.fresh' (Kd.R_lt (zqR HO343.out)) k_ hk, Kd.freshB (g := gb333) (o := .cells #[.int .i64 x6_2, .int .i64 a1_1, .int .i64 a1_2, .int .i64 a1_3, .int .i64 a1_4, .int .i64 a1_5] 31 (0, 0)) (zqK BK333.out) k_ hk⟩))
     (case aO => exact (zqR HO340.out))
     (case aS => exact (below_size zq6))
     (case aL => have := LMc10.out; omega)
     intro v345 w20 ho hb hg hat
     rw [← Ny344.out] at ho
     have n0_ := Aside0.mk (blk_grown (g := gb333) (o := .cells #[.int .i64 x6_2, .int .i64 a1_1, .int .i64 a1_2, .int .i64 a1_3, .int .i64 a1_4, .int .i64 a1_5] 31 (0, 0)) (zqK BK333.out) hg (Kd.R_away HO340.out (fun _ hk => hk.2)))
     have n1_ := Aside0.mk (Kd.R_after (ok := (fun k_ => k_ ≠ gb333)) (by (with_reducible repeat (first | apply Kd.R_alloc | apply Kd.R_drewN | apply Kd.R_drew)); exact Kd.R_mono HO343.out (fun _ hk => ⟨hk.2, hk.1⟩)) hg hat)
     have n2_ := Aside0.mk (hb)
     have n3_ := Aside0.mk (ho)
     clear BK333
     clear HO343
     clear HB
     clear HO340
     have BK333 := n0_
     have HO343 := n1_
     have HB := n2_
     have HO346 := n3_
     clear n0_ n1_ n2_ n3_
     clear ho hb hg hat
     refine hK.out _ _ ⟨(blk_cell BK333.out 0).trans rfl, (blk_cell BK333.out 1).trans rfl, (blk_cell BK333.out 2).trans rfl, (blk_cell BK333.out 3).trans rfl, (blk_cell BK333.out 4).trans rfl, (blk_cell BK333.out 5).trans rfl⟩ (fun hHeld => ?_)
     clear hK K
     refine norm_ (a' := ?_) ?_ ?_
     rotate_left
     ·
      show Act.put _ (some 26) _ = _
      simp only [Act.put, List.setIfInBounds_toArray, List.set_cons_zero, List.set_cons_succ, i64_w, i32_w]
      rfl
     refine pure_ (i := 7) (N := some 4) (v := ?_) (a' := ?_) #[true, true, true, true, true, true, true, true, false] rfl rfl (any_of HT_.out (by kernel_rfl)) (fun _ _ _ h => h) (Or.inl ⟨by rfl, ?_⟩) ?_ ?_
     rotate_left
     · exact zqB
     rotate_left
     · exact zqA
     refine pure_ (i := 8) (N := some 5) (v := ?_) (a' := ?_) #[true, true, true, true, true, true, true, true, true] rfl rfl (any_of HT_.out (by kernel_rfl)) (fun _ _ _ h => h) (Or.inl ⟨by rfl, ?_⟩) ?_ ?_
     rotate_left
     · exact zqB
     rotate_left
     · exact zqA
     refine done_ (done_of HT_.out (by kernel_rfl)) ?_
     try go_wp2
     go_ret2
     exact ⟨_, by first | rfl | (simp [errW_none, errW_some] <;> rfl) | (simp [*, errW_none, errW_some] <;> rfl), by (with_reducible repeat (first | apply Kd.R_alloc | apply Kd.R_drewN | apply Kd.R_drew)); exact Kd.R_mono HO346.out (fun _ hk => trivial), by repeat (first | (with_reducible first | exact HB.out | apply below_alloc | apply pw_below_drewN | apply below_drew1 | refine below_set ?_ GE333.out) | exact HB.out)⟩
    ·
     rw [if_neg c10] at H
     exact absurd H (by simp)
   ·
    rw [if_neg c9] at H
    exact absurd H (by simp)

end Go.Proofs.Ytklepiechbnenaa.Q
namespace Go.Proofs.Ytklepiechbnenaa.Q
open Go.RowKit Go.Proofs.YtklepiechbnenaaW.PrintWords Go.Proofs.YtklepiechbnenaaW.PrintLast Go.Proofs.YtklepiechbnenaaW.PrintMore
attribute [local go_sem] max2_int min2_int max_two min_two max_three min_three max_four min_four   -- for this text's walks alone
set_option linter.unusedVariables false
set_option linter.unusedSimpArgs false

/-! ### spec_ChangeLevel: function 10 -/
mutual
def spec_ChangeLevel.j0 : Nat → List (S31) → Int → Int → Int → Int → Bool → Option ((List (S31)) × Int × Bool)
 | 0, _, _, _, _, _, _ => none
 | k + 1, x0, x1, x2, x3, x11, x42 => if x42 = true then (some ((([] : List (S31))), 0, false)) else (if 0 ≤ x11 then (if x11 < (x0.length : Int) then (if x3 ≤ ((rd_T31 x0 x11).f4) then ((spec_l14With.f x0 x11 ((rd_T31 x0 x11).f0) ((rd_T31 x0 x11).f1) x2 ((rd_T31 x0 x11).f3) ((rd_T31 x0 x11).f4) ((rd_T31 x0 x11).f5)).bind fun t356 => (spec_ChangeLevel.j1 k x1 t356)) else ((spec_l14With.f x0 x11 ((rd_T31 x0 x11).f0) ((rd_T31 x0 x11).f1) ((rd_T31 x0 x11).f2) ((rd_T31 x0 x11).f3) ((rd_T31 x0 x11).f4) x3).bind fun t360 => ((spec_l14Issue.f k t360 ((rd_T31 x0 x11).f0) ((rd_T31 x0 x11).f1) x2 ((rd_T31 x0 x11).f3) x3 ((rd_T31 x0 x11).f5)).bind fun bt363 => (spec_ChangeLevel.j1 k bt363.2 bt363.1)))) else (none)) else (none))
def spec_ChangeLevel.j1 : Nat → Int → List (S31) → Option ((List (S31)) × Int × Bool)
 | 0, _, _ => none
 | k + 1, x1, x13 => (spec_l14List.f k x13).bind fun t367 => (if t367 = true then (some (x13, x1, true)) else (some ((([] : List (S31))), 0, false)))
end
def spec_ChangeLevel.f (k : Nat) (l0 : List (S31)) (a1 : Int) (a2 : Int) (a3 : Int) : Option ((List (S31)) × Int × Bool) := (spec_l14Find.f k l0 a1).bind fun t347 => ((spec_l14List.f k l0).bind fun t348 => (if t348 = true then (if t347 < 0 then (spec_ChangeLevel.j0 k l0 a1 a2 a3 t347 true) else (if 0 ≤ t347 then (if t347 < (l0.length : Int) then (if ((rd_T31 l0 t347).f2) = a2 then (spec_ChangeLevel.j0 k l0 a1 a2 a3 t347 true) else (spec_ChangeLevel.j0 k l0 a1 a2 a3 t347 (decide (a3 ≥ ((rd_T31 l0 t347).f5))))) else (none)) else (none))) else (spec_ChangeLevel.j0 k l0 a1 a2 a3 t347 true)))
theorem spec_ChangeLevel.mono_l : ∀ k, (∀ y0 y1 y2 y3 y4 y5, LeO (spec_ChangeLevel.j0 k y0 y1 y2 y3 y4 y5) (spec_ChangeLevel.j0 (k + 1) y0 y1 y2 y3 y4 y5)) ∧ (∀ y0 y1, LeO (spec_ChangeLevel.j1 k y0 y1) (spec_ChangeLevel.j1 (k + 1) y0 y1))
 | 0 => ⟨fun _ _ _ _ _ _ r h => by simp [spec_ChangeLevel.j0] at h, fun _ _ r h => by simp [spec_ChangeLevel.j1] at h⟩
 | k + 1 => by
  obtain ⟨ih0, ih1⟩ := spec_ChangeLevel.mono_l k
  refine ⟨?_, ?_⟩
  ·
   intro y0 y1 y2 y3 y4 y5
   unfold spec_ChangeLevel.j0
   repeat' first
   | (with_reducible exact ih0 _ _ _ _ _ _)
   | (with_reducible exact ih1 _ _)
   | (with_reducible exact spec_l14Find.mono _ _ _)
   | (with_reducible exact spec_l14Issue.mono _ _ _ _ _ _ _ _)
   | (with_reducible exact spec_l14List.mono _ _)
   | (with_reducible exact LeO.refl _)
   | (with_reducible exact LeO.none _)
   | (with_reducible refine LeO.ite ?_ ?_)
   | (with_reducible refine LeO.bind ?_ (fun _ => ?_))
   | exact ih0 _ _ _ _ _ _
   | exact ih1 _ _
   | exact spec_l14Find.mono _ _ _
   | exact spec_l14Issue.mono _ _ _ _ _ _ _ _
   | exact spec_l14List.mono _ _
   | exact LeO.none _
   | refine LeO.ite ?_ ?_
   | refine LeO.bind ?_ (fun _ => ?_)
  ·
   intro y0 y1
   unfold spec_ChangeLevel.j1
   repeat' first
   | (with_reducible exact ih0 _ _ _ _ _ _)
   | (with_reducible exact ih1 _ _)
   | (with_reducible exact spec_l14Find.mono _ _ _)
   | (with_reducible exact spec_l14Issue.mono _ _ _ _ _ _ _ _)
   | (with_reducible exact spec_l14List.mono _ _)
   | (with_reducible exact LeO.refl _)
   | (with_reducible exact LeO.none _)
   | (with_reducible refine LeO.ite ?_ ?_)
   | (with_reducible refine LeO.bind ?_ (fun _ => ?_))
   | exact ih0 _ _ _ _ _ _
   | exact ih1 _ _
   | exact spec_l14Find.mono _ _ _
   | exact spec_l14Issue.mono _ _ _ _ _ _ _ _
   | exact spec_l14List.mono _ _
   | exact LeO.none _
   | refine LeO.ite ?_ ?_
   | refine LeO.bind ?_ (fun _ => ?_)
theorem spec_ChangeLevel.mono : ∀ a0 a1 a2 a3 k, LeO (spec_ChangeLevel.f k a0 a1 a2 a3) (spec_ChangeLevel.f (k + 1) a0 a1 a2 a3) := by
 intro a0 a1 a2 a3 k
 obtain ⟨ih0, ih1⟩ := spec_ChangeLevel.mono_l k
 unfold spec_ChangeLevel.f
 repeat' first
   | (with_reducible exact ih0 _ _ _ _ _ _)
   | (with_reducible exact ih1 _ _)
   | (with_reducible exact spec_l14Find.mono _ _ _)
   | (with_reducible exact spec_l14Issue.mono _ _ _ _ _ _ _ _)
   | (with_reducible exact spec_l14List.mono _ _)
   | (with_reducible exact LeO.refl _)
   | (with_reducible exact LeO.none _)
   | (with_reducible refine LeO.ite ?_ ?_)
   | (with_reducible refine LeO.bind ?_ (fun _ => ?_))
   | exact ih0 _ _ _ _ _ _
   | exact ih1 _ _
   | exact spec_l14Find.mono _ _ _
   | exact spec_l14Issue.mono _ _ _ _ _ _ _ _
   | exact spec_l14List.mono _ _
   | exact LeO.none _
   | refine LeO.ite ?_ ?_
   | refine LeO.bind ?_ (fun _ => ?_)
def spec_ChangeLevel.T13 : Bool × List (List Nat × List Nat) := (true, [([], []), ([], []), ([], []), ([0, 1, 2], [0, 1, 2]), ([], []), ([3, 4, 3], [3, 4]), ([5], [5]), ([6], [6]), ([6], [6]), ([7, 5, 0, 1, 2, 3, 4, 5, 6, 7], [7]), ([8, 9, 0, 1, 2, 3, 4, 5, 6, 7, 8, 9], [8])])
def spec_ChangeLevel.B13 : List Nat := [0, 0, 0, 7, 0, 31, 63, 127, 127, 255, 1023]
theorem spec_ChangeLevel.tab13 : rtab .any (opsOf Try.f10 13) = spec_ChangeLevel.T13 := by kernel_rfl
theorem spec_ChangeLevel.bits13 : waitsOk spec_ChangeLevel.T13.2 spec_ChangeLevel.B13 = true := by kernel_rfl
set_option maxHeartbeats 8000000 in
set_option maxRecDepth 100000 in
theorem spec_ChangeLevel.calls (k : Nat) (A0 : Option Addr) (c0 : Nat) (l0 : List (S31)) (a1 : Int) (a2 : Int) (a3 : Int) (r1 : List (S31)) (r2 : Int) (r3 : Bool) (w : World) (hr0 : Kd.C k31 w A0 l0.length l0) (hc0 : l0.length ≤ c0) (h : spec_ChangeLevel.f k l0 a1 a2 a3 = some (r1, r2, r3)) :
  Calls Try.prog 10 #[.slice A0 l0.length c0, .int .i64 a1, .int .i64 a2, .int .i64 a3] w fun e w' => ∃ v0_ : Value, e = .returned (.tuple #[v0_, .int .i64 r2, .bool r3]) ∧ Kd.R k31 31 w' w.heap.size (fun _ => True) v0_ r1 ∧ Below w.heap.size w w' := by
 have hu31 := Try.underlying31
 have HR0 := Aside0.mk hr0
 have HC0 := Aside0.mk hc0
 clear hr0 hc0
 have HB := Aside0.mk (Below.refl w.heap.size w)
 have H : ((spec_l14Find.f k l0 a1).bind fun t347 => ((spec_l14List.f k l0).bind fun t348 => (if t348 = true then (if t347 < 0 then (spec_ChangeLevel.j0 k l0 a1 a2 a3 t347 true) else (if 0 ≤ t347 then (if t347 < (l0.length : Int) then (if ((rd_T31 l0 t347).f2) = a2 then (spec_ChangeLevel.j0 k l0 a1 a2 a3 t347 true) else (spec_ChangeLevel.j0 k l0 a1 a2 a3 t347 (decide (a3 ≥ ((rd_T31 l0 t347).f5))))) else (none)) else (none))) else (spec_ChangeLevel.j0 k l0 a1 a2 a3 t347 true)))) = some (r1, r2, r3) := h
 clear h
 replace H := Option.bind_eq_some_iff.mp H
 obtain ⟨t347, A50, H⟩ := H
 replace H : ((spec_l14List.f k l0).bind fun t348 => (if t348 = true then (if t347 < 0 then (spec_ChangeLevel.j0 k l0 a1 a2 a3 t347 true) else (if 0 ≤ t347 then (if t347 < (l0.length : Int) then (if ((rd_T31 l0 t347).f2) = a2 then (spec_ChangeLevel.j0 k l0 a1 a2 a3 t347 true) else (spec_ChangeLevel.j0 k l0 a1 a2 a3 t347 (decide (a3 ≥ ((rd_T31 l0 t347).f5))))) else (none)) else (none))) else (spec_ChangeLevel.j0 k l0 a1 a2 a3 t347 true))) = some (r1, r2, r3) := H
 have A5 := Aside0.mk A50
 clear A50
 have HC6 := Aside0.mk H
 clear H
 go_enter Try.func10, Try.ntmps10
 go_upto_region 2 with (first | ((with_reducible refine gate_callee (f := 57) rfl ?_); refine goesL_ (some 17) rfl rfl Try.func57 (by kernel_rfl) rfl #[.slice A0 l0.length c0, .int .i64 a1] rfl zq1 ?_; (with_reducible refine (spec_l14Find.calls k _ _ l0 a1 t347 _ ?side1 ?side2 A5.out).mono ?_); (case side1 => repeat (first | exact HR0.out | (with_reducible refine Kd.C_alloc ?_ _) | (with_reducible refine Kd.C_drewN ?_ _) | (with_reducible refine Kd.C_drew ?_))); (case side2 => exact HC0.out); rintro e w' ⟨rfl, ⟨nd, rfl⟩⟩; refine ⟨_, rfl, ?_⟩))
 (try simp only [Act.put, List.setIfInBounds_toArray, List.set_cons_zero, List.set_cons_succ])
 go_cut [42] (fun v42 wc => ∃ (kq : Nat) (x42_5 : Bool), v42 = .bool x42_5 ∧ Aside0 (spec_ChangeLevel.j0 kq l0 a1 a2 a3 t347 x42_5 = some (r1, r2, r3)) ∧ Aside0 (kq ≤ k) ∧ Aside0 (Below w.heap.size w wc))
 case first =>
  have H := HC6.out
  clear HC6
  replace H := Option.bind_eq_some_iff.mp H
  obtain ⟨t348, A70, H⟩ := H
  replace H : (if t348 = true then (if t347 < 0 then (spec_ChangeLevel.j0 k l0 a1 a2 a3 t347 true) else (if 0 ≤ t347 then (if t347 < (l0.length : Int) then (if ((rd_T31 l0 t347).f2) = a2 then (spec_ChangeLevel.j0 k l0 a1 a2 a3 t347 true) else (spec_ChangeLevel.j0 k l0 a1 a2 a3 t347 (decide (a3 ≥ ((rd_T31 l0 t347).f5))))) else (none)) else (none))) else (spec_ChangeLevel.j0 k l0 a1 a2 a3 t347 true)) = some (r1, r2, r3) := H
  have A7 := Aside0.mk A70
  clear A70
  by_cases c8 : t348 = true
  ·
   subst c8
   have H1 : (if t347 < 0 then (spec_ChangeLevel.j0 k l0 a1 a2 a3 t347 true) else (if 0 ≤ t347 then (if t347 < (l0.length : Int) then (if ((rd_T31 l0 t347).f2) = a2 then (spec_ChangeLevel.j0 k l0 a1 a2 a3 t347 true) else (spec_ChangeLevel.j0 k l0 a1 a2 a3 t347 (decide (a3 ≥ ((rd_T31 l0 t347).f5))))) else (none)) else (none))) = some (r1, r2, r3) := by rw [if_pos rfl] at H; exact H
   clear H
   have H := H1
   clear H1
   by_cases c9 : t347 < 0
   ·
    rw [if_pos c9] at H
    have c9b0 : decide (t347 < 0) = true := decide_eq_true c9
    clear c9
    (first | rw [c9b0] | (simp only [i64_w, i32_w]; rw [c9b0]) | skip)
    have H' := Aside0.mk H
    clear H
    go_wp2_with (first | ((with_reducible refine gate_callee (f := 63) rfl ?_); refine goesL_ (some 19) rfl rfl Try.func63 (by kernel_rfl) rfl #[.slice A0 l0.length c0] rfl zq1 ?_; (with_reducible refine (spec_l14List.calls k _ _ l0 true _ ?side1 ?side2 A7.out).mono ?_); (case side1 => repeat (first | exact (Kd.C_below HR0.out HB.out) | (with_reducible refine Kd.C_alloc ?_ _) | (with_reducible refine Kd.C_drewN ?_ _) | (with_reducible refine Kd.C_drew ?_))); (case side2 => exact HC0.out); rintro e w10 ⟨rfl, hb⟩; refine ⟨_, rfl, ?_⟩; have n0_ := Aside0.mk (below_step zq0 hb); clear HB; have HB := n0_; clear n0_; (try clear hb); (try clear hb2); (try clear hk); (try clear hi)))
    go_meet
    case rel => exact ⟨_, (true), (by first | rfl | (simp; done) | (simp [*]; done)), H', ⟨by first | omega | exact Nat.le_refl _⟩, ⟨by repeat (first | (with_reducible first | exact HB.out | apply below_alloc | apply pw_below_drewN | apply below_drew1) | exact HB.out)⟩⟩
   ·
    rw [if_neg c9] at H
    have c9b0 : decide (t347 < 0) = false := decide_eq_false c9
    clear c9
    (first | rw [c9b0] | (simp only [i64_w, i32_w]; rw [c9b0]) | skip)
    by_cases c11 : 0 ≤ t347
    ·
     rw [if_pos c11] at H
     have c11b0 : decide (0 ≤ t347) = true := decide_eq_true c11
     clear c11
     by_cases c12 : t347 < (l0.length : Int)
     ·
      rw [if_pos c12] at H
      have c12b0 : decide (t347 < (l0.length : Int)) = true := decide_eq_true c12
      clear c12
      by_cases c13 : ((rd_T31 l0 t347).f2) = a2
      ·
       rw [if_pos c13] at H
       have c13b0 : (((rd_T31 l0 t347).f2) == a2) = true := beq_iff_eq.mpr c13
       have c13b1 : (((rd_T31 l0 t347).f2) != a2) = false := bne_eq_false_iff_eq.mpr c13
       clear c13
       have H' := Aside0.mk H
       clear H
       go_wp2_with (first | ((with_reducible refine gate_callee (f := 63) rfl ?_); refine goesL_ (some 19) rfl rfl Try.func63 (by kernel_rfl) rfl #[.slice A0 l0.length c0] rfl zq1 ?_; (with_reducible refine (spec_l14List.calls k _ _ l0 true _ ?side1 ?side2 A7.out).mono ?_); (case side1 => repeat (first | exact (Kd.C_below HR0.out HB.out) | (with_reducible refine Kd.C_alloc ?_ _) | (with_reducible refine Kd.C_drewN ?_ _) | (with_reducible refine Kd.C_drew ?_))); (case side2 => exact HC0.out); rintro e w14 ⟨rfl, hb⟩; refine ⟨_, rfl, ?_⟩; have n0_ := Aside0.mk (below_step zq0 hb); clear HB; have HB := n0_; clear n0_; (try clear hb); (try clear hb2); (try clear hk); (try clear hi); have p349 : 0 ≤ (t347 : Int) := of_decide_eq_true zq2; have q349 : t347 < (l0.length : Int) := of_decide_eq_true zq2; obtain ⟨ad349, e349, hx349_0, hx349_1, hx349_2, hx349_3, hx349_4, hx349_5⟩ := at_T31 HR0.out t347 p349 q349; cases e349; replace hx349_0 := (HB.out.cell (World.block_lt_of_cell? w _ hx349_0)).trans hx349_0; replace hx349_1 := (HB.out.cell (World.block_lt_of_cell? w _ hx349_1)).trans hx349_1; replace hx349_2 := (HB.out.cell (World.block_lt_of_cell? w _ hx349_2)).trans hx349_2; replace hx349_3 := (HB.out.cell (World.block_lt_of_cell? w _ hx349_3)).trans hx349_3; replace hx349_4 := (HB.out.cell (World.block_lt_of_cell? w _ hx349_4)).trans hx349_4; replace hx349_5 := (HB.out.cell (World.block_lt_of_cell? w _ hx349_5)).trans hx349_5; replace p349 := eq_true p349; replace q349 := eq_true q349))
       go_meet
       case rel => exact ⟨_, (true), (by first | rfl | (simp; done) | (simp [*]; done)), H', ⟨by first | omega | exact Nat.le_refl _⟩, ⟨by repeat (first | (with_reducible first | exact HB.out | apply below_alloc | apply pw_below_drewN | apply below_drew1) | exact HB.out)⟩⟩
      ·
       rw [if_neg c13] at H
       have c13b0 : (((rd_T31 l0 t347).f2) == a2) = false := beq_eq_false_iff_ne.mpr c13
       have c13b1 : (((rd_T31 l0 t347).f2) != a2) = true := bne_iff_ne.mpr c13
       have H' := Aside0.mk H
       clear H
       go_wp2_with (first | ((with_reducible refine gate_callee (f := 63) rfl ?_); refine goesL_ (some 19) rfl rfl Try.func63 (by kernel_rfl) rfl #[.slice A0 l0.length c0] rfl zq1 ?_; (with_reducible refine (spec_l14List.calls k _ _ l0 true _ ?side1 ?side2 A7.out).mono ?_); (case side1 => repeat (first | exact (Kd.C_below HR0.out HB.out) | (with_reducible refine Kd.C_alloc ?_ _) | (with_reducible refine Kd.C_drewN ?_ _) | (with_reducible refine Kd.C_drew ?_))); (case side2 => exact HC0.out); rintro e w15 ⟨rfl, hb⟩; refine ⟨_, rfl, ?_⟩; have n0_ := Aside0.mk (below_step zq0 hb); clear HB; have HB := n0_; clear n0_; (try clear hb); (try clear hb2); (try clear hk); (try clear hi); have p349 : 0 ≤ (t347 : Int) := of_decide_eq_true zq2; have q349 : t347 < (l0.length : Int) := of_decide_eq_true zq2; obtain ⟨ad349, e349, hx349_0, hx349_1, hx349_2, hx349_3, hx349_4, hx349_5⟩ := at_T31 HR0.out t347 p349 q349; cases e349; replace hx349_0 := (HB.out.cell (World.block_lt_of_cell? w _ hx349_0)).trans hx349_0; replace hx349_1 := (HB.out.cell (World.block_lt_of_cell? w _ hx349_1)).trans hx349_1; replace hx349_2 := (HB.out.cell (World.block_lt_of_cell? w _ hx349_2)).trans hx349_2; replace hx349_3 := (HB.out.cell (World.block_lt_of_cell? w _ hx349_3)).trans hx349_3; replace hx349_4 := (HB.out.cell (World.block_lt_of_cell? w _ hx349_4)).trans hx349_4; replace hx349_5 := (HB.out.cell (World.block_lt_of_cell? w _ hx349_5)).trans hx349_5; replace p349 := eq_true p349; replace q349 := eq_true q349; have p350 : 0 ≤ (t347 : Int) := of_decide_eq_true zq2; have q350 : t347 < (l0.length : Int) := of_decide_eq_true zq2; obtain ⟨ad350, e350, hx350_0, hx350_1, hx350_2, hx350_3, hx350_4, hx350_5⟩ := at_T31 HR0.out t347 p350 q350; obtain rfl : ad349 = ad350 := (by injection e350); replace hx350_0 := (HB.out.cell (World.block_lt_of_cell? w _ hx350_0)).trans hx350_0; replace hx350_1 := (HB.out.cell (World.block_lt_of_cell? w _ hx350_1)).trans hx350_1; replace hx350_2 := (HB.out.cell (World.block_lt_of_cell? w _ hx350_2)).trans hx350_2; replace hx350_3 := (HB.out.cell (World.block_lt_of_cell? w _ hx350_3)).trans hx350_3; replace hx350_4 := (HB.out.cell (World.block_lt_of_cell? w _ hx350_4)).trans hx350_4; replace hx350_5 := (HB.out.cell (World.block_lt_of_cell? w _ hx350_5)).trans hx350_5; replace p350 := eq_true p350; replace q350 := eq_true q350))
       go_meet
       case rel => exact ⟨_, (decide (a3 ≥ ((rd_T31 l0 t347).f5))), (by first | rfl | (simp; done) | (simp [*]; done)), H', ⟨by first | omega | exact Nat.le_refl _⟩, ⟨by repeat (first | (with_reducible first | exact HB.out | apply below_alloc | apply pw_below_drewN | apply below_drew1) | exact HB.out)⟩⟩
     ·
      rw [if_neg c12] at H
      exact absurd H (by simp)
    ·
     rw [if_neg c11] at H
     exact absurd H (by simp)
  ·
   replace c8 := Bool.eq_false_iff.mpr c8
   subst c8
   have H1 : (spec_ChangeLevel.j0 k l0 a1 a2 a3 t347 true) = some (r1, r2, r3) := by rw [if_neg (show ¬ (false = true) by decide)] at H; exact H
   clear H
   have H := H1
   clear H1
   have H' := Aside0.mk H
   clear H
   go_wp2_with (first | ((with_reducible refine gate_callee (f := 63) rfl ?_); refine goesL_ (some 19) rfl rfl Try.func63 (by kernel_rfl) rfl #[.slice A0 l0.length c0] rfl zq1 ?_; (with_reducible refine (spec_l14List.calls k _ _ l0 false _ ?side1 ?side2 A7.out).mono ?_); (case side1 => repeat (first | exact (Kd.C_below HR0.out HB.out) | (with_reducible refine Kd.C_alloc ?_ _) | (with_reducible refine Kd.C_drewN ?_ _) | (with_reducible refine Kd.C_drew ?_))); (case side2 => exact HC0.out); rintro e w16 ⟨rfl, hb⟩; refine ⟨_, rfl, ?_⟩; have n0_ := Aside0.mk (below_step zq0 hb); clear HB; have HB := n0_; clear n0_; (try clear hb); (try clear hb2); (try clear hk); (try clear hi)))
   go_meet
   case rel => exact ⟨_, (true), (by first | rfl | (simp; done) | (simp [*]; done)), H', ⟨by first | omega | exact Nat.le_refl _⟩, ⟨by repeat (first | (with_reducible first | exact HB.out | apply below_alloc | apply pw_below_drewN | apply below_drew1) | exact HB.out)⟩⟩
 case rest =>
  clear HC6
  try clear c1
  try clear p2
  try clear p3
  try clear q3
  try clear hx3
  try clear c5
  try clear c6
  try clear c8
  try clear c9
  try clear c9b0
  try clear c10
  try clear c11
  try clear c11b0
  try clear c12
  try clear c12b0
  try clear c13
  try clear c13b0
  try clear c13b1
  try clear hx349_0
  try clear hx349_1
  try clear hx349_2
  try clear hx349_3
  try clear hx349_4
  try clear hx349_5
  try clear hx350_0
  try clear hx350_1
  try clear hx350_2
  try clear hx350_3
  try clear hx350_4
  try clear hx350_5
  try clear p349
  try clear p350
  try clear q349
  try clear q350
  obtain ⟨kq, x42_5, rfl, HA, HJ5, HB⟩ := hcut
  cases kq with
  | zero => exact absurd HA.out (by simp [spec_ChangeLevel.j0])
  | succ kj5 =>
   have H := HA.out
   clear HA
   simp only [spec_ChangeLevel.j0] at H
   by_cases c17 : x42_5 = true
   ·
    subst c17
    have H1 : (some ((([] : List (S31))), 0, false)) = some (r1, r2, r3) := by rw [if_pos rfl] at H; exact H
    clear H
    have H := H1
    clear H1
    obtain ⟨y351, hy351⟩ : ∃ y_ : List (S31), y_ = (([] : List (S31))) := ⟨_, rfl⟩
    replace H : (some (y351, 0, false)) = some (r1, r2, r3) := by first | (rw [hy351]; with_reducible exact H) | (have H2_ := (Option.bind_some _ _).symm.trans H; rw [hy351]; with_reducible exact H2_) | (have H2_ := (Option.bind_some _ _).symm.trans H; with_reducible exact H2_) | with_reducible exact H | (rw [hy351]; exact H) | exact H
    have Ny351 := Aside0.mk hy351
    clear hy351
    simp only [Option.some.injEq, Prod.mk.injEq] at H
    obtain ⟨rfl, rfl, rfl⟩ := H
    go_wp2_with (first | ((with_reducible refine gate_dst (N := 43) rfl ?_); refine Kd.R_lit k31 _ 31 ?hg (N := 43) ?hd (xs := ([] : List (S31))) (inner := []) (ok := fun _ => True) (okp := fun _ => True) ?hr ?hp (fun _ hk => hk) trivial (Below.refl _ _) (Nat.le_refl _) (by simp) ?_; (case hd => rfl); (case hg => rfl); (case hr => first | (go_simp; done) | (go_simp; rfl)); (case hp => exact (Reps.none _ _)); intro v352 w18 ho19 hb hg_ hnew_; clear hg_ hnew_; (first | rw [← Ny351.out] at ho19 | (simp only [Int.reduceToNat] at ho19; rw [← Ny351.out] at ho19)); have n0_ := Aside0.mk (Kd.R_lower ho19 (below_size zq0)); have n1_ := Aside0.mk (below_step zq0 hb); clear HB; have HO353 := n0_; have HB := n1_; clear n0_ n1_; clear hb ho19))
    go_ret3
    exact ⟨_, by first | rfl | (simp [errW_none, errW_some] <;> rfl) | (simp [*, errW_none, errW_some] <;> rfl), by (with_reducible repeat (first | apply Kd.R_alloc | apply Kd.R_drewN | apply Kd.R_drew)); exact HO353.out, by repeat (first | (with_reducible first | exact HB.out | apply below_alloc | apply pw_below_drewN | apply below_drew1) | exact HB.out)⟩
   ·
    replace c17 := Bool.eq_false_iff.mpr c17
    subst c17
    have H1 : (if 0 ≤ t347 then (if t347 < (l0.length : Int) then (if a3 ≤ ((rd_T31 l0 t347).f4) then ((spec_l14With.f l0 t347 ((rd_T31 l0 t347).f0) ((rd_T31 l0 t347).f1) a2 ((rd_T31 l0 t347).f3) ((rd_T31 l0 t347).f4) ((rd_T31 l0 t347).f5)).bind fun t356 => (spec_ChangeLevel.j1 kj5 a1 t356)) else ((spec_l14With.f l0 t347 ((rd_T31 l0 t347).f0) ((rd_T31 l0 t347).f1) ((rd_T31 l0 t347).f2) ((rd_T31 l0 t347).f3) ((rd_T31 l0 t347).f4) a3).bind fun t360 => ((spec_l14Issue.f kj5 t360 ((rd_T31 l0 t347).f0) ((rd_T31 l0 t347).f1) a2 ((rd_T31 l0 t347).f3) a3 ((rd_T31 l0 t347).f5)).bind fun bt363 => (spec_ChangeLevel.j1 kj5 bt363.2 bt363.1)))) else (none)) else (none)) = some (r1, r2, r3) := by rw [if_neg (show ¬ (false = true) by decide)] at H; exact H
    clear H
    have H := H1
    clear H1
    by_cases c20 : 0 ≤ t347
    ·
     rw [if_pos c20] at H
     have c20b0 : decide (0 ≤ t347) = true := decide_eq_true c20
     clear c20
     by_cases c21 : t347 < (l0.length : Int)
     ·
      rw [if_pos c21] at H
      have c21b0 : decide (t347 < (l0.length : Int)) = true := decide_eq_true c21
      clear c21
      have HC22 := Aside0.mk H
      clear H
      have p354 : 0 ≤ (t347 : Int) := of_decide_eq_true zq2
      have q354 : t347 < (l0.length : Int) := of_decide_eq_true zq2
      obtain ⟨ad354, e354, hx354_0, hx354_1, hx354_2, hx354_3, hx354_4, hx354_5⟩ := at_T31 HR0.out t347 p354 q354
      cases e354
      replace hx354_0 := (HB.out.cell (World.block_lt_of_cell? w _ hx354_0)).trans hx354_0
      replace hx354_1 := (HB.out.cell (World.block_lt_of_cell? w _ hx354_1)).trans hx354_1
      replace hx354_2 := (HB.out.cell (World.block_lt_of_cell? w _ hx354_2)).trans hx354_2
      replace hx354_3 := (HB.out.cell (World.block_lt_of_cell? w _ hx354_3)).trans hx354_3
      replace hx354_4 := (HB.out.cell (World.block_lt_of_cell? w _ hx354_4)).trans hx354_4
      replace hx354_5 := (HB.out.cell (World.block_lt_of_cell? w _ hx354_5)).trans hx354_5
      replace p354 := eq_true p354
      replace q354 := eq_true q354
      go_upto_if 52 with (first | ((with_reducible refine gate_dst (N := 12) rfl ?_); refine box_event ?hg (N := 12) ?hd (cs := #[.int .i64 0, .int .i64 0, .int .i64 0, .int .i64 0, .int .i64 0, .int .i64 0]) (t := 31) ?hr ?_; (case hd => rfl); (case hg => rfl); (case hr => first | (go_simp; done) | (go_simp; rfl)); intro gb355 hg w23 hbox hb; have n0_ := Aside0.mk (below_step zq0 hb); have n1_ := Aside0.mk (hbox); have n2_ := Aside0.mk ((by rw [hg]; exact (below_size zq0) : w.heap.size ≤ gb355)); have n3_ := Aside0.mk ((by rw [hg]; exact (below_size zq0) : w.heap.size ≤ gb355)); clear HB; have HB := n0_; have BK355 := n1_; have GW355 := n2_; have GE355 := n3_; clear n0_ n1_ n2_ n3_; clear hb hbox hg; have hcz24_0 : w23.cell? ⟨gb355, 0, none⟩ = some (.int .i64 0) := (blk_cell BK355.out 0).trans rfl; have hcz24_1 : w23.cell? ⟨gb355, 1, none⟩ = some (.int .i64 0) := (blk_cell BK355.out 1).trans rfl; have hcz24_2 : w23.cell? ⟨gb355, 2, none⟩ = some (.int .i64 0) := (blk_cell BK355.out 2).trans rfl; have hcz24_3 : w23.cell? ⟨gb355, 3, none⟩ = some (.int .i64 0) := (blk_cell BK355.out 3).trans rfl; have hcz24_4 : w23.cell? ⟨gb355, 4, none⟩ = some (.int .i64 0) := (blk_cell BK355.out 4).trans rfl; have hcz24_5 : w23.cell? ⟨gb355, 5, none⟩ = some (.int .i64 0) := (blk_cell BK355.out 5).trans rfl; have hl24_0 : ∀ v0 v1 v2 v3 v4 v5 u0 : Value, (((((((w23.setCell ⟨gb355, 0, none⟩ v0).setCell ⟨gb355, 1, none⟩ v1).setCell ⟨gb355, 2, none⟩ v2).setCell ⟨gb355, 3, none⟩ v3).setCell ⟨gb355, 4, none⟩ v4).setCell ⟨gb355, 5, none⟩ v5).setCell ⟨gb355, 2, none⟩ u0).cell? ⟨gb355, 2, none⟩ = some u0 := fun v0 v1 v2 v3 v4 v5 u0 => (blk_cell (blk_set (blk_set (blk_set (blk_set (blk_set (blk_set (blk_set BK355.out 0 v0) 1 v1) 2 v2) 3 v3) 4 v4) 5 v5) 2 u0) 2).trans (by simp); have hl24_1 : ∀ v0 v1 v2 v3 v4 v5 u0 u1 : Value, ((((((((w23.setCell ⟨gb355, 0, none⟩ v0).setCell ⟨gb355, 1, none⟩ v1).setCell ⟨gb355, 2, none⟩ v2).setCell ⟨gb355, 3, none⟩ v3).setCell ⟨gb355, 4, none⟩ v4).setCell ⟨gb355, 5, none⟩ v5).setCell ⟨gb355, 2, none⟩ u0).setCell ⟨gb355, 4, none⟩ u1).cell? ⟨gb355, 4, none⟩ = some u1 := fun v0 v1 v2 v3 v4 v5 u0 u1 => (blk_cell (blk_set (blk_set (blk_set (blk_set (blk_set (blk_set (blk_set (blk_set BK355.out 0 v0) 1 v1) 2 v2) 3 v3) 4 v4) 5 v5) 2 u0) 4 u1) 4).trans (by simp); have hl24_2 : ∀ v0 v1 v2 v3 v4 v5 u0 : Value, (((((((w23.setCell ⟨gb355, 0, none⟩ v0).setCell ⟨gb355, 1, none⟩ v1).setCell ⟨gb355, 2, none⟩ v2).setCell ⟨gb355, 3, none⟩ v3).setCell ⟨gb355, 4, none⟩ v4).setCell ⟨gb355, 5, none⟩ v5).setCell ⟨gb355, 5, none⟩ u0).cell? ⟨gb355, 5, none⟩ = some u0 := fun v0 v1 v2 v3 v4 v5 u0 => (blk_cell (blk_set (blk_set (blk_set (blk_set (blk_set (blk_set (blk_set BK355.out 0 v0) 1 v1) 2 v2) 3 v3) 4 v4) 5 v5) 5 u0) 5).trans (by simp); have hfz24_0 := blk_frozen BK355.out 0; have hfz24_1 := blk_frozen BK355.out 1; have hfz24_2 := blk_frozen BK355.out 2; have hfz24_3 := blk_frozen BK355.out 3; have hfz24_4 := blk_frozen BK355.out 4; have hfz24_5 := blk_frozen BK355.out 5))
      (try simp only [Act.put, List.setIfInBounds_toArray, List.set_cons_zero, List.set_cons_succ])
      go_cut [1, 13] (fun v1 v13 wc => ∃ (kq : Nat) (x1_21 : Int) (x13_21 : List (S31)) (x356002_21 : Int) (x356005_21 : Int), v1 = .int .i64 x1_21 ∧ Aside0 (spec_ChangeLevel.j1 kq x1_21 x13_21 = some (r1, r2, r3)) ∧ Aside0 (kq ≤ kj5) ∧ Aside0 (Kd.R k31 31 wc w.heap.size (fun k_ => k_ ≠ gb355) v13 x13_21) ∧ Aside0 (wc.heap[gb355]? = some (.cells #[.int .i64 ((rd_T31 l0 t347).f0), .int .i64 ((rd_T31 l0 t347).f1), .int .i64 x356002_21, .int .i64 ((rd_T31 l0 t347).f3), .int .i64 ((rd_T31 l0 t347).f4), .int .i64 x356005_21] 31 (0, 0))) ∧ Aside0 (Below w.heap.size w wc))
      case first =>
       have H := HC22.out
       clear HC22
       by_cases c25 : a3 ≤ ((rd_T31 l0 t347).f4)
       ·
        rw [if_pos c25] at H
        have c25b0 : decide (a3 ≤ ((rd_T31 l0 t347).f4)) = true := decide_eq_true c25
        clear c25
        (first | rw [c25b0] | (simp only [i64_w, i32_w]; rw [c25b0]) | skip)
        replace H := Option.bind_eq_some_iff.mp H
        obtain ⟨t356, A260, H⟩ := H
        replace H : (spec_ChangeLevel.j1 kj5 a1 t356) = some (r1, r2, r3) := H
        have A26 := Aside0.mk A260
        clear A260
        have H' := Aside0.mk H
        clear H
        have hcz27_0 : w23.cell? ⟨gb355, 0, none⟩ = some (.int .i64 0) := (blk_cell BK355.out 0).trans rfl
        have hcz27_1 : w23.cell? ⟨gb355, 1, none⟩ = some (.int .i64 0) := (blk_cell BK355.out 1).trans rfl
        have hcz27_2 : w23.cell? ⟨gb355, 2, none⟩ = some (.int .i64 0) := (blk_cell BK355.out 2).trans rfl
        have hcz27_3 : w23.cell? ⟨gb355, 3, none⟩ = some (.int .i64 0) := (blk_cell BK355.out 3).trans rfl
        have hcz27_4 : w23.cell? ⟨gb355, 4, none⟩ = some (.int .i64 0) := (blk_cell BK355.out 4).trans rfl
        have hcz27_5 : w23.cell? ⟨gb355, 5, none⟩ = some (.int .i64 0) := (blk_cell BK355.out 5).trans rfl; have hl27_0 : ∀ v0 v1 v2 v3 v4 v5 u0 : Value, (((((((w23.setCell ⟨gb355, 0, none⟩ v0).setCell ⟨gb355, 1, none⟩ v1).setCell ⟨gb355, 2, none⟩ v2).setCell ⟨gb355, 3, none⟩ v3).setCell ⟨gb355, 4, none⟩ v4).setCell ⟨gb355, 5, none⟩ v5).setCell ⟨gb355, 2, none⟩ u0).cell? ⟨gb355, 2, none⟩ = some u0 := fun v0 v1 v2 v3 v4 v5 u0 => (blk_cell (blk_set (blk_set (blk_set (blk_set (blk_set (blk_set (blk_set BK355.out 0 v0) 1 v1) 2 v2) 3 v3) 4 v4) 5 v5) 2 u0) 2).trans (by simp); have hl27_1 : ∀ v0 v1 v2 v3 v4 v5 u0 u1 : Value, ((((((((w23.setCell ⟨gb355, 0, none⟩ v0).setCell ⟨gb355, 1, none⟩ v1).setCell ⟨gb355, 2, none⟩ v2).setCell ⟨gb355, 3, none⟩ v3).setCell ⟨gb355, 4, none⟩ v4).setCell ⟨gb355, 5, none⟩ v5).setCell ⟨gb355, 2, none⟩ u0).setCell ⟨gb355, 4, none⟩ u1).cell? ⟨gb355, 4, none⟩ = some u1 := fun v0 v1 v2 v3 v4 v5 u0 u1 => (blk_cell (blk_set (blk_set (blk_set (blk_set (blk_set (blk_set (blk_set (blk_set BK355.out 0 v0) 1 v1) 2 v2) 3 v3) 4 v4) 5 v5) 2 u0) 4 u1) 4).trans (by simp); have hl27_2 : ∀ v0 v1 v2 v3 v4 v5 u0 : Value, (((((((w23.setCell ⟨gb355, 0, none⟩ v0).setCell ⟨gb355, 1, none⟩ v1).setCell ⟨gb355, 2, none⟩ v2).setCell ⟨gb355, 3, none⟩ v3).setCell ⟨gb355, 4, none⟩ v4).setCell ⟨gb355, 5, none⟩ v5).setCell ⟨gb355, 5, none⟩ u0).cell? ⟨gb355, 5, none⟩ = some u0 := fun v0 v1 v2 v3 v4 v5 u0 => (blk_cell (blk_set (blk_set (blk_set (blk_set (blk_set (blk_set (blk_set BK355.out 0 v0) 1 v1) 2 v2) 3 v3) 4 v4) 5 v5) 5 u0) 5).trans (by simp)
        have hfz27_0 := blk_frozen BK355.out 0
        have hfz27_1 := blk_frozen BK355.out 1
        have hfz27_2 := blk_frozen BK355.out 2
        have hfz27_3 := blk_frozen BK355.out 3
        have hfz27_4 := blk_frozen BK355.out 4
        have hfz27_5 := blk_frozen BK355.out 5
        go_wp2_with (first | ((with_reducible refine gate_callee (f := 64) rfl ?_); refine goesL_ (some 58) rfl rfl Try.func64 (by kernel_rfl) rfl #[.slice (some ad354) l0.length c0, .int .i64 t347, .agg #[.int .i64 ((rd_T31 l0 t347).f0), .int .i64 ((rd_T31 l0 t347).f1), .int .i64 a2, .int .i64 ((rd_T31 l0 t347).f3), .int .i64 ((rd_T31 l0 t347).f4), .int .i64 ((rd_T31 l0 t347).f5)]] rfl zq1 ?_; (with_reducible refine (spec_l14With.calls _ _ l0 t347 ((rd_T31 l0 t347).f0) ((rd_T31 l0 t347).f1) a2 ((rd_T31 l0 t347).f3) ((rd_T31 l0 t347).f4) ((rd_T31 l0 t347).f5) t356 _ ?side1 ?side2 A26.out).mono ?_); (case side1 => exact Kd.C_below HR0.out zq15); (case side2 => exact HC0.out); rintro e w28 ⟨v357, rfl, ho0, hb⟩; refine ⟨_, rfl, ?_⟩; have n0_ := Aside0.mk (Kd.R_lower (Kd.R_newB ho0 (g := gb355) (o := .cells #[.int .i64 ((rd_T31 l0 t347).f0), .int .i64 ((rd_T31 l0 t347).f1), .int .i64 a2, .int .i64 ((rd_T31 l0 t347).f3), .int .i64 ((rd_T31 l0 t347).f4), .int .i64 ((rd_T31 l0 t347).f5)] 31 (0, 0)) zq10) (below_size zq15)); have n1_ := Aside0.mk (blk_below (g := gb355) (o := .cells #[.int .i64 ((rd_T31 l0 t347).f0), .int .i64 ((rd_T31 l0 t347).f1), .int .i64 a2, .int .i64 ((rd_T31 l0 t347).f3), .int .i64 ((rd_T31 l0 t347).f4), .int .i64 ((rd_T31 l0 t347).f5)] 31 (0, 0)) zq10 hb); have n2_ := Aside0.mk (below_step zq15 hb); clear BK355; clear HB; have HO358 := n0_; have BK355 := n1_; have HB := n2_; clear n0_ n1_ n2_; (try clear hb); (try clear hb2); (try clear hk); (try clear hi); (try clear ho0)))
        go_meet
        case rel => exact ⟨_, (a1), (t356), (a2), ((rd_T31 l0 t347).f5), (by first | rfl | (simp; done) | (simp [*]; done)), H', ⟨by have := HJ5.out; first | omega | exact Nat.le_refl _⟩, ⟨by (with_reducible repeat (first | apply Kd.R_alloc | apply Kd.R_drewN | apply Kd.R_drew)); exact Kd.R_mono HO358.out (fun _ hk => hk.2)⟩, ⟨by (with_reducible repeat (first | refine blk_drewN ?_ _ | refine blk_drew ?_ | refine blk_alloc ?_ _)); exact BK355.out⟩, ⟨by repeat (first | (with_reducible first | exact HB.out | apply below_alloc | apply pw_below_drewN | apply below_drew1 | refine below_set ?_ GE355.out) | exact HB.out)⟩⟩
       ·
        rw [if_neg c25] at H
        have c25b0 : decide (a3 ≤ ((rd_T31 l0 t347).f4)) = false := decide_eq_false c25
        clear c25
        (first | rw [c25b0] | (simp only [i64_w, i32_w]; rw [c25b0]) | skip)
        replace H := Option.bind_eq_some_iff.mp H
        obtain ⟨t360, A290, H⟩ := H
        replace H : ((spec_l14Issue.f kj5 t360 ((rd_T31 l0 t347).f0) ((rd_T31 l0 t347).f1) a2 ((rd_T31 l0 t347).f3) a3 ((rd_T31 l0 t347).f5)).bind fun bt363 => (spec_ChangeLevel.j1 kj5 bt363.2 bt363.1)) = some (r1, r2, r3) := H
        have A29 := Aside0.mk A290
        clear A290
        replace H := Option.bind_eq_some_iff.mp H
        obtain ⟨⟨t363, t366⟩, A300, H⟩ := H
        replace H : (spec_ChangeLevel.j1 kj5 t366 t363) = some (r1, r2, r3) := H
        have A30 := Aside0.mk A300
        clear A300
        have H' := Aside0.mk H
        clear H
        have hcz31_0 : w23.cell? ⟨gb355, 0, none⟩ = some (.int .i64 0) := (blk_cell BK355.out 0).trans rfl
        have hcz31_1 : w23.cell? ⟨gb355, 1, none⟩ = some (.int .i64 0) := (blk_cell BK355.out 1).trans rfl
        have hcz31_2 : w23.cell? ⟨gb355, 2, none⟩ = some (.int .i64 0) := (blk_cell BK355.out 2).trans rfl
        have hcz31_3 : w23.cell? ⟨gb355, 3, none⟩ = some (.int .i64 0) := (blk_cell BK355.out 3).trans rfl
        have hcz31_4 : w23.cell? ⟨gb355, 4, none⟩ = some (.int .i64 0) := (blk_cell BK355.out 4).trans rfl
        have hcz31_5 : w23.cell? ⟨gb355, 5, none⟩ = some (.int .i64 0) := (blk_cell BK355.out 5).trans rfl; have hl31_0 : ∀ v0 v1 v2 v3 v4 v5 u0 : Value, (((((((w23.setCell ⟨gb355, 0, none⟩ v0).setCell ⟨gb355, 1, none⟩ v1).setCell ⟨gb355, 2, none⟩ v2).setCell ⟨gb355, 3, none⟩ v3).setCell ⟨gb355, 4, none⟩ v4).setCell ⟨gb355, 5, none⟩ v5).setCell ⟨gb355, 2, none⟩ u0).cell? ⟨gb355, 2, none⟩ = some u0 := fun v0 v1 v2 v3 v4 v5 u0 => (blk_cell (blk_set (blk_set (blk_set (blk_set (blk_set (blk_set (blk_set BK355.out 0 v0) 1 v1) 2 v2) 3 v3) 4 v4) 5 v5) 2 u0) 2).trans (by simp); have hl31_1 : ∀ v0 v1 v2 v3 v4 v5 u0 u1 : Value, ((((((((w23.setCell ⟨gb355, 0, none⟩ v0).setCell ⟨gb355, 1, none⟩ v1).setCell ⟨gb355, 2, none⟩ v2).setCell ⟨gb355, 3, none⟩ v3).setCell ⟨gb355, 4, none⟩ v4).setCell ⟨gb355, 5, none⟩ v5).setCell ⟨gb355, 2, none⟩ u0).setCell ⟨gb355, 4, none⟩ u1).cell? ⟨gb355, 4, none⟩ = some u1 := fun v0 v1 v2 v3 v4 v5 u0 u1 => (blk_cell (blk_set (blk_set (blk_set (blk_set (blk_set (blk_set (blk_set (blk_set BK355.out 0 v0) 1 v1) 2 v2) 3 v3) 4 v4) 5 v5) 2 u0) 4 u1) 4).trans (by simp); have hl31_2 : ∀ v0 v1 v2 v3 v4 v5 u0 : Value, (((((((w23.setCell ⟨gb355, 0, none⟩ v0).setCell ⟨gb355, 1, none⟩ v1).setCell ⟨gb355, 2, none⟩ v2).setCell ⟨gb355, 3, none⟩ v3).setCell ⟨gb355, 4, none⟩ v4).setCell ⟨gb355, 5, none⟩ v5).setCell ⟨gb355, 5, none⟩ u0).cell? ⟨gb355, 5, none⟩ = some u0 := fun v0 v1 v2 v3 v4 v5 u0 => (blk_cell (blk_set (blk_set (blk_set (blk_set (blk_set (blk_set (blk_set BK355.out 0 v0) 1 v1) 2 v2) 3 v3) 4 v4) 5 v5) 5 u0) 5).trans (by simp)
        have hfz31_0 := blk_frozen BK355.out 0
        have hfz31_1 := blk_frozen BK355.out 1
        have hfz31_2 := blk_frozen BK355.out 2
        have hfz31_3 := blk_frozen BK355.out 3
        have hfz31_4 := blk_frozen BK355.out 4
        have hfz31_5 := blk_frozen BK355.out 5
        try go_wp2_with (first | ((with_reducible refine gate_dst (N := 14) rfl ?_); refine box_event ?hg (N := 14) ?hd (cs := #[.int .i64 0, .int .i64 0, .int .i64 0, .int .i64 0, .int .i64 0, .int .i64 0]) (t := 31) ?hr ?_; (case hd => rfl); (case hg => rfl); (case hr => first | (go_simp; done) | (go_simp; rfl)); intro gb359 hg w32 hbox hb; have n0_ := Aside0.mk (blk_below (g := gb355) (o := .cells #[.int .i64 ((rd_T31 l0 t347).f0), .int .i64 ((rd_T31 l0 t347).f1), .int .i64 ((rd_T31 l0 t347).f2), .int .i64 ((rd_T31 l0 t347).f3), .int .i64 ((rd_T31 l0 t347).f4), .int .i64 ((rd_T31 l0 t347).f5)] 31 (0, 0)) zq5 hb); have n1_ := Aside0.mk (below_step zq15 hb); have n2_ := Aside0.mk (hbox); have n3_ := Aside0.mk ((by rw [hg]; exact (below_size zq15) : w.heap.size ≤ gb359)); have n4_ := Aside0.mk ((by rw [hg]; exact (below_size zq15) : w.heap.size ≤ gb359)); have n5_ := Aside0.mk ((by rw [hg]; exact Nat.ne_of_lt (blk_lt (g := gb355) (o := .cells #[.int .i64 ((rd_T31 l0 t347).f0), .int .i64 ((rd_T31 l0 t347).f1), .int .i64 ((rd_T31 l0 t347).f2), .int .i64 ((rd_T31 l0 t347).f3), .int .i64 ((rd_T31 l0 t347).f4), .int .i64 ((rd_T31 l0 t347).f5)] 31 (0, 0)) zq5) : gb355 ≠ gb359)); have n6_ := Aside0.mk ((by rw [hg]; exact Nat.ne_of_gt (blk_lt (g := gb355) (o := .cells #[.int .i64 ((rd_T31 l0 t347).f0), .int .i64 ((rd_T31 l0 t347).f1), .int .i64 ((rd_T31 l0 t347).f2), .int .i64 ((rd_T31 l0 t347).f3), .int .i64 ((rd_T31 l0 t347).f4), .int .i64 ((rd_T31 l0 t347).f5)] 31 (0, 0)) zq5) : gb359 ≠ gb355)); clear BK355; clear HB; have BK355 := n0_; have HB := n1_; have BK359 := n2_; have GW359 := n3_; have GE359 := n4_; have NB355_359 := n5_; have NB359_355 := n6_; clear n0_ n1_ n2_ n3_ n4_ n5_ n6_; clear hb hbox hg; have hnb33 := NB359_355.out; have hnc33 := NB355_359.out; have hcz34_0 : w32.cell? ⟨gb359, 0, none⟩ = some (.int .i64 0) := (blk_cell BK359.out 0).trans rfl; have hcz34_1 : w32.cell? ⟨gb359, 1, none⟩ = some (.int .i64 0) := (blk_cell BK359.out 1).trans rfl; have hcz34_2 : w32.cell? ⟨gb359, 2, none⟩ = some (.int .i64 0) := (blk_cell BK359.out 2).trans rfl; have hcz34_3 : w32.cell? ⟨gb359, 3, none⟩ = some (.int .i64 0) := (blk_cell BK359.out 3).trans rfl; have hcz34_4 : w32.cell? ⟨gb359, 4, none⟩ = some (.int .i64 0) := (blk_cell BK359.out 4).trans rfl; have hcz34_5 : w32.cell? ⟨gb359, 5, none⟩ = some (.int .i64 0) := (blk_cell BK359.out 5).trans rfl; have hl34_0 : ∀ v0 v1 v2 v3 v4 v5 u0 : Value, (((((((w32.setCell ⟨gb359, 0, none⟩ v0).setCell ⟨gb359, 1, none⟩ v1).setCell ⟨gb359, 2, none⟩ v2).setCell ⟨gb359, 3, none⟩ v3).setCell ⟨gb359, 4, none⟩ v4).setCell ⟨gb359, 5, none⟩ v5).setCell ⟨gb359, 2, none⟩ u0).cell? ⟨gb359, 2, none⟩ = some u0 := fun v0 v1 v2 v3 v4 v5 u0 => (blk_cell (blk_set (blk_set (blk_set (blk_set (blk_set (blk_set (blk_set BK359.out 0 v0) 1 v1) 2 v2) 3 v3) 4 v4) 5 v5) 2 u0) 2).trans (by simp); have hl34_1 : ∀ v0 v1 v2 v3 v4 v5 u0 u1 : Value, ((((((((w32.setCell ⟨gb359, 0, none⟩ v0).setCell ⟨gb359, 1, none⟩ v1).setCell ⟨gb359, 2, none⟩ v2).setCell ⟨gb359, 3, none⟩ v3).setCell ⟨gb359, 4, none⟩ v4).setCell ⟨gb359, 5, none⟩ v5).setCell ⟨gb359, 2, none⟩ u0).setCell ⟨gb359, 4, none⟩ u1).cell? ⟨gb359, 4, none⟩ = some u1 := fun v0 v1 v2 v3 v4 v5 u0 u1 => (blk_cell (blk_set (blk_set (blk_set (blk_set (blk_set (blk_set (blk_set (blk_set BK359.out 0 v0) 1 v1) 2 v2) 3 v3) 4 v4) 5 v5) 2 u0) 4 u1) 4).trans (by simp); have hl34_2 : ∀ v0 v1 v2 v3 v4 v5 u0 : Value, (((((((w32.setCell ⟨gb359, 0, none⟩ v0).setCell ⟨gb359, 1, none⟩ v1).setCell ⟨gb359, 2, none⟩ v2).setCell ⟨gb359, 3, none⟩ v3).setCell ⟨gb359, 4, none⟩ v4).setCell ⟨gb359, 5, none⟩ v5).setCell ⟨gb359, 5, none⟩ u0).cell? ⟨gb359, 5, none⟩ = some u0 := fun v0 v1 v2 v3 v4 v5 u0 => (blk_cell (blk_set (blk_set (blk_set (blk_set (blk_set (blk_set (blk_set BK359.out 0 v0) 1 v1) 2 v2) 3 v3) 4 v4) 5 v5) 5 u0) 5).trans (by simp); have hfz34_0 := blk_frozen BK359.out 0; have hfz34_1 := blk_frozen BK359.out 1; have hfz34_2 := blk_frozen BK359.out 2; have hfz34_3 := blk_frozen BK359.out 3; have hfz34_4 := blk_frozen BK359.out 4; have hfz34_5 := blk_frozen BK359.out 5; have hcz35_0 : w32.cell? ⟨gb355, 0, none⟩ = some (.int .i64 ((rd_T31 l0 t347).f0)) := (blk_cell BK355.out 0).trans rfl; have hcz35_1 : w32.cell? ⟨gb355, 1, none⟩ = some (.int .i64 ((rd_T31 l0 t347).f1)) := (blk_cell BK355.out 1).trans rfl; have hcz35_2 : w32.cell? ⟨gb355, 2, none⟩ = some (.int .i64 ((rd_T31 l0 t347).f2)) := (blk_cell BK355.out 2).trans rfl; have hcz35_3 : w32.cell? ⟨gb355, 3, none⟩ = some (.int .i64 ((rd_T31 l0 t347).f3)) := (blk_cell BK355.out 3).trans rfl; have hcz35_4 : w32.cell? ⟨gb355, 4, none⟩ = some (.int .i64 ((rd_T31 l0 t347).f4)) := (blk_cell BK355.out 4).trans rfl; have hcz35_5 : w32.cell? ⟨gb355, 5, none⟩ = some (.int .i64 ((rd_T31 l0 t347).f5)) := (blk_cell BK355.out 5).trans rfl; have hfz35_0 := blk_frozen BK355.out 0; have hfz35_1 := blk_frozen BK355.out 1; have hfz35_2 := blk_frozen BK355.out 2; have hfz35_3 := blk_frozen BK355.out 3; have hfz35_4 := blk_frozen BK355.out 4; have hfz35_5 := blk_frozen BK355.out 5))
        have n0_ : Aside0 ((((((((((w32.setCell ⟨gb359, 0, none⟩ (.int .i64 ((rd_T31 l0 t347).f0))).setCell ⟨gb359, 1, none⟩ (.int .i64 ((rd_T31 l0 t347).f1))).setCell ⟨gb359, 2, none⟩ (.int .i64 ((rd_T31 l0 t347).f2))).setCell ⟨gb359, 3, none⟩ (.int .i64 ((rd_T31 l0 t347).f3))).setCell ⟨gb359, 4, none⟩ (.int .i64 ((rd_T31 l0 t347).f4))).setCell ⟨gb359, 5, none⟩ (.int .i64 ((rd_T31 l0 t347).f5))).setCell ⟨gb359, 2, none⟩ (.int .i64 a2)).setCell ⟨gb359, 4, none⟩ (.int .i64 a3)).setCell ⟨gb355, 5, none⟩ (.int .i64 a3)).heap[gb355]? = some (.cells #[.int .i64 ((rd_T31 l0 t347).f0), .int .i64 ((rd_T31 l0 t347).f1), .int .i64 ((rd_T31 l0 t347).f2), .int .i64 ((rd_T31 l0 t347).f3), .int .i64 ((rd_T31 l0 t347).f4), .int .i64 a3] 31 (0, 0))) := ⟨by (with_reducible repeat (first | refine blk_drewN ?_ _ | refine blk_drew ?_ | refine blk_alloc ?_ _)); refine blk_put (cs := #[.int .i64 ((rd_T31 l0 t347).f0), .int .i64 ((rd_T31 l0 t347).f1), .int .i64 ((rd_T31 l0 t347).f2), .int .i64 ((rd_T31 l0 t347).f3), .int .i64 ((rd_T31 l0 t347).f4), .int .i64 ((rd_T31 l0 t347).f5)]) ?_ 5 _ rfl; (with_reducible repeat (first | refine blk_drewN ?_ _ | refine blk_drew ?_ | refine blk_alloc ?_ _)); refine blk_far ?_ NB355_359.out _; (with_reducible repeat (first | refine blk_drewN ?_ _ | refine blk_drew ?_ | refine blk_alloc ?_ _)); refine blk_far ?_ NB355_359.out _; (with_reducible repeat (first | refine blk_drewN ?_ _ | refine blk_drew ?_ | refine blk_alloc ?_ _)); refine blk_far ?_ NB355_359.out _; (with_reducible repeat (first | refine blk_drewN ?_ _ | refine blk_drew ?_ | refine blk_alloc ?_ _)); refine blk_far ?_ NB355_359.out _; (with_reducible repeat (first | refine blk_drewN ?_ _ | refine blk_drew ?_ | refine blk_alloc ?_ _)); refine blk_far ?_ NB355_359.out _; (with_reducible repeat (first | refine blk_drewN ?_ _ | refine blk_drew ?_ | refine blk_alloc ?_ _)); refine blk_far ?_ NB355_359.out _; (with_reducible repeat (first | refine blk_drewN ?_ _ | refine blk_drew ?_ | refine blk_alloc ?_ _)); refine blk_far ?_ NB355_359.out _; (with_reducible repeat (first | refine blk_drewN ?_ _ | refine blk_drew ?_ | refine blk_alloc ?_ _)); refine blk_far ?_ NB355_359.out _; (with_reducible repeat (first | refine blk_drewN ?_ _ | refine blk_drew ?_ | refine blk_alloc ?_ _)); exact BK355.out⟩
        have n1_ : Aside0 ((((((((((w32.setCell ⟨gb359, 0, none⟩ (.int .i64 ((rd_T31 l0 t347).f0))).setCell ⟨gb359, 1, none⟩ (.int .i64 ((rd_T31 l0 t347).f1))).setCell ⟨gb359, 2, none⟩ (.int .i64 ((rd_T31 l0 t347).f2))).setCell ⟨gb359, 3, none⟩ (.int .i64 ((rd_T31 l0 t347).f3))).setCell ⟨gb359, 4, none⟩ (.int .i64 ((rd_T31 l0 t347).f4))).setCell ⟨gb359, 5, none⟩ (.int .i64 ((rd_T31 l0 t347).f5))).setCell ⟨gb359, 2, none⟩ (.int .i64 a2)).setCell ⟨gb359, 4, none⟩ (.int .i64 a3)).setCell ⟨gb355, 5, none⟩ (.int .i64 a3)).heap[gb359]? = some (.cells #[.int .i64 ((rd_T31 l0 t347).f0), .int .i64 ((rd_T31 l0 t347).f1), .int .i64 a2, .int .i64 ((rd_T31 l0 t347).f3), .int .i64 a3, .int .i64 ((rd_T31 l0 t347).f5)] 31 (0, 0))) := ⟨by (with_reducible repeat (first | refine blk_drewN ?_ _ | refine blk_drew ?_ | refine blk_alloc ?_ _)); refine blk_far ?_ NB359_355.out _; (with_reducible repeat (first | refine blk_drewN ?_ _ | refine blk_drew ?_ | refine blk_alloc ?_ _)); refine blk_put (cs := #[.int .i64 ((rd_T31 l0 t347).f0), .int .i64 ((rd_T31 l0 t347).f1), .int .i64 a2, .int .i64 ((rd_T31 l0 t347).f3), .int .i64 ((rd_T31 l0 t347).f4), .int .i64 ((rd_T31 l0 t347).f5)]) ?_ 4 _ rfl; (with_reducible repeat (first | refine blk_drewN ?_ _ | refine blk_drew ?_ | refine blk_alloc ?_ _)); refine blk_put (cs := #[.int .i64 ((rd_T31 l0 t347).f0), .int .i64 ((rd_T31 l0 t347).f1), .int .i64 ((rd_T31 l0 t347).f2), .int .i64 ((rd_T31 l0 t347).f3), .int .i64 ((rd_T31 l0 t347).f4), .int .i64 ((rd_T31 l0 t347).f5)]) ?_ 2 _ rfl; (with_reducible repeat (first | refine blk_drewN ?_ _ | refine blk_drew ?_ | refine blk_alloc ?_ _)); refine blk_put (cs := #[.int .i64 ((rd_T31 l0 t347).f0), .int .i64 ((rd_T31 l0 t347).f1), .int .i64 ((rd_T31 l0 t347).f2), .int .i64 ((rd_T31 l0 t347).f3), .int .i64 ((rd_T31 l0 t347).f4), .int .i64 0]) ?_ 5 _ rfl; (with_reducible repeat (first | refine blk_drewN ?_ _ | refine blk_drew ?_ | refine blk_alloc ?_ _)); refine blk_put (cs := #[.int .i64 ((rd_T31 l0 t347).f0), .int .i64 ((rd_T31 l0 t347).f1), .int .i64 ((rd_T31 l0 t347).f2), .int .i64 ((rd_T31 l0 t347).f3), .int .i64 0, .int .i64 0]) ?_ 4 _ rfl; (with_reducible repeat (first | refine blk_drewN ?_ _ | refine blk_drew ?_ | refine blk_alloc ?_ _)); refine blk_put (cs := #[.int .i64 ((rd_T31 l0 t347).f0), .int .i64 ((rd_T31 l0 t347).f1), .int .i64 ((rd_T31 l0 t347).f2), .int .i64 0, .int .i64 0, .int .i64 0]) ?_ 3 _ rfl; (with_reducible repeat (first | refine blk_drewN ?_ _ | refine blk_drew ?_ | refine blk_alloc ?_ _)); refine blk_put (cs := #[.int .i64 ((rd_T31 l0 t347).f0), .int .i64 ((rd_T31 l0 t347).f1), .int .i64 0, .int .i64 0, .int .i64 0, .int .i64 0]) ?_ 2 _ rfl; (with_reducible repeat (first | refine blk_drewN ?_ _ | refine blk_drew ?_ | refine blk_alloc ?_ _)); refine blk_put (cs := #[.int .i64 ((rd_T31 l0 t347).f0), .int .i64 0, .int .i64 0, .int .i64 0, .int .i64 0, .int .i64 0]) ?_ 1 _ rfl; (with_reducible repeat (first | refine blk_drewN ?_ _ | refine blk_drew ?_ | refine blk_alloc ?_ _)); refine blk_put (cs := #[.int .i64 0, .int .i64 0, .int .i64 0, .int .i64 0, .int .i64 0, .int .i64 0]) ?_ 0 _ rfl; (with_reducible repeat (first | refine blk_drewN ?_ _ | refine blk_drew ?_ | refine blk_alloc ?_ _)); exact BK359.out⟩
        have n2_ : Aside0 (Below w.heap.size w (((((((((w32.setCell ⟨gb359, 0, none⟩ (.int .i64 ((rd_T31 l0 t347).f0))).setCell ⟨gb359, 1, none⟩ (.int .i64 ((rd_T31 l0 t347).f1))).setCell ⟨gb359, 2, none⟩ (.int .i64 ((rd_T31 l0 t347).f2))).setCell ⟨gb359, 3, none⟩ (.int .i64 ((rd_T31 l0 t347).f3))).setCell ⟨gb359, 4, none⟩ (.int .i64 ((rd_T31 l0 t347).f4))).setCell ⟨gb359, 5, none⟩ (.int .i64 ((rd_T31 l0 t347).f5))).setCell ⟨gb359, 2, none⟩ (.int .i64 a2)).setCell ⟨gb359, 4, none⟩ (.int .i64 a3)).setCell ⟨gb355, 5, none⟩ (.int .i64 a3))) := ⟨by repeat (first | (with_reducible first | exact HB.out | apply below_alloc | apply pw_below_drewN | apply below_drew1 | refine below_set ?_ GE355.out | refine below_set ?_ GE359.out) | exact HB.out)⟩
        (try clear BK355)
        (try clear BK359)
        (try clear HB)
        generalize (((((((((w32.setCell ⟨gb359, 0, none⟩ (.int .i64 ((rd_T31 l0 t347).f0))).setCell ⟨gb359, 1, none⟩ (.int .i64 ((rd_T31 l0 t347).f1))).setCell ⟨gb359, 2, none⟩ (.int .i64 ((rd_T31 l0 t347).f2))).setCell ⟨gb359, 3, none⟩ (.int .i64 ((rd_T31 l0 t347).f3))).setCell ⟨gb359, 4, none⟩ (.int .i64 ((rd_T31 l0 t347).f4))).setCell ⟨gb359, 5, none⟩ (.int .i64 ((rd_T31 l0 t347).f5))).setCell ⟨gb359, 2, none⟩ (.int .i64 a2)).setCell ⟨gb359, 4, none⟩ (.int .i64 a3)).setCell ⟨gb355, 5, none⟩ (.int .i64 a3)) = w36 at n0_ n1_ n2_ ⊢
        have BK355 := n0_
        have BK359 := n1_
        have HB := n2_
        clear n0_ n1_ n2_
        have n0_ := Aside0.mk (blk_drew BK355.out)
        have n1_ := Aside0.mk (blk_drew BK359.out)
        have n2_ := Aside0.mk (below_drew1 HB.out)
        clear BK355
        clear BK359
        clear HB
        have BK355 := n0_
        have BK359 := n1_
        have HB := n2_
        clear n0_ n1_ n2_
        refine start_ (n := 11) (S := fun w' => w'.cell? ⟨gb355, 0, none⟩ = some (.int .i64 ((rd_T31 l0 t347).f0)) ∧ w'.cell? ⟨gb355, 1, none⟩ = some (.int .i64 ((rd_T31 l0 t347).f1)) ∧ w'.cell? ⟨gb355, 2, none⟩ = some (.int .i64 ((rd_T31 l0 t347).f2)) ∧ w'.cell? ⟨gb355, 3, none⟩ = some (.int .i64 ((rd_T31 l0 t347).f3)) ∧ w'.cell? ⟨gb355, 4, none⟩ = some (.int .i64 ((rd_T31 l0 t347).f4)) ∧ w'.cell? ⟨gb355, 5, none⟩ = some (.int .i64 a3) ∧ w'.cell? ⟨gb359, 0, none⟩ = some (.int .i64 ((rd_T31 l0 t347).f0)) ∧ w'.cell? ⟨gb359, 1, none⟩ = some (.int .i64 ((rd_T31 l0 t347).f1)) ∧ w'.cell? ⟨gb359, 2, none⟩ = some (.int .i64 a2) ∧ w'.cell? ⟨gb359, 3, none⟩ = some (.int .i64 ((rd_T31 l0 t347).f3)) ∧ w'.cell? ⟨gb359, 4, none⟩ = some (.int .i64 a3) ∧ w'.cell? ⟨gb359, 5, none⟩ = some (.int .i64 ((rd_T31 l0 t347).f5))) (ds := []) #[false, false, false, false, false, false, false, false, false, false, false] (by kernel_rfl) rfl rfl ⟨(blk_cell BK355.out 0).trans rfl, (blk_cell BK355.out 1).trans rfl, (blk_cell BK355.out 2).trans rfl, (blk_cell BK355.out 3).trans rfl, (blk_cell BK355.out 4).trans rfl, (blk_cell BK355.out 5).trans rfl, (blk_cell BK359.out 0).trans rfl, (blk_cell BK359.out 1).trans rfl, (blk_cell BK359.out 2).trans rfl, (blk_cell BK359.out 3).trans rfl, (blk_cell BK359.out 4).trans rfl, (blk_cell BK359.out 5).trans rfl⟩ (fun hHeld => ?_); refine with_tabW spec_ChangeLevel.tab13 spec_ChangeLevel.bits13 (fun HT_ HW_ => ?_)
        generalize w36.drew = w37 at BK355 BK359 HB hHeld ⊢
        refine pure_ (i := 0) (N := some 67) (v := ?_) (a' := ?_) #[true, false, false, false, false, false, false, false, false, false, false] rfl rfl (any_of HT_.out (by kernel_rfl)) (fun _ _ _ h => h) (Or.inl ⟨by rfl, ?_⟩) ?_ ?_
        rotate_left
        · exact zqB
        rotate_left
        · exact zqA
        refine pure_ (i := 1) (N := some 68) (v := ?_) (a' := ?_) #[true, true, false, false, false, false, false, false, false, false, false] rfl rfl (any_of HT_.out (by kernel_rfl)) (fun _ _ _ h => h) (Or.inl ⟨by rfl, ?_⟩) ?_ ?_
        rotate_left
        · exact zqB
        rotate_left
        · exact zqA
        refine take_ (i := 2) (N := some 69) (v := ?_) (a' := ?_) #[true, true, true, false, false, false, false, false, false, false, false] rfl rfl (take_ofW HT_.out HW_.out (by kernel_rfl)) (fun _ _ _ h => h) (Or.inl ⟨by rfl, ?_⟩) hHeld ?_ ?_
        rotate_left
        ·
         rintro w' ⟨s0, s1, s2, s3, s4, s5, s6, s7, s8, s9, s10, s11⟩
         go_simp
         with_reducible rfl
        rotate_left
        · exact zqA
        refine take_ (i := 4) (N := some 71) (v := ?_) (a' := ?_) #[true, true, true, false, true, false, false, false, false, false, false] rfl rfl (take_ofW HT_.out HW_.out (by kernel_rfl)) (fun _ _ _ h => h) (Or.inl ⟨by rfl, ?_⟩) hHeld ?_ ?_
        rotate_left
        ·
         rintro w' ⟨s0, s1, s2, s3, s4, s5, s6, s7, s8, s9, s10, s11⟩
         go_simp
         with_reducible rfl
        rotate_left
        · exact zqA
        refine one_ (i := 3) (N := some 70) #[true, true, true, true, true, false, false, false, false, false, false] rfl rfl (one_of HT_.out (by kernel_rfl)) (by decide) (fun K hK => ?_)
        refine goes_ Try.func64 (by kernel_rfl) rfl #[.slice (some ad354) l0.length c0, .int .i64 t347, .agg #[.int .i64 ((rd_T31 l0 t347).f0), .int .i64 ((rd_T31 l0 t347).f1), .int .i64 ((rd_T31 l0 t347).f2), .int .i64 ((rd_T31 l0 t347).f3), .int .i64 ((rd_T31 l0 t347).f4), .int .i64 a3]] (by rfl) rfl rfl zq1 ?_
        with_reducible refine (spec_l14With.calls _ _ l0 t347 ((rd_T31 l0 t347).f0) ((rd_T31 l0 t347).f1) ((rd_T31 l0 t347).f2) ((rd_T31 l0 t347).f3) ((rd_T31 l0 t347).f4) a3 t360 _ ?side1 ?side2 A29.out).mono ?_
        (case side1 => repeat (first | exact (Kd.C_below HR0.out HB.out) | (with_reducible refine Kd.C_alloc ?_ _) | (with_reducible refine Kd.C_drewN ?_ _) | (with_reducible refine Kd.C_drew ?_)))
        (case side2 => exact HC0.out)
        rintro e w38 ⟨v361, rfl, ho0, hb⟩
        refine ⟨_, rfl, ?_⟩
        have n0_ := Aside0.mk (Kd.R_lower (Kd.R_newB (Kd.R_newB ho0 (g := gb355) (o := .cells #[.int .i64 ((rd_T31 l0 t347).f0), .int .i64 ((rd_T31 l0 t347).f1), .int .i64 ((rd_T31 l0 t347).f2), .int .i64 ((rd_T31 l0 t347).f3), .int .i64 ((rd_T31 l0 t347).f4), .int .i64 a3] 31 (0, 0)) (zqK BK355.out)) (g := gb359) (o := .cells #[.int .i64 ((rd_T31 l0 t347).f0), .int .i64 ((rd_T31 l0 t347).f1), .int .i64 a2, .int .i64 ((rd_T31 l0 t347).f3), .int .i64 a3, .int .i64 ((rd_T31 l0 t347).f5)] 31 (0, 0)) (zqK BK359.out)) (below_size zq25))
        have n1_ := Aside0.mk (blk_below (g := gb355) (o := .cells #[.int .i64 ((rd_T31 l0 t347).f0), .int .i64 ((rd_T31 l0 t347).f1), .int .i64 ((rd_T31 l0 t347).f2), .int .i64 ((rd_T31 l0 t347).f3), .int .i64 ((rd_T31 l0 t347).f4), .int .i64 a3] 31 (0, 0)) (zqK BK355.out) hb)
        have n2_ := Aside0.mk (blk_below (g := gb359) (o := .cells #[.int .i64 ((rd_T31 l0 t347).f0), .int .i64 ((rd_T31 l0 t347).f1), .int .i64 a2, .int .i64 ((rd_T31 l0 t347).f3), .int .i64 a3, .int .i64 ((rd_T31 l0 t347).f5)] 31 (0, 0)) (zqK BK359.out) hb)
        have n3_ := Aside0.mk (below_step zq25 hb)
        clear BK355
        clear BK359
        clear HB
        have HO362 := n0_
        have BK355 := n1_
        have BK359 := n2_
        have HB := n3_
        clear n0_ n1_ n2_ n3_
        (try clear hb)
        (try clear hb2)
        (try clear hk)
        (try clear hi)
        (try clear ho0)
        obtain ⟨Ao39, co39, eo39⟩ := Kd.R_slice HO362.out
        (first | subst eo39 | (injection eo39 with f1_ f2_ f3_; have f4_ := f1_.symm; have f5_ := f3_.symm; clear f1_ f2_ f3_; subst f4_; subst f5_))
        refine hK.out _ _ ⟨(blk_cell BK355.out 0).trans rfl, (blk_cell BK355.out 1).trans rfl, (blk_cell BK355.out 2).trans rfl, (blk_cell BK355.out 3).trans rfl, (blk_cell BK355.out 4).trans rfl, (blk_cell BK355.out 5).trans rfl, (blk_cell BK359.out 0).trans rfl, (blk_cell BK359.out 1).trans rfl, (blk_cell BK359.out 2).trans rfl, (blk_cell BK359.out 3).trans rfl, (blk_cell BK359.out 4).trans rfl, (blk_cell BK359.out 5).trans rfl⟩ (fun hHeld => ?_)
        clear hK K
        refine norm_ (a' := ?_) ?_ ?_
        rotate_left
        ·
         show Act.put _ (some 70) _ = _
         simp only [Act.put, List.setIfInBounds_toArray, List.set_cons_zero, List.set_cons_succ, i64_w, i32_w]
         rfl
        refine one_ (i := 5) (N := some 72) #[true, true, true, true, true, true, false, false, false, false, false] rfl rfl (one_of HT_.out (by kernel_rfl)) (by decide) (fun K hK => ?_)
        refine goes_ Try.func65 (by kernel_rfl) rfl #[.slice Ao39 t360.length co39, .agg #[.int .i64 ((rd_T31 l0 t347).f0), .int .i64 ((rd_T31 l0 t347).f1), .int .i64 a2, .int .i64 ((rd_T31 l0 t347).f3), .int .i64 a3, .int .i64 ((rd_T31 l0 t347).f5)]] (by rfl) rfl rfl zq1 ?_
        with_reducible refine (spec_l14Issue.calls kj5 _ _ t360 ((rd_T31 l0 t347).f0) ((rd_T31 l0 t347).f1) a2 ((rd_T31 l0 t347).f3) a3 ((rd_T31 l0 t347).f5) t363 t366 _ ?side1 ?side2 A30.out).mono ?_
        (case side1 => repeat (first | exact (Kd.R_reads' HO362.out).2.2 | (with_reducible refine Kd.C_alloc ?_ _) | (with_reducible refine Kd.C_drewN ?_ _) | (with_reducible refine Kd.C_drew ?_)))
        (case side2 => exact (Kd.R_reads' HO362.out).2.1)
        rintro e w40 ⟨v364, rfl, ho0, hb⟩
        refine ⟨_, rfl, ?_⟩
        have n0_ := Aside0.mk (Kd.R_elder' (zqR HO362.out) (Kd.R_base ho0) hb)
        have n1_ := Aside0.mk (Kd.R_lower (Kd.R_newB (Kd.R_newB (Kd.R_new' ho0 (Kd.R_lt (zqR HO362.out))) (g := gb355) (o := .cells #[.int .i64 ((rd_T31 l0 t347).f0), .int .i64 ((rd_T31 l0 t347).f1), .int .i64 ((rd_T31 l0 t347).f2), .int .i64 ((rd_T31 l0 t347).f3), .int .i64 ((rd_T31 l0 t347).f4), .int .i64 a3] 31 (0, 0)) (zqK BK355.out)) (g := gb359) (o := .cells #[.int .i64 ((rd_T31 l0 t347).f0), .int .i64 ((rd_T31 l0 t347).f1), .int .i64 a2, .int .i64 ((rd_T31 l0 t347).f3), .int .i64 a3, .int .i64 ((rd_T31 l0 t347).f5)] 31 (0, 0)) (zqK BK359.out)) (below_size zq25))
        have n2_ := Aside0.mk (blk_below (g := gb355) (o := .cells #[.int .i64 ((rd_T31 l0 t347).f0), .int .i64 ((rd_T31 l0 t347).f1), .int .i64 ((rd_T31 l0 t347).f2), .int .i64 ((rd_T31 l0 t347).f3), .int .i64 ((rd_T31 l0 t347).f4), .int .i64 a3] 31 (0, 0)) (zqK BK355.out) hb)
        have n3_ := Aside0.mk (blk_below (g := gb359) (o := .cells #[.int .i64 ((rd_T31 l0 t347).f0), .int .i64 ((rd_T31 l0 t347).f1), .int .i64 a2, .int .i64 ((rd_T31 l0 t347).f3), .int .i64 a3, .int .i64 ((rd_T31 l0 t347).f5)] 31 (0, 0)) (zqK BK359.out) hb)
        have n4_ := Aside0.mk (below_step zq25 hb)
        clear HO362
        clear BK355
        clear BK359
        clear HB
        have HO362 := n0_
        have HO365 := n1_
        have BK355 := n2_
        have BK359 := n3_
        have HB := n4_
        clear n0_ n1_ n2_ n3_ n4_
        (try clear hb)
        (try clear hb2)
        (try clear hk)
        (try clear hi)
        (try clear ho0)
        refine hK.out _ _ ⟨(blk_cell BK355.out 0).trans rfl, (blk_cell BK355.out 1).trans rfl, (blk_cell BK355.out 2).trans rfl, (blk_cell BK355.out 3).trans rfl, (blk_cell BK355.out 4).trans rfl, (blk_cell BK355.out 5).trans rfl, (blk_cell BK359.out 0).trans rfl, (blk_cell BK359.out 1).trans rfl, (blk_cell BK359.out 2).trans rfl, (blk_cell BK359.out 3).trans rfl, (blk_cell BK359.out 4).trans rfl, (blk_cell BK359.out 5).trans rfl⟩ (fun hHeld => ?_)
        clear hK K
        refine norm_ (a' := ?_) ?_ ?_
        rotate_left
        ·
         show Act.put _ (some 72) _ = _
         simp only [Act.put, List.setIfInBounds_toArray, List.set_cons_zero, List.set_cons_succ, i64_w, i32_w]
         rfl
        refine pure_ (i := 6) (N := some 66) (v := ?_) (a' := ?_) #[true, true, true, true, true, true, true, false, false, false, false] rfl rfl (any_of HT_.out (by kernel_rfl)) (fun _ _ _ h => h) (Or.inl ⟨by rfl, ?_⟩) ?_ ?_
        rotate_left
        · exact zqB
        rotate_left
        · exact zqA
        refine pure_ (i := 7) (N := some 73) (v := ?_) (a' := ?_) #[true, true, true, true, true, true, true, true, false, false, false] rfl rfl (any_of HT_.out (by kernel_rfl)) (fun _ _ _ h => h) (Or.inl ⟨by rfl, ?_⟩) ?_ ?_
        rotate_left
        · exact zqB
        rotate_left
        · exact zqA
        refine pure_ (i := 8) (N := some 74) (v := ?_) (a' := ?_) #[true, true, true, true, true, true, true, true, true, false, false] rfl rfl (any_of HT_.out (by kernel_rfl)) (fun _ _ _ h => h) (Or.inl ⟨by rfl, ?_⟩) ?_ ?_
        rotate_left
        · exact zqB
        rotate_left
        · exact zqA
        refine pure_ (i := 9) (N := some 13) (v := ?_) (a' := ?_) #[true, true, true, true, true, true, true, true, true, true, false] rfl rfl (any_of HT_.out (by kernel_rfl)) (fun _ _ _ h => h) (Or.inl ⟨by rfl, ?_⟩) ?_ ?_
        rotate_left
        · exact zqB
        rotate_left
        · exact zqA
        refine pure_ (i := 10) (N := some 1) (v := ?_) (a' := ?_) #[true, true, true, true, true, true, true, true, true, true, true] rfl rfl (any_of HT_.out (by kernel_rfl)) (fun _ _ _ h => h) (Or.inl ⟨by rfl, ?_⟩) ?_ ?_
        rotate_left
        · exact zqB
        rotate_left
        · exact zqA
        refine done_ (done_of HT_.out (by kernel_rfl)) ?_
        try go_wp2
        go_meet
        case rel => exact ⟨_, (t366), (t363), ((rd_T31 l0 t347).f2), (a3), (by first | rfl | (simp; done) | (simp [*]; done)), H', ⟨by have := HJ5.out; first | omega | exact Nat.le_refl _⟩, ⟨by (with_reducible repeat (first | apply Kd.R_alloc | apply Kd.R_drewN | apply Kd.R_drew)); exact Kd.R_mono HO365.out (fun _ hk => hk.1.2)⟩, ⟨by (with_reducible repeat (first | refine blk_drewN ?_ _ | refine blk_drew ?_ | refine blk_alloc ?_ _)); exact BK355.out⟩, ⟨by repeat (first | (with_reducible first | exact HB.out | apply below_alloc | apply pw_below_drewN | apply below_drew1 | refine below_set ?_ GE355.out | refine below_set ?_ GE359.out) | exact HB.out)⟩⟩
      case rest =>
       clear HC22
       try clear c1
       try clear c2
       try clear p2
       try clear c3
       try clear p3
       try clear q3
       try clear hx3
       try clear c5
       try clear c6
       try clear c8
       try clear c9
       try clear c9b0
       try clear c10
       try clear c11
       try clear c11b0
       try clear c12
       try clear c12b0
       try clear c13
       try clear c13b0
       try clear c13b1
       try clear c17
       try clear c20
       try clear c20b0
       try clear c21
       try clear c21b0
       try clear c25
       try clear c25b0
       try clear c33
       try clear p34
       try clear q34
       try clear hx34
       try clear p35
       try clear q35
       try clear hx35
       try clear hcz24_0
       try clear hcz24_1
       try clear hcz24_2
       try clear hcz24_3
       try clear hcz24_4
       try clear hcz24_5
       try clear hcz27_0
       try clear hcz27_1
       try clear hcz27_2
       try clear hcz27_3
       try clear hcz27_4
       try clear hcz27_5
       try clear hcz31_0
       try clear hcz31_1
       try clear hcz31_2
       try clear hcz31_3
       try clear hcz31_4
       try clear hcz31_5
       try clear hcz34_0
       try clear hcz34_1
       try clear hcz34_2
       try clear hcz34_3
       try clear hcz34_4
       try clear hcz34_5
       try clear hcz35_0
       try clear hcz35_1
       try clear hcz35_2
       try clear hcz35_3
       try clear hcz35_4
       try clear hcz35_5
       try clear hfz24_0
       try clear hfz24_1
       try clear hfz24_2
       try clear hfz24_3
       try clear hfz24_4
       try clear hfz24_5
       try clear hfz27_0
       try clear hfz27_1
       try clear hfz27_2
       try clear hfz27_3
       try clear hfz27_4
       try clear hfz27_5
       try clear hfz31_0
       try clear hfz31_1
       try clear hfz31_2
       try clear hfz31_3
       try clear hfz31_4
       try clear hfz31_5
       try clear hfz34_0
       try clear hfz34_1
       try clear hfz34_2
       try clear hfz34_3
       try clear hfz34_4
       try clear hfz34_5
       try clear hfz35_0
       try clear hfz35_1
       try clear hfz35_2
       try clear hfz35_3
       try clear hfz35_4
       try clear hfz35_5
       try clear hx349_0
       try clear hx349_1
       try clear hx349_2
       try clear hx349_3
       try clear hx349_4
       try clear hx349_5
       try clear hx350_0
       try clear hx350_1
       try clear hx350_2
       try clear hx350_3
       try clear hx350_4
       try clear hx350_5
       try clear hx354_0
       try clear hx354_1
       try clear hx354_2
       try clear hx354_3
       try clear hx354_4
       try clear hx354_5
       try clear p2
       try clear p3
       try clear p349
       try clear p350
       try clear p354
       try clear q3
       try clear q349
       try clear q350
       try clear q354
       obtain ⟨kq, x1_21, x13_21, x356002_21, x356005_21, rfl, HA, HJ21, HO_13, BK355, HB⟩ := hcut
       cases kq with
       | zero => exact absurd HA.out (by simp [spec_ChangeLevel.j1])
       | succ kj21 =>
        have H := HA.out
        clear HA
        simp only [spec_ChangeLevel.j1] at H
        replace H := Option.bind_eq_some_iff.mp H
        obtain ⟨t367, A410, H⟩ := H
        replace H : (if t367 = true then (some (x13_21, x1_21, true)) else (some ((([] : List (S31))), 0, false))) = some (r1, r2, r3) := H
        have A41 := Aside0.mk A410
        clear A410
        by_cases c42 : t367 = true
        ·
         subst c42
         have H1 : (some (x13_21, x1_21, true)) = some (r1, r2, r3) := by rw [if_pos rfl] at H; exact H
         clear H
         have H := H1
         clear H1
         simp only [Option.some.injEq, Prod.mk.injEq] at H
         obtain ⟨rfl, rfl, rfl⟩ := H
         obtain ⟨Ao43, co43, eo43⟩ := Kd.R_slice HO_13.out
         subst eo43
         go_wp2_with (first | ((with_reducible refine gate_callee (f := 63) rfl ?_); refine goesL_ (some 76) rfl rfl Try.func63 (by kernel_rfl) rfl #[.slice Ao43 x13_21.length co43] rfl zq1 ?_; (with_reducible refine (spec_l14List.calls kj21 _ _ x13_21 true _ ?side1 ?side2 A41.out).mono ?_); (case side1 => repeat (first | exact (Kd.R_reads' HO_13.out).2.2 | (with_reducible refine Kd.C_alloc ?_ _) | (with_reducible refine Kd.C_drewN ?_ _) | (with_reducible refine Kd.C_drew ?_))); (case side2 => exact (Kd.R_reads' HO_13.out).2.1); rintro e w44 ⟨rfl, hb⟩; refine ⟨_, rfl, ?_⟩; have n0_ := Aside0.mk (Kd.R_below (zqR HO_13.out) hb); have n1_ := Aside0.mk (blk_below (g := gb355) (o := .cells #[.int .i64 ((rd_T31 l0 t347).f0), .int .i64 ((rd_T31 l0 t347).f1), .int .i64 x356002_21, .int .i64 ((rd_T31 l0 t347).f3), .int .i64 ((rd_T31 l0 t347).f4), .int .i64 x356005_21] 31 (0, 0)) (zqK BK355.out) hb); have n2_ := Aside0.mk (below_step zq15 hb); clear HO_13; clear BK355; clear HB; have HO_13 := n0_; have BK355 := n1_; have HB := n2_; clear n0_ n1_ n2_; (try clear hb); (try clear hb2); (try clear hk); (try clear hi)))
         go_ret3
         exact ⟨_, by first | rfl | (simp [errW_none, errW_some] <;> rfl) | (simp [*, errW_none, errW_some] <;> rfl), by (with_reducible repeat (first | apply Kd.R_alloc | apply Kd.R_drewN | apply Kd.R_drew)); exact Kd.R_mono HO_13.out (fun _ hk => trivial), by repeat (first | (with_reducible first | exact HB.out | apply below_alloc | apply pw_below_drewN | apply below_drew1 | refine below_set ?_ GE355.out) | exact HB.out)⟩
        ·
         replace c42 := Bool.eq_false_iff.mpr c42
         subst c42
         have H1 : (some ((([] : List (S31))), 0, false)) = some (r1, r2, r3) := by rw [if_neg (show ¬ (false = true) by decide)] at H; exact H
         clear H
         have H := H1
         clear H1
         obtain ⟨y368, hy368⟩ : ∃ y_ : List (S31), y_ = (([] : List (S31))) := ⟨_, rfl⟩
         replace H : (some (y368, 0, false)) = some (r1, r2, r3) := by first | (rw [hy368]; with_reducible exact H) | (have H2_ := (Option.bind_some _ _).symm.trans H; rw [hy368]; with_reducible exact H2_) | (have H2_ := (Option.bind_some _ _).symm.trans H; with_reducible exact H2_) | with_reducible exact H | (rw [hy368]; exact H) | exact H
         have Ny368 := Aside0.mk hy368
         clear hy368
         simp only [Option.some.injEq, Prod.mk.injEq] at H
         obtain ⟨rfl, rfl, rfl⟩ := H
         obtain ⟨Ao45, co45, eo45⟩ := Kd.R_slice HO_13.out
         subst eo45
         go_wp2_with (first | ((with_reducible refine gate_callee (f := 63) rfl ?_); refine goesL_ (some 76) rfl rfl Try.func63 (by kernel_rfl) rfl #[.slice Ao45 x13_21.length co45] rfl zq1 ?_; (with_reducible refine (spec_l14List.calls kj21 _ _ x13_21 false _ ?side1 ?side2 A41.out).mono ?_); (case side1 => repeat (first | exact (Kd.R_reads' HO_13.out).2.2 | (with_reducible refine Kd.C_alloc ?_ _) | (with_reducible refine Kd.C_drewN ?_ _) | (with_reducible refine Kd.C_drew ?_))); (case side2 => exact (Kd.R_reads' HO_13.out).2.1); rintro e w46 ⟨rfl, hb⟩; refine ⟨_, rfl, ?_⟩; have n0_ := Aside0.mk (Kd.R_below (zqR HO_13.out) hb); have n1_ := Aside0.mk (blk_below (g := gb355) (o := .cells #[.int .i64 ((rd_T31 l0 t347).f0), .int .i64 ((rd_T31 l0 t347).f1), .int .i64 x356002_21, .int .i64 ((rd_T31 l0 t347).f3), .int .i64 ((rd_T31 l0 t347).f4), .int .i64 x356005_21] 31 (0, 0)) (zqK BK355.out) hb); have n2_ := Aside0.mk (below_step zq15 hb); clear HO_13; clear BK355; clear HB; have HO_13 := n0_; have BK355 := n1_; have HB := n2_; clear n0_ n1_ n2_; (try clear hb); (try clear hb2); (try clear hk); (try clear hi)) | ((with_reducible refine gate_dst (N := 78) rfl ?_); refine Kd.R_lit k31 _ 31 ?hg (N := 78) ?hd (xs := ([] : List (S31))) (inner := []) (ok := fun _ => True) (okp := fun _ => True) ?hr ?hp (fun _ hk => hk) trivial (Below.refl _ _) (Nat.le_refl _) (by simp) ?_; (case hd => rfl); (case hg => rfl); (case hr => first | (go_simp; done) | (go_simp; rfl)); (case hp => exact (Reps.none _ _)); intro v369 w47 ho48 hb hg_ hnew_; clear hg_ hnew_; (first | rw [← Ny368.out] at ho48 | (simp only [Int.reduceToNat] at ho48; rw [← Ny368.out] at ho48)); have n0_ := Aside0.mk (Kd.R_elder' (zqR HO_13.out) (Kd.R_base ho48) hb); have n1_ := Aside0.mk (Kd.R_lower (Kd.R_newB (Kd.R_new' ho48 (Kd.R_lt (zqR HO_13.out))) (g := gb355) (o := .cells #[.int .i64 ((rd_T31 l0 t347).f0), .int .i64 ((rd_T31 l0 t347).f1), .int .i64 x356002_21, .int .i64 ((rd_T31 l0 t347).f3), .int .i64 ((rd_T31 l0 t347).f4), .int .i64 x356005_21] 31 (0, 0)) (zqK BK355.out)) (below_size zq15)); have n2_ := Aside0.mk (blk_below (g := gb355) (o := .cells #[.int .i64 ((rd_T31 l0 t347).f0), .int .i64 ((rd_T31 l0 t347).f1), .int .i64 x356002_21, .int .i64 ((rd_T31 l0 t347).f3), .int .i64 ((rd_T31 l0 t347).f4), .int .i64 x356005_21] 31 (0, 0)) (zqK BK355.out) hb); have n3_ := Aside0.mk (below_step zq15 hb); clear HO_13; clear BK355; clear HB; have HO_13 := n0_; have HO370 := n1_; have BK355 := n2_; have HB := n3_; clear n0_ n1_ n2_ n3_; clear hb ho48))
         go_ret3
         exact ⟨_, by first | rfl | (simp [errW_none, errW_some] <;> rfl) | (simp [*, errW_none, errW_some] <;> rfl), by (with_reducible repeat (first | apply Kd.R_alloc | apply Kd.R_drewN | apply Kd.R_drew)); exact Kd.R_mono HO370.out (fun _ hk => trivial), by repeat (first | (with_reducible first | exact HB.out | apply below_alloc | apply pw_below_drewN | apply below_drew1 | refine below_set ?_ GE355.out) | exact HB.out)⟩
     ·
      rw [if_neg c21] at H
      exact absurd H (by simp)
    ·
     rw [if_neg c20] at H
     exact absurd H (by simp)

end Go.Proofs.Ytklepiechbnenaa.Q
namespace Go.Proofs.Ytklepiechbnenaa.Q
open Go.RowKit Go.Proofs.YtklepiechbnenaaW.PrintWords Go.Proofs.YtklepiechbnenaaW.PrintLast Go.Proofs.YtklepiechbnenaaW.PrintMore
attribute [local go_sem] max2_int min2_int max_two min_two max_three min_three max_four min_four   -- for this text's walks alone
set_option linter.unusedVariables false
set_option linter.unusedSimpArgs false

theorem eqA31 (d : Nat) (w : World) (x0 y0 : Int) (x1 y1 : Int) (x2 y2 : Int) (x3 y3 : Int) (x4 y4 : Int) (x5 y5 : Int) :
  (Op.equalIn (d + 2) 31 (.agg #[.int .i64 x0, .int .i64 x1, .int .i64 x2, .int .i64 x3, .int .i64 x4, .int .i64 x5]) (.agg #[.int .i64 y0, .int .i64 y1, .int .i64 y2, .int .i64 y3, .int .i64 y4, .int .i64 y5])).run Try.prog w = .ok (x0 == y0 && (x1 == y1 && (x2 == y2 && (x3 == y3 && (x4 == y4 && (x5 == y5)))))) w := by
 refine eqA_of Try.underlying31 (by kernel_rfl) ?_
 refine eqf_cons (by rfl) (by go_simp; rfl) (by go_simp; rfl) (by go_simp) ?_
 refine eqf_cons (by rfl) (by go_simp; rfl) (by go_simp; rfl) (by go_simp) ?_
 refine eqf_cons (by rfl) (by go_simp; rfl) (by go_simp; rfl) (by go_simp) ?_
 refine eqf_cons (by rfl) (by go_simp; rfl) (by go_simp; rfl) (by go_simp) ?_
 refine eqf_cons (by rfl) (by go_simp; rfl) (by go_simp; rfl) (by go_simp) ?_
 exact eqf_last (by rfl) (by go_simp; rfl) (by go_simp; rfl) (by go_simp)
end Go.Proofs.Ytklepiechbnenaa.Q
namespace Go.Proofs.Ytklepiechbnenaa.Q
open Go.RowKit Go.Proofs.YtklepiechbnenaaW.PrintWords Go.Proofs.YtklepiechbnenaaW.PrintLast Go.Proofs.YtklepiechbnenaaW.PrintMore
attribute [local go_sem] max2_int min2_int max_two min_two max_three min_three max_four min_four   -- for this text's walks alone
set_option linter.unusedVariables false
set_option linter.unusedSimpArgs false

attribute [local go_sem high] eqA31
/-! ### laws_vWarnings: function 11 -/
def laws_vWarnings.l0 : Nat → List (S31) → List (S31) → Int → Option (Bool)
 | 0, _, _, _ => none
 | k + 1, x0, x1, x5 => if x5 < (x0.length : Int) then (if 0 ≤ x5 then (if x5 < (x1.length : Int) then (if (!(((rd_T31 x0 x5).f0) == ((rd_T31 x1 x5).f0)) || (!(((rd_T31 x0 x5).f1) == ((rd_T31 x1 x5).f1)) || (!(((rd_T31 x0 x5).f2) == ((rd_T31 x1 x5).f2)) || (!(((rd_T31 x0 x5).f3) == ((rd_T31 x1 x5).f3)) || (!(((rd_T31 x0 x5).f4) == ((rd_T31 x1 x5).f4)) || (!(((rd_T31 x0 x5).f5) == ((rd_T31 x1 x5).f5)))))))) = true then (some false) else (laws_vWarnings.l0 k x0 x1 (wrap64 (x5 + 1)))) else (none)) else (none)) else (some true)
def laws_vWarnings.f (k : Nat) (l0 : List (S31)) (l1 : List (S31)) : Option (Bool) := if (l0.length : Int) = (l1.length : Int) then (laws_vWarnings.l0 k l0 l1 0) else (some false)
theorem laws_vWarnings.mono_l : ∀ k, (∀ y0 y1 y2, LeO (laws_vWarnings.l0 k y0 y1 y2) (laws_vWarnings.l0 (k + 1) y0 y1 y2))
 | 0 => fun _ _ _ r h => by simp [laws_vWarnings.l0] at h
 | k + 1 => by
  have ih0 := laws_vWarnings.mono_l k
  ·
   intro y0 y1 y2
   unfold laws_vWarnings.l0
   repeat' first
   | (with_reducible exact ih0 _ _ _)
   | (with_reducible exact LeO.refl _)
   | (with_reducible exact LeO.none _)
   | (with_reducible refine LeO.ite ?_ ?_)
   | (with_reducible refine LeO.bind ?_ (fun _ => ?_))
   | exact ih0 _ _ _
   | exact LeO.none _
   | refine LeO.ite ?_ ?_
   | refine LeO.bind ?_ (fun _ => ?_)
theorem laws_vWarnings.mono : ∀ a0 a1 k, LeO (laws_vWarnings.f k a0 a1) (laws_vWarnings.f (k + 1) a0 a1) := by
 intro a0 a1 k
 have ih0 := laws_vWarnings.mono_l k
 unfold laws_vWarnings.f
 repeat' first
   | (with_reducible exact ih0 _ _ _)
   | (with_reducible exact LeO.refl _)
   | (with_reducible exact LeO.none _)
   | (with_reducible refine LeO.ite ?_ ?_)
   | (with_reducible refine LeO.bind ?_ (fun _ => ?_))
   | exact ih0 _ _ _
   | exact LeO.none _
   | refine LeO.ite ?_ ?_
   | refine LeO.bind ?_ (fun _ => ?_)
set_option maxHeartbeats 8000000 in
set_option maxRecDepth 100000 in
theorem laws_vWarnings.calls (k : Nat) (A0 : Option Addr) (c0 : Nat) (l0 : List (S31)) (A1 : Option Addr) (c1 : Nat) (l1 : List (S31)) (r : Bool) (w : World) (hr0 : Kd.C k31 w A0 l0.length l0) (hc0 : l0.length ≤ c0) (hr1 : Kd.C k31 w A1 l1.length l1) (hc1 : l1.length ≤ c1) (h : laws_vWarnings.f k l0 l1 = some r) :
  Calls Try.prog 11 #[.slice A0 l0.length c0, .slice A1 l1.length c1] w fun e w' => e = .returned (.bool r) ∧ Drawn0 w w' := by
 have hu31 := Try.underlying31
 have HR0 := Aside0.mk hr0
 have HC0 := Aside0.mk hc0
 clear hr0 hc0
 have HR1 := Aside0.mk hr1
 have HC1 := Aside0.mk hc1
 clear hr1 hc1
 have H : (if (l0.length : Int) = (l1.length : Int) then (laws_vWarnings.l0 k l0 l1 0) else (some false)) = some r := h
 clear h
 by_cases c3 : (l0.length : Int) = (l1.length : Int)
 ·
  rw [if_pos c3] at H
  have c3b0 : ((l0.length : Int) == (l1.length : Int)) = true := beq_iff_eq.mpr c3
  have c3b1 : ((l0.length : Int) != (l1.length : Int)) = false := bne_eq_false_iff_eq.mpr c3
  have c3b2 : (l0.length == l1.length) = true := by first | simpa using c3 | (simp at c3 ⊢; omega)
  clear c3
  have H' := Aside0.mk H
  clear H
  go_enter Try.func11, Try.ntmps11
  go_wp2
  repeat (go_quiet (fail); try go_wp2)
  go_loopg [5] k (fun kq v5 w' => ∃ (x5_1 : Int), v5 = .int .i64 x5_1 ∧ Aside0 (laws_vWarnings.l0 kq l0 l1 x5_1 = some r) ∧ Aside0 (kq ≤ k) ∧ Drawn0 w w')
  case atStart => exact ⟨(0), (by first | rfl | (simp; done) | (simp [*]; done)), H', ⟨Nat.le_refl _⟩, by repeat (first | exact Drawn0.refl _ | apply Drawn0.step)⟩
  case round =>
   clear H'
   try clear c1
   try clear p2
   try clear c3
   try clear c3b0
   try clear c3b1
   try clear c3b2
   obtain ⟨x5_1, rfl, HA, HK1, ⟨m1, rfl⟩⟩ := hrel
   cases gk with
   | zero => exact absurd HA.out (by simp [laws_vWarnings.l0])
   | succ k1 =>
    have H := HA.out
    clear HA
    simp only [laws_vWarnings.l0] at H
    by_cases c4 : x5_1 < (l0.length : Int)
    ·
     rw [if_pos c4] at H
     have c4b0 : decide (x5_1 < (l0.length : Int)) = true := decide_eq_true c4
     clear c4
     by_cases c5 : 0 ≤ x5_1
     ·
      rw [if_pos c5] at H
      have c5b0 : decide (0 ≤ x5_1) = true := decide_eq_true c5
      clear c5
      by_cases c6 : x5_1 < (l1.length : Int)
      ·
       rw [if_pos c6] at H
       have c6b0 : decide (x5_1 < (l1.length : Int)) = true := decide_eq_true c6
       clear c6
       by_cases c7 : (!(((rd_T31 l0 x5_1).f0) == ((rd_T31 l1 x5_1).f0)) || (!(((rd_T31 l0 x5_1).f1) == ((rd_T31 l1 x5_1).f1)) || (!(((rd_T31 l0 x5_1).f2) == ((rd_T31 l1 x5_1).f2)) || (!(((rd_T31 l0 x5_1).f3) == ((rd_T31 l1 x5_1).f3)) || (!(((rd_T31 l0 x5_1).f4) == ((rd_T31 l1 x5_1).f4)) || (!(((rd_T31 l0 x5_1).f5) == ((rd_T31 l1 x5_1).f5)))))))) = true
       ·
        rw [if_pos c7] at H
        have c7b0 : (!(((rd_T31 l0 x5_1).f0) == ((rd_T31 l1 x5_1).f0)) || (!(((rd_T31 l0 x5_1).f1) == ((rd_T31 l1 x5_1).f1)) || (!(((rd_T31 l0 x5_1).f2) == ((rd_T31 l1 x5_1).f2)) || (!(((rd_T31 l0 x5_1).f3) == ((rd_T31 l1 x5_1).f3)) || (!(((rd_T31 l0 x5_1).f4) == ((rd_T31 l1 x5_1).f4)) || (!(((rd_T31 l0 x5_1).f5) == ((rd_T31 l1 x5_1).f5)))))))) = true := c7
        clear c7
        obtain rfl := Option.some.inj H
        have p371 : 0 ≤ (x5_1 : Int) := of_decide_eq_true zq2
        have q371 : x5_1 < (l0.length : Int) := of_decide_eq_true zq2
        obtain ⟨ad371, e371, hx371_0, hx371_1, hx371_2, hx371_3, hx371_4, hx371_5⟩ := at_T31 HR0.out x5_1 p371 q371
        cases e371
        replace p371 := eq_true p371
        replace q371 := eq_true q371
        have p372 : 0 ≤ (x5_1 : Int) := of_decide_eq_true zq2
        have q372 : x5_1 < (l1.length : Int) := of_decide_eq_true zq2
        obtain ⟨ad372, e372, hx372_0, hx372_1, hx372_2, hx372_3, hx372_4, hx372_5⟩ := at_T31 HR1.out x5_1 p372 q372
        cases e372
        replace p372 := eq_true p372
        replace q372 := eq_true q372
        go_wp2
        repeat (go_quiet (fail); try go_wp2)
        go_ret
        exact ⟨by first | rfl | (simp; done) | (simp [*]; done), by repeat (first | exact Drawn0.refl _ | apply Drawn0.step)⟩
       ·
        rw [if_neg c7] at H
        have c7b0 : (!(((rd_T31 l0 x5_1).f0) == ((rd_T31 l1 x5_1).f0)) || (!(((rd_T31 l0 x5_1).f1) == ((rd_T31 l1 x5_1).f1)) || (!(((rd_T31 l0 x5_1).f2) == ((rd_T31 l1 x5_1).f2)) || (!(((rd_T31 l0 x5_1).f3) == ((rd_T31 l1 x5_1).f3)) || (!(((rd_T31 l0 x5_1).f4) == ((rd_T31 l1 x5_1).f4)) || (!(((rd_T31 l0 x5_1).f5) == ((rd_T31 l1 x5_1).f5)))))))) = false := by simpa using c7
        clear c7
        have H' := Aside0.mk H
        clear H
        have p371 : 0 ≤ (x5_1 : Int) := of_decide_eq_true zq2
        have q371 : x5_1 < (l0.length : Int) := of_decide_eq_true zq2
        obtain ⟨ad371, e371, hx371_0, hx371_1, hx371_2, hx371_3, hx371_4, hx371_5⟩ := at_T31 HR0.out x5_1 p371 q371
        cases e371
        replace p371 := eq_true p371
        replace q371 := eq_true q371
        have p372 : 0 ≤ (x5_1 : Int) := of_decide_eq_true zq2
        have q372 : x5_1 < (l1.length : Int) := of_decide_eq_true zq2
        obtain ⟨ad372, e372, hx372_0, hx372_1, hx372_2, hx372_3, hx372_4, hx372_5⟩ := at_T31 HR1.out x5_1 p372 q372
        cases e372
        replace p372 := eq_true p372
        replace q372 := eq_true q372
        go_wp2
        repeat (go_quiet (fail); try go_wp2)
        go_roundg k1
        case measure => have := HK1.out; omega
        case rel => exact ⟨(wrap64 (x5_1 + 1)), (by first | rfl | (simp; done) | (simp [*]; done)), H', ⟨by have := HK1.out; omega⟩, by repeat (first | exact Drawn0.refl _ | apply Drawn0.step)⟩
      ·
       rw [if_neg c6] at H
       exact absurd H (by simp)
     ·
      rw [if_neg c5] at H
      exact absurd H (by simp)
    ·
     rw [if_neg c4] at H
     have c4b0 : decide (x5_1 < (l0.length : Int)) = false := decide_eq_false c4
     clear c4
     obtain rfl := Option.some.inj H
     go_wp2
     repeat (go_quiet (fail); try go_wp2)
     go_ret
     exact ⟨by first | rfl | (simp; done) | (simp [*]; done), by repeat (first | exact Drawn0.refl _ | apply Drawn0.step)⟩
 ·
  rw [if_neg c3] at H
  have c3b0 : ((l0.length : Int) == (l1.length : Int)) = false := beq_eq_false_iff_ne.mpr c3
  have c3b1 : ((l0.length : Int) != (l1.length : Int)) = true := bne_iff_ne.mpr c3
  have c3b2 : (l0.length == l1.length) = false := by first | simpa using c3 | (simp at c3 ⊢; omega)
  obtain rfl := Option.some.inj H
  go_enter Try.func11, Try.ntmps11
  go_wp2
  repeat (go_quiet (fail); try go_wp2)
  go_ret
  exact ⟨by first | rfl | (simp; done) | (simp [*]; done), by repeat (first | exact Drawn0.refl _ | apply Drawn0.step)⟩

end Go.Proofs.Ytklepiechbnenaa.Q
