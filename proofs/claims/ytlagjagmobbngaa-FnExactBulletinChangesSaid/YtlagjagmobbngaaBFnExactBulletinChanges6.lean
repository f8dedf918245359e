/- Texts of this seat, put together: Qf7. -/
import Derived.Test.YtlagjagmobbngaaZFnExactBulletinChanges
import Derived.Test.YtlagjagmobbngaaBFnExactBulletinChanges0
import Derived.Test.YtlagjagmobbngaaBFnExactBulletinChanges4
import Derived.Test.YtlagjagmobbngaaBFnExactBulletinChanges5
namespace Go.Proofs.Ytlagjagmobbngaa.Q
open Go.RowKit Go.Proofs.YtlagjagmobbngaaW.PrintWords Go.Proofs.YtlagjagmobbngaaW.PrintLast Go.Proofs.YtlagjagmobbngaaW.PrintMore
attribute [local go_sem] max2_int min2_int max_two min_two max_three min_three max_four min_four   -- for this text's walks alone
set_option linter.unusedVariables false
set_option linter.unusedSimpArgs false

attribute [local go_sem high] eqA41
/-! ### impl_BulletinChanges: function 7 -/
mutual
def impl_BulletinChanges.j0 : Nat → Bool → Int → Int → List (S41) → Int → Int → List (S41) → Option (List Int × List Int × List Int × Bool)
 | 0, _, _, _, _, _, _, _ => none
 | k + 1, x23, x189000, x189001, x189002, x190000, x190001, x190002 => if x23 = true then (some (([] : List Int), ([] : List Int), ([] : List Int), false)) else (impl_BulletinChanges.l0 k ([] : List Int) ([] : List Int) x190002 (x190002.length : Int) 0 x189000 x189001 x189002 x190000 x190001 x190002)
def impl_BulletinChanges.l0 : Nat → List Int → List Int → List (S41) → Int → Int → Int → Int → List (S41) → Int → Int → List (S41) → Option (List Int × List Int × List Int × Bool)
 | 0, _, _, _, _, _, _, _, _, _, _, _ => none
 | k + 1, x8, x10, x25, x26, x27, x189000, x189001, x189002, x190000, x190001, x190002 => if x27 < x26 then (if 0 ≤ x27 then (if x27 < (x25.length : Int) then ((impl_warningAt.f k x189002 ((rd_T41 x25 x27).f0)).bind fun t194 => (if t194 < 0 then (if x8.length < 17592186044416 then (impl_BulletinChanges.l0 k (x8 ++ [(rd_T41 x25 x27).f0]) x10 x25 x26 (wrap64 (x27 + 1)) x189000 x189001 x189002 x190000 x190001 x190002) else (none)) else (if 0 ≤ t194 then (if t194 < (x189002.length : Int) then (if (!(((rd_T41 x189002 t194).f0) == ((rd_T41 x25 x27).f0)) || (!(((rd_T41 x189002 t194).f1) == ((rd_T41 x25 x27).f1)) || (!(((rd_T41 x189002 t194).f2) == ((rd_T41 x25 x27).f2)) || (!(((rd_T41 x189002 t194).f3) == ((rd_T41 x25 x27).f3)) || (!(((rd_T41 x189002 t194).f4) == ((rd_T41 x25 x27).f4)) || (!(((rd_T41 x189002 t194).f5) == ((rd_T41 x25 x27).f5)))))))) = true then (if x10.length < 17592186044416 then (impl_BulletinChanges.l0 k x8 (x10 ++ [(rd_T41 x25 x27).f0]) x25 x26 (wrap64 (x27 + 1)) x189000 x189001 x189002 x190000 x190001 x190002) else (none)) else (impl_BulletinChanges.l0 k x8 x10 x25 x26 (wrap64 (x27 + 1)) x189000 x189001 x189002 x190000 x190001 x190002)) else (none)) else (none)))) else (none)) else (none)) else (impl_BulletinChanges.l1 k x8 ([] : List Int) x10 x189002 (x189002.length : Int) 0 x190000 x190001 x190002)
def impl_BulletinChanges.l1 : Nat → List Int → List Int → List Int → List (S41) → Int → Int → Int → Int → List (S41) → Option (List Int × List Int × List Int × Bool)
 | 0, _, _, _, _, _, _, _, _, _ => none
 | k + 1, x8, x9, x10, x59, x60, x61, x190000, x190001, x190002 => if x61 < x60 then (if 0 ≤ x61 then (if x61 < (x59.length : Int) then ((impl_warningAt.f k x190002 ((rd_T41 x59 x61).f0)).bind fun t204 => (if t204 < 0 then (if x9.length < 17592186044416 then (impl_BulletinChanges.l1 k x8 (x9 ++ [(rd_T41 x59 x61).f0]) x10 x59 x60 (wrap64 (x61 + 1)) x190000 x190001 x190002) else (none)) else (impl_BulletinChanges.l1 k x8 x9 x10 x59 x60 (wrap64 (x61 + 1)) x190000 x190001 x190002))) else (none)) else (none)) else (some (x8, x9, x10, true))
end
def impl_BulletinChanges.f (k : Nat) (a0_0 : Int) (a0_1 : Int) (l0_2 : List (S41)) (a1_0 : Int) (a1_1 : Int) (l1_2 : List (S41)) : Option (List Int × List Int × List Int × Bool) := (impl_IsValidBulletin.f k a0_0 a0_1 l0_2).bind fun t190 => (if t190 = true then ((impl_IsValidBulletin.f k a1_0 a1_1 l1_2).bind fun t191 => (impl_BulletinChanges.j0 k (!t191) a0_0 a0_1 l0_2 a1_0 a1_1 l1_2)) else (impl_BulletinChanges.j0 k true a0_0 a0_1 l0_2 a1_0 a1_1 l1_2))
theorem impl_BulletinChanges.mono_l : ∀ k, (∀ y0 y1 y2 y3 y4 y5 y6, LeO (impl_BulletinChanges.j0 k y0 y1 y2 y3 y4 y5 y6) (impl_BulletinChanges.j0 (k + 1) y0 y1 y2 y3 y4 y5 y6)) ∧ (∀ y0 y1 y2 y3 y4 y5 y6 y7 y8 y9 y10, LeO (impl_BulletinChanges.l0 k y0 y1 y2 y3 y4 y5 y6 y7 y8 y9 y10) (impl_BulletinChanges.l0 (k + 1) y0 y1 y2 y3 y4 y5 y6 y7 y8 y9 y10)) ∧ (∀ y0 y1 y2 y3 y4 y5 y6 y7 y8, LeO (impl_BulletinChanges.l1 k y0 y1 y2 y3 y4 y5 y6 y7 y8) (impl_BulletinChanges.l1 (k + 1) y0 y1 y2 y3 y4 y5 y6 y7 y8))
 | 0 => ⟨fun _ _ _ _ _ _ _ r h => by simp [impl_BulletinChanges.j0] at h, fun _ _ _ _ _ _ _ _ _ _ _ r h => by simp [impl_BulletinChanges.l0] at h, fun _ _ _ _ _ _ _ _ _ r h => by simp [impl_BulletinChanges.l1] at h⟩
 | k + 1 => by
  obtain ⟨ih0, ih1, ih2⟩ := impl_BulletinChanges.mono_l k
  refine ⟨?_, ?_, ?_⟩
  ·
   intro y0 y1 y2 y3 y4 y5 y6
   unfold impl_BulletinChanges.j0
   repeat' first
   | (with_reducible exact ih0 _ _ _ _ _ _ _)
   | (with_reducible exact ih1 _ _ _ _ _ _ _ _ _ _ _)
   | (with_reducible exact ih2 _ _ _ _ _ _ _ _ _)
   | (with_reducible exact impl_IsValidBulletin.mono _ _ _ _)
   | (with_reducible exact impl_warningAt.mono _ _ _)
   | (with_reducible exact LeO.refl _)
   | (with_reducible exact LeO.none _)
   | (with_reducible refine LeO.ite ?_ ?_)
   | (with_reducible refine LeO.bind ?_ (fun _ => ?_))
   | exact ih0 _ _ _ _ _ _ _
   | exact ih1 _ _ _ _ _ _ _ _ _ _ _
   | exact ih2 _ _ _ _ _ _ _ _ _
   | exact impl_IsValidBulletin.mono _ _ _ _
   | exact impl_warningAt.mono _ _ _
   | exact LeO.none _
   | refine LeO.ite ?_ ?_
   | refine LeO.bind ?_ (fun _ => ?_)
  ·
   intro y0 y1 y2 y3 y4 y5 y6 y7 y8 y9 y10
   unfold impl_BulletinChanges.l0
   repeat' first
   | (with_reducible exact ih0 _ _ _ _ _ _ _)
   | (with_reducible exact ih1 _ _ _ _ _ _ _ _ _ _ _)
   | (with_reducible exact ih2 _ _ _ _ _ _ _ _ _)
   | (with_reducible exact impl_IsValidBulletin.mono _ _ _ _)
   | (with_reducible exact impl_warningAt.mono _ _ _)
   | (with_reducible exact LeO.refl _)
   | (with_reducible exact LeO.none _)
   | (with_reducible refine LeO.ite ?_ ?_)
   | (with_reducible refine LeO.bind ?_ (fun _ => ?_))
   | exact ih0 _ _ _ _ _ _ _
   | exact ih1 _ _ _ _ _ _ _ _ _ _ _
   | exact ih2 _ _ _ _ _ _ _ _ _
   | exact impl_IsValidBulletin.mono _ _ _ _
   | exact impl_warningAt.mono _ _ _
   | exact LeO.none _
   | refine LeO.ite ?_ ?_
   | refine LeO.bind ?_ (fun _ => ?_)
  ·
   intro y0 y1 y2 y3 y4 y5 y6 y7 y8
   unfold impl_BulletinChanges.l1
   repeat' first
   | (with_reducible exact ih0 _ _ _ _ _ _ _)
   | (with_reducible exact ih1 _ _ _ _ _ _ _ _ _ _ _)
   | (with_reducible exact ih2 _ _ _ _ _ _ _ _ _)
   | (with_reducible exact impl_IsValidBulletin.mono _ _ _ _)
   | (with_reducible exact impl_warningAt.mono _ _ _)
   | (with_reducible exact LeO.refl _)
   | (with_reducible exact LeO.none _)
   | (with_reducible refine LeO.ite ?_ ?_)
   | (with_reducible refine LeO.bind ?_ (fun _ => ?_))
   | exact ih0 _ _ _ _ _ _ _
   | exact ih1 _ _ _ _ _ _ _ _ _ _ _
   | exact ih2 _ _ _ _ _ _ _ _ _
   | exact impl_IsValidBulletin.mono _ _ _ _
   | exact impl_warningAt.mono _ _ _
   | exact LeO.none _
   | refine LeO.ite ?_ ?_
   | refine LeO.bind ?_ (fun _ => ?_)
theorem impl_BulletinChanges.mono : ∀ a0 a1 a2 a3 a4 a5 k, LeO (impl_BulletinChanges.f k a0 a1 a2 a3 a4 a5) (impl_BulletinChanges.f (k + 1) a0 a1 a2 a3 a4 a5) := by
 intro a0 a1 a2 a3 a4 a5 k
 obtain ⟨ih0, ih1, ih2⟩ := impl_BulletinChanges.mono_l k
 unfold impl_BulletinChanges.f
 repeat' first
   | (with_reducible exact ih0 _ _ _ _ _ _ _)
   | (with_reducible exact ih1 _ _ _ _ _ _ _ _ _ _ _)
   | (with_reducible exact ih2 _ _ _ _ _ _ _ _ _)
   | (with_reducible exact impl_IsValidBulletin.mono _ _ _ _)
   | (with_reducible exact impl_warningAt.mono _ _ _)
   | (with_reducible exact LeO.refl _)
   | (with_reducible exact LeO.none _)
   | (with_reducible refine LeO.ite ?_ ?_)
   | (with_reducible refine LeO.bind ?_ (fun _ => ?_))
   | exact ih0 _ _ _ _ _ _ _
   | exact ih1 _ _ _ _ _ _ _ _ _ _ _
   | exact ih2 _ _ _ _ _ _ _ _ _
   | exact impl_IsValidBulletin.mono _ _ _ _
   | exact impl_warningAt.mono _ _ _
   | exact LeO.none _
   | refine LeO.ite ?_ ?_
   | refine LeO.bind ?_ (fun _ => ?_)
set_option maxHeartbeats 8000000 in
set_option maxRecDepth 100000 in
theorem impl_BulletinChanges.calls (k : Nat) (a0_0 : Int) (a0_1 : Int) (A0_2 : Option Addr) (c0_2 : Nat) (l0_2 : List (S41)) (a1_0 : Int) (a1_1 : Int) (A1_2 : Option Addr) (c1_2 : Nat) (l1_2 : List (S41)) (r1 : List Int) (r2 : List Int) (r3 : List Int) (r4 : Bool) (w : World) (hr0_2 : Kd.C k41 w A0_2 l0_2.length l0_2) (hc0_2 : l0_2.length ≤ c0_2) (hr1_2 : Kd.C k41 w A1_2 l1_2.length l1_2) (hc1_2 : l1_2.length ≤ c1_2) (h : impl_BulletinChanges.f k a0_0 a0_1 l0_2 a1_0 a1_1 l1_2 = some (r1, r2, r3, r4)) :
  Calls Try.prog 7 #[.agg #[.int .i64 a0_0, .int .i64 a0_1, .slice A0_2 l0_2.length c0_2], .agg #[.int .i64 a1_0, .int .i64 a1_1, .slice A1_2 l1_2.length c1_2]] w fun e w' => ∃ v0_ v1_ v2_ : Value, e = .returned (.tuple #[v0_, v1_, v2_, .bool r4]) ∧ Kd.R (Kd.int .i64) 3 w' w.heap.size (fun k_ => some k_ ≠ (v1_ : Value).ownBlock ∧ some k_ ≠ (v2_ : Value).ownBlock) v0_ r1 ∧ Kd.R (Kd.int .i64) 3 w' w.heap.size (fun k_ => some k_ ≠ (v0_ : Value).ownBlock ∧ some k_ ≠ (v2_ : Value).ownBlock) v1_ r2 ∧ Kd.R (Kd.int .i64) 3 w' w.heap.size (fun k_ => some k_ ≠ (v0_ : Value).ownBlock ∧ some k_ ≠ (v1_ : Value).ownBlock) v2_ r3 ∧ Below w.heap.size w w' := by
 have hu31 := Try.underlying31
 have hu41 := Try.underlying41
 have HR0_2 := Aside0.mk hr0_2
 have HC0_2 := Aside0.mk hc0_2
 clear hr0_2 hc0_2
 have HR1_2 := Aside0.mk hr1_2
 have HC1_2 := Aside0.mk hc1_2
 clear hr1_2 hc1_2
 have HB := Aside0.mk (Below.refl w.heap.size w)
 have H : ((impl_IsValidBulletin.f k a0_0 a0_1 l0_2).bind fun t190 => (if t190 = true then ((impl_IsValidBulletin.f k a1_0 a1_1 l1_2).bind fun t191 => (impl_BulletinChanges.j0 k (!t191) a0_0 a0_1 l0_2 a1_0 a1_1 l1_2)) else (impl_BulletinChanges.j0 k true a0_0 a0_1 l0_2 a1_0 a1_1 l1_2))) = some (r1, r2, r3, r4) := h
 clear h
 have HC3 := Aside0.mk H
 clear H
 go_enter Try.func7, Try.ntmps7
 go_upto_region 1 with (first | ((with_reducible refine gate_dst (N := 2) rfl ?_); refine box_event ?hg (N := 2) ?hd (cs := #[.int .i64 a0_0, .int .i64 a0_1, .slice A0_2 l0_2.length c0_2]) (t := 31) ?hr ?_; (case hd => rfl); (case hg => rfl); (case hr => exact zqS); intro gb188 hg w4 hbox hb; have n0_ := Aside0.mk (below_step zq0 hb); have n1_ := Aside0.mk (hbox); have n2_ := Aside0.mk ((by rw [hg]; exact (below_size zq0) : w.heap.size ≤ gb188)); have n3_ := n2_; clear HB; have HB := n0_; have BK188 := n1_; have GW188 := n2_; have GE188 := n3_; clear n0_ n1_ n2_ n3_; clear hb hbox hg) | ((with_reducible refine gate_dst (N := 3) rfl ?_); refine box_event ?hg (N := 3) ?hd (cs := #[.int .i64 a1_0, .int .i64 a1_1, .slice A1_2 l1_2.length c1_2]) (t := 31) ?hr ?_; (case hd => rfl); (case hg => rfl); (case hr => exact zqS); intro gb189 hg w5 hbox hb; have n0_ := Aside0.mk (blk_below (g := gb188) (o := .cells #[.int .i64 a0_0, .int .i64 a0_1, .slice A0_2 l0_2.length c0_2] 31 (0, 0)) (zqK BK188.out) hb); have n1_ := Aside0.mk (below_step zq61 hb); have n2_ := Aside0.mk (hbox); have n3_ := Aside0.mk ((by rw [hg]; exact (below_size zq61) : w.heap.size ≤ gb189)); have n4_ := n3_; have n5_ := Aside0.mk ((by rw [hg]; exact Nat.ne_of_lt (blk_lt (g := gb188) (o := .cells #[.int .i64 a0_0, .int .i64 a0_1, .slice A0_2 l0_2.length c0_2] 31 (0, 0)) (zqK BK188.out)) : gb188 ≠ gb189)); have n6_ := Aside0.mk ((by rw [hg]; exact Nat.ne_of_gt (blk_lt (g := gb188) (o := .cells #[.int .i64 a0_0, .int .i64 a0_1, .slice A0_2 l0_2.length c0_2] 31 (0, 0)) (zqK BK188.out)) : gb189 ≠ gb188)); clear BK188; clear HB; have BK188 := n0_; have HB := n1_; have BK189 := n2_; have GW189 := n3_; have GE189 := n4_; have NB188_189 := n5_; have NB189_188 := n6_; clear n0_ n1_ n2_ n3_ n4_ n5_ n6_; clear hb hbox hg))
 (try simp only [Act.put, List.setIfInBounds_toArray, List.set_cons_zero, List.set_cons_succ])
 go_cut [23] (fun v23 wc => ∃ (kq : Nat) (x23_2 : Bool), v23 = .bool x23_2 ∧ Aside0 (impl_BulletinChanges.j0 kq x23_2 a0_0 a0_1 l0_2 a1_0 a1_1 l1_2 = some (r1, r2, r3, r4)) ∧ Aside0 (kq ≤ k) ∧ Aside0 (wc.heap[gb188]? = some (.cells #[.int .i64 a0_0, .int .i64 a0_1, (.slice A0_2 l0_2.length c0_2)] 31 (0, 0))) ∧ Aside0 (wc.heap[gb189]? = some (.cells #[.int .i64 a1_0, .int .i64 a1_1, (.slice A1_2 l1_2.length c1_2)] 31 (0, 0))) ∧ Aside0 (Below w.heap.size w wc))
 case first =>
  have H := HC3.out
  clear HC3
  replace H := Option.bind_eq_some_iff.mp H
  obtain ⟨t190, A60, H⟩ := H
  replace H : (if t190 = true then ((impl_IsValidBulletin.f k a1_0 a1_1 l1_2).bind fun t191 => (impl_BulletinChanges.j0 k (!t191) a0_0 a0_1 l0_2 a1_0 a1_1 l1_2)) else (impl_BulletinChanges.j0 k true a0_0 a0_1 l0_2 a1_0 a1_1 l1_2)) = some (r1, r2, r3, r4) := H
  have A6 := Aside0.mk A60
  clear A60
  by_cases c7 : t190 = true
  case neg =>
   replace c7 := Bool.eq_false_iff.mpr c7
   subst c7
   have H1 : (impl_BulletinChanges.j0 k true a0_0 a0_1 l0_2 a1_0 a1_1 l1_2) = some (r1, r2, r3, r4) := by rw [if_neg (show ¬ (false = true) by decide)] at H; exact H
   clear H
   have H := H1
   clear H1
   have H' := Aside0.mk H
   clear H
   have hnb14 := NB188_189.out
   have hnc14 := NB189_188.out
   have hcz15_0 := bz BK188.out 0 (.int .i64 a0_0)
   have hcz15_1 := bz BK188.out 1 (.int .i64 a0_1)
   have hcz15_2 := bz BK188.out 2 (.slice A0_2 l0_2.length c0_2)
   have hfz15_0 := blk_frozen BK188.out 0
   have hfz15_1 := blk_frozen BK188.out 1
   have hfz15_2 := blk_frozen BK188.out 2
   go_wp2_with (first | (go_at_call 17; (with_reducible refine (impl_IsValidBulletin.calls k a0_0 a0_1 _ _ l0_2 false _ ?side1 ?side2 A6.out).mono ?_); (case side1 => exact zqC (Kd.C_below HR0_2.out HB.out)); (case side2 => exact HC0_2.out); rintro e w16 ⟨rfl, hb⟩; have n0_ := Aside0.mk (blk_below (g := gb188) (o := .cells #[.int .i64 a0_0, .int .i64 a0_1, .slice A0_2 l0_2.length c0_2] 31 (0, 0)) (zqK BK188.out) hb); have n1_ := Aside0.mk (blk_below (g := gb189) (o := .cells #[.int .i64 a1_0, .int .i64 a1_1, .slice A1_2 l1_2.length c1_2] 31 (0, 0)) (zqK BK189.out) hb); have n2_ := Aside0.mk (below_step zq5 hb); clear BK188; clear BK189; clear HB; have BK188 := n0_; have BK189 := n1_; have HB := n2_; clear n0_ n1_ n2_; (try clear hb); (try clear hb2); (try clear hk); (try clear hi)))
   go_meet
   case rel => exact ⟨_, (true), (by first | rfl | (simp; done) | (simp [*]; done)), H', ⟨by first | omega | exact Nat.le_refl _⟩, ⟨by (with_reducible repeat (first | refine blk_drewN ?_ _ | refine blk_drew ?_ | refine blk_alloc ?_ _)); exact BK188.out⟩, ⟨by (with_reducible repeat (first | refine blk_drewN ?_ _ | refine blk_drew ?_ | refine blk_alloc ?_ _)); exact BK189.out⟩, ⟨zq5⟩⟩
  subst c7
  have H1 : ((impl_IsValidBulletin.f k a1_0 a1_1 l1_2).bind fun t191 => (impl_BulletinChanges.j0 k (!t191) a0_0 a0_1 l0_2 a1_0 a1_1 l1_2)) = some (r1, r2, r3, r4) := by rw [if_pos rfl] at H; exact H
  clear H
  have H := H1
  clear H1
  replace H := Option.bind_eq_some_iff.mp H
  obtain ⟨t191, A80, H⟩ := H
  replace H : (impl_BulletinChanges.j0 k (!t191) a0_0 a0_1 l0_2 a1_0 a1_1 l1_2) = some (r1, r2, r3, r4) := H
  have A8 := Aside0.mk A80
  clear A80
  have H' := Aside0.mk H
  clear H
  have hnb9 := NB188_189.out
  have hnc9 := NB189_188.out
  have hcz10_0 := bz BK188.out 0 (.int .i64 a0_0)
  have hcz10_1 := bz BK188.out 1 (.int .i64 a0_1)
  have hcz10_2 := bz BK188.out 2 (.slice A0_2 l0_2.length c0_2)
  have hfz10_0 := blk_frozen BK188.out 0
  have hfz10_1 := blk_frozen BK188.out 1
  have hfz10_2 := blk_frozen BK188.out 2
  go_wp2_with (first | (go_at_call 17; (with_reducible refine (impl_IsValidBulletin.calls k a0_0 a0_1 _ _ l0_2 true _ ?side1 ?side2 A6.out).mono ?_); (case side1 => exact zqC (Kd.C_below HR0_2.out HB.out)); (case side2 => exact HC0_2.out); rintro e w11 ⟨rfl, hb⟩; have n0_ := Aside0.mk (blk_below (g := gb188) (o := .cells #[.int .i64 a0_0, .int .i64 a0_1, .slice A0_2 l0_2.length c0_2] 31 (0, 0)) (zqK BK188.out) hb); have n1_ := Aside0.mk (blk_below (g := gb189) (o := .cells #[.int .i64 a1_0, .int .i64 a1_1, .slice A1_2 l1_2.length c1_2] 31 (0, 0)) (zqK BK189.out) hb); have n2_ := Aside0.mk (below_step zq5 hb); clear BK188; clear BK189; clear HB; have BK188 := n0_; have BK189 := n1_; have HB := n2_; clear n0_ n1_ n2_; (try clear hb); (try clear hb2); (try clear hk); (try clear hi); have hcz12_0 := bz BK189.out 0 (.int .i64 a1_0); have hcz12_1 := bz BK189.out 1 (.int .i64 a1_1); have hcz12_2 := bz BK189.out 2 (.slice A1_2 l1_2.length c1_2); have hfz12_0 := blk_frozen BK189.out 0; have hfz12_1 := blk_frozen BK189.out 1; have hfz12_2 := blk_frozen BK189.out 2) | (go_at_call 17; (with_reducible refine (impl_IsValidBulletin.calls k a1_0 a1_1 _ _ l1_2 t191 _ ?side1 ?side2 A8.out).mono ?_); (case side1 => exact zqC (Kd.C_below HR1_2.out HB.out)); (case side2 => exact HC1_2.out); rintro e w13 ⟨rfl, hb⟩; have n0_ := Aside0.mk (blk_below (g := gb188) (o := .cells #[.int .i64 a0_0, .int .i64 a0_1, .slice A0_2 l0_2.length c0_2] 31 (0, 0)) (zqK BK188.out) hb); have n1_ := Aside0.mk (blk_below (g := gb189) (o := .cells #[.int .i64 a1_0, .int .i64 a1_1, .slice A1_2 l1_2.length c1_2] 31 (0, 0)) (zqK BK189.out) hb); have n2_ := Aside0.mk (below_step zq5 hb); clear BK188; clear BK189; clear HB; have BK188 := n0_; have BK189 := n1_; have HB := n2_; clear n0_ n1_ n2_; (try clear hb); (try clear hb2); (try clear hk); (try clear hi)))
  go_meet
  case rel => exact ⟨_, (!t191), (by first | rfl | (simp; done) | (simp [*]; done)), H', ⟨by first | omega | exact Nat.le_refl _⟩, ⟨by (with_reducible repeat (first | refine blk_drewN ?_ _ | refine blk_drew ?_ | refine blk_alloc ?_ _)); exact BK188.out⟩, ⟨by (with_reducible repeat (first | refine blk_drewN ?_ _ | refine blk_drew ?_ | refine blk_alloc ?_ _)); exact BK189.out⟩, ⟨zq5⟩⟩
 clear HC3
 try clear c1
 try clear p2
 try clear c7
 try clear c9
 try clear c14
 try clear hcz10_0
 try clear hcz10_1
 try clear hcz10_2
 try clear hcz12_0
 try clear hcz12_1
 try clear hcz12_2
 try clear hcz15_0
 try clear hcz15_1
 try clear hcz15_2
 try clear hfz10_0
 try clear hfz10_1
 try clear hfz10_2
 try clear hfz12_0
 try clear hfz12_1
 try clear hfz12_2
 try clear hfz15_0
 try clear hfz15_1
 try clear hfz15_2
 obtain ⟨kq, x23_2, rfl, HA, HJ2, BK188, BK189, HB⟩ := hcut
 cases kq with
 | zero => exact absurd HA.out (by simp [impl_BulletinChanges.j0])
 | succ kj2 =>
  have H := HA.out
  clear HA
  simp only [impl_BulletinChanges.j0] at H
  by_cases c17 : x23_2 = true
  case pos =>
   subst c17
   have H1 : (some (([] : List Int), ([] : List Int), ([] : List Int), false)) = some (r1, r2, r3, r4) := by rw [if_pos rfl] at H; exact H
   clear H
   have H := H1
   clear H1
   simp only [Option.some.injEq, Prod.mk.injEq] at H
   obtain ⟨rfl, rfl, rfl, rfl⟩ := H
   go_wp2
   refine bodyPost_ret (results_list (rs := [.tmp 4, .tmp 5, .tmp 6, .tmp 7]) rfl (by simp) (.tmp (.tmp (.tmp (.tmp .nil))))) rfl ?_
   exact ⟨_, _, _, by first | rfl | (simp [errW_none, errW_some] <;> rfl) | (simp [*, errW_none, errW_some] <;> rfl), by first | exact Kd.R_nil _ _ _ _ _ | exact Kd.N_nil _ _ _ _ _ | exact Kd.V_nil _ _ _ _ _ | exact Kd.Q_nil _ _ _ _ _ | exact Kd.S_nil _ _ _ _ _, by first | exact Kd.R_nil _ _ _ _ _ | exact Kd.N_nil _ _ _ _ _ | exact Kd.V_nil _ _ _ _ _ | exact Kd.Q_nil _ _ _ _ _ | exact Kd.S_nil _ _ _ _ _, by first | exact Kd.R_nil _ _ _ _ _ | exact Kd.N_nil _ _ _ _ _ | exact Kd.V_nil _ _ _ _ _ | exact Kd.Q_nil _ _ _ _ _ | exact Kd.S_nil _ _ _ _ _, zq5⟩
  replace c17 := Bool.eq_false_iff.mpr c17
  subst c17
  have H1 : (impl_BulletinChanges.l0 kj2 ([] : List Int) ([] : List Int) l1_2 (l1_2.length : Int) 0 a0_0 a0_1 l0_2 a1_0 a1_1 l1_2) = some (r1, r2, r3, r4) := by rw [if_neg (show ¬ (false = true) by decide)] at H; exact H
  clear H
  have H := H1
  clear H1
  have H' := Aside0.mk H
  clear H
  have hnb18 := NB189_188.out
  have hnc18 := NB188_189.out
  have hcz19_0 := bz BK189.out 0 (.int .i64 a1_0)
  have hcz19_1 := bz BK189.out 1 (.int .i64 a1_1)
  have hcz19_2 := bz BK189.out 2 (.slice A1_2 l1_2.length c1_2)
  have hfz19_0 := blk_frozen BK189.out 0
  have hfz19_1 := blk_frozen BK189.out 1
  have hfz19_2 := blk_frozen BK189.out 2
  go_wp2
  go_loopg [8, 10, 27] kj2 (fun kq v8 v10 v27 w' => ∃ (x8_2 : List Int) (x10_2 : List Int) (x27_2 : Int), v27 = .int .i64 x27_2 ∧ Aside0 (impl_BulletinChanges.l0 kq x8_2 x10_2 l1_2 (l1_2.length : Int) x27_2 a0_0 a0_1 l0_2 a1_0 a1_1 l1_2 = some (r1, r2, r3, r4)) ∧ Aside0 (kq ≤ kj2) ∧ Aside0 (Kd.R (Kd.int .i64) 3 w' w.heap.size (fun k_ => some k_ ≠ (v10 : Value).ownBlock) v8 x8_2) ∧ Aside0 (Kd.R (Kd.int .i64) 3 w' w.heap.size (fun k_ => some k_ ≠ (v8 : Value).ownBlock) v10 x10_2) ∧ Aside0 (w'.heap[gb188]? = some (.cells #[.int .i64 a0_0, .int .i64 a0_1, (.slice A0_2 l0_2.length c0_2)] 31 (0, 0))) ∧ Aside0 (w'.heap[gb189]? = some (.cells #[.int .i64 a1_0, .int .i64 a1_1, (.slice A1_2 l1_2.length c1_2)] 31 (0, 0))) ∧ Aside0 (Below w.heap.size w w'))
  case atStart => exact ⟨(([] : List Int)), (([] : List Int)), (0), (by first | rfl | (simp; done) | (simp [*]; done)), H', ⟨Nat.le_refl _⟩, ⟨by first | exact Kd.R_nil _ _ _ _ _ | exact Kd.N_nil _ _ _ _ _ | exact Kd.V_nil _ _ _ _ _ | exact Kd.Q_nil _ _ _ _ _ | exact Kd.S_nil _ _ _ _ _⟩, ⟨by first | exact Kd.R_nil _ _ _ _ _ | exact Kd.N_nil _ _ _ _ _ | exact Kd.V_nil _ _ _ _ _ | exact Kd.Q_nil _ _ _ _ _ | exact Kd.S_nil _ _ _ _ _⟩, ⟨by (with_reducible repeat (first | refine blk_drewN ?_ _ | refine blk_drew ?_ | refine blk_alloc ?_ _)); exact BK188.out⟩, ⟨by (with_reducible repeat (first | refine blk_drewN ?_ _ | refine blk_drew ?_ | refine blk_alloc ?_ _)); exact BK189.out⟩, ⟨zq5⟩⟩
  clear H'
  try clear c1
  try clear p2
  try clear c7
  try clear c9
  try clear c14
  try clear c17
  try clear c18
  try clear hcz10_0
  try clear hcz10_1
  try clear hcz10_2
  try clear hcz12_0
  try clear hcz12_1
  try clear hcz12_2
  try clear hcz15_0
  try clear hcz15_1
  try clear hcz15_2
  try clear hcz19_0
  try clear hcz19_1
  try clear hcz19_2
  try clear hfz10_0
  try clear hfz10_1
  try clear hfz10_2
  try clear hfz12_0
  try clear hfz12_1
  try clear hfz12_2
  try clear hfz15_0
  try clear hfz15_1
  try clear hfz15_2
  try clear hfz19_0
  try clear hfz19_1
  try clear hfz19_2
  try clear p2
  obtain ⟨x8_2, x10_2, x27_2, rfl, HA, HK2, HO_8, HO_10, BK188, BK189, HB⟩ := hrel
  cases gk with
  | zero => exact absurd HA.out (by simp [impl_BulletinChanges.l0])
  | succ k2 =>
   have H := HA.out
   clear HA
   simp only [impl_BulletinChanges.l0] at H
   by_cases c20 : x27_2 < (l1_2.length : Int)
   case pos =>
    rw [if_pos c20] at H
    have c20b0 : decide (x27_2 < (l1_2.length : Int)) = true := decide_eq_true c20
    clear c20
    by_cases c21 : 0 ≤ x27_2
    case neg =>
     rw [if_neg c21] at H
     exact absurd H (by simp)
    rw [if_pos c21] at H
    have c21b0 : decide (0 ≤ x27_2) = true := decide_eq_true c21
    clear c21
    by_cases c22 : x27_2 < (l1_2.length : Int)
    case neg =>
     rw [if_neg c22] at H
     exact absurd H (by simp)
    rw [if_pos c22] at H
    have c22b0 : decide (x27_2 < (l1_2.length : Int)) = true := decide_eq_true c22
    clear c22
    replace H := Option.bind_eq_some_iff.mp H
    obtain ⟨t194, A230, H⟩ := H
    replace H : (if t194 < 0 then (if x8_2.length < 17592186044416 then (impl_BulletinChanges.l0 k2 (x8_2 ++ [(rd_T41 l1_2 x27_2).f0]) x10_2 l1_2 (l1_2.length : Int) (wrap64 (x27_2 + 1)) a0_0 a0_1 l0_2 a1_0 a1_1 l1_2) else (none)) else (if 0 ≤ t194 then (if t194 < (l0_2.length : Int) then (if (!(((rd_T41 l0_2 t194).f0) == ((rd_T41 l1_2 x27_2).f0)) || (!(((rd_T41 l0_2 t194).f1) == ((rd_T41 l1_2 x27_2).f1)) || (!(((rd_T41 l0_2 t194).f2) == ((rd_T41 l1_2 x27_2).f2)) || (!(((rd_T41 l0_2 t194).f3) == ((rd_T41 l1_2 x27_2).f3)) || (!(((rd_T41 l0_2 t194).f4) == ((rd_T41 l1_2 x27_2).f4)) || (!(((rd_T41 l0_2 t194).f5) == ((rd_T41 l1_2 x27_2).f5)))))))) = true then (if x10_2.length < 17592186044416 then (impl_BulletinChanges.l0 k2 x8_2 (x10_2 ++ [(rd_T41 l1_2 x27_2).f0]) l1_2 (l1_2.length : Int) (wrap64 (x27_2 + 1)) a0_0 a0_1 l0_2 a1_0 a1_1 l1_2) else (none)) else (impl_BulletinChanges.l0 k2 x8_2 x10_2 l1_2 (l1_2.length : Int) (wrap64 (x27_2 + 1)) a0_0 a0_1 l0_2 a1_0 a1_1 l1_2)) else (none)) else (none))) = some (r1, r2, r3, r4) := H
    have A23 := Aside0.mk A230
    clear A230
    by_cases c24 : t194 < 0
    case pos =>
     rw [if_pos c24] at H
     have c24b0 : decide (t194 < 0) = true := decide_eq_true c24
     clear c24
     by_cases c25 : x8_2.length < 17592186044416
     case neg =>
      rw [if_neg c25] at H
      exact absurd H (by simp)
     rw [if_pos c25] at H
     have LMc25 := Aside0.mk c25
     clear c25
     obtain ⟨y195, hy195⟩ : ∃ y_ : List Int, y_ = (x8_2 ++ [(rd_T41 l1_2 x27_2).f0]) := ⟨_, rfl⟩
     replace H : (impl_BulletinChanges.l0 k2 y195 x10_2 l1_2 (l1_2.length : Int) (wrap64 (x27_2 + 1)) a0_0 a0_1 l0_2 a1_0 a1_1 l1_2) = some (r1, r2, r3, r4) := zqH hy195 H
     have Ny195 := Aside0.mk hy195
     clear hy195
     have H' := Aside0.mk H
     clear H
     have p192 : 0 ≤ (x27_2 : Int) := of_decide_eq_true zq4
     have q192 : x27_2 < (l1_2.length : Int) := of_decide_eq_true zq4
     obtain ⟨ad192, e192, hx192_0, hx192_1, hx192_2, hx192_3, hx192_4, hx192_5⟩ := at_T41 HR1_2.out x27_2 p192 q192
     cases e192
     replace hx192_0 := bx HB.out hx192_0
     replace hx192_1 := bx HB.out hx192_1
     replace hx192_2 := bx HB.out hx192_2
     replace hx192_3 := bx HB.out hx192_3
     replace hx192_4 := bx HB.out hx192_4
     replace hx192_5 := bx HB.out hx192_5
     replace p192 := eq_true p192
     replace q192 := eq_true q192
     go_wp2_with (first | ((with_reducible refine gate_dst (N := 12) rfl ?_); refine box_event ?hg (N := 12) ?hd (cs := #[.int .i64 0, .int .i64 0, .int .i64 0, .int .i64 0, .int .i64 0, .int .i64 0]) (t := 41) ?hr ?_; (case hd => rfl); (case hg => rfl); (case hr => exact zqS); intro gb193 hg w26 hbox hb; have n0_ := Aside0.mk (Kd.R_below (zqR HO_8.out) hb); have n1_ := Aside0.mk (Kd.R_below (zqR HO_10.out) hb); have n2_ := Aside0.mk (blk_below (g := gb188) (o := .cells #[.int .i64 a0_0, .int .i64 a0_1, .slice A0_2 l0_2.length c0_2] 31 (0, 0)) (zqK BK188.out) hb); have n3_ := Aside0.mk (blk_below (g := gb189) (o := .cells #[.int .i64 a1_0, .int .i64 a1_1, .slice (some ad192) l1_2.length c1_2] 31 (0, 0)) (zqK BK189.out) hb); have n4_ := Aside0.mk (below_step zq5 hb); have n5_ := Aside0.mk (hbox); have n6_ := Aside0.mk ((by rw [hg]; exact (below_size zq5) : w.heap.size ≤ gb193)); have n7_ := n6_; have n8_ := Aside0.mk ((by rw [hg]; exact Nat.ne_of_lt (blk_lt (g := gb188) (o := .cells #[.int .i64 a0_0, .int .i64 a0_1, .slice A0_2 l0_2.length c0_2] 31 (0, 0)) (zqK BK188.out)) : gb188 ≠ gb193)); have n9_ := Aside0.mk ((by rw [hg]; exact Nat.ne_of_gt (blk_lt (g := gb188) (o := .cells #[.int .i64 a0_0, .int .i64 a0_1, .slice A0_2 l0_2.length c0_2] 31 (0, 0)) (zqK BK188.out)) : gb193 ≠ gb188)); have n10_ := Aside0.mk ((by rw [hg]; exact Nat.ne_of_lt (blk_lt (g := gb189) (o := .cells #[.int .i64 a1_0, .int .i64 a1_1, .slice (some ad192) l1_2.length c1_2] 31 (0, 0)) (zqK BK189.out)) : gb189 ≠ gb193)); have n11_ := Aside0.mk ((by rw [hg]; exact Nat.ne_of_gt (blk_lt (g := gb189) (o := .cells #[.int .i64 a1_0, .int .i64 a1_1, .slice (some ad192) l1_2.length c1_2] 31 (0, 0)) (zqK BK189.out)) : gb193 ≠ gb189)); clear HO_8; clear HO_10; clear BK188; clear BK189; clear HB; have HO_8 := n0_; have HO_10 := n1_; have BK188 := n2_; have BK189 := n3_; have HB := n4_; have BK193 := n5_; have GW193 := n6_; have GE193 := n7_; have NB188_193 := n8_; have NB193_188 := n9_; have NB189_193 := n10_; have NB193_189 := n11_; clear n0_ n1_ n2_ n3_ n4_ n5_ n6_ n7_ n8_ n9_ n10_ n11_; clear hb hbox hg; have hnb27 := NB193_188.out; have hnc27 := NB188_193.out; have hnb28 := NB193_189.out; have hnc28 := NB189_193.out; obtain ⟨hcz29_0, hcz29_1, hcz29_2, hcz29_3, hcz29_4, hcz29_5, hfz29_0, hfz29_1, hfz29_2, hfz29_3, hfz29_4, hfz29_5⟩ := bz6 BK193.out; have hnb30 := NB188_189.out; have hnc30 := NB189_188.out; have hcz31_0 := bz BK188.out 0 (.int .i64 a0_0); have hcz31_1 := bz BK188.out 1 (.int .i64 a0_1); have hcz31_2 := bz BK188.out 2 (.slice A0_2 l0_2.length c0_2); have hfz31_0 := blk_frozen BK188.out 0; have hfz31_1 := blk_frozen BK188.out 1; have hfz31_2 := blk_frozen BK188.out 2) | (go_at_call 18; (with_reducible refine (impl_warningAt.calls k2 _ _ l0_2 ((rd_T41 l1_2 x27_2).f0) t194 _ ?side1 ?side2 A23.out).mono ?_); (case side1 => exact Kd.C_below HR0_2.out zq9); (case side2 => exact HC0_2.out); rintro e w32 ⟨rfl, hb⟩; have n0_ := Aside0.mk (Kd.R_below zq12 hb); have n1_ := Aside0.mk (Kd.R_below zq11 hb); have n2_ := Aside0.mk (blk_below (g := gb188) (o := .cells #[.int .i64 a0_0, .int .i64 a0_1, .slice A0_2 l0_2.length c0_2] 31 (0, 0)) zq7 hb); have n3_ := Aside0.mk (blk_below (g := gb189) (o := .cells #[.int .i64 a1_0, .int .i64 a1_1, .slice (some ad192) l1_2.length c1_2] 31 (0, 0)) zq8 hb); have n4_ := Aside0.mk (blk_below (g := gb193) (o := .cells #[.int .i64 ((rd_T41 l1_2 x27_2).f0), .int .i64 ((rd_T41 l1_2 x27_2).f1), .int .i64 ((rd_T41 l1_2 x27_2).f2), .int .i64 ((rd_T41 l1_2 x27_2).f3), .int .i64 ((rd_T41 l1_2 x27_2).f4), .int .i64 ((rd_T41 l1_2 x27_2).f5)] 41 (0, 0)) zq1 hb); have n5_ := Aside0.mk (below_step zq9 hb); clear HO_8; clear HO_10; clear BK188; clear BK189; clear BK193; clear HB; have HO_8 := n0_; have HO_10 := n1_; have BK188 := n2_; have BK189 := n3_; have BK193 := n4_; have HB := n5_; clear n0_ n1_ n2_ n3_ n4_ n5_; (try clear hb); (try clear hb2); (try clear hk); (try clear hi); obtain ⟨hcz33_0, hcz33_1, hcz33_2, hcz33_3, hcz33_4, hcz33_5, hfz33_0, hfz33_1, hfz33_2, hfz33_3, hfz33_4, hfz33_5⟩ := bz6 BK193.out) | ((with_reducible refine gate_builtin (b := .append) (xs := #[.tmp 39, .tmp 42]) rfl ?_); at_builtin; refine Kd.R_append (Kd.int .i64) (w0 := w) w.heap.size rfl (.tmp 39) (.tmp 42) 26 3 (.int .i64 0) 8 rfl Try.underlying26 info3 rfl (by decide) (by omega) u8 x8_2 ((rd_T41 l1_2 x27_2).f0) [.int .i64 ((rd_T41 l1_2 x27_2).f0)] (fun k_ => some k_ ≠ (u10 : Value).ownBlock) (fun _ => False) rfl rfl ?aP (fun _ hk => hk.elim) ?aF ?aO ?aB ?aS ?aL ?_; (case aP => exact rfl); (case aB => exact zq9); (case aF => exact (fun k_ hk => Kd.fresh' (Kd.R_lt (zqR HO_10.out)) k_ hk)); (case aO => exact (zqR HO_8.out)); (case aS => exact (below_size zq9)); (case aL => have := LMc25.out; omega); intro v196 w34 ho hb hg hat; rw [← Ny195.out] at ho; have n0_ := Aside0.mk (Kd.R_after (ok := (fun _ => True)) (by (with_reducible repeat (first | apply Kd.R_alloc | apply Kd.R_drewN | apply Kd.R_drew)); exact Kd.R_mono HO_10.out (fun _ hk => ⟨trivial, hk⟩)) hg hat); have n1_ := Aside0.mk (blk_grown (g := gb188) (o := .cells #[.int .i64 a0_0, .int .i64 a0_1, .slice A0_2 l0_2.length c0_2] 31 (0, 0)) (zqK BK188.out) hg (Kd.R_ne HO_8.out BK188.out (by decide))); have n2_ := Aside0.mk (blk_grown (g := gb189) (o := .cells #[.int .i64 a1_0, .int .i64 a1_1, .slice (some ad192) l1_2.length c1_2] 31 (0, 0)) (zqK BK189.out) hg (Kd.R_ne HO_8.out BK189.out (by decide))); have n3_ := Aside0.mk (blk_grown (g := gb193) (o := .cells #[.int .i64 ((rd_T41 l1_2 x27_2).f0), .int .i64 ((rd_T41 l1_2 x27_2).f1), .int .i64 ((rd_T41 l1_2 x27_2).f2), .int .i64 ((rd_T41 l1_2 x27_2).f3), .int .i64 ((rd_T41 l1_2 x27_2).f4), .int .i64 ((rd_T41 l1_2 x27_2).f5)] 41 (0, 0)) (zqK BK193.out) hg (Kd.R_ne HO_8.out BK193.out (by decide))); have n4_ := Aside0.mk (hb); have n5_ := Aside0.mk (ho); clear HO_10; clear BK188; clear BK189; clear BK193; clear HB; clear HO_8; have HO_10 := n0_; have BK188 := n1_; have BK189 := n2_; have BK193 := n3_; have HB := n4_; have HO197 := n5_; clear n0_ n1_ n2_ n3_ n4_ n5_; clear ho hb hg hat))
     go_roundg k2
     case measure => have := HJ2.out; have := HK2.out; omega
     case rel => exact ⟨(y195), (x10_2), (wrap64 (x27_2 + 1)), (by first | rfl | (simp; done) | (simp [*]; done)), H', ⟨by have := HJ2.out; have := HK2.out; omega⟩, ⟨zqR HO197.out⟩, ⟨by (with_reducible repeat (first | apply Kd.R_alloc | apply Kd.R_drewN | apply Kd.R_drew)); exact Kd.R_mono HO_10.out (fun _ hk => hk.2)⟩, ⟨by (with_reducible repeat (first | refine blk_drewN ?_ _ | refine blk_drew ?_ | refine blk_alloc ?_ _)); exact BK188.out⟩, ⟨by (with_reducible repeat (first | refine blk_drewN ?_ _ | refine blk_drew ?_ | refine blk_alloc ?_ _)); exact BK189.out⟩, ⟨zq9⟩⟩
    rw [if_neg c24] at H
    have c24b0 : decide (t194 < 0) = false := decide_eq_false c24
    clear c24
    by_cases c35 : 0 ≤ t194
    case neg =>
     rw [if_neg c35] at H
     exact absurd H (by simp)
    rw [if_pos c35] at H
    have c35b0 : decide (0 ≤ t194) = true := decide_eq_true c35
    clear c35
    by_cases c36 : t194 < (l0_2.length : Int)
    case neg =>
     rw [if_neg c36] at H
     exact absurd H (by simp)
    rw [if_pos c36] at H
    have c36b0 : decide (t194 < (l0_2.length : Int)) = true := decide_eq_true c36
    clear c36
    by_cases c37 : (!(((rd_T41 l0_2 t194).f0) == ((rd_T41 l1_2 x27_2).f0)) || (!(((rd_T41 l0_2 t194).f1) == ((rd_T41 l1_2 x27_2).f1)) || (!(((rd_T41 l0_2 t194).f2) == ((rd_T41 l1_2 x27_2).f2)) || (!(((rd_T41 l0_2 t194).f3) == ((rd_T41 l1_2 x27_2).f3)) || (!(((rd_T41 l0_2 t194).f4) == ((rd_T41 l1_2 x27_2).f4)) || (!(((rd_T41 l0_2 t194).f5) == ((rd_T41 l1_2 x27_2).f5)))))))) = true
    case neg =>
     rw [if_neg c37] at H
     have c37b0 : (!(((rd_T41 l0_2 t194).f0) == ((rd_T41 l1_2 x27_2).f0)) || (!(((rd_T41 l0_2 t194).f1) == ((rd_T41 l1_2 x27_2).f1)) || (!(((rd_T41 l0_2 t194).f2) == ((rd_T41 l1_2 x27_2).f2)) || (!(((rd_T41 l0_2 t194).f3) == ((rd_T41 l1_2 x27_2).f3)) || (!(((rd_T41 l0_2 t194).f4) == ((rd_T41 l1_2 x27_2).f4)) || (!(((rd_T41 l0_2 t194).f5) == ((rd_T41 l1_2 x27_2).f5)))))))) = false := by simpa using c37
     clear c37
     have H' := Aside0.mk H
     clear H
     have p192 : 0 ≤ (x27_2 : Int) := of_decide_eq_true zq4
     have q192 : x27_2 < (l1_2.length : Int) := of_decide_eq_true zq4
     obtain ⟨ad192, e192, hx192_0, hx192_1, hx192_2, hx192_3, hx192_4, hx192_5⟩ := at_T41 HR1_2.out x27_2 p192 q192
     cases e192
     replace hx192_0 := bx HB.out hx192_0
     replace hx192_1 := bx HB.out hx192_1
     replace hx192_2 := bx HB.out hx192_2
     replace hx192_3 := bx HB.out hx192_3
     replace hx192_4 := bx HB.out hx192_4
     replace hx192_5 := bx HB.out hx192_5
     replace p192 := eq_true p192
     replace q192 := eq_true q192
     go_wp2_with (first | ((with_reducible refine gate_dst (N := 12) rfl ?_); refine box_event ?hg (N := 12) ?hd (cs := #[.int .i64 0, .int .i64 0, .int .i64 0, .int .i64 0, .int .i64 0, .int .i64 0]) (t := 41) ?hr ?_; (case hd => rfl); (case hg => rfl); (case hr => exact zqS); intro gb193 hg w49 hbox hb; have n0_ := Aside0.mk (Kd.R_below (zqR HO_8.out) hb); have n1_ := Aside0.mk (Kd.R_below (zqR HO_10.out) hb); have n2_ := Aside0.mk (blk_below (g := gb188) (o := .cells #[.int .i64 a0_0, .int .i64 a0_1, .slice A0_2 l0_2.length c0_2] 31 (0, 0)) (zqK BK188.out) hb); have n3_ := Aside0.mk (blk_below (g := gb189) (o := .cells #[.int .i64 a1_0, .int .i64 a1_1, .slice (some ad192) l1_2.length c1_2] 31 (0, 0)) (zqK BK189.out) hb); have n4_ := Aside0.mk (below_step zq5 hb); have n5_ := Aside0.mk (hbox); have n6_ := Aside0.mk ((by rw [hg]; exact (below_size zq5) : w.heap.size ≤ gb193)); have n7_ := n6_; have n8_ := Aside0.mk ((by rw [hg]; exact Nat.ne_of_lt (blk_lt (g := gb188) (o := .cells #[.int .i64 a0_0, .int .i64 a0_1, .slice A0_2 l0_2.length c0_2] 31 (0, 0)) (zqK BK188.out)) : gb188 ≠ gb193)); have n9_ := Aside0.mk ((by rw [hg]; exact Nat.ne_of_gt (blk_lt (g := gb188) (o := .cells #[.int .i64 a0_0, .int .i64 a0_1, .slice A0_2 l0_2.length c0_2] 31 (0, 0)) (zqK BK188.out)) : gb193 ≠ gb188)); have n10_ := Aside0.mk ((by rw [hg]; exact Nat.ne_of_lt (blk_lt (g := gb189) (o := .cells #[.int .i64 a1_0, .int .i64 a1_1, .slice (some ad192) l1_2.length c1_2] 31 (0, 0)) (zqK BK189.out)) : gb189 ≠ gb193)); have n11_ := Aside0.mk ((by rw [hg]; exact Nat.ne_of_gt (blk_lt (g := gb189) (o := .cells #[.int .i64 a1_0, .int .i64 a1_1, .slice (some ad192) l1_2.length c1_2] 31 (0, 0)) (zqK BK189.out)) : gb193 ≠ gb189)); clear HO_8; clear HO_10; clear BK188; clear BK189; clear HB; have HO_8 := n0_; have HO_10 := n1_; have BK188 := n2_; have BK189 := n3_; have HB := n4_; have BK193 := n5_; have GW193 := n6_; have GE193 := n7_; have NB188_193 := n8_; have NB193_188 := n9_; have NB189_193 := n10_; have NB193_189 := n11_; clear n0_ n1_ n2_ n3_ n4_ n5_ n6_ n7_ n8_ n9_ n10_ n11_; clear hb hbox hg; have hnb50 := NB193_188.out; have hnc50 := NB188_193.out; have hnb51 := NB193_189.out; have hnc51 := NB189_193.out; obtain ⟨hcz52_0, hcz52_1, hcz52_2, hcz52_3, hcz52_4, hcz52_5, hfz52_0, hfz52_1, hfz52_2, hfz52_3, hfz52_4, hfz52_5⟩ := bz6 BK193.out; have hnb53 := NB188_189.out; have hnc53 := NB189_188.out; have hcz54_0 := bz BK188.out 0 (.int .i64 a0_0); have hcz54_1 := bz BK188.out 1 (.int .i64 a0_1); have hcz54_2 := bz BK188.out 2 (.slice A0_2 l0_2.length c0_2); have hfz54_0 := blk_frozen BK188.out 0; have hfz54_1 := blk_frozen BK188.out 1; have hfz54_2 := blk_frozen BK188.out 2) | (go_at_call 18; (with_reducible refine (impl_warningAt.calls k2 _ _ l0_2 ((rd_T41 l1_2 x27_2).f0) t194 _ ?side1 ?side2 A23.out).mono ?_); (case side1 => exact Kd.C_below HR0_2.out zq9); (case side2 => exact HC0_2.out); rintro e w55 ⟨rfl, hb⟩; have n0_ := Aside0.mk (Kd.R_below zq12 hb); have n1_ := Aside0.mk (Kd.R_below zq11 hb); have n2_ := Aside0.mk (blk_below (g := gb188) (o := .cells #[.int .i64 a0_0, .int .i64 a0_1, .slice A0_2 l0_2.length c0_2] 31 (0, 0)) zq7 hb); have n3_ := Aside0.mk (blk_below (g := gb189) (o := .cells #[.int .i64 a1_0, .int .i64 a1_1, .slice (some ad192) l1_2.length c1_2] 31 (0, 0)) zq8 hb); have n4_ := Aside0.mk (blk_below (g := gb193) (o := .cells #[.int .i64 ((rd_T41 l1_2 x27_2).f0), .int .i64 ((rd_T41 l1_2 x27_2).f1), .int .i64 ((rd_T41 l1_2 x27_2).f2), .int .i64 ((rd_T41 l1_2 x27_2).f3), .int .i64 ((rd_T41 l1_2 x27_2).f4), .int .i64 ((rd_T41 l1_2 x27_2).f5)] 41 (0, 0)) zq1 hb); have n5_ := Aside0.mk (below_step zq9 hb); clear HO_8; clear HO_10; clear BK188; clear BK189; clear BK193; clear HB; have HO_8 := n0_; have HO_10 := n1_; have BK188 := n2_; have BK189 := n3_; have BK193 := n4_; have HB := n5_; clear n0_ n1_ n2_ n3_ n4_ n5_; (try clear hb); (try clear hb2); (try clear hk); (try clear hi); have hcz56_0 := bz BK188.out 0 (.int .i64 a0_0); have hcz56_1 := bz BK188.out 1 (.int .i64 a0_1); have hcz56_2 := bz BK188.out 2 (.slice A0_2 l0_2.length c0_2); have hfz56_0 := blk_frozen BK188.out 0; have hfz56_1 := blk_frozen BK188.out 1; have hfz56_2 := blk_frozen BK188.out 2; have p198 : 0 ≤ (t194 : Int) := of_decide_eq_true zq4; have q198 : t194 < (l0_2.length : Int) := of_decide_eq_true zq4; obtain ⟨ad198, e198, hx198_0, hx198_1, hx198_2, hx198_3, hx198_4, hx198_5⟩ := at_T41 HR0_2.out t194 p198 q198; cases e198; replace hx198_0 := bx HB.out hx198_0; replace hx198_1 := bx HB.out hx198_1; replace hx198_2 := bx HB.out hx198_2; replace hx198_3 := bx HB.out hx198_3; replace hx198_4 := bx HB.out hx198_4; replace hx198_5 := bx HB.out hx198_5; replace p198 := eq_true p198; replace q198 := eq_true q198; obtain ⟨hcz57_0, hcz57_1, hcz57_2, hcz57_3, hcz57_4, hcz57_5, hfz57_0, hfz57_1, hfz57_2, hfz57_3, hfz57_4, hfz57_5⟩ := bz6 BK193.out))
     repeat (go_quiet (first | ((with_reducible refine gate_dst (N := 12) rfl ?_); refine box_event ?hg (N := 12) ?hd (cs := #[.int .i64 0, .int .i64 0, .int .i64 0, .int .i64 0, .int .i64 0, .int .i64 0]) (t := 41) ?hr ?_; (case hd => rfl); (case hg => rfl); (case hr => exact zqS); intro gb193 hg w49 hbox hb; have n0_ := Aside0.mk (Kd.R_below (zqR HO_8.out) hb); have n1_ := Aside0.mk (Kd.R_below (zqR HO_10.out) hb); have n2_ := Aside0.mk (blk_below (g := gb188) (o := .cells #[.int .i64 a0_0, .int .i64 a0_1, .slice A0_2 l0_2.length c0_2] 31 (0, 0)) (zqK BK188.out) hb); have n3_ := Aside0.mk (blk_below (g := gb189) (o := .cells #[.int .i64 a1_0, .int .i64 a1_1, .slice (some ad192) l1_2.length c1_2] 31 (0, 0)) (zqK BK189.out) hb); have n4_ := Aside0.mk (below_step zq5 hb); have n5_ := Aside0.mk (hbox); have n6_ := Aside0.mk ((by rw [hg]; exact (below_size zq5) : w.heap.size ≤ gb193)); have n7_ := n6_; have n8_ := Aside0.mk ((by rw [hg]; exact Nat.ne_of_lt (blk_lt (g := gb188) (o := .cells #[.int .i64 a0_0, .int .i64 a0_1, .slice A0_2 l0_2.length c0_2] 31 (0, 0)) (zqK BK188.out)) : gb188 ≠ gb193)); have n9_ := Aside0.mk ((by rw [hg]; exact Nat.ne_of_gt (blk_lt (g := gb188) (o := .cells #[.int .i64 a0_0, .int .i64 a0_1, .slice A0_2 l0_2.length c0_2] 31 (0, 0)) (zqK BK188.out)) : gb193 ≠ gb188)); have n10_ := Aside0.mk ((by rw [hg]; exact Nat.ne_of_lt (blk_lt (g := gb189) (o := .cells #[.int .i64 a1_0, .int .i64 a1_1, .slice (some ad192) l1_2.length c1_2] 31 (0, 0)) (zqK BK189.out)) : gb189 ≠ gb193)); have n11_ := Aside0.mk ((by rw [hg]; exact Nat.ne_of_gt (blk_lt (g := gb189) (o := .cells #[.int .i64 a1_0, .int .i64 a1_1, .slice (some ad192) l1_2.length c1_2] 31 (0, 0)) (zqK BK189.out)) : gb193 ≠ gb189)); clear HO_8; clear HO_10; clear BK188; clear BK189; clear HB; have HO_8 := n0_; have HO_10 := n1_; have BK188 := n2_; have BK189 := n3_; have HB := n4_; have BK193 := n5_; have GW193 := n6_; have GE193 := n7_; have NB188_193 := n8_; have NB193_188 := n9_; have NB189_193 := n10_; have NB193_189 := n11_; clear n0_ n1_ n2_ n3_ n4_ n5_ n6_ n7_ n8_ n9_ n10_ n11_; clear hb hbox hg; have hnb50 := NB193_188.out; have hnc50 := NB188_193.out; have hnb51 := NB193_189.out; have hnc51 := NB189_193.out; obtain ⟨hcz52_0, hcz52_1, hcz52_2, hcz52_3, hcz52_4, hcz52_5, hfz52_0, hfz52_1, hfz52_2, hfz52_3, hfz52_4, hfz52_5⟩ := bz6 BK193.out; have hnb53 := NB188_189.out; have hnc53 := NB189_188.out; have hcz54_0 := bz BK188.out 0 (.int .i64 a0_0); have hcz54_1 := bz BK188.out 1 (.int .i64 a0_1); have hcz54_2 := bz BK188.out 2 (.slice A0_2 l0_2.length c0_2); have hfz54_0 := blk_frozen BK188.out 0; have hfz54_1 := blk_frozen BK188.out 1; have hfz54_2 := blk_frozen BK188.out 2) | (go_at_call 18; (with_reducible refine (impl_warningAt.calls k2 _ _ l0_2 ((rd_T41 l1_2 x27_2).f0) t194 _ ?side1 ?side2 A23.out).mono ?_); (case side1 => exact Kd.C_below HR0_2.out zq9); (case side2 => exact HC0_2.out); rintro e w55 ⟨rfl, hb⟩; have n0_ := Aside0.mk (Kd.R_below zq12 hb); have n1_ := Aside0.mk (Kd.R_below zq11 hb); have n2_ := Aside0.mk (blk_below (g := gb188) (o := .cells #[.int .i64 a0_0, .int .i64 a0_1, .slice A0_2 l0_2.length c0_2] 31 (0, 0)) zq7 hb); have n3_ := Aside0.mk (blk_below (g := gb189) (o := .cells #[.int .i64 a1_0, .int .i64 a1_1, .slice (some ad192) l1_2.length c1_2] 31 (0, 0)) zq8 hb); have n4_ := Aside0.mk (blk_below (g := gb193) (o := .cells #[.int .i64 ((rd_T41 l1_2 x27_2).f0), .int .i64 ((rd_T41 l1_2 x27_2).f1), .int .i64 ((rd_T41 l1_2 x27_2).f2), .int .i64 ((rd_T41 l1_2 x27_2).f3), .int .i64 ((rd_T41 l1_2 x27_2).f4), .int .i64 ((rd_T41 l1_2 x27_2).f5)] 41 (0, 0)) zq1 hb); have n5_ := Aside0.mk (below_step zq9 hb); clear HO_8; clear HO_10; clear BK188; clear BK189; clear BK193; clear HB; have HO_8 := n0_; have HO_10 := n1_; have BK188 := n2_; have BK189 := n3_; have BK193 := n4_; have HB := n5_; clear n0_ n1_ n2_ n3_ n4_ n5_; (try clear hb); (try clear hb2); (try clear hk); (try clear hi); have hcz56_0 := bz BK188.out 0 (.int .i64 a0_0); have hcz56_1 := bz BK188.out 1 (.int .i64 a0_1); have hcz56_2 := bz BK188.out 2 (.slice A0_2 l0_2.length c0_2); have hfz56_0 := blk_frozen BK188.out 0; have hfz56_1 := blk_frozen BK188.out 1; have hfz56_2 := blk_frozen BK188.out 2; have p198 : 0 ≤ (t194 : Int) := of_decide_eq_true zq4; have q198 : t194 < (l0_2.length : Int) := of_decide_eq_true zq4; obtain ⟨ad198, e198, hx198_0, hx198_1, hx198_2, hx198_3, hx198_4, hx198_5⟩ := at_T41 HR0_2.out t194 p198 q198; cases e198; replace hx198_0 := bx HB.out hx198_0; replace hx198_1 := bx HB.out hx198_1; replace hx198_2 := bx HB.out hx198_2; replace hx198_3 := bx HB.out hx198_3; replace hx198_4 := bx HB.out hx198_4; replace hx198_5 := bx HB.out hx198_5; replace p198 := eq_true p198; replace q198 := eq_true q198; obtain ⟨hcz57_0, hcz57_1, hcz57_2, hcz57_3, hcz57_4, hcz57_5, hfz57_0, hfz57_1, hfz57_2, hfz57_3, hfz57_4, hfz57_5⟩ := bz6 BK193.out)); try go_wp2_with (first | ((with_reducible refine gate_dst (N := 12) rfl ?_); refine box_event ?hg (N := 12) ?hd (cs := #[.int .i64 0, .int .i64 0, .int .i64 0, .int .i64 0, .int .i64 0, .int .i64 0]) (t := 41) ?hr ?_; (case hd => rfl); (case hg => rfl); (case hr => exact zqS); intro gb193 hg w49 hbox hb; have n0_ := Aside0.mk (Kd.R_below (zqR HO_8.out) hb); have n1_ := Aside0.mk (Kd.R_below (zqR HO_10.out) hb); have n2_ := Aside0.mk (blk_below (g := gb188) (o := .cells #[.int .i64 a0_0, .int .i64 a0_1, .slice A0_2 l0_2.length c0_2] 31 (0, 0)) (zqK BK188.out) hb); have n3_ := Aside0.mk (blk_below (g := gb189) (o := .cells #[.int .i64 a1_0, .int .i64 a1_1, .slice (some ad192) l1_2.length c1_2] 31 (0, 0)) (zqK BK189.out) hb); have n4_ := Aside0.mk (below_step zq5 hb); have n5_ := Aside0.mk (hbox); have n6_ := Aside0.mk ((by rw [hg]; exact (below_size zq5) : w.heap.size ≤ gb193)); have n7_ := n6_; have n8_ := Aside0.mk ((by rw [hg]; exact Nat.ne_of_lt (blk_lt (g := gb188) (o := .cells #[.int .i64 a0_0, .int .i64 a0_1, .slice A0_2 l0_2.length c0_2] 31 (0, 0)) (zqK BK188.out)) : gb188 ≠ gb193)); have n9_ := Aside0.mk ((by rw [hg]; exact Nat.ne_of_gt (blk_lt (g := gb188) (o := .cells #[.int .i64 a0_0, .int .i64 a0_1, .slice A0_2 l0_2.length c0_2] 31 (0, 0)) (zqK BK188.out)) : gb193 ≠ gb188)); have n10_ := Aside0.mk ((by rw [hg]; exact Nat.ne_of_lt (blk_lt (g := gb189) (o := .cells #[.int .i64 a1_0, .int .i64 a1_1, .slice (some ad192) l1_2.length c1_2] 31 (0, 0)) (zqK BK189.out)) : gb189 ≠ gb193)); have n11_ := Aside0.mk ((by rw [hg]; exact Nat.ne_of_gt (blk_lt (g := gb189) (o := .cells #[.int .i64 a1_0, .int .i64 a1_1, .slice (some ad192) l1_2.length c1_2] 31 (0, 0)) (zqK BK189.out)) : gb193 ≠ gb189)); clear HO_8; clear HO_10; clear BK188; clear BK189; clear HB; have HO_8 := n0_; have HO_10 := n1_; have BK188 := n2_; have BK189 := n3_; have HB := n4_; have BK193 := n5_; have GW193 := n6_; have GE193 := n7_; have NB188_193 := n8_; have NB193_188 := n9_; have NB189_193 := n10_; have NB193_189 := n11_; clear n0_ n1_ n2_ n3_ n4_ n5_ n6_ n7_ n8_ n9_ n10_ n11_; clear hb hbox hg; have hnb50 := NB193_188.out; have hnc50 := NB188_193.out; have hnb51 := NB193_189.out; have hnc51 := NB189_193.out; obtain ⟨hcz52_0, hcz52_1, hcz52_2, hcz52_3, hcz52_4, hcz52_5, hfz52_0, hfz52_1, hfz52_2, hfz52_3, hfz52_4, hfz52_5⟩ := bz6 BK193.out; have hnb53 := NB188_189.out; have hnc53 := NB189_188.out; have hcz54_0 := bz BK188.out 0 (.int .i64 a0_0); have hcz54_1 := bz BK188.out 1 (.int .i64 a0_1); have hcz54_2 := bz BK188.out 2 (.slice A0_2 l0_2.length c0_2); have hfz54_0 := blk_frozen BK188.out 0; have hfz54_1 := blk_frozen BK188.out 1; have hfz54_2 := blk_frozen BK188.out 2) | (go_at_call 18; (with_reducible refine (impl_warningAt.calls k2 _ _ l0_2 ((rd_T41 l1_2 x27_2).f0) t194 _ ?side1 ?side2 A23.out).mono ?_); (case side1 => exact Kd.C_below HR0_2.out zq9); (case side2 => exact HC0_2.out); rintro e w55 ⟨rfl, hb⟩; have n0_ := Aside0.mk (Kd.R_below zq12 hb); have n1_ := Aside0.mk (Kd.R_below zq11 hb); have n2_ := Aside0.mk (blk_below (g := gb188) (o := .cells #[.int .i64 a0_0, .int .i64 a0_1, .slice A0_2 l0_2.length c0_2] 31 (0, 0)) zq7 hb); have n3_ := Aside0.mk (blk_below (g := gb189) (o := .cells #[.int .i64 a1_0, .int .i64 a1_1, .slice (some ad192) l1_2.length c1_2] 31 (0, 0)) zq8 hb); have n4_ := Aside0.mk (blk_below (g := gb193) (o := .cells #[.int .i64 ((rd_T41 l1_2 x27_2).f0), .int .i64 ((rd_T41 l1_2 x27_2).f1), .int .i64 ((rd_T41 l1_2 x27_2).f2), .int .i64 ((rd_T41 l1_2 x27_2).f3), .int .i64 ((rd_T41 l1_2 x27_2).f4), .int .i64 ((rd_T41 l1_2 x27_2).f5)] 41 (0, 0)) zq1 hb); have n5_ := Aside0.mk (below_step zq9 hb); clear HO_8; clear HO_10; clear BK188; clear BK189; clear BK193; clear HB; have HO_8 := n0_; have HO_10 := n1_; have BK188 := n2_; have BK189 := n3_; have BK193 := n4_; have HB := n5_; clear n0_ n1_ n2_ n3_ n4_ n5_; (try clear hb); (try clear hb2); (try clear hk); (try clear hi); have hcz56_0 := bz BK188.out 0 (.int .i64 a0_0); have hcz56_1 := bz BK188.out 1 (.int .i64 a0_1); have hcz56_2 := bz BK188.out 2 (.slice A0_2 l0_2.length c0_2); have hfz56_0 := blk_frozen BK188.out 0; have hfz56_1 := blk_frozen BK188.out 1; have hfz56_2 := blk_frozen BK188.out 2; have p198 : 0 ≤ (t194 : Int) := of_decide_eq_true zq4; have q198 : t194 < (l0_2.length : Int) := of_decide_eq_true zq4; obtain ⟨ad198, e198, hx198_0, hx198_1, hx198_2, hx198_3, hx198_4, hx198_5⟩ := at_T41 HR0_2.out t194 p198 q198; cases e198; replace hx198_0 := bx HB.out hx198_0; replace hx198_1 := bx HB.out hx198_1; replace hx198_2 := bx HB.out hx198_2; replace hx198_3 := bx HB.out hx198_3; replace hx198_4 := bx HB.out hx198_4; replace hx198_5 := bx HB.out hx198_5; replace p198 := eq_true p198; replace q198 := eq_true q198; obtain ⟨hcz57_0, hcz57_1, hcz57_2, hcz57_3, hcz57_4, hcz57_5, hfz57_0, hfz57_1, hfz57_2, hfz57_3, hfz57_4, hfz57_5⟩ := bz6 BK193.out)))
     go_roundg k2
     case measure => have := HJ2.out; have := HK2.out; omega
     case rel => exact ⟨(x8_2), (x10_2), (wrap64 (x27_2 + 1)), (by first | rfl | (simp; done) | (simp [*]; done)), H', ⟨by have := HJ2.out; have := HK2.out; omega⟩, ⟨zqR HO_8.out⟩, ⟨zqR HO_10.out⟩, ⟨by (with_reducible repeat (first | refine blk_drewN ?_ _ | refine blk_drew ?_ | refine blk_alloc ?_ _)); exact BK188.out⟩, ⟨by (with_reducible repeat (first | refine blk_drewN ?_ _ | refine blk_drew ?_ | refine blk_alloc ?_ _)); exact BK189.out⟩, ⟨zq9⟩⟩
    rw [if_pos c37] at H
    have c37b0 : (!(((rd_T41 l0_2 t194).f0) == ((rd_T41 l1_2 x27_2).f0)) || (!(((rd_T41 l0_2 t194).f1) == ((rd_T41 l1_2 x27_2).f1)) || (!(((rd_T41 l0_2 t194).f2) == ((rd_T41 l1_2 x27_2).f2)) || (!(((rd_T41 l0_2 t194).f3) == ((rd_T41 l1_2 x27_2).f3)) || (!(((rd_T41 l0_2 t194).f4) == ((rd_T41 l1_2 x27_2).f4)) || (!(((rd_T41 l0_2 t194).f5) == ((rd_T41 l1_2 x27_2).f5)))))))) = true := c37
    clear c37
    by_cases c38 : x10_2.length < 17592186044416
    case neg =>
     rw [if_neg c38] at H
     exact absurd H (by simp)
    rw [if_pos c38] at H
    have LMc38 := Aside0.mk c38
    clear c38
    obtain ⟨y199, hy199⟩ : ∃ y_ : List Int, y_ = (x10_2 ++ [(rd_T41 l1_2 x27_2).f0]) := ⟨_, rfl⟩
    replace H : (impl_BulletinChanges.l0 k2 x8_2 y199 l1_2 (l1_2.length : Int) (wrap64 (x27_2 + 1)) a0_0 a0_1 l0_2 a1_0 a1_1 l1_2) = some (r1, r2, r3, r4) := zqH hy199 H
    have Ny199 := Aside0.mk hy199
    clear hy199
    have H' := Aside0.mk H
    clear H
    have p192 : 0 ≤ (x27_2 : Int) := of_decide_eq_true zq4
    have q192 : x27_2 < (l1_2.length : Int) := of_decide_eq_true zq4
    obtain ⟨ad192, e192, hx192_0, hx192_1, hx192_2, hx192_3, hx192_4, hx192_5⟩ := at_T41 HR1_2.out x27_2 p192 q192
    cases e192
    replace hx192_0 := bx HB.out hx192_0
    replace hx192_1 := bx HB.out hx192_1
    replace hx192_2 := bx HB.out hx192_2
    replace hx192_3 := bx HB.out hx192_3
    replace hx192_4 := bx HB.out hx192_4
    replace hx192_5 := bx HB.out hx192_5
    replace p192 := eq_true p192
    replace q192 := eq_true q192
    go_wp2_with (first | ((with_reducible refine gate_dst (N := 12) rfl ?_); refine box_event ?hg (N := 12) ?hd (cs := #[.int .i64 0, .int .i64 0, .int .i64 0, .int .i64 0, .int .i64 0, .int .i64 0]) (t := 41) ?hr ?_; (case hd => rfl); (case hg => rfl); (case hr => exact zqS); intro gb193 hg w39 hbox hb; have n0_ := Aside0.mk (Kd.R_below (zqR HO_8.out) hb); have n1_ := Aside0.mk (Kd.R_below (zqR HO_10.out) hb); have n2_ := Aside0.mk (blk_below (g := gb188) (o := .cells #[.int .i64 a0_0, .int .i64 a0_1, .slice A0_2 l0_2.length c0_2] 31 (0, 0)) (zqK BK188.out) hb); have n3_ := Aside0.mk (blk_below (g := gb189) (o := .cells #[.int .i64 a1_0, .int .i64 a1_1, .slice (some ad192) l1_2.length c1_2] 31 (0, 0)) (zqK BK189.out) hb); have n4_ := Aside0.mk (below_step zq5 hb); have n5_ := Aside0.mk (hbox); have n6_ := Aside0.mk ((by rw [hg]; exact (below_size zq5) : w.heap.size ≤ gb193)); have n7_ := n6_; have n8_ := Aside0.mk ((by rw [hg]; exact Nat.ne_of_lt (blk_lt (g := gb188) (o := .cells #[.int .i64 a0_0, .int .i64 a0_1, .slice A0_2 l0_2.length c0_2] 31 (0, 0)) (zqK BK188.out)) : gb188 ≠ gb193)); have n9_ := Aside0.mk ((by rw [hg]; exact Nat.ne_of_gt (blk_lt (g := gb188) (o := .cells #[.int .i64 a0_0, .int .i64 a0_1, .slice A0_2 l0_2.length c0_2] 31 (0, 0)) (zqK BK188.out)) : gb193 ≠ gb188)); have n10_ := Aside0.mk ((by rw [hg]; exact Nat.ne_of_lt (blk_lt (g := gb189) (o := .cells #[.int .i64 a1_0, .int .i64 a1_1, .slice (some ad192) l1_2.length c1_2] 31 (0, 0)) (zqK BK189.out)) : gb189 ≠ gb193)); have n11_ := Aside0.mk ((by rw [hg]; exact Nat.ne_of_gt (blk_lt (g := gb189) (o := .cells #[.int .i64 a1_0, .int .i64 a1_1, .slice (some ad192) l1_2.length c1_2] 31 (0, 0)) (zqK BK189.out)) : gb193 ≠ gb189)); clear HO_8; clear HO_10; clear BK188; clear BK189; clear HB; have HO_8 := n0_; have HO_10 := n1_; have BK188 := n2_; have BK189 := n3_; have HB := n4_; have BK193 := n5_; have GW193 := n6_; have GE193 := n7_; have NB188_193 := n8_; have NB193_188 := n9_; have NB189_193 := n10_; have NB193_189 := n11_; clear n0_ n1_ n2_ n3_ n4_ n5_ n6_ n7_ n8_ n9_ n10_ n11_; clear hb hbox hg; have hnb40 := NB193_188.out; have hnc40 := NB188_193.out; have hnb41 := NB193_189.out; have hnc41 := NB189_193.out; obtain ⟨hcz42_0, hcz42_1, hcz42_2, hcz42_3, hcz42_4, hcz42_5, hfz42_0, hfz42_1, hfz42_2, hfz42_3, hfz42_4, hfz42_5⟩ := bz6 BK193.out; have hnb43 := NB188_189.out; have hnc43 := NB189_188.out; have hcz44_0 := bz BK188.out 0 (.int .i64 a0_0); have hcz44_1 := bz BK188.out 1 (.int .i64 a0_1); have hcz44_2 := bz BK188.out 2 (.slice A0_2 l0_2.length c0_2); have hfz44_0 := blk_frozen BK188.out 0; have hfz44_1 := blk_frozen BK188.out 1; have hfz44_2 := blk_frozen BK188.out 2) | (go_at_call 18; (with_reducible refine (impl_warningAt.calls k2 _ _ l0_2 ((rd_T41 l1_2 x27_2).f0) t194 _ ?side1 ?side2 A23.out).mono ?_); (case side1 => exact Kd.C_below HR0_2.out zq9); (case side2 => exact HC0_2.out); rintro e w45 ⟨rfl, hb⟩; have n0_ := Aside0.mk (Kd.R_below zq12 hb); have n1_ := Aside0.mk (Kd.R_below zq11 hb); have n2_ := Aside0.mk (blk_below (g := gb188) (o := .cells #[.int .i64 a0_0, .int .i64 a0_1, .slice A0_2 l0_2.length c0_2] 31 (0, 0)) zq7 hb); have n3_ := Aside0.mk (blk_below (g := gb189) (o := .cells #[.int .i64 a1_0, .int .i64 a1_1, .slice (some ad192) l1_2.length c1_2] 31 (0, 0)) zq8 hb); have n4_ := Aside0.mk (blk_below (g := gb193) (o := .cells #[.int .i64 ((rd_T41 l1_2 x27_2).f0), .int .i64 ((rd_T41 l1_2 x27_2).f1), .int .i64 ((rd_T41 l1_2 x27_2).f2), .int .i64 ((rd_T41 l1_2 x27_2).f3), .int .i64 ((rd_T41 l1_2 x27_2).f4), .int .i64 ((rd_T41 l1_2 x27_2).f5)] 41 (0, 0)) zq1 hb); have n5_ := Aside0.mk (below_step zq9 hb); clear HO_8; clear HO_10; clear BK188; clear BK189; clear BK193; clear HB; have HO_8 := n0_; have HO_10 := n1_; have BK188 := n2_; have BK189 := n3_; have BK193 := n4_; have HB := n5_; clear n0_ n1_ n2_ n3_ n4_ n5_; (try clear hb); (try clear hb2); (try clear hk); (try clear hi); have hcz46_0 := bz BK188.out 0 (.int .i64 a0_0); have hcz46_1 := bz BK188.out 1 (.int .i64 a0_1); have hcz46_2 := bz BK188.out 2 (.slice A0_2 l0_2.length c0_2); have hfz46_0 := blk_frozen BK188.out 0; have hfz46_1 := blk_frozen BK188.out 1; have hfz46_2 := blk_frozen BK188.out 2; have p198 : 0 ≤ (t194 : Int) := of_decide_eq_true zq4; have q198 : t194 < (l0_2.length : Int) := of_decide_eq_true zq4; obtain ⟨ad198, e198, hx198_0, hx198_1, hx198_2, hx198_3, hx198_4, hx198_5⟩ := at_T41 HR0_2.out t194 p198 q198; cases e198; replace hx198_0 := bx HB.out hx198_0; replace hx198_1 := bx HB.out hx198_1; replace hx198_2 := bx HB.out hx198_2; replace hx198_3 := bx HB.out hx198_3; replace hx198_4 := bx HB.out hx198_4; replace hx198_5 := bx HB.out hx198_5; replace p198 := eq_true p198; replace q198 := eq_true q198; obtain ⟨hcz47_0, hcz47_1, hcz47_2, hcz47_3, hcz47_4, hcz47_5, hfz47_0, hfz47_1, hfz47_2, hfz47_3, hfz47_4, hfz47_5⟩ := bz6 BK193.out) | ((with_reducible refine gate_builtin (b := .append) (xs := #[.tmp 52, .tmp 55]) rfl ?_); at_builtin; refine Kd.R_append (Kd.int .i64) (w0 := w) w.heap.size rfl (.tmp 52) (.tmp 55) 26 3 (.int .i64 0) 8 rfl Try.underlying26 info3 rfl (by decide) (by omega) u10 x10_2 ((rd_T41 l1_2 x27_2).f0) [.int .i64 ((rd_T41 l1_2 x27_2).f0)] (fun k_ => some k_ ≠ (u8 : Value).ownBlock) (fun _ => False) rfl rfl ?aP (fun _ hk => hk.elim) ?aF ?aO ?aB ?aS ?aL ?_; (case aP => exact rfl); (case aB => exact zq9); (case aF => exact (fun k_ hk => Kd.fresh' (Kd.R_lt (zqR HO_8.out)) k_ hk)); (case aO => exact (zqR HO_10.out)); (case aS => exact (below_size zq9)); (case aL => have := LMc38.out; omega); intro v200 w48 ho hb hg hat; rw [← Ny199.out] at ho; have n0_ := Aside0.mk (Kd.R_after (ok := (fun _ => True)) (by (with_reducible repeat (first | apply Kd.R_alloc | apply Kd.R_drewN | apply Kd.R_drew)); exact Kd.R_mono HO_8.out (fun _ hk => ⟨trivial, hk⟩)) hg hat); have n1_ := Aside0.mk (blk_grown (g := gb188) (o := .cells #[.int .i64 a0_0, .int .i64 a0_1, .slice (some ad198) l0_2.length c0_2] 31 (0, 0)) (zqK BK188.out) hg (Kd.R_ne HO_10.out BK188.out (by decide))); have n2_ := Aside0.mk (blk_grown (g := gb189) (o := .cells #[.int .i64 a1_0, .int .i64 a1_1, .slice (some ad192) l1_2.length c1_2] 31 (0, 0)) (zqK BK189.out) hg (Kd.R_ne HO_10.out BK189.out (by decide))); have n3_ := Aside0.mk (blk_grown (g := gb193) (o := .cells #[.int .i64 ((rd_T41 l1_2 x27_2).f0), .int .i64 ((rd_T41 l1_2 x27_2).f1), .int .i64 ((rd_T41 l1_2 x27_2).f2), .int .i64 ((rd_T41 l1_2 x27_2).f3), .int .i64 ((rd_T41 l1_2 x27_2).f4), .int .i64 ((rd_T41 l1_2 x27_2).f5)] 41 (0, 0)) (zqK BK193.out) hg (Kd.R_ne HO_10.out BK193.out (by decide))); have n4_ := Aside0.mk (hb); have n5_ := Aside0.mk (ho); clear HO_8; clear BK188; clear BK189; clear BK193; clear HB; clear HO_10; have HO_8 := n0_; have BK188 := n1_; have BK189 := n2_; have BK193 := n3_; have HB := n4_; have HO201 := n5_; clear n0_ n1_ n2_ n3_ n4_ n5_; clear ho hb hg hat))
    repeat (go_quiet (first | ((with_reducible refine gate_dst (N := 12) rfl ?_); refine box_event ?hg (N := 12) ?hd (cs := #[.int .i64 0, .int .i64 0, .int .i64 0, .int .i64 0, .int .i64 0, .int .i64 0]) (t := 41) ?hr ?_; (case hd => rfl); (case hg => rfl); (case hr => exact zqS); intro gb193 hg w39 hbox hb; have n0_ := Aside0.mk (Kd.R_below (zqR HO_8.out) hb); have n1_ := Aside0.mk (Kd.R_below (zqR HO_10.out) hb); have n2_ := Aside0.mk (blk_below (g := gb188) (o := .cells #[.int .i64 a0_0, .int .i64 a0_1, .slice A0_2 l0_2.length c0_2] 31 (0, 0)) (zqK BK188.out) hb); have n3_ := Aside0.mk (blk_below (g := gb189) (o := .cells #[.int .i64 a1_0, .int .i64 a1_1, .slice (some ad192) l1_2.length c1_2] 31 (0, 0)) (zqK BK189.out) hb); have n4_ := Aside0.mk (below_step zq5 hb); have n5_ := Aside0.mk (hbox); have n6_ := Aside0.mk ((by rw [hg]; exact (below_size zq5) : w.heap.size ≤ gb193)); have n7_ := n6_; have n8_ := Aside0.mk ((by rw [hg]; exact Nat.ne_of_lt (blk_lt (g := gb188) (o := .cells #[.int .i64 a0_0, .int .i64 a0_1, .slice A0_2 l0_2.length c0_2] 31 (0, 0)) (zqK BK188.out)) : gb188 ≠ gb193)); have n9_ := Aside0.mk ((by rw [hg]; exact Nat.ne_of_gt (blk_lt (g := gb188) (o := .cells #[.int .i64 a0_0, .int .i64 a0_1, .slice A0_2 l0_2.length c0_2] 31 (0, 0)) (zqK BK188.out)) : gb193 ≠ gb188)); have n10_ := Aside0.mk ((by rw [hg]; exact Nat.ne_of_lt (blk_lt (g := gb189) (o := .cells #[.int .i64 a1_0, .int .i64 a1_1, .slice (some ad192) l1_2.length c1_2] 31 (0, 0)) (zqK BK189.out)) : gb189 ≠ gb193)); have n11_ := Aside0.mk ((by rw [hg]; exact Nat.ne_of_gt (blk_lt (g := gb189) (o := .cells #[.int .i64 a1_0, .int .i64 a1_1, .slice (some ad192) l1_2.length c1_2] 31 (0, 0)) (zqK BK189.out)) : gb193 ≠ gb189)); clear HO_8; clear HO_10; clear BK188; clear BK189; clear HB; have HO_8 := n0_; have HO_10 := n1_; have BK188 := n2_; have BK189 := n3_; have HB := n4_; have BK193 := n5_; have GW193 := n6_; have GE193 := n7_; have NB188_193 := n8_; have NB193_188 := n9_; have NB189_193 := n10_; have NB193_189 := n11_; clear n0_ n1_ n2_ n3_ n4_ n5_ n6_ n7_ n8_ n9_ n10_ n11_; clear hb hbox hg; have hnb40 := NB193_188.out; have hnc40 := NB188_193.out; have hnb41 := NB193_189.out; have hnc41 := NB189_193.out; obtain ⟨hcz42_0, hcz42_1, hcz42_2, hcz42_3, hcz42_4, hcz42_5, hfz42_0, hfz42_1, hfz42_2, hfz42_3, hfz42_4, hfz42_5⟩ := bz6 BK193.out; have hnb43 := NB188_189.out; have hnc43 := NB189_188.out; have hcz44_0 := bz BK188.out 0 (.int .i64 a0_0); have hcz44_1 := bz BK188.out 1 (.int .i64 a0_1); have hcz44_2 := bz BK188.out 2 (.slice A0_2 l0_2.length c0_2); have hfz44_0 := blk_frozen BK188.out 0; have hfz44_1 := blk_frozen BK188.out 1; have hfz44_2 := blk_frozen BK188.out 2) | (go_at_call 18; (with_reducible refine (impl_warningAt.calls k2 _ _ l0_2 ((rd_T41 l1_2 x27_2).f0) t194 _ ?side1 ?side2 A23.out).mono ?_); (case side1 => exact Kd.C_below HR0_2.out zq9); (case side2 => exact HC0_2.out); rintro e w45 ⟨rfl, hb⟩; have n0_ := Aside0.mk (Kd.R_below zq12 hb); have n1_ := Aside0.mk (Kd.R_below zq11 hb); have n2_ := Aside0.mk (blk_below (g := gb188) (o := .cells #[.int .i64 a0_0, .int .i64 a0_1, .slice A0_2 l0_2.length c0_2] 31 (0, 0)) zq7 hb); have n3_ := Aside0.mk (blk_below (g := gb189) (o := .cells #[.int .i64 a1_0, .int .i64 a1_1, .slice (some ad192) l1_2.length c1_2] 31 (0, 0)) zq8 hb); have n4_ := Aside0.mk (blk_below (g := gb193) (o := .cells #[.int .i64 ((rd_T41 l1_2 x27_2).f0), .int .i64 ((rd_T41 l1_2 x27_2).f1), .int .i64 ((rd_T41 l1_2 x27_2).f2), .int .i64 ((rd_T41 l1_2 x27_2).f3), .int .i64 ((rd_T41 l1_2 x27_2).f4), .int .i64 ((rd_T41 l1_2 x27_2).f5)] 41 (0, 0)) zq1 hb); have n5_ := Aside0.mk (below_step zq9 hb); clear HO_8; clear HO_10; clear BK188; clear BK189; clear BK193; clear HB; have HO_8 := n0_; have HO_10 := n1_; have BK188 := n2_; have BK189 := n3_; have BK193 := n4_; have HB := n5_; clear n0_ n1_ n2_ n3_ n4_ n5_; (try clear hb); (try clear hb2); (try clear hk); (try clear hi); have hcz46_0 := bz BK188.out 0 (.int .i64 a0_0); have hcz46_1 := bz BK188.out 1 (.int .i64 a0_1); have hcz46_2 := bz BK188.out 2 (.slice A0_2 l0_2.length c0_2); have hfz46_0 := blk_frozen BK188.out 0; have hfz46_1 := blk_frozen BK188.out 1; have hfz46_2 := blk_frozen BK188.out 2; have p198 : 0 ≤ (t194 : Int) := of_decide_eq_true zq4; have q198 : t194 < (l0_2.length : Int) := of_decide_eq_true zq4; obtain ⟨ad198, e198, hx198_0, hx198_1, hx198_2, hx198_3, hx198_4, hx198_5⟩ := at_T41 HR0_2.out t194 p198 q198; cases e198; replace hx198_0 := bx HB.out hx198_0; replace hx198_1 := bx HB.out hx198_1; replace hx198_2 := bx HB.out hx198_2; replace hx198_3 := bx HB.out hx198_3; replace hx198_4 := bx HB.out hx198_4; replace hx198_5 := bx HB.out hx198_5; replace p198 := eq_true p198; replace q198 := eq_true q198; obtain ⟨hcz47_0, hcz47_1, hcz47_2, hcz47_3, hcz47_4, hcz47_5, hfz47_0, hfz47_1, hfz47_2, hfz47_3, hfz47_4, hfz47_5⟩ := bz6 BK193.out) | ((with_reducible refine gate_builtin (b := .append) (xs := #[.tmp 52, .tmp 55]) rfl ?_); at_builtin; refine Kd.R_append (Kd.int .i64) (w0 := w) w.heap.size rfl (.tmp 52) (.tmp 55) 26 3 (.int .i64 0) 8 rfl Try.underlying26 info3 rfl (by decide) (by omega) u10 x10_2 ((rd_T41 l1_2 x27_2).f0) [.int .i64 ((rd_T41 l1_2 x27_2).f0)] (fun k_ => some k_ ≠ (u8 : Value).ownBlock) (fun _ => False) rfl rfl ?aP (fun _ hk => hk.elim) ?aF ?aO ?aB ?aS ?aL ?_; (case aP => exact rfl); (case aB => exact zq9); (case aF => exact (fun k_ hk => Kd.fresh' (Kd.R_lt (zqR HO_8.out)) k_ hk)); (case aO => exact (zqR HO_10.out)); (case aS => exact (below_size zq9)); (case aL => have := LMc38.out; omega); intro v200 w48 ho hb hg hat; rw [← Ny199.out] at ho; have n0_ := Aside0.mk (Kd.R_after (ok := (fun _ => True)) (by (with_reducible repeat (first | apply Kd.R_alloc | apply Kd.R_drewN | apply Kd.R_drew)); exact Kd.R_mono HO_8.out (fun _ hk => ⟨trivial, hk⟩)) hg hat); have n1_ := Aside0.mk (blk_grown (g := gb188) (o := .cells #[.int .i64 a0_0, .int .i64 a0_1, .slice (some ad198) l0_2.length c0_2] 31 (0, 0)) (zqK BK188.out) hg (Kd.R_ne HO_10.out BK188.out (by decide))); have n2_ := Aside0.mk (blk_grown (g := gb189) (o := .cells #[.int .i64 a1_0, .int .i64 a1_1, .slice (some ad192) l1_2.length c1_2] 31 (0, 0)) (zqK BK189.out) hg (Kd.R_ne HO_10.out BK189.out (by decide))); have n3_ := Aside0.mk (blk_grown (g := gb193) (o := .cells #[.int .i64 ((rd_T41 l1_2 x27_2).f0), .int .i64 ((rd_T41 l1_2 x27_2).f1), .int .i64 ((rd_T41 l1_2 x27_2).f2), .int .i64 ((rd_T41 l1_2 x27_2).f3), .int .i64 ((rd_T41 l1_2 x27_2).f4), .int .i64 ((rd_T41 l1_2 x27_2).f5)] 41 (0, 0)) (zqK BK193.out) hg (Kd.R_ne HO_10.out BK193.out (by decide))); have n4_ := Aside0.mk (hb); have n5_ := Aside0.mk (ho); clear HO_8; clear BK188; clear BK189; clear BK193; clear HB; clear HO_10; have HO_8 := n0_; have BK188 := n1_; have BK189 := n2_; have BK193 := n3_; have HB := n4_; have HO201 := n5_; clear n0_ n1_ n2_ n3_ n4_ n5_; clear ho hb hg hat)); try go_wp2_with (first | ((with_reducible refine gate_dst (N := 12) rfl ?_); refine box_event ?hg (N := 12) ?hd (cs := #[.int .i64 0, .int .i64 0, .int .i64 0, .int .i64 0, .int .i64 0, .int .i64 0]) (t := 41) ?hr ?_; (case hd => rfl); (case hg => rfl); (case hr => exact zqS); intro gb193 hg w39 hbox hb; have n0_ := Aside0.mk (Kd.R_below (zqR HO_8.out) hb); have n1_ := Aside0.mk (Kd.R_below (zqR HO_10.out) hb); have n2_ := Aside0.mk (blk_below (g := gb188) (o := .cells #[.int .i64 a0_0, .int .i64 a0_1, .slice A0_2 l0_2.length c0_2] 31 (0, 0)) (zqK BK188.out) hb); have n3_ := Aside0.mk (blk_below (g := gb189) (o := .cells #[.int .i64 a1_0, .int .i64 a1_1, .slice (some ad192) l1_2.length c1_2] 31 (0, 0)) (zqK BK189.out) hb); have n4_ := Aside0.mk (below_step zq5 hb); have n5_ := Aside0.mk (hbox); have n6_ := Aside0.mk ((by rw [hg]; exact (below_size zq5) : w.heap.size ≤ gb193)); have n7_ := n6_; have n8_ := Aside0.mk ((by rw [hg]; exact Nat.ne_of_lt (blk_lt (g := gb188) (o := .cells #[.int .i64 a0_0, .int .i64 a0_1, .slice A0_2 l0_2.length c0_2] 31 (0, 0)) (zqK BK188.out)) : gb188 ≠ gb193)); have n9_ := Aside0.mk ((by rw [hg]; exact Nat.ne_of_gt (blk_lt (g := gb188) (o := .cells #[.int .i64 a0_0, .int .i64 a0_1, .slice A0_2 l0_2.length c0_2] 31 (0, 0)) (zqK BK188.out)) : gb193 ≠ gb188)); have n10_ := Aside0.mk ((by rw [hg]; exact Nat.ne_of_lt (blk_lt (g := gb189) (o := .cells #[.int .i64 a1_0, .int .i64 a1_1, .slice (some ad192) l1_2.length c1_2] 31 (0, 0)) (zqK BK189.out)) : gb189 ≠ gb193)); have n11_ := Aside0.mk ((by rw [hg]; exact Nat.ne_of_gt (blk_lt (g := gb189) (o := .cells #[.int .i64 a1_0, .int .i64 a1_1, .slice (some ad192) l1_2.length c1_2] 31 (0, 0)) (zqK BK189.out)) : gb193 ≠ gb189)); clear HO_8; clear HO_10; clear BK188; clear BK189; clear HB; have HO_8 := n0_; have HO_10 := n1_; have BK188 := n2_; have BK189 := n3_; have HB := n4_; have BK193 := n5_; have GW193 := n6_; have GE193 := n7_; have NB188_193 := n8_; have NB193_188 := n9_; have NB189_193 := n10_; have NB193_189 := n11_; clear n0_ n1_ n2_ n3_ n4_ n5_ n6_ n7_ n8_ n9_ n10_ n11_; clear hb hbox hg; have hnb40 := NB193_188.out; have hnc40 := NB188_193.out; have hnb41 := NB193_189.out; have hnc41 := NB189_193.out; obtain ⟨hcz42_0, hcz42_1, hcz42_2, hcz42_3, hcz42_4, hcz42_5, hfz42_0, hfz42_1, hfz42_2, hfz42_3, hfz42_4, hfz42_5⟩ := bz6 BK193.out; have hnb43 := NB188_189.out; have hnc43 := NB189_188.out; have hcz44_0 := bz BK188.out 0 (.int .i64 a0_0); have hcz44_1 := bz BK188.out 1 (.int .i64 a0_1); have hcz44_2 := bz BK188.out 2 (.slice A0_2 l0_2.length c0_2); have hfz44_0 := blk_frozen BK188.out 0; have hfz44_1 := blk_frozen BK188.out 1; have hfz44_2 := blk_frozen BK188.out 2) | (go_at_call 18; (with_reducible refine (impl_warningAt.calls k2 _ _ l0_2 ((rd_T41 l1_2 x27_2).f0) t194 _ ?side1 ?side2 A23.out).mono ?_); (case side1 => exact Kd.C_below HR0_2.out zq9); (case side2 => exact HC0_2.out); rintro e w45 ⟨rfl, hb⟩; have n0_ := Aside0.mk (Kd.R_below zq12 hb); have n1_ := Aside0.mk (Kd.R_below zq11 hb); have n2_ := Aside0.mk (blk_below (g := gb188) (o := .cells #[.int .i64 a0_0, .int .i64 a0_1, .slice A0_2 l0_2.length c0_2] 31 (0, 0)) zq7 hb); have n3_ := Aside0.mk (blk_below (g := gb189) (o := .cells #[.int .i64 a1_0, .int .i64 a1_1, .slice (some ad192) l1_2.length c1_2] 31 (0, 0)) zq8 hb); have n4_ := Aside0.mk (blk_below (g := gb193) (o := .cells #[.int .i64 ((rd_T41 l1_2 x27_2).f0), .int .i64 ((rd_T41 l1_2 x27_2).f1), .int .i64 ((rd_T41 l1_2 x27_2).f2), .int .i64 ((rd_T41 l1_2 x27_2).f3), .int .i64 ((rd_T41 l1_2 x27_2).f4), .int .i64 ((rd_T41 l1_2 x27_2).f5)] 41 (0, 0)) zq1 hb); have n5_ := Aside0.mk (below_step zq9 hb); clear HO_8; clear HO_10; clear BK188; clear BK189; clear BK193; clear HB; have HO_8 := n0_; have HO_10 := n1_; have BK188 := n2_; have BK189 := n3_; have BK193 := n4_; have HB := n5_; clear n0_ n1_ n2_ n3_ n4_ n5_; (try clear hb); (try clear hb2); (try clear hk); (try clear hi); have hcz46_0 := bz BK188.out 0 (.int .i64 a0_0); have hcz46_1 := bz BK188.out 1 (.int .i64 a0_1); have hcz46_2 := bz BK188.out 2 (.slice A0_2 l0_2.length c0_2); have hfz46_0 := blk_frozen BK188.out 0; have hfz46_1 := blk_frozen BK188.out 1; have hfz46_2 := blk_frozen BK188.out 2; have p198 : 0 ≤ (t194 : Int) := of_decide_eq_true zq4; have q198 : t194 < (l0_2.length : Int) := of_decide_eq_true zq4; obtain ⟨ad198, e198, hx198_0, hx198_1, hx198_2, hx198_3, hx198_4, hx198_5⟩ := at_T41 HR0_2.out t194 p198 q198; cases e198; replace hx198_0 := bx HB.out hx198_0; replace hx198_1 := bx HB.out hx198_1; replace hx198_2 := bx HB.out hx198_2; replace hx198_3 := bx HB.out hx198_3; replace hx198_4 := bx HB.out hx198_4; replace hx198_5 := bx HB.out hx198_5; replace p198 := eq_true p198; replace q198 := eq_true q198; obtain ⟨hcz47_0, hcz47_1, hcz47_2, hcz47_3, hcz47_4, hcz47_5, hfz47_0, hfz47_1, hfz47_2, hfz47_3, hfz47_4, hfz47_5⟩ := bz6 BK193.out) | ((with_reducible refine gate_builtin (b := .append) (xs := #[.tmp 52, .tmp 55]) rfl ?_); at_builtin; refine Kd.R_append (Kd.int .i64) (w0 := w) w.heap.size rfl (.tmp 52) (.tmp 55) 26 3 (.int .i64 0) 8 rfl Try.underlying26 info3 rfl (by decide) (by omega) u10 x10_2 ((rd_T41 l1_2 x27_2).f0) [.int .i64 ((rd_T41 l1_2 x27_2).f0)] (fun k_ => some k_ ≠ (u8 : Value).ownBlock) (fun _ => False) rfl rfl ?aP (fun _ hk => hk.elim) ?aF ?aO ?aB ?aS ?aL ?_; (case aP => exact rfl); (case aB => exact zq9); (case aF => exact (fun k_ hk => Kd.fresh' (Kd.R_lt (zqR HO_8.out)) k_ hk)); (case aO => exact (zqR HO_10.out)); (case aS => exact (below_size zq9)); (case aL => have := LMc38.out; omega); intro v200 w48 ho hb hg hat; rw [← Ny199.out] at ho; have n0_ := Aside0.mk (Kd.R_after (ok := (fun _ => True)) (by (with_reducible repeat (first | apply Kd.R_alloc | apply Kd.R_drewN | apply Kd.R_drew)); exact Kd.R_mono HO_8.out (fun _ hk => ⟨trivial, hk⟩)) hg hat); have n1_ := Aside0.mk (blk_grown (g := gb188) (o := .cells #[.int .i64 a0_0, .int .i64 a0_1, .slice (some ad198) l0_2.length c0_2] 31 (0, 0)) (zqK BK188.out) hg (Kd.R_ne HO_10.out BK188.out (by decide))); have n2_ := Aside0.mk (blk_grown (g := gb189) (o := .cells #[.int .i64 a1_0, .int .i64 a1_1, .slice (some ad192) l1_2.length c1_2] 31 (0, 0)) (zqK BK189.out) hg (Kd.R_ne HO_10.out BK189.out (by decide))); have n3_ := Aside0.mk (blk_grown (g := gb193) (o := .cells #[.int .i64 ((rd_T41 l1_2 x27_2).f0), .int .i64 ((rd_T41 l1_2 x27_2).f1), .int .i64 ((rd_T41 l1_2 x27_2).f2), .int .i64 ((rd_T41 l1_2 x27_2).f3), .int .i64 ((rd_T41 l1_2 x27_2).f4), .int .i64 ((rd_T41 l1_2 x27_2).f5)] 41 (0, 0)) (zqK BK193.out) hg (Kd.R_ne HO_10.out BK193.out (by decide))); have n4_ := Aside0.mk (hb); have n5_ := Aside0.mk (ho); clear HO_8; clear BK188; clear BK189; clear BK193; clear HB; clear HO_10; have HO_8 := n0_; have BK188 := n1_; have BK189 := n2_; have BK193 := n3_; have HB := n4_; have HO201 := n5_; clear n0_ n1_ n2_ n3_ n4_ n5_; clear ho hb hg hat)))
    go_roundg k2
    case measure => have := HJ2.out; have := HK2.out; omega
    case rel => exact ⟨(x8_2), (y199), (wrap64 (x27_2 + 1)), (by first | rfl | (simp; done) | (simp [*]; done)), H', ⟨by have := HJ2.out; have := HK2.out; omega⟩, ⟨by (with_reducible repeat (first | apply Kd.R_alloc | apply Kd.R_drewN | apply Kd.R_drew)); exact Kd.R_mono HO_8.out (fun _ hk => hk.2)⟩, ⟨zqR HO201.out⟩, ⟨by (with_reducible repeat (first | refine blk_drewN ?_ _ | refine blk_drew ?_ | refine blk_alloc ?_ _)); exact BK188.out⟩, ⟨by (with_reducible repeat (first | refine blk_drewN ?_ _ | refine blk_drew ?_ | refine blk_alloc ?_ _)); exact BK189.out⟩, ⟨zq9⟩⟩
   rw [if_neg c20] at H
   have c20b0 : decide (x27_2 < (l1_2.length : Int)) = false := decide_eq_false c20
   clear c20
   have H' := Aside0.mk H
   clear H
   have hnb58 := NB188_189.out
   have hnc58 := NB189_188.out
   have hcz59_0 := bz BK188.out 0 (.int .i64 a0_0)
   have hcz59_1 := bz BK188.out 1 (.int .i64 a0_1)
   have hcz59_2 := bz BK188.out 2 (.slice A0_2 l0_2.length c0_2)
   have hfz59_0 := blk_frozen BK188.out 0
   have hfz59_1 := blk_frozen BK188.out 1
   have hfz59_2 := blk_frozen BK188.out 2
   go_wp2
   go_loopg [9, 61] k2 (fun kq v9 v61 w' => ∃ (x9_3 : List Int) (x61_3 : Int), v61 = .int .i64 x61_3 ∧ Aside0 (impl_BulletinChanges.l1 kq x8_2 x9_3 x10_2 l0_2 (l0_2.length : Int) x61_3 a1_0 a1_1 l1_2 = some (r1, r2, r3, r4)) ∧ Aside0 (kq ≤ k2) ∧ Aside0 (Kd.R (Kd.int .i64) 3 w' w.heap.size (fun k_ => some k_ ≠ (v9 : Value).ownBlock ∧ some k_ ≠ (u10 : Value).ownBlock) u8 x8_2) ∧ Aside0 (Kd.R (Kd.int .i64) 3 w' w.heap.size (fun k_ => some k_ ≠ (u8 : Value).ownBlock ∧ some k_ ≠ (u10 : Value).ownBlock) v9 x9_3) ∧ Aside0 (Kd.R (Kd.int .i64) 3 w' w.heap.size (fun k_ => some k_ ≠ (u8 : Value).ownBlock ∧ some k_ ≠ (v9 : Value).ownBlock) u10 x10_2) ∧ Aside0 (w'.heap[gb188]? = some (.cells #[.int .i64 a0_0, .int .i64 a0_1, (.slice A0_2 l0_2.length c0_2)] 31 (0, 0))) ∧ Aside0 (w'.heap[gb189]? = some (.cells #[.int .i64 a1_0, .int .i64 a1_1, (.slice A1_2 l1_2.length c1_2)] 31 (0, 0))) ∧ Aside0 (Below w.heap.size w w'))
   case atStart => exact ⟨(([] : List Int)), (0), (by first | rfl | (simp; done) | (simp [*]; done)), H', ⟨Nat.le_refl _⟩, ⟨by (with_reducible repeat (first | apply Kd.R_alloc | apply Kd.R_drewN | apply Kd.R_drew)); exact Kd.R_mono HO_8.out (fun _ hk => ⟨(by simp [Value.ownBlock]), hk⟩)⟩, ⟨by first | exact Kd.R_nil _ _ _ _ _ | exact Kd.N_nil _ _ _ _ _ | exact Kd.V_nil _ _ _ _ _ | exact Kd.Q_nil _ _ _ _ _ | exact Kd.S_nil _ _ _ _ _⟩, ⟨by (with_reducible repeat (first | apply Kd.R_alloc | apply Kd.R_drewN | apply Kd.R_drew)); exact Kd.R_mono HO_10.out (fun _ hk => ⟨hk, (by simp [Value.ownBlock])⟩)⟩, ⟨by (with_reducible repeat (first | refine blk_drewN ?_ _ | refine blk_drew ?_ | refine blk_alloc ?_ _)); exact BK188.out⟩, ⟨by (with_reducible repeat (first | refine blk_drewN ?_ _ | refine blk_drew ?_ | refine blk_alloc ?_ _)); exact BK189.out⟩, ⟨zq5⟩⟩
   clear H'
   try clear c1
   try clear p1
   try clear q1
   try clear hx1
   try clear c2
   try clear p2
   try clear c3
   try clear c4
   try clear c5
   try clear p6
   try clear c7
   try clear c9
   try clear c14
   try clear c17
   try clear c18
   try clear p19
   try clear q19
   try clear hx19
   try clear c20
   try clear c20b0
   try clear c21
   try clear c21b0
   try clear c22
   try clear c22b0
   try clear c24
   try clear c24b0
   try clear c25
   try clear c27
   try clear c28
   try clear c30
   try clear c35
   try clear c35b0
   try clear c36
   try clear c36b0
   try clear c37
   try clear c37b0
   try clear c38
   try clear c40
   try clear c41
   try clear c43
   try clear c50
   try clear c51
   try clear c53
   try clear c58
   try clear hcz10_0
   try clear hcz10_1
   try clear hcz10_2
   try clear hcz12_0
   try clear hcz12_1
   try clear hcz12_2
   try clear hcz15_0
   try clear hcz15_1
   try clear hcz15_2
   try clear hcz19_0
   try clear hcz19_1
   try clear hcz19_2
   try clear hcz29_0
   try clear hcz29_1
   try clear hcz29_2
   try clear hcz29_3
   try clear hcz29_4
   try clear hcz29_5
   try clear hcz31_0
   try clear hcz31_1
   try clear hcz31_2
   try clear hcz33_0
   try clear hcz33_1
   try clear hcz33_2
   try clear hcz33_3
   try clear hcz33_4
   try clear hcz33_5
   try clear hcz42_0
   try clear hcz42_1
   try clear hcz42_2
   try clear hcz42_3
   try clear hcz42_4
   try clear hcz42_5
   try clear hcz44_0
   try clear hcz44_1
   try clear hcz44_2
   try clear hcz46_0
   try clear hcz46_1
   try clear hcz46_2
   try clear hcz47_0
   try clear hcz47_1
   try clear hcz47_2
   try clear hcz47_3
   try clear hcz47_4
   try clear hcz47_5
   try clear hcz52_0
   try clear hcz52_1
   try clear hcz52_2
   try clear hcz52_3
   try clear hcz52_4
   try clear hcz52_5
   try clear hcz54_0
   try clear hcz54_1
   try clear hcz54_2
   try clear hcz56_0
   try clear hcz56_1
   try clear hcz56_2
   try clear hcz57_0
   try clear hcz57_1
   try clear hcz57_2
   try clear hcz57_3
   try clear hcz57_4
   try clear hcz57_5
   try clear hcz59_0
   try clear hcz59_1
   try clear hcz59_2
   try clear hfz10_0
   try clear hfz10_1
   try clear hfz10_2
   try clear hfz12_0
   try clear hfz12_1
   try clear hfz12_2
   try clear hfz15_0
   try clear hfz15_1
   try clear hfz15_2
   try clear hfz19_0
   try clear hfz19_1
   try clear hfz19_2
   try clear hfz29_0
   try clear hfz29_1
   try clear hfz29_2
   try clear hfz29_3
   try clear hfz29_4
   try clear hfz29_5
   try clear hfz31_0
   try clear hfz31_1
   try clear hfz31_2
   try clear hfz33_0
   try clear hfz33_1
   try clear hfz33_2
   try clear hfz33_3
   try clear hfz33_4
   try clear hfz33_5
   try clear hfz42_0
   try clear hfz42_1
   try clear hfz42_2
   try clear hfz42_3
   try clear hfz42_4
   try clear hfz42_5
   try clear hfz44_0
   try clear hfz44_1
   try clear hfz44_2
   try clear hfz46_0
   try clear hfz46_1
   try clear hfz46_2
   try clear hfz47_0
   try clear hfz47_1
   try clear hfz47_2
   try clear hfz47_3
   try clear hfz47_4
   try clear hfz47_5
   try clear hfz52_0
   try clear hfz52_1
   try clear hfz52_2
   try clear hfz52_3
   try clear hfz52_4
   try clear hfz52_5
   try clear hfz54_0
   try clear hfz54_1
   try clear hfz54_2
   try clear hfz56_0
   try clear hfz56_1
   try clear hfz56_2
   try clear hfz57_0
   try clear hfz57_1
   try clear hfz57_2
   try clear hfz57_3
   try clear hfz57_4
   try clear hfz57_5
   try clear hfz59_0
   try clear hfz59_1
   try clear hfz59_2
   try clear hx192_0
   try clear hx192_1
   try clear hx192_2
   try clear hx192_3
   try clear hx192_4
   try clear hx192_5
   try clear hx198_0
   try clear hx198_1
   try clear hx198_2
   try clear hx198_3
   try clear hx198_4
   try clear hx198_5
   try clear p192
   try clear p198
   try clear p2
   try clear q192
   try clear q198
   obtain ⟨x9_3, x61_3, rfl, HA, HK3, HO_8, HO_9, HO_10, BK188, BK189, HB⟩ := hrel
   cases gk with
   | zero => exact absurd HA.out (by simp [impl_BulletinChanges.l1])
   | succ k3 =>
    have H := HA.out
    clear HA
    simp only [impl_BulletinChanges.l1] at H
    by_cases c60 : x61_3 < (l0_2.length : Int)
    case neg =>
     rw [if_neg c60] at H
     have c60b0 : decide (x61_3 < (l0_2.length : Int)) = false := decide_eq_false c60
     clear c60
     simp only [Option.some.injEq, Prod.mk.injEq] at H
     obtain ⟨rfl, rfl, rfl, rfl⟩ := H
     go_wp2
     refine bodyPost_ret (results_list (rs := [.tmp 4, .tmp 5, .tmp 6, .tmp 7]) rfl (by simp) (.tmp (.tmp (.tmp (.tmp .nil))))) rfl ?_
     exact ⟨_, _, _, by first | rfl | (simp [errW_none, errW_some] <;> rfl) | (simp [*, errW_none, errW_some] <;> rfl), zqR HO_8.out, zqR HO_9.out, zqR HO_10.out, zq5⟩
    rw [if_pos c60] at H
    have c60b0 : decide (x61_3 < (l0_2.length : Int)) = true := decide_eq_true c60
    clear c60
    by_cases c61 : 0 ≤ x61_3
    case neg =>
     rw [if_neg c61] at H
     exact absurd H (by simp)
    rw [if_pos c61] at H
    have c61b0 : decide (0 ≤ x61_3) = true := decide_eq_true c61
    clear c61
    by_cases c62 : x61_3 < (l0_2.length : Int)
    case neg =>
     rw [if_neg c62] at H
     exact absurd H (by simp)
    rw [if_pos c62] at H
    have c62b0 : decide (x61_3 < (l0_2.length : Int)) = true := decide_eq_true c62
    clear c62
    replace H := Option.bind_eq_some_iff.mp H
    obtain ⟨t204, A630, H⟩ := H
    replace H : (if t204 < 0 then (if x9_3.length < 17592186044416 then (impl_BulletinChanges.l1 k3 x8_2 (x9_3 ++ [(rd_T41 l0_2 x61_3).f0]) x10_2 l0_2 (l0_2.length : Int) (wrap64 (x61_3 + 1)) a1_0 a1_1 l1_2) else (none)) else (impl_BulletinChanges.l1 k3 x8_2 x9_3 x10_2 l0_2 (l0_2.length : Int) (wrap64 (x61_3 + 1)) a1_0 a1_1 l1_2)) = some (r1, r2, r3, r4) := H
    have A63 := Aside0.mk A630
    clear A630
    by_cases c64 : t204 < 0
    case neg =>
     rw [if_neg c64] at H
     have c64b0 : decide (t204 < 0) = false := decide_eq_false c64
     clear c64
     have H' := Aside0.mk H
     clear H
     have p202 : 0 ≤ (x61_3 : Int) := of_decide_eq_true zq4
     have q202 : x61_3 < (l0_2.length : Int) := of_decide_eq_true zq4
     obtain ⟨ad202, e202, hx202_0, hx202_1, hx202_2, hx202_3, hx202_4, hx202_5⟩ := at_T41 HR0_2.out x61_3 p202 q202
     cases e202
     replace hx202_0 := bx HB.out hx202_0
     replace hx202_1 := bx HB.out hx202_1
     replace hx202_2 := bx HB.out hx202_2
     replace hx202_3 := bx HB.out hx202_3
     replace hx202_4 := bx HB.out hx202_4
     replace hx202_5 := bx HB.out hx202_5
     replace p202 := eq_true p202
     replace q202 := eq_true q202
     go_wp2_with (first | ((with_reducible refine gate_dst (N := 15) rfl ?_); refine box_event ?hg (N := 15) ?hd (cs := #[.int .i64 0, .int .i64 0, .int .i64 0, .int .i64 0, .int .i64 0, .int .i64 0]) (t := 41) ?hr ?_; (case hd => rfl); (case hg => rfl); (case hr => exact zqS); intro gb203 hg w75 hbox hb; have n0_ := Aside0.mk (Kd.R_below (zqR HO_8.out) hb); have n1_ := Aside0.mk (Kd.R_below (zqR HO_9.out) hb); have n2_ := Aside0.mk (Kd.R_below (zqR HO_10.out) hb); have n3_ := Aside0.mk (blk_below (g := gb188) (o := .cells #[.int .i64 a0_0, .int .i64 a0_1, .slice (some ad202) l0_2.length c0_2] 31 (0, 0)) (zqK BK188.out) hb); have n4_ := Aside0.mk (blk_below (g := gb189) (o := .cells #[.int .i64 a1_0, .int .i64 a1_1, .slice A1_2 l1_2.length c1_2] 31 (0, 0)) (zqK BK189.out) hb); have n5_ := Aside0.mk (below_step zq5 hb); have n6_ := Aside0.mk (hbox); have n7_ := Aside0.mk ((by rw [hg]; exact (below_size zq5) : w.heap.size ≤ gb203)); have n8_ := n7_; have n9_ := Aside0.mk ((by rw [hg]; exact Nat.ne_of_lt (blk_lt (g := gb188) (o := .cells #[.int .i64 a0_0, .int .i64 a0_1, .slice (some ad202) l0_2.length c0_2] 31 (0, 0)) (zqK BK188.out)) : gb188 ≠ gb203)); have n10_ := Aside0.mk ((by rw [hg]; exact Nat.ne_of_gt (blk_lt (g := gb188) (o := .cells #[.int .i64 a0_0, .int .i64 a0_1, .slice (some ad202) l0_2.length c0_2] 31 (0, 0)) (zqK BK188.out)) : gb203 ≠ gb188)); have n11_ := Aside0.mk ((by rw [hg]; exact Nat.ne_of_lt (blk_lt (g := gb189) (o := .cells #[.int .i64 a1_0, .int .i64 a1_1, .slice A1_2 l1_2.length c1_2] 31 (0, 0)) (zqK BK189.out)) : gb189 ≠ gb203)); have n12_ := Aside0.mk ((by rw [hg]; exact Nat.ne_of_gt (blk_lt (g := gb189) (o := .cells #[.int .i64 a1_0, .int .i64 a1_1, .slice A1_2 l1_2.length c1_2] 31 (0, 0)) (zqK BK189.out)) : gb203 ≠ gb189)); clear HO_8; clear HO_9; clear HO_10; clear BK188; clear BK189; clear HB; have HO_8 := n0_; have HO_9 := n1_; have HO_10 := n2_; have BK188 := n3_; have BK189 := n4_; have HB := n5_; have BK203 := n6_; have GW203 := n7_; have GE203 := n8_; have NB188_203 := n9_; have NB203_188 := n10_; have NB189_203 := n11_; have NB203_189 := n12_; clear n0_ n1_ n2_ n3_ n4_ n5_ n6_ n7_ n8_ n9_ n10_ n11_ n12_; clear hb hbox hg; have hnb76 := NB203_188.out; have hnc76 := NB188_203.out; have hnb77 := NB203_189.out; have hnc77 := NB189_203.out; obtain ⟨hcz78_0, hcz78_1, hcz78_2, hcz78_3, hcz78_4, hcz78_5, hfz78_0, hfz78_1, hfz78_2, hfz78_3, hfz78_4, hfz78_5⟩ := bz6 BK203.out; have hnb79 := NB189_188.out; have hnc79 := NB188_189.out; have hcz80_0 := bz BK189.out 0 (.int .i64 a1_0); have hcz80_1 := bz BK189.out 1 (.int .i64 a1_1); have hcz80_2 := bz BK189.out 2 (.slice A1_2 l1_2.length c1_2); have hfz80_0 := blk_frozen BK189.out 0; have hfz80_1 := blk_frozen BK189.out 1; have hfz80_2 := blk_frozen BK189.out 2) | (go_at_call 18; (with_reducible refine (impl_warningAt.calls k3 _ _ l1_2 ((rd_T41 l0_2 x61_3).f0) t204 _ ?side1 ?side2 A63.out).mono ?_); (case side1 => exact Kd.C_below HR1_2.out zq26); (case side2 => exact HC1_2.out); rintro e w81 ⟨rfl, hb⟩; have n0_ := Aside0.mk (Kd.R_below zq43 hb); have n1_ := Aside0.mk (Kd.R_below zq44 hb); have n2_ := Aside0.mk (Kd.R_below zq42 hb); have n3_ := Aside0.mk (blk_below (g := gb188) (o := .cells #[.int .i64 a0_0, .int .i64 a0_1, .slice (some ad202) l0_2.length c0_2] 31 (0, 0)) zq39 hb); have n4_ := Aside0.mk (blk_below (g := gb189) (o := .cells #[.int .i64 a1_0, .int .i64 a1_1, .slice A1_2 l1_2.length c1_2] 31 (0, 0)) zq40 hb); have n5_ := Aside0.mk (blk_below (g := gb203) (o := .cells #[.int .i64 ((rd_T41 l0_2 x61_3).f0), .int .i64 ((rd_T41 l0_2 x61_3).f1), .int .i64 ((rd_T41 l0_2 x61_3).f2), .int .i64 ((rd_T41 l0_2 x61_3).f3), .int .i64 ((rd_T41 l0_2 x61_3).f4), .int .i64 ((rd_T41 l0_2 x61_3).f5)] 41 (0, 0)) zq24 hb); have n6_ := Aside0.mk (below_step zq26 hb); clear HO_8; clear HO_9; clear HO_10; clear BK188; clear BK189; clear BK203; clear HB; have HO_8 := n0_; have HO_9 := n1_; have HO_10 := n2_; have BK188 := n3_; have BK189 := n4_; have BK203 := n5_; have HB := n6_; clear n0_ n1_ n2_ n3_ n4_ n5_ n6_; (try clear hb); (try clear hb2); (try clear hk); (try clear hi)))
     go_roundg k3
     case measure => have := HJ2.out; have := HK2.out; have := HK3.out; omega
     case rel => exact ⟨(x9_3), (wrap64 (x61_3 + 1)), (by first | rfl | (simp; done) | (simp [*]; done)), H', ⟨by have := HJ2.out; have := HK2.out; have := HK3.out; omega⟩, ⟨zqR HO_8.out⟩, ⟨zqR HO_9.out⟩, ⟨zqR HO_10.out⟩, ⟨by (with_reducible repeat (first | refine blk_drewN ?_ _ | refine blk_drew ?_ | refine blk_alloc ?_ _)); exact BK188.out⟩, ⟨by (with_reducible repeat (first | refine blk_drewN ?_ _ | refine blk_drew ?_ | refine blk_alloc ?_ _)); exact BK189.out⟩, ⟨zq26⟩⟩
    rw [if_pos c64] at H
    have c64b0 : decide (t204 < 0) = true := decide_eq_true c64
    clear c64
    by_cases c65 : x9_3.length < 17592186044416
    case neg =>
     rw [if_neg c65] at H
     exact absurd H (by simp)
    rw [if_pos c65] at H
    have LMc65 := Aside0.mk c65
    clear c65
    obtain ⟨y205, hy205⟩ : ∃ y_ : List Int, y_ = (x9_3 ++ [(rd_T41 l0_2 x61_3).f0]) := ⟨_, rfl⟩
    replace H : (impl_BulletinChanges.l1 k3 x8_2 y205 x10_2 l0_2 (l0_2.length : Int) (wrap64 (x61_3 + 1)) a1_0 a1_1 l1_2) = some (r1, r2, r3, r4) := zqH hy205 H
    have Ny205 := Aside0.mk hy205
    clear hy205
    have H' := Aside0.mk H
    clear H
    have p202 : 0 ≤ (x61_3 : Int) := of_decide_eq_true zq4
    have q202 : x61_3 < (l0_2.length : Int) := of_decide_eq_true zq4
    obtain ⟨ad202, e202, hx202_0, hx202_1, hx202_2, hx202_3, hx202_4, hx202_5⟩ := at_T41 HR0_2.out x61_3 p202 q202
    cases e202
    replace hx202_0 := bx HB.out hx202_0
    replace hx202_1 := bx HB.out hx202_1
    replace hx202_2 := bx HB.out hx202_2
    replace hx202_3 := bx HB.out hx202_3
    replace hx202_4 := bx HB.out hx202_4
    replace hx202_5 := bx HB.out hx202_5
    replace p202 := eq_true p202
    replace q202 := eq_true q202
    go_wp2_with (first | ((with_reducible refine gate_dst (N := 15) rfl ?_); refine box_event ?hg (N := 15) ?hd (cs := #[.int .i64 0, .int .i64 0, .int .i64 0, .int .i64 0, .int .i64 0, .int .i64 0]) (t := 41) ?hr ?_; (case hd => rfl); (case hg => rfl); (case hr => exact zqS); intro gb203 hg w66 hbox hb; have n0_ := Aside0.mk (Kd.R_below (zqR HO_8.out) hb); have n1_ := Aside0.mk (Kd.R_below (zqR HO_9.out) hb); have n2_ := Aside0.mk (Kd.R_below (zqR HO_10.out) hb); have n3_ := Aside0.mk (blk_below (g := gb188) (o := .cells #[.int .i64 a0_0, .int .i64 a0_1, .slice (some ad202) l0_2.length c0_2] 31 (0, 0)) (zqK BK188.out) hb); have n4_ := Aside0.mk (blk_below (g := gb189) (o := .cells #[.int .i64 a1_0, .int .i64 a1_1, .slice A1_2 l1_2.length c1_2] 31 (0, 0)) (zqK BK189.out) hb); have n5_ := Aside0.mk (below_step zq5 hb); have n6_ := Aside0.mk (hbox); have n7_ := Aside0.mk ((by rw [hg]; exact (below_size zq5) : w.heap.size ≤ gb203)); have n8_ := n7_; have n9_ := Aside0.mk ((by rw [hg]; exact Nat.ne_of_lt (blk_lt (g := gb188) (o := .cells #[.int .i64 a0_0, .int .i64 a0_1, .slice (some ad202) l0_2.length c0_2] 31 (0, 0)) (zqK BK188.out)) : gb188 ≠ gb203)); have n10_ := Aside0.mk ((by rw [hg]; exact Nat.ne_of_gt (blk_lt (g := gb188) (o := .cells #[.int .i64 a0_0, .int .i64 a0_1, .slice (some ad202) l0_2.length c0_2] 31 (0, 0)) (zqK BK188.out)) : gb203 ≠ gb188)); have n11_ := Aside0.mk ((by rw [hg]; exact Nat.ne_of_lt (blk_lt (g := gb189) (o := .cells #[.int .i64 a1_0, .int .i64 a1_1, .slice A1_2 l1_2.length c1_2] 31 (0, 0)) (zqK BK189.out)) : gb189 ≠ gb203)); have n12_ := Aside0.mk ((by rw [hg]; exact Nat.ne_of_gt (blk_lt (g := gb189) (o := .cells #[.int .i64 a1_0, .int .i64 a1_1, .slice A1_2 l1_2.length c1_2] 31 (0, 0)) (zqK BK189.out)) : gb203 ≠ gb189)); clear HO_8; clear HO_9; clear HO_10; clear BK188; clear BK189; clear HB; have HO_8 := n0_; have HO_9 := n1_; have HO_10 := n2_; have BK188 := n3_; have BK189 := n4_; have HB := n5_; have BK203 := n6_; have GW203 := n7_; have GE203 := n8_; have NB188_203 := n9_; have NB203_188 := n10_; have NB189_203 := n11_; have NB203_189 := n12_; clear n0_ n1_ n2_ n3_ n4_ n5_ n6_ n7_ n8_ n9_ n10_ n11_ n12_; clear hb hbox hg; have hnb67 := NB203_188.out; have hnc67 := NB188_203.out; have hnb68 := NB203_189.out; have hnc68 := NB189_203.out; obtain ⟨hcz69_0, hcz69_1, hcz69_2, hcz69_3, hcz69_4, hcz69_5, hfz69_0, hfz69_1, hfz69_2, hfz69_3, hfz69_4, hfz69_5⟩ := bz6 BK203.out; have hnb70 := NB189_188.out; have hnc70 := NB188_189.out; have hcz71_0 := bz BK189.out 0 (.int .i64 a1_0); have hcz71_1 := bz BK189.out 1 (.int .i64 a1_1); have hcz71_2 := bz BK189.out 2 (.slice A1_2 l1_2.length c1_2); have hfz71_0 := blk_frozen BK189.out 0; have hfz71_1 := blk_frozen BK189.out 1; have hfz71_2 := blk_frozen BK189.out 2) | (go_at_call 18; (with_reducible refine (impl_warningAt.calls k3 _ _ l1_2 ((rd_T41 l0_2 x61_3).f0) t204 _ ?side1 ?side2 A63.out).mono ?_); (case side1 => exact Kd.C_below HR1_2.out zq26); (case side2 => exact HC1_2.out); rintro e w72 ⟨rfl, hb⟩; have n0_ := Aside0.mk (Kd.R_below zq43 hb); have n1_ := Aside0.mk (Kd.R_below zq44 hb); have n2_ := Aside0.mk (Kd.R_below zq42 hb); have n3_ := Aside0.mk (blk_below (g := gb188) (o := .cells #[.int .i64 a0_0, .int .i64 a0_1, .slice (some ad202) l0_2.length c0_2] 31 (0, 0)) zq39 hb); have n4_ := Aside0.mk (blk_below (g := gb189) (o := .cells #[.int .i64 a1_0, .int .i64 a1_1, .slice A1_2 l1_2.length c1_2] 31 (0, 0)) zq40 hb); have n5_ := Aside0.mk (blk_below (g := gb203) (o := .cells #[.int .i64 ((rd_T41 l0_2 x61_3).f0), .int .i64 ((rd_T41 l0_2 x61_3).f1), .int .i64 ((rd_T41 l0_2 x61_3).f2), .int .i64 ((rd_T41 l0_2 x61_3).f3), .int .i64 ((rd_T41 l0_2 x61_3).f4), .int .i64 ((rd_T41 l0_2 x61_3).f5)] 41 (0, 0)) zq24 hb); have n6_ := Aside0.mk (below_step zq26 hb); clear HO_8; clear HO_9; clear HO_10; clear BK188; clear BK189; clear BK203; clear HB; have HO_8 := n0_; have HO_9 := n1_; have HO_10 := n2_; have BK188 := n3_; have BK189 := n4_; have BK203 := n5_; have HB := n6_; clear n0_ n1_ n2_ n3_ n4_ n5_ n6_; (try clear hb); (try clear hb2); (try clear hk); (try clear hi); obtain ⟨hcz73_0, hcz73_1, hcz73_2, hcz73_3, hcz73_4, hcz73_5, hfz73_0, hfz73_1, hfz73_2, hfz73_3, hfz73_4, hfz73_5⟩ := bz6 BK203.out) | ((with_reducible refine gate_builtin (b := .append) (xs := #[.tmp 71, .tmp 74]) rfl ?_); at_builtin; refine Kd.R_append (Kd.int .i64) (w0 := w) w.heap.size rfl (.tmp 71) (.tmp 74) 26 3 (.int .i64 0) 8 rfl Try.underlying26 info3 rfl (by decide) (by omega) u9 x9_3 ((rd_T41 l0_2 x61_3).f0) [.int .i64 ((rd_T41 l0_2 x61_3).f0)] (fun k_ => some k_ ≠ (u8 : Value).ownBlock ∧ some k_ ≠ (u10 : Value).ownBlock) (fun _ => False) rfl rfl ?aP (fun _ hk => hk.elim) ?aF ?aO ?aB ?aS ?aL ?_; (case aP => exact rfl); (case aB => exact zq26); (case aF => exact (fun k_ hk => ⟨Kd.fresh' (Kd.R_lt (zqR HO_8.out)) k_ hk, Kd.fresh' (Kd.R_lt (zqR HO_10.out)) k_ hk⟩)); (case aO => exact (zqR HO_9.out)); (case aS => exact (below_size zq26)); (case aL => have := LMc65.out; omega); intro v206 w74 ho hb hg hat; rw [← Ny205.out] at ho; have n0_ := Aside0.mk (Kd.R_after (ok := (fun k_ => some k_ ≠ (u10 : Value).ownBlock)) zq50 hg hat); have n1_ := Aside0.mk (Kd.R_after (ok := (fun k_ => some k_ ≠ (u8 : Value).ownBlock)) (zqR HO_10.out) hg hat); have n2_ := Aside0.mk (blk_grown (g := gb188) (o := .cells #[.int .i64 a0_0, .int .i64 a0_1, .slice (some ad202) l0_2.length c0_2] 31 (0, 0)) (zqK BK188.out) hg (Kd.R_ne HO_9.out BK188.out (by decide))); have n3_ := Aside0.mk (blk_grown (g := gb189) (o := .cells #[.int .i64 a1_0, .int .i64 a1_1, .slice A1_2 l1_2.length c1_2] 31 (0, 0)) (zqK BK189.out) hg (Kd.R_ne HO_9.out BK189.out (by decide))); have n4_ := Aside0.mk (blk_grown (g := gb203) (o := .cells #[.int .i64 ((rd_T41 l0_2 x61_3).f0), .int .i64 ((rd_T41 l0_2 x61_3).f1), .int .i64 ((rd_T41 l0_2 x61_3).f2), .int .i64 ((rd_T41 l0_2 x61_3).f3), .int .i64 ((rd_T41 l0_2 x61_3).f4), .int .i64 ((rd_T41 l0_2 x61_3).f5)] 41 (0, 0)) (zqK BK203.out) hg (Kd.R_ne HO_9.out BK203.out (by decide))); have n5_ := Aside0.mk (hb); have n6_ := Aside0.mk (ho); clear HO_8; clear HO_10; clear BK188; clear BK189; clear BK203; clear HB; clear HO_9; have HO_8 := n0_; have HO_10 := n1_; have BK188 := n2_; have BK189 := n3_; have BK203 := n4_; have HB := n5_; have HO207 := n6_; clear n0_ n1_ n2_ n3_ n4_ n5_ n6_; clear ho hb hg hat))
    go_roundg k3
    case measure => have := HJ2.out; have := HK2.out; have := HK3.out; omega
    case rel => exact ⟨(y205), (wrap64 (x61_3 + 1)), (by first | rfl | (simp; done) | (simp [*]; done)), H', ⟨by have := HJ2.out; have := HK2.out; have := HK3.out; omega⟩, ⟨by (with_reducible repeat (first | apply Kd.R_alloc | apply Kd.R_drewN | apply Kd.R_drew)); exact Kd.R_mono HO_8.out (fun _ hk => ⟨hk.2, hk.1⟩)⟩, ⟨zqR HO207.out⟩, ⟨zqR HO_10.out⟩, ⟨by (with_reducible repeat (first | refine blk_drewN ?_ _ | refine blk_drew ?_ | refine blk_alloc ?_ _)); exact BK188.out⟩, ⟨by (with_reducible repeat (first | refine blk_drewN ?_ _ | refine blk_drew ?_ | refine blk_alloc ?_ _)); exact BK189.out⟩, ⟨zq26⟩⟩
end Go.Proofs.Ytlagjagmobbngaa.Q
