/- Texts of this seat, put together: Qf5. -/
import Derived.Test.YtlagjagmobbngaaZFnExactBulletinChanges
import Derived.Test.YtlagjagmobbngaaBFnExactBulletinChanges0
import Derived.Test.YtlagjagmobbngaaBFnExactBulletinChanges1
namespace Go.Proofs.Ytlagjagmobbngaa.Q
open Go.RowKit Go.Proofs.YtlagjagmobbngaaW.PrintWords Go.Proofs.YtlagjagmobbngaaW.PrintLast Go.Proofs.YtlagjagmobbngaaW.PrintMore
attribute [local go_sem] max2_int min2_int max_two min_two max_three min_three max_four min_four   -- for this text's walks alone
set_option linter.unusedVariables false
set_option linter.unusedSimpArgs false

attribute [local go_sem high] eqA41
/-! ### spec_BulletinChanges: function 5 -/
mutual
def spec_BulletinChanges.j0 : Nat → List Int → List Int → List Int → Bool → Int → Int → List (S41) → Int → Int → List (S41) → Option (List Int × List Int × List Int × Bool)
 | 0, _, _, _, _, _, _, _, _, _, _ => none
 | k + 1, x8, x9, x10, x25, x125000, x125001, x125002, x126000, x126001, x126002 => if x25 = true then (some (x8, x9, x10, false)) else (spec_BulletinChanges.l0 k x8 x9 x10 0 x125000 x125001 x125002 x126000 x126001 x126002)
def spec_BulletinChanges.l0 : Nat → List Int → List Int → List Int → Int → Int → Int → List (S41) → Int → Int → List (S41) → Option (List Int × List Int × List Int × Bool)
 | 0, _, _, _, _, _, _, _, _, _, _ => none
 | k + 1, x8, x9, x10, x11, x125000, x125001, x125002, x126000, x126001, x126002 => if x11 < (x126002.length : Int) then (if 0 ≤ x11 then ((spec_l14Find.f k x125002 ((rd_T41 x126002 x11).f0)).bind fun t139 => (if t139 < 0 then (if x8.length < 17592186044416 then (spec_BulletinChanges.l0 k (x8 ++ [(rd_T41 x126002 x11).f0]) x9 x10 (wrap64 (x11 + 1)) x125000 x125001 x125002 x126000 x126001 x126002) else (none)) else (if 0 ≤ t139 then (if t139 < (x125002.length : Int) then (if (!(((rd_T41 x125002 t139).f0) == ((rd_T41 x126002 x11).f0)) || (!(((rd_T41 x125002 t139).f1) == ((rd_T41 x126002 x11).f1)) || (!(((rd_T41 x125002 t139).f2) == ((rd_T41 x126002 x11).f2)) || (!(((rd_T41 x125002 t139).f3) == ((rd_T41 x126002 x11).f3)) || (!(((rd_T41 x125002 t139).f4) == ((rd_T41 x126002 x11).f4)) || (!(((rd_T41 x125002 t139).f5) == ((rd_T41 x126002 x11).f5)))))))) = true then (if x10.length < 17592186044416 then (spec_BulletinChanges.l0 k x8 x9 (x10 ++ [(rd_T41 x126002 x11).f0]) (wrap64 (x11 + 1)) x125000 x125001 x125002 x126000 x126001 x126002) else (none)) else (spec_BulletinChanges.l0 k x8 x9 x10 (wrap64 (x11 + 1)) x125000 x125001 x125002 x126000 x126001 x126002)) else (none)) else (none)))) else (none)) else (spec_BulletinChanges.l1 k x8 x9 x10 0 x125000 x125001 x125002 x126000 x126001 x126002)
def spec_BulletinChanges.l1 : Nat → List Int → List Int → List Int → Int → Int → Int → List (S41) → Int → Int → List (S41) → Option (List Int × List Int × List Int × Bool)
 | 0, _, _, _, _, _, _, _, _, _, _ => none
 | k + 1, x8, x9, x10, x14, x125000, x125001, x125002, x126000, x126001, x126002 => if x14 < (x125002.length : Int) then (if 0 ≤ x14 then ((spec_l14Find.f k x126002 ((rd_T41 x125002 x14).f0)).bind fun t148 => (if t148 < 0 then (if x9.length < 17592186044416 then (spec_BulletinChanges.l1 k x8 (x9 ++ [(rd_T41 x125002 x14).f0]) x10 (wrap64 (x14 + 1)) x125000 x125001 x125002 x126000 x126001 x126002) else (none)) else (spec_BulletinChanges.l1 k x8 x9 x10 (wrap64 (x14 + 1)) x125000 x125001 x125002 x126000 x126001 x126002))) else (none)) else (some (x8, x9, x10, true))
end
def spec_BulletinChanges.f (k : Nat) (a0_0 : Int) (a0_1 : Int) (l0_2 : List (S41)) (a1_0 : Int) (a1_1 : Int) (l1_2 : List (S41)) : Option (List Int × List Int × List Int × Bool) := (some (([] : List Int) : List Int)).bind fun y126 => ((some (([] : List Int) : List Int)).bind fun y129 => ((some (([] : List Int) : List Int)).bind fun y132 => ((spec_l17Good.f k a0_0 a0_1 l0_2).bind fun t135 => (if t135 = true then ((spec_l17Good.f k a1_0 a1_1 l1_2).bind fun t136 => (spec_BulletinChanges.j0 k y126 y129 y132 (!t136) a0_0 a0_1 l0_2 a1_0 a1_1 l1_2)) else (spec_BulletinChanges.j0 k y126 y129 y132 true a0_0 a0_1 l0_2 a1_0 a1_1 l1_2)))))
theorem spec_BulletinChanges.mono_l : ∀ k, (∀ y0 y1 y2 y3 y4 y5 y6 y7 y8 y9, LeO (spec_BulletinChanges.j0 k y0 y1 y2 y3 y4 y5 y6 y7 y8 y9) (spec_BulletinChanges.j0 (k + 1) y0 y1 y2 y3 y4 y5 y6 y7 y8 y9)) ∧ (∀ y0 y1 y2 y3 y4 y5 y6 y7 y8 y9, LeO (spec_BulletinChanges.l0 k y0 y1 y2 y3 y4 y5 y6 y7 y8 y9) (spec_BulletinChanges.l0 (k + 1) y0 y1 y2 y3 y4 y5 y6 y7 y8 y9)) ∧ (∀ y0 y1 y2 y3 y4 y5 y6 y7 y8 y9, LeO (spec_BulletinChanges.l1 k y0 y1 y2 y3 y4 y5 y6 y7 y8 y9) (spec_BulletinChanges.l1 (k + 1) y0 y1 y2 y3 y4 y5 y6 y7 y8 y9))
 | 0 => ⟨fun _ _ _ _ _ _ _ _ _ _ r h => by simp [spec_BulletinChanges.j0] at h, fun _ _ _ _ _ _ _ _ _ _ r h => by simp [spec_BulletinChanges.l0] at h, fun _ _ _ _ _ _ _ _ _ _ r h => by simp [spec_BulletinChanges.l1] at h⟩
 | k + 1 => by
  obtain ⟨ih0, ih1, ih2⟩ := spec_BulletinChanges.mono_l k
  refine ⟨?_, ?_, ?_⟩
  ·
   intro y0 y1 y2 y3 y4 y5 y6 y7 y8 y9
   unfold spec_BulletinChanges.j0
   repeat' first
   | (with_reducible exact ih0 _ _ _ _ _ _ _ _ _ _)
   | (with_reducible exact ih1 _ _ _ _ _ _ _ _ _ _)
   | (with_reducible exact ih2 _ _ _ _ _ _ _ _ _ _)
   | (with_reducible exact spec_l14Find.mono _ _ _)
   | (with_reducible exact spec_l17Good.mono _ _ _ _)
   | (with_reducible exact LeO.refl _)
   | (with_reducible exact LeO.none _)
   | (with_reducible refine LeO.ite ?_ ?_)
   | (with_reducible refine LeO.bind ?_ (fun _ => ?_))
   | exact ih0 _ _ _ _ _ _ _ _ _ _
   | exact ih1 _ _ _ _ _ _ _ _ _ _
   | exact ih2 _ _ _ _ _ _ _ _ _ _
   | exact spec_l14Find.mono _ _ _
   | exact spec_l17Good.mono _ _ _ _
   | exact LeO.none _
   | refine LeO.ite ?_ ?_
   | refine LeO.bind ?_ (fun _ => ?_)
  ·
   intro y0 y1 y2 y3 y4 y5 y6 y7 y8 y9
   unfold spec_BulletinChanges.l0
   repeat' first
   | (with_reducible exact ih0 _ _ _ _ _ _ _ _ _ _)
   | (with_reducible exact ih1 _ _ _ _ _ _ _ _ _ _)
   | (with_reducible exact ih2 _ _ _ _ _ _ _ _ _ _)
   | (with_reducible exact spec_l14Find.mono _ _ _)
   | (with_reducible exact spec_l17Good.mono _ _ _ _)
   | (with_reducible exact LeO.refl _)
   | (with_reducible exact LeO.none _)
   | (with_reducible refine LeO.ite ?_ ?_)
   | (with_reducible refine LeO.bind ?_ (fun _ => ?_))
   | exact ih0 _ _ _ _ _ _ _ _ _ _
   | exact ih1 _ _ _ _ _ _ _ _ _ _
   | exact ih2 _ _ _ _ _ _ _ _ _ _
   | exact spec_l14Find.mono _ _ _
   | exact spec_l17Good.mono _ _ _ _
   | exact LeO.none _
   | refine LeO.ite ?_ ?_
   | refine LeO.bind ?_ (fun _ => ?_)
  ·
   intro y0 y1 y2 y3 y4 y5 y6 y7 y8 y9
   unfold spec_BulletinChanges.l1
   repeat' first
   | (with_reducible exact ih0 _ _ _ _ _ _ _ _ _ _)
   | (with_reducible exact ih1 _ _ _ _ _ _ _ _ _ _)
   | (with_reducible exact ih2 _ _ _ _ _ _ _ _ _ _)
   | (with_reducible exact spec_l14Find.mono _ _ _)
   | (with_reducible exact spec_l17Good.mono _ _ _ _)
   | (with_reducible exact LeO.refl _)
   | (with_reducible exact LeO.none _)
   | (with_reducible refine LeO.ite ?_ ?_)
   | (with_reducible refine LeO.bind ?_ (fun _ => ?_))
   | exact ih0 _ _ _ _ _ _ _ _ _ _
   | exact ih1 _ _ _ _ _ _ _ _ _ _
   | exact ih2 _ _ _ _ _ _ _ _ _ _
   | exact spec_l14Find.mono _ _ _
   | exact spec_l17Good.mono _ _ _ _
   | exact LeO.none _
   | refine LeO.ite ?_ ?_
   | refine LeO.bind ?_ (fun _ => ?_)
theorem spec_BulletinChanges.mono : ∀ a0 a1 a2 a3 a4 a5 k, LeO (spec_BulletinChanges.f k a0 a1 a2 a3 a4 a5) (spec_BulletinChanges.f (k + 1) a0 a1 a2 a3 a4 a5) := by
 intro a0 a1 a2 a3 a4 a5 k
 obtain ⟨ih0, ih1, ih2⟩ := spec_BulletinChanges.mono_l k
 unfold spec_BulletinChanges.f
 repeat' first
   | (with_reducible exact ih0 _ _ _ _ _ _ _ _ _ _)
   | (with_reducible exact ih1 _ _ _ _ _ _ _ _ _ _)
   | (with_reducible exact ih2 _ _ _ _ _ _ _ _ _ _)
   | (with_reducible exact spec_l14Find.mono _ _ _)
   | (with_reducible exact spec_l17Good.mono _ _ _ _)
   | (with_reducible exact LeO.refl _)
   | (with_reducible exact LeO.none _)
   | (with_reducible refine LeO.ite ?_ ?_)
   | (with_reducible refine LeO.bind ?_ (fun _ => ?_))
   | exact ih0 _ _ _ _ _ _ _ _ _ _
   | exact ih1 _ _ _ _ _ _ _ _ _ _
   | exact ih2 _ _ _ _ _ _ _ _ _ _
   | exact spec_l14Find.mono _ _ _
   | exact spec_l17Good.mono _ _ _ _
   | exact LeO.none _
   | refine LeO.ite ?_ ?_
   | refine LeO.bind ?_ (fun _ => ?_)
set_option maxHeartbeats 8000000 in
set_option maxRecDepth 100000 in
theorem spec_BulletinChanges.calls (k : Nat) (a0_0 : Int) (a0_1 : Int) (A0_2 : Option Addr) (c0_2 : Nat) (l0_2 : List (S41)) (a1_0 : Int) (a1_1 : Int) (A1_2 : Option Addr) (c1_2 : Nat) (l1_2 : List (S41)) (r1 : List Int) (r2 : List Int) (r3 : List Int) (r4 : Bool) (w : World) (hr0_2 : Kd.C k41 w A0_2 l0_2.length l0_2) (hc0_2 : l0_2.length ≤ c0_2) (hr1_2 : Kd.C k41 w A1_2 l1_2.length l1_2) (hc1_2 : l1_2.length ≤ c1_2) (h : spec_BulletinChanges.f k a0_0 a0_1 l0_2 a1_0 a1_1 l1_2 = some (r1, r2, r3, r4)) :
  Calls Try.prog 5 #[.agg #[.int .i64 a0_0, .int .i64 a0_1, .slice A0_2 l0_2.length c0_2], .agg #[.int .i64 a1_0, .int .i64 a1_1, .slice A1_2 l1_2.length c1_2]] w fun e w' => ∃ v0_ v1_ v2_ : Value, e = .returned (.tuple #[v0_, v1_, v2_, .bool r4]) ∧ Kd.R (Kd.int .i64) 3 w' w.heap.size (fun k_ => some k_ ≠ (v1_ : Value).ownBlock ∧ some k_ ≠ (v2_ : Value).ownBlock) v0_ r1 ∧ Kd.R (Kd.int .i64) 3 w' w.heap.size (fun k_ => some k_ ≠ (v0_ : Value).ownBlock ∧ some k_ ≠ (v2_ : Value).ownBlock) v1_ r2 ∧ Kd.R (Kd.int .i64) 3 w' w.heap.size (fun k_ => some k_ ≠ (v0_ : Value).ownBlock ∧ some k_ ≠ (v1_ : Value).ownBlock) v2_ r3 ∧ Below w.heap.size w w' := by
 have hu31 := Try.underlying31
 have hu41 := Try.underlying41
 have HR0_2 := Aside0.mk hr0_2
 have HC0_2 := Aside0.mk hc0_2
 clear hr0_2 hc0_2
 have HR1_2 := Aside0.mk hr1_2
 have HC1_2 := Aside0.mk hc1_2
 clear hr1_2 hc1_2
 have HB := Aside0.mk (Below.refl w.heap.size w)
 have H : ((some (([] : List Int) : List Int)).bind fun y126 => ((some (([] : List Int) : List Int)).bind fun y129 => ((some (([] : List Int) : List Int)).bind fun y132 => ((spec_l17Good.f k a0_0 a0_1 l0_2).bind fun t135 => (if t135 = true then ((spec_l17Good.f k a1_0 a1_1 l1_2).bind fun t136 => (spec_BulletinChanges.j0 k y126 y129 y132 (!t136) a0_0 a0_1 l0_2 a1_0 a1_1 l1_2)) else (spec_BulletinChanges.j0 k y126 y129 y132 true a0_0 a0_1 l0_2 a1_0 a1_1 l1_2)))))) = some (r1, r2, r3, r4) := h
 clear h
 obtain ⟨y126, hy126⟩ : ∃ y_ : List Int, y_ = (([] : List Int)) := ⟨_, rfl⟩
 replace H : ((some (([] : List Int) : List Int)).bind fun y129 => ((some (([] : List Int) : List Int)).bind fun y132 => ((spec_l17Good.f k a0_0 a0_1 l0_2).bind fun t135 => (if t135 = true then ((spec_l17Good.f k a1_0 a1_1 l1_2).bind fun t136 => (spec_BulletinChanges.j0 k y126 y129 y132 (!t136) a0_0 a0_1 l0_2 a1_0 a1_1 l1_2)) else (spec_BulletinChanges.j0 k y126 y129 y132 true a0_0 a0_1 l0_2 a1_0 a1_1 l1_2))))) = some (r1, r2, r3, r4) := zqH hy126 H
 have Ny126 := Aside0.mk hy126
 clear hy126
 obtain ⟨y129, hy129⟩ : ∃ y_ : List Int, y_ = (([] : List Int)) := ⟨_, rfl⟩
 replace H : ((some (([] : List Int) : List Int)).bind fun y132 => ((spec_l17Good.f k a0_0 a0_1 l0_2).bind fun t135 => (if t135 = true then ((spec_l17Good.f k a1_0 a1_1 l1_2).bind fun t136 => (spec_BulletinChanges.j0 k y126 y129 y132 (!t136) a0_0 a0_1 l0_2 a1_0 a1_1 l1_2)) else (spec_BulletinChanges.j0 k y126 y129 y132 true a0_0 a0_1 l0_2 a1_0 a1_1 l1_2)))) = some (r1, r2, r3, r4) := zqH hy129 H
 have Ny129 := Aside0.mk hy129
 clear hy129
 obtain ⟨y132, hy132⟩ : ∃ y_ : List Int, y_ = (([] : List Int)) := ⟨_, rfl⟩
 replace H : ((spec_l17Good.f k a0_0 a0_1 l0_2).bind fun t135 => (if t135 = true then ((spec_l17Good.f k a1_0 a1_1 l1_2).bind fun t136 => (spec_BulletinChanges.j0 k y126 y129 y132 (!t136) a0_0 a0_1 l0_2 a1_0 a1_1 l1_2)) else (spec_BulletinChanges.j0 k y126 y129 y132 true a0_0 a0_1 l0_2 a1_0 a1_1 l1_2))) = some (r1, r2, r3, r4) := zqH hy132 H
 have Ny132 := Aside0.mk hy132
 clear hy132
 have HC3 := Aside0.mk H
 clear H
 go_enter Try.func5, Try.ntmps5
 go_upto_region 2 with (first | ((with_reducible refine gate_dst (N := 2) rfl ?_); refine box_event ?hg (N := 2) ?hd (cs := #[.int .i64 a0_0, .int .i64 a0_1, .slice A0_2 l0_2.length c0_2]) (t := 31) ?hr ?_; (case hd => rfl); (case hg => rfl); (case hr => exact zqS); intro gb124 hg w4 hbox hb; have n0_ := Aside0.mk (below_step zq0 hb); have n1_ := Aside0.mk (hbox); have n2_ := Aside0.mk ((by rw [hg]; exact (below_size zq0) : w.heap.size ≤ gb124)); have n3_ := n2_; clear HB; have HB := n0_; have BK124 := n1_; have GW124 := n2_; have GE124 := n3_; clear n0_ n1_ n2_ n3_; clear hb hbox hg) | ((with_reducible refine gate_dst (N := 3) rfl ?_); refine box_event ?hg (N := 3) ?hd (cs := #[.int .i64 a1_0, .int .i64 a1_1, .slice A1_2 l1_2.length c1_2]) (t := 31) ?hr ?_; (case hd => rfl); (case hg => rfl); (case hr => exact zqS); intro gb125 hg w5 hbox hb; have n0_ := Aside0.mk (blk_below (g := gb124) (o := .cells #[.int .i64 a0_0, .int .i64 a0_1, .slice A0_2 l0_2.length c0_2] 31 (0, 0)) (zqK BK124.out) hb); have n1_ := Aside0.mk (below_step zq58 hb); have n2_ := Aside0.mk (hbox); have n3_ := Aside0.mk ((by rw [hg]; exact (below_size zq58) : w.heap.size ≤ gb125)); have n4_ := n3_; have n5_ := Aside0.mk ((by rw [hg]; exact Nat.ne_of_lt (blk_lt (g := gb124) (o := .cells #[.int .i64 a0_0, .int .i64 a0_1, .slice A0_2 l0_2.length c0_2] 31 (0, 0)) (zqK BK124.out)) : gb124 ≠ gb125)); have n6_ := Aside0.mk ((by rw [hg]; exact Nat.ne_of_gt (blk_lt (g := gb124) (o := .cells #[.int .i64 a0_0, .int .i64 a0_1, .slice A0_2 l0_2.length c0_2] 31 (0, 0)) (zqK BK124.out)) : gb125 ≠ gb124)); clear BK124; clear HB; have BK124 := n0_; have HB := n1_; have BK125 := n2_; have GW125 := n3_; have GE125 := n4_; have NB124_125 := n5_; have NB125_124 := n6_; clear n0_ n1_ n2_ n3_ n4_ n5_ n6_; clear hb hbox hg) | ((with_reducible refine gate_dst (N := 15) rfl ?_); refine Kd.R_lit (Kd.int .i64) _ 3 ?hg (N := 15) ?hd (xs := ([] : List Int)) (inner := []) (ok := fun _ => True) (okp := fun _ => True) ?hr ?hp (fun _ hk => hk) trivial (Below.refl _ _) (Nat.le_refl _) (by simp) ?_; (case hd => rfl); (case hg => rfl); (case hr => exact zqS); (case hp => exact (Reps.none _ _)); intro v127 w6 ho7 hb hg_ hnew_; clear hg_ hnew_; (first | rw [← Ny126.out] at ho7 | (simp only [Int.reduceToNat] at ho7; rw [← Ny126.out] at ho7)); have n0_ := Aside0.mk (Kd.R_lower ho7 (below_size zq3)); have n1_ := Aside0.mk (blk_below (g := gb124) (o := .cells #[.int .i64 a0_0, .int .i64 a0_1, .slice A0_2 l0_2.length c0_2] 31 (0, 0)) (zqK BK124.out) hb); have n2_ := Aside0.mk (blk_below (g := gb125) (o := .cells #[.int .i64 a1_0, .int .i64 a1_1, .slice A1_2 l1_2.length c1_2] 31 (0, 0)) (zqK BK125.out) hb); have n3_ := Aside0.mk (below_step zq3 hb); clear BK124; clear BK125; clear HB; have HO128 := n0_; have BK124 := n1_; have BK125 := n2_; have HB := n3_; clear n0_ n1_ n2_ n3_; clear hb ho7) | ((with_reducible refine gate_dst (N := 16) rfl ?_); refine Kd.R_lit (Kd.int .i64) _ 3 ?hg (N := 16) ?hd (xs := ([] : List Int)) (inner := []) (ok := fun _ => True) (okp := fun _ => True) ?hr ?hp (fun _ hk => hk) trivial (Below.refl _ _) (Nat.le_refl _) (by simp) ?_; (case hd => rfl); (case hg => rfl); (case hr => exact zqS); (case hp => exact (Reps.none _ _)); intro v130 w8 ho9 hb hg_ hnew_; clear hg_ hnew_; (first | rw [← Ny129.out] at ho9 | (simp only [Int.reduceToNat] at ho9; rw [← Ny129.out] at ho9)); have n0_ := Aside0.mk (Kd.R_elder' (zqR HO128.out) (Kd.R_base ho9) hb); have n1_ := Aside0.mk (Kd.R_lower (Kd.R_new' ho9 (Kd.R_lt (zqR HO128.out))) (below_size zq3)); have n2_ := Aside0.mk (blk_below (g := gb124) (o := .cells #[.int .i64 a0_0, .int .i64 a0_1, .slice A0_2 l0_2.length c0_2] 31 (0, 0)) (zqK BK124.out) hb); have n3_ := Aside0.mk (blk_below (g := gb125) (o := .cells #[.int .i64 a1_0, .int .i64 a1_1, .slice A1_2 l1_2.length c1_2] 31 (0, 0)) (zqK BK125.out) hb); have n4_ := Aside0.mk (below_step zq3 hb); clear HO128; clear BK124; clear BK125; clear HB; have HO128 := n0_; have HO131 := n1_; have BK124 := n2_; have BK125 := n3_; have HB := n4_; clear n0_ n1_ n2_ n3_ n4_; clear hb ho9) | ((with_reducible refine gate_dst (N := 17) rfl ?_); refine Kd.R_lit (Kd.int .i64) _ 3 ?hg (N := 17) ?hd (xs := ([] : List Int)) (inner := []) (ok := fun _ => True) (okp := fun _ => True) ?hr ?hp (fun _ hk => hk) trivial (Below.refl _ _) (Nat.le_refl _) (by simp) ?_; (case hd => rfl); (case hg => rfl); (case hr => exact zqS); (case hp => exact (Reps.none _ _)); intro v133 w10 ho11 hb hg_ hnew_; clear hg_ hnew_; (first | rw [← Ny132.out] at ho11 | (simp only [Int.reduceToNat] at ho11; rw [← Ny132.out] at ho11)); have n0_ := Aside0.mk (Kd.R_elder' (zqR HO128.out) (Kd.R_base ho11) hb); have n1_ := Aside0.mk (Kd.R_elder' (zqR HO131.out) (Kd.R_base ho11) hb); have n2_ := Aside0.mk (Kd.R_lower (Kd.R_new' (Kd.R_new' ho11 (Kd.R_lt (zqR HO128.out))) (Kd.R_lt (zqR HO131.out))) (below_size zq3)); have n3_ := Aside0.mk (blk_below (g := gb124) (o := .cells #[.int .i64 a0_0, .int .i64 a0_1, .slice A0_2 l0_2.length c0_2] 31 (0, 0)) (zqK BK124.out) hb); have n4_ := Aside0.mk (blk_below (g := gb125) (o := .cells #[.int .i64 a1_0, .int .i64 a1_1, .slice A1_2 l1_2.length c1_2] 31 (0, 0)) (zqK BK125.out) hb); have n5_ := Aside0.mk (below_step zq3 hb); clear HO128; clear HO131; clear BK124; clear BK125; clear HB; have HO128 := n0_; have HO131 := n1_; have HO134 := n2_; have BK124 := n3_; have BK125 := n4_; have HB := n5_; clear n0_ n1_ n2_ n3_ n4_ n5_; clear hb ho11))
 (try simp only [Act.put, List.setIfInBounds_toArray, List.set_cons_zero, List.set_cons_succ])
 go_cut [25] (fun v25 wc => ∃ (kq : Nat) (x25_2 : Bool), v25 = .bool x25_2 ∧ Aside0 (spec_BulletinChanges.j0 kq y126 y129 y132 x25_2 a0_0 a0_1 l0_2 a1_0 a1_1 l1_2 = some (r1, r2, r3, r4)) ∧ Aside0 (kq ≤ k) ∧ Aside0 (Kd.R (Kd.int .i64) 3 wc w.heap.size (fun k_ => some k_ ≠ (v130 : Value).ownBlock ∧ some k_ ≠ (v133 : Value).ownBlock) v127 y126) ∧ Aside0 (Kd.R (Kd.int .i64) 3 wc w.heap.size (fun k_ => some k_ ≠ (v127 : Value).ownBlock ∧ some k_ ≠ (v133 : Value).ownBlock) v130 y129) ∧ Aside0 (Kd.R (Kd.int .i64) 3 wc w.heap.size (fun k_ => some k_ ≠ (v127 : Value).ownBlock ∧ some k_ ≠ (v130 : Value).ownBlock) v133 y132) ∧ Aside0 (wc.heap[gb124]? = some (.cells #[.int .i64 a0_0, .int .i64 a0_1, (.slice A0_2 l0_2.length c0_2)] 31 (0, 0))) ∧ Aside0 (wc.heap[gb125]? = some (.cells #[.int .i64 a1_0, .int .i64 a1_1, (.slice A1_2 l1_2.length c1_2)] 31 (0, 0))) ∧ Aside0 (Below w.heap.size w wc))
 case first =>
  have H := HC3.out
  clear HC3
  replace H := Option.bind_eq_some_iff.mp H
  obtain ⟨t135, A120, H⟩ := H
  replace H : (if t135 = true then ((spec_l17Good.f k a1_0 a1_1 l1_2).bind fun t136 => (spec_BulletinChanges.j0 k y126 y129 y132 (!t136) a0_0 a0_1 l0_2 a1_0 a1_1 l1_2)) else (spec_BulletinChanges.j0 k y126 y129 y132 true a0_0 a0_1 l0_2 a1_0 a1_1 l1_2)) = some (r1, r2, r3, r4) := H
  have A12 := Aside0.mk A120
  clear A120
  by_cases c13 : t135 = true
  case neg =>
   replace c13 := Bool.eq_false_iff.mpr c13
   subst c13
   have H1 : (spec_BulletinChanges.j0 k y126 y129 y132 true a0_0 a0_1 l0_2 a1_0 a1_1 l1_2) = some (r1, r2, r3, r4) := by rw [if_neg (show ¬ (false = true) by decide)] at H; exact H
   clear H
   have H := H1
   clear H1
   have H' := Aside0.mk H
   clear H
   have hnb20 := NB124_125.out
   have hnc20 := NB125_124.out
   have hcz21_0 := bz BK124.out 0 (.int .i64 a0_0)
   have hcz21_1 := bz BK124.out 1 (.int .i64 a0_1)
   have hcz21_2 := bz BK124.out 2 (.slice A0_2 l0_2.length c0_2)
   have hfz21_0 := blk_frozen BK124.out 0
   have hfz21_1 := blk_frozen BK124.out 1
   have hfz21_2 := blk_frozen BK124.out 2
   go_wp2_with (first | (go_at_call 14; (with_reducible refine (spec_l17Good.calls k a0_0 a0_1 _ _ l0_2 false _ ?side1 ?side2 A12.out).mono ?_); (case side1 => exact zqC (Kd.C_below HR0_2.out HB.out)); (case side2 => exact HC0_2.out); rintro e w22 ⟨rfl, hb⟩; have n0_ := Aside0.mk (Kd.R_below (zqR HO128.out) hb); have n1_ := Aside0.mk (Kd.R_below (zqR HO131.out) hb); have n2_ := Aside0.mk (Kd.R_below (zqR HO134.out) hb); have n3_ := Aside0.mk (blk_below (g := gb124) (o := .cells #[.int .i64 a0_0, .int .i64 a0_1, .slice A0_2 l0_2.length c0_2] 31 (0, 0)) (zqK BK124.out) hb); have n4_ := Aside0.mk (blk_below (g := gb125) (o := .cells #[.int .i64 a1_0, .int .i64 a1_1, .slice A1_2 l1_2.length c1_2] 31 (0, 0)) (zqK BK125.out) hb); have n5_ := Aside0.mk (below_step zq3 hb); clear HO128; clear HO131; clear HO134; clear BK124; clear BK125; clear HB; have HO128 := n0_; have HO131 := n1_; have HO134 := n2_; have BK124 := n3_; have BK125 := n4_; have HB := n5_; clear n0_ n1_ n2_ n3_ n4_ n5_; (try clear hb); (try clear hb2); (try clear hk); (try clear hi)))
   go_meet
   case rel => exact ⟨_, (true), (by first | rfl | (simp; done) | (simp [*]; done)), H', ⟨by first | omega | exact Nat.le_refl _⟩, ⟨by (with_reducible repeat (first | apply Kd.R_alloc | apply Kd.R_drewN | apply Kd.R_drew)); exact Kd.R_mono HO128.out (fun _ hk => ⟨hk.1.2, hk.2⟩)⟩, ⟨by (with_reducible repeat (first | apply Kd.R_alloc | apply Kd.R_drewN | apply Kd.R_drew)); exact Kd.R_mono HO131.out (fun _ hk => ⟨hk.1.2, hk.2⟩)⟩, ⟨by (with_reducible repeat (first | apply Kd.R_alloc | apply Kd.R_drewN | apply Kd.R_drew)); exact Kd.R_mono HO134.out (fun _ hk => ⟨hk.1.2, hk.2⟩)⟩, ⟨by (with_reducible repeat (first | refine blk_drewN ?_ _ | refine blk_drew ?_ | refine blk_alloc ?_ _)); exact BK124.out⟩, ⟨by (with_reducible repeat (first | refine blk_drewN ?_ _ | refine blk_drew ?_ | refine blk_alloc ?_ _)); exact BK125.out⟩, ⟨zq3⟩⟩
  subst c13
  have H1 : ((spec_l17Good.f k a1_0 a1_1 l1_2).bind fun t136 => (spec_BulletinChanges.j0 k y126 y129 y132 (!t136) a0_0 a0_1 l0_2 a1_0 a1_1 l1_2)) = some (r1, r2, r3, r4) := by rw [if_pos rfl] at H; exact H
  clear H
  have H := H1
  clear H1
  replace H := Option.bind_eq_some_iff.mp H
  obtain ⟨t136, A140, H⟩ := H
  replace H : (spec_BulletinChanges.j0 k y126 y129 y132 (!t136) a0_0 a0_1 l0_2 a1_0 a1_1 l1_2) = some (r1, r2, r3, r4) := H
  have A14 := Aside0.mk A140
  clear A140
  have H' := Aside0.mk H
  clear H
  have hnb15 := NB124_125.out
  have hnc15 := NB125_124.out
  have hcz16_0 := bz BK124.out 0 (.int .i64 a0_0)
  have hcz16_1 := bz BK124.out 1 (.int .i64 a0_1)
  have hcz16_2 := bz BK124.out 2 (.slice A0_2 l0_2.length c0_2)
  have hfz16_0 := blk_frozen BK124.out 0
  have hfz16_1 := blk_frozen BK124.out 1
  have hfz16_2 := blk_frozen BK124.out 2
  go_wp2_with (first | (go_at_call 14; (with_reducible refine (spec_l17Good.calls k a0_0 a0_1 _ _ l0_2 true _ ?side1 ?side2 A12.out).mono ?_); (case side1 => exact zqC (Kd.C_below HR0_2.out HB.out)); (case side2 => exact HC0_2.out); rintro e w17 ⟨rfl, hb⟩; have n0_ := Aside0.mk (Kd.R_below (zqR HO128.out) hb); have n1_ := Aside0.mk (Kd.R_below (zqR HO131.out) hb); have n2_ := Aside0.mk (Kd.R_below (zqR HO134.out) hb); have n3_ := Aside0.mk (blk_below (g := gb124) (o := .cells #[.int .i64 a0_0, .int .i64 a0_1, .slice A0_2 l0_2.length c0_2] 31 (0, 0)) (zqK BK124.out) hb); have n4_ := Aside0.mk (blk_below (g := gb125) (o := .cells #[.int .i64 a1_0, .int .i64 a1_1, .slice A1_2 l1_2.length c1_2] 31 (0, 0)) (zqK BK125.out) hb); have n5_ := Aside0.mk (below_step zq3 hb); clear HO128; clear HO131; clear HO134; clear BK124; clear BK125; clear HB; have HO128 := n0_; have HO131 := n1_; have HO134 := n2_; have BK124 := n3_; have BK125 := n4_; have HB := n5_; clear n0_ n1_ n2_ n3_ n4_ n5_; (try clear hb); (try clear hb2); (try clear hk); (try clear hi); have hcz18_0 := bz BK125.out 0 (.int .i64 a1_0); have hcz18_1 := bz BK125.out 1 (.int .i64 a1_1); have hcz18_2 := bz BK125.out 2 (.slice A1_2 l1_2.length c1_2); have hfz18_0 := blk_frozen BK125.out 0; have hfz18_1 := blk_frozen BK125.out 1; have hfz18_2 := blk_frozen BK125.out 2) | (go_at_call 14; (with_reducible refine (spec_l17Good.calls k a1_0 a1_1 _ _ l1_2 t136 _ ?side1 ?side2 A14.out).mono ?_); (case side1 => exact zqC (Kd.C_below HR1_2.out HB.out)); (case side2 => exact HC1_2.out); rintro e w19 ⟨rfl, hb⟩; have n0_ := Aside0.mk (Kd.R_below (zqR HO128.out) hb); have n1_ := Aside0.mk (Kd.R_below (zqR HO131.out) hb); have n2_ := Aside0.mk (Kd.R_below (zqR HO134.out) hb); have n3_ := Aside0.mk (blk_below (g := gb124) (o := .cells #[.int .i64 a0_0, .int .i64 a0_1, .slice A0_2 l0_2.length c0_2] 31 (0, 0)) (zqK BK124.out) hb); have n4_ := Aside0.mk (blk_below (g := gb125) (o := .cells #[.int .i64 a1_0, .int .i64 a1_1, .slice A1_2 l1_2.length c1_2] 31 (0, 0)) (zqK BK125.out) hb); have n5_ := Aside0.mk (below_step zq3 hb); clear HO128; clear HO131; clear HO134; clear BK124; clear BK125; clear HB; have HO128 := n0_; have HO131 := n1_; have HO134 := n2_; have BK124 := n3_; have BK125 := n4_; have HB := n5_; clear n0_ n1_ n2_ n3_ n4_ n5_; (try clear hb); (try clear hb2); (try clear hk); (try clear hi)))
  go_meet
  case rel => exact ⟨_, (!t136), (by first | rfl | (simp; done) | (simp [*]; done)), H', ⟨by first | omega | exact Nat.le_refl _⟩, ⟨by (with_reducible repeat (first | apply Kd.R_alloc | apply Kd.R_drewN | apply Kd.R_drew)); exact Kd.R_mono HO128.out (fun _ hk => ⟨hk.1.2, hk.2⟩)⟩, ⟨by (with_reducible repeat (first | apply Kd.R_alloc | apply Kd.R_drewN | apply Kd.R_drew)); exact Kd.R_mono HO131.out (fun _ hk => ⟨hk.1.2, hk.2⟩)⟩, ⟨by (with_reducible repeat (first | apply Kd.R_alloc | apply Kd.R_drewN | apply Kd.R_drew)); exact Kd.R_mono HO134.out (fun _ hk => ⟨hk.1.2, hk.2⟩)⟩, ⟨by (with_reducible repeat (first | refine blk_drewN ?_ _ | refine blk_drew ?_ | refine blk_alloc ?_ _)); exact BK124.out⟩, ⟨by (with_reducible repeat (first | refine blk_drewN ?_ _ | refine blk_drew ?_ | refine blk_alloc ?_ _)); exact BK125.out⟩, ⟨zq3⟩⟩
 clear HC3
 try clear c1
 try clear c2
 try clear p2
 try clear c5
 try clear c13
 try clear c15
 try clear c20
 try clear hcz16_0
 try clear hcz16_1
 try clear hcz16_2
 try clear hcz18_0
 try clear hcz18_1
 try clear hcz18_2
 try clear hcz21_0
 try clear hcz21_1
 try clear hcz21_2
 try clear hfz16_0
 try clear hfz16_1
 try clear hfz16_2
 try clear hfz18_0
 try clear hfz18_1
 try clear hfz18_2
 try clear hfz21_0
 try clear hfz21_1
 try clear hfz21_2
 obtain ⟨kq, x25_2, rfl, HA, HJ2, HO_8, HO_9, HO_10, BK124, BK125, HB⟩ := hcut
 cases kq with
 | zero => exact absurd HA.out (by simp [spec_BulletinChanges.j0])
 | succ kj2 =>
  have H := HA.out
  clear HA
  simp only [spec_BulletinChanges.j0] at H
  by_cases c23 : x25_2 = true
  case pos =>
   subst c23
   have H1 : (some (y126, y129, y132, false)) = some (r1, r2, r3, r4) := by rw [if_pos rfl] at H; exact H
   clear H
   have H := H1
   clear H1
   simp only [Option.some.injEq, Prod.mk.injEq] at H
   obtain ⟨rfl, rfl, rfl, rfl⟩ := H
   go_wp2
   refine bodyPost_ret (results_list (rs := [.tmp 4, .tmp 5, .tmp 6, .tmp 7]) rfl (by simp) (.tmp (.tmp (.tmp (.tmp .nil))))) rfl ?_
   exact ⟨_, _, _, by first | rfl | (simp [errW_none, errW_some] <;> rfl) | (simp [*, errW_none, errW_some] <;> rfl), zqR HO_8.out, zqR HO_9.out, zqR HO_10.out, zq3⟩
  replace c23 := Bool.eq_false_iff.mpr c23
  subst c23
  have H1 : (spec_BulletinChanges.l0 kj2 y126 y129 y132 0 a0_0 a0_1 l0_2 a1_0 a1_1 l1_2) = some (r1, r2, r3, r4) := by rw [if_neg (show ¬ (false = true) by decide)] at H; exact H
  clear H
  have H := H1
  clear H1
  have H' := Aside0.mk H
  clear H
  go_wp2
  go_loopg [8, 10, 11] kj2 (fun kq v8 v10 v11 w' => ∃ (x8_2 : List Int) (x10_2 : List Int) (x11_2 : Int), v11 = .int .i64 x11_2 ∧ Aside0 (spec_BulletinChanges.l0 kq x8_2 y129 x10_2 x11_2 a0_0 a0_1 l0_2 a1_0 a1_1 l1_2 = some (r1, r2, r3, r4)) ∧ Aside0 (kq ≤ kj2) ∧ Aside0 (Kd.R (Kd.int .i64) 3 w' w.heap.size (fun k_ => some k_ ≠ (v130 : Value).ownBlock ∧ some k_ ≠ (v10 : Value).ownBlock) v8 x8_2) ∧ Aside0 (Kd.R (Kd.int .i64) 3 w' w.heap.size (fun k_ => some k_ ≠ (v8 : Value).ownBlock ∧ some k_ ≠ (v10 : Value).ownBlock) v130 y129) ∧ Aside0 (Kd.R (Kd.int .i64) 3 w' w.heap.size (fun k_ => some k_ ≠ (v8 : Value).ownBlock ∧ some k_ ≠ (v130 : Value).ownBlock) v10 x10_2) ∧ Aside0 (w'.heap[gb124]? = some (.cells #[.int .i64 a0_0, .int .i64 a0_1, (.slice A0_2 l0_2.length c0_2)] 31 (0, 0))) ∧ Aside0 (w'.heap[gb125]? = some (.cells #[.int .i64 a1_0, .int .i64 a1_1, (.slice A1_2 l1_2.length c1_2)] 31 (0, 0))) ∧ Aside0 (Below w.heap.size w w'))
  case atStart => exact ⟨(y126), (y132), (0), (by first | rfl | (simp; done) | (simp [*]; done)), H', ⟨Nat.le_refl _⟩, ⟨zqR HO_8.out⟩, ⟨zqR HO_9.out⟩, ⟨zqR HO_10.out⟩, ⟨by (with_reducible repeat (first | refine blk_drewN ?_ _ | refine blk_drew ?_ | refine blk_alloc ?_ _)); exact BK124.out⟩, ⟨by (with_reducible repeat (first | refine blk_drewN ?_ _ | refine blk_drew ?_ | refine blk_alloc ?_ _)); exact BK125.out⟩, ⟨zq3⟩⟩
  clear H'
  try clear c1
  try clear c2
  try clear p2
  try clear c5
  try clear c13
  try clear c15
  try clear c20
  try clear c23
  try clear hcz16_0
  try clear hcz16_1
  try clear hcz16_2
  try clear hcz18_0
  try clear hcz18_1
  try clear hcz18_2
  try clear hcz21_0
  try clear hcz21_1
  try clear hcz21_2
  try clear hfz16_0
  try clear hfz16_1
  try clear hfz16_2
  try clear hfz18_0
  try clear hfz18_1
  try clear hfz18_2
  try clear hfz21_0
  try clear hfz21_1
  try clear hfz21_2
  try clear p2
  obtain ⟨x8_2, x10_2, x11_2, rfl, HA, HK2, HO_8, HO_9, HO_10, BK124, BK125, HB⟩ := hrel
  cases gk with
  | zero => exact absurd HA.out (by simp [spec_BulletinChanges.l0])
  | succ k2 =>
   have H := HA.out
   clear HA
   simp only [spec_BulletinChanges.l0] at H
   by_cases c24 : x11_2 < (l1_2.length : Int)
   case pos =>
    rw [if_pos c24] at H
    have c24b0 : decide (x11_2 < (l1_2.length : Int)) = true := decide_eq_true c24
    clear c24
    by_cases c25 : 0 ≤ x11_2
    case neg =>
     rw [if_neg c25] at H
     exact absurd H (by simp)
    rw [if_pos c25] at H
    have c25b0 : decide (0 ≤ x11_2) = true := decide_eq_true c25
    clear c25
    replace H := Option.bind_eq_some_iff.mp H
    obtain ⟨t139, A260, H⟩ := H
    replace H : (if t139 < 0 then (if x8_2.length < 17592186044416 then (spec_BulletinChanges.l0 k2 (x8_2 ++ [(rd_T41 l1_2 x11_2).f0]) y129 x10_2 (wrap64 (x11_2 + 1)) a0_0 a0_1 l0_2 a1_0 a1_1 l1_2) else (none)) else (if 0 ≤ t139 then (if t139 < (l0_2.length : Int) then (if (!(((rd_T41 l0_2 t139).f0) == ((rd_T41 l1_2 x11_2).f0)) || (!(((rd_T41 l0_2 t139).f1) == ((rd_T41 l1_2 x11_2).f1)) || (!(((rd_T41 l0_2 t139).f2) == ((rd_T41 l1_2 x11_2).f2)) || (!(((rd_T41 l0_2 t139).f3) == ((rd_T41 l1_2 x11_2).f3)) || (!(((rd_T41 l0_2 t139).f4) == ((rd_T41 l1_2 x11_2).f4)) || (!(((rd_T41 l0_2 t139).f5) == ((rd_T41 l1_2 x11_2).f5)))))))) = true then (if x10_2.length < 17592186044416 then (spec_BulletinChanges.l0 k2 x8_2 y129 (x10_2 ++ [(rd_T41 l1_2 x11_2).f0]) (wrap64 (x11_2 + 1)) a0_0 a0_1 l0_2 a1_0 a1_1 l1_2) else (none)) else (spec_BulletinChanges.l0 k2 x8_2 y129 x10_2 (wrap64 (x11_2 + 1)) a0_0 a0_1 l0_2 a1_0 a1_1 l1_2)) else (none)) else (none))) = some (r1, r2, r3, r4) := H
    have A26 := Aside0.mk A260
    clear A260
    by_cases c27 : t139 < 0
    case pos =>
     rw [if_pos c27] at H
     have c27b0 : decide (t139 < 0) = true := decide_eq_true c27
     clear c27
     by_cases c28 : x8_2.length < 17592186044416
     case neg =>
      rw [if_neg c28] at H
      exact absurd H (by simp)
     rw [if_pos c28] at H
     have LMc28 := Aside0.mk c28
     clear c28
     obtain ⟨y140, hy140⟩ : ∃ y_ : List Int, y_ = (x8_2 ++ [(rd_T41 l1_2 x11_2).f0]) := ⟨_, rfl⟩
     replace H : (spec_BulletinChanges.l0 k2 y140 y129 x10_2 (wrap64 (x11_2 + 1)) a0_0 a0_1 l0_2 a1_0 a1_1 l1_2) = some (r1, r2, r3, r4) := zqH hy140 H
     have Ny140 := Aside0.mk hy140
     clear hy140
     have H' := Aside0.mk H
     clear H
     have hnb29 := NB125_124.out
     have hnc29 := NB124_125.out
     have hcz30_0 := bz BK125.out 0 (.int .i64 a1_0)
     have hcz30_1 := bz BK125.out 1 (.int .i64 a1_1)
     have hcz30_2 := bz BK125.out 2 (.slice A1_2 l1_2.length c1_2)
     have hfz30_0 := blk_frozen BK125.out 0
     have hfz30_1 := blk_frozen BK125.out 1
     have hfz30_2 := blk_frozen BK125.out 2
     have p137 : 0 ≤ (x11_2 : Int) := of_decide_eq_true zq4
     have q137 : x11_2 < (l1_2.length : Int) := of_decide_eq_true zq4
     obtain ⟨ad137, e137, hx137_0, hx137_1, hx137_2, hx137_3, hx137_4, hx137_5⟩ := at_T41 HR1_2.out x11_2 p137 q137
     cases e137
     replace hx137_0 := bx HB.out hx137_0
     replace hx137_1 := bx HB.out hx137_1
     replace hx137_2 := bx HB.out hx137_2
     replace hx137_3 := bx HB.out hx137_3
     replace hx137_4 := bx HB.out hx137_4
     replace hx137_5 := bx HB.out hx137_5
     replace p137 := eq_true p137
     replace q137 := eq_true q137
     go_wp2_with (first | ((with_reducible refine gate_dst (N := 12) rfl ?_); refine box_event ?hg (N := 12) ?hd (cs := #[.int .i64 0, .int .i64 0, .int .i64 0, .int .i64 0, .int .i64 0, .int .i64 0]) (t := 41) ?hr ?_; (case hd => rfl); (case hg => rfl); (case hr => exact zqS); intro gb138 hg w31 hbox hb; have n0_ := Aside0.mk (Kd.R_below (zqR HO_8.out) hb); have n1_ := Aside0.mk (Kd.R_below (zqR HO_9.out) hb); have n2_ := Aside0.mk (Kd.R_below (zqR HO_10.out) hb); have n3_ := Aside0.mk (blk_below (g := gb124) (o := .cells #[.int .i64 a0_0, .int .i64 a0_1, .slice A0_2 l0_2.length c0_2] 31 (0, 0)) (zqK BK124.out) hb); have n4_ := Aside0.mk (blk_below (g := gb125) (o := .cells #[.int .i64 a1_0, .int .i64 a1_1, .slice (some ad137) l1_2.length c1_2] 31 (0, 0)) (zqK BK125.out) hb); have n5_ := Aside0.mk (below_step zq3 hb); have n6_ := Aside0.mk (hbox); have n7_ := Aside0.mk ((by rw [hg]; exact (below_size zq3) : w.heap.size ≤ gb138)); have n8_ := n7_; have n9_ := Aside0.mk ((by rw [hg]; exact Nat.ne_of_lt (blk_lt (g := gb124) (o := .cells #[.int .i64 a0_0, .int .i64 a0_1, .slice A0_2 l0_2.length c0_2] 31 (0, 0)) (zqK BK124.out)) : gb124 ≠ gb138)); have n10_ := Aside0.mk ((by rw [hg]; exact Nat.ne_of_gt (blk_lt (g := gb124) (o := .cells #[.int .i64 a0_0, .int .i64 a0_1, .slice A0_2 l0_2.length c0_2] 31 (0, 0)) (zqK BK124.out)) : gb138 ≠ gb124)); have n11_ := Aside0.mk ((by rw [hg]; exact Nat.ne_of_lt (blk_lt (g := gb125) (o := .cells #[.int .i64 a1_0, .int .i64 a1_1, .slice (some ad137) l1_2.length c1_2] 31 (0, 0)) (zqK BK125.out)) : gb125 ≠ gb138)); have n12_ := Aside0.mk ((by rw [hg]; exact Nat.ne_of_gt (blk_lt (g := gb125) (o := .cells #[.int .i64 a1_0, .int .i64 a1_1, .slice (some ad137) l1_2.length c1_2] 31 (0, 0)) (zqK BK125.out)) : gb138 ≠ gb125)); clear HO_8; clear HO_9; clear HO_10; clear BK124; clear BK125; clear HB; have HO_8 := n0_; have HO_9 := n1_; have HO_10 := n2_; have BK124 := n3_; have BK125 := n4_; have HB := n5_; have BK138 := n6_; have GW138 := n7_; have GE138 := n8_; have NB124_138 := n9_; have NB138_124 := n10_; have NB125_138 := n11_; have NB138_125 := n12_; clear n0_ n1_ n2_ n3_ n4_ n5_ n6_ n7_ n8_ n9_ n10_ n11_ n12_; clear hb hbox hg; have hnb32 := NB138_124.out; have hnc32 := NB124_138.out; have hnb33 := NB138_125.out; have hnc33 := NB125_138.out; obtain ⟨hcz34_0, hcz34_1, hcz34_2, hcz34_3, hcz34_4, hcz34_5, hfz34_0, hfz34_1, hfz34_2, hfz34_3, hfz34_4, hfz34_5⟩ := bz6 BK138.out; have hcz35_0 := bz BK124.out 0 (.int .i64 a0_0); have hcz35_1 := bz BK124.out 1 (.int .i64 a0_1); have hcz35_2 := bz BK124.out 2 (.slice A0_2 l0_2.length c0_2); have hfz35_0 := blk_frozen BK124.out 0; have hfz35_1 := blk_frozen BK124.out 1; have hfz35_2 := blk_frozen BK124.out 2) | (go_at_call 15; (with_reducible refine (spec_l14Find.calls k2 _ _ l0_2 ((rd_T41 l1_2 x11_2).f0) t139 _ ?side1 ?side2 A26.out).mono ?_); (case side1 => exact Kd.C_below HR0_2.out zq13); (case side2 => exact HC0_2.out); rintro e w' ⟨rfl, ⟨nd, rfl⟩⟩; (try first | exact ⟨rfl, _, World.drewN_drewN _ _ _⟩ | exact ⟨rfl, _, Eq.trans (World.drewN_drewN _ _ _) (congrArg (World.drewN _) (Nat.add_assoc _ _ _))⟩)) | ((with_reducible refine gate_builtin (b := .append) (xs := #[.tmp 48, .tmp 51]) rfl ?_); at_builtin; refine Kd.R_append (Kd.int .i64) (w0 := w) w.heap.size rfl (.tmp 48) (.tmp 51) 26 3 (.int .i64 0) 8 rfl Try.underlying26 info3 rfl (by decide) (by omega) u8 x8_2 ((rd_T41 l1_2 x11_2).f0) [.int .i64 ((rd_T41 l1_2 x11_2).f0)] (fun k_ => some k_ ≠ (v130 : Value).ownBlock ∧ some k_ ≠ (u10 : Value).ownBlock) (fun _ => False) rfl (by first | (go_simp; done) | (go_simp; rfl)) ?aP (fun _ hk => hk.elim) ?aF ?aO ?aB ?aS ?aL ?_; (case aP => exact rfl); (case aB => exact zq13); (case aF => exact (fun k_ hk => ⟨Kd.fresh' (Kd.R_lt zq19) k_ hk, Kd.fresh' (Kd.R_lt (by (with_reducible repeat (first | apply Kd.R_alloc | apply Kd.R_drewN | apply Kd.R_drew)); exact (Kd.R_mono (Kd.R_far (p := ⟨gb138, 5, none⟩) (Kd.R_far (p := ⟨gb138, 4, none⟩) (Kd.R_far (p := ⟨gb138, 3, none⟩) (Kd.R_far (p := ⟨gb138, 2, none⟩) (Kd.R_far (p := ⟨gb138, 1, none⟩) (Kd.R_far (p := ⟨gb138, 0, none⟩) (Kd.R_types HO_10.out BK138.out (by decide)) (fun _ hk => hk.2) (.int .i64 ((rd_T41 l1_2 x11_2).f0))) (fun _ hk => hk.2) (.int .i64 ((rd_T41 l1_2 x11_2).f1))) (fun _ hk => hk.2) (.int .i64 ((rd_T41 l1_2 x11_2).f2))) (fun _ hk => hk.2) (.int .i64 ((rd_T41 l1_2 x11_2).f3))) (fun _ hk => hk.2) (.int .i64 ((rd_T41 l1_2 x11_2).f4))) (fun _ hk => hk.2) (.int .i64 ((rd_T41 l1_2 x11_2).f5))) (fun _ h_ => h_.1)))) k_ hk⟩)); (case aO => exact zq18); (case aS => exact (below_size zq13)); (case aL => have := LMc28.out; omega); intro v141 w36 ho hb hg hat; rw [← Ny140.out] at ho; have n0_ := Aside0.mk (Kd.R_after (ok := (fun k_ => some k_ ≠ (u10 : Value).ownBlock)) (by (with_reducible repeat (first | apply Kd.R_alloc | apply Kd.R_drewN | apply Kd.R_drew)); exact Kd.R_mono (Kd.R_far (p := ⟨gb138, 5, none⟩) (Kd.R_far (p := ⟨gb138, 4, none⟩) (Kd.R_far (p := ⟨gb138, 3, none⟩) (Kd.R_far (p := ⟨gb138, 2, none⟩) (Kd.R_far (p := ⟨gb138, 1, none⟩) (Kd.R_far (p := ⟨gb138, 0, none⟩) (Kd.R_types HO_9.out BK138.out (by decide)) (fun _ hk => hk.2) (.int .i64 ((rd_T41 l1_2 x11_2).f0))) (fun _ hk => hk.2) (.int .i64 ((rd_T41 l1_2 x11_2).f1))) (fun _ hk => hk.2) (.int .i64 ((rd_T41 l1_2 x11_2).f2))) (fun _ hk => hk.2) (.int .i64 ((rd_T41 l1_2 x11_2).f3))) (fun _ hk => hk.2) (.int .i64 ((rd_T41 l1_2 x11_2).f4))) (fun _ hk => hk.2) (.int .i64 ((rd_T41 l1_2 x11_2).f5))) (fun _ hk => ⟨hk.1.2, hk.1.1⟩)) hg hat); have n1_ := Aside0.mk (Kd.R_after (ok := (fun k_ => some k_ ≠ (v130 : Value).ownBlock)) (by (with_reducible repeat (first | apply Kd.R_alloc | apply Kd.R_drewN | apply Kd.R_drew)); exact Kd.R_mono (Kd.R_far (p := ⟨gb138, 5, none⟩) (Kd.R_far (p := ⟨gb138, 4, none⟩) (Kd.R_far (p := ⟨gb138, 3, none⟩) (Kd.R_far (p := ⟨gb138, 2, none⟩) (Kd.R_far (p := ⟨gb138, 1, none⟩) (Kd.R_far (p := ⟨gb138, 0, none⟩) (Kd.R_types HO_10.out BK138.out (by decide)) (fun _ hk => hk.2) (.int .i64 ((rd_T41 l1_2 x11_2).f0))) (fun _ hk => hk.2) (.int .i64 ((rd_T41 l1_2 x11_2).f1))) (fun _ hk => hk.2) (.int .i64 ((rd_T41 l1_2 x11_2).f2))) (fun _ hk => hk.2) (.int .i64 ((rd_T41 l1_2 x11_2).f3))) (fun _ hk => hk.2) (.int .i64 ((rd_T41 l1_2 x11_2).f4))) (fun _ hk => hk.2) (.int .i64 ((rd_T41 l1_2 x11_2).f5))) (fun _ hk => ⟨hk.1.2, hk.1.1⟩)) hg hat); have n2_ := Aside0.mk (blk_grown (g := gb124) (o := .cells #[.int .i64 a0_0, .int .i64 a0_1, .slice A0_2 l0_2.length c0_2] 31 (0, 0)) zq16 hg (Kd.R_ne HO_8.out BK124.out (by decide))); have n3_ := Aside0.mk (blk_grown (g := gb125) (o := .cells #[.int .i64 a1_0, .int .i64 a1_1, .slice (some ad137) l1_2.length c1_2] 31 (0, 0)) zq17 hg (Kd.R_ne HO_8.out BK125.out (by decide))); have n4_ := Aside0.mk (blk_grown (g := gb138) (o := .cells #[.int .i64 ((rd_T41 l1_2 x11_2).f0), .int .i64 ((rd_T41 l1_2 x11_2).f1), .int .i64 ((rd_T41 l1_2 x11_2).f2), .int .i64 ((rd_T41 l1_2 x11_2).f3), .int .i64 ((rd_T41 l1_2 x11_2).f4), .int .i64 ((rd_T41 l1_2 x11_2).f5)] 41 (0, 0)) zq10 hg (Kd.R_ne HO_8.out BK138.out (by decide))); have n5_ := Aside0.mk (hb); have n6_ := Aside0.mk (ho); clear HO_9; clear HO_10; clear BK124; clear BK125; clear BK138; clear HB; clear HO_8; have HO_9 := n0_; have HO_10 := n1_; have BK124 := n2_; have BK125 := n3_; have BK138 := n4_; have HB := n5_; have HO142 := n6_; clear n0_ n1_ n2_ n3_ n4_ n5_ n6_; clear ho hb hg hat))
     go_roundg k2
     case measure => have := HJ2.out; have := HK2.out; omega
     case rel => exact ⟨(y140), (x10_2), (wrap64 (x11_2 + 1)), (by first | rfl | (simp; done) | (simp [*]; done)), H', ⟨by have := HJ2.out; have := HK2.out; omega⟩, ⟨zqR HO142.out⟩, ⟨by (with_reducible repeat (first | apply Kd.R_alloc | apply Kd.R_drewN | apply Kd.R_drew)); exact Kd.R_mono HO_9.out (fun _ hk => ⟨hk.2, hk.1⟩)⟩, ⟨by (with_reducible repeat (first | apply Kd.R_alloc | apply Kd.R_drewN | apply Kd.R_drew)); exact Kd.R_mono HO_10.out (fun _ hk => ⟨hk.2, hk.1⟩)⟩, ⟨by (with_reducible repeat (first | refine blk_drewN ?_ _ | refine blk_drew ?_ | refine blk_alloc ?_ _)); exact BK124.out⟩, ⟨by (with_reducible repeat (first | refine blk_drewN ?_ _ | refine blk_drew ?_ | refine blk_alloc ?_ _)); exact BK125.out⟩, ⟨zq13⟩⟩
    rw [if_neg c27] at H
    have c27b0 : decide (t139 < 0) = false := decide_eq_false c27
    clear c27
    by_cases c37 : 0 ≤ t139
    case neg =>
     rw [if_neg c37] at H
     exact absurd H (by simp)
    rw [if_pos c37] at H
    have c37b0 : decide (0 ≤ t139) = true := decide_eq_true c37
    clear c37
    by_cases c38 : t139 < (l0_2.length : Int)
    case neg =>
     rw [if_neg c38] at H
     exact absurd H (by simp)
    rw [if_pos c38] at H
    have c38b0 : decide (t139 < (l0_2.length : Int)) = true := decide_eq_true c38
    clear c38
    by_cases c39 : (!(((rd_T41 l0_2 t139).f0) == ((rd_T41 l1_2 x11_2).f0)) || (!(((rd_T41 l0_2 t139).f1) == ((rd_T41 l1_2 x11_2).f1)) || (!(((rd_T41 l0_2 t139).f2) == ((rd_T41 l1_2 x11_2).f2)) || (!(((rd_T41 l0_2 t139).f3) == ((rd_T41 l1_2 x11_2).f3)) || (!(((rd_T41 l0_2 t139).f4) == ((rd_T41 l1_2 x11_2).f4)) || (!(((rd_T41 l0_2 t139).f5) == ((rd_T41 l1_2 x11_2).f5)))))))) = true
    case neg =>
     rw [if_neg c39] at H
     have c39b0 : (!(((rd_T41 l0_2 t139).f0) == ((rd_T41 l1_2 x11_2).f0)) || (!(((rd_T41 l0_2 t139).f1) == ((rd_T41 l1_2 x11_2).f1)) || (!(((rd_T41 l0_2 t139).f2) == ((rd_T41 l1_2 x11_2).f2)) || (!(((rd_T41 l0_2 t139).f3) == ((rd_T41 l1_2 x11_2).f3)) || (!(((rd_T41 l0_2 t139).f4) == ((rd_T41 l1_2 x11_2).f4)) || (!(((rd_T41 l0_2 t139).f5) == ((rd_T41 l1_2 x11_2).f5)))))))) = false := by simpa using c39
     clear c39
     have H' := Aside0.mk H
     clear H
     have hnb49 := NB125_124.out
     have hnc49 := NB124_125.out
     have hcz50_0 := bz BK125.out 0 (.int .i64 a1_0)
     have hcz50_1 := bz BK125.out 1 (.int .i64 a1_1)
     have hcz50_2 := bz BK125.out 2 (.slice A1_2 l1_2.length c1_2)
     have hfz50_0 := blk_frozen BK125.out 0
     have hfz50_1 := blk_frozen BK125.out 1
     have hfz50_2 := blk_frozen BK125.out 2
     have p137 : 0 ≤ (x11_2 : Int) := of_decide_eq_true zq4
     have q137 : x11_2 < (l1_2.length : Int) := of_decide_eq_true zq4
     obtain ⟨ad137, e137, hx137_0, hx137_1, hx137_2, hx137_3, hx137_4, hx137_5⟩ := at_T41 HR1_2.out x11_2 p137 q137
     cases e137
     replace hx137_0 := bx HB.out hx137_0
     replace hx137_1 := bx HB.out hx137_1
     replace hx137_2 := bx HB.out hx137_2
     replace hx137_3 := bx HB.out hx137_3
     replace hx137_4 := bx HB.out hx137_4
     replace hx137_5 := bx HB.out hx137_5
     replace p137 := eq_true p137
     replace q137 := eq_true q137
     go_wp2_with (first | ((with_reducible refine gate_dst (N := 12) rfl ?_); refine box_event ?hg (N := 12) ?hd (cs := #[.int .i64 0, .int .i64 0, .int .i64 0, .int .i64 0, .int .i64 0, .int .i64 0]) (t := 41) ?hr ?_; (case hd => rfl); (case hg => rfl); (case hr => exact zqS); intro gb138 hg w51 hbox hb; have n0_ := Aside0.mk (Kd.R_below (zqR HO_8.out) hb); have n1_ := Aside0.mk (Kd.R_below (zqR HO_9.out) hb); have n2_ := Aside0.mk (Kd.R_below (zqR HO_10.out) hb); have n3_ := Aside0.mk (blk_below (g := gb124) (o := .cells #[.int .i64 a0_0, .int .i64 a0_1, .slice A0_2 l0_2.length c0_2] 31 (0, 0)) (zqK BK124.out) hb); have n4_ := Aside0.mk (blk_below (g := gb125) (o := .cells #[.int .i64 a1_0, .int .i64 a1_1, .slice (some ad137) l1_2.length c1_2] 31 (0, 0)) (zqK BK125.out) hb); have n5_ := Aside0.mk (below_step zq3 hb); have n6_ := Aside0.mk (hbox); have n7_ := Aside0.mk ((by rw [hg]; exact (below_size zq3) : w.heap.size ≤ gb138)); have n8_ := n7_; have n9_ := Aside0.mk ((by rw [hg]; exact Nat.ne_of_lt (blk_lt (g := gb124) (o := .cells #[.int .i64 a0_0, .int .i64 a0_1, .slice A0_2 l0_2.length c0_2] 31 (0, 0)) (zqK BK124.out)) : gb124 ≠ gb138)); have n10_ := Aside0.mk ((by rw [hg]; exact Nat.ne_of_gt (blk_lt (g := gb124) (o := .cells #[.int .i64 a0_0, .int .i64 a0_1, .slice A0_2 l0_2.length c0_2] 31 (0, 0)) (zqK BK124.out)) : gb138 ≠ gb124)); have n11_ := Aside0.mk ((by rw [hg]; exact Nat.ne_of_lt (blk_lt (g := gb125) (o := .cells #[.int .i64 a1_0, .int .i64 a1_1, .slice (some ad137) l1_2.length c1_2] 31 (0, 0)) (zqK BK125.out)) : gb125 ≠ gb138)); have n12_ := Aside0.mk ((by rw [hg]; exact Nat.ne_of_gt (blk_lt (g := gb125) (o := .cells #[.int .i64 a1_0, .int .i64 a1_1, .slice (some ad137) l1_2.length c1_2] 31 (0, 0)) (zqK BK125.out)) : gb138 ≠ gb125)); clear HO_8; clear HO_9; clear HO_10; clear BK124; clear BK125; clear HB; have HO_8 := n0_; have HO_9 := n1_; have HO_10 := n2_; have BK124 := n3_; have BK125 := n4_; have HB := n5_; have BK138 := n6_; have GW138 := n7_; have GE138 := n8_; have NB124_138 := n9_; have NB138_124 := n10_; have NB125_138 := n11_; have NB138_125 := n12_; clear n0_ n1_ n2_ n3_ n4_ n5_ n6_ n7_ n8_ n9_ n10_ n11_ n12_; clear hb hbox hg; have hnb52 := NB138_124.out; have hnc52 := NB124_138.out; have hnb53 := NB138_125.out; have hnc53 := NB125_138.out; obtain ⟨hcz54_0, hcz54_1, hcz54_2, hcz54_3, hcz54_4, hcz54_5, hfz54_0, hfz54_1, hfz54_2, hfz54_3, hfz54_4, hfz54_5⟩ := bz6 BK138.out; have hcz55_0 := bz BK124.out 0 (.int .i64 a0_0); have hcz55_1 := bz BK124.out 1 (.int .i64 a0_1); have hcz55_2 := bz BK124.out 2 (.slice A0_2 l0_2.length c0_2); have hfz55_0 := blk_frozen BK124.out 0; have hfz55_1 := blk_frozen BK124.out 1; have hfz55_2 := blk_frozen BK124.out 2) | (go_at_call 15; (with_reducible refine (spec_l14Find.calls k2 _ _ l0_2 ((rd_T41 l1_2 x11_2).f0) t139 _ ?side1 ?side2 A26.out).mono ?_); (case side1 => exact Kd.C_below HR0_2.out zq13); (case side2 => exact HC0_2.out); rintro e w' ⟨rfl, ⟨nd, rfl⟩⟩; (try first | exact ⟨rfl, _, World.drewN_drewN _ _ _⟩ | exact ⟨rfl, _, Eq.trans (World.drewN_drewN _ _ _) (congrArg (World.drewN _) (Nat.add_assoc _ _ _))⟩); all_goals (have p143 : 0 ≤ (t139 : Int) := of_decide_eq_true zq4; have q143 : t139 < (l0_2.length : Int) := of_decide_eq_true zq4; obtain ⟨ad143, e143, hx143_0, hx143_1, hx143_2, hx143_3, hx143_4, hx143_5⟩ := at_T41 HR0_2.out t139 p143 q143; cases e143; have hn143_0 : ad143.block ≠ gb138 := Nat.ne_of_lt (Nat.lt_of_lt_of_le (by have := World.block_lt_of_cell? _ _ hx143_0; first | rwa [add_block] at this | exact this) GW138.out); have hn143_1 : ad143.block ≠ gb138 := Nat.ne_of_lt (Nat.lt_of_lt_of_le (by have := World.block_lt_of_cell? _ _ hx143_0; first | rwa [add_block] at this | exact this) GW138.out); have hn143_2 : ad143.block ≠ gb138 := Nat.ne_of_lt (Nat.lt_of_lt_of_le (by have := World.block_lt_of_cell? _ _ hx143_0; first | rwa [add_block] at this | exact this) GW138.out); have hn143_3 : ad143.block ≠ gb138 := Nat.ne_of_lt (Nat.lt_of_lt_of_le (by have := World.block_lt_of_cell? _ _ hx143_0; first | rwa [add_block] at this | exact this) GW138.out); have hn143_4 : ad143.block ≠ gb138 := Nat.ne_of_lt (Nat.lt_of_lt_of_le (by have := World.block_lt_of_cell? _ _ hx143_0; first | rwa [add_block] at this | exact this) GW138.out); have hn143_5 : ad143.block ≠ gb138 := Nat.ne_of_lt (Nat.lt_of_lt_of_le (by have := World.block_lt_of_cell? _ _ hx143_0; first | rwa [add_block] at this | exact this) GW138.out); replace hx143_0 := bx HB.out hx143_0; replace hx143_1 := bx HB.out hx143_1; replace hx143_2 := bx HB.out hx143_2; replace hx143_3 := bx HB.out hx143_3; replace hx143_4 := bx HB.out hx143_4; replace hx143_5 := bx HB.out hx143_5; replace hx143_0 := far6b hx143_0 (by first | (rw [add_block]; exact hn143_0) | (show (Addr.add _ _).block ≠ _; rw [add_block]; exact hn143_0) | exact hn143_0) (.int .i64 ((rd_T41 l1_2 x11_2).f0)) (.int .i64 ((rd_T41 l1_2 x11_2).f1)) (.int .i64 ((rd_T41 l1_2 x11_2).f2)) (.int .i64 ((rd_T41 l1_2 x11_2).f3)) (.int .i64 ((rd_T41 l1_2 x11_2).f4)) (.int .i64 ((rd_T41 l1_2 x11_2).f5)); replace hx143_1 := far6b hx143_1 (by first | (rw [add_block]; exact hn143_0) | (show (Addr.add _ _).block ≠ _; rw [add_block]; exact hn143_0) | exact hn143_0) (.int .i64 ((rd_T41 l1_2 x11_2).f0)) (.int .i64 ((rd_T41 l1_2 x11_2).f1)) (.int .i64 ((rd_T41 l1_2 x11_2).f2)) (.int .i64 ((rd_T41 l1_2 x11_2).f3)) (.int .i64 ((rd_T41 l1_2 x11_2).f4)) (.int .i64 ((rd_T41 l1_2 x11_2).f5)); replace hx143_2 := far6b hx143_2 (by first | (rw [add_block]; exact hn143_0) | (show (Addr.add _ _).block ≠ _; rw [add_block]; exact hn143_0) | exact hn143_0) (.int .i64 ((rd_T41 l1_2 x11_2).f0)) (.int .i64 ((rd_T41 l1_2 x11_2).f1)) (.int .i64 ((rd_T41 l1_2 x11_2).f2)) (.int .i64 ((rd_T41 l1_2 x11_2).f3)) (.int .i64 ((rd_T41 l1_2 x11_2).f4)) (.int .i64 ((rd_T41 l1_2 x11_2).f5)); replace hx143_3 := far6b hx143_3 (by first | (rw [add_block]; exact hn143_0) | (show (Addr.add _ _).block ≠ _; rw [add_block]; exact hn143_0) | exact hn143_0) (.int .i64 ((rd_T41 l1_2 x11_2).f0)) (.int .i64 ((rd_T41 l1_2 x11_2).f1)) (.int .i64 ((rd_T41 l1_2 x11_2).f2)) (.int .i64 ((rd_T41 l1_2 x11_2).f3)) (.int .i64 ((rd_T41 l1_2 x11_2).f4)) (.int .i64 ((rd_T41 l1_2 x11_2).f5)); replace hx143_4 := far6b hx143_4 (by first | (rw [add_block]; exact hn143_0) | (show (Addr.add _ _).block ≠ _; rw [add_block]; exact hn143_0) | exact hn143_0) (.int .i64 ((rd_T41 l1_2 x11_2).f0)) (.int .i64 ((rd_T41 l1_2 x11_2).f1)) (.int .i64 ((rd_T41 l1_2 x11_2).f2)) (.int .i64 ((rd_T41 l1_2 x11_2).f3)) (.int .i64 ((rd_T41 l1_2 x11_2).f4)) (.int .i64 ((rd_T41 l1_2 x11_2).f5)); replace hx143_5 := far6b hx143_5 (by first | (rw [add_block]; exact hn143_0) | (show (Addr.add _ _).block ≠ _; rw [add_block]; exact hn143_0) | exact hn143_0) (.int .i64 ((rd_T41 l1_2 x11_2).f0)) (.int .i64 ((rd_T41 l1_2 x11_2).f1)) (.int .i64 ((rd_T41 l1_2 x11_2).f2)) (.int .i64 ((rd_T41 l1_2 x11_2).f3)) (.int .i64 ((rd_T41 l1_2 x11_2).f4)) (.int .i64 ((rd_T41 l1_2 x11_2).f5)); (try have hy143_0 := fun (n_ : Nat) => (far6n hx143_0 (by first | (rw [add_block]; exact hn143_0) | (show (Addr.add _ _).block ≠ _; rw [add_block]; exact hn143_0) | exact hn143_0) n_)); (try have hy143_1 := fun (n_ : Nat) => (far6n hx143_1 (by first | (rw [add_block]; exact hn143_0) | (show (Addr.add _ _).block ≠ _; rw [add_block]; exact hn143_0) | exact hn143_0) n_)); (try have hy143_2 := fun (n_ : Nat) => (far6n hx143_2 (by first | (rw [add_block]; exact hn143_0) | (show (Addr.add _ _).block ≠ _; rw [add_block]; exact hn143_0) | exact hn143_0) n_)); (try have hy143_3 := fun (n_ : Nat) => (far6n hx143_3 (by first | (rw [add_block]; exact hn143_0) | (show (Addr.add _ _).block ≠ _; rw [add_block]; exact hn143_0) | exact hn143_0) n_)); (try have hy143_4 := fun (n_ : Nat) => (far6n hx143_4 (by first | (rw [add_block]; exact hn143_0) | (show (Addr.add _ _).block ≠ _; rw [add_block]; exact hn143_0) | exact hn143_0) n_)); (try have hy143_5 := fun (n_ : Nat) => (far6n hx143_5 (by first | (rw [add_block]; exact hn143_0) | (show (Addr.add _ _).block ≠ _; rw [add_block]; exact hn143_0) | exact hn143_0) n_)); clear hn143_0; clear hn143_1; clear hn143_2; clear hn143_3; clear hn143_4; clear hn143_5; replace p143 := eq_true p143; replace q143 := eq_true q143)))
     repeat (go_quiet (first | ((with_reducible refine gate_dst (N := 12) rfl ?_); refine box_event ?hg (N := 12) ?hd (cs := #[.int .i64 0, .int .i64 0, .int .i64 0, .int .i64 0, .int .i64 0, .int .i64 0]) (t := 41) ?hr ?_; (case hd => rfl); (case hg => rfl); (case hr => exact zqS); intro gb138 hg w51 hbox hb; have n0_ := Aside0.mk (Kd.R_below (zqR HO_8.out) hb); have n1_ := Aside0.mk (Kd.R_below (zqR HO_9.out) hb); have n2_ := Aside0.mk (Kd.R_below (zqR HO_10.out) hb); have n3_ := Aside0.mk (blk_below (g := gb124) (o := .cells #[.int .i64 a0_0, .int .i64 a0_1, .slice A0_2 l0_2.length c0_2] 31 (0, 0)) (zqK BK124.out) hb); have n4_ := Aside0.mk (blk_below (g := gb125) (o := .cells #[.int .i64 a1_0, .int .i64 a1_1, .slice (some ad137) l1_2.length c1_2] 31 (0, 0)) (zqK BK125.out) hb); have n5_ := Aside0.mk (below_step zq3 hb); have n6_ := Aside0.mk (hbox); have n7_ := Aside0.mk ((by rw [hg]; exact (below_size zq3) : w.heap.size ≤ gb138)); have n8_ := n7_; have n9_ := Aside0.mk ((by rw [hg]; exact Nat.ne_of_lt (blk_lt (g := gb124) (o := .cells #[.int .i64 a0_0, .int .i64 a0_1, .slice A0_2 l0_2.length c0_2] 31 (0, 0)) (zqK BK124.out)) : gb124 ≠ gb138)); have n10_ := Aside0.mk ((by rw [hg]; exact Nat.ne_of_gt (blk_lt (g := gb124) (o := .cells #[.int .i64 a0_0, .int .i64 a0_1, .slice A0_2 l0_2.length c0_2] 31 (0, 0)) (zqK BK124.out)) : gb138 ≠ gb124)); have n11_ := Aside0.mk ((by rw [hg]; exact Nat.ne_of_lt (blk_lt (g := gb125) (o := .cells #[.int .i64 a1_0, .int .i64 a1_1, .slice (some ad137) l1_2.length c1_2] 31 (0, 0)) (zqK BK125.out)) : gb125 ≠ gb138)); have n12_ := Aside0.mk ((by rw [hg]; exact Nat.ne_of_gt (blk_lt (g := gb125) (o := .cells #[.int .i64 a1_0, .int .i64 a1_1, .slice (some ad137) l1_2.length c1_2] 31 (0, 0)) (zqK BK125.out)) : gb138 ≠ gb125)); clear HO_8; clear HO_9; clear HO_10; clear BK124; clear BK125; clear HB; have HO_8 := n0_; have HO_9 := n1_; have HO_10 := n2_; have BK124 := n3_; have BK125 := n4_; have HB := n5_; have BK138 := n6_; have GW138 := n7_; have GE138 := n8_; have NB124_138 := n9_; have NB138_124 := n10_; have NB125_138 := n11_; have NB138_125 := n12_; clear n0_ n1_ n2_ n3_ n4_ n5_ n6_ n7_ n8_ n9_ n10_ n11_ n12_; clear hb hbox hg; have hnb52 := NB138_124.out; have hnc52 := NB124_138.out; have hnb53 := NB138_125.out; have hnc53 := NB125_138.out; obtain ⟨hcz54_0, hcz54_1, hcz54_2, hcz54_3, hcz54_4, hcz54_5, hfz54_0, hfz54_1, hfz54_2, hfz54_3, hfz54_4, hfz54_5⟩ := bz6 BK138.out; have hcz55_0 := bz BK124.out 0 (.int .i64 a0_0); have hcz55_1 := bz BK124.out 1 (.int .i64 a0_1); have hcz55_2 := bz BK124.out 2 (.slice A0_2 l0_2.length c0_2); have hfz55_0 := blk_frozen BK124.out 0; have hfz55_1 := blk_frozen BK124.out 1; have hfz55_2 := blk_frozen BK124.out 2) | (go_at_call 15; (with_reducible refine (spec_l14Find.calls k2 _ _ l0_2 ((rd_T41 l1_2 x11_2).f0) t139 _ ?side1 ?side2 A26.out).mono ?_); (case side1 => exact Kd.C_below HR0_2.out zq13); (case side2 => exact HC0_2.out); rintro e w' ⟨rfl, ⟨nd, rfl⟩⟩; (try first | exact ⟨rfl, _, World.drewN_drewN _ _ _⟩ | exact ⟨rfl, _, Eq.trans (World.drewN_drewN _ _ _) (congrArg (World.drewN _) (Nat.add_assoc _ _ _))⟩); all_goals (have p143 : 0 ≤ (t139 : Int) := of_decide_eq_true zq4; have q143 : t139 < (l0_2.length : Int) := of_decide_eq_true zq4; obtain ⟨ad143, e143, hx143_0, hx143_1, hx143_2, hx143_3, hx143_4, hx143_5⟩ := at_T41 HR0_2.out t139 p143 q143; cases e143; have hn143_0 : ad143.block ≠ gb138 := Nat.ne_of_lt (Nat.lt_of_lt_of_le (by have := World.block_lt_of_cell? _ _ hx143_0; first | rwa [add_block] at this | exact this) GW138.out); have hn143_1 : ad143.block ≠ gb138 := Nat.ne_of_lt (Nat.lt_of_lt_of_le (by have := World.block_lt_of_cell? _ _ hx143_0; first | rwa [add_block] at this | exact this) GW138.out); have hn143_2 : ad143.block ≠ gb138 := Nat.ne_of_lt (Nat.lt_of_lt_of_le (by have := World.block_lt_of_cell? _ _ hx143_0; first | rwa [add_block] at this | exact this) GW138.out); have hn143_3 : ad143.block ≠ gb138 := Nat.ne_of_lt (Nat.lt_of_lt_of_le (by have := World.block_lt_of_cell? _ _ hx143_0; first | rwa [add_block] at this | exact this) GW138.out); have hn143_4 : ad143.block ≠ gb138 := Nat.ne_of_lt (Nat.lt_of_lt_of_le (by have := World.block_lt_of_cell? _ _ hx143_0; first | rwa [add_block] at this | exact this) GW138.out); have hn143_5 : ad143.block ≠ gb138 := Nat.ne_of_lt (Nat.lt_of_lt_of_le (by have := World.block_lt_of_cell? _ _ hx143_0; first | rwa [add_block] at this | exact this) GW138.out); replace hx143_0 := bx HB.out hx143_0; replace hx143_1 := bx HB.out hx143_1; replace hx143_2 := bx HB.out hx143_2; replace hx143_3 := bx HB.out hx143_3; replace hx143_4 := bx HB.out hx143_4; replace hx143_5 := bx HB.out hx143_5; replace hx143_0 := far6b hx143_0 (by first | (rw [add_block]; exact hn143_0) | (show (Addr.add _ _).block ≠ _; rw [add_block]; exact hn143_0) | exact hn143_0) (.int .i64 ((rd_T41 l1_2 x11_2).f0)) (.int .i64 ((rd_T41 l1_2 x11_2).f1)) (.int .i64 ((rd_T41 l1_2 x11_2).f2)) (.int .i64 ((rd_T41 l1_2 x11_2).f3)) (.int .i64 ((rd_T41 l1_2 x11_2).f4)) (.int .i64 ((rd_T41 l1_2 x11_2).f5)); replace hx143_1 := far6b hx143_1 (by first | (rw [add_block]; exact hn143_0) | (show (Addr.add _ _).block ≠ _; rw [add_block]; exact hn143_0) | exact hn143_0) (.int .i64 ((rd_T41 l1_2 x11_2).f0)) (.int .i64 ((rd_T41 l1_2 x11_2).f1)) (.int .i64 ((rd_T41 l1_2 x11_2).f2)) (.int .i64 ((rd_T41 l1_2 x11_2).f3)) (.int .i64 ((rd_T41 l1_2 x11_2).f4)) (.int .i64 ((rd_T41 l1_2 x11_2).f5)); replace hx143_2 := far6b hx143_2 (by first | (rw [add_block]; exact hn143_0) | (show (Addr.add _ _).block ≠ _; rw [add_block]; exact hn143_0) | exact hn143_0) (.int .i64 ((rd_T41 l1_2 x11_2).f0)) (.int .i64 ((rd_T41 l1_2 x11_2).f1)) (.int .i64 ((rd_T41 l1_2 x11_2).f2)) (.int .i64 ((rd_T41 l1_2 x11_2).f3)) (.int .i64 ((rd_T41 l1_2 x11_2).f4)) (.int .i64 ((rd_T41 l1_2 x11_2).f5)); replace hx143_3 := far6b hx143_3 (by first | (rw [add_block]; exact hn143_0) | (show (Addr.add _ _).block ≠ _; rw [add_block]; exact hn143_0) | exact hn143_0) (.int .i64 ((rd_T41 l1_2 x11_2).f0)) (.int .i64 ((rd_T41 l1_2 x11_2).f1)) (.int .i64 ((rd_T41 l1_2 x11_2).f2)) (.int .i64 ((rd_T41 l1_2 x11_2).f3)) (.int .i64 ((rd_T41 l1_2 x11_2).f4)) (.int .i64 ((rd_T41 l1_2 x11_2).f5)); replace hx143_4 := far6b hx143_4 (by first | (rw [add_block]; exact hn143_0) | (show (Addr.add _ _).block ≠ _; rw [add_block]; exact hn143_0) | exact hn143_0) (.int .i64 ((rd_T41 l1_2 x11_2).f0)) (.int .i64 ((rd_T41 l1_2 x11_2).f1)) (.int .i64 ((rd_T41 l1_2 x11_2).f2)) (.int .i64 ((rd_T41 l1_2 x11_2).f3)) (.int .i64 ((rd_T41 l1_2 x11_2).f4)) (.int .i64 ((rd_T41 l1_2 x11_2).f5)); replace hx143_5 := far6b hx143_5 (by first | (rw [add_block]; exact hn143_0) | (show (Addr.add _ _).block ≠ _; rw [add_block]; exact hn143_0) | exact hn143_0) (.int .i64 ((rd_T41 l1_2 x11_2).f0)) (.int .i64 ((rd_T41 l1_2 x11_2).f1)) (.int .i64 ((rd_T41 l1_2 x11_2).f2)) (.int .i64 ((rd_T41 l1_2 x11_2).f3)) (.int .i64 ((rd_T41 l1_2 x11_2).f4)) (.int .i64 ((rd_T41 l1_2 x11_2).f5)); (try have hy143_0 := fun (n_ : Nat) => (far6n hx143_0 (by first | (rw [add_block]; exact hn143_0) | (show (Addr.add _ _).block ≠ _; rw [add_block]; exact hn143_0) | exact hn143_0) n_)); (try have hy143_1 := fun (n_ : Nat) => (far6n hx143_1 (by first | (rw [add_block]; exact hn143_0) | (show (Addr.add _ _).block ≠ _; rw [add_block]; exact hn143_0) | exact hn143_0) n_)); (try have hy143_2 := fun (n_ : Nat) => (far6n hx143_2 (by first | (rw [add_block]; exact hn143_0) | (show (Addr.add _ _).block ≠ _; rw [add_block]; exact hn143_0) | exact hn143_0) n_)); (try have hy143_3 := fun (n_ : Nat) => (far6n hx143_3 (by first | (rw [add_block]; exact hn143_0) | (show (Addr.add _ _).block ≠ _; rw [add_block]; exact hn143_0) | exact hn143_0) n_)); (try have hy143_4 := fun (n_ : Nat) => (far6n hx143_4 (by first | (rw [add_block]; exact hn143_0) | (show (Addr.add _ _).block ≠ _; rw [add_block]; exact hn143_0) | exact hn143_0) n_)); (try have hy143_5 := fun (n_ : Nat) => (far6n hx143_5 (by first | (rw [add_block]; exact hn143_0) | (show (Addr.add _ _).block ≠ _; rw [add_block]; exact hn143_0) | exact hn143_0) n_)); clear hn143_0; clear hn143_1; clear hn143_2; clear hn143_3; clear hn143_4; clear hn143_5; replace p143 := eq_true p143; replace q143 := eq_true q143))); try go_wp2_with (first | ((with_reducible refine gate_dst (N := 12) rfl ?_); refine box_event ?hg (N := 12) ?hd (cs := #[.int .i64 0, .int .i64 0, .int .i64 0, .int .i64 0, .int .i64 0, .int .i64 0]) (t := 41) ?hr ?_; (case hd => rfl); (case hg => rfl); (case hr => exact zqS); intro gb138 hg w51 hbox hb; have n0_ := Aside0.mk (Kd.R_below (zqR HO_8.out) hb); have n1_ := Aside0.mk (Kd.R_below (zqR HO_9.out) hb); have n2_ := Aside0.mk (Kd.R_below (zqR HO_10.out) hb); have n3_ := Aside0.mk (blk_below (g := gb124) (o := .cells #[.int .i64 a0_0, .int .i64 a0_1, .slice A0_2 l0_2.length c0_2] 31 (0, 0)) (zqK BK124.out) hb); have n4_ := Aside0.mk (blk_below (g := gb125) (o := .cells #[.int .i64 a1_0, .int .i64 a1_1, .slice (some ad137) l1_2.length c1_2] 31 (0, 0)) (zqK BK125.out) hb); have n5_ := Aside0.mk (below_step zq3 hb); have n6_ := Aside0.mk (hbox); have n7_ := Aside0.mk ((by rw [hg]; exact (below_size zq3) : w.heap.size ≤ gb138)); have n8_ := n7_; have n9_ := Aside0.mk ((by rw [hg]; exact Nat.ne_of_lt (blk_lt (g := gb124) (o := .cells #[.int .i64 a0_0, .int .i64 a0_1, .slice A0_2 l0_2.length c0_2] 31 (0, 0)) (zqK BK124.out)) : gb124 ≠ gb138)); have n10_ := Aside0.mk ((by rw [hg]; exact Nat.ne_of_gt (blk_lt (g := gb124) (o := .cells #[.int .i64 a0_0, .int .i64 a0_1, .slice A0_2 l0_2.length c0_2] 31 (0, 0)) (zqK BK124.out)) : gb138 ≠ gb124)); have n11_ := Aside0.mk ((by rw [hg]; exact Nat.ne_of_lt (blk_lt (g := gb125) (o := .cells #[.int .i64 a1_0, .int .i64 a1_1, .slice (some ad137) l1_2.length c1_2] 31 (0, 0)) (zqK BK125.out)) : gb125 ≠ gb138)); have n12_ := Aside0.mk ((by rw [hg]; exact Nat.ne_of_gt (blk_lt (g := gb125) (o := .cells #[.int .i64 a1_0, .int .i64 a1_1, .slice (some ad137) l1_2.length c1_2] 31 (0, 0)) (zqK BK125.out)) : gb138 ≠ gb125)); clear HO_8; clear HO_9; clear HO_10; clear BK124; clear BK125; clear HB; have HO_8 := n0_; have HO_9 := n1_; have HO_10 := n2_; have BK124 := n3_; have BK125 := n4_; have HB := n5_; have BK138 := n6_; have GW138 := n7_; have GE138 := n8_; have NB124_138 := n9_; have NB138_124 := n10_; have NB125_138 := n11_; have NB138_125 := n12_; clear n0_ n1_ n2_ n3_ n4_ n5_ n6_ n7_ n8_ n9_ n10_ n11_ n12_; clear hb hbox hg; have hnb52 := NB138_124.out; have hnc52 := NB124_138.out; have hnb53 := NB138_125.out; have hnc53 := NB125_138.out; obtain ⟨hcz54_0, hcz54_1, hcz54_2, hcz54_3, hcz54_4, hcz54_5, hfz54_0, hfz54_1, hfz54_2, hfz54_3, hfz54_4, hfz54_5⟩ := bz6 BK138.out; have hcz55_0 := bz BK124.out 0 (.int .i64 a0_0); have hcz55_1 := bz BK124.out 1 (.int .i64 a0_1); have hcz55_2 := bz BK124.out 2 (.slice A0_2 l0_2.length c0_2); have hfz55_0 := blk_frozen BK124.out 0; have hfz55_1 := blk_frozen BK124.out 1; have hfz55_2 := blk_frozen BK124.out 2) | (go_at_call 15; (with_reducible refine (spec_l14Find.calls k2 _ _ l0_2 ((rd_T41 l1_2 x11_2).f0) t139 _ ?side1 ?side2 A26.out).mono ?_); (case side1 => exact Kd.C_below HR0_2.out zq13); (case side2 => exact HC0_2.out); rintro e w' ⟨rfl, ⟨nd, rfl⟩⟩; (try first | exact ⟨rfl, _, World.drewN_drewN _ _ _⟩ | exact ⟨rfl, _, Eq.trans (World.drewN_drewN _ _ _) (congrArg (World.drewN _) (Nat.add_assoc _ _ _))⟩); all_goals (have p143 : 0 ≤ (t139 : Int) := of_decide_eq_true zq4; have q143 : t139 < (l0_2.length : Int) := of_decide_eq_true zq4; obtain ⟨ad143, e143, hx143_0, hx143_1, hx143_2, hx143_3, hx143_4, hx143_5⟩ := at_T41 HR0_2.out t139 p143 q143; cases e143; have hn143_0 : ad143.block ≠ gb138 := Nat.ne_of_lt (Nat.lt_of_lt_of_le (by have := World.block_lt_of_cell? _ _ hx143_0; first | rwa [add_block] at this | exact this) GW138.out); have hn143_1 : ad143.block ≠ gb138 := Nat.ne_of_lt (Nat.lt_of_lt_of_le (by have := World.block_lt_of_cell? _ _ hx143_0; first | rwa [add_block] at this | exact this) GW138.out); have hn143_2 : ad143.block ≠ gb138 := Nat.ne_of_lt (Nat.lt_of_lt_of_le (by have := World.block_lt_of_cell? _ _ hx143_0; first | rwa [add_block] at this | exact this) GW138.out); have hn143_3 : ad143.block ≠ gb138 := Nat.ne_of_lt (Nat.lt_of_lt_of_le (by have := World.block_lt_of_cell? _ _ hx143_0; first | rwa [add_block] at this | exact this) GW138.out); have hn143_4 : ad143.block ≠ gb138 := Nat.ne_of_lt (Nat.lt_of_lt_of_le (by have := World.block_lt_of_cell? _ _ hx143_0; first | rwa [add_block] at this | exact this) GW138.out); have hn143_5 : ad143.block ≠ gb138 := Nat.ne_of_lt (Nat.lt_of_lt_of_le (by have := World.block_lt_of_cell? _ _ hx143_0; first | rwa [add_block] at this | exact this) GW138.out); replace hx143_0 := bx HB.out hx143_0; replace hx143_1 := bx HB.out hx143_1; replace hx143_2 := bx HB.out hx143_2; replace hx143_3 := bx HB.out hx143_3; replace hx143_4 := bx HB.out hx143_4; replace hx143_5 := bx HB.out hx143_5; replace hx143_0 := far6b hx143_0 (by first | (rw [add_block]; exact hn143_0) | (show (Addr.add _ _).block ≠ _; rw [add_block]; exact hn143_0) | exact hn143_0) (.int .i64 ((rd_T41 l1_2 x11_2).f0)) (.int .i64 ((rd_T41 l1_2 x11_2).f1)) (.int .i64 ((rd_T41 l1_2 x11_2).f2)) (.int .i64 ((rd_T41 l1_2 x11_2).f3)) (.int .i64 ((rd_T41 l1_2 x11_2).f4)) (.int .i64 ((rd_T41 l1_2 x11_2).f5)); replace hx143_1 := far6b hx143_1 (by first | (rw [add_block]; exact hn143_0) | (show (Addr.add _ _).block ≠ _; rw [add_block]; exact hn143_0) | exact hn143_0) (.int .i64 ((rd_T41 l1_2 x11_2).f0)) (.int .i64 ((rd_T41 l1_2 x11_2).f1)) (.int .i64 ((rd_T41 l1_2 x11_2).f2)) (.int .i64 ((rd_T41 l1_2 x11_2).f3)) (.int .i64 ((rd_T41 l1_2 x11_2).f4)) (.int .i64 ((rd_T41 l1_2 x11_2).f5)); replace hx143_2 := far6b hx143_2 (by first | (rw [add_block]; exact hn143_0) | (show (Addr.add _ _).block ≠ _; rw [add_block]; exact hn143_0) | exact hn143_0) (.int .i64 ((rd_T41 l1_2 x11_2).f0)) (.int .i64 ((rd_T41 l1_2 x11_2).f1)) (.int .i64 ((rd_T41 l1_2 x11_2).f2)) (.int .i64 ((rd_T41 l1_2 x11_2).f3)) (.int .i64 ((rd_T41 l1_2 x11_2).f4)) (.int .i64 ((rd_T41 l1_2 x11_2).f5)); replace hx143_3 := far6b hx143_3 (by first | (rw [add_block]; exact hn143_0) | (show (Addr.add _ _).block ≠ _; rw [add_block]; exact hn143_0) | exact hn143_0) (.int .i64 ((rd_T41 l1_2 x11_2).f0)) (.int .i64 ((rd_T41 l1_2 x11_2).f1)) (.int .i64 ((rd_T41 l1_2 x11_2).f2)) (.int .i64 ((rd_T41 l1_2 x11_2).f3)) (.int .i64 ((rd_T41 l1_2 x11_2).f4)) (.int .i64 ((rd_T41 l1_2 x11_2).f5)); replace hx143_4 := far6b hx143_4 (by first | (rw [add_block]; exact hn143_0) | (show (Addr.add _ _).block ≠ _; rw [add_block]; exact hn143_0) | exact hn143_0) (.int .i64 ((rd_T41 l1_2 x11_2).f0)) (.int .i64 ((rd_T41 l1_2 x11_2).f1)) (.int .i64 ((rd_T41 l1_2 x11_2).f2)) (.int .i64 ((rd_T41 l1_2 x11_2).f3)) (.int .i64 ((rd_T41 l1_2 x11_2).f4)) (.int .i64 ((rd_T41 l1_2 x11_2).f5)); replace hx143_5 := far6b hx143_5 (by first | (rw [add_block]; exact hn143_0) | (show (Addr.add _ _).block ≠ _; rw [add_block]; exact hn143_0) | exact hn143_0) (.int .i64 ((rd_T41 l1_2 x11_2).f0)) (.int .i64 ((rd_T41 l1_2 x11_2).f1)) (.int .i64 ((rd_T41 l1_2 x11_2).f2)) (.int .i64 ((rd_T41 l1_2 x11_2).f3)) (.int .i64 ((rd_T41 l1_2 x11_2).f4)) (.int .i64 ((rd_T41 l1_2 x11_2).f5)); (try have hy143_0 := fun (n_ : Nat) => (far6n hx143_0 (by first | (rw [add_block]; exact hn143_0) | (show (Addr.add _ _).block ≠ _; rw [add_block]; exact hn143_0) | exact hn143_0) n_)); (try have hy143_1 := fun (n_ : Nat) => (far6n hx143_1 (by first | (rw [add_block]; exact hn143_0) | (show (Addr.add _ _).block ≠ _; rw [add_block]; exact hn143_0) | exact hn143_0) n_)); (try have hy143_2 := fun (n_ : Nat) => (far6n hx143_2 (by first | (rw [add_block]; exact hn143_0) | (show (Addr.add _ _).block ≠ _; rw [add_block]; exact hn143_0) | exact hn143_0) n_)); (try have hy143_3 := fun (n_ : Nat) => (far6n hx143_3 (by first | (rw [add_block]; exact hn143_0) | (show (Addr.add _ _).block ≠ _; rw [add_block]; exact hn143_0) | exact hn143_0) n_)); (try have hy143_4 := fun (n_ : Nat) => (far6n hx143_4 (by first | (rw [add_block]; exact hn143_0) | (show (Addr.add _ _).block ≠ _; rw [add_block]; exact hn143_0) | exact hn143_0) n_)); (try have hy143_5 := fun (n_ : Nat) => (far6n hx143_5 (by first | (rw [add_block]; exact hn143_0) | (show (Addr.add _ _).block ≠ _; rw [add_block]; exact hn143_0) | exact hn143_0) n_)); clear hn143_0; clear hn143_1; clear hn143_2; clear hn143_3; clear hn143_4; clear hn143_5; replace p143 := eq_true p143; replace q143 := eq_true q143))))
     go_roundg k2
     case measure => have := HJ2.out; have := HK2.out; omega
     case rel => exact ⟨(x8_2), (x10_2), (wrap64 (x11_2 + 1)), (by first | rfl | (simp; done) | (simp [*]; done)), H', ⟨by have := HJ2.out; have := HK2.out; omega⟩, ⟨by (with_reducible repeat (first | apply Kd.R_alloc | apply Kd.R_drewN | apply Kd.R_drew)); exact Kd.R_mono (Kd.R_far (p := ⟨gb138, 5, none⟩) (Kd.R_far (p := ⟨gb138, 4, none⟩) (Kd.R_far (p := ⟨gb138, 3, none⟩) (Kd.R_far (p := ⟨gb138, 2, none⟩) (Kd.R_far (p := ⟨gb138, 1, none⟩) (Kd.R_far (p := ⟨gb138, 0, none⟩) (Kd.R_types HO_8.out BK138.out (by decide)) (fun _ hk => hk.2) (.int .i64 ((rd_T41 l1_2 x11_2).f0))) (fun _ hk => hk.2) (.int .i64 ((rd_T41 l1_2 x11_2).f1))) (fun _ hk => hk.2) (.int .i64 ((rd_T41 l1_2 x11_2).f2))) (fun _ hk => hk.2) (.int .i64 ((rd_T41 l1_2 x11_2).f3))) (fun _ hk => hk.2) (.int .i64 ((rd_T41 l1_2 x11_2).f4))) (fun _ hk => hk.2) (.int .i64 ((rd_T41 l1_2 x11_2).f5))) (fun _ hk => ⟨hk.1.1, hk.1.2⟩)⟩, ⟨by (with_reducible repeat (first | apply Kd.R_alloc | apply Kd.R_drewN | apply Kd.R_drew)); exact Kd.R_mono (Kd.R_far (p := ⟨gb138, 5, none⟩) (Kd.R_far (p := ⟨gb138, 4, none⟩) (Kd.R_far (p := ⟨gb138, 3, none⟩) (Kd.R_far (p := ⟨gb138, 2, none⟩) (Kd.R_far (p := ⟨gb138, 1, none⟩) (Kd.R_far (p := ⟨gb138, 0, none⟩) (Kd.R_types HO_9.out BK138.out (by decide)) (fun _ hk => hk.2) (.int .i64 ((rd_T41 l1_2 x11_2).f0))) (fun _ hk => hk.2) (.int .i64 ((rd_T41 l1_2 x11_2).f1))) (fun _ hk => hk.2) (.int .i64 ((rd_T41 l1_2 x11_2).f2))) (fun _ hk => hk.2) (.int .i64 ((rd_T41 l1_2 x11_2).f3))) (fun _ hk => hk.2) (.int .i64 ((rd_T41 l1_2 x11_2).f4))) (fun _ hk => hk.2) (.int .i64 ((rd_T41 l1_2 x11_2).f5))) (fun _ hk => ⟨hk.1.1, hk.1.2⟩)⟩, ⟨by (with_reducible repeat (first | apply Kd.R_alloc | apply Kd.R_drewN | apply Kd.R_drew)); exact Kd.R_mono (Kd.R_far (p := ⟨gb138, 5, none⟩) (Kd.R_far (p := ⟨gb138, 4, none⟩) (Kd.R_far (p := ⟨gb138, 3, none⟩) (Kd.R_far (p := ⟨gb138, 2, none⟩) (Kd.R_far (p := ⟨gb138, 1, none⟩) (Kd.R_far (p := ⟨gb138, 0, none⟩) (Kd.R_types HO_10.out BK138.out (by decide)) (fun _ hk => hk.2) (.int .i64 ((rd_T41 l1_2 x11_2).f0))) (fun _ hk => hk.2) (.int .i64 ((rd_T41 l1_2 x11_2).f1))) (fun _ hk => hk.2) (.int .i64 ((rd_T41 l1_2 x11_2).f2))) (fun _ hk => hk.2) (.int .i64 ((rd_T41 l1_2 x11_2).f3))) (fun _ hk => hk.2) (.int .i64 ((rd_T41 l1_2 x11_2).f4))) (fun _ hk => hk.2) (.int .i64 ((rd_T41 l1_2 x11_2).f5))) (fun _ hk => ⟨hk.1.1, hk.1.2⟩)⟩, ⟨by (with_reducible repeat (first | refine blk_drewN ?_ _ | refine blk_drew ?_ | refine blk_alloc ?_ _)); refine blk_far ?_ NB124_138.out _; (with_reducible repeat (first | refine blk_drewN ?_ _ | refine blk_drew ?_ | refine blk_alloc ?_ _)); refine blk_far ?_ NB124_138.out _; (with_reducible repeat (first | refine blk_drewN ?_ _ | refine blk_drew ?_ | refine blk_alloc ?_ _)); refine blk_far ?_ NB124_138.out _; (with_reducible repeat (first | refine blk_drewN ?_ _ | refine blk_drew ?_ | refine blk_alloc ?_ _)); refine blk_far ?_ NB124_138.out _; (with_reducible repeat (first | refine blk_drewN ?_ _ | refine blk_drew ?_ | refine blk_alloc ?_ _)); refine blk_far ?_ NB124_138.out _; (with_reducible repeat (first | refine blk_drewN ?_ _ | refine blk_drew ?_ | refine blk_alloc ?_ _)); refine blk_far ?_ NB124_138.out _; (with_reducible repeat (first | refine blk_drewN ?_ _ | refine blk_drew ?_ | refine blk_alloc ?_ _)); exact BK124.out⟩, ⟨by (with_reducible repeat (first | refine blk_drewN ?_ _ | refine blk_drew ?_ | refine blk_alloc ?_ _)); refine blk_far ?_ NB125_138.out _; (with_reducible repeat (first | refine blk_drewN ?_ _ | refine blk_drew ?_ | refine blk_alloc ?_ _)); refine blk_far ?_ NB125_138.out _; (with_reducible repeat (first | refine blk_drewN ?_ _ | refine blk_drew ?_ | refine blk_alloc ?_ _)); refine blk_far ?_ NB125_138.out _; (with_reducible repeat (first | refine blk_drewN ?_ _ | refine blk_drew ?_ | refine blk_alloc ?_ _)); refine blk_far ?_ NB125_138.out _; (with_reducible repeat (first | refine blk_drewN ?_ _ | refine blk_drew ?_ | refine blk_alloc ?_ _)); refine blk_far ?_ NB125_138.out _; (with_reducible repeat (first | refine blk_drewN ?_ _ | refine blk_drew ?_ | refine blk_alloc ?_ _)); refine blk_far ?_ NB125_138.out _; (with_reducible repeat (first | refine blk_drewN ?_ _ | refine blk_drew ?_ | refine blk_alloc ?_ _)); exact BK125.out⟩, ⟨zq13⟩⟩
    rw [if_pos c39] at H
    have c39b0 : (!(((rd_T41 l0_2 t139).f0) == ((rd_T41 l1_2 x11_2).f0)) || (!(((rd_T41 l0_2 t139).f1) == ((rd_T41 l1_2 x11_2).f1)) || (!(((rd_T41 l0_2 t139).f2) == ((rd_T41 l1_2 x11_2).f2)) || (!(((rd_T41 l0_2 t139).f3) == ((rd_T41 l1_2 x11_2).f3)) || (!(((rd_T41 l0_2 t139).f4) == ((rd_T41 l1_2 x11_2).f4)) || (!(((rd_T41 l0_2 t139).f5) == ((rd_T41 l1_2 x11_2).f5)))))))) = true := c39
    clear c39
    by_cases c40 : x10_2.length < 17592186044416
    case neg =>
     rw [if_neg c40] at H
     exact absurd H (by simp)
    rw [if_pos c40] at H
    have LMc40 := Aside0.mk c40
    clear c40
    obtain ⟨y144, hy144⟩ : ∃ y_ : List Int, y_ = (x10_2 ++ [(rd_T41 l1_2 x11_2).f0]) := ⟨_, rfl⟩
    replace H : (spec_BulletinChanges.l0 k2 x8_2 y129 y144 (wrap64 (x11_2 + 1)) a0_0 a0_1 l0_2 a1_0 a1_1 l1_2) = some (r1, r2, r3, r4) := zqH hy144 H
    have Ny144 := Aside0.mk hy144
    clear hy144
    have H' := Aside0.mk H
    clear H
    have hnb41 := NB125_124.out
    have hnc41 := NB124_125.out
    have hcz42_0 := bz BK125.out 0 (.int .i64 a1_0)
    have hcz42_1 := bz BK125.out 1 (.int .i64 a1_1)
    have hcz42_2 := bz BK125.out 2 (.slice A1_2 l1_2.length c1_2)
    have hfz42_0 := blk_frozen BK125.out 0
    have hfz42_1 := blk_frozen BK125.out 1
    have hfz42_2 := blk_frozen BK125.out 2
    have p137 : 0 ≤ (x11_2 : Int) := of_decide_eq_true zq4
    have q137 : x11_2 < (l1_2.length : Int) := of_decide_eq_true zq4
    obtain ⟨ad137, e137, hx137_0, hx137_1, hx137_2, hx137_3, hx137_4, hx137_5⟩ := at_T41 HR1_2.out x11_2 p137 q137
    cases e137
    replace hx137_0 := bx HB.out hx137_0
    replace hx137_1 := bx HB.out hx137_1
    replace hx137_2 := bx HB.out hx137_2
    replace hx137_3 := bx HB.out hx137_3
    replace hx137_4 := bx HB.out hx137_4
    replace hx137_5 := bx HB.out hx137_5
    replace p137 := eq_true p137
    replace q137 := eq_true q137
    go_wp2_with (first | ((with_reducible refine gate_dst (N := 12) rfl ?_); refine box_event ?hg (N := 12) ?hd (cs := #[.int .i64 0, .int .i64 0, .int .i64 0, .int .i64 0, .int .i64 0, .int .i64 0]) (t := 41) ?hr ?_; (case hd => rfl); (case hg => rfl); (case hr => exact zqS); intro gb138 hg w43 hbox hb; have n0_ := Aside0.mk (Kd.R_below (zqR HO_8.out) hb); have n1_ := Aside0.mk (Kd.R_below (zqR HO_9.out) hb); have n2_ := Aside0.mk (Kd.R_below (zqR HO_10.out) hb); have n3_ := Aside0.mk (blk_below (g := gb124) (o := .cells #[.int .i64 a0_0, .int .i64 a0_1, .slice A0_2 l0_2.length c0_2] 31 (0, 0)) (zqK BK124.out) hb); have n4_ := Aside0.mk (blk_below (g := gb125) (o := .cells #[.int .i64 a1_0, .int .i64 a1_1, .slice (some ad137) l1_2.length c1_2] 31 (0, 0)) (zqK BK125.out) hb); have n5_ := Aside0.mk (below_step zq3 hb); have n6_ := Aside0.mk (hbox); have n7_ := Aside0.mk ((by rw [hg]; exact (below_size zq3) : w.heap.size ≤ gb138)); have n8_ := n7_; have n9_ := Aside0.mk ((by rw [hg]; exact Nat.ne_of_lt (blk_lt (g := gb124) (o := .cells #[.int .i64 a0_0, .int .i64 a0_1, .slice A0_2 l0_2.length c0_2] 31 (0, 0)) (zqK BK124.out)) : gb124 ≠ gb138)); have n10_ := Aside0.mk ((by rw [hg]; exact Nat.ne_of_gt (blk_lt (g := gb124) (o := .cells #[.int .i64 a0_0, .int .i64 a0_1, .slice A0_2 l0_2.length c0_2] 31 (0, 0)) (zqK BK124.out)) : gb138 ≠ gb124)); have n11_ := Aside0.mk ((by rw [hg]; exact Nat.ne_of_lt (blk_lt (g := gb125) (o := .cells #[.int .i64 a1_0, .int .i64 a1_1, .slice (some ad137) l1_2.length c1_2] 31 (0, 0)) (zqK BK125.out)) : gb125 ≠ gb138)); have n12_ := Aside0.mk ((by rw [hg]; exact Nat.ne_of_gt (blk_lt (g := gb125) (o := .cells #[.int .i64 a1_0, .int .i64 a1_1, .slice (some ad137) l1_2.length c1_2] 31 (0, 0)) (zqK BK125.out)) : gb138 ≠ gb125)); clear HO_8; clear HO_9; clear HO_10; clear BK124; clear BK125; clear HB; have HO_8 := n0_; have HO_9 := n1_; have HO_10 := n2_; have BK124 := n3_; have BK125 := n4_; have HB := n5_; have BK138 := n6_; have GW138 := n7_; have GE138 := n8_; have NB124_138 := n9_; have NB138_124 := n10_; have NB125_138 := n11_; have NB138_125 := n12_; clear n0_ n1_ n2_ n3_ n4_ n5_ n6_ n7_ n8_ n9_ n10_ n11_ n12_; clear hb hbox hg; have hnb44 := NB138_124.out; have hnc44 := NB124_138.out; have hnb45 := NB138_125.out; have hnc45 := NB125_138.out; obtain ⟨hcz46_0, hcz46_1, hcz46_2, hcz46_3, hcz46_4, hcz46_5, hfz46_0, hfz46_1, hfz46_2, hfz46_3, hfz46_4, hfz46_5⟩ := bz6 BK138.out; have hcz47_0 := bz BK124.out 0 (.int .i64 a0_0); have hcz47_1 := bz BK124.out 1 (.int .i64 a0_1); have hcz47_2 := bz BK124.out 2 (.slice A0_2 l0_2.length c0_2); have hfz47_0 := blk_frozen BK124.out 0; have hfz47_1 := blk_frozen BK124.out 1; have hfz47_2 := blk_frozen BK124.out 2) | (go_at_call 15; (with_reducible refine (spec_l14Find.calls k2 _ _ l0_2 ((rd_T41 l1_2 x11_2).f0) t139 _ ?side1 ?side2 A26.out).mono ?_); (case side1 => exact Kd.C_below HR0_2.out zq13); (case side2 => exact HC0_2.out); rintro e w' ⟨rfl, ⟨nd, rfl⟩⟩; (try first | exact ⟨rfl, _, World.drewN_drewN _ _ _⟩ | exact ⟨rfl, _, Eq.trans (World.drewN_drewN _ _ _) (congrArg (World.drewN _) (Nat.add_assoc _ _ _))⟩); all_goals (have p143 : 0 ≤ (t139 : Int) := of_decide_eq_true zq4; have q143 : t139 < (l0_2.length : Int) := of_decide_eq_true zq4; obtain ⟨ad143, e143, hx143_0, hx143_1, hx143_2, hx143_3, hx143_4, hx143_5⟩ := at_T41 HR0_2.out t139 p143 q143; cases e143; have hn143_0 : ad143.block ≠ gb138 := Nat.ne_of_lt (Nat.lt_of_lt_of_le (by have := World.block_lt_of_cell? _ _ hx143_0; first | rwa [add_block] at this | exact this) GW138.out); have hn143_1 : ad143.block ≠ gb138 := Nat.ne_of_lt (Nat.lt_of_lt_of_le (by have := World.block_lt_of_cell? _ _ hx143_0; first | rwa [add_block] at this | exact this) GW138.out); have hn143_2 : ad143.block ≠ gb138 := Nat.ne_of_lt (Nat.lt_of_lt_of_le (by have := World.block_lt_of_cell? _ _ hx143_0; first | rwa [add_block] at this | exact this) GW138.out); have hn143_3 : ad143.block ≠ gb138 := Nat.ne_of_lt (Nat.lt_of_lt_of_le (by have := World.block_lt_of_cell? _ _ hx143_0; first | rwa [add_block] at this | exact this) GW138.out); have hn143_4 : ad143.block ≠ gb138 := Nat.ne_of_lt (Nat.lt_of_lt_of_le (by have := World.block_lt_of_cell? _ _ hx143_0; first | rwa [add_block] at this | exact this) GW138.out); have hn143_5 : ad143.block ≠ gb138 := Nat.ne_of_lt (Nat.lt_of_lt_of_le (by have := World.block_lt_of_cell? _ _ hx143_0; first | rwa [add_block] at this | exact this) GW138.out); replace hx143_0 := bx HB.out hx143_0; replace hx143_1 := bx HB.out hx143_1; replace hx143_2 := bx HB.out hx143_2; replace hx143_3 := bx HB.out hx143_3; replace hx143_4 := bx HB.out hx143_4; replace hx143_5 := bx HB.out hx143_5; replace hx143_0 := far6b hx143_0 (by first | (rw [add_block]; exact hn143_0) | (show (Addr.add _ _).block ≠ _; rw [add_block]; exact hn143_0) | exact hn143_0) (.int .i64 ((rd_T41 l1_2 x11_2).f0)) (.int .i64 ((rd_T41 l1_2 x11_2).f1)) (.int .i64 ((rd_T41 l1_2 x11_2).f2)) (.int .i64 ((rd_T41 l1_2 x11_2).f3)) (.int .i64 ((rd_T41 l1_2 x11_2).f4)) (.int .i64 ((rd_T41 l1_2 x11_2).f5)); replace hx143_1 := far6b hx143_1 (by first | (rw [add_block]; exact hn143_0) | (show (Addr.add _ _).block ≠ _; rw [add_block]; exact hn143_0) | exact hn143_0) (.int .i64 ((rd_T41 l1_2 x11_2).f0)) (.int .i64 ((rd_T41 l1_2 x11_2).f1)) (.int .i64 ((rd_T41 l1_2 x11_2).f2)) (.int .i64 ((rd_T41 l1_2 x11_2).f3)) (.int .i64 ((rd_T41 l1_2 x11_2).f4)) (.int .i64 ((rd_T41 l1_2 x11_2).f5)); replace hx143_2 := far6b hx143_2 (by first | (rw [add_block]; exact hn143_0) | (show (Addr.add _ _).block ≠ _; rw [add_block]; exact hn143_0) | exact hn143_0) (.int .i64 ((rd_T41 l1_2 x11_2).f0)) (.int .i64 ((rd_T41 l1_2 x11_2).f1)) (.int .i64 ((rd_T41 l1_2 x11_2).f2)) (.int .i64 ((rd_T41 l1_2 x11_2).f3)) (.int .i64 ((rd_T41 l1_2 x11_2).f4)) (.int .i64 ((rd_T41 l1_2 x11_2).f5)); replace hx143_3 := far6b hx143_3 (by first | (rw [add_block]; exact hn143_0) | (show (Addr.add _ _).block ≠ _; rw [add_block]; exact hn143_0) | exact hn143_0) (.int .i64 ((rd_T41 l1_2 x11_2).f0)) (.int .i64 ((rd_T41 l1_2 x11_2).f1)) (.int .i64 ((rd_T41 l1_2 x11_2).f2)) (.int .i64 ((rd_T41 l1_2 x11_2).f3)) (.int .i64 ((rd_T41 l1_2 x11_2).f4)) (.int .i64 ((rd_T41 l1_2 x11_2).f5)); replace hx143_4 := far6b hx143_4 (by first | (rw [add_block]; exact hn143_0) | (show (Addr.add _ _).block ≠ _; rw [add_block]; exact hn143_0) | exact hn143_0) (.int .i64 ((rd_T41 l1_2 x11_2).f0)) (.int .i64 ((rd_T41 l1_2 x11_2).f1)) (.int .i64 ((rd_T41 l1_2 x11_2).f2)) (.int .i64 ((rd_T41 l1_2 x11_2).f3)) (.int .i64 ((rd_T41 l1_2 x11_2).f4)) (.int .i64 ((rd_T41 l1_2 x11_2).f5)); replace hx143_5 := far6b hx143_5 (by first | (rw [add_block]; exact hn143_0) | (show (Addr.add _ _).block ≠ _; rw [add_block]; exact hn143_0) | exact hn143_0) (.int .i64 ((rd_T41 l1_2 x11_2).f0)) (.int .i64 ((rd_T41 l1_2 x11_2).f1)) (.int .i64 ((rd_T41 l1_2 x11_2).f2)) (.int .i64 ((rd_T41 l1_2 x11_2).f3)) (.int .i64 ((rd_T41 l1_2 x11_2).f4)) (.int .i64 ((rd_T41 l1_2 x11_2).f5)); (try have hy143_0 := fun (n_ : Nat) => (far6n hx143_0 (by first | (rw [add_block]; exact hn143_0) | (show (Addr.add _ _).block ≠ _; rw [add_block]; exact hn143_0) | exact hn143_0) n_)); (try have hy143_1 := fun (n_ : Nat) => (far6n hx143_1 (by first | (rw [add_block]; exact hn143_0) | (show (Addr.add _ _).block ≠ _; rw [add_block]; exact hn143_0) | exact hn143_0) n_)); (try have hy143_2 := fun (n_ : Nat) => (far6n hx143_2 (by first | (rw [add_block]; exact hn143_0) | (show (Addr.add _ _).block ≠ _; rw [add_block]; exact hn143_0) | exact hn143_0) n_)); (try have hy143_3 := fun (n_ : Nat) => (far6n hx143_3 (by first | (rw [add_block]; exact hn143_0) | (show (Addr.add _ _).block ≠ _; rw [add_block]; exact hn143_0) | exact hn143_0) n_)); (try have hy143_4 := fun (n_ : Nat) => (far6n hx143_4 (by first | (rw [add_block]; exact hn143_0) | (show (Addr.add _ _).block ≠ _; rw [add_block]; exact hn143_0) | exact hn143_0) n_)); (try have hy143_5 := fun (n_ : Nat) => (far6n hx143_5 (by first | (rw [add_block]; exact hn143_0) | (show (Addr.add _ _).block ≠ _; rw [add_block]; exact hn143_0) | exact hn143_0) n_)); clear hn143_0; clear hn143_1; clear hn143_2; clear hn143_3; clear hn143_4; clear hn143_5; replace p143 := eq_true p143; replace q143 := eq_true q143)) | ((with_reducible refine gate_builtin (b := .append) (xs := #[.tmp 60, .tmp 63]) rfl ?_); at_builtin; refine Kd.R_append (Kd.int .i64) (w0 := w) w.heap.size rfl (.tmp 60) (.tmp 63) 26 3 (.int .i64 0) 8 rfl Try.underlying26 info3 rfl (by decide) (by omega) u10 x10_2 ((rd_T41 l1_2 x11_2).f0) [.int .i64 ((rd_T41 l1_2 x11_2).f0)] (fun k_ => some k_ ≠ (u8 : Value).ownBlock ∧ some k_ ≠ (v130 : Value).ownBlock) (fun _ => False) rfl (by first | (go_simp; done) | (go_simp; rfl)) ?aP (fun _ hk => hk.elim) ?aF ?aO ?aB ?aS ?aL ?_; (case aP => exact rfl); (case aB => exact zq13); (case aF => exact (fun k_ hk => ⟨Kd.fresh' (Kd.R_lt zq29) k_ hk, Kd.fresh' (Kd.R_lt zq19) k_ hk⟩)); (case aO => exact zq27); (case aS => exact (below_size zq13)); (case aL => have := LMc40.out; omega); intro v145 w48 ho hb hg hat; rw [← Ny144.out] at ho; have n0_ := Aside0.mk (Kd.R_after (ok := (fun k_ => some k_ ≠ (v130 : Value).ownBlock)) zq18 hg hat); have n1_ := Aside0.mk (Kd.R_after (ok := (fun k_ => some k_ ≠ (u8 : Value).ownBlock)) zq28 hg hat); have n2_ := Aside0.mk (blk_grown (g := gb124) (o := .cells #[.int .i64 a0_0, .int .i64 a0_1, .slice (some ad143) l0_2.length c0_2] 31 (0, 0)) zq16 hg (Kd.R_ne HO_10.out BK124.out (by decide))); have n3_ := Aside0.mk (blk_grown (g := gb125) (o := .cells #[.int .i64 a1_0, .int .i64 a1_1, .slice (some ad137) l1_2.length c1_2] 31 (0, 0)) zq17 hg (Kd.R_ne HO_10.out BK125.out (by decide))); have n4_ := Aside0.mk (blk_grown (g := gb138) (o := .cells #[.int .i64 ((rd_T41 l1_2 x11_2).f0), .int .i64 ((rd_T41 l1_2 x11_2).f1), .int .i64 ((rd_T41 l1_2 x11_2).f2), .int .i64 ((rd_T41 l1_2 x11_2).f3), .int .i64 ((rd_T41 l1_2 x11_2).f4), .int .i64 ((rd_T41 l1_2 x11_2).f5)] 41 (0, 0)) zq10 hg (Kd.R_ne HO_10.out BK138.out (by decide))); have n5_ := Aside0.mk (hb); have n6_ := Aside0.mk (ho); clear HO_8; clear HO_9; clear BK124; clear BK125; clear BK138; clear HB; clear HO_10; have HO_8 := n0_; have HO_9 := n1_; have BK124 := n2_; have BK125 := n3_; have BK138 := n4_; have HB := n5_; have HO146 := n6_; clear n0_ n1_ n2_ n3_ n4_ n5_ n6_; clear ho hb hg hat))
    repeat (go_quiet (first | ((with_reducible refine gate_dst (N := 12) rfl ?_); refine box_event ?hg (N := 12) ?hd (cs := #[.int .i64 0, .int .i64 0, .int .i64 0, .int .i64 0, .int .i64 0, .int .i64 0]) (t := 41) ?hr ?_; (case hd => rfl); (case hg => rfl); (case hr => exact zqS); intro gb138 hg w43 hbox hb; have n0_ := Aside0.mk (Kd.R_below (zqR HO_8.out) hb); have n1_ := Aside0.mk (Kd.R_below (zqR HO_9.out) hb); have n2_ := Aside0.mk (Kd.R_below (zqR HO_10.out) hb); have n3_ := Aside0.mk (blk_below (g := gb124) (o := .cells #[.int .i64 a0_0, .int .i64 a0_1, .slice A0_2 l0_2.length c0_2] 31 (0, 0)) (zqK BK124.out) hb); have n4_ := Aside0.mk (blk_below (g := gb125) (o := .cells #[.int .i64 a1_0, .int .i64 a1_1, .slice (some ad137) l1_2.length c1_2] 31 (0, 0)) (zqK BK125.out) hb); have n5_ := Aside0.mk (below_step zq3 hb); have n6_ := Aside0.mk (hbox); have n7_ := Aside0.mk ((by rw [hg]; exact (below_size zq3) : w.heap.size ≤ gb138)); have n8_ := n7_; have n9_ := Aside0.mk ((by rw [hg]; exact Nat.ne_of_lt (blk_lt (g := gb124) (o := .cells #[.int .i64 a0_0, .int .i64 a0_1, .slice A0_2 l0_2.length c0_2] 31 (0, 0)) (zqK BK124.out)) : gb124 ≠ gb138)); have n10_ := Aside0.mk ((by rw [hg]; exact Nat.ne_of_gt (blk_lt (g := gb124) (o := .cells #[.int .i64 a0_0, .int .i64 a0_1, .slice A0_2 l0_2.length c0_2] 31 (0, 0)) (zqK BK124.out)) : gb138 ≠ gb124)); have n11_ := Aside0.mk ((by rw [hg]; exact Nat.ne_of_lt (blk_lt (g := gb125) (o := .cells #[.int .i64 a1_0, .int .i64 a1_1, .slice (some ad137) l1_2.length c1_2] 31 (0, 0)) (zqK BK125.out)) : gb125 ≠ gb138)); have n12_ := Aside0.mk ((by rw [hg]; exact Nat.ne_of_gt (blk_lt (g := gb125) (o := .cells #[.int .i64 a1_0, .int .i64 a1_1, .slice (some ad137) l1_2.length c1_2] 31 (0, 0)) (zqK BK125.out)) : gb138 ≠ gb125)); clear HO_8; clear HO_9; clear HO_10; clear BK124; clear BK125; clear HB; have HO_8 := n0_; have HO_9 := n1_; have HO_10 := n2_; have BK124 := n3_; have BK125 := n4_; have HB := n5_; have BK138 := n6_; have GW138 := n7_; have GE138 := n8_; have NB124_138 := n9_; have NB138_124 := n10_; have NB125_138 := n11_; have NB138_125 := n12_; clear n0_ n1_ n2_ n3_ n4_ n5_ n6_ n7_ n8_ n9_ n10_ n11_ n12_; clear hb hbox hg; have hnb44 := NB138_124.out; have hnc44 := NB124_138.out; have hnb45 := NB138_125.out; have hnc45 := NB125_138.out; obtain ⟨hcz46_0, hcz46_1, hcz46_2, hcz46_3, hcz46_4, hcz46_5, hfz46_0, hfz46_1, hfz46_2, hfz46_3, hfz46_4, hfz46_5⟩ := bz6 BK138.out; have hcz47_0 := bz BK124.out 0 (.int .i64 a0_0); have hcz47_1 := bz BK124.out 1 (.int .i64 a0_1); have hcz47_2 := bz BK124.out 2 (.slice A0_2 l0_2.length c0_2); have hfz47_0 := blk_frozen BK124.out 0; have hfz47_1 := blk_frozen BK124.out 1; have hfz47_2 := blk_frozen BK124.out 2) | (go_at_call 15; (with_reducible refine (spec_l14Find.calls k2 _ _ l0_2 ((rd_T41 l1_2 x11_2).f0) t139 _ ?side1 ?side2 A26.out).mono ?_); (case side1 => exact Kd.C_below HR0_2.out zq13); (case side2 => exact HC0_2.out); rintro e w' ⟨rfl, ⟨nd, rfl⟩⟩; (try first | exact ⟨rfl, _, World.drewN_drewN _ _ _⟩ | exact ⟨rfl, _, Eq.trans (World.drewN_drewN _ _ _) (congrArg (World.drewN _) (Nat.add_assoc _ _ _))⟩); all_goals (have p143 : 0 ≤ (t139 : Int) := of_decide_eq_true zq4; have q143 : t139 < (l0_2.length : Int) := of_decide_eq_true zq4; obtain ⟨ad143, e143, hx143_0, hx143_1, hx143_2, hx143_3, hx143_4, hx143_5⟩ := at_T41 HR0_2.out t139 p143 q143; cases e143; have hn143_0 : ad143.block ≠ gb138 := Nat.ne_of_lt (Nat.lt_of_lt_of_le (by have := World.block_lt_of_cell? _ _ hx143_0; first | rwa [add_block] at this | exact this) GW138.out); have hn143_1 : ad143.block ≠ gb138 := Nat.ne_of_lt (Nat.lt_of_lt_of_le (by have := World.block_lt_of_cell? _ _ hx143_0; first | rwa [add_block] at this | exact this) GW138.out); have hn143_2 : ad143.block ≠ gb138 := Nat.ne_of_lt (Nat.lt_of_lt_of_le (by have := World.block_lt_of_cell? _ _ hx143_0; first | rwa [add_block] at this | exact this) GW138.out); have hn143_3 : ad143.block ≠ gb138 := Nat.ne_of_lt (Nat.lt_of_lt_of_le (by have := World.block_lt_of_cell? _ _ hx143_0; first | rwa [add_block] at this | exact this) GW138.out); have hn143_4 : ad143.block ≠ gb138 := Nat.ne_of_lt (Nat.lt_of_lt_of_le (by have := World.block_lt_of_cell? _ _ hx143_0; first | rwa [add_block] at this | exact this) GW138.out); have hn143_5 : ad143.block ≠ gb138 := Nat.ne_of_lt (Nat.lt_of_lt_of_le (by have := World.block_lt_of_cell? _ _ hx143_0; first | rwa [add_block] at this | exact this) GW138.out); replace hx143_0 := bx HB.out hx143_0; replace hx143_1 := bx HB.out hx143_1; replace hx143_2 := bx HB.out hx143_2; replace hx143_3 := bx HB.out hx143_3; replace hx143_4 := bx HB.out hx143_4; replace hx143_5 := bx HB.out hx143_5; replace hx143_0 := far6b hx143_0 (by first | (rw [add_block]; exact hn143_0) | (show (Addr.add _ _).block ≠ _; rw [add_block]; exact hn143_0) | exact hn143_0) (.int .i64 ((rd_T41 l1_2 x11_2).f0)) (.int .i64 ((rd_T41 l1_2 x11_2).f1)) (.int .i64 ((rd_T41 l1_2 x11_2).f2)) (.int .i64 ((rd_T41 l1_2 x11_2).f3)) (.int .i64 ((rd_T41 l1_2 x11_2).f4)) (.int .i64 ((rd_T41 l1_2 x11_2).f5)); replace hx143_1 := far6b hx143_1 (by first | (rw [add_block]; exact hn143_0) | (show (Addr.add _ _).block ≠ _; rw [add_block]; exact hn143_0) | exact hn143_0) (.int .i64 ((rd_T41 l1_2 x11_2).f0)) (.int .i64 ((rd_T41 l1_2 x11_2).f1)) (.int .i64 ((rd_T41 l1_2 x11_2).f2)) (.int .i64 ((rd_T41 l1_2 x11_2).f3)) (.int .i64 ((rd_T41 l1_2 x11_2).f4)) (.int .i64 ((rd_T41 l1_2 x11_2).f5)); replace hx143_2 := far6b hx143_2 (by first | (rw [add_block]; exact hn143_0) | (show (Addr.add _ _).block ≠ _; rw [add_block]; exact hn143_0) | exact hn143_0) (.int .i64 ((rd_T41 l1_2 x11_2).f0)) (.int .i64 ((rd_T41 l1_2 x11_2).f1)) (.int .i64 ((rd_T41 l1_2 x11_2).f2)) (.int .i64 ((rd_T41 l1_2 x11_2).f3)) (.int .i64 ((rd_T41 l1_2 x11_2).f4)) (.int .i64 ((rd_T41 l1_2 x11_2).f5)); replace hx143_3 := far6b hx143_3 (by first | (rw [add_block]; exact hn143_0) | (show (Addr.add _ _).block ≠ _; rw [add_block]; exact hn143_0) | exact hn143_0) (.int .i64 ((rd_T41 l1_2 x11_2).f0)) (.int .i64 ((rd_T41 l1_2 x11_2).f1)) (.int .i64 ((rd_T41 l1_2 x11_2).f2)) (.int .i64 ((rd_T41 l1_2 x11_2).f3)) (.int .i64 ((rd_T41 l1_2 x11_2).f4)) (.int .i64 ((rd_T41 l1_2 x11_2).f5)); replace hx143_4 := far6b hx143_4 (by first | (rw [add_block]; exact hn143_0) | (show (Addr.add _ _).block ≠ _; rw [add_block]; exact hn143_0) | exact hn143_0) (.int .i64 ((rd_T41 l1_2 x11_2).f0)) (.int .i64 ((rd_T41 l1_2 x11_2).f1)) (.int .i64 ((rd_T41 l1_2 x11_2).f2)) (.int .i64 ((rd_T41 l1_2 x11_2).f3)) (.int .i64 ((rd_T41 l1_2 x11_2).f4)) (.int .i64 ((rd_T41 l1_2 x11_2).f5)); replace hx143_5 := far6b hx143_5 (by first | (rw [add_block]; exact hn143_0) | (show (Addr.add _ _).block ≠ _; rw [add_block]; exact hn143_0) | exact hn143_0) (.int .i64 ((rd_T41 l1_2 x11_2).f0)) (.int .i64 ((rd_T41 l1_2 x11_2).f1)) (.int .i64 ((rd_T41 l1_2 x11_2).f2)) (.int .i64 ((rd_T41 l1_2 x11_2).f3)) (.int .i64 ((rd_T41 l1_2 x11_2).f4)) (.int .i64 ((rd_T41 l1_2 x11_2).f5)); (try have hy143_0 := fun (n_ : Nat) => (far6n hx143_0 (by first | (rw [add_block]; exact hn143_0) | (show (Addr.add _ _).block ≠ _; rw [add_block]; exact hn143_0) | exact hn143_0) n_)); (try have hy143_1 := fun (n_ : Nat) => (far6n hx143_1 (by first | (rw [add_block]; exact hn143_0) | (show (Addr.add _ _).block ≠ _; rw [add_block]; exact hn143_0) | exact hn143_0) n_)); (try have hy143_2 := fun (n_ : Nat) => (far6n hx143_2 (by first | (rw [add_block]; exact hn143_0) | (show (Addr.add _ _).block ≠ _; rw [add_block]; exact hn143_0) | exact hn143_0) n_)); (try have hy143_3 := fun (n_ : Nat) => (far6n hx143_3 (by first | (rw [add_block]; exact hn143_0) | (show (Addr.add _ _).block ≠ _; rw [add_block]; exact hn143_0) | exact hn143_0) n_)); (try have hy143_4 := fun (n_ : Nat) => (far6n hx143_4 (by first | (rw [add_block]; exact hn143_0) | (show (Addr.add _ _).block ≠ _; rw [add_block]; exact hn143_0) | exact hn143_0) n_)); (try have hy143_5 := fun (n_ : Nat) => (far6n hx143_5 (by first | (rw [add_block]; exact hn143_0) | (show (Addr.add _ _).block ≠ _; rw [add_block]; exact hn143_0) | exact hn143_0) n_)); clear hn143_0; clear hn143_1; clear hn143_2; clear hn143_3; clear hn143_4; clear hn143_5; replace p143 := eq_true p143; replace q143 := eq_true q143)) | ((with_reducible refine gate_builtin (b := .append) (xs := #[.tmp 60, .tmp 63]) rfl ?_); at_builtin; refine Kd.R_append (Kd.int .i64) (w0 := w) w.heap.size rfl (.tmp 60) (.tmp 63) 26 3 (.int .i64 0) 8 rfl Try.underlying26 info3 rfl (by decide) (by omega) u10 x10_2 ((rd_T41 l1_2 x11_2).f0) [.int .i64 ((rd_T41 l1_2 x11_2).f0)] (fun k_ => some k_ ≠ (u8 : Value).ownBlock ∧ some k_ ≠ (v130 : Value).ownBlock) (fun _ => False) rfl (by first | (go_simp; done) | (go_simp; rfl)) ?aP (fun _ hk => hk.elim) ?aF ?aO ?aB ?aS ?aL ?_; (case aP => exact rfl); (case aB => exact zq13); (case aF => exact (fun k_ hk => ⟨Kd.fresh' (Kd.R_lt zq29) k_ hk, Kd.fresh' (Kd.R_lt zq19) k_ hk⟩)); (case aO => exact zq27); (case aS => exact (below_size zq13)); (case aL => have := LMc40.out; omega); intro v145 w48 ho hb hg hat; rw [← Ny144.out] at ho; have n0_ := Aside0.mk (Kd.R_after (ok := (fun k_ => some k_ ≠ (v130 : Value).ownBlock)) zq18 hg hat); have n1_ := Aside0.mk (Kd.R_after (ok := (fun k_ => some k_ ≠ (u8 : Value).ownBlock)) zq28 hg hat); have n2_ := Aside0.mk (blk_grown (g := gb124) (o := .cells #[.int .i64 a0_0, .int .i64 a0_1, .slice (some ad143) l0_2.length c0_2] 31 (0, 0)) zq16 hg (Kd.R_ne HO_10.out BK124.out (by decide))); have n3_ := Aside0.mk (blk_grown (g := gb125) (o := .cells #[.int .i64 a1_0, .int .i64 a1_1, .slice (some ad137) l1_2.length c1_2] 31 (0, 0)) zq17 hg (Kd.R_ne HO_10.out BK125.out (by decide))); have n4_ := Aside0.mk (blk_grown (g := gb138) (o := .cells #[.int .i64 ((rd_T41 l1_2 x11_2).f0), .int .i64 ((rd_T41 l1_2 x11_2).f1), .int .i64 ((rd_T41 l1_2 x11_2).f2), .int .i64 ((rd_T41 l1_2 x11_2).f3), .int .i64 ((rd_T41 l1_2 x11_2).f4), .int .i64 ((rd_T41 l1_2 x11_2).f5)] 41 (0, 0)) zq10 hg (Kd.R_ne HO_10.out BK138.out (by decide))); have n5_ := Aside0.mk (hb); have n6_ := Aside0.mk (ho); clear HO_8; clear HO_9; clear BK124; clear BK125; clear BK138; clear HB; clear HO_10; have HO_8 := n0_; have HO_9 := n1_; have BK124 := n2_; have BK125 := n3_; have BK138 := n4_; have HB := n5_; have HO146 := n6_; clear n0_ n1_ n2_ n3_ n4_ n5_ n6_; clear ho hb hg hat)); try go_wp2_with (first | ((with_reducible refine gate_dst (N := 12) rfl ?_); refine box_event ?hg (N := 12) ?hd (cs := #[.int .i64 0, .int .i64 0, .int .i64 0, .int .i64 0, .int .i64 0, .int .i64 0]) (t := 41) ?hr ?_; (case hd => rfl); (case hg => rfl); (case hr => exact zqS); intro gb138 hg w43 hbox hb; have n0_ := Aside0.mk (Kd.R_below (zqR HO_8.out) hb); have n1_ := Aside0.mk (Kd.R_below (zqR HO_9.out) hb); have n2_ := Aside0.mk (Kd.R_below (zqR HO_10.out) hb); have n3_ := Aside0.mk (blk_below (g := gb124) (o := .cells #[.int .i64 a0_0, .int .i64 a0_1, .slice A0_2 l0_2.length c0_2] 31 (0, 0)) (zqK BK124.out) hb); have n4_ := Aside0.mk (blk_below (g := gb125) (o := .cells #[.int .i64 a1_0, .int .i64 a1_1, .slice (some ad137) l1_2.length c1_2] 31 (0, 0)) (zqK BK125.out) hb); have n5_ := Aside0.mk (below_step zq3 hb); have n6_ := Aside0.mk (hbox); have n7_ := Aside0.mk ((by rw [hg]; exact (below_size zq3) : w.heap.size ≤ gb138)); have n8_ := n7_; have n9_ := Aside0.mk ((by rw [hg]; exact Nat.ne_of_lt (blk_lt (g := gb124) (o := .cells #[.int .i64 a0_0, .int .i64 a0_1, .slice A0_2 l0_2.length c0_2] 31 (0, 0)) (zqK BK124.out)) : gb124 ≠ gb138)); have n10_ := Aside0.mk ((by rw [hg]; exact Nat.ne_of_gt (blk_lt (g := gb124) (o := .cells #[.int .i64 a0_0, .int .i64 a0_1, .slice A0_2 l0_2.length c0_2] 31 (0, 0)) (zqK BK124.out)) : gb138 ≠ gb124)); have n11_ := Aside0.mk ((by rw [hg]; exact Nat.ne_of_lt (blk_lt (g := gb125) (o := .cells #[.int .i64 a1_0, .int .i64 a1_1, .slice (some ad137) l1_2.length c1_2] 31 (0, 0)) (zqK BK125.out)) : gb125 ≠ gb138)); have n12_ := Aside0.mk ((by rw [hg]; exact Nat.ne_of_gt (blk_lt (g := gb125) (o := .cells #[.int .i64 a1_0, .int .i64 a1_1, .slice (some ad137) l1_2.length c1_2] 31 (0, 0)) (zqK BK125.out)) : gb138 ≠ gb125)); clear HO_8; clear HO_9; clear HO_10; clear BK124; clear BK125; clear HB; have HO_8 := n0_; have HO_9 := n1_; have HO_10 := n2_; have BK124 := n3_; have BK125 := n4_; have HB := n5_; have BK138 := n6_; have GW138 := n7_; have GE138 := n8_; have NB124_138 := n9_; have NB138_124 := n10_; have NB125_138 := n11_; have NB138_125 := n12_; clear n0_ n1_ n2_ n3_ n4_ n5_ n6_ n7_ n8_ n9_ n10_ n11_ n12_; clear hb hbox hg; have hnb44 := NB138_124.out; have hnc44 := NB124_138.out; have hnb45 := NB138_125.out; have hnc45 := NB125_138.out; obtain ⟨hcz46_0, hcz46_1, hcz46_2, hcz46_3, hcz46_4, hcz46_5, hfz46_0, hfz46_1, hfz46_2, hfz46_3, hfz46_4, hfz46_5⟩ := bz6 BK138.out; have hcz47_0 := bz BK124.out 0 (.int .i64 a0_0); have hcz47_1 := bz BK124.out 1 (.int .i64 a0_1); have hcz47_2 := bz BK124.out 2 (.slice A0_2 l0_2.length c0_2); have hfz47_0 := blk_frozen BK124.out 0; have hfz47_1 := blk_frozen BK124.out 1; have hfz47_2 := blk_frozen BK124.out 2) | (go_at_call 15; (with_reducible refine (spec_l14Find.calls k2 _ _ l0_2 ((rd_T41 l1_2 x11_2).f0) t139 _ ?side1 ?side2 A26.out).mono ?_); (case side1 => exact Kd.C_below HR0_2.out zq13); (case side2 => exact HC0_2.out); rintro e w' ⟨rfl, ⟨nd, rfl⟩⟩; (try first | exact ⟨rfl, _, World.drewN_drewN _ _ _⟩ | exact ⟨rfl, _, Eq.trans (World.drewN_drewN _ _ _) (congrArg (World.drewN _) (Nat.add_assoc _ _ _))⟩); all_goals (have p143 : 0 ≤ (t139 : Int) := of_decide_eq_true zq4; have q143 : t139 < (l0_2.length : Int) := of_decide_eq_true zq4; obtain ⟨ad143, e143, hx143_0, hx143_1, hx143_2, hx143_3, hx143_4, hx143_5⟩ := at_T41 HR0_2.out t139 p143 q143; cases e143; have hn143_0 : ad143.block ≠ gb138 := Nat.ne_of_lt (Nat.lt_of_lt_of_le (by have := World.block_lt_of_cell? _ _ hx143_0; first | rwa [add_block] at this | exact this) GW138.out); have hn143_1 : ad143.block ≠ gb138 := Nat.ne_of_lt (Nat.lt_of_lt_of_le (by have := World.block_lt_of_cell? _ _ hx143_0; first | rwa [add_block] at this | exact this) GW138.out); have hn143_2 : ad143.block ≠ gb138 := Nat.ne_of_lt (Nat.lt_of_lt_of_le (by have := World.block_lt_of_cell? _ _ hx143_0; first | rwa [add_block] at this | exact this) GW138.out); have hn143_3 : ad143.block ≠ gb138 := Nat.ne_of_lt (Nat.lt_of_lt_of_le (by have := World.block_lt_of_cell? _ _ hx143_0; first | rwa [add_block] at this | exact this) GW138.out); have hn143_4 : ad143.block ≠ gb138 := Nat.ne_of_lt (Nat.lt_of_lt_of_le (by have := World.block_lt_of_cell? _ _ hx143_0; first | rwa [add_block] at this | exact this) GW138.out); have hn143_5 : ad143.block ≠ gb138 := Nat.ne_of_lt (Nat.lt_of_lt_of_le (by have := World.block_lt_of_cell? _ _ hx143_0; first | rwa [add_block] at this | exact this) GW138.out); replace hx143_0 := bx HB.out hx143_0; replace hx143_1 := bx HB.out hx143_1; replace hx143_2 := bx HB.out hx143_2; replace hx143_3 := bx HB.out hx143_3; replace hx143_4 := bx HB.out hx143_4; replace hx143_5 := bx HB.out hx143_5; replace hx143_0 := far6b hx143_0 (by first | (rw [add_block]; exact hn143_0) | (show (Addr.add _ _).block ≠ _; rw [add_block]; exact hn143_0) | exact hn143_0) (.int .i64 ((rd_T41 l1_2 x11_2).f0)) (.int .i64 ((rd_T41 l1_2 x11_2).f1)) (.int .i64 ((rd_T41 l1_2 x11_2).f2)) (.int .i64 ((rd_T41 l1_2 x11_2).f3)) (.int .i64 ((rd_T41 l1_2 x11_2).f4)) (.int .i64 ((rd_T41 l1_2 x11_2).f5)); replace hx143_1 := far6b hx143_1 (by first | (rw [add_block]; exact hn143_0) | (show (Addr.add _ _).block ≠ _; rw [add_block]; exact hn143_0) | exact hn143_0) (.int .i64 ((rd_T41 l1_2 x11_2).f0)) (.int .i64 ((rd_T41 l1_2 x11_2).f1)) (.int .i64 ((rd_T41 l1_2 x11_2).f2)) (.int .i64 ((rd_T41 l1_2 x11_2).f3)) (.int .i64 ((rd_T41 l1_2 x11_2).f4)) (.int .i64 ((rd_T41 l1_2 x11_2).f5)); replace hx143_2 := far6b hx143_2 (by first | (rw [add_block]; exact hn143_0) | (show (Addr.add _ _).block ≠ _; rw [add_block]; exact hn143_0) | exact hn143_0) (.int .i64 ((rd_T41 l1_2 x11_2).f0)) (.int .i64 ((rd_T41 l1_2 x11_2).f1)) (.int .i64 ((rd_T41 l1_2 x11_2).f2)) (.int .i64 ((rd_T41 l1_2 x11_2).f3)) (.int .i64 ((rd_T41 l1_2 x11_2).f4)) (.int .i64 ((rd_T41 l1_2 x11_2).f5)); replace hx143_3 := far6b hx143_3 (by first | (rw [add_block]; exact hn143_0) | (show (Addr.add _ _).block ≠ _; rw [add_block]; exact hn143_0) | exact hn143_0) (.int .i64 ((rd_T41 l1_2 x11_2).f0)) (.int .i64 ((rd_T41 l1_2 x11_2).f1)) (.int .i64 ((rd_T41 l1_2 x11_2).f2)) (.int .i64 ((rd_T41 l1_2 x11_2).f3)) (.int .i64 ((rd_T41 l1_2 x11_2).f4)) (.int .i64 ((rd_T41 l1_2 x11_2).f5)); replace hx143_4 := far6b hx143_4 (by first | (rw [add_block]; exact hn143_0) | (show (Addr.add _ _).block ≠ _; rw [add_block]; exact hn143_0) | exact hn143_0) (.int .i64 ((rd_T41 l1_2 x11_2).f0)) (.int .i64 ((rd_T41 l1_2 x11_2).f1)) (.int .i64 ((rd_T41 l1_2 x11_2).f2)) (.int .i64 ((rd_T41 l1_2 x11_2).f3)) (.int .i64 ((rd_T41 l1_2 x11_2).f4)) (.int .i64 ((rd_T41 l1_2 x11_2).f5)); replace hx143_5 := far6b hx143_5 (by first | (rw [add_block]; exact hn143_0) | (show (Addr.add _ _).block ≠ _; rw [add_block]; exact hn143_0) | exact hn143_0) (.int .i64 ((rd_T41 l1_2 x11_2).f0)) (.int .i64 ((rd_T41 l1_2 x11_2).f1)) (.int .i64 ((rd_T41 l1_2 x11_2).f2)) (.int .i64 ((rd_T41 l1_2 x11_2).f3)) (.int .i64 ((rd_T41 l1_2 x11_2).f4)) (.int .i64 ((rd_T41 l1_2 x11_2).f5)); (try have hy143_0 := fun (n_ : Nat) => (far6n hx143_0 (by first | (rw [add_block]; exact hn143_0) | (show (Addr.add _ _).block ≠ _; rw [add_block]; exact hn143_0) | exact hn143_0) n_)); (try have hy143_1 := fun (n_ : Nat) => (far6n hx143_1 (by first | (rw [add_block]; exact hn143_0) | (show (Addr.add _ _).block ≠ _; rw [add_block]; exact hn143_0) | exact hn143_0) n_)); (try have hy143_2 := fun (n_ : Nat) => (far6n hx143_2 (by first | (rw [add_block]; exact hn143_0) | (show (Addr.add _ _).block ≠ _; rw [add_block]; exact hn143_0) | exact hn143_0) n_)); (try have hy143_3 := fun (n_ : Nat) => (far6n hx143_3 (by first | (rw [add_block]; exact hn143_0) | (show (Addr.add _ _).block ≠ _; rw [add_block]; exact hn143_0) | exact hn143_0) n_)); (try have hy143_4 := fun (n_ : Nat) => (far6n hx143_4 (by first | (rw [add_block]; exact hn143_0) | (show (Addr.add _ _).block ≠ _; rw [add_block]; exact hn143_0) | exact hn143_0) n_)); (try have hy143_5 := fun (n_ : Nat) => (far6n hx143_5 (by first | (rw [add_block]; exact hn143_0) | (show (Addr.add _ _).block ≠ _; rw [add_block]; exact hn143_0) | exact hn143_0) n_)); clear hn143_0; clear hn143_1; clear hn143_2; clear hn143_3; clear hn143_4; clear hn143_5; replace p143 := eq_true p143; replace q143 := eq_true q143)) | ((with_reducible refine gate_builtin (b := .append) (xs := #[.tmp 60, .tmp 63]) rfl ?_); at_builtin; refine Kd.R_append (Kd.int .i64) (w0 := w) w.heap.size rfl (.tmp 60) (.tmp 63) 26 3 (.int .i64 0) 8 rfl Try.underlying26 info3 rfl (by decide) (by omega) u10 x10_2 ((rd_T41 l1_2 x11_2).f0) [.int .i64 ((rd_T41 l1_2 x11_2).f0)] (fun k_ => some k_ ≠ (u8 : Value).ownBlock ∧ some k_ ≠ (v130 : Value).ownBlock) (fun _ => False) rfl (by first | (go_simp; done) | (go_simp; rfl)) ?aP (fun _ hk => hk.elim) ?aF ?aO ?aB ?aS ?aL ?_; (case aP => exact rfl); (case aB => exact zq13); (case aF => exact (fun k_ hk => ⟨Kd.fresh' (Kd.R_lt zq29) k_ hk, Kd.fresh' (Kd.R_lt zq19) k_ hk⟩)); (case aO => exact zq27); (case aS => exact (below_size zq13)); (case aL => have := LMc40.out; omega); intro v145 w48 ho hb hg hat; rw [← Ny144.out] at ho; have n0_ := Aside0.mk (Kd.R_after (ok := (fun k_ => some k_ ≠ (v130 : Value).ownBlock)) zq18 hg hat); have n1_ := Aside0.mk (Kd.R_after (ok := (fun k_ => some k_ ≠ (u8 : Value).ownBlock)) zq28 hg hat); have n2_ := Aside0.mk (blk_grown (g := gb124) (o := .cells #[.int .i64 a0_0, .int .i64 a0_1, .slice (some ad143) l0_2.length c0_2] 31 (0, 0)) zq16 hg (Kd.R_ne HO_10.out BK124.out (by decide))); have n3_ := Aside0.mk (blk_grown (g := gb125) (o := .cells #[.int .i64 a1_0, .int .i64 a1_1, .slice (some ad137) l1_2.length c1_2] 31 (0, 0)) zq17 hg (Kd.R_ne HO_10.out BK125.out (by decide))); have n4_ := Aside0.mk (blk_grown (g := gb138) (o := .cells #[.int .i64 ((rd_T41 l1_2 x11_2).f0), .int .i64 ((rd_T41 l1_2 x11_2).f1), .int .i64 ((rd_T41 l1_2 x11_2).f2), .int .i64 ((rd_T41 l1_2 x11_2).f3), .int .i64 ((rd_T41 l1_2 x11_2).f4), .int .i64 ((rd_T41 l1_2 x11_2).f5)] 41 (0, 0)) zq10 hg (Kd.R_ne HO_10.out BK138.out (by decide))); have n5_ := Aside0.mk (hb); have n6_ := Aside0.mk (ho); clear HO_8; clear HO_9; clear BK124; clear BK125; clear BK138; clear HB; clear HO_10; have HO_8 := n0_; have HO_9 := n1_; have BK124 := n2_; have BK125 := n3_; have BK138 := n4_; have HB := n5_; have HO146 := n6_; clear n0_ n1_ n2_ n3_ n4_ n5_ n6_; clear ho hb hg hat)))
    go_roundg k2
    case measure => have := HJ2.out; have := HK2.out; omega
    case rel => exact ⟨(x8_2), (y144), (wrap64 (x11_2 + 1)), (by first | rfl | (simp; done) | (simp [*]; done)), H', ⟨by have := HJ2.out; have := HK2.out; omega⟩, ⟨zqR HO_8.out⟩, ⟨zqR HO_9.out⟩, ⟨zqR HO146.out⟩, ⟨by (with_reducible repeat (first | refine blk_drewN ?_ _ | refine blk_drew ?_ | refine blk_alloc ?_ _)); exact BK124.out⟩, ⟨by (with_reducible repeat (first | refine blk_drewN ?_ _ | refine blk_drew ?_ | refine blk_alloc ?_ _)); exact BK125.out⟩, ⟨zq13⟩⟩
   rw [if_neg c24] at H
   have c24b0 : decide (x11_2 < (l1_2.length : Int)) = false := decide_eq_false c24
   clear c24
   have H' := Aside0.mk H
   clear H
   have hnb56 := NB125_124.out
   have hnc56 := NB124_125.out
   have hcz57_0 := bz BK125.out 0 (.int .i64 a1_0)
   have hcz57_1 := bz BK125.out 1 (.int .i64 a1_1)
   have hcz57_2 := bz BK125.out 2 (.slice A1_2 l1_2.length c1_2)
   have hfz57_0 := blk_frozen BK125.out 0
   have hfz57_1 := blk_frozen BK125.out 1
   have hfz57_2 := blk_frozen BK125.out 2
   go_wp2
   go_loopg [9, 14] k2 (fun kq v9 v14 w' => ∃ (x9_3 : List Int) (x14_3 : Int), v14 = .int .i64 x14_3 ∧ Aside0 (spec_BulletinChanges.l1 kq x8_2 x9_3 x10_2 x14_3 a0_0 a0_1 l0_2 a1_0 a1_1 l1_2 = some (r1, r2, r3, r4)) ∧ Aside0 (kq ≤ k2) ∧ Aside0 (Kd.R (Kd.int .i64) 3 w' w.heap.size (fun k_ => some k_ ≠ (v9 : Value).ownBlock ∧ some k_ ≠ (u10 : Value).ownBlock) u8 x8_2) ∧ Aside0 (Kd.R (Kd.int .i64) 3 w' w.heap.size (fun k_ => some k_ ≠ (u8 : Value).ownBlock ∧ some k_ ≠ (u10 : Value).ownBlock) v9 x9_3) ∧ Aside0 (Kd.R (Kd.int .i64) 3 w' w.heap.size (fun k_ => some k_ ≠ (u8 : Value).ownBlock ∧ some k_ ≠ (v9 : Value).ownBlock) u10 x10_2) ∧ Aside0 (w'.heap[gb124]? = some (.cells #[.int .i64 a0_0, .int .i64 a0_1, (.slice A0_2 l0_2.length c0_2)] 31 (0, 0))) ∧ Aside0 (w'.heap[gb125]? = some (.cells #[.int .i64 a1_0, .int .i64 a1_1, (.slice A1_2 l1_2.length c1_2)] 31 (0, 0))) ∧ Aside0 (Below w.heap.size w w'))
   case atStart => exact ⟨(y129), (0), (by first | rfl | (simp; done) | (simp [*]; done)), H', ⟨Nat.le_refl _⟩, ⟨zqR HO_8.out⟩, ⟨zqR HO_9.out⟩, ⟨zqR HO_10.out⟩, ⟨by (with_reducible repeat (first | refine blk_drewN ?_ _ | refine blk_drew ?_ | refine blk_alloc ?_ _)); exact BK124.out⟩, ⟨by (with_reducible repeat (first | refine blk_drewN ?_ _ | refine blk_drew ?_ | refine blk_alloc ?_ _)); exact BK125.out⟩, ⟨zq3⟩⟩
   clear H'
   try clear c1
   try clear p1
   try clear q1
   try clear hx1
   try clear c2
   try clear p2
   try clear c3
   try clear c4
   try clear c5
   try clear p6
   try clear c13
   try clear p13
   try clear q13
   try clear hx13
   try clear p14
   try clear q14
   try clear hx14
   try clear c15
   try clear c20
   try clear c23
   try clear c24
   try clear c24b0
   try clear c25
   try clear c25b0
   try clear c27
   try clear c27b0
   try clear c28
   try clear c29
   try clear c32
   try clear c33
   try clear c37
   try clear c37b0
   try clear c38
   try clear c38b0
   try clear c39
   try clear c39b0
   try clear c40
   try clear c41
   try clear c44
   try clear c45
   try clear c49
   try clear c52
   try clear c53
   try clear c56
   try clear hcz16_0
   try clear hcz16_1
   try clear hcz16_2
   try clear hcz18_0
   try clear hcz18_1
   try clear hcz18_2
   try clear hcz21_0
   try clear hcz21_1
   try clear hcz21_2
   try clear hcz30_0
   try clear hcz30_1
   try clear hcz30_2
   try clear hcz34_0
   try clear hcz34_1
   try clear hcz34_2
   try clear hcz34_3
   try clear hcz34_4
   try clear hcz34_5
   try clear hcz35_0
   try clear hcz35_1
   try clear hcz35_2
   try clear hcz42_0
   try clear hcz42_1
   try clear hcz42_2
   try clear hcz46_0
   try clear hcz46_1
   try clear hcz46_2
   try clear hcz46_3
   try clear hcz46_4
   try clear hcz46_5
   try clear hcz47_0
   try clear hcz47_1
   try clear hcz47_2
   try clear hcz50_0
   try clear hcz50_1
   try clear hcz50_2
   try clear hcz54_0
   try clear hcz54_1
   try clear hcz54_2
   try clear hcz54_3
   try clear hcz54_4
   try clear hcz54_5
   try clear hcz55_0
   try clear hcz55_1
   try clear hcz55_2
   try clear hcz57_0
   try clear hcz57_1
   try clear hcz57_2
   try clear hfz16_0
   try clear hfz16_1
   try clear hfz16_2
   try clear hfz18_0
   try clear hfz18_1
   try clear hfz18_2
   try clear hfz21_0
   try clear hfz21_1
   try clear hfz21_2
   try clear hfz30_0
   try clear hfz30_1
   try clear hfz30_2
   try clear hfz34_0
   try clear hfz34_1
   try clear hfz34_2
   try clear hfz34_3
   try clear hfz34_4
   try clear hfz34_5
   try clear hfz35_0
   try clear hfz35_1
   try clear hfz35_2
   try clear hfz42_0
   try clear hfz42_1
   try clear hfz42_2
   try clear hfz46_0
   try clear hfz46_1
   try clear hfz46_2
   try clear hfz46_3
   try clear hfz46_4
   try clear hfz46_5
   try clear hfz47_0
   try clear hfz47_1
   try clear hfz47_2
   try clear hfz50_0
   try clear hfz50_1
   try clear hfz50_2
   try clear hfz54_0
   try clear hfz54_1
   try clear hfz54_2
   try clear hfz54_3
   try clear hfz54_4
   try clear hfz54_5
   try clear hfz55_0
   try clear hfz55_1
   try clear hfz55_2
   try clear hfz57_0
   try clear hfz57_1
   try clear hfz57_2
   try clear hx137_0
   try clear hx137_1
   try clear hx137_2
   try clear hx137_3
   try clear hx137_4
   try clear hx137_5
   try clear hx143_0
   try clear hx143_1
   try clear hx143_2
   try clear hx143_3
   try clear hx143_4
   try clear hx143_5
   try clear p137
   try clear p143
   try clear p2
   try clear q137
   try clear q143
   obtain ⟨x9_3, x14_3, rfl, HA, HK3, HO_8, HO_9, HO_10, BK124, BK125, HB⟩ := hrel
   cases gk with
   | zero => exact absurd HA.out (by simp [spec_BulletinChanges.l1])
   | succ k3 =>
    have H := HA.out
    clear HA
    simp only [spec_BulletinChanges.l1] at H
    by_cases c58 : x14_3 < (l0_2.length : Int)
    case neg =>
     rw [if_neg c58] at H
     have c58b0 : decide (x14_3 < (l0_2.length : Int)) = false := decide_eq_false c58
     clear c58
     simp only [Option.some.injEq, Prod.mk.injEq] at H
     obtain ⟨rfl, rfl, rfl, rfl⟩ := H
     have hnb70 := NB124_125.out
     have hnc70 := NB125_124.out
     have hcz71_0 := bz BK124.out 0 (.int .i64 a0_0)
     have hcz71_1 := bz BK124.out 1 (.int .i64 a0_1)
     have hcz71_2 := bz BK124.out 2 (.slice A0_2 l0_2.length c0_2)
     have hfz71_0 := blk_frozen BK124.out 0
     have hfz71_1 := blk_frozen BK124.out 1
     have hfz71_2 := blk_frozen BK124.out 2
     go_wp2
     refine bodyPost_ret (results_list (rs := [.tmp 4, .tmp 5, .tmp 6, .tmp 7]) rfl (by simp) (.tmp (.tmp (.tmp (.tmp .nil))))) rfl ?_
     exact ⟨_, _, _, by first | rfl | (simp [errW_none, errW_some] <;> rfl) | (simp [*, errW_none, errW_some] <;> rfl), zqR HO_8.out, zqR HO_9.out, zqR HO_10.out, zq3⟩
    rw [if_pos c58] at H
    have c58b0 : decide (x14_3 < (l0_2.length : Int)) = true := decide_eq_true c58
    clear c58
    by_cases c59 : 0 ≤ x14_3
    case neg =>
     rw [if_neg c59] at H
     exact absurd H (by simp)
    rw [if_pos c59] at H
    have c59b0 : decide (0 ≤ x14_3) = true := decide_eq_true c59
    clear c59
    replace H := Option.bind_eq_some_iff.mp H
    obtain ⟨t148, A600, H⟩ := H
    replace H : (if t148 < 0 then (if x9_3.length < 17592186044416 then (spec_BulletinChanges.l1 k3 x8_2 (x9_3 ++ [(rd_T41 l0_2 x14_3).f0]) x10_2 (wrap64 (x14_3 + 1)) a0_0 a0_1 l0_2 a1_0 a1_1 l1_2) else (none)) else (spec_BulletinChanges.l1 k3 x8_2 x9_3 x10_2 (wrap64 (x14_3 + 1)) a0_0 a0_1 l0_2 a1_0 a1_1 l1_2)) = some (r1, r2, r3, r4) := H
    have A60 := Aside0.mk A600
    clear A600
    by_cases c61 : t148 < 0
    case neg =>
     rw [if_neg c61] at H
     have c61b0 : decide (t148 < 0) = false := decide_eq_false c61
     clear c61
     have H' := Aside0.mk H
     clear H
     have hnb67 := NB124_125.out
     have hnc67 := NB125_124.out
     have hcz68_0 := bz BK124.out 0 (.int .i64 a0_0)
     have hcz68_1 := bz BK124.out 1 (.int .i64 a0_1)
     have hcz68_2 := bz BK124.out 2 (.slice A0_2 l0_2.length c0_2)
     have hfz68_0 := blk_frozen BK124.out 0
     have hfz68_1 := blk_frozen BK124.out 1
     have hfz68_2 := blk_frozen BK124.out 2
     have hcz69_0 := bz BK125.out 0 (.int .i64 a1_0)
     have hcz69_1 := bz BK125.out 1 (.int .i64 a1_1)
     have hcz69_2 := bz BK125.out 2 (.slice A1_2 l1_2.length c1_2)
     have hfz69_0 := blk_frozen BK125.out 0
     have hfz69_1 := blk_frozen BK125.out 1
     have hfz69_2 := blk_frozen BK125.out 2
     have p147 : 0 ≤ (x14_3 : Int) := of_decide_eq_true zq4
     have q147 : x14_3 < (l0_2.length : Int) := of_decide_eq_true zq4
     obtain ⟨ad147, e147, hx147_0, hx147_1, hx147_2, hx147_3, hx147_4, hx147_5⟩ := at_T41 HR0_2.out x14_3 p147 q147
     cases e147
     replace hx147_0 := bx HB.out hx147_0
     replace hx147_1 := bx HB.out hx147_1
     replace hx147_2 := bx HB.out hx147_2
     replace hx147_3 := bx HB.out hx147_3
     replace hx147_4 := bx HB.out hx147_4
     replace hx147_5 := bx HB.out hx147_5
     replace p147 := eq_true p147
     replace q147 := eq_true q147
     go_wp2_with (first | (go_at_call 15; (with_reducible refine (spec_l14Find.calls k3 _ _ l1_2 ((rd_T41 l0_2 x14_3).f0) t148 _ ?side1 ?side2 A60.out).mono ?_); (case side1 => exact zqC (Kd.C_below HR1_2.out HB.out)); (case side2 => exact HC1_2.out); rintro e w' ⟨rfl, ⟨nd, rfl⟩⟩; (try first | exact ⟨rfl, _, World.drewN_drewN _ _ _⟩ | exact ⟨rfl, _, Eq.trans (World.drewN_drewN _ _ _) (congrArg (World.drewN _) (Nat.add_assoc _ _ _))⟩)))
     repeat (go_quiet (first | (go_at_call 15; (with_reducible refine (spec_l14Find.calls k3 _ _ l1_2 ((rd_T41 l0_2 x14_3).f0) t148 _ ?side1 ?side2 A60.out).mono ?_); (case side1 => exact zqC (Kd.C_below HR1_2.out HB.out)); (case side2 => exact HC1_2.out); rintro e w' ⟨rfl, ⟨nd, rfl⟩⟩; (try first | exact ⟨rfl, _, World.drewN_drewN _ _ _⟩ | exact ⟨rfl, _, Eq.trans (World.drewN_drewN _ _ _) (congrArg (World.drewN _) (Nat.add_assoc _ _ _))⟩))); try go_wp2_with (first | (go_at_call 15; (with_reducible refine (spec_l14Find.calls k3 _ _ l1_2 ((rd_T41 l0_2 x14_3).f0) t148 _ ?side1 ?side2 A60.out).mono ?_); (case side1 => exact zqC (Kd.C_below HR1_2.out HB.out)); (case side2 => exact HC1_2.out); rintro e w' ⟨rfl, ⟨nd, rfl⟩⟩; (try first | exact ⟨rfl, _, World.drewN_drewN _ _ _⟩ | exact ⟨rfl, _, Eq.trans (World.drewN_drewN _ _ _) (congrArg (World.drewN _) (Nat.add_assoc _ _ _))⟩))))
     go_roundg k3
     case measure => have := HJ2.out; have := HK2.out; have := HK3.out; omega
     case rel => exact ⟨(x9_3), (wrap64 (x14_3 + 1)), (by first | rfl | (simp; done) | (simp [*]; done)), H', ⟨by have := HJ2.out; have := HK2.out; have := HK3.out; omega⟩, ⟨zqR HO_8.out⟩, ⟨zqR HO_9.out⟩, ⟨zqR HO_10.out⟩, ⟨by (with_reducible repeat (first | refine blk_drewN ?_ _ | refine blk_drew ?_ | refine blk_alloc ?_ _)); exact BK124.out⟩, ⟨by (with_reducible repeat (first | refine blk_drewN ?_ _ | refine blk_drew ?_ | refine blk_alloc ?_ _)); exact BK125.out⟩, ⟨zq3⟩⟩
    rw [if_pos c61] at H
    have c61b0 : decide (t148 < 0) = true := decide_eq_true c61
    clear c61
    by_cases c62 : x9_3.length < 17592186044416
    case neg =>
     rw [if_neg c62] at H
     exact absurd H (by simp)
    rw [if_pos c62] at H
    have LMc62 := Aside0.mk c62
    clear c62
    obtain ⟨y150, hy150⟩ : ∃ y_ : List Int, y_ = (x9_3 ++ [(rd_T41 l0_2 x14_3).f0]) := ⟨_, rfl⟩
    replace H : (spec_BulletinChanges.l1 k3 x8_2 y150 x10_2 (wrap64 (x14_3 + 1)) a0_0 a0_1 l0_2 a1_0 a1_1 l1_2) = some (r1, r2, r3, r4) := zqH hy150 H
    have Ny150 := Aside0.mk hy150
    clear hy150
    have H' := Aside0.mk H
    clear H
    have hnb63 := NB124_125.out
    have hnc63 := NB125_124.out
    have hcz64_0 := bz BK124.out 0 (.int .i64 a0_0)
    have hcz64_1 := bz BK124.out 1 (.int .i64 a0_1)
    have hcz64_2 := bz BK124.out 2 (.slice A0_2 l0_2.length c0_2)
    have hfz64_0 := blk_frozen BK124.out 0
    have hfz64_1 := blk_frozen BK124.out 1
    have hfz64_2 := blk_frozen BK124.out 2
    have hcz65_0 := bz BK125.out 0 (.int .i64 a1_0)
    have hcz65_1 := bz BK125.out 1 (.int .i64 a1_1)
    have hcz65_2 := bz BK125.out 2 (.slice A1_2 l1_2.length c1_2)
    have hfz65_0 := blk_frozen BK125.out 0
    have hfz65_1 := blk_frozen BK125.out 1
    have hfz65_2 := blk_frozen BK125.out 2
    have p147 : 0 ≤ (x14_3 : Int) := of_decide_eq_true zq4
    have q147 : x14_3 < (l0_2.length : Int) := of_decide_eq_true zq4
    obtain ⟨ad147, e147, hx147_0, hx147_1, hx147_2, hx147_3, hx147_4, hx147_5⟩ := at_T41 HR0_2.out x14_3 p147 q147
    cases e147
    replace hx147_0 := bx HB.out hx147_0
    replace hx147_1 := bx HB.out hx147_1
    replace hx147_2 := bx HB.out hx147_2
    replace hx147_3 := bx HB.out hx147_3
    replace hx147_4 := bx HB.out hx147_4
    replace hx147_5 := bx HB.out hx147_5
    replace p147 := eq_true p147
    replace q147 := eq_true q147
    go_wp2_with (first | (go_at_call 15; (with_reducible refine (spec_l14Find.calls k3 _ _ l1_2 ((rd_T41 l0_2 x14_3).f0) t148 _ ?side1 ?side2 A60.out).mono ?_); (case side1 => exact zqC (Kd.C_below HR1_2.out HB.out)); (case side2 => exact HC1_2.out); rintro e w' ⟨rfl, ⟨nd, rfl⟩⟩; (try first | exact ⟨rfl, _, World.drewN_drewN _ _ _⟩ | exact ⟨rfl, _, Eq.trans (World.drewN_drewN _ _ _) (congrArg (World.drewN _) (Nat.add_assoc _ _ _))⟩); all_goals (have p149 : 0 ≤ (x14_3 : Int) := of_decide_eq_true zq4; have q149 : x14_3 < (l0_2.length : Int) := of_decide_eq_true zq4; obtain ⟨ad149, e149, hx149_0, hx149_1, hx149_2, hx149_3, hx149_4, hx149_5⟩ := at_T41 HR0_2.out x14_3 p149 q149; obtain rfl : ad147 = ad149 := (by injection e149); replace hx149_0 := bx HB.out hx149_0; replace hx149_1 := bx HB.out hx149_1; replace hx149_2 := bx HB.out hx149_2; replace hx149_3 := bx HB.out hx149_3; replace hx149_4 := bx HB.out hx149_4; replace hx149_5 := bx HB.out hx149_5; replace p149 := eq_true p149; replace q149 := eq_true q149)) | ((with_reducible refine gate_builtin (b := .append) (xs := #[.tmp 82, .tmp 89]) rfl ?_); at_builtin; refine Kd.R_append (Kd.int .i64) (w0 := w) w.heap.size rfl (.tmp 82) (.tmp 89) 26 3 (.int .i64 0) 8 rfl Try.underlying26 info3 rfl (by decide) (by omega) u9 x9_3 ((rd_T41 l0_2 x14_3).f0) [.int .i64 ((rd_T41 l0_2 x14_3).f0)] (fun k_ => some k_ ≠ (u8 : Value).ownBlock ∧ some k_ ≠ (u10 : Value).ownBlock) (fun _ => False) rfl rfl ?aP (fun _ hk => hk.elim) ?aF ?aO ?aB ?aS ?aL ?_; (case aP => exact rfl); (case aB => exact zq3); (case aF => exact (fun k_ hk => ⟨Kd.fresh' (Kd.R_lt (zqR HO_8.out)) k_ hk, Kd.fresh' (Kd.R_lt (zqR HO_10.out)) k_ hk⟩)); (case aO => exact (zqR HO_9.out)); (case aS => exact (below_size zq3)); (case aL => have := LMc62.out; omega); intro v151 w66 ho hb hg hat; rw [← Ny150.out] at ho; have n0_ := Aside0.mk (Kd.R_after (ok := (fun k_ => some k_ ≠ (u10 : Value).ownBlock)) zq50 hg hat); have n1_ := Aside0.mk (Kd.R_after (ok := (fun k_ => some k_ ≠ (u8 : Value).ownBlock)) (zqR HO_10.out) hg hat); have n2_ := Aside0.mk (blk_grown (g := gb124) (o := .cells #[.int .i64 a0_0, .int .i64 a0_1, .slice (some ad147) l0_2.length c0_2] 31 (0, 0)) (zqK BK124.out) hg (Kd.R_ne HO_9.out BK124.out (by decide))); have n3_ := Aside0.mk (blk_grown (g := gb125) (o := .cells #[.int .i64 a1_0, .int .i64 a1_1, .slice A1_2 l1_2.length c1_2] 31 (0, 0)) (zqK BK125.out) hg (Kd.R_ne HO_9.out BK125.out (by decide))); have n4_ := Aside0.mk (hb); have n5_ := Aside0.mk (ho); clear HO_8; clear HO_10; clear BK124; clear BK125; clear HB; clear HO_9; have HO_8 := n0_; have HO_10 := n1_; have BK124 := n2_; have BK125 := n3_; have HB := n4_; have HO152 := n5_; clear n0_ n1_ n2_ n3_ n4_ n5_; clear ho hb hg hat))
    repeat (go_quiet (first | (go_at_call 15; (with_reducible refine (spec_l14Find.calls k3 _ _ l1_2 ((rd_T41 l0_2 x14_3).f0) t148 _ ?side1 ?side2 A60.out).mono ?_); (case side1 => exact zqC (Kd.C_below HR1_2.out HB.out)); (case side2 => exact HC1_2.out); rintro e w' ⟨rfl, ⟨nd, rfl⟩⟩; (try first | exact ⟨rfl, _, World.drewN_drewN _ _ _⟩ | exact ⟨rfl, _, Eq.trans (World.drewN_drewN _ _ _) (congrArg (World.drewN _) (Nat.add_assoc _ _ _))⟩); all_goals (have p149 : 0 ≤ (x14_3 : Int) := of_decide_eq_true zq4; have q149 : x14_3 < (l0_2.length : Int) := of_decide_eq_true zq4; obtain ⟨ad149, e149, hx149_0, hx149_1, hx149_2, hx149_3, hx149_4, hx149_5⟩ := at_T41 HR0_2.out x14_3 p149 q149; obtain rfl : ad147 = ad149 := (by injection e149); replace hx149_0 := bx HB.out hx149_0; replace hx149_1 := bx HB.out hx149_1; replace hx149_2 := bx HB.out hx149_2; replace hx149_3 := bx HB.out hx149_3; replace hx149_4 := bx HB.out hx149_4; replace hx149_5 := bx HB.out hx149_5; replace p149 := eq_true p149; replace q149 := eq_true q149)) | ((with_reducible refine gate_builtin (b := .append) (xs := #[.tmp 82, .tmp 89]) rfl ?_); at_builtin; refine Kd.R_append (Kd.int .i64) (w0 := w) w.heap.size rfl (.tmp 82) (.tmp 89) 26 3 (.int .i64 0) 8 rfl Try.underlying26 info3 rfl (by decide) (by omega) u9 x9_3 ((rd_T41 l0_2 x14_3).f0) [.int .i64 ((rd_T41 l0_2 x14_3).f0)] (fun k_ => some k_ ≠ (u8 : Value).ownBlock ∧ some k_ ≠ (u10 : Value).ownBlock) (fun _ => False) rfl rfl ?aP (fun _ hk => hk.elim) ?aF ?aO ?aB ?aS ?aL ?_; (case aP => exact rfl); (case aB => exact zq3); (case aF => exact (fun k_ hk => ⟨Kd.fresh' (Kd.R_lt (zqR HO_8.out)) k_ hk, Kd.fresh' (Kd.R_lt (zqR HO_10.out)) k_ hk⟩)); (case aO => exact (zqR HO_9.out)); (case aS => exact (below_size zq3)); (case aL => have := LMc62.out; omega); intro v151 w66 ho hb hg hat; rw [← Ny150.out] at ho; have n0_ := Aside0.mk (Kd.R_after (ok := (fun k_ => some k_ ≠ (u10 : Value).ownBlock)) zq50 hg hat); have n1_ := Aside0.mk (Kd.R_after (ok := (fun k_ => some k_ ≠ (u8 : Value).ownBlock)) (zqR HO_10.out) hg hat); have n2_ := Aside0.mk (blk_grown (g := gb124) (o := .cells #[.int .i64 a0_0, .int .i64 a0_1, .slice (some ad147) l0_2.length c0_2] 31 (0, 0)) (zqK BK124.out) hg (Kd.R_ne HO_9.out BK124.out (by decide))); have n3_ := Aside0.mk (blk_grown (g := gb125) (o := .cells #[.int .i64 a1_0, .int .i64 a1_1, .slice A1_2 l1_2.length c1_2] 31 (0, 0)) (zqK BK125.out) hg (Kd.R_ne HO_9.out BK125.out (by decide))); have n4_ := Aside0.mk (hb); have n5_ := Aside0.mk (ho); clear HO_8; clear HO_10; clear BK124; clear BK125; clear HB; clear HO_9; have HO_8 := n0_; have HO_10 := n1_; have BK124 := n2_; have BK125 := n3_; have HB := n4_; have HO152 := n5_; clear n0_ n1_ n2_ n3_ n4_ n5_; clear ho hb hg hat)); try go_wp2_with (first | (go_at_call 15; (with_reducible refine (spec_l14Find.calls k3 _ _ l1_2 ((rd_T41 l0_2 x14_3).f0) t148 _ ?side1 ?side2 A60.out).mono ?_); (case side1 => exact zqC (Kd.C_below HR1_2.out HB.out)); (case side2 => exact HC1_2.out); rintro e w' ⟨rfl, ⟨nd, rfl⟩⟩; (try first | exact ⟨rfl, _, World.drewN_drewN _ _ _⟩ | exact ⟨rfl, _, Eq.trans (World.drewN_drewN _ _ _) (congrArg (World.drewN _) (Nat.add_assoc _ _ _))⟩); all_goals (have p149 : 0 ≤ (x14_3 : Int) := of_decide_eq_true zq4; have q149 : x14_3 < (l0_2.length : Int) := of_decide_eq_true zq4; obtain ⟨ad149, e149, hx149_0, hx149_1, hx149_2, hx149_3, hx149_4, hx149_5⟩ := at_T41 HR0_2.out x14_3 p149 q149; obtain rfl : ad147 = ad149 := (by injection e149); replace hx149_0 := bx HB.out hx149_0; replace hx149_1 := bx HB.out hx149_1; replace hx149_2 := bx HB.out hx149_2; replace hx149_3 := bx HB.out hx149_3; replace hx149_4 := bx HB.out hx149_4; replace hx149_5 := bx HB.out hx149_5; replace p149 := eq_true p149; replace q149 := eq_true q149)) | ((with_reducible refine gate_builtin (b := .append) (xs := #[.tmp 82, .tmp 89]) rfl ?_); at_builtin; refine Kd.R_append (Kd.int .i64) (w0 := w) w.heap.size rfl (.tmp 82) (.tmp 89) 26 3 (.int .i64 0) 8 rfl Try.underlying26 info3 rfl (by decide) (by omega) u9 x9_3 ((rd_T41 l0_2 x14_3).f0) [.int .i64 ((rd_T41 l0_2 x14_3).f0)] (fun k_ => some k_ ≠ (u8 : Value).ownBlock ∧ some k_ ≠ (u10 : Value).ownBlock) (fun _ => False) rfl rfl ?aP (fun _ hk => hk.elim) ?aF ?aO ?aB ?aS ?aL ?_; (case aP => exact rfl); (case aB => exact zq3); (case aF => exact (fun k_ hk => ⟨Kd.fresh' (Kd.R_lt (zqR HO_8.out)) k_ hk, Kd.fresh' (Kd.R_lt (zqR HO_10.out)) k_ hk⟩)); (case aO => exact (zqR HO_9.out)); (case aS => exact (below_size zq3)); (case aL => have := LMc62.out; omega); intro v151 w66 ho hb hg hat; rw [← Ny150.out] at ho; have n0_ := Aside0.mk (Kd.R_after (ok := (fun k_ => some k_ ≠ (u10 : Value).ownBlock)) zq50 hg hat); have n1_ := Aside0.mk (Kd.R_after (ok := (fun k_ => some k_ ≠ (u8 : Value).ownBlock)) (zqR HO_10.out) hg hat); have n2_ := Aside0.mk (blk_grown (g := gb124) (o := .cells #[.int .i64 a0_0, .int .i64 a0_1, .slice (some ad147) l0_2.length c0_2] 31 (0, 0)) (zqK BK124.out) hg (Kd.R_ne HO_9.out BK124.out (by decide))); have n3_ := Aside0.mk (blk_grown (g := gb125) (o := .cells #[.int .i64 a1_0, .int .i64 a1_1, .slice A1_2 l1_2.length c1_2] 31 (0, 0)) (zqK BK125.out) hg (Kd.R_ne HO_9.out BK125.out (by decide))); have n4_ := Aside0.mk (hb); have n5_ := Aside0.mk (ho); clear HO_8; clear HO_10; clear BK124; clear BK125; clear HB; clear HO_9; have HO_8 := n0_; have HO_10 := n1_; have BK124 := n2_; have BK125 := n3_; have HB := n4_; have HO152 := n5_; clear n0_ n1_ n2_ n3_ n4_ n5_; clear ho hb hg hat)))
    go_roundg k3
    case measure => have := HJ2.out; have := HK2.out; have := HK3.out; omega
    case rel => exact ⟨(y150), (wrap64 (x14_3 + 1)), (by first | rfl | (simp; done) | (simp [*]; done)), H', ⟨by have := HJ2.out; have := HK2.out; have := HK3.out; omega⟩, ⟨by (with_reducible repeat (first | apply Kd.R_alloc | apply Kd.R_drewN | apply Kd.R_drew)); exact Kd.R_mono HO_8.out (fun _ hk => ⟨hk.2, hk.1⟩)⟩, ⟨zqR HO152.out⟩, ⟨zqR HO_10.out⟩, ⟨by (with_reducible repeat (first | refine blk_drewN ?_ _ | refine blk_drew ?_ | refine blk_alloc ?_ _)); exact BK124.out⟩, ⟨by (with_reducible repeat (first | refine blk_drewN ?_ _ | refine blk_drew ?_ | refine blk_alloc ?_ _)); exact BK125.out⟩, ⟨zq3⟩⟩
end Go.Proofs.Ytlagjagmobbngaa.Q
