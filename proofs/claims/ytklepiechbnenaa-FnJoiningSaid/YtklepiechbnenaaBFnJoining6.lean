/- Texts of this seat, put together: Qf69, Qf12, Qf61, Qf74, Qf93. -/
import Derived.Test.YtklepiechbnenaaZFnJoining
import Derived.Test.YtklepiechbnenaaBFnJoining0
import Derived.Test.YtklepiechbnenaaBFnJoining5
namespace Go.Proofs.Ytklepiechbnenaa.Q
open Go.RowKit Go.Proofs.YtklepiechbnenaaW.PrintWords Go.Proofs.YtklepiechbnenaaW.PrintLast Go.Proofs.YtklepiechbnenaaW.PrintMore
attribute [local go_sem] max2_int min2_int max_two min_two max_three min_three max_four min_four   -- for this text's walks alone
set_option linter.unusedVariables false
set_option linter.unusedSimpArgs false

/-! ### impl_doMeet: function 69 -/
def impl_doMeet.f (a0_0 : Int) (a0_1 : Int) (a0_2 : Int) (a0_3 : Int) (a0_4 : Int) (a0_5 : Int) (a1_0 : Int) (a1_1 : Int) (a1_2 : Int) (a1_3 : Int) (a1_4 : Int) (a1_5 : Int) : Option (Bool) := if a0_1 = a1_1 then (if a0_3 = a1_3 then (if a0_4 < a1_5 then (some (decide (a1_4 < a0_5))) else (some false)) else (some false)) else (some false)
set_option maxHeartbeats 8000000 in
set_option maxRecDepth 100000 in
theorem impl_doMeet.calls (a0_0 : Int) (a0_1 : Int) (a0_2 : Int) (a0_3 : Int) (a0_4 : Int) (a0_5 : Int) (a1_0 : Int) (a1_1 : Int) (a1_2 : Int) (a1_3 : Int) (a1_4 : Int) (a1_5 : Int) (r : Bool) (w : World) (h : impl_doMeet.f a0_0 a0_1 a0_2 a0_3 a0_4 a0_5 a1_0 a1_1 a1_2 a1_3 a1_4 a1_5 = some r) :
  Calls Try.prog 69 #[.agg #[.int .i64 a0_0, .int .i64 a0_1, .int .i64 a0_2, .int .i64 a0_3, .int .i64 a0_4, .int .i64 a0_5], .agg #[.int .i64 a1_0, .int .i64 a1_1, .int .i64 a1_2, .int .i64 a1_3, .int .i64 a1_4, .int .i64 a1_5]] w fun e w' => e = .returned (.bool r) ∧ Below w.heap.size w w' := by
 have hu31 := Try.underlying31
 have HB := Aside0.mk (Below.refl w.heap.size w)
 have H : (if a0_1 = a1_1 then (if a0_3 = a1_3 then (if a0_4 < a1_5 then (some (decide (a1_4 < a0_5))) else (some false)) else (some false)) else (some false)) = some r := h
 clear h
 by_cases c3 : a0_1 = a1_1
 case neg =>
  rw [if_neg c3] at H
  have c3b0 : (a0_1 == a1_1) = false := beq_eq_false_iff_ne.mpr c3
  have c3b1 : (a0_1 != a1_1) = true := bne_iff_ne.mpr c3
  obtain rfl := Option.some.inj H
  go_enter Try.func69, Try.ntmps69
  go_wp2_with (first | ((with_reducible refine gate_dst (N := 2) rfl ?_); refine box_event ?hg (N := 2) ?hd (cs := #[.int .i64 a0_0, .int .i64 a0_1, .int .i64 a0_2, .int .i64 a0_3, .int .i64 a0_4, .int .i64 a0_5]) (t := 31) ?hr ?_; (case hd => rfl); (case hg => rfl); (case hr => exact zqS); intro gb290 hg w21 hbox hb; have n0_ := Aside0.mk (below_step zq0 hb); have n1_ := Aside0.mk (hbox); have n2_ := Aside0.mk ((by rw [hg]; exact (below_size zq0) : w.heap.size ≤ gb290)); have n3_ := n2_; clear HB; have HB := n0_; have BK290 := n1_; have GW290 := n2_; have GE290 := n3_; clear n0_ n1_ n2_ n3_; clear hb hbox hg) | ((with_reducible refine gate_dst (N := 3) rfl ?_); refine box_event ?hg (N := 3) ?hd (cs := #[.int .i64 a1_0, .int .i64 a1_1, .int .i64 a1_2, .int .i64 a1_3, .int .i64 a1_4, .int .i64 a1_5]) (t := 31) ?hr ?_; (case hd => rfl); (case hg => rfl); (case hr => exact zqS); intro gb291 hg w22 hbox hb; have n0_ := Aside0.mk (blk_below (g := gb290) (o := .cells #[.int .i64 a0_0, .int .i64 a0_1, .int .i64 a0_2, .int .i64 a0_3, .int .i64 a0_4, .int .i64 a0_5] 31 (0, 0)) (zqK BK290.out) hb); have n1_ := Aside0.mk (below_step zq21 hb); have n2_ := Aside0.mk (hbox); have n3_ := Aside0.mk ((by rw [hg]; exact (below_size zq21) : w.heap.size ≤ gb291)); have n4_ := n3_; have n5_ := Aside0.mk ((by rw [hg]; exact Nat.ne_of_lt (blk_lt (g := gb290) (o := .cells #[.int .i64 a0_0, .int .i64 a0_1, .int .i64 a0_2, .int .i64 a0_3, .int .i64 a0_4, .int .i64 a0_5] 31 (0, 0)) (zqK BK290.out)) : gb290 ≠ gb291)); have n6_ := Aside0.mk ((by rw [hg]; exact Nat.ne_of_gt (blk_lt (g := gb290) (o := .cells #[.int .i64 a0_0, .int .i64 a0_1, .int .i64 a0_2, .int .i64 a0_3, .int .i64 a0_4, .int .i64 a0_5] 31 (0, 0)) (zqK BK290.out)) : gb291 ≠ gb290)); clear BK290; clear HB; have BK290 := n0_; have HB := n1_; have BK291 := n2_; have GW291 := n3_; have GE291 := n4_; have NB290_291 := n5_; have NB291_290 := n6_; clear n0_ n1_ n2_ n3_ n4_ n5_ n6_; clear hb hbox hg; have hnb23 := NB290_291.out; have hnc23 := NB291_290.out; obtain ⟨hcz24_0, hcz24_1, hcz24_2, hcz24_3, hcz24_4, hcz24_5, hfz24_0, hfz24_1, hfz24_2, hfz24_3, hfz24_4, hfz24_5⟩ := bz6 BK290.out; obtain ⟨hcz25_0, hcz25_1, hcz25_2, hcz25_3, hcz25_4, hcz25_5, hfz25_0, hfz25_1, hfz25_2, hfz25_3, hfz25_4, hfz25_5⟩ := bz6 BK291.out))
  go_ret
  exact ⟨zqE, zq33⟩
 rw [if_pos c3] at H
 have c3b0 : (a0_1 == a1_1) = true := beq_iff_eq.mpr c3
 have c3b1 : (a0_1 != a1_1) = false := bne_eq_false_iff_eq.mpr c3
 clear c3
 by_cases c4 : a0_3 = a1_3
 case neg =>
  rw [if_neg c4] at H
  have c4b0 : (a0_3 == a1_3) = false := beq_eq_false_iff_ne.mpr c4
  have c4b1 : (a0_3 != a1_3) = true := bne_iff_ne.mpr c4
  obtain rfl := Option.some.inj H
  go_enter Try.func69, Try.ntmps69
  go_wp2_with (first | ((with_reducible refine gate_dst (N := 2) rfl ?_); refine box_event ?hg (N := 2) ?hd (cs := #[.int .i64 a0_0, .int .i64 a0_1, .int .i64 a0_2, .int .i64 a0_3, .int .i64 a0_4, .int .i64 a0_5]) (t := 31) ?hr ?_; (case hd => rfl); (case hg => rfl); (case hr => exact zqS); intro gb290 hg w16 hbox hb; have n0_ := Aside0.mk (below_step zq0 hb); have n1_ := Aside0.mk (hbox); have n2_ := Aside0.mk ((by rw [hg]; exact (below_size zq0) : w.heap.size ≤ gb290)); have n3_ := n2_; clear HB; have HB := n0_; have BK290 := n1_; have GW290 := n2_; have GE290 := n3_; clear n0_ n1_ n2_ n3_; clear hb hbox hg) | ((with_reducible refine gate_dst (N := 3) rfl ?_); refine box_event ?hg (N := 3) ?hd (cs := #[.int .i64 a1_0, .int .i64 a1_1, .int .i64 a1_2, .int .i64 a1_3, .int .i64 a1_4, .int .i64 a1_5]) (t := 31) ?hr ?_; (case hd => rfl); (case hg => rfl); (case hr => exact zqS); intro gb291 hg w17 hbox hb; have n0_ := Aside0.mk (blk_below (g := gb290) (o := .cells #[.int .i64 a0_0, .int .i64 a0_1, .int .i64 a0_2, .int .i64 a0_3, .int .i64 a0_4, .int .i64 a0_5] 31 (0, 0)) (zqK BK290.out) hb); have n1_ := Aside0.mk (below_step zq21 hb); have n2_ := Aside0.mk (hbox); have n3_ := Aside0.mk ((by rw [hg]; exact (below_size zq21) : w.heap.size ≤ gb291)); have n4_ := n3_; have n5_ := Aside0.mk ((by rw [hg]; exact Nat.ne_of_lt (blk_lt (g := gb290) (o := .cells #[.int .i64 a0_0, .int .i64 a0_1, .int .i64 a0_2, .int .i64 a0_3, .int .i64 a0_4, .int .i64 a0_5] 31 (0, 0)) (zqK BK290.out)) : gb290 ≠ gb291)); have n6_ := Aside0.mk ((by rw [hg]; exact Nat.ne_of_gt (blk_lt (g := gb290) (o := .cells #[.int .i64 a0_0, .int .i64 a0_1, .int .i64 a0_2, .int .i64 a0_3, .int .i64 a0_4, .int .i64 a0_5] 31 (0, 0)) (zqK BK290.out)) : gb291 ≠ gb290)); clear BK290; clear HB; have BK290 := n0_; have HB := n1_; have BK291 := n2_; have GW291 := n3_; have GE291 := n4_; have NB290_291 := n5_; have NB291_290 := n6_; clear n0_ n1_ n2_ n3_ n4_ n5_ n6_; clear hb hbox hg; have hnb18 := NB290_291.out; have hnc18 := NB291_290.out; obtain ⟨hcz19_0, hcz19_1, hcz19_2, hcz19_3, hcz19_4, hcz19_5, hfz19_0, hfz19_1, hfz19_2, hfz19_3, hfz19_4, hfz19_5⟩ := bz6 BK290.out; obtain ⟨hcz20_0, hcz20_1, hcz20_2, hcz20_3, hcz20_4, hcz20_5, hfz20_0, hfz20_1, hfz20_2, hfz20_3, hfz20_4, hfz20_5⟩ := bz6 BK291.out))
  go_ret
  exact ⟨zqE, zq33⟩
 rw [if_pos c4] at H
 have c4b0 : (a0_3 == a1_3) = true := beq_iff_eq.mpr c4
 have c4b1 : (a0_3 != a1_3) = false := bne_eq_false_iff_eq.mpr c4
 clear c4
 by_cases c5 : a0_4 < a1_5
 case neg =>
  rw [if_neg c5] at H
  have c5b0 : decide (a0_4 < a1_5) = false := decide_eq_false c5
  clear c5
  obtain rfl := Option.some.inj H
  go_enter Try.func69, Try.ntmps69
  go_wp2_with (first | ((with_reducible refine gate_dst (N := 2) rfl ?_); refine box_event ?hg (N := 2) ?hd (cs := #[.int .i64 a0_0, .int .i64 a0_1, .int .i64 a0_2, .int .i64 a0_3, .int .i64 a0_4, .int .i64 a0_5]) (t := 31) ?hr ?_; (case hd => rfl); (case hg => rfl); (case hr => exact zqS); intro gb290 hg w11 hbox hb; have n0_ := Aside0.mk (below_step zq0 hb); have n1_ := Aside0.mk (hbox); have n2_ := Aside0.mk ((by rw [hg]; exact (below_size zq0) : w.heap.size ≤ gb290)); have n3_ := n2_; clear HB; have HB := n0_; have BK290 := n1_; have GW290 := n2_; have GE290 := n3_; clear n0_ n1_ n2_ n3_; clear hb hbox hg) | ((with_reducible refine gate_dst (N := 3) rfl ?_); refine box_event ?hg (N := 3) ?hd (cs := #[.int .i64 a1_0, .int .i64 a1_1, .int .i64 a1_2, .int .i64 a1_3, .int .i64 a1_4, .int .i64 a1_5]) (t := 31) ?hr ?_; (case hd => rfl); (case hg => rfl); (case hr => exact zqS); intro gb291 hg w12 hbox hb; have n0_ := Aside0.mk (blk_below (g := gb290) (o := .cells #[.int .i64 a0_0, .int .i64 a0_1, .int .i64 a0_2, .int .i64 a0_3, .int .i64 a0_4, .int .i64 a0_5] 31 (0, 0)) (zqK BK290.out) hb); have n1_ := Aside0.mk (below_step zq21 hb); have n2_ := Aside0.mk (hbox); have n3_ := Aside0.mk ((by rw [hg]; exact (below_size zq21) : w.heap.size ≤ gb291)); have n4_ := n3_; have n5_ := Aside0.mk ((by rw [hg]; exact Nat.ne_of_lt (blk_lt (g := gb290) (o := .cells #[.int .i64 a0_0, .int .i64 a0_1, .int .i64 a0_2, .int .i64 a0_3, .int .i64 a0_4, .int .i64 a0_5] 31 (0, 0)) (zqK BK290.out)) : gb290 ≠ gb291)); have n6_ := Aside0.mk ((by rw [hg]; exact Nat.ne_of_gt (blk_lt (g := gb290) (o := .cells #[.int .i64 a0_0, .int .i64 a0_1, .int .i64 a0_2, .int .i64 a0_3, .int .i64 a0_4, .int .i64 a0_5] 31 (0, 0)) (zqK BK290.out)) : gb291 ≠ gb290)); clear BK290; clear HB; have BK290 := n0_; have HB := n1_; have BK291 := n2_; have GW291 := n3_; have GE291 := n4_; have NB290_291 := n5_; have NB291_290 := n6_; clear n0_ n1_ n2_ n3_ n4_ n5_ n6_; clear hb hbox hg; have hnb13 := NB290_291.out; have hnc13 := NB291_290.out; obtain ⟨hcz14_0, hcz14_1, hcz14_2, hcz14_3, hcz14_4, hcz14_5, hfz14_0, hfz14_1, hfz14_2, hfz14_3, hfz14_4, hfz14_5⟩ := bz6 BK290.out; obtain ⟨hcz15_0, hcz15_1, hcz15_2, hcz15_3, hcz15_4, hcz15_5, hfz15_0, hfz15_1, hfz15_2, hfz15_3, hfz15_4, hfz15_5⟩ := bz6 BK291.out))
  go_ret
  exact ⟨zqE, zq33⟩
 rw [if_pos c5] at H
 have c5b0 : decide (a0_4 < a1_5) = true := decide_eq_true c5
 clear c5
 obtain rfl := Option.some.inj H
 go_enter Try.func69, Try.ntmps69
 go_wp2_with (first | ((with_reducible refine gate_dst (N := 2) rfl ?_); refine box_event ?hg (N := 2) ?hd (cs := #[.int .i64 a0_0, .int .i64 a0_1, .int .i64 a0_2, .int .i64 a0_3, .int .i64 a0_4, .int .i64 a0_5]) (t := 31) ?hr ?_; (case hd => rfl); (case hg => rfl); (case hr => exact zqS); intro gb290 hg w6 hbox hb; have n0_ := Aside0.mk (below_step zq0 hb); have n1_ := Aside0.mk (hbox); have n2_ := Aside0.mk ((by rw [hg]; exact (below_size zq0) : w.heap.size ≤ gb290)); have n3_ := n2_; clear HB; have HB := n0_; have BK290 := n1_; have GW290 := n2_; have GE290 := n3_; clear n0_ n1_ n2_ n3_; clear hb hbox hg) | ((with_reducible refine gate_dst (N := 3) rfl ?_); refine box_event ?hg (N := 3) ?hd (cs := #[.int .i64 a1_0, .int .i64 a1_1, .int .i64 a1_2, .int .i64 a1_3, .int .i64 a1_4, .int .i64 a1_5]) (t := 31) ?hr ?_; (case hd => rfl); (case hg => rfl); (case hr => exact zqS); intro gb291 hg w7 hbox hb; have n0_ := Aside0.mk (blk_below (g := gb290) (o := .cells #[.int .i64 a0_0, .int .i64 a0_1, .int .i64 a0_2, .int .i64 a0_3, .int .i64 a0_4, .int .i64 a0_5] 31 (0, 0)) (zqK BK290.out) hb); have n1_ := Aside0.mk (below_step zq21 hb); have n2_ := Aside0.mk (hbox); have n3_ := Aside0.mk ((by rw [hg]; exact (below_size zq21) : w.heap.size ≤ gb291)); have n4_ := n3_; have n5_ := Aside0.mk ((by rw [hg]; exact Nat.ne_of_lt (blk_lt (g := gb290) (o := .cells #[.int .i64 a0_0, .int .i64 a0_1, .int .i64 a0_2, .int .i64 a0_3, .int .i64 a0_4, .int .i64 a0_5] 31 (0, 0)) (zqK BK290.out)) : gb290 ≠ gb291)); have n6_ := Aside0.mk ((by rw [hg]; exact Nat.ne_of_gt (blk_lt (g := gb290) (o := .cells #[.int .i64 a0_0, .int .i64 a0_1, .int .i64 a0_2, .int .i64 a0_3, .int .i64 a0_4, .int .i64 a0_5] 31 (0, 0)) (zqK BK290.out)) : gb291 ≠ gb290)); clear BK290; clear HB; have BK290 := n0_; have HB := n1_; have BK291 := n2_; have GW291 := n3_; have GE291 := n4_; have NB290_291 := n5_; have NB291_290 := n6_; clear n0_ n1_ n2_ n3_ n4_ n5_ n6_; clear hb hbox hg; have hnb8 := NB290_291.out; have hnc8 := NB291_290.out; obtain ⟨hcz9_0, hcz9_1, hcz9_2, hcz9_3, hcz9_4, hcz9_5, hfz9_0, hfz9_1, hfz9_2, hfz9_3, hfz9_4, hfz9_5⟩ := bz6 BK290.out; obtain ⟨hcz10_0, hcz10_1, hcz10_2, hcz10_3, hcz10_4, hcz10_5, hfz10_0, hfz10_1, hfz10_2, hfz10_3, hfz10_4, hfz10_5⟩ := bz6 BK291.out))
 go_ret
 exact ⟨zqE, zq33⟩
/-- Two warnings meet. -/
def meetB (a b : S31) : Bool := decide (a.f1 = b.f1) && (decide (a.f3 = b.f3) && (decide (a.f4 < b.f5) && decide (b.f4 < a.f5)))
theorem meetB_f (a b : S31) : impl_doMeet.f a.f0 a.f1 a.f2 a.f3 a.f4 a.f5 b.f0 b.f1 b.f2 b.f3 b.f4 b.f5 = some (meetB a b) := by
 unfold impl_doMeet.f meetB
 by_cases h1 : a.f1 = b.f1 <;> by_cases h2 : a.f3 = b.f3 <;> by_cases h3 : a.f4 < b.f5 <;> simp [h1, h2, h3]


/-! ### impl_IsConsistent: function 12 -/
/-- No two of the list meet. -/
def apartB (l : List S31) : Bool := (List.range l.length).all fun i => !((l.take i).any fun o => meetB (l.getD i z31) o)
def impl_IsConsistent.f (k : Nat) (l0 : List S31) : Option Bool := (impl_areWarnings.f k l0).bind fun t => some (t && apartB l0)
theorem impl_IsConsistent.mono : ∀ a0 k, LeO (impl_IsConsistent.f k a0) (impl_IsConsistent.f (k + 1) a0) := fun a0 k => LeO.bind (impl_areWarnings.mono a0 k) (fun _ => LeO.refl _)
/-- The function that IsConsistent hands on: it asks whether the warning in block B meets another. -/
theorem impl_IsConsistent.pred (B : Nat) (y : S31) (w : World) (hB : w.heap[B]? = some (.cells #[.int .i64 y.f0, .int .i64 y.f1, .int .i64 y.f2, .int .i64 y.f3, .int .i64 y.f4, .int .i64 y.f5] 31 (0, 0))) :
  ∀ (W : World) (x : S31), Below w.heap.size w W → Calls Try.prog 68 (#[.agg #[.int .i64 x.f0, .int .i64 x.f1, .int .i64 x.f2, .int .i64 x.f3, .int .i64 x.f4, .int .i64 x.f5]] ++ #[.pointer (some ⟨B, 0, none⟩)]) W fun e w' => e = .returned (.bool (meetB y x)) ∧ Below W.heap.size W w' := by
 intro W x hb
 have hlt : B < w.heap.size := by
  rcases Nat.lt_or_ge B w.heap.size with h | h
  ·
   exact h
  ·
   rw [Array.getElem?_eq_none h] at hB; cases hB
 have hBW : W.heap[B]? = some (.cells #[.int .i64 y.f0, .int .i64 y.f1, .int .i64 y.f2, .int .i64 y.f3, .int .i64 y.f4, .int .i64 y.f5] 31 (0, 0)) := (hb.block B hlt).trans hB
 have h0 : W.cell? ⟨B, 0, none⟩ = some (.int .i64 y.f0) := by simp [World.cell?, hBW]
 have h1 : W.cell? ⟨B, 1, none⟩ = some (.int .i64 y.f1) := by simp [World.cell?, hBW]
 have h2 : W.cell? ⟨B, 2, none⟩ = some (.int .i64 y.f2) := by simp [World.cell?, hBW]
 have h3 : W.cell? ⟨B, 3, none⟩ = some (.int .i64 y.f3) := by simp [World.cell?, hBW]
 have h4 : W.cell? ⟨B, 4, none⟩ = some (.int .i64 y.f4) := by simp [World.cell?, hBW]
 have h5 : W.cell? ⟨B, 5, none⟩ = some (.int .i64 y.f5) := by simp [World.cell?, hBW]
 have hBlt : B < W.heap.size := Nat.lt_of_lt_of_le hlt hb.size
 have hne : B ≠ W.heap.size := by omega
 have hu := Try.underlying31
 clear hBW hB hb
 have HF := Aside0.mk (meetB_f y x)
 show Calls Try.prog 68 #[.agg #[.int .i64 x.f0, .int .i64 x.f1, .int .i64 x.f2, .int .i64 x.f3, .int .i64 x.f4, .int .i64 x.f5], .pointer (some ⟨B, 0, none⟩)] W _
 go_enter Try.func68, Try.ntmps68
 go_wp2_with (go_at_call 69; refine (impl_doMeet.calls y.f0 y.f1 y.f2 y.f3 y.f4 y.f5 x.f0 x.f1 x.f2 x.f3 x.f4 x.f5 (meetB y x) _ HF.out).mono ?_; rintro e w' ⟨rfl, hb'⟩)
 go_ret
 exact ⟨rfl, by first | exact ((Below.refl _ W).alloc (Nat.le_refl _) _).trans (hb'.mono (by simp)) | exact ((Below.refl _ W).alloc (Nat.le_refl _) _).drewN _⟩
theorem impl_IsConsistent.loop (A0 : Option Addr) (c0 : Nat) (l0 : List S31) (hl : (apartB l0) = true) (kk : Nat) (hk : kk < l0.length) : (l0.take kk).any (meetB (l0.getD kk z31)) = false := by
 have h := List.all_eq_true.1 hl kk (List.mem_range.2 hk)
 simpa using h
theorem apartB_hit {l0 : List S31} {kk : Nat} (hk : kk < l0.length) (h : (l0.take kk).any (meetB (l0.getD kk z31)) = true) : apartB l0 = false := by
 unfold apartB
 rw [Bool.eq_false_iff]
 intro ha
 have h1 := List.all_eq_true.1 ha kk (List.mem_range.2 hk)
 have h1' : !((l0.take kk).any (meetB (l0.getD kk z31))) = true := by simpa using h1
 rw [h] at h1'
 cases h1'
theorem apartB_all {l0 : List S31} (h : ∀ j, j < l0.length → (l0.take j).any (meetB (l0.getD j z31)) = false) : apartB l0 = true := by
 unfold apartB
 refine List.all_eq_true.2 fun j hj => ?_
 have h1 := h j (List.mem_range.1 hj)
 show (!((l0.take j).any (meetB (l0.getD j z31)))) = true
 rw [h1]; rfl
set_option maxHeartbeats 2000000 in
set_option maxRecDepth 100000 in
theorem impl_IsConsistent.calls (k : Nat) (A0 : Option Addr) (c0 : Nat) (l0 : List S31) (r : Bool) (w : World) (hr0 : Kd.C k31 w A0 l0.length l0) (hc0 : l0.length ≤ c0) (h : impl_IsConsistent.f k l0 = some r) :
  Calls Try.prog 12 #[.slice A0 l0.length c0] w fun e w' => e = .returned (.bool r) ∧ Below w.heap.size w w' := by
 obtain ⟨t, ht, hr⟩ := Option.bind_eq_some_iff.1 h
 have hr' := Option.some.inj hr
 clear h hr
 have HT := Aside0.mk ht
 clear ht
 have hu := Try.underlying31
 have HR0 := Aside0.mk hr0
 have HC0 := Aside0.mk hc0
 have hbig : l0.length ≤ 9223372036854775807 := hr0.2.1
 clear hr0
 have eg : ∀ args w, (callFunc 68 args).run Try.prog w = .ok (.enter 68 args) w := enters_of Try.func68 (by kernel_rfl) rfl
 have EG := Aside0.mk eg
 clear eg
 cases t with
 | false =>
  subst hr'
  clear hc0
  go_enter Try.func12, Try.ntmps12
  go_wp2_with (go_at_call 66; (with_reducible refine (impl_areWarnings.calls k A0 c0 l0 false _ HR0.out HC0.out HT.out).mono ?_); rintro e w1 ⟨rfl, hb⟩)
  go_ret
  exact ⟨rfl, hb⟩
 | true =>
  rw [Bool.true_and] at hr'
  have HRR := Aside0.mk hr'
  clear hr'
  go_enter Try.func12, Try.ntmps12
  go_wp2_with (go_at_call 66; (with_reducible refine (impl_areWarnings.calls k A0 c0 l0 true _ HR0.out HC0.out HT.out).mono ?_); rintro e w1 ⟨rfl, hb⟩)
  have HB1 := Aside0.mk hb
  clear hb
  go_loopg [3, 4, 10] l0.length (fun gg _ _ s10 wr => ∃ kk : Nat, kk ≤ l0.length ∧ l0.length - kk ≤ gg ∧ s10 = .int .i64 kk ∧ Aside0 (Below w.heap.size w wr) ∧ Aside0 (∀ j, j < kk → (l0.take j).any (meetB (l0.getD j z31)) = false))
  case atStart => exact ⟨0, Nat.zero_le _, by omega, rfl, HB1, ⟨fun j hj => absurd hj (Nat.not_lt_zero _)⟩⟩
  clear HB1
  obtain ⟨kk, hkk, hg, rfl, BW, AN⟩ := hrel
  by_cases hlt : kk < l0.length
  case neg =>
   have hltz : ¬ (kk : Int) < (l0.length : Int) := by omega
   have : kk = l0.length := by omega
   subst this
   go_wp2
   go_ret
   refine ⟨?_, BW.out⟩
   rw [← HRR.out, apartB_all AN.out]
   rfl
  have hltz : (kk : Int) < (l0.length : Int) := by omega
  obtain ⟨ad, e0, hx0, hx1, hx2, hx3, hx4, hx5⟩ := at_T31 HR0.out (kk : Int) (by omega) hltz
  cases e0
  rw [show rd_T31 l0 (kk : Int) = l0.getD kk z31 from rfl, Int.toNat_natCast] at hx0 hx1 hx2 hx3 hx4 hx5
  generalize hy : l0.getD kk z31 = y at hx0 hx1 hx2 hx3 hx4 hx5
  have B := Aside0.mk hy
  clear hy
  replace hx0 := (BW.out.cell (World.block_lt_of_cell? w _ hx0)).trans hx0
  replace hx1 := (BW.out.cell (World.block_lt_of_cell? w _ hx1)).trans hx1
  replace hx2 := (BW.out.cell (World.block_lt_of_cell? w _ hx2)).trans hx2
  replace hx3 := (BW.out.cell (World.block_lt_of_cell? w _ hx3)).trans hx3
  replace hx4 := (BW.out.cell (World.block_lt_of_cell? w _ hx4)).trans hx4
  replace hx5 := (BW.out.cell (World.block_lt_of_cell? w _ hx5)).trans hx5
  have hkc : (kk : Int) ≤ (c0 : Int) := by omega
  cases hq : (l0.take kk).any (meetB y) with
  | true =>
   go_wp2_with fail
   refine (ContainsFuncW.calls 68 #[.pointer (some ⟨wr.heap.size, 0, none⟩)] (meetB y) EG.out (some ad) kk c0 (l0.take kk) _ (by rw [List.length_take]; omega) ?hr1 ?hc1 ?hp1).mono ?_
   case hr1 => exact Kd.C_take (Kd.C_below (Kd.C_below HR0.out BW.out) (below_alloc (Below.refl _ _) _)) hkk
   case hc1 => rw [List.length_take]; omega
   case hp1 => exact impl_IsConsistent.pred _ y _ (blk_new _ _)
   rintro e w' ⟨rfl, hb'⟩
   rw [hq]
   go_wp2
   go_ret
   refine ⟨?_, (below_alloc BW.out _).trans (hb'.mono (by have := BW.out.size; simp; omega))⟩
   rw [← HRR.out, apartB_hit hlt (by rw [B.out]; exact hq)]
   rfl
  | false =>
   go_wp2_with fail
   refine (ContainsFuncW.calls 68 #[.pointer (some ⟨wr.heap.size, 0, none⟩)] (meetB y) EG.out (some ad) kk c0 (l0.take kk) _ (by rw [List.length_take]; omega) ?hr1 ?hc1 ?hp1).mono ?_
   case hr1 => exact Kd.C_take (Kd.C_below (Kd.C_below HR0.out BW.out) (below_alloc (Below.refl _ _) _)) hkk
   case hc1 => rw [List.length_take]; omega
   case hp1 => exact impl_IsConsistent.pred _ y _ (blk_new _ _)
   rintro e w' ⟨rfl, hb'⟩
   rw [hq]
   go_wp2
   go_roundg (l0.length - (kk + 1))
   case measure => omega
   case rel =>
    refine ⟨kk + 1, by omega, by omega, by go_num, ⟨(below_alloc BW.out _).trans (hb'.mono (by have := BW.out.size; simp; omega))⟩, ⟨fun j hj => ?_⟩⟩
    by_cases e : j = kk
    case neg => exact AN.out j (by omega)
    subst e
    rw [B.out]; exact hq

/-! ### impl_Warning_61: function 61 -/
/-- slices.Clone at warnings: the same list, in a row of its own. -/
def impl_Warning_61.f (l0 : List S31) : Option (List S31) := if l0.length < 2932031007402 then some l0 else none
set_option maxHeartbeats 4000000 in
theorem impl_Warning_61.calls (A0 : Option Addr) (c0 : Nat) (l0 : List S31) (r : List S31) (w : World) (hr0 : Kd.C k31 w A0 l0.length l0) (hc0 : l0.length ≤ c0) (h : impl_Warning_61.f l0 = some r) :
  Calls Try.prog 61 #[.slice A0 l0.length c0] w fun e w' => ∃ v0_ : Value, e = .returned (v0_) ∧ Kd.R k31 31 w' w.heap.size (fun _ => True) v0_ r ∧ Below w.heap.size w w' := by
 have hu := Try.underlying31
 have q26 : ∀ (w : World) (a : Option Addr) (n c n' c' : Nat), (binOp .eql 24 (.slice a n c) (.slice none n' c')).run Try.prog w = .ok (.bool a.isNone) w := fun w a n c n' c' => Lib.run_eql_slice_nil w _ _ a n c n' c' Try.underlying24
 unfold impl_Warning_61.f at h
 by_cases c4 : l0.length < 2932031007402
 case neg =>
  rw [if_neg c4] at h
  cases h
 rw [if_pos c4] at h
 obtain rfl := Option.some.inj h
 clear h
 cases A0 with
 | none =>
  have e0 : l0 = [] := by
   rcases Nat.eq_zero_or_pos l0.length with h0 | h0
   ·
    exact List.length_eq_zero_iff.1 h0
   ·
    obtain ⟨ad, ha, _⟩ := hr0.2.2 h0
    cases ha
  subst e0
  clear hr0 hc0
  go_enter Try.func61, Try.ntmps61
  go_wp2
  go_ret
  exact ⟨_, rfl, Kd.R_nil _ _ _ _ _, Below.refl _ _⟩
 | some ad =>
  have HR0 := Aside0.mk hr0
  have HC0 := Aside0.mk hc0
  have LM := Aside0.mk c4
  clear hr0 hc0 c4
  have HB := Aside0.mk (Below.refl w.heap.size w)
  go_enter Try.func61, Try.ntmps61
  go_wp2_with (first | ((with_reducible refine gate_dst (N := 5) rfl ?_); refine Kd.R_lit k31 _ 31 ?hg (N := 5) ?hd (xs := ([] : List S31)) (inner := []) (ok := fun _ => True) (okp := fun _ => True) ?hr ?hp (fun _ hk => hk) trivial HB.out (Nat.le_refl _) (by simp) ?_; (case hd => rfl); (case hg => rfl); (case hr => exact zqS); (case hp => exact (Reps.none _ _)); intro v5 w5 ho5 hb5 hg5 hn5; have HO := Aside0.mk ho5; have HB5 := Aside0.mk hb5; clear ho5 hb5 hg5 hn5) | ((with_reducible refine gate_builtin (b := .append) (xs := #[.tmp 5, .tmp 6]) rfl ?_); at_builtin; refine Kd.R_append_rows k31 (w0 := w) w.heap.size rfl (.tmp 5) (.tmp 6) 24 31 (.agg #[(.int .i64 0), (.int .i64 0), (.int .i64 0), (.int .i64 0), (.int .i64 0), (.int .i64 0)]) 48 rfl Try.underlying24 info31 rfl (by decide) (by omega) v5 ([] : List S31) l0 _ _ _ (fun _ => True) (fun _ => False) rfl rfl (zqR HO.out) (by (with_reducible repeat (first | refine Kd.C_alloc ?_ _ | refine Kd.C_drewN ?_ _ | refine Kd.C_drew ?_)); exact (Kd.C_below HR0.out HB5.out)) (fun _ _ h => h) (fun _ h => h.elim) (fun _ _ => trivial) (by repeat (first | (with_reducible first | exact HB5.out | apply below_alloc | apply pw_below_drewN | apply below_drew1) | exact HB5.out)) (below_size (by repeat (first | (with_reducible first | exact HB5.out | apply below_alloc | apply pw_below_drewN | apply below_drew1) | exact HB5.out))) (by have := LM.out; simp only [List.length_nil]; omega) ?_; intro v7 w7 ho7 hb7 hg7 hat7; rw [List.nil_append] at ho7; have HO7 := Aside0.mk ho7; have HB7 := Aside0.mk hb7; clear ho7 hb7 hg7 hat7))
  go_ret
  exact ⟨_, rfl, zqR HO7.out, (by repeat (first | (with_reducible first | exact HB7.out | apply below_alloc | apply pw_below_drewN | apply below_drew1) | exact HB7.out))⟩

/-! ### impl_Warning_74: function 74 -/
/-- slices.Delete at warnings, of one element. -/
def impl_Warning_74.f (l0 : List S31) (a1 a2 : Int) : Option (List S31) := if 0 ≤ a1 ∧ a2 = a1 + 1 ∧ a1 < (l0.length : Int) then some (l0.eraseIdx a1.toNat) else none
theorem impl_Warning_74.cells (w : World) (g : Nat) (cur : Array Value) (T : TypeId) (o : Nat) (vs : List Value) (h : w.heap[g]? = some (.cells cur T (0, 0))) (hv : o + vs.length ≤ cur.size) :
  ∃ cur', (w.setCells g o vs).heap[g]? = some (.cells cur' T (0, 0)) ∧ cur'.size = cur.size ∧ cur'.toList = cur.toList.take o ++ vs ++ cur.toList.drop (o + vs.length) := by
 induction vs generalizing w cur o with
 | nil => exact ⟨cur, h, rfl, by simp⟩
 | cons v vs ih =>
  have h1 := blk_set h o v
  obtain ⟨c2, e1, e2, e3⟩ := ih (w.setCell ⟨g, o, none⟩ v) (cur.setIfInBounds o v) (o + 1) h1 (by rw [Array.size_setIfInBounds]; simp only [List.length_cons] at hv; omega)
  refine ⟨c2, e1, by rw [e2, Array.size_setIfInBounds], ?_⟩
  rw [e3]
  simp only [List.length_cons] at hv ⊢
  have ho : o < cur.toList.length := by rw [Array.length_toList]; omega
  have ho2 : o < (cur.toList.set o v).length := by rw [List.length_set]; exact ho
  rw [Array.toList_setIfInBounds, List.take_succ_eq_append_getElem ho2, List.take_set_of_le (Nat.le_refl _), List.getElem_set_self, List.drop_set_of_lt (by omega), show o + 1 + vs.length = o + (vs.length + 1) by omega]
  simp
theorem sc_below {B g : Nat} {a : World} (hg : B ≤ g) : ∀ (vs : List Value) (o : Nat) (w : World), Below B a w → Below B a (w.setCells g o vs)
 | [], _, _, h => h
 | v :: r, o, w, h => sc_below hg r (o + 1) _ (h.setCell (p := ⟨g, o, none⟩) hg v)
theorem sc_other {k g : Nat} (hk : k ≠ g) : ∀ (vs : List Value) (o : Nat) (w : World), (w.setCells g o vs).heap[k]? = w.heap[k]?
 | [], _, _ => rfl
 | v :: r, o, w => (sc_other hk r (o + 1) _).trans (Below.heap_setCell w ⟨g, o, none⟩ v k hk)
theorem sc_size {g : Nat} : ∀ (vs : List Value) (o : Nat) (w : World), (w.setCells g o vs).heap.size = w.heap.size
 | [], _, _ => rfl
 | v :: r, o, w => (sc_size r (o + 1) _).trans (by simp [World.setCell])
theorem run_clear_one (W : World) (b o c : Nat) (ty : TypeId) (hc : ∀ j, j < 6 → (W.cell? ⟨b, o + j, none⟩).isSome = true) (hf : ∀ j, j < 6 → W.frozen? ⟨b, o + j, none⟩ = false) :
  (Builtin.clear_ #[24] ty #[.slice (some ⟨b, o, none⟩) 1 c]).run Try.prog W = .ok (.tuple #[]) (W.setCells b o (List.replicate 6 (.int .i64 0))) := by
 have hst := run_storeCells_cells (P := Try.prog) b o (List.replicate 6 (.int .i64 0)) 0 W (by intro j hj; exact hc j (by simpa using hj)) (by intro j hj; exact hf j (by simpa using hj)) (by intro v hv'; rw [List.eq_of_mem_replicate hv']; rfl)
 simp only [Nat.add_zero] at hst
 have hzc : (Builtin.zeroCells (Value.agg #[.int .i64 0, .int .i64 0, .int .i64 0, .int .i64 0, .int .i64 0, .int .i64 0]).cells 1).toList = List.replicate 6 (.int .i64 0) := by
  simp only [Value.cells, Builtin.zeroCells, Array.toList_map, Array.toList_range]
  rfl
 generalize (List.replicate 6 (Value.int .i64 0)) = Z at hst hzc ⊢
 simp [Builtin.clear_, run_underlying Try.underlying24, Try.zeroValue31, hzc, hst]
theorem reps_erase {α : Type} {R : α → List Value → Prop} {ps : List α} {cs : List Value} (h : Reps R 6 ps cs) (i : Nat) (hi : i < ps.length) : Reps R 6 (ps.eraseIdx i) (cs.take (i * 6) ++ cs.drop ((i + 1) * 6)) := by
 have hl := h.1
 have hln : (ps.eraseIdx i).length = ps.length - 1 := by rw [List.length_eraseIdx, if_pos hi]
 refine ⟨by rw [hln, List.length_append, List.length_take, List.length_drop, hl]; omega, fun j p hj => ?_⟩
 rw [List.getElem?_eraseIdx] at hj
 by_cases hji : j < i
 ·
  rw [if_pos hji] at hj
  have e : ((cs.take (i * 6) ++ cs.drop ((i + 1) * 6)).drop (j * 6)).take 6 = (cs.drop (j * 6)).take 6 := by
   refine List.ext_getElem? fun t => ?_
   rw [List.getElem?_take, List.getElem?_take]
   by_cases ht : t < 6
   ·
    rw [if_pos ht, if_pos ht, List.getElem?_drop, List.getElem?_drop, List.getElem?_append_left (by rw [List.length_take]; omega), List.getElem?_take_of_lt (by omega)]
   ·
    rw [if_neg ht, if_neg ht]
  rw [e]
  exact h.2 j p hj
 ·
  rw [if_neg hji] at hj
  have e : ((cs.take (i * 6) ++ cs.drop ((i + 1) * 6)).drop (j * 6)).take 6 = (cs.drop ((j + 1) * 6)).take 6 := by
   refine List.ext_getElem? fun t => ?_
   rw [List.getElem?_take, List.getElem?_take]
   by_cases ht : t < 6
   ·
    rw [if_pos ht, if_pos ht, List.getElem?_drop, List.getElem?_drop, List.getElem?_append_right (by rw [List.length_take]; omega), List.getElem?_drop, List.length_take]
    congr 1
    omega
   ·
    rw [if_neg ht, if_neg ht]
  rw [e]
  exact h.2 (j + 1) p hj
theorem impl_Warning_74.seen (cur cur1 cur2 : Array Value) (inner news : List Value) (n cap i : Nat) (hi : i < n) (hn : n ≤ cap) (hcs : cur.size = cap * 6) (hcs1 : cur1.size = cur.size) (hnl : news.length = (n - (i + 1)) * 6) (htk : cur.toList.take (n * 6) = inner) (hcl1 : cur1.toList = cur.toList.take (i * 6) ++ news ++ cur.toList.drop (i * 6 + news.length)) (hm : i + (n - (i + 1)) = n - 1)
  (hcl2 : cur2.toList = cur1.toList.take ((i + (n - (i + 1))) * 6) ++ List.replicate 6 (.int .i64 0) ++ cur1.toList.drop ((i + (n - (i + 1))) * 6 + (List.replicate 6 (.int .i64 0) : List Value).length)) (hnews : news = inner.drop ((i + 1) * 6)) :
  cur2.toList.take ((n - 1) * 6) = inner.take (i * 6) ++ inner.drop ((i + 1) * 6) := by
 have hL : cur.toList.length = cap * 6 := by rw [Array.length_toList]; exact hcs
 have hL1 : cur1.toList.length = cap * 6 := by rw [Array.length_toList, hcs1]; exact hcs
 have hl1 : (cur.toList.take (i * 6)).length = i * 6 := by rw [List.length_take, hL]; omega
 have hl2 : (cur.toList.take (i * 6) ++ news).length = (n - 1) * 6 := by rw [List.length_append, hl1, hnl]; omega
 rw [hm] at hcl2
 rw [hcl2, List.append_assoc, List.take_append_of_le_length (by rw [List.length_take, hL1]; omega), List.take_take, Nat.min_self, hcl1, List.take_append_of_le_length (by rw [hl2]; exact Nat.le_refl _), List.take_of_length_le (by rw [hl2]; exact Nat.le_refl _), hnews]
 congr 1
 rw [← htk, List.take_take]
 congr 1
 omega
theorem reps_one {w : World} {b : Nat} {ok : Nat → Prop} {xs : List S31} {cs : List Value} (h : Reps (k31.M w b ok) k31.sz xs cs) : ∀ u ∈ cs, u.oneCell' = true := by
 intro u hu
 obtain ⟨t, ht, rfl⟩ := List.getElem_of_mem hu
 have hl : cs.length = xs.length * 6 := h.1
 have hx := h.2 (t / 6) xs[t / 6] (List.getElem?_eq_getElem (by omega))
 refine k31.K_one (k31.K_of_M hx) _ ?_
 change cs[t] ∈ (cs.drop (t / 6 * 6)).take 6
 rw [List.mem_iff_getElem?]
 refine ⟨t % 6, ?_⟩
 rw [List.getElem?_take_of_lt (by omega), List.getElem?_drop, show t / 6 * 6 + t % 6 = t by omega, List.getElem?_eq_getElem ht]
set_option maxHeartbeats 4000000 in
set_option maxRecDepth 1000000 in
theorem impl_Warning_74.calls (P0_ : Nat → Prop) (u9000_ : Value) (l0 : List S31) (a1 a2 : Int) (r : List S31) (w0 w : World) (hB : Below w0.heap.size w0 w) (ho0 : Kd.R k31 31 w w0.heap.size P0_ u9000_ l0) (h : impl_Warning_74.f l0 a1 a2 = some r) :
  Calls Try.prog 74 #[u9000_, .int .i64 a1, .int .i64 a2] w fun e w' => ∃ v0_ : Value, e = .returned (v0_) ∧ Kd.R k31 31 w' w0.heap.size (fun k_ => (P0_ k_ ∨ w.heap.size ≤ k_)) v0_ r ∧ Below w0.heap.size w0 w' ∧ Kept w w' (fun k_ => P0_ k_) := by
 have hu := Try.underlying31
 unfold impl_Warning_74.f at h
 by_cases hc : 0 ≤ a1 ∧ a2 = a1 + 1 ∧ a1 < (l0.length : Int)
 case neg =>
  rw [if_neg hc] at h
  cases h
 rw [if_pos hc] at h
 obtain rfl := Option.some.inj h
 clear h
 obtain ⟨h0, rfl, h1⟩ := hc
 obtain ⟨i, rfl⟩ : ∃ i : Nat, a1 = (i : Int) := ⟨a1.toNat, by omega⟩
 have hi : i < l0.length := by omega
 rw [Int.toNat_natCast]
 obtain ⟨hok, inner, hown, hrep⟩ := ho0
 obtain ⟨hlen, hor⟩ := hown
 rcases hor with ⟨rfl, hn⟩ | ⟨g, cap, cur, rfl, hg, hh, hncap, hcap, hcs, htk⟩
 ·
  omega
 ·
  have hP : P0_ g := hok g rfl
  change cur.size = cap * 6 at hcs
  change inner.length = l0.length * 6 at hlen
  change cur.toList.take (l0.length * 6) = inner at htk
  obtain ⟨i0, hi0, hz0, hz1, hz2⟩ := info_parts info31
  have hlt := blk_lt hh
  have c0 : ∀ t, w.cell? ⟨g, t, none⟩ = cur[t]? := fun t => blk_cell hh t
  have f0 : ∀ t, w.frozen? ⟨g, t, none⟩ = false := fun t => blk_frozen hh t
  obtain ⟨news, hnews⟩ : ∃ news, news = inner.drop ((i + 1) * 6) := ⟨_, rfl⟩
  have hnl : news.length = (l0.length - (i + 1)) * 6 := by rw [hnews, List.length_drop, hlen, Nat.sub_mul]
  have hget : ∀ t, t < (l0.length - (i + 1)) * 6 → news[t]? = cur[(i + 1) * 6 + t]? := by
   intro t ht
   rw [hnews, ← htk, List.getElem?_drop, List.getElem?_take_of_lt (by rw [Nat.sub_mul] at ht; omega), Array.getElem?_toList]
  obtain ⟨A, hA, hsrc⟩ : ∃ A : Addr, (if cap = i + 1 then some (⟨g, 0, none⟩ : Addr) else some ⟨g, (i + 1) * 6, none⟩) = some A ∧ Hid (∀ t u, news[t]? = some u → w.drew.cell? (A.add t) = some u) := by
   by_cases h : cap = i + 1
   case pos =>
    refine ⟨⟨g, 0, none⟩, by simp [h], fun t u hu => ?_⟩
    have h0 : news.length = 0 := by rw [hnl]; omega
    rw [List.length_eq_zero_iff.1 h0] at hu
    simp at hu
   refine ⟨⟨g, (i + 1) * 6, none⟩, by simp [h], fun t u hu => ?_⟩
   have ht : t < (l0.length - (i + 1)) * 6 := by
    have := (List.getElem?_eq_some_iff.1 hu).1
    rwa [hnl] at this
   rw [Addr.add_lit]
   exact (c0 _).trans ((hget t ht).symm.trans hu)
  have s1 : Hid (news.length = (l0.length - (i + 1)) * 6) := hnl
  have s2 : Hid (∀ u ∈ news, u.oneCell' = true) := by
   intro u hu
   rw [hnews] at hu
   exact reps_one hrep u (List.mem_of_mem_drop hu)
  have hfit : i * 6 + news.length ≤ cur.size := by rw [hnl, hcs, Nat.sub_mul]; omega
  have s3 : Hid (∀ t, t < news.length → (w.drew.cell? ⟨g, 0 + i * 6 + t, none⟩).isSome = true ∧ w.drew.frozen? ⟨g, 0 + i * 6 + t, none⟩ = false) := by
   intro t ht
   rw [Nat.zero_add]
   exact ⟨by show (w.cell? _).isSome = true; rw [c0, Array.getElem?_eq_getElem (by omega)]; rfl, f0 _⟩
  obtain ⟨W1, hW1⟩ : ∃ W1, W1 = w.drew.setCells g (0 + i * 6) news := ⟨_, rfl⟩
  obtain ⟨cur1, hh1, hcs1, hcl1⟩ := impl_Warning_74.cells w.drew g cur 31 (0 + i * 6) news hh (by rw [Nat.zero_add]; exact hfit)
  rw [← hW1] at hh1
  rw [Nat.zero_add] at hcl1
  have hm : i + (l0.length - (i + 1)) = l0.length - 1 := by omega
  have hcl : ∀ ty, (Builtin.clear_ #[24] ty #[.slice (some ⟨g, (i + (l0.length - (i + 1))) * 6, none⟩) (l0.length - (i + (l0.length - (i + 1)))) (cap - (i + (l0.length - (i + 1))))]).run Try.prog W1 = .ok (.tuple #[]) (W1.setCells g ((i + (l0.length - (i + 1))) * 6) (List.replicate 6 (.int .i64 0))) := by
   intro ty
   rw [show l0.length - (i + (l0.length - (i + 1))) = 1 by omega]
   refine run_clear_one W1 g _ _ ty (fun j hj => ?_) (fun j hj => blk_frozen hh1 _)
   rw [blk_cell hh1, Array.getElem?_eq_getElem (by rw [hcs1, hcs]; omega)]
   rfl
  obtain ⟨cur2, hh2, hcs2, hcl2⟩ := impl_Warning_74.cells W1 g cur1 31 ((i + (l0.length - (i + 1))) * 6) (List.replicate 6 (.int .i64 0)) hh1 (by rw [hcs1, hcs, List.length_replicate]; omega)
  have E2 := Aside0.mk (show ∃ cur2, (W1.setCells g ((i + (l0.length - (i + 1))) * 6) (List.replicate 6 (.int .i64 0))).heap[g]? = some (.cells cur2 31 (0, 0)) ∧ cur2.size = cap * 6 ∧ cur2.toList.take ((l0.length - 1) * 6) = inner.take (i * 6) ++ inner.drop ((i + 1) * 6) from by
   exact ⟨cur2, hh2, by rw [hcs2, hcs1, hcs], impl_Warning_74.seen cur cur1 cur2 inner news l0.length cap i hi hncap hcs hcs1 hnl htk hcl1 hm hcl2 hnews⟩)
  have SO := Aside0.mk (show ∀ k, k ≠ g → (W1.setCells g ((i + (l0.length - (i + 1))) * 6) (List.replicate 6 (.int .i64 0))).heap[k]? = w.heap[k]? from fun k hk => (sc_other hk _ _ W1).trans (by rw [hW1]; exact sc_other hk _ _ _))
  have BL := Aside0.mk (show Below w0.heap.size w0 (W1.setCells g ((i + (l0.length - (i + 1))) * 6) (List.replicate 6 (.int .i64 0))) from sc_below hg _ _ _ (by rw [hW1]; exact sc_below hg _ _ _ (below_drew hB)))
  have SZ := Aside0.mk (show (W1.setCells g ((i + (l0.length - (i + 1))) * 6) (List.replicate 6 (.int .i64 0))).heap.size = w.heap.size from (sc_size _ _ _).trans (by rw [hW1]; exact sc_size _ _ _))
  have HRP := Aside0.mk hrep
  clear hh2 hcs2 hcl2 hm
  have hW : Hid (W1 = w.drew.setCells g (0 + i * 6) news) := hW1
  have C0 := Aside0.mk c0
  have F0 := Aside0.mk f0
  have NL := Aside0.mk hnl
  have CS := Aside0.mk hcs
  have HI := Aside0.mk hi
  have hic : i ≤ cap := by omega
  have hjc : i + 1 ≤ cap := by omega
  have hjn : i + 1 ≤ l0.length := hi
  have hz1a : (0 : Int) ≤ (i : Int) + 1 := by omega
  have hz1b : (i : Int) + 1 ≤ (l0.length : Int) := by omega
  have hnm : cap ≤ 9223372036854775807 := by simpa [maxLen] using hcap
  clear c0 f0 hnl hcs hcs1 hrep htk hlen h0 h1 hok hh hlt hget hW1 hh1 hcl1 hfit hnews
  have mixed : Try.prog.follows .mixedOrders = true := by kernel_rfl
  go_enter Try.func74, Try.ntmps74
  go_wp2_with fail
  go_region_law_o (refine step_append_room rfl (.tmp 22) (.tmp 25) 24 rfl 31 i0 6 Try.underlying24 hi0 hz1 g 0 i cap (by simp [Act.eval, Act.put]) A (l0.length - (i + 1)) (cap - (i + 1)) news (by simp [Act.eval, Act.put]) s1.out hsrc.out s2.out (by omega) s3.out ?_; rw [← hW.out])
  go_wp2
  go_ret
  refine ⟨_, rfl, ?_, ?_, ?_⟩
  ·
   obtain ⟨cur2, hh2, hcs2, hcl2⟩ := E2.out
   refine ⟨fun k hk => ?_, inner.take (i * 6) ++ inner.drop ((i + 1) * 6), ⟨?_, .inr ⟨g, cap, cur2, ?_, hg, hh2, ?_, hcap, ?_, ?_⟩⟩, ?_⟩
   ·
    have : g = k := by simpa [Value.ownBlock] using hk
    subst this
    exact .inl hP
   ·
    exact (reps_erase HRP.out i HI.out).1
   ·
    rw [List.length_eraseIdx, if_pos HI.out, show i + (l0.length - (i + 1)) = l0.length - 1 by omega]
    rfl
   ·
    rw [List.length_eraseIdx, if_pos HI.out]; omega
   ·
    exact hcs2
   ·
    rw [List.length_eraseIdx, if_pos HI.out]; exact hcl2
   ·
    exact (reps_erase HRP.out i HI.out).imp_ (fun p c hp => Kd.M_step (k31.M_mono (fun k hk => ⟨.inl hk.1, hk.2⟩) hp) (fun k hk _ => SO.out k (fun e => hk.2 (by rw [e]; rfl))))
  ·
   exact BL.out
  ·
   exact ⟨Nat.le_of_eq SZ.out.symm, fun k hk hn => SO.out k (fun e => hn (by rw [e]; exact hP))⟩

/-! ### impl_firstJoint: function 93 -/
mutual
def impl_firstJoint.l0 : Nat → List (S31) → List (S31) → Int → Int → Option (Int × Int × Bool)
 | 0, _, _, _, _ => none
 | k + 1, x0, x9, x10, x11 => if x11 < x10 then (if 0 ≤ x11 then (if x11 < (x9.length : Int) then (impl_firstJoint.l1 k x0 x11 (wrap64 (x11 + 1)) x9 x10 x11 ((rd_T31 x9 x11).f0) ((rd_T31 x9 x11).f1) ((rd_T31 x9 x11).f2) ((rd_T31 x9 x11).f3) ((rd_T31 x9 x11).f4) ((rd_T31 x9 x11).f5)) else (none)) else (none)) else (some (0, 0, false))
def impl_firstJoint.l1 : Nat → List (S31) → Int → Int → List (S31) → Int → Int → Int → Int → Int → Int → Int → Int → Option (Int × Int × Bool)
 | 0, _, _, _, _, _, _, _, _, _, _, _, _ => none
 | k + 1, x0, x5, x7, x9, x10, x11, x916000, x916001, x916002, x916003, x916004, x916005 => if x7 < (x0.length : Int) then (if 0 ≤ x7 then (if x916001 = ((rd_T31 x0 x7).f1) then (if x916003 = ((rd_T31 x0 x7).f3) then (if x916002 = ((rd_T31 x0 x7).f2) then (if x916005 = ((rd_T31 x0 x7).f4) then (some (x5, x7, true)) else (if ((rd_T31 x0 x7).f5) = x916004 then (some (x5, x7, true)) else (impl_firstJoint.l1 k x0 x5 (wrap64 (x7 + 1)) x9 x10 x11 x916000 x916001 x916002 x916003 x916004 x916005))) else (impl_firstJoint.l1 k x0 x5 (wrap64 (x7 + 1)) x9 x10 x11 x916000 x916001 x916002 x916003 x916004 x916005)) else (impl_firstJoint.l1 k x0 x5 (wrap64 (x7 + 1)) x9 x10 x11 x916000 x916001 x916002 x916003 x916004 x916005)) else (impl_firstJoint.l1 k x0 x5 (wrap64 (x7 + 1)) x9 x10 x11 x916000 x916001 x916002 x916003 x916004 x916005)) else (none)) else (impl_firstJoint.l0 k x0 x9 x10 (wrap64 (x11 + 1)))
end
def impl_firstJoint.f (k : Nat) (l0 : List (S31)) : Option (Int × Int × Bool) := impl_firstJoint.l0 k l0 l0 (l0.length : Int) 0
theorem impl_firstJoint.mono_l : ∀ k, (∀ y0 y1 y2 y3, LeO (impl_firstJoint.l0 k y0 y1 y2 y3) (impl_firstJoint.l0 (k + 1) y0 y1 y2 y3)) ∧ (∀ y0 y1 y2 y3 y4 y5 y6 y7 y8 y9 y10 y11, LeO (impl_firstJoint.l1 k y0 y1 y2 y3 y4 y5 y6 y7 y8 y9 y10 y11) (impl_firstJoint.l1 (k + 1) y0 y1 y2 y3 y4 y5 y6 y7 y8 y9 y10 y11))
 | 0 => ⟨fun _ _ _ _ r h => by simp [impl_firstJoint.l0] at h, fun _ _ _ _ _ _ _ _ _ _ _ _ r h => by simp [impl_firstJoint.l1] at h⟩
 | k + 1 => by
  obtain ⟨ih0, ih1⟩ := impl_firstJoint.mono_l k
  refine ⟨?_, ?_⟩
  ·
   intro y0 y1 y2 y3
   unfold impl_firstJoint.l0
   repeat' first
   | (with_reducible exact ih0 _ _ _ _)
   | (with_reducible exact ih1 _ _ _ _ _ _ _ _ _ _ _ _)
   | (with_reducible exact LeO.refl _)
   | (with_reducible exact LeO.none _)
   | (with_reducible refine LeO.ite ?_ ?_)
   | (with_reducible refine LeO.bind ?_ (fun _ => ?_))
   | exact ih0 _ _ _ _
   | exact ih1 _ _ _ _ _ _ _ _ _ _ _ _
   | exact LeO.none _
   | refine LeO.ite ?_ ?_
   | refine LeO.bind ?_ (fun _ => ?_)
  ·
   intro y0 y1 y2 y3 y4 y5 y6 y7 y8 y9 y10 y11
   unfold impl_firstJoint.l1
   repeat' first
   | (with_reducible exact ih0 _ _ _ _)
   | (with_reducible exact ih1 _ _ _ _ _ _ _ _ _ _ _ _)
   | (with_reducible exact LeO.refl _)
   | (with_reducible exact LeO.none _)
   | (with_reducible refine LeO.ite ?_ ?_)
   | (with_reducible refine LeO.bind ?_ (fun _ => ?_))
   | exact ih0 _ _ _ _
   | exact ih1 _ _ _ _ _ _ _ _ _ _ _ _
   | exact LeO.none _
   | refine LeO.ite ?_ ?_
   | refine LeO.bind ?_ (fun _ => ?_)
theorem impl_firstJoint.mono : ∀ a0 k, LeO (impl_firstJoint.f k a0) (impl_firstJoint.f (k + 1) a0) := by
 intro a0 k
 obtain ⟨ih0, ih1⟩ := impl_firstJoint.mono_l k
 unfold impl_firstJoint.f
 repeat' first
   | (with_reducible exact ih0 _ _ _ _)
   | (with_reducible exact ih1 _ _ _ _ _ _ _ _ _ _ _ _)
   | (with_reducible exact LeO.refl _)
   | (with_reducible exact LeO.none _)
   | (with_reducible refine LeO.ite ?_ ?_)
   | (with_reducible refine LeO.bind ?_ (fun _ => ?_))
   | exact ih0 _ _ _ _
   | exact ih1 _ _ _ _ _ _ _ _ _ _ _ _
   | exact LeO.none _
   | refine LeO.ite ?_ ?_
   | refine LeO.bind ?_ (fun _ => ?_)
set_option maxHeartbeats 8000000 in
set_option maxRecDepth 100000 in
theorem impl_firstJoint.calls (k : Nat) (A0 : Option Addr) (c0 : Nat) (l0 : List (S31)) (r1 : Int) (r2 : Int) (r3 : Bool) (w : World) (hr0 : Kd.C k31 w A0 l0.length l0) (hc0 : l0.length ≤ c0) (h : impl_firstJoint.f k l0 = some (r1, r2, r3)) :
  Calls Try.prog 93 #[.slice A0 l0.length c0] w fun e w' => e = .returned (.tuple #[.int .i64 r1, .int .i64 r2, .bool r3]) ∧ Below w.heap.size w w' := by
 have hu31 := Try.underlying31
 have HR0 := Aside0.mk hr0
 have HC0 := Aside0.mk hc0
 clear hr0 hc0
 have HB := Aside0.mk (Below.refl w.heap.size w)
 have H : (impl_firstJoint.l0 k l0 l0 (l0.length : Int) 0) = some (r1, r2, r3) := h
 clear h
 have H' := Aside0.mk H
 clear H
 go_enter Try.func93, Try.ntmps93
 go_wp2
 go_loopg [11] k (fun kq v11 w' => ∃ (x11_1 : Int), v11 = .int .i64 x11_1 ∧ Aside0 (impl_firstJoint.l0 kq l0 l0 (l0.length : Int) x11_1 = some (r1, r2, r3)) ∧ Aside0 (kq ≤ k) ∧ Aside0 (Below w.heap.size w w'))
 case atStart => exact ⟨(0), (by first | rfl | (simp; done) | (simp [*]; done)), H', ⟨Nat.le_refl _⟩, ⟨zq0⟩⟩
 clear H'
 obtain ⟨x11_1, rfl, HA, HK1, HB⟩ := hrel
 cases gk with
 | zero => exact absurd HA.out (by simp [impl_firstJoint.l0])
 | succ k1 =>
  have H := HA.out
  clear HA
  simp only [impl_firstJoint.l0] at H
  by_cases c2 : x11_1 < (l0.length : Int)
  case neg =>
   rw [if_neg c2] at H
   have c2b0 : decide (x11_1 < (l0.length : Int)) = false := decide_eq_false c2
   clear c2
   simp only [Option.some.injEq, Prod.mk.injEq] at H
   obtain ⟨rfl, rfl, rfl⟩ := H
   go_wp2
   go_ret3
   exact ⟨zqE, zq0⟩
  rw [if_pos c2] at H
  have c2b0 : decide (x11_1 < (l0.length : Int)) = true := decide_eq_true c2
  clear c2
  by_cases c3 : 0 ≤ x11_1
  case neg =>
   rw [if_neg c3] at H
   exact absurd H (by simp)
  rw [if_pos c3] at H
  have c3b0 : decide (0 ≤ x11_1) = true := decide_eq_true c3
  clear c3
  by_cases c4 : x11_1 < (l0.length : Int)
  case neg =>
   rw [if_neg c4] at H
   exact absurd H (by simp)
  rw [if_pos c4] at H
  have c4b0 : decide (x11_1 < (l0.length : Int)) = true := decide_eq_true c4
  clear c4
  have H' := Aside0.mk H
  clear H
  have p914 : 0 ≤ (x11_1 : Int) := of_decide_eq_true zq5
  have q914 : x11_1 < (l0.length : Int) := of_decide_eq_true zq5
  obtain ⟨ad914, e914, hx914_0, hx914_1, hx914_2, hx914_3, hx914_4, hx914_5⟩ := at_T31 HR0.out x11_1 p914 q914
  cases e914
  replace hx914_0 := bx HB.out hx914_0
  replace hx914_1 := bx HB.out hx914_1
  replace hx914_2 := bx HB.out hx914_2
  replace hx914_3 := bx HB.out hx914_3
  replace hx914_4 := bx HB.out hx914_4
  replace hx914_5 := bx HB.out hx914_5
  replace p914 := eq_true p914
  replace q914 := eq_true q914
  go_wp2_with (first | ((with_reducible refine gate_dst (N := 6) rfl ?_); refine box_event ?hg (N := 6) ?hd (cs := #[.int .i64 0, .int .i64 0, .int .i64 0, .int .i64 0, .int .i64 0, .int .i64 0]) (t := 31) ?hr ?_; (case hd => rfl); (case hg => rfl); (case hr => exact zqS); intro gb915 hg w5 hbox hb; have n0_ := Aside0.mk (below_step zq0 hb); have n1_ := Aside0.mk (hbox); have n2_ := Aside0.mk ((by rw [hg]; exact (below_size zq0) : w.heap.size ≤ gb915)); have n3_ := n2_; clear HB; have HB := n0_; have BK915 := n1_; have GW915 := n2_; have GE915 := n3_; clear n0_ n1_ n2_ n3_; clear hb hbox hg; obtain ⟨hcz6_0, hcz6_1, hcz6_2, hcz6_3, hcz6_4, hcz6_5, hfz6_0, hfz6_1, hfz6_2, hfz6_3, hfz6_4, hfz6_5⟩ := bz6 BK915.out))
  go_loopg [7] k1 (fun kq v7 w' => ∃ (x7_2 : Int), v7 = .int .i64 x7_2 ∧ Aside0 (impl_firstJoint.l1 kq l0 x11_1 x7_2 l0 (l0.length : Int) x11_1 ((rd_T31 l0 x11_1).f0) ((rd_T31 l0 x11_1).f1) ((rd_T31 l0 x11_1).f2) ((rd_T31 l0 x11_1).f3) ((rd_T31 l0 x11_1).f4) ((rd_T31 l0 x11_1).f5) = some (r1, r2, r3)) ∧ Aside0 (kq ≤ k1) ∧ Aside0 (w'.heap[gb915]? = some (.cells #[.int .i64 ((rd_T31 l0 x11_1).f0), .int .i64 ((rd_T31 l0 x11_1).f1), .int .i64 ((rd_T31 l0 x11_1).f2), .int .i64 ((rd_T31 l0 x11_1).f3), .int .i64 ((rd_T31 l0 x11_1).f4), .int .i64 ((rd_T31 l0 x11_1).f5)] 31 (0, 0))) ∧ Aside0 (Below w.heap.size w w'))
  case atStart => exact ⟨(wrap64 (x11_1 + 1)), (by first | rfl | (simp; done) | (simp [*]; done)), H', ⟨Nat.le_refl _⟩, ⟨by (with_reducible repeat (first | refine blk_drewN ?_ _ | refine blk_drew ?_ | refine blk_alloc ?_ _)); refine blk_put (cs := #[.int .i64 ((rd_T31 l0 x11_1).f0), .int .i64 ((rd_T31 l0 x11_1).f1), .int .i64 ((rd_T31 l0 x11_1).f2), .int .i64 ((rd_T31 l0 x11_1).f3), .int .i64 ((rd_T31 l0 x11_1).f4), .int .i64 0]) ?_ 5 _ rfl; (with_reducible repeat (first | refine blk_drewN ?_ _ | refine blk_drew ?_ | refine blk_alloc ?_ _)); refine blk_put (cs := #[.int .i64 ((rd_T31 l0 x11_1).f0), .int .i64 ((rd_T31 l0 x11_1).f1), .int .i64 ((rd_T31 l0 x11_1).f2), .int .i64 ((rd_T31 l0 x11_1).f3), .int .i64 0, .int .i64 0]) ?_ 4 _ rfl; (with_reducible repeat (first | refine blk_drewN ?_ _ | refine blk_drew ?_ | refine blk_alloc ?_ _)); refine blk_put (cs := #[.int .i64 ((rd_T31 l0 x11_1).f0), .int .i64 ((rd_T31 l0 x11_1).f1), .int .i64 ((rd_T31 l0 x11_1).f2), .int .i64 0, .int .i64 0, .int .i64 0]) ?_ 3 _ rfl; (with_reducible repeat (first | refine blk_drewN ?_ _ | refine blk_drew ?_ | refine blk_alloc ?_ _)); refine blk_put (cs := #[.int .i64 ((rd_T31 l0 x11_1).f0), .int .i64 ((rd_T31 l0 x11_1).f1), .int .i64 0, .int .i64 0, .int .i64 0, .int .i64 0]) ?_ 2 _ rfl; (with_reducible repeat (first | refine blk_drewN ?_ _ | refine blk_drew ?_ | refine blk_alloc ?_ _)); refine blk_put (cs := #[.int .i64 ((rd_T31 l0 x11_1).f0), .int .i64 0, .int .i64 0, .int .i64 0, .int .i64 0, .int .i64 0]) ?_ 1 _ rfl; (with_reducible repeat (first | refine blk_drewN ?_ _ | refine blk_drew ?_ | refine blk_alloc ?_ _)); refine blk_put (cs := #[.int .i64 0, .int .i64 0, .int .i64 0, .int .i64 0, .int .i64 0, .int .i64 0]) ?_ 0 _ rfl; (with_reducible repeat (first | refine blk_drewN ?_ _ | refine blk_drew ?_ | refine blk_alloc ?_ _)); exact BK915.out⟩, ⟨zq14⟩⟩
  clear H'
  try clear c2
  try clear c2b0
  try clear p2
  try clear c3
  try clear c3b0
  try clear c4
  try clear c4b0
  try clear p6
  try clear hcz6_0
  try clear hcz6_1
  try clear hcz6_2
  try clear hcz6_3
  try clear hcz6_4
  try clear hcz6_5
  try clear hfz6_0
  try clear hfz6_1
  try clear hfz6_2
  try clear hfz6_3
  try clear hfz6_4
  try clear hfz6_5
  try clear hx914_0
  try clear hx914_1
  try clear hx914_2
  try clear hx914_3
  try clear hx914_4
  try clear hx914_5
  try clear p914
  try clear q914
  obtain ⟨x7_2, rfl, HA, HK2, BK915, HB⟩ := hrel
  cases gk with
  | zero => exact absurd HA.out (by simp [impl_firstJoint.l1])
  | succ k2 =>
   have H := HA.out
   clear HA
   simp only [impl_firstJoint.l1] at H
   by_cases c7 : x7_2 < (l0.length : Int)
   case neg =>
    rw [if_neg c7] at H
    have c7b0 : decide (x7_2 < (l0.length : Int)) = false := decide_eq_false c7
    clear c7
    have H' := Aside0.mk H
    clear H
    go_wp2
    go_roundg k2
    case measure => have := HK1.out; have := HK2.out; omega
    case rel => exact ⟨(wrap64 (x11_1 + 1)), (by first | rfl | (simp; done) | (simp [*]; done)), H', ⟨by have := HK1.out; have := HK2.out; omega⟩, ⟨zq14⟩⟩
   rw [if_pos c7] at H
   have c7b0 : decide (x7_2 < (l0.length : Int)) = true := decide_eq_true c7
   clear c7
   by_cases c8 : 0 ≤ x7_2
   case neg =>
    rw [if_neg c8] at H
    exact absurd H (by simp)
   rw [if_pos c8] at H
   have c8b0 : decide (0 ≤ x7_2) = true := decide_eq_true c8
   clear c8
   by_cases c9 : ((rd_T31 l0 x11_1).f1) = ((rd_T31 l0 x7_2).f1)
   case neg =>
    rw [if_neg c9] at H
    have c9b0 : (((rd_T31 l0 x11_1).f1) == ((rd_T31 l0 x7_2).f1)) = false := beq_eq_false_iff_ne.mpr c9
    have c9b1 : (((rd_T31 l0 x11_1).f1) != ((rd_T31 l0 x7_2).f1)) = true := bne_iff_ne.mpr c9
    have H' := Aside0.mk H
    clear H
    have p916 : 0 ≤ (x7_2 : Int) := of_decide_eq_true zq5
    have q916 : x7_2 < (l0.length : Int) := of_decide_eq_true zq5
    obtain ⟨ad916, e916, hx916_0, hx916_1, hx916_2, hx916_3, hx916_4, hx916_5⟩ := at_T31 HR0.out x7_2 p916 q916
    obtain rfl : ad914 = ad916 := (by injection e916)
    replace hx916_0 := bx HB.out hx916_0
    replace hx916_1 := bx HB.out hx916_1
    replace hx916_2 := bx HB.out hx916_2
    replace hx916_3 := bx HB.out hx916_3
    replace hx916_4 := bx HB.out hx916_4
    replace hx916_5 := bx HB.out hx916_5
    replace p916 := eq_true p916
    replace q916 := eq_true q916
    go_wp2_with (first | ((with_reducible refine gate_dst (N := 8) rfl ?_); refine box_event ?hg (N := 8) ?hd (cs := #[.int .i64 0, .int .i64 0, .int .i64 0, .int .i64 0, .int .i64 0, .int .i64 0]) (t := 31) ?hr ?_; (case hd => rfl); (case hg => rfl); (case hr => exact zqS); intro gb917 hg w34 hbox hb; have n0_ := Aside0.mk (blk_below (g := gb915) (o := .cells #[.int .i64 ((rd_T31 l0 x11_1).f0), .int .i64 ((rd_T31 l0 x11_1).f1), .int .i64 ((rd_T31 l0 x11_1).f2), .int .i64 ((rd_T31 l0 x11_1).f3), .int .i64 ((rd_T31 l0 x11_1).f4), .int .i64 ((rd_T31 l0 x11_1).f5)] 31 (0, 0)) (zqK BK915.out) hb); have n1_ := Aside0.mk (below_step zq14 hb); have n2_ := Aside0.mk (hbox); have n3_ := Aside0.mk ((by rw [hg]; exact (below_size zq14) : w.heap.size ≤ gb917)); have n4_ := n3_; have n5_ := Aside0.mk ((by rw [hg]; exact Nat.ne_of_lt (blk_lt (g := gb915) (o := .cells #[.int .i64 ((rd_T31 l0 x11_1).f0), .int .i64 ((rd_T31 l0 x11_1).f1), .int .i64 ((rd_T31 l0 x11_1).f2), .int .i64 ((rd_T31 l0 x11_1).f3), .int .i64 ((rd_T31 l0 x11_1).f4), .int .i64 ((rd_T31 l0 x11_1).f5)] 31 (0, 0)) (zqK BK915.out)) : gb915 ≠ gb917)); have n6_ := Aside0.mk ((by rw [hg]; exact Nat.ne_of_gt (blk_lt (g := gb915) (o := .cells #[.int .i64 ((rd_T31 l0 x11_1).f0), .int .i64 ((rd_T31 l0 x11_1).f1), .int .i64 ((rd_T31 l0 x11_1).f2), .int .i64 ((rd_T31 l0 x11_1).f3), .int .i64 ((rd_T31 l0 x11_1).f4), .int .i64 ((rd_T31 l0 x11_1).f5)] 31 (0, 0)) (zqK BK915.out)) : gb917 ≠ gb915)); clear BK915; clear HB; have BK915 := n0_; have HB := n1_; have BK917 := n2_; have GW917 := n3_; have GE917 := n4_; have NB915_917 := n5_; have NB917_915 := n6_; clear n0_ n1_ n2_ n3_ n4_ n5_ n6_; clear hb hbox hg; have hnb35 := NB917_915.out; have hnc35 := NB915_917.out; obtain ⟨hcz36_0, hcz36_1, hcz36_2, hcz36_3, hcz36_4, hcz36_5, hfz36_0, hfz36_1, hfz36_2, hfz36_3, hfz36_4, hfz36_5⟩ := bz6 BK917.out; obtain ⟨hcz37_0, hcz37_1, hcz37_2, hcz37_3, hcz37_4, hcz37_5, hfz37_0, hfz37_1, hfz37_2, hfz37_3, hfz37_4, hfz37_5⟩ := bz6 BK915.out))
    go_roundg k2
    case measure => have := HK1.out; have := HK2.out; omega
    case rel => exact ⟨(wrap64 (x7_2 + 1)), (by first | rfl | (simp; done) | (simp [*]; done)), H', ⟨by have := HK1.out; have := HK2.out; omega⟩, ⟨by (with_reducible repeat (first | refine blk_drewN ?_ _ | refine blk_drew ?_ | refine blk_alloc ?_ _)); refine blk_far ?_ NB915_917.out _; (with_reducible repeat (first | refine blk_drewN ?_ _ | refine blk_drew ?_ | refine blk_alloc ?_ _)); refine blk_far ?_ NB915_917.out _; (with_reducible repeat (first | refine blk_drewN ?_ _ | refine blk_drew ?_ | refine blk_alloc ?_ _)); refine blk_far ?_ NB915_917.out _; (with_reducible repeat (first | refine blk_drewN ?_ _ | refine blk_drew ?_ | refine blk_alloc ?_ _)); refine blk_far ?_ NB915_917.out _; (with_reducible repeat (first | refine blk_drewN ?_ _ | refine blk_drew ?_ | refine blk_alloc ?_ _)); refine blk_far ?_ NB915_917.out _; (with_reducible repeat (first | refine blk_drewN ?_ _ | refine blk_drew ?_ | refine blk_alloc ?_ _)); refine blk_far ?_ NB915_917.out _; (with_reducible repeat (first | refine blk_drewN ?_ _ | refine blk_drew ?_ | refine blk_alloc ?_ _)); exact BK915.out⟩, ⟨zq29⟩⟩
   rw [if_pos c9] at H
   have c9b0 : (((rd_T31 l0 x11_1).f1) == ((rd_T31 l0 x7_2).f1)) = true := beq_iff_eq.mpr c9
   have c9b1 : (((rd_T31 l0 x11_1).f1) != ((rd_T31 l0 x7_2).f1)) = false := bne_eq_false_iff_eq.mpr c9
   clear c9
   by_cases c10 : ((rd_T31 l0 x11_1).f3) = ((rd_T31 l0 x7_2).f3)
   case neg =>
    rw [if_neg c10] at H
    have c10b0 : (((rd_T31 l0 x11_1).f3) == ((rd_T31 l0 x7_2).f3)) = false := beq_eq_false_iff_ne.mpr c10
    have c10b1 : (((rd_T31 l0 x11_1).f3) != ((rd_T31 l0 x7_2).f3)) = true := bne_iff_ne.mpr c10
    have H' := Aside0.mk H
    clear H
    have p916 : 0 ≤ (x7_2 : Int) := of_decide_eq_true zq5
    have q916 : x7_2 < (l0.length : Int) := of_decide_eq_true zq5
    obtain ⟨ad916, e916, hx916_0, hx916_1, hx916_2, hx916_3, hx916_4, hx916_5⟩ := at_T31 HR0.out x7_2 p916 q916
    obtain rfl : ad914 = ad916 := (by injection e916)
    replace hx916_0 := bx HB.out hx916_0
    replace hx916_1 := bx HB.out hx916_1
    replace hx916_2 := bx HB.out hx916_2
    replace hx916_3 := bx HB.out hx916_3
    replace hx916_4 := bx HB.out hx916_4
    replace hx916_5 := bx HB.out hx916_5
    replace p916 := eq_true p916
    replace q916 := eq_true q916
    go_wp2_with (first | ((with_reducible refine gate_dst (N := 8) rfl ?_); refine box_event ?hg (N := 8) ?hd (cs := #[.int .i64 0, .int .i64 0, .int .i64 0, .int .i64 0, .int .i64 0, .int .i64 0]) (t := 31) ?hr ?_; (case hd => rfl); (case hg => rfl); (case hr => exact zqS); intro gb917 hg w30 hbox hb; have n0_ := Aside0.mk (blk_below (g := gb915) (o := .cells #[.int .i64 ((rd_T31 l0 x11_1).f0), .int .i64 ((rd_T31 l0 x11_1).f1), .int .i64 ((rd_T31 l0 x11_1).f2), .int .i64 ((rd_T31 l0 x11_1).f3), .int .i64 ((rd_T31 l0 x11_1).f4), .int .i64 ((rd_T31 l0 x11_1).f5)] 31 (0, 0)) (zqK BK915.out) hb); have n1_ := Aside0.mk (below_step zq14 hb); have n2_ := Aside0.mk (hbox); have n3_ := Aside0.mk ((by rw [hg]; exact (below_size zq14) : w.heap.size ≤ gb917)); have n4_ := n3_; have n5_ := Aside0.mk ((by rw [hg]; exact Nat.ne_of_lt (blk_lt (g := gb915) (o := .cells #[.int .i64 ((rd_T31 l0 x11_1).f0), .int .i64 ((rd_T31 l0 x11_1).f1), .int .i64 ((rd_T31 l0 x11_1).f2), .int .i64 ((rd_T31 l0 x11_1).f3), .int .i64 ((rd_T31 l0 x11_1).f4), .int .i64 ((rd_T31 l0 x11_1).f5)] 31 (0, 0)) (zqK BK915.out)) : gb915 ≠ gb917)); have n6_ := Aside0.mk ((by rw [hg]; exact Nat.ne_of_gt (blk_lt (g := gb915) (o := .cells #[.int .i64 ((rd_T31 l0 x11_1).f0), .int .i64 ((rd_T31 l0 x11_1).f1), .int .i64 ((rd_T31 l0 x11_1).f2), .int .i64 ((rd_T31 l0 x11_1).f3), .int .i64 ((rd_T31 l0 x11_1).f4), .int .i64 ((rd_T31 l0 x11_1).f5)] 31 (0, 0)) (zqK BK915.out)) : gb917 ≠ gb915)); clear BK915; clear HB; have BK915 := n0_; have HB := n1_; have BK917 := n2_; have GW917 := n3_; have GE917 := n4_; have NB915_917 := n5_; have NB917_915 := n6_; clear n0_ n1_ n2_ n3_ n4_ n5_ n6_; clear hb hbox hg; have hnb31 := NB917_915.out; have hnc31 := NB915_917.out; obtain ⟨hcz32_0, hcz32_1, hcz32_2, hcz32_3, hcz32_4, hcz32_5, hfz32_0, hfz32_1, hfz32_2, hfz32_3, hfz32_4, hfz32_5⟩ := bz6 BK917.out; obtain ⟨hcz33_0, hcz33_1, hcz33_2, hcz33_3, hcz33_4, hcz33_5, hfz33_0, hfz33_1, hfz33_2, hfz33_3, hfz33_4, hfz33_5⟩ := bz6 BK915.out))
    go_roundg k2
    case measure => have := HK1.out; have := HK2.out; omega
    case rel => exact ⟨(wrap64 (x7_2 + 1)), (by first | rfl | (simp; done) | (simp [*]; done)), H', ⟨by have := HK1.out; have := HK2.out; omega⟩, ⟨by (with_reducible repeat (first | refine blk_drewN ?_ _ | refine blk_drew ?_ | refine blk_alloc ?_ _)); refine blk_far ?_ NB915_917.out _; (with_reducible repeat (first | refine blk_drewN ?_ _ | refine blk_drew ?_ | refine blk_alloc ?_ _)); refine blk_far ?_ NB915_917.out _; (with_reducible repeat (first | refine blk_drewN ?_ _ | refine blk_drew ?_ | refine blk_alloc ?_ _)); refine blk_far ?_ NB915_917.out _; (with_reducible repeat (first | refine blk_drewN ?_ _ | refine blk_drew ?_ | refine blk_alloc ?_ _)); refine blk_far ?_ NB915_917.out _; (with_reducible repeat (first | refine blk_drewN ?_ _ | refine blk_drew ?_ | refine blk_alloc ?_ _)); refine blk_far ?_ NB915_917.out _; (with_reducible repeat (first | refine blk_drewN ?_ _ | refine blk_drew ?_ | refine blk_alloc ?_ _)); refine blk_far ?_ NB915_917.out _; (with_reducible repeat (first | refine blk_drewN ?_ _ | refine blk_drew ?_ | refine blk_alloc ?_ _)); exact BK915.out⟩, ⟨zq29⟩⟩
   rw [if_pos c10] at H
   have c10b0 : (((rd_T31 l0 x11_1).f3) == ((rd_T31 l0 x7_2).f3)) = true := beq_iff_eq.mpr c10
   have c10b1 : (((rd_T31 l0 x11_1).f3) != ((rd_T31 l0 x7_2).f3)) = false := bne_eq_false_iff_eq.mpr c10
   clear c10
   by_cases c11 : ((rd_T31 l0 x11_1).f2) = ((rd_T31 l0 x7_2).f2)
   case neg =>
    rw [if_neg c11] at H
    have c11b0 : (((rd_T31 l0 x11_1).f2) == ((rd_T31 l0 x7_2).f2)) = false := beq_eq_false_iff_ne.mpr c11
    have c11b1 : (((rd_T31 l0 x11_1).f2) != ((rd_T31 l0 x7_2).f2)) = true := bne_iff_ne.mpr c11
    have H' := Aside0.mk H
    clear H
    have p916 : 0 ≤ (x7_2 : Int) := of_decide_eq_true zq5
    have q916 : x7_2 < (l0.length : Int) := of_decide_eq_true zq5
    obtain ⟨ad916, e916, hx916_0, hx916_1, hx916_2, hx916_3, hx916_4, hx916_5⟩ := at_T31 HR0.out x7_2 p916 q916
    obtain rfl : ad914 = ad916 := (by injection e916)
    replace hx916_0 := bx HB.out hx916_0
    replace hx916_1 := bx HB.out hx916_1
    replace hx916_2 := bx HB.out hx916_2
    replace hx916_3 := bx HB.out hx916_3
    replace hx916_4 := bx HB.out hx916_4
    replace hx916_5 := bx HB.out hx916_5
    replace p916 := eq_true p916
    replace q916 := eq_true q916
    go_wp2_with (first | ((with_reducible refine gate_dst (N := 8) rfl ?_); refine box_event ?hg (N := 8) ?hd (cs := #[.int .i64 0, .int .i64 0, .int .i64 0, .int .i64 0, .int .i64 0, .int .i64 0]) (t := 31) ?hr ?_; (case hd => rfl); (case hg => rfl); (case hr => exact zqS); intro gb917 hg w26 hbox hb; have n0_ := Aside0.mk (blk_below (g := gb915) (o := .cells #[.int .i64 ((rd_T31 l0 x11_1).f0), .int .i64 ((rd_T31 l0 x11_1).f1), .int .i64 ((rd_T31 l0 x11_1).f2), .int .i64 ((rd_T31 l0 x11_1).f3), .int .i64 ((rd_T31 l0 x11_1).f4), .int .i64 ((rd_T31 l0 x11_1).f5)] 31 (0, 0)) (zqK BK915.out) hb); have n1_ := Aside0.mk (below_step zq14 hb); have n2_ := Aside0.mk (hbox); have n3_ := Aside0.mk ((by rw [hg]; exact (below_size zq14) : w.heap.size ≤ gb917)); have n4_ := n3_; have n5_ := Aside0.mk ((by rw [hg]; exact Nat.ne_of_lt (blk_lt (g := gb915) (o := .cells #[.int .i64 ((rd_T31 l0 x11_1).f0), .int .i64 ((rd_T31 l0 x11_1).f1), .int .i64 ((rd_T31 l0 x11_1).f2), .int .i64 ((rd_T31 l0 x11_1).f3), .int .i64 ((rd_T31 l0 x11_1).f4), .int .i64 ((rd_T31 l0 x11_1).f5)] 31 (0, 0)) (zqK BK915.out)) : gb915 ≠ gb917)); have n6_ := Aside0.mk ((by rw [hg]; exact Nat.ne_of_gt (blk_lt (g := gb915) (o := .cells #[.int .i64 ((rd_T31 l0 x11_1).f0), .int .i64 ((rd_T31 l0 x11_1).f1), .int .i64 ((rd_T31 l0 x11_1).f2), .int .i64 ((rd_T31 l0 x11_1).f3), .int .i64 ((rd_T31 l0 x11_1).f4), .int .i64 ((rd_T31 l0 x11_1).f5)] 31 (0, 0)) (zqK BK915.out)) : gb917 ≠ gb915)); clear BK915; clear HB; have BK915 := n0_; have HB := n1_; have BK917 := n2_; have GW917 := n3_; have GE917 := n4_; have NB915_917 := n5_; have NB917_915 := n6_; clear n0_ n1_ n2_ n3_ n4_ n5_ n6_; clear hb hbox hg; have hnb27 := NB917_915.out; have hnc27 := NB915_917.out; obtain ⟨hcz28_0, hcz28_1, hcz28_2, hcz28_3, hcz28_4, hcz28_5, hfz28_0, hfz28_1, hfz28_2, hfz28_3, hfz28_4, hfz28_5⟩ := bz6 BK917.out; obtain ⟨hcz29_0, hcz29_1, hcz29_2, hcz29_3, hcz29_4, hcz29_5, hfz29_0, hfz29_1, hfz29_2, hfz29_3, hfz29_4, hfz29_5⟩ := bz6 BK915.out))
    go_roundg k2
    case measure => have := HK1.out; have := HK2.out; omega
    case rel => exact ⟨(wrap64 (x7_2 + 1)), (by first | rfl | (simp; done) | (simp [*]; done)), H', ⟨by have := HK1.out; have := HK2.out; omega⟩, ⟨by (with_reducible repeat (first | refine blk_drewN ?_ _ | refine blk_drew ?_ | refine blk_alloc ?_ _)); refine blk_far ?_ NB915_917.out _; (with_reducible repeat (first | refine blk_drewN ?_ _ | refine blk_drew ?_ | refine blk_alloc ?_ _)); refine blk_far ?_ NB915_917.out _; (with_reducible repeat (first | refine blk_drewN ?_ _ | refine blk_drew ?_ | refine blk_alloc ?_ _)); refine blk_far ?_ NB915_917.out _; (with_reducible repeat (first | refine blk_drewN ?_ _ | refine blk_drew ?_ | refine blk_alloc ?_ _)); refine blk_far ?_ NB915_917.out _; (with_reducible repeat (first | refine blk_drewN ?_ _ | refine blk_drew ?_ | refine blk_alloc ?_ _)); refine blk_far ?_ NB915_917.out _; (with_reducible repeat (first | refine blk_drewN ?_ _ | refine blk_drew ?_ | refine blk_alloc ?_ _)); refine blk_far ?_ NB915_917.out _; (with_reducible repeat (first | refine blk_drewN ?_ _ | refine blk_drew ?_ | refine blk_alloc ?_ _)); exact BK915.out⟩, ⟨zq29⟩⟩
   rw [if_pos c11] at H
   have c11b0 : (((rd_T31 l0 x11_1).f2) == ((rd_T31 l0 x7_2).f2)) = true := beq_iff_eq.mpr c11
   have c11b1 : (((rd_T31 l0 x11_1).f2) != ((rd_T31 l0 x7_2).f2)) = false := bne_eq_false_iff_eq.mpr c11
   clear c11
   by_cases c12 : ((rd_T31 l0 x11_1).f5) = ((rd_T31 l0 x7_2).f4)
   case pos =>
    rw [if_pos c12] at H
    have c12b0 : (((rd_T31 l0 x11_1).f5) == ((rd_T31 l0 x7_2).f4)) = true := beq_iff_eq.mpr c12
    have c12b1 : (((rd_T31 l0 x11_1).f5) != ((rd_T31 l0 x7_2).f4)) = false := bne_eq_false_iff_eq.mpr c12
    clear c12
    simp only [Option.some.injEq, Prod.mk.injEq] at H
    obtain ⟨rfl, rfl, rfl⟩ := H
    have p916 : 0 ≤ (x7_2 : Int) := of_decide_eq_true zq5
    have q916 : x7_2 < (l0.length : Int) := of_decide_eq_true zq5
    obtain ⟨ad916, e916, hx916_0, hx916_1, hx916_2, hx916_3, hx916_4, hx916_5⟩ := at_T31 HR0.out x7_2 p916 q916
    obtain rfl : ad914 = ad916 := (by injection e916)
    replace hx916_0 := bx HB.out hx916_0
    replace hx916_1 := bx HB.out hx916_1
    replace hx916_2 := bx HB.out hx916_2
    replace hx916_3 := bx HB.out hx916_3
    replace hx916_4 := bx HB.out hx916_4
    replace hx916_5 := bx HB.out hx916_5
    replace p916 := eq_true p916
    replace q916 := eq_true q916
    go_wp2_with (first | ((with_reducible refine gate_dst (N := 8) rfl ?_); refine box_event ?hg (N := 8) ?hd (cs := #[.int .i64 0, .int .i64 0, .int .i64 0, .int .i64 0, .int .i64 0, .int .i64 0]) (t := 31) ?hr ?_; (case hd => rfl); (case hg => rfl); (case hr => exact zqS); intro gb917 hg w13 hbox hb; have n0_ := Aside0.mk (blk_below (g := gb915) (o := .cells #[.int .i64 ((rd_T31 l0 x11_1).f0), .int .i64 ((rd_T31 l0 x11_1).f1), .int .i64 ((rd_T31 l0 x11_1).f2), .int .i64 ((rd_T31 l0 x11_1).f3), .int .i64 ((rd_T31 l0 x11_1).f4), .int .i64 ((rd_T31 l0 x11_1).f5)] 31 (0, 0)) (zqK BK915.out) hb); have n1_ := Aside0.mk (below_step zq14 hb); have n2_ := Aside0.mk (hbox); have n3_ := Aside0.mk ((by rw [hg]; exact (below_size zq14) : w.heap.size ≤ gb917)); have n4_ := n3_; have n5_ := Aside0.mk ((by rw [hg]; exact Nat.ne_of_lt (blk_lt (g := gb915) (o := .cells #[.int .i64 ((rd_T31 l0 x11_1).f0), .int .i64 ((rd_T31 l0 x11_1).f1), .int .i64 ((rd_T31 l0 x11_1).f2), .int .i64 ((rd_T31 l0 x11_1).f3), .int .i64 ((rd_T31 l0 x11_1).f4), .int .i64 ((rd_T31 l0 x11_1).f5)] 31 (0, 0)) (zqK BK915.out)) : gb915 ≠ gb917)); have n6_ := Aside0.mk ((by rw [hg]; exact Nat.ne_of_gt (blk_lt (g := gb915) (o := .cells #[.int .i64 ((rd_T31 l0 x11_1).f0), .int .i64 ((rd_T31 l0 x11_1).f1), .int .i64 ((rd_T31 l0 x11_1).f2), .int .i64 ((rd_T31 l0 x11_1).f3), .int .i64 ((rd_T31 l0 x11_1).f4), .int .i64 ((rd_T31 l0 x11_1).f5)] 31 (0, 0)) (zqK BK915.out)) : gb917 ≠ gb915)); clear BK915; clear HB; have BK915 := n0_; have HB := n1_; have BK917 := n2_; have GW917 := n3_; have GE917 := n4_; have NB915_917 := n5_; have NB917_915 := n6_; clear n0_ n1_ n2_ n3_ n4_ n5_ n6_; clear hb hbox hg; have hnb14 := NB917_915.out; have hnc14 := NB915_917.out; obtain ⟨hcz15_0, hcz15_1, hcz15_2, hcz15_3, hcz15_4, hcz15_5, hfz15_0, hfz15_1, hfz15_2, hfz15_3, hfz15_4, hfz15_5⟩ := bz6 BK917.out; obtain ⟨hcz16_0, hcz16_1, hcz16_2, hcz16_3, hcz16_4, hcz16_5, hfz16_0, hfz16_1, hfz16_2, hfz16_3, hfz16_4, hfz16_5⟩ := bz6 BK915.out))
    go_ret3
    exact ⟨zqE, zq29⟩
   rw [if_neg c12] at H
   have c12b0 : (((rd_T31 l0 x11_1).f5) == ((rd_T31 l0 x7_2).f4)) = false := beq_eq_false_iff_ne.mpr c12
   have c12b1 : (((rd_T31 l0 x11_1).f5) != ((rd_T31 l0 x7_2).f4)) = true := bne_iff_ne.mpr c12
   by_cases c17 : ((rd_T31 l0 x7_2).f5) = ((rd_T31 l0 x11_1).f4)
   case neg =>
    rw [if_neg c17] at H
    have c17b0 : (((rd_T31 l0 x7_2).f5) == ((rd_T31 l0 x11_1).f4)) = false := beq_eq_false_iff_ne.mpr c17
    have c17b1 : (((rd_T31 l0 x7_2).f5) != ((rd_T31 l0 x11_1).f4)) = true := bne_iff_ne.mpr c17
    have H' := Aside0.mk H
    clear H
    have p916 : 0 ≤ (x7_2 : Int) := of_decide_eq_true zq5
    have q916 : x7_2 < (l0.length : Int) := of_decide_eq_true zq5
    obtain ⟨ad916, e916, hx916_0, hx916_1, hx916_2, hx916_3, hx916_4, hx916_5⟩ := at_T31 HR0.out x7_2 p916 q916
    obtain rfl : ad914 = ad916 := (by injection e916)
    replace hx916_0 := bx HB.out hx916_0
    replace hx916_1 := bx HB.out hx916_1
    replace hx916_2 := bx HB.out hx916_2
    replace hx916_3 := bx HB.out hx916_3
    replace hx916_4 := bx HB.out hx916_4
    replace hx916_5 := bx HB.out hx916_5
    replace p916 := eq_true p916
    replace q916 := eq_true q916
    go_wp2_with (first | ((with_reducible refine gate_dst (N := 8) rfl ?_); refine box_event ?hg (N := 8) ?hd (cs := #[.int .i64 0, .int .i64 0, .int .i64 0, .int .i64 0, .int .i64 0, .int .i64 0]) (t := 31) ?hr ?_; (case hd => rfl); (case hg => rfl); (case hr => exact zqS); intro gb917 hg w22 hbox hb; have n0_ := Aside0.mk (blk_below (g := gb915) (o := .cells #[.int .i64 ((rd_T31 l0 x11_1).f0), .int .i64 ((rd_T31 l0 x11_1).f1), .int .i64 ((rd_T31 l0 x11_1).f2), .int .i64 ((rd_T31 l0 x11_1).f3), .int .i64 ((rd_T31 l0 x11_1).f4), .int .i64 ((rd_T31 l0 x11_1).f5)] 31 (0, 0)) (zqK BK915.out) hb); have n1_ := Aside0.mk (below_step zq14 hb); have n2_ := Aside0.mk (hbox); have n3_ := Aside0.mk ((by rw [hg]; exact (below_size zq14) : w.heap.size ≤ gb917)); have n4_ := n3_; have n5_ := Aside0.mk ((by rw [hg]; exact Nat.ne_of_lt (blk_lt (g := gb915) (o := .cells #[.int .i64 ((rd_T31 l0 x11_1).f0), .int .i64 ((rd_T31 l0 x11_1).f1), .int .i64 ((rd_T31 l0 x11_1).f2), .int .i64 ((rd_T31 l0 x11_1).f3), .int .i64 ((rd_T31 l0 x11_1).f4), .int .i64 ((rd_T31 l0 x11_1).f5)] 31 (0, 0)) (zqK BK915.out)) : gb915 ≠ gb917)); have n6_ := Aside0.mk ((by rw [hg]; exact Nat.ne_of_gt (blk_lt (g := gb915) (o := .cells #[.int .i64 ((rd_T31 l0 x11_1).f0), .int .i64 ((rd_T31 l0 x11_1).f1), .int .i64 ((rd_T31 l0 x11_1).f2), .int .i64 ((rd_T31 l0 x11_1).f3), .int .i64 ((rd_T31 l0 x11_1).f4), .int .i64 ((rd_T31 l0 x11_1).f5)] 31 (0, 0)) (zqK BK915.out)) : gb917 ≠ gb915)); clear BK915; clear HB; have BK915 := n0_; have HB := n1_; have BK917 := n2_; have GW917 := n3_; have GE917 := n4_; have NB915_917 := n5_; have NB917_915 := n6_; clear n0_ n1_ n2_ n3_ n4_ n5_ n6_; clear hb hbox hg; have hnb23 := NB917_915.out; have hnc23 := NB915_917.out; obtain ⟨hcz24_0, hcz24_1, hcz24_2, hcz24_3, hcz24_4, hcz24_5, hfz24_0, hfz24_1, hfz24_2, hfz24_3, hfz24_4, hfz24_5⟩ := bz6 BK917.out; obtain ⟨hcz25_0, hcz25_1, hcz25_2, hcz25_3, hcz25_4, hcz25_5, hfz25_0, hfz25_1, hfz25_2, hfz25_3, hfz25_4, hfz25_5⟩ := bz6 BK915.out))
    go_roundg k2
    case measure => have := HK1.out; have := HK2.out; omega
    case rel => exact ⟨(wrap64 (x7_2 + 1)), (by first | rfl | (simp; done) | (simp [*]; done)), H', ⟨by have := HK1.out; have := HK2.out; omega⟩, ⟨by (with_reducible repeat (first | refine blk_drewN ?_ _ | refine blk_drew ?_ | refine blk_alloc ?_ _)); refine blk_far ?_ NB915_917.out _; (with_reducible repeat (first | refine blk_drewN ?_ _ | refine blk_drew ?_ | refine blk_alloc ?_ _)); refine blk_far ?_ NB915_917.out _; (with_reducible repeat (first | refine blk_drewN ?_ _ | refine blk_drew ?_ | refine blk_alloc ?_ _)); refine blk_far ?_ NB915_917.out _; (with_reducible repeat (first | refine blk_drewN ?_ _ | refine blk_drew ?_ | refine blk_alloc ?_ _)); refine blk_far ?_ NB915_917.out _; (with_reducible repeat (first | refine blk_drewN ?_ _ | refine blk_drew ?_ | refine blk_alloc ?_ _)); refine blk_far ?_ NB915_917.out _; (with_reducible repeat (first | refine blk_drewN ?_ _ | refine blk_drew ?_ | refine blk_alloc ?_ _)); refine blk_far ?_ NB915_917.out _; (with_reducible repeat (first | refine blk_drewN ?_ _ | refine blk_drew ?_ | refine blk_alloc ?_ _)); exact BK915.out⟩, ⟨zq29⟩⟩
   rw [if_pos c17] at H
   have c17b0 : (((rd_T31 l0 x7_2).f5) == ((rd_T31 l0 x11_1).f4)) = true := beq_iff_eq.mpr c17
   have c17b1 : (((rd_T31 l0 x7_2).f5) != ((rd_T31 l0 x11_1).f4)) = false := bne_eq_false_iff_eq.mpr c17
   clear c17
   simp only [Option.some.injEq, Prod.mk.injEq] at H
   obtain ⟨rfl, rfl, rfl⟩ := H
   have p916 : 0 ≤ (x7_2 : Int) := of_decide_eq_true zq5
   have q916 : x7_2 < (l0.length : Int) := of_decide_eq_true zq5
   obtain ⟨ad916, e916, hx916_0, hx916_1, hx916_2, hx916_3, hx916_4, hx916_5⟩ := at_T31 HR0.out x7_2 p916 q916
   obtain rfl : ad914 = ad916 := (by injection e916)
   replace hx916_0 := bx HB.out hx916_0
   replace hx916_1 := bx HB.out hx916_1
   replace hx916_2 := bx HB.out hx916_2
   replace hx916_3 := bx HB.out hx916_3
   replace hx916_4 := bx HB.out hx916_4
   replace hx916_5 := bx HB.out hx916_5
   replace p916 := eq_true p916
   replace q916 := eq_true q916
   go_wp2_with (first | ((with_reducible refine gate_dst (N := 8) rfl ?_); refine box_event ?hg (N := 8) ?hd (cs := #[.int .i64 0, .int .i64 0, .int .i64 0, .int .i64 0, .int .i64 0, .int .i64 0]) (t := 31) ?hr ?_; (case hd => rfl); (case hg => rfl); (case hr => exact zqS); intro gb917 hg w18 hbox hb; have n0_ := Aside0.mk (blk_below (g := gb915) (o := .cells #[.int .i64 ((rd_T31 l0 x11_1).f0), .int .i64 ((rd_T31 l0 x11_1).f1), .int .i64 ((rd_T31 l0 x11_1).f2), .int .i64 ((rd_T31 l0 x11_1).f3), .int .i64 ((rd_T31 l0 x11_1).f4), .int .i64 ((rd_T31 l0 x11_1).f5)] 31 (0, 0)) (zqK BK915.out) hb); have n1_ := Aside0.mk (below_step zq14 hb); have n2_ := Aside0.mk (hbox); have n3_ := Aside0.mk ((by rw [hg]; exact (below_size zq14) : w.heap.size ≤ gb917)); have n4_ := n3_; have n5_ := Aside0.mk ((by rw [hg]; exact Nat.ne_of_lt (blk_lt (g := gb915) (o := .cells #[.int .i64 ((rd_T31 l0 x11_1).f0), .int .i64 ((rd_T31 l0 x11_1).f1), .int .i64 ((rd_T31 l0 x11_1).f2), .int .i64 ((rd_T31 l0 x11_1).f3), .int .i64 ((rd_T31 l0 x11_1).f4), .int .i64 ((rd_T31 l0 x11_1).f5)] 31 (0, 0)) (zqK BK915.out)) : gb915 ≠ gb917)); have n6_ := Aside0.mk ((by rw [hg]; exact Nat.ne_of_gt (blk_lt (g := gb915) (o := .cells #[.int .i64 ((rd_T31 l0 x11_1).f0), .int .i64 ((rd_T31 l0 x11_1).f1), .int .i64 ((rd_T31 l0 x11_1).f2), .int .i64 ((rd_T31 l0 x11_1).f3), .int .i64 ((rd_T31 l0 x11_1).f4), .int .i64 ((rd_T31 l0 x11_1).f5)] 31 (0, 0)) (zqK BK915.out)) : gb917 ≠ gb915)); clear BK915; clear HB; have BK915 := n0_; have HB := n1_; have BK917 := n2_; have GW917 := n3_; have GE917 := n4_; have NB915_917 := n5_; have NB917_915 := n6_; clear n0_ n1_ n2_ n3_ n4_ n5_ n6_; clear hb hbox hg; have hnb19 := NB917_915.out; have hnc19 := NB915_917.out; obtain ⟨hcz20_0, hcz20_1, hcz20_2, hcz20_3, hcz20_4, hcz20_5, hfz20_0, hfz20_1, hfz20_2, hfz20_3, hfz20_4, hfz20_5⟩ := bz6 BK917.out; obtain ⟨hcz21_0, hcz21_1, hcz21_2, hcz21_3, hcz21_4, hcz21_5, hfz21_0, hfz21_1, hfz21_2, hfz21_3, hfz21_4, hfz21_5⟩ := bz6 BK915.out))
   go_ret3
   exact ⟨zqE, zq29⟩
end Go.Proofs.Ytklepiechbnenaa.Q
