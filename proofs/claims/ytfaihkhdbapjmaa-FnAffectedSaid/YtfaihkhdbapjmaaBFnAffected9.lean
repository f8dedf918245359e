/- Texts of this claim, put together: walks of the program's functions, and plain facts. -/
import Derived.Test.YtfaihkhdbapjmaaZFnAffected
import Derived.Test.YtfaihkhdbapjmaaBFnAffected0
import Derived.Test.YtfaihkhdbapjmaaBFnAffected3
import Derived.Test.YtfaihkhdbapjmaaBFnAffected8
namespace Go.Proofs.Ytfaihkhdbapjmaa.Q
open Go.RowKit Go.Proofs.YtfaihkhdbapjmaaW.PrintWords Go.Proofs.YtfaihkhdbapjmaaW.PrintLast Go.Proofs.YtfaihkhdbapjmaaW.PrintMore
attribute [local go_sem] max2_int min2_int max_two min_two max_three min_three max_four min_four
set_option linter.unusedVariables false
set_option linter.unusedSimpArgs false
def impl_areaValues.l0 : Nat → List Int → List Int → Int → Int → Int → Int → List Int → Option (List Int)
 | 0, _, _, _, _, _, _, _ => none
 | k + 1, x7, x13, x14, x15, x354000, x354001, x354002 => if x15 < x14 then (if 0 ≤ x15 then (if x15 < (x13.length : Int) then (if 0 ≤ (rd x13 x15) then (if (rd x13 x15) < (x354002.length : Int) then (if (rd x354002 (rd x13 x15)) = (-9999) then (impl_areaValues.l0 k x7 x13 x14 (wrap64 (x15 + 1)) x354000 x354001 x354002) else (if x7.length < 17592186044416 then (impl_areaValues.l0 k (x7 ++ [rd x354002 (rd x13 x15)]) x13 x14 (wrap64 (x15 + 1)) x354000 x354001 x354002) else (none))) else (none)) else (none)) else (none)) else (none)) else (some x7)
def impl_areaValues.f (k : Nat) (a0_0 : Int) (a0_1 : Int) (l0_2 : List Int) (a1 : Int) (a2_0 : Int) (a2_1 : Int) (l2_2 : List Int) : Option (List Int) := (impl_cellsOf.f k a0_0 a0_1 l0_2 a1).bind fun t354 => (impl_areaValues.l0 k ([] : List Int) t354 (t354.length : Int) 0 a2_0 a2_1 l2_2)
theorem impl_areaValues.mono_l : ∀ k, (∀ y0 y1 y2 y3 y4 y5 y6, LeO (impl_areaValues.l0 k y0 y1 y2 y3 y4 y5 y6) (impl_areaValues.l0 (k + 1) y0 y1 y2 y3 y4 y5 y6))
 | 0 => fun _ _ _ _ _ _ _ r h => by simp [impl_areaValues.l0] at h
 | k + 1 => by
  have ih0 := impl_areaValues.mono_l k
  ·
   intro y0 y1 y2 y3 y4 y5 y6
   unfold impl_areaValues.l0
   repeat' first
   | (with_reducible exact ih0 _ _ _ _ _ _ _)
   | (with_reducible exact impl_cellsOf.mono _ _ _ _ _)
   | (with_reducible exact LeO.refl _)
   | (with_reducible exact LeO.none _)
   | (with_reducible refine LeO.ite ?_ ?_)
   | (with_reducible refine LeO.bind ?_ (fun _ => ?_))
   | exact ih0 _ _ _ _ _ _ _
   | exact impl_cellsOf.mono _ _ _ _ _
   | exact LeO.none _
   | refine LeO.ite ?_ ?_
   | refine LeO.bind ?_ (fun _ => ?_)
theorem impl_areaValues.mono : ∀ a0 a1 a2 a3 a4 a5 a6 k, LeO (impl_areaValues.f k a0 a1 a2 a3 a4 a5 a6) (impl_areaValues.f (k + 1) a0 a1 a2 a3 a4 a5 a6) := by
 intro a0 a1 a2 a3 a4 a5 a6 k
 have ih0 := impl_areaValues.mono_l k
 unfold impl_areaValues.f
 repeat' first
   | (with_reducible exact ih0 _ _ _ _ _ _ _)
   | (with_reducible exact impl_cellsOf.mono _ _ _ _ _)
   | (with_reducible exact LeO.refl _)
   | (with_reducible exact LeO.none _)
   | (with_reducible refine LeO.ite ?_ ?_)
   | (with_reducible refine LeO.bind ?_ (fun _ => ?_))
   | exact ih0 _ _ _ _ _ _ _
   | exact impl_cellsOf.mono _ _ _ _ _
   | exact LeO.none _
   | refine LeO.ite ?_ ?_
   | refine LeO.bind ?_ (fun _ => ?_)
set_option maxHeartbeats 8000000 in
set_option maxRecDepth 100000 in
theorem impl_areaValues.calls (k : Nat) (a0_0 : Int) (a0_1 : Int) (A0_2 : Option Addr) (c0_2 : Nat) (l0_2 : List Int) (a1 : Int) (a2_0 : Int) (a2_1 : Int) (A2_2 : Option Addr) (c2_2 : Nat) (l2_2 : List Int) (r : List Int) (w : World) (hr0_2 : Kd.C (Kd.int .i64) w A0_2 l0_2.length l0_2) (hc0_2 : l0_2.length ≤ c0_2) (hr2_2 : Kd.C (Kd.int .i64) w A2_2 l2_2.length l2_2) (hc2_2 : l2_2.length ≤ c2_2) (h : impl_areaValues.f k a0_0 a0_1 l0_2 a1 a2_0 a2_1 l2_2 = some r) :
  Calls Try.prog 25 #[.agg #[.int .i64 a0_0, .int .i64 a0_1, .slice A0_2 l0_2.length c0_2], .int .i64 a1, .agg #[.int .i64 a2_0, .int .i64 a2_1, .slice A2_2 l2_2.length c2_2]] w fun e w' => ∃ v0_ : Value, e = .returned (v0_) ∧ Kd.R (Kd.int .i64) 3 w' w.heap.size (fun _ => True) v0_ r ∧ Below w.heap.size w w' := by
 have hu26 := Try.underlying26
 have hu27 := Try.underlying27
 have HR0_2 := zm hr0_2
 have HC0_2 := zm hc0_2
 clear hr0_2 hc0_2
 have HR2_2 := zm hr2_2
 have HC2_2 := zm hc2_2
 clear hr2_2 hc2_2
 have HB := zm (Below.refl w.heap.size w)
 have H : ((impl_cellsOf.f k a0_0 a0_1 l0_2 a1).bind fun t354 => (impl_areaValues.l0 k ([] : List Int) t354 (t354.length : Int) 0 a2_0 a2_1 l2_2)) = some r := h
 clear h
 obtain ⟨t354, A40, H⟩ := zob H
 replace H : (impl_areaValues.l0 k ([] : List Int) t354 (t354.length : Int) 0 a2_0 a2_1 l2_2) = some r := H
 have A4 := zm A40
 clear A40
 have H' := zm H
 clear H
 go_enter Try.func25, Try.ntmps25
 go_wp2_with (first | ((with_reducible refine gate_dst (N := 3) rfl ?_); refine box_event ?hg (N := 3) ?hd (cs := #[.int .i64 a0_0, .int .i64 a0_1, .slice A0_2 l0_2.length c0_2]) (t := 26) ?hr ?_; (case hd => rfl); (case hg => rfl); (case hr => exact zqS); intro gb352 hg w5 hbox hb; have BK352 := zm (hbox); have GW352 := zm ((by rw [hg]; exact (zyi zq1) : w.heap.size ≤ gb352)); replace HB := zm (zyh zq1 hb); have GE352 := GW352; clear hb hbox hg) | ((with_reducible refine gate_dst (N := 5) rfl ?_); refine box_event ?hg (N := 5) ?hd (cs := #[.int .i64 a2_0, .int .i64 a2_1, .slice A2_2 l2_2.length c2_2]) (t := 27) ?hr ?_; (case hd => rfl); (case hg => rfl); (case hr => exact zqS); intro gb353 hg w6 hbox hb; have BK353 := zm (hbox); have GW353 := zm ((by rw [hg]; exact (zyi zq109) : w.heap.size ≤ gb353)); replace HB := zm (zyh zq109 hb); have GE353 := GW353; have NB352_353 := zm ((by rw [hg]; exact Nat.ne_of_lt (blk_lt (g := gb352) (o := .cells #[.int .i64 a0_0, .int .i64 a0_1, .slice A0_2 l0_2.length c0_2] 26 (0, 0)) (zqK BK352.out)) : gb352 ≠ gb353)); have NB353_352 := zm ((by rw [hg]; exact Nat.ne_of_gt (blk_lt (g := gb352) (o := .cells #[.int .i64 a0_0, .int .i64 a0_1, .slice A0_2 l0_2.length c0_2] 26 (0, 0)) (zqK BK352.out)) : gb353 ≠ gb352)); replace BK352 := zm (zyb (g := gb352) (o := .cells #[.int .i64 a0_0, .int .i64 a0_1, .slice A0_2 l0_2.length c0_2] 26 (0, 0)) (zqK BK352.out) hb); clear hb hbox hg; have hnb7 := NB352_353.out; have hnc7 := NB353_352.out; have hcz8_0 := bz BK352.out 0 (.int .i64 a0_0); have hcz8_1 := bz BK352.out 1 (.int .i64 a0_1); have hcz8_2 := bz BK352.out 2 (.slice A0_2 l0_2.length c0_2); have hfz8_0 := zyF BK352.out 0; have hfz8_1 := zyF BK352.out 1; have hfz8_2 := zyF BK352.out 2) | ((with_reducible refine zyg (f := 48) rfl ?_); refine goesL_ (some 13) rfl rfl Try.func48 (by kernel_rfl) rfl #[.agg #[.int .i64 a0_0, .int .i64 a0_1, .slice A0_2 l0_2.length c0_2], .int .i64 a1] rfl zq0 ?_; (with_reducible refine (impl_cellsOf.calls k a0_0 a0_1 _ _ l0_2 a1 t354 _ ?side1 ?side2 A4.out).mono ?_); (case side1 => exact zqC (Kd.C_below HR0_2.out HB.out)); (case side2 => exact HC0_2.out); rintro e w9 ⟨v355, rfl, ho0, hb⟩; refine ⟨_, rfl, ?_⟩; have HO356 := zm (Kd.R_lower ho0 (zyi zq46)); replace BK352 := zm (zyb (g := gb352) (o := .cells #[.int .i64 a0_0, .int .i64 a0_1, .slice A0_2 l0_2.length c0_2] 26 (0, 0)) (zqK BK352.out) hb); replace BK353 := zm (zyb (g := gb353) (o := .cells #[.int .i64 a2_0, .int .i64 a2_1, .slice A2_2 l2_2.length c2_2] 27 (0, 0)) (zqK BK353.out) hb); replace HB := zm (zyh zq46 hb); (try clear hb); (try clear hb2); (try clear hk); (try clear hi); (try clear ho0); obtain ⟨Ao10, co10, eo10⟩ := Kd.R_slice HO356.out; subst eo10))
 go_loopg [7, 15] k (fun kq v7 v15 w' => ∃ (x7_1 : List Int) (x15_1 : Int), v15 = .int .i64 x15_1 ∧ Aside0 (impl_areaValues.l0 kq x7_1 t354 (t354.length : Int) x15_1 a2_0 a2_1 l2_2 = some r) ∧ Aside0 (kq ≤ k) ∧ Aside0 (Kd.R (Kd.int .i64) 3 w' w.heap.size (fun k_ => some k_ ≠ ((.slice Ao10 t354.length co10) : Value).ownBlock) v7 x7_1) ∧ Aside0 (Kd.R (Kd.int .i64) 3 w' w.heap.size (fun k_ => some k_ ≠ (v7 : Value).ownBlock) (.slice Ao10 t354.length co10) t354) ∧ Aside0 (w'.heap[gb352]? = some (.cells #[.int .i64 a0_0, .int .i64 a0_1, (.slice A0_2 l0_2.length c0_2)] 26 (0, 0))) ∧ Aside0 (w'.heap[gb353]? = some (.cells #[.int .i64 a2_0, .int .i64 a2_1, (.slice A2_2 l2_2.length c2_2)] 27 (0, 0))) ∧ Aside0 (Below w.heap.size w w'))
 case atStart => exact ⟨(([] : List Int)), (0), (by first | rfl | (simp; done) | (simp [*]; done)), H', ⟨Nat.le_refl _⟩, ⟨by first | exact Kd.R_nil _ _ _ _ _ | exact Kd.N_nil _ _ _ _ _ | exact Kd.V_nil _ _ _ _ _ | exact Kd.Q_nil _ _ _ _ _ | exact Kd.S_nil _ _ _ _ _⟩, ⟨by (with_reducible repeat (first | apply Kd.R_alloc | apply Kd.R_drewN | apply Kd.R_drew)); exact Kd.R_mono HO356.out (fun _ hk => (by simp [Value.ownBlock]))⟩, ⟨by (with_reducible repeat (first | apply zN | apply zD | apply zL)); exact BK352.out⟩, ⟨by (with_reducible repeat (first | apply zN | apply zD | apply zL)); exact BK353.out⟩, ⟨zq46⟩⟩
 clear H'
 try clear c2
 try clear p2
 try clear c4
 try clear c7
 try clear hcz8_0
 try clear hcz8_1
 try clear hcz8_2
 try clear hfz8_0
 try clear hfz8_1
 try clear hfz8_2
 obtain ⟨x7_1, x15_1, rfl, HA, HK1, HO_7, HO_13, BK352, BK353, HB⟩ := hrel
 cases gk with
 | zero => exact absurd HA.out (by simp [impl_areaValues.l0])
 | succ k1 =>
  have H := HA.out
  clear HA
  simp only [impl_areaValues.l0] at H
  by_cases c11 : x15_1 < (t354.length : Int)
  case neg =>
   rw [if_neg c11] at H
   have c11b0 : decide (x15_1 < (t354.length : Int)) = false := decide_eq_false c11
   clear c11
   obtain rfl := Option.some.inj H
   go_wp2
   go_ret
   exact ⟨_, by first | rfl | (simp [errW_none, errW_some] <;> rfl) | (simp [*, errW_none, errW_some] <;> rfl), by (with_reducible repeat (first | apply Kd.R_alloc | apply Kd.R_drewN | apply Kd.R_drew)); exact Kd.R_mono HO_7.out (fun _ hk => trivial), zq46⟩
  rw [if_pos c11] at H
  have c11b0 : decide (x15_1 < (t354.length : Int)) = true := decide_eq_true c11
  clear c11
  by_cases c12 : 0 ≤ x15_1
  case neg =>
   rw [if_neg c12] at H
   exact absurd H (by simp)
  rw [if_pos c12] at H
  have c12b0 : decide (0 ≤ x15_1) = true := decide_eq_true c12
  clear c12
  by_cases c13 : x15_1 < (t354.length : Int)
  case neg =>
   rw [if_neg c13] at H
   exact absurd H (by simp)
  rw [if_pos c13] at H
  have c13b0 : decide (x15_1 < (t354.length : Int)) = true := decide_eq_true c13
  clear c13
  by_cases c14 : 0 ≤ (rd t354 x15_1)
  case neg =>
   rw [if_neg c14] at H
   exact absurd H (by simp)
  rw [if_pos c14] at H
  have c14b0 : decide (0 ≤ (rd t354 x15_1)) = true := decide_eq_true c14
  clear c14
  by_cases c15 : (rd t354 x15_1) < (l2_2.length : Int)
  case neg =>
   rw [if_neg c15] at H
   exact absurd H (by simp)
  rw [if_pos c15] at H
  have c15b0 : decide ((rd t354 x15_1) < (l2_2.length : Int)) = true := decide_eq_true c15
  clear c15
  by_cases c16 : (rd l2_2 (rd t354 x15_1)) = (-9999)
  case pos =>
   rw [if_pos c16] at H
   have c16b0 : ((rd l2_2 (rd t354 x15_1)) == (-9999)) = true := beq_iff_eq.mpr c16
   have c16b1 : ((rd l2_2 (rd t354 x15_1)) != (-9999)) = false := bne_eq_false_iff_eq.mpr c16
   clear c16
   have H' := zm H
   clear H
   have p357 : 0 ≤ (x15_1 : Int) := of_decide_eq_true zq6
   have q357 : x15_1 < (t354.length : Int) := of_decide_eq_true zq6
   obtain ⟨ad357, e357, hx357_0⟩ := Kd.at_int (Kd.R_reads' HO_13.out).2.2 x15_1 p357 q357
   cases e357
   replace p357 := eq_true p357
   replace q357 := eq_true q357
   have hnb17 := NB353_352.out
   have hnc17 := NB352_353.out
   have hcz18_0 := bz BK353.out 0 (.int .i64 a2_0)
   have hcz18_1 := bz BK353.out 1 (.int .i64 a2_1)
   have hcz18_2 := bz BK353.out 2 (.slice A2_2 l2_2.length c2_2)
   have hfz18_0 := zyF BK353.out 0
   have hfz18_1 := zyF BK353.out 1
   have hfz18_2 := zyF BK353.out 2
   have p358 : 0 ≤ ((rd t354 x15_1) : Int) := of_decide_eq_true zq6
   have q358 : (rd t354 x15_1) < (l2_2.length : Int) := of_decide_eq_true zq6
   obtain ⟨ad358, e358, hx358_0⟩ := Kd.at_int HR2_2.out (rd t354 x15_1) p358 q358
   cases e358
   replace hx358_0 := bx HB.out hx358_0
   replace p358 := eq_true p358
   replace q358 := eq_true q358
   go_wp2
   go_roundg k1
   case measure => have := HK1.out; omega
   case rel => exact ⟨(x7_1), (wrap64 (x15_1 + 1)), (by first | rfl | (simp; done) | (simp [*]; done)), H', ⟨by have := HK1.out; omega⟩, ⟨zqR HO_7.out⟩, ⟨zqR HO_13.out⟩, ⟨by (with_reducible repeat (first | apply zN | apply zD | apply zL)); exact BK352.out⟩, ⟨by (with_reducible repeat (first | apply zN | apply zD | apply zL)); exact BK353.out⟩, ⟨zq46⟩⟩
  rw [if_neg c16] at H
  have c16b0 : ((rd l2_2 (rd t354 x15_1)) == (-9999)) = false := beq_eq_false_iff_ne.mpr c16
  have c16b1 : ((rd l2_2 (rd t354 x15_1)) != (-9999)) = true := bne_iff_ne.mpr c16
  by_cases c19 : x7_1.length < 17592186044416
  case neg =>
   rw [if_neg c19] at H
   exact absurd H (by simp)
  rw [if_pos c19] at H
  have LMc19 := zm c19
  clear c19
  obtain ⟨y359, hy359⟩ : ∃ y_ : List Int, y_ = (x7_1 ++ [rd l2_2 (rd t354 x15_1)]) := ⟨_, rfl⟩
  replace H : (impl_areaValues.l0 k1 y359 t354 (t354.length : Int) (wrap64 (x15_1 + 1)) a2_0 a2_1 l2_2) = some r := zqH hy359 H
  have Ny359 := zm hy359
  clear hy359
  have H' := zm H
  clear H
  have p357 : 0 ≤ (x15_1 : Int) := of_decide_eq_true zq6
  have q357 : x15_1 < (t354.length : Int) := of_decide_eq_true zq6
  obtain ⟨ad357, e357, hx357_0⟩ := Kd.at_int (Kd.R_reads' HO_13.out).2.2 x15_1 p357 q357
  cases e357
  replace p357 := eq_true p357
  replace q357 := eq_true q357
  have hnb20 := NB353_352.out
  have hnc20 := NB352_353.out
  have hcz21_0 := bz BK353.out 0 (.int .i64 a2_0)
  have hcz21_1 := bz BK353.out 1 (.int .i64 a2_1)
  have hcz21_2 := bz BK353.out 2 (.slice A2_2 l2_2.length c2_2)
  have hfz21_0 := zyF BK353.out 0
  have hfz21_1 := zyF BK353.out 1
  have hfz21_2 := zyF BK353.out 2
  have p358 : 0 ≤ ((rd t354 x15_1) : Int) := of_decide_eq_true zq6
  have q358 : (rd t354 x15_1) < (l2_2.length : Int) := of_decide_eq_true zq6
  obtain ⟨ad358, e358, hx358_0⟩ := Kd.at_int HR2_2.out (rd t354 x15_1) p358 q358
  cases e358
  replace hx358_0 := bx HB.out hx358_0
  replace p358 := eq_true p358
  replace q358 := eq_true q358
  go_wp2_with (first | ((with_reducible refine gate_builtin (b := .append) (xs := #[.tmp 26, .tmp 28]) rfl ?_); at_builtin; refine Kd.R_append (Kd.int .i64) (w0 := w) w.heap.size rfl (.tmp 26) (.tmp 28) 24 3 (.int .i64 0) 8 rfl Try.underlying24 info3 rfl (by decide) (by omega) u7 x7_1 (rd l2_2 (rd t354 x15_1)) [.int .i64 (rd l2_2 (rd t354 x15_1))] (fun k_ => some k_ ≠ (.slice (some ad357) t354.length co10 : Value).ownBlock) (fun _ => False) rfl rfl ?aP (fun _ hk => hk.elim) ?aF ?aO ?aB ?aS ?aL ?_; (case aP => exact rfl); (case aB => exact zq46); (case aF => exact (fun k_ hk => Kd.fresh' (Kd.R_lt (zqR HO_13.out)) k_ hk)); (case aO => exact (zqR HO_7.out)); (case aS => exact (zyi zq46)); (case aL => have := LMc19.out; omega); intro v360 w22 ho hb hg hat; rw [← Ny359.out] at ho; replace HO_13 := zm (Kd.R_after (ok := (fun _ => True)) (by (with_reducible repeat (first | apply Kd.R_alloc | apply Kd.R_drewN | apply Kd.R_drew)); exact Kd.R_mono HO_13.out (fun _ hk => ⟨trivial, hk⟩)) hg hat); replace BK352 := zm (blk_grown (g := gb352) (o := .cells #[.int .i64 a0_0, .int .i64 a0_1, .slice A0_2 l0_2.length c0_2] 26 (0, 0)) (zqK BK352.out) hg (Kd.R_ne HO_7.out BK352.out (by decide))); replace BK353 := zm (blk_grown (g := gb353) (o := .cells #[.int .i64 a2_0, .int .i64 a2_1, .slice (some ad358) l2_2.length c2_2] 27 (0, 0)) (zqK BK353.out) hg (Kd.R_ne HO_7.out BK353.out (by decide))); replace HB := zm (hb); have HO361 := zm (ho); clear HO_7; clear ho hb hg hat))
  go_roundg k1
  case measure => have := HK1.out; omega
  case rel => exact ⟨(y359), (wrap64 (x15_1 + 1)), (by first | rfl | (simp; done) | (simp [*]; done)), H', ⟨by have := HK1.out; omega⟩, ⟨zqR HO361.out⟩, ⟨by (with_reducible repeat (first | apply Kd.R_alloc | apply Kd.R_drewN | apply Kd.R_drew)); exact Kd.R_mono HO_13.out (fun _ hk => hk.2)⟩, ⟨by (with_reducible repeat (first | apply zN | apply zD | apply zL)); exact BK352.out⟩, ⟨by (with_reducible repeat (first | apply zN | apply zD | apply zL)); exact BK353.out⟩, ⟨zq46⟩⟩
def impl_countAtLeast.l0 : Nat → Int → Int → List Int → Int → Int → Option (Int)
 | 0, _, _, _, _, _ => none
 | k + 1, x1, x5, x8, x9, x10 => if x10 < x9 then (if 0 ≤ x10 then (if x10 < (x8.length : Int) then (if (rd x8 x10) ≥ x1 then (impl_countAtLeast.l0 k x1 (wrap64 (x5 + 1)) x8 x9 (wrap64 (x10 + 1))) else (impl_countAtLeast.l0 k x1 x5 x8 x9 (wrap64 (x10 + 1)))) else (none)) else (none)) else (some x5)
def impl_countAtLeast.f (k : Nat) (l0 : List Int) (a1 : Int) : Option (Int) := impl_countAtLeast.l0 k a1 0 l0 (l0.length : Int) 0
theorem impl_countAtLeast.mono_l : ∀ k, (∀ y0 y1 y2 y3 y4, LeO (impl_countAtLeast.l0 k y0 y1 y2 y3 y4) (impl_countAtLeast.l0 (k + 1) y0 y1 y2 y3 y4))
 | 0 => fun _ _ _ _ _ r h => by simp [impl_countAtLeast.l0] at h
 | k + 1 => by
  have ih0 := impl_countAtLeast.mono_l k
  ·
   intro y0 y1 y2 y3 y4
   unfold impl_countAtLeast.l0
   repeat' first
   | (with_reducible exact ih0 _ _ _ _ _)
   | (with_reducible exact LeO.refl _)
   | (with_reducible exact LeO.none _)
   | (with_reducible refine LeO.ite ?_ ?_)
   | (with_reducible refine LeO.bind ?_ (fun _ => ?_))
   | exact ih0 _ _ _ _ _
   | exact LeO.none _
   | refine LeO.ite ?_ ?_
   | refine LeO.bind ?_ (fun _ => ?_)
theorem impl_countAtLeast.mono : ∀ a0 a1 k, LeO (impl_countAtLeast.f k a0 a1) (impl_countAtLeast.f (k + 1) a0 a1) := by
 intro a0 a1 k
 have ih0 := impl_countAtLeast.mono_l k
 unfold impl_countAtLeast.f
 repeat' first
   | (with_reducible exact ih0 _ _ _ _ _)
   | (with_reducible exact LeO.refl _)
   | (with_reducible exact LeO.none _)
   | (with_reducible refine LeO.ite ?_ ?_)
   | (with_reducible refine LeO.bind ?_ (fun _ => ?_))
   | exact ih0 _ _ _ _ _
   | exact LeO.none _
   | refine LeO.ite ?_ ?_
   | refine LeO.bind ?_ (fun _ => ?_)
set_option maxHeartbeats 8000000 in
set_option maxRecDepth 100000 in
theorem impl_countAtLeast.calls (k : Nat) (A0 : Option Addr) (c0 : Nat) (l0 : List Int) (a1 : Int) (r : Int) (w : World) (hr0 : Kd.C (Kd.int .i64) w A0 l0.length l0) (hc0 : l0.length ≤ c0) (h : impl_countAtLeast.f k l0 a1 = some r) :
  Calls Try.prog 26 #[.slice A0 l0.length c0, .int .i64 a1] w fun e w' => e = .returned (.int .i64 r) ∧ Drawn0 w w' := by
 have HR0 := zm hr0
 have HC0 := zm hc0
 clear hr0 hc0
 have H : (impl_countAtLeast.l0 k a1 0 l0 (l0.length : Int) 0) = some r := h
 clear h
 have H' := zm H
 clear H
 go_enter Try.func26, Try.ntmps26
 go_wp2
 go_loopg [5, 10] k (fun kq v5 v10 w' => ∃ (x5_1 : Int) (x10_1 : Int), v5 = .int .i64 x5_1 ∧ v10 = .int .i64 x10_1 ∧ Aside0 (impl_countAtLeast.l0 kq a1 x5_1 l0 (l0.length : Int) x10_1 = some r) ∧ Aside0 (kq ≤ k) ∧ Drawn0 w w')
 case atStart => exact ⟨(0), (0), (by first | rfl | (simp; done) | (simp [*]; done)), (by first | rfl | (simp; done) | (simp [*]; done)), H', ⟨Nat.le_refl _⟩, zq28⟩
 clear H'
 try clear c2
 try clear p2
 obtain ⟨x5_1, x10_1, rfl, rfl, HA, HK1, ⟨m1, rfl⟩⟩ := hrel
 cases gk with
 | zero => exact absurd HA.out (by simp [impl_countAtLeast.l0])
 | succ k1 =>
  have H := HA.out
  clear HA
  simp only [impl_countAtLeast.l0] at H
  by_cases c3 : x10_1 < (l0.length : Int)
  case neg =>
   rw [if_neg c3] at H
   have c3b0 : decide (x10_1 < (l0.length : Int)) = false := decide_eq_false c3
   clear c3
   obtain rfl := Option.some.inj H
   go_wp2
   go_ret
   exact ⟨by first | rfl | (simp; done) | (simp [*]; done), zq28⟩
  rw [if_pos c3] at H
  have c3b0 : decide (x10_1 < (l0.length : Int)) = true := decide_eq_true c3
  clear c3
  by_cases c4 : 0 ≤ x10_1
  case neg =>
   rw [if_neg c4] at H
   exact absurd H (by simp)
  rw [if_pos c4] at H
  have c4b0 : decide (0 ≤ x10_1) = true := decide_eq_true c4
  clear c4
  by_cases c5 : x10_1 < (l0.length : Int)
  case neg =>
   rw [if_neg c5] at H
   exact absurd H (by simp)
  rw [if_pos c5] at H
  have c5b0 : decide (x10_1 < (l0.length : Int)) = true := decide_eq_true c5
  clear c5
  by_cases c6 : (rd l0 x10_1) ≥ a1
  case neg =>
   rw [if_neg c6] at H
   have c6b0 : decide (a1 ≤ (rd l0 x10_1)) = false := decide_eq_false c6
   clear c6
   have H' := zm H
   clear H
   have p362 : 0 ≤ (x10_1 : Int) := of_decide_eq_true zq6
   have q362 : x10_1 < (l0.length : Int) := of_decide_eq_true zq6
   obtain ⟨ad362, e362, hx362_0⟩ := Kd.at_int HR0.out x10_1 p362 q362
   cases e362
   replace p362 := eq_true p362
   replace q362 := eq_true q362
   go_wp2
   go_roundg k1
   case measure => have := HK1.out; omega
   case rel => exact ⟨(x5_1), (wrap64 (x10_1 + 1)), (by first | rfl | (simp; done) | (simp [*]; done)), (by first | rfl | (simp; done) | (simp [*]; done)), H', ⟨by have := HK1.out; omega⟩, zq28⟩
  rw [if_pos c6] at H
  have c6b0 : decide (a1 ≤ (rd l0 x10_1)) = true := decide_eq_true c6
  clear c6
  have H' := zm H
  clear H
  have p362 : 0 ≤ (x10_1 : Int) := of_decide_eq_true zq6
  have q362 : x10_1 < (l0.length : Int) := of_decide_eq_true zq6
  obtain ⟨ad362, e362, hx362_0⟩ := Kd.at_int HR0.out x10_1 p362 q362
  cases e362
  replace p362 := eq_true p362
  replace q362 := eq_true q362
  go_wp2
  go_roundg k1
  case measure => have := HK1.out; omega
  case rel => exact ⟨(wrap64 (x5_1 + 1)), (wrap64 (x10_1 + 1)), (by first | rfl | (simp; done) | (simp [*]; done)), (by first | rfl | (simp; done) | (simp [*]; done)), H', ⟨by have := HK1.out; omega⟩, zq28⟩
def impl_AffectedAreas.c.T2 : Bool × List (List Nat × List Nat) := (true, [([], []), ([0], [0]), ([1], [1]), ([2], [2]), ([3], [3]), ([3], [3]), ([4, 5, 3, 3], [3, 4, 5]), ([6, 3], [3, 6]), ([3], [3]), ([3], [3]), ([9, 3], [3, 9]), ([8, 10, 3], [3, 8, 10]), ([7, 11, 3], [3, 7, 11]), ([3, 12], [3, 12]), ([13, 6, 0, 1, 2, 3, 4, 5, 6, 7, 8, 9, 10, 11, 12, 13], [13])])
def impl_AffectedAreas.c.B2 : List Nat := [0, 1, 3, 7, 15, 15, 63, 127, 15, 15, 527, 1807, 4095, 8191, 16383]
theorem impl_AffectedAreas.c.tab2 : rtab .any (opsOf Try.f24 2) = impl_AffectedAreas.c.T2 := by kernel_rfl
theorem impl_AffectedAreas.c.bits2 : waitsOk impl_AffectedAreas.c.T2.2 impl_AffectedAreas.c.B2 = true := by kernel_rfl
def affP (k : Nat) (a0_0 a0_1 : Int) (l0_2 : List Int) (a1_0 a1_1 : Int) (l1_2 : List Int) (a2 a3 x : Int) : Option Bool :=
 (impl_areaValues.f k a0_0 a0_1 l0_2 x a1_0 a1_1 l1_2).bind fun v => if v.length = 0 then some true else (impl_countAtLeast.f k v a2).bind fun n => some (decide (wrap64 (100 * n) < wrap64 (a3 * (v.length : Int))))
def affL (p : Int → Option Bool) : List Int → Option (List Int)
 | [] => some []
 | x :: r => (p x).bind fun b => (affL p r).bind fun t => some (if b = true then t else x :: t)
theorem affL_some {p : Int → Option Bool} : ∀ {l r : List Int}, affL p l = some r → r = l.filter (fun x => !(p x == some true)) ∧ ∀ x, x ∈ l → p x = some (p x == some true)
 | [], r, h => by
  injection h with h
  subst h
  exact ⟨rfl, fun x hx => absurd hx (List.not_mem_nil)⟩
 | y :: l, r, h => by
  unfold affL at h
  obtain ⟨b, hb, h⟩ := Option.bind_eq_some_iff.1 h
  obtain ⟨t, ht, h⟩ := Option.bind_eq_some_iff.1 h
  injection h with h
  obtain ⟨e1, e2⟩ := affL_some ht
  have hpb : p y = some (p y == some true) := by rw [hb]; cases b <;> rfl
  refine ⟨?_, fun x hx => ?_⟩
  ·
   rw [List.filter_cons, ← h, hb]
   cases b
   ·
    simp [e1]
   ·
    simp [e1]
  ·
   rcases List.mem_cons.1 hx with rfl | hx
   ·
    exact hpb
   ·
    exact e2 x hx
def impl_AffectedAreas.f (k : Nat) (a0_0 a0_1 : Int) (l0_2 : List Int) (a1_0 a1_1 : Int) (l1_2 : List Int) (a2 a3 : Int) : Option (List Int × Bool) :=
 (impl_AreasOf.f k a0_0 a0_1 l0_2).bind fun t => if t.2 = true then ((impl_fitsMap.f a0_0 a0_1 l0_2 a1_0 a1_1 l1_2).bind fun b1 => if b1 = true then ((impl_within.f a2 (-9000) 9000).bind fun b2 => if b2 = true then ((impl_within.f a3 1 100).bind fun b3 => if b3 = true then ((affL (affP k a0_0 a0_1 l0_2 a1_0 a1_1 l1_2 a2 a3) t.1).bind fun l => some (l, true)) else some ([], false)) else some ([], false)) else some ([], false)) else some ([], false)
set_option maxHeartbeats 4000000 in
theorem impl_AffectedAreas.pred (k : Nat) (B0 B1 B2 B3 : Nat) (a0_0 a0_1 : Int) (A0 : Option Addr) (c0 : Nat) (l0 : List Int) (a1_0 a1_1 : Int) (A1 : Option Addr) (c1 : Nat) (l1 : List Int) (a2 a3 : Int) (W0 : World)
  (hB0 : W0.heap[B0]? = some (.cells #[.int .i64 a0_0, .int .i64 a0_1, .slice A0 l0.length c0] 26 (0, 0))) (hB1 : W0.heap[B1]? = some (.cells #[.int .i64 a1_0, .int .i64 a1_1, .slice A1 l1.length c1] 27 (0, 0)))
  (hB2 : W0.heap[B2]? = some (.cells #[.int .i64 a2] 3 (0, 0))) (hB3 : W0.heap[B3]? = some (.cells #[.int .i64 a3] 3 (0, 0)))
  (hr0 : Kd.C (Kd.int .i64) W0 A0 l0.length l0) (hc0 : l0.length ≤ c0) (hr1 : Kd.C (Kd.int .i64) W0 A1 l1.length l1) (hc1 : l1.length ≤ c1) :
  ∀ (W : World) (x : Int) (b : Bool), Below W0.heap.size W0 W → affP k a0_0 a0_1 l0 a1_0 a1_1 l1 a2 a3 x = some b → Calls Try.prog 24 (#[.int .i64 x] ++ #[.pointer (some ⟨B0, 0, none⟩), .pointer (some ⟨B1, 0, none⟩), .pointer (some ⟨B2, 0, none⟩), .pointer (some ⟨B3, 0, none⟩)]) W fun e w' => e = .returned (.bool b) ∧ Below W.heap.size W w' := by
 intro W x b hb h
 have hb0 := zyb hB0 hb
 have hb1 := zyb hB1 hb
 have hb2 := zyb hB2 hb
 have hb3 := zyb hB3 hb
 have HR0 := zm (Kd.C_below hr0 hb)
 have HR1 := zm (Kd.C_below hr1 hb)
 have HC0 := zm hc0
 have HC1 := zm hc1
 clear hB0 hB1 hB2 hB3 hr0 hr1 hc0 hc1 hb
 have d0 : W.cell? ⟨B0, 0, none⟩ = some (.int .i64 a0_0) := zyk hb0 0
 have d1 : W.cell? ⟨B0, 1, none⟩ = some (.int .i64 a0_1) := zyk hb0 1
 have d2 : W.cell? ⟨B0, 2, none⟩ = some (.slice A0 l0.length c0) := zyk hb0 2
 have f0 : W.cell? ⟨B1, 0, none⟩ = some (.int .i64 a1_0) := zyk hb1 0
 have f1 : W.cell? ⟨B1, 1, none⟩ = some (.int .i64 a1_1) := zyk hb1 1
 have f2 : W.cell? ⟨B1, 2, none⟩ = some (.slice A1 l1.length c1) := zyk hb1 2
 have HB2 := zm hb2
 have HB3 := zm hb3
 have hu := Try.underlying26
 have hu2 := Try.underlying27
 clear hb0 hb1 hb2 hb3
 show Calls Try.prog 24 #[.int .i64 x, .pointer (some ⟨B0, 0, none⟩), .pointer (some ⟨B1, 0, none⟩), .pointer (some ⟨B2, 0, none⟩), .pointer (some ⟨B3, 0, none⟩)] W _
 unfold affP at h
 obtain ⟨v, hv, h⟩ := Option.bind_eq_some_iff.1 h
 have HV := zm hv
 clear hv
 split at h
 ·
  rename_i hz
  have hbt : true = b := Option.some.inj h
  subst hbt
  have hz1 : ((v.length : Int) == 0) = true := by rw [hz]; rfl
  have hz2 : decide ((v.length : Int) = 0) = true := by rw [hz]; rfl
  clear hz h
  go_enter Try.func24, Try.ntmps24
  go_wp2_with fail
  refine (impl_areaValues.calls k a0_0 a0_1 A0 c0 l0 x a1_0 a1_1 A1 c1 l1 v _ HR0.out HC0.out HR1.out HC1.out HV.out).mono ?_
  rintro e wv ⟨u1, rfl, ho1, hw1⟩
  obtain ⟨A, c, rfl, hc, hC⟩ := Kd.R_reads ho1
  have g2 : wv.cell? ⟨B2, 0, none⟩ = some (.int .i64 a2) := zyk (zyb HB2.out hw1) 0
  have g3 : wv.cell? ⟨B3, 0, none⟩ = some (.int .i64 a3) := zyk (zyb HB3.out hw1) 0
  have HB := zm hw1.drew
  clear ho1 hw1 d0 d1 d2 f0 f1 f2
  go_wp2_with fail
  refine start_ (n := 15) (S := fun w' => w'.cell? ⟨B2, 0, none⟩ = some (.int .i64 a2) ∧ w'.cell? ⟨B3, 0, none⟩ = some (.int .i64 a3)) (ds := []) #[zf, zf, zf, zf, zf, zf, zf, zf, zf, zf, zf, zf, zf, zf, zf] (by kernel_rfl) rfl rfl ⟨(show wv.drew.cell? ⟨B2, 0, none⟩ = some (.int .i64 a2) from g2), (show wv.drew.cell? ⟨B3, 0, none⟩ = some (.int .i64 a3) from g3)⟩ (fun hHeld => ?_)
  refine with_tabW impl_AffectedAreas.c.tab2 impl_AffectedAreas.c.bits2 (fun HT_ HW_ => ?_)
  generalize wv.drew = w1 at HB hHeld ⊢
  refine zP 0 (some 12) #[zt, zf, zf, zf, zf, zf, zf, zf, zf, zf, zf, zf, zf, zf, zf] ?_ rfl rfl HT_ (Or.inl ⟨by rfl, ?_⟩) ?_ ?_ ?_
  rotate_left; · exact zqB
  rotate_left; · exact zqA
  refine zP 1 (some 13) #[zt, zt, zf, zf, zf, zf, zf, zf, zf, zf, zf, zf, zf, zf, zf] ?_ rfl rfl HT_ (Or.inl ⟨by rfl, ?_⟩) ?_ ?_ ?_
  rotate_left; · exact zqB
  rotate_left; · exact zqA
  refine zP 2 (some 14) #[zt, zt, zt, zf, zf, zf, zf, zf, zf, zf, zf, zf, zf, zf, zf] ?_ rfl rfl HT_ (Or.inl ⟨by rfl, ?_⟩) ?_ ?_ ?_
  rotate_left; · exact zqB
  rotate_left; · exact zqA
  refine zP 3 (some 15) #[zt, zt, zt, zt, zf, zf, zf, zf, zf, zf, zf, zf, zf, zf, zf] ?_ rfl rfl HT_ (Or.inl ⟨by rfl, ?_⟩) ?_ ?_ ?_
  rotate_left; · exact zqB
  rotate_left; · exact zqA
  refine pure_ (i := 4) (N := some 16) (v := undef) (a' := ?_) #[zt, zt, zt, zt, zt, zf, zf, zf, zf, zf, zf, zf, zf, zf, zf] rfl rfl (any_of HT_.out (by kernel_rfl)) (fun _ _ _ h => h) (Or.inr ⟨by rfl, rfl⟩) ?_ ?_
  rotate_left; · exact zqA
  refine pure_ (i := 5) (N := some 17) (v := undef) (a' := ?_) #[zt, zt, zt, zt, zt, zt, zf, zf, zf, zf, zf, zf, zf, zf, zf] rfl rfl (any_of HT_.out (by kernel_rfl)) (fun _ _ _ h => h) (Or.inr ⟨by rfl, rfl⟩) ?_ ?_
  rotate_left; · exact zqA
  refine pure_ (i := 6) (N := some 18) (v := undef) (a' := ?_) #[zt, zt, zt, zt, zt, zt, zt, zf, zf, zf, zf, zf, zf, zf, zf] rfl rfl (any_of HT_.out (by kernel_rfl)) (fun _ _ _ h => h) (Or.inr ⟨by rfl, rfl⟩) ?_ ?_
  rotate_left; · exact zqA
  refine pure_ (i := 7) (N := some 19) (v := undef) (a' := ?_) #[zt, zt, zt, zt, zt, zt, zt, zt, zf, zf, zf, zf, zf, zf, zf] rfl rfl (any_of HT_.out (by kernel_rfl)) (fun _ _ _ h => h) (Or.inr ⟨by rfl, rfl⟩) ?_ ?_
  rotate_left; · exact zqA
  refine pure_ (i := 8) (N := some 20) (v := undef) (a' := ?_) #[zt, zt, zt, zt, zt, zt, zt, zt, zt, zf, zf, zf, zf, zf, zf] rfl rfl (any_of HT_.out (by kernel_rfl)) (fun _ _ _ h => h) (Or.inr ⟨by rfl, rfl⟩) ?_ ?_
  rotate_left; · exact zqA
  refine pure_ (i := 9) (N := some 21) (v := undef) (a' := ?_) #[zt, zt, zt, zt, zt, zt, zt, zt, zt, zt, zf, zf, zf, zf, zf] rfl rfl (any_of HT_.out (by kernel_rfl)) (fun _ _ _ h => h) (Or.inr ⟨by rfl, rfl⟩) ?_ ?_
  rotate_left; · exact zqA
  refine pure_ (i := 10) (N := some 22) (v := undef) (a' := ?_) #[zt, zt, zt, zt, zt, zt, zt, zt, zt, zt, zt, zf, zf, zf, zf] rfl rfl (any_of HT_.out (by kernel_rfl)) (fun _ _ _ h => h) (Or.inr ⟨by rfl, rfl⟩) ?_ ?_
  rotate_left; · exact zqA
  refine pure_ (i := 11) (N := some 23) (v := undef) (a' := ?_) #[zt, zt, zt, zt, zt, zt, zt, zt, zt, zt, zt, zt, zf, zf, zf] rfl rfl (any_of HT_.out (by kernel_rfl)) (fun _ _ _ h => h) (Or.inr ⟨by rfl, rfl⟩) ?_ ?_
  rotate_left; · exact zqA
  refine pure_ (i := 12) (N := some 24) (v := undef) (a' := ?_) #[zt, zt, zt, zt, zt, zt, zt, zt, zt, zt, zt, zt, zt, zf, zf] rfl rfl (any_of HT_.out (by kernel_rfl)) (fun _ _ _ h => h) (Or.inr ⟨by rfl, rfl⟩) ?_ ?_
  rotate_left; · exact zqA
  refine zP 13 (some 25) #[zt, zt, zt, zt, zt, zt, zt, zt, zt, zt, zt, zt, zt, zt, zf] ?_ rfl rfl HT_ (Or.inl ⟨by rfl, ?_⟩) ?_ ?_ ?_
  rotate_left; · exact zqB
  rotate_left; · exact zqA
  refine zP 14 (some 6) #[zt, zt, zt, zt, zt, zt, zt, zt, zt, zt, zt, zt, zt, zt, zt] ?_ rfl rfl HT_ (Or.inl ⟨by rfl, ?_⟩) ?_ ?_ ?_
  rotate_left; · exact zqB
  rotate_left; · exact zqA
  refine done_ (done_of HT_.out (by kernel_rfl)) ?_
  go_wp2
  go_ret
  exact ⟨rfl, HB.out⟩
 ·
  rename_i hz
  obtain ⟨n, hn, h⟩ := Option.bind_eq_some_iff.1 h
  have hbt := Option.some.inj h
  have HN := zm hn
  have HBT := zm hbt
  have hz1 : ((v.length : Int) == 0) = false := beq_eq_false_iff_ne.2 (by omega)
  have hz2 : decide ((v.length : Int) = 0) = false := decide_eq_false (by omega)
  clear hz h hn hbt
  go_enter Try.func24, Try.ntmps24
  go_wp2_with fail
  refine (impl_areaValues.calls k a0_0 a0_1 A0 c0 l0 x a1_0 a1_1 A1 c1 l1 v _ HR0.out HC0.out HR1.out HC1.out HV.out).mono ?_
  rintro e wv ⟨u1, rfl, ho1, hw1⟩
  obtain ⟨A, c, rfl, hc, hC⟩ := Kd.R_reads ho1
  have g2 : wv.cell? ⟨B2, 0, none⟩ = some (.int .i64 a2) := zyk (zyb HB2.out hw1) 0
  have g3 : wv.cell? ⟨B3, 0, none⟩ = some (.int .i64 a3) := zyk (zyb HB3.out hw1) 0
  have HB := zm hw1.drew
  have HWd := zm (Kd.C_drew hC)
  clear ho1 hw1 d0 d1 d2 f0 f1 f2 hC
  go_wp2_with fail
  refine start_ (n := 15) (S := fun w' => w'.cell? ⟨B2, 0, none⟩ = some (.int .i64 a2) ∧ w'.cell? ⟨B3, 0, none⟩ = some (.int .i64 a3)) (ds := []) #[zf, zf, zf, zf, zf, zf, zf, zf, zf, zf, zf, zf, zf, zf, zf] (by kernel_rfl) rfl rfl ⟨(show wv.drew.cell? ⟨B2, 0, none⟩ = some (.int .i64 a2) from g2), (show wv.drew.cell? ⟨B3, 0, none⟩ = some (.int .i64 a3) from g3)⟩ (fun hHeld => ?_)
  refine with_tabW impl_AffectedAreas.c.tab2 impl_AffectedAreas.c.bits2 (fun HT_ HW_ => ?_)
  generalize wv.drew = w1 at HB HWd hHeld ⊢
  refine zP 0 (some 12) #[zt, zf, zf, zf, zf, zf, zf, zf, zf, zf, zf, zf, zf, zf, zf] ?_ rfl rfl HT_ (Or.inl ⟨by rfl, ?_⟩) ?_ ?_ ?_
  rotate_left; · exact zqB
  rotate_left; · exact zqA
  refine zP 1 (some 13) #[zt, zt, zf, zf, zf, zf, zf, zf, zf, zf, zf, zf, zf, zf, zf] ?_ rfl rfl HT_ (Or.inl ⟨by rfl, ?_⟩) ?_ ?_ ?_
  rotate_left; · exact zqB
  rotate_left; · exact zqA
  refine zP 2 (some 14) #[zt, zt, zt, zf, zf, zf, zf, zf, zf, zf, zf, zf, zf, zf, zf] ?_ rfl rfl HT_ (Or.inl ⟨by rfl, ?_⟩) ?_ ?_ ?_
  rotate_left; · exact zqB
  rotate_left; · exact zqA
  refine zP 3 (some 15) #[zt, zt, zt, zt, zf, zf, zf, zf, zf, zf, zf, zf, zf, zf, zf] ?_ rfl rfl HT_ (Or.inl ⟨by rfl, ?_⟩) ?_ ?_ ?_
  rotate_left; · exact zqB
  rotate_left; · exact zqA
  refine zP 4 (some 16) #[zt, zt, zt, zt, zt, zf, zf, zf, zf, zf, zf, zf, zf, zf, zf] ?_ rfl rfl HT_ (Or.inl ⟨by rfl, ?_⟩) ?_ ?_ ?_
  rotate_left; · exact zqB
  rotate_left; · exact zqA
  refine zP 9 (some 21) #[zt, zt, zt, zt, zt, zf, zf, zf, zf, zt, zf, zf, zf, zf, zf] ?_ rfl rfl HT_ (Or.inl ⟨by rfl, ?_⟩) ?_ ?_ ?_
  rotate_left; · exact zqB
  rotate_left; · exact zqA
  refine zP 10 (some 22) #[zt, zt, zt, zt, zt, zf, zf, zf, zf, zt, zt, zf, zf, zf, zf] ?_ rfl rfl HT_ (Or.inl ⟨by rfl, ?_⟩) ?_ ?_ ?_
  rotate_left; · exact zqB
  rotate_left; · exact zqA
  refine zT 5 (some 17) #[zt, zt, zt, zt, zt, zt, zf, zf, zf, zt, zt, zf, zf, zf, zf] ?_ rfl rfl HT_ HW_ (Or.inl ⟨by rfl, ?_⟩) hHeld ?_ ?_ ?_
  rotate_left
  ·
   rintro w' ⟨s0, s1⟩
   go_simp
   with_reducible rfl
  rotate_left; · exact zqA
  refine zT 8 (some 20) #[zt, zt, zt, zt, zt, zt, zf, zf, zt, zt, zt, zf, zf, zf, zf] ?_ rfl rfl HT_ HW_ (Or.inl ⟨by rfl, ?_⟩) hHeld ?_ ?_ ?_
  rotate_left
  ·
   rintro w' ⟨s0, s1⟩
   go_simp
   with_reducible rfl
  rotate_left; · exact zqA
  refine zP 11 (some 23) #[zt, zt, zt, zt, zt, zt, zf, zf, zt, zt, zt, zt, zf, zf, zf] ?_ rfl rfl HT_ (Or.inl ⟨by rfl, ?_⟩) ?_ ?_ ?_
  rotate_left; · exact zqB
  rotate_left; · exact zqA
  refine one_ (i := 6) (N := some 18) #[zt, zt, zt, zt, zt, zt, zt, zf, zt, zt, zt, zt, zf, zf, zf] rfl rfl (one_of HT_.out (by kernel_rfl)) (by decide) (fun K hK => ?_)
  refine goes_ Try.func26 (by kernel_rfl) rfl #[.slice A v.length c, .int .i64 a2] (by rfl) rfl rfl (by (try simp only [List.map_toArray, List.map_cons, List.map_nil]); first | done | rfl) ?_
  refine (impl_countAtLeast.calls k A c v a2 n _ HWd.out hc HN.out).mono ?_
  rintro e w2 ⟨rfl, hb⟩
  replace hb := hb.below
  refine ⟨_, rfl, ?_⟩
  obtain ⟨s0, s1⟩ := hHeld
  have HB_ := zm (HB.out.trans (hb.mono HB.out.size))
  clear HB
  have HB := HB_
  clear HB_
  refine hK.out _ _ ⟨(hb.cell (World.block_lt_of_cell? _ _ s0)).trans s0, (hb.cell (World.block_lt_of_cell? _ _ s1)).trans s1⟩ (fun hHeld => ?_)
  clear hK K hb s0 s1
  refine norm_ (a' := ?_) ?_ ?_
  rotate_left
  ·
   show Act.put _ (some 18) _ = _
   simp only [Act.put, List.setIfInBounds_toArray, List.set_cons_zero, List.set_cons_succ, i64_w, i32_w]
   rfl
  refine zP 7 (some 19) #[zt, zt, zt, zt, zt, zt, zt, zt, zt, zt, zt, zt, zf, zf, zf] ?_ rfl rfl HT_ (Or.inl ⟨by rfl, ?_⟩) ?_ ?_ ?_
  rotate_left; · exact zqB
  rotate_left; · exact zqA
  refine zP 12 (some 24) #[zt, zt, zt, zt, zt, zt, zt, zt, zt, zt, zt, zt, zt, zf, zf] ?_ rfl rfl HT_ (Or.inl ⟨by rfl, ?_⟩) ?_ ?_ ?_
  rotate_left; · exact zqB
  rotate_left; · exact zqA
  refine zP 13 (some 25) #[zt, zt, zt, zt, zt, zt, zt, zt, zt, zt, zt, zt, zt, zt, zf] ?_ rfl rfl HT_ (Or.inl ⟨by rfl, ?_⟩) ?_ ?_ ?_
  rotate_left; · exact zqB
  rotate_left; · exact zqA
  refine zP 14 (some 6) #[zt, zt, zt, zt, zt, zt, zt, zt, zt, zt, zt, zt, zt, zt, zt] ?_ rfl rfl HT_ (Or.inl ⟨by rfl, ?_⟩) ?_ ?_ ?_
  rotate_left; · exact zqB
  rotate_left; · exact zqA
  refine done_ (done_of HT_.out (by kernel_rfl)) ?_
  go_wp2
  go_ret
  exact ⟨by first | (rw [← HBT.out]; rfl) | rw [← HBT.out], HB.out⟩
set_option maxHeartbeats 4000000 in
theorem impl_AffectedAreas.calls (k : Nat) (a0_0 : Int) (a0_1 : Int) (A0_2 : Option Addr) (c0_2 : Nat) (l0_2 : List Int) (a1_0 : Int) (a1_1 : Int) (A1_2 : Option Addr) (c1_2 : Nat) (l1_2 : List Int) (a2 a3 : Int) (r1 : List Int) (r2 : Bool) (w : World) (hr0_2 : Kd.C (Kd.int .i64) w A0_2 l0_2.length l0_2) (hc0_2 : l0_2.length ≤ c0_2) (hr1_2 : Kd.C (Kd.int .i64) w A1_2 l1_2.length l1_2) (hc1_2 : l1_2.length ≤ c1_2) (h : impl_AffectedAreas.f k a0_0 a0_1 l0_2 a1_0 a1_1 l1_2 a2 a3 = some (r1, r2)) :
  Calls Try.prog 6 #[.agg #[.int .i64 a0_0, .int .i64 a0_1, .slice A0_2 l0_2.length c0_2], .agg #[.int .i64 a1_0, .int .i64 a1_1, .slice A1_2 l1_2.length c1_2], .int .i64 a2, .int .i64 a3] w fun e w' => ∃ v0_ : Value, e = .returned (.tuple #[v0_, .bool r2]) ∧ Kd.R (Kd.int .i64) 3 w' w.heap.size (fun _ => True) v0_ r1 ∧ Below w.heap.size w w' := by
 have hu := Try.underlying26
 have hu2 := Try.underlying27
 have eg : ∀ args w, (callFunc 24 args).run Try.prog w = .ok (.enter 24 args) w := enters_of Try.func24 (by kernel_rfl) rfl
 have EG := zm eg
 clear eg
 obtain ⟨O0, hO0⟩ : ∃ O, O = Obj.cells #[.int .i64 a0_0, .int .i64 a0_1, .slice A0_2 l0_2.length c0_2] 26 (0, 0) := ⟨_, rfl⟩
 obtain ⟨O1, hO1⟩ : ∃ O, O = Obj.cells #[.int .i64 a1_0, .int .i64 a1_1, .slice A1_2 l1_2.length c1_2] 27 (0, 0) := ⟨_, rfl⟩
 obtain ⟨W1, hW1⟩ : ∃ W1, W1 = (((w.alloc (.cells #[.int .i64 a0_0, .int .i64 a0_1, .slice A0_2 l0_2.length c0_2] 26)).alloc (.cells #[.int .i64 a1_0, .int .i64 a1_1, .slice A1_2 l1_2.length c1_2] 27)).alloc (.cells #[.int .i64 a2] 3)).alloc (.cells #[.int .i64 a3] 3) := ⟨_, rfl⟩
 have a1B : Below w.heap.size w W1 := by rw [hW1]; exact zya (zya (zya (zya (Below.refl _ w) _) _) _) _
 have n0 : W1.heap[w.heap.size]? = some (.cells #[.int .i64 a0_0, .int .i64 a0_1, .slice A0_2 l0_2.length c0_2] 26 (0, 0)) := by rw [hW1]; exact zL (zL (zL (blk_new w _) _) _) _
 have n1 : W1.heap[w.heap.size + 1]? = some (.cells #[.int .i64 a1_0, .int .i64 a1_1, .slice A1_2 l1_2.length c1_2] 27 (0, 0)) := by rw [hW1]; have := zL (zL (blk_new (w.alloc (.cells #[.int .i64 a0_0, .int .i64 a0_1, .slice A0_2 l0_2.length c0_2] 26)) (.cells #[.int .i64 a1_0, .int .i64 a1_1, .slice A1_2 l1_2.length c1_2] 27)) (.cells #[.int .i64 a2] 3)) (.cells #[.int .i64 a3] 3); simpa using this
 have n2 : W1.heap[w.heap.size + 1 + 1]? = some (.cells #[.int .i64 a2] 3 (0, 0)) := by rw [hW1]; have := zL (blk_new ((w.alloc (.cells #[.int .i64 a0_0, .int .i64 a0_1, .slice A0_2 l0_2.length c0_2] 26)).alloc (.cells #[.int .i64 a1_0, .int .i64 a1_1, .slice A1_2 l1_2.length c1_2] 27)) (.cells #[.int .i64 a2] 3)) (.cells #[.int .i64 a3] 3); simpa using this
 have n3 : W1.heap[w.heap.size + 1 + 1 + 1]? = some (.cells #[.int .i64 a3] 3 (0, 0)) := by rw [hW1]; have := (blk_new (((w.alloc (.cells #[.int .i64 a0_0, .int .i64 a0_1, .slice A0_2 l0_2.length c0_2] 26)).alloc (.cells #[.int .i64 a1_0, .int .i64 a1_1, .slice A1_2 l1_2.length c1_2] 27)).alloc (.cells #[.int .i64 a2] 3)) (.cells #[.int .i64 a3] 3)); simpa using this
 have HW := zm hW1
 have HBW := zm a1B
 have N0 := zm n0
 have N1 := zm n1
 have N2 := zm n2
 have N3 := zm n3
 have HR0 := zm (Kd.C_below hr0_2 a1B)
 have HR1 := zm (Kd.C_below hr1_2 a1B)
 have HC0 := zm hc0_2
 have HC1 := zm hc1_2
 clear hr0_2 hr1_2 hc0_2 hc1_2 n0 n1 n2 n3 a1B hW1
 unfold impl_AffectedAreas.f at h
 obtain ⟨⟨t1, t2⟩, ht, h⟩ := Option.bind_eq_some_iff.1 h
 have HT := zm ht
 clear ht
 cases t2 with
 | false =>
  rw [if_neg (by simp)] at h
  injection h with h
  injection h with h1 h2
  subst h1 h2
  go_enter Try.func6, Try.ntmps6
  go_wp2_with fail
  rw [← HW.out]
  refine (impl_AreasOf.calls k a0_0 a0_1 A0_2 c0_2 l0_2 t1 false _ HR0.out HC0.out HT.out).mono ?_
  rintro e w1 ⟨v1, rfl, ho1, hb1⟩
  obtain ⟨A, c, rfl, hc, hC⟩ := Kd.R_reads ho1
  go_wp2
  go_ret2
  exact ⟨_, rfl, Kd.R_nil _ _ _ _ _, zyh HBW.out hb1⟩
 | true =>
  rw [if_pos rfl] at h
  obtain ⟨b1, hb1, h⟩ := Option.bind_eq_some_iff.1 h
  have HF := zm hb1
  have HH := zm h
  clear hb1 h
  go_enter Try.func6, Try.ntmps6
  go_wp2_with fail
  rw [← HW.out]
  refine (impl_AreasOf.calls k a0_0 a0_1 A0_2 c0_2 l0_2 t1 true _ HR0.out HC0.out HT.out).mono ?_
  rintro e wv ⟨v1, rfl, ho1, hw1⟩
  obtain ⟨A, c, rfl, hc, hC⟩ := Kd.R_reads ho1
  have HO1 := zm (Kd.R_mono (Kd.R_bound ho1) (ok' := fun q => W1.heap.size ≤ q) (fun q hq => hq.2.1))
  have HB1 := zm hw1
  have d0 : wv.cell? ⟨w.heap.size, 0, none⟩ = some (.int .i64 a0_0) := zyk (zyb N0.out hw1) 0
  have d1 : wv.cell? ⟨w.heap.size, 1, none⟩ = some (.int .i64 a0_1) := zyk (zyb N0.out hw1) 1
  have d2 : wv.cell? ⟨w.heap.size, 2, none⟩ = some (.slice A0_2 l0_2.length c0_2) := zyk (zyb N0.out hw1) 2
  have f0 : wv.cell? ⟨w.heap.size + 1, 0, none⟩ = some (.int .i64 a1_0) := zyk (zyb N1.out hw1) 0
  have f1 : wv.cell? ⟨w.heap.size + 1, 1, none⟩ = some (.int .i64 a1_1) := zyk (zyb N1.out hw1) 1
  have f2 : wv.cell? ⟨w.heap.size + 1, 2, none⟩ = some (.slice A1_2 l1_2.length c1_2) := zyk (zyb N1.out hw1) 2
  clear ho1 hw1 hC hc
  go_wp2_with fail
  refine (impl_fitsMap.calls a0_0 a0_1 A0_2 c0_2 l0_2 a1_0 a1_1 A1_2 c1_2 l1_2 b1 _ (Kd.C_below HR0.out HB1.out) HC0.out (Kd.C_below HR1.out HB1.out) HC1.out HF.out).mono ?_
  rintro e wf ⟨rfl, hb⟩
  try replace hb := hb.below
  have HO2 := zm (Kd.R_below HO1.out hb)
  have HB2 := zm (zyh HB1.out hb)
  have e2 : wf.cell? ⟨w.heap.size + 1 + 1, 0, none⟩ = some (.int .i64 a2) := zyk (zyb N2.out HB2.out) 0
  clear hb d0 d1 d2 f0 f1 f2
  cases b1 with
  | false =>
   have h := HH.out
   rw [if_neg (by simp)] at h
   injection h with h
   injection h with h1 h2
   subst h1 h2
   go_wp2
   go_ret2
   exact ⟨_, rfl, Kd.R_nil _ _ _ _ _, zyh HBW.out HB2.out⟩
  | true =>
   obtain ⟨b2, hb2, h⟩ := Option.bind_eq_some_iff.1 ((if_pos rfl).symm.trans HH.out)
   have HF2 := zm hb2
   have HH2 := zm h
   clear hb2 h
   go_wp2_with fail
   refine (impl_within.calls a2 (-9000) 9000 b2 _ HF2.out).mono ?_
   rintro e wg ⟨rfl, hb⟩
   try replace hb := hb.below
   have HO3 := zm (Kd.R_below HO2.out hb)
   have HB3 := zm (zyh HB2.out hb)
   have e3 : wg.cell? ⟨w.heap.size + 1 + 1 + 1, 0, none⟩ = some (.int .i64 a3) := zyk (zyb N3.out HB3.out) 0
   clear hb e2
   cases b2 with
   | false =>
    have h := HH2.out
    rw [if_neg (by simp)] at h
    injection h with h
    injection h with h1 h2
    subst h1 h2
    go_wp2
    go_ret2
    exact ⟨_, rfl, Kd.R_nil _ _ _ _ _, zyh HBW.out HB3.out⟩
   | true =>
    obtain ⟨b3, hb3, h⟩ := Option.bind_eq_some_iff.1 ((if_pos rfl).symm.trans HH2.out)
    have HF3 := zm hb3
    have HH3 := zm h
    clear hb3 h
    go_wp2_with fail
    refine (impl_within.calls a3 1 100 b3 _ HF3.out).mono ?_
    rintro e wh ⟨rfl, hb⟩
    try replace hb := hb.below
    have HO4 := zm (Kd.R_below HO3.out hb)
    have HB4 := zm (zyh HB3.out hb)
    clear hb e3
    cases b3 with
    | false =>
     have h := HH3.out
     rw [if_neg (by simp)] at h
     injection h with h
     injection h with h1 h2
     subst h1 h2
     go_wp2
     go_ret2
     exact ⟨_, rfl, Kd.R_nil _ _ _ _ _, zyh HBW.out HB4.out⟩
    | true =>
     obtain ⟨l, hl, h⟩ := Option.bind_eq_some_iff.1 ((if_pos rfl).symm.trans HH3.out)
     injection h with h
     injection h with h1 h2
     subst h1 h2
     obtain ⟨el, hall⟩ := affL_some hl
     subst el
     have HA := zm hall
     clear hl hall
     go_wp2_with fail
     refine (DeleteFuncI.calls 24 #[.pointer (some ⟨w.heap.size, 0, none⟩), .pointer (some ⟨w.heap.size + 1, 0, none⟩), .pointer (some ⟨w.heap.size + 1 + 1, 0, none⟩), .pointer (some ⟨w.heap.size + 1 + 1 + 1, 0, none⟩)] (fun x => affP k a0_0 a0_1 l0_2 a1_0 a1_1 l1_2 a2 a3 x == some true) EG.out (fun q => W1.heap.size ≤ q) (.slice A t1.length c) t1 W1 _ HB4.out HO4.out ?hp).mono ?_
     case hp => exact fun W x hx hb _ => impl_AffectedAreas.pred k _ _ _ _ a0_0 a0_1 A0_2 c0_2 l0_2 a1_0 a1_1 A1_2 c1_2 l1_2 a2 a3 W1 N0.out N1.out N2.out N3.out HR0.out HC0.out HR1.out HC1.out W x _ hb (HA.out x hx)
     rintro e w9 ⟨v9, rfl, ho9, hb9, _⟩
     go_wp2
     go_ret2
     exact ⟨_, rfl, Kd.R_mono (Kd.R_lower ho9 HBW.out.size) (fun _ _ => trivial), zyh HBW.out hb9⟩
def spec_l2Shape.f (a0 : Int) (a1 : Int) : Option (Bool) := (spec_l1In.f a0 1 8).bind fun t363 => (if t363 = true then ((spec_l1In.f a1 1 8).bind fun t364 => (some t364)) else (some false))
set_option maxHeartbeats 8000000 in
set_option maxRecDepth 100000 in
theorem spec_l2Shape.calls (a0 : Int) (a1 : Int) (r : Bool) (w : World) (h : spec_l2Shape.f a0 a1 = some r) :
  Calls Try.prog 61 #[.int .i64 a0, .int .i64 a1] w fun e w' => e = .returned (.bool r) ∧ Drawn0 w w' := by
 have H : ((spec_l1In.f a0 1 8).bind fun t363 => (if t363 = true then ((spec_l1In.f a1 1 8).bind fun t364 => (some t364)) else (some false))) = some r := h
 clear h
 obtain ⟨t363, A30, H⟩ := zob H
 replace H : (if t363 = true then ((spec_l1In.f a1 1 8).bind fun t364 => (some t364)) else (some false)) = some r := H
 have A3 := zm A30
 clear A30
 by_cases c4 : t363 = true
 case neg =>
  replace c4 := Bool.eq_false_iff.mpr c4
  subst c4
  have H1 : (some false) = some r := by rw [if_neg (show ¬ (false = true) by decide)] at H; exact H
  clear H
  have H := H1
  clear H1
  obtain rfl := Option.some.inj H
  go_enter Try.func61, Try.ntmps61
  go_wp2_with (first | ((with_reducible refine zyg (f := 29) rfl ?_); refine goesL_ (some 6) rfl rfl Try.func29 (by kernel_rfl) rfl #[.int .i64 a0, .int .i64 1, .int .i64 8] rfl zq0 ?_; (with_reducible refine (spec_l1In.calls a0 1 8 false _ A3.out).mono ?_); rintro e w' ⟨rfl, ⟨nd, rfl⟩⟩; refine ⟨_, rfl, ?_⟩))
  go_ret
  exact ⟨by first | rfl | (simp; done) | (simp [*]; done), zq28⟩
 subst c4
 have H1 : ((spec_l1In.f a1 1 8).bind fun t364 => (some t364)) = some r := by rw [if_pos rfl] at H; exact H
 clear H
 have H := H1
 clear H1
 obtain ⟨t364, A50, H⟩ := zob H
 replace H : (some t364) = some r := H
 have A5 := zm A50
 clear A50
 obtain rfl := Option.some.inj H
 go_enter Try.func61, Try.ntmps61
 go_wp2_with (first | ((with_reducible refine zyg (f := 29) rfl ?_); refine goesL_ (some 6) rfl rfl Try.func29 (by kernel_rfl) rfl #[.int .i64 a0, .int .i64 1, .int .i64 8] rfl zq0 ?_; (with_reducible refine (spec_l1In.calls a0 1 8 true _ A3.out).mono ?_); rintro e w' ⟨rfl, ⟨nd, rfl⟩⟩; refine ⟨_, rfl, ?_⟩) | (go_at_call 29; (with_reducible refine (spec_l1In.calls a1 1 8 t364 _ A5.out).mono ?_); rintro e w' ⟨rfl, ⟨nd, rfl⟩⟩))
 go_ret
 exact ⟨by first | rfl | (simp; done) | (simp [*]; done), zq28⟩
def spec_l2Value.f (a0 : Int) : Option (Bool) := if a0 = (-9999) then (some true) else ((spec_l1In.f a0 (-9000) 9000).bind fun t365 => (some t365))
set_option maxHeartbeats 8000000 in
set_option maxRecDepth 100000 in
theorem spec_l2Value.calls (a0 : Int) (r : Bool) (w : World) (h : spec_l2Value.f a0 = some r) :
  Calls Try.prog 62 #[.int .i64 a0] w fun e w' => e = .returned (.bool r) ∧ Drawn0 w w' := by
 have H : (if a0 = (-9999) then (some true) else ((spec_l1In.f a0 (-9000) 9000).bind fun t365 => (some t365))) = some r := h
 clear h
 by_cases c2 : a0 = (-9999)
 case pos =>
  rw [if_pos c2] at H
  have c2b0 : (a0 == (-9999)) = true := beq_iff_eq.mpr c2
  have c2b1 : (a0 != (-9999)) = false := bne_eq_false_iff_eq.mpr c2
  clear c2
  obtain rfl := Option.some.inj H
  go_enter Try.func62, Try.ntmps62
  go_wp2
  go_ret
  exact ⟨by first | rfl | (simp; done) | (simp [*]; done), zq28⟩
 rw [if_neg c2] at H
 have c2b0 : (a0 == (-9999)) = false := beq_eq_false_iff_ne.mpr c2
 have c2b1 : (a0 != (-9999)) = true := bne_iff_ne.mpr c2
 obtain ⟨t365, A30, H⟩ := zob H
 replace H : (some t365) = some r := H
 have A3 := zm A30
 clear A30
 obtain rfl := Option.some.inj H
 go_enter Try.func62, Try.ntmps62
 go_wp2_with (first | (go_at_call 29; (with_reducible refine (spec_l1In.calls a0 (-9000) 9000 t365 _ A3.out).mono ?_); rintro e w' ⟨rfl, ⟨nd, rfl⟩⟩))
 go_ret
 exact ⟨by first | rfl | (simp; done) | (simp [*]; done), zq28⟩
mutual
def spec_l2Good.j0 : Nat → Bool → Int → Int → List Int → Option (Bool)
 | 0, _, _, _, _ => none
 | k + 1, x20, x367000, x367001, x367002 => if x20 = true then (some false) else (spec_l2Good.l0 k 0 x367000 x367001 x367002)
def spec_l2Good.l0 : Nat → Int → Int → Int → List Int → Option (Bool)
 | 0, _, _, _, _ => none
 | k + 1, x3, x367000, x367001, x367002 => if x3 < (x367002.length : Int) then (if 0 ≤ x3 then ((spec_l2Value.f (rd x367002 x3)).bind fun t369 => (if t369 = true then (spec_l2Good.l0 k (wrap64 (x3 + 1)) x367000 x367001 x367002) else (some false))) else (none)) else (some true)
end
def spec_l2Good.f (k : Nat) (a0_0 : Int) (a0_1 : Int) (l0_2 : List Int) : Option (Bool) := (spec_l2Shape.f a0_0 a0_1).bind fun t367 => (if t367 = true then (spec_l2Good.j0 k ((l0_2.length : Int) != (wrap64 (a0_0 * a0_1))) a0_0 a0_1 l0_2) else (spec_l2Good.j0 k true a0_0 a0_1 l0_2))
set_option maxHeartbeats 8000000 in
set_option maxRecDepth 100000 in
theorem spec_l2Good.calls (k : Nat) (a0_0 : Int) (a0_1 : Int) (A0_2 : Option Addr) (c0_2 : Nat) (l0_2 : List Int) (r : Bool) (w : World) (hr0_2 : Kd.C (Kd.int .i64) w A0_2 l0_2.length l0_2) (hc0_2 : l0_2.length ≤ c0_2) (h : spec_l2Good.f k a0_0 a0_1 l0_2 = some r) :
  Calls Try.prog 49 #[.agg #[.int .i64 a0_0, .int .i64 a0_1, .slice A0_2 l0_2.length c0_2]] w fun e w' => e = .returned (.bool r) ∧ Below w.heap.size w w' := by
 have hu27 := Try.underlying27
 have HR0_2 := zm hr0_2
 have HC0_2 := zm hc0_2
 clear hr0_2 hc0_2
 have HB := zm (Below.refl w.heap.size w)
 have H : ((spec_l2Shape.f a0_0 a0_1).bind fun t367 => (if t367 = true then (spec_l2Good.j0 k ((l0_2.length : Int) != (wrap64 (a0_0 * a0_1))) a0_0 a0_1 l0_2) else (spec_l2Good.j0 k true a0_0 a0_1 l0_2))) = some r := h
 clear h
 have HC2 := zm H
 clear H
 go_enter Try.func49, Try.ntmps49
 go_upto_region 1 with (first | ((with_reducible refine gate_dst (N := 1) rfl ?_); refine box_event ?hg (N := 1) ?hd (cs := #[.int .i64 a0_0, .int .i64 a0_1, .slice A0_2 l0_2.length c0_2]) (t := 27) ?hr ?_; (case hd => rfl); (case hg => rfl); (case hr => exact zqS); intro gb366 hg w3 hbox hb; have BK366 := zm (hbox); have GW366 := zm ((by rw [hg]; exact (zyi zq1) : w.heap.size ≤ gb366)); replace HB := zm (zyh zq1 hb); have GE366 := GW366; clear hb hbox hg))
 (try simp only [Act.put, List.setIfInBounds_toArray, List.set_cons_zero, List.set_cons_succ])
 go_cut [20] (fun v20 wc => ∃ (kq : Nat) (x20_1 : Bool), v20 = .bool x20_1 ∧ Aside0 (spec_l2Good.j0 kq x20_1 a0_0 a0_1 l0_2 = some r) ∧ Aside0 (kq ≤ k) ∧ Aside0 (wc.heap[gb366]? = some (.cells #[.int .i64 a0_0, .int .i64 a0_1, (.slice A0_2 l0_2.length c0_2)] 27 (0, 0))) ∧ Aside0 (Below w.heap.size w wc))
 case first =>
  have H := HC2.out
  clear HC2
  obtain ⟨t367, A40, H⟩ := zob H
  replace H : (if t367 = true then (spec_l2Good.j0 k ((l0_2.length : Int) != (wrap64 (a0_0 * a0_1))) a0_0 a0_1 l0_2) else (spec_l2Good.j0 k true a0_0 a0_1 l0_2)) = some r := H
  have A4 := zm A40
  clear A40
  by_cases c5 : t367 = true
  case pos =>
   subst c5
   have H1 : (spec_l2Good.j0 k ((l0_2.length : Int) != (wrap64 (a0_0 * a0_1))) a0_0 a0_1 l0_2) = some r := by rw [if_pos rfl] at H; exact H
   clear H
   have H := H1
   clear H1
   have H' := zm H
   clear H
   have hcz6_0 := bz BK366.out 0 (.int .i64 a0_0)
   have hcz6_1 := bz BK366.out 1 (.int .i64 a0_1)
   have hcz6_2 := bz BK366.out 2 (.slice A0_2 l0_2.length c0_2)
   have hfz6_0 := zyF BK366.out 0
   have hfz6_1 := zyF BK366.out 1
   have hfz6_2 := zyF BK366.out 2
   go_wp2_with (first | ((with_reducible refine zyg (f := 61) rfl ?_); refine goesL_ (some 8) rfl rfl Try.func61 (by kernel_rfl) rfl #[.int .i64 a0_0, .int .i64 a0_1] rfl zq0 ?_; (with_reducible refine (spec_l2Shape.calls a0_0 a0_1 true _ A4.out).mono ?_); rintro e w' ⟨rfl, ⟨nd, rfl⟩⟩; refine ⟨_, rfl, ?_⟩))
   go_meet
   case rel => exact ⟨_, (((l0_2.length : Int) != (wrap64 (a0_0 * a0_1)))), (by first | rfl | (simp; done) | (simp [*]; done)), H', ⟨by first | omega | exact Nat.le_refl _⟩, ⟨by (with_reducible repeat (first | apply zN | apply zD | apply zL)); exact BK366.out⟩, ⟨zq53⟩⟩
  replace c5 := Bool.eq_false_iff.mpr c5
  subst c5
  have H1 : (spec_l2Good.j0 k true a0_0 a0_1 l0_2) = some r := by rw [if_neg (show ¬ (false = true) by decide)] at H; exact H
  clear H
  have H := H1
  clear H1
  have H' := zm H
  clear H
  have hcz7_0 := bz BK366.out 0 (.int .i64 a0_0)
  have hcz7_1 := bz BK366.out 1 (.int .i64 a0_1)
  have hcz7_2 := bz BK366.out 2 (.slice A0_2 l0_2.length c0_2)
  have hfz7_0 := zyF BK366.out 0
  have hfz7_1 := zyF BK366.out 1
  have hfz7_2 := zyF BK366.out 2
  go_wp2_with (first | ((with_reducible refine zyg (f := 61) rfl ?_); refine goesL_ (some 8) rfl rfl Try.func61 (by kernel_rfl) rfl #[.int .i64 a0_0, .int .i64 a0_1] rfl zq0 ?_; (with_reducible refine (spec_l2Shape.calls a0_0 a0_1 false _ A4.out).mono ?_); rintro e w' ⟨rfl, ⟨nd, rfl⟩⟩; refine ⟨_, rfl, ?_⟩))
  go_meet
  case rel => exact ⟨_, (true), (by first | rfl | (simp; done) | (simp [*]; done)), H', ⟨by first | omega | exact Nat.le_refl _⟩, ⟨by (with_reducible repeat (first | apply zN | apply zD | apply zL)); exact BK366.out⟩, ⟨zq53⟩⟩
 clear HC2
 try clear p2
 try clear c4
 try clear c5
 try clear c6
 try clear p6
 try clear hcz6_0
 try clear hcz6_1
 try clear hcz6_2
 try clear hcz7_0
 try clear hcz7_1
 try clear hcz7_2
 try clear hfz6_0
 try clear hfz6_1
 try clear hfz6_2
 try clear hfz7_0
 try clear hfz7_1
 try clear hfz7_2
 obtain ⟨kq, x20_1, rfl, HA, HJ1, BK366, HB⟩ := hcut
 cases kq with
 | zero => exact absurd HA.out (by simp [spec_l2Good.j0])
 | succ kj1 =>
  have H := HA.out
  clear HA
  simp only [spec_l2Good.j0] at H
  by_cases c8 : x20_1 = true
  case pos =>
   subst c8
   have H1 : (some false) = some r := by rw [if_pos rfl] at H; exact H
   clear H
   have H := H1
   clear H1
   obtain rfl := Option.some.inj H
   go_wp2
   go_ret
   exact ⟨zqE, zq53⟩
  replace c8 := Bool.eq_false_iff.mpr c8
  subst c8
  have H1 : (spec_l2Good.l0 kj1 0 a0_0 a0_1 l0_2) = some r := by rw [if_neg (show ¬ (false = true) by decide)] at H; exact H
  clear H
  have H := H1
  clear H1
  have H' := zm H
  clear H
  go_wp2
  go_loopg [3] kj1 (fun kq v3 w' => ∃ (x3_2 : Int), v3 = .int .i64 x3_2 ∧ Aside0 (spec_l2Good.l0 kq x3_2 a0_0 a0_1 l0_2 = some r) ∧ Aside0 (kq ≤ kj1) ∧ Aside0 (w'.heap[gb366]? = some (.cells #[.int .i64 a0_0, .int .i64 a0_1, (.slice A0_2 l0_2.length c0_2)] 27 (0, 0))) ∧ Aside0 (Below w.heap.size w w'))
  case atStart => exact ⟨(0), (by first | rfl | (simp; done) | (simp [*]; done)), H', ⟨Nat.le_refl _⟩, ⟨by (with_reducible repeat (first | apply zN | apply zD | apply zL)); exact BK366.out⟩, ⟨zq53⟩⟩
  clear H'
  try clear p2
  try clear c4
  try clear c5
  try clear c6
  try clear p6
  try clear c8
  try clear hcz6_0
  try clear hcz6_1
  try clear hcz6_2
  try clear hcz7_0
  try clear hcz7_1
  try clear hcz7_2
  try clear hfz6_0
  try clear hfz6_1
  try clear hfz6_2
  try clear hfz7_0
  try clear hfz7_1
  try clear hfz7_2
  try clear p2
  try clear p6
  obtain ⟨x3_2, rfl, HA, HK2, BK366, HB⟩ := hrel
  cases gk with
  | zero => exact absurd HA.out (by simp [spec_l2Good.l0])
  | succ k2 =>
   have H := HA.out
   clear HA
   simp only [spec_l2Good.l0] at H
   by_cases c9 : x3_2 < (l0_2.length : Int)
   case neg =>
    rw [if_neg c9] at H
    have c9b0 : decide (x3_2 < (l0_2.length : Int)) = false := decide_eq_false c9
    clear c9
    obtain rfl := Option.some.inj H
    have hcz15_0 := bz BK366.out 0 (.int .i64 a0_0)
    have hcz15_1 := bz BK366.out 1 (.int .i64 a0_1)
    have hcz15_2 := bz BK366.out 2 (.slice A0_2 l0_2.length c0_2)
    have hfz15_0 := zyF BK366.out 0
    have hfz15_1 := zyF BK366.out 1
    have hfz15_2 := zyF BK366.out 2
    go_wp2
    go_ret
    exact ⟨zqE, zq53⟩
   rw [if_pos c9] at H
   have c9b0 : decide (x3_2 < (l0_2.length : Int)) = true := decide_eq_true c9
   clear c9
   by_cases c10 : 0 ≤ x3_2
   case neg =>
    rw [if_neg c10] at H
    exact absurd H (by simp)
   rw [if_pos c10] at H
   have c10b0 : decide (0 ≤ x3_2) = true := decide_eq_true c10
   clear c10
   obtain ⟨t369, A110, H⟩ := zob H
   replace H : (if t369 = true then (spec_l2Good.l0 k2 (wrap64 (x3_2 + 1)) a0_0 a0_1 l0_2) else (some false)) = some r := H
   have A11 := zm A110
   clear A110
   by_cases c12 : t369 = true
   case neg =>
    replace c12 := Bool.eq_false_iff.mpr c12
    subst c12
    have H1 : (some false) = some r := by rw [if_neg (show ¬ (false = true) by decide)] at H; exact H
    clear H
    have H := H1
    clear H1
    obtain rfl := Option.some.inj H
    have hcz14_0 := bz BK366.out 0 (.int .i64 a0_0)
    have hcz14_1 := bz BK366.out 1 (.int .i64 a0_1)
    have hcz14_2 := bz BK366.out 2 (.slice A0_2 l0_2.length c0_2)
    have hfz14_0 := zyF BK366.out 0
    have hfz14_1 := zyF BK366.out 1
    have hfz14_2 := zyF BK366.out 2
    have p368 : 0 ≤ (x3_2 : Int) := of_decide_eq_true zq6
    have q368 : x3_2 < (l0_2.length : Int) := of_decide_eq_true zq6
    obtain ⟨ad368, e368, hx368_0⟩ := Kd.at_int HR0_2.out x3_2 p368 q368
    cases e368
    replace hx368_0 := bx HB.out hx368_0
    replace p368 := eq_true p368
    replace q368 := eq_true q368
    go_wp2_with (first | ((with_reducible refine zyg (f := 62) rfl ?_); refine goesL_ (some 33) rfl rfl Try.func62 (by kernel_rfl) rfl #[.int .i64 (rd l0_2 x3_2)] rfl zq0 ?_; (with_reducible refine (spec_l2Value.calls (rd l0_2 x3_2) false _ A11.out).mono ?_); rintro e w' ⟨rfl, ⟨nd, rfl⟩⟩; refine ⟨_, rfl, ?_⟩))
    go_ret
    exact ⟨zqE, zq53⟩
   subst c12
   have H1 : (spec_l2Good.l0 k2 (wrap64 (x3_2 + 1)) a0_0 a0_1 l0_2) = some r := by rw [if_pos rfl] at H; exact H
   clear H
   have H := H1
   clear H1
   have H' := zm H
   clear H
   have hcz13_0 := bz BK366.out 0 (.int .i64 a0_0)
   have hcz13_1 := bz BK366.out 1 (.int .i64 a0_1)
   have hcz13_2 := bz BK366.out 2 (.slice A0_2 l0_2.length c0_2)
   have hfz13_0 := zyF BK366.out 0
   have hfz13_1 := zyF BK366.out 1
   have hfz13_2 := zyF BK366.out 2
   have p368 : 0 ≤ (x3_2 : Int) := of_decide_eq_true zq6
   have q368 : x3_2 < (l0_2.length : Int) := of_decide_eq_true zq6
   obtain ⟨ad368, e368, hx368_0⟩ := Kd.at_int HR0_2.out x3_2 p368 q368
   cases e368
   replace hx368_0 := bx HB.out hx368_0
   replace p368 := eq_true p368
   replace q368 := eq_true q368
   go_wp2_with (first | ((with_reducible refine zyg (f := 62) rfl ?_); refine goesL_ (some 33) rfl rfl Try.func62 (by kernel_rfl) rfl #[.int .i64 (rd l0_2 x3_2)] rfl zq0 ?_; (with_reducible refine (spec_l2Value.calls (rd l0_2 x3_2) true _ A11.out).mono ?_); rintro e w' ⟨rfl, ⟨nd, rfl⟩⟩; refine ⟨_, rfl, ?_⟩))
   go_roundg k2
   case measure => have := HJ1.out; have := HK2.out; omega
   case rel => exact ⟨(wrap64 (x3_2 + 1)), (by first | rfl | (simp; done) | (simp [*]; done)), H', ⟨by have := HJ1.out; have := HK2.out; omega⟩, ⟨by (with_reducible repeat (first | apply zN | apply zD | apply zL)); exact BK366.out⟩, ⟨zq53⟩⟩
def spec_l13Fits.f (k : Nat) (a0_0 : Int) (a0_1 : Int) (l0_2 : List Int) (a1_0 : Int) (a1_1 : Int) (l1_2 : List Int) : Option (Bool) := (spec_l13Good.f k a0_0 a0_1 l0_2).bind fun t372 => (if t372 = true then ((spec_l2Good.f k a1_0 a1_1 l1_2).bind fun t373 => (if t373 = true then (if a0_0 = a1_0 then (some (a0_1 == a1_1)) else (some false)) else (some false))) else (some false))
set_option maxHeartbeats 8000000 in
set_option maxRecDepth 100000 in
theorem spec_l13Fits.calls (k : Nat) (a0_0 : Int) (a0_1 : Int) (A0_2 : Option Addr) (c0_2 : Nat) (l0_2 : List Int) (a1_0 : Int) (a1_1 : Int) (A1_2 : Option Addr) (c1_2 : Nat) (l1_2 : List Int) (r : Bool) (w : World) (hr0_2 : Kd.C (Kd.int .i64) w A0_2 l0_2.length l0_2) (hc0_2 : l0_2.length ≤ c0_2) (hr1_2 : Kd.C (Kd.int .i64) w A1_2 l1_2.length l1_2) (hc1_2 : l1_2.length ≤ c1_2) (h : spec_l13Fits.f k a0_0 a0_1 l0_2 a1_0 a1_1 l1_2 = some r) :
  Calls Try.prog 27 #[.agg #[.int .i64 a0_0, .int .i64 a0_1, .slice A0_2 l0_2.length c0_2], .agg #[.int .i64 a1_0, .int .i64 a1_1, .slice A1_2 l1_2.length c1_2]] w fun e w' => e = .returned (.bool r) ∧ Below w.heap.size w w' := by
 have hu26 := Try.underlying26
 have hu27 := Try.underlying27
 have HR0_2 := zm hr0_2
 have HC0_2 := zm hc0_2
 clear hr0_2 hc0_2
 have HR1_2 := zm hr1_2
 have HC1_2 := zm hc1_2
 clear hr1_2 hc1_2
 have HB := zm (Below.refl w.heap.size w)
 have H : ((spec_l13Good.f k a0_0 a0_1 l0_2).bind fun t372 => (if t372 = true then ((spec_l2Good.f k a1_0 a1_1 l1_2).bind fun t373 => (if t373 = true then (if a0_0 = a1_0 then (some (a0_1 == a1_1)) else (some false)) else (some false))) else (some false))) = some r := h
 clear h
 obtain ⟨t372, A30, H⟩ := zob H
 replace H : (if t372 = true then ((spec_l2Good.f k a1_0 a1_1 l1_2).bind fun t373 => (if t373 = true then (if a0_0 = a1_0 then (some (a0_1 == a1_1)) else (some false)) else (some false))) else (some false)) = some r := H
 have A3 := zm A30
 clear A30
 by_cases c4 : t372 = true
 case neg =>
  replace c4 := Bool.eq_false_iff.mpr c4
  subst c4
  have H1 : (some false) = some r := by rw [if_neg (show ¬ (false = true) by decide)] at H; exact H
  clear H
  have H := H1
  clear H1
  obtain rfl := Option.some.inj H
  go_enter Try.func27, Try.ntmps27
  go_wp2_with (first | ((with_reducible refine gate_dst (N := 2) rfl ?_); refine box_event ?hg (N := 2) ?hd (cs := #[.int .i64 a0_0, .int .i64 a0_1, .slice A0_2 l0_2.length c0_2]) (t := 26) ?hr ?_; (case hd => rfl); (case hg => rfl); (case hr => exact zqS); intro gb370 hg w33 hbox hb; have BK370 := zm (hbox); have GW370 := zm ((by rw [hg]; exact (zyi zq1) : w.heap.size ≤ gb370)); replace HB := zm (zyh zq1 hb); have GE370 := GW370; clear hb hbox hg) | ((with_reducible refine gate_dst (N := 3) rfl ?_); refine box_event ?hg (N := 3) ?hd (cs := #[.int .i64 a1_0, .int .i64 a1_1, .slice A1_2 l1_2.length c1_2]) (t := 27) ?hr ?_; (case hd => rfl); (case hg => rfl); (case hr => exact zqS); intro gb371 hg w34 hbox hb; have BK371 := zm (hbox); have GW371 := zm ((by rw [hg]; exact (zyi zq38) : w.heap.size ≤ gb371)); replace HB := zm (zyh zq38 hb); have GE371 := GW371; have NB370_371 := zm ((by rw [hg]; exact Nat.ne_of_lt (blk_lt (g := gb370) (o := .cells #[.int .i64 a0_0, .int .i64 a0_1, .slice A0_2 l0_2.length c0_2] 26 (0, 0)) (zqK BK370.out)) : gb370 ≠ gb371)); have NB371_370 := zm ((by rw [hg]; exact Nat.ne_of_gt (blk_lt (g := gb370) (o := .cells #[.int .i64 a0_0, .int .i64 a0_1, .slice A0_2 l0_2.length c0_2] 26 (0, 0)) (zqK BK370.out)) : gb371 ≠ gb370)); replace BK370 := zm (zyb (g := gb370) (o := .cells #[.int .i64 a0_0, .int .i64 a0_1, .slice A0_2 l0_2.length c0_2] 26 (0, 0)) (zqK BK370.out) hb); clear hb hbox hg; have hnb35 := NB370_371.out; have hnc35 := NB371_370.out; have hcz36_0 := bz BK370.out 0 (.int .i64 a0_0); have hcz36_1 := bz BK370.out 1 (.int .i64 a0_1); have hcz36_2 := bz BK370.out 2 (.slice A0_2 l0_2.length c0_2); have hfz36_0 := zyF BK370.out 0; have hfz36_1 := zyF BK370.out 1; have hfz36_2 := zyF BK370.out 2) | ((with_reducible refine zyg (f := 43) rfl ?_); refine goesL_ (some 6) rfl rfl Try.func43 (by kernel_rfl) rfl #[.agg #[.int .i64 a0_0, .int .i64 a0_1, .slice A0_2 l0_2.length c0_2]] rfl zq0 ?_; (with_reducible refine (spec_l13Good.calls k a0_0 a0_1 _ _ l0_2 false _ ?side1 ?side2 A3.out).mono ?_); (case side1 => exact zqC (Kd.C_below HR0_2.out HB.out)); (case side2 => exact HC0_2.out); rintro e w37 ⟨rfl, hb⟩; refine ⟨_, rfl, ?_⟩; replace BK370 := zm (zyb (g := gb370) (o := .cells #[.int .i64 a0_0, .int .i64 a0_1, .slice A0_2 l0_2.length c0_2] 26 (0, 0)) (zqK BK370.out) hb); replace BK371 := zm (zyb (g := gb371) (o := .cells #[.int .i64 a1_0, .int .i64 a1_1, .slice A1_2 l1_2.length c1_2] 27 (0, 0)) (zqK BK371.out) hb); replace HB := zm (zyh zq34 hb); (try clear hb); (try clear hb2); (try clear hk); (try clear hi)))
  go_ret
  exact ⟨zqE, zq34⟩
 subst c4
 have H1 : ((spec_l2Good.f k a1_0 a1_1 l1_2).bind fun t373 => (if t373 = true then (if a0_0 = a1_0 then (some (a0_1 == a1_1)) else (some false)) else (some false))) = some r := by rw [if_pos rfl] at H; exact H
 clear H
 have H := H1
 clear H1
 obtain ⟨t373, A50, H⟩ := zob H
 replace H : (if t373 = true then (if a0_0 = a1_0 then (some (a0_1 == a1_1)) else (some false)) else (some false)) = some r := H
 have A5 := zm A50
 clear A50
 by_cases c6 : t373 = true
 case neg =>
  replace c6 := Bool.eq_false_iff.mpr c6
  subst c6
  have H1 : (some false) = some r := by rw [if_neg (show ¬ (false = true) by decide)] at H; exact H
  clear H
  have H := H1
  clear H1
  obtain rfl := Option.some.inj H
  go_enter Try.func27, Try.ntmps27
  go_wp2_with (first | ((with_reducible refine gate_dst (N := 2) rfl ?_); refine box_event ?hg (N := 2) ?hd (cs := #[.int .i64 a0_0, .int .i64 a0_1, .slice A0_2 l0_2.length c0_2]) (t := 26) ?hr ?_; (case hd => rfl); (case hg => rfl); (case hr => exact zqS); intro gb370 hg w26 hbox hb; have BK370 := zm (hbox); have GW370 := zm ((by rw [hg]; exact (zyi zq1) : w.heap.size ≤ gb370)); replace HB := zm (zyh zq1 hb); have GE370 := GW370; clear hb hbox hg) | ((with_reducible refine gate_dst (N := 3) rfl ?_); refine box_event ?hg (N := 3) ?hd (cs := #[.int .i64 a1_0, .int .i64 a1_1, .slice A1_2 l1_2.length c1_2]) (t := 27) ?hr ?_; (case hd => rfl); (case hg => rfl); (case hr => exact zqS); intro gb371 hg w27 hbox hb; have BK371 := zm (hbox); have GW371 := zm ((by rw [hg]; exact (zyi zq38) : w.heap.size ≤ gb371)); replace HB := zm (zyh zq38 hb); have GE371 := GW371; have NB370_371 := zm ((by rw [hg]; exact Nat.ne_of_lt (blk_lt (g := gb370) (o := .cells #[.int .i64 a0_0, .int .i64 a0_1, .slice A0_2 l0_2.length c0_2] 26 (0, 0)) (zqK BK370.out)) : gb370 ≠ gb371)); have NB371_370 := zm ((by rw [hg]; exact Nat.ne_of_gt (blk_lt (g := gb370) (o := .cells #[.int .i64 a0_0, .int .i64 a0_1, .slice A0_2 l0_2.length c0_2] 26 (0, 0)) (zqK BK370.out)) : gb371 ≠ gb370)); replace BK370 := zm (zyb (g := gb370) (o := .cells #[.int .i64 a0_0, .int .i64 a0_1, .slice A0_2 l0_2.length c0_2] 26 (0, 0)) (zqK BK370.out) hb); clear hb hbox hg; have hnb28 := NB370_371.out; have hnc28 := NB371_370.out; have hcz29_0 := bz BK370.out 0 (.int .i64 a0_0); have hcz29_1 := bz BK370.out 1 (.int .i64 a0_1); have hcz29_2 := bz BK370.out 2 (.slice A0_2 l0_2.length c0_2); have hfz29_0 := zyF BK370.out 0; have hfz29_1 := zyF BK370.out 1; have hfz29_2 := zyF BK370.out 2) | ((with_reducible refine zyg (f := 43) rfl ?_); refine goesL_ (some 6) rfl rfl Try.func43 (by kernel_rfl) rfl #[.agg #[.int .i64 a0_0, .int .i64 a0_1, .slice A0_2 l0_2.length c0_2]] rfl zq0 ?_; (with_reducible refine (spec_l13Good.calls k a0_0 a0_1 _ _ l0_2 true _ ?side1 ?side2 A3.out).mono ?_); (case side1 => exact zqC (Kd.C_below HR0_2.out HB.out)); (case side2 => exact HC0_2.out); rintro e w30 ⟨rfl, hb⟩; refine ⟨_, rfl, ?_⟩; replace BK370 := zm (zyb (g := gb370) (o := .cells #[.int .i64 a0_0, .int .i64 a0_1, .slice A0_2 l0_2.length c0_2] 26 (0, 0)) (zqK BK370.out) hb); replace BK371 := zm (zyb (g := gb371) (o := .cells #[.int .i64 a1_0, .int .i64 a1_1, .slice A1_2 l1_2.length c1_2] 27 (0, 0)) (zqK BK371.out) hb); replace HB := zm (zyh zq34 hb); (try clear hb); (try clear hb2); (try clear hk); (try clear hi); have hcz31_0 := bz BK371.out 0 (.int .i64 a1_0); have hcz31_1 := bz BK371.out 1 (.int .i64 a1_1); have hcz31_2 := bz BK371.out 2 (.slice A1_2 l1_2.length c1_2); have hfz31_0 := zyF BK371.out 0; have hfz31_1 := zyF BK371.out 1; have hfz31_2 := zyF BK371.out 2) | (go_at_call 49; (with_reducible refine (spec_l2Good.calls k a1_0 a1_1 _ _ l1_2 false _ ?side1 ?side2 A5.out).mono ?_); (case side1 => exact zqC (Kd.C_below HR1_2.out HB.out)); (case side2 => exact HC1_2.out); rintro e w32 ⟨rfl, hb⟩; replace BK370 := zm (zyb (g := gb370) (o := .cells #[.int .i64 a0_0, .int .i64 a0_1, .slice A0_2 l0_2.length c0_2] 26 (0, 0)) (zqK BK370.out) hb); replace BK371 := zm (zyb (g := gb371) (o := .cells #[.int .i64 a1_0, .int .i64 a1_1, .slice A1_2 l1_2.length c1_2] 27 (0, 0)) (zqK BK371.out) hb); replace HB := zm (zyh zq34 hb); (try clear hb); (try clear hb2); (try clear hk); (try clear hi)))
  go_ret
  exact ⟨zqE, zq34⟩
 subst c6
 have H1 : (if a0_0 = a1_0 then (some (a0_1 == a1_1)) else (some false)) = some r := by rw [if_pos rfl] at H; exact H
 clear H
 have H := H1
 clear H1
 by_cases c7 : a0_0 = a1_0
 case neg =>
  rw [if_neg c7] at H
  have c7b0 : (a0_0 == a1_0) = false := beq_eq_false_iff_ne.mpr c7
  have c7b1 : (a0_0 != a1_0) = true := bne_iff_ne.mpr c7
  obtain rfl := Option.some.inj H
  go_enter Try.func27, Try.ntmps27
  go_wp2_with (first | ((with_reducible refine gate_dst (N := 2) rfl ?_); refine box_event ?hg (N := 2) ?hd (cs := #[.int .i64 a0_0, .int .i64 a0_1, .slice A0_2 l0_2.length c0_2]) (t := 26) ?hr ?_; (case hd => rfl); (case hg => rfl); (case hr => exact zqS); intro gb370 hg w17 hbox hb; have BK370 := zm (hbox); have GW370 := zm ((by rw [hg]; exact (zyi zq1) : w.heap.size ≤ gb370)); replace HB := zm (zyh zq1 hb); have GE370 := GW370; clear hb hbox hg) | ((with_reducible refine gate_dst (N := 3) rfl ?_); refine box_event ?hg (N := 3) ?hd (cs := #[.int .i64 a1_0, .int .i64 a1_1, .slice A1_2 l1_2.length c1_2]) (t := 27) ?hr ?_; (case hd => rfl); (case hg => rfl); (case hr => exact zqS); intro gb371 hg w18 hbox hb; have BK371 := zm (hbox); have GW371 := zm ((by rw [hg]; exact (zyi zq38) : w.heap.size ≤ gb371)); replace HB := zm (zyh zq38 hb); have GE371 := GW371; have NB370_371 := zm ((by rw [hg]; exact Nat.ne_of_lt (blk_lt (g := gb370) (o := .cells #[.int .i64 a0_0, .int .i64 a0_1, .slice A0_2 l0_2.length c0_2] 26 (0, 0)) (zqK BK370.out)) : gb370 ≠ gb371)); have NB371_370 := zm ((by rw [hg]; exact Nat.ne_of_gt (blk_lt (g := gb370) (o := .cells #[.int .i64 a0_0, .int .i64 a0_1, .slice A0_2 l0_2.length c0_2] 26 (0, 0)) (zqK BK370.out)) : gb371 ≠ gb370)); replace BK370 := zm (zyb (g := gb370) (o := .cells #[.int .i64 a0_0, .int .i64 a0_1, .slice A0_2 l0_2.length c0_2] 26 (0, 0)) (zqK BK370.out) hb); clear hb hbox hg; have hnb19 := NB370_371.out; have hnc19 := NB371_370.out; have hcz20_0 := bz BK370.out 0 (.int .i64 a0_0); have hcz20_1 := bz BK370.out 1 (.int .i64 a0_1); have hcz20_2 := bz BK370.out 2 (.slice A0_2 l0_2.length c0_2); have hfz20_0 := zyF BK370.out 0; have hfz20_1 := zyF BK370.out 1; have hfz20_2 := zyF BK370.out 2) | ((with_reducible refine zyg (f := 43) rfl ?_); refine goesL_ (some 6) rfl rfl Try.func43 (by kernel_rfl) rfl #[.agg #[.int .i64 a0_0, .int .i64 a0_1, .slice A0_2 l0_2.length c0_2]] rfl zq0 ?_; (with_reducible refine (spec_l13Good.calls k a0_0 a0_1 _ _ l0_2 true _ ?side1 ?side2 A3.out).mono ?_); (case side1 => exact zqC (Kd.C_below HR0_2.out HB.out)); (case side2 => exact HC0_2.out); rintro e w21 ⟨rfl, hb⟩; refine ⟨_, rfl, ?_⟩; replace BK370 := zm (zyb (g := gb370) (o := .cells #[.int .i64 a0_0, .int .i64 a0_1, .slice A0_2 l0_2.length c0_2] 26 (0, 0)) (zqK BK370.out) hb); replace BK371 := zm (zyb (g := gb371) (o := .cells #[.int .i64 a1_0, .int .i64 a1_1, .slice A1_2 l1_2.length c1_2] 27 (0, 0)) (zqK BK371.out) hb); replace HB := zm (zyh zq34 hb); (try clear hb); (try clear hb2); (try clear hk); (try clear hi); have hcz22_0 := bz BK371.out 0 (.int .i64 a1_0); have hcz22_1 := bz BK371.out 1 (.int .i64 a1_1); have hcz22_2 := bz BK371.out 2 (.slice A1_2 l1_2.length c1_2); have hfz22_0 := zyF BK371.out 0; have hfz22_1 := zyF BK371.out 1; have hfz22_2 := zyF BK371.out 2) | (go_at_call 49; (with_reducible refine (spec_l2Good.calls k a1_0 a1_1 _ _ l1_2 true _ ?side1 ?side2 A5.out).mono ?_); (case side1 => exact zqC (Kd.C_below HR1_2.out HB.out)); (case side2 => exact HC1_2.out); rintro e w23 ⟨rfl, hb⟩; replace BK370 := zm (zyb (g := gb370) (o := .cells #[.int .i64 a0_0, .int .i64 a0_1, .slice A0_2 l0_2.length c0_2] 26 (0, 0)) (zqK BK370.out) hb); replace BK371 := zm (zyb (g := gb371) (o := .cells #[.int .i64 a1_0, .int .i64 a1_1, .slice A1_2 l1_2.length c1_2] 27 (0, 0)) (zqK BK371.out) hb); replace HB := zm (zyh zq34 hb); (try clear hb); (try clear hb2); (try clear hk); (try clear hi); have hcz24_0 := bz BK370.out 0 (.int .i64 a0_0); have hcz24_1 := bz BK370.out 1 (.int .i64 a0_1); have hcz24_2 := bz BK370.out 2 (.slice A0_2 l0_2.length c0_2); have hfz24_0 := zyF BK370.out 0; have hfz24_1 := zyF BK370.out 1; have hfz24_2 := zyF BK370.out 2; have hcz25_0 := bz BK371.out 0 (.int .i64 a1_0); have hcz25_1 := bz BK371.out 1 (.int .i64 a1_1); have hcz25_2 := bz BK371.out 2 (.slice A1_2 l1_2.length c1_2); have hfz25_0 := zyF BK371.out 0; have hfz25_1 := zyF BK371.out 1; have hfz25_2 := zyF BK371.out 2))
  go_ret
  exact ⟨zqE, zq34⟩
 rw [if_pos c7] at H
 have c7b0 : (a0_0 == a1_0) = true := beq_iff_eq.mpr c7
 have c7b1 : (a0_0 != a1_0) = false := bne_eq_false_iff_eq.mpr c7
 clear c7
 obtain rfl := Option.some.inj H
 go_enter Try.func27, Try.ntmps27
 go_wp2_with (first | ((with_reducible refine gate_dst (N := 2) rfl ?_); refine box_event ?hg (N := 2) ?hd (cs := #[.int .i64 a0_0, .int .i64 a0_1, .slice A0_2 l0_2.length c0_2]) (t := 26) ?hr ?_; (case hd => rfl); (case hg => rfl); (case hr => exact zqS); intro gb370 hg w8 hbox hb; have BK370 := zm (hbox); have GW370 := zm ((by rw [hg]; exact (zyi zq1) : w.heap.size ≤ gb370)); replace HB := zm (zyh zq1 hb); have GE370 := GW370; clear hb hbox hg) | ((with_reducible refine gate_dst (N := 3) rfl ?_); refine box_event ?hg (N := 3) ?hd (cs := #[.int .i64 a1_0, .int .i64 a1_1, .slice A1_2 l1_2.length c1_2]) (t := 27) ?hr ?_; (case hd => rfl); (case hg => rfl); (case hr => exact zqS); intro gb371 hg w9 hbox hb; have BK371 := zm (hbox); have GW371 := zm ((by rw [hg]; exact (zyi zq38) : w.heap.size ≤ gb371)); replace HB := zm (zyh zq38 hb); have GE371 := GW371; have NB370_371 := zm ((by rw [hg]; exact Nat.ne_of_lt (blk_lt (g := gb370) (o := .cells #[.int .i64 a0_0, .int .i64 a0_1, .slice A0_2 l0_2.length c0_2] 26 (0, 0)) (zqK BK370.out)) : gb370 ≠ gb371)); have NB371_370 := zm ((by rw [hg]; exact Nat.ne_of_gt (blk_lt (g := gb370) (o := .cells #[.int .i64 a0_0, .int .i64 a0_1, .slice A0_2 l0_2.length c0_2] 26 (0, 0)) (zqK BK370.out)) : gb371 ≠ gb370)); replace BK370 := zm (zyb (g := gb370) (o := .cells #[.int .i64 a0_0, .int .i64 a0_1, .slice A0_2 l0_2.length c0_2] 26 (0, 0)) (zqK BK370.out) hb); clear hb hbox hg; have hnb10 := NB370_371.out; have hnc10 := NB371_370.out; have hcz11_0 := bz BK370.out 0 (.int .i64 a0_0); have hcz11_1 := bz BK370.out 1 (.int .i64 a0_1); have hcz11_2 := bz BK370.out 2 (.slice A0_2 l0_2.length c0_2); have hfz11_0 := zyF BK370.out 0; have hfz11_1 := zyF BK370.out 1; have hfz11_2 := zyF BK370.out 2) | ((with_reducible refine zyg (f := 43) rfl ?_); refine goesL_ (some 6) rfl rfl Try.func43 (by kernel_rfl) rfl #[.agg #[.int .i64 a0_0, .int .i64 a0_1, .slice A0_2 l0_2.length c0_2]] rfl zq0 ?_; (with_reducible refine (spec_l13Good.calls k a0_0 a0_1 _ _ l0_2 true _ ?side1 ?side2 A3.out).mono ?_); (case side1 => exact zqC (Kd.C_below HR0_2.out HB.out)); (case side2 => exact HC0_2.out); rintro e w12 ⟨rfl, hb⟩; refine ⟨_, rfl, ?_⟩; replace BK370 := zm (zyb (g := gb370) (o := .cells #[.int .i64 a0_0, .int .i64 a0_1, .slice A0_2 l0_2.length c0_2] 26 (0, 0)) (zqK BK370.out) hb); replace BK371 := zm (zyb (g := gb371) (o := .cells #[.int .i64 a1_0, .int .i64 a1_1, .slice A1_2 l1_2.length c1_2] 27 (0, 0)) (zqK BK371.out) hb); replace HB := zm (zyh zq34 hb); (try clear hb); (try clear hb2); (try clear hk); (try clear hi); have hcz13_0 := bz BK371.out 0 (.int .i64 a1_0); have hcz13_1 := bz BK371.out 1 (.int .i64 a1_1); have hcz13_2 := bz BK371.out 2 (.slice A1_2 l1_2.length c1_2); have hfz13_0 := zyF BK371.out 0; have hfz13_1 := zyF BK371.out 1; have hfz13_2 := zyF BK371.out 2) | (go_at_call 49; (with_reducible refine (spec_l2Good.calls k a1_0 a1_1 _ _ l1_2 true _ ?side1 ?side2 A5.out).mono ?_); (case side1 => exact zqC (Kd.C_below HR1_2.out HB.out)); (case side2 => exact HC1_2.out); rintro e w14 ⟨rfl, hb⟩; replace BK370 := zm (zyb (g := gb370) (o := .cells #[.int .i64 a0_0, .int .i64 a0_1, .slice A0_2 l0_2.length c0_2] 26 (0, 0)) (zqK BK370.out) hb); replace BK371 := zm (zyb (g := gb371) (o := .cells #[.int .i64 a1_0, .int .i64 a1_1, .slice A1_2 l1_2.length c1_2] 27 (0, 0)) (zqK BK371.out) hb); replace HB := zm (zyh zq34 hb); (try clear hb); (try clear hb2); (try clear hk); (try clear hi); have hcz15_0 := bz BK370.out 0 (.int .i64 a0_0); have hcz15_1 := bz BK370.out 1 (.int .i64 a0_1); have hcz15_2 := bz BK370.out 2 (.slice A0_2 l0_2.length c0_2); have hfz15_0 := zyF BK370.out 0; have hfz15_1 := zyF BK370.out 1; have hfz15_2 := zyF BK370.out 2; have hcz16_0 := bz BK371.out 0 (.int .i64 a1_0); have hcz16_1 := bz BK371.out 1 (.int .i64 a1_1); have hcz16_2 := bz BK371.out 2 (.slice A1_2 l1_2.length c1_2); have hfz16_0 := zyF BK371.out 0; have hfz16_1 := zyF BK371.out 1; have hfz16_2 := zyF BK371.out 2))
 go_ret
 exact ⟨zqE, zq34⟩
def spec_l13Threshold.f (a0 : Int) : Option (Bool) := (spec_l1In.f a0 (-9000) 9000).bind fun t374 => (some t374)
set_option maxHeartbeats 8000000 in
set_option maxRecDepth 100000 in
theorem spec_l13Threshold.calls (a0 : Int) (r : Bool) (w : World) (h : spec_l13Threshold.f a0 = some r) :
  Calls Try.prog 28 #[.int .i64 a0] w fun e w' => e = .returned (.bool r) ∧ Drawn0 w w' := by
 have H : ((spec_l1In.f a0 (-9000) 9000).bind fun t374 => (some t374)) = some r := h
 clear h
 obtain ⟨t374, A20, H⟩ := zob H
 replace H : (some t374) = some r := H
 have A2 := zm A20
 clear A20
 obtain rfl := Option.some.inj H
 go_enter Try.func28, Try.ntmps28
 go_wp2_with (first | ((with_reducible refine zyg (f := 29) rfl ?_); refine goesL_ (some 4) rfl rfl Try.func29 (by kernel_rfl) rfl #[.int .i64 a0, .int .i64 (-9000), .int .i64 9000] rfl zq0 ?_; (with_reducible refine (spec_l1In.calls a0 (-9000) 9000 t374 _ A2.out).mono ?_); rintro e w' ⟨rfl, ⟨nd, rfl⟩⟩; refine ⟨_, rfl, ?_⟩))
 go_ret
 exact ⟨by first | rfl | (simp; done) | (simp [*]; done), zq28⟩
end Go.Proofs.Ytfaihkhdbapjmaa.Q
