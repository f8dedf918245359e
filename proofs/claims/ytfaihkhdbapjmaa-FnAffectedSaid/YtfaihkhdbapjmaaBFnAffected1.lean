/- Texts of this claim, put together: walks of the program's functions, and plain facts. -/
import Derived.Test.YtfaihkhdbapjmaaZFnAffected
import Derived.Test.YtfaihkhdbapjmaaBFnAffected0
namespace Go.Proofs.Ytfaihkhdbapjmaa.Q
open Go.RowKit Go.Proofs.YtfaihkhdbapjmaaW.PrintWords Go.Proofs.YtfaihkhdbapjmaaW.PrintLast Go.Proofs.YtfaihkhdbapjmaaW.PrintMore
attribute [local go_sem] max2_int min2_int max_two min_two max_three min_three max_four min_four
set_option linter.unusedVariables false
set_option linter.unusedSimpArgs false
mutual
def spec_l1Cur_areaMap.l0 : Nat → Int → Int → Int → List Int → Int → Int → Int → Int → List Int → Option (Int × Int × List Int × Int × Int)
 | 0, _, _, _, _, _, _, _, _, _ => none
 | k + 1, x1, x2, x8, x1000, x1001, x1002, x117000, x117001, x117002 => if x8 < (wrap64 (x1 * x2)) then ((spec_l1Cur_among.f x1000 x1001 x1002 (([0, 1, 2, 3, 1, 2, 9] : List Int))).bind fun bt120 => (if x8 > 0 then ((spec_l1Cur_one.f x1000 bt120.2.1 bt120.2.2 2).bind fun bt123 => (spec_l1Cur_areaMap.j1 k x1 x2 x8 bt120.1 bt123.1 x1000 bt123.2.1 bt123.2.2 x117000 x117001 x117002)) else (spec_l1Cur_areaMap.j1 k x1 x2 x8 bt120.1 false x1000 bt120.2.1 bt120.2.2 x117000 x117001 x117002))) else (some (x117000, x117001, x117002, x1001, x1002))
def spec_l1Cur_areaMap.j1 : Nat → Int → Int → Int → Int → Bool → List Int → Int → Int → Int → Int → List Int → Option (Int × Int × List Int × Int × Int)
 | 0, _, _, _, _, _, _, _, _, _, _, _ => none
 | k + 1, x1, x2, x8, x9, x28, x1000, x1001, x1002, x117000, x117001, x117002 => if x28 = true then (if 0 ≤ (wrap64 (x8 - 1)) then (if (wrap64 (x8 - 1)) < (x117002.length : Int) then (if x117002.length < 17592186044416 then (spec_l1Cur_areaMap.l0 k x1 x2 (wrap64 (x8 + 1)) x1000 x1001 x1002 x117000 x117001 (x117002 ++ [rd x117002 (wrap64 (x8 - 1))])) else (none)) else (none)) else (none)) else (if x8 ≥ x1 then ((spec_l1Cur_one.f x1000 x1001 x1002 2).bind fun bt130 => (if bt130.1 = true then (if 0 ≤ (wrap64 (x8 - x1)) then (if (wrap64 (x8 - x1)) < (x117002.length : Int) then (if x117002.length < 17592186044416 then (spec_l1Cur_areaMap.l0 k x1 x2 (wrap64 (x8 + 1)) x1000 bt130.2.1 bt130.2.2 x117000 x117001 (x117002 ++ [rd x117002 (wrap64 (x8 - x1))])) else (none)) else (none)) else (none)) else (if x117002.length < 17592186044416 then (spec_l1Cur_areaMap.l0 k x1 x2 (wrap64 (x8 + 1)) x1000 bt130.2.1 bt130.2.2 x117000 x117001 (x117002 ++ [x9])) else (none)))) else (if x117002.length < 17592186044416 then (spec_l1Cur_areaMap.l0 k x1 x2 (wrap64 (x8 + 1)) x1000 x1001 x1002 x117000 x117001 (x117002 ++ [x9])) else (none)))
end
def spec_l1Cur_areaMap.f (k : Nat) (s0_0 : List Int) (s0_1 : Int) (s0_2 : Int) (a1 : Int) (a2 : Int) : Option (Int × Int × List Int × Int × Int) := spec_l1Cur_areaMap.l0 k a1 a2 0 s0_0 s0_1 s0_2 a1 a2 ([] : List Int)
set_option maxHeartbeats 8000000 in
set_option maxRecDepth 100000 in
theorem spec_l1Cur_areaMap.calls (k : Nat) (g : Nat) (s0_0 : List Int) (s0_1 : Int) (s0_2 : Int) (a1 : Int) (a2 : Int) (r1 : Int) (r2 : Int) (r3 : List Int) (r4 : Int) (r5 : Int) (w0 w : World) (hI : IsS46 w0 w g s0_0 s0_1 s0_2) (hB : Below w0.heap.size w0 w) (h : spec_l1Cur_areaMap.f k s0_0 s0_1 s0_2 a1 a2 = some (r1, r2, r3, r4, r5)) :
  Calls Try.prog 41 #[.pointer (some ⟨g, 0, none⟩), .int .i64 a1, .int .i64 a2] w fun e w' => ∃ v2_ : Value, e = .returned (.agg #[.int .i64 r1, .int .i64 r2, v2_]) ∧ Kd.R (Kd.int .i64) 3 w' w.heap.size (fun _ => True) v2_ r3 ∧ IsS46 w0 w' g s0_0 r4 r5 ∧ Below w0.heap.size w0 w' ∧ KeepBut w w' g none := by
 have hu26 := Try.underlying26
 have HI0 := zm hI
 have HK := zm (KeepBut.refl w g none)
 have HL := zm hB.size
 clear hI
 have HW0 := zm hB.size
 have HB := zm hB
 clear hB
 have H : (spec_l1Cur_areaMap.l0 k a1 a2 0 s0_0 s0_1 s0_2 a1 a2 ([] : List Int)) = some (r1, r2, r3, r4, r5) := h
 clear h
 have H' := zm H
 clear H
 go_enter Try.func41, Try.ntmps41
 go_wp2_with (first | ((with_reducible refine gate_dst (N := 6) rfl ?_); refine box_event ?hg (N := 6) ?hd (cs := #[.int .i64 0, .int .i64 0, .slice none 0 0]) (t := 26) ?hr ?_; (case hd => rfl); (case hg => rfl); (case hr => exact zqS); intro gb115 hg w4 hbox hb; replace HB := zm (zyh zq10 hb); have BK115 := zm (hbox); have GW115 := zm ((by rw [hg]; exact (keep_size (w := w) (g := g) (row := none) zq4) : w.heap.size ≤ gb115)); have GE115 := zm ((Nat.le_trans HW0.out (by rw [hg]; exact (keep_size (w := w) (g := g) (row := none) zq4) : w.heap.size ≤ gb115) : w0.heap.size ≤ gb115)); replace HK := zm (KeepBut.trans zq4 (KeepBut.of_below hb g none) (.inl rfl)); have NB0_115 := zm ((by rw [hg]; exact Nat.ne_of_lt (IsS46.lt (show IsS46 w0 _ g s0_0 s0_1 s0_2 from by repeat (first | (with_reducible first | exact HI0.out | apply zv1 | apply zv2 | apply zv3 | apply zv4 | apply zv5) | exact HI0.out))) : g ≠ gb115)); have NB115_0 := zm ((by rw [hg]; exact Nat.ne_of_gt (IsS46.lt (show IsS46 w0 _ g s0_0 s0_1 s0_2 from by repeat (first | (with_reducible first | exact HI0.out | apply zv1 | apply zv2 | apply zv3 | apply zv4 | apply zv5) | exact HI0.out))) : gb115 ≠ g)); replace HI0 := zm (IsS46.below zq15 hb); clear hb hbox hg) | ((with_reducible refine gate_dst (N := 7) rfl ?_); refine box_event ?hg (N := 7) ?hd (cs := #[.int .i64 0, .int .i64 0, .slice none 0 0]) (t := 26) ?hr ?_; (case hd => rfl); (case hg => rfl); (case hr => exact zqS); intro gb116 hg w5 hbox hb; replace HB := zm (zyh (by repeat (first | (with_reducible first | exact HB.out | apply zya | apply zyp | apply zyr | refine zys ?_ (IsS46.ge HI0.out) | refine zys ?_ GE115.out) | exact HB.out)) hb); have BK116 := zm (hbox); have GW116 := zm ((by rw [hg]; exact (keep_size (w := w) (g := g) (row := none) zq97) : w.heap.size ≤ gb116)); have GE116 := zm ((Nat.le_trans HW0.out (by rw [hg]; exact (keep_size (w := w) (g := g) (row := none) zq97) : w.heap.size ≤ gb116) : w0.heap.size ≤ gb116)); replace HK := zm (KeepBut.trans zq97 (KeepBut.of_below hb g none) (.inl rfl)); have NB115_116 := zm ((by rw [hg]; exact Nat.ne_of_lt (blk_lt (g := gb115) (o := zcA) (zqK BK115.out)) : gb115 ≠ gb116)); have NB116_115 := zm ((by rw [hg]; exact Nat.ne_of_gt (blk_lt (g := gb115) (o := zcA) (zqK BK115.out)) : gb116 ≠ gb115)); replace BK115 := zm (zyb (g := gb115) (o := zcA) (zqK BK115.out) hb); have NB0_116 := zm ((by rw [hg]; exact Nat.ne_of_lt (IsS46.lt (show IsS46 w0 _ g s0_0 s0_1 s0_2 from by repeat (first | (with_reducible first | exact HI0.out | apply zv1 | apply zv2 | apply zv3 | apply zv4 | apply zv5 | refine zv6 ?_ NB0_115.out _) | exact HI0.out))) : g ≠ gb116)); have NB116_0 := zm ((by rw [hg]; exact Nat.ne_of_gt (IsS46.lt (show IsS46 w0 _ g s0_0 s0_1 s0_2 from by repeat (first | (with_reducible first | exact HI0.out | apply zv1 | apply zv2 | apply zv3 | apply zv4 | apply zv5 | refine zv6 ?_ NB0_115.out _) | exact HI0.out))) : gb116 ≠ g)); replace HI0 := zm (IsS46.below (by repeat (first | (with_reducible first | exact HI0.out | apply zv1 | apply zv2 | apply zv3 | apply zv4 | apply zv5 | refine zv6 ?_ NB0_115.out _) | exact HI0.out)) hb); clear hb hbox hg; have hnb6 := NB116_115.out; have hnc6 := NB115_116.out; have hnb7 := NB116_0.out; have hnc7 := NB0_116.out; have hcz8_0 := bz BK116.out 0 (.int .i64 0); have hcz8_1 := bz BK116.out 1 (.int .i64 0); have hcz8_2 := bz BK116.out 2 (.slice none 0 0); have hfz8_0 := zyF BK116.out 0; have hfz8_1 := zyF BK116.out 1; have hfz8_2 := zyF BK116.out 2))
 go_loopg [8] k (fun kq v8 w' => ∃ (x8_1 : Int) (x1001_1 : Int) (x1002_1 : Int) (x117002_1 : List Int) (u117002 : Value), v8 = .int .i64 x8_1 ∧ Aside0 (spec_l1Cur_areaMap.l0 kq a1 a2 x8_1 s0_0 x1001_1 x1002_1 a1 a2 x117002_1 = some (r1, r2, r3, r4, r5)) ∧ Aside0 (kq ≤ k) ∧ Aside0 (Kd.R (Kd.int .i64) 3 w' w.heap.size (fun _ => True) u117002 x117002_1) ∧ Aside0 (w'.heap[gb115]? = some (.cells #[.int .i64 0, .int .i64 0, (.slice none 0 0)] 26 (0, 0))) ∧ Aside0 (w'.heap[gb116]? = some (.cells #[.int .i64 a1, .int .i64 a2, u117002] 26 (0, 0))) ∧ Aside0 (IsS46 w0 w' g s0_0 x1001_1 x1002_1) ∧ Aside0 (KeepBut w w' g none) ∧ Aside0 (Below w0.heap.size w0 w'))
 case atStart => exact ⟨(0), (s0_1), (s0_2), (([] : List Int)), (.slice none 0 0), (by first | rfl | (simp; done) | (simp [*]; done)), H', ⟨Nat.le_refl _⟩, ⟨by first | exact Kd.R_nil _ _ _ _ _ | exact Kd.N_nil _ _ _ _ _ | exact Kd.V_nil _ _ _ _ _ | exact Kd.Q_nil _ _ _ _ _ | exact Kd.S_nil _ _ _ _ _⟩, ⟨by (with_reducible repeat (first | apply zN | apply zD | apply zL)); refine zye ?_ NB115_116.out _; (with_reducible repeat (first | apply zN | apply zD | apply zL)); refine zye ?_ NB115_116.out _; (with_reducible repeat (first | apply zN | apply zD | apply zL)); refine zye ?_ NB115_116.out _; (with_reducible repeat (first | apply zN | apply zD | apply zL)); exact BK115.out⟩, ⟨by (with_reducible repeat (first | apply zN | apply zD | apply zL)); refine blk_put (cs := #[.int .i64 a1, .int .i64 a2, .slice none 0 0]) ?_ 2 _ rfl; (with_reducible repeat (first | apply zN | apply zD | apply zL)); refine blk_put (cs := #[.int .i64 a1, .int .i64 0, .slice none 0 0]) ?_ 1 _ rfl; (with_reducible repeat (first | apply zN | apply zD | apply zL)); refine blk_put (cs := #[.int .i64 0, .int .i64 0, .slice none 0 0]) ?_ 0 _ rfl; (with_reducible repeat (first | apply zN | apply zD | apply zL)); exact BK116.out⟩, ⟨zq22⟩, ⟨zq8⟩, ⟨zq24⟩⟩
 clear H'
 try clear p2
 try clear c4
 try clear c6
 try clear c7
 try clear hcz8_0
 try clear hcz8_1
 try clear hcz8_2
 try clear hfz8_0
 try clear hfz8_1
 try clear hfz8_2
 obtain ⟨x8_1, x1001_1, x1002_1, x117002_1, u117002, rfl, HA, HK1, HO_117002, BK115, BK116, HI0, HK, HB⟩ := hrel
 cases gk with
 | zero => exact absurd HA.out (by simp [spec_l1Cur_areaMap.l0])
 | succ k1 =>
  have H := HA.out
  clear HA
  simp only [spec_l1Cur_areaMap.l0] at H
  by_cases c9 : x8_1 < (wrap64 (a1 * a2))
  case neg =>
   rw [if_neg c9] at H
   have c9b0 : decide (x8_1 < (wrap64 (a1 * a2))) = false := decide_eq_false c9
   clear c9
   simp only [Option.some.injEq, Prod.mk.injEq] at H
   obtain ⟨rfl, rfl, rfl, rfl, rfl⟩ := H
   have hnb61 := NB116_115.out
   have hnc61 := NB115_116.out
   have hnb62 := NB116_0.out
   have hnc62 := NB0_116.out
   have hcz63_0 := bz BK116.out 0 (.int .i64 a1)
   have hcz63_1 := bz BK116.out 1 (.int .i64 a2)
   have hcz63_2 := bz BK116.out 2 (u117002)
   have hfz63_0 := zyF BK116.out 0
   have hfz63_1 := zyF BK116.out 1
   have hfz63_2 := zyF BK116.out 2
   have hnb64 := NB115_0.out
   have hnc64 := NB0_115.out
   have hcz65_0 := bz BK115.out 0 (.int .i64 0)
   have hcz65_1 := bz BK115.out 1 (.int .i64 0)
   have hcz65_2 := bz BK115.out 2 (.slice none 0 0)
   have hfz65_0 := zyF BK115.out 0
   have hfz65_1 := zyF BK115.out 1
   have hfz65_2 := zyF BK115.out 2
   obtain ⟨Ao66, co66, eo66⟩ := Kd.R_slice HO_117002.out
   subst eo66
   go_wp2
   refine bodyPost_ret (results_cell_row rfl _ _ gb115 26 #[.int .i64 a1, .int .i64 a2, .slice Ao66 x117002_1.length co66] (0, 0) _ rfl (by (with_reducible repeat (first | apply zN | apply zD | apply zL)); refine blk_put (cs := #[.int .i64 a1, .int .i64 a2, .slice none 0 0]) ?_ 2 _ rfl; (with_reducible repeat (first | apply zN | apply zD | apply zL)); refine blk_put (cs := #[.int .i64 a1, .int .i64 0, .slice none 0 0]) ?_ 1 _ rfl; (with_reducible repeat (first | apply zN | apply zD | apply zL)); refine blk_put (cs := #[.int .i64 0, .int .i64 0, .slice none 0 0]) ?_ 0 _ rfl; (with_reducible repeat (first | apply zN | apply zD | apply zL)); exact BK115.out) Try.underlying26 rfl (by kernel_rfl)) rfl ?_
   exact ⟨_, by first | rfl | (simp [errW_none, errW_some] <;> rfl) | (simp [*, errW_none, errW_some] <;> rfl), by (with_reducible repeat (first | apply Kd.R_alloc | apply Kd.R_drewN | apply Kd.R_drew)); exact Kd.R_mono (Kd.R_far (p := ⟨gb115, 2, none⟩) (Kd.R_far (p := ⟨gb115, 1, none⟩) (Kd.R_far (p := ⟨gb115, 0, none⟩) (Kd.R_types HO_117002.out BK115.out (by decide)) (fun _ hk => hk.2) (.int .i64 a1)) (fun _ hk => hk.2) (.int .i64 a2)) (fun _ hk => hk.2) (.slice Ao66 x117002_1.length co66)) (fun _ hk => trivial), zq22, zq24, zq8⟩
  rw [if_pos c9] at H
  have c9b0 : decide (x8_1 < (wrap64 (a1 * a2))) = true := decide_eq_true c9
  clear c9
  obtain ⟨y117, hy117⟩ : ∃ y_ : List Int, y_ = (([0, 1, 2, 3, 1, 2, 9] : List Int)) := ⟨_, rfl⟩
  replace H : ((spec_l1Cur_among.f s0_0 x1001_1 x1002_1 y117).bind fun bt120 => (if x8_1 > 0 then ((spec_l1Cur_one.f s0_0 bt120.2.1 bt120.2.2 2).bind fun bt123 => (spec_l1Cur_areaMap.j1 k1 a1 a2 x8_1 bt120.1 bt123.1 s0_0 bt123.2.1 bt123.2.2 a1 a2 x117002_1)) else (spec_l1Cur_areaMap.j1 k1 a1 a2 x8_1 bt120.1 false s0_0 bt120.2.1 bt120.2.2 a1 a2 x117002_1))) = some (r1, r2, r3, r4, r5) := zqH hy117 H
  have Ny117 := zm hy117
  clear hy117
  obtain ⟨⟨t120, t121, t122⟩, A100, H⟩ := zob H
  replace H : (if x8_1 > 0 then ((spec_l1Cur_one.f s0_0 t121 t122 2).bind fun bt123 => (spec_l1Cur_areaMap.j1 k1 a1 a2 x8_1 t120 bt123.1 s0_0 bt123.2.1 bt123.2.2 a1 a2 x117002_1)) else (spec_l1Cur_areaMap.j1 k1 a1 a2 x8_1 t120 false s0_0 t121 t122 a1 a2 x117002_1)) = some (r1, r2, r3, r4, r5) := H
  have A10 := zm A100
  clear A100
  have HC11 := zm H
  clear H
  go_upto_region 6 with (first | ((with_reducible refine gate_dst (N := 21) rfl ?_); refine Kd.R_lit (Kd.int .i64) _ 3 ?hg (N := 21) ?hd (xs := ([0, 1, 2, 3, 1, 2, 9] : List Int)) (inner := [.int .i64 0, .int .i64 1, .int .i64 2, .int .i64 3, .int .i64 1, .int .i64 2, .int .i64 9]) (ok := fun _ => True) (okp := fun _ => True) ?hr ?hp (fun _ hk => hk) trivial (Below.refl _ _) (Nat.le_refl _) (by simp) ?_; (case hd => rfl); (case hg => rfl); (case hr => exact zqS); (case hp => exact (Reps.one (show Kd.M (Kd.int .i64) _ _ _ 0 [.int .i64 0] from rfl) (Reps.one (show Kd.M (Kd.int .i64) _ _ _ 1 [.int .i64 1] from rfl) (Reps.one (show Kd.M (Kd.int .i64) _ _ _ 2 [.int .i64 2] from rfl) (Reps.one (show Kd.M (Kd.int .i64) _ _ _ 3 [.int .i64 3] from rfl) (Reps.one (show Kd.M (Kd.int .i64) _ _ _ 1 [.int .i64 1] from rfl) (Reps.one (show Kd.M (Kd.int .i64) _ _ _ 2 [.int .i64 2] from rfl) (Reps.one (show Kd.M (Kd.int .i64) _ _ _ 9 [.int .i64 9] from rfl) (Reps.none _ _))))))))); intro v118 w12 ho13 hb hg_ hnew_; clear hg_ hnew_; (first | rw [← Ny117.out] at ho13 | (simp only [Int.reduceToNat] at ho13; rw [← Ny117.out] at ho13)); have HO119 := zm (Kd.R_lower (Kd.R_new' ho13 (Kd.R_lt (zqR HO_117002.out))) (keep_size (w := w) (g := g) (row := none) zq8)); replace HO_117002 := zm (Kd.R_elder' (zqR HO_117002.out) (Kd.R_base ho13) hb); replace BK115 := zm (zyb (g := gb115) (o := zcA) (zqK BK115.out) hb); replace BK116 := zm (zyb (g := gb116) (o := .cells #[.int .i64 a1, .int .i64 a2, u117002] 26 (0, 0)) (zqK BK116.out) hb); replace HK := zm (KeepBut.trans zq8 (KeepBut.of_below hb g none) (.inl rfl)); replace HB := zm (zyh zq24 hb); replace HI0 := zm (IsS46.below zq22 hb); clear hb ho13; obtain ⟨Ao14, co14, eo14⟩ := Kd.R_slice HO119.out; subst eo14) | ((with_reducible refine zyg (f := 19) rfl ?_); refine goesL_ (some 22) rfl rfl Try.func19 (by kernel_rfl) rfl #[.pointer (some ⟨g, 0, none⟩), .slice Ao14 y117.length co14] rfl zq0 ?_; (with_reducible refine (spec_l1Cur_among.calls g s0_0 x1001_1 x1002_1 _ _ y117 t120 t121 t122 w0 _ ?side1 ?side2 ?side3 ?side4 ?side5 A10.out).mono ?_); (case side1 => repeat (first | (with_reducible first | exact HI0.out | apply zv1 | apply zv2 | apply zv3 | apply zv4 | apply zv5 | refine zv6 ?_ NB0_115.out _ | refine zv6 ?_ NB0_116.out _) | exact HI0.out)); (case side2 => repeat (first | (with_reducible first | exact HB.out | apply zya | apply zyp | apply zyr | refine zys ?_ (IsS46.ge HI0.out) | refine zys ?_ GE115.out | refine zys ?_ GE116.out) | exact HB.out)); (case side3 => exact zqC (Kd.R_reads' HO119.out).2.2); (case side4 => exact (Kd.R_reads' HO119.out).2.1); (case side5 => exact far_slice (IsS46.own_ne HI0.out HO119.out (by decide))); rintro e w15 ⟨rfl, hi, hb, hk⟩; refine ⟨_, rfl, ?_⟩; replace HO_117002 := zm (Kd.R_mono (Kd.R_keep (IsS46.apart (show IsS46 w0 _ g s0_0 x1001_1 x1002_1 from by repeat (first | (with_reducible first | exact HI0.out | apply zv1 | apply zv2 | apply zv3 | apply zv4 | apply zv5 | refine zv6 ?_ NB0_115.out _ | refine zv6 ?_ NB0_116.out _) | exact HI0.out)) (zqR HO_117002.out) (by decide)) hk (fun _ h => h.2)) (fun _ h => h.1)); replace BK115 := zm (KeepBut.blk hk (g' := gb115) (o := zcA) (zqK BK115.out) NB115_0.out (by simp)); replace BK116 := zm (KeepBut.blk hk (g' := gb116) (o := .cells #[.int .i64 a1, .int .i64 a2, u117002] 26 (0, 0)) (zqK BK116.out) NB116_0.out (by simp)); replace HO119 := zm (Kd.R_mono (Kd.R_keep (IsS46.apart (show IsS46 w0 _ g s0_0 x1001_1 x1002_1 from by repeat (first | (with_reducible first | exact HI0.out | apply zv1 | apply zv2 | apply zv3 | apply zv4 | apply zv5 | refine zv6 ?_ NB0_115.out _ | refine zv6 ?_ NB0_116.out _) | exact HI0.out)) (zqR HO119.out) (by decide)) hk (fun _ h => h.2)) (fun _ h => h.1)); replace HK := zm (KeepBut.trans zq8 hk (.inl rfl)); replace HB := zm (hb); replace HI0 := zm (hi); (try clear hb); (try clear hb2); (try clear hk); (try clear hi)))
  (try simp only [Act.put, List.setIfInBounds_toArray, List.set_cons_zero, List.set_cons_succ])
  go_cut [28] (fun v28 wc => ∃ (kq : Nat) (x28_10 : Bool) (x1001_10 : Int) (x1002_10 : Int), v28 = .bool x28_10 ∧ Aside0 (spec_l1Cur_areaMap.j1 kq a1 a2 x8_1 t120 x28_10 s0_0 x1001_10 x1002_10 a1 a2 x117002_1 = some (r1, r2, r3, r4, r5)) ∧ Aside0 (kq ≤ k1) ∧ Aside0 (Kd.R (Kd.int .i64) 3 wc w.heap.size (fun _ => True) u117002 x117002_1) ∧ Aside0 (wc.heap[gb115]? = some (.cells #[.int .i64 0, .int .i64 0, (.slice none 0 0)] 26 (0, 0))) ∧ Aside0 (wc.heap[gb116]? = some (.cells #[.int .i64 a1, .int .i64 a2, u117002] 26 (0, 0))) ∧ Aside0 (IsS46 w0 wc g s0_0 x1001_10 x1002_10) ∧ Aside0 (KeepBut w wc g none) ∧ Aside0 (Below w0.heap.size w0 wc))
  case first =>
   have H := HC11.out
   clear HC11
   by_cases c16 : x8_1 > 0
   case neg =>
    rw [if_neg c16] at H
    have c16b0 : decide (0 < x8_1) = false := decide_eq_false c16
    clear c16
    (first | rw [c16b0] | (simp only [i64_w, i32_w]; rw [c16b0]) | skip)
    have H' := zm H
    clear H
    go_wp2
    go_meet
    case rel => exact ⟨_, (false), (t121), (t122), (by first | rfl | (simp; done) | (simp [*]; done)), H', ⟨by have := HK1.out; first | omega | exact Nat.le_refl _⟩, ⟨by (with_reducible repeat (first | apply Kd.R_alloc | apply Kd.R_drewN | apply Kd.R_drew)); exact Kd.R_mono HO_117002.out (fun _ hk => trivial)⟩, ⟨by (with_reducible repeat (first | apply zN | apply zD | apply zL)); exact BK115.out⟩, ⟨by (with_reducible repeat (first | apply zN | apply zD | apply zL)); exact BK116.out⟩, ⟨zq22⟩, ⟨zq8⟩, ⟨zq24⟩⟩
   rw [if_pos c16] at H
   have c16b0 : decide (0 < x8_1) = true := decide_eq_true c16
   clear c16
   (first | rw [c16b0] | (simp only [i64_w, i32_w]; rw [c16b0]) | skip)
   obtain ⟨⟨t123, t124, t125⟩, A170, H⟩ := zob H
   replace H : (spec_l1Cur_areaMap.j1 k1 a1 a2 x8_1 t120 t123 s0_0 t124 t125 a1 a2 x117002_1) = some (r1, r2, r3, r4, r5) := H
   have A17 := zm A170
   clear A170
   have H' := zm H
   clear H
   go_wp2_with (first | (go_at_call 42; (with_reducible refine (spec_l1Cur_one.calls g s0_0 t121 t122 2 t123 t124 t125 w0 _ ?side1 ?side2 A17.out).mono ?_); (case side1 => repeat (first | (with_reducible first | exact HI0.out | apply zv1 | apply zv2 | apply zv3 | apply zv4 | apply zv5 | refine zv6 ?_ NB0_115.out _ | refine zv6 ?_ NB0_116.out _) | exact HI0.out)); (case side2 => repeat (first | (with_reducible first | exact HB.out | apply zya | apply zyp | apply zyr | refine zys ?_ (IsS46.ge HI0.out) | refine zys ?_ GE115.out | refine zys ?_ GE116.out) | exact HB.out)); rintro e w18 ⟨rfl, hi, hb, hk⟩; replace HO_117002 := zm (Kd.R_mono (Kd.R_keep (IsS46.apart (show IsS46 w0 _ g s0_0 t121 t122 from by repeat (first | (with_reducible first | exact HI0.out | apply zv1 | apply zv2 | apply zv3 | apply zv4 | apply zv5 | refine zv6 ?_ NB0_115.out _ | refine zv6 ?_ NB0_116.out _) | exact HI0.out)) (zqR HO_117002.out) (by decide)) hk (fun _ h => h.2)) (fun _ h => h.1)); replace BK115 := zm (KeepBut.blk hk (g' := gb115) (o := zcA) (zqK BK115.out) NB115_0.out (by simp)); replace BK116 := zm (KeepBut.blk hk (g' := gb116) (o := .cells #[.int .i64 a1, .int .i64 a2, u117002] 26 (0, 0)) (zqK BK116.out) NB116_0.out (by simp)); replace HO119 := zm (Kd.R_mono (Kd.R_keep (IsS46.apart (show IsS46 w0 _ g s0_0 t121 t122 from by repeat (first | (with_reducible first | exact HI0.out | apply zv1 | apply zv2 | apply zv3 | apply zv4 | apply zv5 | refine zv6 ?_ NB0_115.out _ | refine zv6 ?_ NB0_116.out _) | exact HI0.out)) (zqR HO119.out) (by decide)) hk (fun _ h => h.2)) (fun _ h => h.1)); replace HK := zm (KeepBut.trans zq8 hk (.inl rfl)); replace HB := zm (hb); replace HI0 := zm (hi); (try clear hb); (try clear hb2); (try clear hk); (try clear hi)))
   go_meet
   case rel => exact ⟨_, (t123), (t124), (t125), (by first | rfl | (simp; done) | (simp [*]; done)), H', ⟨by have := HK1.out; first | omega | exact Nat.le_refl _⟩, ⟨by (with_reducible repeat (first | apply Kd.R_alloc | apply Kd.R_drewN | apply Kd.R_drew)); exact Kd.R_mono HO_117002.out (fun _ hk => trivial)⟩, ⟨by (with_reducible repeat (first | apply zN | apply zD | apply zL)); exact BK115.out⟩, ⟨by (with_reducible repeat (first | apply zN | apply zD | apply zL)); exact BK116.out⟩, ⟨zq22⟩, ⟨zq8⟩, ⟨zq24⟩⟩
  clear HC11
  try clear c1
  try clear p2
  try clear c4
  try clear c6
  try clear p6
  try clear c7
  try clear c9
  try clear c9b0
  try clear c16
  try clear c16b0
  try clear hcz8_0
  try clear hcz8_1
  try clear hcz8_2
  try clear hfz8_0
  try clear hfz8_1
  try clear hfz8_2
  try clear p2
  obtain ⟨kq, x28_10, x1001_10, x1002_10, rfl, HA, HJ10, HO_117002, BK115, BK116, HI0, HK, HB⟩ := hcut
  cases kq with
  | zero => exact absurd HA.out (by simp [spec_l1Cur_areaMap.j1])
  | succ kj10 =>
   have H := HA.out
   clear HA
   simp only [spec_l1Cur_areaMap.j1] at H
   by_cases c19 : x28_10 = true
   case pos =>
    subst c19
    have H1 : (if 0 ≤ (wrap64 (x8_1 - 1)) then (if (wrap64 (x8_1 - 1)) < (x117002_1.length : Int) then (if x117002_1.length < 17592186044416 then (spec_l1Cur_areaMap.l0 kj10 a1 a2 (wrap64 (x8_1 + 1)) s0_0 x1001_10 x1002_10 a1 a2 (x117002_1 ++ [rd x117002_1 (wrap64 (x8_1 - 1))])) else (none)) else (none)) else (none)) = some (r1, r2, r3, r4, r5) := by rw [if_pos rfl] at H; exact H
    clear H
    have H := H1
    clear H1
    obtain ⟨ji20, hji20⟩ : ∃ j_ : Int, (wrap64 (x8_1 - 1)) = j_ := ⟨_, rfl⟩
    replace H : (if 0 ≤ (ji20) then (if (ji20) < (x117002_1.length : Int) then (if x117002_1.length < 17592186044416 then (spec_l1Cur_areaMap.l0 kj10 a1 a2 (wrap64 (x8_1 + 1)) s0_0 x1001_10 x1002_10 a1 a2 (x117002_1 ++ [rd x117002_1 (ji20)])) else (none)) else (none)) else (none)) = some (r1, r2, r3, r4, r5) := by first | (rw [hji20] at H; exact H) | (simp only [hji20] at H ⊢; exact H)
    have hji20w : (IntKind.i64.wrap (x8_1 - 1)) = ji20 := (i64_w _).trans hji20
    by_cases c21 : 0 ≤ (ji20)
    case neg =>
     rw [if_neg c21] at H
     exact absurd H (by simp)
    rw [if_pos c21] at H
    have c21b0 : decide (0 ≤ (ji20)) = true := decide_eq_true c21
    clear c21
    by_cases c22 : (ji20) < (x117002_1.length : Int)
    case neg =>
     rw [if_neg c22] at H
     exact absurd H (by simp)
    rw [if_pos c22] at H
    have c22b0 : decide ((ji20) < (x117002_1.length : Int)) = true := decide_eq_true c22
    clear c22
    by_cases c23 : x117002_1.length < 17592186044416
    case neg =>
     rw [if_neg c23] at H
     exact absurd H (by simp)
    rw [if_pos c23] at H
    have LMc23 := zm c23
    clear c23
    obtain ⟨y127, hy127⟩ : ∃ y_ : List Int, y_ = (x117002_1 ++ [rd x117002_1 (ji20)]) := ⟨_, rfl⟩
    replace H : (spec_l1Cur_areaMap.l0 kj10 a1 a2 (wrap64 (x8_1 + 1)) s0_0 x1001_10 x1002_10 a1 a2 y127) = some (r1, r2, r3, r4, r5) := zqH hy127 H
    have Ny127 := zm hy127
    clear hy127
    have H' := zm H
    clear H
    have hnb24 := NB116_115.out
    have hnc24 := NB115_116.out
    have hnb25 := NB116_0.out
    have hnc25 := NB0_116.out
    have hcz26_0 := bz BK116.out 0 (.int .i64 a1)
    have hcz26_1 := bz BK116.out 1 (.int .i64 a2)
    have hcz26_2 := bz BK116.out 2 (u117002)
    have hfz26_0 := zyF BK116.out 0
    have hfz26_1 := zyF BK116.out 1
    have hfz26_2 := zyF BK116.out 2
    obtain ⟨Ao27, co27, eo27⟩ := Kd.R_slice HO_117002.out
    subst eo27
    have p126 : 0 ≤ ((ji20) : Int) := of_decide_eq_true zq6
    have q126 : (ji20) < (x117002_1.length : Int) := of_decide_eq_true zq6
    obtain ⟨ad126, e126, hx126_0⟩ := Kd.at_int (Kd.R_reads' HO_117002.out).2.2 (ji20) p126 q126
    cases e126
    replace p126 := eq_true p126
    replace q126 := eq_true q126
    go_wp2_with (first | ((with_reducible refine gate_builtin (b := .append) (xs := #[.tmp 50, .tmp 52]) rfl ?_); at_builtin; refine Kd.R_append (Kd.int .i64) w.heap.size rfl (.tmp 50) (.tmp 52) 24 3 (.int .i64 0) 8 rfl Try.underlying24 info3 rfl (by decide) (by omega) (.slice (some ad126) x117002_1.length co27) x117002_1 (rd x117002_1 (ji20)) [.int .i64 (rd x117002_1 (ji20))] (fun _ => True) (fun _ => False) rfl rfl ?aP (fun _ hk => hk.elim) ?aF ?aO (Below.refl _ _) ?aS ?aL ?_; (case aP => exact rfl); (case aF => exact (fun _ _ => trivial)); (case aO => exact (zqR HO_117002.out)); (case aS => exact (keep_size (w := w) (g := g) (row := none) zq8)); (case aL => have := LMc23.out; omega); intro v128 w28 ho hb hg hat; rw [← Ny127.out] at ho; replace BK115 := zm (blk_grown (g := gb115) (o := zcA) (zqK BK115.out) hg (Kd.R_ne HO_117002.out BK115.out (by decide))); replace BK116 := zm (blk_grown (g := gb116) (o := .cells #[.int .i64 a1, .int .i64 a2, .slice (some ad126) x117002_1.length co27] 26 (0, 0)) (zqK BK116.out) hg (Kd.R_ne HO_117002.out BK116.out (by decide))); replace HB := zm (below_weaken zq24 HL.out hb); replace HI0 := zm (IsS46.grown zq22 hg (IsS46.own_ne HI0.out HO_117002.out (by decide))); replace HK := zm (KeepBut.trans zq8 (KeepBut.of_grown hg g) (Kd.R_base2 HO_117002.out)); have HO129 := zm (ho); clear HO_117002; clear ho hb hg hat; obtain ⟨Ao29, co29, eo29⟩ := Kd.R_slice HO129.out; subst eo29; have hcz30_0 := bz BK116.out 0 (.int .i64 a1); have hcz30_1 := bz BK116.out 1 (.int .i64 a2); have hcz30_2 := bz BK116.out 2 (.slice (some ad126) x117002_1.length co27); have hfz30_0 := zyF BK116.out 0; have hfz30_1 := zyF BK116.out 1; have hfz30_2 := zyF BK116.out 2))
    go_roundg kj10
    case measure => have := HK1.out; have := HJ10.out; omega
    case rel => exact ⟨(wrap64 (x8_1 + 1)), (x1001_10), (x1002_10), (y127), (.slice Ao29 y127.length co29), (by first | rfl | (simp; done) | (simp [*]; done)), H', ⟨by have := HK1.out; have := HJ10.out; omega⟩, ⟨by (with_reducible repeat (first | apply Kd.R_alloc | apply Kd.R_drewN | apply Kd.R_drew)); exact Kd.R_mono (Kd.R_far (p := ⟨gb116, 2, none⟩) (Kd.R_types HO129.out BK116.out (by decide)) (fun _ hk => hk.2) (.slice Ao29 y127.length co29)) (fun _ hk => trivial)⟩, ⟨by (with_reducible repeat (first | apply zN | apply zD | apply zL)); refine zye ?_ NB115_116.out _; (with_reducible repeat (first | apply zN | apply zD | apply zL)); exact BK115.out⟩, ⟨by (with_reducible repeat (first | apply zN | apply zD | apply zL)); refine blk_put (cs := #[.int .i64 a1, .int .i64 a2, .slice (some ad126) x117002_1.length co27]) ?_ 2 _ rfl; (with_reducible repeat (first | apply zN | apply zD | apply zL)); exact BK116.out⟩, ⟨zq22⟩, ⟨zq8⟩, ⟨zq24⟩⟩
   replace c19 := Bool.eq_false_iff.mpr c19
   subst c19
   have H1 : (if x8_1 ≥ a1 then ((spec_l1Cur_one.f s0_0 x1001_10 x1002_10 2).bind fun bt130 => (if bt130.1 = true then (if 0 ≤ (wrap64 (x8_1 - a1)) then (if (wrap64 (x8_1 - a1)) < (x117002_1.length : Int) then (if x117002_1.length < 17592186044416 then (spec_l1Cur_areaMap.l0 kj10 a1 a2 (wrap64 (x8_1 + 1)) s0_0 bt130.2.1 bt130.2.2 a1 a2 (x117002_1 ++ [rd x117002_1 (wrap64 (x8_1 - a1))])) else (none)) else (none)) else (none)) else (if x117002_1.length < 17592186044416 then (spec_l1Cur_areaMap.l0 kj10 a1 a2 (wrap64 (x8_1 + 1)) s0_0 bt130.2.1 bt130.2.2 a1 a2 (x117002_1 ++ [t120])) else (none)))) else (if x117002_1.length < 17592186044416 then (spec_l1Cur_areaMap.l0 kj10 a1 a2 (wrap64 (x8_1 + 1)) s0_0 x1001_10 x1002_10 a1 a2 (x117002_1 ++ [t120])) else (none))) = some (r1, r2, r3, r4, r5) := by rw [if_neg (show ¬ (false = true) by decide)] at H; exact H
   clear H
   have H := H1
   clear H1
   by_cases c31 : x8_1 ≥ a1
   case neg =>
    rw [if_neg c31] at H
    have c31b0 : decide (a1 ≤ x8_1) = false := decide_eq_false c31
    clear c31
    by_cases c54 : x117002_1.length < 17592186044416
    case neg =>
     rw [if_neg c54] at H
     exact absurd H (by simp)
    rw [if_pos c54] at H
    have LMc54 := zm c54
    clear c54
    obtain ⟨y140, hy140⟩ : ∃ y_ : List Int, y_ = (x117002_1 ++ [t120]) := ⟨_, rfl⟩
    replace H : (spec_l1Cur_areaMap.l0 kj10 a1 a2 (wrap64 (x8_1 + 1)) s0_0 x1001_10 x1002_10 a1 a2 y140) = some (r1, r2, r3, r4, r5) := zqH hy140 H
    have Ny140 := zm hy140
    clear hy140
    have H' := zm H
    clear H
    have hnb55 := NB116_115.out
    have hnc55 := NB115_116.out
    have hnb56 := NB116_0.out
    have hnc56 := NB0_116.out
    have hcz57_0 := bz BK116.out 0 (.int .i64 a1)
    have hcz57_1 := bz BK116.out 1 (.int .i64 a2)
    have hcz57_2 := bz BK116.out 2 (u117002)
    have hfz57_0 := zyF BK116.out 0
    have hfz57_1 := zyF BK116.out 1
    have hfz57_2 := zyF BK116.out 2
    go_wp2_with (first | ((with_reducible refine gate_builtin (b := .append) (xs := #[.tmp 50, .tmp 52]) rfl ?_); at_builtin; refine Kd.R_append (Kd.int .i64) w.heap.size rfl (.tmp 50) (.tmp 52) 24 3 (.int .i64 0) 8 rfl Try.underlying24 info3 rfl (by decide) (by omega) u117002 x117002_1 t120 [.int .i64 t120] (fun _ => True) (fun _ => False) rfl rfl ?aP (fun _ hk => hk.elim) ?aF ?aO (Below.refl _ _) ?aS ?aL ?_; (case aP => exact rfl); (case aF => exact (fun _ _ => trivial)); (case aO => exact (zqR HO_117002.out)); (case aS => exact (keep_size (w := w) (g := g) (row := none) zq8)); (case aL => have := LMc54.out; omega); intro v141 w58 ho hb hg hat; rw [← Ny140.out] at ho; replace BK115 := zm (blk_grown (g := gb115) (o := zcA) (zqK BK115.out) hg (Kd.R_ne HO_117002.out BK115.out (by decide))); replace BK116 := zm (blk_grown (g := gb116) (o := .cells #[.int .i64 a1, .int .i64 a2, u117002] 26 (0, 0)) (zqK BK116.out) hg (Kd.R_ne HO_117002.out BK116.out (by decide))); replace HB := zm (below_weaken zq24 HL.out hb); replace HI0 := zm (IsS46.grown zq22 hg (IsS46.own_ne HI0.out HO_117002.out (by decide))); replace HK := zm (KeepBut.trans zq8 (KeepBut.of_grown hg g) (Kd.R_base2 HO_117002.out)); have HO142 := zm (ho); clear HO_117002; clear ho hb hg hat; obtain ⟨Ao59, co59, eo59⟩ := Kd.R_slice HO142.out; subst eo59; have hcz60_0 := bz BK116.out 0 (.int .i64 a1); have hcz60_1 := bz BK116.out 1 (.int .i64 a2); have hcz60_2 := bz BK116.out 2 (u117002); have hfz60_0 := zyF BK116.out 0; have hfz60_1 := zyF BK116.out 1; have hfz60_2 := zyF BK116.out 2))
    go_roundg kj10
    case measure => have := HK1.out; have := HJ10.out; omega
    case rel => exact ⟨(wrap64 (x8_1 + 1)), (x1001_10), (x1002_10), (y140), (.slice Ao59 y140.length co59), (by first | rfl | (simp; done) | (simp [*]; done)), H', ⟨by have := HK1.out; have := HJ10.out; omega⟩, ⟨by (with_reducible repeat (first | apply Kd.R_alloc | apply Kd.R_drewN | apply Kd.R_drew)); exact Kd.R_mono (Kd.R_far (p := ⟨gb116, 2, none⟩) (Kd.R_types HO142.out BK116.out (by decide)) (fun _ hk => hk.2) (.slice Ao59 y140.length co59)) (fun _ hk => trivial)⟩, ⟨by (with_reducible repeat (first | apply zN | apply zD | apply zL)); refine zye ?_ NB115_116.out _; (with_reducible repeat (first | apply zN | apply zD | apply zL)); exact BK115.out⟩, ⟨by (with_reducible repeat (first | apply zN | apply zD | apply zL)); refine blk_put (cs := #[.int .i64 a1, .int .i64 a2, u117002]) ?_ 2 _ rfl; (with_reducible repeat (first | apply zN | apply zD | apply zL)); exact BK116.out⟩, ⟨zq22⟩, ⟨zq8⟩, ⟨zq24⟩⟩
   rw [if_pos c31] at H
   have c31b0 : decide (a1 ≤ x8_1) = true := decide_eq_true c31
   clear c31
   obtain ⟨⟨t130, t131, t132⟩, A320, H⟩ := zob H
   replace H : (if t130 = true then (if 0 ≤ (wrap64 (x8_1 - a1)) then (if (wrap64 (x8_1 - a1)) < (x117002_1.length : Int) then (if x117002_1.length < 17592186044416 then (spec_l1Cur_areaMap.l0 kj10 a1 a2 (wrap64 (x8_1 + 1)) s0_0 t131 t132 a1 a2 (x117002_1 ++ [rd x117002_1 (wrap64 (x8_1 - a1))])) else (none)) else (none)) else (none)) else (if x117002_1.length < 17592186044416 then (spec_l1Cur_areaMap.l0 kj10 a1 a2 (wrap64 (x8_1 + 1)) s0_0 t131 t132 a1 a2 (x117002_1 ++ [t120])) else (none))) = some (r1, r2, r3, r4, r5) := H
   have A32 := zm A320
   clear A320
   by_cases c33 : t130 = true
   case neg =>
    replace c33 := Bool.eq_false_iff.mpr c33
    subst c33
    have H1 : (if x117002_1.length < 17592186044416 then (spec_l1Cur_areaMap.l0 kj10 a1 a2 (wrap64 (x8_1 + 1)) s0_0 t131 t132 a1 a2 (x117002_1 ++ [t120])) else (none)) = some (r1, r2, r3, r4, r5) := by rw [if_neg (show ¬ (false = true) by decide)] at H; exact H
    clear H
    have H := H1
    clear H1
    by_cases c46 : x117002_1.length < 17592186044416
    case neg =>
     rw [if_neg c46] at H
     exact absurd H (by simp)
    rw [if_pos c46] at H
    have LMc46 := zm c46
    clear c46
    obtain ⟨y137, hy137⟩ : ∃ y_ : List Int, y_ = (x117002_1 ++ [t120]) := ⟨_, rfl⟩
    replace H : (spec_l1Cur_areaMap.l0 kj10 a1 a2 (wrap64 (x8_1 + 1)) s0_0 t131 t132 a1 a2 y137) = some (r1, r2, r3, r4, r5) := zqH hy137 H
    have Ny137 := zm hy137
    clear hy137
    have H' := zm H
    clear H
    go_wp2_with (first | (go_at_call 42; (with_reducible refine (spec_l1Cur_one.calls g s0_0 x1001_10 x1002_10 2 false t131 t132 w0 _ ?side1 ?side2 A32.out).mono ?_); (case side1 => repeat (first | (with_reducible first | exact HI0.out | apply zv1 | apply zv2 | apply zv3 | apply zv4 | apply zv5 | refine zv6 ?_ NB0_115.out _ | refine zv6 ?_ NB0_116.out _) | exact HI0.out)); (case side2 => repeat (first | (with_reducible first | exact HB.out | apply zya | apply zyp | apply zyr | refine zys ?_ (IsS46.ge HI0.out) | refine zys ?_ GE115.out | refine zys ?_ GE116.out) | exact HB.out)); rintro e w47 ⟨rfl, hi, hb, hk⟩; replace HO_117002 := zm (Kd.R_mono (Kd.R_keep (IsS46.apart (show IsS46 w0 _ g s0_0 x1001_10 x1002_10 from by repeat (first | (with_reducible first | exact HI0.out | apply zv1 | apply zv2 | apply zv3 | apply zv4 | apply zv5 | refine zv6 ?_ NB0_115.out _ | refine zv6 ?_ NB0_116.out _) | exact HI0.out)) (zqR HO_117002.out) (by decide)) hk (fun _ h => h.2)) (fun _ h => h.1)); replace BK115 := zm (KeepBut.blk hk (g' := gb115) (o := zcA) (zqK BK115.out) NB115_0.out (by simp)); replace BK116 := zm (KeepBut.blk hk (g' := gb116) (o := .cells #[.int .i64 a1, .int .i64 a2, u117002] 26 (0, 0)) (zqK BK116.out) NB116_0.out (by simp)); replace HK := zm (KeepBut.trans zq8 hk (.inl rfl)); replace HB := zm (hb); replace HI0 := zm (hi); (try clear hb); (try clear hb2); (try clear hk); (try clear hi); have hnb48 := NB116_115.out; have hnc48 := NB115_116.out; have hnb49 := NB116_0.out; have hnc49 := NB0_116.out; have hcz50_0 := bz BK116.out 0 (.int .i64 a1); have hcz50_1 := bz BK116.out 1 (.int .i64 a2); have hcz50_2 := bz BK116.out 2 (u117002); have hfz50_0 := zyF BK116.out 0; have hfz50_1 := zyF BK116.out 1; have hfz50_2 := zyF BK116.out 2) | ((with_reducible refine gate_builtin (b := .append) (xs := #[.tmp 50, .tmp 52]) rfl ?_); at_builtin; refine Kd.R_append (Kd.int .i64) w.heap.size rfl (.tmp 50) (.tmp 52) 24 3 (.int .i64 0) 8 rfl Try.underlying24 info3 rfl (by decide) (by omega) u117002 x117002_1 t120 [.int .i64 t120] (fun _ => True) (fun _ => False) rfl rfl ?aP (fun _ hk => hk.elim) ?aF ?aO (Below.refl _ _) ?aS ?aL ?_; (case aP => exact rfl); (case aF => exact (fun _ _ => trivial)); (case aO => exact (zqR HO_117002.out)); (case aS => exact (keep_size (w := w) (g := g) (row := none) zq8)); (case aL => have := LMc46.out; omega); intro v138 w51 ho hb hg hat; rw [← Ny137.out] at ho; replace BK115 := zm (blk_grown (g := gb115) (o := zcA) (zqK BK115.out) hg (Kd.R_ne HO_117002.out BK115.out (by decide))); replace BK116 := zm (blk_grown (g := gb116) (o := .cells #[.int .i64 a1, .int .i64 a2, u117002] 26 (0, 0)) (zqK BK116.out) hg (Kd.R_ne HO_117002.out BK116.out (by decide))); replace HB := zm (below_weaken zq24 HL.out hb); replace HI0 := zm (IsS46.grown zq22 hg (IsS46.own_ne HI0.out HO_117002.out (by decide))); replace HK := zm (KeepBut.trans zq8 (KeepBut.of_grown hg g) (Kd.R_base2 HO_117002.out)); have HO139 := zm (ho); clear HO_117002; clear ho hb hg hat; obtain ⟨Ao52, co52, eo52⟩ := Kd.R_slice HO139.out; subst eo52; have hcz53_0 := bz BK116.out 0 (.int .i64 a1); have hcz53_1 := bz BK116.out 1 (.int .i64 a2); have hcz53_2 := bz BK116.out 2 (u117002); have hfz53_0 := zyF BK116.out 0; have hfz53_1 := zyF BK116.out 1; have hfz53_2 := zyF BK116.out 2))
    go_roundg kj10
    case measure => have := HK1.out; have := HJ10.out; omega
    case rel => exact ⟨(wrap64 (x8_1 + 1)), (t131), (t132), (y137), (.slice Ao52 y137.length co52), (by first | rfl | (simp; done) | (simp [*]; done)), H', ⟨by have := HK1.out; have := HJ10.out; omega⟩, ⟨by (with_reducible repeat (first | apply Kd.R_alloc | apply Kd.R_drewN | apply Kd.R_drew)); exact Kd.R_mono (Kd.R_far (p := ⟨gb116, 2, none⟩) (Kd.R_types HO139.out BK116.out (by decide)) (fun _ hk => hk.2) (.slice Ao52 y137.length co52)) (fun _ hk => trivial)⟩, ⟨by (with_reducible repeat (first | apply zN | apply zD | apply zL)); refine zye ?_ NB115_116.out _; (with_reducible repeat (first | apply zN | apply zD | apply zL)); exact BK115.out⟩, ⟨by (with_reducible repeat (first | apply zN | apply zD | apply zL)); refine blk_put (cs := #[.int .i64 a1, .int .i64 a2, u117002]) ?_ 2 _ rfl; (with_reducible repeat (first | apply zN | apply zD | apply zL)); exact BK116.out⟩, ⟨zq22⟩, ⟨zq8⟩, ⟨zq24⟩⟩
   subst c33
   have H1 : (if 0 ≤ (wrap64 (x8_1 - a1)) then (if (wrap64 (x8_1 - a1)) < (x117002_1.length : Int) then (if x117002_1.length < 17592186044416 then (spec_l1Cur_areaMap.l0 kj10 a1 a2 (wrap64 (x8_1 + 1)) s0_0 t131 t132 a1 a2 (x117002_1 ++ [rd x117002_1 (wrap64 (x8_1 - a1))])) else (none)) else (none)) else (none)) = some (r1, r2, r3, r4, r5) := by rw [if_pos rfl] at H; exact H
   clear H
   have H := H1
   clear H1
   obtain ⟨ji34, hji34⟩ : ∃ j_ : Int, (wrap64 (x8_1 - a1)) = j_ := ⟨_, rfl⟩
   replace H : (if 0 ≤ (ji34) then (if (ji34) < (x117002_1.length : Int) then (if x117002_1.length < 17592186044416 then (spec_l1Cur_areaMap.l0 kj10 a1 a2 (wrap64 (x8_1 + 1)) s0_0 t131 t132 a1 a2 (x117002_1 ++ [rd x117002_1 (ji34)])) else (none)) else (none)) else (none)) = some (r1, r2, r3, r4, r5) := by first | (rw [hji34] at H; exact H) | (simp only [hji34] at H ⊢; exact H)
   (try rw [hji34] at A32)
   have hji34w : (IntKind.i64.wrap (x8_1 - a1)) = ji34 := (i64_w _).trans hji34
   by_cases c35 : 0 ≤ (ji34)
   case neg =>
    rw [if_neg c35] at H
    exact absurd H (by simp)
   rw [if_pos c35] at H
   have c35b0 : decide (0 ≤ (ji34)) = true := decide_eq_true c35
   clear c35
   by_cases c36 : (ji34) < (x117002_1.length : Int)
   case neg =>
    rw [if_neg c36] at H
    exact absurd H (by simp)
   rw [if_pos c36] at H
   have c36b0 : decide ((ji34) < (x117002_1.length : Int)) = true := decide_eq_true c36
   clear c36
   by_cases c37 : x117002_1.length < 17592186044416
   case neg =>
    rw [if_neg c37] at H
    exact absurd H (by simp)
   rw [if_pos c37] at H
   have LMc37 := zm c37
   clear c37
   obtain ⟨y134, hy134⟩ : ∃ y_ : List Int, y_ = (x117002_1 ++ [rd x117002_1 (ji34)]) := ⟨_, rfl⟩
   replace H : (spec_l1Cur_areaMap.l0 kj10 a1 a2 (wrap64 (x8_1 + 1)) s0_0 t131 t132 a1 a2 y134) = some (r1, r2, r3, r4, r5) := zqH hy134 H
   have Ny134 := zm hy134
   clear hy134
   have H' := zm H
   clear H
   go_wp2_with (first | (go_at_call 42; (with_reducible refine (spec_l1Cur_one.calls g s0_0 x1001_10 x1002_10 2 true t131 t132 w0 _ ?side1 ?side2 A32.out).mono ?_); (case side1 => repeat (first | (with_reducible first | exact HI0.out | apply zv1 | apply zv2 | apply zv3 | apply zv4 | apply zv5 | refine zv6 ?_ NB0_115.out _ | refine zv6 ?_ NB0_116.out _) | exact HI0.out)); (case side2 => repeat (first | (with_reducible first | exact HB.out | apply zya | apply zyp | apply zyr | refine zys ?_ (IsS46.ge HI0.out) | refine zys ?_ GE115.out | refine zys ?_ GE116.out) | exact HB.out)); rintro e w38 ⟨rfl, hi, hb, hk⟩; replace HO_117002 := zm (Kd.R_mono (Kd.R_keep (IsS46.apart (show IsS46 w0 _ g s0_0 x1001_10 x1002_10 from by repeat (first | (with_reducible first | exact HI0.out | apply zv1 | apply zv2 | apply zv3 | apply zv4 | apply zv5 | refine zv6 ?_ NB0_115.out _ | refine zv6 ?_ NB0_116.out _) | exact HI0.out)) (zqR HO_117002.out) (by decide)) hk (fun _ h => h.2)) (fun _ h => h.1)); replace BK115 := zm (KeepBut.blk hk (g' := gb115) (o := zcA) (zqK BK115.out) NB115_0.out (by simp)); replace BK116 := zm (KeepBut.blk hk (g' := gb116) (o := .cells #[.int .i64 a1, .int .i64 a2, u117002] 26 (0, 0)) (zqK BK116.out) NB116_0.out (by simp)); replace HK := zm (KeepBut.trans zq8 hk (.inl rfl)); replace HB := zm (hb); replace HI0 := zm (hi); (try clear hb); (try clear hb2); (try clear hk); (try clear hi); have hnb39 := NB116_115.out; have hnc39 := NB115_116.out; have hnb40 := NB116_0.out; have hnc40 := NB0_116.out; have hcz41_0 := bz BK116.out 0 (.int .i64 a1); have hcz41_1 := bz BK116.out 1 (.int .i64 a2); have hcz41_2 := bz BK116.out 2 (u117002); have hfz41_0 := zyF BK116.out 0; have hfz41_1 := zyF BK116.out 1; have hfz41_2 := zyF BK116.out 2; obtain ⟨Ao42, co42, eo42⟩ := Kd.R_slice HO_117002.out; subst eo42; have p133 : 0 ≤ ((ji34) : Int) := of_decide_eq_true zq6; have q133 : (ji34) < (x117002_1.length : Int) := of_decide_eq_true zq6; obtain ⟨ad133, e133, hx133_0⟩ := Kd.at_int (Kd.R_reads' HO_117002.out).2.2 (ji34) p133 q133; cases e133; replace p133 := eq_true p133; replace q133 := eq_true q133) | ((with_reducible refine gate_builtin (b := .append) (xs := #[.tmp 50, .tmp 52]) rfl ?_); at_builtin; refine Kd.R_append (Kd.int .i64) w.heap.size rfl (.tmp 50) (.tmp 52) 24 3 (.int .i64 0) 8 rfl Try.underlying24 info3 rfl (by decide) (by omega) (.slice (some ad133) x117002_1.length co42) x117002_1 (rd x117002_1 (ji34)) [.int .i64 (rd x117002_1 (ji34))] (fun _ => True) (fun _ => False) rfl rfl ?aP (fun _ hk => hk.elim) ?aF ?aO (Below.refl _ _) ?aS ?aL ?_; (case aP => exact rfl); (case aF => exact (fun _ _ => trivial)); (case aO => exact (zqR HO_117002.out)); (case aS => exact (keep_size (w := w) (g := g) (row := none) zq8)); (case aL => have := LMc37.out; omega); intro v135 w43 ho hb hg hat; rw [← Ny134.out] at ho; replace BK115 := zm (blk_grown (g := gb115) (o := zcA) (zqK BK115.out) hg (Kd.R_ne HO_117002.out BK115.out (by decide))); replace BK116 := zm (blk_grown (g := gb116) (o := .cells #[.int .i64 a1, .int .i64 a2, .slice (some ad133) x117002_1.length co42] 26 (0, 0)) (zqK BK116.out) hg (Kd.R_ne HO_117002.out BK116.out (by decide))); replace HB := zm (below_weaken zq24 HL.out hb); replace HI0 := zm (IsS46.grown zq22 hg (IsS46.own_ne HI0.out HO_117002.out (by decide))); replace HK := zm (KeepBut.trans zq8 (KeepBut.of_grown hg g) (Kd.R_base2 HO_117002.out)); have HO136 := zm (ho); clear HO_117002; clear ho hb hg hat; obtain ⟨Ao44, co44, eo44⟩ := Kd.R_slice HO136.out; subst eo44; have hcz45_0 := bz BK116.out 0 (.int .i64 a1); have hcz45_1 := bz BK116.out 1 (.int .i64 a2); have hcz45_2 := bz BK116.out 2 (.slice (some ad133) x117002_1.length co42); have hfz45_0 := zyF BK116.out 0; have hfz45_1 := zyF BK116.out 1; have hfz45_2 := zyF BK116.out 2))
   go_roundg kj10
   case measure => have := HK1.out; have := HJ10.out; omega
   case rel => exact ⟨(wrap64 (x8_1 + 1)), (t131), (t132), (y134), (.slice Ao44 y134.length co44), (by first | rfl | (simp; done) | (simp [*]; done)), H', ⟨by have := HK1.out; have := HJ10.out; omega⟩, ⟨by (with_reducible repeat (first | apply Kd.R_alloc | apply Kd.R_drewN | apply Kd.R_drew)); exact Kd.R_mono (Kd.R_far (p := ⟨gb116, 2, none⟩) (Kd.R_types HO136.out BK116.out (by decide)) (fun _ hk => hk.2) (.slice Ao44 y134.length co44)) (fun _ hk => trivial)⟩, ⟨by (with_reducible repeat (first | apply zN | apply zD | apply zL)); refine zye ?_ NB115_116.out _; (with_reducible repeat (first | apply zN | apply zD | apply zL)); exact BK115.out⟩, ⟨by (with_reducible repeat (first | apply zN | apply zD | apply zL)); refine blk_put (cs := #[.int .i64 a1, .int .i64 a2, .slice (some ad133) x117002_1.length co42]) ?_ 2 _ rfl; (with_reducible repeat (first | apply zN | apply zD | apply zL)); exact BK116.out⟩, ⟨zq22⟩, ⟨zq8⟩, ⟨zq24⟩⟩
end Go.Proofs.Ytfaihkhdbapjmaa.Q
