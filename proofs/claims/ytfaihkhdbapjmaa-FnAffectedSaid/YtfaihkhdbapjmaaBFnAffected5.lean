/- Texts of this claim, put together: walks of the program's functions, and plain facts. -/
import Derived.Test.YtfaihkhdbapjmaaZFnAffected
import Derived.Test.YtfaihkhdbapjmaaBFnAffected0
import Derived.Test.YtfaihkhdbapjmaaBFnAffected4
namespace Go.Proofs.Ytfaihkhdbapjmaa.Q
open Go.RowKit Go.Proofs.YtfaihkhdbapjmaaW.PrintWords Go.Proofs.YtfaihkhdbapjmaaW.PrintLast Go.Proofs.YtfaihkhdbapjmaaW.PrintMore
attribute [local go_sem] max2_int min2_int max_two min_two max_three min_three max_four min_four
set_option linter.unusedVariables false
set_option linter.unusedSimpArgs false
def spec_l1Cur_anyField.f (k : Nat) (s0_0 : List Int) (s0_1 : Int) (s0_2 : Int) : Option (Int × Int × List Int × Int × Int) := (spec_l1Cur_field.f k s0_0 s0_1 s0_2).bind fun bt238 => ((spec_l1Cur_pick.f s0_0 bt238.2.2.2.1 bt238.2.2.2.2 24).bind fun bt246 => (if bt246.1 = 0 then ((spec_l1Cur_among.f s0_0 bt246.2.1 bt246.2.2 (([0, 9, 8, bt238.2.1] : List Int))).bind fun bt252 => (some (bt252.1, bt238.2.1, bt238.2.2.1, bt252.2.1, bt252.2.2))) else (if bt246.1 = 1 then ((spec_l1Cur_pick.f s0_0 bt246.2.1 bt246.2.2 (bt238.2.2.1.length : Int)).bind fun bt255 => ((spec_l1Cur_among.f s0_0 bt255.2.1 bt255.2.2 (([9001, (-9001), (-9998), (-9999)] : List Int))).bind fun bt261 => (if 0 ≤ bt255.1 then (if bt255.1 < (bt238.2.2.1.length : Int) then (some (bt238.1, bt238.2.1, (bt238.2.2.1.set (bt255.1 : Int).toNat bt261.1), bt261.2.1, bt261.2.2)) else (none)) else (none)))) else (if bt246.1 = 2 then (if 1 ≤ (bt238.2.2.1.length : Int) then (some (bt238.1, bt238.2.1, (bt238.2.2.1.drop (1 : Int).toNat), bt246.2.1, bt246.2.2)) else (none)) else (some (bt238.1, bt238.2.1, bt238.2.2.1, bt246.2.1, bt246.2.2))))))
def spec_l1Cur_anyField.T6 : Bool × List (List Nat × List Nat) := (true, [([], []), ([0], [0]), ([], []), ([], []), ([3], [3]), ([4], [4]), ([2, 5], [2, 5]), ([], []), ([], []), ([7, 8, 6], [7, 8]), ([1, 6, 0, 1, 2, 3, 4, 5, 6, 7, 8, 9], [1, 6]), ([10, 9, 9, 0, 1, 2, 3, 4, 5, 6, 7, 8, 9], [9, 10])])
def spec_l1Cur_anyField.B6 : List Nat := [0, 1, 0, 0, 8, 24, 60, 0, 0, 508, 1023, 2047]
theorem spec_l1Cur_anyField.tab6 : rtab .any (opsOf Try.f44 6) = spec_l1Cur_anyField.T6 := by kernel_rfl
theorem spec_l1Cur_anyField.bits6 : waitsOk spec_l1Cur_anyField.T6.2 spec_l1Cur_anyField.B6 = true := by kernel_rfl
set_option maxHeartbeats 8000000 in
set_option maxRecDepth 100000 in
theorem spec_l1Cur_anyField.calls (k : Nat) (g : Nat) (s0_0 : List Int) (s0_1 : Int) (s0_2 : Int) (r1 : Int) (r2 : Int) (r3 : List Int) (r4 : Int) (r5 : Int) (w0 w : World) (hI : IsS46 w0 w g s0_0 s0_1 s0_2) (hB : Below w0.heap.size w0 w) (h : spec_l1Cur_anyField.f k s0_0 s0_1 s0_2 = some (r1, r2, r3, r4, r5)) :
  Calls Try.prog 44 #[.pointer (some ⟨g, 0, none⟩)] w fun e w' => ∃ v2_ : Value, e = .returned (.agg #[.int .i64 r1, .int .i64 r2, v2_]) ∧ Kd.Q (Kd.int .i64) 3 w' w.heap.size (fun _ => True) v2_ r3 ∧ IsS46 w0 w' g s0_0 r4 r5 ∧ Below w0.heap.size w0 w' ∧ KeepBut w w' g none := by
 have hu27 := Try.underlying27
 have HI0 := zm hI
 have HK := zm (KeepBut.refl w g none)
 have HL := zm hB.size
 clear hI
 have HW0 := zm hB.size
 have HB := zm hB
 clear hB
 have H : ((spec_l1Cur_field.f k s0_0 s0_1 s0_2).bind fun bt238 => ((spec_l1Cur_pick.f s0_0 bt238.2.2.2.1 bt238.2.2.2.2 24).bind fun bt246 => (if bt246.1 = 0 then ((spec_l1Cur_among.f s0_0 bt246.2.1 bt246.2.2 (([0, 9, 8, bt238.2.1] : List Int))).bind fun bt252 => (some (bt252.1, bt238.2.1, bt238.2.2.1, bt252.2.1, bt252.2.2))) else (if bt246.1 = 1 then ((spec_l1Cur_pick.f s0_0 bt246.2.1 bt246.2.2 (bt238.2.2.1.length : Int)).bind fun bt255 => ((spec_l1Cur_among.f s0_0 bt255.2.1 bt255.2.2 (([9001, (-9001), (-9998), (-9999)] : List Int))).bind fun bt261 => (if 0 ≤ bt255.1 then (if bt255.1 < (bt238.2.2.1.length : Int) then (some (bt238.1, bt238.2.1, (bt238.2.2.1.set (bt255.1 : Int).toNat bt261.1), bt261.2.1, bt261.2.2)) else (none)) else (none)))) else (if bt246.1 = 2 then (if 1 ≤ (bt238.2.2.1.length : Int) then (some (bt238.1, bt238.2.1, (bt238.2.2.1.drop (1 : Int).toNat), bt246.2.1, bt246.2.2)) else (none)) else (some (bt238.1, bt238.2.1, bt238.2.2.1, bt246.2.1, bt246.2.2))))))) = some (r1, r2, r3, r4, r5) := h
 clear h
 obtain ⟨⟨t238, t239, t240, t243, t244⟩, A20, H⟩ := zob H
 replace H : ((spec_l1Cur_pick.f s0_0 t243 t244 24).bind fun bt246 => (if bt246.1 = 0 then ((spec_l1Cur_among.f s0_0 bt246.2.1 bt246.2.2 (([0, 9, 8, t239] : List Int))).bind fun bt252 => (some (bt252.1, t239, t240, bt252.2.1, bt252.2.2))) else (if bt246.1 = 1 then ((spec_l1Cur_pick.f s0_0 bt246.2.1 bt246.2.2 (t240.length : Int)).bind fun bt255 => ((spec_l1Cur_among.f s0_0 bt255.2.1 bt255.2.2 (([9001, (-9001), (-9998), (-9999)] : List Int))).bind fun bt261 => (if 0 ≤ bt255.1 then (if bt255.1 < (t240.length : Int) then (some (t238, t239, (t240.set (bt255.1 : Int).toNat bt261.1), bt261.2.1, bt261.2.2)) else (none)) else (none)))) else (if bt246.1 = 2 then (if 1 ≤ (t240.length : Int) then (some (t238, t239, (t240.drop (1 : Int).toNat), bt246.2.1, bt246.2.2)) else (none)) else (some (t238, t239, t240, bt246.2.1, bt246.2.2)))))) = some (r1, r2, r3, r4, r5) := H
 have A2 := zm A20
 clear A20
 obtain ⟨⟨t246, t247, t248⟩, A30, H⟩ := zob H
 replace H : (if t246 = 0 then ((spec_l1Cur_among.f s0_0 t247 t248 (([0, 9, 8, t239] : List Int))).bind fun bt252 => (some (bt252.1, t239, t240, bt252.2.1, bt252.2.2))) else (if t246 = 1 then ((spec_l1Cur_pick.f s0_0 t247 t248 (t240.length : Int)).bind fun bt255 => ((spec_l1Cur_among.f s0_0 bt255.2.1 bt255.2.2 (([9001, (-9001), (-9998), (-9999)] : List Int))).bind fun bt261 => (if 0 ≤ bt255.1 then (if bt255.1 < (t240.length : Int) then (some (t238, t239, (t240.set (bt255.1 : Int).toNat bt261.1), bt261.2.1, bt261.2.2)) else (none)) else (none)))) else (if t246 = 2 then (if 1 ≤ (t240.length : Int) then (some (t238, t239, (t240.drop (1 : Int).toNat), t247, t248)) else (none)) else (some (t238, t239, t240, t247, t248))))) = some (r1, r2, r3, r4, r5) := H
 have A3 := zm A30
 clear A30
 by_cases c4 : t246 = 0
 case pos =>
  rw [if_pos c4] at H
  have c4b0 : (t246 == 0) = true := beq_iff_eq.mpr c4
  have c4b1 : (t246 != 0) = false := bne_eq_false_iff_eq.mpr c4
  clear c4
  obtain ⟨y249, hy249⟩ : ∃ y_ : List Int, y_ = (([0, 9, 8, t239] : List Int)) := ⟨_, rfl⟩
  replace H : ((spec_l1Cur_among.f s0_0 t247 t248 y249).bind fun bt252 => (some (bt252.1, t239, t240, bt252.2.1, bt252.2.2))) = some (r1, r2, r3, r4, r5) := zqH hy249 H
  have Ny249 := zm hy249
  clear hy249
  obtain ⟨⟨t252, t253, t254⟩, A50, H⟩ := zob H
  replace H : (some (t252, t239, t240, t253, t254)) = some (r1, r2, r3, r4, r5) := H
  have A5 := zm A50
  clear A50
  simp only [Option.some.injEq, Prod.mk.injEq] at H
  obtain ⟨rfl, rfl, rfl, rfl, rfl⟩ := H
  go_enter Try.func44, Try.ntmps44
  go_wp2_with (first | ((with_reducible refine gate_dst (N := 2) rfl ?_); refine box_event ?hg (N := 2) ?hd (cs := #[.int .i64 0, .int .i64 0, .slice none 0 0]) (t := 27) ?hr ?_; (case hd => rfl); (case hg => rfl); (case hr => exact zqS); intro gb237 hg w6 hbox hb; replace HB := zm (zyh zq10 hb); have BK237 := zm (hbox); have GW237 := zm ((by rw [hg]; exact (keep_size (w := w) (g := g) (row := none) zq4) : w.heap.size ≤ gb237)); have GE237 := zm ((Nat.le_trans HW0.out (by rw [hg]; exact (keep_size (w := w) (g := g) (row := none) zq4) : w.heap.size ≤ gb237) : w0.heap.size ≤ gb237)); replace HK := zm (KeepBut.trans zq4 (KeepBut.of_below hb g none) (.inl rfl)); have NB0_237 := zm ((by rw [hg]; exact Nat.ne_of_lt (IsS46.lt (show IsS46 w0 _ g s0_0 s0_1 s0_2 from by repeat (first | (with_reducible first | exact HI0.out | apply zv1 | apply zv2 | apply zv3 | apply zv4 | apply zv5) | exact HI0.out))) : g ≠ gb237)); have NB237_0 := zm ((by rw [hg]; exact Nat.ne_of_gt (IsS46.lt (show IsS46 w0 _ g s0_0 s0_1 s0_2 from by repeat (first | (with_reducible first | exact HI0.out | apply zv1 | apply zv2 | apply zv3 | apply zv4 | apply zv5) | exact HI0.out))) : gb237 ≠ g)); replace HI0 := zm (IsS46.below zq15 hb); clear hb hbox hg) | ((with_reducible refine zyg (f := 58) rfl ?_); refine goesL_ (some 5) rfl rfl Try.func58 (by kernel_rfl) rfl #[.pointer (some ⟨g, 0, none⟩)] rfl zq0 ?_; (with_reducible refine (spec_l1Cur_field.calls k g s0_0 s0_1 s0_2 t238 t239 t240 t243 t244 w0 _ ?side1 ?side2 A2.out).mono ?_); (case side1 => repeat (first | (with_reducible first | exact HI0.out | apply zv1 | apply zv2 | apply zv3 | apply zv4 | apply zv5 | refine zv6 ?_ NB0_237.out _) | exact HI0.out)); (case side2 => repeat (first | (with_reducible first | exact HB.out | apply zya | apply zyp | apply zyr | refine zys ?_ (IsS46.ge HI0.out) | refine zys ?_ GE237.out) | exact HB.out)); rintro e w7 ⟨v241, rfl, ho0, hi, hb, hk⟩; refine ⟨_, rfl, ?_⟩; replace BK237 := zm (KeepBut.blk hk (g' := gb237) (o := zcB) (zqK BK237.out) NB237_0.out (by simp)); have HO242 := zm (Kd.R_lower ho0 (keep_size (w := w) (g := g) (row := none) zq17)); replace HK := zm (KeepBut.trans zq17 hk (.inl rfl)); replace HB := zm (hb); replace HI0 := zm (hi); (try clear hb); (try clear hb2); (try clear hk); (try clear hi); (try clear ho0)) | ((with_reducible refine gate_dst (N := 3) rfl ?_); refine box_event ?hg (N := 3) ?hd (cs := #[.int .i64 0, .int .i64 0, .slice none 0 0]) (t := 27) ?hr ?_; (case hd => rfl); (case hg => rfl); (case hr => exact zqS); intro gb245 hg w8 hbox hb; replace HO242 := zm (Kd.R_below (zqR HO242.out) hb); replace HB := zm (zyh zq83 hb); have BK245 := zm (hbox); have GW245 := zm ((by rw [hg]; exact (keep_size (w := w) (g := g) (row := none) zq17) : w.heap.size ≤ gb245)); have GE245 := zm ((Nat.le_trans HW0.out (by rw [hg]; exact (keep_size (w := w) (g := g) (row := none) zq17) : w.heap.size ≤ gb245) : w0.heap.size ≤ gb245)); replace HK := zm (KeepBut.trans zq17 (KeepBut.of_below hb g none) (.inl rfl)); have NB237_245 := zm ((by rw [hg]; exact Nat.ne_of_lt (blk_lt (g := gb237) (o := zcB) (zqK BK237.out)) : gb237 ≠ gb245)); have NB245_237 := zm ((by rw [hg]; exact Nat.ne_of_gt (blk_lt (g := gb237) (o := zcB) (zqK BK237.out)) : gb245 ≠ gb237)); replace BK237 := zm (zyb (g := gb237) (o := zcB) (zqK BK237.out) hb); have NB0_245 := zm ((by rw [hg]; exact Nat.ne_of_lt (IsS46.lt (show IsS46 w0 _ g s0_0 t243 t244 from by repeat (first | (with_reducible first | exact HI0.out | apply zv1 | apply zv2 | apply zv3 | apply zv4 | apply zv5 | refine zv6 ?_ NB0_237.out _) | exact HI0.out))) : g ≠ gb245)); have NB245_0 := zm ((by rw [hg]; exact Nat.ne_of_gt (IsS46.lt (show IsS46 w0 _ g s0_0 t243 t244 from by repeat (first | (with_reducible first | exact HI0.out | apply zv1 | apply zv2 | apply zv3 | apply zv4 | apply zv5 | refine zv6 ?_ NB0_237.out _) | exact HI0.out))) : gb245 ≠ g)); replace HI0 := zm (IsS46.below zq81 hb); clear hb hbox hg; have hnb9 := NB245_237.out; have hnc9 := NB237_245.out; have hnb10 := NB245_0.out; have hnc10 := NB0_245.out; have hcz11_0 := bz BK245.out 0 (.int .i64 0); have hcz11_1 := bz BK245.out 1 (.int .i64 0); have hcz11_2 := bz BK245.out 2 (.slice none 0 0); have hfz11_0 := zyF BK245.out 0; have hfz11_1 := zyF BK245.out 1; have hfz11_2 := zyF BK245.out 2; obtain ⟨Ao12, co12, eo12⟩ := Kd.R_slice HO242.out; subst eo12) | ((with_reducible refine zyg (f := 20) rfl ?_); refine goesL_ (some 7) rfl rfl Try.func20 (by kernel_rfl) rfl #[.pointer (some ⟨g, 0, none⟩), .int .i64 24] rfl zq0 ?_; (with_reducible refine (spec_l1Cur_pick.calls g s0_0 t243 t244 24 t246 t247 t248 w0 _ ?side1 ?side2 A3.out).mono ?_); (case side1 => repeat (first | (with_reducible first | exact HI0.out | apply zv1 | apply zv2 | apply zv3 | apply zv4 | apply zv5 | refine zv6 ?_ NB0_237.out _ | refine zv6 ?_ NB0_245.out _) | exact HI0.out)); (case side2 => repeat (first | (with_reducible first | exact HB.out | apply zya | apply zyp | apply zyr | refine zys ?_ (IsS46.ge HI0.out) | refine zys ?_ GE237.out | refine zys ?_ GE245.out) | exact HB.out)); rintro e w13 ⟨rfl, hi, hb, hk⟩; refine ⟨_, rfl, ?_⟩; replace BK237 := zm (KeepBut.blk hk (g' := gb237) (o := zcB) zq42 NB237_0.out (by simp)); replace HO242 := zm (Kd.R_mono (Kd.R_keep (IsS46.apart (show IsS46 w0 _ g s0_0 t243 t244 from by repeat (first | (with_reducible first | exact HI0.out | apply zv1 | apply zv2 | apply zv3 | apply zv4 | apply zv5 | refine zv6 ?_ NB0_237.out _ | refine zv6 ?_ NB0_245.out _) | exact HI0.out)) (by (with_reducible repeat (first | apply Kd.R_alloc | apply Kd.R_drewN | apply Kd.R_drew)); exact (Kd.R_mono (Kd.R_far (p := ⟨gb245, 2, none⟩) (Kd.R_far (p := ⟨gb245, 1, none⟩) (Kd.R_far (p := ⟨gb245, 0, none⟩) (Kd.R_types HO242.out BK245.out (by decide)) (fun _ hk => hk.2) (.int .i64 t238)) (fun _ hk => hk.2) (.int .i64 t239)) (fun _ hk => hk.2) (.slice Ao12 t240.length co12)) (fun _ h_ => h_.1))) (by decide)) hk (fun _ h => h.2)) (fun _ h => h.1)); replace BK245 := zm (KeepBut.blk hk (g' := gb245) (o := .cells #[.int .i64 t238, .int .i64 t239, .slice Ao12 t240.length co12] 27 (0, 0)) zq33 NB245_0.out (by simp)); replace HK := zm (KeepBut.trans zq13 hk (.inl rfl)); replace HB := zm (hb); replace HI0 := zm (hi); (try clear hb); (try clear hb2); (try clear hk); (try clear hi); have hcz14_0 := bz BK245.out 0 (.int .i64 t238); have hcz14_1 := bz BK245.out 1 (.int .i64 t239); have hcz14_2 := bz BK245.out 2 (.slice Ao12 t240.length co12); have hfz14_0 := zyF BK245.out 0; have hfz14_1 := zyF BK245.out 1; have hfz14_2 := zyF BK245.out 2) | ((with_reducible refine gate_dst (N := 13) rfl ?_); refine Kd.R_lit (Kd.int .i64) _ 3 ?hg (N := 13) ?hd (xs := ([0, 9, 8, t239] : List Int)) (inner := [.int .i64 0, .int .i64 9, .int .i64 8, .int .i64 t239]) (ok := fun _ => True) (okp := fun _ => True) ?hr ?hp (fun _ hk => hk) trivial (Below.refl _ _) (Nat.le_refl _) (by simp) ?_; (case hd => rfl); (case hg => rfl); (case hr => exact zqS); (case hp => exact (Reps.one (show Kd.M (Kd.int .i64) _ _ _ 0 [.int .i64 0] from rfl) (Reps.one (show Kd.M (Kd.int .i64) _ _ _ 9 [.int .i64 9] from rfl) (Reps.one (show Kd.M (Kd.int .i64) _ _ _ 8 [.int .i64 8] from rfl) (Reps.one (show Kd.M (Kd.int .i64) _ _ _ t239 [.int .i64 t239] from rfl) (Reps.none _ _)))))); intro v250 w15 ho16 hb hg_ hnew_; clear hg_ hnew_; (first | rw [← Ny249.out] at ho16 | (simp only [Int.reduceToNat] at ho16; rw [← Ny249.out] at ho16)); have HO251 := zm (Kd.R_lower (Kd.R_new' ho16 (Kd.R_lt (zqR HO242.out))) (keep_size (w := w) (g := g) (row := none) zq13)); replace HO242 := zm (Kd.R_elder' (zqR HO242.out) (Kd.R_base ho16) hb); replace BK237 := zm (zyb (g := gb237) (o := zcB) (zqK BK237.out) hb); replace BK245 := zm (zyb (g := gb245) (o := .cells #[.int .i64 t238, .int .i64 t239, .slice Ao12 t240.length co12] 27 (0, 0)) (zqK BK245.out) hb); replace HK := zm (KeepBut.trans zq13 (KeepBut.of_below hb g none) (.inl rfl)); replace HB := zm (zyh zq36 hb); replace HI0 := zm (IsS46.below zq35 hb); clear hb ho16; obtain ⟨Ao17, co17, eo17⟩ := Kd.R_slice HO251.out; subst eo17) | ((with_reducible refine zyg (f := 19) rfl ?_); refine goesL_ (some 14) rfl rfl Try.func19 (by kernel_rfl) rfl #[.pointer (some ⟨g, 0, none⟩), .slice Ao17 y249.length co17] rfl zq0 ?_; (with_reducible refine (spec_l1Cur_among.calls g s0_0 t247 t248 _ _ y249 t252 t253 t254 w0 _ ?side1 ?side2 ?side3 ?side4 ?side5 A5.out).mono ?_); (case side1 => repeat (first | (with_reducible first | exact HI0.out | apply zv1 | apply zv2 | apply zv3 | apply zv4 | apply zv5 | refine zv6 ?_ NB0_237.out _ | refine zv6 ?_ NB0_245.out _) | exact HI0.out)); (case side2 => repeat (first | (with_reducible first | exact HB.out | apply zya | apply zyp | apply zyr | refine zys ?_ (IsS46.ge HI0.out) | refine zys ?_ GE237.out | refine zys ?_ GE245.out) | exact HB.out)); (case side3 => exact zqC (Kd.R_reads' HO251.out).2.2); (case side4 => exact (Kd.R_reads' HO251.out).2.1); (case side5 => exact far_slice (IsS46.own_ne HI0.out HO251.out (by decide))); rintro e w18 ⟨rfl, hi, hb, hk⟩; refine ⟨_, rfl, ?_⟩; replace BK237 := zm (KeepBut.blk hk (g' := gb237) (o := zcB) (zqK BK237.out) NB237_0.out (by simp)); replace HO242 := zm (Kd.R_mono (Kd.R_keep (IsS46.apart (show IsS46 w0 _ g s0_0 t247 t248 from by repeat (first | (with_reducible first | exact HI0.out | apply zv1 | apply zv2 | apply zv3 | apply zv4 | apply zv5 | refine zv6 ?_ NB0_237.out _ | refine zv6 ?_ NB0_245.out _) | exact HI0.out)) (zqR HO242.out) (by decide)) hk (fun _ h => h.2)) (fun _ h => h.1)); replace BK245 := zm (KeepBut.blk hk (g' := gb245) (o := .cells #[.int .i64 t238, .int .i64 t239, .slice Ao12 t240.length co12] 27 (0, 0)) (zqK BK245.out) NB245_0.out (by simp)); replace HO251 := zm (Kd.R_mono (Kd.R_keep (IsS46.apart (show IsS46 w0 _ g s0_0 t247 t248 from by repeat (first | (with_reducible first | exact HI0.out | apply zv1 | apply zv2 | apply zv3 | apply zv4 | apply zv5 | refine zv6 ?_ NB0_237.out _ | refine zv6 ?_ NB0_245.out _) | exact HI0.out)) (zqR HO251.out) (by decide)) hk (fun _ h => h.2)) (fun _ h => h.1)); replace HK := zm (KeepBut.trans zq13 hk (.inl rfl)); replace HB := zm (hb); replace HI0 := zm (hi); (try clear hb); (try clear hb2); (try clear hk); (try clear hi); have hcz19_0 := bz BK245.out 0 (.int .i64 t238); have hcz19_1 := bz BK245.out 1 (.int .i64 t239); have hcz19_2 := bz BK245.out 2 (.slice Ao12 t240.length co12); have hfz19_0 := zyF BK245.out 0; have hfz19_1 := zyF BK245.out 1; have hfz19_2 := zyF BK245.out 2; have hnb20 := NB237_0.out; have hnc20 := NB0_237.out; have hcz21_0 := bz BK237.out 0 (.int .i64 0); have hcz21_1 := bz BK237.out 1 (.int .i64 0); have hcz21_2 := bz BK237.out 2 (.slice none 0 0); have hfz21_0 := zyF BK237.out 0; have hfz21_1 := zyF BK237.out 1; have hfz21_2 := zyF BK237.out 2))
  refine bodyPost_ret (results_cell_row rfl _ _ gb237 27 #[.int .i64 t252, .int .i64 t239, .slice Ao12 t240.length co12] (0, 0) _ rfl (by (with_reducible repeat (first | apply zN | apply zD | apply zL)); refine blk_put (cs := #[.int .i64 t252, .int .i64 t239, .slice none 0 0]) ?_ 2 _ rfl; (with_reducible repeat (first | apply zN | apply zD | apply zL)); refine blk_put (cs := #[.int .i64 t252, .int .i64 0, .slice none 0 0]) ?_ 1 _ rfl; (with_reducible repeat (first | apply zN | apply zD | apply zL)); refine blk_put (cs := #[.int .i64 0, .int .i64 0, .slice none 0 0]) ?_ 0 _ rfl; (with_reducible repeat (first | apply zN | apply zD | apply zL)); refine zye ?_ NB237_245.out _; (with_reducible repeat (first | apply zN | apply zD | apply zL)); exact BK237.out) Try.underlying27 rfl (by kernel_rfl)) rfl ?_
  exact ⟨_, by first | rfl | (simp [errW_none, errW_some] <;> rfl) | (simp [*, errW_none, errW_some] <;> rfl), Kd.Q_of_R (by (with_reducible repeat (first | apply Kd.R_alloc | apply Kd.R_drewN | apply Kd.R_drew)); exact Kd.R_mono (Kd.R_far (p := ⟨gb237, 2, none⟩) (Kd.R_far (p := ⟨gb237, 1, none⟩) (Kd.R_far (p := ⟨gb237, 0, none⟩) (Kd.R_far (p := ⟨gb245, 0, none⟩) (Kd.R_types (Kd.R_types HO242.out BK245.out (by decide)) BK237.out (by decide)) (fun _ hk => hk.1.2) (.int .i64 t252)) (fun _ hk => hk.2) (.int .i64 t252)) (fun _ hk => hk.2) (.int .i64 t239)) (fun _ hk => hk.2) (.slice Ao12 t240.length co12)) (fun _ hk => trivial)), zq35, zq36, zq13⟩
 rw [if_neg c4] at H
 have c4b0 : (t246 == 0) = false := beq_eq_false_iff_ne.mpr c4
 have c4b1 : (t246 != 0) = true := bne_iff_ne.mpr c4
 by_cases c22 : t246 = 1
 case neg =>
  rw [if_neg c22] at H
  have c22b0 : (t246 == 1) = false := beq_eq_false_iff_ne.mpr c22
  have c22b1 : (t246 != 1) = true := bne_iff_ne.mpr c22
  by_cases c48 : t246 = 2
  case neg =>
   rw [if_neg c48] at H
   have c48b0 : (t246 == 2) = false := beq_eq_false_iff_ne.mpr c48
   have c48b1 : (t246 != 2) = true := bne_iff_ne.mpr c48
   simp only [Option.some.injEq, Prod.mk.injEq] at H
   obtain ⟨rfl, rfl, rfl, rfl, rfl⟩ := H
   go_enter Try.func44, Try.ntmps44
   go_wp2_with (first | ((with_reducible refine gate_dst (N := 2) rfl ?_); refine box_event ?hg (N := 2) ?hd (cs := #[.int .i64 0, .int .i64 0, .slice none 0 0]) (t := 27) ?hr ?_; (case hd => rfl); (case hg => rfl); (case hr => exact zqS); intro gb237 hg w62 hbox hb; replace HB := zm (zyh zq10 hb); have BK237 := zm (hbox); have GW237 := zm ((by rw [hg]; exact (keep_size (w := w) (g := g) (row := none) zq4) : w.heap.size ≤ gb237)); have GE237 := zm ((Nat.le_trans HW0.out (by rw [hg]; exact (keep_size (w := w) (g := g) (row := none) zq4) : w.heap.size ≤ gb237) : w0.heap.size ≤ gb237)); replace HK := zm (KeepBut.trans zq4 (KeepBut.of_below hb g none) (.inl rfl)); have NB0_237 := zm ((by rw [hg]; exact Nat.ne_of_lt (IsS46.lt (show IsS46 w0 _ g s0_0 s0_1 s0_2 from by repeat (first | (with_reducible first | exact HI0.out | apply zv1 | apply zv2 | apply zv3 | apply zv4 | apply zv5) | exact HI0.out))) : g ≠ gb237)); have NB237_0 := zm ((by rw [hg]; exact Nat.ne_of_gt (IsS46.lt (show IsS46 w0 _ g s0_0 s0_1 s0_2 from by repeat (first | (with_reducible first | exact HI0.out | apply zv1 | apply zv2 | apply zv3 | apply zv4 | apply zv5) | exact HI0.out))) : gb237 ≠ g)); replace HI0 := zm (IsS46.below zq15 hb); clear hb hbox hg) | ((with_reducible refine zyg (f := 58) rfl ?_); refine goesL_ (some 5) rfl rfl Try.func58 (by kernel_rfl) rfl #[.pointer (some ⟨g, 0, none⟩)] rfl zq0 ?_; (with_reducible refine (spec_l1Cur_field.calls k g s0_0 s0_1 s0_2 t238 t239 t240 t243 t244 w0 _ ?side1 ?side2 A2.out).mono ?_); (case side1 => repeat (first | (with_reducible first | exact HI0.out | apply zv1 | apply zv2 | apply zv3 | apply zv4 | apply zv5 | refine zv6 ?_ NB0_237.out _) | exact HI0.out)); (case side2 => repeat (first | (with_reducible first | exact HB.out | apply zya | apply zyp | apply zyr | refine zys ?_ (IsS46.ge HI0.out) | refine zys ?_ GE237.out) | exact HB.out)); rintro e w63 ⟨v241, rfl, ho0, hi, hb, hk⟩; refine ⟨_, rfl, ?_⟩; replace BK237 := zm (KeepBut.blk hk (g' := gb237) (o := zcB) (zqK BK237.out) NB237_0.out (by simp)); have HO242 := zm (Kd.R_lower ho0 (keep_size (w := w) (g := g) (row := none) zq17)); replace HK := zm (KeepBut.trans zq17 hk (.inl rfl)); replace HB := zm (hb); replace HI0 := zm (hi); (try clear hb); (try clear hb2); (try clear hk); (try clear hi); (try clear ho0)) | ((with_reducible refine gate_dst (N := 3) rfl ?_); refine box_event ?hg (N := 3) ?hd (cs := #[.int .i64 0, .int .i64 0, .slice none 0 0]) (t := 27) ?hr ?_; (case hd => rfl); (case hg => rfl); (case hr => exact zqS); intro gb245 hg w64 hbox hb; replace HO242 := zm (Kd.R_below (zqR HO242.out) hb); replace HB := zm (zyh zq83 hb); have BK245 := zm (hbox); have GW245 := zm ((by rw [hg]; exact (keep_size (w := w) (g := g) (row := none) zq17) : w.heap.size ≤ gb245)); have GE245 := zm ((Nat.le_trans HW0.out (by rw [hg]; exact (keep_size (w := w) (g := g) (row := none) zq17) : w.heap.size ≤ gb245) : w0.heap.size ≤ gb245)); replace HK := zm (KeepBut.trans zq17 (KeepBut.of_below hb g none) (.inl rfl)); have NB237_245 := zm ((by rw [hg]; exact Nat.ne_of_lt (blk_lt (g := gb237) (o := zcB) (zqK BK237.out)) : gb237 ≠ gb245)); have NB245_237 := zm ((by rw [hg]; exact Nat.ne_of_gt (blk_lt (g := gb237) (o := zcB) (zqK BK237.out)) : gb245 ≠ gb237)); replace BK237 := zm (zyb (g := gb237) (o := zcB) (zqK BK237.out) hb); have NB0_245 := zm ((by rw [hg]; exact Nat.ne_of_lt (IsS46.lt (show IsS46 w0 _ g s0_0 t243 t244 from by repeat (first | (with_reducible first | exact HI0.out | apply zv1 | apply zv2 | apply zv3 | apply zv4 | apply zv5 | refine zv6 ?_ NB0_237.out _) | exact HI0.out))) : g ≠ gb245)); have NB245_0 := zm ((by rw [hg]; exact Nat.ne_of_gt (IsS46.lt (show IsS46 w0 _ g s0_0 t243 t244 from by repeat (first | (with_reducible first | exact HI0.out | apply zv1 | apply zv2 | apply zv3 | apply zv4 | apply zv5 | refine zv6 ?_ NB0_237.out _) | exact HI0.out))) : gb245 ≠ g)); replace HI0 := zm (IsS46.below zq81 hb); clear hb hbox hg; have hnb65 := NB245_237.out; have hnc65 := NB237_245.out; have hnb66 := NB245_0.out; have hnc66 := NB0_245.out; have hcz67_0 := bz BK245.out 0 (.int .i64 0); have hcz67_1 := bz BK245.out 1 (.int .i64 0); have hcz67_2 := bz BK245.out 2 (.slice none 0 0); have hfz67_0 := zyF BK245.out 0; have hfz67_1 := zyF BK245.out 1; have hfz67_2 := zyF BK245.out 2; obtain ⟨Ao68, co68, eo68⟩ := Kd.R_slice HO242.out; subst eo68) | ((with_reducible refine zyg (f := 20) rfl ?_); refine goesL_ (some 7) rfl rfl Try.func20 (by kernel_rfl) rfl #[.pointer (some ⟨g, 0, none⟩), .int .i64 24] rfl zq0 ?_; (with_reducible refine (spec_l1Cur_pick.calls g s0_0 t243 t244 24 t246 t247 t248 w0 _ ?side1 ?side2 A3.out).mono ?_); (case side1 => repeat (first | (with_reducible first | exact HI0.out | apply zv1 | apply zv2 | apply zv3 | apply zv4 | apply zv5 | refine zv6 ?_ NB0_237.out _ | refine zv6 ?_ NB0_245.out _) | exact HI0.out)); (case side2 => repeat (first | (with_reducible first | exact HB.out | apply zya | apply zyp | apply zyr | refine zys ?_ (IsS46.ge HI0.out) | refine zys ?_ GE237.out | refine zys ?_ GE245.out) | exact HB.out)); rintro e w69 ⟨rfl, hi, hb, hk⟩; refine ⟨_, rfl, ?_⟩; replace BK237 := zm (KeepBut.blk hk (g' := gb237) (o := zcB) zq42 NB237_0.out (by simp)); replace HO242 := zm (Kd.R_mono (Kd.R_keep (IsS46.apart (show IsS46 w0 _ g s0_0 t243 t244 from by repeat (first | (with_reducible first | exact HI0.out | apply zv1 | apply zv2 | apply zv3 | apply zv4 | apply zv5 | refine zv6 ?_ NB0_237.out _ | refine zv6 ?_ NB0_245.out _) | exact HI0.out)) (by (with_reducible repeat (first | apply Kd.R_alloc | apply Kd.R_drewN | apply Kd.R_drew)); exact (Kd.R_mono (Kd.R_far (p := ⟨gb245, 2, none⟩) (Kd.R_far (p := ⟨gb245, 1, none⟩) (Kd.R_far (p := ⟨gb245, 0, none⟩) (Kd.R_types HO242.out BK245.out (by decide)) (fun _ hk => hk.2) (.int .i64 t238)) (fun _ hk => hk.2) (.int .i64 t239)) (fun _ hk => hk.2) (.slice Ao68 t240.length co68)) (fun _ h_ => h_.1))) (by decide)) hk (fun _ h => h.2)) (fun _ h => h.1)); replace BK245 := zm (KeepBut.blk hk (g' := gb245) (o := .cells #[.int .i64 t238, .int .i64 t239, .slice Ao68 t240.length co68] 27 (0, 0)) zq33 NB245_0.out (by simp)); replace HK := zm (KeepBut.trans zq13 hk (.inl rfl)); replace HB := zm (hb); replace HI0 := zm (hi); (try clear hb); (try clear hb2); (try clear hk); (try clear hi); have hcz70_0 := bz BK245.out 0 (.int .i64 t238); have hcz70_1 := bz BK245.out 1 (.int .i64 t239); have hcz70_2 := bz BK245.out 2 (.slice Ao68 t240.length co68); have hfz70_0 := zyF BK245.out 0; have hfz70_1 := zyF BK245.out 1; have hfz70_2 := zyF BK245.out 2; have hnb71 := NB237_0.out; have hnc71 := NB0_237.out; have hcz72_0 := bz BK237.out 0 (.int .i64 0); have hcz72_1 := bz BK237.out 1 (.int .i64 0); have hcz72_2 := bz BK237.out 2 (.slice none 0 0); have hfz72_0 := zyF BK237.out 0; have hfz72_1 := zyF BK237.out 1; have hfz72_2 := zyF BK237.out 2))
   refine bodyPost_ret (results_cell_row rfl _ _ gb237 27 #[.int .i64 t238, .int .i64 t239, .slice Ao68 t240.length co68] (0, 0) _ rfl zq77 Try.underlying27 rfl (by kernel_rfl)) rfl ?_
   exact ⟨_, by first | rfl | (simp [errW_none, errW_some] <;> rfl) | (simp [*, errW_none, errW_some] <;> rfl), Kd.Q_of_R (by (with_reducible repeat (first | apply Kd.R_alloc | apply Kd.R_drewN | apply Kd.R_drew)); exact Kd.R_mono (Kd.R_far (p := ⟨gb237, 2, none⟩) (Kd.R_far (p := ⟨gb237, 1, none⟩) (Kd.R_far (p := ⟨gb237, 0, none⟩) (Kd.R_types HO242.out BK237.out (by decide)) (fun _ hk => hk.2) (.int .i64 t238)) (fun _ hk => hk.2) (.int .i64 t239)) (fun _ hk => hk.2) (.slice Ao68 t240.length co68)) (fun _ hk => trivial)), zq35, zq36, zq13⟩
  rw [if_pos c48] at H
  have c48b0 : (t246 == 2) = true := beq_iff_eq.mpr c48
  have c48b1 : (t246 != 2) = false := bne_eq_false_iff_eq.mpr c48
  clear c48
  by_cases c49 : 1 ≤ (t240.length : Int)
  case neg =>
   rw [if_neg c49] at H
   exact absurd H (by simp)
  rw [if_pos c49] at H
  have c49b0 := eq_true c49
  have c49b1 : decide (1 ≤ (t240.length : Int)) = true := decide_eq_true c49
  clear c49
  obtain ⟨y265, hy265⟩ : ∃ y_ : List Int, y_ = (t240.drop (1 : Int).toNat) := ⟨_, rfl⟩
  replace H : (some (t238, t239, y265, t247, t248)) = some (r1, r2, r3, r4, r5) := zqH hy265 H
  have Ny265 := zm hy265
  clear hy265
  simp only [Option.some.injEq, Prod.mk.injEq] at H
  obtain ⟨rfl, rfl, rfl, rfl, rfl⟩ := H
  go_enter Try.func44, Try.ntmps44
  go_wp2_with (first | ((with_reducible refine gate_dst (N := 2) rfl ?_); refine box_event ?hg (N := 2) ?hd (cs := #[.int .i64 0, .int .i64 0, .slice none 0 0]) (t := 27) ?hr ?_; (case hd => rfl); (case hg => rfl); (case hr => exact zqS); intro gb237 hg w50 hbox hb; replace HB := zm (zyh zq10 hb); have BK237 := zm (hbox); have GW237 := zm ((by rw [hg]; exact (keep_size (w := w) (g := g) (row := none) zq4) : w.heap.size ≤ gb237)); have GE237 := zm ((Nat.le_trans HW0.out (by rw [hg]; exact (keep_size (w := w) (g := g) (row := none) zq4) : w.heap.size ≤ gb237) : w0.heap.size ≤ gb237)); replace HK := zm (KeepBut.trans zq4 (KeepBut.of_below hb g none) (.inl rfl)); have NB0_237 := zm ((by rw [hg]; exact Nat.ne_of_lt (IsS46.lt (show IsS46 w0 _ g s0_0 s0_1 s0_2 from by repeat (first | (with_reducible first | exact HI0.out | apply zv1 | apply zv2 | apply zv3 | apply zv4 | apply zv5) | exact HI0.out))) : g ≠ gb237)); have NB237_0 := zm ((by rw [hg]; exact Nat.ne_of_gt (IsS46.lt (show IsS46 w0 _ g s0_0 s0_1 s0_2 from by repeat (first | (with_reducible first | exact HI0.out | apply zv1 | apply zv2 | apply zv3 | apply zv4 | apply zv5) | exact HI0.out))) : gb237 ≠ g)); replace HI0 := zm (IsS46.below zq15 hb); clear hb hbox hg) | ((with_reducible refine zyg (f := 58) rfl ?_); refine goesL_ (some 5) rfl rfl Try.func58 (by kernel_rfl) rfl #[.pointer (some ⟨g, 0, none⟩)] rfl zq0 ?_; (with_reducible refine (spec_l1Cur_field.calls k g s0_0 s0_1 s0_2 t238 t239 t240 t243 t244 w0 _ ?side1 ?side2 A2.out).mono ?_); (case side1 => repeat (first | (with_reducible first | exact HI0.out | apply zv1 | apply zv2 | apply zv3 | apply zv4 | apply zv5 | refine zv6 ?_ NB0_237.out _) | exact HI0.out)); (case side2 => repeat (first | (with_reducible first | exact HB.out | apply zya | apply zyp | apply zyr | refine zys ?_ (IsS46.ge HI0.out) | refine zys ?_ GE237.out) | exact HB.out)); rintro e w51 ⟨v241, rfl, ho0, hi, hb, hk⟩; refine ⟨_, rfl, ?_⟩; replace BK237 := zm (KeepBut.blk hk (g' := gb237) (o := zcB) (zqK BK237.out) NB237_0.out (by simp)); have HO242 := zm (Kd.R_lower ho0 (keep_size (w := w) (g := g) (row := none) zq17)); replace HK := zm (KeepBut.trans zq17 hk (.inl rfl)); replace HB := zm (hb); replace HI0 := zm (hi); (try clear hb); (try clear hb2); (try clear hk); (try clear hi); (try clear ho0)) | ((with_reducible refine gate_dst (N := 3) rfl ?_); refine box_event ?hg (N := 3) ?hd (cs := #[.int .i64 0, .int .i64 0, .slice none 0 0]) (t := 27) ?hr ?_; (case hd => rfl); (case hg => rfl); (case hr => exact zqS); intro gb245 hg w52 hbox hb; replace HO242 := zm (Kd.R_below (zqR HO242.out) hb); replace HB := zm (zyh zq83 hb); have BK245 := zm (hbox); have GW245 := zm ((by rw [hg]; exact (keep_size (w := w) (g := g) (row := none) zq17) : w.heap.size ≤ gb245)); have GE245 := zm ((Nat.le_trans HW0.out (by rw [hg]; exact (keep_size (w := w) (g := g) (row := none) zq17) : w.heap.size ≤ gb245) : w0.heap.size ≤ gb245)); replace HK := zm (KeepBut.trans zq17 (KeepBut.of_below hb g none) (.inl rfl)); have NB237_245 := zm ((by rw [hg]; exact Nat.ne_of_lt (blk_lt (g := gb237) (o := zcB) (zqK BK237.out)) : gb237 ≠ gb245)); have NB245_237 := zm ((by rw [hg]; exact Nat.ne_of_gt (blk_lt (g := gb237) (o := zcB) (zqK BK237.out)) : gb245 ≠ gb237)); replace BK237 := zm (zyb (g := gb237) (o := zcB) (zqK BK237.out) hb); have NB0_245 := zm ((by rw [hg]; exact Nat.ne_of_lt (IsS46.lt (show IsS46 w0 _ g s0_0 t243 t244 from by repeat (first | (with_reducible first | exact HI0.out | apply zv1 | apply zv2 | apply zv3 | apply zv4 | apply zv5 | refine zv6 ?_ NB0_237.out _) | exact HI0.out))) : g ≠ gb245)); have NB245_0 := zm ((by rw [hg]; exact Nat.ne_of_gt (IsS46.lt (show IsS46 w0 _ g s0_0 t243 t244 from by repeat (first | (with_reducible first | exact HI0.out | apply zv1 | apply zv2 | apply zv3 | apply zv4 | apply zv5 | refine zv6 ?_ NB0_237.out _) | exact HI0.out))) : gb245 ≠ g)); replace HI0 := zm (IsS46.below zq81 hb); clear hb hbox hg; have hnb53 := NB245_237.out; have hnc53 := NB237_245.out; have hnb54 := NB245_0.out; have hnc54 := NB0_245.out; have hcz55_0 := bz BK245.out 0 (.int .i64 0); have hcz55_1 := bz BK245.out 1 (.int .i64 0); have hcz55_2 := bz BK245.out 2 (.slice none 0 0); have hfz55_0 := zyF BK245.out 0; have hfz55_1 := zyF BK245.out 1; have hfz55_2 := zyF BK245.out 2; obtain ⟨Ao56, co56, eo56⟩ := Kd.R_slice HO242.out; subst eo56) | ((with_reducible refine zyg (f := 20) rfl ?_); refine goesL_ (some 7) rfl rfl Try.func20 (by kernel_rfl) rfl #[.pointer (some ⟨g, 0, none⟩), .int .i64 24] rfl zq0 ?_; (with_reducible refine (spec_l1Cur_pick.calls g s0_0 t243 t244 24 t246 t247 t248 w0 _ ?side1 ?side2 A3.out).mono ?_); (case side1 => repeat (first | (with_reducible first | exact HI0.out | apply zv1 | apply zv2 | apply zv3 | apply zv4 | apply zv5 | refine zv6 ?_ NB0_237.out _ | refine zv6 ?_ NB0_245.out _) | exact HI0.out)); (case side2 => repeat (first | (with_reducible first | exact HB.out | apply zya | apply zyp | apply zyr | refine zys ?_ (IsS46.ge HI0.out) | refine zys ?_ GE237.out | refine zys ?_ GE245.out) | exact HB.out)); rintro e w57 ⟨rfl, hi, hb, hk⟩; refine ⟨_, rfl, ?_⟩; replace BK237 := zm (KeepBut.blk hk (g' := gb237) (o := zcB) zq42 NB237_0.out (by simp)); replace HO242 := zm (Kd.R_mono (Kd.R_keep (IsS46.apart (show IsS46 w0 _ g s0_0 t243 t244 from by repeat (first | (with_reducible first | exact HI0.out | apply zv1 | apply zv2 | apply zv3 | apply zv4 | apply zv5 | refine zv6 ?_ NB0_237.out _ | refine zv6 ?_ NB0_245.out _) | exact HI0.out)) (by (with_reducible repeat (first | apply Kd.R_alloc | apply Kd.R_drewN | apply Kd.R_drew)); exact (Kd.R_mono (Kd.R_far (p := ⟨gb245, 2, none⟩) (Kd.R_far (p := ⟨gb245, 1, none⟩) (Kd.R_far (p := ⟨gb245, 0, none⟩) (Kd.R_types HO242.out BK245.out (by decide)) (fun _ hk => hk.2) (.int .i64 t238)) (fun _ hk => hk.2) (.int .i64 t239)) (fun _ hk => hk.2) (.slice Ao56 t240.length co56)) (fun _ h_ => h_.1))) (by decide)) hk (fun _ h => h.2)) (fun _ h => h.1)); replace BK245 := zm (KeepBut.blk hk (g' := gb245) (o := .cells #[.int .i64 t238, .int .i64 t239, .slice Ao56 t240.length co56] 27 (0, 0)) zq33 NB245_0.out (by simp)); replace HK := zm (KeepBut.trans zq13 hk (.inl rfl)); replace HB := zm (hb); replace HI0 := zm (hi); (try clear hb); (try clear hb2); (try clear hk); (try clear hi); have hcz58_0 := bz BK245.out 0 (.int .i64 t238); have hcz58_1 := bz BK245.out 1 (.int .i64 t239); have hcz58_2 := bz BK245.out 2 (.slice Ao56 t240.length co56); have hfz58_0 := zyF BK245.out 0; have hfz58_1 := zyF BK245.out 1; have hfz58_2 := zyF BK245.out 2; have q59 : (1 : Int) ≤ ((t240.length : Int) : Int) := of_decide_eq_true zq6; obtain ⟨i059, hi059, _, hsz59, _⟩ := info_parts info3; have hcut59 := cut_from (P := Try.prog) 24 3 .i64 Try.underlying24 hi059 1 hsz59 Ao56 t240.length co56 1 (by omega) q59; have hr59 := Kd.Q_drop (k := (1 : Int).toNat) (Kd.Q_of_R HO242.out) (by omega); obtain ⟨A59, hA59⟩ : ∃ A1, A1 = (if co56 = (1 : Int).toNat then Ao56 else (Ao56 : Option Addr).map (·.add ((1 : Int).toNat * 1))) := ⟨_, rfl⟩; obtain ⟨c59, hc59⟩ : ∃ c1, c1 = co56 - (1 : Int).toNat := ⟨_, rfl⟩; have hy59 : y265.length = t240.length - (1 : Int).toNat := (by rw [Ny265.out, List.length_drop]); rw [← Ny265.out] at hr59; rw [← hy59, ← hA59, ← hc59] at hcut59; replace hr59 : Kd.Q (Kd.int .i64) 3 w57 w.heap.size (fun _ => True) (.slice A59 y265.length c59) y265 := (by rw [hA59, hc59, hy59]; exact hr59); have HE59 : Aside0 ((Value.slice A59 y265.length c59).ownBlock = (.slice Ao56 t240.length co56 : Value).ownBlock) := ⟨by rw [hA59]; split <;> (cases (Ao56 : Option Addr) <;> rfl)⟩; clear hy59 hi059 hsz59 HO242 hA59 hc59; have HO267 := zm hr59; clear hr59; replace q59 := eq_true q59; have hnb60 := NB237_0.out; have hnc60 := NB0_237.out; have hcz61_0 := bz BK237.out 0 (.int .i64 0); have hcz61_1 := bz BK237.out 1 (.int .i64 0); have hcz61_2 := bz BK237.out 2 (.slice none 0 0); have hfz61_0 := zyF BK237.out 0; have hfz61_1 := zyF BK237.out 1; have hfz61_2 := zyF BK237.out 2))
  refine bodyPost_ret (results_cell_row rfl _ _ gb237 27 #[.int .i64 t238, .int .i64 t239, .slice A59 y265.length c59] (0, 0) _ rfl (by (with_reducible repeat (first | apply zN | apply zD | apply zL)); refine blk_put (cs := #[.int .i64 t238, .int .i64 t239, .slice none 0 0]) ?_ 2 _ rfl; (with_reducible repeat (first | apply zN | apply zD | apply zL)); refine blk_put (cs := #[.int .i64 t238, .int .i64 0, .slice none 0 0]) ?_ 1 _ rfl; (with_reducible repeat (first | apply zN | apply zD | apply zL)); refine blk_put (cs := #[.int .i64 0, .int .i64 0, .slice none 0 0]) ?_ 0 _ rfl; (with_reducible repeat (first | apply zN | apply zD | apply zL)); refine zye ?_ NB237_245.out _; (with_reducible repeat (first | apply zN | apply zD | apply zL)); exact BK237.out) Try.underlying27 rfl (by kernel_rfl)) rfl ?_
  exact ⟨_, by first | rfl | (simp [errW_none, errW_some] <;> rfl) | (simp [*, errW_none, errW_some] <;> rfl), by (with_reducible repeat (first | apply Kd.Q_alloc | apply Kd.Q_drewN | apply Kd.Q_drew)); exact Kd.Q_mono (Kd.Q_far (p := ⟨gb237, 2, none⟩) (Kd.Q_far (p := ⟨gb237, 1, none⟩) (Kd.Q_far (p := ⟨gb237, 0, none⟩) (Kd.Q_far (p := ⟨gb245, 2, none⟩) (Kd.Q_types (Kd.Q_types HO267.out BK245.out (by decide)) BK237.out (by decide)) (fun _ hk => hk.1.2) (.slice A59 y265.length c59)) (fun _ hk => hk.2) (.int .i64 t238)) (fun _ hk => hk.2) (.int .i64 t239)) (fun _ hk => hk.2) (.slice A59 y265.length c59)) (fun _ hk => trivial), zq35, zq36, zq13⟩
 rw [if_pos c22] at H
 have c22b0 : (t246 == 1) = true := beq_iff_eq.mpr c22
 have c22b1 : (t246 != 1) = false := bne_eq_false_iff_eq.mpr c22
 clear c22
 obtain ⟨⟨t255, t256, t257⟩, A230, H⟩ := zob H
 replace H : ((spec_l1Cur_among.f s0_0 t256 t257 (([9001, (-9001), (-9998), (-9999)] : List Int))).bind fun bt261 => (if 0 ≤ t255 then (if t255 < (t240.length : Int) then (some (t238, t239, (t240.set (t255 : Int).toNat bt261.1), bt261.2.1, bt261.2.2)) else (none)) else (none))) = some (r1, r2, r3, r4, r5) := H
 have A23 := zm A230
 clear A230
 obtain ⟨y258, hy258⟩ : ∃ y_ : List Int, y_ = (([9001, (-9001), (-9998), (-9999)] : List Int)) := ⟨_, rfl⟩
 replace H : ((spec_l1Cur_among.f s0_0 t256 t257 y258).bind fun bt261 => (if 0 ≤ t255 then (if t255 < (t240.length : Int) then (some (t238, t239, (t240.set (t255 : Int).toNat bt261.1), bt261.2.1, bt261.2.2)) else (none)) else (none))) = some (r1, r2, r3, r4, r5) := zqH hy258 H
 have Ny258 := zm hy258
 clear hy258
 obtain ⟨⟨t261, t262, t263⟩, A240, H⟩ := zob H
 replace H : (if 0 ≤ t255 then (if t255 < (t240.length : Int) then (some (t238, t239, (t240.set (t255 : Int).toNat t261), t262, t263)) else (none)) else (none)) = some (r1, r2, r3, r4, r5) := H
 have A24 := zm A240
 clear A240
 by_cases c25 : 0 ≤ t255
 case neg =>
  rw [if_neg c25] at H
  exact absurd H (by simp)
 rw [if_pos c25] at H
 have c25b0 : decide (0 ≤ t255) = true := decide_eq_true c25
 clear c25
 by_cases c26 : t255 < (t240.length : Int)
 case neg =>
  rw [if_neg c26] at H
  exact absurd H (by simp)
 rw [if_pos c26] at H
 have c26b0 : decide (t255 < (t240.length : Int)) = true := decide_eq_true c26
 clear c26
 obtain ⟨y264, hy264⟩ : ∃ y_ : List Int, y_ = (t240.set (t255 : Int).toNat t261) := ⟨_, rfl⟩
 replace H : (some (t238, t239, y264, t262, t263)) = some (r1, r2, r3, r4, r5) := zqH hy264 H
 have Ny264 := zm hy264
 clear hy264
 simp only [Option.some.injEq, Prod.mk.injEq] at H
 obtain ⟨rfl, rfl, rfl, rfl, rfl⟩ := H
 go_enter Try.func44, Try.ntmps44
 try go_wp2_with (first | ((with_reducible refine gate_dst (N := 2) rfl ?_); refine box_event ?hg (N := 2) ?hd (cs := #[.int .i64 0, .int .i64 0, .slice none 0 0]) (t := 27) ?hr ?_; (case hd => rfl); (case hg => rfl); (case hr => exact zqS); intro gb237 hg w28 hbox hb; replace HB := zm (zyh zq10 hb); have BK237 := zm (hbox); have GW237 := zm ((by rw [hg]; exact (keep_size (w := w) (g := g) (row := none) zq4) : w.heap.size ≤ gb237)); have GE237 := zm ((Nat.le_trans HW0.out (by rw [hg]; exact (keep_size (w := w) (g := g) (row := none) zq4) : w.heap.size ≤ gb237) : w0.heap.size ≤ gb237)); replace HK := zm (KeepBut.trans zq4 (KeepBut.of_below hb g none) (.inl rfl)); have NB0_237 := zm ((by rw [hg]; exact Nat.ne_of_lt (IsS46.lt (show IsS46 w0 _ g s0_0 s0_1 s0_2 from by repeat (first | (with_reducible first | exact HI0.out | apply zv1 | apply zv2 | apply zv3 | apply zv4 | apply zv5) | exact HI0.out))) : g ≠ gb237)); have NB237_0 := zm ((by rw [hg]; exact Nat.ne_of_gt (IsS46.lt (show IsS46 w0 _ g s0_0 s0_1 s0_2 from by repeat (first | (with_reducible first | exact HI0.out | apply zv1 | apply zv2 | apply zv3 | apply zv4 | apply zv5) | exact HI0.out))) : gb237 ≠ g)); replace HI0 := zm (IsS46.below zq15 hb); clear hb hbox hg) | ((with_reducible refine zyg (f := 58) rfl ?_); refine goesL_ (some 5) rfl rfl Try.func58 (by kernel_rfl) rfl #[.pointer (some ⟨g, 0, none⟩)] rfl zq0 ?_; (with_reducible refine (spec_l1Cur_field.calls k g s0_0 s0_1 s0_2 t238 t239 t240 t243 t244 w0 _ ?side1 ?side2 A2.out).mono ?_); (case side1 => repeat (first | (with_reducible first | exact HI0.out | apply zv1 | apply zv2 | apply zv3 | apply zv4 | apply zv5 | refine zv6 ?_ NB0_237.out _) | exact HI0.out)); (case side2 => repeat (first | (with_reducible first | exact HB.out | apply zya | apply zyp | apply zyr | refine zys ?_ (IsS46.ge HI0.out) | refine zys ?_ GE237.out) | exact HB.out)); rintro e w29 ⟨v241, rfl, ho0, hi, hb, hk⟩; refine ⟨_, rfl, ?_⟩; replace BK237 := zm (KeepBut.blk hk (g' := gb237) (o := zcB) (zqK BK237.out) NB237_0.out (by simp)); have HO242 := zm (Kd.R_lower ho0 (keep_size (w := w) (g := g) (row := none) zq17)); replace HK := zm (KeepBut.trans zq17 hk (.inl rfl)); replace HB := zm (hb); replace HI0 := zm (hi); (try clear hb); (try clear hb2); (try clear hk); (try clear hi); (try clear ho0)) | ((with_reducible refine gate_dst (N := 3) rfl ?_); refine box_event ?hg (N := 3) ?hd (cs := #[.int .i64 0, .int .i64 0, .slice none 0 0]) (t := 27) ?hr ?_; (case hd => rfl); (case hg => rfl); (case hr => exact zqS); intro gb245 hg w30 hbox hb; replace HO242 := zm (Kd.R_below (zqR HO242.out) hb); replace HB := zm (zyh zq83 hb); have BK245 := zm (hbox); have GW245 := zm ((by rw [hg]; exact (keep_size (w := w) (g := g) (row := none) zq17) : w.heap.size ≤ gb245)); have GE245 := zm ((Nat.le_trans HW0.out (by rw [hg]; exact (keep_size (w := w) (g := g) (row := none) zq17) : w.heap.size ≤ gb245) : w0.heap.size ≤ gb245)); replace HK := zm (KeepBut.trans zq17 (KeepBut.of_below hb g none) (.inl rfl)); have NB237_245 := zm ((by rw [hg]; exact Nat.ne_of_lt (blk_lt (g := gb237) (o := zcB) (zqK BK237.out)) : gb237 ≠ gb245)); have NB245_237 := zm ((by rw [hg]; exact Nat.ne_of_gt (blk_lt (g := gb237) (o := zcB) (zqK BK237.out)) : gb245 ≠ gb237)); replace BK237 := zm (zyb (g := gb237) (o := zcB) (zqK BK237.out) hb); have NB0_245 := zm ((by rw [hg]; exact Nat.ne_of_lt (IsS46.lt (show IsS46 w0 _ g s0_0 t243 t244 from by repeat (first | (with_reducible first | exact HI0.out | apply zv1 | apply zv2 | apply zv3 | apply zv4 | apply zv5 | refine zv6 ?_ NB0_237.out _) | exact HI0.out))) : g ≠ gb245)); have NB245_0 := zm ((by rw [hg]; exact Nat.ne_of_gt (IsS46.lt (show IsS46 w0 _ g s0_0 t243 t244 from by repeat (first | (with_reducible first | exact HI0.out | apply zv1 | apply zv2 | apply zv3 | apply zv4 | apply zv5 | refine zv6 ?_ NB0_237.out _) | exact HI0.out))) : gb245 ≠ g)); replace HI0 := zm (IsS46.below zq81 hb); clear hb hbox hg; have hnb31 := NB245_237.out; have hnc31 := NB237_245.out; have hnb32 := NB245_0.out; have hnc32 := NB0_245.out; have hcz33_0 := bz BK245.out 0 (.int .i64 0); have hcz33_1 := bz BK245.out 1 (.int .i64 0); have hcz33_2 := bz BK245.out 2 (.slice none 0 0); have hfz33_0 := zyF BK245.out 0; have hfz33_1 := zyF BK245.out 1; have hfz33_2 := zyF BK245.out 2; obtain ⟨Ao34, co34, eo34⟩ := Kd.R_slice HO242.out; subst eo34) | ((with_reducible refine zyg (f := 20) rfl ?_); refine goesL_ (some 7) rfl rfl Try.func20 (by kernel_rfl) rfl #[.pointer (some ⟨g, 0, none⟩), .int .i64 24] rfl zq0 ?_; (with_reducible refine (spec_l1Cur_pick.calls g s0_0 t243 t244 24 t246 t247 t248 w0 _ ?side1 ?side2 A3.out).mono ?_); (case side1 => repeat (first | (with_reducible first | exact HI0.out | apply zv1 | apply zv2 | apply zv3 | apply zv4 | apply zv5 | refine zv6 ?_ NB0_237.out _ | refine zv6 ?_ NB0_245.out _) | exact HI0.out)); (case side2 => repeat (first | (with_reducible first | exact HB.out | apply zya | apply zyp | apply zyr | refine zys ?_ (IsS46.ge HI0.out) | refine zys ?_ GE237.out | refine zys ?_ GE245.out) | exact HB.out)); rintro e w35 ⟨rfl, hi, hb, hk⟩; refine ⟨_, rfl, ?_⟩; replace BK237 := zm (KeepBut.blk hk (g' := gb237) (o := zcB) zq42 NB237_0.out (by simp)); replace HO242 := zm (Kd.R_mono (Kd.R_keep (IsS46.apart (show IsS46 w0 _ g s0_0 t243 t244 from by repeat (first | (with_reducible first | exact HI0.out | apply zv1 | apply zv2 | apply zv3 | apply zv4 | apply zv5 | refine zv6 ?_ NB0_237.out _ | refine zv6 ?_ NB0_245.out _) | exact HI0.out)) (by (with_reducible repeat (first | apply Kd.R_alloc | apply Kd.R_drewN | apply Kd.R_drew)); exact (Kd.R_mono (Kd.R_far (p := ⟨gb245, 2, none⟩) (Kd.R_far (p := ⟨gb245, 1, none⟩) (Kd.R_far (p := ⟨gb245, 0, none⟩) (Kd.R_types HO242.out BK245.out (by decide)) (fun _ hk => hk.2) (.int .i64 t238)) (fun _ hk => hk.2) (.int .i64 t239)) (fun _ hk => hk.2) (.slice Ao34 t240.length co34)) (fun _ h_ => h_.1))) (by decide)) hk (fun _ h => h.2)) (fun _ h => h.1)); replace BK245 := zm (KeepBut.blk hk (g' := gb245) (o := .cells #[.int .i64 t238, .int .i64 t239, .slice Ao34 t240.length co34] 27 (0, 0)) zq33 NB245_0.out (by simp)); replace HK := zm (KeepBut.trans zq13 hk (.inl rfl)); replace HB := zm (hb); replace HI0 := zm (hi); (try clear hb); (try clear hb2); (try clear hk); (try clear hi)))
 have n0_ := zm (Kd.R_drew HO242.out)
 have n1_ := zm (zD BK237.out)
 have n2_ := zm (zD BK245.out)
 have n3_ := zm (zv3 HI0.out)
 have n4_ := zm (keep_drew HK.out)
 have n5_ := zm (zyr HB.out)
 clear HO242
 clear BK237
 clear BK245
 clear HI0
 clear HK
 clear HB
 have HO242 := n0_
 have BK237 := n1_
 have BK245 := n2_
 have HI0 := n3_
 have HK := n4_
 have HB := n5_
 clear n0_ n1_ n2_ n3_ n4_ n5_
 refine start_ (n := 12) (S := fun w' => w'.cell? ⟨gb245, 0, none⟩ = some (.int .i64 t238) ∧ w'.cell? ⟨gb245, 1, none⟩ = some (.int .i64 t239) ∧ w'.cell? ⟨gb245, 2, none⟩ = some (.slice Ao34 t240.length co34)) (ds := [11]) #[zf, zf, zf, zf, zf, zf, zf, zf, zf, zf, zf, zf] (by kernel_rfl) rfl rfl ⟨(zyk BK245.out 0).trans rfl, (zyk BK245.out 1).trans rfl, (zyk BK245.out 2).trans rfl⟩ (fun hHeld => ?_); refine with_tabW spec_l1Cur_anyField.tab6 spec_l1Cur_anyField.bits6 (fun HT_ HW_ => ?_)
 generalize w35.drew = w36 at HO242 BK237 BK245 HI0 HK HB hHeld ⊢
 refine zP 0 (some 18) #[zt, zf, zf, zf, zf, zf, zf, zf, zf, zf, zf, zf] ?_ rfl rfl HT_ (Or.inl ⟨by rfl, ?_⟩) ?_ ?_ ?_
 rotate_left; · exact zqB
 rotate_left; · exact zqA
 refine zP 2 (some 20) #[zt, zf, zt, zf, zf, zf, zf, zf, zf, zf, zf, zf] ?_ rfl rfl HT_ (Or.inl ⟨by rfl, ?_⟩) ?_ ?_ ?_
 rotate_left; · exact zqB
 rotate_left; · exact zqA
 refine zP 3 (some 21) #[zt, zf, zt, zt, zf, zf, zf, zf, zf, zf, zf, zf] ?_ rfl rfl HT_ (Or.inl ⟨by rfl, ?_⟩) ?_ ?_ ?_
 rotate_left; · exact zqB
 rotate_left; · exact zqA
 refine zP 7 (some 25) #[zt, zf, zt, zt, zf, zf, zf, zt, zf, zf, zf, zf] ?_ rfl rfl HT_ (Or.inl ⟨by rfl, ?_⟩) ?_ ?_ ?_
 rotate_left; · exact zqB
 rotate_left; · exact zqA
 refine zT 1 (some 19) #[zt, zt, zt, zt, zf, zf, zf, zt, zf, zf, zf, zf] ?_ rfl rfl HT_ HW_ (Or.inl ⟨by rfl, ?_⟩) hHeld ?_ ?_ ?_
 rotate_left
 ·
  rintro w' ⟨s0, s1, s2⟩
  go_simp
  with_reducible rfl
 rotate_left; · exact zqA
 refine zT 4 (some 22) #[zt, zt, zt, zt, zt, zf, zf, zt, zf, zf, zf, zf] ?_ rfl rfl HT_ HW_ (Or.inl ⟨by rfl, ?_⟩) hHeld ?_ ?_ ?_
 rotate_left
 ·
  rintro w' ⟨s0, s1, s2⟩
  go_simp
  with_reducible rfl
 rotate_left; · exact zqA
 refine zP 5 (some 23) #[zt, zt, zt, zt, zt, zt, zf, zt, zf, zf, zf, zf] ?_ rfl rfl HT_ (Or.inl ⟨by rfl, ?_⟩) ?_ ?_ ?_
 rotate_left; · exact zqB
 rotate_left; · exact zqA
 refine join_ (σ := Value) 3 #[zt, zt, zt, zt, zt, zt, zt, zt, zt, zf, zf, zf] (fun s_ => [(24, .int .i64 t255), (26, s_)]) (fun s_ w' => (w'.cell? ⟨gb245, 0, none⟩ = some (.int .i64 t238) ∧ w'.cell? ⟨gb245, 1, none⟩ = some (.int .i64 t239) ∧ w'.cell? ⟨gb245, 2, none⟩ = some (.slice Ao34 t240.length co34)) ∧ (Kd.R (Kd.int .i64) 3 w' w.heap.size (fun k_ => some k_ ≠ (s_ : Value).ownBlock) (.slice Ao34 t240.length co34) t240) ∧ (Kd.R (Kd.int .i64) 3 w' w.heap.size (fun k_ => some k_ ≠ (.slice Ao34 t240.length co34 : Value).ownBlock) s_ y258) ∧ (w'.heap[gb237]? = some (.cells #[.int .i64 0, .int .i64 0, .slice none 0 0] 27 (0, 0))) ∧ (w'.heap[gb245]? = some (.cells #[.int .i64 t238, .int .i64 t239, .slice Ao34 t240.length co34] 27 (0, 0))) ∧ (IsS46 w0 w' g s0_0 t256 t257) ∧ (KeepBut w w' g none) ∧ (Below w0.heap.size w0 w')) ?_ ?_
 rotate_left
 ·
  intro hCont
  refine two_ (i := 6) (j := 8) (Ni := some 24) (Nj := some 26) #[zt, zt, zt, zt, zt, zt, zt, zt, zf, zf, zf, zf] #[zt, zt, zt, zt, zt, zt, zf, zt, zt, zf, zf, zf] rfl rfl rfl rfl (two_of HT_.out (by kernel_rfl)) (by decide) (by decide) (fun K hK => ?_) (fun K hK => ?_)
  ·
   skip
   refine goes_ Try.func20 (by kernel_rfl) rfl #[.pointer (some ⟨g, 0, none⟩), .int .i64 (t240.length : Int)] (by rfl) rfl rfl zq0 ?_
   with_reducible refine (spec_l1Cur_pick.calls g s0_0 t247 t248 (t240.length : Int) t255 t256 t257 w0 _ ?side1 ?side2 A23.out).mono ?_
   (case side1 => repeat (first | (with_reducible first | exact HI0.out | apply zv1 | apply zv2 | apply zv3 | apply zv4 | apply zv5 | refine zv6 ?_ NB0_237.out _ | refine zv6 ?_ NB0_245.out _) | exact HI0.out))
   (case side2 => repeat (first | (with_reducible first | exact HB.out | apply zya | apply zyp | apply zyr | refine zys ?_ (IsS46.ge HI0.out) | refine zys ?_ GE237.out | refine zys ?_ GE245.out) | exact HB.out))
   rintro e w37 ⟨rfl, hi, hb, hk⟩
   refine ⟨_, rfl, ?_⟩
   have n0_ := zm (KeepBut.blk hk (g' := gb237) (o := zcB) (zqK BK237.out) NB237_0.out (by simp))
   have n1_ := zm (Kd.R_mono (Kd.R_keep (IsS46.apart (show IsS46 w0 _ g s0_0 t247 t248 from by repeat (first | (with_reducible first | exact HI0.out | apply zv1 | apply zv2 | apply zv3 | apply zv4 | apply zv5 | refine zv6 ?_ NB0_237.out _ | refine zv6 ?_ NB0_245.out _) | exact HI0.out)) (zqR HO242.out) (by decide)) hk (fun _ h => h.2)) (fun _ h => h.1))
   have n2_ := zm (KeepBut.blk hk (g' := gb245) (o := .cells #[.int .i64 t238, .int .i64 t239, .slice Ao34 t240.length co34] 27 (0, 0)) (zqK BK245.out) NB245_0.out (by simp))
   have n3_ := zm (KeepBut.trans zq13 hk (.inl rfl))
   have n4_ := zm (hb)
   have n5_ := zm (hi)
   clear BK237
   clear HO242
   clear BK245
   clear HK
   clear HB
   clear HI0
   have BK237 := n0_
   have HO242 := n1_
   have BK245 := n2_
   have HK := n3_
   have HB := n4_
   have HI0 := n5_
   clear n0_ n1_ n2_ n3_ n4_ n5_
   (try clear hb)
   (try clear hb2)
   (try clear hk)
   (try clear hi)
   refine hK.out _ _ ⟨(zyk BK245.out 0).trans rfl, (zyk BK245.out 1).trans rfl, (zyk BK245.out 2).trans rfl⟩ (fun hHeld => ?_)
   clear hK K
   refine norm_ (a' := ?_) ?_ ?_
   rotate_left
   ·
    show Act.put _ (some 24) _ = _
    simp only [Act.put, List.setIfInBounds_toArray, List.set_cons_zero, List.set_cons_succ, i64_w, i32_w]
    rfl
   refine one_ (i := 8) (N := some 26) #[zt, zt, zt, zt, zt, zt, zt, zt, zt, zf, zf, zf] rfl rfl (one_of HT_.out (by kernel_rfl)) (by decide) (fun K hK => ?_)
   refine Kd.R_lit_step (Kd.int .i64) _ 3 ?hg (N := 26) ?hd (xs := ([9001, (-9001), (-9998), (-9999)] : List Int)) (inner := [.int .i64 9001, .int .i64 (-9001), .int .i64 (-9998), .int .i64 (-9999)]) (ok := fun _ => True) (okp := fun _ => True) ?hr ?hp (fun _ hk => hk) trivial (Below.refl _ _) (Nat.le_refl _) (by simp) ?_; (case hd => rfl); (case hg => rfl); (case hr => exact zqS); (case hp => exact (Reps.one (show Kd.M (Kd.int .i64) _ _ _ 9001 [.int .i64 9001] from rfl) (Reps.one (show Kd.M (Kd.int .i64) _ _ _ (-9001) [.int .i64 (-9001)] from rfl) (Reps.one (show Kd.M (Kd.int .i64) _ _ _ (-9998) [.int .i64 (-9998)] from rfl) (Reps.one (show Kd.M (Kd.int .i64) _ _ _ (-9999) [.int .i64 (-9999)] from rfl) (Reps.none _ _))))))
   intro v259 w38 ho39 hb hg_ hnew_
   clear hg_ hnew_
   (first | rw [← Ny258.out] at ho39 | (simp only [Int.reduceToNat] at ho39; rw [← Ny258.out] at ho39))
   have n0_ := zm (Kd.R_elder' (zqR HO242.out) (Kd.R_base ho39) hb)
   have n1_ := zm (Kd.R_lower (Kd.R_new' ho39 (Kd.R_lt (zqR HO242.out))) (keep_size (w := w) (g := g) (row := none) zq13))
   have n2_ := zm (IsS46.below zq35 hb)
   have n3_ := zm (zyb (g := gb237) (o := zcB) (zqK BK237.out) hb)
   have n4_ := zm (zyb (g := gb245) (o := .cells #[.int .i64 t238, .int .i64 t239, .slice Ao34 t240.length co34] 27 (0, 0)) (zqK BK245.out) hb)
   have n5_ := zm (KeepBut.trans zq13 (KeepBut.of_below hb g none) (.inl rfl))
   have n6_ := zm (zyh zq36 hb)
   clear HO242
   clear HI0
   clear BK237
   clear BK245
   clear HK
   clear HB
   have HO242 := n0_
   have HO260 := n1_
   have HI0 := n2_
   have BK237 := n3_
   have BK245 := n4_
   have HK := n5_
   have HB := n6_
   clear n0_ n1_ n2_ n3_ n4_ n5_ n6_
   clear hb ho39
   refine hK.out _ _ ⟨(zyk BK245.out 0).trans rfl, (zyk BK245.out 1).trans rfl, (zyk BK245.out 2).trans rfl⟩ (fun hHeld => ?_)
   clear hK K
   refine norm_ (a' := ?_) ?_ ?_
   rotate_left
   ·
    show Act.put _ (some 26) _ = _
    simp only [Act.put, List.setIfInBounds_toArray, List.set_cons_zero, List.set_cons_succ, i64_w, i32_w]
    rfl
   exact norm_ (by simp only [putAll, Act.put, List.setIfInBounds_toArray, List.set_cons_zero, List.set_cons_succ]) (hCont (v259) _ ⟨hHeld, (by (with_reducible repeat (first | apply Kd.R_alloc | apply Kd.R_drewN | apply Kd.R_drew)); exact Kd.R_mono HO242.out (fun _ hk => hk.2)), (by (with_reducible repeat (first | apply Kd.R_alloc | apply Kd.R_drewN | apply Kd.R_drew)); exact Kd.R_mono HO260.out (fun _ hk => hk.2)), (zqK BK237.out), (zqK BK245.out), zq35, zq13, zq36⟩)
  ·
   skip
   refine Kd.R_lit_step (Kd.int .i64) _ 3 ?hg (N := 26) ?hd (xs := ([9001, (-9001), (-9998), (-9999)] : List Int)) (inner := [.int .i64 9001, .int .i64 (-9001), .int .i64 (-9998), .int .i64 (-9999)]) (ok := fun _ => True) (okp := fun _ => True) ?hr ?hp (fun _ hk => hk) trivial (Below.refl _ _) (Nat.le_refl _) (by simp) ?_; (case hd => rfl); (case hg => rfl); (case hr => exact zqS); (case hp => exact (Reps.one (show Kd.M (Kd.int .i64) _ _ _ 9001 [.int .i64 9001] from rfl) (Reps.one (show Kd.M (Kd.int .i64) _ _ _ (-9001) [.int .i64 (-9001)] from rfl) (Reps.one (show Kd.M (Kd.int .i64) _ _ _ (-9998) [.int .i64 (-9998)] from rfl) (Reps.one (show Kd.M (Kd.int .i64) _ _ _ (-9999) [.int .i64 (-9999)] from rfl) (Reps.none _ _))))))
   intro v259 w37 ho38 hb hg_ hnew_
   clear hg_ hnew_
   (first | rw [← Ny258.out] at ho38 | (simp only [Int.reduceToNat] at ho38; rw [← Ny258.out] at ho38))
   have n0_ := zm (Kd.R_elder' (zqR HO242.out) (Kd.R_base ho38) hb)
   have n1_ := zm (Kd.R_lower (Kd.R_new' ho38 (Kd.R_lt (zqR HO242.out))) (keep_size (w := w) (g := g) (row := none) zq13))
   have n2_ := zm (IsS46.below zq35 hb)
   have n3_ := zm (zyb (g := gb237) (o := zcB) (zqK BK237.out) hb)
   have n4_ := zm (zyb (g := gb245) (o := .cells #[.int .i64 t238, .int .i64 t239, .slice Ao34 t240.length co34] 27 (0, 0)) (zqK BK245.out) hb)
   have n5_ := zm (KeepBut.trans zq13 (KeepBut.of_below hb g none) (.inl rfl))
   have n6_ := zm (zyh zq36 hb)
   clear HO242
   clear HI0
   clear BK237
   clear BK245
   clear HK
   clear HB
   have HO242 := n0_
   have HO260 := n1_
   have HI0 := n2_
   have BK237 := n3_
   have BK245 := n4_
   have HK := n5_
   have HB := n6_
   clear n0_ n1_ n2_ n3_ n4_ n5_ n6_
   clear hb ho38
   refine hK.out _ _ ⟨(zyk BK245.out 0).trans rfl, (zyk BK245.out 1).trans rfl, (zyk BK245.out 2).trans rfl⟩ (fun hHeld => ?_)
   clear hK K
   refine norm_ (a' := ?_) ?_ ?_
   rotate_left
   ·
    show Act.put _ (some 26) _ = _
    simp only [Act.put, List.setIfInBounds_toArray, List.set_cons_zero, List.set_cons_succ, i64_w, i32_w]
    rfl
   refine one_ (i := 6) (N := some 24) #[zt, zt, zt, zt, zt, zt, zt, zt, zt, zf, zf, zf] rfl rfl (one_of HT_.out (by kernel_rfl)) (by decide) (fun K hK => ?_)
   refine goes_ Try.func20 (by kernel_rfl) rfl #[.pointer (some ⟨g, 0, none⟩), .int .i64 (t240.length : Int)] (by rfl) rfl rfl zq0 ?_
   with_reducible refine (spec_l1Cur_pick.calls g s0_0 t247 t248 (t240.length : Int) t255 t256 t257 w0 _ ?side1 ?side2 A23.out).mono ?_
   (case side1 => repeat (first | (with_reducible first | exact HI0.out | apply zv1 | apply zv2 | apply zv3 | apply zv4 | apply zv5 | refine zv6 ?_ NB0_237.out _ | refine zv6 ?_ NB0_245.out _) | exact HI0.out))
   (case side2 => repeat (first | (with_reducible first | exact HB.out | apply zya | apply zyp | apply zyr | refine zys ?_ (IsS46.ge HI0.out) | refine zys ?_ GE237.out | refine zys ?_ GE245.out) | exact HB.out))
   rintro e w39 ⟨rfl, hi, hb, hk⟩
   refine ⟨_, rfl, ?_⟩
   have n0_ := zm (KeepBut.blk hk (g' := gb237) (o := zcB) (zqK BK237.out) NB237_0.out (by simp))
   have n1_ := zm (Kd.R_mono (Kd.R_keep (IsS46.apart (show IsS46 w0 _ g s0_0 t247 t248 from by repeat (first | (with_reducible first | exact HI0.out | apply zv1 | apply zv2 | apply zv3 | apply zv4 | apply zv5 | refine zv6 ?_ NB0_237.out _ | refine zv6 ?_ NB0_245.out _) | exact HI0.out)) (zqR HO242.out) (by decide)) hk (fun _ h => h.2)) (fun _ h => h.1))
   have n2_ := zm (KeepBut.blk hk (g' := gb245) (o := .cells #[.int .i64 t238, .int .i64 t239, .slice Ao34 t240.length co34] 27 (0, 0)) (zqK BK245.out) NB245_0.out (by simp))
   have n3_ := zm (Kd.R_mono (Kd.R_keep (IsS46.apart (show IsS46 w0 _ g s0_0 t247 t248 from by repeat (first | (with_reducible first | exact HI0.out | apply zv1 | apply zv2 | apply zv3 | apply zv4 | apply zv5 | refine zv6 ?_ NB0_237.out _ | refine zv6 ?_ NB0_245.out _) | exact HI0.out)) (zqR HO260.out) (by decide)) hk (fun _ h => h.2)) (fun _ h => h.1))
   have n4_ := zm (KeepBut.trans zq13 hk (.inl rfl))
   have n5_ := zm (hb)
   have n6_ := zm (hi)
   clear BK237
   clear HO242
   clear BK245
   clear HO260
   clear HK
   clear HB
   clear HI0
   have BK237 := n0_
   have HO242 := n1_
   have BK245 := n2_
   have HO260 := n3_
   have HK := n4_
   have HB := n5_
   have HI0 := n6_
   clear n0_ n1_ n2_ n3_ n4_ n5_ n6_
   (try clear hb)
   (try clear hb2)
   (try clear hk)
   (try clear hi)
   refine hK.out _ _ ⟨(zyk BK245.out 0).trans rfl, (zyk BK245.out 1).trans rfl, (zyk BK245.out 2).trans rfl⟩ (fun hHeld => ?_)
   clear hK K
   refine norm_ (a' := ?_) ?_ ?_
   rotate_left
   ·
    show Act.put _ (some 24) _ = _
    simp only [Act.put, List.setIfInBounds_toArray, List.set_cons_zero, List.set_cons_succ, i64_w, i32_w]
    rfl
   exact norm_ (by simp only [putAll, Act.put, List.setIfInBounds_toArray, List.set_cons_zero, List.set_cons_succ]) (hCont (v259) _ ⟨hHeld, (by (with_reducible repeat (first | apply Kd.R_alloc | apply Kd.R_drewN | apply Kd.R_drew)); exact Kd.R_mono HO242.out (fun _ hk => hk.2)), (by (with_reducible repeat (first | apply Kd.R_alloc | apply Kd.R_drewN | apply Kd.R_drew)); exact Kd.R_mono HO260.out (fun _ hk => hk.2)), (zqK BK237.out), (zqK BK245.out), zq35, zq13, zq36⟩)
 rintro v259 w40 ⟨hS_, h0_, h1_, h2_, h3_, h4_, h5_, h6_⟩
 have n0_ : Aside0 (Kd.R (Kd.int .i64) 3 w40 w.heap.size (fun k_ => some k_ ≠ (v259 : Value).ownBlock) (.slice Ao34 t240.length co34) t240) := ⟨h0_⟩
 have n1_ : Aside0 (Kd.R (Kd.int .i64) 3 w40 w.heap.size (fun k_ => some k_ ≠ (.slice Ao34 t240.length co34 : Value).ownBlock) v259 y258) := ⟨h1_⟩
 have n2_ : Aside0 (w40.heap[gb237]? = some (.cells #[.int .i64 0, .int .i64 0, .slice none 0 0] 27 (0, 0))) := ⟨h2_⟩
 have n3_ : Aside0 (w40.heap[gb245]? = some (.cells #[.int .i64 t238, .int .i64 t239, .slice Ao34 t240.length co34] 27 (0, 0))) := ⟨h3_⟩
 have n4_ : Aside0 (IsS46 w0 w40 g s0_0 t256 t257) := ⟨h4_⟩
 have n5_ : Aside0 (KeepBut w w40 g none) := ⟨h5_⟩
 have n6_ : Aside0 (Below w0.heap.size w0 w40) := ⟨h6_⟩
 clear HO242
 clear BK237
 clear BK245
 clear HI0
 clear HK
 clear HB
 clear h0_ h1_ h2_ h3_ h4_ h5_ h6_
 have HO242 := n0_
 have HO260 := n1_
 have BK237 := n2_
 have BK245 := n3_
 have HI0 := n4_
 have HK := n5_
 have HB := n6_
 clear n0_ n1_ n2_ n3_ n4_ n5_ n6_
 have hHeld : w40.cell? ⟨gb245, 0, none⟩ = some (.int .i64 t238) ∧ w40.cell? ⟨gb245, 1, none⟩ = some (.int .i64 t239) ∧ w40.cell? ⟨gb245, 2, none⟩ = some (.slice Ao34 t240.length co34) := hS_
 obtain ⟨Ao41, co41, eo41⟩ := Kd.R_slice HO260.out
 (first | subst eo41 | (injection eo41 with f1_ f2_ f3_; have f4_ := f1_.symm; have f5_ := f3_.symm; clear f1_ f2_ f3_; subst f4_; subst f5_))
 refine norm_ (a' := ?_) ?_ ?_
 rotate_left
 ·
  simp only [putAll, Act.put, List.setIfInBounds_toArray, List.set_cons_zero, List.set_cons_succ]
  rfl
 refine one_ (i := 9) (N := some 27) #[zt, zt, zt, zt, zt, zt, zt, zt, zt, zt, zf, zf] rfl rfl (one_of HT_.out (by kernel_rfl)) (by decide) (fun K hK => ?_)
 refine goes_ Try.func19 (by kernel_rfl) rfl #[.pointer (some ⟨g, 0, none⟩), .slice Ao41 y258.length co41] (by rfl) rfl rfl zq0 ?_
 with_reducible refine (spec_l1Cur_among.calls g s0_0 t256 t257 _ _ y258 t261 t262 t263 w0 _ ?side1 ?side2 ?side3 ?side4 ?side5 A24.out).mono ?_
 (case side1 => repeat (first | (with_reducible first | exact HI0.out | apply zv1 | apply zv2 | apply zv3 | apply zv4 | apply zv5 | refine zv6 ?_ NB0_237.out _ | refine zv6 ?_ NB0_245.out _) | exact HI0.out))
 (case side2 => repeat (first | (with_reducible first | exact HB.out | apply zya | apply zyp | apply zyr | refine zys ?_ (IsS46.ge HI0.out) | refine zys ?_ GE237.out | refine zys ?_ GE245.out) | exact HB.out))
 (case side3 => exact zqC (Kd.R_reads' HO260.out).2.2)
 (case side4 => exact (Kd.R_reads' HO260.out).2.1)
 (case side5 => exact far_slice (IsS46.own_ne HI0.out HO260.out (by decide)))
 rintro e w42 ⟨rfl, hi, hb, hk⟩
 refine ⟨_, rfl, ?_⟩
 have n0_ := zm (KeepBut.blk hk (g' := gb237) (o := zcB) (zqK BK237.out) NB237_0.out (by simp))
 have n1_ := zm (Kd.R_mono (Kd.R_keep (IsS46.apart (show IsS46 w0 _ g s0_0 t256 t257 from by repeat (first | (with_reducible first | exact HI0.out | apply zv1 | apply zv2 | apply zv3 | apply zv4 | apply zv5 | refine zv6 ?_ NB0_237.out _ | refine zv6 ?_ NB0_245.out _) | exact HI0.out)) (zqR HO242.out) (by decide)) hk (fun _ h => h.2)) (fun _ h => h.1))
 have n2_ := zm (KeepBut.blk hk (g' := gb245) (o := .cells #[.int .i64 t238, .int .i64 t239, .slice Ao34 t240.length co34] 27 (0, 0)) (zqK BK245.out) NB245_0.out (by simp))
 have n3_ := zm (Kd.R_mono (Kd.R_keep (IsS46.apart (show IsS46 w0 _ g s0_0 t256 t257 from by repeat (first | (with_reducible first | exact HI0.out | apply zv1 | apply zv2 | apply zv3 | apply zv4 | apply zv5 | refine zv6 ?_ NB0_237.out _ | refine zv6 ?_ NB0_245.out _) | exact HI0.out)) (zqR HO260.out) (by decide)) hk (fun _ h => h.2)) (fun _ h => h.1))
 have n4_ := zm (KeepBut.trans zq13 hk (.inl rfl))
 have n5_ := zm (hb)
 have n6_ := zm (hi)
 clear BK237
 clear HO242
 clear BK245
 clear HO260
 clear HK
 clear HB
 clear HI0
 have BK237 := n0_
 have HO242 := n1_
 have BK245 := n2_
 have HO260 := n3_
 have HK := n4_
 have HB := n5_
 have HI0 := n6_
 clear n0_ n1_ n2_ n3_ n4_ n5_ n6_
 (try clear hb)
 (try clear hb2)
 (try clear hk)
 (try clear hi)
 have p27 : 0 ≤ (t255 : Int) := of_decide_eq_true zq6
 have q27 : (t255 : Int) < ((t240.length : Int) : Int) := of_decide_eq_true zq6
 obtain ⟨go27, co27, eo27, gb27, gl27, cl27, HG27⟩ := Kd.R_form HO242.out (by omega)
 (first | cases eo27 | (injection eo27 with ea_ en_ ec_; (first | subst ea_ | (injection ea_ with ea_; subst ea_)); subst ec_; clear en_))
 have GB27 := zm gb27
 have GG27 := zm HG27
 clear gb27 gl27 HG27
 obtain ⟨hx27_0, hf27_0⟩ := Kd.R_celln 0 HO242.out (t255 : Int) p27 q27
 replace p27 := eq_true p27
 replace q27 := eq_true q27
 have HN0_go27 := zm (show g ≠ go27 from by have h_ := IsS46.own_ne HI0.out HO242.out (by decide); intro e_; exact h_ (by rw [e_]; rfl))
 have HP43 := Kd.R_putn HO242.out (t255 : Int) t261
 rw [← Ny264.out] at HP43
 have HQ43 := zm HP43
 clear HP43
 refine hK.out _ _ ⟨(zyk BK245.out 0).trans rfl, (zyk BK245.out 1).trans rfl, (zyk BK245.out 2).trans rfl⟩ (fun hHeld => ?_)
 clear hK K
 refine norm_ (a' := ?_) ?_ ?_
 rotate_left
 ·
  show Act.put _ (some 27) _ = _
  simp only [Act.put, List.setIfInBounds_toArray, List.set_cons_zero, List.set_cons_succ, i64_w, i32_w]
  rfl
 refine zP 10 (some 28) #[zt, zt, zt, zt, zt, zt, zt, zt, zt, zt, zt, zf] ?_ rfl rfl HT_ (Or.inl ⟨by rfl, ?_⟩) ?_ ?_ ?_
 rotate_left; · exact zqB
 rotate_left; · exact zqA
 refine last_ (i := 11) (N := none) #[zt, zt, zt, zt, zt, zt, zt, zt, zt, zt, zt, zt] rfl rfl (one_of HT_.out (by kernel_rfl)) (by decide) (fun K hK => ?_)
 refine skip_ (w1 := ?_) (by rfl) rfl ?_ ?_
 rotate_left
 ·
  go_simp
  rfl
 refine hK.out _ _ ?_
 clear hK K
 refine done_ (done_of HT_.out (by kernel_rfl)) ?_
 have n0_ : Aside0 (Kd.R (Kd.int .i64) 3 (w42.setCell ⟨go27, (t255 : Int).toNat, none⟩ (.int .i64 t261)) w.heap.size (fun k_ => some k_ ≠ (.slice Ao41 y258.length co41 : Value).ownBlock) (.slice (some ⟨go27, 0, none⟩) t240.length co34) y264) := ⟨zqR HQ43.out⟩
 have n1_ : Aside0 (Kd.R (Kd.int .i64) 3 (w42.setCell ⟨go27, (t255 : Int).toNat, none⟩ (.int .i64 t261)) w.heap.size (fun k_ => some k_ ≠ (.slice (some ⟨go27, 0, none⟩) t240.length co34 : Value).ownBlock) (.slice Ao41 y258.length co41) y258) := ⟨by (with_reducible repeat (first | apply Kd.R_alloc | apply Kd.R_drewN | apply Kd.R_drew)); exact Kd.R_mono (Kd.R_far (p := ⟨go27, (t255 : Int).toNat, none⟩) (Kd.R_mono HO260.out (fun k_ hk => (⟨hk, fun e_ => hk (by rw [e_]; rfl)⟩ : _ ∧ k_ ≠ go27))) (fun _ hk => hk.2) (.int .i64 t261)) (fun _ hk => hk.1)⟩
 have n2_ : Aside0 ((w42.setCell ⟨go27, (t255 : Int).toNat, none⟩ (.int .i64 t261)).heap[gb237]? = some (.cells #[.int .i64 0, .int .i64 0, .slice none 0 0] 27 (0, 0))) := ⟨by (with_reducible repeat (first | apply zN | apply zD | apply zL)); refine zye ?_ (by have h_ := Kd.R_ne HO242.out BK237.out (by decide); intro e_; exact h_ (by rw [e_]; rfl)) _; (with_reducible repeat (first | apply zN | apply zD | apply zL)); exact BK237.out⟩
 have n3_ : Aside0 ((w42.setCell ⟨go27, (t255 : Int).toNat, none⟩ (.int .i64 t261)).heap[gb245]? = some (.cells #[.int .i64 t238, .int .i64 t239, .slice (some ⟨go27, 0, none⟩) t240.length co34] 27 (0, 0))) := ⟨by (with_reducible repeat (first | apply zN | apply zD | apply zL)); refine zye ?_ (by have h_ := Kd.R_ne HO242.out BK245.out (by decide); intro e_; exact h_ (by rw [e_]; rfl)) _; (with_reducible repeat (first | apply zN | apply zD | apply zL)); exact BK245.out⟩
 have n4_ : Aside0 (IsS46 w0 (w42.setCell ⟨go27, (t255 : Int).toNat, none⟩ (.int .i64 t261)) g s0_0 t262 t263) := ⟨(by repeat (first | (with_reducible first | exact HI0.out | apply zv1 | apply zv2 | apply zv3 | apply zv4 | apply zv5 | refine zv6 ?_ HN0_go27.out _ | refine zv6 ?_ NB0_237.out _ | refine zv6 ?_ NB0_245.out _) | exact HI0.out))⟩
 have n5_ : Aside0 (KeepBut w (w42.setCell ⟨go27, (t255 : Int).toNat, none⟩ (.int .i64 t261)) g none) := ⟨(by repeat (first | (with_reducible first | exact HK.out | apply KeepBut.set_ | apply keep_drewN | apply keep_drew | apply keep_alloc | refine keep_far ?_ GB27.out _ | refine keep_far ?_ GW237.out _ | refine keep_far ?_ GW245.out _) | exact HK.out))⟩
 have n6_ : Aside0 (Below w0.heap.size w0 (w42.setCell ⟨go27, (t255 : Int).toNat, none⟩ (.int .i64 t261))) := ⟨(by repeat (first | (with_reducible first | exact HB.out | apply zya | apply zyp | apply zyr | refine zys ?_ (Nat.le_trans HL.out GB27.out) | refine zys ?_ (IsS46.ge HI0.out) | refine zys ?_ GE237.out | refine zys ?_ GE245.out) | exact HB.out))⟩
 (try clear HO242)
 (try clear HO260)
 (try clear BK237)
 (try clear BK245)
 (try clear HI0)
 (try clear HK)
 (try clear HB)
 generalize (w42.setCell ⟨go27, (t255 : Int).toNat, none⟩ (.int .i64 t261)) = w44 at n0_ n1_ n2_ n3_ n4_ n5_ n6_ ⊢
 have HO242 := n0_
 have HO260 := n1_
 have BK237 := n2_
 have BK245 := n3_
 have HI0 := n4_
 have HK := n5_
 have HB := n6_
 clear n0_ n1_ n2_ n3_ n4_ n5_ n6_
 have hcz45_0 := bz BK245.out 0 (.int .i64 t238)
 have hcz45_1 := bz BK245.out 1 (.int .i64 t239)
 have hcz45_2 := bz BK245.out 2 (.slice (some ⟨go27, 0, none⟩) t240.length co34)
 have hfz45_0 := zyF BK245.out 0
 have hfz45_1 := zyF BK245.out 1
 have hfz45_2 := zyF BK245.out 2
 have hnb46 := NB237_0.out
 have hnc46 := NB0_237.out
 have hcz47_0 := bz BK237.out 0 (.int .i64 0)
 have hcz47_1 := bz BK237.out 1 (.int .i64 0)
 have hcz47_2 := bz BK237.out 2 (.slice none 0 0)
 have hfz47_0 := zyF BK237.out 0
 have hfz47_1 := zyF BK237.out 1
 have hfz47_2 := zyF BK237.out 2
 try go_wp2
 refine bodyPost_ret (results_cell_row rfl _ _ gb237 27 #[.int .i64 t238, .int .i64 t239, .slice (some ⟨go27, 0, none⟩) t240.length co34] (0, 0) _ rfl zq77 Try.underlying27 rfl (by kernel_rfl)) rfl ?_
 exact ⟨_, by first | rfl | (simp [errW_none, errW_some] <;> rfl) | (simp [*, errW_none, errW_some] <;> rfl), Kd.Q_of_R (by (with_reducible repeat (first | apply Kd.R_alloc | apply Kd.R_drewN | apply Kd.R_drew)); exact Kd.R_mono (Kd.R_far (p := ⟨gb237, 2, none⟩) (Kd.R_far (p := ⟨gb237, 1, none⟩) (Kd.R_far (p := ⟨gb237, 0, none⟩) (Kd.R_types HO242.out BK237.out (by decide)) (fun _ hk => hk.2) (.int .i64 t238)) (fun _ hk => hk.2) (.int .i64 t239)) (fun _ hk => hk.2) (.slice (some ⟨go27, 0, none⟩) t240.length co34)) (fun _ hk => trivial)), zq35, zq36, zq13⟩
end Go.Proofs.Ytfaihkhdbapjmaa.Q
