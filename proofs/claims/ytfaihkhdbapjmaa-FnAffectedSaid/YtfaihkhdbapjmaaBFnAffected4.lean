/- Texts of this claim, put together: walks of the program's functions, and plain facts. -/
import Derived.Test.YtfaihkhdbapjmaaZFnAffected
import Derived.Test.YtfaihkhdbapjmaaBFnAffected0
import Derived.Test.YtfaihkhdbapjmaaBFnAffected3
namespace Go.Proofs.Ytfaihkhdbapjmaa.Q
open Go.RowKit Go.Proofs.YtfaihkhdbapjmaaW.PrintWords Go.Proofs.YtfaihkhdbapjmaaW.PrintLast Go.Proofs.YtfaihkhdbapjmaaW.PrintMore
attribute [local go_sem] max2_int min2_int max_two min_two max_three min_three max_four min_four
set_option linter.unusedVariables false
set_option linter.unusedSimpArgs false
mutual
def spec_l1Cur_field.l0 : Nat → Int → Int → List Int → Int → Int → Int → Int → List Int → Option (Int × Int × List Int × Int × Int)
 | 0, _, _, _, _, _, _, _, _ => none
 | k + 1, x4, x5, x1000, x1001, x1002, x198000, x198001, x198002 => if x5 < (wrap64 (x198000 * x198001)) then ((spec_l1Cur_pick.f x1000 x1001 x1002 40).bind fun bt204 => ((spec_l1Cur_one.f x1000 bt204.2.1 bt204.2.2 12).bind fun bt207 => (if bt207.1 = true then (if x198002.length < 17592186044416 then (spec_l1Cur_field.l0 k x4 (wrap64 (x5 + 1)) x1000 bt207.2.1 bt207.2.2 x198000 x198001 (x198002 ++ [(-9999)])) else (none)) else (if x198002.length < 17592186044416 then (spec_l1Cur_field.l0 k x4 (wrap64 (x5 + 1)) x1000 bt207.2.1 bt207.2.2 x198000 x198001 (x198002 ++ [wrap64 (x4 + bt204.1)])) else (none))))) else ((spec_l1Cur_one.f x1000 x1001 x1002 10).bind fun bt216 => (if bt216.1 = true then ((spec_l1Cur_pick.f x1000 bt216.2.1 bt216.2.2 (x198002.length : Int)).bind fun bt219 => ((spec_l1Cur_among.f x1000 bt219.2.1 bt219.2.2 (([9000, (-9000), 0] : List Int))).bind fun bt225 => (if 0 ≤ bt219.1 then (if bt219.1 < (x198002.length : Int) then (spec_l1Cur_field.j1 k x1000 bt225.2.1 bt225.2.2 x198000 x198001 (x198002.set (bt219.1 : Int).toNat bt225.1)) else (none)) else (none)))) else (spec_l1Cur_field.j1 k x1000 bt216.2.1 bt216.2.2 x198000 x198001 x198002)))
def spec_l1Cur_field.j1 : Nat → List Int → Int → Int → Int → Int → List Int → Option (Int × Int × List Int × Int × Int)
 | 0, _, _, _, _, _, _ => none
 | k + 1, x1000, x1001, x1002, x198000, x198001, x198002 => (spec_l1Cur_one.f x1000 x1001 x1002 24).bind fun bt229 => (if bt229.1 = true then ((spec_l2Fill.f k 8 8 3).bind fun bt232 => (some (bt232.1, bt232.2.1, bt232.2.2, bt229.2.1, bt229.2.2))) else (some (x198000, x198001, x198002, bt229.2.1, bt229.2.2)))
end
def spec_l1Cur_field.f (k : Nat) (s0_0 : List Int) (s0_1 : Int) (s0_2 : Int) : Option (Int × Int × List Int × Int × Int) := (spec_l1Cur_pick.f s0_0 s0_1 s0_2 5).bind fun bt191 => ((spec_l1Cur_pick.f s0_0 bt191.2.1 bt191.2.2 5).bind fun bt194 => ((spec_l1Cur_among.f s0_0 bt194.2.1 bt194.2.2 (([0, 10, 100, (-50)] : List Int))).bind fun bt201 => (spec_l1Cur_field.l0 k bt201.1 0 s0_0 bt201.2.1 bt201.2.2 (wrap64 (1 + bt191.1)) (wrap64 (1 + bt194.1)) ([] : List Int))))
def spec_l1Cur_field.T11 : Bool × List (List Nat × List Nat) := (true, [([], []), ([0], [0]), ([], []), ([], []), ([3], [3]), ([4], [4]), ([2, 5], [2, 5]), ([], []), ([], []), ([7, 8, 6], [7, 8]), ([1, 6, 0, 1, 2, 3, 4, 5, 6, 7, 8, 9], [1, 6]), ([10, 9, 9, 0, 1, 2, 3, 4, 5, 6, 7, 8, 9], [9, 10])])
def spec_l1Cur_field.B11 : List Nat := [0, 1, 0, 0, 8, 24, 60, 0, 0, 508, 1023, 2047]
theorem spec_l1Cur_field.tab11 : rtab .any (opsOf Try.f58 11) = spec_l1Cur_field.T11 := by kernel_rfl
theorem spec_l1Cur_field.bits11 : waitsOk spec_l1Cur_field.T11.2 spec_l1Cur_field.B11 = true := by kernel_rfl
set_option maxHeartbeats 8000000 in
set_option maxRecDepth 100000 in
theorem spec_l1Cur_field.calls (k : Nat) (g : Nat) (s0_0 : List Int) (s0_1 : Int) (s0_2 : Int) (r1 : Int) (r2 : Int) (r3 : List Int) (r4 : Int) (r5 : Int) (w0 w : World) (hI : IsS46 w0 w g s0_0 s0_1 s0_2) (hB : Below w0.heap.size w0 w) (h : spec_l1Cur_field.f k s0_0 s0_1 s0_2 = some (r1, r2, r3, r4, r5)) :
  Calls Try.prog 58 #[.pointer (some ⟨g, 0, none⟩)] w fun e w' => ∃ v2_ : Value, e = .returned (.agg #[.int .i64 r1, .int .i64 r2, v2_]) ∧ Kd.R (Kd.int .i64) 3 w' w.heap.size (fun _ => True) v2_ r3 ∧ IsS46 w0 w' g s0_0 r4 r5 ∧ Below w0.heap.size w0 w' ∧ KeepBut w w' g none := by
 have hu27 := Try.underlying27
 have HI0 := zm hI
 have HK := zm (KeepBut.refl w g none)
 have HL := zm hB.size
 clear hI
 have HW0 := zm hB.size
 have HB := zm hB
 clear hB
 have H : ((spec_l1Cur_pick.f s0_0 s0_1 s0_2 5).bind fun bt191 => ((spec_l1Cur_pick.f s0_0 bt191.2.1 bt191.2.2 5).bind fun bt194 => ((spec_l1Cur_among.f s0_0 bt194.2.1 bt194.2.2 (([0, 10, 100, (-50)] : List Int))).bind fun bt201 => (spec_l1Cur_field.l0 k bt201.1 0 s0_0 bt201.2.1 bt201.2.2 (wrap64 (1 + bt191.1)) (wrap64 (1 + bt194.1)) ([] : List Int))))) = some (r1, r2, r3, r4, r5) := h
 clear h
 obtain ⟨⟨t191, t192, t193⟩, A20, H⟩ := zob H
 replace H : ((spec_l1Cur_pick.f s0_0 t192 t193 5).bind fun bt194 => ((spec_l1Cur_among.f s0_0 bt194.2.1 bt194.2.2 (([0, 10, 100, (-50)] : List Int))).bind fun bt201 => (spec_l1Cur_field.l0 k bt201.1 0 s0_0 bt201.2.1 bt201.2.2 (wrap64 (1 + t191)) (wrap64 (1 + bt194.1)) ([] : List Int)))) = some (r1, r2, r3, r4, r5) := H
 have A2 := zm A20
 clear A20
 obtain ⟨⟨t194, t195, t196⟩, A30, H⟩ := zob H
 replace H : ((spec_l1Cur_among.f s0_0 t195 t196 (([0, 10, 100, (-50)] : List Int))).bind fun bt201 => (spec_l1Cur_field.l0 k bt201.1 0 s0_0 bt201.2.1 bt201.2.2 (wrap64 (1 + t191)) (wrap64 (1 + t194)) ([] : List Int))) = some (r1, r2, r3, r4, r5) := H
 have A3 := zm A30
 clear A30
 obtain ⟨y198, hy198⟩ : ∃ y_ : List Int, y_ = (([0, 10, 100, (-50)] : List Int)) := ⟨_, rfl⟩
 replace H : ((spec_l1Cur_among.f s0_0 t195 t196 y198).bind fun bt201 => (spec_l1Cur_field.l0 k bt201.1 0 s0_0 bt201.2.1 bt201.2.2 (wrap64 (1 + t191)) (wrap64 (1 + t194)) ([] : List Int))) = some (r1, r2, r3, r4, r5) := zqH hy198 H
 have Ny198 := zm hy198
 clear hy198
 obtain ⟨⟨t201, t202, t203⟩, A40, H⟩ := zob H
 replace H : (spec_l1Cur_field.l0 k t201 0 s0_0 t202 t203 (wrap64 (1 + t191)) (wrap64 (1 + t194)) ([] : List Int)) = some (r1, r2, r3, r4, r5) := H
 have A4 := zm A40
 clear A40
 have H' := zm H
 clear H
 go_enter Try.func58, Try.ntmps58
 go_wp2_with (first | ((with_reducible refine gate_dst (N := 2) rfl ?_); refine box_event ?hg (N := 2) ?hd (cs := #[.int .i64 0, .int .i64 0, .slice none 0 0]) (t := 27) ?hr ?_; (case hd => rfl); (case hg => rfl); (case hr => exact zqS); intro gb190 hg w5 hbox hb; replace HB := zm (zyh zq10 hb); have BK190 := zm (hbox); have GW190 := zm ((by rw [hg]; exact (keep_size (w := w) (g := g) (row := none) zq4) : w.heap.size ≤ gb190)); have GE190 := zm ((Nat.le_trans HW0.out (by rw [hg]; exact (keep_size (w := w) (g := g) (row := none) zq4) : w.heap.size ≤ gb190) : w0.heap.size ≤ gb190)); replace HK := zm (KeepBut.trans zq4 (KeepBut.of_below hb g none) (.inl rfl)); have NB0_190 := zm ((by rw [hg]; exact Nat.ne_of_lt (IsS46.lt (show IsS46 w0 _ g s0_0 s0_1 s0_2 from by repeat (first | (with_reducible first | exact HI0.out | apply zv1 | apply zv2 | apply zv3 | apply zv4 | apply zv5) | exact HI0.out))) : g ≠ gb190)); have NB190_0 := zm ((by rw [hg]; exact Nat.ne_of_gt (IsS46.lt (show IsS46 w0 _ g s0_0 s0_1 s0_2 from by repeat (first | (with_reducible first | exact HI0.out | apply zv1 | apply zv2 | apply zv3 | apply zv4 | apply zv5) | exact HI0.out))) : gb190 ≠ g)); replace HI0 := zm (IsS46.below zq15 hb); clear hb hbox hg) | ((with_reducible refine zyg (f := 20) rfl ?_); refine goesL_ (some 8) rfl rfl Try.func20 (by kernel_rfl) rfl #[.pointer (some ⟨g, 0, none⟩), .int .i64 5] rfl zq0 ?_; (with_reducible refine (spec_l1Cur_pick.calls g s0_0 s0_1 s0_2 5 t191 t192 t193 w0 _ ?side1 ?side2 A2.out).mono ?_); (case side1 => repeat (first | (with_reducible first | exact HI0.out | apply zv1 | apply zv2 | apply zv3 | apply zv4 | apply zv5 | refine zv6 ?_ NB0_190.out _) | exact HI0.out)); (case side2 => repeat (first | (with_reducible first | exact HB.out | apply zya | apply zyp | apply zyr | refine zys ?_ (IsS46.ge HI0.out) | refine zys ?_ GE190.out) | exact HB.out)); rintro e w6 ⟨rfl, hi, hb, hk⟩; refine ⟨_, rfl, ?_⟩; replace BK190 := zm (KeepBut.blk hk (g' := gb190) (o := zcB) (zqK BK190.out) NB190_0.out (by simp)); replace HK := zm (KeepBut.trans zq75 hk (.inl rfl)); replace HB := zm (hb); replace HI0 := zm (hi); (try clear hb); (try clear hb2); (try clear hk); (try clear hi)) | ((with_reducible refine zyg (f := 20) rfl ?_); refine goesL_ (some 11) rfl rfl Try.func20 (by kernel_rfl) rfl #[.pointer (some ⟨g, 0, none⟩), .int .i64 5] rfl zq0 ?_; (with_reducible refine (spec_l1Cur_pick.calls g s0_0 t192 t193 5 t194 t195 t196 w0 _ ?side1 ?side2 A3.out).mono ?_); (case side1 => repeat (first | (with_reducible first | exact HI0.out | apply zv1 | apply zv2 | apply zv3 | apply zv4 | apply zv5 | refine zv6 ?_ NB0_190.out _) | exact HI0.out)); (case side2 => repeat (first | (with_reducible first | exact HB.out | apply zya | apply zyp | apply zyr | refine zys ?_ (IsS46.ge HI0.out) | refine zys ?_ GE190.out) | exact HB.out)); rintro e w7 ⟨rfl, hi, hb, hk⟩; refine ⟨_, rfl, ?_⟩; replace BK190 := zm (KeepBut.blk hk (g' := gb190) (o := zcB) (zqK BK190.out) NB190_0.out (by simp)); replace HK := zm (KeepBut.trans zq75 hk (.inl rfl)); replace HB := zm (hb); replace HI0 := zm (hi); (try clear hb); (try clear hb2); (try clear hk); (try clear hi)) | ((with_reducible refine gate_dst (N := 3) rfl ?_); refine box_event ?hg (N := 3) ?hd (cs := #[.int .i64 0, .int .i64 0, .slice none 0 0]) (t := 27) ?hr ?_; (case hd => rfl); (case hg => rfl); (case hr => exact zqS); intro gb197 hg w8 hbox hb; replace HB := zm (zyh (by repeat (first | (with_reducible first | exact HB.out | apply zya | apply zyp | apply zyr | refine zys ?_ (IsS46.ge HI0.out) | refine zys ?_ GE190.out) | exact HB.out)) hb); have BK197 := zm (hbox); have GW197 := zm ((by rw [hg]; exact (keep_size (w := w) (g := g) (row := none) zq75) : w.heap.size ≤ gb197)); have GE197 := zm ((Nat.le_trans HW0.out (by rw [hg]; exact (keep_size (w := w) (g := g) (row := none) zq75) : w.heap.size ≤ gb197) : w0.heap.size ≤ gb197)); replace HK := zm (KeepBut.trans zq75 (KeepBut.of_below hb g none) (.inl rfl)); have NB190_197 := zm ((by rw [hg]; exact Nat.ne_of_lt (blk_lt (g := gb190) (o := zcB) (zqK BK190.out)) : gb190 ≠ gb197)); have NB197_190 := zm ((by rw [hg]; exact Nat.ne_of_gt (blk_lt (g := gb190) (o := zcB) (zqK BK190.out)) : gb197 ≠ gb190)); replace BK190 := zm (zyb (g := gb190) (o := zcB) (zqK BK190.out) hb); have NB0_197 := zm ((by rw [hg]; exact Nat.ne_of_lt (IsS46.lt (show IsS46 w0 _ g s0_0 t195 t196 from by repeat (first | (with_reducible first | exact HI0.out | apply zv1 | apply zv2 | apply zv3 | apply zv4 | apply zv5 | refine zv6 ?_ NB0_190.out _) | exact HI0.out))) : g ≠ gb197)); have NB197_0 := zm ((by rw [hg]; exact Nat.ne_of_gt (IsS46.lt (show IsS46 w0 _ g s0_0 t195 t196 from by repeat (first | (with_reducible first | exact HI0.out | apply zv1 | apply zv2 | apply zv3 | apply zv4 | apply zv5 | refine zv6 ?_ NB0_190.out _) | exact HI0.out))) : gb197 ≠ g)); replace HI0 := zm (IsS46.below (by repeat (first | (with_reducible first | exact HI0.out | apply zv1 | apply zv2 | apply zv3 | apply zv4 | apply zv5 | refine zv6 ?_ NB0_190.out _) | exact HI0.out)) hb); clear hb hbox hg; have hnb9 := NB197_190.out; have hnc9 := NB190_197.out; have hnb10 := NB197_0.out; have hnc10 := NB0_197.out; have hcz11_0 := bz BK197.out 0 (.int .i64 0); have hcz11_1 := bz BK197.out 1 (.int .i64 0); have hcz11_2 := bz BK197.out 2 (.slice none 0 0); have hfz11_0 := zyF BK197.out 0; have hfz11_1 := zyF BK197.out 1; have hfz11_2 := zyF BK197.out 2) | ((with_reducible refine gate_dst (N := 15) rfl ?_); refine Kd.R_lit (Kd.int .i64) _ 3 ?hg (N := 15) ?hd (xs := ([0, 10, 100, (-50)] : List Int)) (inner := [.int .i64 0, .int .i64 10, .int .i64 100, .int .i64 (-50)]) (ok := fun _ => True) (okp := fun _ => True) ?hr ?hp (fun _ hk => hk) trivial (Below.refl _ _) (Nat.le_refl _) (by simp) ?_; (case hd => rfl); (case hg => rfl); (case hr => exact zqS); (case hp => exact (Reps.one (show Kd.M (Kd.int .i64) _ _ _ 0 [.int .i64 0] from rfl) (Reps.one (show Kd.M (Kd.int .i64) _ _ _ 10 [.int .i64 10] from rfl) (Reps.one (show Kd.M (Kd.int .i64) _ _ _ 100 [.int .i64 100] from rfl) (Reps.one (show Kd.M (Kd.int .i64) _ _ _ (-50) [.int .i64 (-50)] from rfl) (Reps.none _ _)))))); intro v199 w12 ho13 hb hg_ hnew_; clear hg_ hnew_; (first | rw [← Ny198.out] at ho13 | (simp only [Int.reduceToNat] at ho13; rw [← Ny198.out] at ho13)); have HO200 := zm (Kd.R_lower ho13 (keep_size (w := w) (g := g) (row := none) zq5)); replace BK190 := zm (zyb (g := gb190) (o := zcB) (by (with_reducible repeat (first | apply zN | apply zD | apply zL)); refine zye ?_ NB190_197.out _; (with_reducible repeat (first | apply zN | apply zD | apply zL)); refine zye ?_ NB190_197.out _; (with_reducible repeat (first | apply zN | apply zD | apply zL)); refine zye ?_ NB190_197.out _; (with_reducible repeat (first | apply zN | apply zD | apply zL)); exact BK190.out) hb); replace BK197 := zm (zyb (g := gb197) (o := .cells #[.int .i64 (wrap64 (1 + t191)), .int .i64 (wrap64 (1 + t194)), .slice none 0 0] 27 (0, 0)) (by (with_reducible repeat (first | apply zN | apply zD | apply zL)); refine blk_put (cs := #[.int .i64 (wrap64 (1 + t191)), .int .i64 (wrap64 (1 + t194)), .slice none 0 0]) ?_ 2 _ rfl; (with_reducible repeat (first | apply zN | apply zD | apply zL)); refine blk_put (cs := #[.int .i64 (wrap64 (1 + t191)), .int .i64 0, .slice none 0 0]) ?_ 1 _ rfl; (with_reducible repeat (first | apply zN | apply zD | apply zL)); refine blk_put (cs := #[.int .i64 0, .int .i64 0, .slice none 0 0]) ?_ 0 _ rfl; (with_reducible repeat (first | apply zN | apply zD | apply zL)); exact BK197.out) hb); replace HK := zm (KeepBut.trans zq5 (KeepBut.of_below hb g none) (.inl rfl)); replace HB := zm (zyh zq20 hb); replace HI0 := zm (IsS46.below (show IsS46 w0 (((w8.setCell ⟨gb197, 0, none⟩ (.int .i64 (wrap64 (1 + t191)))).setCell ⟨gb197, 1, none⟩ (.int .i64 (wrap64 (1 + t194)))).setCell ⟨gb197, 2, none⟩ (.slice none 0 0)) g s0_0 t195 t196 from by repeat (first | (with_reducible first | exact HI0.out | apply zv1 | apply zv2 | apply zv3 | apply zv4 | apply zv5 | refine zv6 ?_ NB0_190.out _ | refine zv6 ?_ NB0_197.out _) | exact HI0.out)) hb); clear hb ho13; obtain ⟨Ao14, co14, eo14⟩ := Kd.R_slice HO200.out; subst eo14) | ((with_reducible refine zyg (f := 19) rfl ?_); refine goesL_ (some 16) rfl rfl Try.func19 (by kernel_rfl) rfl #[.pointer (some ⟨g, 0, none⟩), .slice Ao14 y198.length co14] rfl zq0 ?_; (with_reducible refine (spec_l1Cur_among.calls g s0_0 t195 t196 _ _ y198 t201 t202 t203 w0 _ ?side1 ?side2 ?side3 ?side4 ?side5 A4.out).mono ?_); (case side1 => repeat (first | (with_reducible first | exact HI0.out | apply zv1 | apply zv2 | apply zv3 | apply zv4 | apply zv5 | refine zv6 ?_ NB0_190.out _ | refine zv6 ?_ NB0_197.out _) | exact HI0.out)); (case side2 => repeat (first | (with_reducible first | exact HB.out | apply zya | apply zyp | apply zyr | refine zys ?_ (IsS46.ge HI0.out) | refine zys ?_ GE190.out | refine zys ?_ GE197.out) | exact HB.out)); (case side3 => exact zqC (Kd.R_reads' HO200.out).2.2); (case side4 => exact (Kd.R_reads' HO200.out).2.1); (case side5 => exact far_slice (IsS46.own_ne HI0.out HO200.out (by decide))); rintro e w15 ⟨rfl, hi, hb, hk⟩; refine ⟨_, rfl, ?_⟩; replace BK190 := zm (KeepBut.blk hk (g' := gb190) (o := zcB) (zqK BK190.out) NB190_0.out (by simp)); replace BK197 := zm (KeepBut.blk hk (g' := gb197) (o := .cells #[.int .i64 (wrap64 (1 + t191)), .int .i64 (wrap64 (1 + t194)), .slice none 0 0] 27 (0, 0)) (zqK BK197.out) NB197_0.out (by simp)); replace HO200 := zm (Kd.R_mono (Kd.R_keep (IsS46.apart (show IsS46 w0 _ g s0_0 t195 t196 from by repeat (first | (with_reducible first | exact HI0.out | apply zv1 | apply zv2 | apply zv3 | apply zv4 | apply zv5 | refine zv6 ?_ NB0_190.out _ | refine zv6 ?_ NB0_197.out _) | exact HI0.out)) (zqR HO200.out) (by decide)) hk (fun _ h => h.2)) (fun _ h => h.1)); replace HK := zm (KeepBut.trans zq5 hk (.inl rfl)); replace HB := zm (hb); replace HI0 := zm (hi); (try clear hb); (try clear hb2); (try clear hk); (try clear hi)))
 go_loopg [5] k (fun kq v5 w' => ∃ (x5_1 : Int) (x1001_1 : Int) (x1002_1 : Int) (x198002_1 : List Int) (u198002 : Value), v5 = .int .i64 x5_1 ∧ Aside0 (spec_l1Cur_field.l0 kq t201 x5_1 s0_0 x1001_1 x1002_1 (wrap64 (1 + t191)) (wrap64 (1 + t194)) x198002_1 = some (r1, r2, r3, r4, r5)) ∧ Aside0 (kq ≤ k) ∧ Aside0 (Kd.R (Kd.int .i64) 3 w' w.heap.size (fun _ => True) u198002 x198002_1) ∧ Aside0 (w'.heap[gb190]? = some (.cells #[.int .i64 0, .int .i64 0, (.slice none 0 0)] 27 (0, 0))) ∧ Aside0 (w'.heap[gb197]? = some (.cells #[.int .i64 (wrap64 (1 + t191)), .int .i64 (wrap64 (1 + t194)), u198002] 27 (0, 0))) ∧ Aside0 (IsS46 w0 w' g s0_0 x1001_1 x1002_1) ∧ Aside0 (KeepBut w w' g none) ∧ Aside0 (Below w0.heap.size w0 w'))
 case atStart => exact ⟨(0), (t202), (t203), (([] : List Int)), (.slice none 0 0), (by first | rfl | (simp; done) | (simp [*]; done)), H', ⟨Nat.le_refl _⟩, ⟨by first | exact Kd.R_nil _ _ _ _ _ | exact Kd.N_nil _ _ _ _ _ | exact Kd.V_nil _ _ _ _ _ | exact Kd.Q_nil _ _ _ _ _ | exact Kd.S_nil _ _ _ _ _⟩, ⟨by (with_reducible repeat (first | apply zN | apply zD | apply zL)); exact BK190.out⟩, ⟨by (with_reducible repeat (first | apply zN | apply zD | apply zL)); exact BK197.out⟩, ⟨zq23⟩, ⟨zq5⟩, ⟨zq20⟩⟩
 clear H'
 try clear c1
 try clear c2
 try clear p2
 try clear c5
 try clear p6
 try clear c9
 try clear c10
 try clear hcz11_0
 try clear hcz11_1
 try clear hcz11_2
 try clear hfz11_0
 try clear hfz11_1
 try clear hfz11_2
 obtain ⟨x5_1, x1001_1, x1002_1, x198002_1, u198002, rfl, HA, HK1, HO_198002, BK190, BK197, HI0, HK, HB⟩ := hrel
 cases gk with
 | zero => exact absurd HA.out (by simp [spec_l1Cur_field.l0])
 | succ k1 =>
  have H := HA.out
  clear HA
  simp only [spec_l1Cur_field.l0] at H
  by_cases c16 : x5_1 < (wrap64 ((wrap64 (1 + t191)) * (wrap64 (1 + t194))))
  case pos =>
   rw [if_pos c16] at H
   have c16b0 : decide (x5_1 < (wrap64 ((wrap64 (1 + t191)) * (wrap64 (1 + t194))))) = true := decide_eq_true c16
   clear c16
   obtain ⟨⟨t204, t205, t206⟩, A170, H⟩ := zob H
   replace H : ((spec_l1Cur_one.f s0_0 t205 t206 12).bind fun bt207 => (if bt207.1 = true then (if x198002_1.length < 17592186044416 then (spec_l1Cur_field.l0 k1 t201 (wrap64 (x5_1 + 1)) s0_0 bt207.2.1 bt207.2.2 (wrap64 (1 + t191)) (wrap64 (1 + t194)) (x198002_1 ++ [(-9999)])) else (none)) else (if x198002_1.length < 17592186044416 then (spec_l1Cur_field.l0 k1 t201 (wrap64 (x5_1 + 1)) s0_0 bt207.2.1 bt207.2.2 (wrap64 (1 + t191)) (wrap64 (1 + t194)) (x198002_1 ++ [wrap64 (t201 + t204)])) else (none)))) = some (r1, r2, r3, r4, r5) := H
   have A17 := zm A170
   clear A170
   obtain ⟨⟨t207, t208, t209⟩, A180, H⟩ := zob H
   replace H : (if t207 = true then (if x198002_1.length < 17592186044416 then (spec_l1Cur_field.l0 k1 t201 (wrap64 (x5_1 + 1)) s0_0 t208 t209 (wrap64 (1 + t191)) (wrap64 (1 + t194)) (x198002_1 ++ [(-9999)])) else (none)) else (if x198002_1.length < 17592186044416 then (spec_l1Cur_field.l0 k1 t201 (wrap64 (x5_1 + 1)) s0_0 t208 t209 (wrap64 (1 + t191)) (wrap64 (1 + t194)) (x198002_1 ++ [wrap64 (t201 + t204)])) else (none))) = some (r1, r2, r3, r4, r5) := H
   have A18 := zm A180
   clear A180
   by_cases c19 : t207 = true
   case pos =>
    subst c19
    have H1 : (if x198002_1.length < 17592186044416 then (spec_l1Cur_field.l0 k1 t201 (wrap64 (x5_1 + 1)) s0_0 t208 t209 (wrap64 (1 + t191)) (wrap64 (1 + t194)) (x198002_1 ++ [(-9999)])) else (none)) = some (r1, r2, r3, r4, r5) := by rw [if_pos rfl] at H; exact H
    clear H
    have H := H1
    clear H1
    by_cases c20 : x198002_1.length < 17592186044416
    case neg =>
     rw [if_neg c20] at H
     exact absurd H (by simp)
    rw [if_pos c20] at H
    have LMc20 := zm c20
    clear c20
    obtain ⟨y210, hy210⟩ : ∃ y_ : List Int, y_ = (x198002_1 ++ [(-9999)]) := ⟨_, rfl⟩
    replace H : (spec_l1Cur_field.l0 k1 t201 (wrap64 (x5_1 + 1)) s0_0 t208 t209 (wrap64 (1 + t191)) (wrap64 (1 + t194)) y210) = some (r1, r2, r3, r4, r5) := zqH hy210 H
    have Ny210 := zm hy210
    clear hy210
    have H' := zm H
    clear H
    have hnb21 := NB197_190.out
    have hnc21 := NB190_197.out
    have hnb22 := NB197_0.out
    have hnc22 := NB0_197.out
    have hcz23_0 := bz BK197.out 0 (.int .i64 (wrap64 (1 + t191)))
    have hcz23_1 := bz BK197.out 1 (.int .i64 (wrap64 (1 + t194)))
    have hcz23_2 := bz BK197.out 2 (u198002)
    have hfz23_0 := zyF BK197.out 0
    have hfz23_1 := zyF BK197.out 1
    have hfz23_2 := zyF BK197.out 2
    go_wp2_with (first | ((with_reducible refine zyg (f := 20) rfl ?_); refine goesL_ (some 28) rfl rfl Try.func20 (by kernel_rfl) rfl #[.pointer (some ⟨g, 0, none⟩), .int .i64 40] rfl zq0 ?_; (with_reducible refine (spec_l1Cur_pick.calls g s0_0 x1001_1 x1002_1 40 t204 t205 t206 w0 _ ?side1 ?side2 A17.out).mono ?_); (case side1 => repeat (first | (with_reducible first | exact HI0.out | apply zv1 | apply zv2 | apply zv3 | apply zv4 | apply zv5 | refine zv6 ?_ NB0_190.out _ | refine zv6 ?_ NB0_197.out _) | exact HI0.out)); (case side2 => repeat (first | (with_reducible first | exact HB.out | apply zya | apply zyp | apply zyr | refine zys ?_ (IsS46.ge HI0.out) | refine zys ?_ GE190.out | refine zys ?_ GE197.out) | exact HB.out)); rintro e w24 ⟨rfl, hi, hb, hk⟩; refine ⟨_, rfl, ?_⟩; replace HO_198002 := zm (Kd.R_mono (Kd.R_keep (IsS46.apart (show IsS46 w0 _ g s0_0 x1001_1 x1002_1 from by repeat (first | (with_reducible first | exact HI0.out | apply zv1 | apply zv2 | apply zv3 | apply zv4 | apply zv5 | refine zv6 ?_ NB0_190.out _ | refine zv6 ?_ NB0_197.out _) | exact HI0.out)) (zqR HO_198002.out) (by decide)) hk (fun _ h => h.2)) (fun _ h => h.1)); replace BK190 := zm (KeepBut.blk hk (g' := gb190) (o := zcB) (zqK BK190.out) NB190_0.out (by simp)); replace BK197 := zm (KeepBut.blk hk (g' := gb197) (o := .cells #[.int .i64 (wrap64 (1 + t191)), .int .i64 (wrap64 (1 + t194)), u198002] 27 (0, 0)) (zqK BK197.out) NB197_0.out (by simp)); replace HK := zm (KeepBut.trans zq5 hk (.inl rfl)); replace HB := zm (hb); replace HI0 := zm (hi); (try clear hb); (try clear hb2); (try clear hk); (try clear hi)) | ((with_reducible refine zyg (f := 42) rfl ?_); refine goesL_ (some 31) rfl rfl Try.func42 (by kernel_rfl) rfl #[.pointer (some ⟨g, 0, none⟩), .int .i64 12] rfl zq0 ?_; (with_reducible refine (spec_l1Cur_one.calls g s0_0 t205 t206 12 true t208 t209 w0 _ ?side1 ?side2 A18.out).mono ?_); (case side1 => repeat (first | (with_reducible first | exact HI0.out | apply zv1 | apply zv2 | apply zv3 | apply zv4 | apply zv5 | refine zv6 ?_ NB0_190.out _ | refine zv6 ?_ NB0_197.out _) | exact HI0.out)); (case side2 => repeat (first | (with_reducible first | exact HB.out | apply zya | apply zyp | apply zyr | refine zys ?_ (IsS46.ge HI0.out) | refine zys ?_ GE190.out | refine zys ?_ GE197.out) | exact HB.out)); rintro e w25 ⟨rfl, hi, hb, hk⟩; refine ⟨_, rfl, ?_⟩; replace HO_198002 := zm (Kd.R_mono (Kd.R_keep (IsS46.apart (show IsS46 w0 _ g s0_0 t205 t206 from by repeat (first | (with_reducible first | exact HI0.out | apply zv1 | apply zv2 | apply zv3 | apply zv4 | apply zv5 | refine zv6 ?_ NB0_190.out _ | refine zv6 ?_ NB0_197.out _) | exact HI0.out)) (zqR HO_198002.out) (by decide)) hk (fun _ h => h.2)) (fun _ h => h.1)); replace BK190 := zm (KeepBut.blk hk (g' := gb190) (o := zcB) (zqK BK190.out) NB190_0.out (by simp)); replace BK197 := zm (KeepBut.blk hk (g' := gb197) (o := .cells #[.int .i64 (wrap64 (1 + t191)), .int .i64 (wrap64 (1 + t194)), u198002] 27 (0, 0)) (zqK BK197.out) NB197_0.out (by simp)); replace HK := zm (KeepBut.trans zq5 hk (.inl rfl)); replace HB := zm (hb); replace HI0 := zm (hi); (try clear hb); (try clear hb2); (try clear hk); (try clear hi); have hcz26_0 := bz BK197.out 0 (.int .i64 (wrap64 (1 + t191))); have hcz26_1 := bz BK197.out 1 (.int .i64 (wrap64 (1 + t194))); have hcz26_2 := bz BK197.out 2 (u198002); have hfz26_0 := zyF BK197.out 0; have hfz26_1 := zyF BK197.out 1; have hfz26_2 := zyF BK197.out 2) | ((with_reducible refine gate_builtin (b := .append) (xs := #[.tmp 33, .tmp 35]) rfl ?_); at_builtin; refine Kd.R_append (Kd.int .i64) w.heap.size rfl (.tmp 33) (.tmp 35) 24 3 (.int .i64 0) 8 rfl Try.underlying24 info3 rfl (by decide) (by omega) u198002 x198002_1 (-9999) [.int .i64 (-9999)] (fun _ => True) (fun _ => False) rfl rfl ?aP (fun _ hk => hk.elim) ?aF ?aO (Below.refl _ _) ?aS ?aL ?_; (case aP => exact rfl); (case aF => exact (fun _ _ => trivial)); (case aO => exact (zqR HO_198002.out)); (case aS => exact (keep_size (w := w) (g := g) (row := none) zq5)); (case aL => have := LMc20.out; omega); intro v211 w27 ho hb hg hat; rw [← Ny210.out] at ho; replace BK190 := zm (blk_grown (g := gb190) (o := zcB) (zqK BK190.out) hg (Kd.R_ne HO_198002.out BK190.out (by decide))); replace BK197 := zm (blk_grown (g := gb197) (o := .cells #[.int .i64 (wrap64 (1 + t191)), .int .i64 (wrap64 (1 + t194)), u198002] 27 (0, 0)) (zqK BK197.out) hg (Kd.R_ne HO_198002.out BK197.out (by decide))); replace HB := zm (below_weaken zq20 HL.out hb); replace HI0 := zm (IsS46.grown zq23 hg (IsS46.own_ne HI0.out HO_198002.out (by decide))); replace HK := zm (KeepBut.trans zq5 (KeepBut.of_grown hg g) (Kd.R_base2 HO_198002.out)); have HO212 := zm (ho); clear HO_198002; clear ho hb hg hat; obtain ⟨Ao28, co28, eo28⟩ := Kd.R_slice HO212.out; subst eo28; have hcz29_0 := bz BK197.out 0 (.int .i64 (wrap64 (1 + t191))); have hcz29_1 := bz BK197.out 1 (.int .i64 (wrap64 (1 + t194))); have hcz29_2 := bz BK197.out 2 (u198002); have hfz29_0 := zyF BK197.out 0; have hfz29_1 := zyF BK197.out 1; have hfz29_2 := zyF BK197.out 2))
    go_roundg k1
    case measure => have := HK1.out; omega
    case rel => exact ⟨(wrap64 (x5_1 + 1)), (t208), (t209), (y210), (.slice Ao28 y210.length co28), (by first | rfl | (simp; done) | (simp [*]; done)), H', ⟨by have := HK1.out; omega⟩, ⟨by (with_reducible repeat (first | apply Kd.R_alloc | apply Kd.R_drewN | apply Kd.R_drew)); exact Kd.R_mono (Kd.R_far (p := ⟨gb197, 2, none⟩) (Kd.R_types HO212.out BK197.out (by decide)) (fun _ hk => hk.2) (.slice Ao28 y210.length co28)) (fun _ hk => trivial)⟩, ⟨by (with_reducible repeat (first | apply zN | apply zD | apply zL)); refine zye ?_ NB190_197.out _; (with_reducible repeat (first | apply zN | apply zD | apply zL)); exact BK190.out⟩, ⟨by (with_reducible repeat (first | apply zN | apply zD | apply zL)); refine blk_put (cs := #[.int .i64 (wrap64 (1 + t191)), .int .i64 (wrap64 (1 + t194)), u198002]) ?_ 2 _ rfl; (with_reducible repeat (first | apply zN | apply zD | apply zL)); exact BK197.out⟩, ⟨zq23⟩, ⟨zq5⟩, ⟨zq20⟩⟩
   replace c19 := Bool.eq_false_iff.mpr c19
   subst c19
   have H1 : (if x198002_1.length < 17592186044416 then (spec_l1Cur_field.l0 k1 t201 (wrap64 (x5_1 + 1)) s0_0 t208 t209 (wrap64 (1 + t191)) (wrap64 (1 + t194)) (x198002_1 ++ [wrap64 (t201 + t204)])) else (none)) = some (r1, r2, r3, r4, r5) := by rw [if_neg (show ¬ (false = true) by decide)] at H; exact H
   clear H
   have H := H1
   clear H1
   by_cases c30 : x198002_1.length < 17592186044416
   case neg =>
    rw [if_neg c30] at H
    exact absurd H (by simp)
   rw [if_pos c30] at H
   have LMc30 := zm c30
   clear c30
   obtain ⟨y213, hy213⟩ : ∃ y_ : List Int, y_ = (x198002_1 ++ [wrap64 (t201 + t204)]) := ⟨_, rfl⟩
   replace H : (spec_l1Cur_field.l0 k1 t201 (wrap64 (x5_1 + 1)) s0_0 t208 t209 (wrap64 (1 + t191)) (wrap64 (1 + t194)) y213) = some (r1, r2, r3, r4, r5) := zqH hy213 H
   have Ny213 := zm hy213
   clear hy213
   have H' := zm H
   clear H
   have hnb31 := NB197_190.out
   have hnc31 := NB190_197.out
   have hnb32 := NB197_0.out
   have hnc32 := NB0_197.out
   have hcz33_0 := bz BK197.out 0 (.int .i64 (wrap64 (1 + t191)))
   have hcz33_1 := bz BK197.out 1 (.int .i64 (wrap64 (1 + t194)))
   have hcz33_2 := bz BK197.out 2 (u198002)
   have hfz33_0 := zyF BK197.out 0
   have hfz33_1 := zyF BK197.out 1
   have hfz33_2 := zyF BK197.out 2
   go_wp2_with (first | ((with_reducible refine zyg (f := 20) rfl ?_); refine goesL_ (some 28) rfl rfl Try.func20 (by kernel_rfl) rfl #[.pointer (some ⟨g, 0, none⟩), .int .i64 40] rfl zq0 ?_; (with_reducible refine (spec_l1Cur_pick.calls g s0_0 x1001_1 x1002_1 40 t204 t205 t206 w0 _ ?side1 ?side2 A17.out).mono ?_); (case side1 => repeat (first | (with_reducible first | exact HI0.out | apply zv1 | apply zv2 | apply zv3 | apply zv4 | apply zv5 | refine zv6 ?_ NB0_190.out _ | refine zv6 ?_ NB0_197.out _) | exact HI0.out)); (case side2 => repeat (first | (with_reducible first | exact HB.out | apply zya | apply zyp | apply zyr | refine zys ?_ (IsS46.ge HI0.out) | refine zys ?_ GE190.out | refine zys ?_ GE197.out) | exact HB.out)); rintro e w34 ⟨rfl, hi, hb, hk⟩; refine ⟨_, rfl, ?_⟩; replace HO_198002 := zm (Kd.R_mono (Kd.R_keep (IsS46.apart (show IsS46 w0 _ g s0_0 x1001_1 x1002_1 from by repeat (first | (with_reducible first | exact HI0.out | apply zv1 | apply zv2 | apply zv3 | apply zv4 | apply zv5 | refine zv6 ?_ NB0_190.out _ | refine zv6 ?_ NB0_197.out _) | exact HI0.out)) (zqR HO_198002.out) (by decide)) hk (fun _ h => h.2)) (fun _ h => h.1)); replace BK190 := zm (KeepBut.blk hk (g' := gb190) (o := zcB) (zqK BK190.out) NB190_0.out (by simp)); replace BK197 := zm (KeepBut.blk hk (g' := gb197) (o := .cells #[.int .i64 (wrap64 (1 + t191)), .int .i64 (wrap64 (1 + t194)), u198002] 27 (0, 0)) (zqK BK197.out) NB197_0.out (by simp)); replace HK := zm (KeepBut.trans zq5 hk (.inl rfl)); replace HB := zm (hb); replace HI0 := zm (hi); (try clear hb); (try clear hb2); (try clear hk); (try clear hi)) | ((with_reducible refine zyg (f := 42) rfl ?_); refine goesL_ (some 31) rfl rfl Try.func42 (by kernel_rfl) rfl #[.pointer (some ⟨g, 0, none⟩), .int .i64 12] rfl zq0 ?_; (with_reducible refine (spec_l1Cur_one.calls g s0_0 t205 t206 12 false t208 t209 w0 _ ?side1 ?side2 A18.out).mono ?_); (case side1 => repeat (first | (with_reducible first | exact HI0.out | apply zv1 | apply zv2 | apply zv3 | apply zv4 | apply zv5 | refine zv6 ?_ NB0_190.out _ | refine zv6 ?_ NB0_197.out _) | exact HI0.out)); (case side2 => repeat (first | (with_reducible first | exact HB.out | apply zya | apply zyp | apply zyr | refine zys ?_ (IsS46.ge HI0.out) | refine zys ?_ GE190.out | refine zys ?_ GE197.out) | exact HB.out)); rintro e w35 ⟨rfl, hi, hb, hk⟩; refine ⟨_, rfl, ?_⟩; replace HO_198002 := zm (Kd.R_mono (Kd.R_keep (IsS46.apart (show IsS46 w0 _ g s0_0 t205 t206 from by repeat (first | (with_reducible first | exact HI0.out | apply zv1 | apply zv2 | apply zv3 | apply zv4 | apply zv5 | refine zv6 ?_ NB0_190.out _ | refine zv6 ?_ NB0_197.out _) | exact HI0.out)) (zqR HO_198002.out) (by decide)) hk (fun _ h => h.2)) (fun _ h => h.1)); replace BK190 := zm (KeepBut.blk hk (g' := gb190) (o := zcB) (zqK BK190.out) NB190_0.out (by simp)); replace BK197 := zm (KeepBut.blk hk (g' := gb197) (o := .cells #[.int .i64 (wrap64 (1 + t191)), .int .i64 (wrap64 (1 + t194)), u198002] 27 (0, 0)) (zqK BK197.out) NB197_0.out (by simp)); replace HK := zm (KeepBut.trans zq5 hk (.inl rfl)); replace HB := zm (hb); replace HI0 := zm (hi); (try clear hb); (try clear hb2); (try clear hk); (try clear hi); have hcz36_0 := bz BK197.out 0 (.int .i64 (wrap64 (1 + t191))); have hcz36_1 := bz BK197.out 1 (.int .i64 (wrap64 (1 + t194))); have hcz36_2 := bz BK197.out 2 (u198002); have hfz36_0 := zyF BK197.out 0; have hfz36_1 := zyF BK197.out 1; have hfz36_2 := zyF BK197.out 2) | ((with_reducible refine gate_builtin (b := .append) (xs := #[.tmp 33, .tmp 35]) rfl ?_); at_builtin; refine Kd.R_append (Kd.int .i64) w.heap.size rfl (.tmp 33) (.tmp 35) 24 3 (.int .i64 0) 8 rfl Try.underlying24 info3 rfl (by decide) (by omega) u198002 x198002_1 (wrap64 (t201 + t204)) [.int .i64 (wrap64 (t201 + t204))] (fun _ => True) (fun _ => False) rfl rfl ?aP (fun _ hk => hk.elim) ?aF ?aO (Below.refl _ _) ?aS ?aL ?_; (case aP => exact rfl); (case aF => exact (fun _ _ => trivial)); (case aO => exact (zqR HO_198002.out)); (case aS => exact (keep_size (w := w) (g := g) (row := none) zq5)); (case aL => have := LMc30.out; omega); intro v214 w37 ho hb hg hat; rw [← Ny213.out] at ho; replace BK190 := zm (blk_grown (g := gb190) (o := zcB) (zqK BK190.out) hg (Kd.R_ne HO_198002.out BK190.out (by decide))); replace BK197 := zm (blk_grown (g := gb197) (o := .cells #[.int .i64 (wrap64 (1 + t191)), .int .i64 (wrap64 (1 + t194)), u198002] 27 (0, 0)) (zqK BK197.out) hg (Kd.R_ne HO_198002.out BK197.out (by decide))); replace HB := zm (below_weaken zq20 HL.out hb); replace HI0 := zm (IsS46.grown zq23 hg (IsS46.own_ne HI0.out HO_198002.out (by decide))); replace HK := zm (KeepBut.trans zq5 (KeepBut.of_grown hg g) (Kd.R_base2 HO_198002.out)); have HO215 := zm (ho); clear HO_198002; clear ho hb hg hat; obtain ⟨Ao38, co38, eo38⟩ := Kd.R_slice HO215.out; subst eo38; have hcz39_0 := bz BK197.out 0 (.int .i64 (wrap64 (1 + t191))); have hcz39_1 := bz BK197.out 1 (.int .i64 (wrap64 (1 + t194))); have hcz39_2 := bz BK197.out 2 (u198002); have hfz39_0 := zyF BK197.out 0; have hfz39_1 := zyF BK197.out 1; have hfz39_2 := zyF BK197.out 2))
   go_roundg k1
   case measure => have := HK1.out; omega
   case rel => exact ⟨(wrap64 (x5_1 + 1)), (t208), (t209), (y213), (.slice Ao38 y213.length co38), (by first | rfl | (simp; done) | (simp [*]; done)), H', ⟨by have := HK1.out; omega⟩, ⟨by (with_reducible repeat (first | apply Kd.R_alloc | apply Kd.R_drewN | apply Kd.R_drew)); exact Kd.R_mono (Kd.R_far (p := ⟨gb197, 2, none⟩) (Kd.R_types HO215.out BK197.out (by decide)) (fun _ hk => hk.2) (.slice Ao38 y213.length co38)) (fun _ hk => trivial)⟩, ⟨by (with_reducible repeat (first | apply zN | apply zD | apply zL)); refine zye ?_ NB190_197.out _; (with_reducible repeat (first | apply zN | apply zD | apply zL)); exact BK190.out⟩, ⟨by (with_reducible repeat (first | apply zN | apply zD | apply zL)); refine blk_put (cs := #[.int .i64 (wrap64 (1 + t191)), .int .i64 (wrap64 (1 + t194)), u198002]) ?_ 2 _ rfl; (with_reducible repeat (first | apply zN | apply zD | apply zL)); exact BK197.out⟩, ⟨zq23⟩, ⟨zq5⟩, ⟨zq20⟩⟩
  rw [if_neg c16] at H
  have c16b0 : decide (x5_1 < (wrap64 ((wrap64 (1 + t191)) * (wrap64 (1 + t194))))) = false := decide_eq_false c16
  clear c16
  obtain ⟨⟨t216, t217, t218⟩, A400, H⟩ := zob H
  replace H : (if t216 = true then ((spec_l1Cur_pick.f s0_0 t217 t218 (x198002_1.length : Int)).bind fun bt219 => ((spec_l1Cur_among.f s0_0 bt219.2.1 bt219.2.2 (([9000, (-9000), 0] : List Int))).bind fun bt225 => (if 0 ≤ bt219.1 then (if bt219.1 < (x198002_1.length : Int) then (spec_l1Cur_field.j1 k1 s0_0 bt225.2.1 bt225.2.2 (wrap64 (1 + t191)) (wrap64 (1 + t194)) (x198002_1.set (bt219.1 : Int).toNat bt225.1)) else (none)) else (none)))) else (spec_l1Cur_field.j1 k1 s0_0 t217 t218 (wrap64 (1 + t191)) (wrap64 (1 + t194)) x198002_1)) = some (r1, r2, r3, r4, r5) := H
  have A40 := zm A400
  clear A400
  have HC41 := zm H
  clear H
  have hnb42 := NB197_190.out
  have hnc42 := NB190_197.out
  have hnb43 := NB197_0.out
  have hnc43 := NB0_197.out
  have hcz44_0 := bz BK197.out 0 (.int .i64 (wrap64 (1 + t191)))
  have hcz44_1 := bz BK197.out 1 (.int .i64 (wrap64 (1 + t194)))
  have hcz44_2 := bz BK197.out 2 (u198002)
  have hfz44_0 := zyF BK197.out 0
  have hfz44_1 := zyF BK197.out 1
  have hfz44_2 := zyF BK197.out 2
  go_upto_if 39 with (first | ((with_reducible refine zyg (f := 42) rfl ?_); refine goesL_ (some 39) rfl rfl Try.func42 (by kernel_rfl) rfl #[.pointer (some ⟨g, 0, none⟩), .int .i64 10] rfl zq0 ?_; (with_reducible refine (spec_l1Cur_one.calls g s0_0 x1001_1 x1002_1 10 t216 t217 t218 w0 _ ?side1 ?side2 A40.out).mono ?_); (case side1 => repeat (first | (with_reducible first | exact HI0.out | apply zv1 | apply zv2 | apply zv3 | apply zv4 | apply zv5 | refine zv6 ?_ NB0_190.out _ | refine zv6 ?_ NB0_197.out _) | exact HI0.out)); (case side2 => repeat (first | (with_reducible first | exact HB.out | apply zya | apply zyp | apply zyr | refine zys ?_ (IsS46.ge HI0.out) | refine zys ?_ GE190.out | refine zys ?_ GE197.out) | exact HB.out)); rintro e w45 ⟨rfl, hi, hb, hk⟩; refine ⟨_, rfl, ?_⟩; replace HO_198002 := zm (Kd.R_mono (Kd.R_keep (IsS46.apart (show IsS46 w0 _ g s0_0 x1001_1 x1002_1 from by repeat (first | (with_reducible first | exact HI0.out | apply zv1 | apply zv2 | apply zv3 | apply zv4 | apply zv5 | refine zv6 ?_ NB0_190.out _ | refine zv6 ?_ NB0_197.out _) | exact HI0.out)) (zqR HO_198002.out) (by decide)) hk (fun _ h => h.2)) (fun _ h => h.1)); replace BK190 := zm (KeepBut.blk hk (g' := gb190) (o := zcB) (zqK BK190.out) NB190_0.out (by simp)); replace BK197 := zm (KeepBut.blk hk (g' := gb197) (o := .cells #[.int .i64 (wrap64 (1 + t191)), .int .i64 (wrap64 (1 + t194)), u198002] 27 (0, 0)) (zqK BK197.out) NB197_0.out (by simp)); replace HK := zm (KeepBut.trans zq5 hk (.inl rfl)); replace HB := zm (hb); replace HI0 := zm (hi); (try clear hb); (try clear hb2); (try clear hk); (try clear hi)))
  (try simp only [Act.put, List.setIfInBounds_toArray, List.set_cons_zero, List.set_cons_succ])
  go_cut [] (fun wc => ∃ (kq : Nat) (x1001_40 : Int) (x1002_40 : Int) (x198002_40 : List Int) (u198002 : Value), Aside0 (spec_l1Cur_field.j1 kq s0_0 x1001_40 x1002_40 (wrap64 (1 + t191)) (wrap64 (1 + t194)) x198002_40 = some (r1, r2, r3, r4, r5)) ∧ Aside0 (kq ≤ k1) ∧ Aside0 (Kd.R (Kd.int .i64) 3 wc w.heap.size (fun _ => True) u198002 x198002_40) ∧ Aside0 (wc.heap[gb190]? = some (.cells #[.int .i64 0, .int .i64 0, (.slice none 0 0)] 27 (0, 0))) ∧ Aside0 (wc.heap[gb197]? = some (.cells #[.int .i64 (wrap64 (1 + t191)), .int .i64 (wrap64 (1 + t194)), u198002] 27 (0, 0))) ∧ Aside0 (IsS46 w0 wc g s0_0 x1001_40 x1002_40) ∧ Aside0 (KeepBut w wc g none) ∧ Aside0 (Below w0.heap.size w0 wc))
  case first =>
   have H := HC41.out
   clear HC41
   by_cases c46 : t216 = true
   case neg =>
    replace c46 := Bool.eq_false_iff.mpr c46
    subst c46
    have H1 : (spec_l1Cur_field.j1 k1 s0_0 t217 t218 (wrap64 (1 + t191)) (wrap64 (1 + t194)) x198002_1) = some (r1, r2, r3, r4, r5) := by rw [if_neg (show ¬ (false = true) by decide)] at H; exact H
    clear H
    have H := H1
    clear H1
    have H' := zm H
    clear H
    go_wp2
    go_meet
    case rel => exact ⟨_, (t217), (t218), (x198002_1), (u198002), H', ⟨by have := HK1.out; first | omega | exact Nat.le_refl _⟩, ⟨zqR HO_198002.out⟩, ⟨by (with_reducible repeat (first | apply zN | apply zD | apply zL)); exact BK190.out⟩, ⟨by (with_reducible repeat (first | apply zN | apply zD | apply zL)); exact BK197.out⟩, ⟨zq23⟩, ⟨zq5⟩, ⟨zq20⟩⟩
   subst c46
   have H1 : ((spec_l1Cur_pick.f s0_0 t217 t218 (x198002_1.length : Int)).bind fun bt219 => ((spec_l1Cur_among.f s0_0 bt219.2.1 bt219.2.2 (([9000, (-9000), 0] : List Int))).bind fun bt225 => (if 0 ≤ bt219.1 then (if bt219.1 < (x198002_1.length : Int) then (spec_l1Cur_field.j1 k1 s0_0 bt225.2.1 bt225.2.2 (wrap64 (1 + t191)) (wrap64 (1 + t194)) (x198002_1.set (bt219.1 : Int).toNat bt225.1)) else (none)) else (none)))) = some (r1, r2, r3, r4, r5) := by rw [if_pos rfl] at H; exact H
   clear H
   have H := H1
   clear H1
   obtain ⟨⟨t219, t220, t221⟩, A470, H⟩ := zob H
   replace H : ((spec_l1Cur_among.f s0_0 t220 t221 (([9000, (-9000), 0] : List Int))).bind fun bt225 => (if 0 ≤ t219 then (if t219 < (x198002_1.length : Int) then (spec_l1Cur_field.j1 k1 s0_0 bt225.2.1 bt225.2.2 (wrap64 (1 + t191)) (wrap64 (1 + t194)) (x198002_1.set (t219 : Int).toNat bt225.1)) else (none)) else (none))) = some (r1, r2, r3, r4, r5) := H
   have A47 := zm A470
   clear A470
   obtain ⟨y222, hy222⟩ : ∃ y_ : List Int, y_ = (([9000, (-9000), 0] : List Int)) := ⟨_, rfl⟩
   replace H : ((spec_l1Cur_among.f s0_0 t220 t221 y222).bind fun bt225 => (if 0 ≤ t219 then (if t219 < (x198002_1.length : Int) then (spec_l1Cur_field.j1 k1 s0_0 bt225.2.1 bt225.2.2 (wrap64 (1 + t191)) (wrap64 (1 + t194)) (x198002_1.set (t219 : Int).toNat bt225.1)) else (none)) else (none))) = some (r1, r2, r3, r4, r5) := zqH hy222 H
   have Ny222 := zm hy222
   clear hy222
   obtain ⟨⟨t225, t226, t227⟩, A480, H⟩ := zob H
   replace H : (if 0 ≤ t219 then (if t219 < (x198002_1.length : Int) then (spec_l1Cur_field.j1 k1 s0_0 t226 t227 (wrap64 (1 + t191)) (wrap64 (1 + t194)) (x198002_1.set (t219 : Int).toNat t225)) else (none)) else (none)) = some (r1, r2, r3, r4, r5) := H
   have A48 := zm A480
   clear A480
   by_cases c49 : 0 ≤ t219
   case neg =>
    rw [if_neg c49] at H
    exact absurd H (by simp)
   rw [if_pos c49] at H
   have c49b0 : decide (0 ≤ t219) = true := decide_eq_true c49
   clear c49
   (first | rw [c49b0] | (simp only [i64_w, i32_w]; rw [c49b0]) | skip)
   by_cases c50 : t219 < (x198002_1.length : Int)
   case neg =>
    rw [if_neg c50] at H
    exact absurd H (by simp)
   rw [if_pos c50] at H
   have c50b0 : decide (t219 < (x198002_1.length : Int)) = true := decide_eq_true c50
   clear c50
   obtain ⟨y228, hy228⟩ : ∃ y_ : List Int, y_ = (x198002_1.set (t219 : Int).toNat t225) := ⟨_, rfl⟩
   replace H : (spec_l1Cur_field.j1 k1 s0_0 t226 t227 (wrap64 (1 + t191)) (wrap64 (1 + t194)) y228) = some (r1, r2, r3, r4, r5) := zqH hy228 H
   have Ny228 := zm hy228
   clear hy228
   have H' := zm H
   clear H
   try go_wp2
   have n0_ := zm (Kd.R_drew HO_198002.out)
   have n1_ := zm (zD BK190.out)
   have n2_ := zm (zD BK197.out)
   have n3_ := zm (zv3 HI0.out)
   have n4_ := zm (keep_drew HK.out)
   have n5_ := zm (zyr HB.out)
   clear HO_198002
   clear BK190
   clear BK197
   clear HI0
   clear HK
   clear HB
   have HO_198002 := n0_
   have BK190 := n1_
   have BK197 := n2_
   have HI0 := n3_
   have HK := n4_
   have HB := n5_
   clear n0_ n1_ n2_ n3_ n4_ n5_
   obtain ⟨Ao53, co53, eo53⟩ := Kd.R_slice HO_198002.out
   (first | subst eo53 | (injection eo53 with f1_ f2_ f3_; have f4_ := f1_.symm; have f5_ := f3_.symm; clear f1_ f2_ f3_; subst f4_; subst f5_))
   refine start_ (n := 12) (S := fun w' => w'.cell? ⟨gb197, 0, none⟩ = some (.int .i64 (wrap64 (1 + t191))) ∧ w'.cell? ⟨gb197, 1, none⟩ = some (.int .i64 (wrap64 (1 + t194))) ∧ w'.cell? ⟨gb197, 2, none⟩ = some (.slice Ao53 x198002_1.length co53)) (ds := [11]) #[zf, zf, zf, zf, zf, zf, zf, zf, zf, zf, zf, zf] (by kernel_rfl) rfl rfl ⟨(zyk BK197.out 0).trans rfl, (zyk BK197.out 1).trans rfl, (zyk BK197.out 2).trans rfl⟩ (fun hHeld => ?_); refine with_tabW spec_l1Cur_field.tab11 spec_l1Cur_field.bits11 (fun HT_ HW_ => ?_)
   generalize w45.drew = w52 at HO_198002 BK190 BK197 HI0 HK HB hHeld ⊢
   refine zP 0 (some 40) #[zt, zf, zf, zf, zf, zf, zf, zf, zf, zf, zf, zf] ?_ rfl rfl HT_ (Or.inl ⟨by rfl, ?_⟩) ?_ ?_ ?_
   rotate_left; · exact zqB
   rotate_left; · exact zqA
   refine zP 2 (some 42) #[zt, zf, zt, zf, zf, zf, zf, zf, zf, zf, zf, zf] ?_ rfl rfl HT_ (Or.inl ⟨by rfl, ?_⟩) ?_ ?_ ?_
   rotate_left; · exact zqB
   rotate_left; · exact zqA
   refine zP 3 (some 43) #[zt, zf, zt, zt, zf, zf, zf, zf, zf, zf, zf, zf] ?_ rfl rfl HT_ (Or.inl ⟨by rfl, ?_⟩) ?_ ?_ ?_
   rotate_left; · exact zqB
   rotate_left; · exact zqA
   refine zP 7 (some 47) #[zt, zf, zt, zt, zf, zf, zf, zt, zf, zf, zf, zf] ?_ rfl rfl HT_ (Or.inl ⟨by rfl, ?_⟩) ?_ ?_ ?_
   rotate_left; · exact zqB
   rotate_left; · exact zqA
   refine zT 1 (some 41) #[zt, zt, zt, zt, zf, zf, zf, zt, zf, zf, zf, zf] ?_ rfl rfl HT_ HW_ (Or.inl ⟨by rfl, ?_⟩) hHeld ?_ ?_ ?_
   rotate_left
   ·
    rintro w' ⟨s0, s1, s2⟩
    go_simp
    with_reducible rfl
   rotate_left; · exact zqA
   refine zT 4 (some 44) #[zt, zt, zt, zt, zt, zf, zf, zt, zf, zf, zf, zf] ?_ rfl rfl HT_ HW_ (Or.inl ⟨by rfl, ?_⟩) hHeld ?_ ?_ ?_
   rotate_left
   ·
    rintro w' ⟨s0, s1, s2⟩
    go_simp
    with_reducible rfl
   rotate_left; · exact zqA
   refine zP 5 (some 45) #[zt, zt, zt, zt, zt, zt, zf, zt, zf, zf, zf, zf] ?_ rfl rfl HT_ (Or.inl ⟨by rfl, ?_⟩) ?_ ?_ ?_
   rotate_left; · exact zqB
   rotate_left; · exact zqA
   refine join_ (σ := Value) 3 #[zt, zt, zt, zt, zt, zt, zt, zt, zt, zf, zf, zf] (fun s_ => [(46, .int .i64 t219), (48, s_)]) (fun s_ w' => (w'.cell? ⟨gb197, 0, none⟩ = some (.int .i64 (wrap64 (1 + t191))) ∧ w'.cell? ⟨gb197, 1, none⟩ = some (.int .i64 (wrap64 (1 + t194))) ∧ w'.cell? ⟨gb197, 2, none⟩ = some (.slice Ao53 x198002_1.length co53)) ∧ (Kd.R (Kd.int .i64) 3 w' w.heap.size (fun k_ => some k_ ≠ (.slice Ao53 x198002_1.length co53 : Value).ownBlock) s_ y222) ∧ (Kd.R (Kd.int .i64) 3 w' w.heap.size (fun k_ => some k_ ≠ (s_ : Value).ownBlock) (.slice Ao53 x198002_1.length co53) x198002_1) ∧ (w'.heap[gb190]? = some (.cells #[.int .i64 0, .int .i64 0, .slice none 0 0] 27 (0, 0))) ∧ (w'.heap[gb197]? = some (.cells #[.int .i64 (wrap64 (1 + t191)), .int .i64 (wrap64 (1 + t194)), .slice Ao53 x198002_1.length co53] 27 (0, 0))) ∧ (IsS46 w0 w' g s0_0 t220 t221) ∧ (KeepBut w w' g none) ∧ (Below w0.heap.size w0 w')) ?_ ?_
   rotate_left
   ·
    intro hCont
    refine two_ (i := 6) (j := 8) (Ni := some 46) (Nj := some 48) #[zt, zt, zt, zt, zt, zt, zt, zt, zf, zf, zf, zf] #[zt, zt, zt, zt, zt, zt, zf, zt, zt, zf, zf, zf] rfl rfl rfl rfl (two_of HT_.out (by kernel_rfl)) (by decide) (by decide) (fun K hK => ?_) (fun K hK => ?_)
    ·
     skip
     refine goes_ Try.func20 (by kernel_rfl) rfl #[.pointer (some ⟨g, 0, none⟩), .int .i64 (x198002_1.length : Int)] (by rfl) rfl rfl zq0 ?_
     with_reducible refine (spec_l1Cur_pick.calls g s0_0 t217 t218 (x198002_1.length : Int) t219 t220 t221 w0 _ ?side1 ?side2 A47.out).mono ?_
     (case side1 => repeat (first | (with_reducible first | exact HI0.out | apply zv1 | apply zv2 | apply zv3 | apply zv4 | apply zv5 | refine zv6 ?_ NB0_190.out _ | refine zv6 ?_ NB0_197.out _) | exact HI0.out))
     (case side2 => repeat (first | (with_reducible first | exact HB.out | apply zya | apply zyp | apply zyr | refine zys ?_ (IsS46.ge HI0.out) | refine zys ?_ GE190.out | refine zys ?_ GE197.out) | exact HB.out))
     rintro e w54 ⟨rfl, hi, hb, hk⟩
     refine ⟨_, rfl, ?_⟩
     have n0_ := zm (Kd.R_mono (Kd.R_keep (IsS46.apart (show IsS46 w0 _ g s0_0 t217 t218 from by repeat (first | (with_reducible first | exact HI0.out | apply zv1 | apply zv2 | apply zv3 | apply zv4 | apply zv5 | refine zv6 ?_ NB0_190.out _ | refine zv6 ?_ NB0_197.out _) | exact HI0.out)) (zqR HO_198002.out) (by decide)) hk (fun _ h => h.2)) (fun _ h => h.1))
     have n1_ := zm (KeepBut.blk hk (g' := gb190) (o := zcB) (zqK BK190.out) NB190_0.out (by simp))
     have n2_ := zm (KeepBut.blk hk (g' := gb197) (o := .cells #[.int .i64 (wrap64 (1 + t191)), .int .i64 (wrap64 (1 + t194)), .slice Ao53 x198002_1.length co53] 27 (0, 0)) (zqK BK197.out) NB197_0.out (by simp))
     have n3_ := zm (KeepBut.trans zq5 hk (.inl rfl))
     have n4_ := zm (hb)
     have n5_ := zm (hi)
     clear HO_198002
     clear BK190
     clear BK197
     clear HK
     clear HB
     clear HI0
     have HO_198002 := n0_
     have BK190 := n1_
     have BK197 := n2_
     have HK := n3_
     have HB := n4_
     have HI0 := n5_
     clear n0_ n1_ n2_ n3_ n4_ n5_
     (try clear hb)
     (try clear hb2)
     (try clear hk)
     (try clear hi)
     refine hK.out _ _ ⟨(zyk BK197.out 0).trans rfl, (zyk BK197.out 1).trans rfl, (zyk BK197.out 2).trans rfl⟩ (fun hHeld => ?_)
     clear hK K
     refine norm_ (a' := ?_) ?_ ?_
     rotate_left
     ·
      show Act.put _ (some 46) _ = _
      simp only [Act.put, List.setIfInBounds_toArray, List.set_cons_zero, List.set_cons_succ, i64_w, i32_w]
      rfl
     refine one_ (i := 8) (N := some 48) #[zt, zt, zt, zt, zt, zt, zt, zt, zt, zf, zf, zf] rfl rfl (one_of HT_.out (by kernel_rfl)) (by decide) (fun K hK => ?_)
     refine Kd.R_lit_step (Kd.int .i64) _ 3 ?hg (N := 48) ?hd (xs := ([9000, (-9000), 0] : List Int)) (inner := [.int .i64 9000, .int .i64 (-9000), .int .i64 0]) (ok := fun _ => True) (okp := fun _ => True) ?hr ?hp (fun _ hk => hk) trivial (Below.refl _ _) (Nat.le_refl _) (by simp) ?_; (case hd => rfl); (case hg => rfl); (case hr => exact zqS); (case hp => exact (Reps.one (show Kd.M (Kd.int .i64) _ _ _ 9000 [.int .i64 9000] from rfl) (Reps.one (show Kd.M (Kd.int .i64) _ _ _ (-9000) [.int .i64 (-9000)] from rfl) (Reps.one (show Kd.M (Kd.int .i64) _ _ _ 0 [.int .i64 0] from rfl) (Reps.none _ _)))))
     intro v223 w55 ho56 hb hg_ hnew_
     clear hg_ hnew_
     (first | rw [← Ny222.out] at ho56 | (simp only [Int.reduceToNat] at ho56; rw [← Ny222.out] at ho56))
     have n0_ := zm (Kd.R_elder' (zqR HO_198002.out) (Kd.R_base ho56) hb)
     have n1_ := zm (Kd.R_lower (Kd.R_new' ho56 (Kd.R_lt (zqR HO_198002.out))) (keep_size (w := w) (g := g) (row := none) zq5))
     have n2_ := zm (zyb (g := gb190) (o := zcB) (zqK BK190.out) hb)
     have n3_ := zm (zyb (g := gb197) (o := .cells #[.int .i64 (wrap64 (1 + t191)), .int .i64 (wrap64 (1 + t194)), .slice Ao53 x198002_1.length co53] 27 (0, 0)) (zqK BK197.out) hb)
     have n4_ := zm (IsS46.below zq23 hb)
     have n5_ := zm (KeepBut.trans zq5 (KeepBut.of_below hb g none) (.inl rfl))
     have n6_ := zm (zyh zq20 hb)
     clear HO_198002
     clear BK190
     clear BK197
     clear HI0
     clear HK
     clear HB
     have HO_198002 := n0_
     have HO224 := n1_
     have BK190 := n2_
     have BK197 := n3_
     have HI0 := n4_
     have HK := n5_
     have HB := n6_
     clear n0_ n1_ n2_ n3_ n4_ n5_ n6_
     clear hb ho56
     refine hK.out _ _ ⟨(zyk BK197.out 0).trans rfl, (zyk BK197.out 1).trans rfl, (zyk BK197.out 2).trans rfl⟩ (fun hHeld => ?_)
     clear hK K
     refine norm_ (a' := ?_) ?_ ?_
     rotate_left
     ·
      show Act.put _ (some 48) _ = _
      simp only [Act.put, List.setIfInBounds_toArray, List.set_cons_zero, List.set_cons_succ, i64_w, i32_w]
      rfl
     exact norm_ (by simp only [putAll, Act.put, List.setIfInBounds_toArray, List.set_cons_zero, List.set_cons_succ]) (hCont (v223) _ ⟨hHeld, (by (with_reducible repeat (first | apply Kd.R_alloc | apply Kd.R_drewN | apply Kd.R_drew)); exact Kd.R_mono HO224.out (fun _ hk => hk.2)), (by (with_reducible repeat (first | apply Kd.R_alloc | apply Kd.R_drewN | apply Kd.R_drew)); exact Kd.R_mono HO_198002.out (fun _ hk => hk.2)), (zqK BK190.out), (zqK BK197.out), zq23, zq5, zq20⟩)
    ·
     skip
     refine Kd.R_lit_step (Kd.int .i64) _ 3 ?hg (N := 48) ?hd (xs := ([9000, (-9000), 0] : List Int)) (inner := [.int .i64 9000, .int .i64 (-9000), .int .i64 0]) (ok := fun _ => True) (okp := fun _ => True) ?hr ?hp (fun _ hk => hk) trivial (Below.refl _ _) (Nat.le_refl _) (by simp) ?_; (case hd => rfl); (case hg => rfl); (case hr => exact zqS); (case hp => exact (Reps.one (show Kd.M (Kd.int .i64) _ _ _ 9000 [.int .i64 9000] from rfl) (Reps.one (show Kd.M (Kd.int .i64) _ _ _ (-9000) [.int .i64 (-9000)] from rfl) (Reps.one (show Kd.M (Kd.int .i64) _ _ _ 0 [.int .i64 0] from rfl) (Reps.none _ _)))))
     intro v223 w54 ho55 hb hg_ hnew_
     clear hg_ hnew_
     (first | rw [← Ny222.out] at ho55 | (simp only [Int.reduceToNat] at ho55; rw [← Ny222.out] at ho55))
     have n0_ := zm (Kd.R_elder' (zqR HO_198002.out) (Kd.R_base ho55) hb)
     have n1_ := zm (Kd.R_lower (Kd.R_new' ho55 (Kd.R_lt (zqR HO_198002.out))) (keep_size (w := w) (g := g) (row := none) zq5))
     have n2_ := zm (zyb (g := gb190) (o := zcB) (zqK BK190.out) hb)
     have n3_ := zm (zyb (g := gb197) (o := .cells #[.int .i64 (wrap64 (1 + t191)), .int .i64 (wrap64 (1 + t194)), .slice Ao53 x198002_1.length co53] 27 (0, 0)) (zqK BK197.out) hb)
     have n4_ := zm (IsS46.below zq23 hb)
     have n5_ := zm (KeepBut.trans zq5 (KeepBut.of_below hb g none) (.inl rfl))
     have n6_ := zm (zyh zq20 hb)
     clear HO_198002
     clear BK190
     clear BK197
     clear HI0
     clear HK
     clear HB
     have HO_198002 := n0_
     have HO224 := n1_
     have BK190 := n2_
     have BK197 := n3_
     have HI0 := n4_
     have HK := n5_
     have HB := n6_
     clear n0_ n1_ n2_ n3_ n4_ n5_ n6_
     clear hb ho55
     refine hK.out _ _ ⟨(zyk BK197.out 0).trans rfl, (zyk BK197.out 1).trans rfl, (zyk BK197.out 2).trans rfl⟩ (fun hHeld => ?_)
     clear hK K
     refine norm_ (a' := ?_) ?_ ?_
     rotate_left
     ·
      show Act.put _ (some 48) _ = _
      simp only [Act.put, List.setIfInBounds_toArray, List.set_cons_zero, List.set_cons_succ, i64_w, i32_w]
      rfl
     refine one_ (i := 6) (N := some 46) #[zt, zt, zt, zt, zt, zt, zt, zt, zt, zf, zf, zf] rfl rfl (one_of HT_.out (by kernel_rfl)) (by decide) (fun K hK => ?_)
     refine goes_ Try.func20 (by kernel_rfl) rfl #[.pointer (some ⟨g, 0, none⟩), .int .i64 (x198002_1.length : Int)] (by rfl) rfl rfl zq0 ?_
     with_reducible refine (spec_l1Cur_pick.calls g s0_0 t217 t218 (x198002_1.length : Int) t219 t220 t221 w0 _ ?side1 ?side2 A47.out).mono ?_
     (case side1 => repeat (first | (with_reducible first | exact HI0.out | apply zv1 | apply zv2 | apply zv3 | apply zv4 | apply zv5 | refine zv6 ?_ NB0_190.out _ | refine zv6 ?_ NB0_197.out _) | exact HI0.out))
     (case side2 => repeat (first | (with_reducible first | exact HB.out | apply zya | apply zyp | apply zyr | refine zys ?_ (IsS46.ge HI0.out) | refine zys ?_ GE190.out | refine zys ?_ GE197.out) | exact HB.out))
     rintro e w56 ⟨rfl, hi, hb, hk⟩
     refine ⟨_, rfl, ?_⟩
     have n0_ := zm (Kd.R_mono (Kd.R_keep (IsS46.apart (show IsS46 w0 _ g s0_0 t217 t218 from by repeat (first | (with_reducible first | exact HI0.out | apply zv1 | apply zv2 | apply zv3 | apply zv4 | apply zv5 | refine zv6 ?_ NB0_190.out _ | refine zv6 ?_ NB0_197.out _) | exact HI0.out)) (zqR HO_198002.out) (by decide)) hk (fun _ h => h.2)) (fun _ h => h.1))
     have n1_ := zm (KeepBut.blk hk (g' := gb190) (o := zcB) (zqK BK190.out) NB190_0.out (by simp))
     have n2_ := zm (KeepBut.blk hk (g' := gb197) (o := .cells #[.int .i64 (wrap64 (1 + t191)), .int .i64 (wrap64 (1 + t194)), .slice Ao53 x198002_1.length co53] 27 (0, 0)) (zqK BK197.out) NB197_0.out (by simp))
     have n3_ := zm (Kd.R_mono (Kd.R_keep (IsS46.apart (show IsS46 w0 _ g s0_0 t217 t218 from by repeat (first | (with_reducible first | exact HI0.out | apply zv1 | apply zv2 | apply zv3 | apply zv4 | apply zv5 | refine zv6 ?_ NB0_190.out _ | refine zv6 ?_ NB0_197.out _) | exact HI0.out)) (zqR HO224.out) (by decide)) hk (fun _ h => h.2)) (fun _ h => h.1))
     have n4_ := zm (KeepBut.trans zq5 hk (.inl rfl))
     have n5_ := zm (hb)
     have n6_ := zm (hi)
     clear HO_198002
     clear BK190
     clear BK197
     clear HO224
     clear HK
     clear HB
     clear HI0
     have HO_198002 := n0_
     have BK190 := n1_
     have BK197 := n2_
     have HO224 := n3_
     have HK := n4_
     have HB := n5_
     have HI0 := n6_
     clear n0_ n1_ n2_ n3_ n4_ n5_ n6_
     (try clear hb)
     (try clear hb2)
     (try clear hk)
     (try clear hi)
     refine hK.out _ _ ⟨(zyk BK197.out 0).trans rfl, (zyk BK197.out 1).trans rfl, (zyk BK197.out 2).trans rfl⟩ (fun hHeld => ?_)
     clear hK K
     refine norm_ (a' := ?_) ?_ ?_
     rotate_left
     ·
      show Act.put _ (some 46) _ = _
      simp only [Act.put, List.setIfInBounds_toArray, List.set_cons_zero, List.set_cons_succ, i64_w, i32_w]
      rfl
     exact norm_ (by simp only [putAll, Act.put, List.setIfInBounds_toArray, List.set_cons_zero, List.set_cons_succ]) (hCont (v223) _ ⟨hHeld, (by (with_reducible repeat (first | apply Kd.R_alloc | apply Kd.R_drewN | apply Kd.R_drew)); exact Kd.R_mono HO224.out (fun _ hk => hk.2)), (by (with_reducible repeat (first | apply Kd.R_alloc | apply Kd.R_drewN | apply Kd.R_drew)); exact Kd.R_mono HO_198002.out (fun _ hk => hk.2)), (zqK BK190.out), (zqK BK197.out), zq23, zq5, zq20⟩)
   rintro v223 w57 ⟨hS_, h0_, h1_, h2_, h3_, h4_, h5_, h6_⟩
   have n0_ : Aside0 (Kd.R (Kd.int .i64) 3 w57 w.heap.size (fun k_ => some k_ ≠ (.slice Ao53 x198002_1.length co53 : Value).ownBlock) v223 y222) := ⟨h0_⟩
   have n1_ : Aside0 (Kd.R (Kd.int .i64) 3 w57 w.heap.size (fun k_ => some k_ ≠ (v223 : Value).ownBlock) (.slice Ao53 x198002_1.length co53) x198002_1) := ⟨h1_⟩
   have n2_ : Aside0 (w57.heap[gb190]? = some (.cells #[.int .i64 0, .int .i64 0, .slice none 0 0] 27 (0, 0))) := ⟨h2_⟩
   have n3_ : Aside0 (w57.heap[gb197]? = some (.cells #[.int .i64 (wrap64 (1 + t191)), .int .i64 (wrap64 (1 + t194)), .slice Ao53 x198002_1.length co53] 27 (0, 0))) := ⟨h3_⟩
   have n4_ : Aside0 (IsS46 w0 w57 g s0_0 t220 t221) := ⟨h4_⟩
   have n5_ : Aside0 (KeepBut w w57 g none) := ⟨h5_⟩
   have n6_ : Aside0 (Below w0.heap.size w0 w57) := ⟨h6_⟩
   clear HO_198002
   clear BK190
   clear BK197
   clear HI0
   clear HK
   clear HB
   clear h0_ h1_ h2_ h3_ h4_ h5_ h6_
   have HO224 := n0_
   have HO_198002 := n1_
   have BK190 := n2_
   have BK197 := n3_
   have HI0 := n4_
   have HK := n5_
   have HB := n6_
   clear n0_ n1_ n2_ n3_ n4_ n5_ n6_
   have hHeld : w57.cell? ⟨gb197, 0, none⟩ = some (.int .i64 (wrap64 (1 + t191))) ∧ w57.cell? ⟨gb197, 1, none⟩ = some (.int .i64 (wrap64 (1 + t194))) ∧ w57.cell? ⟨gb197, 2, none⟩ = some (.slice Ao53 x198002_1.length co53) := hS_
   obtain ⟨Ao58, co58, eo58⟩ := Kd.R_slice HO224.out
   (first | subst eo58 | (injection eo58 with f1_ f2_ f3_; have f4_ := f1_.symm; have f5_ := f3_.symm; clear f1_ f2_ f3_; subst f4_; subst f5_))
   refine norm_ (a' := ?_) ?_ ?_
   rotate_left
   ·
    simp only [putAll, Act.put, List.setIfInBounds_toArray, List.set_cons_zero, List.set_cons_succ]
    rfl
   refine one_ (i := 9) (N := some 49) #[zt, zt, zt, zt, zt, zt, zt, zt, zt, zt, zf, zf] rfl rfl (one_of HT_.out (by kernel_rfl)) (by decide) (fun K hK => ?_)
   refine goes_ Try.func19 (by kernel_rfl) rfl #[.pointer (some ⟨g, 0, none⟩), .slice Ao58 y222.length co58] (by rfl) rfl rfl zq0 ?_
   with_reducible refine (spec_l1Cur_among.calls g s0_0 t220 t221 _ _ y222 t225 t226 t227 w0 _ ?side1 ?side2 ?side3 ?side4 ?side5 A48.out).mono ?_
   (case side1 => repeat (first | (with_reducible first | exact HI0.out | apply zv1 | apply zv2 | apply zv3 | apply zv4 | apply zv5 | refine zv6 ?_ NB0_190.out _ | refine zv6 ?_ NB0_197.out _) | exact HI0.out))
   (case side2 => repeat (first | (with_reducible first | exact HB.out | apply zya | apply zyp | apply zyr | refine zys ?_ (IsS46.ge HI0.out) | refine zys ?_ GE190.out | refine zys ?_ GE197.out) | exact HB.out))
   (case side3 => exact zqC (Kd.R_reads' HO224.out).2.2)
   (case side4 => exact (Kd.R_reads' HO224.out).2.1)
   (case side5 => exact far_slice (IsS46.own_ne HI0.out HO224.out (by decide)))
   rintro e w59 ⟨rfl, hi, hb, hk⟩
   refine ⟨_, rfl, ?_⟩
   have n0_ := zm (Kd.R_mono (Kd.R_keep (IsS46.apart (show IsS46 w0 _ g s0_0 t220 t221 from by repeat (first | (with_reducible first | exact HI0.out | apply zv1 | apply zv2 | apply zv3 | apply zv4 | apply zv5 | refine zv6 ?_ NB0_190.out _ | refine zv6 ?_ NB0_197.out _) | exact HI0.out)) (zqR HO_198002.out) (by decide)) hk (fun _ h => h.2)) (fun _ h => h.1))
   have n1_ := zm (KeepBut.blk hk (g' := gb190) (o := zcB) (zqK BK190.out) NB190_0.out (by simp))
   have n2_ := zm (KeepBut.blk hk (g' := gb197) (o := .cells #[.int .i64 (wrap64 (1 + t191)), .int .i64 (wrap64 (1 + t194)), .slice Ao53 x198002_1.length co53] 27 (0, 0)) (zqK BK197.out) NB197_0.out (by simp))
   have n3_ := zm (Kd.R_mono (Kd.R_keep (IsS46.apart (show IsS46 w0 _ g s0_0 t220 t221 from by repeat (first | (with_reducible first | exact HI0.out | apply zv1 | apply zv2 | apply zv3 | apply zv4 | apply zv5 | refine zv6 ?_ NB0_190.out _ | refine zv6 ?_ NB0_197.out _) | exact HI0.out)) (zqR HO224.out) (by decide)) hk (fun _ h => h.2)) (fun _ h => h.1))
   have n4_ := zm (KeepBut.trans zq5 hk (.inl rfl))
   have n5_ := zm (hb)
   have n6_ := zm (hi)
   clear HO_198002
   clear BK190
   clear BK197
   clear HO224
   clear HK
   clear HB
   clear HI0
   have HO_198002 := n0_
   have BK190 := n1_
   have BK197 := n2_
   have HO224 := n3_
   have HK := n4_
   have HB := n5_
   have HI0 := n6_
   clear n0_ n1_ n2_ n3_ n4_ n5_ n6_
   (try clear hb)
   (try clear hb2)
   (try clear hk)
   (try clear hi)
   have p51 : 0 ≤ (t219 : Int) := of_decide_eq_true zq6
   have q51 : (t219 : Int) < ((x198002_1.length : Int) : Int) := of_decide_eq_true zq6
   obtain ⟨go51, co51, eo51, gb51, gl51, cl51, HG51⟩ := Kd.R_form HO_198002.out (by omega)
   (first | cases eo51 | (injection eo51 with ea_ en_ ec_; (first | subst ea_ | (injection ea_ with ea_; subst ea_)); subst ec_; clear en_))
   have GB51 := zm gb51
   have GG51 := zm HG51
   clear gb51 gl51 HG51
   obtain ⟨hx51_0, hf51_0⟩ := Kd.R_celln 0 HO_198002.out (t219 : Int) p51 q51
   replace p51 := eq_true p51
   replace q51 := eq_true q51
   have HN0_go51 := zm (show g ≠ go51 from by have h_ := IsS46.own_ne HI0.out HO_198002.out (by decide); intro e_; exact h_ (by rw [e_]; rfl))
   have HP60 := Kd.R_putn HO_198002.out (t219 : Int) t225
   rw [← Ny228.out] at HP60
   have HQ60 := zm HP60
   clear HP60
   refine hK.out _ _ ⟨(zyk BK197.out 0).trans rfl, (zyk BK197.out 1).trans rfl, (zyk BK197.out 2).trans rfl⟩ (fun hHeld => ?_)
   clear hK K
   refine norm_ (a' := ?_) ?_ ?_
   rotate_left
   ·
    show Act.put _ (some 49) _ = _
    simp only [Act.put, List.setIfInBounds_toArray, List.set_cons_zero, List.set_cons_succ, i64_w, i32_w]
    rfl
   refine zP 10 (some 50) #[zt, zt, zt, zt, zt, zt, zt, zt, zt, zt, zt, zf] ?_ rfl rfl HT_ (Or.inl ⟨by rfl, ?_⟩) ?_ ?_ ?_
   rotate_left; · exact zqB
   rotate_left; · exact zqA
   refine last_ (i := 11) (N := none) #[zt, zt, zt, zt, zt, zt, zt, zt, zt, zt, zt, zt] rfl rfl (one_of HT_.out (by kernel_rfl)) (by decide) (fun K hK => ?_)
   refine skip_ (w1 := ?_) (by rfl) rfl ?_ ?_
   rotate_left
   ·
    go_simp
    rfl
   refine hK.out _ _ ?_
   clear hK K
   refine done_ (done_of HT_.out (by kernel_rfl)) ?_
   try go_wp2
   go_meet
   case rel => exact ⟨_, (t226), (t227), (y228), (.slice (some ⟨go51, 0, none⟩) x198002_1.length co53), H', ⟨by have := HK1.out; first | omega | exact Nat.le_refl _⟩, ⟨by (with_reducible repeat (first | apply Kd.R_alloc | apply Kd.R_drewN | apply Kd.R_drew)); exact Kd.R_mono HQ60.out (fun _ hk => trivial)⟩, ⟨by (with_reducible repeat (first | apply zN | apply zD | apply zL)); refine zye ?_ (by have h_ := Kd.R_ne HO_198002.out BK190.out (by decide); intro e_; exact h_ (by rw [e_]; rfl)) _; (with_reducible repeat (first | apply zN | apply zD | apply zL)); exact BK190.out⟩, ⟨by (with_reducible repeat (first | apply zN | apply zD | apply zL)); refine zye ?_ (by have h_ := Kd.R_ne HO_198002.out BK197.out (by decide); intro e_; exact h_ (by rw [e_]; rfl)) _; (with_reducible repeat (first | apply zN | apply zD | apply zL)); exact BK197.out⟩, ⟨(by repeat (first | (with_reducible first | exact HI0.out | apply zv1 | apply zv2 | apply zv3 | apply zv4 | apply zv5 | refine zv6 ?_ HN0_go51.out _ | refine zv6 ?_ NB0_190.out _ | refine zv6 ?_ NB0_197.out _) | exact HI0.out))⟩, ⟨(by repeat (first | (with_reducible first | exact HK.out | apply KeepBut.set_ | apply keep_drewN | apply keep_drew | apply keep_alloc | refine keep_far ?_ GB51.out _ | refine keep_far ?_ GW190.out _ | refine keep_far ?_ GW197.out _) | exact HK.out))⟩, ⟨(by repeat (first | (with_reducible first | exact HB.out | apply zya | apply zyp | apply zyr | refine zys ?_ (Nat.le_trans HL.out GB51.out) | refine zys ?_ (IsS46.ge HI0.out) | refine zys ?_ GE190.out | refine zys ?_ GE197.out) | exact HB.out))⟩⟩
  clear HC41
  try clear c1
  try clear c2
  try clear p2
  try clear c3
  try clear c4
  try clear c5
  try clear p5
  try clear q5
  try clear hx5
  try clear hf5
  try clear p6
  try clear c9
  try clear c10
  try clear c16
  try clear c16b0
  try clear c19
  try clear c20
  try clear c21
  try clear c22
  try clear c30
  try clear c31
  try clear c32
  try clear c42
  try clear c43
  try clear c46
  try clear c49
  try clear c49b0
  try clear c50
  try clear c50b0
  try clear p51
  try clear q51
  try clear hx51
  try clear hf51
  try clear c58
  try clear hcz11_0
  try clear hcz11_1
  try clear hcz11_2
  try clear hcz23_0
  try clear hcz23_1
  try clear hcz23_2
  try clear hcz26_0
  try clear hcz26_1
  try clear hcz26_2
  try clear hcz29_0
  try clear hcz29_1
  try clear hcz29_2
  try clear hcz33_0
  try clear hcz33_1
  try clear hcz33_2
  try clear hcz36_0
  try clear hcz36_1
  try clear hcz36_2
  try clear hcz39_0
  try clear hcz39_1
  try clear hcz39_2
  try clear hcz44_0
  try clear hcz44_1
  try clear hcz44_2
  try clear hfz11_0
  try clear hfz11_1
  try clear hfz11_2
  try clear hfz23_0
  try clear hfz23_1
  try clear hfz23_2
  try clear hfz26_0
  try clear hfz26_1
  try clear hfz26_2
  try clear hfz29_0
  try clear hfz29_1
  try clear hfz29_2
  try clear hfz33_0
  try clear hfz33_1
  try clear hfz33_2
  try clear hfz36_0
  try clear hfz36_1
  try clear hfz36_2
  try clear hfz39_0
  try clear hfz39_1
  try clear hfz39_2
  try clear hfz44_0
  try clear hfz44_1
  try clear hfz44_2
  try clear hx51_0
  try clear p2
  try clear p51
  try clear p6
  try clear q51
  obtain ⟨kq, x1001_40, x1002_40, x198002_40, u198002, HA, HJ40, HO_198002, BK190, BK197, HI0, HK, HB⟩ := hcut
  cases kq with
  | zero => exact absurd HA.out (by simp [spec_l1Cur_field.j1])
  | succ kj40 =>
   have H := HA.out
   clear HA
   simp only [spec_l1Cur_field.j1] at H
   obtain ⟨⟨t229, t230, t231⟩, A610, H⟩ := zob H
   replace H : (if t229 = true then ((spec_l2Fill.f kj40 8 8 3).bind fun bt232 => (some (bt232.1, bt232.2.1, bt232.2.2, t230, t231))) else (some ((wrap64 (1 + t191)), (wrap64 (1 + t194)), x198002_40, t230, t231))) = some (r1, r2, r3, r4, r5) := H
   have A61 := zm A610
   clear A610
   by_cases c62 : t229 = true
   case neg =>
    replace c62 := Bool.eq_false_iff.mpr c62
    subst c62
    have H1 : (some ((wrap64 (1 + t191)), (wrap64 (1 + t194)), x198002_40, t230, t231)) = some (r1, r2, r3, r4, r5) := by rw [if_neg (show ¬ (false = true) by decide)] at H; exact H
    clear H
    have H := H1
    clear H1
    simp only [Option.some.injEq, Prod.mk.injEq] at H
    obtain ⟨rfl, rfl, rfl, rfl, rfl⟩ := H
    go_wp2_with (first | ((with_reducible refine zyg (f := 42) rfl ?_); refine goesL_ (some 52) rfl rfl Try.func42 (by kernel_rfl) rfl #[.pointer (some ⟨g, 0, none⟩), .int .i64 24] rfl zq0 ?_; (with_reducible refine (spec_l1Cur_one.calls g s0_0 x1001_40 x1002_40 24 false t230 t231 w0 _ ?side1 ?side2 A61.out).mono ?_); (case side1 => repeat (first | (with_reducible first | exact HI0.out | apply zv1 | apply zv2 | apply zv3 | apply zv4 | apply zv5 | refine zv6 ?_ NB0_190.out _ | refine zv6 ?_ NB0_197.out _) | exact HI0.out)); (case side2 => repeat (first | (with_reducible first | exact HB.out | apply zya | apply zyp | apply zyr | refine zys ?_ (IsS46.ge HI0.out) | refine zys ?_ GE190.out | refine zys ?_ GE197.out) | exact HB.out)); rintro e w72 ⟨rfl, hi, hb, hk⟩; refine ⟨_, rfl, ?_⟩; replace HO_198002 := zm (Kd.R_mono (Kd.R_keep (IsS46.apart (show IsS46 w0 _ g s0_0 x1001_40 x1002_40 from by repeat (first | (with_reducible first | exact HI0.out | apply zv1 | apply zv2 | apply zv3 | apply zv4 | apply zv5 | refine zv6 ?_ NB0_190.out _ | refine zv6 ?_ NB0_197.out _) | exact HI0.out)) (zqR HO_198002.out) (by decide)) hk (fun _ h => h.2)) (fun _ h => h.1)); replace BK190 := zm (KeepBut.blk hk (g' := gb190) (o := zcB) (zqK BK190.out) NB190_0.out (by simp)); replace BK197 := zm (KeepBut.blk hk (g' := gb197) (o := .cells #[.int .i64 (wrap64 (1 + t191)), .int .i64 (wrap64 (1 + t194)), u198002] 27 (0, 0)) (zqK BK197.out) NB197_0.out (by simp)); replace HK := zm (KeepBut.trans zq5 hk (.inl rfl)); replace HB := zm (hb); replace HI0 := zm (hi); (try clear hb); (try clear hb2); (try clear hk); (try clear hi); have hnb73 := NB197_190.out; have hnc73 := NB190_197.out; have hnb74 := NB197_0.out; have hnc74 := NB0_197.out; have hcz75_0 := bz BK197.out 0 (.int .i64 (wrap64 (1 + t191))); have hcz75_1 := bz BK197.out 1 (.int .i64 (wrap64 (1 + t194))); have hcz75_2 := bz BK197.out 2 (u198002); have hfz75_0 := zyF BK197.out 0; have hfz75_1 := zyF BK197.out 1; have hfz75_2 := zyF BK197.out 2; have hnb76 := NB190_0.out; have hnc76 := NB0_190.out; have hcz77_0 := bz BK190.out 0 (.int .i64 0); have hcz77_1 := bz BK190.out 1 (.int .i64 0); have hcz77_2 := bz BK190.out 2 (.slice none 0 0); have hfz77_0 := zyF BK190.out 0; have hfz77_1 := zyF BK190.out 1; have hfz77_2 := zyF BK190.out 2; obtain ⟨Ao78, co78, eo78⟩ := Kd.R_slice HO_198002.out; subst eo78))
    refine bodyPost_ret (results_cell_row rfl _ _ gb190 27 #[.int .i64 (wrap64 (1 + t191)), .int .i64 (wrap64 (1 + t194)), .slice Ao78 x198002_40.length co78] (0, 0) _ rfl (by (with_reducible repeat (first | apply zN | apply zD | apply zL)); refine blk_put (cs := #[.int .i64 (wrap64 (1 + t191)), .int .i64 (wrap64 (1 + t194)), .slice none 0 0]) ?_ 2 _ rfl; (with_reducible repeat (first | apply zN | apply zD | apply zL)); refine blk_put (cs := #[.int .i64 (wrap64 (1 + t191)), .int .i64 0, .slice none 0 0]) ?_ 1 _ rfl; (with_reducible repeat (first | apply zN | apply zD | apply zL)); refine blk_put (cs := #[.int .i64 0, .int .i64 0, .slice none 0 0]) ?_ 0 _ rfl; (with_reducible repeat (first | apply zN | apply zD | apply zL)); exact BK190.out) Try.underlying27 rfl (by kernel_rfl)) rfl ?_
    exact ⟨_, by first | rfl | (simp [errW_none, errW_some] <;> rfl) | (simp [*, errW_none, errW_some] <;> rfl), by (with_reducible repeat (first | apply Kd.R_alloc | apply Kd.R_drewN | apply Kd.R_drew)); exact Kd.R_mono (Kd.R_far (p := ⟨gb190, 2, none⟩) (Kd.R_far (p := ⟨gb190, 1, none⟩) (Kd.R_far (p := ⟨gb190, 0, none⟩) (Kd.R_types HO_198002.out BK190.out (by decide)) (fun _ hk => hk.2) (.int .i64 (wrap64 (1 + t191)))) (fun _ hk => hk.2) (.int .i64 (wrap64 (1 + t194)))) (fun _ hk => hk.2) (.slice Ao78 x198002_40.length co78)) (fun _ hk => trivial), zq23, zq20, zq5⟩
   subst c62
   have H1 : ((spec_l2Fill.f kj40 8 8 3).bind fun bt232 => (some (bt232.1, bt232.2.1, bt232.2.2, t230, t231))) = some (r1, r2, r3, r4, r5) := by rw [if_pos rfl] at H; exact H
   clear H
   have H := H1
   clear H1
   obtain ⟨⟨t232, t233, t234⟩, A630, H⟩ := zob H
   replace H : (some (t232, t233, t234, t230, t231)) = some (r1, r2, r3, r4, r5) := H
   have A63 := zm A630
   clear A630
   simp only [Option.some.injEq, Prod.mk.injEq] at H
   obtain ⟨rfl, rfl, rfl, rfl, rfl⟩ := H
   go_wp2_with (first | ((with_reducible refine zyg (f := 42) rfl ?_); refine goesL_ (some 52) rfl rfl Try.func42 (by kernel_rfl) rfl #[.pointer (some ⟨g, 0, none⟩), .int .i64 24] rfl zq0 ?_; (with_reducible refine (spec_l1Cur_one.calls g s0_0 x1001_40 x1002_40 24 true t230 t231 w0 _ ?side1 ?side2 A61.out).mono ?_); (case side1 => repeat (first | (with_reducible first | exact HI0.out | apply zv1 | apply zv2 | apply zv3 | apply zv4 | apply zv5 | refine zv6 ?_ NB0_190.out _ | refine zv6 ?_ NB0_197.out _) | exact HI0.out)); (case side2 => repeat (first | (with_reducible first | exact HB.out | apply zya | apply zyp | apply zyr | refine zys ?_ (IsS46.ge HI0.out) | refine zys ?_ GE190.out | refine zys ?_ GE197.out) | exact HB.out)); rintro e w64 ⟨rfl, hi, hb, hk⟩; refine ⟨_, rfl, ?_⟩; replace HO_198002 := zm (Kd.R_mono (Kd.R_keep (IsS46.apart (show IsS46 w0 _ g s0_0 x1001_40 x1002_40 from by repeat (first | (with_reducible first | exact HI0.out | apply zv1 | apply zv2 | apply zv3 | apply zv4 | apply zv5 | refine zv6 ?_ NB0_190.out _ | refine zv6 ?_ NB0_197.out _) | exact HI0.out)) (zqR HO_198002.out) (by decide)) hk (fun _ h => h.2)) (fun _ h => h.1)); replace BK190 := zm (KeepBut.blk hk (g' := gb190) (o := zcB) (zqK BK190.out) NB190_0.out (by simp)); replace BK197 := zm (KeepBut.blk hk (g' := gb197) (o := .cells #[.int .i64 (wrap64 (1 + t191)), .int .i64 (wrap64 (1 + t194)), u198002] 27 (0, 0)) (zqK BK197.out) NB197_0.out (by simp)); replace HK := zm (KeepBut.trans zq5 hk (.inl rfl)); replace HB := zm (hb); replace HI0 := zm (hi); (try clear hb); (try clear hb2); (try clear hk); (try clear hi)) | ((with_reducible refine zyg (f := 75) rfl ?_); refine goesL_ (some 53) rfl rfl Try.func75 (by kernel_rfl) rfl #[.int .i64 8, .int .i64 8, .int .i64 3] rfl zq0 ?_; (with_reducible refine (spec_l2Fill.calls kj40 8 8 3 t232 t233 t234 _ A63.out).mono ?_); rintro e w65 ⟨v235, rfl, ho0, hb⟩; refine ⟨_, rfl, ?_⟩; have HO236 := zm (Kd.R_lower (Kd.R_new' ho0 (Kd.R_lt (zqR HO_198002.out))) (keep_size (w := w) (g := g) (row := none) zq5)); replace HO_198002 := zm (Kd.R_elder' (zqR HO_198002.out) (Kd.R_base ho0) hb); replace BK190 := zm (zyb (g := gb190) (o := zcB) (zqK BK190.out) hb); replace BK197 := zm (zyb (g := gb197) (o := .cells #[.int .i64 (wrap64 (1 + t191)), .int .i64 (wrap64 (1 + t194)), u198002] 27 (0, 0)) (zqK BK197.out) hb); replace HK := zm (KeepBut.trans zq5 (KeepBut.of_below hb g none) (.inl rfl)); replace HB := zm (zyh zq20 hb); replace HI0 := zm (IsS46.below zq23 hb); (try clear hb); (try clear hb2); (try clear hk); (try clear hi); (try clear ho0); have hnb66 := NB197_190.out; have hnc66 := NB190_197.out; have hnb67 := NB197_0.out; have hnc67 := NB0_197.out; have hcz68_0 := bz BK197.out 0 (.int .i64 (wrap64 (1 + t191))); have hcz68_1 := bz BK197.out 1 (.int .i64 (wrap64 (1 + t194))); have hcz68_2 := bz BK197.out 2 (u198002); have hfz68_0 := zyF BK197.out 0; have hfz68_1 := zyF BK197.out 1; have hfz68_2 := zyF BK197.out 2; obtain ⟨Ao69, co69, eo69⟩ := Kd.R_slice HO236.out; subst eo69; have hnb70 := NB190_0.out; have hnc70 := NB0_190.out; have hcz71_0 := bz BK190.out 0 (.int .i64 0); have hcz71_1 := bz BK190.out 1 (.int .i64 0); have hcz71_2 := bz BK190.out 2 (.slice none 0 0); have hfz71_0 := zyF BK190.out 0; have hfz71_1 := zyF BK190.out 1; have hfz71_2 := zyF BK190.out 2))
   refine bodyPost_ret (results_cell_row rfl _ _ gb190 27 #[.int .i64 t232, .int .i64 t233, .slice Ao69 t234.length co69] (0, 0) _ rfl (by (with_reducible repeat (first | apply zN | apply zD | apply zL)); refine blk_put (cs := #[.int .i64 t232, .int .i64 t233, .slice none 0 0]) ?_ 2 _ rfl; (with_reducible repeat (first | apply zN | apply zD | apply zL)); refine blk_put (cs := #[.int .i64 t232, .int .i64 0, .slice none 0 0]) ?_ 1 _ rfl; (with_reducible repeat (first | apply zN | apply zD | apply zL)); refine blk_put (cs := #[.int .i64 0, .int .i64 0, .slice none 0 0]) ?_ 0 _ rfl; (with_reducible repeat (first | apply zN | apply zD | apply zL)); refine zye ?_ NB190_197.out _; (with_reducible repeat (first | apply zN | apply zD | apply zL)); refine zye ?_ NB190_197.out _; (with_reducible repeat (first | apply zN | apply zD | apply zL)); refine zye ?_ NB190_197.out _; (with_reducible repeat (first | apply zN | apply zD | apply zL)); exact BK190.out) Try.underlying27 rfl (by kernel_rfl)) rfl ?_
   exact ⟨_, by first | rfl | (simp [errW_none, errW_some] <;> rfl) | (simp [*, errW_none, errW_some] <;> rfl), by (with_reducible repeat (first | apply Kd.R_alloc | apply Kd.R_drewN | apply Kd.R_drew)); exact Kd.R_mono (Kd.R_far (p := ⟨gb190, 2, none⟩) (Kd.R_far (p := ⟨gb190, 1, none⟩) (Kd.R_far (p := ⟨gb190, 0, none⟩) (Kd.R_far (p := ⟨gb197, 2, none⟩) (Kd.R_far (p := ⟨gb197, 1, none⟩) (Kd.R_far (p := ⟨gb197, 0, none⟩) (Kd.R_types (Kd.R_types HO236.out BK197.out (by decide)) BK190.out (by decide)) (fun _ hk => hk.1.2) (.int .i64 t232)) (fun _ hk => hk.1.2) (.int .i64 t233)) (fun _ hk => hk.1.2) (.slice Ao69 t234.length co69)) (fun _ hk => hk.2) (.int .i64 t232)) (fun _ hk => hk.2) (.int .i64 t233)) (fun _ hk => hk.2) (.slice Ao69 t234.length co69)) (fun _ hk => trivial), zq23, zq20, zq5⟩
end Go.Proofs.Ytfaihkhdbapjmaa.Q
