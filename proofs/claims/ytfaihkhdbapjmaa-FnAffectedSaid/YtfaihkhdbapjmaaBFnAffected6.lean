/- Texts of this claim, put together: walks of the program's functions, and plain facts. -/
import Derived.Test.YtfaihkhdbapjmaaZFnAffected
import Derived.Test.YtfaihkhdbapjmaaBFnAffected0
import Derived.Test.YtfaihkhdbapjmaaBFnAffected3
import Derived.Test.YtfaihkhdbapjmaaBFnAffected5
namespace Go.Proofs.Ytfaihkhdbapjmaa.Q
open Go.RowKit Go.Proofs.YtfaihkhdbapjmaaW.PrintWords Go.Proofs.YtfaihkhdbapjmaaW.PrintLast Go.Proofs.YtfaihkhdbapjmaaW.PrintMore
attribute [local go_sem] max2_int min2_int max_two min_two max_three min_three max_four min_four
set_option linter.unusedVariables false
set_option linter.unusedSimpArgs false
mutual
def spec_l1Cur_fieldOf.j0 : Nat → Bool → List Int → Int → Int → Int → Int → List Int → Option (Int × Int × List Int × Int × Int)
 | 0, _, _, _, _, _, _, _ => none
 | k + 1, x13, x1000, x1001, x1002, x269000, x269001, x269002 => if x13 = true then ((spec_l1Cur_anyField.f k x1000 x1001 x1002).bind fun bt274 => (some (bt274.1, bt274.2.1, bt274.2.2.1, bt274.2.2.2.1, bt274.2.2.2.2))) else (spec_l1Cur_fieldOf.l0 k 0 x1000 x1001 x1002 x269000 x269001 x269002 x269000 x269001 ([] : List Int))
def spec_l1Cur_fieldOf.l0 : Nat → Int → List Int → Int → Int → Int → Int → List Int → Int → Int → List Int → Option (Int × Int × List Int × Int × Int)
 | 0, _, _, _, _, _, _, _, _, _, _ => none
 | k + 1, x6, x1000, x1001, x1002, x269000, x269001, x269002, x282000, x282001, x282002 => if x6 < (x269002.length : Int) then ((spec_l1Cur_among.f x1000 x1001 x1002 (([0, 5, 10, 20, 20, (-9999)] : List Int))).bind fun bt285 => (if x282002.length < 17592186044416 then (spec_l1Cur_fieldOf.l0 k (wrap64 (x6 + 1)) x1000 bt285.2.1 bt285.2.2 x269000 x269001 x269002 x282000 x282001 (x282002 ++ [bt285.1])) else (none))) else (some (x282000, x282001, x282002, x1001, x1002))
end
def spec_l1Cur_fieldOf.f (k : Nat) (s0_0 : List Int) (s0_1 : Int) (s0_2 : Int) (a1_0 : Int) (a1_1 : Int) (l1_2 : List Int) : Option (Int × Int × List Int × Int × Int) := (spec_l1Cur_one.f s0_0 s0_1 s0_2 16).bind fun bt270 => (if bt270.1 = true then (spec_l1Cur_fieldOf.j0 k true s0_0 bt270.2.1 bt270.2.2 a1_0 a1_1 l1_2) else ((spec_l13Good.f k a1_0 a1_1 l1_2).bind fun t273 => (spec_l1Cur_fieldOf.j0 k (!t273) s0_0 bt270.2.1 bt270.2.2 a1_0 a1_1 l1_2)))
def spec_l1Cur_fieldOf.T7 : Bool × List (List Nat × List Nat) := (true, [([], []), ([0], [0]), ([], []), ([], []), ([2, 3], [2, 3]), ([4], [4]), ([1, 5, 4], [1, 5]), ([0, 1, 2, 3, 4, 5, 6], []), ([7, 6, 6, 0, 1, 2, 3, 4, 5, 6], [6, 7])])
def spec_l1Cur_fieldOf.B7 : List Nat := [0, 1, 0, 0, 12, 28, 63, 127, 255]
theorem spec_l1Cur_fieldOf.tab7 : rtab .any (opsOf Try.f18 7) = spec_l1Cur_fieldOf.T7 := by kernel_rfl
theorem spec_l1Cur_fieldOf.bits7 : waitsOk spec_l1Cur_fieldOf.T7.2 spec_l1Cur_fieldOf.B7 = true := by kernel_rfl
set_option maxHeartbeats 8000000 in
set_option maxRecDepth 100000 in
theorem spec_l1Cur_fieldOf.calls (k : Nat) (g : Nat) (s0_0 : List Int) (s0_1 : Int) (s0_2 : Int) (a1_0 : Int) (a1_1 : Int) (A1_2 : Option Addr) (c1_2 : Nat) (l1_2 : List Int) (r1 : Int) (r2 : Int) (r3 : List Int) (r4 : Int) (r5 : Int) (w0 w : World) (hI : IsS46 w0 w g s0_0 s0_1 s0_2) (hB : Below w0.heap.size w0 w) (hr1_2 : Kd.C (Kd.int .i64) w A1_2 l1_2.length l1_2) (hc1_2 : l1_2.length ≤ c1_2) (hf1_2 : ∀ ad, A1_2 = some ad → 0 < l1_2.length → ad.block ≠ g) (h : spec_l1Cur_fieldOf.f k s0_0 s0_1 s0_2 a1_0 a1_1 l1_2 = some (r1, r2, r3, r4, r5)) :
  Calls Try.prog 18 #[.pointer (some ⟨g, 0, none⟩), .agg #[.int .i64 a1_0, .int .i64 a1_1, .slice A1_2 l1_2.length c1_2]] w fun e w' => ∃ v2_ : Value, e = .returned (.agg #[.int .i64 r1, .int .i64 r2, v2_]) ∧ Kd.Q (Kd.int .i64) 3 w' w.heap.size (fun _ => True) v2_ r3 ∧ IsS46 w0 w' g s0_0 r4 r5 ∧ Below w0.heap.size w0 w' ∧ KeepBut w w' g none := by
 have hu26 := Try.underlying26
 have hu27 := Try.underlying27
 have HR1_2 := zm hr1_2
 have HC1_2 := zm hc1_2
 clear hr1_2 hc1_2
 have HI0 := zm hI
 have HK := zm (KeepBut.refl w g none)
 have HL := zm hB.size
 clear hI
 have HW0 := zm hB.size
 have HB := zm hB
 clear hB
 have H : ((spec_l1Cur_one.f s0_0 s0_1 s0_2 16).bind fun bt270 => (if bt270.1 = true then (spec_l1Cur_fieldOf.j0 k true s0_0 bt270.2.1 bt270.2.2 a1_0 a1_1 l1_2) else ((spec_l13Good.f k a1_0 a1_1 l1_2).bind fun t273 => (spec_l1Cur_fieldOf.j0 k (!t273) s0_0 bt270.2.1 bt270.2.2 a1_0 a1_1 l1_2)))) = some (r1, r2, r3, r4, r5) := h
 clear h
 have HC3 := zm H
 clear H
 go_enter Try.func18, Try.ntmps18
 go_upto_region 1 with (first | ((with_reducible refine gate_dst (N := 3) rfl ?_); refine box_event ?hg (N := 3) ?hd (cs := #[.int .i64 a1_0, .int .i64 a1_1, .slice A1_2 l1_2.length c1_2]) (t := 26) ?hr ?_; (case hd => rfl); (case hg => rfl); (case hr => exact zqS); intro gb268 hg w4 hbox hb; replace HB := zm (zyh zq10 hb); have BK268 := zm (hbox); have GW268 := zm ((by rw [hg]; exact (keep_size (w := w) (g := g) (row := none) zq4) : w.heap.size ≤ gb268)); have GE268 := zm ((Nat.le_trans HW0.out (by rw [hg]; exact (keep_size (w := w) (g := g) (row := none) zq4) : w.heap.size ≤ gb268) : w0.heap.size ≤ gb268)); replace HK := zm (KeepBut.trans zq4 (KeepBut.of_below hb g none) (.inl rfl)); have NB0_268 := zm ((by rw [hg]; exact Nat.ne_of_lt (IsS46.lt (show IsS46 w0 _ g s0_0 s0_1 s0_2 from by repeat (first | (with_reducible first | exact HI0.out | apply zv1 | apply zv2 | apply zv3 | apply zv4 | apply zv5) | exact HI0.out))) : g ≠ gb268)); have NB268_0 := zm ((by rw [hg]; exact Nat.ne_of_gt (IsS46.lt (show IsS46 w0 _ g s0_0 s0_1 s0_2 from by repeat (first | (with_reducible first | exact HI0.out | apply zv1 | apply zv2 | apply zv3 | apply zv4 | apply zv5) | exact HI0.out))) : gb268 ≠ g)); replace HI0 := zm (IsS46.below zq15 hb); clear hb hbox hg) | ((with_reducible refine gate_dst (N := 4) rfl ?_); refine box_event ?hg (N := 4) ?hd (cs := #[.int .i64 0, .int .i64 0, .slice none 0 0]) (t := 27) ?hr ?_; (case hd => rfl); (case hg => rfl); (case hr => exact zqS); intro gb269 hg w5 hbox hb; replace HB := zm (zyh (by repeat (first | (with_reducible first | exact HB.out | apply zya | apply zyp | apply zyr | refine zys ?_ (IsS46.ge HI0.out) | refine zys ?_ GE268.out) | exact HB.out)) hb); have BK269 := zm (hbox); have GW269 := zm ((by rw [hg]; exact (keep_size (w := w) (g := g) (row := none) zq98) : w.heap.size ≤ gb269)); have GE269 := zm ((Nat.le_trans HW0.out (by rw [hg]; exact (keep_size (w := w) (g := g) (row := none) zq98) : w.heap.size ≤ gb269) : w0.heap.size ≤ gb269)); replace HK := zm (KeepBut.trans zq98 (KeepBut.of_below hb g none) (.inl rfl)); have NB268_269 := zm ((by rw [hg]; exact Nat.ne_of_lt (blk_lt (g := gb268) (o := .cells #[.int .i64 a1_0, .int .i64 a1_1, .slice A1_2 l1_2.length c1_2] 26 (0, 0)) (zqK BK268.out)) : gb268 ≠ gb269)); have NB269_268 := zm ((by rw [hg]; exact Nat.ne_of_gt (blk_lt (g := gb268) (o := .cells #[.int .i64 a1_0, .int .i64 a1_1, .slice A1_2 l1_2.length c1_2] 26 (0, 0)) (zqK BK268.out)) : gb269 ≠ gb268)); replace BK268 := zm (zyb (g := gb268) (o := .cells #[.int .i64 a1_0, .int .i64 a1_1, .slice A1_2 l1_2.length c1_2] 26 (0, 0)) (zqK BK268.out) hb); have NB0_269 := zm ((by rw [hg]; exact Nat.ne_of_lt (IsS46.lt (show IsS46 w0 _ g s0_0 s0_1 s0_2 from by repeat (first | (with_reducible first | exact HI0.out | apply zv1 | apply zv2 | apply zv3 | apply zv4 | apply zv5 | refine zv6 ?_ NB0_268.out _) | exact HI0.out))) : g ≠ gb269)); have NB269_0 := zm ((by rw [hg]; exact Nat.ne_of_gt (IsS46.lt (show IsS46 w0 _ g s0_0 s0_1 s0_2 from by repeat (first | (with_reducible first | exact HI0.out | apply zv1 | apply zv2 | apply zv3 | apply zv4 | apply zv5 | refine zv6 ?_ NB0_268.out _) | exact HI0.out))) : gb269 ≠ g)); replace HI0 := zm (IsS46.below (by repeat (first | (with_reducible first | exact HI0.out | apply zv1 | apply zv2 | apply zv3 | apply zv4 | apply zv5 | refine zv6 ?_ NB0_268.out _) | exact HI0.out)) hb); clear hb hbox hg))
 (try simp only [Act.put, List.setIfInBounds_toArray, List.set_cons_zero, List.set_cons_succ])
 go_cut [13] (fun v13 wc => ∃ (kq : Nat) (x13_2 : Bool) (x1001_2 : Int) (x1002_2 : Int), v13 = .bool x13_2 ∧ Aside0 (spec_l1Cur_fieldOf.j0 kq x13_2 s0_0 x1001_2 x1002_2 a1_0 a1_1 l1_2 = some (r1, r2, r3, r4, r5)) ∧ Aside0 (kq ≤ k) ∧ Aside0 (wc.heap[gb268]? = some (.cells #[.int .i64 a1_0, .int .i64 a1_1, (.slice A1_2 l1_2.length c1_2)] 26 (0, 0))) ∧ Aside0 (wc.heap[gb269]? = some (.cells #[.int .i64 0, .int .i64 0, (.slice none 0 0)] 27 (0, 0))) ∧ Aside0 (IsS46 w0 wc g s0_0 x1001_2 x1002_2) ∧ Aside0 (KeepBut w wc g none) ∧ Aside0 (Below w0.heap.size w0 wc))
 case first =>
  have H := HC3.out
  clear HC3
  obtain ⟨⟨t270, t271, t272⟩, A60, H⟩ := zob H
  replace H : (if t270 = true then (spec_l1Cur_fieldOf.j0 k true s0_0 t271 t272 a1_0 a1_1 l1_2) else ((spec_l13Good.f k a1_0 a1_1 l1_2).bind fun t273 => (spec_l1Cur_fieldOf.j0 k (!t273) s0_0 t271 t272 a1_0 a1_1 l1_2))) = some (r1, r2, r3, r4, r5) := H
  have A6 := zm A60
  clear A60
  by_cases c7 : t270 = true
  case pos =>
   subst c7
   have H1 : (spec_l1Cur_fieldOf.j0 k true s0_0 t271 t272 a1_0 a1_1 l1_2) = some (r1, r2, r3, r4, r5) := by rw [if_pos rfl] at H; exact H
   clear H
   have H := H1
   clear H1
   have H' := zm H
   clear H
   go_wp2_with (first | ((with_reducible refine zyg (f := 42) rfl ?_); refine goesL_ (some 8) rfl rfl Try.func42 (by kernel_rfl) rfl #[.pointer (some ⟨g, 0, none⟩), .int .i64 16] rfl zq0 ?_; (with_reducible refine (spec_l1Cur_one.calls g s0_0 s0_1 s0_2 16 true t271 t272 w0 _ ?side1 ?side2 A6.out).mono ?_); (case side1 => repeat (first | (with_reducible first | exact HI0.out | apply zv1 | apply zv2 | apply zv3 | apply zv4 | apply zv5 | refine zv6 ?_ NB0_268.out _ | refine zv6 ?_ NB0_269.out _) | exact HI0.out)); (case side2 => repeat (first | (with_reducible first | exact HB.out | apply zya | apply zyp | apply zyr | refine zys ?_ (IsS46.ge HI0.out) | refine zys ?_ GE268.out | refine zys ?_ GE269.out) | exact HB.out)); rintro e w8 ⟨rfl, hi, hb, hk⟩; refine ⟨_, rfl, ?_⟩; replace BK268 := zm (KeepBut.blk hk (g' := gb268) (o := .cells #[.int .i64 a1_0, .int .i64 a1_1, .slice A1_2 l1_2.length c1_2] 26 (0, 0)) (zqK BK268.out) NB268_0.out (by simp)); replace BK269 := zm (KeepBut.blk hk (g' := gb269) (o := zcB) (zqK BK269.out) NB269_0.out (by simp)); replace HK := zm (KeepBut.trans zq27 hk (.inl rfl)); replace HB := zm (hb); replace HI0 := zm (hi); (try clear hb); (try clear hb2); (try clear hk); (try clear hi)))
   go_meet
   case rel => exact ⟨_, (true), (t271), (t272), (by first | rfl | (simp; done) | (simp [*]; done)), H', ⟨by first | omega | exact Nat.le_refl _⟩, ⟨by (with_reducible repeat (first | apply zN | apply zD | apply zL)); exact BK268.out⟩, ⟨by (with_reducible repeat (first | apply zN | apply zD | apply zL)); exact BK269.out⟩, ⟨zq55⟩, ⟨zq27⟩, ⟨zq56⟩⟩
  replace c7 := Bool.eq_false_iff.mpr c7
  subst c7
  have H1 : ((spec_l13Good.f k a1_0 a1_1 l1_2).bind fun t273 => (spec_l1Cur_fieldOf.j0 k (!t273) s0_0 t271 t272 a1_0 a1_1 l1_2)) = some (r1, r2, r3, r4, r5) := by rw [if_neg (show ¬ (false = true) by decide)] at H; exact H
  clear H
  have H := H1
  clear H1
  obtain ⟨t273, A90, H⟩ := zob H
  replace H : (spec_l1Cur_fieldOf.j0 k (!t273) s0_0 t271 t272 a1_0 a1_1 l1_2) = some (r1, r2, r3, r4, r5) := H
  have A9 := zm A90
  clear A90
  have H' := zm H
  clear H
  go_wp2_with (first | ((with_reducible refine zyg (f := 42) rfl ?_); refine goesL_ (some 8) rfl rfl Try.func42 (by kernel_rfl) rfl #[.pointer (some ⟨g, 0, none⟩), .int .i64 16] rfl zq0 ?_; (with_reducible refine (spec_l1Cur_one.calls g s0_0 s0_1 s0_2 16 false t271 t272 w0 _ ?side1 ?side2 A6.out).mono ?_); (case side1 => repeat (first | (with_reducible first | exact HI0.out | apply zv1 | apply zv2 | apply zv3 | apply zv4 | apply zv5 | refine zv6 ?_ NB0_268.out _ | refine zv6 ?_ NB0_269.out _) | exact HI0.out)); (case side2 => repeat (first | (with_reducible first | exact HB.out | apply zya | apply zyp | apply zyr | refine zys ?_ (IsS46.ge HI0.out) | refine zys ?_ GE268.out | refine zys ?_ GE269.out) | exact HB.out)); rintro e w10 ⟨rfl, hi, hb, hk⟩; refine ⟨_, rfl, ?_⟩; replace BK268 := zm (KeepBut.blk hk (g' := gb268) (o := .cells #[.int .i64 a1_0, .int .i64 a1_1, .slice A1_2 l1_2.length c1_2] 26 (0, 0)) (zqK BK268.out) NB268_0.out (by simp)); replace BK269 := zm (KeepBut.blk hk (g' := gb269) (o := zcB) (zqK BK269.out) NB269_0.out (by simp)); replace HK := zm (KeepBut.trans zq27 hk (.inl rfl)); replace HB := zm (hb); replace HI0 := zm (hi); (try clear hb); (try clear hb2); (try clear hk); (try clear hi); have hnb11 := NB268_269.out; have hnc11 := NB269_268.out; have hnb12 := NB268_0.out; have hnc12 := NB0_268.out; have hcz13_0 := bz BK268.out 0 (.int .i64 a1_0); have hcz13_1 := bz BK268.out 1 (.int .i64 a1_1); have hcz13_2 := bz BK268.out 2 (.slice A1_2 l1_2.length c1_2); have hfz13_0 := zyF BK268.out 0; have hfz13_1 := zyF BK268.out 1; have hfz13_2 := zyF BK268.out 2) | (go_at_call 43; (with_reducible refine (spec_l13Good.calls k a1_0 a1_1 _ _ l1_2 t273 _ ?side1 ?side2 A9.out).mono ?_); (case side1 => exact Kd.C_keep 0 HR1_2.out zq27 hf1_2); (case side2 => exact HC1_2.out); rintro e w14 ⟨rfl, hb⟩; replace BK268 := zm (zyb (g := gb268) (o := .cells #[.int .i64 a1_0, .int .i64 a1_1, .slice A1_2 l1_2.length c1_2] 26 (0, 0)) (zqK BK268.out) hb); replace BK269 := zm (zyb (g := gb269) (o := zcB) (zqK BK269.out) hb); replace HK := zm (KeepBut.trans zq27 (KeepBut.of_below hb g none) (.inl rfl)); replace HB := zm (zyh zq56 hb); replace HI0 := zm (IsS46.below zq55 hb); (try clear hb); (try clear hb2); (try clear hk); (try clear hi)))
  go_meet
  case rel => exact ⟨_, (!t273), (t271), (t272), (by first | rfl | (simp; done) | (simp [*]; done)), H', ⟨by first | omega | exact Nat.le_refl _⟩, ⟨by (with_reducible repeat (first | apply zN | apply zD | apply zL)); exact BK268.out⟩, ⟨by (with_reducible repeat (first | apply zN | apply zD | apply zL)); exact BK269.out⟩, ⟨zq55⟩, ⟨zq27⟩, ⟨zq56⟩⟩
 clear HC3
 try clear c1
 try clear p2
 try clear c4
 try clear c7
 try clear c11
 try clear c12
 try clear hcz13_0
 try clear hcz13_1
 try clear hcz13_2
 try clear hfz13_0
 try clear hfz13_1
 try clear hfz13_2
 obtain ⟨kq, x13_2, x1001_2, x1002_2, rfl, HA, HJ2, BK268, BK269, HI0, HK, HB⟩ := hcut
 cases kq with
 | zero => exact absurd HA.out (by simp [spec_l1Cur_fieldOf.j0])
 | succ kj2 =>
  have H := HA.out
  clear HA
  simp only [spec_l1Cur_fieldOf.j0] at H
  by_cases c15 : x13_2 = true
  case pos =>
   subst c15
   have H1 : ((spec_l1Cur_anyField.f kj2 s0_0 x1001_2 x1002_2).bind fun bt274 => (some (bt274.1, bt274.2.1, bt274.2.2.1, bt274.2.2.2.1, bt274.2.2.2.2))) = some (r1, r2, r3, r4, r5) := by rw [if_pos rfl] at H; exact H
   clear H
   have H := H1
   clear H1
   obtain ⟨⟨t274, t275, t276, t279, t280⟩, A160, H⟩ := zob H
   replace H : (some (t274, t275, t276, t279, t280)) = some (r1, r2, r3, r4, r5) := H
   have A16 := zm A160
   clear A160
   simp only [Option.some.injEq, Prod.mk.injEq] at H
   obtain ⟨rfl, rfl, rfl, rfl, rfl⟩ := H
   go_wp2_with (first | ((with_reducible refine zyg (f := 44) rfl ?_); refine goesL_ (some 15) rfl rfl Try.func44 (by kernel_rfl) rfl #[.pointer (some ⟨g, 0, none⟩)] rfl zq0 ?_; (with_reducible refine (spec_l1Cur_anyField.calls kj2 g s0_0 x1001_2 x1002_2 t274 t275 t276 t279 t280 w0 _ ?side1 ?side2 A16.out).mono ?_); (case side1 => repeat (first | (with_reducible first | exact HI0.out | apply zv1 | apply zv2 | apply zv3 | apply zv4 | apply zv5 | refine zv6 ?_ NB0_268.out _ | refine zv6 ?_ NB0_269.out _) | exact HI0.out)); (case side2 => repeat (first | (with_reducible first | exact HB.out | apply zya | apply zyp | apply zyr | refine zys ?_ (IsS46.ge HI0.out) | refine zys ?_ GE268.out | refine zys ?_ GE269.out) | exact HB.out)); rintro e w17 ⟨v277, rfl, ho0, hi, hb, hk⟩; refine ⟨_, rfl, ?_⟩; replace BK268 := zm (KeepBut.blk hk (g' := gb268) (o := .cells #[.int .i64 a1_0, .int .i64 a1_1, .slice A1_2 l1_2.length c1_2] 26 (0, 0)) (zqK BK268.out) NB268_0.out (by simp)); replace BK269 := zm (KeepBut.blk hk (g' := gb269) (o := zcB) (zqK BK269.out) NB269_0.out (by simp)); have HO278 := zm (Kd.Q_lower ho0 (keep_size (w := w) (g := g) (row := none) zq27)); replace HK := zm (KeepBut.trans zq27 hk (.inl rfl)); replace HB := zm (hb); replace HI0 := zm (hi); (try clear hb); (try clear hb2); (try clear hk); (try clear hi); (try clear ho0); have hnb18 := NB269_268.out; have hnc18 := NB268_269.out; have hnb19 := NB269_0.out; have hnc19 := NB0_269.out; have hcz20_0 := bz BK269.out 0 (.int .i64 0); have hcz20_1 := bz BK269.out 1 (.int .i64 0); have hcz20_2 := bz BK269.out 2 (.slice none 0 0); have hfz20_0 := zyF BK269.out 0; have hfz20_1 := zyF BK269.out 1; have hfz20_2 := zyF BK269.out 2; obtain ⟨Ao21, co21, eo21, _⟩ := Kd.Q_slice HO278.out; subst eo21))
   refine bodyPost_ret (results_cell_row rfl _ _ gb269 27 #[.int .i64 t274, .int .i64 t275, .slice Ao21 t276.length co21] (0, 0) _ rfl (by (with_reducible repeat (first | apply zN | apply zD | apply zL)); refine blk_put (cs := #[.int .i64 t274, .int .i64 t275, .slice none 0 0]) ?_ 2 _ rfl; (with_reducible repeat (first | apply zN | apply zD | apply zL)); refine blk_put (cs := #[.int .i64 t274, .int .i64 0, .slice none 0 0]) ?_ 1 _ rfl; (with_reducible repeat (first | apply zN | apply zD | apply zL)); refine blk_put (cs := #[.int .i64 0, .int .i64 0, .slice none 0 0]) ?_ 0 _ rfl; (with_reducible repeat (first | apply zN | apply zD | apply zL)); exact BK269.out) Try.underlying27 rfl (by kernel_rfl)) rfl ?_
   exact ⟨_, by first | rfl | (simp [errW_none, errW_some] <;> rfl) | (simp [*, errW_none, errW_some] <;> rfl), by (with_reducible repeat (first | apply Kd.Q_alloc | apply Kd.Q_drewN | apply Kd.Q_drew)); exact Kd.Q_mono (Kd.Q_far (p := ⟨gb269, 2, none⟩) (Kd.Q_far (p := ⟨gb269, 1, none⟩) (Kd.Q_far (p := ⟨gb269, 0, none⟩) (Kd.Q_types HO278.out BK269.out (by decide)) (fun _ hk => hk.2) (.int .i64 t274)) (fun _ hk => hk.2) (.int .i64 t275)) (fun _ hk => hk.2) (.slice Ao21 t276.length co21)) (fun _ hk => trivial), zq55, zq56, zq27⟩
  replace c15 := Bool.eq_false_iff.mpr c15
  subst c15
  have H1 : (spec_l1Cur_fieldOf.l0 kj2 0 s0_0 x1001_2 x1002_2 a1_0 a1_1 l1_2 a1_0 a1_1 ([] : List Int)) = some (r1, r2, r3, r4, r5) := by rw [if_neg (show ¬ (false = true) by decide)] at H; exact H
  clear H
  have H := H1
  clear H1
  have H' := zm H
  clear H
  have hnb22 := NB268_269.out
  have hnc22 := NB269_268.out
  have hnb23 := NB268_0.out
  have hnc23 := NB0_268.out
  have hcz24_0 := bz BK268.out 0 (.int .i64 a1_0)
  have hcz24_1 := bz BK268.out 1 (.int .i64 a1_1)
  have hcz24_2 := bz BK268.out 2 (.slice A1_2 l1_2.length c1_2)
  have hfz24_0 := zyF BK268.out 0
  have hfz24_1 := zyF BK268.out 1
  have hfz24_2 := zyF BK268.out 2
  go_wp2_with (first | ((with_reducible refine gate_dst (N := 5) rfl ?_); refine box_event ?hg (N := 5) ?hd (cs := #[.int .i64 0, .int .i64 0, .slice none 0 0]) (t := 27) ?hr ?_; (case hd => rfl); (case hg => rfl); (case hr => exact zqS); intro gb281 hg w25 hbox hb; replace HB := zm (zyh zq56 hb); have BK281 := zm (hbox); have GW281 := zm ((by rw [hg]; exact (keep_size (w := w) (g := g) (row := none) zq27) : w.heap.size ≤ gb281)); have GE281 := zm ((Nat.le_trans HW0.out (by rw [hg]; exact (keep_size (w := w) (g := g) (row := none) zq27) : w.heap.size ≤ gb281) : w0.heap.size ≤ gb281)); replace HK := zm (KeepBut.trans zq27 (KeepBut.of_below hb g none) (.inl rfl)); have NB268_281 := zm ((by rw [hg]; exact Nat.ne_of_lt (blk_lt (g := gb268) (o := .cells #[.int .i64 a1_0, .int .i64 a1_1, .slice A1_2 l1_2.length c1_2] 26 (0, 0)) (zqK BK268.out)) : gb268 ≠ gb281)); have NB281_268 := zm ((by rw [hg]; exact Nat.ne_of_gt (blk_lt (g := gb268) (o := .cells #[.int .i64 a1_0, .int .i64 a1_1, .slice A1_2 l1_2.length c1_2] 26 (0, 0)) (zqK BK268.out)) : gb281 ≠ gb268)); replace BK268 := zm (zyb (g := gb268) (o := .cells #[.int .i64 a1_0, .int .i64 a1_1, .slice A1_2 l1_2.length c1_2] 26 (0, 0)) (zqK BK268.out) hb); have NB269_281 := zm ((by rw [hg]; exact Nat.ne_of_lt (blk_lt (g := gb269) (o := zcB) (zqK BK269.out)) : gb269 ≠ gb281)); have NB281_269 := zm ((by rw [hg]; exact Nat.ne_of_gt (blk_lt (g := gb269) (o := zcB) (zqK BK269.out)) : gb281 ≠ gb269)); replace BK269 := zm (zyb (g := gb269) (o := zcB) (zqK BK269.out) hb); have NB0_281 := zm ((by rw [hg]; exact Nat.ne_of_lt (IsS46.lt (show IsS46 w0 _ g s0_0 x1001_2 x1002_2 from by repeat (first | (with_reducible first | exact HI0.out | apply zv1 | apply zv2 | apply zv3 | apply zv4 | apply zv5 | refine zv6 ?_ NB0_268.out _ | refine zv6 ?_ NB0_269.out _) | exact HI0.out))) : g ≠ gb281)); have NB281_0 := zm ((by rw [hg]; exact Nat.ne_of_gt (IsS46.lt (show IsS46 w0 _ g s0_0 x1001_2 x1002_2 from by repeat (first | (with_reducible first | exact HI0.out | apply zv1 | apply zv2 | apply zv3 | apply zv4 | apply zv5 | refine zv6 ?_ NB0_268.out _ | refine zv6 ?_ NB0_269.out _) | exact HI0.out))) : gb281 ≠ g)); replace HI0 := zm (IsS46.below zq55 hb); clear hb hbox hg; have hnb26 := NB281_268.out; have hnc26 := NB268_281.out; have hnb27 := NB281_269.out; have hnc27 := NB269_281.out; have hnb28 := NB281_0.out; have hnc28 := NB0_281.out; have hcz29_0 := bz BK281.out 0 (.int .i64 0); have hcz29_1 := bz BK281.out 1 (.int .i64 0); have hcz29_2 := bz BK281.out 2 (.slice none 0 0); have hfz29_0 := zyF BK281.out 0; have hfz29_1 := zyF BK281.out 1; have hfz29_2 := zyF BK281.out 2))
  go_loopg [6] kj2 (fun kq v6 w' => ∃ (x6_2 : Int) (x1001_2 : Int) (x1002_2 : Int) (x282002_2 : List Int) (u282002 : Value), v6 = .int .i64 x6_2 ∧ Aside0 (spec_l1Cur_fieldOf.l0 kq x6_2 s0_0 x1001_2 x1002_2 a1_0 a1_1 l1_2 a1_0 a1_1 x282002_2 = some (r1, r2, r3, r4, r5)) ∧ Aside0 (kq ≤ kj2) ∧ Aside0 (Kd.Q (Kd.int .i64) 3 w' w.heap.size (fun _ => True) u282002 x282002_2) ∧ Aside0 (w'.heap[gb268]? = some (.cells #[.int .i64 a1_0, .int .i64 a1_1, (.slice A1_2 l1_2.length c1_2)] 26 (0, 0))) ∧ Aside0 (w'.heap[gb269]? = some (.cells #[.int .i64 0, .int .i64 0, (.slice none 0 0)] 27 (0, 0))) ∧ Aside0 (w'.heap[gb281]? = some (.cells #[.int .i64 a1_0, .int .i64 a1_1, u282002] 27 (0, 0))) ∧ Aside0 (IsS46 w0 w' g s0_0 x1001_2 x1002_2) ∧ Aside0 (KeepBut w w' g none) ∧ Aside0 (Below w0.heap.size w0 w'))
  case atStart => exact ⟨(0), (x1001_2), (x1002_2), (([] : List Int)), (.slice none 0 0), (by first | rfl | (simp; done) | (simp [*]; done)), H', ⟨Nat.le_refl _⟩, ⟨Kd.Q_of_R (by first | exact Kd.R_nil _ _ _ _ _ | exact Kd.N_nil _ _ _ _ _ | exact Kd.V_nil _ _ _ _ _ | exact Kd.Q_nil _ _ _ _ _ | exact Kd.S_nil _ _ _ _ _)⟩, ⟨by (with_reducible repeat (first | apply zN | apply zD | apply zL)); refine zye ?_ NB268_281.out _; (with_reducible repeat (first | apply zN | apply zD | apply zL)); refine zye ?_ NB268_281.out _; (with_reducible repeat (first | apply zN | apply zD | apply zL)); refine zye ?_ NB268_281.out _; (with_reducible repeat (first | apply zN | apply zD | apply zL)); exact BK268.out⟩, ⟨by (with_reducible repeat (first | apply zN | apply zD | apply zL)); refine zye ?_ NB269_281.out _; (with_reducible repeat (first | apply zN | apply zD | apply zL)); refine zye ?_ NB269_281.out _; (with_reducible repeat (first | apply zN | apply zD | apply zL)); refine zye ?_ NB269_281.out _; (with_reducible repeat (first | apply zN | apply zD | apply zL)); exact BK269.out⟩, ⟨by (with_reducible repeat (first | apply zN | apply zD | apply zL)); refine blk_put (cs := #[.int .i64 a1_0, .int .i64 a1_1, .slice none 0 0]) ?_ 2 _ rfl; (with_reducible repeat (first | apply zN | apply zD | apply zL)); refine blk_put (cs := #[.int .i64 a1_0, .int .i64 0, .slice none 0 0]) ?_ 1 _ rfl; (with_reducible repeat (first | apply zN | apply zD | apply zL)); refine blk_put (cs := #[.int .i64 0, .int .i64 0, .slice none 0 0]) ?_ 0 _ rfl; (with_reducible repeat (first | apply zN | apply zD | apply zL)); exact BK281.out⟩, ⟨zq51⟩, ⟨zq39⟩, ⟨zq52⟩⟩
  clear H'
  try clear c1
  try clear c2
  try clear p2
  try clear c4
  try clear c7
  try clear c11
  try clear c12
  try clear c15
  try clear c18
  try clear c19
  try clear c22
  try clear c23
  try clear c26
  try clear c27
  try clear c28
  try clear hcz13_0
  try clear hcz13_1
  try clear hcz13_2
  try clear hcz20_0
  try clear hcz20_1
  try clear hcz20_2
  try clear hcz24_0
  try clear hcz24_1
  try clear hcz24_2
  try clear hcz29_0
  try clear hcz29_1
  try clear hcz29_2
  try clear hfz13_0
  try clear hfz13_1
  try clear hfz13_2
  try clear hfz20_0
  try clear hfz20_1
  try clear hfz20_2
  try clear hfz24_0
  try clear hfz24_1
  try clear hfz24_2
  try clear hfz29_0
  try clear hfz29_1
  try clear hfz29_2
  try clear p2
  obtain ⟨x6_2, x1001_2, x1002_2, x282002_2, u282002, rfl, HA, HK2, HO_282002, BK268, BK269, BK281, HI0, HK, HB⟩ := hrel
  cases gk with
  | zero => exact absurd HA.out (by simp [spec_l1Cur_fieldOf.l0])
  | succ k2 =>
   have H := HA.out
   clear HA
   simp only [spec_l1Cur_fieldOf.l0] at H
   by_cases c30 : x6_2 < (l1_2.length : Int)
   case neg =>
    rw [if_neg c30] at H
    have c30b0 : decide (x6_2 < (l1_2.length : Int)) = false := decide_eq_false c30
    clear c30
    simp only [Option.some.injEq, Prod.mk.injEq] at H
    obtain ⟨rfl, rfl, rfl, rfl, rfl⟩ := H
    have hnb45 := NB268_269.out
    have hnc45 := NB269_268.out
    have hnb46 := NB268_281.out
    have hnc46 := NB281_268.out
    have hnb47 := NB268_0.out
    have hnc47 := NB0_268.out
    have hcz48_0 := bz BK268.out 0 (.int .i64 a1_0)
    have hcz48_1 := bz BK268.out 1 (.int .i64 a1_1)
    have hcz48_2 := bz BK268.out 2 (.slice A1_2 l1_2.length c1_2)
    have hfz48_0 := zyF BK268.out 0
    have hfz48_1 := zyF BK268.out 1
    have hfz48_2 := zyF BK268.out 2
    have hnb49 := NB281_269.out
    have hnc49 := NB269_281.out
    have hnb50 := NB281_0.out
    have hnc50 := NB0_281.out
    have hcz51_0 := bz BK281.out 0 (.int .i64 a1_0)
    have hcz51_1 := bz BK281.out 1 (.int .i64 a1_1)
    have hcz51_2 := bz BK281.out 2 (u282002)
    have hfz51_0 := zyF BK281.out 0
    have hfz51_1 := zyF BK281.out 1
    have hfz51_2 := zyF BK281.out 2
    have hnb52 := NB269_0.out
    have hnc52 := NB0_269.out
    have hcz53_0 := bz BK269.out 0 (.int .i64 0)
    have hcz53_1 := bz BK269.out 1 (.int .i64 0)
    have hcz53_2 := bz BK269.out 2 (.slice none 0 0)
    have hfz53_0 := zyF BK269.out 0
    have hfz53_1 := zyF BK269.out 1
    have hfz53_2 := zyF BK269.out 2
    obtain ⟨Ao54, co54, eo54, _⟩ := Kd.Q_slice HO_282002.out
    subst eo54
    go_wp2
    refine bodyPost_ret (results_cell_row rfl _ _ gb269 27 #[.int .i64 a1_0, .int .i64 a1_1, .slice Ao54 x282002_2.length co54] (0, 0) _ rfl (by (with_reducible repeat (first | apply zN | apply zD | apply zL)); refine blk_put (cs := #[.int .i64 a1_0, .int .i64 a1_1, .slice none 0 0]) ?_ 2 _ rfl; (with_reducible repeat (first | apply zN | apply zD | apply zL)); refine blk_put (cs := #[.int .i64 a1_0, .int .i64 0, .slice none 0 0]) ?_ 1 _ rfl; (with_reducible repeat (first | apply zN | apply zD | apply zL)); refine blk_put (cs := #[.int .i64 0, .int .i64 0, .slice none 0 0]) ?_ 0 _ rfl; (with_reducible repeat (first | apply zN | apply zD | apply zL)); exact BK269.out) Try.underlying27 rfl (by kernel_rfl)) rfl ?_
    exact ⟨_, by first | rfl | (simp [errW_none, errW_some] <;> rfl) | (simp [*, errW_none, errW_some] <;> rfl), by (with_reducible repeat (first | apply Kd.Q_alloc | apply Kd.Q_drewN | apply Kd.Q_drew)); exact Kd.Q_mono (Kd.Q_far (p := ⟨gb269, 2, none⟩) (Kd.Q_far (p := ⟨gb269, 1, none⟩) (Kd.Q_far (p := ⟨gb269, 0, none⟩) (Kd.Q_types HO_282002.out BK269.out (by decide)) (fun _ hk => hk.2) (.int .i64 a1_0)) (fun _ hk => hk.2) (.int .i64 a1_1)) (fun _ hk => hk.2) (.slice Ao54 x282002_2.length co54)) (fun _ hk => trivial), zq51, zq52, zq39⟩
   rw [if_pos c30] at H
   have c30b0 : decide (x6_2 < (l1_2.length : Int)) = true := decide_eq_true c30
   clear c30
   obtain ⟨y282, hy282⟩ : ∃ y_ : List Int, y_ = (([0, 5, 10, 20, 20, (-9999)] : List Int)) := ⟨_, rfl⟩
   replace H : ((spec_l1Cur_among.f s0_0 x1001_2 x1002_2 y282).bind fun bt285 => (if x282002_2.length < 17592186044416 then (spec_l1Cur_fieldOf.l0 k2 (wrap64 (x6_2 + 1)) s0_0 bt285.2.1 bt285.2.2 a1_0 a1_1 l1_2 a1_0 a1_1 (x282002_2 ++ [bt285.1])) else (none))) = some (r1, r2, r3, r4, r5) := zqH hy282 H
   have Ny282 := zm hy282
   clear hy282
   obtain ⟨⟨t285, t286, t287⟩, A310, H⟩ := zob H
   replace H : (if x282002_2.length < 17592186044416 then (spec_l1Cur_fieldOf.l0 k2 (wrap64 (x6_2 + 1)) s0_0 t286 t287 a1_0 a1_1 l1_2 a1_0 a1_1 (x282002_2 ++ [t285])) else (none)) = some (r1, r2, r3, r4, r5) := H
   have A31 := zm A310
   clear A310
   by_cases c32 : x282002_2.length < 17592186044416
   case neg =>
    rw [if_neg c32] at H
    exact absurd H (by simp)
   rw [if_pos c32] at H
   have LMc32 := zm c32
   clear c32
   obtain ⟨y288, hy288⟩ : ∃ y_ : List Int, y_ = (x282002_2 ++ [t285]) := ⟨_, rfl⟩
   replace H : (spec_l1Cur_fieldOf.l0 k2 (wrap64 (x6_2 + 1)) s0_0 t286 t287 a1_0 a1_1 l1_2 a1_0 a1_1 y288) = some (r1, r2, r3, r4, r5) := zqH hy288 H
   have Ny288 := zm hy288
   clear hy288
   have H' := zm H
   clear H
   have hnb33 := NB268_269.out
   have hnc33 := NB269_268.out
   have hnb34 := NB268_281.out
   have hnc34 := NB281_268.out
   have hnb35 := NB268_0.out
   have hnc35 := NB0_268.out
   have hcz36_0 := bz BK268.out 0 (.int .i64 a1_0)
   have hcz36_1 := bz BK268.out 1 (.int .i64 a1_1)
   have hcz36_2 := bz BK268.out 2 (.slice A1_2 l1_2.length c1_2)
   have hfz36_0 := zyF BK268.out 0
   have hfz36_1 := zyF BK268.out 1
   have hfz36_2 := zyF BK268.out 2
   try go_wp2
   have n0_ := zm (Kd.Q_drew HO_282002.out)
   have n1_ := zm (zD BK268.out)
   have n2_ := zm (zD BK269.out)
   have n3_ := zm (zD BK281.out)
   have n4_ := zm (zv3 HI0.out)
   have n5_ := zm (keep_drew HK.out)
   have n6_ := zm (zyr HB.out)
   clear HO_282002
   clear BK268
   clear BK269
   clear BK281
   clear HI0
   clear HK
   clear HB
   have HO_282002 := n0_
   have BK268 := n1_
   have BK269 := n2_
   have BK281 := n3_
   have HI0 := n4_
   have HK := n5_
   have HB := n6_
   clear n0_ n1_ n2_ n3_ n4_ n5_ n6_
   refine start_ (n := 9) (S := fun w' => w'.cell? ⟨gb281, 0, none⟩ = some (.int .i64 a1_0) ∧ w'.cell? ⟨gb281, 1, none⟩ = some (.int .i64 a1_1) ∧ w'.cell? ⟨gb281, 2, none⟩ = some (u282002)) (ds := [8]) #[zf, zf, zf, zf, zf, zf, zf, zf, zf] (by kernel_rfl) rfl rfl ⟨(zyk BK281.out 0).trans rfl, (zyk BK281.out 1).trans rfl, (zyk BK281.out 2).trans rfl⟩ (fun hHeld => ?_); refine with_tabW spec_l1Cur_fieldOf.tab7 spec_l1Cur_fieldOf.bits7 (fun HT_ HW_ => ?_)
   generalize wr.drew = w37 at HO_282002 BK268 BK269 BK281 HI0 HK HB hHeld ⊢
   refine zP 0 (some 28) #[zt, zf, zf, zf, zf, zf, zf, zf, zf] ?_ rfl rfl HT_ (Or.inl ⟨by rfl, ?_⟩) ?_ ?_ ?_
   rotate_left; · exact zqB
   rotate_left; · exact zqA
   refine zP 2 (some 30) #[zt, zf, zt, zf, zf, zf, zf, zf, zf] ?_ rfl rfl HT_ (Or.inl ⟨by rfl, ?_⟩) ?_ ?_ ?_
   rotate_left; · exact zqB
   rotate_left; · exact zqA
   refine zT 1 (some 29) #[zt, zt, zt, zf, zf, zf, zf, zf, zf] ?_ rfl rfl HT_ HW_ (Or.inl ⟨by rfl, ?_⟩) hHeld ?_ ?_ ?_
   rotate_left
   ·
    rintro w' ⟨s0, s1, s2⟩
    go_simp
    with_reducible rfl
   rotate_left; · exact zqA
   refine one_ (i := 3) (N := some 31) #[zt, zt, zt, zt, zf, zf, zf, zf, zf] rfl rfl (one_of HT_.out (by kernel_rfl)) (by decide) (fun K hK => ?_)
   refine Kd.R_lit_step (Kd.int .i64) _ 3 ?hg (N := 31) ?hd (xs := ([0, 5, 10, 20, 20, (-9999)] : List Int)) (inner := [.int .i64 0, .int .i64 5, .int .i64 10, .int .i64 20, .int .i64 20, .int .i64 (-9999)]) (ok := fun _ => True) (okp := fun _ => True) ?hr ?hp (fun _ hk => hk) trivial (Below.refl _ _) (Nat.le_refl _) (by simp) ?_; (case hd => rfl); (case hg => rfl); (case hr => exact zqS); (case hp => exact (Reps.one (show Kd.M (Kd.int .i64) _ _ _ 0 [.int .i64 0] from rfl) (Reps.one (show Kd.M (Kd.int .i64) _ _ _ 5 [.int .i64 5] from rfl) (Reps.one (show Kd.M (Kd.int .i64) _ _ _ 10 [.int .i64 10] from rfl) (Reps.one (show Kd.M (Kd.int .i64) _ _ _ 20 [.int .i64 20] from rfl) (Reps.one (show Kd.M (Kd.int .i64) _ _ _ 20 [.int .i64 20] from rfl) (Reps.one (show Kd.M (Kd.int .i64) _ _ _ (-9999) [.int .i64 (-9999)] from rfl) (Reps.none _ _))))))))
   intro v283 w38 ho39 hb hg_ hnew_
   clear hg_ hnew_
   (first | rw [← Ny282.out] at ho39 | (simp only [Int.reduceToNat] at ho39; rw [← Ny282.out] at ho39))
   have n0_ := zm (Kd.Q_elder' (by (with_reducible repeat (first | apply Kd.Q_alloc | apply Kd.Q_drewN | apply Kd.Q_drew)); exact HO_282002.out) (Kd.R_base ho39) hb)
   have n1_ := zm (Kd.R_lower (Kd.R_new' ho39 (Kd.Q_lt (by (with_reducible repeat (first | apply Kd.Q_alloc | apply Kd.Q_drewN | apply Kd.Q_drew)); exact HO_282002.out))) (keep_size (w := w) (g := g) (row := none) zq39))
   have n2_ := zm (zyb (g := gb268) (o := .cells #[.int .i64 a1_0, .int .i64 a1_1, .slice A1_2 l1_2.length c1_2] 26 (0, 0)) (zqK BK268.out) hb)
   have n3_ := zm (zyb (g := gb269) (o := zcB) (zqK BK269.out) hb)
   have n4_ := zm (zyb (g := gb281) (o := .cells #[.int .i64 a1_0, .int .i64 a1_1, u282002] 27 (0, 0)) (zqK BK281.out) hb)
   have n5_ := zm (IsS46.below zq51 hb)
   have n6_ := zm (KeepBut.trans zq39 (KeepBut.of_below hb g none) (.inl rfl))
   have n7_ := zm (zyh zq52 hb)
   clear HO_282002
   clear BK268
   clear BK269
   clear BK281
   clear HI0
   clear HK
   clear HB
   have HO_282002 := n0_
   have HO284 := n1_
   have BK268 := n2_
   have BK269 := n3_
   have BK281 := n4_
   have HI0 := n5_
   have HK := n6_
   have HB := n7_
   clear n0_ n1_ n2_ n3_ n4_ n5_ n6_ n7_
   clear hb ho39
   obtain ⟨Ao40, co40, eo40⟩ := Kd.R_slice HO284.out
   (first | subst eo40 | (injection eo40 with f1_ f2_ f3_; have f4_ := f1_.symm; have f5_ := f3_.symm; clear f1_ f2_ f3_; subst f4_; subst f5_))
   refine hK.out _ _ ⟨(zyk BK281.out 0).trans rfl, (zyk BK281.out 1).trans rfl, (zyk BK281.out 2).trans rfl⟩ (fun hHeld => ?_)
   clear hK K
   refine norm_ (a' := ?_) ?_ ?_
   rotate_left
   ·
    show Act.put _ (some 31) _ = _
    simp only [Act.put, List.setIfInBounds_toArray, List.set_cons_zero, List.set_cons_succ, i64_w, i32_w]
    rfl
   refine one_ (i := 4) (N := some 32) #[zt, zt, zt, zt, zt, zf, zf, zf, zf] rfl rfl (one_of HT_.out (by kernel_rfl)) (by decide) (fun K hK => ?_)
   refine goes_ Try.func19 (by kernel_rfl) rfl #[.pointer (some ⟨g, 0, none⟩), .slice Ao40 y282.length co40] (by rfl) rfl rfl zq0 ?_
   with_reducible refine (spec_l1Cur_among.calls g s0_0 x1001_2 x1002_2 _ _ y282 t285 t286 t287 w0 _ ?side1 ?side2 ?side3 ?side4 ?side5 A31.out).mono ?_
   (case side1 => repeat (first | (with_reducible first | exact HI0.out | apply zv1 | apply zv2 | apply zv3 | apply zv4 | apply zv5 | refine zv6 ?_ NB0_268.out _ | refine zv6 ?_ NB0_269.out _ | refine zv6 ?_ NB0_281.out _) | exact HI0.out))
   (case side2 => repeat (first | (with_reducible first | exact HB.out | apply zya | apply zyp | apply zyr | refine zys ?_ (IsS46.ge HI0.out) | refine zys ?_ GE268.out | refine zys ?_ GE269.out | refine zys ?_ GE281.out) | exact HB.out))
   (case side3 => exact zqC (Kd.R_reads' HO284.out).2.2)
   (case side4 => exact (Kd.R_reads' HO284.out).2.1)
   (case side5 => exact far_slice (IsS46.own_ne HI0.out HO284.out (by decide)))
   rintro e w41 ⟨rfl, hi, hb, hk⟩
   refine ⟨_, rfl, ?_⟩
   have n0_ := zm (Kd.Q_mono (Kd.Q_keep (IsS46.apartQ (show IsS46 w0 _ g s0_0 x1001_2 x1002_2 from by repeat (first | (with_reducible first | exact HI0.out | apply zv1 | apply zv2 | apply zv3 | apply zv4 | apply zv5 | refine zv6 ?_ NB0_268.out _ | refine zv6 ?_ NB0_269.out _ | refine zv6 ?_ NB0_281.out _) | exact HI0.out)) (by (with_reducible repeat (first | apply Kd.Q_alloc | apply Kd.Q_drewN | apply Kd.Q_drew)); exact HO_282002.out) (by decide)) hk (fun _ h => h.2)) (fun _ h => h.1))
   have n1_ := zm (KeepBut.blk hk (g' := gb268) (o := .cells #[.int .i64 a1_0, .int .i64 a1_1, .slice A1_2 l1_2.length c1_2] 26 (0, 0)) (zqK BK268.out) NB268_0.out (by simp))
   have n2_ := zm (KeepBut.blk hk (g' := gb269) (o := zcB) (zqK BK269.out) NB269_0.out (by simp))
   have n3_ := zm (KeepBut.blk hk (g' := gb281) (o := .cells #[.int .i64 a1_0, .int .i64 a1_1, u282002] 27 (0, 0)) (zqK BK281.out) NB281_0.out (by simp))
   have n4_ := zm (Kd.R_mono (Kd.R_keep (IsS46.apart (show IsS46 w0 _ g s0_0 x1001_2 x1002_2 from by repeat (first | (with_reducible first | exact HI0.out | apply zv1 | apply zv2 | apply zv3 | apply zv4 | apply zv5 | refine zv6 ?_ NB0_268.out _ | refine zv6 ?_ NB0_269.out _ | refine zv6 ?_ NB0_281.out _) | exact HI0.out)) (zqR HO284.out) (by decide)) hk (fun _ h => h.2)) (fun _ h => h.1))
   have n5_ := zm (KeepBut.trans zq39 hk (.inl rfl))
   have n6_ := zm (hb)
   have n7_ := zm (hi)
   clear HO_282002
   clear BK268
   clear BK269
   clear BK281
   clear HO284
   clear HK
   clear HB
   clear HI0
   have HO_282002 := n0_
   have BK268 := n1_
   have BK269 := n2_
   have BK281 := n3_
   have HO284 := n4_
   have HK := n5_
   have HB := n6_
   have HI0 := n7_
   clear n0_ n1_ n2_ n3_ n4_ n5_ n6_ n7_
   (try clear hb)
   (try clear hb2)
   (try clear hk)
   (try clear hi)
   refine hK.out _ _ ⟨(zyk BK281.out 0).trans rfl, (zyk BK281.out 1).trans rfl, (zyk BK281.out 2).trans rfl⟩ (fun hHeld => ?_)
   clear hK K
   refine norm_ (a' := ?_) ?_ ?_
   rotate_left
   ·
    show Act.put _ (some 32) _ = _
    simp only [Act.put, List.setIfInBounds_toArray, List.set_cons_zero, List.set_cons_succ, i64_w, i32_w]
    rfl
   refine one_ (i := 5) (N := some 33) #[zt, zt, zt, zt, zt, zt, zf, zf, zf] rfl rfl (one_of HT_.out (by kernel_rfl)) (by decide) (fun K hK => ?_)
   refine value_ (w1 := ?_) (v := ?_) (by rfl) rfl ?_ ?_
   rotate_left 2
   ·
    go_simp
    constructor
    ·
     rfl
    ·
     rfl
   refine hK.out _ _ ⟨(zyk (zL BK281.out _) 0).trans rfl, (zyk (zL BK281.out _) 1).trans rfl, (zyk (zL BK281.out _) 2).trans rfl⟩ (fun hHeld => ?_)
   clear hK K
   refine norm_ (a' := ?_) ?_ ?_
   rotate_left
   ·
    show Act.put _ (some 33) _ = _
    simp only [Act.put, List.setIfInBounds_toArray, List.set_cons_zero, List.set_cons_succ, i64_w, i32_w]
    rfl
   refine one_ (i := 6) (N := some 34) #[zt, zt, zt, zt, zt, zt, zt, zf, zf] rfl rfl (one_of HT_.out (by kernel_rfl)) (by decide) (fun K hK => ?_)
   refine Kd.Q_append_step (Kd.int .i64) w.heap.size (by rfl) (.tmp 29) (.tmp 33) 24 3 (.int .i64 0) 8 rfl Try.underlying24 info3 rfl (by decide) (by omega) u282002 x282002_2 t285 [.int .i64 t285] (fun k_ => some k_ ≠ (.slice Ao40 y282.length co40 : Value).ownBlock) (fun _ => False) rfl rfl ?aP (fun _ hk => hk.elim) ?aF ?aO (Below.refl _ _) ?aS ?aL ?_
   (case aP => exact rfl)
   (case aF => exact (fun k_ hk => Kd.fresh' (Kd.R_lt (zqR HO284.out)) k_ hk))
   (case aO => exact (by (with_reducible repeat (first | apply Kd.Q_alloc | apply Kd.Q_drewN | apply Kd.Q_drew)); exact Kd.Q_mono HO_282002.out (fun _ hk => hk.2)))
   (case aS => exact (keep_size (w := w) (g := g) (row := none) zq39))
   (case aL => have := LMc32.out; omega)
   intro v289 w42 ho hb hg hat
   rw [← Ny288.out] at ho
   have n0_ := zm (blk_grown (g := gb268) (o := .cells #[.int .i64 a1_0, .int .i64 a1_1, .slice A1_2 l1_2.length c1_2] 26 (0, 0)) (zqK BK268.out) hg (Kd.Q_ne HO_282002.out BK268.out (by decide)))
   have n1_ := zm (blk_grown (g := gb269) (o := zcB) (zqK BK269.out) hg (Kd.Q_ne HO_282002.out BK269.out (by decide)))
   have n2_ := zm (blk_grown (g := gb281) (o := .cells #[.int .i64 a1_0, .int .i64 a1_1, u282002] 27 (0, 0)) (zqK BK281.out) hg (Kd.Q_ne HO_282002.out BK281.out (by decide)))
   have n3_ := zm (IsS46.grown zq51 hg (IsS46.own_neQ HI0.out HO_282002.out (by decide)))
   have n4_ := zm (Kd.R_after (ok := (fun _ => True)) (zqR HO284.out) hg hat)
   have n5_ := zm (below_weaken zq52 HL.out hb)
   have n6_ := zm (KeepBut.trans zq39 (KeepBut.of_grown hg g) (Kd.Q_base2 HO_282002.out))
   have n7_ := zm (ho)
   clear BK268
   clear BK269
   clear BK281
   clear HI0
   clear HO284
   clear HB
   clear HK
   clear HO_282002
   have BK268 := n0_
   have BK269 := n1_
   have BK281 := n2_
   have HI0 := n3_
   have HO284 := n4_
   have HB := n5_
   have HK := n6_
   have HO290 := n7_
   clear n0_ n1_ n2_ n3_ n4_ n5_ n6_ n7_
   clear ho hb hg hat
   obtain ⟨Ao43, co43, eo43, _⟩ := Kd.Q_slice HO290.out
   (first | subst eo43 | (injection eo43 with f1_ f2_ f3_; have f4_ := f1_.symm; have f5_ := f3_.symm; clear f1_ f2_ f3_; subst f4_; subst f5_))
   refine hK.out _ _ ⟨(zyk BK281.out 0).trans rfl, (zyk BK281.out 1).trans rfl, (zyk BK281.out 2).trans rfl⟩ (fun hHeld => ?_)
   clear hK K
   refine norm_ (a' := ?_) ?_ ?_
   rotate_left
   ·
    show Act.put _ (some 34) _ = _
    simp only [Act.put, List.setIfInBounds_toArray, List.set_cons_zero, List.set_cons_succ, i64_w, i32_w]
    rfl
   refine zP 7 (some 35) #[zt, zt, zt, zt, zt, zt, zt, zt, zf] ?_ rfl rfl HT_ (Or.inl ⟨by rfl, ?_⟩) ?_ ?_ ?_
   rotate_left; · exact zqB
   rotate_left; · exact zqA
   refine last_ (i := 8) (N := none) #[zt, zt, zt, zt, zt, zt, zt, zt, zt] rfl rfl (one_of HT_.out (by kernel_rfl)) (by decide) (fun K hK => ?_)
   have hs44 : w42.cell? ⟨gb281, 2, none⟩ = some (u282002) := (zyk BK281.out 2).trans rfl
   have hfs44 := zyF BK281.out 2
   have hns44_0 := NB268_281.out
   have hns44_1 := NB269_281.out
   have hms44_0 := NB281_268.out
   have hms44_1 := NB281_269.out
   refine skip_ (w1 := ?_) (by rfl) rfl ?_ ?_
   rotate_left
   ·
    go_simp
    rfl
   refine hK.out _ _ ?_
   clear hK K
   refine done_ (done_of HT_.out (by kernel_rfl)) ?_
   try go_wp2
   go_roundg k2
   case measure => have := HJ2.out; have := HK2.out; omega
   case rel => exact ⟨(wrap64 (x6_2 + 1)), (t286), (t287), (y288), (.slice Ao43 y288.length co43), (by first | rfl | (simp; done) | (simp [*]; done)), H', ⟨by have := HJ2.out; have := HK2.out; omega⟩, ⟨by (with_reducible repeat (first | apply Kd.Q_alloc | apply Kd.Q_drewN | apply Kd.Q_drew)); exact Kd.Q_mono (Kd.Q_far (p := ⟨gb281, 2, none⟩) (Kd.Q_types HO290.out BK281.out (by decide)) (fun _ hk => hk.2) (.slice Ao43 y288.length co43)) (fun _ hk => trivial)⟩, ⟨by (with_reducible repeat (first | apply zN | apply zD | apply zL)); refine zye ?_ NB268_281.out _; (with_reducible repeat (first | apply zN | apply zD | apply zL)); exact BK268.out⟩, ⟨by (with_reducible repeat (first | apply zN | apply zD | apply zL)); refine zye ?_ NB269_281.out _; (with_reducible repeat (first | apply zN | apply zD | apply zL)); exact BK269.out⟩, ⟨by (with_reducible repeat (first | apply zN | apply zD | apply zL)); refine blk_put (cs := #[.int .i64 a1_0, .int .i64 a1_1, u282002]) ?_ 2 _ rfl; (with_reducible repeat (first | apply zN | apply zD | apply zL)); exact BK281.out⟩, ⟨zq51⟩, ⟨zq39⟩, ⟨zq52⟩⟩
end Go.Proofs.Ytfaihkhdbapjmaa.Q
