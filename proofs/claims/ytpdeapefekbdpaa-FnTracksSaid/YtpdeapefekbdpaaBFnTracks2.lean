/- Texts of this claim, put together: walks of the program's functions, and plain facts. -/
import Derived.Test.YtpdeapefekbdpaaZFnTracks
import Derived.Test.YtpdeapefekbdpaaBFnTracks0
import Derived.Test.YtpdeapefekbdpaaBFnTracks1
namespace Go.Proofs.Ytpdeapefekbdpaa.Q
open Go.RowKit Go.Proofs.YtpdeapefekbdpaaW.PrintWords Go.Proofs.YtpdeapefekbdpaaW.PrintLast Go.Proofs.YtpdeapefekbdpaaW.PrintMore
attribute [local go_sem] max2_int min2_int max_two min_two max_three min_three max_four min_four
set_option linter.unusedVariables false
set_option linter.unusedSimpArgs false
def spec_StormsOf.l0 : Nat → List (S49) → List (List Int) → Int → Int → Int → List Int → Option ((List (S49)) × Bool)
 | 0, _, _, _, _, _, _ => none
 | k + 1, x6, x7, x8, x163000, x163001, x163002 => if x8 < (x7.length : Int) then (if 0 ≤ x8 then ((spec_l12Storm.f k x163000 x163001 x163002 (rd_L1 x7 x8)).bind fun bt174 => (if x6.length < 4398046511104 then (spec_StormsOf.l0 k (x6 ++ [(⟨bt174.1, bt174.2.1, bt174.2.2.1, bt174.2.2.2⟩ : S49)]) x7 (wrap64 (x8 + 1)) x163000 x163001 x163002) else (none))) else (none)) else (some (x6, true))
def spec_StormsOf.f (k : Nat) (a0_0 : Int) (a0_1 : Int) (l0_2 : List Int) (a1 : Int) : Option ((List (S49)) × Bool) := (some (([] : List (S49)) : List (S49))).bind fun y163 => ((spec_l2Good.f k a0_0 a0_1 l0_2).bind fun t166 => (if t166 = true then ((spec_l8Above.f k a0_0 a0_1 l0_2 a1).bind fun t167 => ((spec_l8Parts.f k a0_0 t167).bind fun t170 => (if (t170.length : Int) > 5 then (some (y163, false)) else (spec_StormsOf.l0 k y163 t170 0 a0_0 a0_1 l0_2)))) else (some (y163, false))))
def spec_StormsOf.T10 : Bool × List (List Nat × List Nat) := (true, [([], []), ([], []), ([], []), ([], []), ([2, 3], [2, 3]), ([4], [4]), ([1, 5], [1, 5]), ([6], [6]), ([0, 7, 6], [0, 7]), ([8, 8, 0, 1, 2, 3, 4, 5, 6, 7, 8], [0, 8])])
def spec_StormsOf.B10 : List Nat := [0, 0, 0, 0, 12, 28, 62, 126, 255, 511]
theorem spec_StormsOf.tab10 : rtab .any (opsOf Try.f6 10) = spec_StormsOf.T10 := by kernel_rfl
theorem spec_StormsOf.bits10 : waitsOk spec_StormsOf.T10.2 spec_StormsOf.B10 = true := by kernel_rfl
set_option maxHeartbeats 8000000 in
set_option maxRecDepth 100000 in
theorem spec_StormsOf.calls (k : Nat) (a0_0 : Int) (a0_1 : Int) (A0_2 : Option Addr) (c0_2 : Nat) (l0_2 : List Int) (a1 : Int) (r1 : List (S49)) (r2 : Bool) (w : World) (hr0_2 : Kd.C (Kd.int .i64) w A0_2 l0_2.length l0_2) (hc0_2 : l0_2.length ≤ c0_2) (h : spec_StormsOf.f k a0_0 a0_1 l0_2 a1 = some (r1, r2)) :
  Calls Try.prog 6 #[.agg #[.int .i64 a0_0, .int .i64 a0_1, .slice A0_2 l0_2.length c0_2], .int .i64 a1] w fun e w' => ∃ v0_ : Value, e = .returned (.tuple #[v0_, .bool r2]) ∧ Kd.R k49 49 w' w.heap.size (fun _ => True) v0_ r1 ∧ Below w.heap.size w w' := by
 have hu29 := Try.underlying29
 have HR0_2 := Aside0.mk hr0_2
 have HC0_2 := Aside0.mk hc0_2
 clear hr0_2 hc0_2
 have HB := Aside0.mk (Below.refl w.heap.size w)
 have H : ((some (([] : List (S49)) : List (S49))).bind fun y163 => ((spec_l2Good.f k a0_0 a0_1 l0_2).bind fun t166 => (if t166 = true then ((spec_l8Above.f k a0_0 a0_1 l0_2 a1).bind fun t167 => ((spec_l8Parts.f k a0_0 t167).bind fun t170 => (if (t170.length : Int) > 5 then (some (y163, false)) else (spec_StormsOf.l0 k y163 t170 0 a0_0 a0_1 l0_2)))) else (some (y163, false))))) = some (r1, r2) := h
 clear h
 obtain ⟨y163, hy163⟩ : ∃ y_ : List (S49), y_ = (([] : List (S49))) := ⟨_, rfl⟩
 replace H : ((spec_l2Good.f k a0_0 a0_1 l0_2).bind fun t166 => (if t166 = true then ((spec_l8Above.f k a0_0 a0_1 l0_2 a1).bind fun t167 => ((spec_l8Parts.f k a0_0 t167).bind fun t170 => (if (t170.length : Int) > 5 then (some (y163, false)) else (spec_StormsOf.l0 k y163 t170 0 a0_0 a0_1 l0_2)))) else (some (y163, false)))) = some (r1, r2) := zqH hy163 H
 have Ny163 := Aside0.mk hy163
 clear hy163
 replace H := Option.bind_eq_some_iff.mp H
 obtain ⟨t166, A30, H⟩ := H
 replace H : (if t166 = true then ((spec_l8Above.f k a0_0 a0_1 l0_2 a1).bind fun t167 => ((spec_l8Parts.f k a0_0 t167).bind fun t170 => (if (t170.length : Int) > 5 then (some (y163, false)) else (spec_StormsOf.l0 k y163 t170 0 a0_0 a0_1 l0_2)))) else (some (y163, false))) = some (r1, r2) := H
 have A3 := Aside0.mk A30
 clear A30
 by_cases c4 : t166 = true
 case neg =>
  replace c4 := Bool.eq_false_iff.mpr c4
  subst c4
  have H1 : (some (y163, false)) = some (r1, r2) := by rw [if_neg (show ¬ (false = true) by decide)] at H; exact H
  clear H
  have H := H1
  clear H1
  simp only [Option.some.injEq, Prod.mk.injEq] at H
  obtain ⟨rfl, rfl⟩ := H
  go_enter Try.func6, Try.ntmps6
  go_wp2_with (first | ((with_reducible refine gate_dst (N := 2) rfl ?_); refine box_event ?hg (N := 2) ?hd (cs := #[.int .i64 a0_0, .int .i64 a0_1, .slice A0_2 l0_2.length c0_2]) (t := 29) ?hr ?_; (case hd => rfl); (case hg => rfl); (case hr => exact zqS); intro gb162 hg w35 hbox hb; have BK162 := Aside0.mk (hbox); have GW162 := Aside0.mk ((by rw [hg]; exact (below_size zq0) : w.heap.size ≤ gb162)); replace HB := Aside0.mk (below_step zq0 hb); have GE162 := GW162; clear hb hbox hg) | ((with_reducible refine gate_dst (N := 9) rfl ?_); refine Kd.R_lit k49 _ 49 ?hg (N := 9) ?hd (xs := ([] : List (S49))) (inner := []) (ok := fun _ => True) (okp := fun _ => True) ?hr ?hp (fun _ hk => hk) trivial (Below.refl _ _) (Nat.le_refl _) (by simp) ?_; (case hd => rfl); (case hg => rfl); (case hr => exact zqS); (case hp => exact (Reps.none _ _)); intro v164 w36 ho37 hb hg_ hnew_; clear hg_ hnew_; (first | rw [← Ny163.out] at ho37 | (simp only [Int.reduceToNat] at ho37; rw [← Ny163.out] at ho37)); have HO165 := Aside0.mk (Kd.R_lower ho37 (below_size zq9)); replace BK162 := Aside0.mk (blk_below (g := gb162) (o := .cells #[.int .i64 a0_0, .int .i64 a0_1, .slice A0_2 l0_2.length c0_2] 29 (0, 0)) (zqK BK162.out) hb); replace HB := Aside0.mk (below_step zq9 hb); clear hb ho37; have hcz38_0 := bz BK162.out 0 (.int .i64 a0_0); have hcz38_1 := bz BK162.out 1 (.int .i64 a0_1); have hcz38_2 := bz BK162.out 2 (.slice A0_2 l0_2.length c0_2); have hfz38_0 := blk_frozen BK162.out 0; have hfz38_1 := blk_frozen BK162.out 1; have hfz38_2 := blk_frozen BK162.out 2) | ((with_reducible refine gate_callee (f := 25) rfl ?_); refine goesL_ (some 11) rfl rfl Try.func25 (by kernel_rfl) rfl #[.agg #[.int .i64 a0_0, .int .i64 a0_1, .slice A0_2 l0_2.length c0_2]] rfl zq1 ?_; (with_reducible refine (spec_l2Good.calls k a0_0 a0_1 _ _ l0_2 false _ ?side1 ?side2 A3.out).mono ?_); (case side1 => exact zqC (Kd.C_below HR0_2.out HB.out)); (case side2 => exact HC0_2.out); rintro e w39 ⟨rfl, hb⟩; refine ⟨_, rfl, ?_⟩; replace HO165 := Aside0.mk (Kd.R_below (zqR HO165.out) hb); replace BK162 := Aside0.mk (blk_below (g := gb162) (o := .cells #[.int .i64 a0_0, .int .i64 a0_1, .slice A0_2 l0_2.length c0_2] 29 (0, 0)) (zqK BK162.out) hb); replace HB := Aside0.mk (below_step zq9 hb); (try clear hb); (try clear hb2); (try clear hk); (try clear hi)))
  go_ret2
  exact ⟨_, by first | rfl | (simp [errW_none, errW_some] <;> rfl) | (simp [*, errW_none, errW_some] <;> rfl), zqR HO165.out, zq9⟩
 subst c4
 have H1 : ((spec_l8Above.f k a0_0 a0_1 l0_2 a1).bind fun t167 => ((spec_l8Parts.f k a0_0 t167).bind fun t170 => (if (t170.length : Int) > 5 then (some (y163, false)) else (spec_StormsOf.l0 k y163 t170 0 a0_0 a0_1 l0_2)))) = some (r1, r2) := by rw [if_pos rfl] at H; exact H
 clear H
 have H := H1
 clear H1
 replace H := Option.bind_eq_some_iff.mp H
 obtain ⟨t167, A50, H⟩ := H
 replace H : ((spec_l8Parts.f k a0_0 t167).bind fun t170 => (if (t170.length : Int) > 5 then (some (y163, false)) else (spec_StormsOf.l0 k y163 t170 0 a0_0 a0_1 l0_2))) = some (r1, r2) := H
 have A5 := Aside0.mk A50
 clear A50
 replace H := Option.bind_eq_some_iff.mp H
 obtain ⟨t170, A60, H⟩ := H
 replace H : (if (t170.length : Int) > 5 then (some (y163, false)) else (spec_StormsOf.l0 k y163 t170 0 a0_0 a0_1 l0_2)) = some (r1, r2) := H
 have A6 := Aside0.mk A60
 clear A60
 by_cases c7 : (t170.length : Int) > 5
 case pos =>
  rw [if_pos c7] at H
  have c7b0 : decide (5 < (t170.length : Int)) = true := decide_eq_true c7
  have c7b1 : decide (5 < t170.length) = true := decide_eq_true (by omega)
  clear c7
  simp only [Option.some.injEq, Prod.mk.injEq] at H
  obtain ⟨rfl, rfl⟩ := H
  go_enter Try.func6, Try.ntmps6
  try go_wp2_with (first | ((with_reducible refine gate_dst (N := 2) rfl ?_); refine box_event ?hg (N := 2) ?hd (cs := #[.int .i64 a0_0, .int .i64 a0_1, .slice A0_2 l0_2.length c0_2]) (t := 29) ?hr ?_; (case hd => rfl); (case hg => rfl); (case hr => exact zqS); intro gb162 hg w8 hbox hb; have BK162 := Aside0.mk (hbox); have GW162 := Aside0.mk ((by rw [hg]; exact (below_size zq0) : w.heap.size ≤ gb162)); replace HB := Aside0.mk (below_step zq0 hb); have GE162 := GW162; clear hb hbox hg) | ((with_reducible refine gate_dst (N := 9) rfl ?_); refine Kd.R_lit k49 _ 49 ?hg (N := 9) ?hd (xs := ([] : List (S49))) (inner := []) (ok := fun _ => True) (okp := fun _ => True) ?hr ?hp (fun _ hk => hk) trivial (Below.refl _ _) (Nat.le_refl _) (by simp) ?_; (case hd => rfl); (case hg => rfl); (case hr => exact zqS); (case hp => exact (Reps.none _ _)); intro v164 w9 ho10 hb hg_ hnew_; clear hg_ hnew_; (first | rw [← Ny163.out] at ho10 | (simp only [Int.reduceToNat] at ho10; rw [← Ny163.out] at ho10)); have HO165 := Aside0.mk (Kd.R_lower ho10 (below_size zq9)); replace BK162 := Aside0.mk (blk_below (g := gb162) (o := .cells #[.int .i64 a0_0, .int .i64 a0_1, .slice A0_2 l0_2.length c0_2] 29 (0, 0)) (zqK BK162.out) hb); replace HB := Aside0.mk (below_step zq9 hb); clear hb ho10; have hcz11_0 := bz BK162.out 0 (.int .i64 a0_0); have hcz11_1 := bz BK162.out 1 (.int .i64 a0_1); have hcz11_2 := bz BK162.out 2 (.slice A0_2 l0_2.length c0_2); have hfz11_0 := blk_frozen BK162.out 0; have hfz11_1 := blk_frozen BK162.out 1; have hfz11_2 := blk_frozen BK162.out 2) | ((with_reducible refine gate_callee (f := 25) rfl ?_); refine goesL_ (some 11) rfl rfl Try.func25 (by kernel_rfl) rfl #[.agg #[.int .i64 a0_0, .int .i64 a0_1, .slice A0_2 l0_2.length c0_2]] rfl zq1 ?_; (with_reducible refine (spec_l2Good.calls k a0_0 a0_1 _ _ l0_2 true _ ?side1 ?side2 A3.out).mono ?_); (case side1 => exact zqC (Kd.C_below HR0_2.out HB.out)); (case side2 => exact HC0_2.out); rintro e w12 ⟨rfl, hb⟩; refine ⟨_, rfl, ?_⟩; replace HO165 := Aside0.mk (Kd.R_below (zqR HO165.out) hb); replace BK162 := Aside0.mk (blk_below (g := gb162) (o := .cells #[.int .i64 a0_0, .int .i64 a0_1, .slice A0_2 l0_2.length c0_2] 29 (0, 0)) (zqK BK162.out) hb); replace HB := Aside0.mk (below_step zq9 hb); (try clear hb); (try clear hb2); (try clear hk); (try clear hi)))
  have n0_ := Aside0.mk (Kd.R_drew HO165.out)
  have n1_ := Aside0.mk (blk_drew BK162.out)
  have n2_ := Aside0.mk (below_drew1 HB.out)
  clear HO165
  clear BK162
  clear HB
  have HO165 := n0_
  have BK162 := n1_
  have HB := n2_
  clear n0_ n1_ n2_
  refine start_ (n := 7) (S := fun w' => w'.cell? ⟨gb162, 0, none⟩ = some (.int .i64 a0_0) ∧ w'.cell? ⟨gb162, 1, none⟩ = some (.int .i64 a0_1) ∧ w'.cell? ⟨gb162, 2, none⟩ = some (.slice A0_2 l0_2.length c0_2)) (ds := []) #[false, false, false, false, false, false, false] (by kernel_rfl) rfl rfl ⟨(blk_cell BK162.out 0).trans rfl, (blk_cell BK162.out 1).trans rfl, (blk_cell BK162.out 2).trans rfl⟩ (fun hHeld => ?_)
  generalize w12.drew = w13 at HO165 BK162 HB hHeld ⊢
  refine pure_ (i := 0) (N := some 14) (v := ?_) (a' := ?_) #[true, false, false, false, false, false, false] rfl rfl (by kernel_rfl) (fun _ _ _ h => h) (Or.inl ⟨by rfl, ?_⟩) ?_ ?_
  rotate_left; · exact zqB
  rotate_left; · exact zqA
  refine pure_ (i := 3) (N := some 17) (v := ?_) (a' := ?_) #[true, false, false, true, false, false, false] rfl rfl (by kernel_rfl) (fun _ _ _ h => h) (Or.inl ⟨by rfl, ?_⟩) ?_ ?_
  rotate_left; · exact zqB
  rotate_left; · exact zqA
  refine take_ (i := 1) (N := some 15) (v := ?_) (a' := ?_) #[true, true, false, true, false, false, false] rfl rfl (by kernel_rfl) (fun _ _ _ h => h) (Or.inl ⟨by rfl, ?_⟩) hHeld ?_ ?_
  rotate_left
  ·
   rintro w' ⟨s0, s1, s2⟩
   go_simp
   with_reducible rfl
  rotate_left; · exact zqA
  refine take_ (i := 2) (N := some 16) (v := ?_) (a' := ?_) #[true, true, true, true, false, false, false] rfl rfl (by kernel_rfl) (fun _ _ _ h => h) (Or.inl ⟨by rfl, ?_⟩) hHeld ?_ ?_
  rotate_left
  ·
   rintro w' ⟨s0, s1, s2⟩
   go_simp
   with_reducible rfl
  rotate_left; · exact zqA
  refine one_ (i := 4) (N := some 18) #[zt, zt, zt, zt, zt, zf, zf] rfl rfl (by kernel_rfl) (by decide) (fun K hK => ?_)
  refine goes_ Try.func27 (by kernel_rfl) rfl #[.agg #[.int .i64 a0_0, .int .i64 a0_1, .slice A0_2 l0_2.length c0_2], .int .i64 a1] (by rfl) rfl rfl zq1 ?_
  with_reducible refine (spec_l8Above.calls k a0_0 a0_1 _ _ l0_2 a1 t167 _ ?side1 ?side2 A5.out).mono ?_
  (case side1 => exact zqC (Kd.C_below HR0_2.out HB.out))
  (case side2 => exact HC0_2.out)
  rintro e w14 ⟨v168, rfl, ho0, hb⟩
  refine ⟨_, rfl, ?_⟩
  have n0_ := Aside0.mk (Kd.R_below (zqR HO165.out) hb)
  have n1_ := Aside0.mk (Kd.R_lower ho0 (below_size zq9))
  have n2_ := Aside0.mk (blk_below (g := gb162) (o := .cells #[.int .i64 a0_0, .int .i64 a0_1, .slice A0_2 l0_2.length c0_2] 29 (0, 0)) (zqK BK162.out) hb)
  have n3_ := Aside0.mk (below_step zq9 hb)
  clear HO165
  clear BK162
  clear HB
  have HO165 := n0_
  have HO169 := n1_
  have BK162 := n2_
  have HB := n3_
  clear n0_ n1_ n2_ n3_
  (try clear hb)
  (try clear hb2)
  (try clear hk)
  (try clear hi)
  (try clear ho0)
  obtain ⟨Ao15, co15, eo15⟩ := Kd.R_slice HO169.out
  (first | subst eo15 | (injection eo15 with f1_ f2_ f3_; have f4_ := f1_.symm; have f5_ := f3_.symm; clear f1_ f2_ f3_; subst f4_; subst f5_))
  refine hK.out _ _ ⟨(blk_cell BK162.out 0).trans rfl, (blk_cell BK162.out 1).trans rfl, (blk_cell BK162.out 2).trans rfl⟩ (fun hHeld => ?_)
  clear hK K
  refine norm_ (a' := ?_) ?_ ?_
  rotate_left
  ·
   show Act.put _ (some 18) _ = _
   simp only [Act.put, List.setIfInBounds_toArray, List.set_cons_zero, List.set_cons_succ, i64_w, i32_w]
   rfl
  refine one_ (i := 5) (N := some 19) #[zt, zt, zt, zt, zt, zt, zf] rfl rfl (by kernel_rfl) (by decide) (fun K hK => ?_)
  refine goes_ Try.func26 (by kernel_rfl) rfl #[.int .i64 a0_0, .slice Ao15 t167.length co15] (by rfl) rfl rfl zq1 ?_
  with_reducible refine (spec_l8Parts.calls k a0_0 _ _ t167 t170 _ ?side1 ?side2 A6.out).mono ?_
  (case side1 => exact zqC (Kd.R_reads' HO169.out).2.2)
  (case side2 => exact (Kd.R_reads' HO169.out).2.1)
  rintro e w16 ⟨v171, rfl, ho0, hb⟩
  refine ⟨_, rfl, ?_⟩
  have n0_ := Aside0.mk (Kd.R_below (zqR HO165.out) hb)
  have n1_ := Aside0.mk (Kd.R_below (zqR HO169.out) hb)
  have n2_ := Aside0.mk (Kd.S_lower (Kd.S_new' ho0 (Kd.R_lt (zqR HO169.out))) (below_size zq9))
  have n3_ := Aside0.mk (blk_below (g := gb162) (o := .cells #[.int .i64 a0_0, .int .i64 a0_1, .slice A0_2 l0_2.length c0_2] 29 (0, 0)) (zqK BK162.out) hb)
  have n4_ := Aside0.mk (below_step zq9 hb)
  clear HO165
  clear HO169
  clear BK162
  clear HB
  have HO165 := n0_
  have HO169 := n1_
  have HO172 := n2_
  have BK162 := n3_
  have HB := n4_
  clear n0_ n1_ n2_ n3_ n4_
  (try clear hb)
  (try clear hb2)
  (try clear hk)
  (try clear hi)
  (try clear ho0)
  refine hK.out _ _ ⟨(blk_cell BK162.out 0).trans rfl, (blk_cell BK162.out 1).trans rfl, (blk_cell BK162.out 2).trans rfl⟩ (fun hHeld => ?_)
  clear hK K
  refine norm_ (a' := ?_) ?_ ?_
  rotate_left
  ·
   show Act.put _ (some 19) _ = _
   simp only [Act.put, List.setIfInBounds_toArray, List.set_cons_zero, List.set_cons_succ, i64_w, i32_w]
   rfl
  refine pure_ (i := 6) (N := some 7) (v := ?_) (a' := ?_) #[true, true, true, true, true, true, true] rfl rfl (by kernel_rfl) (fun _ _ _ h => h) (Or.inl ⟨by rfl, ?_⟩) ?_ ?_
  rotate_left; · exact zqB
  rotate_left; · exact zqA
  refine done_ (by kernel_rfl) ?_
  obtain ⟨Ao17, co17, eo17⟩ := Kd.S_slice HO172.out
  subst eo17
  try go_wp2
  go_ret2
  exact ⟨_, by first | rfl | (simp [errW_none, errW_some] <;> rfl) | (simp [*, errW_none, errW_some] <;> rfl), zqR HO165.out, zq9⟩
 rw [if_neg c7] at H
 have c7b0 : decide (5 < (t170.length : Int)) = false := decide_eq_false c7
 have c7b1 : decide (5 < t170.length) = false := decide_eq_false (by omega)
 clear c7
 have H' := Aside0.mk H
 clear H
 go_enter Try.func6, Try.ntmps6
 try go_wp2_with (first | ((with_reducible refine gate_dst (N := 2) rfl ?_); refine box_event ?hg (N := 2) ?hd (cs := #[.int .i64 a0_0, .int .i64 a0_1, .slice A0_2 l0_2.length c0_2]) (t := 29) ?hr ?_; (case hd => rfl); (case hg => rfl); (case hr => exact zqS); intro gb162 hg w18 hbox hb; have BK162 := Aside0.mk (hbox); have GW162 := Aside0.mk ((by rw [hg]; exact (below_size zq0) : w.heap.size ≤ gb162)); replace HB := Aside0.mk (below_step zq0 hb); have GE162 := GW162; clear hb hbox hg) | ((with_reducible refine gate_dst (N := 9) rfl ?_); refine Kd.R_lit k49 _ 49 ?hg (N := 9) ?hd (xs := ([] : List (S49))) (inner := []) (ok := fun _ => True) (okp := fun _ => True) ?hr ?hp (fun _ hk => hk) trivial (Below.refl _ _) (Nat.le_refl _) (by simp) ?_; (case hd => rfl); (case hg => rfl); (case hr => exact zqS); (case hp => exact (Reps.none _ _)); intro v164 w19 ho20 hb hg_ hnew_; clear hg_ hnew_; (first | rw [← Ny163.out] at ho20 | (simp only [Int.reduceToNat] at ho20; rw [← Ny163.out] at ho20)); have HO165 := Aside0.mk (Kd.R_lower ho20 (below_size zq9)); replace BK162 := Aside0.mk (blk_below (g := gb162) (o := .cells #[.int .i64 a0_0, .int .i64 a0_1, .slice A0_2 l0_2.length c0_2] 29 (0, 0)) (zqK BK162.out) hb); replace HB := Aside0.mk (below_step zq9 hb); clear hb ho20; have hcz21_0 := bz BK162.out 0 (.int .i64 a0_0); have hcz21_1 := bz BK162.out 1 (.int .i64 a0_1); have hcz21_2 := bz BK162.out 2 (.slice A0_2 l0_2.length c0_2); have hfz21_0 := blk_frozen BK162.out 0; have hfz21_1 := blk_frozen BK162.out 1; have hfz21_2 := blk_frozen BK162.out 2) | ((with_reducible refine gate_callee (f := 25) rfl ?_); refine goesL_ (some 11) rfl rfl Try.func25 (by kernel_rfl) rfl #[.agg #[.int .i64 a0_0, .int .i64 a0_1, .slice A0_2 l0_2.length c0_2]] rfl zq1 ?_; (with_reducible refine (spec_l2Good.calls k a0_0 a0_1 _ _ l0_2 true _ ?side1 ?side2 A3.out).mono ?_); (case side1 => exact zqC (Kd.C_below HR0_2.out HB.out)); (case side2 => exact HC0_2.out); rintro e w22 ⟨rfl, hb⟩; refine ⟨_, rfl, ?_⟩; replace HO165 := Aside0.mk (Kd.R_below (zqR HO165.out) hb); replace BK162 := Aside0.mk (blk_below (g := gb162) (o := .cells #[.int .i64 a0_0, .int .i64 a0_1, .slice A0_2 l0_2.length c0_2] 29 (0, 0)) (zqK BK162.out) hb); replace HB := Aside0.mk (below_step zq9 hb); (try clear hb); (try clear hb2); (try clear hk); (try clear hi)))
 have n0_ := Aside0.mk (Kd.R_drew HO165.out)
 have n1_ := Aside0.mk (blk_drew BK162.out)
 have n2_ := Aside0.mk (below_drew1 HB.out)
 clear HO165
 clear BK162
 clear HB
 have HO165 := n0_
 have BK162 := n1_
 have HB := n2_
 clear n0_ n1_ n2_
 refine start_ (n := 7) (S := fun w' => w'.cell? ⟨gb162, 0, none⟩ = some (.int .i64 a0_0) ∧ w'.cell? ⟨gb162, 1, none⟩ = some (.int .i64 a0_1) ∧ w'.cell? ⟨gb162, 2, none⟩ = some (.slice A0_2 l0_2.length c0_2)) (ds := []) #[false, false, false, false, false, false, false] (by kernel_rfl) rfl rfl ⟨(blk_cell BK162.out 0).trans rfl, (blk_cell BK162.out 1).trans rfl, (blk_cell BK162.out 2).trans rfl⟩ (fun hHeld => ?_)
 generalize w22.drew = w23 at HO165 BK162 HB hHeld ⊢
 refine pure_ (i := 0) (N := some 14) (v := ?_) (a' := ?_) #[true, false, false, false, false, false, false] rfl rfl (by kernel_rfl) (fun _ _ _ h => h) (Or.inl ⟨by rfl, ?_⟩) ?_ ?_
 rotate_left; · exact zqB
 rotate_left; · exact zqA
 refine pure_ (i := 3) (N := some 17) (v := ?_) (a' := ?_) #[true, false, false, true, false, false, false] rfl rfl (by kernel_rfl) (fun _ _ _ h => h) (Or.inl ⟨by rfl, ?_⟩) ?_ ?_
 rotate_left; · exact zqB
 rotate_left; · exact zqA
 refine take_ (i := 1) (N := some 15) (v := ?_) (a' := ?_) #[true, true, false, true, false, false, false] rfl rfl (by kernel_rfl) (fun _ _ _ h => h) (Or.inl ⟨by rfl, ?_⟩) hHeld ?_ ?_
 rotate_left
 ·
  rintro w' ⟨s0, s1, s2⟩
  go_simp
  with_reducible rfl
 rotate_left; · exact zqA
 refine take_ (i := 2) (N := some 16) (v := ?_) (a' := ?_) #[true, true, true, true, false, false, false] rfl rfl (by kernel_rfl) (fun _ _ _ h => h) (Or.inl ⟨by rfl, ?_⟩) hHeld ?_ ?_
 rotate_left
 ·
  rintro w' ⟨s0, s1, s2⟩
  go_simp
  with_reducible rfl
 rotate_left; · exact zqA
 refine one_ (i := 4) (N := some 18) #[zt, zt, zt, zt, zt, zf, zf] rfl rfl (by kernel_rfl) (by decide) (fun K hK => ?_)
 refine goes_ Try.func27 (by kernel_rfl) rfl #[.agg #[.int .i64 a0_0, .int .i64 a0_1, .slice A0_2 l0_2.length c0_2], .int .i64 a1] (by rfl) rfl rfl zq1 ?_
 with_reducible refine (spec_l8Above.calls k a0_0 a0_1 _ _ l0_2 a1 t167 _ ?side1 ?side2 A5.out).mono ?_
 (case side1 => exact zqC (Kd.C_below HR0_2.out HB.out))
 (case side2 => exact HC0_2.out)
 rintro e w24 ⟨v168, rfl, ho0, hb⟩
 refine ⟨_, rfl, ?_⟩
 have n0_ := Aside0.mk (Kd.R_below (zqR HO165.out) hb)
 have n1_ := Aside0.mk (Kd.R_lower ho0 (below_size zq9))
 have n2_ := Aside0.mk (blk_below (g := gb162) (o := .cells #[.int .i64 a0_0, .int .i64 a0_1, .slice A0_2 l0_2.length c0_2] 29 (0, 0)) (zqK BK162.out) hb)
 have n3_ := Aside0.mk (below_step zq9 hb)
 clear HO165
 clear BK162
 clear HB
 have HO165 := n0_
 have HO169 := n1_
 have BK162 := n2_
 have HB := n3_
 clear n0_ n1_ n2_ n3_
 (try clear hb)
 (try clear hb2)
 (try clear hk)
 (try clear hi)
 (try clear ho0)
 obtain ⟨Ao25, co25, eo25⟩ := Kd.R_slice HO169.out
 (first | subst eo25 | (injection eo25 with f1_ f2_ f3_; have f4_ := f1_.symm; have f5_ := f3_.symm; clear f1_ f2_ f3_; subst f4_; subst f5_))
 refine hK.out _ _ ⟨(blk_cell BK162.out 0).trans rfl, (blk_cell BK162.out 1).trans rfl, (blk_cell BK162.out 2).trans rfl⟩ (fun hHeld => ?_)
 clear hK K
 refine norm_ (a' := ?_) ?_ ?_
 rotate_left
 ·
  show Act.put _ (some 18) _ = _
  simp only [Act.put, List.setIfInBounds_toArray, List.set_cons_zero, List.set_cons_succ, i64_w, i32_w]
  rfl
 refine one_ (i := 5) (N := some 19) #[zt, zt, zt, zt, zt, zt, zf] rfl rfl (by kernel_rfl) (by decide) (fun K hK => ?_)
 refine goes_ Try.func26 (by kernel_rfl) rfl #[.int .i64 a0_0, .slice Ao25 t167.length co25] (by rfl) rfl rfl zq1 ?_
 with_reducible refine (spec_l8Parts.calls k a0_0 _ _ t167 t170 _ ?side1 ?side2 A6.out).mono ?_
 (case side1 => exact zqC (Kd.R_reads' HO169.out).2.2)
 (case side2 => exact (Kd.R_reads' HO169.out).2.1)
 rintro e w26 ⟨v171, rfl, ho0, hb⟩
 refine ⟨_, rfl, ?_⟩
 have n0_ := Aside0.mk (Kd.R_below (zqR HO165.out) hb)
 have n1_ := Aside0.mk (Kd.R_below (zqR HO169.out) hb)
 have n2_ := Aside0.mk (Kd.S_lower (Kd.S_new' ho0 (Kd.R_lt (zqR HO169.out))) (below_size zq9))
 have n3_ := Aside0.mk (blk_below (g := gb162) (o := .cells #[.int .i64 a0_0, .int .i64 a0_1, .slice A0_2 l0_2.length c0_2] 29 (0, 0)) (zqK BK162.out) hb)
 have n4_ := Aside0.mk (below_step zq9 hb)
 clear HO165
 clear HO169
 clear BK162
 clear HB
 have HO165 := n0_
 have HO169 := n1_
 have HO172 := n2_
 have BK162 := n3_
 have HB := n4_
 clear n0_ n1_ n2_ n3_ n4_
 (try clear hb)
 (try clear hb2)
 (try clear hk)
 (try clear hi)
 (try clear ho0)
 refine hK.out _ _ ⟨(blk_cell BK162.out 0).trans rfl, (blk_cell BK162.out 1).trans rfl, (blk_cell BK162.out 2).trans rfl⟩ (fun hHeld => ?_)
 clear hK K
 refine norm_ (a' := ?_) ?_ ?_
 rotate_left
 ·
  show Act.put _ (some 19) _ = _
  simp only [Act.put, List.setIfInBounds_toArray, List.set_cons_zero, List.set_cons_succ, i64_w, i32_w]
  rfl
 refine pure_ (i := 6) (N := some 7) (v := ?_) (a' := ?_) #[true, true, true, true, true, true, true] rfl rfl (by kernel_rfl) (fun _ _ _ h => h) (Or.inl ⟨by rfl, ?_⟩) ?_ ?_
 rotate_left; · exact zqB
 rotate_left; · exact zqA
 refine done_ (by kernel_rfl) ?_
 obtain ⟨Ao27, co27, eo27⟩ := Kd.S_slice HO172.out
 subst eo27
 try go_wp2
 go_loopg [6, 8] k (fun kq v6 v8 w' => ∃ (x6_1 : List (S49)) (x8_1 : Int), v8 = .int .i64 x8_1 ∧ Aside0 (spec_StormsOf.l0 kq x6_1 t170 x8_1 a0_0 a0_1 l0_2 = some (r1, r2)) ∧ Aside0 (kq ≤ k) ∧ Aside0 (Kd.R k49 49 w' w.heap.size (fun _ => True) v6 x6_1) ∧ Aside0 (Kd.S (Kd.slice 3 (Kd.int .i64)) 22 w' w.heap.size (fun _ => True) (.slice Ao27 t170.length co27) t170) ∧ Aside0 (w'.heap[gb162]? = some (.cells #[.int .i64 a0_0, .int .i64 a0_1, (.slice A0_2 l0_2.length c0_2)] 29 (0, 0))) ∧ Aside0 (Below w.heap.size w w'))
 case atStart => exact ⟨(y163), (0), (by first | rfl | (simp; done) | (simp [*]; done)), H', ⟨Nat.le_refl _⟩, ⟨zqR HO165.out⟩, ⟨by (with_reducible repeat (first | apply Kd.S_alloc | apply Kd.S_drewN | apply Kd.S_drew)); exact Kd.S_mono HO172.out (fun _ hk => trivial)⟩, ⟨by (with_reducible repeat (first | refine blk_drewN ?_ _ | refine blk_drew ?_ | refine blk_alloc ?_ _)); exact BK162.out⟩, ⟨zq9⟩⟩
 clear H'
 try clear c2
 try clear p2
 try clear c4
 try clear c6
 try clear c7
 try clear c7b0
 try clear c7b1
 try clear c25
 try clear c26
 try clear c27
 try clear hcz11_0
 try clear hcz11_1
 try clear hcz11_2
 try clear hcz21_0
 try clear hcz21_1
 try clear hcz21_2
 try clear hfz11_0
 try clear hfz11_1
 try clear hfz11_2
 try clear hfz21_0
 try clear hfz21_1
 try clear hfz21_2
 obtain ⟨x6_1, x8_1, rfl, HA, HK1, HO_6, HO_7, BK162, HB⟩ := hrel
 cases gk with
 | zero => exact absurd HA.out (by simp [spec_StormsOf.l0])
 | succ k1 =>
  have H := HA.out
  clear HA
  simp only [spec_StormsOf.l0] at H
  by_cases c28 : x8_1 < (t170.length : Int)
  case neg =>
   rw [if_neg c28] at H
   have c28b0 : decide (x8_1 < (t170.length : Int)) = false := decide_eq_false c28
   clear c28
   simp only [Option.some.injEq, Prod.mk.injEq] at H
   obtain ⟨rfl, rfl⟩ := H
   go_wp2
   go_ret2
   exact ⟨_, by first | rfl | (simp [errW_none, errW_some] <;> rfl) | (simp [*, errW_none, errW_some] <;> rfl), zqR HO_6.out, zq9⟩
  rw [if_pos c28] at H
  have c28b0 : decide (x8_1 < (t170.length : Int)) = true := decide_eq_true c28
  clear c28
  by_cases c29 : 0 ≤ x8_1
  case neg =>
   rw [if_neg c29] at H
   exact absurd H (by simp)
  rw [if_pos c29] at H
  have c29b0 : decide (0 ≤ x8_1) = true := decide_eq_true c29
  clear c29
  replace H := Option.bind_eq_some_iff.mp H
  obtain ⟨⟨t174, t175, t176, t177⟩, A300, H⟩ := H
  replace H : (if x6_1.length < 4398046511104 then (spec_StormsOf.l0 k1 (x6_1 ++ [(⟨t174, t175, t176, t177⟩ : S49)]) t170 (wrap64 (x8_1 + 1)) a0_0 a0_1 l0_2) else (none)) = some (r1, r2) := H
  have A30 := Aside0.mk A300
  clear A300
  by_cases c31 : x6_1.length < 4398046511104
  case neg =>
   rw [if_neg c31] at H
   exact absurd H (by simp)
  rw [if_pos c31] at H
  have LMc31 := Aside0.mk c31
  clear c31
  obtain ⟨y178, hy178⟩ : ∃ y_ : List (S49), y_ = (x6_1 ++ [(⟨t174, t175, t176, t177⟩ : S49)]) := ⟨_, rfl⟩
  replace H : (spec_StormsOf.l0 k1 y178 t170 (wrap64 (x8_1 + 1)) a0_0 a0_1 l0_2) = some (r1, r2) := zqH hy178 H
  have Ny178 := Aside0.mk hy178
  clear hy178
  have H' := Aside0.mk H
  clear H
  try go_wp2
  have n0_ := Aside0.mk (Kd.R_drew HO_6.out)
  have n1_ := Aside0.mk (Kd.S_drew HO_7.out)
  have n2_ := Aside0.mk (blk_drew BK162.out)
  have n3_ := Aside0.mk (below_drew1 HB.out)
  clear HO_6
  clear HO_7
  clear BK162
  clear HB
  have HO_6 := n0_
  have HO_7 := n1_
  have BK162 := n2_
  have HB := n3_
  clear n0_ n1_ n2_ n3_
  have p173 : 0 ≤ (x8_1 : Int) := of_decide_eq_true zq2
  have q173 : x8_1 < (t170.length : Int) := of_decide_eq_true zq2
  obtain ⟨ad173, A173_0, c173_0, e173, hx173_0, hl173_0, hi173_0⟩ := at_L1 (Kd.S_reads' HO_7.out).2.2 x8_1 p173 q173
  cases e173
  obtain ⟨ce173, hce173, hMe173, hcc173⟩ := Kd.S_get HO_7.out [] x8_1 p173 (by first | exact q173 | exact of_decide_eq_true zq2 | (have e_ := (Kd.S_reads' HO_7.out).1; omega))
  obtain ⟨ve173_0, rfl, ge173_0⟩ := hMe173
  have hv173_0 := hcc173 0 _ rfl
  rw [Nat.add_zero, show ((Kd.slice 3 (Kd.int .i64))).sz = 1 from rfl, Nat.mul_one] at hv173_0
  replace hv173_0 := Option.some.inj (hv173_0.symm.trans hx173_0)
  rw [hv173_0] at ge173_0
  have HL173_0 := Aside0.mk (show Kd.R (Kd.int .i64) 3 _ _ _ _ (rd_L1 t170 x8_1) from ge173_0)
  clear hv173_0 ge173_0
  clear hcc173 hce173
  have HR173_0 := Aside0.mk hi173_0
  have HC173_0 := Aside0.mk hl173_0
  clear hi173_0 hl173_0
  replace p173 := eq_true p173
  replace q173 := eq_true q173
  refine start_ (n := 10) (S := fun w' => w'.cell? ⟨gb162, 0, none⟩ = some (.int .i64 a0_0) ∧ w'.cell? ⟨gb162, 1, none⟩ = some (.int .i64 a0_1) ∧ w'.cell? ⟨gb162, 2, none⟩ = some (.slice A0_2 l0_2.length c0_2) ∧ w'.cell? (ad173.add (x8_1).toNat) = some (.slice A173_0 (rd_L1 t170 x8_1).length c173_0)) (ds := [7, 8]) #[false, false, false, false, false, false, false, false, false, false] (by kernel_rfl) rfl rfl ⟨(blk_cell BK162.out 0).trans rfl, (blk_cell BK162.out 1).trans rfl, (blk_cell BK162.out 2).trans rfl, hx173_0⟩ (fun hHeld => ?_); refine with_tabW spec_StormsOf.tab10 spec_StormsOf.bits10 (fun HT_ HW_ => ?_)
  generalize wr.drew = w32 at HO_6 HO_7 BK162 HB HL173_0 HR173_0 hx173_0 hHeld ⊢
  refine zP 0 (some 30) #[zt, zf, zf, zf, zf, zf, zf, zf, zf, zf] ?_ rfl rfl HT_ (Or.inl ⟨by rfl, ?_⟩) ?_ ?_ ?_
  rotate_left; · exact zqB
  rotate_left; · exact zqA
  refine zP 2 (some 32) #[zt, zf, zt, zf, zf, zf, zf, zf, zf, zf] ?_ rfl rfl HT_ (Or.inl ⟨by rfl, ?_⟩) ?_ ?_ ?_
  rotate_left; · exact zqB
  rotate_left; · exact zqA
  refine zP 3 (some 33) #[zt, zf, zt, zt, zf, zf, zf, zf, zf, zf] ?_ rfl rfl HT_ (Or.inl ⟨by rfl, ?_⟩) ?_ ?_ ?_
  rotate_left; · exact zqB
  rotate_left; · exact zqA
  refine zP 4 (some 34) #[zt, zf, zt, zt, zt, zf, zf, zf, zf, zf] ?_ rfl rfl HT_ (Or.inl ⟨by rfl, ?_⟩) ?_ ?_ ?_
  rotate_left; · exact zqB
  rotate_left; · exact zqA
  refine zT 1 (some 31) #[zt, zt, zt, zt, zt, zf, zf, zf, zf, zf] ?_ rfl rfl HT_ HW_ (Or.inl ⟨by rfl, ?_⟩) hHeld ?_ ?_ ?_
  rotate_left
  ·
   rintro w' ⟨s0, s1, s2, s3⟩
   go_simp
   with_reducible rfl
  rotate_left; · exact zqA
  refine zT 5 (some 35) #[zt, zt, zt, zt, zt, zt, zf, zf, zf, zf] ?_ rfl rfl HT_ HW_ (Or.inl ⟨by rfl, ?_⟩) hHeld ?_ ?_ ?_
  rotate_left
  ·
   rintro w' ⟨s0, s1, s2, s3⟩
   go_simp
   with_reducible rfl
  rotate_left; · exact zqA
  refine one_ (i := 6) (N := some 36) #[zt, zt, zt, zt, zt, zt, zt, zf, zf, zf] rfl rfl (one_of HT_.out (by kernel_rfl)) (by decide) (fun K hK => ?_)
  refine goes_ Try.func28 (by kernel_rfl) rfl #[.agg #[.int .i64 a0_0, .int .i64 a0_1, .slice A0_2 l0_2.length c0_2], .slice A173_0 (rd_L1 t170 x8_1).length c173_0] (by rfl) rfl rfl zq1 ?_
  with_reducible refine (spec_l12Storm.calls k1 a0_0 a0_1 _ _ l0_2 _ _ (rd_L1 t170 x8_1) t174 t175 t176 t177 _ ?side1 ?side2 ?side3 ?side4 A30.out).mono ?_
  (case side1 => exact zqC (Kd.C_below HR0_2.out HB.out))
  (case side2 => exact HC0_2.out)
  (case side3 => repeat (first | exact (by repeat (first | (with_reducible exact HR173_0.out) | (with_reducible refine Kd.C_alloc ?_ _) | (with_reducible refine Kd.C_drewN ?_ _) | (with_reducible refine Kd.C_drew ?_) | exact HR173_0.out)) | (with_reducible refine Kd.C_alloc ?_ _) | (with_reducible refine Kd.C_drewN ?_ _) | (with_reducible refine Kd.C_drew ?_)))
  (case side4 => exact HC173_0.out)
  rintro e w33 ⟨rfl, hb⟩
  have HS3_ := (hb.cell (World.block_lt_of_cell? _ _ (hHeld.2.2.2))).trans (hHeld.2.2.2)
  refine ⟨_, rfl, ?_⟩
  have n0_ := Aside0.mk (Kd.R_below (zqR HO_6.out) hb)
  have n1_ := Aside0.mk (Kd.S_below (by (with_reducible repeat (first | apply Kd.S_alloc | apply Kd.S_drewN | apply Kd.S_drew)); exact HO_7.out) hb)
  have n2_ := Aside0.mk (Kd.R_below (by (with_reducible repeat (first | apply Kd.R_alloc | apply Kd.R_drewN | apply Kd.R_drew)); exact HL173_0.out) hb)
  have n3_ := Aside0.mk (blk_below (g := gb162) (o := .cells #[.int .i64 a0_0, .int .i64 a0_1, .slice A0_2 l0_2.length c0_2] 29 (0, 0)) (zqK BK162.out) hb)
  have n4_ := Aside0.mk (Kd.C_below (by repeat (first | (with_reducible exact HR173_0.out) | (with_reducible refine Kd.C_alloc ?_ _) | (with_reducible refine Kd.C_drewN ?_ _) | (with_reducible refine Kd.C_drew ?_) | exact HR173_0.out)) hb)
  have n5_ := Aside0.mk (below_step zq9 hb)
  clear HO_6
  clear HO_7
  clear HL173_0
  clear BK162
  clear HR173_0
  clear HB
  have HO_6 := n0_
  have HO_7 := n1_
  have HL173_0 := n2_
  have BK162 := n3_
  have HR173_0 := n4_
  have HB := n5_
  clear n0_ n1_ n2_ n3_ n4_ n5_
  (try clear hb)
  (try clear hb2)
  (try clear hk)
  (try clear hi)
  refine hK.out _ _ ⟨(blk_cell BK162.out 0).trans rfl, (blk_cell BK162.out 1).trans rfl, (blk_cell BK162.out 2).trans rfl, HS3_⟩ (fun hHeld => ?_)
  clear hK K
  refine norm_ (a' := ?_) ?_ ?_
  rotate_left
  ·
   show Act.put _ (some 36) _ = _
   simp only [Act.put, List.setIfInBounds_toArray, List.set_cons_zero, List.set_cons_succ, i64_w, i32_w]
   rfl
  refine last_ (i := 7) (N := some 37) #[true, true, true, true, true, true, true, true, false, false] rfl rfl (one_of HT_.out (by kernel_rfl)) (by decide) (fun K hK => ?_)
  refine value_ (w1 := ?_) (v := ?_) (by rfl) rfl ?_ ?_
  rotate_left 2
  ·
   go_simp
   constructor
   ·
    rfl
   ·
    rfl
  refine hK.out _ _ ?_
  clear hK K
  refine norm_ (a' := ?_) ?_ ?_
  rotate_left
  ·
   show Act.put _ (some 37) _ = _
   simp only [Act.put, List.setIfInBounds_toArray, List.set_cons_zero, List.set_cons_succ, i64_w, i32_w]
   rfl
  refine last_ (i := 8) (N := some 38) #[true, true, true, true, true, true, true, true, true, false] rfl rfl (one_of HT_.out (by kernel_rfl)) (by decide) (fun K hK => ?_)
  refine Kd.R_append_step k49 (w0 := w) w.heap.size (by rfl) (.tmp 30) (.tmp 37) 26 49 (.agg #[(.int .i64 0), (.int .i64 0), (.int .i64 0), (.int .i64 0)]) 32 rfl Try.underlying26 info49 rfl (by decide) (by omega) u6 x6_1 (⟨t174, t175, t176, t177⟩ : S49) [.int .i64 t174, .int .i64 t175, .int .i64 t176, .int .i64 t177] (fun _ => True) (fun _ => False) rfl rfl ?aP (fun _ hk => hk.elim) ?aF ?aO ?aB ?aS ?aL ?_
  (case aP => exact k49_mkM _ _ _ (⟨t174, t175, t176, t177⟩ : S49))
  (case aB => exact zq9)
  (case aF => exact (fun _ _ => trivial))
  (case aO => exact (zqR HO_6.out))
  (case aS => exact (below_size zq9))
  (case aL => have := LMc31.out; omega)
  intro v179 w34 ho hb hg hat
  rw [← Ny178.out] at ho
  have n0_ := Aside0.mk (Kd.S_over' (by (with_reducible repeat (first | apply Kd.S_alloc | apply Kd.S_drewN | apply Kd.S_drew)); exact HO_7.out) (Kd.R_typed (zqR HO_6.out)) (by decide) hg)
  have n1_ := Aside0.mk (blk_grown (g := gb162) (o := .cells #[.int .i64 a0_0, .int .i64 a0_1, .slice A0_2 l0_2.length c0_2] 29 (0, 0)) (zqK BK162.out) hg (Kd.R_ne HO_6.out BK162.out (by decide)))
  have n2_ := Aside0.mk (Kd.R_over' (by (with_reducible repeat (first | apply Kd.R_alloc | apply Kd.R_drewN | apply Kd.R_drew)); exact HL173_0.out) (Kd.R_typed (zqR HO_6.out)) (by decide) hg)
  have n3_ := Aside0.mk (hb)
  have n4_ := Aside0.mk (ho)
  clear HO_7
  clear BK162
  clear HL173_0
  clear HB
  clear HO_6
  have HO_7 := n0_
  have BK162 := n1_
  have HL173_0 := n2_
  have HB := n3_
  have HO180 := n4_
  clear n0_ n1_ n2_ n3_ n4_
  clear ho hb hg hat
  refine hK.out _ _ ?_
  clear hK K
  refine norm_ (a' := ?_) ?_ ?_
  rotate_left
  ·
   show Act.put _ (some 38) _ = _
   simp only [Act.put, List.setIfInBounds_toArray, List.set_cons_zero, List.set_cons_succ, i64_w, i32_w]
   rfl
  refine zP 9 (some 6) #[zt, zt, zt, zt, zt, zt, zt, zt, zt, zt] ?_ rfl rfl HT_ (Or.inl ⟨by rfl, ?_⟩) ?_ ?_ ?_
  rotate_left; · exact zqB
  rotate_left; · exact zqA
  refine done_ (done_of HT_.out (by kernel_rfl)) ?_
  try go_wp2
  go_roundg k1
  case measure => have := HK1.out; omega
  case rel => exact ⟨(y178), (wrap64 (x8_1 + 1)), (by first | rfl | (simp; done) | (simp [*]; done)), H', ⟨by have := HK1.out; omega⟩, ⟨zqR HO180.out⟩, ⟨by (with_reducible repeat (first | apply Kd.S_alloc | apply Kd.S_drewN | apply Kd.S_drew)); exact HO_7.out⟩, ⟨by (with_reducible repeat (first | refine blk_drewN ?_ _ | refine blk_drew ?_ | refine blk_alloc ?_ _)); exact BK162.out⟩, ⟨zq9⟩⟩
def impl_within.f (a0 : Int) (a1 : Int) (a2 : Int) : Option (Bool) := if a0 ≥ a1 then (some (decide (a0 ≤ a2))) else (some false)
set_option maxHeartbeats 8000000 in
set_option maxRecDepth 100000 in
theorem impl_within.calls (a0 : Int) (a1 : Int) (a2 : Int) (r : Bool) (w : World) (h : impl_within.f a0 a1 a2 = some r) :
  Calls Try.prog 39 #[.int .i64 a0, .int .i64 a1, .int .i64 a2] w fun e w' => e = .returned (.bool r) ∧ Drawn0 w w' := by
 have H : (if a0 ≥ a1 then (some (decide (a0 ≤ a2))) else (some false)) = some r := h
 clear h
 by_cases c4 : a0 ≥ a1
 case neg =>
  rw [if_neg c4] at H
  have c4b0 : decide (a1 ≤ a0) = false := decide_eq_false c4
  clear c4
  obtain rfl := Option.some.inj H
  go_enter Try.func39, Try.ntmps39
  go_wp2
  go_ret
  exact ⟨by first | rfl | (simp; done) | (simp [*]; done), zq19⟩
 rw [if_pos c4] at H
 have c4b0 : decide (a1 ≤ a0) = true := decide_eq_true c4
 clear c4
 obtain rfl := Option.some.inj H
 go_enter Try.func39, Try.ntmps39
 go_wp2
 go_ret
 exact ⟨by first | rfl | (simp; done) | (simp [*]; done), zq19⟩
theorem within_f (a b c : Int) : impl_within.f a b c = some (decide (b ≤ a ∧ a ≤ c)) := by
 unfold impl_within.f
 by_cases h1 : a ≥ b <;> by_cases h2 : a ≤ c <;> simp [h1, h2] <;> omega
theorem IndexFuncI.calls (g : Nat) (lb : Array Value) (p : Int → Bool) (eg : ∀ args w, (callFunc g args).run Try.prog w = .ok (.enter g args) w)
  (A0 : Option Addr) (n0 c0 : Nat) (l0 : List Int) (w : World) (hn : n0 = l0.length) (hr0 : Kd.C (Kd.int .i64) w A0 l0.length l0) (hc0 : l0.length ≤ c0)
  (hp : ∀ (W : World) (x : Int), x ∈ l0 → Below w.heap.size w W → Calls Try.prog g (#[.int .i64 x] ++ lb) W fun e w' => e = .returned (.bool (p x)) ∧ Below W.heap.size W w') :
  Calls Try.prog 81 #[.slice A0 n0 c0, .func (.func g) #[] lb] w fun e w' => e = .returned (.int .i64 (Gen.fIdx p l0)) ∧ Below w.heap.size w w' := by
 subst hn
 have HR0 := Aside0.mk hr0
 have HP := Aside0.mk hp
 have hbig : l0.length ≤ 9223372036854775807 := hr0.2.1
 clear hr0 hp hc0
 go_enter Try.func81, Try.ntmps81
 go_wp2
 go_loopg [5, 8] l0.length (fun gg _ s8 wr => ∃ kk : Nat, kk ≤ l0.length ∧ l0.length - kk ≤ gg ∧ s8 = .int .i64 kk ∧ Aside0 (Below w.heap.size w wr) ∧ Aside0 (∀ j, j < kk → p (l0.getD j 0) = false))
 case atStart => exact ⟨0, Nat.zero_le _, by omega, rfl, ⟨Below.refl _ w⟩, ⟨fun j hj => absurd hj (Nat.not_lt_zero _)⟩⟩
 case round =>
  obtain ⟨kk, hkk, hg, rfl, BW, AN⟩ := hrel
  by_cases hlt : kk < l0.length
  ·
   have hltz : (kk : Int) < (l0.length : Int) := by omega
   obtain ⟨ad, e0, hx0⟩ := Kd.at_int HR0.out (kk : Int) (by omega) hltz
   cases e0
   rw [show rd l0 (kk : Int) = l0.getD kk 0 from rfl, Int.toNat_natCast] at hx0
   have hmem : l0.getD kk 0 ∈ l0 := by rw [Gen.getD_lt l0 0 kk hlt]; exact List.getElem_mem hlt
   generalize hy : l0.getD kk 0 = y at hx0 hmem
   have B := Aside0.mk hy
   clear hy
   replace hx0 := (BW.out.cell (World.block_lt_of_cell? w _ hx0)).trans hx0
   have hcall := HP.out wr y hmem BW.out
   clear hmem
   cases hq : p y with
   | true =>
    rw [hq] at hcall
    go_wp2_with (go_at_fn g; refine hcall.mono ?_; rintro e w' ⟨rfl, hb'⟩)
    go_ret
    refine ⟨?_, BW.out.trans (hb'.mono BW.out.size)⟩
    rw [Gen.fIdx_hit p l0 0 kk hlt (by rw [B.out]; exact hq) AN.out]
    rfl
   | false =>
    rw [hq] at hcall
    go_wp2_with (go_at_fn g; refine hcall.mono ?_; rintro e w' ⟨rfl, hb'⟩)
    go_roundg (l0.length - (kk + 1))
    case measure => omega
    case rel =>
     refine ⟨kk + 1, by omega, by omega, by go_num, ⟨BW.out.trans (hb'.mono BW.out.size)⟩, ⟨fun j hj => ?_⟩⟩
     by_cases e : j = kk
     ·
      subst e
      rw [B.out]; exact hq
     ·
      exact AN.out j (by omega)
  ·
   have hltz : ¬ (kk : Int) < (l0.length : Int) := by omega
   have : kk = l0.length := by omega
   subst this
   go_wp2
   go_ret
   refine ⟨?_, BW.out⟩
   rw [Gen.fIdx_miss p l0 0 AN.out]
   rfl
theorem ContainsFuncI.calls (g : Nat) (lb : Array Value) (p : Int → Bool) (eg : ∀ args w, (callFunc g args).run Try.prog w = .ok (.enter g args) w)
  (A0 : Option Addr) (n0 c0 : Nat) (l0 : List Int) (w : World) (hn : n0 = l0.length) (hr0 : Kd.C (Kd.int .i64) w A0 l0.length l0) (hc0 : l0.length ≤ c0)
  (hp : ∀ (W : World) (x : Int), x ∈ l0 → Below w.heap.size w W → Calls Try.prog g (#[.int .i64 x] ++ lb) W fun e w' => e = .returned (.bool (p x)) ∧ Below W.heap.size W w') :
  Calls Try.prog 56 #[.slice A0 n0 c0, .func (.func g) #[] lb] w fun e w' => e = .returned (.bool (l0.any p)) ∧ Below w.heap.size w w' := by
 subst hn
 rw [← Gen.fIdx_nonneg p l0]
 have HC := Aside0.mk (IndexFuncI.calls g lb p eg A0 _ c0 l0 w rfl hr0 hc0 hp)
 clear hr0 hp hc0
 go_enter Try.func56, Try.ntmps56
 go_wp2_with (go_at_call 81; refine HC.out.mono ?_; rintro e w' ⟨rfl, hb'⟩)
 go_ret
 exact ⟨rfl, hb'⟩
def impl_isCell.f (a0 : Int) : Option (Bool) := if a0 = (-9999) then (some true) else ((impl_within.f a0 (-9000) 9000).bind fun t192 => (some t192))
set_option maxHeartbeats 8000000 in
set_option maxRecDepth 100000 in
theorem impl_isCell.calls (a0 : Int) (r : Bool) (w : World) (h : impl_isCell.f a0 = some r) :
  Calls Try.prog 58 #[.int .i64 a0] w fun e w' => e = .returned (.bool r) ∧ Drawn0 w w' := by
 have H : (if a0 = (-9999) then (some true) else ((impl_within.f a0 (-9000) 9000).bind fun t192 => (some t192))) = some r := h
 clear h
 by_cases c2 : a0 = (-9999)
 case pos =>
  rw [if_pos c2] at H
  have c2b0 : (a0 == (-9999)) = true := beq_iff_eq.mpr c2
  have c2b1 : (a0 != (-9999)) = false := bne_eq_false_iff_eq.mpr c2
  clear c2
  obtain rfl := Option.some.inj H
  go_enter Try.func58, Try.ntmps58
  go_wp2
  go_ret
  exact ⟨by first | rfl | (simp; done) | (simp [*]; done), zq19⟩
 rw [if_neg c2] at H
 have c2b0 : (a0 == (-9999)) = false := beq_eq_false_iff_ne.mpr c2
 have c2b1 : (a0 != (-9999)) = true := bne_iff_ne.mpr c2
 replace H := Option.bind_eq_some_iff.mp H
 obtain ⟨t192, A30, H⟩ := H
 replace H : (some t192) = some r := H
 have A3 := Aside0.mk A30
 clear A30
 obtain rfl := Option.some.inj H
 go_enter Try.func58, Try.ntmps58
 go_wp2_with (first | (go_at_call 39; (with_reducible refine (impl_within.calls a0 (-9000) 9000 t192 _ A3.out).mono ?_); rintro e w' ⟨rfl, ⟨nd, rfl⟩⟩))
 go_ret
 exact ⟨by first | rfl | (simp; done) | (simp [*]; done), zq19⟩
def cellB (n : Int) : Bool := decide (n = -9999) || decide (-9000 ≤ n ∧ n ≤ 9000)
theorem isCell_f (n : Int) : impl_isCell.f n = some (cellB n) := by
 unfold impl_isCell.f cellB
 by_cases h : n = -9999
 ·
  rw [if_pos h, decide_eq_true h]; rfl
 ·
  rw [if_neg h, decide_eq_false h, within_f]; rfl
theorem impl_IsValidField.pred : ∀ (W : World) (x : Int), Calls Try.prog 57 (#[.int .i64 x] ++ #[]) W fun e w' => e = .returned (.bool (!cellB x)) ∧ Below W.heap.size W w' := by
 intro W x
 have HF := Aside0.mk (isCell_f x)
 show Calls Try.prog 57 #[.int .i64 x] W _
 go_enter Try.func57, Try.ntmps57
 go_wp2_with (go_at_call 58; refine (impl_isCell.calls x (cellB x) _ HF.out).mono ?_; rintro e w' ⟨rfl, hb⟩; replace hb := hb.below)
 go_ret
 exact ⟨rfl, hb⟩
def impl_IsValidField.f (a0_0 : Int) (a0_1 : Int) (l0_2 : List Int) : Option Bool := (impl_within.f a0_0 1 8).bind fun t => (if t = true then ((impl_within.f a0_1 1 8).bind fun u => (if u = true then (if (l0_2.length : Int) = (wrap64 (a0_0 * a0_1)) then some (!(l0_2.any fun x => !cellB x)) else some false) else some false)) else some false)
set_option maxHeartbeats 4000000 in
theorem impl_IsValidField.calls (a0_0 : Int) (a0_1 : Int) (A0_2 : Option Addr) (c0_2 : Nat) (l0_2 : List Int) (r : Bool) (w : World) (hr0_2 : Kd.C (Kd.int .i64) w A0_2 l0_2.length l0_2) (hc0_2 : l0_2.length ≤ c0_2) (h : impl_IsValidField.f a0_0 a0_1 l0_2 = some r) :
  Calls Try.prog 30 #[.agg #[.int .i64 a0_0, .int .i64 a0_1, .slice A0_2 l0_2.length c0_2]] w fun e w' => e = .returned (.bool r) ∧ Below w.heap.size w w' := by
 have hu := Try.underlying29
 have HR := Aside0.mk hr0_2
 have HC := Aside0.mk hc0_2
 clear hr0_2 hc0_2
 unfold impl_IsValidField.f at h
 obtain ⟨t, ht, h⟩ := Option.bind_eq_some_iff.mp h
 have HT := Aside0.mk ht
 clear ht
 have eg : ∀ args w, (callFunc 57 args).run Try.prog w = .ok (.enter 57 args) w := enters_of Try.func57 (by kernel_rfl) rfl
 have EG := Aside0.mk eg
 clear eg
 cases t with
 | false =>
  rw [if_neg (by decide)] at h
  obtain rfl := Option.some.inj h
  clear h
  go_enter Try.func30, Try.ntmps30
  go_wp2_with (go_at_call 39; refine (impl_within.calls a0_0 1 8 false _ HT.out).mono ?_; rintro e w' ⟨rfl, hb⟩; replace hb := hb.below)
  go_ret
  exact ⟨rfl, ((Below.refl _ w).alloc (Nat.le_refl _) _).trans (hb.mono (by simp))⟩
 | true =>
  rw [if_pos rfl] at h
  obtain ⟨u, hu2, h⟩ := Option.bind_eq_some_iff.mp h
  have HU := Aside0.mk hu2
  clear hu2
  cases u with
  | false =>
   rw [if_neg (by decide)] at h
   obtain rfl := Option.some.inj h
   clear h
   go_enter Try.func30, Try.ntmps30
   go_wp2_with fail
   refine (impl_within.calls a0_0 1 8 true _ HT.out).mono ?_
   rintro e w' ⟨rfl, m1, rfl⟩
   go_wp2_with fail
   refine (impl_within.calls a0_1 1 8 false _ HU.out).mono ?_
   rintro e w' ⟨rfl, m2, rfl⟩
   go_wp2
   go_ret
   exact ⟨rfl, (by repeat (first | exact Below.refl _ _ | apply pw_below_drewN | apply below_alloc))⟩
  | true =>
   rw [if_pos rfl] at h
   by_cases c4 : (l0_2.length : Int) = (wrap64 (a0_0 * a0_1))
   case neg =>
    rw [if_neg c4] at h
    have c4b0 : ((l0_2.length : Int) == (wrap64 (a0_0 * a0_1))) = false := beq_eq_false_iff_ne.mpr c4
    obtain rfl := Option.some.inj h
    clear c4 h
    go_enter Try.func30, Try.ntmps30
    go_wp2_with fail
    refine (impl_within.calls a0_0 1 8 true _ HT.out).mono ?_
    rintro e w' ⟨rfl, m1, rfl⟩
    go_wp2_with fail
    refine (impl_within.calls a0_1 1 8 true _ HU.out).mono ?_
    rintro e w' ⟨rfl, m2, rfl⟩
    go_wp2
    go_ret
    exact ⟨rfl, (by repeat (first | exact Below.refl _ _ | apply pw_below_drewN | apply below_alloc))⟩
   rw [if_pos c4] at h
   have c4b0 : ((l0_2.length : Int) == (wrap64 (a0_0 * a0_1))) = true := beq_iff_eq.mpr c4
   have HH := Aside0.mk (Option.some.inj h)
   clear c4 h
   go_enter Try.func30, Try.ntmps30
   go_wp2_with fail
   refine (impl_within.calls a0_0 1 8 true _ HT.out).mono ?_
   rintro e w' ⟨rfl, m1, rfl⟩
   go_wp2_with fail
   refine (impl_within.calls a0_1 1 8 true _ HU.out).mono ?_
   rintro e w' ⟨rfl, m2, rfl⟩
   go_wp2_with fail
   refine (ContainsFuncI.calls 57 #[] (fun x => !cellB x) EG.out A0_2 l0_2.length c0_2 l0_2 _ rfl ?hr1 HC.out (fun W x _ _ => impl_IsValidField.pred W x)).mono ?_
   case hr1 => repeat (first | exact HR.out | apply Kd.C_drewN | apply Kd.C_alloc)
   rintro e w' ⟨rfl, hb'⟩
   generalize hq : (l0_2.any fun x => !cellB x) = q at *
   go_wp2
   go_ret
   refine ⟨by show Ending.returned (Value.bool (!q)) = _; rw [← HH.out], Below.trans ?_ (hb'.mono ?_)⟩
   ·
    repeat (first | exact Below.refl _ _ | apply pw_below_drewN | apply below_alloc)
   ·
    simp
def slices_Clone_int_int.f (l0 : List Int) : Option (List Int) := if l0.length < 17592186044416 then some l0 else none
set_option maxHeartbeats 4000000 in
theorem slices_Clone_int_int.calls (A0 : Option Addr) (c0 : Nat) (l0 : List Int) (r : List Int) (w : World) (hr0 : Kd.C (Kd.int .i64) w A0 l0.length l0) (hc0 : l0.length ≤ c0) (h : slices_Clone_int_int.f l0 = some r) :
  Calls Try.prog 59 #[.slice A0 l0.length c0] w fun e w' => ∃ v0_ : Value, e = .returned (v0_) ∧ Kd.R (Kd.int .i64) 3 w' w.heap.size (fun _ => True) v0_ r ∧ Below w.heap.size w w' := by
 have q26 : ∀ (w : World) (a : Option Addr) (n c n' c' : Nat), (binOp .eql 22 (.slice a n c) (.slice none n' c')).run Try.prog w = .ok (.bool a.isNone) w := fun w a n c n' c' => Lib.run_eql_slice_nil w _ _ a n c n' c' Try.underlying22
 unfold slices_Clone_int_int.f at h
 by_cases c4 : l0.length < 17592186044416
 case neg =>
  rw [if_neg c4] at h
  cases h
 rw [if_pos c4] at h
 obtain rfl := Option.some.inj h
 clear h
 cases A0 with
 | none =>
  have e0 : l0 = [] := by
   rcases Nat.eq_zero_or_pos l0.length with h0 | h0
   ·
    exact List.length_eq_zero_iff.1 h0
   ·
    obtain ⟨ad, ha, _⟩ := hr0.2.2 h0
    cases ha
  subst e0
  clear hr0 hc0
  go_enter Try.func59, Try.ntmps59
  go_wp2
  go_ret
  exact ⟨_, rfl, Kd.R_nil _ _ _ _ _, Below.refl _ _⟩
 | some ad =>
  have HR0 := Aside0.mk hr0
  have HC0 := Aside0.mk hc0
  have LM := Aside0.mk c4
  clear hr0 hc0 c4
  have HB := Aside0.mk (Below.refl w.heap.size w)
  go_enter Try.func59, Try.ntmps59
  go_wp2_with (first | ((with_reducible refine gate_dst (N := 5) rfl ?_); refine Kd.R_lit (Kd.int .i64) _ 3 ?hg (N := 5) ?hd (xs := ([] : List Int)) (inner := []) (ok := fun _ => True) (okp := fun _ => True) ?hr ?hp (fun _ hk => hk) trivial HB.out (Nat.le_refl _) (by simp) ?_; (case hd => rfl); (case hg => rfl); (case hr => exact zqS); (case hp => exact (Reps.none _ _)); intro v5 w5 ho5 hb5 hg5 hn5; have HO := Aside0.mk ho5; have HB5 := Aside0.mk hb5; clear ho5 hb5 hg5 hn5) | ((with_reducible refine gate_builtin (b := .append) (xs := #[.tmp 5, .tmp 6]) rfl ?_); at_builtin; refine Kd.R_append_rows (Kd.int .i64) (w0 := w) w.heap.size rfl (.tmp 5) (.tmp 6) 22 3 (.int .i64 0) 8 rfl Try.underlying22 info3 rfl (by decide) (by omega) v5 ([] : List Int) l0 _ _ _ (fun _ => True) (fun _ => False) rfl rfl (zqR HO.out) (by (with_reducible repeat (first | refine Kd.C_alloc ?_ _ | refine Kd.C_drewN ?_ _ | refine Kd.C_drew ?_)); exact (Kd.C_below HR0.out HB5.out)) (fun _ _ h => h) (fun _ h => h.elim) (fun _ _ => trivial) (by repeat (first | (with_reducible first | exact HB5.out | apply below_alloc | apply pw_below_drewN | apply below_drew1) | exact HB5.out)) (below_size (by repeat (first | (with_reducible first | exact HB5.out | apply below_alloc | apply pw_below_drewN | apply below_drew1) | exact HB5.out))) (by have := LM.out; simp only [List.length_nil]; omega) ?_; intro v7 w7 ho7 hb7 hg7 hat7; rw [List.nil_append] at ho7; have HO7 := Aside0.mk ho7; have HB7 := Aside0.mk hb7; clear ho7 hb7 hg7 hat7))
  go_ret
  exact ⟨_, rfl, zqR HO7.out, (by repeat (first | (with_reducible first | exact HB7.out | apply below_alloc | apply pw_below_drewN | apply below_drew1) | exact HB7.out))⟩
theorem fIdxSpec (p : Int → Bool) (l : List Int) : (Gen.fIdx p l = -1 ∧ ∀ j, j < l.length → p (l.getD j 0) = false) ∨ ∃ k, k < l.length ∧ Gen.fIdx p l = (k : Int) ∧ p (l.getD k 0) = true ∧ ∀ j, j < k → p (l.getD j 0) = false := by
 have key : ∀ n, n ≤ l.length → (∀ j, j < n → p (l.getD j 0) = false) ∨ ∃ k, k < n ∧ p (l.getD k 0) = true ∧ ∀ j, j < k → p (l.getD j 0) = false := by
  intro n
  induction n with
  | zero => exact fun _ => .inl fun j hj => absurd hj (Nat.not_lt_zero _)
  | succ n ih =>
   intro hn
   rcases ih (by omega) with h | ⟨k, hk, h1, h2⟩
   ·
    cases hq : p (l.getD n 0) with
    | true => exact .inr ⟨n, by omega, hq, h⟩
    | false =>
     refine .inl fun j hj => ?_
     by_cases e : j = n
     ·
      rw [e]; exact hq
     ·
      exact h j (by omega)
   ·
    exact .inr ⟨k, by omega, h1, h2⟩
 rcases key l.length (Nat.le_refl _) with h | ⟨k, hk, h1, h2⟩
 ·
  exact .inl ⟨Gen.fIdx_miss p l 0 h, h⟩
 ·
  exact .inr ⟨k, hk, Gen.fIdx_hit p l 0 k hk h1 h2, h1, h2⟩
theorem takeS (l : List Int) (j : Nat) (hj : j < l.length) : l.take (j + 1) = l.take j ++ [l.getD j 0] := by
 rw [List.take_succ_eq_append_getElem hj, Gen.getD_lt l 0 j hj]
theorem setTake (l : List Int) (i : Nat) (x : Int) (hi : i < l.length) : (l.set i x).take (i + 1) = l.take i ++ [x] := by
 rw [List.take_succ_eq_append_getElem (by rw [List.length_set]; exact hi), List.getElem_set_self, List.take_set_of_le (Nat.le_refl _)]
theorem setDrop (l : List Int) (i j : Nat) (x : Int) (hi : i < j) : (l.set i x).drop j = l.drop j := List.drop_set_of_lt hi
theorem dropS {l m : List Int} {j : Nat} (h : l.drop j = m.drop j) : l.drop (j + 1) = m.drop (j + 1) := by
 rw [← List.drop_drop, ← List.drop_drop, h]
theorem dropAt {l m : List Int} {j : Nat} (h : l.drop j = m.drop j) : l.getD j 0 = m.getD j 0 := by
 have := congrArg (fun z => z[0]?) h
 simp only [List.getElem?_drop, Nat.add_zero] at this
 simp only [List.getD_eq_getElem?_getD, this]
theorem filterAll (p : Int → Bool) (l : List Int) (k : Nat) (hk : k ≤ l.length) (h : ∀ j, j < k → p (l.getD j 0) = false) : (l.take k).filter (fun x => !p x) = l.take k := by
 rw [List.filter_eq_self]
 intro x hx
 obtain ⟨t, ht, rfl⟩ := List.getElem_of_mem hx
 have htk : t < k := by rw [List.length_take] at ht; omega
 have := h t htk
 rw [Gen.getD_lt l 0 t (by omega)] at this
 rw [List.getElem_take, this]
 rfl
theorem clearI {e : Nat} {base : Nat} {ok : Nat → Prop} {g n cap : Nat} : ∀ (m i : Nat) (W : World) (dk : List Int), Kd.R (Kd.int .i64) e W base ok (.slice (some ⟨g, 0, none⟩) n cap) dk → ∃ dk' : List Int, dk'.length = dk.length ∧ dk'.take i = dk.take i ∧ Kd.R (Kd.int .i64) e (W.setCells g i (List.replicate m (.int .i64 0))) base ok (.slice (some ⟨g, 0, none⟩) n cap) dk'
 | 0, _, _, dk, h => ⟨dk, rfl, rfl, h⟩
 | m + 1, i, W, dk, h => by
  have h1 := Kd.R_putn h (i : Int) 0
  rw [Int.toNat_natCast] at h1
  obtain ⟨dk', e1, e2, e3⟩ := clearI m (i + 1) _ _ h1
  refine ⟨dk', by rw [e1, List.length_set], ?_, e3⟩
  have := congrArg (List.take i) e2
  rw [List.take_take, List.take_take, Nat.min_eq_left (by omega), List.take_set_of_le (Nat.le_refl _)] at this
  exact this
theorem keptSet {w W : World} {S : Nat → Prop} (h : Kept w W S) {g : Nat} (hg : S g) (i : Nat) (v : Value) : Kept w (W.setCell ⟨g, i, none⟩ v) S :=
 ⟨by rw [show (W.setCell ⟨g, i, none⟩ v).heap.size = W.heap.size by simp [World.setCell]]; exact h.1, fun k hk hn => (Below.heap_setCell W ⟨g, i, none⟩ v k (fun e => hn (by rw [e]; exact hg))).trans (h.2 k hk hn)⟩
theorem keptSets {w : World} {S : Nat → Prop} {g : Nat} (hg : S g) : ∀ (vs : List Value) (i : Nat) (W : World), Kept w W S → Kept w (W.setCells g i vs) S
 | [], _, _, h => h
 | v :: r, i, W, h => keptSets hg r (i + 1) _ (keptSet h hg i v)
theorem belowSets {B g : Nat} {a : World} (hg : B ≤ g) : ∀ (vs : List Value) (i : Nat) (W : World), Below B a W → Below B a (W.setCells g i vs)
 | [], _, _, h => h
 | v :: r, i, W, h => belowSets hg r (i + 1) _ (h.setCell (p := ⟨g, i, none⟩) hg v)
set_option maxHeartbeats 4000000 in
set_option maxRecDepth 1000000 in
theorem DeleteFuncI.calls (g : Nat) (lb : Array Value) (p : Int → Bool) (eg : ∀ args w, (callFunc g args).run Try.prog w = .ok (.enter g args) w)
  (P0_ : Nat → Prop) (u : Value) (l0 : List Int) (w0 w : World) (hB : Below w0.heap.size w0 w) (ho0 : Kd.R (Kd.int .i64) 3 w w0.heap.size P0_ u l0)
  (hp : ∀ (W : World) (x : Int), x ∈ l0 → Below w0.heap.size w0 W → Kept w W P0_ → Calls Try.prog g (#[.int .i64 x] ++ lb) W fun e w' => e = .returned (.bool (p x)) ∧ Below W.heap.size W w') :
  Calls Try.prog 60 #[u, .func (.func g) #[] lb] w fun e w' => ∃ v0_ : Value, e = .returned v0_ ∧ Kd.R (Kd.int .i64) 3 w' w0.heap.size P0_ v0_ (l0.filter fun x => !p x) ∧ Below w0.heap.size w0 w' ∧ Kept w w' P0_ := by
 obtain ⟨A, c, e0, hc, hC⟩ := Kd.R_reads ho0
 subst e0
 have hbig : l0.length ≤ 9223372036854775807 := hC.2.1
 have HIF := Aside0.mk (IndexFuncI.calls g lb p eg A _ c l0 w rfl hC hc (fun W x hx hb => hp W x hx (hB.trans (hb.mono hB.size)) (Kept.of_below hb _)))
 have HP := Aside0.mk hp
 have HB := Aside0.mk hB
 have HO := Aside0.mk ho0
 clear hp hB
 rcases fIdxSpec p l0 with ⟨e1, hall⟩ | ⟨k0, hk0, e1, ht, hall⟩
 ·
  rw [e1] at HIF
  have hfil : (l0.filter fun x => !p x) = l0 := by have := filterAll p l0 l0.length (Nat.le_refl _) hall; rwa [List.take_length] at this
  rw [hfil]
  clear hfil hall hC ho0
  go_enter Try.func60, Try.ntmps60
  go_wp2_with (go_at_call 81; refine HIF.out.mono ?_; rintro e w1 ⟨rfl, hb⟩)
  go_ret
  exact ⟨_, rfl, Kd.R_below HO.out hb, HB.out.trans (hb.mono HB.out.size), Kept.of_below hb _⟩
 ·
  obtain ⟨gb, cap, ev, hgb, hlt, cells, hcells⟩ := Kd.R_form ho0 (by omega)
  injection ev with e2 e3 e4
  subst e2 e4
  rw [e1] at HIF
  have hPg : P0_ gb := ho0.1 gb rfl
  have HPG := Aside0.mk hPg
  have HGB := Aside0.mk hgb
  have hne1 : ((k0 : Int) == -1) = false := beq_eq_false_iff_ne.2 (by omega)
  have F0 := Aside0.mk (filterAll p l0 k0 (by omega) hall)
  have HT := Aside0.mk ht
  clear hall hC ho0 ht hgb hlt hcells hPg
  go_enter Try.func60, Try.ntmps60
  go_wp2_with (go_at_call 81; refine HIF.out.mono ?_; rintro e w1 ⟨rfl, hb⟩)
  go_loopg [5, 6, 7] l0.length (fun gg s5 s6 _ wr => ∃ (i j : Nat) (dk : List Int), s5 = .int .i64 i ∧ s6 = .int .i64 j ∧ i < j ∧ j ≤ l0.length ∧ l0.length - j ≤ gg ∧ Aside0 (Below w0.heap.size w0 wr) ∧ Aside0 (Kept w wr P0_) ∧ Aside0 (Kd.R (Kd.int .i64) 3 wr w0.heap.size P0_ (.slice (some ⟨gb, 0, none⟩) l0.length c) dk) ∧ Aside0 (dk.length = l0.length) ∧ Aside0 (dk.take i = (l0.take j).filter fun x => !p x) ∧ Aside0 (dk.drop j = l0.drop j))
  case atStart =>
   exact ⟨k0, k0 + 1, l0, rfl, by go_num, by omega, by omega, by omega, ⟨HB.out.trans (hb.mono HB.out.size)⟩, ⟨Kept.of_below hb _⟩, ⟨Kd.R_below HO.out hb⟩, ⟨rfl⟩, ⟨by rw [takeS l0 k0 hk0, List.filter_append, F0.out, List.filter_cons, HT.out]; simp⟩, ⟨rfl⟩⟩
  case round =>
   obtain ⟨i, j, dk, rfl, rfl, hij, hj, hg, BW, KW, RW, DL, TK, DR⟩ := hrel
   have hf : ∀ t, t < l0.length → wr.cell? ⟨gb, t, none⟩ = some (.int .i64 (dk.getD t 0)) ∧ wr.frozen? ⟨gb, t, none⟩ = false := fun t ht => by
    have := Kd.R_celln 0 RW.out (t : Int) (by omega) (by omega)
    rw [Int.toNat_natCast] at this
    exact this
   by_cases hlt : j < l0.length
   ·
    have hltz : (j : Int) < (l0.length : Int) := by omega
    obtain ⟨cj, fj⟩ := hf j hlt
    obtain ⟨ci, fi⟩ := hf i (by omega)
    rw [dropAt DR.out] at cj
    have hcall := HP.out wr (l0.getD j 0) (by rw [Gen.getD_lt l0 0 j hlt]; exact List.getElem_mem hlt) BW.out KW.out
    have TS := Aside0.mk (takeS l0 j hlt)
    generalize hy : l0.getD j 0 = y at cj hcall TS
    clear hy hf
    generalize dk.getD i 0 = old at ci
    have hbk : gb < wr.heap.size := World.block_lt_of_cell? wr _ ci
    cases hq : p y with
    | false =>
     rw [hq] at hcall
     go_wp2_with (go_at_fn g; refine hcall.mono ?_; rintro e w2 ⟨rfl, hb2⟩; replace ci := (hb2.cell (p := ⟨gb, i, none⟩) hbk).trans ci; replace fi := (World.frozen?_of_block (a := ⟨gb, i, none⟩) (hb2.block gb hbk)).trans fi)
     go_roundg (l0.length - (j + 1))
     case measure => omega
     case rel =>
      have RW2 := Kd.R_putn (Kd.R_below RW.out hb2) (i : Int) y
      rw [Int.toNat_natCast] at RW2
      refine ⟨i + 1, j + 1, dk.set i y, by go_num, by go_num, by omega, by omega, by omega, ⟨(BW.out.trans (hb2.mono BW.out.size)).setCell (p := ⟨gb, i, none⟩) HGB.out _⟩, ⟨keptSet (KW.out.then_ (Kept.of_below hb2 (fun _ => False)) (fun _ h => h.elim)) HPG.out _ _⟩, ⟨RW2⟩, ⟨by rw [List.length_set]; exact DL.out⟩, ⟨?_⟩, ⟨by rw [setDrop dk i (j + 1) y (by omega)]; exact dropS DR.out⟩⟩
      rw [setTake dk i y (by have := DL.out; omega), TK.out, TS.out, List.filter_append]
      simp [hq]
    | true =>
     rw [hq] at hcall
     go_wp2_with (go_at_fn g; refine hcall.mono ?_; rintro e w2 ⟨rfl, hb2⟩)
     go_roundg (l0.length - (j + 1))
     case measure => omega
     case rel =>
      exact ⟨i, j + 1, dk, rfl, by go_num, by omega, by omega, by omega, ⟨BW.out.trans (hb2.mono BW.out.size)⟩, ⟨KW.out.then_ (Kept.of_below hb2 (fun _ => False)) (fun _ h => h.elim)⟩, ⟨Kd.R_below RW.out hb2⟩, DL, ⟨by rw [TS.out, List.filter_append, ← TK.out]; simp [hq]⟩, ⟨dropS DR.out⟩⟩
   ·
    have : j = l0.length := by omega
    subst this
    have hltz : ¬ (l0.length : Int) < (l0.length : Int) := by omega
    have hcl : ∀ ty, (Builtin.clear_ #[22] ty #[.slice (some ⟨gb, i, none⟩) (l0.length - i) (c - i)]).run Try.prog wr = .ok (.tuple #[]) (wr.setCells gb i (List.replicate (l0.length - i) (.int .i64 0))) := fun ty => Lib.run_clear_slice wr 22 3 ty (.int .i64 0) Try.underlying22 Try.zeroValue3 rfl rfl gb i _ _ (by omega) (fun t ht => by rw [(hf (i + t) (by omega)).1]; rfl) (fun t ht => (hf (i + t) (by omega)).2)
    clear hf
    go_wp2
    go_ret
    obtain ⟨dk', f1, f2, f3⟩ := clearI (l0.length - i) i wr dk RW.out
    refine ⟨_, rfl, ?_, belowSets HGB.out _ _ _ BW.out, keptSets HPG.out _ _ _ KW.out⟩
    have h3 := Kd.R_take f3 (m := i) (by rw [f1, DL.out]; omega)
    rw [f2, TK.out, List.take_length] at h3
    exact h3
def seenN (p : Int → Bool) (l : List Int) : Nat := if Gen.fIdx p l < 0 then l.length else (Gen.fIdx p l).toNat + 1
theorem splitAt1 (l : List Int) (j : Nat) (hj : j < l.length) : l = l.take j ++ l.getD j 0 :: l.drop (j + 1) := by
 rw [Gen.getD_lt l 0 j hj, ← List.drop_eq_getElem_cons hj, List.take_append_drop]
theorem IndexFuncJ.calls (g : Nat) (lb : Array Value) (p : Int → Bool) (eg : ∀ args w, (callFunc g args).run Try.prog w = .ok (.enter g args) w)
  (P0_ Q : Nat → Prop) (hPQ : ∀ k, P0_ k → ¬ Q k) (J : List Int → World → Prop) (A0 : Option Addr) (c0 : Nat) (l0 : List Int) (w0 w : World) (hB : Below w0.heap.size w0 w)
  (ho0 : Kd.R (Kd.int .i64) 3 w w0.heap.size P0_ (.slice A0 l0.length c0) l0) (hj : J [] w)
  (hp : ∀ (pre : List Int) (x : Int) (post : List Int) (W : World), l0 = pre ++ x :: post → Below w0.heap.size w0 W → J pre W → Calls Try.prog g (#[.int .i64 x] ++ lb) W fun e w' => e = .returned (.bool (p x)) ∧ J (pre ++ [x]) w' ∧ Below w0.heap.size w0 w' ∧ Kept W w' Q) :
  Calls Try.prog 81 #[.slice A0 l0.length c0, .func (.func g) #[] lb] w fun e w' => e = .returned (.int .i64 (Gen.fIdx p l0)) ∧ J (l0.take (seenN p l0)) w' ∧ Below w0.heap.size w0 w' ∧ Kept w w' Q := by
 have HO := Aside0.mk ho0
 have HP := Aside0.mk hp
 have HB := Aside0.mk hB
 have HJ := Aside0.mk hj
 have HPQ := Aside0.mk hPQ
 have hbig : l0.length ≤ 9223372036854775807 := ((Kd.R_reads' ho0).2.2).2.1
 clear ho0 hp hB hj hPQ
 go_enter Try.func81, Try.ntmps81
 go_wp2
 go_loopg [5, 8] l0.length (fun gg _ s8 wr => ∃ kk : Nat, kk ≤ l0.length ∧ l0.length - kk ≤ gg ∧ s8 = .int .i64 kk ∧ Aside0 (Below w0.heap.size w0 wr) ∧ Aside0 (Kept w wr Q) ∧ Aside0 (J (l0.take kk) wr) ∧ Aside0 (∀ j, j < kk → p (l0.getD j 0) = false))
 case atStart => exact ⟨0, Nat.zero_le _, by omega, rfl, HB, ⟨Kept.refl _ _⟩, HJ, ⟨fun j hj => absurd hj (Nat.not_lt_zero _)⟩⟩
 case round =>
  obtain ⟨kk, hkk, hg, rfl, BW, KW, JW, AN⟩ := hrel
  by_cases hlt : kk < l0.length
  ·
   have hltz : (kk : Int) < (l0.length : Int) := by omega
   obtain ⟨ad, e0, hx0⟩ := Kd.at_int (Kd.R_reads' (Kd.R_kept HO.out KW.out HPQ.out)).2.2 (kk : Int) (by omega) hltz
   cases e0
   rw [show rd l0 (kk : Int) = l0.getD kk 0 from rfl, Int.toNat_natCast] at hx0
   have hcall := HP.out (l0.take kk) (l0.getD kk 0) (l0.drop (kk + 1)) wr (splitAt1 l0 kk hlt) BW.out JW.out
   rw [← takeS l0 kk hlt] at hcall
   generalize hy : l0.getD kk 0 = y at hx0 hcall
   have B := Aside0.mk hy
   clear hy
   cases hq : p y with
   | true =>
    rw [hq] at hcall
    go_wp2_with (go_at_fn g; refine hcall.mono ?_; rintro e w' ⟨rfl, hj', hb', hk'⟩)
    go_ret
    have e1 := Gen.fIdx_hit p l0 0 kk hlt (by rw [B.out]; exact hq) AN.out
    refine ⟨by rw [e1]; rfl, ?_, hb', KW.out.then_ hk' (fun _ h => .inl h)⟩
    have e2 : seenN p l0 = kk + 1 := by
     unfold seenN
     rw [e1, if_neg (by omega), Int.toNat_natCast]
    rw [e2]
    exact hj'
   | false =>
    rw [hq] at hcall
    go_wp2_with (go_at_fn g; refine hcall.mono ?_; rintro e w' ⟨rfl, hj', hb', hk'⟩)
    go_roundg (l0.length - (kk + 1))
    case measure => omega
    case rel =>
     refine ⟨kk + 1, by omega, by omega, by go_num, ⟨hb'⟩, ⟨KW.out.then_ hk' (fun _ h => .inl h)⟩, ⟨hj'⟩, ⟨fun j hj => ?_⟩⟩
     by_cases e : j = kk
     ·
      subst e
      rw [B.out]; exact hq
     ·
      exact AN.out j (by omega)
  ·
   have hltz : ¬ (kk : Int) < (l0.length : Int) := by omega
   have hkl : kk = l0.length := by omega
   subst hkl
   go_wp2
   go_ret
   have e1 := Gen.fIdx_miss p l0 0 AN.out
   refine ⟨by rw [e1]; rfl, ?_, BW.out, KW.out⟩
   have e2 : seenN p l0 = l0.length := by
    unfold seenN
    rw [e1, if_pos (by decide)]
   rw [e2]
   exact JW.out
theorem jSets {J : World → Prop} {g : Nat} (hs : ∀ W i v, J W → J (W.setCell ⟨g, i, none⟩ v)) : ∀ (vs : List Value) (i : Nat) (W : World), J W → J (W.setCells g i vs)
 | [], _, _, h => h
 | v :: r, i, W, h => jSets hs r (i + 1) _ (hs W i v h)
set_option maxHeartbeats 4000000 in
set_option maxRecDepth 1000000 in
theorem DeleteFuncJ.calls (g : Nat) (lb : Array Value) (p : Int → Bool) (eg : ∀ args w, (callFunc g args).run Try.prog w = .ok (.enter g args) w)
  (P0_ Q : Nat → Prop) (hPQ : ∀ k, P0_ k → ¬ Q k) (J : List Int → World → Prop) (hJs : ∀ pre W gb i v, P0_ gb → J pre W → J pre (W.setCell ⟨gb, i, none⟩ v)) (u : Value) (l0 : List Int) (w0 w : World) (hB : Below w0.heap.size w0 w)
  (ho0 : Kd.R (Kd.int .i64) 3 w w0.heap.size P0_ u l0) (hj : J [] w)
  (hp : ∀ (pre : List Int) (x : Int) (post : List Int) (W : World), l0 = pre ++ x :: post → Below w0.heap.size w0 W → J pre W → Calls Try.prog g (#[.int .i64 x] ++ lb) W fun e w' => e = .returned (.bool (p x)) ∧ J (pre ++ [x]) w' ∧ Below w0.heap.size w0 w' ∧ Kept W w' Q) :
  Calls Try.prog 60 #[u, .func (.func g) #[] lb] w fun e w' => ∃ v0_ : Value, e = .returned v0_ ∧ Kd.R (Kd.int .i64) 3 w' w0.heap.size P0_ v0_ (l0.filter fun x => !p x) ∧ J l0 w' ∧ Below w0.heap.size w0 w' ∧ Kept w w' (fun k => P0_ k ∨ Q k) := by
 obtain ⟨A, c, e0, hc, hC⟩ := Kd.R_reads ho0
 subst e0
 have hbig : l0.length ≤ 9223372036854775807 := hC.2.1
 have HIF := Aside0.mk (IndexFuncJ.calls g lb p eg P0_ Q hPQ J A c l0 w0 w hB ho0 hj hp)
 have HP := Aside0.mk hp
 have HB := Aside0.mk hB
 have HO := Aside0.mk ho0
 have HPQ := Aside0.mk hPQ
 have HJS := Aside0.mk hJs
 clear hp hB hPQ hJs hj
 rcases fIdxSpec p l0 with ⟨e1, hall⟩ | ⟨k0, hk0, e1, ht, hall⟩
 ·
  have e2 : seenN p l0 = l0.length := by
   unfold seenN
   rw [e1, if_pos (by decide)]
  rw [e1, e2, List.take_length] at HIF
  have hfil : (l0.filter fun x => !p x) = l0 := by have := filterAll p l0 l0.length (Nat.le_refl _) hall; rwa [List.take_length] at this
  rw [hfil]
  clear hfil hall hC ho0
  go_enter Try.func60, Try.ntmps60
  go_wp2_with (go_at_call 81; refine HIF.out.mono ?_; rintro e w1 ⟨rfl, hj1, hb1, hk1⟩)
  go_ret
  exact ⟨_, rfl, Kd.R_kept HO.out hk1 HPQ.out, hj1, hb1, hk1.mono (fun _ h => .inr h)⟩
 ·
  obtain ⟨gb, cap, ev, hgb, hlt, cells, hcells⟩ := Kd.R_form ho0 (by omega)
  injection ev with e2 e3 e4
  subst e2 e4
  have e5 : seenN p l0 = k0 + 1 := by
   unfold seenN
   rw [e1, if_neg (by omega), Int.toNat_natCast]
  rw [e1, e5] at HIF
  have hPg : P0_ gb := ho0.1 gb rfl
  have HPG := Aside0.mk hPg
  have HGB := Aside0.mk hgb
  have hne1 : ((k0 : Int) == -1) = false := beq_eq_false_iff_ne.2 (by omega)
  have F0 := Aside0.mk (filterAll p l0 k0 (by omega) hall)
  have HT := Aside0.mk ht
  clear hall hC ho0 ht hgb hlt hcells hPg
  go_enter Try.func60, Try.ntmps60
  go_wp2_with (go_at_call 81; refine HIF.out.mono ?_; rintro e w1 ⟨rfl, hj1, hb1, hk1⟩)
  go_loopg [5, 6, 7] l0.length (fun gg s5 s6 _ wr => ∃ (i j : Nat) (dk : List Int), s5 = .int .i64 i ∧ s6 = .int .i64 j ∧ i < j ∧ j ≤ l0.length ∧ l0.length - j ≤ gg ∧ Aside0 (Below w0.heap.size w0 wr) ∧ Aside0 (Kept w wr (fun k => P0_ k ∨ Q k)) ∧ Aside0 (Kd.R (Kd.int .i64) 3 wr w0.heap.size P0_ (.slice (some ⟨gb, 0, none⟩) l0.length c) dk) ∧ Aside0 (dk.length = l0.length) ∧ Aside0 (dk.take i = (l0.take j).filter (fun x => !p x)) ∧ Aside0 (dk.drop j = l0.drop j) ∧ Aside0 (J (l0.take j) wr))
  case atStart =>
   exact ⟨k0, k0 + 1, l0, rfl, by go_num, by omega, by omega, by omega, ⟨hb1⟩, ⟨hk1.mono (fun _ h => .inr h)⟩, ⟨Kd.R_kept HO.out hk1 HPQ.out⟩, ⟨rfl⟩, ⟨by rw [takeS l0 k0 hk0, List.filter_append, F0.out, List.filter_cons, HT.out]; simp⟩, ⟨rfl⟩, ⟨hj1⟩⟩
  case round =>
   obtain ⟨i, j, dk, rfl, rfl, hij, hj, hg, BW, KW, RW, DL, TK, DR, JW⟩ := hrel
   have hf : ∀ t, t < l0.length → wr.cell? ⟨gb, t, none⟩ = some (.int .i64 (dk.getD t 0)) ∧ wr.frozen? ⟨gb, t, none⟩ = false := fun t ht => by
    have := Kd.R_celln 0 RW.out (t : Int) (by omega) (by omega)
    rw [Int.toNat_natCast] at this
    exact this
   by_cases hlt : j < l0.length
   ·
    have hltz : (j : Int) < (l0.length : Int) := by omega
    obtain ⟨cj, fj⟩ := hf j hlt
    obtain ⟨ci, fi⟩ := hf i (by omega)
    rw [dropAt DR.out] at cj
    have hcall := HP.out (l0.take j) (l0.getD j 0) (l0.drop (j + 1)) wr (splitAt1 l0 j hlt) BW.out JW.out
    rw [← takeS l0 j hlt] at hcall
    have TS := Aside0.mk (takeS l0 j hlt)
    generalize hy : l0.getD j 0 = y at cj hcall TS
    clear hy hf
    generalize dk.getD i 0 = old at ci
    have hbk : gb < wr.heap.size := World.block_lt_of_cell? wr _ ci
    have hnq : ¬ Q gb := HPQ.out gb HPG.out
    cases hq : p y with
    | false =>
     rw [hq] at hcall
     go_wp2_with (go_at_fn g; refine hcall.mono ?_; rintro e w2 ⟨rfl, hj2, hb2, hk2⟩; replace ci := cell_kept ci hk2 hnq; replace fi := (World.frozen?_of_block (a := ⟨gb, i, none⟩) (hk2.2 gb hbk hnq)).trans fi)
     go_roundg (l0.length - (j + 1))
     case measure => omega
     case rel =>
      have RW2 := Kd.R_putn (Kd.R_kept RW.out hk2 HPQ.out) (i : Int) y
      rw [Int.toNat_natCast] at RW2
      refine ⟨i + 1, j + 1, dk.set i y, by go_num, by go_num, by omega, by omega, by omega, ⟨hb2.setCell (p := ⟨gb, i, none⟩) HGB.out _⟩, ⟨keptSet (KW.out.then_ hk2 (fun _ h => .inl (.inr h))) (.inl HPG.out) _ _⟩, ⟨RW2⟩, ⟨by rw [List.length_set]; exact DL.out⟩, ⟨?_⟩, ⟨?_⟩, ⟨HJS.out _ _ _ _ _ HPG.out hj2⟩⟩
      ·
       rw [setTake dk i y (by have := DL.out; omega), TK.out, TS.out, List.filter_append]
       simp [hq]
      ·
       rw [setDrop dk i (j + 1) y (by omega)]
       exact dropS DR.out
    | true =>
     rw [hq] at hcall
     go_wp2_with (go_at_fn g; refine hcall.mono ?_; rintro e w2 ⟨rfl, hj2, hb2, hk2⟩)
     go_roundg (l0.length - (j + 1))
     case measure => omega
     case rel =>
      exact ⟨i, j + 1, dk, rfl, by go_num, by omega, by omega, by omega, ⟨hb2⟩, ⟨KW.out.then_ hk2 (fun _ h => .inl (.inr h))⟩, ⟨Kd.R_kept RW.out hk2 HPQ.out⟩, DL, ⟨by rw [TS.out, List.filter_append, ← TK.out]; simp [hq]⟩, ⟨dropS DR.out⟩, ⟨hj2⟩⟩
   ·
    have hjl : j = l0.length := by omega
    subst hjl
    have hltz : ¬ (l0.length : Int) < (l0.length : Int) := by omega
    have hcl : ∀ ty, (Builtin.clear_ #[22] ty #[.slice (some ⟨gb, i, none⟩) (l0.length - i) (c - i)]).run Try.prog wr = .ok (.tuple #[]) (wr.setCells gb i (List.replicate (l0.length - i) (.int .i64 0))) := fun ty => Lib.run_clear_slice wr 22 3 ty (.int .i64 0) Try.underlying22 Try.zeroValue3 rfl rfl gb i _ _ (by omega) (fun t ht => by rw [(hf (i + t) (by omega)).1]; rfl) (fun t ht => (hf (i + t) (by omega)).2)
    clear hf
    go_wp2
    go_ret
    obtain ⟨dk', f1, f2, f3⟩ := clearI (l0.length - i) i wr dk RW.out
    refine ⟨_, rfl, ?_, ?_, belowSets HGB.out _ _ _ BW.out, keptSets (.inl HPG.out) _ _ _ KW.out⟩
    ·
     have h3 := Kd.R_take f3 (m := i) (by rw [f1, DL.out]; omega)
     rw [f2, TK.out, List.take_length] at h3
     exact h3
    ·
     have := JW.out
     rw [List.take_length] at this
     exact jSets (fun W i v h => HJS.out _ _ _ _ _ HPG.out h) _ _ _ this
def RowAt (W : World) (gb off : Nat) (l : List Int) : Prop := ∃ cs : Array Value, W.heap[gb]? = some (.cells cs 3 (0, 0)) ∧ ∀ t, t < l.length → cs[off + t]? = some (.int .i64 (l.getD t 0))
theorem RowAt.cell {W : World} {gb off : Nat} {l : List Int} (h : RowAt W gb off l) {t : Nat} (ht : t < l.length) : W.cell? ⟨gb, off + t, none⟩ = some (.int .i64 (l.getD t 0)) ∧ W.frozen? ⟨gb, off + t, none⟩ = false := by
 obtain ⟨cs, hb, hc⟩ := h
 exact ⟨(blk_cell hb (off + t)).trans (hc t ht), blk_frozen hb (off + t)⟩
theorem RowAt.lt {W : World} {gb off : Nat} {l : List Int} (h : RowAt W gb off l) : gb < W.heap.size := by
 obtain ⟨cs, hb, _⟩ := h
 exact blk_lt hb
theorem RowAt.kept {W W2 : World} {gb off : Nat} {l : List Int} {Q : Nat → Prop} (h : RowAt W gb off l) (hk : Kept W W2 Q) (hn : ¬ Q gb) : RowAt W2 gb off l := by
 obtain ⟨cs, hb, hc⟩ := h
 exact ⟨cs, blk_kept hb hk hn, hc⟩
theorem RowAt.set {W : World} {gb off : Nat} {l : List Int} (h : RowAt W gb off l) {i : Nat} (hi : i < l.length) (y : Int) : RowAt (W.setCell ⟨gb, off + i, none⟩ (.int .i64 y)) gb off (l.set i y) := by
 obtain ⟨cs, hb, hc⟩ := h
 refine ⟨_, blk_set hb (off + i) (.int .i64 y), fun t ht => ?_⟩
 rw [List.length_set] at ht
 have hin := (Array.getElem?_eq_some_iff.1 (hc i hi)).1
 rw [Array.getElem?_setIfInBounds]
 by_cases e : i = t
 ·
  subst e
  rw [if_pos rfl, if_pos hin, List.getD_eq_getElem?_getD, List.getElem?_set_self hi]
  rfl
 ·
  rw [if_neg (by omega), hc t ht, List.getD_eq_getElem?_getD, List.getD_eq_getElem?_getD, List.getElem?_set_ne e]
theorem RowAt.past {W : World} {gb off m : Nat} {l : List Int} (h : RowAt W gb off l) (hl : l.length ≤ m) (j : Nat) (hj : off + m ≤ j) (v : Value) : RowAt (W.setCell ⟨gb, j, none⟩ v) gb off l := by
 obtain ⟨cs, hb, hc⟩ := h
 refine ⟨_, blk_set hb j v, fun t ht => ?_⟩
 rw [Array.getElem?_setIfInBounds, if_neg (by omega)]
 exact hc t ht
theorem RowAt.pasts {gb off m : Nat} {l : List Int} (hl : l.length ≤ m) : ∀ (vs : List Value) (j : Nat) (W : World), off + m ≤ j → RowAt W gb off l → RowAt (W.setCells gb j vs) gb off l
 | [], _, _, _, h => h
 | v :: r, j, W, hj, h => RowAt.pasts hl r (j + 1) _ (by omega) (h.past hl j hj v)
theorem RowAt.take {W : World} {gb off : Nat} {l : List Int} (h : RowAt W gb off l) (m : Nat) : RowAt W gb off (l.take m) := by
 obtain ⟨cs, hb, hc⟩ := h
 refine ⟨cs, hb, fun t ht => ?_⟩
 rw [List.length_take] at ht
 rw [hc t (by omega), List.getD_eq_getElem?_getD, List.getD_eq_getElem?_getD, List.getElem?_take_of_lt (by omega)]
theorem RowAt.tail {W : World} {gb off : Nat} {x : Int} {l : List Int} (h : RowAt W gb off (x :: l)) : RowAt W gb (off + 1) l := by
 obtain ⟨cs, hb, hc⟩ := h
 refine ⟨cs, hb, fun t ht => ?_⟩
 have := hc (t + 1) (by rw [List.length_cons]; omega)
 rw [show off + 1 + t = off + (t + 1) by omega, this]
 rfl
theorem IndexFuncA.calls (g : Nat) (lb : Array Value) (p : Int → Bool) (eg : ∀ args w, (callFunc g args).run Try.prog w = .ok (.enter g args) w)
  (Q : Nat → Prop) (J : List Int → World → Prop) (gb off c0 : Nat) (l0 : List Int) (w0 w : World) (hQ : ¬ Q gb) (hB : Below w0.heap.size w0 w)
  (ho0 : RowAt w gb off l0) (hbig : l0.length ≤ 1000000) (hj : J [] w)
  (hp : ∀ (pre : List Int) (x : Int) (post : List Int) (W : World), l0 = pre ++ x :: post → Below w0.heap.size w0 W → J pre W → Calls Try.prog g (#[.int .i64 x] ++ lb) W fun e w' => e = .returned (.bool (p x)) ∧ J (pre ++ [x]) w' ∧ Below w0.heap.size w0 w' ∧ Kept W w' Q) :
  Calls Try.prog 81 #[.slice (some ⟨gb, off, none⟩) l0.length c0, .func (.func g) #[] lb] w fun e w' => e = .returned (.int .i64 (Gen.fIdx p l0)) ∧ J (l0.take (seenN p l0)) w' ∧ Below w0.heap.size w0 w' ∧ Kept w w' Q := by
 have HO := Aside0.mk ho0
 have HP := Aside0.mk hp
 have HB := Aside0.mk hB
 have HJ := Aside0.mk hj
 clear ho0 hp hB hj
 go_enter Try.func81, Try.ntmps81
 go_wp2
 go_loopg [5, 8] l0.length (fun gg _ s8 wr => ∃ kk : Nat, kk ≤ l0.length ∧ l0.length - kk ≤ gg ∧ s8 = .int .i64 kk ∧ Aside0 (Below w0.heap.size w0 wr) ∧ Aside0 (Kept w wr Q) ∧ Aside0 (J (l0.take kk) wr) ∧ Aside0 (∀ j, j < kk → p (l0.getD j 0) = false))
 case atStart => exact ⟨0, Nat.zero_le _, by omega, rfl, HB, ⟨Kept.refl _ _⟩, HJ, ⟨fun j hj => absurd hj (Nat.not_lt_zero _)⟩⟩
 case round =>
  obtain ⟨kk, hkk, hg, rfl, BW, KW, JW, AN⟩ := hrel
  by_cases hlt : kk < l0.length
  ·
   have hltz : (kk : Int) < (l0.length : Int) := by omega
   have hx0 := ((HO.out.kept KW.out hQ).cell hlt).1
   have hcall := HP.out (l0.take kk) (l0.getD kk 0) (l0.drop (kk + 1)) wr (splitAt1 l0 kk hlt) BW.out JW.out
   rw [← takeS l0 kk hlt] at hcall
   generalize hy : l0.getD kk 0 = y at hx0 hcall
   have B := Aside0.mk hy
   clear hy
   cases hq : p y with
   | true =>
    rw [hq] at hcall
    go_wp2_with (go_at_fn g; refine hcall.mono ?_; rintro e w' ⟨rfl, hj', hb', hk'⟩)
    go_ret
    have e1 := Gen.fIdx_hit p l0 0 kk hlt (by rw [B.out]; exact hq) AN.out
    refine ⟨by rw [e1]; rfl, ?_, hb', KW.out.then_ hk' (fun _ h => .inl h)⟩
    have e2 : seenN p l0 = kk + 1 := by
     unfold seenN
     rw [e1, if_neg (by omega), Int.toNat_natCast]
    rw [e2]
    exact hj'
   | false =>
    rw [hq] at hcall
    go_wp2_with (go_at_fn g; refine hcall.mono ?_; rintro e w' ⟨rfl, hj', hb', hk'⟩)
    go_roundg (l0.length - (kk + 1))
    case measure => omega
    case rel =>
     refine ⟨kk + 1, by omega, by omega, by go_num, ⟨hb'⟩, ⟨KW.out.then_ hk' (fun _ h => .inl h)⟩, ⟨hj'⟩, ⟨fun j hj => ?_⟩⟩
     by_cases e : j = kk
     ·
      subst e
      rw [B.out]; exact hq
     ·
      exact AN.out j (by omega)
  ·
   have hltz : ¬ (kk : Int) < (l0.length : Int) := by omega
   have hkl : kk = l0.length := by omega
   subst hkl
   go_wp2
   go_ret
   have e1 := Gen.fIdx_miss p l0 0 AN.out
   refine ⟨by rw [e1]; rfl, ?_, BW.out, KW.out⟩
   have e2 : seenN p l0 = l0.length := by
    unfold seenN
    rw [e1, if_pos (by decide)]
   rw [e2]
   exact JW.out
set_option maxHeartbeats 4000000 in
set_option maxRecDepth 1000000 in
theorem DeleteFuncA.calls (g : Nat) (lb : Array Value) (p : Int → Bool) (eg : ∀ args w, (callFunc g args).run Try.prog w = .ok (.enter g args) w)
  (Q : Nat → Prop) (J : List Int → World → Prop) (gb off c : Nat) (l0 : List Int) (w0 w : World) (hQ : ¬ Q gb) (hgb : w0.heap.size ≤ gb) (hc : l0.length ≤ c) (hJs : ∀ pre W i v, J pre W → J pre (W.setCell ⟨gb, i, none⟩ v)) (hB : Below w0.heap.size w0 w)
  (ho0 : RowAt w gb off l0) (hbig : l0.length ≤ 1000000) (hoff : off ≤ 1000000) (hj : J [] w)
  (hp : ∀ (pre : List Int) (x : Int) (post : List Int) (W : World), l0 = pre ++ x :: post → Below w0.heap.size w0 W → J pre W → Calls Try.prog g (#[.int .i64 x] ++ lb) W fun e w' => e = .returned (.bool (p x)) ∧ J (pre ++ [x]) w' ∧ Below w0.heap.size w0 w' ∧ Kept W w' Q) :
  Calls Try.prog 60 #[.slice (some ⟨gb, off, none⟩) l0.length c, .func (.func g) #[] lb] w fun e w' => e = .returned (.slice (some ⟨gb, off, none⟩) (l0.filter fun x => !p x).length c) ∧ RowAt w' gb off (l0.filter fun x => !p x) ∧ J l0 w' ∧ Below w0.heap.size w0 w' ∧ Kept w w' (fun k => k = gb ∨ Q k) := by
 have HIF := Aside0.mk (IndexFuncA.calls g lb p eg Q J gb off c l0 w0 w hQ hB ho0 hbig hj hp)
 have HP := Aside0.mk hp
 have HB := Aside0.mk hB
 have HO := Aside0.mk ho0
 have HJS := Aside0.mk hJs
 have HGB := Aside0.mk hgb
 clear hp hB hJs hj
 rcases fIdxSpec p l0 with ⟨e1, hall⟩ | ⟨k0, hk0, e1, ht, hall⟩
 ·
  have e2 : seenN p l0 = l0.length := by
   unfold seenN
   rw [e1, if_pos (by decide)]
  rw [e1, e2, List.take_length] at HIF
  have hfil : (l0.filter fun x => !p x) = l0 := by have := filterAll p l0 l0.length (Nat.le_refl _) hall; rwa [List.take_length] at this
  rw [hfil]
  clear hfil hall ho0
  go_enter Try.func60, Try.ntmps60
  go_wp2_with (go_at_call 81; refine HIF.out.mono ?_; rintro e w1 ⟨rfl, hj1, hb1, hk1⟩)
  go_ret
  exact ⟨rfl, HO.out.kept hk1 hQ, hj1, hb1, hk1.mono (fun _ h => .inr h)⟩
 ·
  have e5 : seenN p l0 = k0 + 1 := by
   unfold seenN
   rw [e1, if_neg (by omega), Int.toNat_natCast]
  rw [e1, e5] at HIF
  have hne1 : ((k0 : Int) == -1) = false := beq_eq_false_iff_ne.2 (by omega)
  have F0 := Aside0.mk (filterAll p l0 k0 (by omega) hall)
  have HT := Aside0.mk ht
  clear hall ho0 ht hgb
  go_enter Try.func60, Try.ntmps60
  go_wp2_with (go_at_call 81; refine HIF.out.mono ?_; rintro e w1 ⟨rfl, hj1, hb1, hk1⟩)
  go_loopg [5, 6, 7] l0.length (fun gg s5 s6 _ wr => ∃ (i j : Nat) (dk : List Int), s5 = .int .i64 i ∧ s6 = .int .i64 j ∧ i < j ∧ j ≤ l0.length ∧ l0.length - j ≤ gg ∧ Aside0 (Below w0.heap.size w0 wr) ∧ Aside0 (Kept w wr (fun k => k = gb ∨ Q k)) ∧ Aside0 (RowAt wr gb off dk) ∧ Aside0 (dk.length = l0.length) ∧ Aside0 (dk.take i = (l0.take j).filter (fun x => !p x)) ∧ Aside0 (dk.drop j = l0.drop j) ∧ Aside0 (J (l0.take j) wr))
  case atStart =>
   exact ⟨k0, k0 + 1, l0, rfl, by go_num, by omega, by omega, by omega, ⟨hb1⟩, ⟨hk1.mono (fun _ h => .inr h)⟩, ⟨HO.out.kept hk1 hQ⟩, ⟨rfl⟩, ⟨by rw [takeS l0 k0 hk0, List.filter_append, F0.out, List.filter_cons, HT.out]; simp⟩, ⟨rfl⟩, ⟨hj1⟩⟩
  case round =>
   obtain ⟨i, j, dk, rfl, rfl, hij, hj, hg, BW, KW, RW, DL, TK, DR, JW⟩ := hrel
   by_cases hlt : j < l0.length
   ·
    have hltz : (j : Int) < (l0.length : Int) := by omega
    obtain ⟨cj, fj⟩ := RW.out.cell (t := j) (by have := DL.out; omega)
    obtain ⟨ci, fi⟩ := RW.out.cell (t := i) (by have := DL.out; omega)
    rw [dropAt DR.out] at cj
    have hcall := HP.out (l0.take j) (l0.getD j 0) (l0.drop (j + 1)) wr (splitAt1 l0 j hlt) BW.out JW.out
    rw [← takeS l0 j hlt] at hcall
    have TS := Aside0.mk (takeS l0 j hlt)
    generalize hy : l0.getD j 0 = y at cj hcall TS
    clear hy
    generalize dk.getD i 0 = old at ci
    have hbk : gb < wr.heap.size := World.block_lt_of_cell? wr _ ci
    cases hq : p y with
    | false =>
     rw [hq] at hcall
     go_wp2_with (go_at_fn g; refine hcall.mono ?_; rintro e w2 ⟨rfl, hj2, hb2, hk2⟩; replace ci := cell_kept ci hk2 hQ; replace fi := (World.frozen?_of_block (a := ⟨gb, off + i, none⟩) (hk2.2 gb hbk hQ)).trans fi)
     go_roundg (l0.length - (j + 1))
     case measure => omega
     case rel =>
      refine ⟨i + 1, j + 1, dk.set i y, by go_num, by go_num, by omega, by omega, by omega, ⟨hb2.setCell (p := ⟨gb, off + i, none⟩) HGB.out _⟩, ⟨keptSet (KW.out.then_ hk2 (fun _ h => .inl (.inr h))) (.inl rfl) _ _⟩, ⟨(RW.out.kept hk2 hQ).set (by have := DL.out; omega) y⟩, ⟨by rw [List.length_set]; exact DL.out⟩, ⟨?_⟩, ⟨?_⟩, ⟨HJS.out _ _ _ _ hj2⟩⟩
      ·
       rw [setTake dk i y (by have := DL.out; omega), TK.out, TS.out, List.filter_append]
       simp [hq]
      ·
       rw [setDrop dk i (j + 1) y (by omega)]
       exact dropS DR.out
    | true =>
     rw [hq] at hcall
     go_wp2_with (go_at_fn g; refine hcall.mono ?_; rintro e w2 ⟨rfl, hj2, hb2, hk2⟩)
     go_roundg (l0.length - (j + 1))
     case measure => omega
     case rel =>
      exact ⟨i, j + 1, dk, rfl, by go_num, by omega, by omega, by omega, ⟨hb2⟩, ⟨KW.out.then_ hk2 (fun _ h => .inl (.inr h))⟩, ⟨RW.out.kept hk2 hQ⟩, DL, ⟨by rw [TS.out, List.filter_append, ← TK.out]; simp [hq]⟩, ⟨dropS DR.out⟩, ⟨hj2⟩⟩
   ·
    have hjl : j = l0.length := by omega
    subst hjl
    have hltz : ¬ (l0.length : Int) < (l0.length : Int) := by omega
    have hcl : ∀ ty, (Builtin.clear_ #[22] ty #[.slice (some ⟨gb, off + i, none⟩) (l0.length - i) (c - i)]).run Try.prog wr = .ok (.tuple #[]) (wr.setCells gb (off + i) (List.replicate (l0.length - i) (.int .i64 0))) := fun ty => Lib.run_clear_slice wr 22 3 ty (.int .i64 0) Try.underlying22 Try.zeroValue3 rfl rfl gb (off + i) _ _ (by omega) (fun t ht => by rw [Nat.add_assoc, (RW.out.cell (t := i + t) (by have := DL.out; omega)).1]; rfl) (fun t ht => by rw [Nat.add_assoc]; exact (RW.out.cell (t := i + t) (by have := DL.out; omega)).2)
    go_wp2
    go_ret
    have e6 : (l0.filter fun x => !p x) = dk.take i := by rw [TK.out, List.take_length]
    have e7 : (dk.take i).length = i := by rw [List.length_take]; have := DL.out; omega
    rw [e6, e7]
    refine ⟨rfl, RowAt.pasts (m := i) (by omega) _ _ _ (Nat.le_refl _) (RW.out.take i), ?_, belowSets HGB.out _ _ _ BW.out, keptSets (.inl rfl) _ _ _ KW.out⟩
    have := JW.out
    rw [List.take_length] at this
    exact jSets (fun W i v h => HJS.out _ _ _ _ h) _ _ _ this
def impl_absOf.f (a0 : Int) : Option (Int) := if a0 < 0 then (some (wrap64 (-a0))) else (some a0)
set_option maxHeartbeats 8000000 in
set_option maxRecDepth 100000 in
theorem impl_absOf.calls (a0 : Int) (r : Int) (w : World) (h : impl_absOf.f a0 = some r) :
  Calls Try.prog 80 #[.int .i64 a0] w fun e w' => e = .returned (.int .i64 r) ∧ Drawn0 w w' := by
 have H : (if a0 < 0 then (some (wrap64 (-a0))) else (some a0)) = some r := h
 clear h
 by_cases c2 : a0 < 0
 case neg =>
  rw [if_neg c2] at H
  have c2b0 : decide (a0 < 0) = false := decide_eq_false c2
  clear c2
  obtain rfl := Option.some.inj H
  go_enter Try.func80, Try.ntmps80
  go_wp2
  go_ret
  exact ⟨by first | rfl | (simp; done) | (simp [*]; done), zq19⟩
 rw [if_pos c2] at H
 have c2b0 : decide (a0 < 0) = true := decide_eq_true c2
 clear c2
 obtain rfl := Option.some.inj H
 go_enter Try.func80, Try.ntmps80
 go_wp2
 go_ret
 exact ⟨by first | rfl | (simp; done) | (simp [*]; done), zq19⟩
def impl_areConnected.f (a0 : Int) (a1 : Int) (a2 : Int) : Option (Bool) := if a0 = 0 then (none) else ((impl_absOf.f (wrap64 ((Int.tmod a1 a0) - (Int.tmod a2 a0)))).bind fun t193 => ((impl_absOf.f (wrap64 ((wrap64 (Int.tdiv a1 a0)) - (wrap64 (Int.tdiv a2 a0))))).bind fun t194 => (some ((wrap64 (t193 + t194)) == 1))))
set_option maxHeartbeats 8000000 in
set_option maxRecDepth 100000 in
theorem impl_areConnected.calls (a0 : Int) (a1 : Int) (a2 : Int) (r : Bool) (w : World) (h : impl_areConnected.f a0 a1 a2 = some r) :
  Calls Try.prog 62 #[.int .i64 a0, .int .i64 a1, .int .i64 a2] w fun e w' => e = .returned (.bool r) ∧ Drawn0 w w' := by
 have H : (if a0 = 0 then (none) else ((impl_absOf.f (wrap64 ((Int.tmod a1 a0) - (Int.tmod a2 a0)))).bind fun t193 => ((impl_absOf.f (wrap64 ((wrap64 (Int.tdiv a1 a0)) - (wrap64 (Int.tdiv a2 a0))))).bind fun t194 => (some ((wrap64 (t193 + t194)) == 1))))) = some r := h
 clear h
 by_cases c4 : a0 = 0
 case pos =>
  rw [if_pos c4] at H
  exact absurd H (by simp)
 rw [if_neg c4] at H
 have c4b0 : (a0 == 0) = false := beq_eq_false_iff_ne.mpr c4
 have c4b1 : (a0 != 0) = true := bne_iff_ne.mpr c4
 replace H := Option.bind_eq_some_iff.mp H
 obtain ⟨t193, A50, H⟩ := H
 replace H : ((impl_absOf.f (wrap64 ((wrap64 (Int.tdiv a1 a0)) - (wrap64 (Int.tdiv a2 a0))))).bind fun t194 => (some ((wrap64 (t193 + t194)) == 1))) = some r := H
 have A5 := Aside0.mk A50
 clear A50
 replace H := Option.bind_eq_some_iff.mp H
 obtain ⟨t194, A60, H⟩ := H
 replace H : (some ((wrap64 (t193 + t194)) == 1)) = some r := H
 have A6 := Aside0.mk A60
 clear A60
 obtain rfl := Option.some.inj H
 go_enter Try.func62, Try.ntmps62
 go_wp2_with (first | (go_at_call 80; (with_reducible refine (impl_absOf.calls (wrap64 ((Int.tmod a1 a0) - (Int.tmod a2 a0))) t193 _ A5.out).mono ?_); rintro e w' ⟨rfl, ⟨nd, rfl⟩⟩; (try first | exact ⟨rfl, _, World.drewN_drewN _ _ _⟩ | exact ⟨rfl, _, Eq.trans (World.drewN_drewN _ _ _) (congrArg (World.drewN _) (Nat.add_assoc _ _ _))⟩)) | (go_at_call 80; (with_reducible refine (impl_absOf.calls (wrap64 ((wrap64 (Int.tdiv a1 a0)) - (wrap64 (Int.tdiv a2 a0)))) t194 _ A6.out).mono ?_); rintro e w' ⟨rfl, ⟨nd, rfl⟩⟩; (try first | exact ⟨rfl, _, World.drewN_drewN _ _ _⟩ | exact ⟨rfl, _, Eq.trans (World.drewN_drewN _ _ _) (congrArg (World.drewN _) (Nat.add_assoc _ _ _))⟩)))
 repeat (go_quiet (first | (go_at_call 80; (with_reducible refine (impl_absOf.calls (wrap64 ((Int.tmod a1 a0) - (Int.tmod a2 a0))) t193 _ A5.out).mono ?_); rintro e w' ⟨rfl, ⟨nd, rfl⟩⟩; (try first | exact ⟨rfl, _, World.drewN_drewN _ _ _⟩ | exact ⟨rfl, _, Eq.trans (World.drewN_drewN _ _ _) (congrArg (World.drewN _) (Nat.add_assoc _ _ _))⟩)) | (go_at_call 80; (with_reducible refine (impl_absOf.calls (wrap64 ((wrap64 (Int.tdiv a1 a0)) - (wrap64 (Int.tdiv a2 a0)))) t194 _ A6.out).mono ?_); rintro e w' ⟨rfl, ⟨nd, rfl⟩⟩; (try first | exact ⟨rfl, _, World.drewN_drewN _ _ _⟩ | exact ⟨rfl, _, Eq.trans (World.drewN_drewN _ _ _) (congrArg (World.drewN _) (Nat.add_assoc _ _ _))⟩))); try go_wp2_with (first | (go_at_call 80; (with_reducible refine (impl_absOf.calls (wrap64 ((Int.tmod a1 a0) - (Int.tmod a2 a0))) t193 _ A5.out).mono ?_); rintro e w' ⟨rfl, ⟨nd, rfl⟩⟩; (try first | exact ⟨rfl, _, World.drewN_drewN _ _ _⟩ | exact ⟨rfl, _, Eq.trans (World.drewN_drewN _ _ _) (congrArg (World.drewN _) (Nat.add_assoc _ _ _))⟩)) | (go_at_call 80; (with_reducible refine (impl_absOf.calls (wrap64 ((wrap64 (Int.tdiv a1 a0)) - (wrap64 (Int.tdiv a2 a0)))) t194 _ A6.out).mono ?_); rintro e w' ⟨rfl, ⟨nd, rfl⟩⟩; (try first | exact ⟨rfl, _, World.drewN_drewN _ _ _⟩ | exact ⟨rfl, _, Eq.trans (World.drewN_drewN _ _ _) (congrArg (World.drewN _) (Nat.add_assoc _ _ _))⟩))))
 go_ret
 exact ⟨by first | rfl | (simp; done) | (simp [*]; done), zq19⟩
end Go.Proofs.Ytpdeapefekbdpaa.Q
