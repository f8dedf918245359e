/- Texts of this claim, put together: walks of the program's functions, and plain facts. -/
import Derived.Test.YtpdeapefekbdpaaZFnTracks
import Derived.Test.YtpdeapefekbdpaaBFnTracks0
import Derived.Test.YtpdeapefekbdpaaBFnTracks6
namespace Go.Proofs.Ytpdeapefekbdpaa.Q
open Go.RowKit Go.Proofs.YtpdeapefekbdpaaW.PrintWords Go.Proofs.YtpdeapefekbdpaaW.PrintLast Go.Proofs.YtpdeapefekbdpaaW.PrintMore
attribute [local go_sem] max2_int min2_int max_two min_two max_three min_three max_four min_four
set_option linter.unusedVariables false
set_option linter.unusedSimpArgs false
def spec_l11Abs.f (a0 : Int) : Option (Int) := (spec_l1Most.f a0 (wrap64 (-a0))).bind fun t556 => (some t556)
set_option maxHeartbeats 8000000 in
set_option maxRecDepth 100000 in
theorem spec_l11Abs.calls (a0 : Int) (r : Int) (w : World) (h : spec_l11Abs.f a0 = some r) :
  Calls Try.prog 102 #[.int .i64 a0] w fun e w' => e = .returned (.int .i64 r) ∧ Below w.heap.size w w' := by
 have HB := Aside0.mk (Below.refl w.heap.size w)
 have H : ((spec_l1Most.f a0 (wrap64 (-a0))).bind fun t556 => (some t556)) = some r := h
 clear h
 replace H := Option.bind_eq_some_iff.mp H
 obtain ⟨t556, A20, H⟩ := H
 replace H : (some t556) = some r := H
 have A2 := Aside0.mk A20
 clear A20
 obtain rfl := Option.some.inj H
 go_enter Try.func102, Try.ntmps102
 go_wp2_with (first | ((with_reducible refine gate_callee (f := 110) rfl ?_); refine goesL_ (some 6) rfl rfl Try.func110 (by kernel_rfl) rfl #[.int .i64 a0, .int .i64 (wrap64 (-a0))] rfl zq1 ?_; (with_reducible refine (spec_l1Most.calls a0 (wrap64 (-a0)) t556 _ A2.out).mono ?_); rintro e w3 ⟨rfl, hb⟩; refine ⟨_, rfl, ?_⟩; replace HB := Aside0.mk (below_step zq0 hb); (try clear hb); (try clear hb2); (try clear hk); (try clear hi)))
 go_ret
 exact ⟨zqE, zq0⟩
def spec_l12Distance.f (a0_0 : Int) (a0_1 : Int) (a0_2 : Int) (a0_3 : Int) (a1_0 : Int) (a1_1 : Int) (a1_2 : Int) (a1_3 : Int) : Option (Int) := (spec_l11Abs.f (wrap64 (a0_0 - a1_0))).bind fun t559 => ((spec_l11Abs.f (wrap64 (a0_1 - a1_1))).bind fun t560 => (some (wrap64 (t559 + t560))))
def spec_l12Distance.T1 : Bool × List (List Nat × List Nat) := (true, [([], []), ([0], [0]), ([], []), ([2], [2]), ([1, 3], [1, 3]), ([4], [4]), ([], []), ([6], [6]), ([], []), ([8], [8]), ([7, 9], [7, 9]), ([10, 5], [10]), ([5, 11], [5, 11]), ([12, 11, 0, 1, 2, 3, 4, 5, 6, 7, 8, 9, 10, 11, 12], [12])])
def spec_l12Distance.B1 : List Nat := [0, 1, 0, 4, 15, 31, 0, 64, 0, 256, 960, 2047, 4095, 8191]
theorem spec_l12Distance.tab1 : rtab .any (opsOf Try.f88 1) = spec_l12Distance.T1 := by kernel_rfl
theorem spec_l12Distance.bits1 : waitsOk spec_l12Distance.T1.2 spec_l12Distance.B1 = true := by kernel_rfl
set_option maxHeartbeats 8000000 in
set_option maxRecDepth 100000 in
theorem spec_l12Distance.calls (a0_0 : Int) (a0_1 : Int) (a0_2 : Int) (a0_3 : Int) (a1_0 : Int) (a1_1 : Int) (a1_2 : Int) (a1_3 : Int) (r : Int) (w : World) (h : spec_l12Distance.f a0_0 a0_1 a0_2 a0_3 a1_0 a1_1 a1_2 a1_3 = some r) :
  Calls Try.prog 88 #[.agg #[.int .i64 a0_0, .int .i64 a0_1, .int .i64 a0_2, .int .i64 a0_3], .agg #[.int .i64 a1_0, .int .i64 a1_1, .int .i64 a1_2, .int .i64 a1_3]] w fun e w' => e = .returned (.int .i64 r) ∧ Below w.heap.size w w' := by
 have hu49 := Try.underlying49
 have HB := Aside0.mk (Below.refl w.heap.size w)
 have H : ((spec_l11Abs.f (wrap64 (a0_0 - a1_0))).bind fun t559 => ((spec_l11Abs.f (wrap64 (a0_1 - a1_1))).bind fun t560 => (some (wrap64 (t559 + t560))))) = some r := h
 clear h
 replace H := Option.bind_eq_some_iff.mp H
 obtain ⟨t559, A30, H⟩ := H
 replace H : ((spec_l11Abs.f (wrap64 (a0_1 - a1_1))).bind fun t560 => (some (wrap64 (t559 + t560)))) = some r := H
 have A3 := Aside0.mk A30
 clear A30
 replace H := Option.bind_eq_some_iff.mp H
 obtain ⟨t560, A40, H⟩ := H
 replace H : (some (wrap64 (t559 + t560))) = some r := H
 have A4 := Aside0.mk A40
 clear A40
 obtain rfl := Option.some.inj H
 go_enter Try.func88, Try.ntmps88
 try go_wp2_with (first | ((with_reducible refine gate_dst (N := 2) rfl ?_); refine box_event ?hg (N := 2) ?hd (cs := #[.int .i64 a0_0, .int .i64 a0_1, .int .i64 a0_2, .int .i64 a0_3]) (t := 49) ?hr ?_; (case hd => rfl); (case hg => rfl); (case hr => exact zqS); intro gb557 hg w5 hbox hb; have BK557 := Aside0.mk (hbox); have GW557 := Aside0.mk ((by rw [hg]; exact (below_size zq0) : w.heap.size ≤ gb557)); replace HB := Aside0.mk (below_step zq0 hb); have GE557 := GW557; clear hb hbox hg) | ((with_reducible refine gate_dst (N := 3) rfl ?_); refine box_event ?hg (N := 3) ?hd (cs := #[.int .i64 a1_0, .int .i64 a1_1, .int .i64 a1_2, .int .i64 a1_3]) (t := 49) ?hr ?_; (case hd => rfl); (case hg => rfl); (case hr => exact zqS); intro gb558 hg w6 hbox hb; have BK558 := Aside0.mk (hbox); have GW558 := Aside0.mk ((by rw [hg]; exact (below_size zq47) : w.heap.size ≤ gb558)); replace HB := Aside0.mk (below_step zq47 hb); have GE558 := GW558; have NB557_558 := Aside0.mk ((by rw [hg]; exact Nat.ne_of_lt (blk_lt (g := gb557) (o := .cells #[.int .i64 a0_0, .int .i64 a0_1, .int .i64 a0_2, .int .i64 a0_3] 49 (0, 0)) (zqK BK557.out)) : gb557 ≠ gb558)); have NB558_557 := Aside0.mk ((by rw [hg]; exact Nat.ne_of_gt (blk_lt (g := gb557) (o := .cells #[.int .i64 a0_0, .int .i64 a0_1, .int .i64 a0_2, .int .i64 a0_3] 49 (0, 0)) (zqK BK557.out)) : gb558 ≠ gb557)); replace BK557 := Aside0.mk (blk_below (g := gb557) (o := .cells #[.int .i64 a0_0, .int .i64 a0_1, .int .i64 a0_2, .int .i64 a0_3] 49 (0, 0)) (zqK BK557.out) hb); clear hb hbox hg))
 have n0_ := Aside0.mk (blk_drew BK557.out)
 have n1_ := Aside0.mk (blk_drew BK558.out)
 have n2_ := Aside0.mk (below_drew1 HB.out)
 clear BK557
 clear BK558
 clear HB
 have BK557 := n0_
 have BK558 := n1_
 have HB := n2_
 clear n0_ n1_ n2_
 refine start_ (n := 14) (S := fun w' => w'.cell? ⟨gb557, 0, none⟩ = some (.int .i64 a0_0) ∧ w'.cell? ⟨gb557, 1, none⟩ = some (.int .i64 a0_1) ∧ w'.cell? ⟨gb557, 2, none⟩ = some (.int .i64 a0_2) ∧ w'.cell? ⟨gb557, 3, none⟩ = some (.int .i64 a0_3) ∧ w'.cell? ⟨gb558, 0, none⟩ = some (.int .i64 a1_0) ∧ w'.cell? ⟨gb558, 1, none⟩ = some (.int .i64 a1_1) ∧ w'.cell? ⟨gb558, 2, none⟩ = some (.int .i64 a1_2) ∧ w'.cell? ⟨gb558, 3, none⟩ = some (.int .i64 a1_3)) (ds := []) #[false, false, false, false, false, false, false, false, false, false, false, false, false, false] (by kernel_rfl) rfl rfl ⟨(blk_cell BK557.out 0).trans rfl, (blk_cell BK557.out 1).trans rfl, (blk_cell BK557.out 2).trans rfl, (blk_cell BK557.out 3).trans rfl, (blk_cell BK558.out 0).trans rfl, (blk_cell BK558.out 1).trans rfl, (blk_cell BK558.out 2).trans rfl, (blk_cell BK558.out 3).trans rfl⟩ (fun hHeld => ?_); refine with_tabW spec_l12Distance.tab1 spec_l12Distance.bits1 (fun HT_ HW_ => ?_)
 generalize w6.drew = w7 at BK557 BK558 HB hHeld ⊢
 refine zP 0 (some 5) #[zt, zf, zf, zf, zf, zf, zf, zf, zf, zf, zf, zf, zf, zf] ?_ rfl rfl HT_ (Or.inl ⟨by rfl, ?_⟩) ?_ ?_ ?_
 rotate_left; · exact zqB
 rotate_left; · exact zqA
 refine zP 2 (some 7) #[zt, zf, zt, zf, zf, zf, zf, zf, zf, zf, zf, zf, zf, zf] ?_ rfl rfl HT_ (Or.inl ⟨by rfl, ?_⟩) ?_ ?_ ?_
 rotate_left; · exact zqB
 rotate_left; · exact zqA
 refine zP 6 (some 11) #[zt, zf, zt, zf, zf, zf, zt, zf, zf, zf, zf, zf, zf, zf] ?_ rfl rfl HT_ (Or.inl ⟨by rfl, ?_⟩) ?_ ?_ ?_
 rotate_left; · exact zqB
 rotate_left; · exact zqA
 refine zP 8 (some 13) #[zt, zf, zt, zf, zf, zf, zt, zf, zt, zf, zf, zf, zf, zf] ?_ rfl rfl HT_ (Or.inl ⟨by rfl, ?_⟩) ?_ ?_ ?_
 rotate_left; · exact zqB
 rotate_left; · exact zqA
 refine zT 1 (some 6) #[zt, zt, zt, zf, zf, zf, zt, zf, zt, zf, zf, zf, zf, zf] ?_ rfl rfl HT_ HW_ (Or.inl ⟨by rfl, ?_⟩) hHeld ?_ ?_ ?_
 rotate_left
 ·
  rintro w' ⟨s0, s1, s2, s3, s4, s5, s6, s7⟩
  go_simp
  with_reducible rfl
 rotate_left; · exact zqA
 refine zT 3 (some 8) #[zt, zt, zt, zt, zf, zf, zt, zf, zt, zf, zf, zf, zf, zf] ?_ rfl rfl HT_ HW_ (Or.inl ⟨by rfl, ?_⟩) hHeld ?_ ?_ ?_
 rotate_left
 ·
  rintro w' ⟨s0, s1, s2, s3, s4, s5, s6, s7⟩
  go_simp
  with_reducible rfl
 rotate_left; · exact zqA
 refine zP 4 (some 9) #[zt, zt, zt, zt, zt, zf, zt, zf, zt, zf, zf, zf, zf, zf] ?_ rfl rfl HT_ (Or.inl ⟨by rfl, ?_⟩) ?_ ?_ ?_
 rotate_left; · exact zqB
 rotate_left; · exact zqA
 refine zT 7 (some 12) #[zt, zt, zt, zt, zt, zf, zt, zt, zt, zf, zf, zf, zf, zf] ?_ rfl rfl HT_ HW_ (Or.inl ⟨by rfl, ?_⟩) hHeld ?_ ?_ ?_
 rotate_left
 ·
  rintro w' ⟨s0, s1, s2, s3, s4, s5, s6, s7⟩
  go_simp
  with_reducible rfl
 rotate_left; · exact zqA
 refine zT 9 (some 14) #[zt, zt, zt, zt, zt, zf, zt, zt, zt, zt, zf, zf, zf, zf] ?_ rfl rfl HT_ HW_ (Or.inl ⟨by rfl, ?_⟩) hHeld ?_ ?_ ?_
 rotate_left
 ·
  rintro w' ⟨s0, s1, s2, s3, s4, s5, s6, s7⟩
  go_simp
  with_reducible rfl
 rotate_left; · exact zqA
 refine zP 10 (some 15) #[zt, zt, zt, zt, zt, zf, zt, zt, zt, zt, zt, zf, zf, zf] ?_ rfl rfl HT_ (Or.inl ⟨by rfl, ?_⟩) ?_ ?_ ?_
 rotate_left; · exact zqB
 rotate_left; · exact zqA
 refine one_ (i := 5) (N := some 10) #[zt, zt, zt, zt, zt, zt, zt, zt, zt, zt, zt, zf, zf, zf] rfl rfl (one_of HT_.out (by kernel_rfl)) (by decide) (fun K hK => ?_)
 refine goes_ Try.func102 (by kernel_rfl) rfl #[.int .i64 (wrap64 (a0_0 - a1_0))] (by rfl) rfl rfl zq1 ?_
 with_reducible refine (spec_l11Abs.calls (wrap64 (a0_0 - a1_0)) t559 _ A3.out).mono ?_
 rintro e w8 ⟨rfl, hb⟩
 refine ⟨_, rfl, ?_⟩
 have n0_ := Aside0.mk (blk_below (g := gb557) (o := .cells #[.int .i64 a0_0, .int .i64 a0_1, .int .i64 a0_2, .int .i64 a0_3] 49 (0, 0)) (zqK BK557.out) hb)
 have n1_ := Aside0.mk (blk_below (g := gb558) (o := .cells #[.int .i64 a1_0, .int .i64 a1_1, .int .i64 a1_2, .int .i64 a1_3] 49 (0, 0)) (zqK BK558.out) hb)
 have n2_ := Aside0.mk (below_step zq44 hb)
 clear BK557
 clear BK558
 clear HB
 have BK557 := n0_
 have BK558 := n1_
 have HB := n2_
 clear n0_ n1_ n2_
 (try clear hb)
 (try clear hb2)
 (try clear hk)
 (try clear hi)
 refine hK.out _ _ ⟨(blk_cell BK557.out 0).trans rfl, (blk_cell BK557.out 1).trans rfl, (blk_cell BK557.out 2).trans rfl, (blk_cell BK557.out 3).trans rfl, (blk_cell BK558.out 0).trans rfl, (blk_cell BK558.out 1).trans rfl, (blk_cell BK558.out 2).trans rfl, (blk_cell BK558.out 3).trans rfl⟩ (fun hHeld => ?_)
 clear hK K
 refine norm_ (a' := ?_) ?_ ?_
 rotate_left
 ·
  show Act.put _ (some 10) _ = _
  simp only [Act.put, List.setIfInBounds_toArray, List.set_cons_zero, List.set_cons_succ, i64_w, i32_w]
  rfl
 refine one_ (i := 11) (N := some 16) #[zt, zt, zt, zt, zt, zt, zt, zt, zt, zt, zt, zt, zf, zf] rfl rfl (one_of HT_.out (by kernel_rfl)) (by decide) (fun K hK => ?_)
 refine goes_ Try.func102 (by kernel_rfl) rfl #[.int .i64 (wrap64 (a0_1 - a1_1))] (by rfl) rfl rfl zq1 ?_
 with_reducible refine (spec_l11Abs.calls (wrap64 (a0_1 - a1_1)) t560 _ A4.out).mono ?_
 rintro e w9 ⟨rfl, hb⟩
 refine ⟨_, rfl, ?_⟩
 have n0_ := Aside0.mk (blk_below (g := gb557) (o := .cells #[.int .i64 a0_0, .int .i64 a0_1, .int .i64 a0_2, .int .i64 a0_3] 49 (0, 0)) (zqK BK557.out) hb)
 have n1_ := Aside0.mk (blk_below (g := gb558) (o := .cells #[.int .i64 a1_0, .int .i64 a1_1, .int .i64 a1_2, .int .i64 a1_3] 49 (0, 0)) (zqK BK558.out) hb)
 have n2_ := Aside0.mk (below_step zq44 hb)
 clear BK557
 clear BK558
 clear HB
 have BK557 := n0_
 have BK558 := n1_
 have HB := n2_
 clear n0_ n1_ n2_
 (try clear hb)
 (try clear hb2)
 (try clear hk)
 (try clear hi)
 refine hK.out _ _ ⟨(blk_cell BK557.out 0).trans rfl, (blk_cell BK557.out 1).trans rfl, (blk_cell BK557.out 2).trans rfl, (blk_cell BK557.out 3).trans rfl, (blk_cell BK558.out 0).trans rfl, (blk_cell BK558.out 1).trans rfl, (blk_cell BK558.out 2).trans rfl, (blk_cell BK558.out 3).trans rfl⟩ (fun hHeld => ?_)
 clear hK K
 refine norm_ (a' := ?_) ?_ ?_
 rotate_left
 ·
  show Act.put _ (some 16) _ = _
  simp only [Act.put, List.setIfInBounds_toArray, List.set_cons_zero, List.set_cons_succ, i64_w, i32_w]
  rfl
 refine zP 12 (some 17) #[zt, zt, zt, zt, zt, zt, zt, zt, zt, zt, zt, zt, zt, zf] ?_ rfl rfl HT_ (Or.inl ⟨by rfl, ?_⟩) ?_ ?_ ?_
 rotate_left; · exact zqB
 rotate_left; · exact zqA
 refine zP 13 (some 4) #[zt, zt, zt, zt, zt, zt, zt, zt, zt, zt, zt, zt, zt, zt] ?_ rfl rfl HT_ (Or.inl ⟨by rfl, ?_⟩) ?_ ?_ ?_
 rotate_left; · exact zqB
 rotate_left; · exact zqA
 refine done_ (done_of HT_.out (by kernel_rfl)) ?_
 try go_wp2
 go_ret
 exact ⟨zqE, zq44⟩
def spec_l12Cost.l0 : Nat → List (S49) → List (S49) → List Int → Int → Int → Int → Option (Int)
 | 0, _, _, _, _, _, _ => none
 | k + 1, x0, x1, x2, x3, x9, x10 => if x10 < (x2.length : Int) then (if 0 ≤ x10 then (if (rd x2 x10) < 0 then (spec_l12Cost.l0 k x0 x1 x2 x3 (wrap64 (x9 + x3)) (wrap64 (x10 + 1))) else (if x10 < (x0.length : Int) then (if 0 ≤ (rd x2 x10) then (if (rd x2 x10) < (x1.length : Int) then ((spec_l12Distance.f ((rd_T49 x0 x10).f0) ((rd_T49 x0 x10).f1) ((rd_T49 x0 x10).f2) ((rd_T49 x0 x10).f3) ((rd_T49 x1 (rd x2 x10)).f0) ((rd_T49 x1 (rd x2 x10)).f1) ((rd_T49 x1 (rd x2 x10)).f2) ((rd_T49 x1 (rd x2 x10)).f3)).bind fun t565 => (spec_l12Cost.l0 k x0 x1 x2 x3 (wrap64 ((wrap64 (x9 + t565)) - x3)) (wrap64 (x10 + 1)))) else (none)) else (none)) else (none))) else (none)) else (some x9)
def spec_l12Cost.f (k : Nat) (l0 : List (S49)) (l1 : List (S49)) (l2 : List Int) (a3 : Int) : Option (Int) := spec_l12Cost.l0 k l0 l1 l2 a3 (wrap64 (a3 * (l1.length : Int))) 0
def spec_l12Cost.T7 : Bool × List (List Nat × List Nat) := (true, [([], []), ([], []), ([], []), ([1, 2], [1, 2]), ([3], [3]), ([], []), ([], []), ([], []), ([6, 7], [6, 7]), ([8], [8]), ([5, 9], [5, 9]), ([10], [10]), ([4, 11], [4, 11]), ([0, 12], [0, 12]), ([], []), ([13, 14], [13, 14]), ([15, 12, 0, 1, 2, 3, 4, 5, 6, 7, 8, 9, 10, 11, 12, 13, 14, 15], [0, 15])])
def spec_l12Cost.B7 : List Nat := [0, 0, 0, 6, 14, 0, 0, 0, 192, 448, 992, 2016, 4094, 8191, 0, 32767, 65535]
theorem spec_l12Cost.tab7 : rtab .any (opsOf Try.f75 7) = spec_l12Cost.T7 := by kernel_rfl
theorem spec_l12Cost.bits7 : waitsOk spec_l12Cost.T7.2 spec_l12Cost.B7 = true := by kernel_rfl
set_option maxHeartbeats 8000000 in
set_option maxRecDepth 100000 in
theorem spec_l12Cost.calls (k : Nat) (A0 : Option Addr) (c0 : Nat) (l0 : List (S49)) (A1 : Option Addr) (c1 : Nat) (l1 : List (S49)) (A2 : Option Addr) (c2 : Nat) (l2 : List Int) (a3 : Int) (r : Int) (w : World) (hr0 : Kd.C k49 w A0 l0.length l0) (hc0 : l0.length ≤ c0) (hr1 : Kd.C k49 w A1 l1.length l1) (hc1 : l1.length ≤ c1) (hr2 : Kd.C (Kd.int .i64) w A2 l2.length l2) (hc2 : l2.length ≤ c2) (h : spec_l12Cost.f k l0 l1 l2 a3 = some r) :
  Calls Try.prog 75 #[.slice A0 l0.length c0, .slice A1 l1.length c1, .slice A2 l2.length c2, .int .i64 a3] w fun e w' => e = .returned (.int .i64 r) ∧ Below w.heap.size w w' := by
 have hu49 := Try.underlying49
 have HR0 := Aside0.mk hr0
 have HC0 := Aside0.mk hc0
 clear hr0 hc0
 have HR1 := Aside0.mk hr1
 have HC1 := Aside0.mk hc1
 clear hr1 hc1
 have HR2 := Aside0.mk hr2
 have HC2 := Aside0.mk hc2
 clear hr2 hc2
 have HB := Aside0.mk (Below.refl w.heap.size w)
 have H : (spec_l12Cost.l0 k l0 l1 l2 a3 (wrap64 (a3 * (l1.length : Int))) 0) = some r := h
 clear h
 have H' := Aside0.mk H
 clear H
 go_enter Try.func75, Try.ntmps75
 go_wp2
 go_loopg [9, 10] k (fun kq v9 v10 w' => ∃ (x9_1 : Int) (x10_1 : Int), v9 = .int .i64 x9_1 ∧ v10 = .int .i64 x10_1 ∧ Aside0 (spec_l12Cost.l0 kq l0 l1 l2 a3 x9_1 x10_1 = some r) ∧ Aside0 (kq ≤ k) ∧ Aside0 (Below w.heap.size w w'))
 case atStart => exact ⟨(wrap64 (a3 * (l1.length : Int))), (0), (by first | rfl | (simp; done) | (simp [*]; done)), (by first | rfl | (simp; done) | (simp [*]; done)), H', ⟨Nat.le_refl _⟩, ⟨zq0⟩⟩
 clear H'
 try clear c1
 try clear c2
 try clear p2
 obtain ⟨x9_1, x10_1, rfl, rfl, HA, HK1, HB⟩ := hrel
 cases gk with
 | zero => exact absurd HA.out (by simp [spec_l12Cost.l0])
 | succ k1 =>
  have H := HA.out
  clear HA
  simp only [spec_l12Cost.l0] at H
  by_cases c5 : x10_1 < (l2.length : Int)
  case neg =>
   rw [if_neg c5] at H
   have c5b0 : decide (x10_1 < (l2.length : Int)) = false := decide_eq_false c5
   clear c5
   obtain rfl := Option.some.inj H
   go_wp2
   go_ret
   exact ⟨zqE, zq0⟩
  rw [if_pos c5] at H
  have c5b0 : decide (x10_1 < (l2.length : Int)) = true := decide_eq_true c5
  clear c5
  by_cases c6 : 0 ≤ x10_1
  case neg =>
   rw [if_neg c6] at H
   exact absurd H (by simp)
  rw [if_pos c6] at H
  have c6b0 : decide (0 ≤ x10_1) = true := decide_eq_true c6
  clear c6
  by_cases c7 : (rd l2 x10_1) < 0
  case pos =>
   rw [if_pos c7] at H
   have c7b0 : decide ((rd l2 x10_1) < 0) = true := decide_eq_true c7
   clear c7
   have H' := Aside0.mk H
   clear H
   have p561 : 0 ≤ (x10_1 : Int) := of_decide_eq_true zq2
   have q561 : x10_1 < (l2.length : Int) := of_decide_eq_true zq2
   obtain ⟨ad561, e561, hx561_0⟩ := Kd.at_int HR2.out x10_1 p561 q561
   cases e561
   replace hx561_0 := bx HB.out hx561_0
   replace p561 := eq_true p561
   replace q561 := eq_true q561
   go_wp2
   go_roundg k1
   case measure => have := HK1.out; omega
   case rel => exact ⟨(wrap64 (x9_1 + a3)), (wrap64 (x10_1 + 1)), (by first | rfl | (simp; done) | (simp [*]; done)), (by first | rfl | (simp; done) | (simp [*]; done)), H', ⟨by have := HK1.out; omega⟩, ⟨zq0⟩⟩
  rw [if_neg c7] at H
  have c7b0 : decide ((rd l2 x10_1) < 0) = false := decide_eq_false c7
  clear c7
  by_cases c8 : x10_1 < (l0.length : Int)
  case neg =>
   rw [if_neg c8] at H
   exact absurd H (by simp)
  rw [if_pos c8] at H
  have c8b0 : decide (x10_1 < (l0.length : Int)) = true := decide_eq_true c8
  clear c8
  by_cases c9 : 0 ≤ (rd l2 x10_1)
  case neg =>
   rw [if_neg c9] at H
   exact absurd H (by simp)
  rw [if_pos c9] at H
  have c9b0 : decide (0 ≤ (rd l2 x10_1)) = true := decide_eq_true c9
  clear c9
  by_cases c10 : (rd l2 x10_1) < (l1.length : Int)
  case neg =>
   rw [if_neg c10] at H
   exact absurd H (by simp)
  rw [if_pos c10] at H
  have c10b0 : decide ((rd l2 x10_1) < (l1.length : Int)) = true := decide_eq_true c10
  clear c10
  replace H := Option.bind_eq_some_iff.mp H
  obtain ⟨t565, A110, H⟩ := H
  replace H : (spec_l12Cost.l0 k1 l0 l1 l2 a3 (wrap64 ((wrap64 (x9_1 + t565)) - a3)) (wrap64 (x10_1 + 1))) = some r := H
  have A11 := Aside0.mk A110
  clear A110
  have H' := Aside0.mk H
  clear H
  have p561 : 0 ≤ (x10_1 : Int) := of_decide_eq_true zq2
  have q561 : x10_1 < (l2.length : Int) := of_decide_eq_true zq2
  obtain ⟨ad561, e561, hx561_0⟩ := Kd.at_int HR2.out x10_1 p561 q561
  cases e561
  replace hx561_0 := bx HB.out hx561_0
  replace p561 := eq_true p561
  replace q561 := eq_true q561
  try go_wp2
  have n0_ := Aside0.mk (below_drew1 HB.out)
  clear HB
  have HB := n0_
  clear n0_
  have p562 : 0 ≤ (x10_1 : Int) := of_decide_eq_true zq2
  have q562 : x10_1 < (l0.length : Int) := of_decide_eq_true zq2
  obtain ⟨ad562, e562, hx562_0, hx562_1, hx562_2, hx562_3⟩ := at_T49 HR0.out x10_1 p562 q562
  have hw562_3 := hx562_3
  have hw562_2 := hx562_2
  have hw562_1 := hx562_1
  have hw562_0 := hx562_0
  cases e562
  replace hx562_0 := bx HB.out hx562_0
  replace hx562_1 := bx HB.out hx562_1
  replace hx562_2 := bx HB.out hx562_2
  replace hx562_3 := bx HB.out hx562_3
  replace p562 := eq_true p562
  replace q562 := eq_true q562
  have p563 : 0 ≤ (x10_1 : Int) := of_decide_eq_true zq2
  have q563 : x10_1 < (l2.length : Int) := of_decide_eq_true zq2
  obtain ⟨ad563, e563, hx563_0⟩ := Kd.at_int HR2.out x10_1 p563 q563
  have hw563_0 := hx563_0
  obtain rfl : ad561 = ad563 := (by injection e563)
  replace hx563_0 := bx HB.out hx563_0
  replace p563 := eq_true p563
  replace q563 := eq_true q563
  have p564 : 0 ≤ ((rd l2 x10_1) : Int) := of_decide_eq_true zq2
  have q564 : (rd l2 x10_1) < (l1.length : Int) := of_decide_eq_true zq2
  obtain ⟨ad564, e564, hx564_0, hx564_1, hx564_2, hx564_3⟩ := at_T49 HR1.out (rd l2 x10_1) p564 q564
  have hw564_3 := hx564_3
  have hw564_2 := hx564_2
  have hw564_1 := hx564_1
  have hw564_0 := hx564_0
  cases e564
  replace hx564_0 := bx HB.out hx564_0
  replace hx564_1 := bx HB.out hx564_1
  replace hx564_2 := bx HB.out hx564_2
  replace hx564_3 := bx HB.out hx564_3
  replace p564 := eq_true p564
  replace q564 := eq_true q564
  refine start_ (n := 17) (S := fun w' => w'.cell? (ad562.add ((x10_1).toNat * 4)) = some (.int .i64 ((rd_T49 l0 x10_1).f0)) ∧ w'.cell? ⟨(ad562.add ((x10_1).toNat * 4)).block, (ad562.add ((x10_1).toNat * 4)).off + 1, none⟩ = some (.int .i64 ((rd_T49 l0 x10_1).f1)) ∧ w'.cell? ⟨(ad562.add ((x10_1).toNat * 4)).block, (ad562.add ((x10_1).toNat * 4)).off + 2, none⟩ = some (.int .i64 ((rd_T49 l0 x10_1).f2)) ∧ w'.cell? ⟨(ad562.add ((x10_1).toNat * 4)).block, (ad562.add ((x10_1).toNat * 4)).off + 3, none⟩ = some (.int .i64 ((rd_T49 l0 x10_1).f3)) ∧ w'.cell? (ad561.add (x10_1).toNat) = some (.int .i64 (rd l2 x10_1)) ∧ w'.cell? (ad564.add (((rd l2 x10_1)).toNat * 4)) = some (.int .i64 ((rd_T49 l1 (rd l2 x10_1)).f0)) ∧ w'.cell? ⟨(ad564.add (((rd l2 x10_1)).toNat * 4)).block, (ad564.add (((rd l2 x10_1)).toNat * 4)).off + 1, none⟩ = some (.int .i64 ((rd_T49 l1 (rd l2 x10_1)).f1)) ∧ w'.cell? ⟨(ad564.add (((rd l2 x10_1)).toNat * 4)).block, (ad564.add (((rd l2 x10_1)).toNat * 4)).off + 2, none⟩ = some (.int .i64 ((rd_T49 l1 (rd l2 x10_1)).f2)) ∧ w'.cell? ⟨(ad564.add (((rd l2 x10_1)).toNat * 4)).block, (ad564.add (((rd l2 x10_1)).toNat * 4)).off + 3, none⟩ = some (.int .i64 ((rd_T49 l1 (rd l2 x10_1)).f3))) (ds := []) #[false, false, false, false, false, false, false, false, false, false, false, false, false, false, false, false, false] (by kernel_rfl) rfl rfl ⟨((HB.out.cell (World.block_lt_of_cell? w _ hw562_0)).trans hw562_0), ((HB.out.cell (World.block_lt_of_cell? w _ hw562_1)).trans hw562_1), ((HB.out.cell (World.block_lt_of_cell? w _ hw562_2)).trans hw562_2), ((HB.out.cell (World.block_lt_of_cell? w _ hw562_3)).trans hw562_3), ((HB.out.cell (World.block_lt_of_cell? w _ hw563_0)).trans hw563_0), ((HB.out.cell (World.block_lt_of_cell? w _ hw564_0)).trans hw564_0), ((HB.out.cell (World.block_lt_of_cell? w _ hw564_1)).trans hw564_1), ((HB.out.cell (World.block_lt_of_cell? w _ hw564_2)).trans hw564_2), ((HB.out.cell (World.block_lt_of_cell? w _ hw564_3)).trans hw564_3)⟩ (fun hHeld => ?_); refine with_tabW spec_l12Cost.tab7 spec_l12Cost.bits7 (fun HT_ HW_ => ?_)
  generalize wr.drew = w12 at HB hx562_0 hx562_1 hx562_2 hx562_3 hx563_0 hx564_0 hx564_1 hx564_2 hx564_3 hHeld ⊢
  refine zP 0 (some 29) #[zt, zf, zf, zf, zf, zf, zf, zf, zf, zf, zf, zf, zf, zf, zf, zf, zf] ?_ rfl rfl HT_ (Or.inl ⟨by rfl, ?_⟩) ?_ ?_ ?_
  rotate_left; · exact zqB
  rotate_left; · exact zqA
  refine zP 1 (some 30) #[zt, zt, zf, zf, zf, zf, zf, zf, zf, zf, zf, zf, zf, zf, zf, zf, zf] ?_ rfl rfl HT_ (Or.inl ⟨by rfl, ?_⟩) ?_ ?_ ?_
  rotate_left; · exact zqB
  rotate_left; · exact zqA
  refine zP 2 (some 31) #[zt, zt, zt, zf, zf, zf, zf, zf, zf, zf, zf, zf, zf, zf, zf, zf, zf] ?_ rfl rfl HT_ (Or.inl ⟨by rfl, ?_⟩) ?_ ?_ ?_
  rotate_left; · exact zqB
  rotate_left; · exact zqA
  refine zP 3 (some 32) #[zt, zt, zt, zt, zf, zf, zf, zf, zf, zf, zf, zf, zf, zf, zf, zf, zf] ?_ rfl rfl HT_ (Or.inl ⟨by rfl, ?_⟩) ?_ ?_ ?_
  rotate_left; · exact zqB
  rotate_left; · exact zqA
  refine zP 5 (some 34) #[zt, zt, zt, zt, zf, zt, zf, zf, zf, zf, zf, zf, zf, zf, zf, zf, zf] ?_ rfl rfl HT_ (Or.inl ⟨by rfl, ?_⟩) ?_ ?_ ?_
  rotate_left; · exact zqB
  rotate_left; · exact zqA
  refine zP 6 (some 35) #[zt, zt, zt, zt, zf, zt, zt, zf, zf, zf, zf, zf, zf, zf, zf, zf, zf] ?_ rfl rfl HT_ (Or.inl ⟨by rfl, ?_⟩) ?_ ?_ ?_
  rotate_left; · exact zqB
  rotate_left; · exact zqA
  refine zP 7 (some 36) #[zt, zt, zt, zt, zf, zt, zt, zt, zf, zf, zf, zf, zf, zf, zf, zf, zf] ?_ rfl rfl HT_ (Or.inl ⟨by rfl, ?_⟩) ?_ ?_ ?_
  rotate_left; · exact zqB
  rotate_left; · exact zqA
  refine zP 8 (some 37) #[zt, zt, zt, zt, zf, zt, zt, zt, zt, zf, zf, zf, zf, zf, zf, zf, zf] ?_ rfl rfl HT_ (Or.inl ⟨by rfl, ?_⟩) ?_ ?_ ?_
  rotate_left; · exact zqB
  rotate_left; · exact zqA
  refine zP 14 (some 43) #[zt, zt, zt, zt, zf, zt, zt, zt, zt, zf, zf, zf, zf, zf, zt, zf, zf] ?_ rfl rfl HT_ (Or.inl ⟨by rfl, ?_⟩) ?_ ?_ ?_
  rotate_left; · exact zqB
  rotate_left; · exact zqA
  refine zT 4 (some 33) #[zt, zt, zt, zt, zt, zt, zt, zt, zt, zf, zf, zf, zf, zf, zt, zf, zf] ?_ rfl rfl HT_ HW_ (Or.inl ⟨by rfl, ?_⟩) hHeld ?_ ?_ ?_
  rotate_left
  ·
   rintro w' ⟨s0, s1, s2, s3, s4, s5, s6, s7, s8⟩
   go_simp
   with_reducible rfl
  rotate_left; · exact zqA
  refine zT 9 (some 38) #[zt, zt, zt, zt, zt, zt, zt, zt, zt, zt, zf, zf, zf, zf, zt, zf, zf] ?_ rfl rfl HT_ HW_ (Or.inl ⟨by rfl, ?_⟩) hHeld ?_ ?_ ?_
  rotate_left
  ·
   rintro w' ⟨s0, s1, s2, s3, s4, s5, s6, s7, s8⟩
   go_simp
   with_reducible rfl
  rotate_left; · exact zqA
  refine zP 10 (some 39) #[zt, zt, zt, zt, zt, zt, zt, zt, zt, zt, zt, zf, zf, zf, zt, zf, zf] ?_ rfl rfl HT_ (Or.inl ⟨by rfl, ?_⟩) ?_ ?_ ?_
  rotate_left; · exact zqB
  rotate_left; · exact zqA
  refine zT 11 (some 40) #[zt, zt, zt, zt, zt, zt, zt, zt, zt, zt, zt, zt, zf, zf, zt, zf, zf] ?_ rfl rfl HT_ HW_ (Or.inl ⟨by rfl, ?_⟩) hHeld ?_ ?_ ?_
  rotate_left
  ·
   rintro w' ⟨s0, s1, s2, s3, s4, s5, s6, s7, s8⟩
   go_simp
   with_reducible rfl
  rotate_left; · exact zqA
  refine one_ (i := 12) (N := some 41) #[zt, zt, zt, zt, zt, zt, zt, zt, zt, zt, zt, zt, zt, zf, zt, zf, zf] rfl rfl (one_of HT_.out (by kernel_rfl)) (by decide) (fun K hK => ?_)
  refine goes_ Try.func88 (by kernel_rfl) rfl #[.agg #[.int .i64 ((rd_T49 l0 x10_1).f0), .int .i64 ((rd_T49 l0 x10_1).f1), .int .i64 ((rd_T49 l0 x10_1).f2), .int .i64 ((rd_T49 l0 x10_1).f3)], .agg #[.int .i64 ((rd_T49 l1 (rd l2 x10_1)).f0), .int .i64 ((rd_T49 l1 (rd l2 x10_1)).f1), .int .i64 ((rd_T49 l1 (rd l2 x10_1)).f2), .int .i64 ((rd_T49 l1 (rd l2 x10_1)).f3)]] (by rfl) rfl rfl zq1 ?_
  with_reducible refine (spec_l12Distance.calls ((rd_T49 l0 x10_1).f0) ((rd_T49 l0 x10_1).f1) ((rd_T49 l0 x10_1).f2) ((rd_T49 l0 x10_1).f3) ((rd_T49 l1 (rd l2 x10_1)).f0) ((rd_T49 l1 (rd l2 x10_1)).f1) ((rd_T49 l1 (rd l2 x10_1)).f2) ((rd_T49 l1 (rd l2 x10_1)).f3) t565 _ A11.out).mono ?_
  rintro e w13 ⟨rfl, hb⟩
  refine ⟨_, rfl, ?_⟩
  have n0_ := Aside0.mk (below_step zq0 hb)
  clear HB
  have HB := n0_
  clear n0_
  (try clear hb)
  (try clear hb2)
  (try clear hk)
  (try clear hi)
  refine hK.out _ _ ⟨((HB.out.cell (World.block_lt_of_cell? w _ hw562_0)).trans hw562_0), ((HB.out.cell (World.block_lt_of_cell? w _ hw562_1)).trans hw562_1), ((HB.out.cell (World.block_lt_of_cell? w _ hw562_2)).trans hw562_2), ((HB.out.cell (World.block_lt_of_cell? w _ hw562_3)).trans hw562_3), ((HB.out.cell (World.block_lt_of_cell? w _ hw563_0)).trans hw563_0), ((HB.out.cell (World.block_lt_of_cell? w _ hw564_0)).trans hw564_0), ((HB.out.cell (World.block_lt_of_cell? w _ hw564_1)).trans hw564_1), ((HB.out.cell (World.block_lt_of_cell? w _ hw564_2)).trans hw564_2), ((HB.out.cell (World.block_lt_of_cell? w _ hw564_3)).trans hw564_3)⟩ (fun hHeld => ?_)
  clear hK K
  refine norm_ (a' := ?_) ?_ ?_
  rotate_left
  ·
   show Act.put _ (some 41) _ = _
   simp only [Act.put, List.setIfInBounds_toArray, List.set_cons_zero, List.set_cons_succ, i64_w, i32_w]
   rfl
  refine zP 13 (some 42) #[zt, zt, zt, zt, zt, zt, zt, zt, zt, zt, zt, zt, zt, zt, zt, zf, zf] ?_ rfl rfl HT_ (Or.inl ⟨by rfl, ?_⟩) ?_ ?_ ?_
  rotate_left; · exact zqB
  rotate_left; · exact zqA
  refine zP 15 (some 44) #[zt, zt, zt, zt, zt, zt, zt, zt, zt, zt, zt, zt, zt, zt, zt, zt, zf] ?_ rfl rfl HT_ (Or.inl ⟨by rfl, ?_⟩) ?_ ?_ ?_
  rotate_left; · exact zqB
  rotate_left; · exact zqA
  refine zP 16 (some 9) #[zt, zt, zt, zt, zt, zt, zt, zt, zt, zt, zt, zt, zt, zt, zt, zt, zt] ?_ rfl rfl HT_ (Or.inl ⟨by rfl, ?_⟩) ?_ ?_ ?_
  rotate_left; · exact zqB
  rotate_left; · exact zqA
  refine done_ (done_of HT_.out (by kernel_rfl)) ?_
  try go_wp2
  go_roundg k1
  case measure => have := HK1.out; omega
  case rel => exact ⟨(wrap64 ((wrap64 (x9_1 + t565)) - a3)), (wrap64 (x10_1 + 1)), (by first | rfl | (simp; done) | (simp [*]; done)), (by first | rfl | (simp; done) | (simp [*]; done)), H', ⟨by have := HK1.out; omega⟩, ⟨zq0⟩⟩
def spec_l1Own.f (l0 : List Int) : Option (List Int) := (some (([] : List Int) : List Int)).bind fun y566 => (if y566.length + l0.length < 17592186044416 then (some (y566 ++ l0)) else (none))
set_option maxHeartbeats 8000000 in
set_option maxRecDepth 100000 in
theorem spec_l1Own.calls (A0 : Option Addr) (c0 : Nat) (l0 : List Int) (r : List Int) (w : World) (hr0 : Kd.C (Kd.int .i64) w A0 l0.length l0) (hc0 : l0.length ≤ c0) (h : spec_l1Own.f l0 = some r) :
  Calls Try.prog 76 #[.slice A0 l0.length c0] w fun e w' => ∃ v0_ : Value, e = .returned (v0_) ∧ Kd.R (Kd.int .i64) 3 w' w.heap.size (fun _ => True) v0_ r ∧ Below w.heap.size w w' := by
 have HR0 := Aside0.mk hr0
 have HC0 := Aside0.mk hc0
 clear hr0 hc0
 have HB := Aside0.mk (Below.refl w.heap.size w)
 have H : ((some (([] : List Int) : List Int)).bind fun y566 => (if y566.length + l0.length < 17592186044416 then (some (y566 ++ l0)) else (none))) = some r := h
 clear h
 obtain ⟨y566, hy566⟩ : ∃ y_ : List Int, y_ = (([] : List Int)) := ⟨_, rfl⟩
 replace H : (if y566.length + l0.length < 17592186044416 then (some (y566 ++ l0)) else (none)) = some r := zqH hy566 H
 have Ny566 := Aside0.mk hy566
 clear hy566
 by_cases c2 : y566.length + l0.length < 17592186044416
 case neg =>
  rw [if_neg c2] at H
  exact absurd H (by simp)
 rw [if_pos c2] at H
 have LMc2 := Aside0.mk c2
 clear c2
 obtain ⟨y569, hy569⟩ : ∃ y_ : List Int, y_ = (y566 ++ l0) := ⟨_, rfl⟩
 replace H : (some y569) = some r := zqH hy569 H
 have Ny569 := Aside0.mk hy569
 clear hy569
 obtain rfl := Option.some.inj H
 go_enter Try.func76, Try.ntmps76
 go_wp2_with (first | ((with_reducible refine gate_dst (N := 3) rfl ?_); refine Kd.R_lit (Kd.int .i64) _ 3 ?hg (N := 3) ?hd (xs := ([] : List Int)) (inner := []) (ok := fun _ => True) (okp := fun _ => True) ?hr ?hp (fun _ hk => hk) trivial (Below.refl _ _) (Nat.le_refl _) (by simp) ?_; (case hd => rfl); (case hg => rfl); (case hr => exact zqS); (case hp => exact (Reps.none _ _)); intro v567 w3 ho4 hb hg_ hnew_; clear hg_ hnew_; (first | rw [← Ny566.out] at ho4 | (simp only [Int.reduceToNat] at ho4; rw [← Ny566.out] at ho4)); have HO568 := Aside0.mk (Kd.R_lower ho4 (below_size zq0)); replace HB := Aside0.mk (below_step zq0 hb); clear hb ho4) | ((with_reducible refine gate_builtin (b := .append) (xs := #[.tmp 3, .tmp 4]) rfl ?_); at_builtin; refine Kd.R_append_rows (Kd.int .i64) (w0 := w) w.heap.size rfl (.tmp 3) (.tmp 4) 22 3 (.int .i64 0) 8 rfl Try.underlying22 info3 rfl (by decide) (by omega) v567 y566 l0 _ _ _ (fun _ => True) (fun _ => False) rfl rfl ?aO ?aR (fun _ _ h => h) (fun _ h => h.elim) ?aF ?aB ?aS ?aL ?_; (case aR => exact zqC (Kd.C_below HR0.out HB.out)); (case aB => exact zq0); (case aF => exact (fun _ _ => trivial)); (case aO => exact (zqR HO568.out)); (case aS => exact (below_size zq0)); (case aL => have := LMc2.out; omega); intro v570 w5 ho hb hg hat; rw [← Ny569.out] at ho; replace HB := Aside0.mk (hb); have HO571 := Aside0.mk (ho); clear HO568; clear ho hb hg hat))
 go_ret
 exact ⟨_, by first | rfl | (simp [errW_none, errW_some] <;> rfl) | (simp [*, errW_none, errW_some] <;> rfl), zqR HO571.out, zq0⟩
mutual
def spec_l12Best.l0 : Nat → List (S49) → List (S49) → Int → List Int → List Int → Int → Int → Option (List Int × Int)
 | 0, _, _, _, _, _, _, _ => none
 | k + 1, x0, x1, x2, x3, x10, x11, x12 => if x12 < (x1.length : Int) then ((spec_l1Has.f k x3 x12).bind fun t583 => (if t583 = true then (spec_l12Best.l0 k x0 x1 x2 x3 x10 x11 (wrap64 (x12 + 1))) else ((spec_l1Own.f x3).bind fun t584 => (if t584.length < 17592186044416 then ((spec_l12Best.f k x0 x1 x2 (t584 ++ [x12])).bind fun bt590 => (if bt590.2 < x11 then (spec_l12Best.l0 k x0 x1 x2 x3 bt590.1 bt590.2 (wrap64 (x12 + 1))) else (spec_l12Best.l0 k x0 x1 x2 x3 x10 x11 (wrap64 (x12 + 1))))) else (none))))) else (some (x10, x11))
def spec_l12Best.f : Nat → List (S49) → List (S49) → Int → List Int → Option (List Int × Int)
 | 0, _, _, _, _ => none
 | k + 1, l0, l1, a2, l3 => if (l3.length : Int) = (l0.length : Int) then ((spec_l12Cost.f k l0 l1 l3 a2).bind fun t572 => (some (l3, t572))) else ((spec_l1Own.f l3).bind fun t573 => (if t573.length < 17592186044416 then ((spec_l12Best.f k l0 l1 a2 (t573 ++ [(-1)])).bind fun bt579 => (spec_l12Best.l0 k l0 l1 a2 l3 bt579.1 bt579.2 0)) else (none)))
end
set_option maxHeartbeats 8000000 in
set_option maxRecDepth 100000 in
theorem spec_l12Best.calls (k : Nat) : ∀ (A0 : Option Addr) (c0 : Nat) (l0 : List (S49)) (A1 : Option Addr) (c1 : Nat) (l1 : List (S49)) (a2 : Int) (P3_ : Nat → Prop) (u9000_ : Value) (l3 : List Int) (r1 : List Int) (r2 : Int) (w0 w : World) (hB : Below w0.heap.size w0 w) (hr0 : ∀ W_, Kept w W_ (fun k_ => P3_ k_) → Kd.C k49 W_ A0 l0.length l0) (hc0 : l0.length ≤ c0) (hr1 : ∀ W_, Kept w W_ (fun k_ => P3_ k_) → Kd.C k49 W_ A1 l1.length l1) (hc1 : l1.length ≤ c1) (ho3 : Kd.R (Kd.int .i64) 3 w w0.heap.size P3_ u9000_ l3) (h : spec_l12Best.f k l0 l1 a2 l3 = some (r1, r2)),
  Calls Try.prog 45 #[.slice A0 l0.length c0, .slice A1 l1.length c1, .int .i64 a2, u9000_] w fun e w' => ∃ v0_ : Value, e = .returned (.tuple #[v0_, .int .i64 r2]) ∧ Kd.R (Kd.int .i64) 3 w' w0.heap.size (fun k_ => (P3_ k_ ∨ w.heap.size ≤ k_)) v0_ r1 ∧ Below w0.heap.size w0 w' ∧ Kept w w' (fun k_ => P3_ k_) := by
 induction k using Nat.strongRecOn with
 | _ k ih =>
 intro A0 c0 l0 A1 c1 l1 a2 P3_ u9000_ l3 r1 r2 w0 w hB hr0 hc0 hr1 hc1 ho3 h
 cases k with
 | zero => exact absurd h (by simp [spec_l12Best.f])
 | succ k =>
 simp only [spec_l12Best.f] at h
 have HR0 := Aside0.mk hr0
 have HC0 := Aside0.mk hc0
 clear hr0 hc0
 have HR1 := Aside0.mk hr1
 have HC1 := Aside0.mk hc1
 clear hr1 hc1
 have HO3 := Aside0.mk (show Kd.R (Kd.int .i64) 3 w w0.heap.size (fun k_ => (P3_ k_ ∨ w.heap.size ≤ k_)) u9000_ l3 from Kd.R_mono ho3 (fun k_ hk => (.inl hk)))
 have HK := Aside0.mk (Kept.refl w (fun k_ => P3_ k_))
 have HW0 := Aside0.mk hB.size
 have HB := Aside0.mk hB
 clear hB
 have H : (if (l3.length : Int) = (l0.length : Int) then ((spec_l12Cost.f k l0 l1 l3 a2).bind fun t572 => (some (l3, t572))) else ((spec_l1Own.f l3).bind fun t573 => (if t573.length < 17592186044416 then ((spec_l12Best.f k l0 l1 a2 (t573 ++ [(-1)])).bind fun bt579 => (spec_l12Best.l0 k l0 l1 a2 l3 bt579.1 bt579.2 0)) else (none)))) = some (r1, r2) := h
 clear h
 by_cases c5 : (l3.length : Int) = (l0.length : Int)
 case pos =>
  rw [if_pos c5] at H
  have c5b0 : ((l3.length : Int) == (l0.length : Int)) = true := beq_iff_eq.mpr c5
  have c5b1 : ((l3.length : Int) != (l0.length : Int)) = false := bne_eq_false_iff_eq.mpr c5
  have c5b2 : (l3.length == l0.length) = true := by first | simpa using c5 | (simp at c5 ⊢; omega)
  clear c5
  replace H := Option.bind_eq_some_iff.mp H
  obtain ⟨t572, A60, H⟩ := H
  replace H : (some (l3, t572)) = some (r1, r2) := H
  have A6 := Aside0.mk A60
  clear A60
  simp only [Option.some.injEq, Prod.mk.injEq] at H
  obtain ⟨rfl, rfl⟩ := H
  obtain ⟨Ao7, co7, eo7⟩ := Kd.R_slice HO3.out
  subst eo7
  go_enter Try.func45, Try.ntmps45
  go_wp2_with (first | ((with_reducible refine gate_callee (f := 75) rfl ?_); refine goesL_ (some 25) rfl rfl Try.func75 (by kernel_rfl) rfl #[.slice A0 l0.length c0, .slice A1 l1.length c1, .slice Ao7 l3.length co7, .int .i64 a2] rfl zq1 ?_; (with_reducible refine (spec_l12Cost.calls k _ _ l0 _ _ l1 _ _ l3 a2 t572 _ ?side1 ?side2 ?side3 ?side4 ?side5 ?side6 A6.out).mono ?_); (case side1 => exact Kd.C_kept_now HR0.out zq14); (case side2 => exact HC0.out); (case side3 => exact Kd.C_kept_now HR1.out zq14); (case side4 => exact HC1.out); (case side5 => exact zqC (Kd.R_reads' HO3.out).2.2); (case side6 => exact (Kd.R_reads' HO3.out).2.1); rintro e w8 ⟨rfl, hb⟩; refine ⟨_, rfl, ?_⟩; replace HO3 := Aside0.mk (Kd.R_below (zqR HO3.out) hb); replace HK := Aside0.mk (Kept.below (S := (fun k_ => P3_ k_)) zq14 hb); replace HB := Aside0.mk (below_step zq0 hb); (try clear hb); (try clear hb2); (try clear hk); (try clear hi)))
  go_ret2
  exact ⟨_, by first | rfl | (simp [errW_none, errW_some] <;> rfl) | (simp [*, errW_none, errW_some] <;> rfl), zqR HO3.out, zq0, zq14⟩
 rw [if_neg c5] at H
 have c5b0 : ((l3.length : Int) == (l0.length : Int)) = false := beq_eq_false_iff_ne.mpr c5
 have c5b1 : ((l3.length : Int) != (l0.length : Int)) = true := bne_iff_ne.mpr c5
 have c5b2 : (l3.length == l0.length) = false := by first | simpa using c5 | (simp at c5 ⊢; omega)
 replace H := Option.bind_eq_some_iff.mp H
 obtain ⟨t573, A90, H⟩ := H
 replace H : (if t573.length < 17592186044416 then ((spec_l12Best.f k l0 l1 a2 (t573 ++ [(-1)])).bind fun bt579 => (spec_l12Best.l0 k l0 l1 a2 l3 bt579.1 bt579.2 0)) else (none)) = some (r1, r2) := H
 have A9 := Aside0.mk A90
 clear A90
 by_cases c10 : t573.length < 17592186044416
 case neg =>
  rw [if_neg c10] at H
  exact absurd H (by simp)
 rw [if_pos c10] at H
 have LMc10 := Aside0.mk c10
 clear c10
 obtain ⟨y576, hy576⟩ : ∃ y_ : List Int, y_ = (t573 ++ [(-1)]) := ⟨_, rfl⟩
 replace H : ((spec_l12Best.f k l0 l1 a2 y576).bind fun bt579 => (spec_l12Best.l0 k l0 l1 a2 l3 bt579.1 bt579.2 0)) = some (r1, r2) := zqH hy576 H
 have Ny576 := Aside0.mk hy576
 clear hy576
 replace H := Option.bind_eq_some_iff.mp H
 obtain ⟨⟨t579, t582⟩, A110, H⟩ := H
 replace H : (spec_l12Best.l0 k l0 l1 a2 l3 t579 t582 0) = some (r1, r2) := H
 have A11 := Aside0.mk A110
 clear A110
 have H' := Aside0.mk H
 clear H
 obtain ⟨Ao12, co12, eo12⟩ := Kd.R_slice HO3.out
 subst eo12
 go_enter Try.func45, Try.ntmps45
 go_wp2_with (first | ((with_reducible refine gate_callee (f := 76) rfl ?_); refine goesL_ (some 31) rfl rfl Try.func76 (by kernel_rfl) rfl #[.slice Ao12 l3.length co12] rfl zq1 ?_; (with_reducible refine (spec_l1Own.calls _ _ l3 t573 _ ?side1 ?side2 A9.out).mono ?_); (case side1 => exact zqC (Kd.R_reads' HO3.out).2.2); (case side2 => exact (Kd.R_reads' HO3.out).2.1); rintro e w13 ⟨v574, rfl, ho0, hb⟩; refine ⟨_, rfl, ?_⟩; have HO575 := Aside0.mk (Kd.R_lower (Kd.R_new' (Kd.R_newM (M := fun k_ => (P3_ k_ ∨ w.heap.size ≤ k_)) ho0 (by first | exact HK.out.1 | exact (show Kept w _ (fun k_ => P3_ k_) from by repeat (first | (with_reducible first | exact HK.out | apply Kept.alloc | apply Kept.drewN | apply Kept.drew) | exact HK.out)).1) (fun k_ h_ => .inr h_)) (Kd.R_lt (zqR HO3.out))) (below_size zq0)); replace HO3 := Aside0.mk (Kd.R_elder' (zqR HO3.out) (Kd.R_base ho0) hb); replace HK := Aside0.mk (Kept.below (S := (fun k_ => P3_ k_)) zq14 hb); replace HB := Aside0.mk (below_step zq0 hb); (try clear hb); (try clear hb2); (try clear hk); (try clear hi); (try clear ho0)) | ((with_reducible refine gate_builtin (b := .append) (xs := #[.tmp 31, .tmp 32]) rfl ?_); at_builtin; refine Kd.R_append (Kd.int .i64) (w0 := w0) w0.heap.size rfl (.tmp 31) (.tmp 32) 22 3 (.int .i64 0) 8 rfl Try.underlying22 info3 rfl (by decide) (by omega) v574 t573 (-1) [.int .i64 (-1)] (fun k_ => (P3_ k_ ∨ w.heap.size ≤ k_) ∧ some k_ ≠ (.slice Ao12 l3.length co12 : Value).ownBlock) (fun _ => False) rfl rfl ?aP (fun _ hk => hk.elim) ?aF ?aO ?aB ?aS ?aL ?_; (case aP => exact rfl); (case aB => exact zq0); (case aF => exact (fun k_ hk => ⟨(.inr (Nat.le_trans (by first | exact HK.out.1 | exact (show Kept w _ (fun k_ => P3_ k_) from by repeat (first | (with_reducible first | exact HK.out | apply Kept.alloc | apply Kept.drewN | apply Kept.drew) | exact HK.out)).1) hk)), Kd.fresh' (Kd.R_lt (zqR HO3.out)) k_ hk⟩)); (case aO => exact (by (with_reducible repeat (first | apply Kd.R_alloc | apply Kd.R_drewN | apply Kd.R_drew)); exact Kd.R_mono HO575.out (fun _ hk => ⟨hk.1.1, hk.2⟩))); (case aS => exact (below_size zq0)); (case aL => have := LMc10.out; omega); intro v577 w14 ho hb hg hat; rw [← Ny576.out] at ho; replace HO3 := Aside0.mk (Kd.R_after (ok := (fun k_ => (P3_ k_ ∨ w.heap.size ≤ k_))) (zqR HO3.out) hg hat); replace HB := Aside0.mk (hb); replace HK := Aside0.mk (Kept.of_grown (S := (fun k_ => P3_ k_)) hg zq14 (fun k_ e_ => (HO575.out.1 k_ e_).1.1)); have HO578 := Aside0.mk (ho); clear HO575; clear ho hb hg hat; obtain ⟨Ao15, co15, eo15⟩ := Kd.R_slice HO578.out; subst eo15) | ((with_reducible refine gate_callee (f := 45) rfl ?_); refine goesL_ (some 34) rfl rfl Try.func45 (by kernel_rfl) rfl #[.slice A0 l0.length c0, .slice A1 l1.length c1, .int .i64 a2, .slice Ao15 y576.length co15] rfl zq1 ?_; (with_reducible refine (ih k (by omega) _ _ l0 _ _ l1 a2 (fun k_ => some k_ = (.slice Ao15 y576.length co15 : Value).ownBlock) (.slice Ao15 y576.length co15) y576 t579 t582 w0 _ ?side1 ?side2 ?side3 ?side4 ?side5 ?side6 A11.out).mono ?_); (case side1 => exact zq0); (case side2 => exact Kd.C_kept_call HR0.out zq14 (fun k_ hs_ => (fun e_ => (HO578.out.1 k_ e_.symm).1) hs_)); (case side3 => exact HC0.out); (case side4 => exact Kd.C_kept_call HR1.out zq14 (fun k_ hs_ => (fun e_ => (HO578.out.1 k_ e_.symm).1) hs_)); (case side5 => exact HC1.out); (case side6 => exact Kd.R_tight rfl HO578.out); rintro e w16 ⟨v580, rfl, ho0, hb, hkp⟩; refine ⟨_, rfl, ?_⟩; have HO581 := Aside0.mk (Kd.R_mono (ok' := fun k_ => (P3_ k_ ∨ w.heap.size ≤ k_) ∧ some k_ ≠ (.slice Ao12 l3.length co12 : Value).ownBlock) ho0 (fun k_ hk_ => ⟨Or.elim hk_ (fun hs_ => (HO578.out.1 k_ (hs_).symm).1) (fun hn_ => (.inr (Nat.le_trans (by first | exact HK.out.1 | exact (show Kept w _ (fun k_ => P3_ k_) from by repeat (first | (with_reducible first | exact HK.out | apply Kept.alloc | apply Kept.drewN | apply Kept.drew) | exact HK.out)).1) hn_))), Or.elim hk_ (fun hs_ => fun e_ => (((HO3.out).1 k_ e_.symm).2) hs_) (fun hn_ => (Kd.fresh' (Kd.R_lt (zqR HO3.out)) k_ hn_))⟩)); replace HO3 := Aside0.mk (Kd.R_mono (ok' := fun k_ => (P3_ k_ ∨ w.heap.size ≤ k_) ∧ some k_ ≠ (v580 : Value).ownBlock) (Kd.R_keptB (HO3.out) hkp (fun k_ hk_ hs_ => (hk_.2) hs_)) (fun k_ hk_ => ⟨hk_.1.1, fun e_ => Or.elim (ho0.1 k_ e_.symm) (fun hs_ => hk_.2.1 hs_) (fun hn_ => Nat.not_le.2 hk_.2.2 hn_)⟩)); replace HK := Aside0.mk (Kept.then_ (S := (fun k_ => P3_ k_)) zq14 hkp (fun k_ hs_ => (fun e_ => (HO578.out.1 k_ e_.symm).1) hs_)); replace HB := Aside0.mk (hb); clear HO578; (try clear hb); (try clear hkp); (try clear ho0)))
 go_loopg [10, 11, 12] k (fun kq v10 v11 v12 w' => ∃ (x10_1 : List Int) (x11_1 : Int) (x12_1 : Int), v11 = .int .i64 x11_1 ∧ v12 = .int .i64 x12_1 ∧ Aside0 (spec_l12Best.l0 kq l0 l1 a2 l3 x10_1 x11_1 x12_1 = some (r1, r2)) ∧ Aside0 (kq ≤ k) ∧ Aside0 (Kd.R (Kd.int .i64) 3 w' w0.heap.size (fun k_ => (P3_ k_ ∨ w.heap.size ≤ k_) ∧ some k_ ≠ (v10 : Value).ownBlock) (.slice Ao12 l3.length co12) l3) ∧ Aside0 (Kd.R (Kd.int .i64) 3 w' w0.heap.size (fun k_ => (P3_ k_ ∨ w.heap.size ≤ k_) ∧ some k_ ≠ ((.slice Ao12 l3.length co12) : Value).ownBlock) v10 x10_1) ∧ Aside0 (Kept w w' (fun k_ => P3_ k_)) ∧ Aside0 (Below w0.heap.size w0 w'))
 case atStart => exact ⟨(t579), (t582), (0), (by first | rfl | (simp; done) | (simp [*]; done)), (by first | rfl | (simp; done) | (simp [*]; done)), H', ⟨Nat.le_refl _⟩, ⟨zqR HO3.out⟩, ⟨zqR HO581.out⟩, ⟨zq14⟩, ⟨zq0⟩⟩
 clear H'
 try clear c1
 try clear p2
 try clear c4
 try clear c5
 try clear c5b0
 try clear c5b1
 try clear c5b2
 try clear c7
 try clear c10
 obtain ⟨x10_1, x11_1, x12_1, rfl, rfl, HA, HK1, HO_3, HO_10, HK, HB⟩ := hrel
 cases gk with
 | zero => exact absurd HA.out (by simp [spec_l12Best.l0])
 | succ k1 =>
  have H := HA.out
  clear HA
  simp only [spec_l12Best.l0] at H
  by_cases c17 : x12_1 < (l1.length : Int)
  case neg =>
   rw [if_neg c17] at H
   have c17b0 : decide (x12_1 < (l1.length : Int)) = false := decide_eq_false c17
   clear c17
   simp only [Option.some.injEq, Prod.mk.injEq] at H
   obtain ⟨rfl, rfl⟩ := H
   go_wp2
   go_ret2
   exact ⟨_, by first | rfl | (simp [errW_none, errW_some] <;> rfl) | (simp [*, errW_none, errW_some] <;> rfl), by (with_reducible repeat (first | apply Kd.R_alloc | apply Kd.R_drewN | apply Kd.R_drew)); exact Kd.R_mono HO_10.out (fun _ hk => hk.1), zq0, zq14⟩
  rw [if_pos c17] at H
  have c17b0 : decide (x12_1 < (l1.length : Int)) = true := decide_eq_true c17
  clear c17
  replace H := Option.bind_eq_some_iff.mp H
  obtain ⟨t583, A180, H⟩ := H
  replace H : (if t583 = true then (spec_l12Best.l0 k1 l0 l1 a2 l3 x10_1 x11_1 (wrap64 (x12_1 + 1))) else ((spec_l1Own.f l3).bind fun t584 => (if t584.length < 17592186044416 then ((spec_l12Best.f k1 l0 l1 a2 (t584 ++ [x12_1])).bind fun bt590 => (if bt590.2 < x11_1 then (spec_l12Best.l0 k1 l0 l1 a2 l3 bt590.1 bt590.2 (wrap64 (x12_1 + 1))) else (spec_l12Best.l0 k1 l0 l1 a2 l3 x10_1 x11_1 (wrap64 (x12_1 + 1))))) else (none)))) = some (r1, r2) := H
  have A18 := Aside0.mk A180
  clear A180
  by_cases c19 : t583 = true
  case pos =>
   subst c19
   have H1 : (spec_l12Best.l0 k1 l0 l1 a2 l3 x10_1 x11_1 (wrap64 (x12_1 + 1))) = some (r1, r2) := by rw [if_pos rfl] at H; exact H
   clear H
   have H := H1
   clear H1
   have H' := Aside0.mk H
   clear H
   go_wp2_with (first | ((with_reducible refine gate_callee (f := 53) rfl ?_); refine goesL_ (some 45) rfl rfl Try.func53 (by kernel_rfl) rfl #[.slice Ao12 l3.length co12, .int .i64 x12_1] rfl zq1 ?_; (with_reducible refine (spec_l1Has.calls k1 _ _ l3 x12_1 true _ ?side1 ?side2 A18.out).mono ?_); (case side1 => exact zqC (Kd.R_reads' HO_3.out).2.2); (case side2 => exact (Kd.R_reads' HO_3.out).2.1); rintro e w' ⟨rfl, ⟨nd, rfl⟩⟩; refine ⟨_, rfl, ?_⟩))
   go_roundg k1
   case measure => have := HK1.out; omega
   case rel => exact ⟨(x10_1), (x11_1), (wrap64 (x12_1 + 1)), (by first | rfl | (simp; done) | (simp [*]; done)), (by first | rfl | (simp; done) | (simp [*]; done)), H', ⟨by have := HK1.out; omega⟩, ⟨zqR HO_3.out⟩, ⟨zqR HO_10.out⟩, ⟨zq14⟩, ⟨zq0⟩⟩
  replace c19 := Bool.eq_false_iff.mpr c19
  subst c19
  have H1 : ((spec_l1Own.f l3).bind fun t584 => (if t584.length < 17592186044416 then ((spec_l12Best.f k1 l0 l1 a2 (t584 ++ [x12_1])).bind fun bt590 => (if bt590.2 < x11_1 then (spec_l12Best.l0 k1 l0 l1 a2 l3 bt590.1 bt590.2 (wrap64 (x12_1 + 1))) else (spec_l12Best.l0 k1 l0 l1 a2 l3 x10_1 x11_1 (wrap64 (x12_1 + 1))))) else (none))) = some (r1, r2) := by rw [if_neg (show ¬ (false = true) by decide)] at H; exact H
  clear H
  have H := H1
  clear H1
  replace H := Option.bind_eq_some_iff.mp H
  obtain ⟨t584, A200, H⟩ := H
  replace H : (if t584.length < 17592186044416 then ((spec_l12Best.f k1 l0 l1 a2 (t584 ++ [x12_1])).bind fun bt590 => (if bt590.2 < x11_1 then (spec_l12Best.l0 k1 l0 l1 a2 l3 bt590.1 bt590.2 (wrap64 (x12_1 + 1))) else (spec_l12Best.l0 k1 l0 l1 a2 l3 x10_1 x11_1 (wrap64 (x12_1 + 1))))) else (none)) = some (r1, r2) := H
  have A20 := Aside0.mk A200
  clear A200
  by_cases c21 : t584.length < 17592186044416
  case neg =>
   rw [if_neg c21] at H
   exact absurd H (by simp)
  rw [if_pos c21] at H
  have LMc21 := Aside0.mk c21
  clear c21
  obtain ⟨y587, hy587⟩ : ∃ y_ : List Int, y_ = (t584 ++ [x12_1]) := ⟨_, rfl⟩
  replace H : ((spec_l12Best.f k1 l0 l1 a2 y587).bind fun bt590 => (if bt590.2 < x11_1 then (spec_l12Best.l0 k1 l0 l1 a2 l3 bt590.1 bt590.2 (wrap64 (x12_1 + 1))) else (spec_l12Best.l0 k1 l0 l1 a2 l3 x10_1 x11_1 (wrap64 (x12_1 + 1))))) = some (r1, r2) := zqH hy587 H
  have Ny587 := Aside0.mk hy587
  clear hy587
  replace H := Option.bind_eq_some_iff.mp H
  obtain ⟨⟨t590, t593⟩, A220, H⟩ := H
  replace H : (if t593 < x11_1 then (spec_l12Best.l0 k1 l0 l1 a2 l3 t590 t593 (wrap64 (x12_1 + 1))) else (spec_l12Best.l0 k1 l0 l1 a2 l3 x10_1 x11_1 (wrap64 (x12_1 + 1)))) = some (r1, r2) := H
  have A22 := Aside0.mk A220
  clear A220
  by_cases c23 : t593 < x11_1
  case neg =>
   rw [if_neg c23] at H
   have c23b0 : decide (t593 < x11_1) = false := decide_eq_false c23
   clear c23
   have H' := Aside0.mk H
   clear H
   go_wp2_with (first | ((with_reducible refine gate_callee (f := 53) rfl ?_); refine goesL_ (some 45) rfl rfl Try.func53 (by kernel_rfl) rfl #[.slice Ao12 l3.length co12, .int .i64 x12_1] rfl zq1 ?_; (with_reducible refine (spec_l1Has.calls k1 _ _ l3 x12_1 false _ ?side1 ?side2 A18.out).mono ?_); (case side1 => exact zqC (Kd.R_reads' HO_3.out).2.2); (case side2 => exact (Kd.R_reads' HO_3.out).2.1); rintro e w' ⟨rfl, ⟨nd, rfl⟩⟩; refine ⟨_, rfl, ?_⟩) | ((with_reducible refine gate_callee (f := 76) rfl ?_); refine goesL_ (some 51) rfl rfl Try.func76 (by kernel_rfl) rfl #[.slice Ao12 l3.length co12] rfl zq1 ?_; (with_reducible refine (spec_l1Own.calls _ _ l3 t584 _ ?side1 ?side2 A20.out).mono ?_); (case side1 => exact zqC (Kd.R_reads' HO_3.out).2.2); (case side2 => exact (Kd.R_reads' HO_3.out).2.1); rintro e w28 ⟨v585, rfl, ho0, hb⟩; refine ⟨_, rfl, ?_⟩; have HO586 := Aside0.mk (Kd.R_lower (Kd.R_new' (Kd.R_new' (Kd.R_newM (M := fun k_ => (P3_ k_ ∨ w.heap.size ≤ k_)) ho0 (by first | exact HK.out.1 | exact (show Kept w _ (fun k_ => P3_ k_) from by repeat (first | (with_reducible first | exact HK.out | apply Kept.alloc | apply Kept.drewN | apply Kept.drew) | exact HK.out)).1) (fun k_ h_ => .inr h_)) (Kd.R_lt (zqR HO_3.out))) (Kd.R_lt (zqR HO_10.out))) (below_size zq0)); replace HO_3 := Aside0.mk (Kd.R_elder' (zqR HO_3.out) (Kd.R_base ho0) hb); replace HO_10 := Aside0.mk (Kd.R_elder' (zqR HO_10.out) (Kd.R_base ho0) hb); replace HK := Aside0.mk (Kept.below (S := (fun k_ => P3_ k_)) zq14 hb); replace HB := Aside0.mk (below_step zq0 hb); (try clear hb); (try clear hb2); (try clear hk); (try clear hi); (try clear ho0)) | ((with_reducible refine gate_builtin (b := .append) (xs := #[.tmp 51, .tmp 53]) rfl ?_); at_builtin; refine Kd.R_append (Kd.int .i64) (w0 := w0) w0.heap.size rfl (.tmp 51) (.tmp 53) 22 3 (.int .i64 0) 8 rfl Try.underlying22 info3 rfl (by decide) (by omega) v585 t584 x12_1 [.int .i64 x12_1] (fun k_ => (P3_ k_ ∨ w.heap.size ≤ k_) ∧ some k_ ≠ (.slice Ao12 l3.length co12 : Value).ownBlock ∧ some k_ ≠ (u10 : Value).ownBlock) (fun _ => False) rfl rfl ?aP (fun _ hk => hk.elim) ?aF ?aO ?aB ?aS ?aL ?_; (case aP => exact rfl); (case aB => exact zq0); (case aF => exact (fun k_ hk => ⟨(.inr (Nat.le_trans (by first | exact HK.out.1 | exact (show Kept w _ (fun k_ => P3_ k_) from by repeat (first | (with_reducible first | exact HK.out | apply Kept.alloc | apply Kept.drewN | apply Kept.drew) | exact HK.out)).1) hk)), Kd.fresh' (Kd.R_lt (zqR HO_3.out)) k_ hk, Kd.fresh' (Kd.R_lt (zqR HO_10.out)) k_ hk⟩)); (case aO => exact (by (with_reducible repeat (first | apply Kd.R_alloc | apply Kd.R_drewN | apply Kd.R_drew)); exact Kd.R_mono HO586.out (fun _ hk => ⟨hk.1.1.1, ⟨hk.1.2, hk.2⟩⟩))); (case aS => exact (below_size zq0)); (case aL => have := LMc21.out; omega); intro v588 w29 ho hb hg hat; rw [← Ny587.out] at ho; replace HO_3 := Aside0.mk (Kd.R_after (ok := (fun k_ => (P3_ k_ ∨ w.heap.size ≤ k_) ∧ some k_ ≠ (u10 : Value).ownBlock)) (zqR HO_3.out) hg hat); replace HO_10 := Aside0.mk (Kd.R_after (ok := (fun k_ => (P3_ k_ ∨ w.heap.size ≤ k_) ∧ some k_ ≠ (.slice Ao12 l3.length co12 : Value).ownBlock)) (zqR HO_10.out) hg hat); replace HB := Aside0.mk (hb); replace HK := Aside0.mk (Kept.of_grown (S := (fun k_ => P3_ k_)) hg zq14 (fun k_ e_ => (HO586.out.1 k_ e_).1.1.1)); have HO589 := Aside0.mk (ho); clear HO586; clear ho hb hg hat; obtain ⟨Ao30, co30, eo30⟩ := Kd.R_slice HO589.out; subst eo30) | ((with_reducible refine gate_callee (f := 45) rfl ?_); refine goesL_ (some 55) rfl rfl Try.func45 (by kernel_rfl) rfl #[.slice A0 l0.length c0, .slice A1 l1.length c1, .int .i64 a2, .slice Ao30 y587.length co30] rfl zq1 ?_; (with_reducible refine (ih k1 (by have := HK1.out; omega) _ _ l0 _ _ l1 a2 (fun k_ => some k_ = (.slice Ao30 y587.length co30 : Value).ownBlock) (.slice Ao30 y587.length co30) y587 t590 t593 w0 _ ?side1 ?side2 ?side3 ?side4 ?side5 ?side6 A22.out).mono ?_); (case side1 => exact zq0); (case side2 => exact Kd.C_kept_call HR0.out zq14 (fun k_ hs_ => (fun e_ => (HO589.out.1 k_ e_.symm).1) hs_)); (case side3 => exact HC0.out); (case side4 => exact Kd.C_kept_call HR1.out zq14 (fun k_ hs_ => (fun e_ => (HO589.out.1 k_ e_.symm).1) hs_)); (case side5 => exact HC1.out); (case side6 => exact Kd.R_tight rfl HO589.out); rintro e w31 ⟨v591, rfl, ho0, hb, hkp⟩; refine ⟨_, rfl, ?_⟩; have HO592 := Aside0.mk (Kd.R_mono (ok' := fun k_ => (P3_ k_ ∨ w.heap.size ≤ k_) ∧ some k_ ≠ (.slice Ao12 l3.length co12 : Value).ownBlock ∧ some k_ ≠ (u10 : Value).ownBlock) ho0 (fun k_ hk_ => ⟨Or.elim hk_ (fun hs_ => (HO589.out.1 k_ (hs_).symm).1) (fun hn_ => (.inr (Nat.le_trans (by first | exact HK.out.1 | exact (show Kept w _ (fun k_ => P3_ k_) from by repeat (first | (with_reducible first | exact HK.out | apply Kept.alloc | apply Kept.drewN | apply Kept.drew) | exact HK.out)).1) hn_))), Or.elim hk_ (fun hs_ => fun e_ => (((HO_3.out).1 k_ e_.symm).2) hs_) (fun hn_ => (Kd.fresh' (Kd.R_lt (zqR HO_3.out)) k_ hn_)), Or.elim hk_ (fun hs_ => fun e_ => (((HO_10.out).1 k_ e_.symm).2) hs_) (fun hn_ => (Kd.fresh' (Kd.R_lt (zqR HO_10.out)) k_ hn_))⟩)); replace HO_3 := Aside0.mk (Kd.R_mono (ok' := fun k_ => (P3_ k_ ∨ w.heap.size ≤ k_) ∧ some k_ ≠ (u10 : Value).ownBlock ∧ some k_ ≠ (v591 : Value).ownBlock) (Kd.R_keptB (HO_3.out) hkp (fun k_ hk_ hs_ => (hk_.2) hs_)) (fun k_ hk_ => ⟨hk_.1.1.1, hk_.1.1.2, fun e_ => Or.elim (ho0.1 k_ e_.symm) (fun hs_ => hk_.2.1 hs_) (fun hn_ => Nat.not_le.2 hk_.2.2 hn_)⟩)); replace HO_10 := Aside0.mk (Kd.R_mono (ok' := fun k_ => (P3_ k_ ∨ w.heap.size ≤ k_) ∧ some k_ ≠ (.slice Ao12 l3.length co12 : Value).ownBlock ∧ some k_ ≠ (v591 : Value).ownBlock) (Kd.R_keptB (HO_10.out) hkp (fun k_ hk_ hs_ => (hk_.2) hs_)) (fun k_ hk_ => ⟨hk_.1.1.1, hk_.1.1.2, fun e_ => Or.elim (ho0.1 k_ e_.symm) (fun hs_ => hk_.2.1 hs_) (fun hn_ => Nat.not_le.2 hk_.2.2 hn_)⟩)); replace HK := Aside0.mk (Kept.then_ (S := (fun k_ => P3_ k_)) zq14 hkp (fun k_ hs_ => (fun e_ => (HO589.out.1 k_ e_.symm).1) hs_)); replace HB := Aside0.mk (hb); clear HO589; (try clear hb); (try clear hkp); (try clear ho0)))
   go_roundg k1
   case measure => have := HK1.out; omega
   case rel => exact ⟨(x10_1), (x11_1), (wrap64 (x12_1 + 1)), (by first | rfl | (simp; done) | (simp [*]; done)), (by first | rfl | (simp; done) | (simp [*]; done)), H', ⟨by have := HK1.out; omega⟩, ⟨by (with_reducible repeat (first | apply Kd.R_alloc | apply Kd.R_drewN | apply Kd.R_drew)); exact Kd.R_mono HO_3.out (fun _ hk => ⟨hk.1, hk.2.1⟩)⟩, ⟨by (with_reducible repeat (first | apply Kd.R_alloc | apply Kd.R_drewN | apply Kd.R_drew)); exact Kd.R_mono HO_10.out (fun _ hk => ⟨hk.1, hk.2.1⟩)⟩, ⟨zq14⟩, ⟨zq0⟩⟩
  rw [if_pos c23] at H
  have c23b0 : decide (t593 < x11_1) = true := decide_eq_true c23
  clear c23
  have H' := Aside0.mk H
  clear H
  go_wp2_with (first | ((with_reducible refine gate_callee (f := 53) rfl ?_); refine goesL_ (some 45) rfl rfl Try.func53 (by kernel_rfl) rfl #[.slice Ao12 l3.length co12, .int .i64 x12_1] rfl zq1 ?_; (with_reducible refine (spec_l1Has.calls k1 _ _ l3 x12_1 false _ ?side1 ?side2 A18.out).mono ?_); (case side1 => exact zqC (Kd.R_reads' HO_3.out).2.2); (case side2 => exact (Kd.R_reads' HO_3.out).2.1); rintro e w' ⟨rfl, ⟨nd, rfl⟩⟩; refine ⟨_, rfl, ?_⟩) | ((with_reducible refine gate_callee (f := 76) rfl ?_); refine goesL_ (some 51) rfl rfl Try.func76 (by kernel_rfl) rfl #[.slice Ao12 l3.length co12] rfl zq1 ?_; (with_reducible refine (spec_l1Own.calls _ _ l3 t584 _ ?side1 ?side2 A20.out).mono ?_); (case side1 => exact zqC (Kd.R_reads' HO_3.out).2.2); (case side2 => exact (Kd.R_reads' HO_3.out).2.1); rintro e w24 ⟨v585, rfl, ho0, hb⟩; refine ⟨_, rfl, ?_⟩; have HO586 := Aside0.mk (Kd.R_lower (Kd.R_new' (Kd.R_new' (Kd.R_newM (M := fun k_ => (P3_ k_ ∨ w.heap.size ≤ k_)) ho0 (by first | exact HK.out.1 | exact (show Kept w _ (fun k_ => P3_ k_) from by repeat (first | (with_reducible first | exact HK.out | apply Kept.alloc | apply Kept.drewN | apply Kept.drew) | exact HK.out)).1) (fun k_ h_ => .inr h_)) (Kd.R_lt (zqR HO_3.out))) (Kd.R_lt (zqR HO_10.out))) (below_size zq0)); replace HO_3 := Aside0.mk (Kd.R_elder' (zqR HO_3.out) (Kd.R_base ho0) hb); replace HO_10 := Aside0.mk (Kd.R_elder' (zqR HO_10.out) (Kd.R_base ho0) hb); replace HK := Aside0.mk (Kept.below (S := (fun k_ => P3_ k_)) zq14 hb); replace HB := Aside0.mk (below_step zq0 hb); (try clear hb); (try clear hb2); (try clear hk); (try clear hi); (try clear ho0)) | ((with_reducible refine gate_builtin (b := .append) (xs := #[.tmp 51, .tmp 53]) rfl ?_); at_builtin; refine Kd.R_append (Kd.int .i64) (w0 := w0) w0.heap.size rfl (.tmp 51) (.tmp 53) 22 3 (.int .i64 0) 8 rfl Try.underlying22 info3 rfl (by decide) (by omega) v585 t584 x12_1 [.int .i64 x12_1] (fun k_ => (P3_ k_ ∨ w.heap.size ≤ k_) ∧ some k_ ≠ (.slice Ao12 l3.length co12 : Value).ownBlock ∧ some k_ ≠ (u10 : Value).ownBlock) (fun _ => False) rfl rfl ?aP (fun _ hk => hk.elim) ?aF ?aO ?aB ?aS ?aL ?_; (case aP => exact rfl); (case aB => exact zq0); (case aF => exact (fun k_ hk => ⟨(.inr (Nat.le_trans (by first | exact HK.out.1 | exact (show Kept w _ (fun k_ => P3_ k_) from by repeat (first | (with_reducible first | exact HK.out | apply Kept.alloc | apply Kept.drewN | apply Kept.drew) | exact HK.out)).1) hk)), Kd.fresh' (Kd.R_lt (zqR HO_3.out)) k_ hk, Kd.fresh' (Kd.R_lt (zqR HO_10.out)) k_ hk⟩)); (case aO => exact (by (with_reducible repeat (first | apply Kd.R_alloc | apply Kd.R_drewN | apply Kd.R_drew)); exact Kd.R_mono HO586.out (fun _ hk => ⟨hk.1.1.1, ⟨hk.1.2, hk.2⟩⟩))); (case aS => exact (below_size zq0)); (case aL => have := LMc21.out; omega); intro v588 w25 ho hb hg hat; rw [← Ny587.out] at ho; replace HO_3 := Aside0.mk (Kd.R_after (ok := (fun k_ => (P3_ k_ ∨ w.heap.size ≤ k_) ∧ some k_ ≠ (u10 : Value).ownBlock)) (zqR HO_3.out) hg hat); replace HO_10 := Aside0.mk (Kd.R_after (ok := (fun k_ => (P3_ k_ ∨ w.heap.size ≤ k_) ∧ some k_ ≠ (.slice Ao12 l3.length co12 : Value).ownBlock)) (zqR HO_10.out) hg hat); replace HB := Aside0.mk (hb); replace HK := Aside0.mk (Kept.of_grown (S := (fun k_ => P3_ k_)) hg zq14 (fun k_ e_ => (HO586.out.1 k_ e_).1.1.1)); have HO589 := Aside0.mk (ho); clear HO586; clear ho hb hg hat; obtain ⟨Ao26, co26, eo26⟩ := Kd.R_slice HO589.out; subst eo26) | ((with_reducible refine gate_callee (f := 45) rfl ?_); refine goesL_ (some 55) rfl rfl Try.func45 (by kernel_rfl) rfl #[.slice A0 l0.length c0, .slice A1 l1.length c1, .int .i64 a2, .slice Ao26 y587.length co26] rfl zq1 ?_; (with_reducible refine (ih k1 (by have := HK1.out; omega) _ _ l0 _ _ l1 a2 (fun k_ => some k_ = (.slice Ao26 y587.length co26 : Value).ownBlock) (.slice Ao26 y587.length co26) y587 t590 t593 w0 _ ?side1 ?side2 ?side3 ?side4 ?side5 ?side6 A22.out).mono ?_); (case side1 => exact zq0); (case side2 => exact Kd.C_kept_call HR0.out zq14 (fun k_ hs_ => (fun e_ => (HO589.out.1 k_ e_.symm).1) hs_)); (case side3 => exact HC0.out); (case side4 => exact Kd.C_kept_call HR1.out zq14 (fun k_ hs_ => (fun e_ => (HO589.out.1 k_ e_.symm).1) hs_)); (case side5 => exact HC1.out); (case side6 => exact Kd.R_tight rfl HO589.out); rintro e w27 ⟨v591, rfl, ho0, hb, hkp⟩; refine ⟨_, rfl, ?_⟩; have HO592 := Aside0.mk (Kd.R_mono (ok' := fun k_ => (P3_ k_ ∨ w.heap.size ≤ k_) ∧ some k_ ≠ (.slice Ao12 l3.length co12 : Value).ownBlock ∧ some k_ ≠ (u10 : Value).ownBlock) ho0 (fun k_ hk_ => ⟨Or.elim hk_ (fun hs_ => (HO589.out.1 k_ (hs_).symm).1) (fun hn_ => (.inr (Nat.le_trans (by first | exact HK.out.1 | exact (show Kept w _ (fun k_ => P3_ k_) from by repeat (first | (with_reducible first | exact HK.out | apply Kept.alloc | apply Kept.drewN | apply Kept.drew) | exact HK.out)).1) hn_))), Or.elim hk_ (fun hs_ => fun e_ => (((HO_3.out).1 k_ e_.symm).2) hs_) (fun hn_ => (Kd.fresh' (Kd.R_lt (zqR HO_3.out)) k_ hn_)), Or.elim hk_ (fun hs_ => fun e_ => (((HO_10.out).1 k_ e_.symm).2) hs_) (fun hn_ => (Kd.fresh' (Kd.R_lt (zqR HO_10.out)) k_ hn_))⟩)); replace HO_3 := Aside0.mk (Kd.R_mono (ok' := fun k_ => (P3_ k_ ∨ w.heap.size ≤ k_) ∧ some k_ ≠ (u10 : Value).ownBlock ∧ some k_ ≠ (v591 : Value).ownBlock) (Kd.R_keptB (HO_3.out) hkp (fun k_ hk_ hs_ => (hk_.2) hs_)) (fun k_ hk_ => ⟨hk_.1.1.1, hk_.1.1.2, fun e_ => Or.elim (ho0.1 k_ e_.symm) (fun hs_ => hk_.2.1 hs_) (fun hn_ => Nat.not_le.2 hk_.2.2 hn_)⟩)); replace HO_10 := Aside0.mk (Kd.R_mono (ok' := fun k_ => (P3_ k_ ∨ w.heap.size ≤ k_) ∧ some k_ ≠ (.slice Ao12 l3.length co12 : Value).ownBlock ∧ some k_ ≠ (v591 : Value).ownBlock) (Kd.R_keptB (HO_10.out) hkp (fun k_ hk_ hs_ => (hk_.2) hs_)) (fun k_ hk_ => ⟨hk_.1.1.1, hk_.1.1.2, fun e_ => Or.elim (ho0.1 k_ e_.symm) (fun hs_ => hk_.2.1 hs_) (fun hn_ => Nat.not_le.2 hk_.2.2 hn_)⟩)); replace HK := Aside0.mk (Kept.then_ (S := (fun k_ => P3_ k_)) zq14 hkp (fun k_ hs_ => (fun e_ => (HO589.out.1 k_ e_.symm).1) hs_)); replace HB := Aside0.mk (hb); clear HO589; (try clear hb); (try clear hkp); (try clear ho0)))
  go_roundg k1
  case measure => have := HK1.out; omega
  case rel => exact ⟨(t590), (t593), (wrap64 (x12_1 + 1)), (by first | rfl | (simp; done) | (simp [*]; done)), (by first | rfl | (simp; done) | (simp [*]; done)), H', ⟨by have := HK1.out; omega⟩, ⟨by (with_reducible repeat (first | apply Kd.R_alloc | apply Kd.R_drewN | apply Kd.R_drew)); exact Kd.R_mono HO_3.out (fun _ hk => ⟨hk.1, hk.2.2⟩)⟩, ⟨by (with_reducible repeat (first | apply Kd.R_alloc | apply Kd.R_drewN | apply Kd.R_drew)); exact Kd.R_mono HO592.out (fun _ hk => ⟨hk.1, hk.2.1⟩)⟩, ⟨zq14⟩, ⟨zq0⟩⟩
def spec_l12Length.l0 : Nat → List (List (S49)) → Int → Int → Int → Int → Option (Int)
 | 0, _, _, _, _, _ => none
 | k + 1, x0, x1, x2, x3, x9 => if (wrap64 (x2 + 1)) < (x0.length : Int) then (if 0 ≤ x2 then (if x2 < (x0.length : Int) then (if 0 ≤ (wrap64 (x2 + 1)) then ((spec_l12Best.f k (rd_L8 x0 x2) (rd_L8 x0 (wrap64 (x2 + 1))) x1 (([] : List Int))).bind fun bt599 => (if 0 ≤ x3 then (if x3 < (bt599.1.length : Int) then (if (rd bt599.1 x3) < 0 then (some x9) else (spec_l12Length.l0 k x0 x1 (wrap64 (x2 + 1)) (rd bt599.1 x3) (wrap64 (x9 + 1)))) else (none)) else (none))) else (none)) else (none)) else (none)) else (some x9)
def spec_l12Length.f (k : Nat) (l0 : List (List (S49))) (a1 : Int) (a2 : Int) (a3 : Int) : Option (Int) := spec_l12Length.l0 k l0 a1 a2 a3 1
def spec_l12Length.T3 : Bool × List (List Nat × List Nat) := (true, [([], []), ([], []), ([0, 1], [0, 1]), ([2], [2]), ([], []), ([], []), ([5], [5]), ([4, 6], [4, 6]), ([7], [7]), ([], []), ([], []), ([3, 8, 9, 10], [3, 8, 9, 10]), ([11], [11]), ([12], [12]), ([12], [12]), ([13, 11, 0, 1, 2, 3, 4, 5, 6, 7, 8, 9, 10, 11, 12, 13], [13]), ([14, 15, 0, 1, 2, 3, 4, 5, 6, 7, 8, 9, 10, 11, 12, 13, 14, 15], [14])])
def spec_l12Length.B3 : List Nat := [0, 0, 3, 7, 0, 0, 32, 112, 240, 0, 0, 2047, 4095, 8191, 8191, 16383, 65535]
theorem spec_l12Length.tab3 : rtab .any (opsOf Try.f43 3) = spec_l12Length.T3 := by kernel_rfl
theorem spec_l12Length.bits3 : waitsOk spec_l12Length.T3.2 spec_l12Length.B3 = true := by kernel_rfl
set_option maxHeartbeats 8000000 in
set_option maxRecDepth 100000 in
theorem spec_l12Length.calls (k : Nat) (A0 : Option Addr) (c0 : Nat) (l0 : List (List (S49))) (a1 : Int) (a2 : Int) (a3 : Int) (r : Int) (w : World) (hr0 : Kd.C (Kd.slice 49 k49) w A0 l0.length l0) (hc0 : l0.length ≤ c0) (h : spec_l12Length.f k l0 a1 a2 a3 = some r) :
  Calls Try.prog 43 #[.slice A0 l0.length c0, .int .i64 a1, .int .i64 a2, .int .i64 a3] w fun e w' => e = .returned (.int .i64 r) ∧ Below w.heap.size w w' := by
 have HR0 := Aside0.mk hr0
 have HC0 := Aside0.mk hc0
 clear hr0 hc0
 have HB := Aside0.mk (Below.refl w.heap.size w)
 have H : (spec_l12Length.l0 k l0 a1 a2 a3 1) = some r := h
 clear h
 have H' := Aside0.mk H
 clear H
 go_enter Try.func43, Try.ntmps43
 go_wp2
 go_loopg [2, 3, 9] k (fun kq v2 v3 v9 w' => ∃ (x2_1 : Int) (x3_1 : Int) (x9_1 : Int), v2 = .int .i64 x2_1 ∧ v3 = .int .i64 x3_1 ∧ v9 = .int .i64 x9_1 ∧ Aside0 (spec_l12Length.l0 kq l0 a1 x2_1 x3_1 x9_1 = some r) ∧ Aside0 (kq ≤ k) ∧ Aside0 (Below w.heap.size w w'))
 case atStart => exact ⟨(a2), (a3), (1), (by first | rfl | (simp; done) | (simp [*]; done)), (by first | rfl | (simp; done) | (simp [*]; done)), (by first | rfl | (simp; done) | (simp [*]; done)), H', ⟨Nat.le_refl _⟩, ⟨zq0⟩⟩
 clear H'
 try clear p2
 try clear c4
 obtain ⟨x2_1, x3_1, x9_1, rfl, rfl, rfl, HA, HK1, HB⟩ := hrel
 cases gk with
 | zero => exact absurd HA.out (by simp [spec_l12Length.l0])
 | succ k1 =>
  have H := HA.out
  clear HA
  simp only [spec_l12Length.l0] at H
  by_cases c5 : (wrap64 (x2_1 + 1)) < (l0.length : Int)
  case neg =>
   rw [if_neg c5] at H
   have c5b0 : decide ((wrap64 (x2_1 + 1)) < (l0.length : Int)) = false := decide_eq_false c5
   clear c5
   obtain rfl := Option.some.inj H
   go_wp2
   go_ret
   exact ⟨zqE, zq0⟩
  rw [if_pos c5] at H
  have c5b0 : decide ((wrap64 (x2_1 + 1)) < (l0.length : Int)) = true := decide_eq_true c5
  clear c5
  by_cases c6 : 0 ≤ x2_1
  case neg =>
   rw [if_neg c6] at H
   exact absurd H (by simp)
  rw [if_pos c6] at H
  have c6b0 : decide (0 ≤ x2_1) = true := decide_eq_true c6
  clear c6
  by_cases c7 : x2_1 < (l0.length : Int)
  case neg =>
   rw [if_neg c7] at H
   exact absurd H (by simp)
  rw [if_pos c7] at H
  have c7b0 : decide (x2_1 < (l0.length : Int)) = true := decide_eq_true c7
  clear c7
  obtain ⟨ji8, hji8⟩ : ∃ j_ : Int, (wrap64 (x2_1 + 1)) = j_ := ⟨_, rfl⟩
  replace H : (if 0 ≤ (ji8) then ((spec_l12Best.f k1 (rd_L8 l0 x2_1) (rd_L8 l0 (ji8)) a1 (([] : List Int))).bind fun bt599 => (if 0 ≤ x3_1 then (if x3_1 < (bt599.1.length : Int) then (if (rd bt599.1 x3_1) < 0 then (some x9_1) else (spec_l12Length.l0 k1 l0 a1 ji8 (rd bt599.1 x3_1) (wrap64 (x9_1 + 1)))) else (none)) else (none))) else (none)) = some r := by first | (rw [hji8] at H; exact H) | (simp only [hji8] at H ⊢; exact H)
  (try rw [hji8] at c5b0)
  have hji8w : (IntKind.i64.wrap (x2_1 + 1)) = ji8 := (i64_w _).trans hji8
  by_cases c9 : 0 ≤ (ji8)
  case neg =>
   rw [if_neg c9] at H
   exact absurd H (by simp)
  rw [if_pos c9] at H
  have c9b0 : decide (0 ≤ (ji8)) = true := decide_eq_true c9
  clear c9
  obtain ⟨y596, hy596⟩ : ∃ y_ : List Int, y_ = (([] : List Int)) := ⟨_, rfl⟩
  replace H : ((spec_l12Best.f k1 (rd_L8 l0 x2_1) (rd_L8 l0 (ji8)) a1 y596).bind fun bt599 => (if 0 ≤ x3_1 then (if x3_1 < (bt599.1.length : Int) then (if (rd bt599.1 x3_1) < 0 then (some x9_1) else (spec_l12Length.l0 k1 l0 a1 ji8 (rd bt599.1 x3_1) (wrap64 (x9_1 + 1)))) else (none)) else (none))) = some r := zqH hy596 H
  have Ny596 := Aside0.mk hy596
  clear hy596
  replace H := Option.bind_eq_some_iff.mp H
  obtain ⟨⟨t599, t602⟩, A100, H⟩ := H
  replace H : (if 0 ≤ x3_1 then (if x3_1 < (t599.length : Int) then (if (rd t599 x3_1) < 0 then (some x9_1) else (spec_l12Length.l0 k1 l0 a1 ji8 (rd t599 x3_1) (wrap64 (x9_1 + 1)))) else (none)) else (none)) = some r := H
  have A10 := Aside0.mk A100
  clear A100
  by_cases c11 : 0 ≤ x3_1
  case neg =>
   rw [if_neg c11] at H
   exact absurd H (by simp)
  rw [if_pos c11] at H
  have c11b0 : decide (0 ≤ x3_1) = true := decide_eq_true c11
  clear c11
  by_cases c12 : x3_1 < (t599.length : Int)
  case neg =>
   rw [if_neg c12] at H
   exact absurd H (by simp)
  rw [if_pos c12] at H
  have c12b0 : decide (x3_1 < (t599.length : Int)) = true := decide_eq_true c12
  clear c12
  by_cases c13 : (rd t599 x3_1) < 0
  case pos =>
   rw [if_pos c13] at H
   have c13b0 : decide ((rd t599 x3_1) < 0) = true := decide_eq_true c13
   clear c13
   obtain rfl := Option.some.inj H
   try go_wp2
   have n0_ := Aside0.mk (below_drew1 HB.out)
   clear HB
   have HB := n0_
   clear n0_
   have p594 : 0 ≤ (x2_1 : Int) := of_decide_eq_true zq2
   have q594 : x2_1 < (l0.length : Int) := of_decide_eq_true zq2
   obtain ⟨ad594, A594_0, c594_0, e594, hx594_0, hl594_0, hi594_0⟩ := at_L8 HR0.out x2_1 p594 q594
   have hw594_0 := hx594_0
   cases e594
   replace hx594_0 := bx HB.out hx594_0
   have HR594_0 := Aside0.mk hi594_0
   have HC594_0 := Aside0.mk hl594_0
   clear hi594_0 hl594_0
   replace p594 := eq_true p594
   replace q594 := eq_true q594
   have p595 : 0 ≤ ((ji8) : Int) := of_decide_eq_true zq2
   have q595 : (ji8) < (l0.length : Int) := of_decide_eq_true zq2
   obtain ⟨ad595, A595_0, c595_0, e595, hx595_0, hl595_0, hi595_0⟩ := at_L8 HR0.out (ji8) p595 q595
   have hw595_0 := hx595_0
   obtain rfl : ad594 = ad595 := (by injection e595)
   replace hx595_0 := bx HB.out hx595_0
   have HR595_0 := Aside0.mk hi595_0
   have HC595_0 := Aside0.mk hl595_0
   clear hi595_0 hl595_0
   replace p595 := eq_true p595
   replace q595 := eq_true q595
   refine start_ (n := 17) (S := fun w' => w'.cell? (ad594.add (x2_1).toNat) = some (.slice A594_0 (rd_L8 l0 x2_1).length c594_0) ∧ w'.cell? (ad594.add ((ji8)).toNat) = some (.slice A595_0 (rd_L8 l0 (ji8)).length c595_0)) (ds := []) #[false, false, false, false, false, false, false, false, false, false, false, false, false, false, false, false, false] (by kernel_rfl) rfl rfl ⟨((HB.out.cell (World.block_lt_of_cell? w _ hw594_0)).trans hw594_0), ((HB.out.cell (World.block_lt_of_cell? w _ hw595_0)).trans hw595_0)⟩ (fun hHeld => ?_); refine with_tabW spec_l12Length.tab3 spec_l12Length.bits3 (fun HT_ HW_ => ?_)
   generalize wr.drew = w14 at HB HR594_0 HR595_0 hx594_0 hx595_0 hHeld ⊢
   refine zP 0 (some 18) #[zt, zf, zf, zf, zf, zf, zf, zf, zf, zf, zf, zf, zf, zf, zf, zf, zf] ?_ rfl rfl HT_ (Or.inl ⟨by rfl, ?_⟩) ?_ ?_ ?_
   rotate_left; · exact zqB
   rotate_left; · exact zqA
   refine zP 1 (some 19) #[zt, zt, zf, zf, zf, zf, zf, zf, zf, zf, zf, zf, zf, zf, zf, zf, zf] ?_ rfl rfl HT_ (Or.inl ⟨by rfl, ?_⟩) ?_ ?_ ?_
   rotate_left; · exact zqB
   rotate_left; · exact zqA
   refine zP 2 (some 20) #[zt, zt, zt, zf, zf, zf, zf, zf, zf, zf, zf, zf, zf, zf, zf, zf, zf] ?_ rfl rfl HT_ (Or.inl ⟨by rfl, ?_⟩) ?_ ?_ ?_
   rotate_left; · exact zqB
   rotate_left; · exact zqA
   refine zP 4 (some 22) #[zt, zt, zt, zf, zt, zf, zf, zf, zf, zf, zf, zf, zf, zf, zf, zf, zf] ?_ rfl rfl HT_ (Or.inl ⟨by rfl, ?_⟩) ?_ ?_ ?_
   rotate_left; · exact zqB
   rotate_left; · exact zqA
   refine zP 5 (some 23) #[zt, zt, zt, zf, zt, zt, zf, zf, zf, zf, zf, zf, zf, zf, zf, zf, zf] ?_ rfl rfl HT_ (Or.inl ⟨by rfl, ?_⟩) ?_ ?_ ?_
   rotate_left; · exact zqB
   rotate_left; · exact zqA
   refine zP 6 (some 24) #[zt, zt, zt, zf, zt, zt, zt, zf, zf, zf, zf, zf, zf, zf, zf, zf, zf] ?_ rfl rfl HT_ (Or.inl ⟨by rfl, ?_⟩) ?_ ?_ ?_
   rotate_left; · exact zqB
   rotate_left; · exact zqA
   refine zP 7 (some 25) #[zt, zt, zt, zf, zt, zt, zt, zt, zf, zf, zf, zf, zf, zf, zf, zf, zf] ?_ rfl rfl HT_ (Or.inl ⟨by rfl, ?_⟩) ?_ ?_ ?_
   rotate_left; · exact zqB
   rotate_left; · exact zqA
   refine zP 9 (some 27) #[zt, zt, zt, zf, zt, zt, zt, zt, zf, zt, zf, zf, zf, zf, zf, zf, zf] ?_ rfl rfl HT_ (Or.inl ⟨by rfl, ?_⟩) ?_ ?_ ?_
   rotate_left; · exact zqB
   rotate_left; · exact zqA
   refine zT 3 (some 21) #[zt, zt, zt, zt, zt, zt, zt, zt, zf, zt, zf, zf, zf, zf, zf, zf, zf] ?_ rfl rfl HT_ HW_ (Or.inl ⟨by rfl, ?_⟩) hHeld ?_ ?_ ?_
   rotate_left
   ·
    rintro w' ⟨s0, s1⟩
    go_simp
    with_reducible rfl
   rotate_left; · exact zqA
   refine zT 8 (some 26) #[zt, zt, zt, zt, zt, zt, zt, zt, zt, zt, zf, zf, zf, zf, zf, zf, zf] ?_ rfl rfl HT_ HW_ (Or.inl ⟨by rfl, ?_⟩) hHeld ?_ ?_ ?_
   rotate_left
   ·
    rintro w' ⟨s0, s1⟩
    go_simp
    with_reducible rfl
   rotate_left; · exact zqA
   refine one_ (i := 10) (N := some 28) #[zt, zt, zt, zt, zt, zt, zt, zt, zt, zt, zt, zf, zf, zf, zf, zf, zf] rfl rfl (one_of HT_.out (by kernel_rfl)) (by decide) (fun K hK => ?_)
   refine Kd.R_lit_step (Kd.int .i64) _ 3 ?hg (N := 28) ?hd (xs := ([] : List Int)) (inner := []) (ok := fun _ => True) (okp := fun _ => True) ?hr ?hp (fun _ hk => hk) trivial (Below.refl _ _) (Nat.le_refl _) (by simp) ?_; (case hd => rfl); (case hg => rfl); (case hr => exact zqS); (case hp => exact (Reps.none _ _))
   intro v597 w15 ho16 hb hg_ hnew_
   clear hg_ hnew_
   (first | rw [← Ny596.out] at ho16 | (simp only [Int.reduceToNat] at ho16; rw [← Ny596.out] at ho16))
   have n0_ := Aside0.mk (Kd.R_lower ho16 (below_size zq0))
   have n1_ := Aside0.mk (below_step zq0 hb)
   clear HB
   have HO598 := n0_
   have HB := n1_
   clear n0_ n1_
   clear hb ho16
   obtain ⟨Ao17, co17, eo17⟩ := Kd.R_slice HO598.out
   (first | subst eo17 | (injection eo17 with f1_ f2_ f3_; have f4_ := f1_.symm; have f5_ := f3_.symm; clear f1_ f2_ f3_; subst f4_; subst f5_))
   refine hK.out _ _ ⟨((HB.out.cell (World.block_lt_of_cell? w _ hw594_0)).trans hw594_0), ((HB.out.cell (World.block_lt_of_cell? w _ hw595_0)).trans hw595_0)⟩ (fun hHeld => ?_)
   clear hK K
   refine norm_ (a' := ?_) ?_ ?_
   rotate_left
   ·
    show Act.put _ (some 28) _ = _
    simp only [Act.put, List.setIfInBounds_toArray, List.set_cons_zero, List.set_cons_succ, i64_w, i32_w]
    rfl
   refine one_ (i := 11) (N := some 29) #[zt, zt, zt, zt, zt, zt, zt, zt, zt, zt, zt, zt, zf, zf, zf, zf, zf] rfl rfl (one_of HT_.out (by kernel_rfl)) (by decide) (fun K hK => ?_)
   refine goes_ Try.func45 (by kernel_rfl) rfl #[.slice A594_0 (rd_L8 l0 x2_1).length c594_0, .slice A595_0 (rd_L8 l0 (ji8)).length c595_0, .int .i64 a1, .slice Ao17 y596.length co17] (by rfl) rfl rfl (by (try simp only [List.map_toArray, List.map_cons, List.map_nil]); first | done | (simp only [hji8]; rfl) | rfl | (simp only [List.length_drop, List.length_take]; rfl)) ?_
   with_reducible refine (spec_l12Best.calls k1 _ _ (rd_L8 l0 x2_1) _ _ (rd_L8 l0 (ji8)) a1 (fun k_ => some k_ = (.slice Ao17 y596.length co17 : Value).ownBlock) (.slice Ao17 y596.length co17) y596 t599 t602 w _ ?side1 ?side2 ?side3 ?side4 ?side5 ?side6 A10.out).mono ?_
   (case side1 => exact zq0)
   (case side2 => exact Kd.C_kept_came k49_heap HR594_0.out zq0 (fun k_ hs_ => (fun e_ => Kd.R_base HO598.out k_ e_.symm) hs_))
   (case side3 => exact HC594_0.out)
   (case side4 => exact Kd.C_kept_came k49_heap HR595_0.out zq0 (fun k_ hs_ => (fun e_ => Kd.R_base HO598.out k_ e_.symm) hs_))
   (case side5 => exact HC595_0.out)
   (case side6 => exact Kd.R_tight rfl HO598.out)
   rintro e w18 ⟨v600, rfl, ho0, hb, hkp⟩
   refine ⟨_, rfl, ?_⟩
   have n0_ := Aside0.mk (Kd.R_mono (ok' := fun k_ => True) ho0 (fun k_ hk_ => trivial))
   have n1_ := Aside0.mk (hb)
   clear HB
   clear HO598
   have HO601 := n0_
   have HB := n1_
   clear n0_ n1_
   (try clear hb)
   (try clear hkp)
   (try clear ho0)
   refine hK.out _ _ ⟨((HB.out.cell (World.block_lt_of_cell? w _ hw594_0)).trans hw594_0), ((HB.out.cell (World.block_lt_of_cell? w _ hw595_0)).trans hw595_0)⟩ (fun hHeld => ?_)
   clear hK K
   refine norm_ (a' := ?_) ?_ ?_
   rotate_left
   ·
    show Act.put _ (some 29) _ = _
    simp only [Act.put, List.setIfInBounds_toArray, List.set_cons_zero, List.set_cons_succ, i64_w, i32_w]
    rfl
   refine zP 12 (some 17) #[zt, zt, zt, zt, zt, zt, zt, zt, zt, zt, zt, zt, zt, zf, zf, zf, zf] ?_ rfl rfl HT_ (Or.inl ⟨by rfl, ?_⟩) ?_ ?_ ?_
   rotate_left; · exact zqB
   rotate_left; · exact zqA
   refine zP 13 (some 30) #[zt, zt, zt, zt, zt, zt, zt, zt, zt, zt, zt, zt, zt, zt, zf, zf, zf] ?_ rfl rfl HT_ (Or.inl ⟨by rfl, ?_⟩) ?_ ?_ ?_
   rotate_left; · exact zqB
   rotate_left; · exact zqA
   refine zP 14 (some 31) #[zt, zt, zt, zt, zt, zt, zt, zt, zt, zt, zt, zt, zt, zt, zt, zf, zf] ?_ rfl rfl HT_ (Or.inl ⟨by rfl, ?_⟩) ?_ ?_ ?_
   rotate_left; · exact zqB
   rotate_left; · exact zqA
   refine zP 15 (some 10) #[zt, zt, zt, zt, zt, zt, zt, zt, zt, zt, zt, zt, zt, zt, zt, zt, zf] ?_ rfl rfl HT_ (Or.inl ⟨by rfl, ?_⟩) ?_ ?_ ?_
   rotate_left; · exact zqB
   rotate_left; · exact zqA
   refine zP 16 (some 11) #[zt, zt, zt, zt, zt, zt, zt, zt, zt, zt, zt, zt, zt, zt, zt, zt, zt] ?_ rfl rfl HT_ (Or.inl ⟨by rfl, ?_⟩) ?_ ?_ ?_
   rotate_left; · exact zqB
   rotate_left; · exact zqA
   refine done_ (done_of HT_.out (by kernel_rfl)) ?_
   obtain ⟨Ao19, co19, eo19⟩ := Kd.R_slice HO601.out
   subst eo19
   have p603 : 0 ≤ (x3_1 : Int) := of_decide_eq_true zq2
   have q603 : x3_1 < (t599.length : Int) := of_decide_eq_true zq2
   obtain ⟨ad603, e603, hx603_0⟩ := Kd.at_int (Kd.R_reads' HO601.out).2.2 x3_1 p603 q603
   cases e603
   replace p603 := eq_true p603
   replace q603 := eq_true q603
   try go_wp2
   go_ret
   exact ⟨by first | rfl | (simp [errW_none, errW_some] <;> rfl) | (simp only [← hji8]; first | rfl | (simp [errW_none, errW_some] <;> rfl)) | (simp [*, errW_none, errW_some] <;> rfl), zq0⟩
  rw [if_neg c13] at H
  have c13b0 : decide ((rd t599 x3_1) < 0) = false := decide_eq_false c13
  clear c13
  have H' := Aside0.mk H
  clear H
  try go_wp2
  have n0_ := Aside0.mk (below_drew1 HB.out)
  clear HB
  have HB := n0_
  clear n0_
  have p594 : 0 ≤ (x2_1 : Int) := of_decide_eq_true zq2
  have q594 : x2_1 < (l0.length : Int) := of_decide_eq_true zq2
  obtain ⟨ad594, A594_0, c594_0, e594, hx594_0, hl594_0, hi594_0⟩ := at_L8 HR0.out x2_1 p594 q594
  have hw594_0 := hx594_0
  cases e594
  replace hx594_0 := bx HB.out hx594_0
  have HR594_0 := Aside0.mk hi594_0
  have HC594_0 := Aside0.mk hl594_0
  clear hi594_0 hl594_0
  replace p594 := eq_true p594
  replace q594 := eq_true q594
  have p595 : 0 ≤ ((ji8) : Int) := of_decide_eq_true zq2
  have q595 : (ji8) < (l0.length : Int) := of_decide_eq_true zq2
  obtain ⟨ad595, A595_0, c595_0, e595, hx595_0, hl595_0, hi595_0⟩ := at_L8 HR0.out (ji8) p595 q595
  have hw595_0 := hx595_0
  obtain rfl : ad594 = ad595 := (by injection e595)
  replace hx595_0 := bx HB.out hx595_0
  have HR595_0 := Aside0.mk hi595_0
  have HC595_0 := Aside0.mk hl595_0
  clear hi595_0 hl595_0
  replace p595 := eq_true p595
  replace q595 := eq_true q595
  refine start_ (n := 17) (S := fun w' => w'.cell? (ad594.add (x2_1).toNat) = some (.slice A594_0 (rd_L8 l0 x2_1).length c594_0) ∧ w'.cell? (ad594.add ((ji8)).toNat) = some (.slice A595_0 (rd_L8 l0 (ji8)).length c595_0)) (ds := []) #[false, false, false, false, false, false, false, false, false, false, false, false, false, false, false, false, false] (by kernel_rfl) rfl rfl ⟨((HB.out.cell (World.block_lt_of_cell? w _ hw594_0)).trans hw594_0), ((HB.out.cell (World.block_lt_of_cell? w _ hw595_0)).trans hw595_0)⟩ (fun hHeld => ?_); refine with_tabW spec_l12Length.tab3 spec_l12Length.bits3 (fun HT_ HW_ => ?_)
  generalize wr.drew = w20 at HB HR594_0 HR595_0 hx594_0 hx595_0 hHeld ⊢
  refine zP 0 (some 18) #[zt, zf, zf, zf, zf, zf, zf, zf, zf, zf, zf, zf, zf, zf, zf, zf, zf] ?_ rfl rfl HT_ (Or.inl ⟨by rfl, ?_⟩) ?_ ?_ ?_
  rotate_left; · exact zqB
  rotate_left; · exact zqA
  refine zP 1 (some 19) #[zt, zt, zf, zf, zf, zf, zf, zf, zf, zf, zf, zf, zf, zf, zf, zf, zf] ?_ rfl rfl HT_ (Or.inl ⟨by rfl, ?_⟩) ?_ ?_ ?_
  rotate_left; · exact zqB
  rotate_left; · exact zqA
  refine zP 2 (some 20) #[zt, zt, zt, zf, zf, zf, zf, zf, zf, zf, zf, zf, zf, zf, zf, zf, zf] ?_ rfl rfl HT_ (Or.inl ⟨by rfl, ?_⟩) ?_ ?_ ?_
  rotate_left; · exact zqB
  rotate_left; · exact zqA
  refine zP 4 (some 22) #[zt, zt, zt, zf, zt, zf, zf, zf, zf, zf, zf, zf, zf, zf, zf, zf, zf] ?_ rfl rfl HT_ (Or.inl ⟨by rfl, ?_⟩) ?_ ?_ ?_
  rotate_left; · exact zqB
  rotate_left; · exact zqA
  refine zP 5 (some 23) #[zt, zt, zt, zf, zt, zt, zf, zf, zf, zf, zf, zf, zf, zf, zf, zf, zf] ?_ rfl rfl HT_ (Or.inl ⟨by rfl, ?_⟩) ?_ ?_ ?_
  rotate_left; · exact zqB
  rotate_left; · exact zqA
  refine zP 6 (some 24) #[zt, zt, zt, zf, zt, zt, zt, zf, zf, zf, zf, zf, zf, zf, zf, zf, zf] ?_ rfl rfl HT_ (Or.inl ⟨by rfl, ?_⟩) ?_ ?_ ?_
  rotate_left; · exact zqB
  rotate_left; · exact zqA
  refine zP 7 (some 25) #[zt, zt, zt, zf, zt, zt, zt, zt, zf, zf, zf, zf, zf, zf, zf, zf, zf] ?_ rfl rfl HT_ (Or.inl ⟨by rfl, ?_⟩) ?_ ?_ ?_
  rotate_left; · exact zqB
  rotate_left; · exact zqA
  refine zP 9 (some 27) #[zt, zt, zt, zf, zt, zt, zt, zt, zf, zt, zf, zf, zf, zf, zf, zf, zf] ?_ rfl rfl HT_ (Or.inl ⟨by rfl, ?_⟩) ?_ ?_ ?_
  rotate_left; · exact zqB
  rotate_left; · exact zqA
  refine zT 3 (some 21) #[zt, zt, zt, zt, zt, zt, zt, zt, zf, zt, zf, zf, zf, zf, zf, zf, zf] ?_ rfl rfl HT_ HW_ (Or.inl ⟨by rfl, ?_⟩) hHeld ?_ ?_ ?_
  rotate_left
  ·
   rintro w' ⟨s0, s1⟩
   go_simp
   with_reducible rfl
  rotate_left; · exact zqA
  refine zT 8 (some 26) #[zt, zt, zt, zt, zt, zt, zt, zt, zt, zt, zf, zf, zf, zf, zf, zf, zf] ?_ rfl rfl HT_ HW_ (Or.inl ⟨by rfl, ?_⟩) hHeld ?_ ?_ ?_
  rotate_left
  ·
   rintro w' ⟨s0, s1⟩
   go_simp
   with_reducible rfl
  rotate_left; · exact zqA
  refine one_ (i := 10) (N := some 28) #[zt, zt, zt, zt, zt, zt, zt, zt, zt, zt, zt, zf, zf, zf, zf, zf, zf] rfl rfl (one_of HT_.out (by kernel_rfl)) (by decide) (fun K hK => ?_)
  refine Kd.R_lit_step (Kd.int .i64) _ 3 ?hg (N := 28) ?hd (xs := ([] : List Int)) (inner := []) (ok := fun _ => True) (okp := fun _ => True) ?hr ?hp (fun _ hk => hk) trivial (Below.refl _ _) (Nat.le_refl _) (by simp) ?_; (case hd => rfl); (case hg => rfl); (case hr => exact zqS); (case hp => exact (Reps.none _ _))
  intro v597 w21 ho22 hb hg_ hnew_
  clear hg_ hnew_
  (first | rw [← Ny596.out] at ho22 | (simp only [Int.reduceToNat] at ho22; rw [← Ny596.out] at ho22))
  have n0_ := Aside0.mk (Kd.R_lower ho22 (below_size zq0))
  have n1_ := Aside0.mk (below_step zq0 hb)
  clear HB
  have HO598 := n0_
  have HB := n1_
  clear n0_ n1_
  clear hb ho22
  obtain ⟨Ao23, co23, eo23⟩ := Kd.R_slice HO598.out
  (first | subst eo23 | (injection eo23 with f1_ f2_ f3_; have f4_ := f1_.symm; have f5_ := f3_.symm; clear f1_ f2_ f3_; subst f4_; subst f5_))
  refine hK.out _ _ ⟨((HB.out.cell (World.block_lt_of_cell? w _ hw594_0)).trans hw594_0), ((HB.out.cell (World.block_lt_of_cell? w _ hw595_0)).trans hw595_0)⟩ (fun hHeld => ?_)
  clear hK K
  refine norm_ (a' := ?_) ?_ ?_
  rotate_left
  ·
   show Act.put _ (some 28) _ = _
   simp only [Act.put, List.setIfInBounds_toArray, List.set_cons_zero, List.set_cons_succ, i64_w, i32_w]
   rfl
  refine one_ (i := 11) (N := some 29) #[zt, zt, zt, zt, zt, zt, zt, zt, zt, zt, zt, zt, zf, zf, zf, zf, zf] rfl rfl (one_of HT_.out (by kernel_rfl)) (by decide) (fun K hK => ?_)
  refine goes_ Try.func45 (by kernel_rfl) rfl #[.slice A594_0 (rd_L8 l0 x2_1).length c594_0, .slice A595_0 (rd_L8 l0 (ji8)).length c595_0, .int .i64 a1, .slice Ao23 y596.length co23] (by rfl) rfl rfl (by (try simp only [List.map_toArray, List.map_cons, List.map_nil]); first | done | (simp only [hji8]; rfl) | rfl | (simp only [List.length_drop, List.length_take]; rfl)) ?_
  with_reducible refine (spec_l12Best.calls k1 _ _ (rd_L8 l0 x2_1) _ _ (rd_L8 l0 (ji8)) a1 (fun k_ => some k_ = (.slice Ao23 y596.length co23 : Value).ownBlock) (.slice Ao23 y596.length co23) y596 t599 t602 w _ ?side1 ?side2 ?side3 ?side4 ?side5 ?side6 A10.out).mono ?_
  (case side1 => exact zq0)
  (case side2 => exact Kd.C_kept_came k49_heap HR594_0.out zq0 (fun k_ hs_ => (fun e_ => Kd.R_base HO598.out k_ e_.symm) hs_))
  (case side3 => exact HC594_0.out)
  (case side4 => exact Kd.C_kept_came k49_heap HR595_0.out zq0 (fun k_ hs_ => (fun e_ => Kd.R_base HO598.out k_ e_.symm) hs_))
  (case side5 => exact HC595_0.out)
  (case side6 => exact Kd.R_tight rfl HO598.out)
  rintro e w24 ⟨v600, rfl, ho0, hb, hkp⟩
  refine ⟨_, rfl, ?_⟩
  have n0_ := Aside0.mk (Kd.R_mono (ok' := fun k_ => True) ho0 (fun k_ hk_ => trivial))
  have n1_ := Aside0.mk (hb)
  clear HB
  clear HO598
  have HO601 := n0_
  have HB := n1_
  clear n0_ n1_
  (try clear hb)
  (try clear hkp)
  (try clear ho0)
  refine hK.out _ _ ⟨((HB.out.cell (World.block_lt_of_cell? w _ hw594_0)).trans hw594_0), ((HB.out.cell (World.block_lt_of_cell? w _ hw595_0)).trans hw595_0)⟩ (fun hHeld => ?_)
  clear hK K
  refine norm_ (a' := ?_) ?_ ?_
  rotate_left
  ·
   show Act.put _ (some 29) _ = _
   simp only [Act.put, List.setIfInBounds_toArray, List.set_cons_zero, List.set_cons_succ, i64_w, i32_w]
   rfl
  refine zP 12 (some 17) #[zt, zt, zt, zt, zt, zt, zt, zt, zt, zt, zt, zt, zt, zf, zf, zf, zf] ?_ rfl rfl HT_ (Or.inl ⟨by rfl, ?_⟩) ?_ ?_ ?_
  rotate_left; · exact zqB
  rotate_left; · exact zqA
  refine zP 13 (some 30) #[zt, zt, zt, zt, zt, zt, zt, zt, zt, zt, zt, zt, zt, zt, zf, zf, zf] ?_ rfl rfl HT_ (Or.inl ⟨by rfl, ?_⟩) ?_ ?_ ?_
  rotate_left; · exact zqB
  rotate_left; · exact zqA
  refine zP 14 (some 31) #[zt, zt, zt, zt, zt, zt, zt, zt, zt, zt, zt, zt, zt, zt, zt, zf, zf] ?_ rfl rfl HT_ (Or.inl ⟨by rfl, ?_⟩) ?_ ?_ ?_
  rotate_left; · exact zqB
  rotate_left; · exact zqA
  refine zP 15 (some 10) #[zt, zt, zt, zt, zt, zt, zt, zt, zt, zt, zt, zt, zt, zt, zt, zt, zf] ?_ rfl rfl HT_ (Or.inl ⟨by rfl, ?_⟩) ?_ ?_ ?_
  rotate_left; · exact zqB
  rotate_left; · exact zqA
  refine zP 16 (some 11) #[zt, zt, zt, zt, zt, zt, zt, zt, zt, zt, zt, zt, zt, zt, zt, zt, zt] ?_ rfl rfl HT_ (Or.inl ⟨by rfl, ?_⟩) ?_ ?_ ?_
  rotate_left; · exact zqB
  rotate_left; · exact zqA
  refine done_ (done_of HT_.out (by kernel_rfl)) ?_
  obtain ⟨Ao25, co25, eo25⟩ := Kd.R_slice HO601.out
  subst eo25
  have p603 : 0 ≤ (x3_1 : Int) := of_decide_eq_true zq2
  have q603 : x3_1 < (t599.length : Int) := of_decide_eq_true zq2
  obtain ⟨ad603, e603, hx603_0⟩ := Kd.at_int (Kd.R_reads' HO601.out).2.2 x3_1 p603 q603
  cases e603
  replace p603 := eq_true p603
  replace q603 := eq_true q603
  try go_wp2
  go_roundg k1
  case measure => have := HK1.out; omega
  case rel => exact ⟨(ji8), (rd t599 x3_1), (wrap64 (x9_1 + 1)), (by first | rfl | (simp; done) | (simp only [← hji8] <;> (first | rfl | simp)) | (simp [*]; done)), (by first | rfl | (simp; done) | (simp [*]; done)), (by first | rfl | (simp; done) | (simp [*]; done)), H', ⟨by have := HK1.out; omega⟩, ⟨zq0⟩⟩
end Go.Proofs.Ytpdeapefekbdpaa.Q
