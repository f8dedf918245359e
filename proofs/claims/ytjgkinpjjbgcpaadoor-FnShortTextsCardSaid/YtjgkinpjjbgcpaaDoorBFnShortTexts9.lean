/- Texts of this seat, put together: Qf48, Qf31, Qf12. -/
import Derived.Test.YtjgkinpjjbgcpaaDoorZFnShortTexts
import Derived.Test.YtjgkinpjjbgcpaaDoorBFnShortTexts0
import Derived.Test.YtjgkinpjjbgcpaaDoorBFnShortTexts2
namespace Go.Proofs.YtjgkinpjjbgcpaaDoor.Q
open Go.RowKit Go.Proofs.YtjgkinpjjbgcpaaDoorW.PrintWords Go.Proofs.YtjgkinpjjbgcpaaDoorW.PrintLast Go.Proofs.YtjgkinpjjbgcpaaDoorW.PrintMore
attribute [local go_sem] max2_int min2_int max_two min_two max_three min_three max_four min_four   -- for this text's walks alone
set_option linter.unusedVariables false
set_option linter.unusedSimpArgs false

/-! ### impl_areWarnings: function 48 -/
def impl_areWarnings.l0 : Nat → List (S25) → List (S25) → Int → Int → Option (Bool)
 | 0, _, _, _, _ => none
 | k + 1, x0, x5, x6, x7 => if x7 < x6 then (if 0 ≤ x7 then (if x7 < (x5.length : Int) then ((impl_IsValidWarning.f ((rd_T25 x5 x7).f0) ((rd_T25 x5 x7).f1) ((rd_T25 x5 x7).f2) ((rd_T25 x5 x7).f3) ((rd_T25 x5 x7).f4) ((rd_T25 x5 x7).f5)).bind fun t339 => (if t339 = true then (if x7 > 0 then (if 0 ≤ (wrap64 (x7 - 1)) then (if (wrap64 (x7 - 1)) < (x0.length : Int) then (if ((rd_T25 x0 (wrap64 (x7 - 1))).f0) ≥ ((rd_T25 x5 x7).f0) then (some false) else (impl_areWarnings.l0 k x0 x5 x6 (wrap64 (x7 + 1)))) else (none)) else (none)) else (impl_areWarnings.l0 k x0 x5 x6 (wrap64 (x7 + 1)))) else (some false))) else (none)) else (none)) else (some (decide ((x0.length : Int) ≤ 12)))
def impl_areWarnings.f (k : Nat) (l0 : List (S25)) : Option (Bool) := impl_areWarnings.l0 k l0 l0 (l0.length : Int) 0
theorem impl_areWarnings.mono_l : ∀ k, (∀ y0 y1 y2 y3, LeO (impl_areWarnings.l0 k y0 y1 y2 y3) (impl_areWarnings.l0 (k + 1) y0 y1 y2 y3))
 | 0 => fun _ _ _ _ r h => by simp [impl_areWarnings.l0] at h
 | k + 1 => by
  have ih0 := impl_areWarnings.mono_l k
  ·
   intro y0 y1 y2 y3
   unfold impl_areWarnings.l0
   repeat' first
   | (with_reducible exact ih0 _ _ _ _)
   | (with_reducible exact LeO.refl _)
   | (with_reducible exact LeO.none _)
   | (with_reducible refine LeO.ite ?_ ?_)
   | (with_reducible refine LeO.bind ?_ (fun _ => ?_))
   | exact ih0 _ _ _ _
   | exact LeO.none _
   | refine LeO.ite ?_ ?_
   | refine LeO.bind ?_ (fun _ => ?_)
theorem impl_areWarnings.mono : ∀ a0 k, LeO (impl_areWarnings.f k a0) (impl_areWarnings.f (k + 1) a0) := by
 intro a0 k
 have ih0 := impl_areWarnings.mono_l k
 unfold impl_areWarnings.f
 repeat' first
   | (with_reducible exact ih0 _ _ _ _)
   | (with_reducible exact LeO.refl _)
   | (with_reducible exact LeO.none _)
   | (with_reducible refine LeO.ite ?_ ?_)
   | (with_reducible refine LeO.bind ?_ (fun _ => ?_))
   | exact ih0 _ _ _ _
   | exact LeO.none _
   | refine LeO.ite ?_ ?_
   | refine LeO.bind ?_ (fun _ => ?_)
def impl_areWarnings.T4 : Bool × List (List Nat × List Nat) := (true, [([], []), ([0], [0]), ([1], [1]), ([2, 1], [2]), ([3], [3]), ([4, 3], [3, 4]), ([5, 3, 3], [3, 5]), ([6], [6]), ([6], [6]), ([8, 6], [6, 8]), ([7, 9, 6], [6, 7, 9]), ([10, 6], [6, 10]), ([11, 6], [6, 11]), ([6], [6]), ([13, 6], [6, 13]), ([12, 14, 6], [6, 12, 14]), ([6, 15, 3], [3, 6, 15]), ([3, 16], [3, 16])])
def impl_areWarnings.B4 : List Nat := [0, 1, 3, 7, 15, 31, 63, 127, 127, 383, 1023, 2047, 4095, 127, 8319, 32767, 65535, 131071]
theorem impl_areWarnings.tab4 : rtab .any (opsOf Tryd.f48 4) = impl_areWarnings.T4 := by kernel_rfl
theorem impl_areWarnings.bits4 : waitsOk impl_areWarnings.T4.2 impl_areWarnings.B4 = true := by kernel_rfl
set_option maxHeartbeats 8000000 in
set_option maxRecDepth 100000 in
theorem impl_areWarnings.calls (k : Nat) (A0 : Option Addr) (c0 : Nat) (l0 : List (S25)) (r : Bool) (w : World) (hr0 : Kd.C k25 w A0 l0.length l0) (hc0 : l0.length ≤ c0) (h : impl_areWarnings.f k l0 = some r) :
  Calls Tryd.prog 48 #[.slice A0 l0.length c0] w fun e w' => e = .returned (.bool r) ∧ Below w.heap.size w w' := by
 have hu25 := Tryd.underlying25
 have HR0 := Aside0.mk hr0
 have HC0 := Aside0.mk hc0
 clear hr0 hc0
 have HB := Aside0.mk (Below.refl w.heap.size w)
 have H : (impl_areWarnings.l0 k l0 l0 (l0.length : Int) 0) = some r := h
 clear h
 have H' := Aside0.mk H
 clear H
 go_enter Tryd.func48, Tryd.ntmps48
 go_wp2
 go_loopg [7] k (fun kq v7 w' => ∃ (x7_1 : Int), v7 = .int .i64 x7_1 ∧ Aside0 (impl_areWarnings.l0 kq l0 l0 (l0.length : Int) x7_1 = some r) ∧ Aside0 (kq ≤ k) ∧ Aside0 (Below w.heap.size w w'))
 case atStart => exact ⟨(0), (by first | rfl | (simp; done) | (simp [*]; done)), H', ⟨Nat.le_refl _⟩, ⟨zq0⟩⟩
 clear H'
 obtain ⟨x7_1, rfl, HA, HK1, HB⟩ := hrel
 cases gk with
 | zero => exact absurd HA.out (by simp [impl_areWarnings.l0])
 | succ k1 =>
  have H := HA.out
  clear HA
  simp only [impl_areWarnings.l0] at H
  by_cases c2 : x7_1 < (l0.length : Int)
  case neg =>
   rw [if_neg c2] at H
   have c2b0 : decide (x7_1 < (l0.length : Int)) = false := decide_eq_false c2
   clear c2
   obtain rfl := Option.some.inj H
   go_wp2
   go_ret
   exact ⟨zqE, zq0⟩
  rw [if_pos c2] at H
  have c2b0 : decide (x7_1 < (l0.length : Int)) = true := decide_eq_true c2
  clear c2
  by_cases c3 : 0 ≤ x7_1
  case neg =>
   rw [if_neg c3] at H
   exact absurd H (by simp)
  rw [if_pos c3] at H
  have c3b0 : decide (0 ≤ x7_1) = true := decide_eq_true c3
  clear c3
  by_cases c4 : x7_1 < (l0.length : Int)
  case neg =>
   rw [if_neg c4] at H
   exact absurd H (by simp)
  rw [if_pos c4] at H
  have c4b0 : decide (x7_1 < (l0.length : Int)) = true := decide_eq_true c4
  clear c4
  replace H := Option.bind_eq_some_iff.mp H
  obtain ⟨t339, A50, H⟩ := H
  replace H : (if t339 = true then (if x7_1 > 0 then (if 0 ≤ (wrap64 (x7_1 - 1)) then (if (wrap64 (x7_1 - 1)) < (l0.length : Int) then (if ((rd_T25 l0 (wrap64 (x7_1 - 1))).f0) ≥ ((rd_T25 l0 x7_1).f0) then (some false) else (impl_areWarnings.l0 k1 l0 l0 (l0.length : Int) (wrap64 (x7_1 + 1)))) else (none)) else (none)) else (impl_areWarnings.l0 k1 l0 l0 (l0.length : Int) (wrap64 (x7_1 + 1)))) else (some false)) = some r := H
  have A5 := Aside0.mk A50
  clear A50
  by_cases c6 : t339 = true
  case neg =>
   replace c6 := Bool.eq_false_iff.mpr c6
   subst c6
   have H1 : (some false) = some r := by rw [if_neg (show ¬ (false = true) by decide)] at H; exact H
   clear H
   have H := H1
   clear H1
   obtain rfl := Option.some.inj H
   have p337 : 0 ≤ (x7_1 : Int) := of_decide_eq_true zq9
   have q337 : x7_1 < (l0.length : Int) := of_decide_eq_true zq9
   obtain ⟨ad337, e337, hx337_0, hx337_1, hx337_2, hx337_3, hx337_4, hx337_5⟩ := at_T25 HR0.out x7_1 p337 q337
   cases e337
   replace hx337_0 := bx HB.out hx337_0
   replace hx337_1 := bx HB.out hx337_1
   replace hx337_2 := bx HB.out hx337_2
   replace hx337_3 := bx HB.out hx337_3
   replace hx337_4 := bx HB.out hx337_4
   replace hx337_5 := bx HB.out hx337_5
   replace p337 := eq_true p337
   replace q337 := eq_true q337
   try go_wp2_with (first | ((with_reducible refine gate_dst (N := 4) rfl ?_); refine box_event ?hg (N := 4) ?hd (cs := #[.int .i64 0, .int .i64 0, .int .i64 0, .int .i64 0, .int .i64 0, .int .i64 0]) (t := 25) ?hr ?_; (case hd => rfl); (case hg => rfl); (case hr => exact zqS); intro gb338 hg w27 hbox hb; have n0_ := Aside0.mk (below_step zq0 hb); have n1_ := Aside0.mk (hbox); have n2_ := Aside0.mk ((by rw [hg]; exact (below_size zq0) : w.heap.size ≤ gb338)); have n3_ := n2_; clear HB; have HB := n0_; have BK338 := n1_; have GW338 := n2_; have GE338 := n3_; clear n0_ n1_ n2_ n3_; clear hb hbox hg; obtain ⟨hcz28_0, hcz28_1, hcz28_2, hcz28_3, hcz28_4, hcz28_5, hfz28_0, hfz28_1, hfz28_2, hfz28_3, hfz28_4, hfz28_5⟩ := bz6 BK338.out))
   have n0_ : Aside0 (((((((w27.setCell ⟨gb338, 0, none⟩ (.int .i64 ((rd_T25 l0 x7_1).f0))).setCell ⟨gb338, 1, none⟩ (.int .i64 ((rd_T25 l0 x7_1).f1))).setCell ⟨gb338, 2, none⟩ (.int .i64 ((rd_T25 l0 x7_1).f2))).setCell ⟨gb338, 3, none⟩ (.int .i64 ((rd_T25 l0 x7_1).f3))).setCell ⟨gb338, 4, none⟩ (.int .i64 ((rd_T25 l0 x7_1).f4))).setCell ⟨gb338, 5, none⟩ (.int .i64 ((rd_T25 l0 x7_1).f5))).heap[gb338]? = some (.cells #[.int .i64 ((rd_T25 l0 x7_1).f0), .int .i64 ((rd_T25 l0 x7_1).f1), .int .i64 ((rd_T25 l0 x7_1).f2), .int .i64 ((rd_T25 l0 x7_1).f3), .int .i64 ((rd_T25 l0 x7_1).f4), .int .i64 ((rd_T25 l0 x7_1).f5)] 25 (0, 0))) := ⟨by (with_reducible repeat (first | refine blk_drewN ?_ _ | refine blk_drew ?_ | refine blk_alloc ?_ _)); refine blk_put (cs := #[.int .i64 ((rd_T25 l0 x7_1).f0), .int .i64 ((rd_T25 l0 x7_1).f1), .int .i64 ((rd_T25 l0 x7_1).f2), .int .i64 ((rd_T25 l0 x7_1).f3), .int .i64 ((rd_T25 l0 x7_1).f4), .int .i64 0]) ?_ 5 _ rfl; (with_reducible repeat (first | refine blk_drewN ?_ _ | refine blk_drew ?_ | refine blk_alloc ?_ _)); refine blk_put (cs := #[.int .i64 ((rd_T25 l0 x7_1).f0), .int .i64 ((rd_T25 l0 x7_1).f1), .int .i64 ((rd_T25 l0 x7_1).f2), .int .i64 ((rd_T25 l0 x7_1).f3), .int .i64 0, .int .i64 0]) ?_ 4 _ rfl; (with_reducible repeat (first | refine blk_drewN ?_ _ | refine blk_drew ?_ | refine blk_alloc ?_ _)); refine blk_put (cs := #[.int .i64 ((rd_T25 l0 x7_1).f0), .int .i64 ((rd_T25 l0 x7_1).f1), .int .i64 ((rd_T25 l0 x7_1).f2), .int .i64 0, .int .i64 0, .int .i64 0]) ?_ 3 _ rfl; (with_reducible repeat (first | refine blk_drewN ?_ _ | refine blk_drew ?_ | refine blk_alloc ?_ _)); refine blk_put (cs := #[.int .i64 ((rd_T25 l0 x7_1).f0), .int .i64 ((rd_T25 l0 x7_1).f1), .int .i64 0, .int .i64 0, .int .i64 0, .int .i64 0]) ?_ 2 _ rfl; (with_reducible repeat (first | refine blk_drewN ?_ _ | refine blk_drew ?_ | refine blk_alloc ?_ _)); refine blk_put (cs := #[.int .i64 ((rd_T25 l0 x7_1).f0), .int .i64 0, .int .i64 0, .int .i64 0, .int .i64 0, .int .i64 0]) ?_ 1 _ rfl; (with_reducible repeat (first | refine blk_drewN ?_ _ | refine blk_drew ?_ | refine blk_alloc ?_ _)); refine blk_put (cs := #[.int .i64 0, .int .i64 0, .int .i64 0, .int .i64 0, .int .i64 0, .int .i64 0]) ?_ 0 _ rfl; (with_reducible repeat (first | refine blk_drewN ?_ _ | refine blk_drew ?_ | refine blk_alloc ?_ _)); exact BK338.out⟩
   have n1_ : Aside0 (Below w.heap.size w ((((((w27.setCell ⟨gb338, 0, none⟩ (.int .i64 ((rd_T25 l0 x7_1).f0))).setCell ⟨gb338, 1, none⟩ (.int .i64 ((rd_T25 l0 x7_1).f1))).setCell ⟨gb338, 2, none⟩ (.int .i64 ((rd_T25 l0 x7_1).f2))).setCell ⟨gb338, 3, none⟩ (.int .i64 ((rd_T25 l0 x7_1).f3))).setCell ⟨gb338, 4, none⟩ (.int .i64 ((rd_T25 l0 x7_1).f4))).setCell ⟨gb338, 5, none⟩ (.int .i64 ((rd_T25 l0 x7_1).f5)))) := ⟨zq17⟩
   (try clear BK338)
   (try clear HB)
   generalize ((((((w27.setCell ⟨gb338, 0, none⟩ (.int .i64 ((rd_T25 l0 x7_1).f0))).setCell ⟨gb338, 1, none⟩ (.int .i64 ((rd_T25 l0 x7_1).f1))).setCell ⟨gb338, 2, none⟩ (.int .i64 ((rd_T25 l0 x7_1).f2))).setCell ⟨gb338, 3, none⟩ (.int .i64 ((rd_T25 l0 x7_1).f3))).setCell ⟨gb338, 4, none⟩ (.int .i64 ((rd_T25 l0 x7_1).f4))).setCell ⟨gb338, 5, none⟩ (.int .i64 ((rd_T25 l0 x7_1).f5))) = w29 at n0_ n1_ ⊢
   have BK338 := n0_
   have HB := n1_
   clear n0_ n1_
   have n0_ := Aside0.mk (blk_drew BK338.out)
   have n1_ := Aside0.mk (below_drew1 HB.out)
   clear BK338
   clear HB
   have BK338 := n0_
   have HB := n1_
   clear n0_ n1_
   refine start_ (n := 18) (S := fun w' => w'.cell? ⟨gb338, 0, none⟩ = some (.int .i64 ((rd_T25 l0 x7_1).f0)) ∧ w'.cell? ⟨gb338, 1, none⟩ = some (.int .i64 ((rd_T25 l0 x7_1).f1)) ∧ w'.cell? ⟨gb338, 2, none⟩ = some (.int .i64 ((rd_T25 l0 x7_1).f2)) ∧ w'.cell? ⟨gb338, 3, none⟩ = some (.int .i64 ((rd_T25 l0 x7_1).f3)) ∧ w'.cell? ⟨gb338, 4, none⟩ = some (.int .i64 ((rd_T25 l0 x7_1).f4)) ∧ w'.cell? ⟨gb338, 5, none⟩ = some (.int .i64 ((rd_T25 l0 x7_1).f5))) (ds := []) #[false, false, false, false, false, false, false, false, false, false, false, false, false, false, false, false, false, false] (by kernel_rfl) rfl rfl (bc6 BK338.out) (fun hHeld => ?_); refine with_tabW impl_areWarnings.tab4 impl_areWarnings.bits4 (fun HT_ HW_ => ?_)
   generalize w29.drew = w30 at BK338 HB hHeld ⊢
   refine take_ (i := 0) (N := some 12) (v := ?_) (a' := ?_) #[true, false, false, false, false, false, false, false, false, false, false, false, false, false, false, false, false, false] rfl rfl (take_ofW HT_.out HW_.out (by kernel_rfl)) (fun _ _ _ h => h) (Or.inl ⟨by rfl, ?_⟩) hHeld ?_ ?_
   rotate_left
   ·
    rintro w' ⟨s0, s1, s2, s3, s4, s5⟩
    go_simp
    with_reducible rfl
   rotate_left; · exact zqA
   refine one_ (i := 1) (N := some 13) #[true, true, false, false, false, false, false, false, false, false, false, false, false, false, false, false, false, false] rfl rfl (one_of HT_.out (by kernel_rfl)) (by decide) (fun K hK => ?_)
   refine goes_ Tryd.func18 (by kernel_rfl) rfl #[.agg #[.int .i64 ((rd_T25 l0 x7_1).f0), .int .i64 ((rd_T25 l0 x7_1).f1), .int .i64 ((rd_T25 l0 x7_1).f2), .int .i64 ((rd_T25 l0 x7_1).f3), .int .i64 ((rd_T25 l0 x7_1).f4), .int .i64 ((rd_T25 l0 x7_1).f5)]] (by rfl) rfl rfl zq1 ?_
   with_reducible refine (impl_IsValidWarning.calls ((rd_T25 l0 x7_1).f0) ((rd_T25 l0 x7_1).f1) ((rd_T25 l0 x7_1).f2) ((rd_T25 l0 x7_1).f3) ((rd_T25 l0 x7_1).f4) ((rd_T25 l0 x7_1).f5) false _ A5.out).mono ?_
   rintro e w31 ⟨rfl, hb⟩
   refine ⟨_, rfl, ?_⟩
   have n0_ := Aside0.mk (blk_below (g := gb338) (o := .cells #[.int .i64 ((rd_T25 l0 x7_1).f0), .int .i64 ((rd_T25 l0 x7_1).f1), .int .i64 ((rd_T25 l0 x7_1).f2), .int .i64 ((rd_T25 l0 x7_1).f3), .int .i64 ((rd_T25 l0 x7_1).f4), .int .i64 ((rd_T25 l0 x7_1).f5)] 25 (0, 0)) (zqK BK338.out) hb)
   have n1_ := Aside0.mk (below_step zq17 hb)
   clear BK338
   clear HB
   have BK338 := n0_
   have HB := n1_
   clear n0_ n1_
   (try clear hb)
   (try clear hb2)
   (try clear hk)
   (try clear hi)
   refine hK.out _ _ (bc6 BK338.out) (fun hHeld => ?_)
   clear hK K
   refine norm_ (a' := ?_) ?_ ?_
   rotate_left
   ·
    show Act.put _ (some 13) _ = _
    simp only [Act.put, List.setIfInBounds_toArray, List.set_cons_zero, List.set_cons_succ, i64_w, i32_w]
    rfl
   refine pure_ (i := 2) (N := some 14) (v := ?_) (a' := ?_) #[true, true, true, false, false, false, false, false, false, false, false, false, false, false, false, false, false, false] rfl rfl (any_of HT_.out (by kernel_rfl)) (fun _ _ _ h => h) (Or.inl ⟨by rfl, ?_⟩) ?_ ?_
   rotate_left; · exact zqB
   rotate_left; · exact zqA
   refine pure_ (i := 3) (N := some 15) (v := ?_) (a' := ?_) #[true, true, true, true, false, false, false, false, false, false, false, false, false, false, false, false, false, false] rfl rfl (any_of HT_.out (by kernel_rfl)) (fun _ _ _ h => h) (Or.inl ⟨by rfl, ?_⟩) ?_ ?_
   rotate_left; · exact zqB
   rotate_left; · exact zqA
   refine pure_ (i := 4) (N := some 16) (v := undef) (a' := ?_) #[true, true, true, true, true, false, false, false, false, false, false, false, false, false, false, false, false, false] rfl rfl (any_of HT_.out (by kernel_rfl)) (fun _ _ _ h => h) (Or.inr ⟨by rfl, rfl⟩) ?_ ?_
   rotate_left; · exact zqA
   refine pure_ (i := 5) (N := some 17) (v := undef) (a' := ?_) #[true, true, true, true, true, true, false, false, false, false, false, false, false, false, false, false, false, false] rfl rfl (any_of HT_.out (by kernel_rfl)) (fun _ _ _ h => h) (Or.inr ⟨by rfl, rfl⟩) ?_ ?_
   rotate_left; · exact zqA
   refine pure_ (i := 6) (N := some 18) (v := undef) (a' := ?_) #[true, true, true, true, true, true, true, false, false, false, false, false, false, false, false, false, false, false] rfl rfl (any_of HT_.out (by kernel_rfl)) (fun _ _ _ h => h) (Or.inr ⟨by rfl, rfl⟩) ?_ ?_
   rotate_left; · exact zqA
   refine pure_ (i := 7) (N := some 19) (v := undef) (a' := ?_) #[true, true, true, true, true, true, true, true, false, false, false, false, false, false, false, false, false, false] rfl rfl (any_of HT_.out (by kernel_rfl)) (fun _ _ _ h => h) (Or.inr ⟨by rfl, rfl⟩) ?_ ?_
   rotate_left; · exact zqA
   refine pure_ (i := 8) (N := some 20) (v := undef) (a' := ?_) #[true, true, true, true, true, true, true, true, true, false, false, false, false, false, false, false, false, false] rfl rfl (any_of HT_.out (by kernel_rfl)) (fun _ _ _ h => h) (Or.inr ⟨by rfl, rfl⟩) ?_ ?_
   rotate_left; · exact zqA
   refine pure_ (i := 9) (N := some 21) (v := undef) (a' := ?_) #[true, true, true, true, true, true, true, true, true, true, false, false, false, false, false, false, false, false] rfl rfl (any_of HT_.out (by kernel_rfl)) (fun _ _ _ h => h) (Or.inr ⟨by rfl, rfl⟩) ?_ ?_
   rotate_left; · exact zqA
   refine pure_ (i := 10) (N := some 22) (v := undef) (a' := ?_) #[true, true, true, true, true, true, true, true, true, true, true, false, false, false, false, false, false, false] rfl rfl (any_of HT_.out (by kernel_rfl)) (fun _ _ _ h => h) (Or.inr ⟨by rfl, rfl⟩) ?_ ?_
   rotate_left; · exact zqA
   refine pure_ (i := 11) (N := some 23) (v := undef) (a' := ?_) #[true, true, true, true, true, true, true, true, true, true, true, true, false, false, false, false, false, false] rfl rfl (any_of HT_.out (by kernel_rfl)) (fun _ _ _ h => h) (Or.inr ⟨by rfl, rfl⟩) ?_ ?_
   rotate_left; · exact zqA
   refine pure_ (i := 12) (N := some 24) (v := undef) (a' := ?_) #[true, true, true, true, true, true, true, true, true, true, true, true, true, false, false, false, false, false] rfl rfl (any_of HT_.out (by kernel_rfl)) (fun _ _ _ h => h) (Or.inr ⟨by rfl, rfl⟩) ?_ ?_
   rotate_left; · exact zqA
   refine pure_ (i := 13) (N := some 25) (v := undef) (a' := ?_) #[true, true, true, true, true, true, true, true, true, true, true, true, true, true, false, false, false, false] rfl rfl (any_of HT_.out (by kernel_rfl)) (fun _ _ _ h => h) (Or.inr ⟨by rfl, rfl⟩) ?_ ?_
   rotate_left; · exact zqA
   refine pure_ (i := 14) (N := some 26) (v := undef) (a' := ?_) #[true, true, true, true, true, true, true, true, true, true, true, true, true, true, true, false, false, false] rfl rfl (any_of HT_.out (by kernel_rfl)) (fun _ _ _ h => h) (Or.inr ⟨by rfl, rfl⟩) ?_ ?_
   rotate_left; · exact zqA
   refine pure_ (i := 15) (N := some 27) (v := undef) (a' := ?_) #[true, true, true, true, true, true, true, true, true, true, true, true, true, true, true, true, false, false] rfl rfl (any_of HT_.out (by kernel_rfl)) (fun _ _ _ h => h) (Or.inr ⟨by rfl, rfl⟩) ?_ ?_
   rotate_left; · exact zqA
   refine pure_ (i := 16) (N := some 28) (v := undef) (a' := ?_) #[true, true, true, true, true, true, true, true, true, true, true, true, true, true, true, true, true, false] rfl rfl (any_of HT_.out (by kernel_rfl)) (fun _ _ _ h => h) (Or.inr ⟨by rfl, rfl⟩) ?_ ?_
   rotate_left; · exact zqA
   refine pure_ (i := 17) (N := some 29) (v := ?_) (a' := ?_) #[true, true, true, true, true, true, true, true, true, true, true, true, true, true, true, true, true, true] rfl rfl (any_of HT_.out (by kernel_rfl)) (fun _ _ _ h => h) (Or.inl ⟨by rfl, ?_⟩) ?_ ?_
   rotate_left; · exact zqB
   rotate_left; · exact zqA
   refine done_ (done_of HT_.out (by kernel_rfl)) ?_
   try go_wp2
   go_ret
   exact ⟨zqE, zq17⟩
  subst c6
  have H1 : (if x7_1 > 0 then (if 0 ≤ (wrap64 (x7_1 - 1)) then (if (wrap64 (x7_1 - 1)) < (l0.length : Int) then (if ((rd_T25 l0 (wrap64 (x7_1 - 1))).f0) ≥ ((rd_T25 l0 x7_1).f0) then (some false) else (impl_areWarnings.l0 k1 l0 l0 (l0.length : Int) (wrap64 (x7_1 + 1)))) else (none)) else (none)) else (impl_areWarnings.l0 k1 l0 l0 (l0.length : Int) (wrap64 (x7_1 + 1)))) = some r := by rw [if_pos rfl] at H; exact H
  clear H
  have H := H1
  clear H1
  by_cases c7 : x7_1 > 0
  case neg =>
   rw [if_neg c7] at H
   have c7b0 : decide (0 < x7_1) = false := decide_eq_false c7
   clear c7
   have H' := Aside0.mk H
   clear H
   have p337 : 0 ≤ (x7_1 : Int) := of_decide_eq_true zq9
   have q337 : x7_1 < (l0.length : Int) := of_decide_eq_true zq9
   obtain ⟨ad337, e337, hx337_0, hx337_1, hx337_2, hx337_3, hx337_4, hx337_5⟩ := at_T25 HR0.out x7_1 p337 q337
   cases e337
   replace hx337_0 := bx HB.out hx337_0
   replace hx337_1 := bx HB.out hx337_1
   replace hx337_2 := bx HB.out hx337_2
   replace hx337_3 := bx HB.out hx337_3
   replace hx337_4 := bx HB.out hx337_4
   replace hx337_5 := bx HB.out hx337_5
   replace p337 := eq_true p337
   replace q337 := eq_true q337
   try go_wp2_with (first | ((with_reducible refine gate_dst (N := 4) rfl ?_); refine box_event ?hg (N := 4) ?hd (cs := #[.int .i64 0, .int .i64 0, .int .i64 0, .int .i64 0, .int .i64 0, .int .i64 0]) (t := 25) ?hr ?_; (case hd => rfl); (case hg => rfl); (case hr => exact zqS); intro gb338 hg w22 hbox hb; have n0_ := Aside0.mk (below_step zq0 hb); have n1_ := Aside0.mk (hbox); have n2_ := Aside0.mk ((by rw [hg]; exact (below_size zq0) : w.heap.size ≤ gb338)); have n3_ := n2_; clear HB; have HB := n0_; have BK338 := n1_; have GW338 := n2_; have GE338 := n3_; clear n0_ n1_ n2_ n3_; clear hb hbox hg; obtain ⟨hcz23_0, hcz23_1, hcz23_2, hcz23_3, hcz23_4, hcz23_5, hfz23_0, hfz23_1, hfz23_2, hfz23_3, hfz23_4, hfz23_5⟩ := bz6 BK338.out))
   have n0_ : Aside0 (((((((w22.setCell ⟨gb338, 0, none⟩ (.int .i64 ((rd_T25 l0 x7_1).f0))).setCell ⟨gb338, 1, none⟩ (.int .i64 ((rd_T25 l0 x7_1).f1))).setCell ⟨gb338, 2, none⟩ (.int .i64 ((rd_T25 l0 x7_1).f2))).setCell ⟨gb338, 3, none⟩ (.int .i64 ((rd_T25 l0 x7_1).f3))).setCell ⟨gb338, 4, none⟩ (.int .i64 ((rd_T25 l0 x7_1).f4))).setCell ⟨gb338, 5, none⟩ (.int .i64 ((rd_T25 l0 x7_1).f5))).heap[gb338]? = some (.cells #[.int .i64 ((rd_T25 l0 x7_1).f0), .int .i64 ((rd_T25 l0 x7_1).f1), .int .i64 ((rd_T25 l0 x7_1).f2), .int .i64 ((rd_T25 l0 x7_1).f3), .int .i64 ((rd_T25 l0 x7_1).f4), .int .i64 ((rd_T25 l0 x7_1).f5)] 25 (0, 0))) := ⟨by (with_reducible repeat (first | refine blk_drewN ?_ _ | refine blk_drew ?_ | refine blk_alloc ?_ _)); refine blk_put (cs := #[.int .i64 ((rd_T25 l0 x7_1).f0), .int .i64 ((rd_T25 l0 x7_1).f1), .int .i64 ((rd_T25 l0 x7_1).f2), .int .i64 ((rd_T25 l0 x7_1).f3), .int .i64 ((rd_T25 l0 x7_1).f4), .int .i64 0]) ?_ 5 _ rfl; (with_reducible repeat (first | refine blk_drewN ?_ _ | refine blk_drew ?_ | refine blk_alloc ?_ _)); refine blk_put (cs := #[.int .i64 ((rd_T25 l0 x7_1).f0), .int .i64 ((rd_T25 l0 x7_1).f1), .int .i64 ((rd_T25 l0 x7_1).f2), .int .i64 ((rd_T25 l0 x7_1).f3), .int .i64 0, .int .i64 0]) ?_ 4 _ rfl; (with_reducible repeat (first | refine blk_drewN ?_ _ | refine blk_drew ?_ | refine blk_alloc ?_ _)); refine blk_put (cs := #[.int .i64 ((rd_T25 l0 x7_1).f0), .int .i64 ((rd_T25 l0 x7_1).f1), .int .i64 ((rd_T25 l0 x7_1).f2), .int .i64 0, .int .i64 0, .int .i64 0]) ?_ 3 _ rfl; (with_reducible repeat (first | refine blk_drewN ?_ _ | refine blk_drew ?_ | refine blk_alloc ?_ _)); refine blk_put (cs := #[.int .i64 ((rd_T25 l0 x7_1).f0), .int .i64 ((rd_T25 l0 x7_1).f1), .int .i64 0, .int .i64 0, .int .i64 0, .int .i64 0]) ?_ 2 _ rfl; (with_reducible repeat (first | refine blk_drewN ?_ _ | refine blk_drew ?_ | refine blk_alloc ?_ _)); refine blk_put (cs := #[.int .i64 ((rd_T25 l0 x7_1).f0), .int .i64 0, .int .i64 0, .int .i64 0, .int .i64 0, .int .i64 0]) ?_ 1 _ rfl; (with_reducible repeat (first | refine blk_drewN ?_ _ | refine blk_drew ?_ | refine blk_alloc ?_ _)); refine blk_put (cs := #[.int .i64 0, .int .i64 0, .int .i64 0, .int .i64 0, .int .i64 0, .int .i64 0]) ?_ 0 _ rfl; (with_reducible repeat (first | refine blk_drewN ?_ _ | refine blk_drew ?_ | refine blk_alloc ?_ _)); exact BK338.out⟩
   have n1_ : Aside0 (Below w.heap.size w ((((((w22.setCell ⟨gb338, 0, none⟩ (.int .i64 ((rd_T25 l0 x7_1).f0))).setCell ⟨gb338, 1, none⟩ (.int .i64 ((rd_T25 l0 x7_1).f1))).setCell ⟨gb338, 2, none⟩ (.int .i64 ((rd_T25 l0 x7_1).f2))).setCell ⟨gb338, 3, none⟩ (.int .i64 ((rd_T25 l0 x7_1).f3))).setCell ⟨gb338, 4, none⟩ (.int .i64 ((rd_T25 l0 x7_1).f4))).setCell ⟨gb338, 5, none⟩ (.int .i64 ((rd_T25 l0 x7_1).f5)))) := ⟨zq17⟩
   (try clear BK338)
   (try clear HB)
   generalize ((((((w22.setCell ⟨gb338, 0, none⟩ (.int .i64 ((rd_T25 l0 x7_1).f0))).setCell ⟨gb338, 1, none⟩ (.int .i64 ((rd_T25 l0 x7_1).f1))).setCell ⟨gb338, 2, none⟩ (.int .i64 ((rd_T25 l0 x7_1).f2))).setCell ⟨gb338, 3, none⟩ (.int .i64 ((rd_T25 l0 x7_1).f3))).setCell ⟨gb338, 4, none⟩ (.int .i64 ((rd_T25 l0 x7_1).f4))).setCell ⟨gb338, 5, none⟩ (.int .i64 ((rd_T25 l0 x7_1).f5))) = w24 at n0_ n1_ ⊢
   have BK338 := n0_
   have HB := n1_
   clear n0_ n1_
   have n0_ := Aside0.mk (blk_drew BK338.out)
   have n1_ := Aside0.mk (below_drew1 HB.out)
   clear BK338
   clear HB
   have BK338 := n0_
   have HB := n1_
   clear n0_ n1_
   refine start_ (n := 18) (S := fun w' => w'.cell? ⟨gb338, 0, none⟩ = some (.int .i64 ((rd_T25 l0 x7_1).f0)) ∧ w'.cell? ⟨gb338, 1, none⟩ = some (.int .i64 ((rd_T25 l0 x7_1).f1)) ∧ w'.cell? ⟨gb338, 2, none⟩ = some (.int .i64 ((rd_T25 l0 x7_1).f2)) ∧ w'.cell? ⟨gb338, 3, none⟩ = some (.int .i64 ((rd_T25 l0 x7_1).f3)) ∧ w'.cell? ⟨gb338, 4, none⟩ = some (.int .i64 ((rd_T25 l0 x7_1).f4)) ∧ w'.cell? ⟨gb338, 5, none⟩ = some (.int .i64 ((rd_T25 l0 x7_1).f5))) (ds := []) #[false, false, false, false, false, false, false, false, false, false, false, false, false, false, false, false, false, false] (by kernel_rfl) rfl rfl (bc6 BK338.out) (fun hHeld => ?_); refine with_tabW impl_areWarnings.tab4 impl_areWarnings.bits4 (fun HT_ HW_ => ?_)
   generalize w24.drew = w25 at BK338 HB hHeld ⊢
   refine take_ (i := 0) (N := some 12) (v := ?_) (a' := ?_) #[true, false, false, false, false, false, false, false, false, false, false, false, false, false, false, false, false, false] rfl rfl (take_ofW HT_.out HW_.out (by kernel_rfl)) (fun _ _ _ h => h) (Or.inl ⟨by rfl, ?_⟩) hHeld ?_ ?_
   rotate_left
   ·
    rintro w' ⟨s0, s1, s2, s3, s4, s5⟩
    go_simp
    with_reducible rfl
   rotate_left; · exact zqA
   refine one_ (i := 1) (N := some 13) #[true, true, false, false, false, false, false, false, false, false, false, false, false, false, false, false, false, false] rfl rfl (one_of HT_.out (by kernel_rfl)) (by decide) (fun K hK => ?_)
   refine goes_ Tryd.func18 (by kernel_rfl) rfl #[.agg #[.int .i64 ((rd_T25 l0 x7_1).f0), .int .i64 ((rd_T25 l0 x7_1).f1), .int .i64 ((rd_T25 l0 x7_1).f2), .int .i64 ((rd_T25 l0 x7_1).f3), .int .i64 ((rd_T25 l0 x7_1).f4), .int .i64 ((rd_T25 l0 x7_1).f5)]] (by rfl) rfl rfl zq1 ?_
   with_reducible refine (impl_IsValidWarning.calls ((rd_T25 l0 x7_1).f0) ((rd_T25 l0 x7_1).f1) ((rd_T25 l0 x7_1).f2) ((rd_T25 l0 x7_1).f3) ((rd_T25 l0 x7_1).f4) ((rd_T25 l0 x7_1).f5) true _ A5.out).mono ?_
   rintro e w26 ⟨rfl, hb⟩
   refine ⟨_, rfl, ?_⟩
   have n0_ := Aside0.mk (blk_below (g := gb338) (o := .cells #[.int .i64 ((rd_T25 l0 x7_1).f0), .int .i64 ((rd_T25 l0 x7_1).f1), .int .i64 ((rd_T25 l0 x7_1).f2), .int .i64 ((rd_T25 l0 x7_1).f3), .int .i64 ((rd_T25 l0 x7_1).f4), .int .i64 ((rd_T25 l0 x7_1).f5)] 25 (0, 0)) (zqK BK338.out) hb)
   have n1_ := Aside0.mk (below_step zq17 hb)
   clear BK338
   clear HB
   have BK338 := n0_
   have HB := n1_
   clear n0_ n1_
   (try clear hb)
   (try clear hb2)
   (try clear hk)
   (try clear hi)
   refine hK.out _ _ (bc6 BK338.out) (fun hHeld => ?_)
   clear hK K
   refine norm_ (a' := ?_) ?_ ?_
   rotate_left
   ·
    show Act.put _ (some 13) _ = _
    simp only [Act.put, List.setIfInBounds_toArray, List.set_cons_zero, List.set_cons_succ, i64_w, i32_w]
    rfl
   refine pure_ (i := 2) (N := some 14) (v := ?_) (a' := ?_) #[true, true, true, false, false, false, false, false, false, false, false, false, false, false, false, false, false, false] rfl rfl (any_of HT_.out (by kernel_rfl)) (fun _ _ _ h => h) (Or.inl ⟨by rfl, ?_⟩) ?_ ?_
   rotate_left; · exact zqB
   rotate_left; · exact zqA
   refine pure_ (i := 3) (N := some 15) (v := ?_) (a' := ?_) #[true, true, true, true, false, false, false, false, false, false, false, false, false, false, false, false, false, false] rfl rfl (any_of HT_.out (by kernel_rfl)) (fun _ _ _ h => h) (Or.inl ⟨by rfl, ?_⟩) ?_ ?_
   rotate_left; · exact zqB
   rotate_left; · exact zqA
   refine pure_ (i := 4) (N := some 16) (v := ?_) (a' := ?_) #[true, true, true, true, true, false, false, false, false, false, false, false, false, false, false, false, false, false] rfl rfl (any_of HT_.out (by kernel_rfl)) (fun _ _ _ h => h) (Or.inl ⟨by rfl, ?_⟩) ?_ ?_
   rotate_left; · exact zqB
   rotate_left; · exact zqA
   refine pure_ (i := 5) (N := some 17) (v := ?_) (a' := ?_) #[true, true, true, true, true, true, false, false, false, false, false, false, false, false, false, false, false, false] rfl rfl (any_of HT_.out (by kernel_rfl)) (fun _ _ _ h => h) (Or.inl ⟨by rfl, ?_⟩) ?_ ?_
   rotate_left; · exact zqB
   rotate_left; · exact zqA
   refine pure_ (i := 6) (N := some 18) (v := ?_) (a' := ?_) #[true, true, true, true, true, true, true, false, false, false, false, false, false, false, false, false, false, false] rfl rfl (any_of HT_.out (by kernel_rfl)) (fun _ _ _ h => h) (Or.inl ⟨by rfl, ?_⟩) ?_ ?_
   rotate_left; · exact zqB
   rotate_left; · exact zqA
   refine pure_ (i := 7) (N := some 19) (v := undef) (a' := ?_) #[true, true, true, true, true, true, true, true, false, false, false, false, false, false, false, false, false, false] rfl rfl (any_of HT_.out (by kernel_rfl)) (fun _ _ _ h => h) (Or.inr ⟨by rfl, rfl⟩) ?_ ?_
   rotate_left; · exact zqA
   refine pure_ (i := 8) (N := some 20) (v := undef) (a' := ?_) #[true, true, true, true, true, true, true, true, true, false, false, false, false, false, false, false, false, false] rfl rfl (any_of HT_.out (by kernel_rfl)) (fun _ _ _ h => h) (Or.inr ⟨by rfl, rfl⟩) ?_ ?_
   rotate_left; · exact zqA
   refine pure_ (i := 9) (N := some 21) (v := undef) (a' := ?_) #[true, true, true, true, true, true, true, true, true, true, false, false, false, false, false, false, false, false] rfl rfl (any_of HT_.out (by kernel_rfl)) (fun _ _ _ h => h) (Or.inr ⟨by rfl, rfl⟩) ?_ ?_
   rotate_left; · exact zqA
   refine pure_ (i := 10) (N := some 22) (v := undef) (a' := ?_) #[true, true, true, true, true, true, true, true, true, true, true, false, false, false, false, false, false, false] rfl rfl (any_of HT_.out (by kernel_rfl)) (fun _ _ _ h => h) (Or.inr ⟨by rfl, rfl⟩) ?_ ?_
   rotate_left; · exact zqA
   refine pure_ (i := 11) (N := some 23) (v := undef) (a' := ?_) #[true, true, true, true, true, true, true, true, true, true, true, true, false, false, false, false, false, false] rfl rfl (any_of HT_.out (by kernel_rfl)) (fun _ _ _ h => h) (Or.inr ⟨by rfl, rfl⟩) ?_ ?_
   rotate_left; · exact zqA
   refine pure_ (i := 12) (N := some 24) (v := undef) (a' := ?_) #[true, true, true, true, true, true, true, true, true, true, true, true, true, false, false, false, false, false] rfl rfl (any_of HT_.out (by kernel_rfl)) (fun _ _ _ h => h) (Or.inr ⟨by rfl, rfl⟩) ?_ ?_
   rotate_left; · exact zqA
   refine pure_ (i := 13) (N := some 25) (v := undef) (a' := ?_) #[true, true, true, true, true, true, true, true, true, true, true, true, true, true, false, false, false, false] rfl rfl (any_of HT_.out (by kernel_rfl)) (fun _ _ _ h => h) (Or.inr ⟨by rfl, rfl⟩) ?_ ?_
   rotate_left; · exact zqA
   refine pure_ (i := 14) (N := some 26) (v := undef) (a' := ?_) #[true, true, true, true, true, true, true, true, true, true, true, true, true, true, true, false, false, false] rfl rfl (any_of HT_.out (by kernel_rfl)) (fun _ _ _ h => h) (Or.inr ⟨by rfl, rfl⟩) ?_ ?_
   rotate_left; · exact zqA
   refine pure_ (i := 15) (N := some 27) (v := undef) (a' := ?_) #[true, true, true, true, true, true, true, true, true, true, true, true, true, true, true, true, false, false] rfl rfl (any_of HT_.out (by kernel_rfl)) (fun _ _ _ h => h) (Or.inr ⟨by rfl, rfl⟩) ?_ ?_
   rotate_left; · exact zqA
   refine pure_ (i := 16) (N := some 28) (v := ?_) (a' := ?_) #[true, true, true, true, true, true, true, true, true, true, true, true, true, true, true, true, true, false] rfl rfl (any_of HT_.out (by kernel_rfl)) (fun _ _ _ h => h) (Or.inl ⟨by rfl, ?_⟩) ?_ ?_
   rotate_left; · exact zqB
   rotate_left; · exact zqA
   refine pure_ (i := 17) (N := some 29) (v := ?_) (a' := ?_) #[true, true, true, true, true, true, true, true, true, true, true, true, true, true, true, true, true, true] rfl rfl (any_of HT_.out (by kernel_rfl)) (fun _ _ _ h => h) (Or.inl ⟨by rfl, ?_⟩) ?_ ?_
   rotate_left; · exact zqB
   rotate_left; · exact zqA
   refine done_ (done_of HT_.out (by kernel_rfl)) ?_
   try go_wp2
   go_roundg k1
   case measure => have := HK1.out; omega
   case rel => exact ⟨(wrap64 (x7_1 + 1)), (by first | rfl | (simp; done) | (simp [*]; done)), H', ⟨by have := HK1.out; omega⟩, ⟨zq17⟩⟩
  rw [if_pos c7] at H
  have c7b0 : decide (0 < x7_1) = true := decide_eq_true c7
  clear c7
  obtain ⟨ji8, hji8⟩ : ∃ j_ : Int, (wrap64 (x7_1 - 1)) = j_ := ⟨_, rfl⟩
  replace H : (if 0 ≤ (ji8) then (if (ji8) < (l0.length : Int) then (if ((rd_T25 l0 (ji8)).f0) ≥ ((rd_T25 l0 x7_1).f0) then (some false) else (impl_areWarnings.l0 k1 l0 l0 (l0.length : Int) (wrap64 (x7_1 + 1)))) else (none)) else (none)) = some r := by first | (rw [hji8] at H; exact H) | (simp only [hji8] at H ⊢; exact H)
  (try rw [hji8] at A5)
  have hji8w : (IntKind.i64.wrap (x7_1 - 1)) = ji8 := (i64_w _).trans hji8
  by_cases c9 : 0 ≤ (ji8)
  case neg =>
   rw [if_neg c9] at H
   exact absurd H (by simp)
  rw [if_pos c9] at H
  have c9b0 : decide (0 ≤ (ji8)) = true := decide_eq_true c9
  clear c9
  by_cases c10 : (ji8) < (l0.length : Int)
  case neg =>
   rw [if_neg c10] at H
   exact absurd H (by simp)
  rw [if_pos c10] at H
  have c10b0 : decide ((ji8) < (l0.length : Int)) = true := decide_eq_true c10
  clear c10
  by_cases c11 : ((rd_T25 l0 (ji8)).f0) ≥ ((rd_T25 l0 x7_1).f0)
  case pos =>
   rw [if_pos c11] at H
   have c11b0 : decide (((rd_T25 l0 x7_1).f0) ≤ ((rd_T25 l0 (ji8)).f0)) = true := decide_eq_true c11
   clear c11
   obtain rfl := Option.some.inj H
   have p337 : 0 ≤ (x7_1 : Int) := of_decide_eq_true zq9
   have q337 : x7_1 < (l0.length : Int) := of_decide_eq_true zq9
   obtain ⟨ad337, e337, hx337_0, hx337_1, hx337_2, hx337_3, hx337_4, hx337_5⟩ := at_T25 HR0.out x7_1 p337 q337
   cases e337
   replace hx337_0 := bx HB.out hx337_0
   replace hx337_1 := bx HB.out hx337_1
   replace hx337_2 := bx HB.out hx337_2
   replace hx337_3 := bx HB.out hx337_3
   replace hx337_4 := bx HB.out hx337_4
   replace hx337_5 := bx HB.out hx337_5
   replace p337 := eq_true p337
   replace q337 := eq_true q337
   try go_wp2_with (first | ((with_reducible refine gate_dst (N := 4) rfl ?_); refine box_event ?hg (N := 4) ?hd (cs := #[.int .i64 0, .int .i64 0, .int .i64 0, .int .i64 0, .int .i64 0, .int .i64 0]) (t := 25) ?hr ?_; (case hd => rfl); (case hg => rfl); (case hr => exact zqS); intro gb338 hg w12 hbox hb; have n0_ := Aside0.mk (below_step zq0 hb); have n1_ := Aside0.mk (hbox); have n2_ := Aside0.mk ((by rw [hg]; exact (below_size zq0) : w.heap.size ≤ gb338)); have n3_ := n2_; clear HB; have HB := n0_; have BK338 := n1_; have GW338 := n2_; have GE338 := n3_; clear n0_ n1_ n2_ n3_; clear hb hbox hg; obtain ⟨hcz13_0, hcz13_1, hcz13_2, hcz13_3, hcz13_4, hcz13_5, hfz13_0, hfz13_1, hfz13_2, hfz13_3, hfz13_4, hfz13_5⟩ := bz6 BK338.out))
   have n0_ : Aside0 (((((((w12.setCell ⟨gb338, 0, none⟩ (.int .i64 ((rd_T25 l0 x7_1).f0))).setCell ⟨gb338, 1, none⟩ (.int .i64 ((rd_T25 l0 x7_1).f1))).setCell ⟨gb338, 2, none⟩ (.int .i64 ((rd_T25 l0 x7_1).f2))).setCell ⟨gb338, 3, none⟩ (.int .i64 ((rd_T25 l0 x7_1).f3))).setCell ⟨gb338, 4, none⟩ (.int .i64 ((rd_T25 l0 x7_1).f4))).setCell ⟨gb338, 5, none⟩ (.int .i64 ((rd_T25 l0 x7_1).f5))).heap[gb338]? = some (.cells #[.int .i64 ((rd_T25 l0 x7_1).f0), .int .i64 ((rd_T25 l0 x7_1).f1), .int .i64 ((rd_T25 l0 x7_1).f2), .int .i64 ((rd_T25 l0 x7_1).f3), .int .i64 ((rd_T25 l0 x7_1).f4), .int .i64 ((rd_T25 l0 x7_1).f5)] 25 (0, 0))) := ⟨by (with_reducible repeat (first | refine blk_drewN ?_ _ | refine blk_drew ?_ | refine blk_alloc ?_ _)); refine blk_put (cs := #[.int .i64 ((rd_T25 l0 x7_1).f0), .int .i64 ((rd_T25 l0 x7_1).f1), .int .i64 ((rd_T25 l0 x7_1).f2), .int .i64 ((rd_T25 l0 x7_1).f3), .int .i64 ((rd_T25 l0 x7_1).f4), .int .i64 0]) ?_ 5 _ rfl; (with_reducible repeat (first | refine blk_drewN ?_ _ | refine blk_drew ?_ | refine blk_alloc ?_ _)); refine blk_put (cs := #[.int .i64 ((rd_T25 l0 x7_1).f0), .int .i64 ((rd_T25 l0 x7_1).f1), .int .i64 ((rd_T25 l0 x7_1).f2), .int .i64 ((rd_T25 l0 x7_1).f3), .int .i64 0, .int .i64 0]) ?_ 4 _ rfl; (with_reducible repeat (first | refine blk_drewN ?_ _ | refine blk_drew ?_ | refine blk_alloc ?_ _)); refine blk_put (cs := #[.int .i64 ((rd_T25 l0 x7_1).f0), .int .i64 ((rd_T25 l0 x7_1).f1), .int .i64 ((rd_T25 l0 x7_1).f2), .int .i64 0, .int .i64 0, .int .i64 0]) ?_ 3 _ rfl; (with_reducible repeat (first | refine blk_drewN ?_ _ | refine blk_drew ?_ | refine blk_alloc ?_ _)); refine blk_put (cs := #[.int .i64 ((rd_T25 l0 x7_1).f0), .int .i64 ((rd_T25 l0 x7_1).f1), .int .i64 0, .int .i64 0, .int .i64 0, .int .i64 0]) ?_ 2 _ rfl; (with_reducible repeat (first | refine blk_drewN ?_ _ | refine blk_drew ?_ | refine blk_alloc ?_ _)); refine blk_put (cs := #[.int .i64 ((rd_T25 l0 x7_1).f0), .int .i64 0, .int .i64 0, .int .i64 0, .int .i64 0, .int .i64 0]) ?_ 1 _ rfl; (with_reducible repeat (first | refine blk_drewN ?_ _ | refine blk_drew ?_ | refine blk_alloc ?_ _)); refine blk_put (cs := #[.int .i64 0, .int .i64 0, .int .i64 0, .int .i64 0, .int .i64 0, .int .i64 0]) ?_ 0 _ rfl; (with_reducible repeat (first | refine blk_drewN ?_ _ | refine blk_drew ?_ | refine blk_alloc ?_ _)); exact BK338.out⟩
   have n1_ : Aside0 (Below w.heap.size w ((((((w12.setCell ⟨gb338, 0, none⟩ (.int .i64 ((rd_T25 l0 x7_1).f0))).setCell ⟨gb338, 1, none⟩ (.int .i64 ((rd_T25 l0 x7_1).f1))).setCell ⟨gb338, 2, none⟩ (.int .i64 ((rd_T25 l0 x7_1).f2))).setCell ⟨gb338, 3, none⟩ (.int .i64 ((rd_T25 l0 x7_1).f3))).setCell ⟨gb338, 4, none⟩ (.int .i64 ((rd_T25 l0 x7_1).f4))).setCell ⟨gb338, 5, none⟩ (.int .i64 ((rd_T25 l0 x7_1).f5)))) := ⟨zq17⟩
   (try clear BK338)
   (try clear HB)
   generalize ((((((w12.setCell ⟨gb338, 0, none⟩ (.int .i64 ((rd_T25 l0 x7_1).f0))).setCell ⟨gb338, 1, none⟩ (.int .i64 ((rd_T25 l0 x7_1).f1))).setCell ⟨gb338, 2, none⟩ (.int .i64 ((rd_T25 l0 x7_1).f2))).setCell ⟨gb338, 3, none⟩ (.int .i64 ((rd_T25 l0 x7_1).f3))).setCell ⟨gb338, 4, none⟩ (.int .i64 ((rd_T25 l0 x7_1).f4))).setCell ⟨gb338, 5, none⟩ (.int .i64 ((rd_T25 l0 x7_1).f5))) = w14 at n0_ n1_ ⊢
   have BK338 := n0_
   have HB := n1_
   clear n0_ n1_
   have n0_ := Aside0.mk (blk_drew BK338.out)
   have n1_ := Aside0.mk (below_drew1 HB.out)
   clear BK338
   clear HB
   have BK338 := n0_
   have HB := n1_
   clear n0_ n1_
   have p340 : 0 ≤ ((ji8) : Int) := of_decide_eq_true zq9
   have q340 : (ji8) < (l0.length : Int) := of_decide_eq_true zq9
   obtain ⟨ad340, e340, hx340_0, hx340_1, hx340_2, hx340_3, hx340_4, hx340_5⟩ := at_T25 HR0.out (ji8) p340 q340
   have hw340_5 := hx340_5
   have hw340_4 := hx340_4
   have hw340_3 := hx340_3
   have hw340_2 := hx340_2
   have hw340_1 := hx340_1
   have hw340_0 := hx340_0
   obtain rfl : ad337 = ad340 := (by injection e340)
   replace hx340_0 := bx HB.out hx340_0
   replace hx340_1 := bx HB.out hx340_1
   replace hx340_2 := bx HB.out hx340_2
   replace hx340_3 := bx HB.out hx340_3
   replace hx340_4 := bx HB.out hx340_4
   replace hx340_5 := bx HB.out hx340_5
   replace p340 := eq_true p340
   replace q340 := eq_true q340
   refine start_ (n := 18) (S := fun w' => w'.cell? ⟨gb338, 0, none⟩ = some (.int .i64 ((rd_T25 l0 x7_1).f0)) ∧ w'.cell? ⟨gb338, 1, none⟩ = some (.int .i64 ((rd_T25 l0 x7_1).f1)) ∧ w'.cell? ⟨gb338, 2, none⟩ = some (.int .i64 ((rd_T25 l0 x7_1).f2)) ∧ w'.cell? ⟨gb338, 3, none⟩ = some (.int .i64 ((rd_T25 l0 x7_1).f3)) ∧ w'.cell? ⟨gb338, 4, none⟩ = some (.int .i64 ((rd_T25 l0 x7_1).f4)) ∧ w'.cell? ⟨gb338, 5, none⟩ = some (.int .i64 ((rd_T25 l0 x7_1).f5)) ∧ w'.cell? (ad337.add (((ji8)).toNat * 6)) = some (.int .i64 ((rd_T25 l0 (ji8)).f0)) ∧ w'.cell? ⟨(ad337.add (((ji8)).toNat * 6)).block, (ad337.add (((ji8)).toNat * 6)).off + 1, none⟩ = some (.int .i64 ((rd_T25 l0 (ji8)).f1)) ∧ w'.cell? ⟨(ad337.add (((ji8)).toNat * 6)).block, (ad337.add (((ji8)).toNat * 6)).off + 2, none⟩ = some (.int .i64 ((rd_T25 l0 (ji8)).f2)) ∧ w'.cell? ⟨(ad337.add (((ji8)).toNat * 6)).block, (ad337.add (((ji8)).toNat * 6)).off + 3, none⟩ = some (.int .i64 ((rd_T25 l0 (ji8)).f3)) ∧ w'.cell? ⟨(ad337.add (((ji8)).toNat * 6)).block, (ad337.add (((ji8)).toNat * 6)).off + 4, none⟩ = some (.int .i64 ((rd_T25 l0 (ji8)).f4)) ∧ w'.cell? ⟨(ad337.add (((ji8)).toNat * 6)).block, (ad337.add (((ji8)).toNat * 6)).off + 5, none⟩ = some (.int .i64 ((rd_T25 l0 (ji8)).f5))) (ds := []) #[false, false, false, false, false, false, false, false, false, false, false, false, false, false, false, false, false, false] (by kernel_rfl) rfl rfl ⟨(blk_cell BK338.out 0).trans rfl, (blk_cell BK338.out 1).trans rfl, (blk_cell BK338.out 2).trans rfl, (blk_cell BK338.out 3).trans rfl, (blk_cell BK338.out 4).trans rfl, (blk_cell BK338.out 5).trans rfl, ((HB.out.cell (World.block_lt_of_cell? w _ hw340_0)).trans hw340_0), ((HB.out.cell (World.block_lt_of_cell? w _ hw340_1)).trans hw340_1), ((HB.out.cell (World.block_lt_of_cell? w _ hw340_2)).trans hw340_2), ((HB.out.cell (World.block_lt_of_cell? w _ hw340_3)).trans hw340_3), ((HB.out.cell (World.block_lt_of_cell? w _ hw340_4)).trans hw340_4), ((HB.out.cell (World.block_lt_of_cell? w _ hw340_5)).trans hw340_5)⟩ (fun hHeld => ?_); refine with_tabW impl_areWarnings.tab4 impl_areWarnings.bits4 (fun HT_ HW_ => ?_)
   generalize w14.drew = w15 at BK338 HB hx340_0 hx340_1 hx340_2 hx340_3 hx340_4 hx340_5 hHeld ⊢
   refine take_ (i := 0) (N := some 12) (v := ?_) (a' := ?_) #[true, false, false, false, false, false, false, false, false, false, false, false, false, false, false, false, false, false] rfl rfl (take_ofW HT_.out HW_.out (by kernel_rfl)) (fun _ _ _ h => h) (Or.inl ⟨by rfl, ?_⟩) hHeld ?_ ?_
   rotate_left
   ·
    rintro w' ⟨s0, s1, s2, s3, s4, s5, s6, s7, s8, s9, s10, s11⟩
    go_simp
    with_reducible rfl
   rotate_left; · exact zqA
   refine one_ (i := 1) (N := some 13) #[true, true, false, false, false, false, false, false, false, false, false, false, false, false, false, false, false, false] rfl rfl (one_of HT_.out (by kernel_rfl)) (by decide) (fun K hK => ?_)
   refine goes_ Tryd.func18 (by kernel_rfl) rfl #[.agg #[.int .i64 ((rd_T25 l0 x7_1).f0), .int .i64 ((rd_T25 l0 x7_1).f1), .int .i64 ((rd_T25 l0 x7_1).f2), .int .i64 ((rd_T25 l0 x7_1).f3), .int .i64 ((rd_T25 l0 x7_1).f4), .int .i64 ((rd_T25 l0 x7_1).f5)]] (by rfl) rfl rfl zq1 ?_
   with_reducible refine (impl_IsValidWarning.calls ((rd_T25 l0 x7_1).f0) ((rd_T25 l0 x7_1).f1) ((rd_T25 l0 x7_1).f2) ((rd_T25 l0 x7_1).f3) ((rd_T25 l0 x7_1).f4) ((rd_T25 l0 x7_1).f5) true _ A5.out).mono ?_
   rintro e w16 ⟨rfl, hb⟩
   refine ⟨_, rfl, ?_⟩
   have n0_ := Aside0.mk (blk_below (g := gb338) (o := .cells #[.int .i64 ((rd_T25 l0 x7_1).f0), .int .i64 ((rd_T25 l0 x7_1).f1), .int .i64 ((rd_T25 l0 x7_1).f2), .int .i64 ((rd_T25 l0 x7_1).f3), .int .i64 ((rd_T25 l0 x7_1).f4), .int .i64 ((rd_T25 l0 x7_1).f5)] 25 (0, 0)) (zqK BK338.out) hb)
   have n1_ := Aside0.mk (below_step zq17 hb)
   clear BK338
   clear HB
   have BK338 := n0_
   have HB := n1_
   clear n0_ n1_
   (try clear hb)
   (try clear hb2)
   (try clear hk)
   (try clear hi)
   refine hK.out _ _ ⟨(blk_cell BK338.out 0).trans rfl, (blk_cell BK338.out 1).trans rfl, (blk_cell BK338.out 2).trans rfl, (blk_cell BK338.out 3).trans rfl, (blk_cell BK338.out 4).trans rfl, (blk_cell BK338.out 5).trans rfl, ((HB.out.cell (World.block_lt_of_cell? w _ hw340_0)).trans hw340_0), ((HB.out.cell (World.block_lt_of_cell? w _ hw340_1)).trans hw340_1), ((HB.out.cell (World.block_lt_of_cell? w _ hw340_2)).trans hw340_2), ((HB.out.cell (World.block_lt_of_cell? w _ hw340_3)).trans hw340_3), ((HB.out.cell (World.block_lt_of_cell? w _ hw340_4)).trans hw340_4), ((HB.out.cell (World.block_lt_of_cell? w _ hw340_5)).trans hw340_5)⟩ (fun hHeld => ?_)
   clear hK K
   refine norm_ (a' := ?_) ?_ ?_
   rotate_left
   ·
    show Act.put _ (some 13) _ = _
    simp only [Act.put, List.setIfInBounds_toArray, List.set_cons_zero, List.set_cons_succ, i64_w, i32_w]
    rfl
   refine pure_ (i := 2) (N := some 14) (v := ?_) (a' := ?_) #[true, true, true, false, false, false, false, false, false, false, false, false, false, false, false, false, false, false] rfl rfl (any_of HT_.out (by kernel_rfl)) (fun _ _ _ h => h) (Or.inl ⟨by rfl, ?_⟩) ?_ ?_
   rotate_left; · exact zqB
   rotate_left; · exact zqA
   refine pure_ (i := 3) (N := some 15) (v := ?_) (a' := ?_) #[true, true, true, true, false, false, false, false, false, false, false, false, false, false, false, false, false, false] rfl rfl (any_of HT_.out (by kernel_rfl)) (fun _ _ _ h => h) (Or.inl ⟨by rfl, ?_⟩) ?_ ?_
   rotate_left; · exact zqB
   rotate_left; · exact zqA
   refine pure_ (i := 4) (N := some 16) (v := ?_) (a' := ?_) #[true, true, true, true, true, false, false, false, false, false, false, false, false, false, false, false, false, false] rfl rfl (any_of HT_.out (by kernel_rfl)) (fun _ _ _ h => h) (Or.inl ⟨by rfl, ?_⟩) ?_ ?_
   rotate_left; · exact zqB
   rotate_left; · exact zqA
   refine pure_ (i := 5) (N := some 17) (v := ?_) (a' := ?_) #[true, true, true, true, true, true, false, false, false, false, false, false, false, false, false, false, false, false] rfl rfl (any_of HT_.out (by kernel_rfl)) (fun _ _ _ h => h) (Or.inl ⟨by rfl, ?_⟩) ?_ ?_
   rotate_left; · exact zqB
   rotate_left; · exact zqA
   refine pure_ (i := 6) (N := some 18) (v := ?_) (a' := ?_) #[true, true, true, true, true, true, true, false, false, false, false, false, false, false, false, false, false, false] rfl rfl (any_of HT_.out (by kernel_rfl)) (fun _ _ _ h => h) (Or.inl ⟨by rfl, ?_⟩) ?_ ?_
   rotate_left; · exact zqB
   rotate_left; · exact zqA
   refine pure_ (i := 7) (N := some 19) (v := ?_) (a' := ?_) #[true, true, true, true, true, true, true, true, false, false, false, false, false, false, false, false, false, false] rfl rfl (any_of HT_.out (by kernel_rfl)) (fun _ _ _ h => h) (Or.inl ⟨by rfl, ?_⟩) ?_ ?_
   rotate_left; · exact zqB
   rotate_left; · exact zqA
   refine pure_ (i := 8) (N := some 20) (v := ?_) (a' := ?_) #[true, true, true, true, true, true, true, true, true, false, false, false, false, false, false, false, false, false] rfl rfl (any_of HT_.out (by kernel_rfl)) (fun _ _ _ h => h) (Or.inl ⟨by rfl, ?_⟩) ?_ ?_
   rotate_left; · exact zqB
   rotate_left; · exact zqA
   refine pure_ (i := 9) (N := some 21) (v := ?_) (a' := ?_) #[true, true, true, true, true, true, true, true, true, true, false, false, false, false, false, false, false, false] rfl rfl (any_of HT_.out (by kernel_rfl)) (fun _ _ _ h => h) (Or.inl ⟨by rfl, ?_⟩) ?_ ?_
   rotate_left; · exact zqB
   rotate_left; · exact zqA
   refine pure_ (i := 10) (N := some 22) (v := ?_) (a' := ?_) #[true, true, true, true, true, true, true, true, true, true, true, false, false, false, false, false, false, false] rfl rfl (any_of HT_.out (by kernel_rfl)) (fun _ _ _ h => h) (Or.inl ⟨by rfl, ?_⟩) ?_ ?_
   rotate_left; · exact zqB
   rotate_left; · exact zqA
   refine pure_ (i := 11) (N := some 23) (v := ?_) (a' := ?_) #[true, true, true, true, true, true, true, true, true, true, true, true, false, false, false, false, false, false] rfl rfl (any_of HT_.out (by kernel_rfl)) (fun _ _ _ h => h) (Or.inl ⟨by rfl, ?_⟩) ?_ ?_
   rotate_left; · exact zqB
   rotate_left; · exact zqA
   refine pure_ (i := 13) (N := some 25) (v := ?_) (a' := ?_) #[true, true, true, true, true, true, true, true, true, true, true, true, false, true, false, false, false, false] rfl rfl (any_of HT_.out (by kernel_rfl)) (fun _ _ _ h => h) (Or.inl ⟨by rfl, ?_⟩) ?_ ?_
   rotate_left; · exact zqB
   rotate_left; · exact zqA
   refine take_ (i := 12) (N := some 24) (v := ?_) (a' := ?_) #[true, true, true, true, true, true, true, true, true, true, true, true, true, true, false, false, false, false] rfl rfl (take_ofW HT_.out HW_.out (by kernel_rfl)) (fun _ _ _ h => h) (Or.inl ⟨by rfl, ?_⟩) hHeld ?_ ?_
   rotate_left
   ·
    rintro w' ⟨s0, s1, s2, s3, s4, s5, s6, s7, s8, s9, s10, s11⟩
    go_simp
    with_reducible rfl
   rotate_left; · exact zqA
   refine take_ (i := 14) (N := some 26) (v := ?_) (a' := ?_) #[true, true, true, true, true, true, true, true, true, true, true, true, true, true, true, false, false, false] rfl rfl (take_ofW HT_.out HW_.out (by kernel_rfl)) (fun _ _ _ h => h) (Or.inl ⟨by rfl, ?_⟩) hHeld ?_ ?_
   rotate_left
   ·
    rintro w' ⟨s0, s1, s2, s3, s4, s5, s6, s7, s8, s9, s10, s11⟩
    go_simp
    with_reducible rfl
   rotate_left; · exact zqA
   refine pure_ (i := 15) (N := some 27) (v := ?_) (a' := ?_) #[true, true, true, true, true, true, true, true, true, true, true, true, true, true, true, true, false, false] rfl rfl (any_of HT_.out (by kernel_rfl)) (fun _ _ _ h => h) (Or.inl ⟨by rfl, ?_⟩) ?_ ?_
   rotate_left; · exact zqB
   rotate_left; · exact zqA
   refine pure_ (i := 16) (N := some 28) (v := ?_) (a' := ?_) #[true, true, true, true, true, true, true, true, true, true, true, true, true, true, true, true, true, false] rfl rfl (any_of HT_.out (by kernel_rfl)) (fun _ _ _ h => h) (Or.inl ⟨by rfl, ?_⟩) ?_ ?_
   rotate_left; · exact zqB
   rotate_left; · exact zqA
   refine pure_ (i := 17) (N := some 29) (v := ?_) (a' := ?_) #[true, true, true, true, true, true, true, true, true, true, true, true, true, true, true, true, true, true] rfl rfl (any_of HT_.out (by kernel_rfl)) (fun _ _ _ h => h) (Or.inl ⟨by rfl, ?_⟩) ?_ ?_
   rotate_left; · exact zqB
   rotate_left; · exact zqA
   refine done_ (done_of HT_.out (by kernel_rfl)) ?_
   try go_wp2
   go_ret
   exact ⟨by first | rfl | (simp [errW_none, errW_some] <;> rfl) | (simp only [← hji8]; first | rfl | (simp [errW_none, errW_some] <;> rfl)) | (simp [*, errW_none, errW_some] <;> rfl), zq17⟩
  rw [if_neg c11] at H
  have c11b0 : decide (((rd_T25 l0 x7_1).f0) ≤ ((rd_T25 l0 (ji8)).f0)) = false := decide_eq_false c11
  clear c11
  have H' := Aside0.mk H
  clear H
  have p337 : 0 ≤ (x7_1 : Int) := of_decide_eq_true zq9
  have q337 : x7_1 < (l0.length : Int) := of_decide_eq_true zq9
  obtain ⟨ad337, e337, hx337_0, hx337_1, hx337_2, hx337_3, hx337_4, hx337_5⟩ := at_T25 HR0.out x7_1 p337 q337
  cases e337
  replace hx337_0 := bx HB.out hx337_0
  replace hx337_1 := bx HB.out hx337_1
  replace hx337_2 := bx HB.out hx337_2
  replace hx337_3 := bx HB.out hx337_3
  replace hx337_4 := bx HB.out hx337_4
  replace hx337_5 := bx HB.out hx337_5
  replace p337 := eq_true p337
  replace q337 := eq_true q337
  try go_wp2_with (first | ((with_reducible refine gate_dst (N := 4) rfl ?_); refine box_event ?hg (N := 4) ?hd (cs := #[.int .i64 0, .int .i64 0, .int .i64 0, .int .i64 0, .int .i64 0, .int .i64 0]) (t := 25) ?hr ?_; (case hd => rfl); (case hg => rfl); (case hr => exact zqS); intro gb338 hg w17 hbox hb; have n0_ := Aside0.mk (below_step zq0 hb); have n1_ := Aside0.mk (hbox); have n2_ := Aside0.mk ((by rw [hg]; exact (below_size zq0) : w.heap.size ≤ gb338)); have n3_ := n2_; clear HB; have HB := n0_; have BK338 := n1_; have GW338 := n2_; have GE338 := n3_; clear n0_ n1_ n2_ n3_; clear hb hbox hg; obtain ⟨hcz18_0, hcz18_1, hcz18_2, hcz18_3, hcz18_4, hcz18_5, hfz18_0, hfz18_1, hfz18_2, hfz18_3, hfz18_4, hfz18_5⟩ := bz6 BK338.out))
  have n0_ : Aside0 (((((((w17.setCell ⟨gb338, 0, none⟩ (.int .i64 ((rd_T25 l0 x7_1).f0))).setCell ⟨gb338, 1, none⟩ (.int .i64 ((rd_T25 l0 x7_1).f1))).setCell ⟨gb338, 2, none⟩ (.int .i64 ((rd_T25 l0 x7_1).f2))).setCell ⟨gb338, 3, none⟩ (.int .i64 ((rd_T25 l0 x7_1).f3))).setCell ⟨gb338, 4, none⟩ (.int .i64 ((rd_T25 l0 x7_1).f4))).setCell ⟨gb338, 5, none⟩ (.int .i64 ((rd_T25 l0 x7_1).f5))).heap[gb338]? = some (.cells #[.int .i64 ((rd_T25 l0 x7_1).f0), .int .i64 ((rd_T25 l0 x7_1).f1), .int .i64 ((rd_T25 l0 x7_1).f2), .int .i64 ((rd_T25 l0 x7_1).f3), .int .i64 ((rd_T25 l0 x7_1).f4), .int .i64 ((rd_T25 l0 x7_1).f5)] 25 (0, 0))) := ⟨by (with_reducible repeat (first | refine blk_drewN ?_ _ | refine blk_drew ?_ | refine blk_alloc ?_ _)); refine blk_put (cs := #[.int .i64 ((rd_T25 l0 x7_1).f0), .int .i64 ((rd_T25 l0 x7_1).f1), .int .i64 ((rd_T25 l0 x7_1).f2), .int .i64 ((rd_T25 l0 x7_1).f3), .int .i64 ((rd_T25 l0 x7_1).f4), .int .i64 0]) ?_ 5 _ rfl; (with_reducible repeat (first | refine blk_drewN ?_ _ | refine blk_drew ?_ | refine blk_alloc ?_ _)); refine blk_put (cs := #[.int .i64 ((rd_T25 l0 x7_1).f0), .int .i64 ((rd_T25 l0 x7_1).f1), .int .i64 ((rd_T25 l0 x7_1).f2), .int .i64 ((rd_T25 l0 x7_1).f3), .int .i64 0, .int .i64 0]) ?_ 4 _ rfl; (with_reducible repeat (first | refine blk_drewN ?_ _ | refine blk_drew ?_ | refine blk_alloc ?_ _)); refine blk_put (cs := #[.int .i64 ((rd_T25 l0 x7_1).f0), .int .i64 ((rd_T25 l0 x7_1).f1), .int .i64 ((rd_T25 l0 x7_1).f2), .int .i64 0, .int .i64 0, .int .i64 0]) ?_ 3 _ rfl; (with_reducible repeat (first | refine blk_drewN ?_ _ | refine blk_drew ?_ | refine blk_alloc ?_ _)); refine blk_put (cs := #[.int .i64 ((rd_T25 l0 x7_1).f0), .int .i64 ((rd_T25 l0 x7_1).f1), .int .i64 0, .int .i64 0, .int .i64 0, .int .i64 0]) ?_ 2 _ rfl; (with_reducible repeat (first | refine blk_drewN ?_ _ | refine blk_drew ?_ | refine blk_alloc ?_ _)); refine blk_put (cs := #[.int .i64 ((rd_T25 l0 x7_1).f0), .int .i64 0, .int .i64 0, .int .i64 0, .int .i64 0, .int .i64 0]) ?_ 1 _ rfl; (with_reducible repeat (first | refine blk_drewN ?_ _ | refine blk_drew ?_ | refine blk_alloc ?_ _)); refine blk_put (cs := #[.int .i64 0, .int .i64 0, .int .i64 0, .int .i64 0, .int .i64 0, .int .i64 0]) ?_ 0 _ rfl; (with_reducible repeat (first | refine blk_drewN ?_ _ | refine blk_drew ?_ | refine blk_alloc ?_ _)); exact BK338.out⟩
  have n1_ : Aside0 (Below w.heap.size w ((((((w17.setCell ⟨gb338, 0, none⟩ (.int .i64 ((rd_T25 l0 x7_1).f0))).setCell ⟨gb338, 1, none⟩ (.int .i64 ((rd_T25 l0 x7_1).f1))).setCell ⟨gb338, 2, none⟩ (.int .i64 ((rd_T25 l0 x7_1).f2))).setCell ⟨gb338, 3, none⟩ (.int .i64 ((rd_T25 l0 x7_1).f3))).setCell ⟨gb338, 4, none⟩ (.int .i64 ((rd_T25 l0 x7_1).f4))).setCell ⟨gb338, 5, none⟩ (.int .i64 ((rd_T25 l0 x7_1).f5)))) := ⟨zq17⟩
  (try clear BK338)
  (try clear HB)
  generalize ((((((w17.setCell ⟨gb338, 0, none⟩ (.int .i64 ((rd_T25 l0 x7_1).f0))).setCell ⟨gb338, 1, none⟩ (.int .i64 ((rd_T25 l0 x7_1).f1))).setCell ⟨gb338, 2, none⟩ (.int .i64 ((rd_T25 l0 x7_1).f2))).setCell ⟨gb338, 3, none⟩ (.int .i64 ((rd_T25 l0 x7_1).f3))).setCell ⟨gb338, 4, none⟩ (.int .i64 ((rd_T25 l0 x7_1).f4))).setCell ⟨gb338, 5, none⟩ (.int .i64 ((rd_T25 l0 x7_1).f5))) = w19 at n0_ n1_ ⊢
  have BK338 := n0_
  have HB := n1_
  clear n0_ n1_
  have n0_ := Aside0.mk (blk_drew BK338.out)
  have n1_ := Aside0.mk (below_drew1 HB.out)
  clear BK338
  clear HB
  have BK338 := n0_
  have HB := n1_
  clear n0_ n1_
  have p340 : 0 ≤ ((ji8) : Int) := of_decide_eq_true zq9
  have q340 : (ji8) < (l0.length : Int) := of_decide_eq_true zq9
  obtain ⟨ad340, e340, hx340_0, hx340_1, hx340_2, hx340_3, hx340_4, hx340_5⟩ := at_T25 HR0.out (ji8) p340 q340
  have hw340_5 := hx340_5
  have hw340_4 := hx340_4
  have hw340_3 := hx340_3
  have hw340_2 := hx340_2
  have hw340_1 := hx340_1
  have hw340_0 := hx340_0
  obtain rfl : ad337 = ad340 := (by injection e340)
  replace hx340_0 := bx HB.out hx340_0
  replace hx340_1 := bx HB.out hx340_1
  replace hx340_2 := bx HB.out hx340_2
  replace hx340_3 := bx HB.out hx340_3
  replace hx340_4 := bx HB.out hx340_4
  replace hx340_5 := bx HB.out hx340_5
  replace p340 := eq_true p340
  replace q340 := eq_true q340
  refine start_ (n := 18) (S := fun w' => w'.cell? ⟨gb338, 0, none⟩ = some (.int .i64 ((rd_T25 l0 x7_1).f0)) ∧ w'.cell? ⟨gb338, 1, none⟩ = some (.int .i64 ((rd_T25 l0 x7_1).f1)) ∧ w'.cell? ⟨gb338, 2, none⟩ = some (.int .i64 ((rd_T25 l0 x7_1).f2)) ∧ w'.cell? ⟨gb338, 3, none⟩ = some (.int .i64 ((rd_T25 l0 x7_1).f3)) ∧ w'.cell? ⟨gb338, 4, none⟩ = some (.int .i64 ((rd_T25 l0 x7_1).f4)) ∧ w'.cell? ⟨gb338, 5, none⟩ = some (.int .i64 ((rd_T25 l0 x7_1).f5)) ∧ w'.cell? (ad337.add (((ji8)).toNat * 6)) = some (.int .i64 ((rd_T25 l0 (ji8)).f0)) ∧ w'.cell? ⟨(ad337.add (((ji8)).toNat * 6)).block, (ad337.add (((ji8)).toNat * 6)).off + 1, none⟩ = some (.int .i64 ((rd_T25 l0 (ji8)).f1)) ∧ w'.cell? ⟨(ad337.add (((ji8)).toNat * 6)).block, (ad337.add (((ji8)).toNat * 6)).off + 2, none⟩ = some (.int .i64 ((rd_T25 l0 (ji8)).f2)) ∧ w'.cell? ⟨(ad337.add (((ji8)).toNat * 6)).block, (ad337.add (((ji8)).toNat * 6)).off + 3, none⟩ = some (.int .i64 ((rd_T25 l0 (ji8)).f3)) ∧ w'.cell? ⟨(ad337.add (((ji8)).toNat * 6)).block, (ad337.add (((ji8)).toNat * 6)).off + 4, none⟩ = some (.int .i64 ((rd_T25 l0 (ji8)).f4)) ∧ w'.cell? ⟨(ad337.add (((ji8)).toNat * 6)).block, (ad337.add (((ji8)).toNat * 6)).off + 5, none⟩ = some (.int .i64 ((rd_T25 l0 (ji8)).f5))) (ds := []) #[false, false, false, false, false, false, false, false, false, false, false, false, false, false, false, false, false, false] (by kernel_rfl) rfl rfl ⟨(blk_cell BK338.out 0).trans rfl, (blk_cell BK338.out 1).trans rfl, (blk_cell BK338.out 2).trans rfl, (blk_cell BK338.out 3).trans rfl, (blk_cell BK338.out 4).trans rfl, (blk_cell BK338.out 5).trans rfl, ((HB.out.cell (World.block_lt_of_cell? w _ hw340_0)).trans hw340_0), ((HB.out.cell (World.block_lt_of_cell? w _ hw340_1)).trans hw340_1), ((HB.out.cell (World.block_lt_of_cell? w _ hw340_2)).trans hw340_2), ((HB.out.cell (World.block_lt_of_cell? w _ hw340_3)).trans hw340_3), ((HB.out.cell (World.block_lt_of_cell? w _ hw340_4)).trans hw340_4), ((HB.out.cell (World.block_lt_of_cell? w _ hw340_5)).trans hw340_5)⟩ (fun hHeld => ?_); refine with_tabW impl_areWarnings.tab4 impl_areWarnings.bits4 (fun HT_ HW_ => ?_)
  generalize w19.drew = w20 at BK338 HB hx340_0 hx340_1 hx340_2 hx340_3 hx340_4 hx340_5 hHeld ⊢
  refine take_ (i := 0) (N := some 12) (v := ?_) (a' := ?_) #[true, false, false, false, false, false, false, false, false, false, false, false, false, false, false, false, false, false] rfl rfl (take_ofW HT_.out HW_.out (by kernel_rfl)) (fun _ _ _ h => h) (Or.inl ⟨by rfl, ?_⟩) hHeld ?_ ?_
  rotate_left
  ·
   rintro w' ⟨s0, s1, s2, s3, s4, s5, s6, s7, s8, s9, s10, s11⟩
   go_simp
   with_reducible rfl
  rotate_left; · exact zqA
  refine one_ (i := 1) (N := some 13) #[true, true, false, false, false, false, false, false, false, false, false, false, false, false, false, false, false, false] rfl rfl (one_of HT_.out (by kernel_rfl)) (by decide) (fun K hK => ?_)
  refine goes_ Tryd.func18 (by kernel_rfl) rfl #[.agg #[.int .i64 ((rd_T25 l0 x7_1).f0), .int .i64 ((rd_T25 l0 x7_1).f1), .int .i64 ((rd_T25 l0 x7_1).f2), .int .i64 ((rd_T25 l0 x7_1).f3), .int .i64 ((rd_T25 l0 x7_1).f4), .int .i64 ((rd_T25 l0 x7_1).f5)]] (by rfl) rfl rfl zq1 ?_
  with_reducible refine (impl_IsValidWarning.calls ((rd_T25 l0 x7_1).f0) ((rd_T25 l0 x7_1).f1) ((rd_T25 l0 x7_1).f2) ((rd_T25 l0 x7_1).f3) ((rd_T25 l0 x7_1).f4) ((rd_T25 l0 x7_1).f5) true _ A5.out).mono ?_
  rintro e w21 ⟨rfl, hb⟩
  refine ⟨_, rfl, ?_⟩
  have n0_ := Aside0.mk (blk_below (g := gb338) (o := .cells #[.int .i64 ((rd_T25 l0 x7_1).f0), .int .i64 ((rd_T25 l0 x7_1).f1), .int .i64 ((rd_T25 l0 x7_1).f2), .int .i64 ((rd_T25 l0 x7_1).f3), .int .i64 ((rd_T25 l0 x7_1).f4), .int .i64 ((rd_T25 l0 x7_1).f5)] 25 (0, 0)) (zqK BK338.out) hb)
  have n1_ := Aside0.mk (below_step zq17 hb)
  clear BK338
  clear HB
  have BK338 := n0_
  have HB := n1_
  clear n0_ n1_
  (try clear hb)
  (try clear hb2)
  (try clear hk)
  (try clear hi)
  refine hK.out _ _ ⟨(blk_cell BK338.out 0).trans rfl, (blk_cell BK338.out 1).trans rfl, (blk_cell BK338.out 2).trans rfl, (blk_cell BK338.out 3).trans rfl, (blk_cell BK338.out 4).trans rfl, (blk_cell BK338.out 5).trans rfl, ((HB.out.cell (World.block_lt_of_cell? w _ hw340_0)).trans hw340_0), ((HB.out.cell (World.block_lt_of_cell? w _ hw340_1)).trans hw340_1), ((HB.out.cell (World.block_lt_of_cell? w _ hw340_2)).trans hw340_2), ((HB.out.cell (World.block_lt_of_cell? w _ hw340_3)).trans hw340_3), ((HB.out.cell (World.block_lt_of_cell? w _ hw340_4)).trans hw340_4), ((HB.out.cell (World.block_lt_of_cell? w _ hw340_5)).trans hw340_5)⟩ (fun hHeld => ?_)
  clear hK K
  refine norm_ (a' := ?_) ?_ ?_
  rotate_left
  ·
   show Act.put _ (some 13) _ = _
   simp only [Act.put, List.setIfInBounds_toArray, List.set_cons_zero, List.set_cons_succ, i64_w, i32_w]
   rfl
  refine pure_ (i := 2) (N := some 14) (v := ?_) (a' := ?_) #[true, true, true, false, false, false, false, false, false, false, false, false, false, false, false, false, false, false] rfl rfl (any_of HT_.out (by kernel_rfl)) (fun _ _ _ h => h) (Or.inl ⟨by rfl, ?_⟩) ?_ ?_
  rotate_left; · exact zqB
  rotate_left; · exact zqA
  refine pure_ (i := 3) (N := some 15) (v := ?_) (a' := ?_) #[true, true, true, true, false, false, false, false, false, false, false, false, false, false, false, false, false, false] rfl rfl (any_of HT_.out (by kernel_rfl)) (fun _ _ _ h => h) (Or.inl ⟨by rfl, ?_⟩) ?_ ?_
  rotate_left; · exact zqB
  rotate_left; · exact zqA
  refine pure_ (i := 4) (N := some 16) (v := ?_) (a' := ?_) #[true, true, true, true, true, false, false, false, false, false, false, false, false, false, false, false, false, false] rfl rfl (any_of HT_.out (by kernel_rfl)) (fun _ _ _ h => h) (Or.inl ⟨by rfl, ?_⟩) ?_ ?_
  rotate_left; · exact zqB
  rotate_left; · exact zqA
  refine pure_ (i := 5) (N := some 17) (v := ?_) (a' := ?_) #[true, true, true, true, true, true, false, false, false, false, false, false, false, false, false, false, false, false] rfl rfl (any_of HT_.out (by kernel_rfl)) (fun _ _ _ h => h) (Or.inl ⟨by rfl, ?_⟩) ?_ ?_
  rotate_left; · exact zqB
  rotate_left; · exact zqA
  refine pure_ (i := 6) (N := some 18) (v := ?_) (a' := ?_) #[true, true, true, true, true, true, true, false, false, false, false, false, false, false, false, false, false, false] rfl rfl (any_of HT_.out (by kernel_rfl)) (fun _ _ _ h => h) (Or.inl ⟨by rfl, ?_⟩) ?_ ?_
  rotate_left; · exact zqB
  rotate_left; · exact zqA
  refine pure_ (i := 7) (N := some 19) (v := ?_) (a' := ?_) #[true, true, true, true, true, true, true, true, false, false, false, false, false, false, false, false, false, false] rfl rfl (any_of HT_.out (by kernel_rfl)) (fun _ _ _ h => h) (Or.inl ⟨by rfl, ?_⟩) ?_ ?_
  rotate_left; · exact zqB
  rotate_left; · exact zqA
  refine pure_ (i := 8) (N := some 20) (v := ?_) (a' := ?_) #[true, true, true, true, true, true, true, true, true, false, false, false, false, false, false, false, false, false] rfl rfl (any_of HT_.out (by kernel_rfl)) (fun _ _ _ h => h) (Or.inl ⟨by rfl, ?_⟩) ?_ ?_
  rotate_left; · exact zqB
  rotate_left; · exact zqA
  refine pure_ (i := 9) (N := some 21) (v := ?_) (a' := ?_) #[true, true, true, true, true, true, true, true, true, true, false, false, false, false, false, false, false, false] rfl rfl (any_of HT_.out (by kernel_rfl)) (fun _ _ _ h => h) (Or.inl ⟨by rfl, ?_⟩) ?_ ?_
  rotate_left; · exact zqB
  rotate_left; · exact zqA
  refine pure_ (i := 10) (N := some 22) (v := ?_) (a' := ?_) #[true, true, true, true, true, true, true, true, true, true, true, false, false, false, false, false, false, false] rfl rfl (any_of HT_.out (by kernel_rfl)) (fun _ _ _ h => h) (Or.inl ⟨by rfl, ?_⟩) ?_ ?_
  rotate_left; · exact zqB
  rotate_left; · exact zqA
  refine pure_ (i := 11) (N := some 23) (v := ?_) (a' := ?_) #[true, true, true, true, true, true, true, true, true, true, true, true, false, false, false, false, false, false] rfl rfl (any_of HT_.out (by kernel_rfl)) (fun _ _ _ h => h) (Or.inl ⟨by rfl, ?_⟩) ?_ ?_
  rotate_left; · exact zqB
  rotate_left; · exact zqA
  refine pure_ (i := 13) (N := some 25) (v := ?_) (a' := ?_) #[true, true, true, true, true, true, true, true, true, true, true, true, false, true, false, false, false, false] rfl rfl (any_of HT_.out (by kernel_rfl)) (fun _ _ _ h => h) (Or.inl ⟨by rfl, ?_⟩) ?_ ?_
  rotate_left; · exact zqB
  rotate_left; · exact zqA
  refine take_ (i := 12) (N := some 24) (v := ?_) (a' := ?_) #[true, true, true, true, true, true, true, true, true, true, true, true, true, true, false, false, false, false] rfl rfl (take_ofW HT_.out HW_.out (by kernel_rfl)) (fun _ _ _ h => h) (Or.inl ⟨by rfl, ?_⟩) hHeld ?_ ?_
  rotate_left
  ·
   rintro w' ⟨s0, s1, s2, s3, s4, s5, s6, s7, s8, s9, s10, s11⟩
   go_simp
   with_reducible rfl
  rotate_left; · exact zqA
  refine take_ (i := 14) (N := some 26) (v := ?_) (a' := ?_) #[true, true, true, true, true, true, true, true, true, true, true, true, true, true, true, false, false, false] rfl rfl (take_ofW HT_.out HW_.out (by kernel_rfl)) (fun _ _ _ h => h) (Or.inl ⟨by rfl, ?_⟩) hHeld ?_ ?_
  rotate_left
  ·
   rintro w' ⟨s0, s1, s2, s3, s4, s5, s6, s7, s8, s9, s10, s11⟩
   go_simp
   with_reducible rfl
  rotate_left; · exact zqA
  refine pure_ (i := 15) (N := some 27) (v := ?_) (a' := ?_) #[true, true, true, true, true, true, true, true, true, true, true, true, true, true, true, true, false, false] rfl rfl (any_of HT_.out (by kernel_rfl)) (fun _ _ _ h => h) (Or.inl ⟨by rfl, ?_⟩) ?_ ?_
  rotate_left; · exact zqB
  rotate_left; · exact zqA
  refine pure_ (i := 16) (N := some 28) (v := ?_) (a' := ?_) #[true, true, true, true, true, true, true, true, true, true, true, true, true, true, true, true, true, false] rfl rfl (any_of HT_.out (by kernel_rfl)) (fun _ _ _ h => h) (Or.inl ⟨by rfl, ?_⟩) ?_ ?_
  rotate_left; · exact zqB
  rotate_left; · exact zqA
  refine pure_ (i := 17) (N := some 29) (v := ?_) (a' := ?_) #[true, true, true, true, true, true, true, true, true, true, true, true, true, true, true, true, true, true] rfl rfl (any_of HT_.out (by kernel_rfl)) (fun _ _ _ h => h) (Or.inl ⟨by rfl, ?_⟩) ?_ ?_
  rotate_left; · exact zqB
  rotate_left; · exact zqA
  refine done_ (done_of HT_.out (by kernel_rfl)) ?_
  try go_wp2
  go_roundg k1
  case measure => have := HK1.out; omega
  case rel => exact ⟨(wrap64 (x7_1 + 1)), (by first | rfl | (simp; done) | (simp [*]; done)), H', ⟨by have := HK1.out; omega⟩, ⟨zq17⟩⟩

/-! ### impl_isOverview: function 31 -/
def impl_isOverview.f (k : Nat) (l0 : List (S25)) : Option (Bool) := if (l0.length : Int) ≤ 12 then ((impl_areWarnings.f k l0).bind fun t341 => (some t341)) else (some false)
theorem impl_isOverview.mono : ∀ a0 k, LeO (impl_isOverview.f k a0) (impl_isOverview.f (k + 1) a0) := by
 intro a0 k
 unfold impl_isOverview.f
 repeat' first
   | (with_reducible exact impl_areWarnings.mono _ _)
   | (with_reducible exact LeO.refl _)
   | (with_reducible exact LeO.none _)
   | (with_reducible refine LeO.ite ?_ ?_)
   | (with_reducible refine LeO.bind ?_ (fun _ => ?_))
   | exact impl_areWarnings.mono _ _
   | exact LeO.none _
   | refine LeO.ite ?_ ?_
   | refine LeO.bind ?_ (fun _ => ?_)
set_option maxHeartbeats 8000000 in
set_option maxRecDepth 100000 in
theorem impl_isOverview.calls (k : Nat) (A0 : Option Addr) (c0 : Nat) (l0 : List (S25)) (r : Bool) (w : World) (hr0 : Kd.C k25 w A0 l0.length l0) (hc0 : l0.length ≤ c0) (h : impl_isOverview.f k l0 = some r) :
  Calls Tryd.prog 31 #[.slice A0 l0.length c0] w fun e w' => e = .returned (.bool r) ∧ Below w.heap.size w w' := by
 have HR0 := Aside0.mk hr0
 have HC0 := Aside0.mk hc0
 clear hr0 hc0
 have HB := Aside0.mk (Below.refl w.heap.size w)
 have H : (if (l0.length : Int) ≤ 12 then ((impl_areWarnings.f k l0).bind fun t341 => (some t341)) else (some false)) = some r := h
 clear h
 by_cases c2 : (l0.length : Int) ≤ 12
 case neg =>
  rw [if_neg c2] at H
  have c2b0 : decide ((l0.length : Int) ≤ 12) = false := decide_eq_false c2
  have c2b1 : decide (l0.length ≤ 12) = false := decide_eq_false (by omega)
  clear c2
  obtain rfl := Option.some.inj H
  go_enter Tryd.func31, Tryd.ntmps31
  go_wp2
  go_ret
  exact ⟨zqE, zq0⟩
 rw [if_pos c2] at H
 have c2b0 : decide ((l0.length : Int) ≤ 12) = true := decide_eq_true c2
 have c2b1 : decide (l0.length ≤ 12) = true := decide_eq_true (by omega)
 clear c2
 replace H := Option.bind_eq_some_iff.mp H
 obtain ⟨t341, A30, H⟩ := H
 replace H : (some t341) = some r := H
 have A3 := Aside0.mk A30
 clear A30
 obtain rfl := Option.some.inj H
 go_enter Tryd.func31, Tryd.ntmps31
 go_wp2_with (first | (go_at_call 48; (with_reducible refine (impl_areWarnings.calls k _ _ l0 t341 _ ?side1 ?side2 A3.out).mono ?_); (case side1 => exact zqC HR0.out); (case side2 => exact HC0.out); rintro e w4 ⟨rfl, hb⟩; have n0_ := Aside0.mk (below_step zq0 hb); clear HB; have HB := n0_; clear n0_; (try clear hb); (try clear hb2); (try clear hk); (try clear hi)))
 go_ret
 exact ⟨zqE, zq0⟩
/-! ### impl_Warning_49: function 49 -/
/-- slices.IndexFunc at warnings, whatever the predicate that leaves the old memory alone. -/
theorem IndexFuncW.calls (g : Nat) (lb : Array Value) (p : S25 → Bool) (eg : ∀ args w, (callFunc g args).run Tryd.prog w = .ok (.enter g args) w)
  (A0 : Option Addr) (n0 c0 : Nat) (l0 : List S25) (w : World) (hn : n0 = l0.length) (hr0 : Kd.C k25 w A0 l0.length l0) (hc0 : l0.length ≤ c0)
  (hp : ∀ (W : World) (x : S25), Below w.heap.size w W → Calls Tryd.prog g (#[.agg #[.int .i64 x.f0, .int .i64 x.f1, .int .i64 x.f2, .int .i64 x.f3, .int .i64 x.f4, .int .i64 x.f5]] ++ lb) W fun e w' => e = .returned (.bool (p x)) ∧ Below W.heap.size W w') :
  Calls Tryd.prog 49 #[.slice A0 n0 c0, .func (.func g) #[] lb] w fun e w' => e = .returned (.int .i64 (Gen.fIdx p l0)) ∧ Below w.heap.size w w' := by
 subst hn
 have hu := Tryd.underlying25
 have HR0 := Aside0.mk hr0
 have HP := Aside0.mk hp
 have hbig : l0.length ≤ 9223372036854775807 := hr0.2.1
 clear hr0 hp hc0
 go_enter Tryd.func49, Tryd.ntmps49
 go_wp2
 go_loopg [5, 8] l0.length (fun gg _ s8 wr => ∃ kk : Nat, kk ≤ l0.length ∧ l0.length - kk ≤ gg ∧ s8 = .int .i64 kk ∧ Aside0 (Below w.heap.size w wr) ∧ Aside0 (∀ j, j < kk → p (l0.getD j z25) = false))
 case atStart => exact ⟨0, Nat.zero_le _, by omega, rfl, ⟨Below.refl _ w⟩, ⟨fun j hj => absurd hj (Nat.not_lt_zero _)⟩⟩
 case round =>
  obtain ⟨kk, hkk, hg, rfl, BW, AN⟩ := hrel
  by_cases hlt : kk < l0.length
  ·
   have hltz : (kk : Int) < (l0.length : Int) := by omega
   obtain ⟨ad, e0, hx0, hx1, hx2, hx3, hx4, hx5⟩ := at_T25 HR0.out (kk : Int) (by omega) hltz
   cases e0
   rw [show rd_T25 l0 (kk : Int) = l0.getD kk z25 from rfl, Int.toNat_natCast] at hx0 hx1 hx2 hx3 hx4 hx5
   generalize hy : l0.getD kk z25 = y at hx0 hx1 hx2 hx3 hx4 hx5
   have B := Aside0.mk hy
   clear hy
   replace hx0 := (BW.out.cell (World.block_lt_of_cell? w _ hx0)).trans hx0
   replace hx1 := (BW.out.cell (World.block_lt_of_cell? w _ hx1)).trans hx1
   replace hx2 := (BW.out.cell (World.block_lt_of_cell? w _ hx2)).trans hx2
   replace hx3 := (BW.out.cell (World.block_lt_of_cell? w _ hx3)).trans hx3
   replace hx4 := (BW.out.cell (World.block_lt_of_cell? w _ hx4)).trans hx4
   replace hx5 := (BW.out.cell (World.block_lt_of_cell? w _ hx5)).trans hx5
   have hcall := HP.out wr y BW.out
   cases hq : p y with
   | true =>
    rw [hq] at hcall
    go_wp2_with (go_at_fn g; refine hcall.mono ?_; rintro e w' ⟨rfl, hb'⟩)
    go_ret
    refine ⟨?_, BW.out.trans (hb'.mono BW.out.size)⟩
    rw [Gen.fIdx_hit p l0 z25 kk hlt (by rw [B.out]; exact hq) AN.out]
    rfl
   | false =>
    rw [hq] at hcall
    go_wp2_with (go_at_fn g; refine hcall.mono ?_; rintro e w' ⟨rfl, hb'⟩)
    go_roundg (l0.length - (kk + 1))
    case measure => omega
    case rel =>
     refine ⟨kk + 1, by omega, by omega, by go_num, ⟨BW.out.trans (hb'.mono BW.out.size)⟩, ⟨fun j hj => ?_⟩⟩
     by_cases e : j = kk
     ·
      subst e
      rw [B.out]; exact hq
     ·
      exact AN.out j (by omega)
  ·
   have hltz : ¬ (kk : Int) < (l0.length : Int) := by omega
   have : kk = l0.length := by omega
   subst this
   go_wp2
   go_ret
   refine ⟨?_, BW.out⟩
   rw [Gen.fIdx_miss p l0 z25 AN.out]
   rfl

/-! ### impl_Warning_32: function 32 -/
/-- slices.ContainsFunc at warnings. -/
theorem ContainsFuncW.calls (g : Nat) (lb : Array Value) (p : S25 → Bool) (eg : ∀ args w, (callFunc g args).run Tryd.prog w = .ok (.enter g args) w)
  (A0 : Option Addr) (n0 c0 : Nat) (l0 : List S25) (w : World) (hn : n0 = l0.length) (hr0 : Kd.C k25 w A0 l0.length l0) (hc0 : l0.length ≤ c0)
  (hp : ∀ (W : World) (x : S25), Below w.heap.size w W → Calls Tryd.prog g (#[.agg #[.int .i64 x.f0, .int .i64 x.f1, .int .i64 x.f2, .int .i64 x.f3, .int .i64 x.f4, .int .i64 x.f5]] ++ lb) W fun e w' => e = .returned (.bool (p x)) ∧ Below W.heap.size W w') :
  Calls Tryd.prog 32 #[.slice A0 n0 c0, .func (.func g) #[] lb] w fun e w' => e = .returned (.bool (l0.any p)) ∧ Below w.heap.size w w' := by
 subst hn
 rw [← Gen.fIdx_nonneg p l0]
 have HC := Aside0.mk (IndexFuncW.calls g lb p eg A0 _ c0 l0 w rfl hr0 hc0 hp)
 clear hr0 hp hc0
 go_enter Tryd.func32, Tryd.ntmps32
 go_wp2_with (go_at_call 49; refine HC.out.mono ?_; rintro e w' ⟨rfl, hb'⟩)
 go_ret
 exact ⟨rfl, hb'⟩


/-! ### impl_HeadlineOf: function 12 -/
-- function 31, 28, 32, called
def impl_HeadlineOf.c.T19 : Bool × List (List Nat × List Nat) := (true, [([], []), ([0], [0]), ([1], [1]), ([2], [2]), ([], []), ([4], [4]), ([3, 5], [3, 5]), ([6, 5, 0, 1, 2, 3, 4, 5, 6], [6]), ([7, 0, 1, 2, 3, 4, 5, 6, 7], [])])
def impl_HeadlineOf.c.B19 : List Nat := [0, 1, 3, 7, 0, 16, 63, 127, 255]
theorem impl_HeadlineOf.c.tab19 : rtab .any (opsOf Tryd.f12 19) = impl_HeadlineOf.c.T19 := by kernel_rfl
theorem impl_HeadlineOf.c.bits19 : waitsOk impl_HeadlineOf.c.T19.2 impl_HeadlineOf.c.B19 = true := by kernel_rfl
/-- Does a warning bear a level and a topic? -/
def hitT (m t : Int) (x : S25) : Bool := decide (x.f2 = m) && decide (x.f1 = t)
/-- The greatest level of the first n warnings. -/
def lvN (l : List S25) : Nat → Int
 | 0 => 0
 | n + 1 => if lvN l n < (l.getD n z25).f2 then (l.getD n z25).f2 else lvN l n
/-- The words of the first n topics of a level. -/
def wordsN (l : List S25) (m : Int) : Nat → List ByteArray
 | 0 => []
 | n + 1 => if l.any (hitT m ((n + 1 : Nat) : Int)) = true then wordsN l m n ++ [wordS topicT ((n + 1 : Nat) : Int)] else wordsN l m n
theorem wordsN_len (l : List S25) (m : Int) : ∀ n, (wordsN l m n).length ≤ n
 | 0 => Nat.le_refl _
 | n + 1 => by
  have := wordsN_len l m n
  unfold wordsN
  split
  ·
   rw [List.length_append]; simp; omega
  ·
   omega
def impl_HeadlineOf.f (k : Nat) (l0 : List S25) : Option (ByteArray × Bool) := (impl_isOverview.f k l0).bind fun t => (if t = true then (if l0.length = 0 then some ((⟨#[78, 111, 32, 119, 97, 114, 110, 105, 110, 103, 115]⟩ : ByteArray), true) else (if 0 ≤ lvN l0 l0.length ∧ lvN l0 l0.length < 4 then (strings_Join.f (wordsN l0 (lvN l0 l0.length) 5) (⟨#[44, 32]⟩ : ByteArray)).bind fun s => (if s.size ≤ 1000000 then some (((wordS levelT (lvN l0 l0.length)) ++ (⟨#[32, 119, 97, 114, 110, 105, 110, 103, 115, 58, 32]⟩ : ByteArray)) ++ s, true) else none) else none)) else some ((⟨#[]⟩ : ByteArray), false))
theorem impl_HeadlineOf.mono : ∀ a0 k, LeO (impl_HeadlineOf.f k a0) (impl_HeadlineOf.f (k + 1) a0) := fun a0 k => LeO.bind (impl_isOverview.mono a0 k) (fun _ => LeO.refl _)
set_option maxRecDepth 100000 in
/-- The function that HeadlineOf hands on: it asks whether a warning bears the level in block B and the topic in block C. -/
theorem impl_HeadlineOf.pred (B C : Nat) (m t : Int) (w : World) (hB : w.heap[B]? = some (.cells #[.int .i64 m] 3 (0, 0))) (hC : w.heap[C]? = some (.cells #[.int .i64 t] 3 (0, 0))) :
  ∀ (W : World) (x : S25), Below w.heap.size w W → Calls Tryd.prog 33 (#[.agg #[.int .i64 x.f0, .int .i64 x.f1, .int .i64 x.f2, .int .i64 x.f3, .int .i64 x.f4, .int .i64 x.f5]] ++ #[.pointer (some ⟨B, 0, none⟩), .pointer (some ⟨C, 0, none⟩)]) W fun e w' => e = .returned (.bool (hitT m t x)) ∧ Below W.heap.size W w' := by
 intro W x hb
 have hBW := blk_below hB hb
 have hCW := blk_below hC hb
 have h0 : W.cell? ⟨B, 0, none⟩ = some (.int .i64 m) := (blk_cell hBW 0).trans rfl
 have h1 : W.cell? ⟨C, 0, none⟩ = some (.int .i64 t) := (blk_cell hCW 0).trans rfl
 have h2 : ∀ o, (W.alloc o).cell? ⟨B, 0, none⟩ = some (.int .i64 m) := fun o => (blk_cell (blk_alloc hBW o) 0).trans rfl
 have h3 : ∀ o, (W.alloc o).cell? ⟨C, 0, none⟩ = some (.int .i64 t) := fun o => (blk_cell (blk_alloc hCW o) 0).trans rfl
 have hn0 : B ≠ W.heap.size := Nat.ne_of_lt (blk_lt hBW)
 have hn1 : C ≠ W.heap.size := Nat.ne_of_lt (blk_lt hCW)
 have hu := Tryd.underlying25
 clear hBW hCW hB hC hb
 show Calls Tryd.prog 33 #[.agg #[.int .i64 x.f0, .int .i64 x.f1, .int .i64 x.f2, .int .i64 x.f3, .int .i64 x.f4, .int .i64 x.f5], .pointer (some ⟨B, 0, none⟩), .pointer (some ⟨C, 0, none⟩)] W _
 unfold hitT
 by_cases c : x.f2 = m
 ·
  have c1 : decide (x.f2 = m) = true := decide_eq_true c
  have c2 : (x.f2 == m) = true := by simpa using c
  clear c
  go_enter Tryd.func33, Tryd.ntmps33
  go_wp2
  go_ret
  exact ⟨by first | rfl | (simp [c1]; done) | (simp [c1] <;> rfl), by first | exact (Below.refl _ W).alloc (Nat.le_refl _) _ | exact ((Below.refl _ W).alloc (Nat.le_refl _) _).drewN _⟩
 ·
  have c1 : decide (x.f2 = m) = false := decide_eq_false c
  have c2 : (x.f2 == m) = false := by simpa using c
  clear c
  go_enter Tryd.func33, Tryd.ntmps33
  go_wp2
  go_ret
  exact ⟨by first | rfl | (simp [c1]; done) | (simp [c1] <;> rfl), by first | exact (Below.refl _ W).alloc (Nat.le_refl _) _ | exact ((Below.refl _ W).alloc (Nat.le_refl _) _).drewN _⟩
set_option maxHeartbeats 4000000 in
set_option maxRecDepth 100000 in
theorem impl_HeadlineOf.calls (k : Nat) (A0 : Option Addr) (c0 : Nat) (l0 : List S25) (r1 : ByteArray) (r2 : Bool) (w : World) (htL : TabL w) (htO : TabO w) (hr0 : Kd.C k25 w A0 l0.length l0) (hc0 : l0.length ≤ c0) (h : impl_HeadlineOf.f k l0 = some (r1, r2)) :
  Calls Tryd.prog 12 #[.slice A0 l0.length c0] w fun e w' => e = .returned (.tuple #[.string r1, .bool r2]) ∧ Below w.heap.size w w' := by
 have hu := Tryd.underlying25
 have HR0 := Aside0.mk hr0
 have HC0 := Aside0.mk hc0
 have HTL := Aside0.mk htL
 have HTO := Aside0.mk htO
 have hbig : l0.length ≤ 9223372036854775807 := hr0.2.1
 have eg : ∀ args w, (callFunc 33 args).run Tryd.prog w = .ok (.enter 33 args) w := enters_of Tryd.func33 (by kernel_rfl) rfl
 have EG := Aside0.mk eg
 clear hr0 hc0 htL htO eg
 unfold impl_HeadlineOf.f at h
 obtain ⟨t, ht, h⟩ := Option.bind_eq_some_iff.1 h
 have HT := Aside0.mk ht
 clear ht
 cases t with
 | false =>
  rw [if_neg (by simp)] at h
  injection h with h
  injection h with h1 h2
  subst h1 h2
  go_enter Tryd.func12, Tryd.ntmps12
  go_wp2_with (go_at_call 31; (with_reducible refine (impl_isOverview.calls k A0 c0 l0 false _ HR0.out HC0.out HT.out).mono ?_); rintro e w1 ⟨rfl, hb⟩)
  go_ret2
  exact ⟨rfl, hb⟩
 | true =>
  rw [if_pos rfl] at h
  by_cases hz : l0.length = 0
  case pos =>
   rw [if_pos hz] at h
   injection h with h
   injection h with h1 h2
   subst h1 h2
   have hz1 : decide ((l0.length : Int) = 0) = true := decide_eq_true (by omega)
   have hz2 : ((l0.length : Int) == 0) = true := by simpa using hz
   clear hz
   go_enter Tryd.func12, Tryd.ntmps12
   go_wp2_with (go_at_call 31; (with_reducible refine (impl_isOverview.calls k A0 c0 l0 true _ HR0.out HC0.out HT.out).mono ?_); rintro e w1 ⟨rfl, hb⟩)
   go_ret2
   exact ⟨rfl, hb⟩
  rw [if_neg hz] at h
  split at h
  ·
   rename_i hlv
   obtain ⟨s, hs, h⟩ := Option.bind_eq_some_iff.1 h
   split at h
   ·
    rename_i hsz
    injection h with h
    injection h with h1 h2
    subst h1 h2
    have HS := Aside0.mk hs
    have HZ := Aside0.mk hsz
    have HLV := Aside0.mk hlv
    clear hs hsz hlv
    have hz1 : decide ((l0.length : Int) = 0) = false := decide_eq_false (by omega)
    have hz2 : ((l0.length : Int) == 0) = false := by simpa using hz
    have HZ0 := Aside0.mk hz
    clear hz
    go_enter Tryd.func12, Tryd.ntmps12
    go_wp2_with (go_at_call 31; (with_reducible refine (impl_isOverview.calls k A0 c0 l0 true _ HR0.out HC0.out HT.out).mono ?_); rintro e w1 ⟨rfl, hb⟩; have HB1 := Aside0.mk hb; clear hb)
    go_loopg [17, 6, 18, 19, 20, 21, 22, 23, 24, 25] l0.length (fun gg s17 _ _ _ _ _ _ _ _ _ wr => ∃ kk : Nat, kk ≤ l0.length ∧ l0.length - kk ≤ gg ∧ s17 = .int .i64 kk ∧ Aside0 (Below w.heap.size w wr) ∧ Aside0 (wr.heap[w1.heap.size]? = some (.cells #[.int .i64 (lvN l0 kk)] 3 (0, 0))))
    case atStart => exact ⟨0, Nat.zero_le _, by omega, rfl, ⟨below_alloc HB1.out _⟩, ⟨blk_new w1 _⟩⟩
    obtain ⟨kk, hkk, hg, rfl, BW, HL⟩ := hrel
    have hl0 : wr.cell? ⟨w1.heap.size, 0, none⟩ = some (.int .i64 (lvN l0 kk)) := (blk_cell HL.out 0).trans rfl
    have hf0 : wr.frozen? ⟨w1.heap.size, 0, none⟩ = false := blk_frozen HL.out 0
    have hne : w1.heap.size ≠ wr.heap.size := Nat.ne_of_lt (blk_lt HL.out)
    have hl1 : ∀ o, (wr.alloc o).cell? ⟨w1.heap.size, 0, none⟩ = some (.int .i64 (lvN l0 kk)) := fun o => (blk_cell (blk_alloc HL.out o) 0).trans rfl
    have hf1 : ∀ o, (wr.alloc o).frozen? ⟨w1.heap.size, 0, none⟩ = false := fun o => blk_frozen (blk_alloc HL.out o) 0
    by_cases hlt : kk < l0.length
    case pos =>
     have hltz : (kk : Int) < (l0.length : Int) := by omega
     obtain ⟨ad, e0, hx0, hx1, hx2, hx3, hx4, hx5⟩ := at_T25 HR0.out (kk : Int) (by omega) hltz
     cases e0
     rw [show rd_T25 l0 (kk : Int) = l0.getD kk z25 from rfl, Int.toNat_natCast] at hx0 hx1 hx2 hx3 hx4 hx5
     have hlv : lvN l0 (kk + 1) = (if lvN l0 kk < (l0.getD kk z25).f2 then (l0.getD kk z25).f2 else lvN l0 kk) := rfl
     generalize hy : l0.getD kk z25 = y at hx0 hx1 hx2 hx3 hx4 hx5 hlv
     clear hy
     have HLN := Aside0.mk hlv
     clear hlv
     replace hx0 := (BW.out.cell (World.block_lt_of_cell? w _ hx0)).trans hx0
     replace hx1 := (BW.out.cell (World.block_lt_of_cell? w _ hx1)).trans hx1
     replace hx2 := (BW.out.cell (World.block_lt_of_cell? w _ hx2)).trans hx2
     replace hx3 := (BW.out.cell (World.block_lt_of_cell? w _ hx3)).trans hx3
     replace hx4 := (BW.out.cell (World.block_lt_of_cell? w _ hx4)).trans hx4
     replace hx5 := (BW.out.cell (World.block_lt_of_cell? w _ hx5)).trans hx5
     by_cases hmx : lvN l0 kk < y.f2
     case neg =>
      have HN : lvN l0 (kk + 1) = lvN l0 kk := HLN.out.trans (if_neg hmx)
      replace hmx := eq_false hmx
      go_wp2
      go_roundg (l0.length - (kk + 1))
      case measure => omega
      case rel => exact ⟨kk + 1, by omega, by omega, by go_num, ⟨below_set (below_alloc BW.out _) HB1.out.size⟩, ⟨by rw [HN]; exact blk_put (blk_alloc HL.out _) 0 _ rfl⟩⟩
     have HN : lvN l0 (kk + 1) = y.f2 := HLN.out.trans (if_pos hmx)
     replace hmx := eq_true hmx
     go_wp2
     go_roundg (l0.length - (kk + 1))
     case measure => omega
     case rel => exact ⟨kk + 1, by omega, by omega, by go_num, ⟨below_set (below_alloc BW.out _) HB1.out.size⟩, ⟨by rw [HN]; exact blk_put (blk_alloc HL.out _) 0 _ rfl⟩⟩
    have hltz : ¬ (kk : Int) < (l0.length : Int) := by omega
    have : kk = l0.length := by omega
    subst this
    clear hl0 hf0 hne hl1 hf1 hltz
    go_wp2
    go_loopg [8, 7, 26, 27, 28, 29, 30, 31, 32, 33, 34, 35, 36, 37, 38, 39] 6 (fun gg s8 s7 _ _ _ _ _ _ _ _ _ _ _ _ _ _ wz => ∃ t gT : Nat, t ≤ 5 ∧ 5 - t ≤ gg ∧ s8 = .pointer (some ⟨gT, 0, none⟩) ∧ Aside0 (Below w.heap.size w wz) ∧ Aside0 (w.heap.size ≤ gT) ∧ Aside0 (wz.heap[w1.heap.size]? = some (.cells #[.int .i64 (lvN l0 l0.length)] 3 (0, 0))) ∧ Aside0 (wz.heap[gT]? = some (.cells #[.int .i64 ((t : Int) + 1)] 3 (0, 0))) ∧ Aside0 (gT ≠ w1.heap.size) ∧ Aside0 (Kd.R Kd.string 9 wz w.heap.size (fun _ => True) s7 (wordsN l0 (lvN l0 l0.length) t)))
    case atStart => exact ⟨0, wr.heap.size, Nat.zero_le _, by omega, rfl, ⟨below_alloc BW.out _⟩, ⟨BW.out.size⟩, ⟨blk_alloc HL.out _⟩, ⟨blk_new wr _⟩, ⟨fun e => absurd (blk_lt HL.out) (by omega)⟩, ⟨Kd.R_nil _ _ _ _ _⟩⟩
    clear BW HL
    obtain ⟨t, gT, ht5, hg, rfl, BW, GT, HL, HT2, HNE, HW⟩ := hrel
    have hT0 : wr.cell? ⟨gT, 0, none⟩ = some (.int .i64 ((t : Int) + 1)) := (blk_cell HT2.out 0).trans rfl
    by_cases hlt : t < 5
    case pos =>
     have hle : ((t : Int) + 1 ≤ 5) = True := eq_true (by omega)
     have hle2 : decide ((t : Int) + 1 ≤ 5) = true := decide_eq_true (by omega)
     go_wp2_with fail
     refine (ContainsFuncW.calls 33 #[.pointer (some ⟨w1.heap.size, 0, none⟩), .pointer (some ⟨gT, 0, none⟩)] (hitT (lvN l0 l0.length) ((t : Int) + 1)) EG.out A0 l0.length c0 l0 _ rfl ?hr1 HC0.out ?hp1).mono ?_
     case hr1 => exact Kd.C_below HR0.out BW.out
     case hp1 => exact impl_HeadlineOf.pred _ _ _ _ _ HL.out HT2.out
     rintro e w2 ⟨rfl, hb2⟩
     have HB2 := Aside0.mk (below_step BW.out hb2)
     have HL2 := Aside0.mk (blk_below HL.out hb2)
     have HT3 := Aside0.mk (blk_below HT2.out hb2)
     have HW2 := Aside0.mk (Kd.R_below HW.out hb2)
     clear hb2 hT0 hle hle2
     cases hq : l0.any (hitT (lvN l0 l0.length) ((t : Int) + 1)) with
     | true =>
      have HWN := Aside0.mk (show wordsN l0 (lvN l0 l0.length) (t + 1) = wordsN l0 (lvN l0 l0.length) t ++ [wordS topicT ((t : Int) + 1)] from if_pos hq)
      clear hq
      have hT4 : w2.cell? ⟨gT, 0, none⟩ = some (.int .i64 ((t : Int) + 1)) := (blk_cell HT3.out 0).trans rfl
      have hO : w2.cell? ⟨1, ((t : Int) + 1).toNat, none⟩ = some (.string (wordS topicT ((t : Int) + 1))) := strTab_cell (HTO.out.below HB2.out) (by kernel_rfl) ((t : Int) + 1) (by show ((t : Int) + 1).toNat < 6; omega)
      rw [show ((t : Int) + 1).toNat = t + 1 from by omega] at hO
      have b1 : (0 ≤ (t : Int) + 1) = True := eq_true (by omega)
      have b2 : ((t : Int) + 1 < 6) = True := eq_true (by omega)
      have d1 : decide (0 ≤ (t : Int) + 1) = true := decide_eq_true (by omega)
      have d2 : decide ((t : Int) + 1 < 6) = true := decide_eq_true (by omega)
      have hv0 := Tryd.underlying36
      generalize hws : wordS topicT ((t : Int) + 1) = WS at hO HWN
      clear hws
      have hn0 : some w1.heap.size ≠ u7.ownBlock := by obtain ⟨inner, ho⟩ := Kd.R_own HW2.out; exact own_ne ho HL2.out (by decide)
      have hnT : some gT ≠ u7.ownBlock := by obtain ⟨inner, ho⟩ := Kd.R_own HW2.out; exact own_ne ho HT3.out (by decide)
      have HN0 := Aside0.mk hn0
      have HNT := Aside0.mk hnT
      clear hn0 hnT
      go_wp2_with ((with_reducible refine gate_dst (N := 38) rfl ?_); refine Kd.R_append Kd.string (w0 := w) w.heap.size rfl (.tmp 33) (.tmp 37) 41 9 (.string ⟨#[]⟩) 16 rfl Tryd.underlying41 info9 rfl (by decide) (by omega) u7 (wordsN l0 (lvN l0 l0.length) t) WS [.string WS] (fun _ => True) (fun _ => False) rfl rfl ?aP (fun _ hk => hk.elim) ?aF ?aO ?aB ?aS ?aL ?_; (case aP => exact rfl); (case aB => exact HB2.out); (case aF => exact fun _ _ => trivial); (case aO => exact HW2.out); (case aS => exact below_size HB2.out); (case aL => have := wordsN_len l0 (lvN l0 l0.length) t; omega); intro v3 w3 ho hb hg hat; have HW3 := Aside0.mk ho; have HB3 := Aside0.mk hb; have HL3 := Aside0.mk (blk_grown HL2.out hg HN0.out); have HT5 := Aside0.mk (blk_grown HT3.out hg HNT.out); have hT3 : w3.cell? ⟨gT, 0, none⟩ = some (.int .i64 ((t : Int) + 1)) := (blk_cell HT5.out 0).trans rfl; clear ho hb hg hat)
      go_roundg (5 - (t + 1))
      case measure => omega
      case rel =>
       refine ⟨t + 1, w3.heap.size, by omega, by omega, rfl, ⟨below_alloc HB3.out _⟩, ⟨below_size HB3.out⟩, ⟨blk_alloc HL3.out _⟩, ⟨by rw [show ((t + 1 : Nat) : Int) = (t : Int) + 1 from by omega]; exact blk_new _ _⟩, ⟨fun e => absurd (blk_lt HL3.out) (by omega)⟩, ⟨?_⟩⟩
       rw [HWN.out]
       exact Kd.R_alloc HW3.out _
     | false =>
      have HWN := Aside0.mk (show wordsN l0 (lvN l0 l0.length) (t + 1) = wordsN l0 (lvN l0 l0.length) t from if_neg (by rw [show ((t + 1 : Nat) : Int) = (t : Int) + 1 from by omega, hq]; simp))
      clear hq
      have hT3 : w2.cell? ⟨gT, 0, none⟩ = some (.int .i64 ((t : Int) + 1)) := (blk_cell HT3.out 0).trans rfl
      go_wp2
      go_roundg (5 - (t + 1))
      case measure => omega
      case rel =>
       refine ⟨t + 1, w2.heap.size, by omega, by omega, rfl, ⟨below_alloc HB2.out _⟩, ⟨below_size HB2.out⟩, ⟨blk_alloc HL2.out _⟩, ⟨by rw [show ((t + 1 : Nat) : Int) = (t : Int) + 1 from by omega]; exact blk_new _ _⟩, ⟨fun e => absurd (blk_lt HL2.out) (by omega)⟩, ⟨?_⟩⟩
       rw [HWN.out]
       exact Kd.R_alloc HW2.out _
    have hle : ((t : Int) + 1 ≤ 5) = False := eq_false (by omega)
    have hle2 : decide ((t : Int) + 1 ≤ 5) = false := decide_eq_false (by omega)
    have : t = 5 := by omega
    subst this
    obtain ⟨Ao, co, eo⟩ := Kd.R_slice HW.out
    subst eo
    have c0_ : wr.cell? ⟨w1.heap.size, 0, none⟩ = some (.int .i64 (lvN l0 l0.length)) := (blk_cell HL.out 0).trans rfl
    have hL : wr.cell? ⟨0, (lvN l0 l0.length).toNat, none⟩ = some (.string (wordS levelT (lvN l0 l0.length))) := strTab_cell (HTL.out.below BW.out) (by kernel_rfl) (lvN l0 l0.length) (by show (lvN l0 l0.length).toNat < 4; have := HLV.out; omega)
    have hLs := wordL_size (lvN l0 l0.length)
    have hZ := HZ.out
    generalize hLw : wordS levelT (lvN l0 l0.length) = L at hL hLs
    have HLW := Aside0.mk hLw
    clear hLw
    have z1 : (9223372036854775807 < L.size + 11) = False := eq_false (by omega)
    have z2 : (9223372036854775807 < L.size + 11 + s.size) = False := eq_false (by omega)
    have b1 : (0 ≤ lvN l0 l0.length) = True := eq_true HLV.out.1
    have b2 : (lvN l0 l0.length < 4) = True := eq_true HLV.out.2
    have d1 : decide (0 ≤ lvN l0 l0.length) = true := decide_eq_true HLV.out.1
    have d2 : decide (lvN l0 l0.length < 4) = true := decide_eq_true HLV.out.2
    have hv1 := Tryd.underlying37
    have HB := Aside0.mk BW.out.drew
    have HWd := Aside0.mk (Kd.R_drew HW.out)
    clear hLs hZ
    go_wp2_with fail
    refine start_ (n := 9) (S := fun w' => w'.cell? ⟨w1.heap.size, 0, none⟩ = some (.int .i64 (lvN l0 l0.length)) ∧ w'.cell? ⟨0, (lvN l0 l0.length).toNat, none⟩ = some (.string L)) (ds := []) #[false, false, false, false, false, false, false, false, false] (by kernel_rfl) rfl rfl ⟨(cell_drew6 c0_), (cell_drew6 hL)⟩ (fun hHeld => ?_)
    refine with_tabW impl_HeadlineOf.c.tab19 impl_HeadlineOf.c.bits19 (fun HT_ HW_ => ?_)
    generalize wr.drew = w1 at HB HWd hHeld ⊢
    refine pure_ (i := 4) (N := some 44) (v := ?_) (a' := ?_) #[false, false, false, false, true, false, false, false, false] rfl rfl (any_of HT_.out (by kernel_rfl)) (fun _ _ _ h => h) (Or.inl ⟨by rfl, ?_⟩) ?_ ?_
    rotate_left; · exact zqB
    rotate_left; · exact zqA
    refine take_ (i := 0) (N := some 40) (v := ?_) (a' := ?_) #[true, false, false, false, true, false, false, false, false] rfl rfl (take_ofW HT_.out HW_.out (by kernel_rfl)) (fun _ _ _ h => h) (Or.inl ⟨by rfl, ?_⟩) hHeld ?_ ?_
    rotate_left
    ·
     rintro w' ⟨s0, s1⟩
     go_simp
     with_reducible rfl
    rotate_left; · exact zqA
    refine pure_ (i := 1) (N := some 41) (v := ?_) (a' := ?_) #[true, true, false, false, true, false, false, false, false] rfl rfl (any_of HT_.out (by kernel_rfl)) (fun _ _ _ h => h) (Or.inl ⟨by rfl, ?_⟩) ?_ ?_
    rotate_left; · exact zqB
    rotate_left; · exact zqA
    refine take_ (i := 2) (N := some 42) (v := ?_) (a' := ?_) #[true, true, true, false, true, false, false, false, false] rfl rfl (take_ofW HT_.out HW_.out (by kernel_rfl)) (fun _ _ _ h => h) (Or.inl ⟨by rfl, ?_⟩) hHeld ?_ ?_
    rotate_left
    ·
     rintro w' ⟨s0, s1⟩
     go_simp
     with_reducible rfl
    rotate_left; · exact zqA
    refine pure_ (i := 3) (N := some 43) (v := ?_) (a' := ?_) #[true, true, true, true, true, false, false, false, false] rfl rfl (any_of HT_.out (by kernel_rfl)) (fun _ _ _ h => h) (Or.inl ⟨by rfl, ?_⟩) ?_ ?_
    rotate_left; · exact zqB
    rotate_left; · exact zqA
    refine one_ (i := 5) (N := some 45) #[true, true, true, true, true, true, false, false, false] rfl rfl (one_of HT_.out (by kernel_rfl)) (by decide) (fun K hK => ?_)
    refine goes_ Tryd.func28 (by kernel_rfl) rfl #[.slice Ao (wordsN l0 (lvN l0 l0.length) 5).length co, .string (⟨#[44, 32]⟩ : ByteArray)] (by rfl) rfl rfl zq15 ?_
    refine (strings_Join.calls _ _ (wordsN l0 (lvN l0 l0.length) 5) (⟨#[44, 32]⟩ : ByteArray) s _ (Kd.R_reads' HWd.out).2.2 (Kd.R_reads' HWd.out).2.1 HS.out).mono ?_
    rintro e w2 ⟨rfl, hb⟩
    refine ⟨_, rfl, ?_⟩
    obtain ⟨s0, s1⟩ := hHeld
    have HB_ := Aside0.mk (HB.out.trans (hb.mono HB.out.size))
    clear HB
    have HB := HB_
    clear HB_
    refine hK.out _ _ ⟨(hb.cell (World.block_lt_of_cell? _ _ s0)).trans s0, (hb.cell (World.block_lt_of_cell? _ _ s1)).trans s1⟩ (fun hHeld => ?_)
    clear hK K hb s0 s1
    refine norm_ (a' := ?_) ?_ ?_
    rotate_left
    ·
     show Act.put _ (some 45) _ = _
     simp only [Act.put, List.setIfInBounds_toArray, List.set_cons_zero, List.set_cons_succ, i64_w, i32_w]
     rfl
    refine pure_ (i := 6) (N := some 46) (v := ?_) (a' := ?_) #[true, true, true, true, true, true, true, false, false] rfl rfl (any_of HT_.out (by kernel_rfl)) (fun _ _ _ h => h) (Or.inl ⟨by rfl, ?_⟩) ?_ ?_
    rotate_left; · exact zqB
    rotate_left; · exact zqA
    refine pure_ (i := 7) (N := some 2) (v := ?_) (a' := ?_) #[true, true, true, true, true, true, true, true, false] rfl rfl (any_of HT_.out (by kernel_rfl)) (fun _ _ _ h => h) (Or.inl ⟨by rfl, ?_⟩) ?_ ?_
    rotate_left; · exact zqB
    rotate_left; · exact zqA
    refine pure_ (i := 8) (N := some 3) (v := ?_) (a' := ?_) #[true, true, true, true, true, true, true, true, true] rfl rfl (any_of HT_.out (by kernel_rfl)) (fun _ _ _ h => h) (Or.inl ⟨by rfl, ?_⟩) ?_ ?_
    rotate_left; · exact zqB
    rotate_left; · exact zqA
    refine done_ (done_of HT_.out (by kernel_rfl)) ?_
    go_wp2
    go_ret2
    have e := HLW.out
    subst e
    exact ⟨rfl, HB.out⟩
   ·
    cases h
  ·
   cases h
end Go.Proofs.YtjgkinpjjbgcpaaDoor.Q
