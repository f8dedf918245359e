/- Texts of this claim, put together: walks of the program's functions, and plain facts. -/
import Derived.Test.YtfaihkhdbapjmaaZFnAffected
import Derived.Test.YtfaihkhdbapjmaaBFnAffected0
import Derived.Test.YtfaihkhdbapjmaaBFnAffected3
import Derived.Test.YtfaihkhdbapjmaaBFnAffected8
import Derived.Test.YtfaihkhdbapjmaaBFnAffected9
namespace Go.Proofs.Ytfaihkhdbapjmaa.Q
open Go.RowKit Go.Proofs.YtfaihkhdbapjmaaW.PrintWords Go.Proofs.YtfaihkhdbapjmaaW.PrintLast Go.Proofs.YtfaihkhdbapjmaaW.PrintMore
attribute [local go_sem] max2_int min2_int max_two min_two max_three min_three max_four min_four
set_option linter.unusedVariables false
set_option linter.unusedSimpArgs false
mutual
def spec_l13Coverage.l0 : Nat → Int → Int → Int → Int → Int → Int → Int → List Int → Int → Int → List Int → Option (Int × Int)
 | 0, _, _, _, _, _, _, _, _, _, _, _ => none
 | k + 1, x1, x3, x10, x11, x12, x376000, x376001, x376002, x377000, x377001, x377002 => if x12 < (x376002.length : Int) then (if 0 ≤ x12 then (if (rd x376002 x12) = x1 then (if x12 < (x377002.length : Int) then (spec_l13Coverage.j1 k x1 x3 x10 x11 x12 ((rd x377002 x12) == (-9999)) x376000 x376001 x376002 x377000 x377001 x377002) else (none)) else (spec_l13Coverage.j1 k x1 x3 x10 x11 x12 true x376000 x376001 x376002 x377000 x377001 x377002)) else (none)) else (some (x10, x11))
def spec_l13Coverage.j1 : Nat → Int → Int → Int → Int → Int → Bool → Int → Int → List Int → Int → Int → List Int → Option (Int × Int)
 | 0, _, _, _, _, _, _, _, _, _, _, _, _ => none
 | k + 1, x1, x3, x10, x11, x12, x34, x376000, x376001, x376002, x377000, x377001, x377002 => if x34 = true then (spec_l13Coverage.l0 k x1 x3 x10 x11 (wrap64 (x12 + 1)) x376000 x376001 x376002 x377000 x377001 x377002) else (if 0 ≤ x12 then (if x12 < (x377002.length : Int) then (if (rd x377002 x12) ≥ x3 then (spec_l13Coverage.l0 k x1 x3 (wrap64 (x10 + 1)) (wrap64 (x11 + 1)) (wrap64 (x12 + 1)) x376000 x376001 x376002 x377000 x377001 x377002) else (spec_l13Coverage.l0 k x1 x3 x10 (wrap64 (x11 + 1)) (wrap64 (x12 + 1)) x376000 x376001 x376002 x377000 x377001 x377002)) else (none)) else (none))
end
def spec_l13Coverage.f (k : Nat) (a0_0 : Int) (a0_1 : Int) (l0_2 : List Int) (a1 : Int) (a2_0 : Int) (a2_1 : Int) (l2_2 : List Int) (a3 : Int) : Option (Int × Int) := spec_l13Coverage.l0 k a1 a3 0 0 0 a0_0 a0_1 l0_2 a2_0 a2_1 l2_2
set_option maxHeartbeats 8000000 in
set_option maxRecDepth 100000 in
theorem spec_l13Coverage.calls (k : Nat) (a0_0 : Int) (a0_1 : Int) (A0_2 : Option Addr) (c0_2 : Nat) (l0_2 : List Int) (a1 : Int) (a2_0 : Int) (a2_1 : Int) (A2_2 : Option Addr) (c2_2 : Nat) (l2_2 : List Int) (a3 : Int) (r1 : Int) (r2 : Int) (w : World) (hr0_2 : Kd.C (Kd.int .i64) w A0_2 l0_2.length l0_2) (hc0_2 : l0_2.length ≤ c0_2) (hr2_2 : Kd.C (Kd.int .i64) w A2_2 l2_2.length l2_2) (hc2_2 : l2_2.length ≤ c2_2) (h : spec_l13Coverage.f k a0_0 a0_1 l0_2 a1 a2_0 a2_1 l2_2 a3 = some (r1, r2)) :
  Calls Try.prog 30 #[.agg #[.int .i64 a0_0, .int .i64 a0_1, .slice A0_2 l0_2.length c0_2], .int .i64 a1, .agg #[.int .i64 a2_0, .int .i64 a2_1, .slice A2_2 l2_2.length c2_2], .int .i64 a3] w fun e w' => e = .returned (.tuple #[.int .i64 r1, .int .i64 r2]) ∧ Below w.heap.size w w' := by
 have hu26 := Try.underlying26
 have hu27 := Try.underlying27
 have HR0_2 := zm hr0_2
 have HC0_2 := zm hc0_2
 clear hr0_2 hc0_2
 have HR2_2 := zm hr2_2
 have HC2_2 := zm hc2_2
 clear hr2_2 hc2_2
 have HB := zm (Below.refl w.heap.size w)
 have H : (spec_l13Coverage.l0 k a1 a3 0 0 0 a0_0 a0_1 l0_2 a2_0 a2_1 l2_2) = some (r1, r2) := h
 clear h
 have H' := zm H
 clear H
 go_enter Try.func30, Try.ntmps30
 go_wp2_with (first | ((with_reducible refine gate_dst (N := 4) rfl ?_); refine box_event ?hg (N := 4) ?hd (cs := #[.int .i64 a0_0, .int .i64 a0_1, .slice A0_2 l0_2.length c0_2]) (t := 26) ?hr ?_; (case hd => rfl); (case hg => rfl); (case hr => exact zqS); intro gb375 hg w5 hbox hb; have BK375 := zm (hbox); have GW375 := zm ((by rw [hg]; exact (zyi zq1) : w.heap.size ≤ gb375)); replace HB := zm (zyh zq1 hb); have GE375 := GW375; clear hb hbox hg) | ((with_reducible refine gate_dst (N := 6) rfl ?_); refine box_event ?hg (N := 6) ?hd (cs := #[.int .i64 a2_0, .int .i64 a2_1, .slice A2_2 l2_2.length c2_2]) (t := 27) ?hr ?_; (case hd => rfl); (case hg => rfl); (case hr => exact zqS); intro gb376 hg w6 hbox hb; have BK376 := zm (hbox); have GW376 := zm ((by rw [hg]; exact (zyi zq99) : w.heap.size ≤ gb376)); replace HB := zm (zyh zq99 hb); have GE376 := GW376; have NB375_376 := zm ((by rw [hg]; exact Nat.ne_of_lt (blk_lt (g := gb375) (o := .cells #[.int .i64 a0_0, .int .i64 a0_1, .slice A0_2 l0_2.length c0_2] 26 (0, 0)) (zqK BK375.out)) : gb375 ≠ gb376)); have NB376_375 := zm ((by rw [hg]; exact Nat.ne_of_gt (blk_lt (g := gb375) (o := .cells #[.int .i64 a0_0, .int .i64 a0_1, .slice A0_2 l0_2.length c0_2] 26 (0, 0)) (zqK BK375.out)) : gb376 ≠ gb375)); replace BK375 := zm (zyb (g := gb375) (o := .cells #[.int .i64 a0_0, .int .i64 a0_1, .slice A0_2 l0_2.length c0_2] 26 (0, 0)) (zqK BK375.out) hb); clear hb hbox hg))
 go_loopg [10, 11, 12] k (fun kq v10 v11 v12 w' => ∃ (x10_1 : Int) (x11_1 : Int) (x12_1 : Int), v10 = .int .i64 x10_1 ∧ v11 = .int .i64 x11_1 ∧ v12 = .int .i64 x12_1 ∧ Aside0 (spec_l13Coverage.l0 kq a1 a3 x10_1 x11_1 x12_1 a0_0 a0_1 l0_2 a2_0 a2_1 l2_2 = some (r1, r2)) ∧ Aside0 (kq ≤ k) ∧ Aside0 (w'.heap[gb375]? = some (.cells #[.int .i64 a0_0, .int .i64 a0_1, (.slice A0_2 l0_2.length c0_2)] 26 (0, 0))) ∧ Aside0 (w'.heap[gb376]? = some (.cells #[.int .i64 a2_0, .int .i64 a2_1, (.slice A2_2 l2_2.length c2_2)] 27 (0, 0))) ∧ Aside0 (Below w.heap.size w w'))
 case atStart => exact ⟨(0), (0), (0), (by first | rfl | (simp; done) | (simp [*]; done)), (by first | rfl | (simp; done) | (simp [*]; done)), (by first | rfl | (simp; done) | (simp [*]; done)), H', ⟨Nat.le_refl _⟩, ⟨by (with_reducible repeat (first | apply zN | apply zD | apply zL)); exact BK375.out⟩, ⟨by (with_reducible repeat (first | apply zN | apply zD | apply zL)); exact BK376.out⟩, ⟨zq49⟩⟩
 clear H'
 try clear c2
 try clear p2
 try clear c3
 obtain ⟨x10_1, x11_1, x12_1, rfl, rfl, rfl, HA, HK1, BK375, BK376, HB⟩ := hrel
 cases gk with
 | zero => exact absurd HA.out (by simp [spec_l13Coverage.l0])
 | succ k1 =>
  have H := HA.out
  clear HA
  simp only [spec_l13Coverage.l0] at H
  by_cases c7 : x12_1 < (l0_2.length : Int)
  case neg =>
   rw [if_neg c7] at H
   have c7b0 : decide (x12_1 < (l0_2.length : Int)) = false := decide_eq_false c7
   clear c7
   simp only [Option.some.injEq, Prod.mk.injEq] at H
   obtain ⟨rfl, rfl⟩ := H
   have hnb27 := NB375_376.out
   have hnc27 := NB376_375.out
   have hcz28_0 := bz BK375.out 0 (.int .i64 a0_0)
   have hcz28_1 := bz BK375.out 1 (.int .i64 a0_1)
   have hcz28_2 := bz BK375.out 2 (.slice A0_2 l0_2.length c0_2)
   have hfz28_0 := zyF BK375.out 0
   have hfz28_1 := zyF BK375.out 1
   have hfz28_2 := zyF BK375.out 2
   go_wp2
   go_ret2
   exact ⟨zqE, zq49⟩
  rw [if_pos c7] at H
  have c7b0 : decide (x12_1 < (l0_2.length : Int)) = true := decide_eq_true c7
  clear c7
  have HC8 := zm H
  clear H
  have hnb9 := NB375_376.out
  have hnc9 := NB376_375.out
  have hcz10_0 := bz BK375.out 0 (.int .i64 a0_0)
  have hcz10_1 := bz BK375.out 1 (.int .i64 a0_1)
  have hcz10_2 := bz BK375.out 2 (.slice A0_2 l0_2.length c0_2)
  have hfz10_0 := zyF BK375.out 0
  have hfz10_1 := zyF BK375.out 1
  have hfz10_2 := zyF BK375.out 2
  go_upto_region 5 with (fail)
  go_cut [34] (fun v34 wc => ∃ (kq : Nat) (x34_7 : Bool), v34 = .bool x34_7 ∧ Aside0 (spec_l13Coverage.j1 kq a1 a3 x10_1 x11_1 x12_1 x34_7 a0_0 a0_1 l0_2 a2_0 a2_1 l2_2 = some (r1, r2)) ∧ Aside0 (kq ≤ k1) ∧ Aside0 (wc.heap[gb375]? = some (.cells #[.int .i64 a0_0, .int .i64 a0_1, (.slice A0_2 l0_2.length c0_2)] 26 (0, 0))) ∧ Aside0 (wc.heap[gb376]? = some (.cells #[.int .i64 a2_0, .int .i64 a2_1, (.slice A2_2 l2_2.length c2_2)] 27 (0, 0))) ∧ Aside0 (Below w.heap.size w wc))
  case first =>
   have H := HC8.out
   clear HC8
   by_cases c11 : 0 ≤ x12_1
   case neg =>
    rw [if_neg c11] at H
    exact absurd H (by simp)
   rw [if_pos c11] at H
   have c11b0 : decide (0 ≤ x12_1) = true := decide_eq_true c11
   clear c11
   (first | rw [c11b0] | (simp only [i64_w, i32_w]; rw [c11b0]) | skip)
   by_cases c12 : (rd l0_2 x12_1) = a1
   case neg =>
    rw [if_neg c12] at H
    have c12b0 : ((rd l0_2 x12_1) == a1) = false := beq_eq_false_iff_ne.mpr c12
    have c12b1 : ((rd l0_2 x12_1) != a1) = true := bne_iff_ne.mpr c12
    have H' := zm H
    clear H
    have hnb17 := NB375_376.out
    have hnc17 := NB376_375.out
    have hcz18_0 := bz BK375.out 0 (.int .i64 a0_0)
    have hcz18_1 := bz BK375.out 1 (.int .i64 a0_1)
    have hcz18_2 := bz BK375.out 2 (.slice A0_2 l0_2.length c0_2)
    have hfz18_0 := zyF BK375.out 0
    have hfz18_1 := zyF BK375.out 1
    have hfz18_2 := zyF BK375.out 2
    have p377 : 0 ≤ (x12_1 : Int) := of_decide_eq_true zq6
    have q377 : x12_1 < (l0_2.length : Int) := of_decide_eq_true zq6
    obtain ⟨ad377, e377, hx377_0⟩ := Kd.at_int HR0_2.out x12_1 p377 q377
    cases e377
    replace hx377_0 := bx HB.out hx377_0
    replace p377 := eq_true p377
    replace q377 := eq_true q377
    go_wp2
    go_meet
    case rel => exact ⟨_, (true), (by first | rfl | (simp; done) | (simp [*]; done)), H', ⟨by have := HK1.out; first | omega | exact Nat.le_refl _⟩, ⟨by (with_reducible repeat (first | apply zN | apply zD | apply zL)); exact BK375.out⟩, ⟨by (with_reducible repeat (first | apply zN | apply zD | apply zL)); exact BK376.out⟩, ⟨zq49⟩⟩
   rw [if_pos c12] at H
   have c12b0 : ((rd l0_2 x12_1) == a1) = true := beq_iff_eq.mpr c12
   have c12b1 : ((rd l0_2 x12_1) != a1) = false := bne_eq_false_iff_eq.mpr c12
   clear c12
   by_cases c13 : x12_1 < (l2_2.length : Int)
   case neg =>
    rw [if_neg c13] at H
    exact absurd H (by simp)
   rw [if_pos c13] at H
   have c13b0 : decide (x12_1 < (l2_2.length : Int)) = true := decide_eq_true c13
   clear c13
   have H' := zm H
   clear H
   have hnb14 := NB375_376.out
   have hnc14 := NB376_375.out
   have hcz15_0 := bz BK375.out 0 (.int .i64 a0_0)
   have hcz15_1 := bz BK375.out 1 (.int .i64 a0_1)
   have hcz15_2 := bz BK375.out 2 (.slice A0_2 l0_2.length c0_2)
   have hfz15_0 := zyF BK375.out 0
   have hfz15_1 := zyF BK375.out 1
   have hfz15_2 := zyF BK375.out 2
   have p377 : 0 ≤ (x12_1 : Int) := of_decide_eq_true zq6
   have q377 : x12_1 < (l0_2.length : Int) := of_decide_eq_true zq6
   obtain ⟨ad377, e377, hx377_0⟩ := Kd.at_int HR0_2.out x12_1 p377 q377
   cases e377
   replace hx377_0 := bx HB.out hx377_0
   replace p377 := eq_true p377
   replace q377 := eq_true q377
   have hcz16_0 := bz BK376.out 0 (.int .i64 a2_0)
   have hcz16_1 := bz BK376.out 1 (.int .i64 a2_1)
   have hcz16_2 := bz BK376.out 2 (.slice A2_2 l2_2.length c2_2)
   have hfz16_0 := zyF BK376.out 0
   have hfz16_1 := zyF BK376.out 1
   have hfz16_2 := zyF BK376.out 2
   have p378 : 0 ≤ (x12_1 : Int) := of_decide_eq_true zq6
   have q378 : x12_1 < (l2_2.length : Int) := of_decide_eq_true zq6
   obtain ⟨ad378, e378, hx378_0⟩ := Kd.at_int HR2_2.out x12_1 p378 q378
   cases e378
   replace hx378_0 := bx HB.out hx378_0
   replace p378 := eq_true p378
   replace q378 := eq_true q378
   go_wp2
   go_meet
   case rel => exact ⟨_, (((rd l2_2 x12_1) == (-9999))), (by first | rfl | (simp; done) | (simp [*]; done)), H', ⟨by have := HK1.out; first | omega | exact Nat.le_refl _⟩, ⟨by (with_reducible repeat (first | apply zN | apply zD | apply zL)); exact BK375.out⟩, ⟨by (with_reducible repeat (first | apply zN | apply zD | apply zL)); exact BK376.out⟩, ⟨zq49⟩⟩
  clear HC8
  try clear c1
  try clear c2
  try clear p2
  try clear c3
  try clear p3
  try clear q3
  try clear hx3
  try clear c7
  try clear c7b0
  try clear c9
  try clear c11
  try clear c11b0
  try clear c12
  try clear c12b0
  try clear c12b1
  try clear c13
  try clear c13b0
  try clear c14
  try clear c17
  try clear hcz10_0
  try clear hcz10_1
  try clear hcz10_2
  try clear hcz15_0
  try clear hcz15_1
  try clear hcz15_2
  try clear hcz16_0
  try clear hcz16_1
  try clear hcz16_2
  try clear hcz18_0
  try clear hcz18_1
  try clear hcz18_2
  try clear hfz10_0
  try clear hfz10_1
  try clear hfz10_2
  try clear hfz15_0
  try clear hfz15_1
  try clear hfz15_2
  try clear hfz16_0
  try clear hfz16_1
  try clear hfz16_2
  try clear hfz18_0
  try clear hfz18_1
  try clear hfz18_2
  try clear hx377_0
  try clear hx378_0
  try clear p2
  try clear p377
  try clear p378
  try clear q377
  try clear q378
  obtain ⟨kq, x34_7, rfl, HA, HJ7, BK375, BK376, HB⟩ := hcut
  cases kq with
  | zero => exact absurd HA.out (by simp [spec_l13Coverage.j1])
  | succ kj7 =>
   have H := HA.out
   clear HA
   simp only [spec_l13Coverage.j1] at H
   by_cases c19 : x34_7 = true
   case pos =>
    subst c19
    have H1 : (spec_l13Coverage.l0 kj7 a1 a3 x10_1 x11_1 (wrap64 (x12_1 + 1)) a0_0 a0_1 l0_2 a2_0 a2_1 l2_2) = some (r1, r2) := by rw [if_pos rfl] at H; exact H
    clear H
    have H := H1
    clear H1
    have H' := zm H
    clear H
    go_wp2
    go_roundg kj7
    case measure => have := HK1.out; have := HJ7.out; omega
    case rel => exact ⟨(x10_1), (x11_1), (wrap64 (x12_1 + 1)), (by first | rfl | (simp; done) | (simp [*]; done)), (by first | rfl | (simp; done) | (simp [*]; done)), (by first | rfl | (simp; done) | (simp [*]; done)), H', ⟨by have := HK1.out; have := HJ7.out; omega⟩, ⟨by (with_reducible repeat (first | apply zN | apply zD | apply zL)); exact BK375.out⟩, ⟨by (with_reducible repeat (first | apply zN | apply zD | apply zL)); exact BK376.out⟩, ⟨zq49⟩⟩
   replace c19 := Bool.eq_false_iff.mpr c19
   subst c19
   have H1 : (if 0 ≤ x12_1 then (if x12_1 < (l2_2.length : Int) then (if (rd l2_2 x12_1) ≥ a3 then (spec_l13Coverage.l0 kj7 a1 a3 (wrap64 (x10_1 + 1)) (wrap64 (x11_1 + 1)) (wrap64 (x12_1 + 1)) a0_0 a0_1 l0_2 a2_0 a2_1 l2_2) else (spec_l13Coverage.l0 kj7 a1 a3 x10_1 (wrap64 (x11_1 + 1)) (wrap64 (x12_1 + 1)) a0_0 a0_1 l0_2 a2_0 a2_1 l2_2)) else (none)) else (none)) = some (r1, r2) := by rw [if_neg (show ¬ (false = true) by decide)] at H; exact H
   clear H
   have H := H1
   clear H1
   by_cases c20 : 0 ≤ x12_1
   case neg =>
    rw [if_neg c20] at H
    exact absurd H (by simp)
   rw [if_pos c20] at H
   have c20b0 : decide (0 ≤ x12_1) = true := decide_eq_true c20
   clear c20
   by_cases c21 : x12_1 < (l2_2.length : Int)
   case neg =>
    rw [if_neg c21] at H
    exact absurd H (by simp)
   rw [if_pos c21] at H
   have c21b0 : decide (x12_1 < (l2_2.length : Int)) = true := decide_eq_true c21
   clear c21
   by_cases c22 : (rd l2_2 x12_1) ≥ a3
   case neg =>
    rw [if_neg c22] at H
    have c22b0 : decide (a3 ≤ (rd l2_2 x12_1)) = false := decide_eq_false c22
    clear c22
    have H' := zm H
    clear H
    have hnb25 := NB376_375.out
    have hnc25 := NB375_376.out
    have hcz26_0 := bz BK376.out 0 (.int .i64 a2_0)
    have hcz26_1 := bz BK376.out 1 (.int .i64 a2_1)
    have hcz26_2 := bz BK376.out 2 (.slice A2_2 l2_2.length c2_2)
    have hfz26_0 := zyF BK376.out 0
    have hfz26_1 := zyF BK376.out 1
    have hfz26_2 := zyF BK376.out 2
    have p379 : 0 ≤ (x12_1 : Int) := of_decide_eq_true zq6
    have q379 : x12_1 < (l2_2.length : Int) := of_decide_eq_true zq6
    obtain ⟨ad379, e379, hx379_0⟩ := Kd.at_int HR2_2.out x12_1 p379 q379
    cases e379
    replace hx379_0 := bx HB.out hx379_0
    replace p379 := eq_true p379
    replace q379 := eq_true q379
    go_wp2
    go_roundg kj7
    case measure => have := HK1.out; have := HJ7.out; omega
    case rel => exact ⟨(x10_1), (wrap64 (x11_1 + 1)), (wrap64 (x12_1 + 1)), (by first | rfl | (simp; done) | (simp [*]; done)), (by first | rfl | (simp; done) | (simp [*]; done)), (by first | rfl | (simp; done) | (simp [*]; done)), H', ⟨by have := HK1.out; have := HJ7.out; omega⟩, ⟨by (with_reducible repeat (first | apply zN | apply zD | apply zL)); exact BK375.out⟩, ⟨by (with_reducible repeat (first | apply zN | apply zD | apply zL)); exact BK376.out⟩, ⟨zq49⟩⟩
   rw [if_pos c22] at H
   have c22b0 : decide (a3 ≤ (rd l2_2 x12_1)) = true := decide_eq_true c22
   clear c22
   have H' := zm H
   clear H
   have hnb23 := NB376_375.out
   have hnc23 := NB375_376.out
   have hcz24_0 := bz BK376.out 0 (.int .i64 a2_0)
   have hcz24_1 := bz BK376.out 1 (.int .i64 a2_1)
   have hcz24_2 := bz BK376.out 2 (.slice A2_2 l2_2.length c2_2)
   have hfz24_0 := zyF BK376.out 0
   have hfz24_1 := zyF BK376.out 1
   have hfz24_2 := zyF BK376.out 2
   have p379 : 0 ≤ (x12_1 : Int) := of_decide_eq_true zq6
   have q379 : x12_1 < (l2_2.length : Int) := of_decide_eq_true zq6
   obtain ⟨ad379, e379, hx379_0⟩ := Kd.at_int HR2_2.out x12_1 p379 q379
   cases e379
   replace hx379_0 := bx HB.out hx379_0
   replace p379 := eq_true p379
   replace q379 := eq_true q379
   go_wp2
   go_roundg kj7
   case measure => have := HK1.out; have := HJ7.out; omega
   case rel => exact ⟨(wrap64 (x10_1 + 1)), (wrap64 (x11_1 + 1)), (wrap64 (x12_1 + 1)), (by first | rfl | (simp; done) | (simp [*]; done)), (by first | rfl | (simp; done) | (simp [*]; done)), (by first | rfl | (simp; done) | (simp [*]; done)), H', ⟨by have := HK1.out; have := HJ7.out; omega⟩, ⟨by (with_reducible repeat (first | apply zN | apply zD | apply zL)); exact BK375.out⟩, ⟨by (with_reducible repeat (first | apply zN | apply zD | apply zL)); exact BK376.out⟩, ⟨zq49⟩⟩
mutual
def spec_AffectedAreas.j0 : Nat → Int → Int → List Int → Bool → Int → Int → List Int → Int → Int → List Int → Option (List Int × Bool)
 | 0, _, _, _, _, _, _, _, _, _, _ => none
 | k + 1, x2, x3, x10, x28, x381000, x381001, x381002, x382000, x382001, x382002 => if x28 = true then (some (x10, false)) else (spec_AffectedAreas.l0 k x2 x3 x10 1 x381000 x381001 x381002 x382000 x382001 x382002)
def spec_AffectedAreas.l0 : Nat → Int → Int → List Int → Int → Int → Int → List Int → Int → Int → List Int → Option (List Int × Bool)
 | 0, _, _, _, _, _, _, _, _, _, _ => none
 | k + 1, x2, x3, x10, x11, x381000, x381001, x381002, x382000, x382001, x382002 => if x11 ≤ 9 then ((spec_l13Coverage.f k x381000 x381001 x381002 x11 x382000 x382001 x382002 x2).bind fun bt388 => (if bt388.1 > 0 then (if (wrap64 (100 * bt388.1)) ≥ (wrap64 (x3 * bt388.2)) then (if x10.length < 17592186044416 then (spec_AffectedAreas.l0 k x2 x3 (x10 ++ [x11]) (wrap64 (x11 + 1)) x381000 x381001 x381002 x382000 x382001 x382002) else (none)) else (spec_AffectedAreas.l0 k x2 x3 x10 (wrap64 (x11 + 1)) x381000 x381001 x381002 x382000 x382001 x382002)) else (spec_AffectedAreas.l0 k x2 x3 x10 (wrap64 (x11 + 1)) x381000 x381001 x381002 x382000 x382001 x382002))) else (some (x10, true))
end
def spec_AffectedAreas.f (k : Nat) (a0_0 : Int) (a0_1 : Int) (l0_2 : List Int) (a1_0 : Int) (a1_1 : Int) (l1_2 : List Int) (a2 : Int) (a3 : Int) : Option (List Int × Bool) := (some (([] : List Int) : List Int)).bind fun y382 => ((spec_l13Fits.f k a0_0 a0_1 l0_2 a1_0 a1_1 l1_2).bind fun t385 => (if t385 = true then ((spec_l13Threshold.f a2).bind fun t386 => (if t386 = true then ((spec_l1In.f a3 1 100).bind fun t387 => (spec_AffectedAreas.j0 k a2 a3 y382 (!t387) a0_0 a0_1 l0_2 a1_0 a1_1 l1_2)) else (spec_AffectedAreas.j0 k a2 a3 y382 true a0_0 a0_1 l0_2 a1_0 a1_1 l1_2))) else (spec_AffectedAreas.j0 k a2 a3 y382 true a0_0 a0_1 l0_2 a1_0 a1_1 l1_2)))
set_option maxHeartbeats 8000000 in
set_option maxRecDepth 100000 in
theorem spec_AffectedAreas.calls (k : Nat) (a0_0 : Int) (a0_1 : Int) (A0_2 : Option Addr) (c0_2 : Nat) (l0_2 : List Int) (a1_0 : Int) (a1_1 : Int) (A1_2 : Option Addr) (c1_2 : Nat) (l1_2 : List Int) (a2 : Int) (a3 : Int) (r1 : List Int) (r2 : Bool) (w : World) (hr0_2 : Kd.C (Kd.int .i64) w A0_2 l0_2.length l0_2) (hc0_2 : l0_2.length ≤ c0_2) (hr1_2 : Kd.C (Kd.int .i64) w A1_2 l1_2.length l1_2) (hc1_2 : l1_2.length ≤ c1_2) (h : spec_AffectedAreas.f k a0_0 a0_1 l0_2 a1_0 a1_1 l1_2 a2 a3 = some (r1, r2)) :
  Calls Try.prog 7 #[.agg #[.int .i64 a0_0, .int .i64 a0_1, .slice A0_2 l0_2.length c0_2], .agg #[.int .i64 a1_0, .int .i64 a1_1, .slice A1_2 l1_2.length c1_2], .int .i64 a2, .int .i64 a3] w fun e w' => ∃ v0_ : Value, e = .returned (.tuple #[v0_, .bool r2]) ∧ Kd.R (Kd.int .i64) 3 w' w.heap.size (fun _ => True) v0_ r1 ∧ Below w.heap.size w w' := by
 have hu26 := Try.underlying26
 have hu27 := Try.underlying27
 have HR0_2 := zm hr0_2
 have HC0_2 := zm hc0_2
 clear hr0_2 hc0_2
 have HR1_2 := zm hr1_2
 have HC1_2 := zm hc1_2
 clear hr1_2 hc1_2
 have HB := zm (Below.refl w.heap.size w)
 have H : ((some (([] : List Int) : List Int)).bind fun y382 => ((spec_l13Fits.f k a0_0 a0_1 l0_2 a1_0 a1_1 l1_2).bind fun t385 => (if t385 = true then ((spec_l13Threshold.f a2).bind fun t386 => (if t386 = true then ((spec_l1In.f a3 1 100).bind fun t387 => (spec_AffectedAreas.j0 k a2 a3 y382 (!t387) a0_0 a0_1 l0_2 a1_0 a1_1 l1_2)) else (spec_AffectedAreas.j0 k a2 a3 y382 true a0_0 a0_1 l0_2 a1_0 a1_1 l1_2))) else (spec_AffectedAreas.j0 k a2 a3 y382 true a0_0 a0_1 l0_2 a1_0 a1_1 l1_2)))) = some (r1, r2) := h
 clear h
 obtain ⟨y382, hy382⟩ : ∃ y_ : List Int, y_ = (([] : List Int)) := ⟨_, rfl⟩
 replace H : ((spec_l13Fits.f k a0_0 a0_1 l0_2 a1_0 a1_1 l1_2).bind fun t385 => (if t385 = true then ((spec_l13Threshold.f a2).bind fun t386 => (if t386 = true then ((spec_l1In.f a3 1 100).bind fun t387 => (spec_AffectedAreas.j0 k a2 a3 y382 (!t387) a0_0 a0_1 l0_2 a1_0 a1_1 l1_2)) else (spec_AffectedAreas.j0 k a2 a3 y382 true a0_0 a0_1 l0_2 a1_0 a1_1 l1_2))) else (spec_AffectedAreas.j0 k a2 a3 y382 true a0_0 a0_1 l0_2 a1_0 a1_1 l1_2))) = some (r1, r2) := zqH hy382 H
 have Ny382 := zm hy382
 clear hy382
 have HC5 := zm H
 clear H
 go_enter Try.func7, Try.ntmps7
 go_upto_region 2 with (first | ((with_reducible refine gate_dst (N := 4) rfl ?_); refine box_event ?hg (N := 4) ?hd (cs := #[.int .i64 a0_0, .int .i64 a0_1, .slice A0_2 l0_2.length c0_2]) (t := 26) ?hr ?_; (case hd => rfl); (case hg => rfl); (case hr => exact zqS); intro gb380 hg w6 hbox hb; have BK380 := zm (hbox); have GW380 := zm ((by rw [hg]; exact (zyi zq1) : w.heap.size ≤ gb380)); replace HB := zm (zyh zq1 hb); have GE380 := GW380; clear hb hbox hg) | ((with_reducible refine gate_dst (N := 5) rfl ?_); refine box_event ?hg (N := 5) ?hd (cs := #[.int .i64 a1_0, .int .i64 a1_1, .slice A1_2 l1_2.length c1_2]) (t := 27) ?hr ?_; (case hd => rfl); (case hg => rfl); (case hr => exact zqS); intro gb381 hg w7 hbox hb; have BK381 := zm (hbox); have GW381 := zm ((by rw [hg]; exact (zyi zq100) : w.heap.size ≤ gb381)); replace HB := zm (zyh zq100 hb); have GE381 := GW381; have NB380_381 := zm ((by rw [hg]; exact Nat.ne_of_lt (blk_lt (g := gb380) (o := .cells #[.int .i64 a0_0, .int .i64 a0_1, .slice A0_2 l0_2.length c0_2] 26 (0, 0)) (zqK BK380.out)) : gb380 ≠ gb381)); have NB381_380 := zm ((by rw [hg]; exact Nat.ne_of_gt (blk_lt (g := gb380) (o := .cells #[.int .i64 a0_0, .int .i64 a0_1, .slice A0_2 l0_2.length c0_2] 26 (0, 0)) (zqK BK380.out)) : gb381 ≠ gb380)); replace BK380 := zm (zyb (g := gb380) (o := .cells #[.int .i64 a0_0, .int .i64 a0_1, .slice A0_2 l0_2.length c0_2] 26 (0, 0)) (zqK BK380.out) hb); clear hb hbox hg) | ((with_reducible refine gate_dst (N := 14) rfl ?_); refine Kd.R_lit (Kd.int .i64) _ 3 ?hg (N := 14) ?hd (xs := ([] : List Int)) (inner := []) (ok := fun _ => True) (okp := fun _ => True) ?hr ?hp (fun _ hk => hk) trivial (Below.refl _ _) (Nat.le_refl _) (by simp) ?_; (case hd => rfl); (case hg => rfl); (case hr => exact zqS); (case hp => exact (Reps.none _ _)); intro v383 w8 ho9 hb hg_ hnew_; clear hg_ hnew_; (first | rw [← Ny382.out] at ho9 | (simp only [Int.reduceToNat] at ho9; rw [← Ny382.out] at ho9)); have HO384 := zm (Kd.R_lower ho9 (zyi zq16)); replace BK380 := zm (zyb (g := gb380) (o := .cells #[.int .i64 a0_0, .int .i64 a0_1, .slice A0_2 l0_2.length c0_2] 26 (0, 0)) (zqK BK380.out) hb); replace BK381 := zm (zyb (g := gb381) (o := .cells #[.int .i64 a1_0, .int .i64 a1_1, .slice A1_2 l1_2.length c1_2] 27 (0, 0)) (zqK BK381.out) hb); replace HB := zm (zyh zq16 hb); clear hb ho9))
 (try simp only [Act.put, List.setIfInBounds_toArray, List.set_cons_zero, List.set_cons_succ])
 go_cut [28] (fun v28 wc => ∃ (kq : Nat) (x28_4 : Bool), v28 = .bool x28_4 ∧ Aside0 (spec_AffectedAreas.j0 kq a2 a3 y382 x28_4 a0_0 a0_1 l0_2 a1_0 a1_1 l1_2 = some (r1, r2)) ∧ Aside0 (kq ≤ k) ∧ Aside0 (Kd.R (Kd.int .i64) 3 wc w.heap.size (fun _ => True) v383 y382) ∧ Aside0 (wc.heap[gb380]? = some (.cells #[.int .i64 a0_0, .int .i64 a0_1, (.slice A0_2 l0_2.length c0_2)] 26 (0, 0))) ∧ Aside0 (wc.heap[gb381]? = some (.cells #[.int .i64 a1_0, .int .i64 a1_1, (.slice A1_2 l1_2.length c1_2)] 27 (0, 0))) ∧ Aside0 (Below w.heap.size w wc))
 case first =>
  have H := HC5.out
  clear HC5
  obtain ⟨t385, A100, H⟩ := zob H
  replace H : (if t385 = true then ((spec_l13Threshold.f a2).bind fun t386 => (if t386 = true then ((spec_l1In.f a3 1 100).bind fun t387 => (spec_AffectedAreas.j0 k a2 a3 y382 (!t387) a0_0 a0_1 l0_2 a1_0 a1_1 l1_2)) else (spec_AffectedAreas.j0 k a2 a3 y382 true a0_0 a0_1 l0_2 a1_0 a1_1 l1_2))) else (spec_AffectedAreas.j0 k a2 a3 y382 true a0_0 a0_1 l0_2 a1_0 a1_1 l1_2)) = some (r1, r2) := H
  have A10 := zm A100
  clear A100
  by_cases c11 : t385 = true
  case neg =>
   replace c11 := Bool.eq_false_iff.mpr c11
   subst c11
   have H1 : (spec_AffectedAreas.j0 k a2 a3 y382 true a0_0 a0_1 l0_2 a1_0 a1_1 l1_2) = some (r1, r2) := by rw [if_neg (show ¬ (false = true) by decide)] at H; exact H
   clear H
   have H := H1
   clear H1
   have H' := zm H
   clear H
   have hnb23 := NB380_381.out
   have hnc23 := NB381_380.out
   have hcz24_0 := bz BK380.out 0 (.int .i64 a0_0)
   have hcz24_1 := bz BK380.out 1 (.int .i64 a0_1)
   have hcz24_2 := bz BK380.out 2 (.slice A0_2 l0_2.length c0_2)
   have hfz24_0 := zyF BK380.out 0
   have hfz24_1 := zyF BK380.out 1
   have hfz24_2 := zyF BK380.out 2
   have hcz25_0 := bz BK381.out 0 (.int .i64 a1_0)
   have hcz25_1 := bz BK381.out 1 (.int .i64 a1_1)
   have hcz25_2 := bz BK381.out 2 (.slice A1_2 l1_2.length c1_2)
   have hfz25_0 := zyF BK381.out 0
   have hfz25_1 := zyF BK381.out 1
   have hfz25_2 := zyF BK381.out 2
   go_wp2_with (first | ((with_reducible refine zyg (f := 27) rfl ?_); refine goesL_ (some 17) rfl rfl Try.func27 (by kernel_rfl) rfl #[.agg #[.int .i64 a0_0, .int .i64 a0_1, .slice A0_2 l0_2.length c0_2], .agg #[.int .i64 a1_0, .int .i64 a1_1, .slice A1_2 l1_2.length c1_2]] rfl zq0 ?_; (with_reducible refine (spec_l13Fits.calls k a0_0 a0_1 _ _ l0_2 a1_0 a1_1 _ _ l1_2 false _ ?side1 ?side2 ?side3 ?side4 A10.out).mono ?_); (case side1 => exact zqC (Kd.C_below HR0_2.out HB.out)); (case side2 => exact HC0_2.out); (case side3 => exact zqC (Kd.C_below HR1_2.out HB.out)); (case side4 => exact HC1_2.out); rintro e w26 ⟨rfl, hb⟩; refine ⟨_, rfl, ?_⟩; replace HO384 := zm (Kd.R_below (zqR HO384.out) hb); replace BK380 := zm (zyb (g := gb380) (o := .cells #[.int .i64 a0_0, .int .i64 a0_1, .slice A0_2 l0_2.length c0_2] 26 (0, 0)) (zqK BK380.out) hb); replace BK381 := zm (zyb (g := gb381) (o := .cells #[.int .i64 a1_0, .int .i64 a1_1, .slice A1_2 l1_2.length c1_2] 27 (0, 0)) (zqK BK381.out) hb); replace HB := zm (zyh zq16 hb); (try clear hb); (try clear hb2); (try clear hk); (try clear hi)))
   go_meet
   case rel => exact ⟨_, (true), (by first | rfl | (simp; done) | (simp [*]; done)), H', ⟨by first | omega | exact Nat.le_refl _⟩, ⟨zqR HO384.out⟩, ⟨by (with_reducible repeat (first | apply zN | apply zD | apply zL)); exact BK380.out⟩, ⟨by (with_reducible repeat (first | apply zN | apply zD | apply zL)); exact BK381.out⟩, ⟨zq16⟩⟩
  subst c11
  have H1 : ((spec_l13Threshold.f a2).bind fun t386 => (if t386 = true then ((spec_l1In.f a3 1 100).bind fun t387 => (spec_AffectedAreas.j0 k a2 a3 y382 (!t387) a0_0 a0_1 l0_2 a1_0 a1_1 l1_2)) else (spec_AffectedAreas.j0 k a2 a3 y382 true a0_0 a0_1 l0_2 a1_0 a1_1 l1_2))) = some (r1, r2) := by rw [if_pos rfl] at H; exact H
  clear H
  have H := H1
  clear H1
  obtain ⟨t386, A120, H⟩ := zob H
  replace H : (if t386 = true then ((spec_l1In.f a3 1 100).bind fun t387 => (spec_AffectedAreas.j0 k a2 a3 y382 (!t387) a0_0 a0_1 l0_2 a1_0 a1_1 l1_2)) else (spec_AffectedAreas.j0 k a2 a3 y382 true a0_0 a0_1 l0_2 a1_0 a1_1 l1_2)) = some (r1, r2) := H
  have A12 := zm A120
  clear A120
  by_cases c13 : t386 = true
  case neg =>
   replace c13 := Bool.eq_false_iff.mpr c13
   subst c13
   have H1 : (spec_AffectedAreas.j0 k a2 a3 y382 true a0_0 a0_1 l0_2 a1_0 a1_1 l1_2) = some (r1, r2) := by rw [if_neg (show ¬ (false = true) by decide)] at H; exact H
   clear H
   have H := H1
   clear H1
   have H' := zm H
   clear H
   have hnb19 := NB380_381.out
   have hnc19 := NB381_380.out
   have hcz20_0 := bz BK380.out 0 (.int .i64 a0_0)
   have hcz20_1 := bz BK380.out 1 (.int .i64 a0_1)
   have hcz20_2 := bz BK380.out 2 (.slice A0_2 l0_2.length c0_2)
   have hfz20_0 := zyF BK380.out 0
   have hfz20_1 := zyF BK380.out 1
   have hfz20_2 := zyF BK380.out 2
   have hcz21_0 := bz BK381.out 0 (.int .i64 a1_0)
   have hcz21_1 := bz BK381.out 1 (.int .i64 a1_1)
   have hcz21_2 := bz BK381.out 2 (.slice A1_2 l1_2.length c1_2)
   have hfz21_0 := zyF BK381.out 0
   have hfz21_1 := zyF BK381.out 1
   have hfz21_2 := zyF BK381.out 2
   go_wp2_with (first | ((with_reducible refine zyg (f := 27) rfl ?_); refine goesL_ (some 17) rfl rfl Try.func27 (by kernel_rfl) rfl #[.agg #[.int .i64 a0_0, .int .i64 a0_1, .slice A0_2 l0_2.length c0_2], .agg #[.int .i64 a1_0, .int .i64 a1_1, .slice A1_2 l1_2.length c1_2]] rfl zq0 ?_; (with_reducible refine (spec_l13Fits.calls k a0_0 a0_1 _ _ l0_2 a1_0 a1_1 _ _ l1_2 true _ ?side1 ?side2 ?side3 ?side4 A10.out).mono ?_); (case side1 => exact zqC (Kd.C_below HR0_2.out HB.out)); (case side2 => exact HC0_2.out); (case side3 => exact zqC (Kd.C_below HR1_2.out HB.out)); (case side4 => exact HC1_2.out); rintro e w22 ⟨rfl, hb⟩; refine ⟨_, rfl, ?_⟩; replace HO384 := zm (Kd.R_below (zqR HO384.out) hb); replace BK380 := zm (zyb (g := gb380) (o := .cells #[.int .i64 a0_0, .int .i64 a0_1, .slice A0_2 l0_2.length c0_2] 26 (0, 0)) (zqK BK380.out) hb); replace BK381 := zm (zyb (g := gb381) (o := .cells #[.int .i64 a1_0, .int .i64 a1_1, .slice A1_2 l1_2.length c1_2] 27 (0, 0)) (zqK BK381.out) hb); replace HB := zm (zyh zq16 hb); (try clear hb); (try clear hb2); (try clear hk); (try clear hi)) | (go_at_call 28; (with_reducible refine (spec_l13Threshold.calls a2 false _ A12.out).mono ?_); rintro e w' ⟨rfl, ⟨nd, rfl⟩⟩))
   go_meet
   case rel => exact ⟨_, (true), (by first | rfl | (simp; done) | (simp [*]; done)), H', ⟨by first | omega | exact Nat.le_refl _⟩, ⟨zqR HO384.out⟩, ⟨by (with_reducible repeat (first | apply zN | apply zD | apply zL)); exact BK380.out⟩, ⟨by (with_reducible repeat (first | apply zN | apply zD | apply zL)); exact BK381.out⟩, ⟨zq16⟩⟩
  subst c13
  have H1 : ((spec_l1In.f a3 1 100).bind fun t387 => (spec_AffectedAreas.j0 k a2 a3 y382 (!t387) a0_0 a0_1 l0_2 a1_0 a1_1 l1_2)) = some (r1, r2) := by rw [if_pos rfl] at H; exact H
  clear H
  have H := H1
  clear H1
  obtain ⟨t387, A140, H⟩ := zob H
  replace H : (spec_AffectedAreas.j0 k a2 a3 y382 (!t387) a0_0 a0_1 l0_2 a1_0 a1_1 l1_2) = some (r1, r2) := H
  have A14 := zm A140
  clear A140
  have H' := zm H
  clear H
  have hnb15 := NB380_381.out
  have hnc15 := NB381_380.out
  have hcz16_0 := bz BK380.out 0 (.int .i64 a0_0)
  have hcz16_1 := bz BK380.out 1 (.int .i64 a0_1)
  have hcz16_2 := bz BK380.out 2 (.slice A0_2 l0_2.length c0_2)
  have hfz16_0 := zyF BK380.out 0
  have hfz16_1 := zyF BK380.out 1
  have hfz16_2 := zyF BK380.out 2
  have hcz17_0 := bz BK381.out 0 (.int .i64 a1_0)
  have hcz17_1 := bz BK381.out 1 (.int .i64 a1_1)
  have hcz17_2 := bz BK381.out 2 (.slice A1_2 l1_2.length c1_2)
  have hfz17_0 := zyF BK381.out 0
  have hfz17_1 := zyF BK381.out 1
  have hfz17_2 := zyF BK381.out 2
  go_wp2_with (first | ((with_reducible refine zyg (f := 27) rfl ?_); refine goesL_ (some 17) rfl rfl Try.func27 (by kernel_rfl) rfl #[.agg #[.int .i64 a0_0, .int .i64 a0_1, .slice A0_2 l0_2.length c0_2], .agg #[.int .i64 a1_0, .int .i64 a1_1, .slice A1_2 l1_2.length c1_2]] rfl zq0 ?_; (with_reducible refine (spec_l13Fits.calls k a0_0 a0_1 _ _ l0_2 a1_0 a1_1 _ _ l1_2 true _ ?side1 ?side2 ?side3 ?side4 A10.out).mono ?_); (case side1 => exact zqC (Kd.C_below HR0_2.out HB.out)); (case side2 => exact HC0_2.out); (case side3 => exact zqC (Kd.C_below HR1_2.out HB.out)); (case side4 => exact HC1_2.out); rintro e w18 ⟨rfl, hb⟩; refine ⟨_, rfl, ?_⟩; replace HO384 := zm (Kd.R_below (zqR HO384.out) hb); replace BK380 := zm (zyb (g := gb380) (o := .cells #[.int .i64 a0_0, .int .i64 a0_1, .slice A0_2 l0_2.length c0_2] 26 (0, 0)) (zqK BK380.out) hb); replace BK381 := zm (zyb (g := gb381) (o := .cells #[.int .i64 a1_0, .int .i64 a1_1, .slice A1_2 l1_2.length c1_2] 27 (0, 0)) (zqK BK381.out) hb); replace HB := zm (zyh zq16 hb); (try clear hb); (try clear hb2); (try clear hk); (try clear hi)) | (go_at_call 28; (with_reducible refine (spec_l13Threshold.calls a2 true _ A12.out).mono ?_); rintro e w' ⟨rfl, ⟨nd, rfl⟩⟩) | (go_at_call 29; (with_reducible refine (spec_l1In.calls a3 1 100 t387 _ A14.out).mono ?_); rintro e w' ⟨rfl, ⟨nd, rfl⟩⟩))
  go_meet
  case rel => exact ⟨_, (!t387), (by first | rfl | (simp; done) | (simp [*]; done)), H', ⟨by first | omega | exact Nat.le_refl _⟩, ⟨zqR HO384.out⟩, ⟨by (with_reducible repeat (first | apply zN | apply zD | apply zL)); exact BK380.out⟩, ⟨by (with_reducible repeat (first | apply zN | apply zD | apply zL)); exact BK381.out⟩, ⟨zq16⟩⟩
 clear HC5
 try clear c1
 try clear c2
 try clear p2
 try clear c7
 try clear c11
 try clear c13
 try clear c15
 try clear c19
 try clear c23
 try clear hcz16_0
 try clear hcz16_1
 try clear hcz16_2
 try clear hcz17_0
 try clear hcz17_1
 try clear hcz17_2
 try clear hcz20_0
 try clear hcz20_1
 try clear hcz20_2
 try clear hcz21_0
 try clear hcz21_1
 try clear hcz21_2
 try clear hcz24_0
 try clear hcz24_1
 try clear hcz24_2
 try clear hcz25_0
 try clear hcz25_1
 try clear hcz25_2
 try clear hfz16_0
 try clear hfz16_1
 try clear hfz16_2
 try clear hfz17_0
 try clear hfz17_1
 try clear hfz17_2
 try clear hfz20_0
 try clear hfz20_1
 try clear hfz20_2
 try clear hfz21_0
 try clear hfz21_1
 try clear hfz21_2
 try clear hfz24_0
 try clear hfz24_1
 try clear hfz24_2
 try clear hfz25_0
 try clear hfz25_1
 try clear hfz25_2
 obtain ⟨kq, x28_4, rfl, HA, HJ4, HO_10, BK380, BK381, HB⟩ := hcut
 cases kq with
 | zero => exact absurd HA.out (by simp [spec_AffectedAreas.j0])
 | succ kj4 =>
  have H := HA.out
  clear HA
  simp only [spec_AffectedAreas.j0] at H
  by_cases c27 : x28_4 = true
  case pos =>
   subst c27
   have H1 : (some (y382, false)) = some (r1, r2) := by rw [if_pos rfl] at H; exact H
   clear H
   have H := H1
   clear H1
   simp only [Option.some.injEq, Prod.mk.injEq] at H
   obtain ⟨rfl, rfl⟩ := H
   go_wp2
   go_ret2
   exact ⟨_, by first | rfl | (simp [errW_none, errW_some] <;> rfl) | (simp [*, errW_none, errW_some] <;> rfl), zqR HO_10.out, zq16⟩
  replace c27 := Bool.eq_false_iff.mpr c27
  subst c27
  have H1 : (spec_AffectedAreas.l0 kj4 a2 a3 y382 1 a0_0 a0_1 l0_2 a1_0 a1_1 l1_2) = some (r1, r2) := by rw [if_neg (show ¬ (false = true) by decide)] at H; exact H
  clear H
  have H := H1
  clear H1
  have H' := zm H
  clear H
  go_wp2
  go_loopg [10, 11] kj4 (fun kq v10 v11 w' => ∃ (x10_2 : List Int) (x11_2 : Int), v11 = .int .i64 x11_2 ∧ Aside0 (spec_AffectedAreas.l0 kq a2 a3 x10_2 x11_2 a0_0 a0_1 l0_2 a1_0 a1_1 l1_2 = some (r1, r2)) ∧ Aside0 (kq ≤ kj4) ∧ Aside0 (Kd.R (Kd.int .i64) 3 w' w.heap.size (fun _ => True) v10 x10_2) ∧ Aside0 (w'.heap[gb380]? = some (.cells #[.int .i64 a0_0, .int .i64 a0_1, (.slice A0_2 l0_2.length c0_2)] 26 (0, 0))) ∧ Aside0 (w'.heap[gb381]? = some (.cells #[.int .i64 a1_0, .int .i64 a1_1, (.slice A1_2 l1_2.length c1_2)] 27 (0, 0))) ∧ Aside0 (Below w.heap.size w w'))
  case atStart => exact ⟨(y382), (1), (by first | rfl | (simp; done) | (simp [*]; done)), H', ⟨Nat.le_refl _⟩, ⟨zqR HO_10.out⟩, ⟨by (with_reducible repeat (first | apply zN | apply zD | apply zL)); exact BK380.out⟩, ⟨by (with_reducible repeat (first | apply zN | apply zD | apply zL)); exact BK381.out⟩, ⟨zq16⟩⟩
  clear H'
  try clear c1
  try clear c2
  try clear p2
  try clear c7
  try clear c11
  try clear c13
  try clear c15
  try clear c19
  try clear c23
  try clear c27
  try clear hcz16_0
  try clear hcz16_1
  try clear hcz16_2
  try clear hcz17_0
  try clear hcz17_1
  try clear hcz17_2
  try clear hcz20_0
  try clear hcz20_1
  try clear hcz20_2
  try clear hcz21_0
  try clear hcz21_1
  try clear hcz21_2
  try clear hcz24_0
  try clear hcz24_1
  try clear hcz24_2
  try clear hcz25_0
  try clear hcz25_1
  try clear hcz25_2
  try clear hfz16_0
  try clear hfz16_1
  try clear hfz16_2
  try clear hfz17_0
  try clear hfz17_1
  try clear hfz17_2
  try clear hfz20_0
  try clear hfz20_1
  try clear hfz20_2
  try clear hfz21_0
  try clear hfz21_1
  try clear hfz21_2
  try clear hfz24_0
  try clear hfz24_1
  try clear hfz24_2
  try clear hfz25_0
  try clear hfz25_1
  try clear hfz25_2
  try clear p2
  obtain ⟨x10_2, x11_2, rfl, HA, HK2, HO_10, BK380, BK381, HB⟩ := hrel
  cases gk with
  | zero => exact absurd HA.out (by simp [spec_AffectedAreas.l0])
  | succ k2 =>
   have H := HA.out
   clear HA
   simp only [spec_AffectedAreas.l0] at H
   by_cases c28 : x11_2 ≤ 9
   case neg =>
    rw [if_neg c28] at H
    have c28b0 : decide (x11_2 ≤ 9) = false := decide_eq_false c28
    clear c28
    simp only [Option.some.injEq, Prod.mk.injEq] at H
    obtain ⟨rfl, rfl⟩ := H
    go_wp2
    go_ret2
    exact ⟨_, by first | rfl | (simp [errW_none, errW_some] <;> rfl) | (simp [*, errW_none, errW_some] <;> rfl), zqR HO_10.out, zq16⟩
   rw [if_pos c28] at H
   have c28b0 : decide (x11_2 ≤ 9) = true := decide_eq_true c28
   clear c28
   obtain ⟨⟨t388, t389⟩, A290, H⟩ := zob H
   replace H : (if t388 > 0 then (if (wrap64 (100 * t388)) ≥ (wrap64 (a3 * t389)) then (if x10_2.length < 17592186044416 then (spec_AffectedAreas.l0 k2 a2 a3 (x10_2 ++ [x11_2]) (wrap64 (x11_2 + 1)) a0_0 a0_1 l0_2 a1_0 a1_1 l1_2) else (none)) else (spec_AffectedAreas.l0 k2 a2 a3 x10_2 (wrap64 (x11_2 + 1)) a0_0 a0_1 l0_2 a1_0 a1_1 l1_2)) else (spec_AffectedAreas.l0 k2 a2 a3 x10_2 (wrap64 (x11_2 + 1)) a0_0 a0_1 l0_2 a1_0 a1_1 l1_2)) = some (r1, r2) := H
   have A29 := zm A290
   clear A290
   by_cases c30 : t388 > 0
   case neg =>
    rw [if_neg c30] at H
    have c30b0 : decide (0 < t388) = false := decide_eq_false c30
    clear c30
    have H' := zm H
    clear H
    have hnb42 := NB380_381.out
    have hnc42 := NB381_380.out
    have hcz43_0 := bz BK380.out 0 (.int .i64 a0_0)
    have hcz43_1 := bz BK380.out 1 (.int .i64 a0_1)
    have hcz43_2 := bz BK380.out 2 (.slice A0_2 l0_2.length c0_2)
    have hfz43_0 := zyF BK380.out 0
    have hfz43_1 := zyF BK380.out 1
    have hfz43_2 := zyF BK380.out 2
    have hcz44_0 := bz BK381.out 0 (.int .i64 a1_0)
    have hcz44_1 := bz BK381.out 1 (.int .i64 a1_1)
    have hcz44_2 := bz BK381.out 2 (.slice A1_2 l1_2.length c1_2)
    have hfz44_0 := zyF BK381.out 0
    have hfz44_1 := zyF BK381.out 1
    have hfz44_2 := zyF BK381.out 2
    go_wp2_with (first | ((with_reducible refine zyg (f := 30) rfl ?_); refine goesL_ (some 39) rfl rfl Try.func30 (by kernel_rfl) rfl #[.agg #[.int .i64 a0_0, .int .i64 a0_1, .slice A0_2 l0_2.length c0_2], .int .i64 x11_2, .agg #[.int .i64 a1_0, .int .i64 a1_1, .slice A1_2 l1_2.length c1_2], .int .i64 a2] rfl zq0 ?_; (with_reducible refine (spec_l13Coverage.calls k2 a0_0 a0_1 _ _ l0_2 x11_2 a1_0 a1_1 _ _ l1_2 a2 t388 t389 _ ?side1 ?side2 ?side3 ?side4 A29.out).mono ?_); (case side1 => exact zqC (Kd.C_below HR0_2.out HB.out)); (case side2 => exact HC0_2.out); (case side3 => exact zqC (Kd.C_below HR1_2.out HB.out)); (case side4 => exact HC1_2.out); rintro e w45 ⟨rfl, hb⟩; refine ⟨_, rfl, ?_⟩; replace HO_10 := zm (Kd.R_below (zqR HO_10.out) hb); replace BK380 := zm (zyb (g := gb380) (o := .cells #[.int .i64 a0_0, .int .i64 a0_1, .slice A0_2 l0_2.length c0_2] 26 (0, 0)) (zqK BK380.out) hb); replace BK381 := zm (zyb (g := gb381) (o := .cells #[.int .i64 a1_0, .int .i64 a1_1, .slice A1_2 l1_2.length c1_2] 27 (0, 0)) (zqK BK381.out) hb); replace HB := zm (zyh zq16 hb); (try clear hb); (try clear hb2); (try clear hk); (try clear hi)))
    go_roundg k2
    case measure => have := HJ4.out; have := HK2.out; omega
    case rel => exact ⟨(x10_2), (wrap64 (x11_2 + 1)), (by first | rfl | (simp; done) | (simp [*]; done)), H', ⟨by have := HJ4.out; have := HK2.out; omega⟩, ⟨zqR HO_10.out⟩, ⟨by (with_reducible repeat (first | apply zN | apply zD | apply zL)); exact BK380.out⟩, ⟨by (with_reducible repeat (first | apply zN | apply zD | apply zL)); exact BK381.out⟩, ⟨zq16⟩⟩
   rw [if_pos c30] at H
   have c30b0 : decide (0 < t388) = true := decide_eq_true c30
   clear c30
   by_cases c31 : (wrap64 (100 * t388)) ≥ (wrap64 (a3 * t389))
   case neg =>
    rw [if_neg c31] at H
    have c31b0 : decide ((wrap64 (a3 * t389)) ≤ (wrap64 (100 * t388))) = false := decide_eq_false c31
    clear c31
    have H' := zm H
    clear H
    have hnb38 := NB380_381.out
    have hnc38 := NB381_380.out
    have hcz39_0 := bz BK380.out 0 (.int .i64 a0_0)
    have hcz39_1 := bz BK380.out 1 (.int .i64 a0_1)
    have hcz39_2 := bz BK380.out 2 (.slice A0_2 l0_2.length c0_2)
    have hfz39_0 := zyF BK380.out 0
    have hfz39_1 := zyF BK380.out 1
    have hfz39_2 := zyF BK380.out 2
    have hcz40_0 := bz BK381.out 0 (.int .i64 a1_0)
    have hcz40_1 := bz BK381.out 1 (.int .i64 a1_1)
    have hcz40_2 := bz BK381.out 2 (.slice A1_2 l1_2.length c1_2)
    have hfz40_0 := zyF BK381.out 0
    have hfz40_1 := zyF BK381.out 1
    have hfz40_2 := zyF BK381.out 2
    go_wp2_with (first | ((with_reducible refine zyg (f := 30) rfl ?_); refine goesL_ (some 39) rfl rfl Try.func30 (by kernel_rfl) rfl #[.agg #[.int .i64 a0_0, .int .i64 a0_1, .slice A0_2 l0_2.length c0_2], .int .i64 x11_2, .agg #[.int .i64 a1_0, .int .i64 a1_1, .slice A1_2 l1_2.length c1_2], .int .i64 a2] rfl zq0 ?_; (with_reducible refine (spec_l13Coverage.calls k2 a0_0 a0_1 _ _ l0_2 x11_2 a1_0 a1_1 _ _ l1_2 a2 t388 t389 _ ?side1 ?side2 ?side3 ?side4 A29.out).mono ?_); (case side1 => exact zqC (Kd.C_below HR0_2.out HB.out)); (case side2 => exact HC0_2.out); (case side3 => exact zqC (Kd.C_below HR1_2.out HB.out)); (case side4 => exact HC1_2.out); rintro e w41 ⟨rfl, hb⟩; refine ⟨_, rfl, ?_⟩; replace HO_10 := zm (Kd.R_below (zqR HO_10.out) hb); replace BK380 := zm (zyb (g := gb380) (o := .cells #[.int .i64 a0_0, .int .i64 a0_1, .slice A0_2 l0_2.length c0_2] 26 (0, 0)) (zqK BK380.out) hb); replace BK381 := zm (zyb (g := gb381) (o := .cells #[.int .i64 a1_0, .int .i64 a1_1, .slice A1_2 l1_2.length c1_2] 27 (0, 0)) (zqK BK381.out) hb); replace HB := zm (zyh zq16 hb); (try clear hb); (try clear hb2); (try clear hk); (try clear hi)))
    go_roundg k2
    case measure => have := HJ4.out; have := HK2.out; omega
    case rel => exact ⟨(x10_2), (wrap64 (x11_2 + 1)), (by first | rfl | (simp; done) | (simp [*]; done)), H', ⟨by have := HJ4.out; have := HK2.out; omega⟩, ⟨zqR HO_10.out⟩, ⟨by (with_reducible repeat (first | apply zN | apply zD | apply zL)); exact BK380.out⟩, ⟨by (with_reducible repeat (first | apply zN | apply zD | apply zL)); exact BK381.out⟩, ⟨zq16⟩⟩
   rw [if_pos c31] at H
   have c31b0 : decide ((wrap64 (a3 * t389)) ≤ (wrap64 (100 * t388))) = true := decide_eq_true c31
   clear c31
   by_cases c32 : x10_2.length < 17592186044416
   case neg =>
    rw [if_neg c32] at H
    exact absurd H (by simp)
   rw [if_pos c32] at H
   have LMc32 := zm c32
   clear c32
   obtain ⟨y390, hy390⟩ : ∃ y_ : List Int, y_ = (x10_2 ++ [x11_2]) := ⟨_, rfl⟩
   replace H : (spec_AffectedAreas.l0 k2 a2 a3 y390 (wrap64 (x11_2 + 1)) a0_0 a0_1 l0_2 a1_0 a1_1 l1_2) = some (r1, r2) := zqH hy390 H
   have Ny390 := zm hy390
   clear hy390
   have H' := zm H
   clear H
   have hnb33 := NB380_381.out
   have hnc33 := NB381_380.out
   have hcz34_0 := bz BK380.out 0 (.int .i64 a0_0)
   have hcz34_1 := bz BK380.out 1 (.int .i64 a0_1)
   have hcz34_2 := bz BK380.out 2 (.slice A0_2 l0_2.length c0_2)
   have hfz34_0 := zyF BK380.out 0
   have hfz34_1 := zyF BK380.out 1
   have hfz34_2 := zyF BK380.out 2
   have hcz35_0 := bz BK381.out 0 (.int .i64 a1_0)
   have hcz35_1 := bz BK381.out 1 (.int .i64 a1_1)
   have hcz35_2 := bz BK381.out 2 (.slice A1_2 l1_2.length c1_2)
   have hfz35_0 := zyF BK381.out 0
   have hfz35_1 := zyF BK381.out 1
   have hfz35_2 := zyF BK381.out 2
   go_wp2_with (first | ((with_reducible refine zyg (f := 30) rfl ?_); refine goesL_ (some 39) rfl rfl Try.func30 (by kernel_rfl) rfl #[.agg #[.int .i64 a0_0, .int .i64 a0_1, .slice A0_2 l0_2.length c0_2], .int .i64 x11_2, .agg #[.int .i64 a1_0, .int .i64 a1_1, .slice A1_2 l1_2.length c1_2], .int .i64 a2] rfl zq0 ?_; (with_reducible refine (spec_l13Coverage.calls k2 a0_0 a0_1 _ _ l0_2 x11_2 a1_0 a1_1 _ _ l1_2 a2 t388 t389 _ ?side1 ?side2 ?side3 ?side4 A29.out).mono ?_); (case side1 => exact zqC (Kd.C_below HR0_2.out HB.out)); (case side2 => exact HC0_2.out); (case side3 => exact zqC (Kd.C_below HR1_2.out HB.out)); (case side4 => exact HC1_2.out); rintro e w36 ⟨rfl, hb⟩; refine ⟨_, rfl, ?_⟩; replace HO_10 := zm (Kd.R_below (zqR HO_10.out) hb); replace BK380 := zm (zyb (g := gb380) (o := .cells #[.int .i64 a0_0, .int .i64 a0_1, .slice A0_2 l0_2.length c0_2] 26 (0, 0)) (zqK BK380.out) hb); replace BK381 := zm (zyb (g := gb381) (o := .cells #[.int .i64 a1_0, .int .i64 a1_1, .slice A1_2 l1_2.length c1_2] 27 (0, 0)) (zqK BK381.out) hb); replace HB := zm (zyh zq16 hb); (try clear hb); (try clear hb2); (try clear hk); (try clear hi)) | ((with_reducible refine gate_builtin (b := .append) (xs := #[.tmp 52, .tmp 54]) rfl ?_); at_builtin; refine Kd.R_append (Kd.int .i64) (w0 := w) w.heap.size rfl (.tmp 52) (.tmp 54) 24 3 (.int .i64 0) 8 rfl Try.underlying24 info3 rfl (by decide) (by omega) u10 x10_2 x11_2 [.int .i64 x11_2] (fun _ => True) (fun _ => False) rfl rfl ?aP (fun _ hk => hk.elim) ?aF ?aO ?aB ?aS ?aL ?_; (case aP => exact rfl); (case aB => exact zq16); (case aF => exact (fun _ _ => trivial)); (case aO => exact (zqR HO_10.out)); (case aS => exact (zyi zq16)); (case aL => have := LMc32.out; omega); intro v391 w37 ho hb hg hat; rw [← Ny390.out] at ho; replace BK380 := zm (blk_grown (g := gb380) (o := .cells #[.int .i64 a0_0, .int .i64 a0_1, .slice A0_2 l0_2.length c0_2] 26 (0, 0)) (zqK BK380.out) hg (Kd.R_ne HO_10.out BK380.out (by decide))); replace BK381 := zm (blk_grown (g := gb381) (o := .cells #[.int .i64 a1_0, .int .i64 a1_1, .slice A1_2 l1_2.length c1_2] 27 (0, 0)) (zqK BK381.out) hg (Kd.R_ne HO_10.out BK381.out (by decide))); replace HB := zm (hb); have HO392 := zm (ho); clear HO_10; clear ho hb hg hat))
   go_roundg k2
   case measure => have := HJ4.out; have := HK2.out; omega
   case rel => exact ⟨(y390), (wrap64 (x11_2 + 1)), (by first | rfl | (simp; done) | (simp [*]; done)), H', ⟨by have := HJ4.out; have := HK2.out; omega⟩, ⟨zqR HO392.out⟩, ⟨by (with_reducible repeat (first | apply zN | apply zD | apply zL)); exact BK380.out⟩, ⟨by (with_reducible repeat (first | apply zN | apply zD | apply zL)); exact BK381.out⟩, ⟨zq16⟩⟩
def laws_rInts.l0 : Nat → List Int → List Int → Int → Option (Bool)
 | 0, _, _, _ => none
 | k + 1, x0, x1, x5 => if x5 < (x0.length : Int) then (if 0 ≤ x5 then (if x5 < (x1.length : Int) then (if (rd x0 x5) = (rd x1 x5) then (laws_rInts.l0 k x0 x1 (wrap64 (x5 + 1))) else (some false)) else (none)) else (none)) else (some true)
def laws_rInts.f (k : Nat) (l0 : List Int) (l1 : List Int) : Option (Bool) := if (l0.length : Int) = (l1.length : Int) then (laws_rInts.l0 k l0 l1 0) else (some false)
set_option maxHeartbeats 8000000 in
set_option maxRecDepth 100000 in
theorem laws_rInts.calls (k : Nat) (A0 : Option Addr) (c0 : Nat) (l0 : List Int) (A1 : Option Addr) (c1 : Nat) (l1 : List Int) (r : Bool) (w : World) (hr0 : Kd.C (Kd.int .i64) w A0 l0.length l0) (hc0 : l0.length ≤ c0) (hr1 : Kd.C (Kd.int .i64) w A1 l1.length l1) (hc1 : l1.length ≤ c1) (h : laws_rInts.f k l0 l1 = some r) :
  Calls Try.prog 8 #[.slice A0 l0.length c0, .slice A1 l1.length c1] w fun e w' => e = .returned (.bool r) ∧ Drawn0 w w' := by
 have HR0 := zm hr0
 have HC0 := zm hc0
 clear hr0 hc0
 have HR1 := zm hr1
 have HC1 := zm hc1
 clear hr1 hc1
 have H : (if (l0.length : Int) = (l1.length : Int) then (laws_rInts.l0 k l0 l1 0) else (some false)) = some r := h
 clear h
 by_cases c3 : (l0.length : Int) = (l1.length : Int)
 case neg =>
  rw [if_neg c3] at H
  have c3b0 : ((l0.length : Int) == (l1.length : Int)) = false := beq_eq_false_iff_ne.mpr c3
  have c3b1 : ((l0.length : Int) != (l1.length : Int)) = true := bne_iff_ne.mpr c3
  have c3b2 : (l0.length == l1.length) = false := by first | simpa using c3 | (simp at c3 ⊢; omega)
  obtain rfl := Option.some.inj H
  go_enter Try.func8, Try.ntmps8
  go_wp2
  repeat (go_quiet (fail); try go_wp2)
  go_ret
  exact ⟨by first | rfl | (simp; done) | (simp [*]; done), zq28⟩
 rw [if_pos c3] at H
 have c3b0 : ((l0.length : Int) == (l1.length : Int)) = true := beq_iff_eq.mpr c3
 have c3b1 : ((l0.length : Int) != (l1.length : Int)) = false := bne_eq_false_iff_eq.mpr c3
 have c3b2 : (l0.length == l1.length) = true := by first | simpa using c3 | (simp at c3 ⊢; omega)
 clear c3
 have H' := zm H
 clear H
 go_enter Try.func8, Try.ntmps8
 go_wp2
 repeat (go_quiet (fail); try go_wp2)
 go_loopg [5] k (fun kq v5 w' => ∃ (x5_1 : Int), v5 = .int .i64 x5_1 ∧ Aside0 (laws_rInts.l0 kq l0 l1 x5_1 = some r) ∧ Aside0 (kq ≤ k) ∧ Drawn0 w w')
 case atStart => exact ⟨(0), (by first | rfl | (simp; done) | (simp [*]; done)), H', ⟨Nat.le_refl _⟩, zq28⟩
 clear H'
 try clear c1
 try clear p2
 try clear c3
 try clear c3b0
 try clear c3b1
 try clear c3b2
 obtain ⟨x5_1, rfl, HA, HK1, ⟨m1, rfl⟩⟩ := hrel
 cases gk with
 | zero => exact absurd HA.out (by simp [laws_rInts.l0])
 | succ k1 =>
  have H := HA.out
  clear HA
  simp only [laws_rInts.l0] at H
  by_cases c4 : x5_1 < (l0.length : Int)
  case neg =>
   rw [if_neg c4] at H
   have c4b0 : decide (x5_1 < (l0.length : Int)) = false := decide_eq_false c4
   clear c4
   obtain rfl := Option.some.inj H
   go_wp2
   repeat (go_quiet (fail); try go_wp2)
   go_ret
   exact ⟨by first | rfl | (simp; done) | (simp [*]; done), zq28⟩
  rw [if_pos c4] at H
  have c4b0 : decide (x5_1 < (l0.length : Int)) = true := decide_eq_true c4
  clear c4
  by_cases c5 : 0 ≤ x5_1
  case neg =>
   rw [if_neg c5] at H
   exact absurd H (by simp)
  rw [if_pos c5] at H
  have c5b0 : decide (0 ≤ x5_1) = true := decide_eq_true c5
  clear c5
  by_cases c6 : x5_1 < (l1.length : Int)
  case neg =>
   rw [if_neg c6] at H
   exact absurd H (by simp)
  rw [if_pos c6] at H
  have c6b0 : decide (x5_1 < (l1.length : Int)) = true := decide_eq_true c6
  clear c6
  by_cases c7 : (rd l0 x5_1) = (rd l1 x5_1)
  case neg =>
   rw [if_neg c7] at H
   have c7b0 : ((rd l0 x5_1) == (rd l1 x5_1)) = false := beq_eq_false_iff_ne.mpr c7
   have c7b1 : ((rd l0 x5_1) != (rd l1 x5_1)) = true := bne_iff_ne.mpr c7
   obtain rfl := Option.some.inj H
   have p393 : 0 ≤ (x5_1 : Int) := of_decide_eq_true zq6
   have q393 : x5_1 < (l0.length : Int) := of_decide_eq_true zq6
   obtain ⟨ad393, e393, hx393_0⟩ := Kd.at_int HR0.out x5_1 p393 q393
   cases e393
   replace p393 := eq_true p393
   replace q393 := eq_true q393
   have p394 : 0 ≤ (x5_1 : Int) := of_decide_eq_true zq6
   have q394 : x5_1 < (l1.length : Int) := of_decide_eq_true zq6
   obtain ⟨ad394, e394, hx394_0⟩ := Kd.at_int HR1.out x5_1 p394 q394
   cases e394
   replace p394 := eq_true p394
   replace q394 := eq_true q394
   go_wp2
   repeat (go_quiet (fail); try go_wp2)
   go_ret
   exact ⟨by first | rfl | (simp; done) | (simp [*]; done), zq28⟩
  rw [if_pos c7] at H
  have c7b0 : ((rd l0 x5_1) == (rd l1 x5_1)) = true := beq_iff_eq.mpr c7
  have c7b1 : ((rd l0 x5_1) != (rd l1 x5_1)) = false := bne_eq_false_iff_eq.mpr c7
  clear c7
  have H' := zm H
  clear H
  have p393 : 0 ≤ (x5_1 : Int) := of_decide_eq_true zq6
  have q393 : x5_1 < (l0.length : Int) := of_decide_eq_true zq6
  obtain ⟨ad393, e393, hx393_0⟩ := Kd.at_int HR0.out x5_1 p393 q393
  cases e393
  replace p393 := eq_true p393
  replace q393 := eq_true q393
  have p394 : 0 ≤ (x5_1 : Int) := of_decide_eq_true zq6
  have q394 : x5_1 < (l1.length : Int) := of_decide_eq_true zq6
  obtain ⟨ad394, e394, hx394_0⟩ := Kd.at_int HR1.out x5_1 p394 q394
  cases e394
  replace p394 := eq_true p394
  replace q394 := eq_true q394
  go_wp2
  repeat (go_quiet (fail); try go_wp2)
  go_roundg k1
  case measure => have := HK1.out; omega
  case rel => exact ⟨(wrap64 (x5_1 + 1)), (by first | rfl | (simp; done) | (simp [*]; done)), H', ⟨by have := HK1.out; omega⟩, zq28⟩
def slices_Index_int_int.l0 : Nat → List Int → Int → Int → Int → Option (Int)
 | 0, _, _, _, _ => none
 | k + 1, x0, x1, x7, x8 => if x8 < x7 then (if 0 ≤ x8 then (if x8 < (x0.length : Int) then (if x1 = (rd x0 x8) then (some x8) else (slices_Index_int_int.l0 k x0 x1 x7 (wrap64 (x8 + 1)))) else (none)) else (none)) else (some (-1))
def slices_Index_int_int.f (k : Nat) (l0 : List Int) (a1 : Int) : Option (Int) := slices_Index_int_int.l0 k l0 a1 (l0.length : Int) 0
set_option maxHeartbeats 8000000 in
set_option maxRecDepth 100000 in
theorem slices_Index_int_int.calls (k : Nat) (A0 : Option Addr) (c0 : Nat) (l0 : List Int) (a1 : Int) (r : Int) (w : World) (hr0 : Kd.C (Kd.int .i64) w A0 l0.length l0) (hc0 : l0.length ≤ c0) (h : slices_Index_int_int.f k l0 a1 = some r) :
  Calls Try.prog 74 #[.slice A0 l0.length c0, .int .i64 a1] w fun e w' => e = .returned (.int .i64 r) ∧ Drawn0 w w' := by
 have HR0 := zm hr0
 have HC0 := zm hc0
 clear hr0 hc0
 have H : (slices_Index_int_int.l0 k l0 a1 (l0.length : Int) 0) = some r := h
 clear h
 have H' := zm H
 clear H
 go_enter Try.func74, Try.ntmps74
 go_wp2
 go_loopg [8] k (fun kq v8 w' => ∃ (x8_1 : Int), v8 = .int .i64 x8_1 ∧ Aside0 (slices_Index_int_int.l0 kq l0 a1 (l0.length : Int) x8_1 = some r) ∧ Aside0 (kq ≤ k) ∧ Drawn0 w w')
 case atStart => exact ⟨(0), (by first | rfl | (simp; done) | (simp [*]; done)), H', ⟨Nat.le_refl _⟩, zq28⟩
 clear H'
 try clear p2
 obtain ⟨x8_1, rfl, HA, HK1, ⟨m1, rfl⟩⟩ := hrel
 cases gk with
 | zero => exact absurd HA.out (by simp [slices_Index_int_int.l0])
 | succ k1 =>
  have H := HA.out
  clear HA
  simp only [slices_Index_int_int.l0] at H
  by_cases c3 : x8_1 < (l0.length : Int)
  case neg =>
   rw [if_neg c3] at H
   have c3b0 : decide (x8_1 < (l0.length : Int)) = false := decide_eq_false c3
   clear c3
   obtain rfl := Option.some.inj H
   go_wp2
   go_ret
   exact ⟨by first | rfl | (simp; done) | (simp [*]; done), zq28⟩
  rw [if_pos c3] at H
  have c3b0 : decide (x8_1 < (l0.length : Int)) = true := decide_eq_true c3
  clear c3
  by_cases c4 : 0 ≤ x8_1
  case neg =>
   rw [if_neg c4] at H
   exact absurd H (by simp)
  rw [if_pos c4] at H
  have c4b0 : decide (0 ≤ x8_1) = true := decide_eq_true c4
  clear c4
  by_cases c5 : x8_1 < (l0.length : Int)
  case neg =>
   rw [if_neg c5] at H
   exact absurd H (by simp)
  rw [if_pos c5] at H
  have c5b0 : decide (x8_1 < (l0.length : Int)) = true := decide_eq_true c5
  clear c5
  by_cases c6 : a1 = (rd l0 x8_1)
  case pos =>
   rw [if_pos c6] at H
   have c6b0 : (a1 == (rd l0 x8_1)) = true := beq_iff_eq.mpr c6
   have c6b1 : (a1 != (rd l0 x8_1)) = false := bne_eq_false_iff_eq.mpr c6
   clear c6
   obtain rfl := Option.some.inj H
   have p395 : 0 ≤ (x8_1 : Int) := of_decide_eq_true zq6
   have q395 : x8_1 < (l0.length : Int) := of_decide_eq_true zq6
   obtain ⟨ad395, e395, hx395_0⟩ := Kd.at_int HR0.out x8_1 p395 q395
   cases e395
   replace p395 := eq_true p395
   replace q395 := eq_true q395
   go_wp2
   go_ret
   exact ⟨by first | rfl | (simp; done) | (simp [*]; done), zq28⟩
  rw [if_neg c6] at H
  have c6b0 : (a1 == (rd l0 x8_1)) = false := beq_eq_false_iff_ne.mpr c6
  have c6b1 : (a1 != (rd l0 x8_1)) = true := bne_iff_ne.mpr c6
  have H' := zm H
  clear H
  have p395 : 0 ≤ (x8_1 : Int) := of_decide_eq_true zq6
  have q395 : x8_1 < (l0.length : Int) := of_decide_eq_true zq6
  obtain ⟨ad395, e395, hx395_0⟩ := Kd.at_int HR0.out x8_1 p395 q395
  cases e395
  replace p395 := eq_true p395
  replace q395 := eq_true q395
  go_wp2
  go_roundg k1
  case measure => have := HK1.out; omega
  case rel => exact ⟨(wrap64 (x8_1 + 1)), (by first | rfl | (simp; done) | (simp [*]; done)), H', ⟨by have := HK1.out; omega⟩, zq28⟩
def slices_Contains_int_int.f (k : Nat) (l0 : List Int) (a1 : Int) : Option (Bool) := (slices_Index_int_int.f k l0 a1).bind fun t396 => (some (decide (t396 ≥ 0)))
set_option maxHeartbeats 8000000 in
set_option maxRecDepth 100000 in
theorem slices_Contains_int_int.calls (k : Nat) (A0 : Option Addr) (c0 : Nat) (l0 : List Int) (a1 : Int) (r : Bool) (w : World) (hr0 : Kd.C (Kd.int .i64) w A0 l0.length l0) (hc0 : l0.length ≤ c0) (h : slices_Contains_int_int.f k l0 a1 = some r) :
  Calls Try.prog 56 #[.slice A0 l0.length c0, .int .i64 a1] w fun e w' => e = .returned (.bool r) ∧ Drawn0 w w' := by
 have HR0 := zm hr0
 have HC0 := zm hc0
 clear hr0 hc0
 have H : ((slices_Index_int_int.f k l0 a1).bind fun t396 => (some (decide (t396 ≥ 0)))) = some r := h
 clear h
 obtain ⟨t396, A30, H⟩ := zob H
 replace H : (some (decide (t396 ≥ 0))) = some r := H
 have A3 := zm A30
 clear A30
 obtain rfl := Option.some.inj H
 go_enter Try.func56, Try.ntmps56
 go_wp2_with (first | ((with_reducible refine zyg (f := 74) rfl ?_); refine goesL_ (some 7) rfl rfl Try.func74 (by kernel_rfl) rfl #[.slice A0 l0.length c0, .int .i64 a1] rfl zq0 ?_; (with_reducible refine (slices_Index_int_int.calls k _ _ l0 a1 t396 _ ?side1 ?side2 A3.out).mono ?_); (case side1 => exact zqC HR0.out); (case side2 => exact HC0.out); rintro e w' ⟨rfl, ⟨nd, rfl⟩⟩; refine ⟨_, rfl, ?_⟩))
 go_ret
 exact ⟨by first | rfl | (simp; done) | (simp [*]; done), zq28⟩
theorem rdI_ (l : List Int) (i : Nat) : rd l (i : Int) = l.getD i 0 := rfl
theorem wrapI_ (i n : Nat) (h : i < n) (hn : n ≤ 9223372036854775807) : wrap64 ((i : Int) + 1) = ((i + 1 : Nat) : Int) := by unfold wrap64; omega
theorem ev_indexI (l : List Int) (hl : l.length ≤ 9223372036854775807) (x : Int) : Ev (fun k => slices_Index_int_int.f k l x) (Gen.fIdx (fun y => y == x) l) := by
 unfold slices_Index_int_int.f
 have key := Gen.ev_run (fun k (_ : Unit) i => slices_Index_int_int.l0 k l x (l.length : Int) i) l.length (fun i _ => if (l.getD i 0 == x) = true then (.inl (i : Int)) else .inr ()) (fun _ => -1) (fun _ _ => True)
  (by
   intro i s b hi _ h
   obtain ⟨hh, rfl⟩ := Gen.inl_of h
   refine Gen.Ev.eq_now fun k => ?_
   simp only [slices_Index_int_int.l0]
   rw [if_pos (by omega), if_pos (by omega), if_pos (by omega), rdI_, if_pos (beq_iff_eq.1 hh).symm])
  (by
   intro i s s' r hi _ h
   obtain ⟨hh, _⟩ := Gen.inr_of h
   refine ⟨trivial, fun he => Ev.congr (fun k => ?_) he⟩
   simp only [slices_Index_int_int.l0]
   rw [if_pos (by omega), if_pos (by omega), if_pos (by omega), rdI_, if_neg (fun e => beq_eq_false_iff_ne.1 hh e.symm), wrapI_ i l.length hi hl])
  (by
   intro s _
   refine Gen.Ev.eq_now fun k => ?_
   simp only [slices_Index_int_int.l0]
   rw [if_neg (by omega)])
  l.length 0 () (by omega) trivial
 have hr : Gen.run (fun i (_ : Unit) => if (l.getD i 0 == x) = true then (.inl (i : Int)) else .inr ()) (fun _ => (-1 : Int)) l.length 0 () = Gen.fIdx (fun y => y == x) l :=
  Gen.run_inv (n := l.length) (fun i _ => ∀ j, j < i → (l.getD j 0 == x) = false) (fun b => b = Gen.fIdx (fun y => y == x) l)
   (fun i s b hi hs h => by obtain ⟨hh, rfl⟩ := Gen.inl_of h; exact (Gen.fIdx_hit (fun y => y == x) l 0 i hi hh hs).symm)
   (fun i s s' hi hs h => by
    obtain ⟨hh, _⟩ := Gen.inr_of h
    intro j hj
    by_cases e : j = i
    ·
     rw [e]; exact hh
    ·
     exact hs j (by omega))
   (fun s hs => (Gen.fIdx_miss (fun y => y == x) l 0 hs).symm) l.length 0 () (by omega) (fun j hj => absurd hj (Nat.not_lt_zero _))
 rw [hr] at key
 exact key
theorem any_mem (l : List Int) (x : Int) : l.any (fun y => y == x) = decide (x ∈ l) := by
 rw [Bool.eq_iff_iff, List.any_eq_true, decide_eq_true_eq]
 constructor
 ·
  rintro ⟨y, hy, h⟩; rw [← beq_iff_eq.1 h]; exact hy
 ·
  intro h; exact ⟨x, h, beq_iff_eq.2 rfl⟩
theorem ev_containsI (l : List Int) (hl : l.length ≤ 9223372036854775807) (x : Int) : Ev (fun k => slices_Contains_int_int.f k l x) (decide (x ∈ l)) := by
 unfold slices_Contains_int_int.f
 rw [← any_mem, ← Gen.fIdx_nonneg]
 exact Ev.bind (f := fun k t => _) (ev_indexI l hl x) (Ev.now _)
def awayB (l : List Int) (x : Int) : Bool := decide (x < 1) || !(decide (x ∈ l))
theorem impl_hasAreas.pred (B : Nat) (a0_0 a0_1 : Int) (A : Option Addr) (c : Nat) (l : List Int) (w : World) (hB : w.heap[B]? = some (.cells #[.int .i64 a0_0, .int .i64 a0_1, .slice A l.length c] 26 (0, 0))) (hr : Kd.C (Kd.int .i64) w A l.length l) (hc : l.length ≤ c) :
  ∀ (W : World) (x : Int), Below w.heap.size w W → Calls Try.prog 55 (#[.int .i64 x] ++ #[.pointer (some ⟨B, 0, none⟩)]) W fun e w' => e = .returned (.bool (awayB l x)) ∧ Below W.heap.size W w' := by
 intro W x hb
 have hl : l.length ≤ 9223372036854775807 := hr.2.1
 have hB2 : W.cell? ⟨B, 2, none⟩ = some (.slice A l.length c) := zyk (zyb hB hb) 2
 have HR := zm (Kd.C_below hr hb)
 have HC := zm hc
 have hu := Try.underlying26
 clear hB hr hc hb
 show Calls Try.prog 55 #[.int .i64 x, .pointer (some ⟨B, 0, none⟩)] W _
 by_cases h1 : x < 1
 ·
  have e1 : awayB l x = true := by unfold awayB; rw [decide_eq_true h1]; rfl
  rw [e1]
  clear e1
  go_enter Try.func55, Try.ntmps55
  go_wp2
  go_ret
  exact ⟨rfl, Below.refl _ _⟩
 ·
  obtain ⟨k1, hf⟩ := (ev_containsI l hl x).rounds
  have HF := zm hf
  have e1 : awayB l x = !(decide (x ∈ l)) := by unfold awayB; rw [decide_eq_false h1]; rfl
  rw [e1]
  clear e1 hf
  generalize decide (x ∈ l) = q at HF
  go_enter Try.func55, Try.ntmps55
  go_wp2_with (go_at_call 56; refine (slices_Contains_int_int.calls k1 A c l x q _ HR.out HC.out HF.out).mono ?_; rintro e w' ⟨rfl, hb'⟩; replace hb' := hb'.below)
  go_ret
  exact ⟨rfl, hb'⟩
def impl_hasAreas.f (k : Nat) (a0_0 : Int) (a0_1 : Int) (l0_2 : List Int) (l1 : List Int) : Option Bool := (impl_IsValidAreaMap.f k a0_0 a0_1 l0_2).bind fun t => some (t && !(l1.any (awayB l0_2)))
theorem impl_hasAreas.calls (k : Nat) (a0_0 : Int) (a0_1 : Int) (A0_2 : Option Addr) (c0_2 : Nat) (l0_2 : List Int) (A1 : Option Addr) (c1 : Nat) (l1 : List Int) (r : Bool) (w : World) (hr0_2 : Kd.C (Kd.int .i64) w A0_2 l0_2.length l0_2) (hc0_2 : l0_2.length ≤ c0_2) (hr1 : Kd.C (Kd.int .i64) w A1 l1.length l1) (hc1 : l1.length ≤ c1) (h : impl_hasAreas.f k a0_0 a0_1 l0_2 l1 = some r) :
  Calls Try.prog 36 #[.agg #[.int .i64 a0_0, .int .i64 a0_1, .slice A0_2 l0_2.length c0_2], .slice A1 l1.length c1] w fun e w' => e = .returned (.bool r) ∧ Below w.heap.size w w' := by
 have hu := Try.underlying26
 have HR := zm hr0_2
 have HC := zm hc0_2
 have HR1 := zm hr1
 have HC1 := zm hc1
 clear hr0_2 hc0_2 hr1 hc1
 unfold impl_hasAreas.f at h
 obtain ⟨t, ht, h⟩ := Option.bind_eq_some_iff.mp h
 have HT := zm ht
 clear ht
 have eg : ∀ args w, (callFunc 55 args).run Try.prog w = .ok (.enter 55 args) w := enters_of Try.func55 (by kernel_rfl) rfl
 have EG := zm eg
 clear eg
 have HH := zm (Option.some.inj h)
 clear h
 obtain ⟨W1, hW1⟩ : ∃ W1, W1 = w.alloc (.cells #[.int .i64 a0_0, .int .i64 a0_1, .slice A0_2 l0_2.length c0_2] 26) := ⟨_, rfl⟩
 have a1B : Below w.heap.size w W1 := by rw [hW1]; exact (Below.refl _ w).alloc (Nat.le_refl _) _
 have a1N : W1.heap[w.heap.size]? = some (.cells #[.int .i64 a0_0, .int .i64 a0_1, .slice A0_2 l0_2.length c0_2] 26 (0, 0)) := by rw [hW1]; exact heap_alloc_new w _
 have HW := zm hW1
 have HB1 := zm a1B
 have HN1 := zm a1N
 clear a1B a1N hW1
 cases t with
 | false =>
  rw [Bool.false_and] at HH
  go_enter Try.func36, Try.ntmps36
  go_wp2_with (go_at_call 31; rw [← HW.out]; refine (impl_IsValidAreaMap.calls k a0_0 a0_1 A0_2 c0_2 l0_2 false _ (Kd.C_below HR.out HB1.out) HC.out HT.out).mono ?_; rintro e w' ⟨rfl, hb⟩)
  go_ret
  exact ⟨by show Ending.returned (Value.bool false) = _; rw [← HH.out], HB1.out.trans (hb.mono HB1.out.size)⟩
 | true =>
  rw [Bool.true_and] at HH
  go_enter Try.func36, Try.ntmps36
  go_wp2_with fail
  rw [← HW.out]
  refine (impl_IsValidAreaMap.calls k a0_0 a0_1 A0_2 c0_2 l0_2 true _ (Kd.C_below HR.out HB1.out) HC.out HT.out).mono ?_
  rintro e w1 ⟨rfl, hb⟩
  have HB2 := zm hb
  clear hb
  go_wp2_with fail
  refine (ContainsFuncI.calls 55 #[.pointer (some ⟨w.heap.size, 0, none⟩)] (awayB l0_2) EG.out A1 l1.length c1 l1 _ rfl ?hr1 HC1.out ?hp1).mono ?_
  case hr1 => exact Kd.C_below (Kd.C_below HR1.out HB1.out) HB2.out
  case hp1 => exact fun W x _ hb => impl_hasAreas.pred w.heap.size a0_0 a0_1 A0_2 c0_2 l0_2 w1 (zyb HN1.out HB2.out) (Kd.C_below (Kd.C_below HR.out HB1.out) HB2.out) HC.out W x hb
  rintro e w' ⟨rfl, hb'⟩
  generalize hq : (l1.any (awayB l0_2)) = q at *
  go_wp2
  go_ret
  exact ⟨by show Ending.returned (Value.bool (!q)) = _; rw [← HH.out], (HB1.out.trans (HB2.out.mono HB1.out.size)).trans (hb'.mono (Nat.le_trans HB1.out.size HB2.out.size))⟩
end Go.Proofs.Ytfaihkhdbapjmaa.Q
