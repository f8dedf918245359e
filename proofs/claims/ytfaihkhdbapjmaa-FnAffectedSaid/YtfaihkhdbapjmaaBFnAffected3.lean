/- Texts of this claim, put together: walks of the program's functions, and plain facts. -/
import Derived.Test.YtfaihkhdbapjmaaZFnAffected
import Derived.Test.YtfaihkhdbapjmaaBFnAffected0
namespace Go.Proofs.Ytfaihkhdbapjmaa.Q
open Go.RowKit Go.Proofs.YtfaihkhdbapjmaaW.PrintWords Go.Proofs.YtfaihkhdbapjmaaW.PrintLast Go.Proofs.YtfaihkhdbapjmaaW.PrintMore
attribute [local go_sem] max2_int min2_int max_two min_two max_three min_three max_four min_four
set_option linter.unusedVariables false
set_option linter.unusedSimpArgs false
def spec_l1In.f (a0 : Int) (a1 : Int) (a2 : Int) : Option (Bool) := if a0 ≥ a1 then (some (decide (a0 ≤ a2))) else (some false)
set_option maxHeartbeats 8000000 in
set_option maxRecDepth 100000 in
theorem spec_l1In.calls (a0 : Int) (a1 : Int) (a2 : Int) (r : Bool) (w : World) (h : spec_l1In.f a0 a1 a2 = some r) :
  Calls Try.prog 29 #[.int .i64 a0, .int .i64 a1, .int .i64 a2] w fun e w' => e = .returned (.bool r) ∧ Drawn0 w w' := by
 have H : (if a0 ≥ a1 then (some (decide (a0 ≤ a2))) else (some false)) = some r := h
 clear h
 by_cases c4 : a0 ≥ a1
 case neg =>
  rw [if_neg c4] at H
  have c4b0 : decide (a1 ≤ a0) = false := decide_eq_false c4
  clear c4
  obtain rfl := Option.some.inj H
  go_enter Try.func29, Try.ntmps29
  go_wp2
  go_ret
  exact ⟨by first | rfl | (simp; done) | (simp [*]; done), zq28⟩
 rw [if_pos c4] at H
 have c4b0 : decide (a1 ≤ a0) = true := decide_eq_true c4
 clear c4
 obtain rfl := Option.some.inj H
 go_enter Try.func29, Try.ntmps29
 go_wp2
 go_ret
 exact ⟨by first | rfl | (simp; done) | (simp [*]; done), zq28⟩
mutual
def spec_l13Good.j0 : Nat → Bool → Int → Int → List Int → Option (Bool)
 | 0, _, _, _, _ => none
 | k + 1, x24, x181000, x181001, x181002 => if x24 = true then (some false) else (spec_l13Good.l0 k 0 x181000 x181001 x181002)
def spec_l13Good.l0 : Nat → Int → Int → Int → List Int → Option (Bool)
 | 0, _, _, _, _ => none
 | k + 1, x3, x181000, x181001, x181002 => if x3 < (x181002.length : Int) then (if 0 ≤ x3 then ((spec_l1In.f (rd x181002 x3) 0 9).bind fun t184 => (if t184 = true then (spec_l13Good.l0 k (wrap64 (x3 + 1)) x181000 x181001 x181002) else (some false))) else (none)) else (some true)
end
def spec_l13Good.f (k : Nat) (a0_0 : Int) (a0_1 : Int) (l0_2 : List Int) : Option (Bool) := (spec_l1In.f a0_0 1 8).bind fun t181 => (if t181 = true then ((spec_l1In.f a0_1 1 8).bind fun t182 => (if t182 = true then (spec_l13Good.j0 k ((l0_2.length : Int) != (wrap64 (a0_0 * a0_1))) a0_0 a0_1 l0_2) else (spec_l13Good.j0 k true a0_0 a0_1 l0_2))) else (spec_l13Good.j0 k true a0_0 a0_1 l0_2))
set_option maxHeartbeats 8000000 in
set_option maxRecDepth 100000 in
theorem spec_l13Good.calls (k : Nat) (a0_0 : Int) (a0_1 : Int) (A0_2 : Option Addr) (c0_2 : Nat) (l0_2 : List Int) (r : Bool) (w : World) (hr0_2 : Kd.C (Kd.int .i64) w A0_2 l0_2.length l0_2) (hc0_2 : l0_2.length ≤ c0_2) (h : spec_l13Good.f k a0_0 a0_1 l0_2 = some r) :
  Calls Try.prog 43 #[.agg #[.int .i64 a0_0, .int .i64 a0_1, .slice A0_2 l0_2.length c0_2]] w fun e w' => e = .returned (.bool r) ∧ Below w.heap.size w w' := by
 have hu26 := Try.underlying26
 have HR0_2 := zm hr0_2
 have HC0_2 := zm hc0_2
 clear hr0_2 hc0_2
 have HB := zm (Below.refl w.heap.size w)
 have H : ((spec_l1In.f a0_0 1 8).bind fun t181 => (if t181 = true then ((spec_l1In.f a0_1 1 8).bind fun t182 => (if t182 = true then (spec_l13Good.j0 k ((l0_2.length : Int) != (wrap64 (a0_0 * a0_1))) a0_0 a0_1 l0_2) else (spec_l13Good.j0 k true a0_0 a0_1 l0_2))) else (spec_l13Good.j0 k true a0_0 a0_1 l0_2))) = some r := h
 clear h
 have HC2 := zm H
 clear H
 go_enter Try.func43, Try.ntmps43
 go_upto_region 1 with (first | ((with_reducible refine gate_dst (N := 1) rfl ?_); refine box_event ?hg (N := 1) ?hd (cs := #[.int .i64 a0_0, .int .i64 a0_1, .slice A0_2 l0_2.length c0_2]) (t := 26) ?hr ?_; (case hd => rfl); (case hg => rfl); (case hr => exact zqS); intro gb180 hg w3 hbox hb; have BK180 := zm (hbox); have GW180 := zm ((by rw [hg]; exact (zyi zq1) : w.heap.size ≤ gb180)); replace HB := zm (zyh zq1 hb); have GE180 := GW180; clear hb hbox hg))
 (try simp only [Act.put, List.setIfInBounds_toArray, List.set_cons_zero, List.set_cons_succ])
 go_cut [24] (fun v24 wc => ∃ (kq : Nat) (x24_1 : Bool), v24 = .bool x24_1 ∧ Aside0 (spec_l13Good.j0 kq x24_1 a0_0 a0_1 l0_2 = some r) ∧ Aside0 (kq ≤ k) ∧ Aside0 (wc.heap[gb180]? = some (.cells #[.int .i64 a0_0, .int .i64 a0_1, (.slice A0_2 l0_2.length c0_2)] 26 (0, 0))) ∧ Aside0 (Below w.heap.size w wc))
 case first =>
  have H := HC2.out
  clear HC2
  obtain ⟨t181, A40, H⟩ := zob H
  replace H : (if t181 = true then ((spec_l1In.f a0_1 1 8).bind fun t182 => (if t182 = true then (spec_l13Good.j0 k ((l0_2.length : Int) != (wrap64 (a0_0 * a0_1))) a0_0 a0_1 l0_2) else (spec_l13Good.j0 k true a0_0 a0_1 l0_2))) else (spec_l13Good.j0 k true a0_0 a0_1 l0_2)) = some r := H
  have A4 := zm A40
  clear A40
  by_cases c5 : t181 = true
  case neg =>
   replace c5 := Bool.eq_false_iff.mpr c5
   subst c5
   have H1 : (spec_l13Good.j0 k true a0_0 a0_1 l0_2) = some r := by rw [if_neg (show ¬ (false = true) by decide)] at H; exact H
   clear H
   have H := H1
   clear H1
   have H' := zm H
   clear H
   have hcz10_0 := bz BK180.out 0 (.int .i64 a0_0)
   have hcz10_1 := bz BK180.out 1 (.int .i64 a0_1)
   have hcz10_2 := bz BK180.out 2 (.slice A0_2 l0_2.length c0_2)
   have hfz10_0 := zyF BK180.out 0
   have hfz10_1 := zyF BK180.out 1
   have hfz10_2 := zyF BK180.out 2
   go_wp2_with (first | ((with_reducible refine zyg (f := 29) rfl ?_); refine goesL_ (some 6) rfl rfl Try.func29 (by kernel_rfl) rfl #[.int .i64 a0_0, .int .i64 1, .int .i64 8] rfl zq0 ?_; (with_reducible refine (spec_l1In.calls a0_0 1 8 false _ A4.out).mono ?_); rintro e w' ⟨rfl, ⟨nd, rfl⟩⟩; refine ⟨_, rfl, ?_⟩))
   go_meet
   case rel => exact ⟨_, (true), (by first | rfl | (simp; done) | (simp [*]; done)), H', ⟨by first | omega | exact Nat.le_refl _⟩, ⟨by (with_reducible repeat (first | apply zN | apply zD | apply zL)); exact BK180.out⟩, ⟨zq50⟩⟩
  subst c5
  have H1 : ((spec_l1In.f a0_1 1 8).bind fun t182 => (if t182 = true then (spec_l13Good.j0 k ((l0_2.length : Int) != (wrap64 (a0_0 * a0_1))) a0_0 a0_1 l0_2) else (spec_l13Good.j0 k true a0_0 a0_1 l0_2))) = some r := by rw [if_pos rfl] at H; exact H
  clear H
  have H := H1
  clear H1
  obtain ⟨t182, A60, H⟩ := zob H
  replace H : (if t182 = true then (spec_l13Good.j0 k ((l0_2.length : Int) != (wrap64 (a0_0 * a0_1))) a0_0 a0_1 l0_2) else (spec_l13Good.j0 k true a0_0 a0_1 l0_2)) = some r := H
  have A6 := zm A60
  clear A60
  by_cases c7 : t182 = true
  case pos =>
   subst c7
   have H1 : (spec_l13Good.j0 k ((l0_2.length : Int) != (wrap64 (a0_0 * a0_1))) a0_0 a0_1 l0_2) = some r := by rw [if_pos rfl] at H; exact H
   clear H
   have H := H1
   clear H1
   have H' := zm H
   clear H
   have hcz8_0 := bz BK180.out 0 (.int .i64 a0_0)
   have hcz8_1 := bz BK180.out 1 (.int .i64 a0_1)
   have hcz8_2 := bz BK180.out 2 (.slice A0_2 l0_2.length c0_2)
   have hfz8_0 := zyF BK180.out 0
   have hfz8_1 := zyF BK180.out 1
   have hfz8_2 := zyF BK180.out 2
   go_wp2_with (first | ((with_reducible refine zyg (f := 29) rfl ?_); refine goesL_ (some 6) rfl rfl Try.func29 (by kernel_rfl) rfl #[.int .i64 a0_0, .int .i64 1, .int .i64 8] rfl zq0 ?_; (with_reducible refine (spec_l1In.calls a0_0 1 8 true _ A4.out).mono ?_); rintro e w' ⟨rfl, ⟨nd, rfl⟩⟩; refine ⟨_, rfl, ?_⟩) | (go_at_call 29; (with_reducible refine (spec_l1In.calls a0_1 1 8 true _ A6.out).mono ?_); rintro e w' ⟨rfl, ⟨nd, rfl⟩⟩))
   go_meet
   case rel => exact ⟨_, (((l0_2.length : Int) != (wrap64 (a0_0 * a0_1)))), (by first | rfl | (simp; done) | (simp [*]; done)), H', ⟨by first | omega | exact Nat.le_refl _⟩, ⟨by (with_reducible repeat (first | apply zN | apply zD | apply zL)); exact BK180.out⟩, ⟨zq50⟩⟩
  replace c7 := Bool.eq_false_iff.mpr c7
  subst c7
  have H1 : (spec_l13Good.j0 k true a0_0 a0_1 l0_2) = some r := by rw [if_neg (show ¬ (false = true) by decide)] at H; exact H
  clear H
  have H := H1
  clear H1
  have H' := zm H
  clear H
  have hcz9_0 := bz BK180.out 0 (.int .i64 a0_0)
  have hcz9_1 := bz BK180.out 1 (.int .i64 a0_1)
  have hcz9_2 := bz BK180.out 2 (.slice A0_2 l0_2.length c0_2)
  have hfz9_0 := zyF BK180.out 0
  have hfz9_1 := zyF BK180.out 1
  have hfz9_2 := zyF BK180.out 2
  go_wp2_with (first | ((with_reducible refine zyg (f := 29) rfl ?_); refine goesL_ (some 6) rfl rfl Try.func29 (by kernel_rfl) rfl #[.int .i64 a0_0, .int .i64 1, .int .i64 8] rfl zq0 ?_; (with_reducible refine (spec_l1In.calls a0_0 1 8 true _ A4.out).mono ?_); rintro e w' ⟨rfl, ⟨nd, rfl⟩⟩; refine ⟨_, rfl, ?_⟩) | (go_at_call 29; (with_reducible refine (spec_l1In.calls a0_1 1 8 false _ A6.out).mono ?_); rintro e w' ⟨rfl, ⟨nd, rfl⟩⟩))
  go_meet
  case rel => exact ⟨_, (true), (by first | rfl | (simp; done) | (simp [*]; done)), H', ⟨by first | omega | exact Nat.le_refl _⟩, ⟨by (with_reducible repeat (first | apply zN | apply zD | apply zL)); exact BK180.out⟩, ⟨zq50⟩⟩
 clear HC2
 try clear c2
 try clear p2
 try clear c4
 try clear c5
 try clear p6
 try clear c7
 try clear hcz10_0
 try clear hcz10_1
 try clear hcz10_2
 try clear hcz8_0
 try clear hcz8_1
 try clear hcz8_2
 try clear hcz9_0
 try clear hcz9_1
 try clear hcz9_2
 try clear hfz10_0
 try clear hfz10_1
 try clear hfz10_2
 try clear hfz8_0
 try clear hfz8_1
 try clear hfz8_2
 try clear hfz9_0
 try clear hfz9_1
 try clear hfz9_2
 obtain ⟨kq, x24_1, rfl, HA, HJ1, BK180, HB⟩ := hcut
 cases kq with
 | zero => exact absurd HA.out (by simp [spec_l13Good.j0])
 | succ kj1 =>
  have H := HA.out
  clear HA
  simp only [spec_l13Good.j0] at H
  by_cases c11 : x24_1 = true
  case pos =>
   subst c11
   have H1 : (some false) = some r := by rw [if_pos rfl] at H; exact H
   clear H
   have H := H1
   clear H1
   obtain rfl := Option.some.inj H
   go_wp2
   go_ret
   exact ⟨zqE, zq50⟩
  replace c11 := Bool.eq_false_iff.mpr c11
  subst c11
  have H1 : (spec_l13Good.l0 kj1 0 a0_0 a0_1 l0_2) = some r := by rw [if_neg (show ¬ (false = true) by decide)] at H; exact H
  clear H
  have H := H1
  clear H1
  have H' := zm H
  clear H
  go_wp2
  go_loopg [3] kj1 (fun kq v3 w' => ∃ (x3_2 : Int), v3 = .int .i64 x3_2 ∧ Aside0 (spec_l13Good.l0 kq x3_2 a0_0 a0_1 l0_2 = some r) ∧ Aside0 (kq ≤ kj1) ∧ Aside0 (w'.heap[gb180]? = some (.cells #[.int .i64 a0_0, .int .i64 a0_1, (.slice A0_2 l0_2.length c0_2)] 26 (0, 0))) ∧ Aside0 (Below w.heap.size w w'))
  case atStart => exact ⟨(0), (by first | rfl | (simp; done) | (simp [*]; done)), H', ⟨Nat.le_refl _⟩, ⟨by (with_reducible repeat (first | apply zN | apply zD | apply zL)); exact BK180.out⟩, ⟨zq50⟩⟩
  clear H'
  try clear c1
  try clear c2
  try clear p2
  try clear c4
  try clear c5
  try clear p6
  try clear c7
  try clear c11
  try clear hcz10_0
  try clear hcz10_1
  try clear hcz10_2
  try clear hcz8_0
  try clear hcz8_1
  try clear hcz8_2
  try clear hcz9_0
  try clear hcz9_1
  try clear hcz9_2
  try clear hfz10_0
  try clear hfz10_1
  try clear hfz10_2
  try clear hfz8_0
  try clear hfz8_1
  try clear hfz8_2
  try clear hfz9_0
  try clear hfz9_1
  try clear hfz9_2
  try clear p2
  try clear p6
  obtain ⟨x3_2, rfl, HA, HK2, BK180, HB⟩ := hrel
  cases gk with
  | zero => exact absurd HA.out (by simp [spec_l13Good.l0])
  | succ k2 =>
   have H := HA.out
   clear HA
   simp only [spec_l13Good.l0] at H
   by_cases c12 : x3_2 < (l0_2.length : Int)
   case neg =>
    rw [if_neg c12] at H
    have c12b0 : decide (x3_2 < (l0_2.length : Int)) = false := decide_eq_false c12
    clear c12
    obtain rfl := Option.some.inj H
    have hcz18_0 := bz BK180.out 0 (.int .i64 a0_0)
    have hcz18_1 := bz BK180.out 1 (.int .i64 a0_1)
    have hcz18_2 := bz BK180.out 2 (.slice A0_2 l0_2.length c0_2)
    have hfz18_0 := zyF BK180.out 0
    have hfz18_1 := zyF BK180.out 1
    have hfz18_2 := zyF BK180.out 2
    go_wp2
    go_ret
    exact ⟨zqE, zq50⟩
   rw [if_pos c12] at H
   have c12b0 : decide (x3_2 < (l0_2.length : Int)) = true := decide_eq_true c12
   clear c12
   by_cases c13 : 0 ≤ x3_2
   case neg =>
    rw [if_neg c13] at H
    exact absurd H (by simp)
   rw [if_pos c13] at H
   have c13b0 : decide (0 ≤ x3_2) = true := decide_eq_true c13
   clear c13
   obtain ⟨t184, A140, H⟩ := zob H
   replace H : (if t184 = true then (spec_l13Good.l0 k2 (wrap64 (x3_2 + 1)) a0_0 a0_1 l0_2) else (some false)) = some r := H
   have A14 := zm A140
   clear A140
   by_cases c15 : t184 = true
   case neg =>
    replace c15 := Bool.eq_false_iff.mpr c15
    subst c15
    have H1 : (some false) = some r := by rw [if_neg (show ¬ (false = true) by decide)] at H; exact H
    clear H
    have H := H1
    clear H1
    obtain rfl := Option.some.inj H
    have hcz17_0 := bz BK180.out 0 (.int .i64 a0_0)
    have hcz17_1 := bz BK180.out 1 (.int .i64 a0_1)
    have hcz17_2 := bz BK180.out 2 (.slice A0_2 l0_2.length c0_2)
    have hfz17_0 := zyF BK180.out 0
    have hfz17_1 := zyF BK180.out 1
    have hfz17_2 := zyF BK180.out 2
    have p183 : 0 ≤ (x3_2 : Int) := of_decide_eq_true zq6
    have q183 : x3_2 < (l0_2.length : Int) := of_decide_eq_true zq6
    obtain ⟨ad183, e183, hx183_0⟩ := Kd.at_int HR0_2.out x3_2 p183 q183
    cases e183
    replace hx183_0 := bx HB.out hx183_0
    replace p183 := eq_true p183
    replace q183 := eq_true q183
    go_wp2_with (first | ((with_reducible refine zyg (f := 29) rfl ?_); refine goesL_ (some 37) rfl rfl Try.func29 (by kernel_rfl) rfl #[.int .i64 (rd l0_2 x3_2), .int .i64 0, .int .i64 9] rfl zq0 ?_; (with_reducible refine (spec_l1In.calls (rd l0_2 x3_2) 0 9 false _ A14.out).mono ?_); rintro e w' ⟨rfl, ⟨nd, rfl⟩⟩; refine ⟨_, rfl, ?_⟩))
    go_ret
    exact ⟨zqE, zq50⟩
   subst c15
   have H1 : (spec_l13Good.l0 k2 (wrap64 (x3_2 + 1)) a0_0 a0_1 l0_2) = some r := by rw [if_pos rfl] at H; exact H
   clear H
   have H := H1
   clear H1
   have H' := zm H
   clear H
   have hcz16_0 := bz BK180.out 0 (.int .i64 a0_0)
   have hcz16_1 := bz BK180.out 1 (.int .i64 a0_1)
   have hcz16_2 := bz BK180.out 2 (.slice A0_2 l0_2.length c0_2)
   have hfz16_0 := zyF BK180.out 0
   have hfz16_1 := zyF BK180.out 1
   have hfz16_2 := zyF BK180.out 2
   have p183 : 0 ≤ (x3_2 : Int) := of_decide_eq_true zq6
   have q183 : x3_2 < (l0_2.length : Int) := of_decide_eq_true zq6
   obtain ⟨ad183, e183, hx183_0⟩ := Kd.at_int HR0_2.out x3_2 p183 q183
   cases e183
   replace hx183_0 := bx HB.out hx183_0
   replace p183 := eq_true p183
   replace q183 := eq_true q183
   go_wp2_with (first | ((with_reducible refine zyg (f := 29) rfl ?_); refine goesL_ (some 37) rfl rfl Try.func29 (by kernel_rfl) rfl #[.int .i64 (rd l0_2 x3_2), .int .i64 0, .int .i64 9] rfl zq0 ?_; (with_reducible refine (spec_l1In.calls (rd l0_2 x3_2) 0 9 true _ A14.out).mono ?_); rintro e w' ⟨rfl, ⟨nd, rfl⟩⟩; refine ⟨_, rfl, ?_⟩))
   go_roundg k2
   case measure => have := HJ1.out; have := HK2.out; omega
   case rel => exact ⟨(wrap64 (x3_2 + 1)), (by first | rfl | (simp; done) | (simp [*]; done)), H', ⟨by have := HJ1.out; have := HK2.out; omega⟩, ⟨by (with_reducible repeat (first | apply zN | apply zD | apply zL)); exact BK180.out⟩, ⟨zq50⟩⟩
def spec_l2Fill.l0 : Nat → Int → Int → Int → Int → Int → Int → List Int → Option (Int × Int × List Int)
 | 0, _, _, _, _, _, _, _ => none
 | k + 1, x0, x1, x2, x8, x187000, x187001, x187002 => if x8 < (wrap64 (x0 * x1)) then (if x187002.length < 17592186044416 then (spec_l2Fill.l0 k x0 x1 x2 (wrap64 (x8 + 1)) x187000 x187001 (x187002 ++ [x2])) else (none)) else (some (x187000, x187001, x187002))
def spec_l2Fill.f (k : Nat) (a0 : Int) (a1 : Int) (a2 : Int) : Option (Int × Int × List Int) := spec_l2Fill.l0 k a0 a1 a2 0 a0 a1 ([] : List Int)
set_option maxHeartbeats 8000000 in
set_option maxRecDepth 100000 in
theorem spec_l2Fill.calls (k : Nat) (a0 : Int) (a1 : Int) (a2 : Int) (r1 : Int) (r2 : Int) (r3 : List Int) (w : World) (h : spec_l2Fill.f k a0 a1 a2 = some (r1, r2, r3)) :
  Calls Try.prog 75 #[.int .i64 a0, .int .i64 a1, .int .i64 a2] w fun e w' => ∃ v2_ : Value, e = .returned (.agg #[.int .i64 r1, .int .i64 r2, v2_]) ∧ Kd.R (Kd.int .i64) 3 w' w.heap.size (fun _ => True) v2_ r3 ∧ Below w.heap.size w w' := by
 have hu27 := Try.underlying27
 have HB := zm (Below.refl w.heap.size w)
 have H : (spec_l2Fill.l0 k a0 a1 a2 0 a0 a1 ([] : List Int)) = some (r1, r2, r3) := h
 clear h
 have H' := zm H
 clear H
 go_enter Try.func75, Try.ntmps75
 go_wp2_with (first | ((with_reducible refine gate_dst (N := 6) rfl ?_); refine box_event ?hg (N := 6) ?hd (cs := #[.int .i64 0, .int .i64 0, .slice none 0 0]) (t := 27) ?hr ?_; (case hd => rfl); (case hg => rfl); (case hr => exact zqS); intro gb185 hg w4 hbox hb; have BK185 := zm (hbox); have GW185 := zm ((by rw [hg]; exact (zyi zq1) : w.heap.size ≤ gb185)); replace HB := zm (zyh zq1 hb); have GE185 := GW185; clear hb hbox hg) | ((with_reducible refine gate_dst (N := 7) rfl ?_); refine box_event ?hg (N := 7) ?hd (cs := #[.int .i64 0, .int .i64 0, .slice none 0 0]) (t := 27) ?hr ?_; (case hd => rfl); (case hg => rfl); (case hr => exact zqS); intro gb186 hg w5 hbox hb; have BK186 := zm (hbox); have GW186 := zm ((by rw [hg]; exact (zyi zq107) : w.heap.size ≤ gb186)); replace HB := zm (zyh zq107 hb); have GE186 := GW186; have NB185_186 := zm ((by rw [hg]; exact Nat.ne_of_lt (blk_lt (g := gb185) (o := zcB) (zqK BK185.out)) : gb185 ≠ gb186)); have NB186_185 := zm ((by rw [hg]; exact Nat.ne_of_gt (blk_lt (g := gb185) (o := zcB) (zqK BK185.out)) : gb186 ≠ gb185)); replace BK185 := zm (zyb (g := gb185) (o := zcB) (zqK BK185.out) hb); clear hb hbox hg; have hnb6 := NB186_185.out; have hnc6 := NB185_186.out; have hcz7_0 := bz BK186.out 0 (.int .i64 0); have hcz7_1 := bz BK186.out 1 (.int .i64 0); have hcz7_2 := bz BK186.out 2 (.slice none 0 0); have hfz7_0 := zyF BK186.out 0; have hfz7_1 := zyF BK186.out 1; have hfz7_2 := zyF BK186.out 2))
 go_loopg [8] k (fun kq v8 w' => ∃ (x8_1 : Int) (x187002_1 : List Int) (u187002 : Value), v8 = .int .i64 x8_1 ∧ Aside0 (spec_l2Fill.l0 kq a0 a1 a2 x8_1 a0 a1 x187002_1 = some (r1, r2, r3)) ∧ Aside0 (kq ≤ k) ∧ Aside0 (Kd.R (Kd.int .i64) 3 w' w.heap.size (fun _ => True) u187002 x187002_1) ∧ Aside0 (w'.heap[gb185]? = some (.cells #[.int .i64 0, .int .i64 0, (.slice none 0 0)] 27 (0, 0))) ∧ Aside0 (w'.heap[gb186]? = some (.cells #[.int .i64 a0, .int .i64 a1, u187002] 27 (0, 0))) ∧ Aside0 (Below w.heap.size w w'))
 case atStart => exact ⟨(0), (([] : List Int)), (.slice none 0 0), (by first | rfl | (simp; done) | (simp [*]; done)), H', ⟨Nat.le_refl _⟩, ⟨by first | exact Kd.R_nil _ _ _ _ _ | exact Kd.N_nil _ _ _ _ _ | exact Kd.V_nil _ _ _ _ _ | exact Kd.Q_nil _ _ _ _ _ | exact Kd.S_nil _ _ _ _ _⟩, ⟨by (with_reducible repeat (first | apply zN | apply zD | apply zL)); refine zye ?_ NB185_186.out _; (with_reducible repeat (first | apply zN | apply zD | apply zL)); refine zye ?_ NB185_186.out _; (with_reducible repeat (first | apply zN | apply zD | apply zL)); refine zye ?_ NB185_186.out _; (with_reducible repeat (first | apply zN | apply zD | apply zL)); exact BK185.out⟩, ⟨by (with_reducible repeat (first | apply zN | apply zD | apply zL)); refine blk_put (cs := #[.int .i64 a0, .int .i64 a1, .slice none 0 0]) ?_ 2 _ rfl; (with_reducible repeat (first | apply zN | apply zD | apply zL)); refine blk_put (cs := #[.int .i64 a0, .int .i64 0, .slice none 0 0]) ?_ 1 _ rfl; (with_reducible repeat (first | apply zN | apply zD | apply zL)); refine blk_put (cs := #[.int .i64 0, .int .i64 0, .slice none 0 0]) ?_ 0 _ rfl; (with_reducible repeat (first | apply zN | apply zD | apply zL)); exact BK186.out⟩, ⟨zq63⟩⟩
 clear H'
 try clear p2
 try clear c6
 try clear c7
 try clear hcz7_0
 try clear hcz7_1
 try clear hcz7_2
 try clear hfz7_0
 try clear hfz7_1
 try clear hfz7_2
 obtain ⟨x8_1, x187002_1, u187002, rfl, HA, HK1, HO_187002, BK185, BK186, HB⟩ := hrel
 cases gk with
 | zero => exact absurd HA.out (by simp [spec_l2Fill.l0])
 | succ k1 =>
  have H := HA.out
  clear HA
  simp only [spec_l2Fill.l0] at H
  by_cases c8 : x8_1 < (wrap64 (a0 * a1))
  case neg =>
   rw [if_neg c8] at H
   have c8b0 : decide (x8_1 < (wrap64 (a0 * a1))) = false := decide_eq_false c8
   clear c8
   simp only [Option.some.injEq, Prod.mk.injEq] at H
   obtain ⟨rfl, rfl, rfl⟩ := H
   have hnb15 := NB186_185.out
   have hnc15 := NB185_186.out
   have hcz16_0 := bz BK186.out 0 (.int .i64 a0)
   have hcz16_1 := bz BK186.out 1 (.int .i64 a1)
   have hcz16_2 := bz BK186.out 2 (u187002)
   have hfz16_0 := zyF BK186.out 0
   have hfz16_1 := zyF BK186.out 1
   have hfz16_2 := zyF BK186.out 2
   have hcz17_0 := bz BK185.out 0 (.int .i64 0)
   have hcz17_1 := bz BK185.out 1 (.int .i64 0)
   have hcz17_2 := bz BK185.out 2 (.slice none 0 0)
   have hfz17_0 := zyF BK185.out 0
   have hfz17_1 := zyF BK185.out 1
   have hfz17_2 := zyF BK185.out 2
   obtain ⟨Ao18, co18, eo18⟩ := Kd.R_slice HO_187002.out
   subst eo18
   go_wp2
   refine bodyPost_ret (results_cell_row rfl _ _ gb185 27 #[.int .i64 a0, .int .i64 a1, .slice Ao18 x187002_1.length co18] (0, 0) _ rfl (by (with_reducible repeat (first | apply zN | apply zD | apply zL)); refine blk_put (cs := #[.int .i64 a0, .int .i64 a1, .slice none 0 0]) ?_ 2 _ rfl; (with_reducible repeat (first | apply zN | apply zD | apply zL)); refine blk_put (cs := #[.int .i64 a0, .int .i64 0, .slice none 0 0]) ?_ 1 _ rfl; (with_reducible repeat (first | apply zN | apply zD | apply zL)); refine blk_put (cs := #[.int .i64 0, .int .i64 0, .slice none 0 0]) ?_ 0 _ rfl; (with_reducible repeat (first | apply zN | apply zD | apply zL)); exact BK185.out) Try.underlying27 rfl (by kernel_rfl)) rfl ?_
   exact ⟨_, by first | rfl | (simp [errW_none, errW_some] <;> rfl) | (simp [*, errW_none, errW_some] <;> rfl), by (with_reducible repeat (first | apply Kd.R_alloc | apply Kd.R_drewN | apply Kd.R_drew)); exact Kd.R_mono (Kd.R_far (p := ⟨gb185, 2, none⟩) (Kd.R_far (p := ⟨gb185, 1, none⟩) (Kd.R_far (p := ⟨gb185, 0, none⟩) (Kd.R_types HO_187002.out BK185.out (by decide)) (fun _ hk => hk.2) (.int .i64 a0)) (fun _ hk => hk.2) (.int .i64 a1)) (fun _ hk => hk.2) (.slice Ao18 x187002_1.length co18)) (fun _ hk => trivial), zq63⟩
  rw [if_pos c8] at H
  have c8b0 : decide (x8_1 < (wrap64 (a0 * a1))) = true := decide_eq_true c8
  clear c8
  by_cases c9 : x187002_1.length < 17592186044416
  case neg =>
   rw [if_neg c9] at H
   exact absurd H (by simp)
  rw [if_pos c9] at H
  have LMc9 := zm c9
  clear c9
  obtain ⟨y187, hy187⟩ : ∃ y_ : List Int, y_ = (x187002_1 ++ [a2]) := ⟨_, rfl⟩
  replace H : (spec_l2Fill.l0 k1 a0 a1 a2 (wrap64 (x8_1 + 1)) a0 a1 y187) = some (r1, r2, r3) := zqH hy187 H
  have Ny187 := zm hy187
  clear hy187
  have H' := zm H
  clear H
  have hnb10 := NB186_185.out
  have hnc10 := NB185_186.out
  have hcz11_0 := bz BK186.out 0 (.int .i64 a0)
  have hcz11_1 := bz BK186.out 1 (.int .i64 a1)
  have hcz11_2 := bz BK186.out 2 (u187002)
  have hfz11_0 := zyF BK186.out 0
  have hfz11_1 := zyF BK186.out 1
  have hfz11_2 := zyF BK186.out 2
  go_wp2_with (first | ((with_reducible refine gate_builtin (b := .append) (xs := #[.tmp 20, .tmp 22]) rfl ?_); at_builtin; refine Kd.R_append (Kd.int .i64) (w0 := w) w.heap.size rfl (.tmp 20) (.tmp 22) 24 3 (.int .i64 0) 8 rfl Try.underlying24 info3 rfl (by decide) (by omega) u187002 x187002_1 a2 [.int .i64 a2] (fun _ => True) (fun _ => False) rfl rfl ?aP (fun _ hk => hk.elim) ?aF ?aO ?aB ?aS ?aL ?_; (case aP => exact rfl); (case aB => exact zq63); (case aF => exact (fun _ _ => trivial)); (case aO => exact (zqR HO_187002.out)); (case aS => exact (zyi zq63)); (case aL => have := LMc9.out; omega); intro v188 w12 ho hb hg hat; rw [← Ny187.out] at ho; replace BK185 := zm (blk_grown (g := gb185) (o := zcB) (zqK BK185.out) hg (Kd.R_ne HO_187002.out BK185.out (by decide))); replace BK186 := zm (blk_grown (g := gb186) (o := .cells #[.int .i64 a0, .int .i64 a1, u187002] 27 (0, 0)) (zqK BK186.out) hg (Kd.R_ne HO_187002.out BK186.out (by decide))); replace HB := zm (hb); have HO189 := zm (ho); clear HO_187002; clear ho hb hg hat; obtain ⟨Ao13, co13, eo13⟩ := Kd.R_slice HO189.out; subst eo13; have hcz14_0 := bz BK186.out 0 (.int .i64 a0); have hcz14_1 := bz BK186.out 1 (.int .i64 a1); have hcz14_2 := bz BK186.out 2 (u187002); have hfz14_0 := zyF BK186.out 0; have hfz14_1 := zyF BK186.out 1; have hfz14_2 := zyF BK186.out 2))
  go_roundg k1
  case measure => have := HK1.out; omega
  case rel => exact ⟨(wrap64 (x8_1 + 1)), (y187), (.slice Ao13 y187.length co13), (by first | rfl | (simp; done) | (simp [*]; done)), H', ⟨by have := HK1.out; omega⟩, ⟨by (with_reducible repeat (first | apply Kd.R_alloc | apply Kd.R_drewN | apply Kd.R_drew)); exact Kd.R_mono (Kd.R_far (p := ⟨gb186, 2, none⟩) (Kd.R_types HO189.out BK186.out (by decide)) (fun _ hk => hk.2) (.slice Ao13 y187.length co13)) (fun _ hk => trivial)⟩, ⟨by (with_reducible repeat (first | apply zN | apply zD | apply zL)); refine zye ?_ NB185_186.out _; (with_reducible repeat (first | apply zN | apply zD | apply zL)); exact BK185.out⟩, ⟨by (with_reducible repeat (first | apply zN | apply zD | apply zL)); refine blk_put (cs := #[.int .i64 a0, .int .i64 a1, u187002]) ?_ 2 _ rfl; (with_reducible repeat (first | apply zN | apply zD | apply zL)); exact BK186.out⟩, ⟨zq63⟩⟩
end Go.Proofs.Ytfaihkhdbapjmaa.Q
