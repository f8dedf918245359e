/- Texts of this seat, put together: Qf36, Qf15, Qf37, Qf16, Qf29, Qf5. -/
import Derived.Test.YtleadjbfcenofaaDoorZFnExactParseOverview
import Derived.Test.YtleadjbfcenofaaDoorBFnExactParseOverview0
import Derived.Test.YtleadjbfcenofaaDoorBFnExactParseOverview4
import Derived.Test.YtleadjbfcenofaaDoorBFnExactParseOverview6
namespace Go.Proofs.YtleadjbfcenofaaDoor.Q
open Go.RowKit Go.Proofs.YtleadjbfcenofaaDoorW.PrintWords Go.Proofs.YtleadjbfcenofaaDoorW.PrintLast Go.Proofs.YtleadjbfcenofaaDoorW.PrintMore
attribute [local go_sem] max2_int min2_int max_two min_two max_three min_three max_four min_four   -- for this text's walks alone
set_option linter.unusedVariables false
set_option linter.unusedSimpArgs false

/-! ### stringslite_TrimSuffix: function 36 -/
def stringslite_TrimSuffix.f (a0 : ByteArray) (a1 : ByteArray) : Option (ByteArray) := (stringslite_HasSuffix.f a0 a1).bind fun t290 => (if t290 = true then (if 0 ≤ (wrap64 ((a0.size : Int) - (a1.size : Int))) then (if (wrap64 ((a0.size : Int) - (a1.size : Int))) ≤ (a0.size : Int) then (some (a0.extract 0 ((wrap64 ((a0.size : Int) - (a1.size : Int))) : Int).toNat)) else (none)) else (none)) else (some a0))
set_option maxHeartbeats 8000000 in
set_option maxRecDepth 100000 in
theorem stringslite_TrimSuffix.calls (a0 : ByteArray) (a1 : ByteArray) (r : ByteArray) (w : World) (h : stringslite_TrimSuffix.f a0 a1 = some r) :
  Calls Tryd.prog 36 #[.string a0, .string a1] w fun e w' => e = .returned (.string r) ∧ Drawn0 w w' := by
 have H : ((stringslite_HasSuffix.f a0 a1).bind fun t290 => (if t290 = true then (if 0 ≤ (wrap64 ((a0.size : Int) - (a1.size : Int))) then (if (wrap64 ((a0.size : Int) - (a1.size : Int))) ≤ (a0.size : Int) then (some (a0.extract 0 ((wrap64 ((a0.size : Int) - (a1.size : Int))) : Int).toNat)) else (none)) else (none)) else (some a0))) = some r := h
 clear h
 replace H := Option.bind_eq_some_iff.mp H
 obtain ⟨t290, A30, H⟩ := H
 replace H : (if t290 = true then (if 0 ≤ (wrap64 ((a0.size : Int) - (a1.size : Int))) then (if (wrap64 ((a0.size : Int) - (a1.size : Int))) ≤ (a0.size : Int) then (some (a0.extract 0 ((wrap64 ((a0.size : Int) - (a1.size : Int))) : Int).toNat)) else (none)) else (none)) else (some a0)) = some r := H
 have A3 := Aside0.mk A30
 clear A30
 by_cases c4 : t290 = true
 case neg =>
  replace c4 := Bool.eq_false_iff.mpr c4
  subst c4
  have H1 : (some a0) = some r := by rw [if_neg (show ¬ (false = true) by decide)] at H; exact H
  clear H
  have H := H1
  clear H1
  obtain rfl := Option.some.inj H
  go_enter Tryd.func36, Tryd.ntmps36
  go_wp2_with (first | ((with_reducible refine gate_callee (f := 27) rfl ?_); refine goesL_ (some 7) rfl rfl Tryd.func27 (by kernel_rfl) rfl #[.string a0, .string a1] rfl zq1 ?_; (with_reducible refine (stringslite_HasSuffix.calls a0 a1 false _ A3.out).mono ?_); rintro e w' ⟨rfl, ⟨nd, rfl⟩⟩; refine ⟨_, rfl, ?_⟩))
  go_ret
  exact ⟨by first | rfl | (simp; done) | (simp [*]; done), zq21⟩
 subst c4
 have H1 : (if 0 ≤ (wrap64 ((a0.size : Int) - (a1.size : Int))) then (if (wrap64 ((a0.size : Int) - (a1.size : Int))) ≤ (a0.size : Int) then (some (a0.extract 0 ((wrap64 ((a0.size : Int) - (a1.size : Int))) : Int).toNat)) else (none)) else (none)) = some r := by rw [if_pos rfl] at H; exact H
 clear H
 have H := H1
 clear H1
 obtain ⟨ji5, hji5⟩ : ∃ j_ : Int, (wrap64 ((a0.size : Int) - (a1.size : Int))) = j_ := ⟨_, rfl⟩
 replace H : (if 0 ≤ (ji5) then (if (ji5) ≤ (a0.size : Int) then (some (a0.extract 0 ((ji5) : Int).toNat)) else (none)) else (none)) = some r := by first | (rw [hji5] at H; exact H) | (simp only [hji5] at H ⊢; exact H)
 (try rw [hji5] at A3)
 have hji5w : (IntKind.i64.wrap ((a0.size : Int) - (a1.size : Int))) = ji5 := (i64_w _).trans hji5
 by_cases c6 : 0 ≤ (ji5)
 case neg =>
  rw [if_neg c6] at H
  exact absurd H (by simp)
 rw [if_pos c6] at H
 have c6b0 := eq_true c6
 have c6b1 : decide (0 ≤ (ji5)) = true := decide_eq_true c6
 clear c6
 by_cases c7 : (ji5) ≤ (a0.size : Int)
 case neg =>
  rw [if_neg c7] at H
  exact absurd H (by simp)
 rw [if_pos c7] at H
 have c7b0 := eq_true c7
 have c7b1 : decide ((ji5) ≤ (a0.size : Int)) = true := decide_eq_true c7
 clear c7
 obtain rfl := Option.some.inj H
 go_enter Tryd.func36, Tryd.ntmps36
 go_wp2_with (first | ((with_reducible refine gate_callee (f := 27) rfl ?_); refine goesL_ (some 7) rfl rfl Tryd.func27 (by kernel_rfl) rfl #[.string a0, .string a1] rfl zq1 ?_; (with_reducible refine (stringslite_HasSuffix.calls a0 a1 true _ A3.out).mono ?_); rintro e w' ⟨rfl, ⟨nd, rfl⟩⟩; refine ⟨_, rfl, ?_⟩))
 go_ret
 exact ⟨by first | rfl | (simp; done) | (simp only [← hji5] <;> (first | rfl | simp)) | (simp [*]; done), zq21⟩

/-! ### strings_TrimSuffix: function 15 -/
def strings_TrimSuffix.f (a0 : ByteArray) (a1 : ByteArray) : Option (ByteArray) := (stringslite_TrimSuffix.f a0 a1).bind fun t291 => (some t291)
set_option maxHeartbeats 8000000 in
set_option maxRecDepth 100000 in
theorem strings_TrimSuffix.calls (a0 : ByteArray) (a1 : ByteArray) (r : ByteArray) (w : World) (h : strings_TrimSuffix.f a0 a1 = some r) :
  Calls Tryd.prog 15 #[.string a0, .string a1] w fun e w' => e = .returned (.string r) ∧ Drawn0 w w' := by
 have H : ((stringslite_TrimSuffix.f a0 a1).bind fun t291 => (some t291)) = some r := h
 clear h
 replace H := Option.bind_eq_some_iff.mp H
 obtain ⟨t291, A30, H⟩ := H
 replace H : (some t291) = some r := H
 have A3 := Aside0.mk A30
 clear A30
 obtain rfl := Option.some.inj H
 go_enter Tryd.func15, Tryd.ntmps15
 go_wp2_with (first | ((with_reducible refine gate_callee (f := 36) rfl ?_); refine goesL_ (some 7) rfl rfl Tryd.func36 (by kernel_rfl) rfl #[.string a0, .string a1] rfl zq1 ?_; (with_reducible refine (stringslite_TrimSuffix.calls a0 a1 t291 _ A3.out).mono ?_); rintro e w' ⟨rfl, ⟨nd, rfl⟩⟩; refine ⟨_, rfl, ?_⟩))
 go_ret
 exact ⟨by first | rfl | (simp; done) | (simp [*]; done), zq21⟩

/-! ### impl_areWarnings: function 37 -/
def impl_areWarnings.l0 : Nat → List (S31) → List (S31) → Int → Int → Option (Bool)
 | 0, _, _, _, _ => none
 | k + 1, x0, x5, x6, x7 => if x7 < x6 then (if 0 ≤ x7 then (if x7 < (x5.length : Int) then ((impl_IsValidWarning.f ((rd_T31 x5 x7).f0) ((rd_T31 x5 x7).f1) ((rd_T31 x5 x7).f2) ((rd_T31 x5 x7).f3) ((rd_T31 x5 x7).f4) ((rd_T31 x5 x7).f5)).bind fun t294 => (if t294 = true then (if x7 > 0 then (if 0 ≤ (wrap64 (x7 - 1)) then (if (wrap64 (x7 - 1)) < (x0.length : Int) then (if ((rd_T31 x0 (wrap64 (x7 - 1))).f0) ≥ ((rd_T31 x5 x7).f0) then (some false) else (impl_areWarnings.l0 k x0 x5 x6 (wrap64 (x7 + 1)))) else (none)) else (none)) else (impl_areWarnings.l0 k x0 x5 x6 (wrap64 (x7 + 1)))) else (some false))) else (none)) else (none)) else (some (decide ((x0.length : Int) ≤ 12)))
def impl_areWarnings.f (k : Nat) (l0 : List (S31)) : Option (Bool) := impl_areWarnings.l0 k l0 l0 (l0.length : Int) 0
theorem impl_areWarnings.mono_l : ∀ k, (∀ y0 y1 y2 y3, LeO (impl_areWarnings.l0 k y0 y1 y2 y3) (impl_areWarnings.l0 (k + 1) y0 y1 y2 y3))
 | 0 => fun _ _ _ _ r h => by simp [impl_areWarnings.l0] at h
 | k + 1 => by
  have ih0 := impl_areWarnings.mono_l k
  ·
   intro y0 y1 y2 y3
   unfold impl_areWarnings.l0
   repeat' first
   | (with_reducible exact ih0 _ _ _ _)
   | (with_reducible exact LeO.refl _)
   | (with_reducible exact LeO.none _)
   | (with_reducible refine LeO.ite ?_ ?_)
   | (with_reducible refine LeO.bind ?_ (fun _ => ?_))
   | exact ih0 _ _ _ _
   | exact LeO.none _
   | refine LeO.ite ?_ ?_
   | refine LeO.bind ?_ (fun _ => ?_)
theorem impl_areWarnings.mono : ∀ a0 k, LeO (impl_areWarnings.f k a0) (impl_areWarnings.f (k + 1) a0) := by
 intro a0 k
 have ih0 := impl_areWarnings.mono_l k
 unfold impl_areWarnings.f
 repeat' first
   | (with_reducible exact ih0 _ _ _ _)
   | (with_reducible exact LeO.refl _)
   | (with_reducible exact LeO.none _)
   | (with_reducible refine LeO.ite ?_ ?_)
   | (with_reducible refine LeO.bind ?_ (fun _ => ?_))
   | exact ih0 _ _ _ _
   | exact LeO.none _
   | refine LeO.ite ?_ ?_
   | refine LeO.bind ?_ (fun _ => ?_)
def impl_areWarnings.T4 : Bool × List (List Nat × List Nat) := (true, [([], []), ([0], [0]), ([1], [1]), ([2, 1], [2]), ([3], [3]), ([4, 3], [3, 4]), ([5, 3, 3], [3, 5]), ([6], [6]), ([6], [6]), ([8, 6], [6, 8]), ([7, 9, 6], [6, 7, 9]), ([10, 6], [6, 10]), ([11, 6], [6, 11]), ([6], [6]), ([13, 6], [6, 13]), ([12, 14, 6], [6, 12, 14]), ([6, 15, 3], [3, 6, 15]), ([3, 16], [3, 16])])
def impl_areWarnings.B4 : List Nat := [0, 1, 3, 7, 15, 31, 63, 127, 127, 383, 1023, 2047, 4095, 127, 8319, 32767, 65535, 131071]
theorem impl_areWarnings.tab4 : rtab .any (opsOf Tryd.f37 4) = impl_areWarnings.T4 := by kernel_rfl
theorem impl_areWarnings.bits4 : waitsOk impl_areWarnings.T4.2 impl_areWarnings.B4 = true := by kernel_rfl
set_option maxHeartbeats 8000000 in
set_option maxRecDepth 100000 in
theorem impl_areWarnings.calls (k : Nat) (A0 : Option Addr) (c0 : Nat) (l0 : List (S31)) (r : Bool) (w : World) (hr0 : Kd.C k31 w A0 l0.length l0) (hc0 : l0.length ≤ c0) (h : impl_areWarnings.f k l0 = some r) :
  Calls Tryd.prog 37 #[.slice A0 l0.length c0] w fun e w' => e = .returned (.bool r) ∧ Below w.heap.size w w' := by
 have hu31 := Tryd.underlying31
 have HR0 := Aside0.mk hr0
 have HC0 := Aside0.mk hc0
 clear hr0 hc0
 have HB := Aside0.mk (Below.refl w.heap.size w)
 have H : (impl_areWarnings.l0 k l0 l0 (l0.length : Int) 0) = some r := h
 clear h
 have H' := Aside0.mk H
 clear H
 go_enter Tryd.func37, Tryd.ntmps37
 go_wp2
 go_loopg [7] k (fun kq v7 w' => ∃ (x7_1 : Int), v7 = .int .i64 x7_1 ∧ Aside0 (impl_areWarnings.l0 kq l0 l0 (l0.length : Int) x7_1 = some r) ∧ Aside0 (kq ≤ k) ∧ Aside0 (Below w.heap.size w w'))
 case atStart => exact ⟨(0), (by first | rfl | (simp; done) | (simp [*]; done)), H', ⟨Nat.le_refl _⟩, ⟨zq0⟩⟩
 clear H'
 obtain ⟨x7_1, rfl, HA, HK1, HB⟩ := hrel
 cases gk with
 | zero => exact absurd HA.out (by simp [impl_areWarnings.l0])
 | succ k1 =>
  have H := HA.out
  clear HA
  simp only [impl_areWarnings.l0] at H
  by_cases c2 : x7_1 < (l0.length : Int)
  case neg =>
   rw [if_neg c2] at H
   have c2b0 : decide (x7_1 < (l0.length : Int)) = false := decide_eq_false c2
   clear c2
   obtain rfl := Option.some.inj H
   go_wp2
   go_ret
   exact ⟨zqE, zq0⟩
  rw [if_pos c2] at H
  have c2b0 : decide (x7_1 < (l0.length : Int)) = true := decide_eq_true c2
  clear c2
  by_cases c3 : 0 ≤ x7_1
  case neg =>
   rw [if_neg c3] at H
   exact absurd H (by simp)
  rw [if_pos c3] at H
  have c3b0 : decide (0 ≤ x7_1) = true := decide_eq_true c3
  clear c3
  by_cases c4 : x7_1 < (l0.length : Int)
  case neg =>
   rw [if_neg c4] at H
   exact absurd H (by simp)
  rw [if_pos c4] at H
  have c4b0 : decide (x7_1 < (l0.length : Int)) = true := decide_eq_true c4
  clear c4
  replace H := Option.bind_eq_some_iff.mp H
  obtain ⟨t294, A50, H⟩ := H
  replace H : (if t294 = true then (if x7_1 > 0 then (if 0 ≤ (wrap64 (x7_1 - 1)) then (if (wrap64 (x7_1 - 1)) < (l0.length : Int) then (if ((rd_T31 l0 (wrap64 (x7_1 - 1))).f0) ≥ ((rd_T31 l0 x7_1).f0) then (some false) else (impl_areWarnings.l0 k1 l0 l0 (l0.length : Int) (wrap64 (x7_1 + 1)))) else (none)) else (none)) else (impl_areWarnings.l0 k1 l0 l0 (l0.length : Int) (wrap64 (x7_1 + 1)))) else (some false)) = some r := H
  have A5 := Aside0.mk A50
  clear A50
  by_cases c6 : t294 = true
  case neg =>
   replace c6 := Bool.eq_false_iff.mpr c6
   subst c6
   have H1 : (some false) = some r := by rw [if_neg (show ¬ (false = true) by decide)] at H; exact H
   clear H
   have H := H1
   clear H1
   obtain rfl := Option.some.inj H
   have p292 : 0 ≤ (x7_1 : Int) := of_decide_eq_true zq3
   have q292 : x7_1 < (l0.length : Int) := of_decide_eq_true zq3
   obtain ⟨ad292, e292, hx292_0, hx292_1, hx292_2, hx292_3, hx292_4, hx292_5⟩ := at_T31 HR0.out x7_1 p292 q292
   cases e292
   replace hx292_0 := bx HB.out hx292_0
   replace hx292_1 := bx HB.out hx292_1
   replace hx292_2 := bx HB.out hx292_2
   replace hx292_3 := bx HB.out hx292_3
   replace hx292_4 := bx HB.out hx292_4
   replace hx292_5 := bx HB.out hx292_5
   replace p292 := eq_true p292
   replace q292 := eq_true q292
   try go_wp2_with (first | ((with_reducible refine gate_dst (N := 4) rfl ?_); refine box_event ?hg (N := 4) ?hd (cs := #[.int .i64 0, .int .i64 0, .int .i64 0, .int .i64 0, .int .i64 0, .int .i64 0]) (t := 31) ?hr ?_; (case hd => rfl); (case hg => rfl); (case hr => exact zqS); intro gb293 hg w27 hbox hb; have BK293 := Aside0.mk (hbox); have GW293 := Aside0.mk ((by rw [hg]; exact (below_size zq0) : w.heap.size ≤ gb293)); replace HB := Aside0.mk (below_step zq0 hb); have GE293 := GW293; clear hb hbox hg; obtain ⟨hcz28_0, hcz28_1, hcz28_2, hcz28_3, hcz28_4, hcz28_5, hfz28_0, hfz28_1, hfz28_2, hfz28_3, hfz28_4, hfz28_5⟩ := bz6 BK293.out))
   have n0_ : Aside0 (((((((w27.setCell ⟨gb293, 0, none⟩ (.int .i64 ((rd_T31 l0 x7_1).f0))).setCell ⟨gb293, 1, none⟩ (.int .i64 ((rd_T31 l0 x7_1).f1))).setCell ⟨gb293, 2, none⟩ (.int .i64 ((rd_T31 l0 x7_1).f2))).setCell ⟨gb293, 3, none⟩ (.int .i64 ((rd_T31 l0 x7_1).f3))).setCell ⟨gb293, 4, none⟩ (.int .i64 ((rd_T31 l0 x7_1).f4))).setCell ⟨gb293, 5, none⟩ (.int .i64 ((rd_T31 l0 x7_1).f5))).heap[gb293]? = some (.cells #[.int .i64 ((rd_T31 l0 x7_1).f0), .int .i64 ((rd_T31 l0 x7_1).f1), .int .i64 ((rd_T31 l0 x7_1).f2), .int .i64 ((rd_T31 l0 x7_1).f3), .int .i64 ((rd_T31 l0 x7_1).f4), .int .i64 ((rd_T31 l0 x7_1).f5)] 31 (0, 0))) := ⟨by (with_reducible repeat (first | refine blk_drewN ?_ _ | refine blk_drew ?_ | refine blk_alloc ?_ _)); refine blk_put (cs := #[.int .i64 ((rd_T31 l0 x7_1).f0), .int .i64 ((rd_T31 l0 x7_1).f1), .int .i64 ((rd_T31 l0 x7_1).f2), .int .i64 ((rd_T31 l0 x7_1).f3), .int .i64 ((rd_T31 l0 x7_1).f4), .int .i64 0]) ?_ 5 _ rfl; (with_reducible repeat (first | refine blk_drewN ?_ _ | refine blk_drew ?_ | refine blk_alloc ?_ _)); refine blk_put (cs := #[.int .i64 ((rd_T31 l0 x7_1).f0), .int .i64 ((rd_T31 l0 x7_1).f1), .int .i64 ((rd_T31 l0 x7_1).f2), .int .i64 ((rd_T31 l0 x7_1).f3), .int .i64 0, .int .i64 0]) ?_ 4 _ rfl; (with_reducible repeat (first | refine blk_drewN ?_ _ | refine blk_drew ?_ | refine blk_alloc ?_ _)); refine blk_put (cs := #[.int .i64 ((rd_T31 l0 x7_1).f0), .int .i64 ((rd_T31 l0 x7_1).f1), .int .i64 ((rd_T31 l0 x7_1).f2), .int .i64 0, .int .i64 0, .int .i64 0]) ?_ 3 _ rfl; (with_reducible repeat (first | refine blk_drewN ?_ _ | refine blk_drew ?_ | refine blk_alloc ?_ _)); refine blk_put (cs := #[.int .i64 ((rd_T31 l0 x7_1).f0), .int .i64 ((rd_T31 l0 x7_1).f1), .int .i64 0, .int .i64 0, .int .i64 0, .int .i64 0]) ?_ 2 _ rfl; (with_reducible repeat (first | refine blk_drewN ?_ _ | refine blk_drew ?_ | refine blk_alloc ?_ _)); refine blk_put (cs := #[.int .i64 ((rd_T31 l0 x7_1).f0), .int .i64 0, .int .i64 0, .int .i64 0, .int .i64 0, .int .i64 0]) ?_ 1 _ rfl; (with_reducible repeat (first | refine blk_drewN ?_ _ | refine blk_drew ?_ | refine blk_alloc ?_ _)); refine blk_put (cs := #[.int .i64 0, .int .i64 0, .int .i64 0, .int .i64 0, .int .i64 0, .int .i64 0]) ?_ 0 _ rfl; (with_reducible repeat (first | refine blk_drewN ?_ _ | refine blk_drew ?_ | refine blk_alloc ?_ _)); exact BK293.out⟩
   have n1_ : Aside0 (Below w.heap.size w ((((((w27.setCell ⟨gb293, 0, none⟩ (.int .i64 ((rd_T31 l0 x7_1).f0))).setCell ⟨gb293, 1, none⟩ (.int .i64 ((rd_T31 l0 x7_1).f1))).setCell ⟨gb293, 2, none⟩ (.int .i64 ((rd_T31 l0 x7_1).f2))).setCell ⟨gb293, 3, none⟩ (.int .i64 ((rd_T31 l0 x7_1).f3))).setCell ⟨gb293, 4, none⟩ (.int .i64 ((rd_T31 l0 x7_1).f4))).setCell ⟨gb293, 5, none⟩ (.int .i64 ((rd_T31 l0 x7_1).f5)))) := ⟨zq20⟩
   (try clear BK293)
   (try clear HB)
   generalize ((((((w27.setCell ⟨gb293, 0, none⟩ (.int .i64 ((rd_T31 l0 x7_1).f0))).setCell ⟨gb293, 1, none⟩ (.int .i64 ((rd_T31 l0 x7_1).f1))).setCell ⟨gb293, 2, none⟩ (.int .i64 ((rd_T31 l0 x7_1).f2))).setCell ⟨gb293, 3, none⟩ (.int .i64 ((rd_T31 l0 x7_1).f3))).setCell ⟨gb293, 4, none⟩ (.int .i64 ((rd_T31 l0 x7_1).f4))).setCell ⟨gb293, 5, none⟩ (.int .i64 ((rd_T31 l0 x7_1).f5))) = w29 at n0_ n1_ ⊢
   have BK293 := n0_
   have HB := n1_
   clear n0_ n1_
   have n0_ := Aside0.mk (blk_drew BK293.out)
   have n1_ := Aside0.mk (below_drew1 HB.out)
   clear BK293
   clear HB
   have BK293 := n0_
   have HB := n1_
   clear n0_ n1_
   refine start_ (n := 18) (S := fun w' => w'.cell? ⟨gb293, 0, none⟩ = some (.int .i64 ((rd_T31 l0 x7_1).f0)) ∧ w'.cell? ⟨gb293, 1, none⟩ = some (.int .i64 ((rd_T31 l0 x7_1).f1)) ∧ w'.cell? ⟨gb293, 2, none⟩ = some (.int .i64 ((rd_T31 l0 x7_1).f2)) ∧ w'.cell? ⟨gb293, 3, none⟩ = some (.int .i64 ((rd_T31 l0 x7_1).f3)) ∧ w'.cell? ⟨gb293, 4, none⟩ = some (.int .i64 ((rd_T31 l0 x7_1).f4)) ∧ w'.cell? ⟨gb293, 5, none⟩ = some (.int .i64 ((rd_T31 l0 x7_1).f5))) (ds := []) #[false, false, false, false, false, false, false, false, false, false, false, false, false, false, false, false, false, false] (by kernel_rfl) rfl rfl (bc6 BK293.out) (fun hHeld => ?_); refine with_tabW impl_areWarnings.tab4 impl_areWarnings.bits4 (fun HT_ HW_ => ?_)
   generalize w29.drew = w30 at BK293 HB hHeld ⊢
   refine take_ (i := 0) (N := some 12) (v := ?_) (a' := ?_) #[true, false, false, false, false, false, false, false, false, false, false, false, false, false, false, false, false, false] rfl rfl (take_ofW HT_.out HW_.out (by kernel_rfl)) (fun _ _ _ h => h) (Or.inl ⟨by rfl, ?_⟩) hHeld ?_ ?_
   rotate_left
   ·
    rintro w' ⟨s0, s1, s2, s3, s4, s5⟩
    go_simp
    with_reducible rfl
   rotate_left; · exact zqA
   refine one_ (i := 1) (N := some 13) #[true, true, false, false, false, false, false, false, false, false, false, false, false, false, false, false, false, false] rfl rfl (one_of HT_.out (by kernel_rfl)) (by decide) (fun K hK => ?_)
   refine goes_ Tryd.func34 (by kernel_rfl) rfl #[.agg #[.int .i64 ((rd_T31 l0 x7_1).f0), .int .i64 ((rd_T31 l0 x7_1).f1), .int .i64 ((rd_T31 l0 x7_1).f2), .int .i64 ((rd_T31 l0 x7_1).f3), .int .i64 ((rd_T31 l0 x7_1).f4), .int .i64 ((rd_T31 l0 x7_1).f5)]] (by rfl) rfl rfl zq1 ?_
   with_reducible refine (impl_IsValidWarning.calls ((rd_T31 l0 x7_1).f0) ((rd_T31 l0 x7_1).f1) ((rd_T31 l0 x7_1).f2) ((rd_T31 l0 x7_1).f3) ((rd_T31 l0 x7_1).f4) ((rd_T31 l0 x7_1).f5) false _ A5.out).mono ?_
   rintro e w31 ⟨rfl, hb⟩
   refine ⟨_, rfl, ?_⟩
   have n0_ := Aside0.mk (blk_below (g := gb293) (o := .cells #[.int .i64 ((rd_T31 l0 x7_1).f0), .int .i64 ((rd_T31 l0 x7_1).f1), .int .i64 ((rd_T31 l0 x7_1).f2), .int .i64 ((rd_T31 l0 x7_1).f3), .int .i64 ((rd_T31 l0 x7_1).f4), .int .i64 ((rd_T31 l0 x7_1).f5)] 31 (0, 0)) (zqK BK293.out) hb)
   have n1_ := Aside0.mk (below_step zq20 hb)
   clear BK293
   clear HB
   have BK293 := n0_
   have HB := n1_
   clear n0_ n1_
   (try clear hb)
   (try clear hb2)
   (try clear hk)
   (try clear hi)
   refine hK.out _ _ (bc6 BK293.out) (fun hHeld => ?_)
   clear hK K
   refine norm_ (a' := ?_) ?_ ?_
   rotate_left
   ·
    show Act.put _ (some 13) _ = _
    simp only [Act.put, List.setIfInBounds_toArray, List.set_cons_zero, List.set_cons_succ, i64_w, i32_w]
    rfl
   refine pure_ (i := 2) (N := some 14) (v := ?_) (a' := ?_) #[true, true, true, false, false, false, false, false, false, false, false, false, false, false, false, false, false, false] rfl rfl (any_of HT_.out (by kernel_rfl)) (fun _ _ _ h => h) (Or.inl ⟨by rfl, ?_⟩) ?_ ?_
   rotate_left; · exact zqB
   rotate_left; · exact zqA
   refine pure_ (i := 3) (N := some 15) (v := ?_) (a' := ?_) #[true, true, true, true, false, false, false, false, false, false, false, false, false, false, false, false, false, false] rfl rfl (any_of HT_.out (by kernel_rfl)) (fun _ _ _ h => h) (Or.inl ⟨by rfl, ?_⟩) ?_ ?_
   rotate_left; · exact zqB
   rotate_left; · exact zqA
   refine pure_ (i := 4) (N := some 16) (v := undef) (a' := ?_) #[true, true, true, true, true, false, false, false, false, false, false, false, false, false, false, false, false, false] rfl rfl (any_of HT_.out (by kernel_rfl)) (fun _ _ _ h => h) (Or.inr ⟨by rfl, rfl⟩) ?_ ?_
   rotate_left; · exact zqA
   refine pure_ (i := 5) (N := some 17) (v := undef) (a' := ?_) #[true, true, true, true, true, true, false, false, false, false, false, false, false, false, false, false, false, false] rfl rfl (any_of HT_.out (by kernel_rfl)) (fun _ _ _ h => h) (Or.inr ⟨by rfl, rfl⟩) ?_ ?_
   rotate_left; · exact zqA
   refine pure_ (i := 6) (N := some 18) (v := undef) (a' := ?_) #[true, true, true, true, true, true, true, false, false, false, false, false, false, false, false, false, false, false] rfl rfl (any_of HT_.out (by kernel_rfl)) (fun _ _ _ h => h) (Or.inr ⟨by rfl, rfl⟩) ?_ ?_
   rotate_left; · exact zqA
   refine pure_ (i := 7) (N := some 19) (v := undef) (a' := ?_) #[true, true, true, true, true, true, true, true, false, false, false, false, false, false, false, false, false, false] rfl rfl (any_of HT_.out (by kernel_rfl)) (fun _ _ _ h => h) (Or.inr ⟨by rfl, rfl⟩) ?_ ?_
   rotate_left; · exact zqA
   refine pure_ (i := 8) (N := some 20) (v := undef) (a' := ?_) #[true, true, true, true, true, true, true, true, true, false, false, false, false, false, false, false, false, false] rfl rfl (any_of HT_.out (by kernel_rfl)) (fun _ _ _ h => h) (Or.inr ⟨by rfl, rfl⟩) ?_ ?_
   rotate_left; · exact zqA
   refine pure_ (i := 9) (N := some 21) (v := undef) (a' := ?_) #[true, true, true, true, true, true, true, true, true, true, false, false, false, false, false, false, false, false] rfl rfl (any_of HT_.out (by kernel_rfl)) (fun _ _ _ h => h) (Or.inr ⟨by rfl, rfl⟩) ?_ ?_
   rotate_left; · exact zqA
   refine pure_ (i := 10) (N := some 22) (v := undef) (a' := ?_) #[true, true, true, true, true, true, true, true, true, true, true, false, false, false, false, false, false, false] rfl rfl (any_of HT_.out (by kernel_rfl)) (fun _ _ _ h => h) (Or.inr ⟨by rfl, rfl⟩) ?_ ?_
   rotate_left; · exact zqA
   refine pure_ (i := 11) (N := some 23) (v := undef) (a' := ?_) #[true, true, true, true, true, true, true, true, true, true, true, true, false, false, false, false, false, false] rfl rfl (any_of HT_.out (by kernel_rfl)) (fun _ _ _ h => h) (Or.inr ⟨by rfl, rfl⟩) ?_ ?_
   rotate_left; · exact zqA
   refine pure_ (i := 12) (N := some 24) (v := undef) (a' := ?_) #[true, true, true, true, true, true, true, true, true, true, true, true, true, false, false, false, false, false] rfl rfl (any_of HT_.out (by kernel_rfl)) (fun _ _ _ h => h) (Or.inr ⟨by rfl, rfl⟩) ?_ ?_
   rotate_left; · exact zqA
   refine pure_ (i := 13) (N := some 25) (v := undef) (a' := ?_) #[true, true, true, true, true, true, true, true, true, true, true, true, true, true, false, false, false, false] rfl rfl (any_of HT_.out (by kernel_rfl)) (fun _ _ _ h => h) (Or.inr ⟨by rfl, rfl⟩) ?_ ?_
   rotate_left; · exact zqA
   refine pure_ (i := 14) (N := some 26) (v := undef) (a' := ?_) #[true, true, true, true, true, true, true, true, true, true, true, true, true, true, true, false, false, false] rfl rfl (any_of HT_.out (by kernel_rfl)) (fun _ _ _ h => h) (Or.inr ⟨by rfl, rfl⟩) ?_ ?_
   rotate_left; · exact zqA
   refine pure_ (i := 15) (N := some 27) (v := undef) (a' := ?_) #[true, true, true, true, true, true, true, true, true, true, true, true, true, true, true, true, false, false] rfl rfl (any_of HT_.out (by kernel_rfl)) (fun _ _ _ h => h) (Or.inr ⟨by rfl, rfl⟩) ?_ ?_
   rotate_left; · exact zqA
   refine pure_ (i := 16) (N := some 28) (v := undef) (a' := ?_) #[true, true, true, true, true, true, true, true, true, true, true, true, true, true, true, true, true, false] rfl rfl (any_of HT_.out (by kernel_rfl)) (fun _ _ _ h => h) (Or.inr ⟨by rfl, rfl⟩) ?_ ?_
   rotate_left; · exact zqA
   refine pure_ (i := 17) (N := some 29) (v := ?_) (a' := ?_) #[true, true, true, true, true, true, true, true, true, true, true, true, true, true, true, true, true, true] rfl rfl (any_of HT_.out (by kernel_rfl)) (fun _ _ _ h => h) (Or.inl ⟨by rfl, ?_⟩) ?_ ?_
   rotate_left; · exact zqB
   rotate_left; · exact zqA
   refine done_ (done_of HT_.out (by kernel_rfl)) ?_
   try go_wp2
   go_ret
   exact ⟨zqE, zq20⟩
  subst c6
  have H1 : (if x7_1 > 0 then (if 0 ≤ (wrap64 (x7_1 - 1)) then (if (wrap64 (x7_1 - 1)) < (l0.length : Int) then (if ((rd_T31 l0 (wrap64 (x7_1 - 1))).f0) ≥ ((rd_T31 l0 x7_1).f0) then (some false) else (impl_areWarnings.l0 k1 l0 l0 (l0.length : Int) (wrap64 (x7_1 + 1)))) else (none)) else (none)) else (impl_areWarnings.l0 k1 l0 l0 (l0.length : Int) (wrap64 (x7_1 + 1)))) = some r := by rw [if_pos rfl] at H; exact H
  clear H
  have H := H1
  clear H1
  by_cases c7 : x7_1 > 0
  case neg =>
   rw [if_neg c7] at H
   have c7b0 : decide (0 < x7_1) = false := decide_eq_false c7
   clear c7
   have H' := Aside0.mk H
   clear H
   have p292 : 0 ≤ (x7_1 : Int) := of_decide_eq_true zq3
   have q292 : x7_1 < (l0.length : Int) := of_decide_eq_true zq3
   obtain ⟨ad292, e292, hx292_0, hx292_1, hx292_2, hx292_3, hx292_4, hx292_5⟩ := at_T31 HR0.out x7_1 p292 q292
   cases e292
   replace hx292_0 := bx HB.out hx292_0
   replace hx292_1 := bx HB.out hx292_1
   replace hx292_2 := bx HB.out hx292_2
   replace hx292_3 := bx HB.out hx292_3
   replace hx292_4 := bx HB.out hx292_4
   replace hx292_5 := bx HB.out hx292_5
   replace p292 := eq_true p292
   replace q292 := eq_true q292
   try go_wp2_with (first | ((with_reducible refine gate_dst (N := 4) rfl ?_); refine box_event ?hg (N := 4) ?hd (cs := #[.int .i64 0, .int .i64 0, .int .i64 0, .int .i64 0, .int .i64 0, .int .i64 0]) (t := 31) ?hr ?_; (case hd => rfl); (case hg => rfl); (case hr => exact zqS); intro gb293 hg w22 hbox hb; have BK293 := Aside0.mk (hbox); have GW293 := Aside0.mk ((by rw [hg]; exact (below_size zq0) : w.heap.size ≤ gb293)); replace HB := Aside0.mk (below_step zq0 hb); have GE293 := GW293; clear hb hbox hg; obtain ⟨hcz23_0, hcz23_1, hcz23_2, hcz23_3, hcz23_4, hcz23_5, hfz23_0, hfz23_1, hfz23_2, hfz23_3, hfz23_4, hfz23_5⟩ := bz6 BK293.out))
   have n0_ : Aside0 (((((((w22.setCell ⟨gb293, 0, none⟩ (.int .i64 ((rd_T31 l0 x7_1).f0))).setCell ⟨gb293, 1, none⟩ (.int .i64 ((rd_T31 l0 x7_1).f1))).setCell ⟨gb293, 2, none⟩ (.int .i64 ((rd_T31 l0 x7_1).f2))).setCell ⟨gb293, 3, none⟩ (.int .i64 ((rd_T31 l0 x7_1).f3))).setCell ⟨gb293, 4, none⟩ (.int .i64 ((rd_T31 l0 x7_1).f4))).setCell ⟨gb293, 5, none⟩ (.int .i64 ((rd_T31 l0 x7_1).f5))).heap[gb293]? = some (.cells #[.int .i64 ((rd_T31 l0 x7_1).f0), .int .i64 ((rd_T31 l0 x7_1).f1), .int .i64 ((rd_T31 l0 x7_1).f2), .int .i64 ((rd_T31 l0 x7_1).f3), .int .i64 ((rd_T31 l0 x7_1).f4), .int .i64 ((rd_T31 l0 x7_1).f5)] 31 (0, 0))) := ⟨by (with_reducible repeat (first | refine blk_drewN ?_ _ | refine blk_drew ?_ | refine blk_alloc ?_ _)); refine blk_put (cs := #[.int .i64 ((rd_T31 l0 x7_1).f0), .int .i64 ((rd_T31 l0 x7_1).f1), .int .i64 ((rd_T31 l0 x7_1).f2), .int .i64 ((rd_T31 l0 x7_1).f3), .int .i64 ((rd_T31 l0 x7_1).f4), .int .i64 0]) ?_ 5 _ rfl; (with_reducible repeat (first | refine blk_drewN ?_ _ | refine blk_drew ?_ | refine blk_alloc ?_ _)); refine blk_put (cs := #[.int .i64 ((rd_T31 l0 x7_1).f0), .int .i64 ((rd_T31 l0 x7_1).f1), .int .i64 ((rd_T31 l0 x7_1).f2), .int .i64 ((rd_T31 l0 x7_1).f3), .int .i64 0, .int .i64 0]) ?_ 4 _ rfl; (with_reducible repeat (first | refine blk_drewN ?_ _ | refine blk_drew ?_ | refine blk_alloc ?_ _)); refine blk_put (cs := #[.int .i64 ((rd_T31 l0 x7_1).f0), .int .i64 ((rd_T31 l0 x7_1).f1), .int .i64 ((rd_T31 l0 x7_1).f2), .int .i64 0, .int .i64 0, .int .i64 0]) ?_ 3 _ rfl; (with_reducible repeat (first | refine blk_drewN ?_ _ | refine blk_drew ?_ | refine blk_alloc ?_ _)); refine blk_put (cs := #[.int .i64 ((rd_T31 l0 x7_1).f0), .int .i64 ((rd_T31 l0 x7_1).f1), .int .i64 0, .int .i64 0, .int .i64 0, .int .i64 0]) ?_ 2 _ rfl; (with_reducible repeat (first | refine blk_drewN ?_ _ | refine blk_drew ?_ | refine blk_alloc ?_ _)); refine blk_put (cs := #[.int .i64 ((rd_T31 l0 x7_1).f0), .int .i64 0, .int .i64 0, .int .i64 0, .int .i64 0, .int .i64 0]) ?_ 1 _ rfl; (with_reducible repeat (first | refine blk_drewN ?_ _ | refine blk_drew ?_ | refine blk_alloc ?_ _)); refine blk_put (cs := #[.int .i64 0, .int .i64 0, .int .i64 0, .int .i64 0, .int .i64 0, .int .i64 0]) ?_ 0 _ rfl; (with_reducible repeat (first | refine blk_drewN ?_ _ | refine blk_drew ?_ | refine blk_alloc ?_ _)); exact BK293.out⟩
   have n1_ : Aside0 (Below w.heap.size w ((((((w22.setCell ⟨gb293, 0, none⟩ (.int .i64 ((rd_T31 l0 x7_1).f0))).setCell ⟨gb293, 1, none⟩ (.int .i64 ((rd_T31 l0 x7_1).f1))).setCell ⟨gb293, 2, none⟩ (.int .i64 ((rd_T31 l0 x7_1).f2))).setCell ⟨gb293, 3, none⟩ (.int .i64 ((rd_T31 l0 x7_1).f3))).setCell ⟨gb293, 4, none⟩ (.int .i64 ((rd_T31 l0 x7_1).f4))).setCell ⟨gb293, 5, none⟩ (.int .i64 ((rd_T31 l0 x7_1).f5)))) := ⟨zq20⟩
   (try clear BK293)
   (try clear HB)
   generalize ((((((w22.setCell ⟨gb293, 0, none⟩ (.int .i64 ((rd_T31 l0 x7_1).f0))).setCell ⟨gb293, 1, none⟩ (.int .i64 ((rd_T31 l0 x7_1).f1))).setCell ⟨gb293, 2, none⟩ (.int .i64 ((rd_T31 l0 x7_1).f2))).setCell ⟨gb293, 3, none⟩ (.int .i64 ((rd_T31 l0 x7_1).f3))).setCell ⟨gb293, 4, none⟩ (.int .i64 ((rd_T31 l0 x7_1).f4))).setCell ⟨gb293, 5, none⟩ (.int .i64 ((rd_T31 l0 x7_1).f5))) = w24 at n0_ n1_ ⊢
   have BK293 := n0_
   have HB := n1_
   clear n0_ n1_
   have n0_ := Aside0.mk (blk_drew BK293.out)
   have n1_ := Aside0.mk (below_drew1 HB.out)
   clear BK293
   clear HB
   have BK293 := n0_
   have HB := n1_
   clear n0_ n1_
   refine start_ (n := 18) (S := fun w' => w'.cell? ⟨gb293, 0, none⟩ = some (.int .i64 ((rd_T31 l0 x7_1).f0)) ∧ w'.cell? ⟨gb293, 1, none⟩ = some (.int .i64 ((rd_T31 l0 x7_1).f1)) ∧ w'.cell? ⟨gb293, 2, none⟩ = some (.int .i64 ((rd_T31 l0 x7_1).f2)) ∧ w'.cell? ⟨gb293, 3, none⟩ = some (.int .i64 ((rd_T31 l0 x7_1).f3)) ∧ w'.cell? ⟨gb293, 4, none⟩ = some (.int .i64 ((rd_T31 l0 x7_1).f4)) ∧ w'.cell? ⟨gb293, 5, none⟩ = some (.int .i64 ((rd_T31 l0 x7_1).f5))) (ds := []) #[false, false, false, false, false, false, false, false, false, false, false, false, false, false, false, false, false, false] (by kernel_rfl) rfl rfl (bc6 BK293.out) (fun hHeld => ?_); refine with_tabW impl_areWarnings.tab4 impl_areWarnings.bits4 (fun HT_ HW_ => ?_)
   generalize w24.drew = w25 at BK293 HB hHeld ⊢
   refine take_ (i := 0) (N := some 12) (v := ?_) (a' := ?_) #[true, false, false, false, false, false, false, false, false, false, false, false, false, false, false, false, false, false] rfl rfl (take_ofW HT_.out HW_.out (by kernel_rfl)) (fun _ _ _ h => h) (Or.inl ⟨by rfl, ?_⟩) hHeld ?_ ?_
   rotate_left
   ·
    rintro w' ⟨s0, s1, s2, s3, s4, s5⟩
    go_simp
    with_reducible rfl
   rotate_left; · exact zqA
   refine one_ (i := 1) (N := some 13) #[true, true, false, false, false, false, false, false, false, false, false, false, false, false, false, false, false, false] rfl rfl (one_of HT_.out (by kernel_rfl)) (by decide) (fun K hK => ?_)
   refine goes_ Tryd.func34 (by kernel_rfl) rfl #[.agg #[.int .i64 ((rd_T31 l0 x7_1).f0), .int .i64 ((rd_T31 l0 x7_1).f1), .int .i64 ((rd_T31 l0 x7_1).f2), .int .i64 ((rd_T31 l0 x7_1).f3), .int .i64 ((rd_T31 l0 x7_1).f4), .int .i64 ((rd_T31 l0 x7_1).f5)]] (by rfl) rfl rfl zq1 ?_
   with_reducible refine (impl_IsValidWarning.calls ((rd_T31 l0 x7_1).f0) ((rd_T31 l0 x7_1).f1) ((rd_T31 l0 x7_1).f2) ((rd_T31 l0 x7_1).f3) ((rd_T31 l0 x7_1).f4) ((rd_T31 l0 x7_1).f5) true _ A5.out).mono ?_
   rintro e w26 ⟨rfl, hb⟩
   refine ⟨_, rfl, ?_⟩
   have n0_ := Aside0.mk (blk_below (g := gb293) (o := .cells #[.int .i64 ((rd_T31 l0 x7_1).f0), .int .i64 ((rd_T31 l0 x7_1).f1), .int .i64 ((rd_T31 l0 x7_1).f2), .int .i64 ((rd_T31 l0 x7_1).f3), .int .i64 ((rd_T31 l0 x7_1).f4), .int .i64 ((rd_T31 l0 x7_1).f5)] 31 (0, 0)) (zqK BK293.out) hb)
   have n1_ := Aside0.mk (below_step zq20 hb)
   clear BK293
   clear HB
   have BK293 := n0_
   have HB := n1_
   clear n0_ n1_
   (try clear hb)
   (try clear hb2)
   (try clear hk)
   (try clear hi)
   refine hK.out _ _ (bc6 BK293.out) (fun hHeld => ?_)
   clear hK K
   refine norm_ (a' := ?_) ?_ ?_
   rotate_left
   ·
    show Act.put _ (some 13) _ = _
    simp only [Act.put, List.setIfInBounds_toArray, List.set_cons_zero, List.set_cons_succ, i64_w, i32_w]
    rfl
   refine pure_ (i := 2) (N := some 14) (v := ?_) (a' := ?_) #[true, true, true, false, false, false, false, false, false, false, false, false, false, false, false, false, false, false] rfl rfl (any_of HT_.out (by kernel_rfl)) (fun _ _ _ h => h) (Or.inl ⟨by rfl, ?_⟩) ?_ ?_
   rotate_left; · exact zqB
   rotate_left; · exact zqA
   refine pure_ (i := 3) (N := some 15) (v := ?_) (a' := ?_) #[true, true, true, true, false, false, false, false, false, false, false, false, false, false, false, false, false, false] rfl rfl (any_of HT_.out (by kernel_rfl)) (fun _ _ _ h => h) (Or.inl ⟨by rfl, ?_⟩) ?_ ?_
   rotate_left; · exact zqB
   rotate_left; · exact zqA
   refine pure_ (i := 4) (N := some 16) (v := ?_) (a' := ?_) #[true, true, true, true, true, false, false, false, false, false, false, false, false, false, false, false, false, false] rfl rfl (any_of HT_.out (by kernel_rfl)) (fun _ _ _ h => h) (Or.inl ⟨by rfl, ?_⟩) ?_ ?_
   rotate_left; · exact zqB
   rotate_left; · exact zqA
   refine pure_ (i := 5) (N := some 17) (v := ?_) (a' := ?_) #[true, true, true, true, true, true, false, false, false, false, false, false, false, false, false, false, false, false] rfl rfl (any_of HT_.out (by kernel_rfl)) (fun _ _ _ h => h) (Or.inl ⟨by rfl, ?_⟩) ?_ ?_
   rotate_left; · exact zqB
   rotate_left; · exact zqA
   refine pure_ (i := 6) (N := some 18) (v := ?_) (a' := ?_) #[true, true, true, true, true, true, true, false, false, false, false, false, false, false, false, false, false, false] rfl rfl (any_of HT_.out (by kernel_rfl)) (fun _ _ _ h => h) (Or.inl ⟨by rfl, ?_⟩) ?_ ?_
   rotate_left; · exact zqB
   rotate_left; · exact zqA
   refine pure_ (i := 7) (N := some 19) (v := undef) (a' := ?_) #[true, true, true, true, true, true, true, true, false, false, false, false, false, false, false, false, false, false] rfl rfl (any_of HT_.out (by kernel_rfl)) (fun _ _ _ h => h) (Or.inr ⟨by rfl, rfl⟩) ?_ ?_
   rotate_left; · exact zqA
   refine pure_ (i := 8) (N := some 20) (v := undef) (a' := ?_) #[true, true, true, true, true, true, true, true, true, false, false, false, false, false, false, false, false, false] rfl rfl (any_of HT_.out (by kernel_rfl)) (fun _ _ _ h => h) (Or.inr ⟨by rfl, rfl⟩) ?_ ?_
   rotate_left; · exact zqA
   refine pure_ (i := 9) (N := some 21) (v := undef) (a' := ?_) #[true, true, true, true, true, true, true, true, true, true, false, false, false, false, false, false, false, false] rfl rfl (any_of HT_.out (by kernel_rfl)) (fun _ _ _ h => h) (Or.inr ⟨by rfl, rfl⟩) ?_ ?_
   rotate_left; · exact zqA
   refine pure_ (i := 10) (N := some 22) (v := undef) (a' := ?_) #[true, true, true, true, true, true, true, true, true, true, true, false, false, false, false, false, false, false] rfl rfl (any_of HT_.out (by kernel_rfl)) (fun _ _ _ h => h) (Or.inr ⟨by rfl, rfl⟩) ?_ ?_
   rotate_left; · exact zqA
   refine pure_ (i := 11) (N := some 23) (v := undef) (a' := ?_) #[true, true, true, true, true, true, true, true, true, true, true, true, false, false, false, false, false, false] rfl rfl (any_of HT_.out (by kernel_rfl)) (fun _ _ _ h => h) (Or.inr ⟨by rfl, rfl⟩) ?_ ?_
   rotate_left; · exact zqA
   refine pure_ (i := 12) (N := some 24) (v := undef) (a' := ?_) #[true, true, true, true, true, true, true, true, true, true, true, true, true, false, false, false, false, false] rfl rfl (any_of HT_.out (by kernel_rfl)) (fun _ _ _ h => h) (Or.inr ⟨by rfl, rfl⟩) ?_ ?_
   rotate_left; · exact zqA
   refine pure_ (i := 13) (N := some 25) (v := undef) (a' := ?_) #[true, true, true, true, true, true, true, true, true, true, true, true, true, true, false, false, false, false] rfl rfl (any_of HT_.out (by kernel_rfl)) (fun _ _ _ h => h) (Or.inr ⟨by rfl, rfl⟩) ?_ ?_
   rotate_left; · exact zqA
   refine pure_ (i := 14) (N := some 26) (v := undef) (a' := ?_) #[true, true, true, true, true, true, true, true, true, true, true, true, true, true, true, false, false, false] rfl rfl (any_of HT_.out (by kernel_rfl)) (fun _ _ _ h => h) (Or.inr ⟨by rfl, rfl⟩) ?_ ?_
   rotate_left; · exact zqA
   refine pure_ (i := 15) (N := some 27) (v := undef) (a' := ?_) #[true, true, true, true, true, true, true, true, true, true, true, true, true, true, true, true, false, false] rfl rfl (any_of HT_.out (by kernel_rfl)) (fun _ _ _ h => h) (Or.inr ⟨by rfl, rfl⟩) ?_ ?_
   rotate_left; · exact zqA
   refine pure_ (i := 16) (N := some 28) (v := ?_) (a' := ?_) #[true, true, true, true, true, true, true, true, true, true, true, true, true, true, true, true, true, false] rfl rfl (any_of HT_.out (by kernel_rfl)) (fun _ _ _ h => h) (Or.inl ⟨by rfl, ?_⟩) ?_ ?_
   rotate_left; · exact zqB
   rotate_left; · exact zqA
   refine pure_ (i := 17) (N := some 29) (v := ?_) (a' := ?_) #[true, true, true, true, true, true, true, true, true, true, true, true, true, true, true, true, true, true] rfl rfl (any_of HT_.out (by kernel_rfl)) (fun _ _ _ h => h) (Or.inl ⟨by rfl, ?_⟩) ?_ ?_
   rotate_left; · exact zqB
   rotate_left; · exact zqA
   refine done_ (done_of HT_.out (by kernel_rfl)) ?_
   try go_wp2
   go_roundg k1
   case measure => have := HK1.out; omega
   case rel => exact ⟨(wrap64 (x7_1 + 1)), (by first | rfl | (simp; done) | (simp [*]; done)), H', ⟨by have := HK1.out; omega⟩, ⟨zq20⟩⟩
  rw [if_pos c7] at H
  have c7b0 : decide (0 < x7_1) = true := decide_eq_true c7
  clear c7
  obtain ⟨ji8, hji8⟩ : ∃ j_ : Int, (wrap64 (x7_1 - 1)) = j_ := ⟨_, rfl⟩
  replace H : (if 0 ≤ (ji8) then (if (ji8) < (l0.length : Int) then (if ((rd_T31 l0 (ji8)).f0) ≥ ((rd_T31 l0 x7_1).f0) then (some false) else (impl_areWarnings.l0 k1 l0 l0 (l0.length : Int) (wrap64 (x7_1 + 1)))) else (none)) else (none)) = some r := by first | (rw [hji8] at H; exact H) | (simp only [hji8] at H ⊢; exact H)
  (try rw [hji8] at A5)
  have hji8w : (IntKind.i64.wrap (x7_1 - 1)) = ji8 := (i64_w _).trans hji8
  by_cases c9 : 0 ≤ (ji8)
  case neg =>
   rw [if_neg c9] at H
   exact absurd H (by simp)
  rw [if_pos c9] at H
  have c9b0 : decide (0 ≤ (ji8)) = true := decide_eq_true c9
  clear c9
  by_cases c10 : (ji8) < (l0.length : Int)
  case neg =>
   rw [if_neg c10] at H
   exact absurd H (by simp)
  rw [if_pos c10] at H
  have c10b0 : decide ((ji8) < (l0.length : Int)) = true := decide_eq_true c10
  clear c10
  by_cases c11 : ((rd_T31 l0 (ji8)).f0) ≥ ((rd_T31 l0 x7_1).f0)
  case pos =>
   rw [if_pos c11] at H
   have c11b0 : decide (((rd_T31 l0 x7_1).f0) ≤ ((rd_T31 l0 (ji8)).f0)) = true := decide_eq_true c11
   clear c11
   obtain rfl := Option.some.inj H
   have p292 : 0 ≤ (x7_1 : Int) := of_decide_eq_true zq3
   have q292 : x7_1 < (l0.length : Int) := of_decide_eq_true zq3
   obtain ⟨ad292, e292, hx292_0, hx292_1, hx292_2, hx292_3, hx292_4, hx292_5⟩ := at_T31 HR0.out x7_1 p292 q292
   cases e292
   replace hx292_0 := bx HB.out hx292_0
   replace hx292_1 := bx HB.out hx292_1
   replace hx292_2 := bx HB.out hx292_2
   replace hx292_3 := bx HB.out hx292_3
   replace hx292_4 := bx HB.out hx292_4
   replace hx292_5 := bx HB.out hx292_5
   replace p292 := eq_true p292
   replace q292 := eq_true q292
   try go_wp2_with (first | ((with_reducible refine gate_dst (N := 4) rfl ?_); refine box_event ?hg (N := 4) ?hd (cs := #[.int .i64 0, .int .i64 0, .int .i64 0, .int .i64 0, .int .i64 0, .int .i64 0]) (t := 31) ?hr ?_; (case hd => rfl); (case hg => rfl); (case hr => exact zqS); intro gb293 hg w12 hbox hb; have BK293 := Aside0.mk (hbox); have GW293 := Aside0.mk ((by rw [hg]; exact (below_size zq0) : w.heap.size ≤ gb293)); replace HB := Aside0.mk (below_step zq0 hb); have GE293 := GW293; clear hb hbox hg; obtain ⟨hcz13_0, hcz13_1, hcz13_2, hcz13_3, hcz13_4, hcz13_5, hfz13_0, hfz13_1, hfz13_2, hfz13_3, hfz13_4, hfz13_5⟩ := bz6 BK293.out))
   have n0_ : Aside0 (((((((w12.setCell ⟨gb293, 0, none⟩ (.int .i64 ((rd_T31 l0 x7_1).f0))).setCell ⟨gb293, 1, none⟩ (.int .i64 ((rd_T31 l0 x7_1).f1))).setCell ⟨gb293, 2, none⟩ (.int .i64 ((rd_T31 l0 x7_1).f2))).setCell ⟨gb293, 3, none⟩ (.int .i64 ((rd_T31 l0 x7_1).f3))).setCell ⟨gb293, 4, none⟩ (.int .i64 ((rd_T31 l0 x7_1).f4))).setCell ⟨gb293, 5, none⟩ (.int .i64 ((rd_T31 l0 x7_1).f5))).heap[gb293]? = some (.cells #[.int .i64 ((rd_T31 l0 x7_1).f0), .int .i64 ((rd_T31 l0 x7_1).f1), .int .i64 ((rd_T31 l0 x7_1).f2), .int .i64 ((rd_T31 l0 x7_1).f3), .int .i64 ((rd_T31 l0 x7_1).f4), .int .i64 ((rd_T31 l0 x7_1).f5)] 31 (0, 0))) := ⟨by (with_reducible repeat (first | refine blk_drewN ?_ _ | refine blk_drew ?_ | refine blk_alloc ?_ _)); refine blk_put (cs := #[.int .i64 ((rd_T31 l0 x7_1).f0), .int .i64 ((rd_T31 l0 x7_1).f1), .int .i64 ((rd_T31 l0 x7_1).f2), .int .i64 ((rd_T31 l0 x7_1).f3), .int .i64 ((rd_T31 l0 x7_1).f4), .int .i64 0]) ?_ 5 _ rfl; (with_reducible repeat (first | refine blk_drewN ?_ _ | refine blk_drew ?_ | refine blk_alloc ?_ _)); refine blk_put (cs := #[.int .i64 ((rd_T31 l0 x7_1).f0), .int .i64 ((rd_T31 l0 x7_1).f1), .int .i64 ((rd_T31 l0 x7_1).f2), .int .i64 ((rd_T31 l0 x7_1).f3), .int .i64 0, .int .i64 0]) ?_ 4 _ rfl; (with_reducible repeat (first | refine blk_drewN ?_ _ | refine blk_drew ?_ | refine blk_alloc ?_ _)); refine blk_put (cs := #[.int .i64 ((rd_T31 l0 x7_1).f0), .int .i64 ((rd_T31 l0 x7_1).f1), .int .i64 ((rd_T31 l0 x7_1).f2), .int .i64 0, .int .i64 0, .int .i64 0]) ?_ 3 _ rfl; (with_reducible repeat (first | refine blk_drewN ?_ _ | refine blk_drew ?_ | refine blk_alloc ?_ _)); refine blk_put (cs := #[.int .i64 ((rd_T31 l0 x7_1).f0), .int .i64 ((rd_T31 l0 x7_1).f1), .int .i64 0, .int .i64 0, .int .i64 0, .int .i64 0]) ?_ 2 _ rfl; (with_reducible repeat (first | refine blk_drewN ?_ _ | refine blk_drew ?_ | refine blk_alloc ?_ _)); refine blk_put (cs := #[.int .i64 ((rd_T31 l0 x7_1).f0), .int .i64 0, .int .i64 0, .int .i64 0, .int .i64 0, .int .i64 0]) ?_ 1 _ rfl; (with_reducible repeat (first | refine blk_drewN ?_ _ | refine blk_drew ?_ | refine blk_alloc ?_ _)); refine blk_put (cs := #[.int .i64 0, .int .i64 0, .int .i64 0, .int .i64 0, .int .i64 0, .int .i64 0]) ?_ 0 _ rfl; (with_reducible repeat (first | refine blk_drewN ?_ _ | refine blk_drew ?_ | refine blk_alloc ?_ _)); exact BK293.out⟩
   have n1_ : Aside0 (Below w.heap.size w ((((((w12.setCell ⟨gb293, 0, none⟩ (.int .i64 ((rd_T31 l0 x7_1).f0))).setCell ⟨gb293, 1, none⟩ (.int .i64 ((rd_T31 l0 x7_1).f1))).setCell ⟨gb293, 2, none⟩ (.int .i64 ((rd_T31 l0 x7_1).f2))).setCell ⟨gb293, 3, none⟩ (.int .i64 ((rd_T31 l0 x7_1).f3))).setCell ⟨gb293, 4, none⟩ (.int .i64 ((rd_T31 l0 x7_1).f4))).setCell ⟨gb293, 5, none⟩ (.int .i64 ((rd_T31 l0 x7_1).f5)))) := ⟨zq20⟩
   (try clear BK293)
   (try clear HB)
   generalize ((((((w12.setCell ⟨gb293, 0, none⟩ (.int .i64 ((rd_T31 l0 x7_1).f0))).setCell ⟨gb293, 1, none⟩ (.int .i64 ((rd_T31 l0 x7_1).f1))).setCell ⟨gb293, 2, none⟩ (.int .i64 ((rd_T31 l0 x7_1).f2))).setCell ⟨gb293, 3, none⟩ (.int .i64 ((rd_T31 l0 x7_1).f3))).setCell ⟨gb293, 4, none⟩ (.int .i64 ((rd_T31 l0 x7_1).f4))).setCell ⟨gb293, 5, none⟩ (.int .i64 ((rd_T31 l0 x7_1).f5))) = w14 at n0_ n1_ ⊢
   have BK293 := n0_
   have HB := n1_
   clear n0_ n1_
   have n0_ := Aside0.mk (blk_drew BK293.out)
   have n1_ := Aside0.mk (below_drew1 HB.out)
   clear BK293
   clear HB
   have BK293 := n0_
   have HB := n1_
   clear n0_ n1_
   have p295 : 0 ≤ ((ji8) : Int) := of_decide_eq_true zq3
   have q295 : (ji8) < (l0.length : Int) := of_decide_eq_true zq3
   obtain ⟨ad295, e295, hx295_0, hx295_1, hx295_2, hx295_3, hx295_4, hx295_5⟩ := at_T31 HR0.out (ji8) p295 q295
   have hw295_5 := hx295_5
   have hw295_4 := hx295_4
   have hw295_3 := hx295_3
   have hw295_2 := hx295_2
   have hw295_1 := hx295_1
   have hw295_0 := hx295_0
   obtain rfl : ad292 = ad295 := (by injection e295)
   replace hx295_0 := bx HB.out hx295_0
   replace hx295_1 := bx HB.out hx295_1
   replace hx295_2 := bx HB.out hx295_2
   replace hx295_3 := bx HB.out hx295_3
   replace hx295_4 := bx HB.out hx295_4
   replace hx295_5 := bx HB.out hx295_5
   replace p295 := eq_true p295
   replace q295 := eq_true q295
   refine start_ (n := 18) (S := fun w' => w'.cell? ⟨gb293, 0, none⟩ = some (.int .i64 ((rd_T31 l0 x7_1).f0)) ∧ w'.cell? ⟨gb293, 1, none⟩ = some (.int .i64 ((rd_T31 l0 x7_1).f1)) ∧ w'.cell? ⟨gb293, 2, none⟩ = some (.int .i64 ((rd_T31 l0 x7_1).f2)) ∧ w'.cell? ⟨gb293, 3, none⟩ = some (.int .i64 ((rd_T31 l0 x7_1).f3)) ∧ w'.cell? ⟨gb293, 4, none⟩ = some (.int .i64 ((rd_T31 l0 x7_1).f4)) ∧ w'.cell? ⟨gb293, 5, none⟩ = some (.int .i64 ((rd_T31 l0 x7_1).f5)) ∧ w'.cell? (ad292.add (((ji8)).toNat * 6)) = some (.int .i64 ((rd_T31 l0 (ji8)).f0)) ∧ w'.cell? ⟨(ad292.add (((ji8)).toNat * 6)).block, (ad292.add (((ji8)).toNat * 6)).off + 1, none⟩ = some (.int .i64 ((rd_T31 l0 (ji8)).f1)) ∧ w'.cell? ⟨(ad292.add (((ji8)).toNat * 6)).block, (ad292.add (((ji8)).toNat * 6)).off + 2, none⟩ = some (.int .i64 ((rd_T31 l0 (ji8)).f2)) ∧ w'.cell? ⟨(ad292.add (((ji8)).toNat * 6)).block, (ad292.add (((ji8)).toNat * 6)).off + 3, none⟩ = some (.int .i64 ((rd_T31 l0 (ji8)).f3)) ∧ w'.cell? ⟨(ad292.add (((ji8)).toNat * 6)).block, (ad292.add (((ji8)).toNat * 6)).off + 4, none⟩ = some (.int .i64 ((rd_T31 l0 (ji8)).f4)) ∧ w'.cell? ⟨(ad292.add (((ji8)).toNat * 6)).block, (ad292.add (((ji8)).toNat * 6)).off + 5, none⟩ = some (.int .i64 ((rd_T31 l0 (ji8)).f5))) (ds := []) #[false, false, false, false, false, false, false, false, false, false, false, false, false, false, false, false, false, false] (by kernel_rfl) rfl rfl ⟨(blk_cell BK293.out 0).trans rfl, (blk_cell BK293.out 1).trans rfl, (blk_cell BK293.out 2).trans rfl, (blk_cell BK293.out 3).trans rfl, (blk_cell BK293.out 4).trans rfl, (blk_cell BK293.out 5).trans rfl, ((HB.out.cell (World.block_lt_of_cell? w _ hw295_0)).trans hw295_0), ((HB.out.cell (World.block_lt_of_cell? w _ hw295_1)).trans hw295_1), ((HB.out.cell (World.block_lt_of_cell? w _ hw295_2)).trans hw295_2), ((HB.out.cell (World.block_lt_of_cell? w _ hw295_3)).trans hw295_3), ((HB.out.cell (World.block_lt_of_cell? w _ hw295_4)).trans hw295_4), ((HB.out.cell (World.block_lt_of_cell? w _ hw295_5)).trans hw295_5)⟩ (fun hHeld => ?_); refine with_tabW impl_areWarnings.tab4 impl_areWarnings.bits4 (fun HT_ HW_ => ?_)
   generalize w14.drew = w15 at BK293 HB hx295_0 hx295_1 hx295_2 hx295_3 hx295_4 hx295_5 hHeld ⊢
   refine take_ (i := 0) (N := some 12) (v := ?_) (a' := ?_) #[true, false, false, false, false, false, false, false, false, false, false, false, false, false, false, false, false, false] rfl rfl (take_ofW HT_.out HW_.out (by kernel_rfl)) (fun _ _ _ h => h) (Or.inl ⟨by rfl, ?_⟩) hHeld ?_ ?_
   rotate_left
   ·
    rintro w' ⟨s0, s1, s2, s3, s4, s5, s6, s7, s8, s9, s10, s11⟩
    go_simp
    with_reducible rfl
   rotate_left; · exact zqA
   refine one_ (i := 1) (N := some 13) #[true, true, false, false, false, false, false, false, false, false, false, false, false, false, false, false, false, false] rfl rfl (one_of HT_.out (by kernel_rfl)) (by decide) (fun K hK => ?_)
   refine goes_ Tryd.func34 (by kernel_rfl) rfl #[.agg #[.int .i64 ((rd_T31 l0 x7_1).f0), .int .i64 ((rd_T31 l0 x7_1).f1), .int .i64 ((rd_T31 l0 x7_1).f2), .int .i64 ((rd_T31 l0 x7_1).f3), .int .i64 ((rd_T31 l0 x7_1).f4), .int .i64 ((rd_T31 l0 x7_1).f5)]] (by rfl) rfl rfl zq1 ?_
   with_reducible refine (impl_IsValidWarning.calls ((rd_T31 l0 x7_1).f0) ((rd_T31 l0 x7_1).f1) ((rd_T31 l0 x7_1).f2) ((rd_T31 l0 x7_1).f3) ((rd_T31 l0 x7_1).f4) ((rd_T31 l0 x7_1).f5) true _ A5.out).mono ?_
   rintro e w16 ⟨rfl, hb⟩
   refine ⟨_, rfl, ?_⟩
   have n0_ := Aside0.mk (blk_below (g := gb293) (o := .cells #[.int .i64 ((rd_T31 l0 x7_1).f0), .int .i64 ((rd_T31 l0 x7_1).f1), .int .i64 ((rd_T31 l0 x7_1).f2), .int .i64 ((rd_T31 l0 x7_1).f3), .int .i64 ((rd_T31 l0 x7_1).f4), .int .i64 ((rd_T31 l0 x7_1).f5)] 31 (0, 0)) (zqK BK293.out) hb)
   have n1_ := Aside0.mk (below_step zq20 hb)
   clear BK293
   clear HB
   have BK293 := n0_
   have HB := n1_
   clear n0_ n1_
   (try clear hb)
   (try clear hb2)
   (try clear hk)
   (try clear hi)
   refine hK.out _ _ ⟨(blk_cell BK293.out 0).trans rfl, (blk_cell BK293.out 1).trans rfl, (blk_cell BK293.out 2).trans rfl, (blk_cell BK293.out 3).trans rfl, (blk_cell BK293.out 4).trans rfl, (blk_cell BK293.out 5).trans rfl, ((HB.out.cell (World.block_lt_of_cell? w _ hw295_0)).trans hw295_0), ((HB.out.cell (World.block_lt_of_cell? w _ hw295_1)).trans hw295_1), ((HB.out.cell (World.block_lt_of_cell? w _ hw295_2)).trans hw295_2), ((HB.out.cell (World.block_lt_of_cell? w _ hw295_3)).trans hw295_3), ((HB.out.cell (World.block_lt_of_cell? w _ hw295_4)).trans hw295_4), ((HB.out.cell (World.block_lt_of_cell? w _ hw295_5)).trans hw295_5)⟩ (fun hHeld => ?_)
   clear hK K
   refine norm_ (a' := ?_) ?_ ?_
   rotate_left
   ·
    show Act.put _ (some 13) _ = _
    simp only [Act.put, List.setIfInBounds_toArray, List.set_cons_zero, List.set_cons_succ, i64_w, i32_w]
    rfl
   refine pure_ (i := 2) (N := some 14) (v := ?_) (a' := ?_) #[true, true, true, false, false, false, false, false, false, false, false, false, false, false, false, false, false, false] rfl rfl (any_of HT_.out (by kernel_rfl)) (fun _ _ _ h => h) (Or.inl ⟨by rfl, ?_⟩) ?_ ?_
   rotate_left; · exact zqB
   rotate_left; · exact zqA
   refine pure_ (i := 3) (N := some 15) (v := ?_) (a' := ?_) #[true, true, true, true, false, false, false, false, false, false, false, false, false, false, false, false, false, false] rfl rfl (any_of HT_.out (by kernel_rfl)) (fun _ _ _ h => h) (Or.inl ⟨by rfl, ?_⟩) ?_ ?_
   rotate_left; · exact zqB
   rotate_left; · exact zqA
   refine pure_ (i := 4) (N := some 16) (v := ?_) (a' := ?_) #[true, true, true, true, true, false, false, false, false, false, false, false, false, false, false, false, false, false] rfl rfl (any_of HT_.out (by kernel_rfl)) (fun _ _ _ h => h) (Or.inl ⟨by rfl, ?_⟩) ?_ ?_
   rotate_left; · exact zqB
   rotate_left; · exact zqA
   refine pure_ (i := 5) (N := some 17) (v := ?_) (a' := ?_) #[true, true, true, true, true, true, false, false, false, false, false, false, false, false, false, false, false, false] rfl rfl (any_of HT_.out (by kernel_rfl)) (fun _ _ _ h => h) (Or.inl ⟨by rfl, ?_⟩) ?_ ?_
   rotate_left; · exact zqB
   rotate_left; · exact zqA
   refine pure_ (i := 6) (N := some 18) (v := ?_) (a' := ?_) #[true, true, true, true, true, true, true, false, false, false, false, false, false, false, false, false, false, false] rfl rfl (any_of HT_.out (by kernel_rfl)) (fun _ _ _ h => h) (Or.inl ⟨by rfl, ?_⟩) ?_ ?_
   rotate_left; · exact zqB
   rotate_left; · exact zqA
   refine pure_ (i := 7) (N := some 19) (v := ?_) (a' := ?_) #[true, true, true, true, true, true, true, true, false, false, false, false, false, false, false, false, false, false] rfl rfl (any_of HT_.out (by kernel_rfl)) (fun _ _ _ h => h) (Or.inl ⟨by rfl, ?_⟩) ?_ ?_
   rotate_left; · exact zqB
   rotate_left; · exact zqA
   refine pure_ (i := 8) (N := some 20) (v := ?_) (a' := ?_) #[true, true, true, true, true, true, true, true, true, false, false, false, false, false, false, false, false, false] rfl rfl (any_of HT_.out (by kernel_rfl)) (fun _ _ _ h => h) (Or.inl ⟨by rfl, ?_⟩) ?_ ?_
   rotate_left; · exact zqB
   rotate_left; · exact zqA
   refine pure_ (i := 9) (N := some 21) (v := ?_) (a' := ?_) #[true, true, true, true, true, true, true, true, true, true, false, false, false, false, false, false, false, false] rfl rfl (any_of HT_.out (by kernel_rfl)) (fun _ _ _ h => h) (Or.inl ⟨by rfl, ?_⟩) ?_ ?_
   rotate_left; · exact zqB
   rotate_left; · exact zqA
   refine pure_ (i := 10) (N := some 22) (v := ?_) (a' := ?_) #[true, true, true, true, true, true, true, true, true, true, true, false, false, false, false, false, false, false] rfl rfl (any_of HT_.out (by kernel_rfl)) (fun _ _ _ h => h) (Or.inl ⟨by rfl, ?_⟩) ?_ ?_
   rotate_left; · exact zqB
   rotate_left; · exact zqA
   refine pure_ (i := 11) (N := some 23) (v := ?_) (a' := ?_) #[true, true, true, true, true, true, true, true, true, true, true, true, false, false, false, false, false, false] rfl rfl (any_of HT_.out (by kernel_rfl)) (fun _ _ _ h => h) (Or.inl ⟨by rfl, ?_⟩) ?_ ?_
   rotate_left; · exact zqB
   rotate_left; · exact zqA
   refine pure_ (i := 13) (N := some 25) (v := ?_) (a' := ?_) #[true, true, true, true, true, true, true, true, true, true, true, true, false, true, false, false, false, false] rfl rfl (any_of HT_.out (by kernel_rfl)) (fun _ _ _ h => h) (Or.inl ⟨by rfl, ?_⟩) ?_ ?_
   rotate_left; · exact zqB
   rotate_left; · exact zqA
   refine take_ (i := 12) (N := some 24) (v := ?_) (a' := ?_) #[true, true, true, true, true, true, true, true, true, true, true, true, true, true, false, false, false, false] rfl rfl (take_ofW HT_.out HW_.out (by kernel_rfl)) (fun _ _ _ h => h) (Or.inl ⟨by rfl, ?_⟩) hHeld ?_ ?_
   rotate_left
   ·
    rintro w' ⟨s0, s1, s2, s3, s4, s5, s6, s7, s8, s9, s10, s11⟩
    go_simp
    with_reducible rfl
   rotate_left; · exact zqA
   refine take_ (i := 14) (N := some 26) (v := ?_) (a' := ?_) #[true, true, true, true, true, true, true, true, true, true, true, true, true, true, true, false, false, false] rfl rfl (take_ofW HT_.out HW_.out (by kernel_rfl)) (fun _ _ _ h => h) (Or.inl ⟨by rfl, ?_⟩) hHeld ?_ ?_
   rotate_left
   ·
    rintro w' ⟨s0, s1, s2, s3, s4, s5, s6, s7, s8, s9, s10, s11⟩
    go_simp
    with_reducible rfl
   rotate_left; · exact zqA
   refine pure_ (i := 15) (N := some 27) (v := ?_) (a' := ?_) #[true, true, true, true, true, true, true, true, true, true, true, true, true, true, true, true, false, false] rfl rfl (any_of HT_.out (by kernel_rfl)) (fun _ _ _ h => h) (Or.inl ⟨by rfl, ?_⟩) ?_ ?_
   rotate_left; · exact zqB
   rotate_left; · exact zqA
   refine pure_ (i := 16) (N := some 28) (v := ?_) (a' := ?_) #[true, true, true, true, true, true, true, true, true, true, true, true, true, true, true, true, true, false] rfl rfl (any_of HT_.out (by kernel_rfl)) (fun _ _ _ h => h) (Or.inl ⟨by rfl, ?_⟩) ?_ ?_
   rotate_left; · exact zqB
   rotate_left; · exact zqA
   refine pure_ (i := 17) (N := some 29) (v := ?_) (a' := ?_) #[true, true, true, true, true, true, true, true, true, true, true, true, true, true, true, true, true, true] rfl rfl (any_of HT_.out (by kernel_rfl)) (fun _ _ _ h => h) (Or.inl ⟨by rfl, ?_⟩) ?_ ?_
   rotate_left; · exact zqB
   rotate_left; · exact zqA
   refine done_ (done_of HT_.out (by kernel_rfl)) ?_
   try go_wp2
   go_ret
   exact ⟨by first | rfl | (simp [errW_none, errW_some] <;> rfl) | (simp only [← hji8]; first | rfl | (simp [errW_none, errW_some] <;> rfl)) | (simp [*, errW_none, errW_some] <;> rfl), zq20⟩
  rw [if_neg c11] at H
  have c11b0 : decide (((rd_T31 l0 x7_1).f0) ≤ ((rd_T31 l0 (ji8)).f0)) = false := decide_eq_false c11
  clear c11
  have H' := Aside0.mk H
  clear H
  have p292 : 0 ≤ (x7_1 : Int) := of_decide_eq_true zq3
  have q292 : x7_1 < (l0.length : Int) := of_decide_eq_true zq3
  obtain ⟨ad292, e292, hx292_0, hx292_1, hx292_2, hx292_3, hx292_4, hx292_5⟩ := at_T31 HR0.out x7_1 p292 q292
  cases e292
  replace hx292_0 := bx HB.out hx292_0
  replace hx292_1 := bx HB.out hx292_1
  replace hx292_2 := bx HB.out hx292_2
  replace hx292_3 := bx HB.out hx292_3
  replace hx292_4 := bx HB.out hx292_4
  replace hx292_5 := bx HB.out hx292_5
  replace p292 := eq_true p292
  replace q292 := eq_true q292
  try go_wp2_with (first | ((with_reducible refine gate_dst (N := 4) rfl ?_); refine box_event ?hg (N := 4) ?hd (cs := #[.int .i64 0, .int .i64 0, .int .i64 0, .int .i64 0, .int .i64 0, .int .i64 0]) (t := 31) ?hr ?_; (case hd => rfl); (case hg => rfl); (case hr => exact zqS); intro gb293 hg w17 hbox hb; have BK293 := Aside0.mk (hbox); have GW293 := Aside0.mk ((by rw [hg]; exact (below_size zq0) : w.heap.size ≤ gb293)); replace HB := Aside0.mk (below_step zq0 hb); have GE293 := GW293; clear hb hbox hg; obtain ⟨hcz18_0, hcz18_1, hcz18_2, hcz18_3, hcz18_4, hcz18_5, hfz18_0, hfz18_1, hfz18_2, hfz18_3, hfz18_4, hfz18_5⟩ := bz6 BK293.out))
  have n0_ : Aside0 (((((((w17.setCell ⟨gb293, 0, none⟩ (.int .i64 ((rd_T31 l0 x7_1).f0))).setCell ⟨gb293, 1, none⟩ (.int .i64 ((rd_T31 l0 x7_1).f1))).setCell ⟨gb293, 2, none⟩ (.int .i64 ((rd_T31 l0 x7_1).f2))).setCell ⟨gb293, 3, none⟩ (.int .i64 ((rd_T31 l0 x7_1).f3))).setCell ⟨gb293, 4, none⟩ (.int .i64 ((rd_T31 l0 x7_1).f4))).setCell ⟨gb293, 5, none⟩ (.int .i64 ((rd_T31 l0 x7_1).f5))).heap[gb293]? = some (.cells #[.int .i64 ((rd_T31 l0 x7_1).f0), .int .i64 ((rd_T31 l0 x7_1).f1), .int .i64 ((rd_T31 l0 x7_1).f2), .int .i64 ((rd_T31 l0 x7_1).f3), .int .i64 ((rd_T31 l0 x7_1).f4), .int .i64 ((rd_T31 l0 x7_1).f5)] 31 (0, 0))) := ⟨by (with_reducible repeat (first | refine blk_drewN ?_ _ | refine blk_drew ?_ | refine blk_alloc ?_ _)); refine blk_put (cs := #[.int .i64 ((rd_T31 l0 x7_1).f0), .int .i64 ((rd_T31 l0 x7_1).f1), .int .i64 ((rd_T31 l0 x7_1).f2), .int .i64 ((rd_T31 l0 x7_1).f3), .int .i64 ((rd_T31 l0 x7_1).f4), .int .i64 0]) ?_ 5 _ rfl; (with_reducible repeat (first | refine blk_drewN ?_ _ | refine blk_drew ?_ | refine blk_alloc ?_ _)); refine blk_put (cs := #[.int .i64 ((rd_T31 l0 x7_1).f0), .int .i64 ((rd_T31 l0 x7_1).f1), .int .i64 ((rd_T31 l0 x7_1).f2), .int .i64 ((rd_T31 l0 x7_1).f3), .int .i64 0, .int .i64 0]) ?_ 4 _ rfl; (with_reducible repeat (first | refine blk_drewN ?_ _ | refine blk_drew ?_ | refine blk_alloc ?_ _)); refine blk_put (cs := #[.int .i64 ((rd_T31 l0 x7_1).f0), .int .i64 ((rd_T31 l0 x7_1).f1), .int .i64 ((rd_T31 l0 x7_1).f2), .int .i64 0, .int .i64 0, .int .i64 0]) ?_ 3 _ rfl; (with_reducible repeat (first | refine blk_drewN ?_ _ | refine blk_drew ?_ | refine blk_alloc ?_ _)); refine blk_put (cs := #[.int .i64 ((rd_T31 l0 x7_1).f0), .int .i64 ((rd_T31 l0 x7_1).f1), .int .i64 0, .int .i64 0, .int .i64 0, .int .i64 0]) ?_ 2 _ rfl; (with_reducible repeat (first | refine blk_drewN ?_ _ | refine blk_drew ?_ | refine blk_alloc ?_ _)); refine blk_put (cs := #[.int .i64 ((rd_T31 l0 x7_1).f0), .int .i64 0, .int .i64 0, .int .i64 0, .int .i64 0, .int .i64 0]) ?_ 1 _ rfl; (with_reducible repeat (first | refine blk_drewN ?_ _ | refine blk_drew ?_ | refine blk_alloc ?_ _)); refine blk_put (cs := #[.int .i64 0, .int .i64 0, .int .i64 0, .int .i64 0, .int .i64 0, .int .i64 0]) ?_ 0 _ rfl; (with_reducible repeat (first | refine blk_drewN ?_ _ | refine blk_drew ?_ | refine blk_alloc ?_ _)); exact BK293.out⟩
  have n1_ : Aside0 (Below w.heap.size w ((((((w17.setCell ⟨gb293, 0, none⟩ (.int .i64 ((rd_T31 l0 x7_1).f0))).setCell ⟨gb293, 1, none⟩ (.int .i64 ((rd_T31 l0 x7_1).f1))).setCell ⟨gb293, 2, none⟩ (.int .i64 ((rd_T31 l0 x7_1).f2))).setCell ⟨gb293, 3, none⟩ (.int .i64 ((rd_T31 l0 x7_1).f3))).setCell ⟨gb293, 4, none⟩ (.int .i64 ((rd_T31 l0 x7_1).f4))).setCell ⟨gb293, 5, none⟩ (.int .i64 ((rd_T31 l0 x7_1).f5)))) := ⟨zq20⟩
  (try clear BK293)
  (try clear HB)
  generalize ((((((w17.setCell ⟨gb293, 0, none⟩ (.int .i64 ((rd_T31 l0 x7_1).f0))).setCell ⟨gb293, 1, none⟩ (.int .i64 ((rd_T31 l0 x7_1).f1))).setCell ⟨gb293, 2, none⟩ (.int .i64 ((rd_T31 l0 x7_1).f2))).setCell ⟨gb293, 3, none⟩ (.int .i64 ((rd_T31 l0 x7_1).f3))).setCell ⟨gb293, 4, none⟩ (.int .i64 ((rd_T31 l0 x7_1).f4))).setCell ⟨gb293, 5, none⟩ (.int .i64 ((rd_T31 l0 x7_1).f5))) = w19 at n0_ n1_ ⊢
  have BK293 := n0_
  have HB := n1_
  clear n0_ n1_
  have n0_ := Aside0.mk (blk_drew BK293.out)
  have n1_ := Aside0.mk (below_drew1 HB.out)
  clear BK293
  clear HB
  have BK293 := n0_
  have HB := n1_
  clear n0_ n1_
  have p295 : 0 ≤ ((ji8) : Int) := of_decide_eq_true zq3
  have q295 : (ji8) < (l0.length : Int) := of_decide_eq_true zq3
  obtain ⟨ad295, e295, hx295_0, hx295_1, hx295_2, hx295_3, hx295_4, hx295_5⟩ := at_T31 HR0.out (ji8) p295 q295
  have hw295_5 := hx295_5
  have hw295_4 := hx295_4
  have hw295_3 := hx295_3
  have hw295_2 := hx295_2
  have hw295_1 := hx295_1
  have hw295_0 := hx295_0
  obtain rfl : ad292 = ad295 := (by injection e295)
  replace hx295_0 := bx HB.out hx295_0
  replace hx295_1 := bx HB.out hx295_1
  replace hx295_2 := bx HB.out hx295_2
  replace hx295_3 := bx HB.out hx295_3
  replace hx295_4 := bx HB.out hx295_4
  replace hx295_5 := bx HB.out hx295_5
  replace p295 := eq_true p295
  replace q295 := eq_true q295
  refine start_ (n := 18) (S := fun w' => w'.cell? ⟨gb293, 0, none⟩ = some (.int .i64 ((rd_T31 l0 x7_1).f0)) ∧ w'.cell? ⟨gb293, 1, none⟩ = some (.int .i64 ((rd_T31 l0 x7_1).f1)) ∧ w'.cell? ⟨gb293, 2, none⟩ = some (.int .i64 ((rd_T31 l0 x7_1).f2)) ∧ w'.cell? ⟨gb293, 3, none⟩ = some (.int .i64 ((rd_T31 l0 x7_1).f3)) ∧ w'.cell? ⟨gb293, 4, none⟩ = some (.int .i64 ((rd_T31 l0 x7_1).f4)) ∧ w'.cell? ⟨gb293, 5, none⟩ = some (.int .i64 ((rd_T31 l0 x7_1).f5)) ∧ w'.cell? (ad292.add (((ji8)).toNat * 6)) = some (.int .i64 ((rd_T31 l0 (ji8)).f0)) ∧ w'.cell? ⟨(ad292.add (((ji8)).toNat * 6)).block, (ad292.add (((ji8)).toNat * 6)).off + 1, none⟩ = some (.int .i64 ((rd_T31 l0 (ji8)).f1)) ∧ w'.cell? ⟨(ad292.add (((ji8)).toNat * 6)).block, (ad292.add (((ji8)).toNat * 6)).off + 2, none⟩ = some (.int .i64 ((rd_T31 l0 (ji8)).f2)) ∧ w'.cell? ⟨(ad292.add (((ji8)).toNat * 6)).block, (ad292.add (((ji8)).toNat * 6)).off + 3, none⟩ = some (.int .i64 ((rd_T31 l0 (ji8)).f3)) ∧ w'.cell? ⟨(ad292.add (((ji8)).toNat * 6)).block, (ad292.add (((ji8)).toNat * 6)).off + 4, none⟩ = some (.int .i64 ((rd_T31 l0 (ji8)).f4)) ∧ w'.cell? ⟨(ad292.add (((ji8)).toNat * 6)).block, (ad292.add (((ji8)).toNat * 6)).off + 5, none⟩ = some (.int .i64 ((rd_T31 l0 (ji8)).f5))) (ds := []) #[false, false, false, false, false, false, false, false, false, false, false, false, false, false, false, false, false, false] (by kernel_rfl) rfl rfl ⟨(blk_cell BK293.out 0).trans rfl, (blk_cell BK293.out 1).trans rfl, (blk_cell BK293.out 2).trans rfl, (blk_cell BK293.out 3).trans rfl, (blk_cell BK293.out 4).trans rfl, (blk_cell BK293.out 5).trans rfl, ((HB.out.cell (World.block_lt_of_cell? w _ hw295_0)).trans hw295_0), ((HB.out.cell (World.block_lt_of_cell? w _ hw295_1)).trans hw295_1), ((HB.out.cell (World.block_lt_of_cell? w _ hw295_2)).trans hw295_2), ((HB.out.cell (World.block_lt_of_cell? w _ hw295_3)).trans hw295_3), ((HB.out.cell (World.block_lt_of_cell? w _ hw295_4)).trans hw295_4), ((HB.out.cell (World.block_lt_of_cell? w _ hw295_5)).trans hw295_5)⟩ (fun hHeld => ?_); refine with_tabW impl_areWarnings.tab4 impl_areWarnings.bits4 (fun HT_ HW_ => ?_)
  generalize w19.drew = w20 at BK293 HB hx295_0 hx295_1 hx295_2 hx295_3 hx295_4 hx295_5 hHeld ⊢
  refine take_ (i := 0) (N := some 12) (v := ?_) (a' := ?_) #[true, false, false, false, false, false, false, false, false, false, false, false, false, false, false, false, false, false] rfl rfl (take_ofW HT_.out HW_.out (by kernel_rfl)) (fun _ _ _ h => h) (Or.inl ⟨by rfl, ?_⟩) hHeld ?_ ?_
  rotate_left
  ·
   rintro w' ⟨s0, s1, s2, s3, s4, s5, s6, s7, s8, s9, s10, s11⟩
   go_simp
   with_reducible rfl
  rotate_left; · exact zqA
  refine one_ (i := 1) (N := some 13) #[true, true, false, false, false, false, false, false, false, false, false, false, false, false, false, false, false, false] rfl rfl (one_of HT_.out (by kernel_rfl)) (by decide) (fun K hK => ?_)
  refine goes_ Tryd.func34 (by kernel_rfl) rfl #[.agg #[.int .i64 ((rd_T31 l0 x7_1).f0), .int .i64 ((rd_T31 l0 x7_1).f1), .int .i64 ((rd_T31 l0 x7_1).f2), .int .i64 ((rd_T31 l0 x7_1).f3), .int .i64 ((rd_T31 l0 x7_1).f4), .int .i64 ((rd_T31 l0 x7_1).f5)]] (by rfl) rfl rfl zq1 ?_
  with_reducible refine (impl_IsValidWarning.calls ((rd_T31 l0 x7_1).f0) ((rd_T31 l0 x7_1).f1) ((rd_T31 l0 x7_1).f2) ((rd_T31 l0 x7_1).f3) ((rd_T31 l0 x7_1).f4) ((rd_T31 l0 x7_1).f5) true _ A5.out).mono ?_
  rintro e w21 ⟨rfl, hb⟩
  refine ⟨_, rfl, ?_⟩
  have n0_ := Aside0.mk (blk_below (g := gb293) (o := .cells #[.int .i64 ((rd_T31 l0 x7_1).f0), .int .i64 ((rd_T31 l0 x7_1).f1), .int .i64 ((rd_T31 l0 x7_1).f2), .int .i64 ((rd_T31 l0 x7_1).f3), .int .i64 ((rd_T31 l0 x7_1).f4), .int .i64 ((rd_T31 l0 x7_1).f5)] 31 (0, 0)) (zqK BK293.out) hb)
  have n1_ := Aside0.mk (below_step zq20 hb)
  clear BK293
  clear HB
  have BK293 := n0_
  have HB := n1_
  clear n0_ n1_
  (try clear hb)
  (try clear hb2)
  (try clear hk)
  (try clear hi)
  refine hK.out _ _ ⟨(blk_cell BK293.out 0).trans rfl, (blk_cell BK293.out 1).trans rfl, (blk_cell BK293.out 2).trans rfl, (blk_cell BK293.out 3).trans rfl, (blk_cell BK293.out 4).trans rfl, (blk_cell BK293.out 5).trans rfl, ((HB.out.cell (World.block_lt_of_cell? w _ hw295_0)).trans hw295_0), ((HB.out.cell (World.block_lt_of_cell? w _ hw295_1)).trans hw295_1), ((HB.out.cell (World.block_lt_of_cell? w _ hw295_2)).trans hw295_2), ((HB.out.cell (World.block_lt_of_cell? w _ hw295_3)).trans hw295_3), ((HB.out.cell (World.block_lt_of_cell? w _ hw295_4)).trans hw295_4), ((HB.out.cell (World.block_lt_of_cell? w _ hw295_5)).trans hw295_5)⟩ (fun hHeld => ?_)
  clear hK K
  refine norm_ (a' := ?_) ?_ ?_
  rotate_left
  ·
   show Act.put _ (some 13) _ = _
   simp only [Act.put, List.setIfInBounds_toArray, List.set_cons_zero, List.set_cons_succ, i64_w, i32_w]
   rfl
  refine pure_ (i := 2) (N := some 14) (v := ?_) (a' := ?_) #[true, true, true, false, false, false, false, false, false, false, false, false, false, false, false, false, false, false] rfl rfl (any_of HT_.out (by kernel_rfl)) (fun _ _ _ h => h) (Or.inl ⟨by rfl, ?_⟩) ?_ ?_
  rotate_left; · exact zqB
  rotate_left; · exact zqA
  refine pure_ (i := 3) (N := some 15) (v := ?_) (a' := ?_) #[true, true, true, true, false, false, false, false, false, false, false, false, false, false, false, false, false, false] rfl rfl (any_of HT_.out (by kernel_rfl)) (fun _ _ _ h => h) (Or.inl ⟨by rfl, ?_⟩) ?_ ?_
  rotate_left; · exact zqB
  rotate_left; · exact zqA
  refine pure_ (i := 4) (N := some 16) (v := ?_) (a' := ?_) #[true, true, true, true, true, false, false, false, false, false, false, false, false, false, false, false, false, false] rfl rfl (any_of HT_.out (by kernel_rfl)) (fun _ _ _ h => h) (Or.inl ⟨by rfl, ?_⟩) ?_ ?_
  rotate_left; · exact zqB
  rotate_left; · exact zqA
  refine pure_ (i := 5) (N := some 17) (v := ?_) (a' := ?_) #[true, true, true, true, true, true, false, false, false, false, false, false, false, false, false, false, false, false] rfl rfl (any_of HT_.out (by kernel_rfl)) (fun _ _ _ h => h) (Or.inl ⟨by rfl, ?_⟩) ?_ ?_
  rotate_left; · exact zqB
  rotate_left; · exact zqA
  refine pure_ (i := 6) (N := some 18) (v := ?_) (a' := ?_) #[true, true, true, true, true, true, true, false, false, false, false, false, false, false, false, false, false, false] rfl rfl (any_of HT_.out (by kernel_rfl)) (fun _ _ _ h => h) (Or.inl ⟨by rfl, ?_⟩) ?_ ?_
  rotate_left; · exact zqB
  rotate_left; · exact zqA
  refine pure_ (i := 7) (N := some 19) (v := ?_) (a' := ?_) #[true, true, true, true, true, true, true, true, false, false, false, false, false, false, false, false, false, false] rfl rfl (any_of HT_.out (by kernel_rfl)) (fun _ _ _ h => h) (Or.inl ⟨by rfl, ?_⟩) ?_ ?_
  rotate_left; · exact zqB
  rotate_left; · exact zqA
  refine pure_ (i := 8) (N := some 20) (v := ?_) (a' := ?_) #[true, true, true, true, true, true, true, true, true, false, false, false, false, false, false, false, false, false] rfl rfl (any_of HT_.out (by kernel_rfl)) (fun _ _ _ h => h) (Or.inl ⟨by rfl, ?_⟩) ?_ ?_
  rotate_left; · exact zqB
  rotate_left; · exact zqA
  refine pure_ (i := 9) (N := some 21) (v := ?_) (a' := ?_) #[true, true, true, true, true, true, true, true, true, true, false, false, false, false, false, false, false, false] rfl rfl (any_of HT_.out (by kernel_rfl)) (fun _ _ _ h => h) (Or.inl ⟨by rfl, ?_⟩) ?_ ?_
  rotate_left; · exact zqB
  rotate_left; · exact zqA
  refine pure_ (i := 10) (N := some 22) (v := ?_) (a' := ?_) #[true, true, true, true, true, true, true, true, true, true, true, false, false, false, false, false, false, false] rfl rfl (any_of HT_.out (by kernel_rfl)) (fun _ _ _ h => h) (Or.inl ⟨by rfl, ?_⟩) ?_ ?_
  rotate_left; · exact zqB
  rotate_left; · exact zqA
  refine pure_ (i := 11) (N := some 23) (v := ?_) (a' := ?_) #[true, true, true, true, true, true, true, true, true, true, true, true, false, false, false, false, false, false] rfl rfl (any_of HT_.out (by kernel_rfl)) (fun _ _ _ h => h) (Or.inl ⟨by rfl, ?_⟩) ?_ ?_
  rotate_left; · exact zqB
  rotate_left; · exact zqA
  refine pure_ (i := 13) (N := some 25) (v := ?_) (a' := ?_) #[true, true, true, true, true, true, true, true, true, true, true, true, false, true, false, false, false, false] rfl rfl (any_of HT_.out (by kernel_rfl)) (fun _ _ _ h => h) (Or.inl ⟨by rfl, ?_⟩) ?_ ?_
  rotate_left; · exact zqB
  rotate_left; · exact zqA
  refine take_ (i := 12) (N := some 24) (v := ?_) (a' := ?_) #[true, true, true, true, true, true, true, true, true, true, true, true, true, true, false, false, false, false] rfl rfl (take_ofW HT_.out HW_.out (by kernel_rfl)) (fun _ _ _ h => h) (Or.inl ⟨by rfl, ?_⟩) hHeld ?_ ?_
  rotate_left
  ·
   rintro w' ⟨s0, s1, s2, s3, s4, s5, s6, s7, s8, s9, s10, s11⟩
   go_simp
   with_reducible rfl
  rotate_left; · exact zqA
  refine take_ (i := 14) (N := some 26) (v := ?_) (a' := ?_) #[true, true, true, true, true, true, true, true, true, true, true, true, true, true, true, false, false, false] rfl rfl (take_ofW HT_.out HW_.out (by kernel_rfl)) (fun _ _ _ h => h) (Or.inl ⟨by rfl, ?_⟩) hHeld ?_ ?_
  rotate_left
  ·
   rintro w' ⟨s0, s1, s2, s3, s4, s5, s6, s7, s8, s9, s10, s11⟩
   go_simp
   with_reducible rfl
  rotate_left; · exact zqA
  refine pure_ (i := 15) (N := some 27) (v := ?_) (a' := ?_) #[true, true, true, true, true, true, true, true, true, true, true, true, true, true, true, true, false, false] rfl rfl (any_of HT_.out (by kernel_rfl)) (fun _ _ _ h => h) (Or.inl ⟨by rfl, ?_⟩) ?_ ?_
  rotate_left; · exact zqB
  rotate_left; · exact zqA
  refine pure_ (i := 16) (N := some 28) (v := ?_) (a' := ?_) #[true, true, true, true, true, true, true, true, true, true, true, true, true, true, true, true, true, false] rfl rfl (any_of HT_.out (by kernel_rfl)) (fun _ _ _ h => h) (Or.inl ⟨by rfl, ?_⟩) ?_ ?_
  rotate_left; · exact zqB
  rotate_left; · exact zqA
  refine pure_ (i := 17) (N := some 29) (v := ?_) (a' := ?_) #[true, true, true, true, true, true, true, true, true, true, true, true, true, true, true, true, true, true] rfl rfl (any_of HT_.out (by kernel_rfl)) (fun _ _ _ h => h) (Or.inl ⟨by rfl, ?_⟩) ?_ ?_
  rotate_left; · exact zqB
  rotate_left; · exact zqA
  refine done_ (done_of HT_.out (by kernel_rfl)) ?_
  try go_wp2
  go_roundg k1
  case measure => have := HK1.out; omega
  case rel => exact ⟨(wrap64 (x7_1 + 1)), (by first | rfl | (simp; done) | (simp [*]; done)), H', ⟨by have := HK1.out; omega⟩, ⟨zq20⟩⟩

/-! ### impl_isOverview: function 16 -/
def impl_isOverview.f (k : Nat) (l0 : List (S31)) : Option (Bool) := if (l0.length : Int) ≤ 12 then ((impl_areWarnings.f k l0).bind fun t296 => (some t296)) else (some false)
theorem impl_isOverview.mono : ∀ a0 k, LeO (impl_isOverview.f k a0) (impl_isOverview.f (k + 1) a0) := by
 intro a0 k
 unfold impl_isOverview.f
 repeat' first
   | (with_reducible exact impl_areWarnings.mono _ _)
   | (with_reducible exact LeO.refl _)
   | (with_reducible exact LeO.none _)
   | (with_reducible refine LeO.ite ?_ ?_)
   | (with_reducible refine LeO.bind ?_ (fun _ => ?_))
   | exact impl_areWarnings.mono _ _
   | exact LeO.none _
   | refine LeO.ite ?_ ?_
   | refine LeO.bind ?_ (fun _ => ?_)
set_option maxHeartbeats 8000000 in
set_option maxRecDepth 100000 in
theorem impl_isOverview.calls (k : Nat) (A0 : Option Addr) (c0 : Nat) (l0 : List (S31)) (r : Bool) (w : World) (hr0 : Kd.C k31 w A0 l0.length l0) (hc0 : l0.length ≤ c0) (h : impl_isOverview.f k l0 = some r) :
  Calls Tryd.prog 16 #[.slice A0 l0.length c0] w fun e w' => e = .returned (.bool r) ∧ Below w.heap.size w w' := by
 have HR0 := Aside0.mk hr0
 have HC0 := Aside0.mk hc0
 clear hr0 hc0
 have HB := Aside0.mk (Below.refl w.heap.size w)
 have H : (if (l0.length : Int) ≤ 12 then ((impl_areWarnings.f k l0).bind fun t296 => (some t296)) else (some false)) = some r := h
 clear h
 by_cases c2 : (l0.length : Int) ≤ 12
 case neg =>
  rw [if_neg c2] at H
  have c2b0 : decide ((l0.length : Int) ≤ 12) = false := decide_eq_false c2
  have c2b1 : decide (l0.length ≤ 12) = false := decide_eq_false (by omega)
  clear c2
  obtain rfl := Option.some.inj H
  go_enter Tryd.func16, Tryd.ntmps16
  go_wp2
  go_ret
  exact ⟨zqE, zq0⟩
 rw [if_pos c2] at H
 have c2b0 : decide ((l0.length : Int) ≤ 12) = true := decide_eq_true c2
 have c2b1 : decide (l0.length ≤ 12) = true := decide_eq_true (by omega)
 clear c2
 replace H := Option.bind_eq_some_iff.mp H
 obtain ⟨t296, A30, H⟩ := H
 replace H : (some t296) = some r := H
 have A3 := Aside0.mk A30
 clear A30
 obtain rfl := Option.some.inj H
 go_enter Tryd.func16, Tryd.ntmps16
 go_wp2_with (first | (go_at_call 37; (with_reducible refine (impl_areWarnings.calls k _ _ l0 t296 _ ?side1 ?side2 A3.out).mono ?_); (case side1 => exact zqC HR0.out); (case side2 => exact HC0.out); rintro e w4 ⟨rfl, hb⟩; replace HB := Aside0.mk (below_step zq0 hb); (try clear hb); (try clear hb2); (try clear hk); (try clear hi)))
 go_ret
 exact ⟨zqE, zq0⟩

/-! ### strings_IndexByte: function 29 -/
/-- strings.IndexByte: the first place of a byte, or -1. -/
def strings_IndexByte.f (a0 : ByteArray) (a1 : Int) : Option Int := some (Lib.indexByte a0.data.toList a1.toNat.toUInt8)
theorem strings_IndexByte.same (a0 : ByteArray) (a1 : Int) (w : World) :
  Calls Tryd.prog 29 #[.string a0, .int .u8 a1] w fun e w' => e = .returned (.int .i64 (Lib.indexByte a0.data.toList a1.toNat.toUInt8)) ∧ w' = w := by
 go_enter Tryd.func29, Tryd.ntmps29
 go_wp2_with (go_at_call 41; refine (Tryd.stringslite_IndexByte a0 a1 _).mono ?_; rintro e w1 ⟨rfl, rfl⟩)
 go_ret
 exact ⟨rfl, rfl⟩
theorem strings_IndexByte.calls (a0 : ByteArray) (a1 : Int) (r : Int) (w : World) (h : strings_IndexByte.f a0 a1 = some r) :
  Calls Tryd.prog 29 #[.string a0, .int .u8 a1] w fun e w' => e = .returned (.int .i64 r) ∧ Below w.heap.size w w' := by
 unfold strings_IndexByte.f at h
 injection h with h
 subst h
 exact (strings_IndexByte.same a0 a1 w).mono fun e w' ⟨he, hw⟩ => by subst hw; exact ⟨he, Below.refl _ _⟩

/-! ### impl_ParseOverview: function 5 -/
-- functions 13, 12, 15, 29, 14, 16, called
attribute [local go_sem] Oper.semAt_some
/-- What is asked where the body of a round ends: it goes on, or it returns. -/
def boxPost (D B : Nat) (I : List ByteArray → World → Prop) (Ix : World → Prop) (xs : List ByteArray) (W : World) : Exit → Act → World → Prop
 | .normal, _, W' => KeepsFrom D W W' ∧ W'.heap[B]? = W.heap[B]? ∧ I xs W'
 | .ret, _, W' => KeepsFrom D W W' ∧ Ix W'
 | _, _, _ => False
/-- A loop over a function that keeps its state in a box (block B) of its own: the texts zs come. -/
theorem wp_rangeBox {P : Program} {n : Nat} {g : Operand} {ps : Array Tmp} {assign body : Code} {Q : Exit → Act → World → Prop} {a : Act} {w : World}
  {gf : Nat} {lb : Array Value} (hg : a.eval g = .func (.func gf) #[] lb) (eg : ∀ args w, (callFunc gf args).run P w = .ok (.enter gf args) w) (hps : ps.size = 1)
  (B : Nat) (hB : B < w.heap.size) (zs : List ByteArray)
  (hseq : ∀ (l : Nat) (J : List ByteArray → World → Prop) (Jx : World → Prop) (W : World),
   (∀ pre W v, J pre W → J pre (W.setCell ⟨B, 0, none⟩ v)) → (∀ pre W, J pre W → J pre W.drew) →
   (∀ pre x rest W1, zs = pre ++ x :: rest → J pre W1 → YieldAt Fence.wide (n - 1 - 1) P l #[.string x] W1 fun e W' => (e = .returned (.bool true) ∧ J (pre ++ [x]) W' ∧ W'.heap[B]? = W1.heap[B]?) ∨ (e = .returned (.bool false) ∧ Jx W')) →
   W.heap[B]? = w.heap[B]? → J [] W →
   CallsIn Fence.wide (n - 1) P gf (#[.func (.yield l) #[] #[]] ++ lb) W fun e W' => (∃ v, e = .returned v) ∧ (J zs W' ∨ Jx W'))
  (I : List ByteArray → World → Prop) (Ix : World → Prop) (hI : OwnFrom w.heap.size I) (hIx : OwnFrom w.heap.size (fun (_ : Unit) => Ix))
  (hIB : ∀ pre W v, I pre W → I pre (W.setCell ⟨B, 0, none⟩ v)) (hId : ∀ pre W, I pre W → I pre W.drew) (h0 : I [] w) (a₁ : ByteArray → Act)
  (hassign : ∀ (l : Nat) (x : ByteArray) (W : World) (K : Act → World → Prop), K (a₁ x) W →
   assign.wpIn (Fence.wide.inRound l) (n - 1 - 1) P (Exit.then K (fun _ _ _ => False)) { tmps := (ps.zip #[.string x]).foldl (fun t (p, v) => t.setIfInBounds p v) a.tmps, defers := [] } W)
  (hbody : ∀ (l : Nat) (pre : List ByteArray) (x : ByteArray) (rest : List ByteArray) (W : World), zs = pre ++ x :: rest → I pre W → w.heap.size ≤ W.heap.size → body.wpIn (Fence.wide.inRound l) (n - 1 - 1) P (boxPost w.heap.size B I Ix (pre ++ [x]) W) (a₁ x) W)
  (hdone : ∀ (D : Nat) (W : World), w.heap.size ≤ D → I zs W → W.heap[D]? = some (.deferred (some [])) → Q .normal { a with defers := { target := .collected D, args := #[] } :: a.defers } W)
  (hstop : ∀ (D : Nat) (W : World), w.heap.size ≤ D → Ix W → W.heap[D]? = some (.deferred (some [])) → Code.ret.wpIn Fence.wide n P Q { a with defers := { target := .collected D, args := #[] } :: a.defers } W) :
  (Code.rangeFunc g ps assign body).wpIn Fence.wide n P Q a w := by
 refine wpIn_rangeFunc ?_
 intro fn hfn
 obtain ⟨rec, hrec⟩ : ∃ rec : LoopState → Option Code → Loop, rec = fun st pe => { state := st, pending := pe, fn, tmps := a.tmps, params := ps, assign, body, defers := w.heap.size } := ⟨_, rfl⟩
 obtain ⟨W1, hW1⟩ : ∃ W1, (w.alloc (.deferred (some []))).alloc (.loop (rec .ready none)) = W1 := ⟨_, rfl⟩
 have hL1 : W1.heap[w.heap.size + 1]? = some (.loop (rec .ready none)) := by
  rw [← hW1]
  have := World.alloc_heap_new (w.alloc (.deferred (some []))) (.loop (rec .ready none))
  rwa [World.size_alloc] at this
 have hK1 : W1.heap[w.heap.size]? = some (.deferred (some [])) := by
  rw [← hW1]
  exact (Below.heap_alloc _ _ _ (by simp)).trans (World.alloc_heap_new w _)
 have hI1 : I [] W1 := by rw [← hW1]; exact hI.alloc _ (hI.alloc _ h0)
 have hB1 : W1.heap[B]? = w.heap[B]? := by
  rw [← hW1]
  exact (Below.heap_alloc _ _ _ (by simp; omega)).trans (Below.heap_alloc _ _ _ hB)
 refine ⟨w.heap.size + 1, [{ target := .collected w.heap.size, args := #[] }], W1, { target := .fn (.func gf) lb, args := #[.func (.yield (w.heap.size + 1)) #[] #[]] }, W1, gf, #[.func (.yield (w.heap.size + 1)) #[] #[]] ++ lb, W1, ?_, ?_, ?_, ?_, ?_, ?_⟩
 ·
  rw [← hW1, hrec]
  exact run_enterLoop_outer _ _ _ _ _
 ·
  simp only [resolve, hg]
  simp [go_sem]
 ·
  intro f' hf'
  simp [Target.leads] at hf'
  subst hf'
  trivial
 ·
  simp [invoke, go_sem, eg]
 ·
  intro h
  simp [Fence.wide] at h
 ·
  refine (hseq (w.heap.size + 1)
   (fun pre W => I pre W ∧ W.heap[w.heap.size + 1]? = some (.loop (rec .ready none)) ∧ W.heap[w.heap.size]? = some (.deferred (some [])))
   (fun W => Ix W ∧ W.heap[w.heap.size + 1]? = some (.loop (rec .done (some .ret))) ∧ W.heap[w.heap.size]? = some (.deferred (some [])))
   W1 (fun pre W v h => ⟨hIB _ _ _ h.1, (Below.heap_setCell _ ⟨B, 0, none⟩ _ _ (fun e => by have e : w.heap.size + 1 = B := e; omega)).trans h.2.1, (Below.heap_setCell _ ⟨B, 0, none⟩ _ _ (fun e => by have e : w.heap.size = B := e; omega)).trans h.2.2⟩)
   (fun pre W h => ⟨hId _ _ h.1, h.2.1, h.2.2⟩) ?_ hB1 ⟨hI1, hL1, hK1⟩).mono ?_
  ·
   rintro pre x rest W hzs ⟨hi, hl, hk⟩
   have hlt : w.heap.size + 1 < W.heap.size := (Array.getElem?_eq_some_iff.1 hl).1
   have hy := run_yield (P := P) (args := #[.string x]) hl (by rw [hrec]; exact hps.symm)
   rw [hrec] at hy
   have hl2 : (W.putObj (w.heap.size + 1) (.loop { rec .ready none with state := .busy })).heap[w.heap.size + 1]? = some (.loop { rec .ready none with state := .busy }) := World.putObj_heap_same hlt
   have hk2 : (W.putObj (w.heap.size + 1) (.loop { rec .ready none with state := .busy })).heap[w.heap.size]? = some (.deferred (some [])) := (World.putObj_heap_other (by omega)).trans hk
   have hb2 : (W.putObj (w.heap.size + 1) (.loop { rec .ready none with state := .busy })).heap[B]? = W.heap[B]? := World.putObj_heap_other (by omega)
   refine ⟨fn, _, assign, body, hy, roundIn_of_wpIn hfn (hassign _ x W _ ⟨_, run_beginRound hl (by rw [hrec]), ?_⟩)⟩
   refine wpIn_mono (hbody _ pre x rest _ hzs (hI.putObj _ hi (by omega) hl rfl) (by simp; omega)) ?_
   have fin : ∀ (jump : Option Code) (W3 : World), KeepsFrom w.heap.size (W.putObj (w.heap.size + 1) (.loop { rec .ready none with state := .busy })) W3 →
     (Instr.endRound (w.heap.size + 1) jump).run P W3 = .ok (.bool jump.isNone) (W3.putObj (w.heap.size + 1) (.loop (rec (if jump.isNone then .ready else .done) jump))) ∧
     W3.heap[w.heap.size + 1]? = some (.loop { rec .ready none with state := .busy }) ∧
     (W3.putObj (w.heap.size + 1) (.loop (rec (if jump.isNone then .ready else .done) jump))).heap[w.heap.size + 1]? = some (.loop (rec (if jump.isNone then .ready else .done) jump)) ∧
     (W3.putObj (w.heap.size + 1) (.loop (rec (if jump.isNone then .ready else .done) jump))).heap[w.heap.size]? = some (.deferred (some [])) := fun jump W3 hk3 => by
    have hl3 := hk3.same _ _ (by omega) hl2 rfl
    have h4 := run_endRound (P := P) jump hl3
    rw [hrec] at h4 ⊢
    exact ⟨h4, by rw [hrec] at hl3; exact hl3, World.putObj_heap_same (Array.getElem?_eq_some_iff.1 hl3).1, (World.putObj_heap_other (by omega)).trans (hk3.same _ _ (Nat.le_refl _) hk2 rfl)⟩
   rintro e a3 W3 hp
   cases e with
   | normal =>
    obtain ⟨hk3, hb3, hi3⟩ := hp
    obtain ⟨hr, hl3, hl4, hk4⟩ := fin none W3 hk3
    exact ⟨_, _, hr, .inl ⟨rfl, ⟨hI.putObj _ hi3 (by omega) hl3 rfl, hl4, hk4⟩, (World.putObj_heap_other (by omega)).trans (hb3.trans hb2)⟩⟩
   | ret =>
    obtain ⟨hk3, hi3⟩ := hp
    obtain ⟨hr, hl3, hl4, hk4⟩ := fin (some .ret) W3 hk3
    exact ⟨_, _, hr, .inr ⟨rfl, hIx.putObj (s := ()) _ hi3 (by omega) hl3 rfl, hl4, hk4⟩⟩
   | exit id => exact hp.elim
   | goto t => exact hp.elim
   | panic ch => exact hp.elim
   | outgrown => exact hp.elim
  ·
   rintro e W2 ⟨⟨v, rfl⟩, (⟨hi, hl, hk⟩ | ⟨hi, hl, hk⟩)⟩
   ·
    exact ⟨none, _, by have h5 := run_endLoop (P := P) hl (by rw [hrec]; simp); rw [hrec] at h5; exact h5, hdone _ _ (Nat.le_refl _) (hI.putObj _ hi (by omega) hl rfl) ((World.putObj_heap_other (by omega)).trans hk)⟩
   ·
    exact ⟨some .ret, _, by have h5 := run_endLoop (P := P) hl (by rw [hrec]; simp); rw [hrec] at h5; exact h5, hstop _ _ (Nat.le_refl _) (hIx.putObj (s := ()) _ hi (by omega) hl rfl) ((World.putObj_heap_other (by omega)).trans hk)⟩
/-- The lines of a text, each with its end. -/
def linesF : Nat → ByteArray → List ByteArray
 | 0, _ => []
 | k + 1, z => if z.size = 0 then [] else if 0 ≤ Lib.indexByte z.data.toList 10 then z.extract 0 (Lib.indexByte z.data.toList 10 + 1).toNat :: linesF k (z.extract (Lib.indexByte z.data.toList 10 + 1).toNat z.size) else [z]
theorem linesF_nil (k : Nat) : linesF k ⟨#[]⟩ = [] := by
 cases k with
 | zero => rfl
 | succ k => exact if_pos rfl
noncomputable def leftOf (B : Nat) (W : World) : Nat := match W.cell? ⟨B, 0, none⟩ with
 | some (.string z) => z.size
 | _ => 0
theorem index_nl (z : ByteArray) (w : World) : Calls Tryd.prog 29 #[.string z, .int .u8 10] w fun e w' => e = .returned (.int .i64 (Lib.indexByte z.data.toList 10)) ∧ w' = w := strings_IndexByte.same z 10 w
set_option maxHeartbeats 1000000 in
set_option maxRecDepth 100000 in
theorem lines_in (n : Nat) (l B : Nat) (J : List ByteArray → World → Prop) (Jx : World → Prop)
  (hS : ∀ pre W v, J pre W → J pre (W.setCell ⟨B, 0, none⟩ v)) (hD : ∀ pre W, J pre W → J pre W.drew)
  (z0 : ByteArray) (hY : ∀ pre x rest W, linesF z0.size z0 = pre ++ x :: rest → J pre W → YieldAt Fence.wide (n - 1) Tryd.prog l #[.string x] W fun e W' => (e = .returned (.bool true) ∧ J (pre ++ [x]) W' ∧ W'.heap[B]? = W.heap[B]?) ∨ (e = .returned (.bool false) ∧ Jx W'))
  (h63 : z0.size ≤ 9223372036854775806) (W : World) (hB : Boxed W B 9 (.string z0)) (h0 : J [] W) :
  CallsIn Fence.wide n Tryd.prog 28 #[.func (.yield l) #[] #[], .pointer (some ⟨B, 0, none⟩)] W fun e W' => (∃ v, e = .returned v) ∧ (J (linesF z0.size z0) W' ∨ Jx W') := by
 have hmix : Tryd.prog.follows .mixedOrders = true := by kernel_rfl
 refine callsIn_of_wp Tryd.func28 rfl trivial ?_ rfl
 simp only [Tryd.ntmps28, List.size_toArray, List.length_cons, List.length_nil, Nat.reduceAdd, Nat.reduceSub, Array.replicate_succ, Array.replicate_zero, List.push_toArray, List.append_toArray, List.nil_append, List.cons_append]
 gi_wp2
 gi_loopw [] (fun wr => ∃ (pre : List ByteArray) (z : ByteArray) (k : Nat), linesF z0.size z0 = pre ++ linesF k z ∧ z.size ≤ k ∧ z.size ≤ z0.size ∧ Boxed wr B 9 (.string z) ∧ J pre wr) (fun wr => leftOf B wr)
 case atStart =>
  exact ⟨[], z0, z0.size, rfl, Nat.le_refl _, Nat.le_refl _, hB, h0⟩
 case round =>
  obtain ⟨pre, z, k, hl, hk, hz, hb, hJ⟩ := hrel
  have hc := hb.cell
  have hf := hb.frozen
  by_cases hz0 : z.size = 0
  ·
   have d0 : decide ((0 : Int) < (z.size : Int)) = false := by simp [hz0]
   gi_wp2
   go_end0
   refine ⟨⟨_, rfl⟩, .inl ?_⟩
   rw [hl]
   cases k with
   | zero => simpa [linesF] using hJ
   | succ k => simpa [linesF, hz0] using hJ
  ·
   have d0 : decide ((0 : Int) < (z.size : Int)) = true := by simp; omega
   by_cases hi : 0 ≤ Lib.indexByte z.data.toList 10
   ·
    obtain ⟨i, hie⟩ : ∃ i : Nat, Lib.indexByte z.data.toList 10 = (i : Int) := ⟨_, (Int.toNat_of_nonneg hi).symm⟩
    have hlt : i < z.size := by
     have h1 := (Lib.indexByte_some hie).1
     have h2 := (List.getElem?_eq_some_iff.1 h1).1
     simpa using h2
    have d1 : decide ((0 : Int) ≤ (i : Int)) = true := by simp
    have hw : wrap64 ((i : Int) + 1) = (i : Int) + 1 := by unfold wrap64; omega
    have b1 : (0 : Int) ≤ (i : Int) + 1 := by omega
    have b2 : (i : Int) + 1 ≤ (z.size : Int) := by omega
    have b3 : (z.size : Int) ≤ (z.size : Int) := by omega
    have htn : ((i : Int) + 1).toNat = i + 1 := by omega
    have hJ' := hD _ _ (hS _ _ (.string (z.extract (i + 1) z.size)) hJ)
    obtain ⟨k, rfl⟩ : ∃ k', k = k' + 1 := ⟨k - 1, by omega⟩
    have hstep : linesF (k + 1) z = z.extract 0 (i + 1) :: linesF k (z.extract (i + 1) z.size) := by
     simp only [linesF]
     rw [if_neg hz0, hie, if_pos (by omega), htn]
    rw [hstep] at hl
    obtain ⟨fn, tmps, assign, body, hy, hR⟩ := hY pre (z.extract 0 (i + 1)) _ _ hl hJ'
    gi_wp2_with (refine ⟨trivial, (fun h => by simp [Fence.wide] at h), ?_⟩; refine (callsIn_wide.2 (index_nl z _)).mono ?_; rintro e w1 ⟨rfl, rfl⟩; rw [hie])
    gi_big_region_o
    gi_wp2
    refine ⟨fun h => by simp [Fence.wide] at h, ?_⟩
    refine hR.mono ?_
    rintro e W3 (⟨rfl, hJ3, hB3⟩ | ⟨rfl, hJx3⟩)
    ·
     have hb3 : Boxed W3 B 9 (.string (z.extract (i + 1) z.size)) := hB3.trans (hb.set _)
     have hsz : (z.extract (i + 1) z.size).size < z.size := by rw [ByteArray.size_extract]; omega
     gi_wp2
     go_roundw
     case rel =>
      exact ⟨pre ++ [z.extract 0 (i + 1)], z.extract (i + 1) z.size, k, by rw [hl, List.append_assoc, List.singleton_append], by omega, by omega, hb3, hJ3⟩
     case measure =>
      simp only [leftOf, hb3.cell, hc]
      exact hsz
    ·
     gi_wp2
     refine bodyPost_ret (results_none rfl _ _ _) rfl ?_
     exact ⟨⟨_, rfl⟩, .inr hJx3⟩
   ·
    have d1 : decide ((0 : Int) ≤ Lib.indexByte z.data.toList 10) = false := by simpa using hi
    have hJ' := hS _ _ (.string ⟨#[]⟩) hJ
    obtain ⟨k, rfl⟩ : ∃ k', k = k' + 1 := ⟨k - 1, by omega⟩
    have hstep : linesF (k + 1) z = [z] := by
     simp only [linesF]
     rw [if_neg hz0, if_neg (by omega)]
    rw [hstep] at hl
    obtain ⟨fn, tmps, assign, body, hy, hR⟩ := hY pre z [] _ hl hJ'
    gi_wp2_with (refine ⟨trivial, (fun h => by simp [Fence.wide] at h), ?_⟩; refine (callsIn_wide.2 (index_nl z _)).mono ?_; rintro e w1 ⟨rfl, rfl⟩)
    refine ⟨fun h => by simp [Fence.wide] at h, ?_⟩
    refine hR.mono ?_
    rintro e W3 (⟨rfl, hJ3, hB3⟩ | ⟨rfl, hJx3⟩)
    ·
     have hb3 : Boxed W3 B 9 (.string ⟨#[]⟩) := hB3.trans (hb.set _)
     gi_wp2
     go_roundw
     case rel =>
      exact ⟨pre ++ [z], ⟨#[]⟩, k, by rw [hl, linesF_nil, List.append_nil], Nat.zero_le _, Nat.zero_le _, hb3, hJ3⟩
     case measure =>
      simp only [leftOf, hb3.cell, hc]
      show 0 < z.size
      omega
    ·
     gi_wp2
     refine bodyPost_ret (results_none rfl _ _ _) rfl ?_
     exact ⟨⟨_, rfl⟩, .inr hJx3⟩
theorem lines_made (z : ByteArray) (w : World) : Calls Tryd.prog 13 #[.string z] w fun e w' => e = .returned (.func (.func 28) #[] #[.pointer (some ⟨w.heap.size, 0, none⟩)]) ∧ w' = w.alloc (.cells #[.string z] 9) := by
 go_enter Tryd.func13, Tryd.ntmps13
 go_wp2
 go_ret
 exact ⟨rfl, rfl⟩
/-- The warnings of lines: none, if a line is no warning. -/
def poL (k : Nat) : List ByteArray → List S31 → Option (Option (List S31))
 | [], acc => some (some acc)
 | x :: r, acc => (strings_TrimSuffix.f x ⟨#[10]⟩).bind fun t => (impl_ParseWarning.f k t).bind fun p => if p.2.2.2.2.2.2 = true then (if acc.length < 1000000 then poL k r (acc ++ [⟨p.1, p.2.1, p.2.2.1, p.2.2.2.1, p.2.2.2.2.1, p.2.2.2.2.2.1⟩]) else none) else some none
def poE (k : Nat) : Option (List S31) → Option (List S31 × Bool)
 | none => some ([], false)
 | some l => (impl_isOverview.f k l).bind fun t => if t = true then some (l, true) else some ([], false)
def impl_ParseOverview.f (k : Nat) (a0 : ByteArray) : Option (List S31 × Bool) :=
 if (a0.toList == [78, 111, 32, 119, 97, 114, 110, 105, 110, 103, 115, 46, 10]) = true then some ([], true)
 else if a0.size ≤ 4000 then (strings_HasSuffix.f a0 ⟨#[10]⟩).bind fun t => (if t = true then (poL k (linesF a0.size a0) []).bind fun o => poE k o else some ([], false))
 else some ([], false)
theorem poL_mono (k : Nat) : ∀ zs acc, LeO (poL k zs acc) (poL (k + 1) zs acc)
 | [], acc => LeO.refl _
 | x :: r, acc => by
  unfold poL
  refine LeO.bind (LeO.refl _) fun t => LeO.bind (impl_ParseWarning.mono t k) fun p => ?_
  split
  ·
   split
   ·
    exact poL_mono k r _
   ·
    exact LeO.refl _
  ·
   exact LeO.refl _
theorem poE_mono (k : Nat) : ∀ o, LeO (poE k o) (poE (k + 1) o)
 | none => LeO.refl _
 | some l => LeO.bind (impl_isOverview.mono l k) fun t => LeO.refl _
theorem boxed_far {W : World} {B b : Nat} {t : TypeId} {v : Value} (h : Boxed W b t v) (hne : b ≠ B) (u : Value) : Boxed (W.setCell ⟨B, 0, none⟩ u) b t v := (Below.heap_setCell W ⟨B, 0, none⟩ u b hne).trans h
theorem boxed_below {W W' : World} {b : Nat} {t : TypeId} {v : Value} (h : Boxed W b t v) (hb : Below W.heap.size W W') : Boxed W' b t v := (hb.block b h.lt).trans h
theorem boxed_grown {W W' : World} {b : Nat} {t : TypeId} {v : Value} (h : Boxed W b t v) {row : Option Nat} (hg : W.grownBy W' row) (hr : ∀ r, row = some r → ∃ o : Obj, W.heap[r]? = some o ∧ o.isCells = false) : Boxed W' b t v :=
 h.kept hg fun e => by
  obtain ⟨o, ho, hc⟩ := hr b e.symm
  rw [show W.heap[b]? = _ from h] at ho
  cases ho
  cases hc
theorem rows_grown {α : Type} {d : Kd α} {e : Nat} {W W' : World} {base : Nat} {v : Value} {xs : List α} (h : Kd.R d e W base (fun _ => True) v xs) {row : Option Nat} (hg : W.grownBy W' row) (hr : ∀ r, row = some r → ∃ o : Obj, W.heap[r]? = some o ∧ o.isCells = false) : Kd.R d e W' base (fun _ => True) v xs :=
 Kd.R_mono (Kd.R_grown (Kd.R_bound h) hg fun k hk e => by
  obtain ⟨o, ho, hc⟩ := hr k e.symm
  obtain ⟨_, _, _, q, _, cells, hc'⟩ := hk
  rw [hc'] at ho
  cases ho
  cases hc) (fun _ _ => trivial)
theorem impl_ParseOverview.res (tmps : Array Value) (W : World) (b2 b3 : Nat) (v : Value) (u : Bool) (h2 : tmps[2]?.getD undef = .pointer (some ⟨b2, 0, none⟩)) (h3 : tmps[3]?.getD undef = .pointer (some ⟨b3, 0, none⟩)) (H2 : Boxed W b2 22 v) (H3 : Boxed W b3 4 (.bool u)) :
  (results Tryd.f5 tmps).run Tryd.prog W = .ok (.tuple #[v, .bool u]) W := by
 have hc2 := H2.cell
 have hc3 := H3.cell
 have u2 := Tryd.underlying22
 have u3 := Tryd.underlying4
 simp [results, show Tryd.f5.results = #[.cell 2 22, .cell 3 4] from rfl, h2, h3, asAddr, go_sem, loadVar, u2, u3, hc2, hc3]
theorem own_of_rows {α : Type} {d : Kd α} {e : Nat} {W : World} {base : Nat} {v : Value} {xs : List α} (h : Kd.R d e W base (fun _ => True) v xs) : ∃ inner, W.ownsRow base e d.sz v xs.length inner ∧ Reps (d.M W base (fun k => True ∧ some k ≠ v.ownBlock)) d.sz xs inner := by
 obtain ⟨_, inner, ho, hr⟩ := h
 exact ⟨inner, ho, hr⟩
theorem keepsO_below {W W' : World} (hb : Below W.heap.size W W') : KeepsOthers W W' := ⟨hb.size, fun k o hk _ => (hb.block k (Array.getElem?_eq_some_iff.1 hk).1).trans hk⟩
theorem rows_more {W W' : World} {base : Nat} {v' : Value} {acc : List S31} {inner : List Value} {ok : Nat → Prop} (p1 p2 p3 p4 p5 p6 : Int) (hr : Reps (k31.M W base ok) 6 acc inner)
  (ho : W'.ownsRow base 31 6 v' (acc.length + 1) (inner ++ [.int .i64 p1, .int .i64 p2, .int .i64 p3, .int .i64 p4, .int .i64 p5, .int .i64 p6])) : Kd.R k31 31 W' base (fun _ => True) v' (acc ++ [⟨p1, p2, p3, p4, p5, p6⟩]) :=
 ⟨fun _ _ => trivial, _, by rw [List.length_append, List.length_singleton]; exact ho, (hr.imp_ (fun x c hq => by rw [k31_openM hq]; exact k31_mkM _ _ _ _)).snoc (k31_mkM _ _ _ ⟨p1, p2, p3, p4, p5, p6⟩) rfl⟩
/-- Between two rounds: the warnings of the lines that have come stand in the list. -/
def PoI (w : World) (k : Nat) (zs : List ByteArray) (o : Option (List S31)) (pre : List ByteArray) (W : World) : Prop :=
 ∃ (v : Value) (acc : List S31), Boxed W (w.heap.size + 1 + 1) 22 v ∧ Boxed W w.heap.size 22 (.slice none 0 0) ∧ Boxed W (w.heap.size + 1) 4 (.bool false) ∧ (∃ u, Boxed W (w.heap.size + 1 + 1 + 1) 9 u) ∧ Kd.R k31 31 W w.heap.size (fun _ => True) v acc ∧ Below w.heap.size w W ∧ ∀ rest, zs = pre ++ rest → poL k rest acc = some o
/-- Where a line was no warning. -/
def PoX (w : World) (o : Option (List S31)) (W : World) : Prop :=
 Boxed W w.heap.size 22 (.slice none 0 0) ∧ Boxed W (w.heap.size + 1) 4 (.bool false) ∧ Below w.heap.size w W ∧ o = none
theorem PoI.own (w : World) (k : Nat) (zs : List ByteArray) (o : Option (List S31)) {D : Nat} (hD : w.heap.size ≤ D) : OwnFrom D (PoI w k zs o) := by
 rintro pre W W' row ⟨v, acc, h4, h2, h3, ⟨u, hB⟩, hR, hb, hP⟩ hg hr
 have hr' := fun r e => (hr r e).2
 exact ⟨v, acc, boxed_grown h4 hg hr', boxed_grown h2 hg hr', boxed_grown h3 hg hr', ⟨u, boxed_grown hB hg hr'⟩, rows_grown hR hg hr', ownFrom_below (β := Unit) (Nat.le_refl _) hD () W W' row hb hg hr, hP⟩
theorem PoX.own (w : World) (o : Option (List S31)) {D : Nat} (hD : w.heap.size ≤ D) : OwnFrom D (fun (_ : Unit) => PoX w o) := by
 rintro pre W W' row ⟨h2, h3, hb, ho⟩ hg hr
 have hr' := fun r e => (hr r e).2
 exact ⟨boxed_grown h2 hg hr', boxed_grown h3 hg hr', ownFrom_below (β := Unit) (Nat.le_refl _) hD () W W' row hb hg hr, ho⟩
theorem PoI.set {w : World} {k : Nat} {zs : List ByteArray} {o : Option (List S31)} (pre : List ByteArray) (W : World) (u' : Value) (h : PoI w k zs o pre W) : PoI w k zs o pre (W.setCell ⟨w.heap.size + 1 + 1 + 1, 0, none⟩ u') := by
 obtain ⟨v, acc, h4, h2, h3, ⟨u, hB⟩, hR, hb, hP⟩ := h
 exact ⟨v, acc, boxed_far h4 (by omega) _, boxed_far h2 (by omega) _, boxed_far h3 (by omega) _, ⟨u', hB.set _⟩, Kd.R_set hR hB (by decide) 0 u', hb.setCell (p := ⟨w.heap.size + 1 + 1 + 1, 0, none⟩) (by show w.heap.size ≤ w.heap.size + 1 + 1 + 1; omega) _, hP⟩
theorem PoI.drew {w : World} {k : Nat} {zs : List ByteArray} {o : Option (List S31)} (pre : List ByteArray) (W : World) (h : PoI w k zs o pre W) : PoI w k zs o pre W.drew := by
 obtain ⟨v, acc, h4, h2, h3, ⟨u, hB⟩, hR, hb, hP⟩ := h
 exact ⟨v, acc, h4, h2, h3, ⟨u, hB⟩, Kd.R_drew hR, hb.drew, hP⟩
set_option maxHeartbeats 8000000 in
set_option maxRecDepth 100000 in
theorem impl_ParseOverview.calls (k : Nat) (a0 : ByteArray) (r1 : List S31) (r2 : Bool) (w : World) (htE : TabE w) (htL : TabL w) (htM : TabM w) (htN : TabN w) (htO : TabO w) (h : impl_ParseOverview.f k a0 = some (r1, r2)) :
  Calls Tryd.prog 5 #[.string a0] w fun e w' => ∃ v0_ : Value, e = .returned (.tuple #[v0_, .bool r2]) ∧ Kd.R k31 31 w' w.heap.size (fun _ => True) v0_ r1 ∧ Below w.heap.size w w' := by
 have hu := Tryd.underlying31
 have h2 := fun (o : Obj) => Boxed.new w 22 (.slice none 0 0)
 unfold impl_ParseOverview.f at h
 split at h
 ·
  rename_i c1
  injection h with h
  obtain ⟨rfl, rfl⟩ := Prod.mk.inj h
  refine (callsIn_wide (n := 3)).1 ?_
  refine callsIn_of_wp_marks Tryd.func5 rfl trivial ?_ rfl
  simp only [Tryd.ntmps5, List.size_toArray, List.length_cons, List.length_nil, Nat.reduceAdd, Nat.reduceSub, Array.replicate_succ, Array.replicate_zero, List.push_toArray, List.append_toArray, List.nil_append, List.cons_append]
  gi_wp2
  have H2 : Boxed ((w.alloc (.cells #[.slice none 0 0] 22)).alloc (.cells #[.bool true] 4)) w.heap.size 22 (.slice none 0 0) := (Boxed.new w _ _).alloc _
  have H3 := Boxed.new (w.alloc (.cells #[.slice none 0 0] 22)) 4 (.bool true)
  rw [World.size_alloc] at H3
  exact ⟨_, impl_ParseOverview.res _ _ _ _ _ _ rfl rfl H2 H3, _, rfl, Kd.R_nil _ _ _ _ _, ((Below.refl _ w).alloc (Nat.le_refl _) _).alloc (by simp) _⟩
 ·
  rename_i c1
  replace c1 := Bool.eq_false_iff.mpr c1
  split at h
  ·
   rename_i c2
   obtain ⟨t, ht, h⟩ := Option.bind_eq_some_iff.1 h
   cases t with
   | true =>
    rw [if_pos rfl] at h
    obtain ⟨o, ho, h⟩ := Option.bind_eq_some_iff.1 h
    have d0 : decide ((4000 : Int) < (a0.size : Int)) = false := decide_eq_false (by omega)
    refine (callsIn_wide (n := 3)).1 ?_
    refine callsIn_of_wp_marks Tryd.func5 rfl trivial ?_ rfl
    simp only [Tryd.ntmps5, List.size_toArray, List.length_cons, List.length_nil, Nat.reduceAdd, Nat.reduceSub, Array.replicate_succ, Array.replicate_zero, List.push_toArray, List.append_toArray, List.nil_append, List.cons_append]
    gi_wp2_with (first | (refine ⟨trivial, ?_⟩; refine (callsIn_wide.2 (strings_HasSuffix.calls a0 ⟨#[10]⟩ true _ ht)).mono ?_; rintro e w1 ⟨rfl, nd, rfl⟩) | (refine ⟨trivial, ?_⟩; refine (callsIn_wide.2 (lines_made a0 _)).mono ?_; rintro e w2 ⟨rfl, rfl⟩))
    have HW : ∃ W0, ((((w.alloc (.cells #[.slice none 0 0] 22)).alloc (.cells #[.bool false] 4)).drewN nd).alloc (.cells #[.slice none 0 0] 22)).alloc (.cells #[.string a0] 9) = W0 := ⟨_, rfl⟩
    obtain ⟨W0, hW0⟩ := HW
    have G2 : Boxed W0 w.heap.size 22 (.slice none 0 0) := by rw [← hW0]; exact (Boxed.alloc (W := ((w.alloc _).alloc _).drewN nd) ((Boxed.new w _ _).alloc _) _).alloc _
    have G3 : Boxed W0 (w.heap.size + 1) 4 (.bool false) := by
     have := Boxed.new (w.alloc (.cells #[.slice none 0 0] 22)) 4 (.bool false)
     rw [World.size_alloc] at this
     rw [← hW0]; exact (Boxed.alloc (W := ((w.alloc _).alloc _).drewN nd) this _).alloc _
    have G4 : Boxed W0 (w.heap.size + 1 + 1) 22 (.slice none 0 0) := by
     have := Boxed.new (((w.alloc (.cells #[.slice none 0 0] 22)).alloc (.cells #[.bool false] 4)).drewN nd) 22 (.slice none 0 0)
     rw [show (((w.alloc (.cells #[.slice none 0 0] 22)).alloc (.cells #[.bool false] 4)).drewN nd).heap.size = w.heap.size + 1 + 1 from by simp] at this
     rw [← hW0]; exact this.alloc _
    have GB : Boxed W0 (w.heap.size + 1 + 1 + 1) 9 (.string a0) := by
     have := Boxed.new ((((w.alloc (.cells #[.slice none 0 0] 22)).alloc (.cells #[.bool false] 4)).drewN nd).alloc (.cells #[.slice none 0 0] 22)) 9 (.string a0)
     rw [show ((((w.alloc (.cells #[.slice none 0 0] 22)).alloc (.cells #[.bool false] 4)).drewN nd).alloc (.cells #[.slice none 0 0] 22)).heap.size = w.heap.size + 1 + 1 + 1 from by simp] at this
     rw [← hW0]; exact this
    have GW : Below w.heap.size w W0 := by
     rw [← hW0]
     exact (((pw_below_drewN (((Below.refl _ w).alloc (Nat.le_refl _) _).alloc (by simp) _) nd).alloc (by simp; omega) _).alloc (by simp; omega) _)
    rw [hW0]
    refine wp_rangeBox (n := 3) rfl (enters_of Tryd.func28 (by kernel_rfl) rfl) rfl (w.heap.size + 1 + 1 + 1) GB.lt (linesF a0.size a0) ?seq (PoI w k (linesF a0.size a0) o) (PoX w o) (PoI.own w k _ o GW.size) (PoX.own w o GW.size) PoI.set PoI.drew ?start
     (fun x => { tmps := #[.string a0, undef, .pointer (some ⟨w.heap.size, 0, none⟩), .pointer (some ⟨w.heap.size + 1, 0, none⟩), .pointer (some ⟨w.heap.size + 1 + 1, 0, none⟩), .string x, undef, undef, .string a0, .bool false, .string a0, .int .i64 (a0.size : Int), .bool false, .bool false, .string a0, .bool true, .bool false, .bool false, .string a0, .func (.func 28) #[] #[.pointer (some ⟨w.heap.size + 1 + 1 + 1, 0, none⟩)], .string x, undef, undef, undef, undef, undef, undef, undef, undef, undef, undef, undef, undef, undef, undef, undef, undef], defers := [] }) ?assign ?body ?done ?stop
    case seq => exact fun l J Jx W hS hD hY hBW h0 => lines_in 2 l (w.heap.size + 1 + 1 + 1) J Jx hS hD a0 hY (by omega) W (hBW.trans GB) h0
    case start => exact ⟨_, [], G4, G2, G3, ⟨_, GB⟩, Kd.R_nil _ _ _ _ _, GW, fun rest e => by rw [List.nil_append] at e; rw [← e]; exact ho⟩
    case assign =>
     intro l x W K hK
     gi_wp2
     exact hK
    case body =>
     rintro l pre x rest W hzs ⟨v, acc, h4, g2, g3, ⟨u, gB⟩, hR, hb, hP⟩ hsz
     have hp := hP _ hzs
     unfold poL at hp
     obtain ⟨t, ht, hp⟩ := Option.bind_eq_some_iff.1 hp
     obtain ⟨⟨p1, p2, p3, p4, p5, p6, p7⟩, hpw, hp⟩ := Option.bind_eq_some_iff.1 hp
     dsimp only at hp
     cases p7 with
     | true =>
      rw [if_pos rfl] at hp
      split at hp
      ·
       rename_i hlen
       gi_wp2_with (first | (refine ⟨trivial, ?_⟩; refine (CallsIn.inRound l (callsIn_wide.2 (strings_TrimSuffix.calls x ⟨#[10]⟩ t _ ht))).mono ?_; rintro e W1 ⟨rfl, nd1, rfl⟩) | (refine ⟨trivial, ?_⟩; refine (CallsIn.inRound l (callsIn_wide.2 (impl_ParseWarning.calls k t p1 p2 p3 p4 p5 p6 true _ (htE.below (pw_below_drewN hb _)) (htL.below (pw_below_drewN hb _)) (htM.below (pw_below_drewN hb _)) (htN.below (pw_below_drewN hb _)) (htO.below (pw_below_drewN hb _)) hpw))).mono ?_; rintro e W2 ⟨rfl, hb2⟩; have Hb := (pw_below_drewN hb nd1).trans (hb2.mono (pw_below_drewN hb nd1).size); have q4 := boxed_below (W := W.drewN nd1) h4 hb2; have q2 := boxed_below (W := W.drewN nd1) g2 hb2; have q3 := boxed_below (W := W.drewN nd1) g3 hb2; have qB := boxed_below (W := W.drewN nd1) gB hb2; have qR := Kd.R_below (Kd.R_drewN hR nd1) hb2; have qc4 : ∀ o, (W2.alloc o).cell? ⟨w.heap.size + 1 + 1, 0, none⟩ = some v := fun o => (q4.alloc o).cell; have hown : ∃ inner, (W2.alloc (.cells #[.int .i64 p1, .int .i64 p2, .int .i64 p3, .int .i64 p4, .int .i64 p5, .int .i64 p6] 31)).ownsRow w.heap.size 31 6 v acc.length inner ∧ Reps (k31.M (W2.alloc (.cells #[.int .i64 p1, .int .i64 p2, .int .i64 p3, .int .i64 p4, .int .i64 p5, .int .i64 p6] 31)) w.heap.size (fun k => True ∧ some k ≠ v.ownBlock)) 6 acc inner := own_of_rows (Kd.R_alloc qR _); obtain ⟨inner, hin, hrep⟩ := hown; obtain ⟨i0, hi0, hz0, hz1, hz2⟩ := info_parts info31) | (gi_at_builtin; refine wpListIn_append_own _ rfl _ _ 22 rfl w.heap.size 31 i0 _ 6 48 Tryd.underlying22 hi0 hz0 hz1 hz2 rfl (by decide) _ _ _ rfl (hin.alloc _) ⟨_, 0, none⟩ 1 1 [.int .i64 p1, .int .i64 p2, .int .i64 p3, .int .i64 p4, .int .i64 p5, .int .i64 p6] rfl rfl (by simpa using World.news_of_block (cs := #[.int .i64 p1, .int .i64 p2, .int .i64 p3, .int .i64 p4, .int .i64 p5, .int .i64 p6]) (t := 31) (fr := (0, 0)) (heap_alloc_new (W2.alloc (.cells #[.int .i64 p1, .int .i64 p2, .int .i64 p3, .int .i64 p4, .int .i64 p5, .int .i64 p6] 31)) (.cells #[.int .i64 p1, .int .i64 p2, .int .i64 p3, .int .i64 p4, .int .i64 p5, .int .i64 p6] 31))) (by simp [Value.oneCell']) (by simp only [maxLen]; omega) (by omega) (by have := Hb.size; simp; omega) ?_; intro v' w1 hown' hgrow _; obtain ⟨g', cap', rfl⟩ := ownsRow_succ hown'; obtain ⟨x1, x2, x3, x4, x5⟩ := (q4.alloc (.cells #[.int .i64 p1, .int .i64 p2, .int .i64 p3, .int .i64 p4, .int .i64 p5, .int .i64 p6] 31)).appended (by decide) hin (by have := Hb.size; simp; omega) (by omega) hown' hgrow; have y4 := x1.cell; have z4 := x1.frozen))
       have far : ∀ {b t u}, Boxed W2 b t u → t ≠ 31 → b ≠ w.heap.size + 1 + 1 → Boxed (w1.setCell ⟨w.heap.size + 1 + 1, 0, none⟩ (.slice (some ⟨g', 0, none⟩) (acc.length + 1) cap')) b t u := fun {b t u} q ht hne =>
        boxed_far ((((q.alloc (.cells #[.int .i64 p1, .int .i64 p2, .int .i64 p3, .int .i64 p4, .int .i64 p5, .int .i64 p6] 31)).alloc (.cells #[.int .i64 p1, .int .i64 p2, .int .i64 p3, .int .i64 p4, .int .i64 p5, .int .i64 p6] 31)).kept hgrow (((q.alloc (.cells #[.int .i64 p1, .int .i64 p2, .int .i64 p3, .int .i64 p4, .int .i64 p5, .int .i64 p6] 31)).alloc (.cells #[.int .i64 p1, .int .i64 p2, .int .i64 p3, .int .i64 p4, .int .i64 p5, .int .i64 p6] 31)).not_row ht (hin.alloc _)))) hne _
       have fB := far qB (by decide) (by omega)
       refine ⟨((((⟨Nat.le_refl _, fun _ _ h _ => h⟩ : KeepsOthers W (W.drewN nd1)).trans (keepsO_below hb2)).trans (KeepsOthers.alloc W2 (.cells #[.int .i64 p1, .int .i64 p2, .int .i64 p3, .int .i64 p4, .int .i64 p5, .int .i64 p6] 31))).trans x4).from _, Eq.trans fB (Eq.symm gB), _, acc ++ [⟨p1, p2, p3, p4, p5, p6⟩], x2, far q2 (by decide) (by omega), far q3 (by decide) (by omega), ⟨u, fB⟩, rows_more p1 p2 p3 p4 p5 p6 hrep x3, (Hb.alloc (Nat.le_trans hb.size hb2.size) (.cells #[.int .i64 p1, .int .i64 p2, .int .i64 p3, .int .i64 p4, .int .i64 p5, .int .i64 p6] 31)).trans x5, fun rest' e => ?_⟩
       rw [hzs, List.append_assoc] at e
       have e1 := List.append_cancel_left e
       rw [List.singleton_append] at e1
       injection e1 with _ e2
       rw [← e2]
       exact hp
      ·
       cases hp
     | false =>
      rw [if_neg (by simp)] at hp
      injection hp with hp
      subst hp
      gi_wp2_with (first | (refine ⟨trivial, ?_⟩; refine (CallsIn.inRound l (callsIn_wide.2 (strings_TrimSuffix.calls x ⟨#[10]⟩ t _ ht))).mono ?_; rintro e W1 ⟨rfl, nd1, rfl⟩) | (refine ⟨trivial, ?_⟩; refine (CallsIn.inRound l (callsIn_wide.2 (impl_ParseWarning.calls k t p1 p2 p3 p4 p5 p6 false _ (htE.below (pw_below_drewN hb _)) (htL.below (pw_below_drewN hb _)) (htM.below (pw_below_drewN hb _)) (htN.below (pw_below_drewN hb _)) (htO.below (pw_below_drewN hb _)) hpw))).mono ?_; rintro e W2 ⟨rfl, hb2⟩; have Hb := (pw_below_drewN hb nd1).trans (hb2.mono (pw_below_drewN hb nd1).size); have q2 := boxed_below (W := W.drewN nd1) g2 hb2; have q3 := boxed_below (W := W.drewN nd1) g3 hb2; have k2 : ∀ o, (W2.alloc o).cell? ⟨w.heap.size, 0, none⟩ = some (.slice none 0 0) := fun o => (q2.alloc o).cell; have k3 : ∀ o, (W2.alloc o).cell? ⟨w.heap.size + 1, 0, none⟩ = some (.bool false) := fun o => (q3.alloc o).cell; have f2 : ∀ o, (W2.alloc o).frozen? ⟨w.heap.size, 0, none⟩ = false := fun o => (q2.alloc o).frozen; have f3 : ∀ o, (W2.alloc o).frozen? ⟨w.heap.size + 1, 0, none⟩ = false := fun o => (q3.alloc o).frozen))
      refine ⟨?kf, ?b2, ?b3, ?bw, rfl⟩
      case kf => exact (((((⟨Nat.le_refl _, fun _ _ h _ => h⟩ : KeepsOthers W (W.drewN nd1)).trans (keepsO_below hb2)).trans (KeepsOthers.alloc _ _)).trans (KeepsOthers.setCell _ _ _)).trans (KeepsOthers.setCell _ _ _)).from _
      case b2 => exact boxed_far ((q2.alloc _).set _) (by omega) _
      case b3 => exact (boxed_far (q3.alloc _) (by omega) _).set _
      case bw => exact ((Hb.alloc (Nat.le_trans hb.size hb2.size) _).setCell (p := ⟨w.heap.size, 0, none⟩) (Nat.le_refl _) _).setCell (p := ⟨w.heap.size + 1, 0, none⟩) (Nat.le_succ _) _
    case done =>
     rintro D W hD ⟨v, acc, h4, g2, g3, ⟨u, gB⟩, hR, hb, hP⟩ hK
     have hp := hP [] (by rw [List.append_nil])
     injection hp with hp
     subst hp
     obtain ⟨t, hto, h⟩ := Option.bind_eq_some_iff.1 h
     obtain ⟨A1, c1, hv, hc1, hC1⟩ := Kd.R_reads hR
     subst hv
     have hc4 := h4.cell
     cases t with
     | true =>
      rw [if_pos rfl] at h
      injection h with h
      obtain ⟨rfl, rfl⟩ := Prod.mk.inj h
      gi_wp2_with (refine ⟨trivial, ?_⟩; refine (callsIn_wide.2 (impl_isOverview.calls k A1 c1 acc true _ hC1 hc1 hto)).mono ?_; rintro e W3 ⟨rfl, hb3⟩; have q4 := boxed_below h4 hb3; have q2 := boxed_below g2 hb3; have q3 := boxed_below g3 hb3; have k4 := q4.cell; have k2 := q2.cell; have k3 := q3.cell; have f2 := q2.frozen; have f3 := q3.frozen)
      have hD4 : w.heap.size + 1 + 1 + 1 < D := Nat.lt_of_lt_of_le GB.lt hD
      have hKK : ((W3.setCell ⟨w.heap.size, 0, none⟩ (.slice A1 acc.length c1)).setCell ⟨w.heap.size + 1, 0, none⟩ (.bool true)).heap[D]? = some (.deferred (some [])) := (Below.heap_setCell _ ⟨w.heap.size + 1, 0, none⟩ _ D (by show D ≠ w.heap.size + 1; omega)).trans ((Below.heap_setCell _ ⟨w.heap.size, 0, none⟩ _ D (by show D ≠ w.heap.size; omega)).trans ((hb3.block D (Array.getElem?_eq_some_iff.1 hK).1).trans hK))
      refine ⟨by simp, .inl ⟨_, _, rfl, run_takeDeferred hKK, ?_⟩⟩
      have e2 : Boxed (((W3.setCell ⟨w.heap.size, 0, none⟩ (.slice A1 acc.length c1)).setCell ⟨w.heap.size + 1, 0, none⟩ (.bool true)).putObj D (.deferred none)) w.heap.size 22 (.slice A1 acc.length c1) := (World.putObj_heap_other (by omega)).trans (boxed_far (q2.set _) (by omega) _)
      have e3 : Boxed (((W3.setCell ⟨w.heap.size, 0, none⟩ (.slice A1 acc.length c1)).setCell ⟨w.heap.size + 1, 0, none⟩ (.bool true)).putObj D (.deferred none)) (w.heap.size + 1) 4 (.bool true) := (World.putObj_heap_other (by omega)).trans ((boxed_far q3 (by omega) _).set _)
      have hB3 := hb.trans (hb3.mono hb.size)
      refine ⟨_, impl_ParseOverview.res _ _ _ _ _ _ rfl rfl e2 e3, _, rfl, ?rows, ?bel⟩
      case rows =>
       refine rows_grown (W := (W3.setCell ⟨w.heap.size, 0, none⟩ (.slice A1 acc.length c1)).setCell ⟨w.heap.size + 1, 0, none⟩ (.bool true)) ?_ (grownBy_putObj' _ D _) (fun r e => by cases e; exact ⟨_, hKK, rfl⟩)
       exact Kd.R_set (Kd.R_set (Kd.R_below hR hb3) q2 (by decide) 0 _) (boxed_far q3 (by omega) _) (by decide) 0 _
      case bel =>
       have hbb := (hB3.setCell (p := ⟨w.heap.size, 0, none⟩) (Nat.le_refl _) (.slice A1 acc.length c1)).setCell (p := ⟨w.heap.size + 1, 0, none⟩) (Nat.le_succ _) (.bool true)
       exact hbb.trans (belowK_b (w := w) (Nat.le_refl _) _ D _ _ (by omega) hKK rfl rfl)
     | false =>
      rw [if_neg (by simp)] at h
      injection h with h
      obtain ⟨rfl, rfl⟩ := Prod.mk.inj h
      gi_wp2_with (refine ⟨trivial, ?_⟩; refine (callsIn_wide.2 (impl_isOverview.calls k A1 c1 acc false _ hC1 hc1 hto)).mono ?_; rintro e W3 ⟨rfl, hb3⟩; have q4 := boxed_below h4 hb3; have q2 := boxed_below g2 hb3; have q3 := boxed_below g3 hb3; have k4 := q4.cell; have k2 := q2.cell; have k3 := q3.cell; have f2 := q2.frozen; have f3 := q3.frozen)
      have hD4 : w.heap.size + 1 + 1 + 1 < D := Nat.lt_of_lt_of_le GB.lt hD
      have hKK : ((W3.setCell ⟨w.heap.size, 0, none⟩ (.slice none 0 0)).setCell ⟨w.heap.size + 1, 0, none⟩ (.bool false)).heap[D]? = some (.deferred (some [])) := (Below.heap_setCell _ ⟨w.heap.size + 1, 0, none⟩ _ D (by show D ≠ w.heap.size + 1; omega)).trans ((Below.heap_setCell _ ⟨w.heap.size, 0, none⟩ _ D (by show D ≠ w.heap.size; omega)).trans ((hb3.block D (Array.getElem?_eq_some_iff.1 hK).1).trans hK))
      refine ⟨by simp, .inl ⟨_, _, rfl, run_takeDeferred hKK, ?_⟩⟩
      have e2 : Boxed (((W3.setCell ⟨w.heap.size, 0, none⟩ (.slice none 0 0)).setCell ⟨w.heap.size + 1, 0, none⟩ (.bool false)).putObj D (.deferred none)) w.heap.size 22 (.slice none 0 0) := (World.putObj_heap_other (by omega)).trans (boxed_far (q2.set _) (by omega) _)
      have e3 : Boxed (((W3.setCell ⟨w.heap.size, 0, none⟩ (.slice none 0 0)).setCell ⟨w.heap.size + 1, 0, none⟩ (.bool false)).putObj D (.deferred none)) (w.heap.size + 1) 4 (.bool false) := (World.putObj_heap_other (by omega)).trans ((boxed_far q3 (by omega) _).set _)
      have hB3 := hb.trans (hb3.mono hb.size)
      have hbb := (hB3.setCell (p := ⟨w.heap.size, 0, none⟩) (Nat.le_refl _) (.slice none 0 0)).setCell (p := ⟨w.heap.size + 1, 0, none⟩) (Nat.le_succ _) (.bool false)
      exact ⟨_, impl_ParseOverview.res _ _ _ _ _ _ rfl rfl e2 e3, _, rfl, Kd.R_nil _ _ _ _ _, hbb.trans (belowK_b (w := w) (Nat.le_refl _) _ D _ _ (by omega) hKK rfl rfl)⟩
    case stop =>
     rintro D W hD ⟨g2, g3, hb, rfl⟩ hK
     injection h with h
     obtain ⟨rfl, rfl⟩ := Prod.mk.inj h
     gi_wp2
     refine ⟨by simp, .inl ⟨_, _, rfl, run_takeDeferred hK, ?_⟩⟩
     have gg2 : Boxed (W.putObj D (.deferred none)) w.heap.size 22 (.slice none 0 0) := (World.putObj_heap_other (by have := GW.size; have := G2.lt; omega)).trans g2
     have gg3 : Boxed (W.putObj D (.deferred none)) (w.heap.size + 1) 4 (.bool false) := (World.putObj_heap_other (by have := GW.size; have := G3.lt; omega)).trans g3
     exact ⟨_, impl_ParseOverview.res _ _ _ _ _ _ rfl rfl gg2 gg3, _, rfl, Kd.R_nil _ _ _ _ _, hb.trans (belowK_b (w := w) (Nat.le_refl _) W D _ _ (Nat.le_trans GW.size hD) hK rfl rfl)⟩
   | false =>
    rw [if_neg (by simp)] at h
    injection h with h
    obtain ⟨rfl, rfl⟩ := Prod.mk.inj h
    have d0 : decide ((4000 : Int) < (a0.size : Int)) = false := decide_eq_false (by omega)
    refine (callsIn_wide (n := 3)).1 ?_
    refine callsIn_of_wp_marks Tryd.func5 rfl trivial ?_ rfl
    simp only [Tryd.ntmps5, List.size_toArray, List.length_cons, List.length_nil, Nat.reduceAdd, Nat.reduceSub, Array.replicate_succ, Array.replicate_zero, List.push_toArray, List.append_toArray, List.nil_append, List.cons_append]
    gi_wp2_with (refine ⟨trivial, ?_⟩; refine (callsIn_wide.2 (strings_HasSuffix.calls a0 ⟨#[10]⟩ false _ ht)).mono ?_; rintro e w1 ⟨rfl, nd, rfl⟩)
    have H2 : Boxed (((w.alloc (.cells #[.slice none 0 0] 22)).alloc (.cells #[.bool false] 4))) w.heap.size 22 (.slice none 0 0) := (Boxed.new w _ _).alloc _
    have H3 := Boxed.new (w.alloc (.cells #[.slice none 0 0] 22)) 4 (.bool false)
    rw [World.size_alloc] at H3
    have H2' : Boxed (((w.alloc (.cells #[.slice none 0 0] 22)).alloc (.cells #[.bool false] 4)).drewN nd) w.heap.size 22 (.slice none 0 0) := H2
    have H3' : Boxed (((w.alloc (.cells #[.slice none 0 0] 22)).alloc (.cells #[.bool false] 4)).drewN nd) (w.heap.size + 1) 4 (.bool false) := H3
    exact ⟨_, impl_ParseOverview.res _ _ _ _ _ _ rfl rfl (boxed_far (H2'.set (.slice none 0 0)) (by omega) (.bool false)) ((boxed_far H3' (by omega) (.slice none 0 0)).set (.bool false)), _, rfl, Kd.R_nil _ _ _ _ _, ((pw_below_drewN (((Below.refl _ w).alloc (Nat.le_refl _) _).alloc (by simp) _) nd).setCell (p := ⟨w.heap.size, 0, none⟩) (Nat.le_refl _) _).setCell (p := ⟨w.heap.size + 1, 0, none⟩) (Nat.le_succ _) _⟩
  ·
   rename_i c2
   injection h with h
   obtain ⟨rfl, rfl⟩ := Prod.mk.inj h
   have d0 : decide ((4000 : Int) < (a0.size : Int)) = true := decide_eq_true (by omega)
   refine (callsIn_wide (n := 3)).1 ?_
   refine callsIn_of_wp_marks Tryd.func5 rfl trivial ?_ rfl
   simp only [Tryd.ntmps5, List.size_toArray, List.length_cons, List.length_nil, Nat.reduceAdd, Nat.reduceSub, Array.replicate_succ, Array.replicate_zero, List.push_toArray, List.append_toArray, List.nil_append, List.cons_append]
   gi_wp2
   refine ⟨trivial, ?_⟩
   gi_wp2
   have H2 : Boxed (((w.alloc (.cells #[.slice none 0 0] 22)).alloc (.cells #[.bool false] 4))) w.heap.size 22 (.slice none 0 0) := (Boxed.new w _ _).alloc _
   have H3 := Boxed.new (w.alloc (.cells #[.slice none 0 0] 22)) 4 (.bool false)
   rw [World.size_alloc] at H3
   exact ⟨_, impl_ParseOverview.res _ _ _ _ _ _ rfl rfl H2 H3, _, rfl, Kd.R_nil _ _ _ _ _, ((Below.refl _ w).alloc (Nat.le_refl _) _).alloc (by simp) _⟩
end Go.Proofs.YtleadjbfcenofaaDoor.Q
