/- Texts of this claim, put together: walks of the program's functions, and plain facts. -/
import Derived.Test.YtpdeapefekbdpaaZFnTracks
import Derived.Test.YtpdeapefekbdpaaBFnTracks0
namespace Go.Proofs.Ytpdeapefekbdpaa.Q
open Go.RowKit Go.Proofs.YtpdeapefekbdpaaW.PrintWords Go.Proofs.YtpdeapefekbdpaaW.PrintLast Go.Proofs.YtpdeapefekbdpaaW.PrintMore
attribute [local go_sem] max2_int min2_int max_two min_two max_three min_three max_four min_four
set_option linter.unusedVariables false
set_option linter.unusedSimpArgs false
mutual
def spec_l8Parts.l0 : Nat → Int → List Int → List (List Int) → List Int → Int → Option ((List (List Int)))
 | 0, _, _, _, _, _ => none
 | k + 1, x0, x1, x5, x6, x7 => if x7 < (x1.length : Int) then (if 0 ≤ x7 then ((spec_l1Has.f k x6 (rd x1 x7)).bind fun t118 => (if t118 = true then (spec_l8Parts.l0 k x0 x1 x5 x6 (wrap64 (x7 + 1))) else (spec_l8Parts.l1 k x0 x1 x5 x6 x7 (([rd x1 x7] : List Int)) 0))) else (none)) else (some x5)
def spec_l8Parts.l1 : Nat → Int → List Int → List (List Int) → List Int → Int → List Int → Int → Option ((List (List Int)))
 | 0, _, _, _, _, _, _, _ => none
 | k + 1, x0, x1, x5, x6, x7, x8, x9 => if x9 < (x8.length : Int) then (spec_l8Parts.l2 k x0 x1 x5 x6 x7 x8 x9 0) else (spec_l8Parts.l3 k x0 x1 x5 x6 x7 x8 (([] : List Int)) 0)
def spec_l8Parts.l2 : Nat → Int → List Int → List (List Int) → List Int → Int → List Int → Int → Int → Option ((List (List Int)))
 | 0, _, _, _, _, _, _, _, _ => none
 | k + 1, x0, x1, x5, x6, x7, x8, x9, x10 => if x10 < (x1.length : Int) then (if 0 ≤ x10 then ((spec_l1Has.f k x8 (rd x1 x10)).bind fun t124 => (if t124 = true then (spec_l8Parts.l2 k x0 x1 x5 x6 x7 x8 x9 (wrap64 (x10 + 1))) else (if 0 ≤ x9 then (if x9 < (x8.length : Int) then ((spec_l8Beside.f x0 (rd x8 x9) (rd x1 x10)).bind fun t127 => (if t127 = true then (if x8.length < 17592186044416 then (spec_l8Parts.l2 k x0 x1 x5 x6 x7 (x8 ++ [rd x1 x10]) x9 (wrap64 (x10 + 1))) else (none)) else (spec_l8Parts.l2 k x0 x1 x5 x6 x7 x8 x9 (wrap64 (x10 + 1))))) else (none)) else (none)))) else (none)) else (spec_l8Parts.l1 k x0 x1 x5 x6 x7 x8 (wrap64 (x9 + 1)))
def spec_l8Parts.l3 : Nat → Int → List Int → List (List Int) → List Int → Int → List Int → List Int → Int → Option ((List (List Int)))
 | 0, _, _, _, _, _, _, _, _ => none
 | k + 1, x0, x1, x5, x6, x7, x8, x11, x12 => if x12 < (x8.length : Int) then (if 0 ≤ x12 then ((spec_l1Put.f x11 (rd x8 x12)).bind fun t136 => (spec_l8Parts.l3 k x0 x1 x5 x6 x7 x8 t136 (wrap64 (x12 + 1)))) else (none)) else (if x6.length + x8.length < 17592186044416 then (if x5.length < 5864062014805 then (spec_l8Parts.l0 k x0 x1 (x5 ++ [x11]) (x6 ++ x8) (wrap64 (x7 + 1))) else (none)) else (none))
end
def spec_l8Parts.f (k : Nat) (a0 : Int) (l1 : List Int) : Option ((List (List Int))) := spec_l8Parts.l0 k a0 l1 (([] : List (List Int))) (([] : List Int)) 0
set_option maxHeartbeats 8000000 in
set_option maxRecDepth 100000 in
theorem spec_l8Parts.calls (k : Nat) (a0 : Int) (A1 : Option Addr) (c1 : Nat) (l1 : List Int) (r : List (List Int)) (w : World) (hr1 : Kd.C (Kd.int .i64) w A1 l1.length l1) (hc1 : l1.length ≤ c1) (h : spec_l8Parts.f k a0 l1 = some r) :
  Calls Try.prog 26 #[.int .i64 a0, .slice A1 l1.length c1] w fun e w' => ∃ v0_ : Value, e = .returned (v0_) ∧ Kd.S (Kd.slice 3 (Kd.int .i64)) 22 w' w.heap.size (fun _ => True) v0_ r ∧ Below w.heap.size w w' := by
 have HR1 := Aside0.mk hr1
 have HC1 := Aside0.mk hc1
 clear hr1 hc1
 have HB := Aside0.mk (Below.refl w.heap.size w)
 have H : (spec_l8Parts.l0 k a0 l1 (([] : List (List Int))) (([] : List Int)) 0) = some r := h
 clear h
 obtain ⟨y111, hy111⟩ : ∃ y_ : List (List Int), y_ = (([] : List (List Int))) := ⟨_, rfl⟩
 replace H : (spec_l8Parts.l0 k a0 l1 y111 (([] : List Int)) 0) = some r := zqH hy111 H
 have Ny111 := Aside0.mk hy111
 clear hy111
 obtain ⟨y114, hy114⟩ : ∃ y_ : List Int, y_ = (([] : List Int)) := ⟨_, rfl⟩
 replace H : (spec_l8Parts.l0 k a0 l1 y111 y114 0) = some r := zqH hy114 H
 have Ny114 := Aside0.mk hy114
 clear hy114
 have H' := Aside0.mk H
 clear H
 go_enter Try.func26, Try.ntmps26
 go_wp2_with (first | ((with_reducible refine gate_dst (N := 13) rfl ?_); refine Kd.S_lit (Kd.slice 3 (Kd.int .i64)) _ 22 ?hg (N := 13) ?hd (xs := ([] : List (List Int))) (inner := []) (ok := fun _ => True) (okp := fun _ => True) ?hr ?hp (fun _ hk => hk) trivial (Below.refl _ _) (Nat.le_refl _) (by simp) ?_; (case hd => rfl); (case hg => rfl); (case hr => exact zqS); (case hp => exact (Reps.none _ _)); intro v112 w3 ho4 hb hg_ hnew_; clear hg_ hnew_; (first | rw [← Ny111.out] at ho4 | (simp only [Int.reduceToNat] at ho4; rw [← Ny111.out] at ho4)); have HO113 := Aside0.mk (Kd.S_lower ho4 (below_size zq0)); replace HB := Aside0.mk (below_step zq0 hb); clear hb ho4) | ((with_reducible refine gate_dst (N := 14) rfl ?_); refine Kd.R_lit (Kd.int .i64) _ 3 ?hg (N := 14) ?hd (xs := ([] : List Int)) (inner := []) (ok := fun _ => True) (okp := fun _ => True) ?hr ?hp (fun _ hk => hk) trivial (Below.refl _ _) (Nat.le_refl _) (by simp) ?_; (case hd => rfl); (case hg => rfl); (case hr => exact zqS); (case hp => exact (Reps.none _ _)); intro v115 w5 ho6 hb hg_ hnew_; clear hg_ hnew_; (first | rw [← Ny114.out] at ho6 | (simp only [Int.reduceToNat] at ho6; rw [← Ny114.out] at ho6)); replace HO113 := Aside0.mk (Kd.S_elder' (by (with_reducible repeat (first | apply Kd.S_alloc | apply Kd.S_drewN | apply Kd.S_drew)); exact HO113.out) (Kd.R_base ho6) hb); have HO116 := Aside0.mk (Kd.R_lower ho6 (below_size zq0)); replace HB := Aside0.mk (below_step zq0 hb); clear hb ho6))
 go_loopg [5, 6, 7] k (fun kq v5 v6 v7 w' => ∃ (x5_1 : List (List Int)) (x6_1 : List Int) (x7_1 : Int), v7 = .int .i64 x7_1 ∧ Aside0 (spec_l8Parts.l0 kq a0 l1 x5_1 x6_1 x7_1 = some r) ∧ Aside0 (kq ≤ k) ∧ Aside0 (Kd.S (Kd.slice 3 (Kd.int .i64)) 22 w' w.heap.size (fun k_ => some k_ ≠ (v6 : Value).ownBlock) v5 x5_1) ∧ Aside0 (Kd.R (Kd.int .i64) 3 w' w.heap.size (fun _ => True) v6 x6_1) ∧ Aside0 (Below w.heap.size w w'))
 case atStart => exact ⟨(y111), (y114), (0), (by first | rfl | (simp; done) | (simp [*]; done)), H', ⟨Nat.le_refl _⟩, ⟨by (with_reducible repeat (first | apply Kd.S_alloc | apply Kd.S_drewN | apply Kd.S_drew)); exact Kd.S_mono HO113.out (fun _ hk => hk.2)⟩, ⟨zqR HO116.out⟩, ⟨zq0⟩⟩
 clear H'
 try clear c1
 try clear c2
 try clear p2
 obtain ⟨x5_1, x6_1, x7_1, rfl, HA, HK1, HO_5, HO_6, HB⟩ := hrel
 cases gk with
 | zero => exact absurd HA.out (by simp [spec_l8Parts.l0])
 | succ k1 =>
  have H := HA.out
  clear HA
  simp only [spec_l8Parts.l0] at H
  by_cases c7 : x7_1 < (l1.length : Int)
  case neg =>
   rw [if_neg c7] at H
   have c7b0 : decide (x7_1 < (l1.length : Int)) = false := decide_eq_false c7
   clear c7
   obtain rfl := Option.some.inj H
   go_wp2
   go_ret
   exact ⟨_, by first | rfl | (simp [errW_none, errW_some] <;> rfl) | (simp [*, errW_none, errW_some] <;> rfl), by (with_reducible repeat (first | apply Kd.S_alloc | apply Kd.S_drewN | apply Kd.S_drew)); exact Kd.S_mono HO_5.out (fun _ hk => trivial), zq0⟩
  rw [if_pos c7] at H
  have c7b0 : decide (x7_1 < (l1.length : Int)) = true := decide_eq_true c7
  clear c7
  by_cases c8 : 0 ≤ x7_1
  case neg =>
   rw [if_neg c8] at H
   exact absurd H (by simp)
  rw [if_pos c8] at H
  have c8b0 : decide (0 ≤ x7_1) = true := decide_eq_true c8
  clear c8
  replace H := Option.bind_eq_some_iff.mp H
  obtain ⟨t118, A90, H⟩ := H
  replace H : (if t118 = true then (spec_l8Parts.l0 k1 a0 l1 x5_1 x6_1 (wrap64 (x7_1 + 1))) else (spec_l8Parts.l1 k1 a0 l1 x5_1 x6_1 x7_1 (([rd l1 x7_1] : List Int)) 0)) = some r := H
  have A9 := Aside0.mk A90
  clear A90
  by_cases c10 : t118 = true
  case pos =>
   subst c10
   have H1 : (spec_l8Parts.l0 k1 a0 l1 x5_1 x6_1 (wrap64 (x7_1 + 1))) = some r := by rw [if_pos rfl] at H; exact H
   clear H
   have H := H1
   clear H1
   have H' := Aside0.mk H
   clear H
   have p117 : 0 ≤ (x7_1 : Int) := of_decide_eq_true zq2
   have q117 : x7_1 < (l1.length : Int) := of_decide_eq_true zq2
   obtain ⟨ad117, e117, hx117_0⟩ := Kd.at_int HR1.out x7_1 p117 q117
   cases e117
   replace hx117_0 := bx HB.out hx117_0
   replace p117 := eq_true p117
   replace q117 := eq_true q117
   obtain ⟨Ao11, co11, eo11⟩ := Kd.R_slice HO_6.out
   subst eo11
   go_wp2_with (first | (go_at_call 53; (with_reducible refine (spec_l1Has.calls k1 _ _ x6_1 (rd l1 x7_1) true _ ?side1 ?side2 A9.out).mono ?_); (case side1 => exact zqC (Kd.R_reads' HO_6.out).2.2); (case side2 => exact (Kd.R_reads' HO_6.out).2.1); rintro e w' ⟨rfl, ⟨nd, rfl⟩⟩; (try first | exact ⟨rfl, _, World.drewN_drewN _ _ _⟩ | exact ⟨rfl, _, Eq.trans (World.drewN_drewN _ _ _) (congrArg (World.drewN _) (Nat.add_assoc _ _ _))⟩)))
   go_roundg k1
   case measure => have := HK1.out; omega
   case rel => exact ⟨(x5_1), (x6_1), (wrap64 (x7_1 + 1)), (by first | rfl | (simp; done) | (simp [*]; done)), H', ⟨by have := HK1.out; omega⟩, ⟨by (with_reducible repeat (first | apply Kd.S_alloc | apply Kd.S_drewN | apply Kd.S_drew)); exact HO_5.out⟩, ⟨zqR HO_6.out⟩, ⟨zq0⟩⟩
  replace c10 := Bool.eq_false_iff.mpr c10
  subst c10
  have H1 : (spec_l8Parts.l1 k1 a0 l1 x5_1 x6_1 x7_1 (([rd l1 x7_1] : List Int)) 0) = some r := by rw [if_neg (show ¬ (false = true) by decide)] at H; exact H
  clear H
  have H := H1
  clear H1
  obtain ⟨y120, hy120⟩ : ∃ y_ : List Int, y_ = (([rd l1 x7_1] : List Int)) := ⟨_, rfl⟩
  replace H : (spec_l8Parts.l1 k1 a0 l1 x5_1 x6_1 x7_1 y120 0) = some r := zqH hy120 H
  have Ny120 := Aside0.mk hy120
  clear hy120
  have H' := Aside0.mk H
  clear H
  have p117 : 0 ≤ (x7_1 : Int) := of_decide_eq_true zq2
  have q117 : x7_1 < (l1.length : Int) := of_decide_eq_true zq2
  obtain ⟨ad117, e117, hx117_0⟩ := Kd.at_int HR1.out x7_1 p117 q117
  cases e117
  replace hx117_0 := bx HB.out hx117_0
  replace p117 := eq_true p117
  replace q117 := eq_true q117
  obtain ⟨Ao12, co12, eo12⟩ := Kd.R_slice HO_6.out
  subst eo12
  go_wp2_with (first | (go_at_call 53; (with_reducible refine (spec_l1Has.calls k1 _ _ x6_1 (rd l1 x7_1) false _ ?side1 ?side2 A9.out).mono ?_); (case side1 => exact zqC (Kd.R_reads' HO_6.out).2.2); (case side2 => exact (Kd.R_reads' HO_6.out).2.1); rintro e w' ⟨rfl, ⟨nd, rfl⟩⟩; (try first | exact ⟨rfl, _, World.drewN_drewN _ _ _⟩ | exact ⟨rfl, _, Eq.trans (World.drewN_drewN _ _ _) (congrArg (World.drewN _) (Nat.add_assoc _ _ _))⟩); all_goals (have p119 : 0 ≤ (x7_1 : Int) := of_decide_eq_true zq2; have q119 : x7_1 < (l1.length : Int) := of_decide_eq_true zq2; obtain ⟨ad119, e119, hx119_0⟩ := Kd.at_int HR1.out x7_1 p119 q119; obtain rfl : ad117 = ad119 := (by injection e119); replace hx119_0 := bx HB.out hx119_0; replace p119 := eq_true p119; replace q119 := eq_true q119)) | ((with_reducible refine gate_dst (N := 31) rfl ?_); refine Kd.R_lit (Kd.int .i64) _ 3 ?hg (N := 31) ?hd (xs := ([rd l1 x7_1] : List Int)) (inner := [.int .i64 (rd l1 x7_1)]) (ok := fun _ => True) (okp := fun _ => True) ?hr ?hp (fun _ hk => hk) trivial (Below.refl _ _) (Nat.le_refl _) (by simp) ?_; (case hd => rfl); (case hg => rfl); (case hr => exact zqS); (case hp => exact (Reps.one (show Kd.M (Kd.int .i64) _ _ _ (rd l1 x7_1) [.int .i64 (rd l1 x7_1)] from rfl) (Reps.none _ _))); intro v121 w13 ho14 hb hg_ hnew_; clear hg_ hnew_; (first | rw [← Ny120.out] at ho14 | (simp only [Int.reduceToNat] at ho14; rw [← Ny120.out] at ho14)); replace HO_5 := Aside0.mk (Kd.S_elder' zq17 (Kd.R_base ho14) hb); have HO122 := Aside0.mk (Kd.R_lower (Kd.R_new' ho14 (Kd.R_lt (zqR HO_6.out))) (below_size zq0)); replace HO_6 := Aside0.mk (Kd.R_elder' (zqR HO_6.out) (Kd.R_base ho14) hb); replace HB := Aside0.mk (below_step zq0 hb); clear hb ho14))
  go_loopg [8, 9] k1 (fun kq v8 v9 w' => ∃ (x8_2 : List Int) (x9_2 : Int), v9 = .int .i64 x9_2 ∧ Aside0 (spec_l8Parts.l1 kq a0 l1 x5_1 x6_1 x7_1 x8_2 x9_2 = some r) ∧ Aside0 (kq ≤ k1) ∧ Aside0 (Kd.S (Kd.slice 3 (Kd.int .i64)) 22 w' w.heap.size (fun k_ => some k_ ≠ ((.slice Ao12 x6_1.length co12) : Value).ownBlock ∧ some k_ ≠ (v8 : Value).ownBlock) u5 x5_1) ∧ Aside0 (Kd.R (Kd.int .i64) 3 w' w.heap.size (fun k_ => some k_ ≠ (v8 : Value).ownBlock) (.slice Ao12 x6_1.length co12) x6_1) ∧ Aside0 (Kd.R (Kd.int .i64) 3 w' w.heap.size (fun k_ => some k_ ≠ ((.slice Ao12 x6_1.length co12) : Value).ownBlock) v8 x8_2) ∧ Aside0 (Below w.heap.size w w'))
  case atStart => exact ⟨(y120), (0), (by first | rfl | (simp; done) | (simp [*]; done)), H', ⟨Nat.le_refl _⟩, ⟨by (with_reducible repeat (first | apply Kd.S_alloc | apply Kd.S_drewN | apply Kd.S_drew)); exact HO_5.out⟩, ⟨by (with_reducible repeat (first | apply Kd.R_alloc | apply Kd.R_drewN | apply Kd.R_drew)); exact Kd.R_mono HO_6.out (fun _ hk => hk.2)⟩, ⟨by (with_reducible repeat (first | apply Kd.R_alloc | apply Kd.R_drewN | apply Kd.R_drew)); exact Kd.R_mono HO122.out (fun _ hk => hk.2)⟩, ⟨zq0⟩⟩
  clear H'
  try clear c1
  try clear p1
  try clear q1
  try clear hx1
  try clear c2
  try clear p2
  try clear p6
  try clear c7
  try clear c7b0
  try clear c8
  try clear c8b0
  try clear c10
  try clear p11
  try clear q11
  try clear hx11
  try clear hx117_0
  try clear hx119_0
  try clear p117
  try clear p119
  try clear p2
  try clear q117
  try clear q119
  obtain ⟨x8_2, x9_2, rfl, HA, HK2, HO_5, HO_6, HO_8, HB⟩ := hrel
  cases gk with
  | zero => exact absurd HA.out (by simp [spec_l8Parts.l1])
  | succ k2 =>
   have H := HA.out
   clear HA
   simp only [spec_l8Parts.l1] at H
   by_cases c15 : x9_2 < (x8_2.length : Int)
   case neg =>
    rw [if_neg c15] at H
    have c15b0 : decide (x9_2 < (x8_2.length : Int)) = false := decide_eq_false c15
    clear c15
    obtain ⟨y132, hy132⟩ : ∃ y_ : List Int, y_ = (([] : List Int)) := ⟨_, rfl⟩
    replace H : (spec_l8Parts.l3 k2 a0 l1 x5_1 x6_1 x7_1 x8_2 y132 0) = some r := zqH hy132 H
    have Ny132 := Aside0.mk hy132
    clear hy132
    have H' := Aside0.mk H
    clear H
    obtain ⟨Ao30, co30, eo30⟩ := Kd.R_slice HO_8.out
    subst eo30
    go_wp2_with (first | ((with_reducible refine gate_dst (N := 70) rfl ?_); refine Kd.R_lit (Kd.int .i64) _ 3 ?hg (N := 70) ?hd (xs := ([] : List Int)) (inner := []) (ok := fun _ => True) (okp := fun _ => True) ?hr ?hp (fun _ hk => hk) trivial (Below.refl _ _) (Nat.le_refl _) (by simp) ?_; (case hd => rfl); (case hg => rfl); (case hr => exact zqS); (case hp => exact (Reps.none _ _)); intro v133 w31 ho32 hb hg_ hnew_; clear hg_ hnew_; (first | rw [← Ny132.out] at ho32 | (simp only [Int.reduceToNat] at ho32; rw [← Ny132.out] at ho32)); replace HO_5 := Aside0.mk (Kd.S_elder' zq17 (Kd.R_base ho32) hb); have HO134 := Aside0.mk (Kd.R_lower (Kd.R_new' (Kd.R_new' ho32 (Kd.R_lt (zqR HO_6.out))) (Kd.R_lt (zqR HO_8.out))) (below_size zq0)); replace HO_6 := Aside0.mk (Kd.R_elder' (zqR HO_6.out) (Kd.R_base ho32) hb); replace HO_8 := Aside0.mk (Kd.R_elder' (zqR HO_8.out) (Kd.R_base ho32) hb); replace HB := Aside0.mk (below_step zq0 hb); clear hb ho32))
    go_loopg [11, 12] k2 (fun kq v11 v12 w' => ∃ (x11_3 : List Int) (x12_3 : Int), v12 = .int .i64 x12_3 ∧ Aside0 (spec_l8Parts.l3 kq a0 l1 x5_1 x6_1 x7_1 x8_2 x11_3 x12_3 = some r) ∧ Aside0 (kq ≤ k2) ∧ Aside0 (Kd.S (Kd.slice 3 (Kd.int .i64)) 22 w' w.heap.size (fun k_ => some k_ ≠ ((.slice Ao12 x6_1.length co12) : Value).ownBlock ∧ some k_ ≠ ((.slice Ao30 x8_2.length co30) : Value).ownBlock ∧ some k_ ≠ (v11 : Value).ownBlock) u5 x5_1) ∧ Aside0 (Kd.R (Kd.int .i64) 3 w' w.heap.size (fun k_ => some k_ ≠ ((.slice Ao30 x8_2.length co30) : Value).ownBlock ∧ some k_ ≠ (v11 : Value).ownBlock) (.slice Ao12 x6_1.length co12) x6_1) ∧ Aside0 (Kd.R (Kd.int .i64) 3 w' w.heap.size (fun k_ => some k_ ≠ ((.slice Ao12 x6_1.length co12) : Value).ownBlock ∧ some k_ ≠ (v11 : Value).ownBlock) (.slice Ao30 x8_2.length co30) x8_2) ∧ Aside0 (Kd.R (Kd.int .i64) 3 w' w.heap.size (fun k_ => some k_ ≠ ((.slice Ao12 x6_1.length co12) : Value).ownBlock ∧ some k_ ≠ ((.slice Ao30 x8_2.length co30) : Value).ownBlock) v11 x11_3) ∧ Aside0 (Below w.heap.size w w'))
    case atStart => exact ⟨(y132), (0), (by first | rfl | (simp; done) | (simp [*]; done)), H', ⟨Nat.le_refl _⟩, ⟨by (with_reducible repeat (first | apply Kd.S_alloc | apply Kd.S_drewN | apply Kd.S_drew)); exact Kd.S_mono HO_5.out (fun _ hk => ⟨hk.1.1, ⟨hk.1.2, hk.2⟩⟩)⟩, ⟨zqR HO_6.out⟩, ⟨zqR HO_8.out⟩, ⟨by (with_reducible repeat (first | apply Kd.R_alloc | apply Kd.R_drewN | apply Kd.R_drew)); exact Kd.R_mono HO134.out (fun _ hk => ⟨hk.1.2, hk.2⟩)⟩, ⟨zq0⟩⟩
    clear H'
    try clear c1
    try clear p1
    try clear q1
    try clear hx1
    try clear c2
    try clear p2
    try clear p6
    try clear c7
    try clear c7b0
    try clear c8
    try clear c8b0
    try clear c10
    try clear p11
    try clear q11
    try clear hx11
    try clear p12
    try clear q12
    try clear hx12
    try clear c15
    try clear c15b0
    try clear c17
    try clear c17b0
    try clear c18
    try clear c18b0
    try clear c20
    try clear c22
    try clear c22b0
    try clear c23
    try clear c23b0
    try clear c25
    try clear c26
    try clear hx117_0
    try clear hx119_0
    try clear hx123_0
    try clear hx125_0
    try clear hx126_0
    try clear hx128_0
    try clear p1
    try clear p11
    try clear p117
    try clear p119
    try clear p123
    try clear p125
    try clear p126
    try clear p128
    try clear p2
    try clear p6
    try clear q1
    try clear q11
    try clear q117
    try clear q119
    try clear q123
    try clear q125
    try clear q126
    try clear q128
    obtain ⟨x11_3, x12_3, rfl, HA, HK3, HO_5, HO_6, HO_8, HO_11, HB⟩ := hrel
    cases gk with
    | zero => exact absurd HA.out (by simp [spec_l8Parts.l3])
    | succ k3 =>
     have H := HA.out
     clear HA
     simp only [spec_l8Parts.l3] at H
     by_cases c33 : x12_3 < (x8_2.length : Int)
     case pos =>
      rw [if_pos c33] at H
      have c33b0 : decide (x12_3 < (x8_2.length : Int)) = true := decide_eq_true c33
      clear c33
      by_cases c34 : 0 ≤ x12_3
      case neg =>
       rw [if_neg c34] at H
       exact absurd H (by simp)
      rw [if_pos c34] at H
      have c34b0 : decide (0 ≤ x12_3) = true := decide_eq_true c34
      clear c34
      replace H := Option.bind_eq_some_iff.mp H
      obtain ⟨t136, A350, H⟩ := H
      replace H : (spec_l8Parts.l3 k3 a0 l1 x5_1 x6_1 x7_1 x8_2 t136 (wrap64 (x12_3 + 1))) = some r := H
      have A35 := Aside0.mk A350
      clear A350
      have H' := Aside0.mk H
      clear H
      have p135 : 0 ≤ (x12_3 : Int) := of_decide_eq_true zq2
      have q135 : x12_3 < (x8_2.length : Int) := of_decide_eq_true zq2
      obtain ⟨ad135, e135, hx135_0⟩ := Kd.at_int (Kd.R_reads' HO_8.out).2.2 x12_3 p135 q135
      cases e135
      replace p135 := eq_true p135
      replace q135 := eq_true q135
      obtain ⟨Ao36, co36, eo36⟩ := Kd.R_slice HO_11.out
      subst eo36
      go_wp2_with (first | (go_at_call 55; (with_reducible refine (spec_l1Put.calls (fun k_ => some k_ = (.slice Ao36 x11_3.length co36 : Value).ownBlock) (.slice Ao36 x11_3.length co36) x11_3 (rd x8_2 x12_3) t136 w _ ?side1 ?side2 A35.out).mono ?_); (case side1 => exact zq0); (case side2 => exact Kd.R_tight rfl HO_11.out); rintro e w37 ⟨v137, rfl, ho0, hb, hkp⟩; replace HO_5 := Aside0.mk (Kd.S_mono (ok' := fun k_ => some k_ ≠ (.slice Ao12 x6_1.length co12 : Value).ownBlock ∧ some k_ ≠ (.slice (some ad135) x8_2.length co30 : Value).ownBlock ∧ some k_ ≠ (v137 : Value).ownBlock) (Kd.S_keptB (HO_5.out) hkp (fun k_ hk_ hs_ => (hk_.2.2) hs_)) (fun k_ hk_ => ⟨hk_.1.1, hk_.1.2.1, fun e_ => Or.elim (ho0.1 k_ e_.symm) (fun hs_ => hk_.2.1 hs_) (fun hn_ => Nat.not_le.2 hk_.2.2 hn_)⟩)); have HO138 := Aside0.mk (Kd.R_mono (ok' := fun k_ => some k_ ≠ (.slice Ao12 x6_1.length co12 : Value).ownBlock ∧ some k_ ≠ (.slice (some ad135) x8_2.length co30 : Value).ownBlock) ho0 (fun k_ hk_ => ⟨Or.elim hk_ (fun hs_ => fun e_ => (((HO_6.out).1 k_ e_.symm).2) hs_) (fun hn_ => (Kd.fresh' (Kd.R_lt (zqR HO_6.out)) k_ hn_)), Or.elim hk_ (fun hs_ => fun e_ => (((HO_8.out).1 k_ e_.symm).2) hs_) (fun hn_ => (Kd.fresh' (Kd.R_lt (zqR HO_8.out)) k_ hn_))⟩)); replace HO_6 := Aside0.mk (Kd.R_mono (ok' := fun k_ => some k_ ≠ (.slice (some ad135) x8_2.length co30 : Value).ownBlock ∧ some k_ ≠ (v137 : Value).ownBlock) (Kd.R_keptB (HO_6.out) hkp (fun k_ hk_ hs_ => (hk_.2) hs_)) (fun k_ hk_ => ⟨hk_.1.1, fun e_ => Or.elim (ho0.1 k_ e_.symm) (fun hs_ => hk_.2.1 hs_) (fun hn_ => Nat.not_le.2 hk_.2.2 hn_)⟩)); replace HO_8 := Aside0.mk (Kd.R_mono (ok' := fun k_ => some k_ ≠ (.slice Ao12 x6_1.length co12 : Value).ownBlock ∧ some k_ ≠ (v137 : Value).ownBlock) (Kd.R_keptB (HO_8.out) hkp (fun k_ hk_ hs_ => (hk_.2) hs_)) (fun k_ hk_ => ⟨hk_.1.1, fun e_ => Or.elim (ho0.1 k_ e_.symm) (fun hs_ => hk_.2.1 hs_) (fun hn_ => Nat.not_le.2 hk_.2.2 hn_)⟩)); replace HB := Aside0.mk (hb); clear HO_11; (try clear hb); (try clear hkp); (try clear ho0)))
      go_roundg k3
      case measure => have := HK1.out; have := HK2.out; have := HK3.out; omega
      case rel => exact ⟨(t136), (wrap64 (x12_3 + 1)), (by first | rfl | (simp; done) | (simp [*]; done)), H', ⟨by have := HK1.out; have := HK2.out; have := HK3.out; omega⟩, ⟨by (with_reducible repeat (first | apply Kd.S_alloc | apply Kd.S_drewN | apply Kd.S_drew)); exact HO_5.out⟩, ⟨zqR HO_6.out⟩, ⟨zqR HO_8.out⟩, ⟨zqR HO138.out⟩, ⟨zq0⟩⟩
     rw [if_neg c33] at H
     have c33b0 : decide (x12_3 < (x8_2.length : Int)) = false := decide_eq_false c33
     clear c33
     by_cases c38 : x6_1.length + x8_2.length < 17592186044416
     case neg =>
      rw [if_neg c38] at H
      exact absurd H (by simp)
     rw [if_pos c38] at H
     have LMc38 := Aside0.mk c38
     clear c38
     obtain ⟨y139, hy139⟩ : ∃ y_ : List Int, y_ = (x6_1 ++ x8_2) := ⟨_, rfl⟩
     replace H : (if x5_1.length < 5864062014805 then (spec_l8Parts.l0 k3 a0 l1 (x5_1 ++ [x11_3]) y139 (wrap64 (x7_1 + 1))) else (none)) = some r := zqH hy139 H
     have Ny139 := Aside0.mk hy139
     clear hy139
     by_cases c39 : x5_1.length < 5864062014805
     case neg =>
      rw [if_neg c39] at H
      exact absurd H (by simp)
     rw [if_pos c39] at H
     have LMc39 := Aside0.mk c39
     clear c39
     obtain ⟨y142, hy142⟩ : ∃ y_ : List (List Int), y_ = (x5_1 ++ [x11_3]) := ⟨_, rfl⟩
     replace H : (spec_l8Parts.l0 k3 a0 l1 y142 y139 (wrap64 (x7_1 + 1))) = some r := zqH hy142 H
     have Ny142 := Aside0.mk hy142
     clear hy142
     have H' := Aside0.mk H
     clear H
     go_wp2_with (first | ((with_reducible refine gate_builtin (b := .append) (xs := #[.tmp 83, .tmp 84]) rfl ?_); at_builtin; refine Kd.R_append_rows (Kd.int .i64) (w0 := w) w.heap.size rfl (.tmp 83) (.tmp 84) 22 3 (.int .i64 0) 8 rfl Try.underlying22 info3 rfl (by decide) (by omega) (.slice Ao12 x6_1.length co12) x6_1 x8_2 _ _ _ (fun k_ => some k_ ≠ (.slice Ao30 x8_2.length co30 : Value).ownBlock ∧ some k_ ≠ (u11 : Value).ownBlock) (fun _ => False) rfl rfl ?aO ?aR (fun _ _ h => h) (fun _ h => h.elim) ?aF ?aB ?aS ?aL ?_; (case aR => exact zqC (Kd.R_reads' HO_8.out).2.2); (case aB => exact zq0); (case aF => exact (fun k_ hk => ⟨Kd.fresh' (Kd.R_lt (zqR HO_8.out)) k_ hk, Kd.fresh' (Kd.R_lt (zqR HO_11.out)) k_ hk⟩)); (case aO => exact (zqR HO_6.out)); (case aS => exact (below_size zq0)); (case aL => have := LMc38.out; omega); intro v140 w40 ho hb hg hat; rw [← Ny139.out] at ho; replace HO_5 := Aside0.mk (Kd.S_after (ok := (fun k_ => some k_ ≠ (.slice Ao30 x8_2.length co30 : Value).ownBlock ∧ some k_ ≠ (u11 : Value).ownBlock)) (by (with_reducible repeat (first | apply Kd.S_alloc | apply Kd.S_drewN | apply Kd.S_drew)); exact Kd.S_mono HO_5.out (fun _ hk => ⟨⟨hk.2.1, hk.2.2⟩, hk.1⟩)) hg hat); replace HO_8 := Aside0.mk (Kd.R_after (ok := (fun k_ => some k_ ≠ (u11 : Value).ownBlock)) (by (with_reducible repeat (first | apply Kd.R_alloc | apply Kd.R_drewN | apply Kd.R_drew)); exact Kd.R_mono HO_8.out (fun _ hk => ⟨hk.2, hk.1⟩)) hg hat); replace HO_11 := Aside0.mk (Kd.R_after (ok := (fun k_ => some k_ ≠ (.slice Ao30 x8_2.length co30 : Value).ownBlock)) (by (with_reducible repeat (first | apply Kd.R_alloc | apply Kd.R_drewN | apply Kd.R_drew)); exact Kd.R_mono HO_11.out (fun _ hk => ⟨hk.2, hk.1⟩)) hg hat); replace HB := Aside0.mk (hb); have HO141 := Aside0.mk (ho); clear HO_6; clear ho hb hg hat; obtain ⟨Ao42, co42, eo42⟩ := Kd.R_slice HO_11.out; subst eo42) | ((with_reducible refine gate_builtin (b := .append) (xs := #[.tmp 86, .tmp 88]) rfl ?_); at_builtin; refine Kd.S_append (Kd.slice 3 (Kd.int .i64)) (w0 := w) w.heap.size rfl (.tmp 86) (.tmp 88) 53 22 (.slice none 0 0) 24 rfl Try.underlying53 info22 rfl (by decide) (by omega) u5 x5_1 x11_3 [.slice Ao42 x11_3.length co42] (fun k_ => some k_ ≠ (.slice Ao30 x8_2.length co30 : Value).ownBlock ∧ some k_ ≠ (v140 : Value).ownBlock) (fun k_ => some k_ = (.slice Ao42 x11_3.length co42 : Value).ownBlock) rfl rfl ?aP (fun k_ hk_ => ((Kd.R_mono (ok' := fun k_ => ((fun k_ => some k_ ≠ (.slice Ao30 x8_2.length co30 : Value).ownBlock ∧ some k_ ≠ (v140 : Value).ownBlock)) k_ ∧ some k_ ≠ (u5 : Value).ownBlock) (Kd.R_apart' (HO_11.out) (Kd.S_typed HO_5.out) (by decide)) (fun k_ hk => ⟨⟨hk.1.1, hk.1.2⟩, hk.2⟩))).1 k_ hk_.symm) ?aF ?aO ?aB ?aS ?aL ?_; (case aP => exact Kd.M_row (Kd.R_mono (Kd.R_tight rfl (Kd.R_mono (ok' := fun k_ => ((fun k_ => some k_ ≠ (.slice Ao30 x8_2.length co30 : Value).ownBlock ∧ some k_ ≠ (v140 : Value).ownBlock)) k_ ∧ some k_ ≠ (u5 : Value).ownBlock) (Kd.R_apart' (HO_11.out) (Kd.S_typed HO_5.out) (by decide)) (fun k_ hk => ⟨⟨hk.1.1, hk.1.2⟩, hk.2⟩))) (fun _ h_ => h_))); (case aB => exact zq0); (case aF => exact (fun k_ hk => ⟨Kd.fresh' (Kd.R_lt (zqR HO_8.out)) k_ hk, Kd.fresh' (Kd.R_lt (zqR HO141.out)) k_ hk⟩)); (case aO => exact (by (with_reducible repeat (first | apply Kd.S_alloc | apply Kd.S_drewN | apply Kd.S_drew)); exact Kd.S_mono HO_5.out (fun k_ hk => ⟨⟨hk.1.1, hk.2⟩, fun e_ => hk.1.2 e_⟩))); (case aS => exact (below_size zq0)); (case aL => have := LMc39.out; omega); intro v143 w41 ho hb hg hat; rw [← Ny142.out] at ho; replace HO_8 := Aside0.mk (Kd.R_over' (zqR HO_8.out) (Kd.S_typed zq17) (by decide) hg); replace HO141 := Aside0.mk (Kd.R_over' (zqR HO141.out) (Kd.S_typed zq17) (by decide) hg); replace HB := Aside0.mk (hb); have HO144 := Aside0.mk (ho); clear HO_5; clear HO_11; clear ho hb hg hat))
     go_roundg k3
     case measure => have := HK1.out; have := HK2.out; have := HK3.out; omega
     case rel => exact ⟨(y142), (y139), (wrap64 (x7_1 + 1)), (by first | rfl | (simp; done) | (simp [*]; done)), H', ⟨by have := HK1.out; have := HK2.out; have := HK3.out; omega⟩, ⟨by (with_reducible repeat (first | apply Kd.S_alloc | apply Kd.S_drewN | apply Kd.S_drew)); exact Kd.S_mono HO144.out (fun _ hk => hk.2)⟩, ⟨by (with_reducible repeat (first | apply Kd.R_alloc | apply Kd.R_drewN | apply Kd.R_drew)); exact Kd.R_mono HO141.out (fun _ hk => trivial)⟩, ⟨zq0⟩⟩
   rw [if_pos c15] at H
   have c15b0 : decide (x9_2 < (x8_2.length : Int)) = true := decide_eq_true c15
   clear c15
   have H' := Aside0.mk H
   clear H
   obtain ⟨Ao16, co16, eo16⟩ := Kd.R_slice HO_8.out
   subst eo16
   go_wp2
   go_loopg [8, 10] k2 (fun kq v8 v10 w' => ∃ (x8_3 : List Int) (x10_3 : Int), v10 = .int .i64 x10_3 ∧ Aside0 (spec_l8Parts.l2 kq a0 l1 x5_1 x6_1 x7_1 x8_3 x9_2 x10_3 = some r) ∧ Aside0 (kq ≤ k2) ∧ Aside0 (Kd.S (Kd.slice 3 (Kd.int .i64)) 22 w' w.heap.size (fun k_ => some k_ ≠ ((.slice Ao12 x6_1.length co12) : Value).ownBlock ∧ some k_ ≠ (v8 : Value).ownBlock) u5 x5_1) ∧ Aside0 (Kd.R (Kd.int .i64) 3 w' w.heap.size (fun k_ => some k_ ≠ (v8 : Value).ownBlock) (.slice Ao12 x6_1.length co12) x6_1) ∧ Aside0 (Kd.R (Kd.int .i64) 3 w' w.heap.size (fun k_ => some k_ ≠ ((.slice Ao12 x6_1.length co12) : Value).ownBlock) v8 x8_3) ∧ Aside0 (Below w.heap.size w w'))
   case atStart => exact ⟨(x8_2), (0), (by first | rfl | (simp; done) | (simp [*]; done)), H', ⟨Nat.le_refl _⟩, ⟨by (with_reducible repeat (first | apply Kd.S_alloc | apply Kd.S_drewN | apply Kd.S_drew)); exact HO_5.out⟩, ⟨zqR HO_6.out⟩, ⟨zqR HO_8.out⟩, ⟨zq0⟩⟩
   clear H'
   try clear c1
   try clear p1
   try clear q1
   try clear hx1
   try clear c2
   try clear p2
   try clear p6
   try clear c7
   try clear c7b0
   try clear c8
   try clear c8b0
   try clear c10
   try clear p11
   try clear q11
   try clear hx11
   try clear c15
   try clear c15b0
   try clear hx117_0
   try clear hx119_0
   try clear p1
   try clear p11
   try clear p117
   try clear p119
   try clear p2
   try clear p6
   try clear q1
   try clear q11
   try clear q117
   try clear q119
   obtain ⟨x8_3, x10_3, rfl, HA, HK3, HO_5, HO_6, HO_8, HB⟩ := hrel
   cases gk with
   | zero => exact absurd HA.out (by simp [spec_l8Parts.l2])
   | succ k3 =>
    have H := HA.out
    clear HA
    simp only [spec_l8Parts.l2] at H
    by_cases c17 : x10_3 < (l1.length : Int)
    case neg =>
     rw [if_neg c17] at H
     have c17b0 : decide (x10_3 < (l1.length : Int)) = false := decide_eq_false c17
     clear c17
     have H' := Aside0.mk H
     clear H
     go_wp2
     go_roundg k3
     case measure => have := HK1.out; have := HK2.out; have := HK3.out; omega
     case rel => exact ⟨(x8_3), (wrap64 (x9_2 + 1)), (by first | rfl | (simp; done) | (simp [*]; done)), H', ⟨by have := HK1.out; have := HK2.out; have := HK3.out; omega⟩, ⟨by (with_reducible repeat (first | apply Kd.S_alloc | apply Kd.S_drewN | apply Kd.S_drew)); exact HO_5.out⟩, ⟨zqR HO_6.out⟩, ⟨zqR HO_8.out⟩, ⟨zq0⟩⟩
    rw [if_pos c17] at H
    have c17b0 : decide (x10_3 < (l1.length : Int)) = true := decide_eq_true c17
    clear c17
    by_cases c18 : 0 ≤ x10_3
    case neg =>
     rw [if_neg c18] at H
     exact absurd H (by simp)
    rw [if_pos c18] at H
    have c18b0 : decide (0 ≤ x10_3) = true := decide_eq_true c18
    clear c18
    replace H := Option.bind_eq_some_iff.mp H
    obtain ⟨t124, A190, H⟩ := H
    replace H : (if t124 = true then (spec_l8Parts.l2 k3 a0 l1 x5_1 x6_1 x7_1 x8_3 x9_2 (wrap64 (x10_3 + 1))) else (if 0 ≤ x9_2 then (if x9_2 < (x8_3.length : Int) then ((spec_l8Beside.f a0 (rd x8_3 x9_2) (rd l1 x10_3)).bind fun t127 => (if t127 = true then (if x8_3.length < 17592186044416 then (spec_l8Parts.l2 k3 a0 l1 x5_1 x6_1 x7_1 (x8_3 ++ [rd l1 x10_3]) x9_2 (wrap64 (x10_3 + 1))) else (none)) else (spec_l8Parts.l2 k3 a0 l1 x5_1 x6_1 x7_1 x8_3 x9_2 (wrap64 (x10_3 + 1))))) else (none)) else (none))) = some r := H
    have A19 := Aside0.mk A190
    clear A190
    by_cases c20 : t124 = true
    case pos =>
     subst c20
     have H1 : (spec_l8Parts.l2 k3 a0 l1 x5_1 x6_1 x7_1 x8_3 x9_2 (wrap64 (x10_3 + 1))) = some r := by rw [if_pos rfl] at H; exact H
     clear H
     have H := H1
     clear H1
     have H' := Aside0.mk H
     clear H
     have p123 : 0 ≤ (x10_3 : Int) := of_decide_eq_true zq2
     have q123 : x10_3 < (l1.length : Int) := of_decide_eq_true zq2
     obtain ⟨ad123, e123, hx123_0⟩ := Kd.at_int HR1.out x10_3 p123 q123
     obtain rfl : ad117 = ad123 := (by injection e123)
     replace hx123_0 := bx HB.out hx123_0
     replace p123 := eq_true p123
     replace q123 := eq_true q123
     obtain ⟨Ao21, co21, eo21⟩ := Kd.R_slice HO_8.out
     subst eo21
     go_wp2_with (first | (go_at_call 53; (with_reducible refine (spec_l1Has.calls k3 _ _ x8_3 (rd l1 x10_3) true _ ?side1 ?side2 A19.out).mono ?_); (case side1 => exact zqC (Kd.R_reads' HO_8.out).2.2); (case side2 => exact (Kd.R_reads' HO_8.out).2.1); rintro e w' ⟨rfl, ⟨nd, rfl⟩⟩; (try first | exact ⟨rfl, _, World.drewN_drewN _ _ _⟩ | exact ⟨rfl, _, Eq.trans (World.drewN_drewN _ _ _) (congrArg (World.drewN _) (Nat.add_assoc _ _ _))⟩)))
     repeat (go_quiet (first | (go_at_call 53; (with_reducible refine (spec_l1Has.calls k3 _ _ x8_3 (rd l1 x10_3) true _ ?side1 ?side2 A19.out).mono ?_); (case side1 => exact zqC (Kd.R_reads' HO_8.out).2.2); (case side2 => exact (Kd.R_reads' HO_8.out).2.1); rintro e w' ⟨rfl, ⟨nd, rfl⟩⟩; (try first | exact ⟨rfl, _, World.drewN_drewN _ _ _⟩ | exact ⟨rfl, _, Eq.trans (World.drewN_drewN _ _ _) (congrArg (World.drewN _) (Nat.add_assoc _ _ _))⟩))); try go_wp2_with (first | (go_at_call 53; (with_reducible refine (spec_l1Has.calls k3 _ _ x8_3 (rd l1 x10_3) true _ ?side1 ?side2 A19.out).mono ?_); (case side1 => exact zqC (Kd.R_reads' HO_8.out).2.2); (case side2 => exact (Kd.R_reads' HO_8.out).2.1); rintro e w' ⟨rfl, ⟨nd, rfl⟩⟩; (try first | exact ⟨rfl, _, World.drewN_drewN _ _ _⟩ | exact ⟨rfl, _, Eq.trans (World.drewN_drewN _ _ _) (congrArg (World.drewN _) (Nat.add_assoc _ _ _))⟩))))
     go_roundg k3
     case measure => have := HK1.out; have := HK2.out; have := HK3.out; omega
     case rel => exact ⟨(x8_3), (wrap64 (x10_3 + 1)), (by first | rfl | (simp; done) | (simp [*]; done)), H', ⟨by have := HK1.out; have := HK2.out; have := HK3.out; omega⟩, ⟨by (with_reducible repeat (first | apply Kd.S_alloc | apply Kd.S_drewN | apply Kd.S_drew)); exact HO_5.out⟩, ⟨zqR HO_6.out⟩, ⟨zqR HO_8.out⟩, ⟨zq0⟩⟩
    replace c20 := Bool.eq_false_iff.mpr c20
    subst c20
    have H1 : (if 0 ≤ x9_2 then (if x9_2 < (x8_3.length : Int) then ((spec_l8Beside.f a0 (rd x8_3 x9_2) (rd l1 x10_3)).bind fun t127 => (if t127 = true then (if x8_3.length < 17592186044416 then (spec_l8Parts.l2 k3 a0 l1 x5_1 x6_1 x7_1 (x8_3 ++ [rd l1 x10_3]) x9_2 (wrap64 (x10_3 + 1))) else (none)) else (spec_l8Parts.l2 k3 a0 l1 x5_1 x6_1 x7_1 x8_3 x9_2 (wrap64 (x10_3 + 1))))) else (none)) else (none)) = some r := by rw [if_neg (show ¬ (false = true) by decide)] at H; exact H
    clear H
    have H := H1
    clear H1
    by_cases c22 : 0 ≤ x9_2
    case neg =>
     rw [if_neg c22] at H
     exact absurd H (by simp)
    rw [if_pos c22] at H
    have c22b0 : decide (0 ≤ x9_2) = true := decide_eq_true c22
    clear c22
    by_cases c23 : x9_2 < (x8_3.length : Int)
    case neg =>
     rw [if_neg c23] at H
     exact absurd H (by simp)
    rw [if_pos c23] at H
    have c23b0 : decide (x9_2 < (x8_3.length : Int)) = true := decide_eq_true c23
    clear c23
    replace H := Option.bind_eq_some_iff.mp H
    obtain ⟨t127, A240, H⟩ := H
    replace H : (if t127 = true then (if x8_3.length < 17592186044416 then (spec_l8Parts.l2 k3 a0 l1 x5_1 x6_1 x7_1 (x8_3 ++ [rd l1 x10_3]) x9_2 (wrap64 (x10_3 + 1))) else (none)) else (spec_l8Parts.l2 k3 a0 l1 x5_1 x6_1 x7_1 x8_3 x9_2 (wrap64 (x10_3 + 1)))) = some r := H
    have A24 := Aside0.mk A240
    clear A240
    by_cases c25 : t127 = true
    case neg =>
     replace c25 := Bool.eq_false_iff.mpr c25
     subst c25
     have H1 : (spec_l8Parts.l2 k3 a0 l1 x5_1 x6_1 x7_1 x8_3 x9_2 (wrap64 (x10_3 + 1))) = some r := by rw [if_neg (show ¬ (false = true) by decide)] at H; exact H
     clear H
     have H := H1
     clear H1
     have H' := Aside0.mk H
     clear H
     have p123 : 0 ≤ (x10_3 : Int) := of_decide_eq_true zq2
     have q123 : x10_3 < (l1.length : Int) := of_decide_eq_true zq2
     obtain ⟨ad123, e123, hx123_0⟩ := Kd.at_int HR1.out x10_3 p123 q123
     obtain rfl : ad117 = ad123 := (by injection e123)
     replace hx123_0 := bx HB.out hx123_0
     replace p123 := eq_true p123
     replace q123 := eq_true q123
     obtain ⟨Ao29, co29, eo29⟩ := Kd.R_slice HO_8.out
     subst eo29
     go_wp2_with (first | (go_at_call 53; (with_reducible refine (spec_l1Has.calls k3 _ _ x8_3 (rd l1 x10_3) false _ ?side1 ?side2 A19.out).mono ?_); (case side1 => exact zqC (Kd.R_reads' HO_8.out).2.2); (case side2 => exact (Kd.R_reads' HO_8.out).2.1); rintro e w' ⟨rfl, ⟨nd, rfl⟩⟩; (try first | exact ⟨rfl, _, World.drewN_drewN _ _ _⟩ | exact ⟨rfl, _, Eq.trans (World.drewN_drewN _ _ _) (congrArg (World.drewN _) (Nat.add_assoc _ _ _))⟩); all_goals (have p125 : 0 ≤ (x9_2 : Int) := of_decide_eq_true zq2; have q125 : x9_2 < (x8_3.length : Int) := of_decide_eq_true zq2; obtain ⟨ad125, e125, hx125_0⟩ := Kd.at_int (Kd.R_reads' HO_8.out).2.2 x9_2 p125 q125; cases e125; replace p125 := eq_true p125; replace q125 := eq_true q125; have p126 : 0 ≤ (x10_3 : Int) := of_decide_eq_true zq2; have q126 : x10_3 < (l1.length : Int) := of_decide_eq_true zq2; obtain ⟨ad126, e126, hx126_0⟩ := Kd.at_int HR1.out x10_3 p126 q126; obtain rfl : ad117 = ad126 := (by injection e126); replace hx126_0 := bx HB.out hx126_0; replace p126 := eq_true p126; replace q126 := eq_true q126)) | (go_at_call 54; (with_reducible refine (spec_l8Beside.calls a0 (rd x8_3 x9_2) (rd l1 x10_3) false _ A24.out).mono ?_); rintro e w' ⟨rfl, ⟨nd, rfl⟩⟩; (try first | exact ⟨rfl, _, World.drewN_drewN _ _ _⟩ | exact ⟨rfl, _, Eq.trans (World.drewN_drewN _ _ _) (congrArg (World.drewN _) (Nat.add_assoc _ _ _))⟩)))
     repeat (go_quiet (first | (go_at_call 53; (with_reducible refine (spec_l1Has.calls k3 _ _ x8_3 (rd l1 x10_3) false _ ?side1 ?side2 A19.out).mono ?_); (case side1 => exact zqC (Kd.R_reads' HO_8.out).2.2); (case side2 => exact (Kd.R_reads' HO_8.out).2.1); rintro e w' ⟨rfl, ⟨nd, rfl⟩⟩; (try first | exact ⟨rfl, _, World.drewN_drewN _ _ _⟩ | exact ⟨rfl, _, Eq.trans (World.drewN_drewN _ _ _) (congrArg (World.drewN _) (Nat.add_assoc _ _ _))⟩); all_goals (have p125 : 0 ≤ (x9_2 : Int) := of_decide_eq_true zq2; have q125 : x9_2 < (x8_3.length : Int) := of_decide_eq_true zq2; obtain ⟨ad125, e125, hx125_0⟩ := Kd.at_int (Kd.R_reads' HO_8.out).2.2 x9_2 p125 q125; cases e125; replace p125 := eq_true p125; replace q125 := eq_true q125; have p126 : 0 ≤ (x10_3 : Int) := of_decide_eq_true zq2; have q126 : x10_3 < (l1.length : Int) := of_decide_eq_true zq2; obtain ⟨ad126, e126, hx126_0⟩ := Kd.at_int HR1.out x10_3 p126 q126; obtain rfl : ad117 = ad126 := (by injection e126); replace hx126_0 := bx HB.out hx126_0; replace p126 := eq_true p126; replace q126 := eq_true q126)) | (go_at_call 54; (with_reducible refine (spec_l8Beside.calls a0 (rd x8_3 x9_2) (rd l1 x10_3) false _ A24.out).mono ?_); rintro e w' ⟨rfl, ⟨nd, rfl⟩⟩; (try first | exact ⟨rfl, _, World.drewN_drewN _ _ _⟩ | exact ⟨rfl, _, Eq.trans (World.drewN_drewN _ _ _) (congrArg (World.drewN _) (Nat.add_assoc _ _ _))⟩))); try go_wp2_with (first | (go_at_call 53; (with_reducible refine (spec_l1Has.calls k3 _ _ x8_3 (rd l1 x10_3) false _ ?side1 ?side2 A19.out).mono ?_); (case side1 => exact zqC (Kd.R_reads' HO_8.out).2.2); (case side2 => exact (Kd.R_reads' HO_8.out).2.1); rintro e w' ⟨rfl, ⟨nd, rfl⟩⟩; (try first | exact ⟨rfl, _, World.drewN_drewN _ _ _⟩ | exact ⟨rfl, _, Eq.trans (World.drewN_drewN _ _ _) (congrArg (World.drewN _) (Nat.add_assoc _ _ _))⟩); all_goals (have p125 : 0 ≤ (x9_2 : Int) := of_decide_eq_true zq2; have q125 : x9_2 < (x8_3.length : Int) := of_decide_eq_true zq2; obtain ⟨ad125, e125, hx125_0⟩ := Kd.at_int (Kd.R_reads' HO_8.out).2.2 x9_2 p125 q125; cases e125; replace p125 := eq_true p125; replace q125 := eq_true q125; have p126 : 0 ≤ (x10_3 : Int) := of_decide_eq_true zq2; have q126 : x10_3 < (l1.length : Int) := of_decide_eq_true zq2; obtain ⟨ad126, e126, hx126_0⟩ := Kd.at_int HR1.out x10_3 p126 q126; obtain rfl : ad117 = ad126 := (by injection e126); replace hx126_0 := bx HB.out hx126_0; replace p126 := eq_true p126; replace q126 := eq_true q126)) | (go_at_call 54; (with_reducible refine (spec_l8Beside.calls a0 (rd x8_3 x9_2) (rd l1 x10_3) false _ A24.out).mono ?_); rintro e w' ⟨rfl, ⟨nd, rfl⟩⟩; (try first | exact ⟨rfl, _, World.drewN_drewN _ _ _⟩ | exact ⟨rfl, _, Eq.trans (World.drewN_drewN _ _ _) (congrArg (World.drewN _) (Nat.add_assoc _ _ _))⟩))))
     go_roundg k3
     case measure => have := HK1.out; have := HK2.out; have := HK3.out; omega
     case rel => exact ⟨(x8_3), (wrap64 (x10_3 + 1)), (by first | rfl | (simp; done) | (simp [*]; done)), H', ⟨by have := HK1.out; have := HK2.out; have := HK3.out; omega⟩, ⟨by (with_reducible repeat (first | apply Kd.S_alloc | apply Kd.S_drewN | apply Kd.S_drew)); exact HO_5.out⟩, ⟨zqR HO_6.out⟩, ⟨zqR HO_8.out⟩, ⟨zq0⟩⟩
    subst c25
    have H1 : (if x8_3.length < 17592186044416 then (spec_l8Parts.l2 k3 a0 l1 x5_1 x6_1 x7_1 (x8_3 ++ [rd l1 x10_3]) x9_2 (wrap64 (x10_3 + 1))) else (none)) = some r := by rw [if_pos rfl] at H; exact H
    clear H
    have H := H1
    clear H1
    by_cases c26 : x8_3.length < 17592186044416
    case neg =>
     rw [if_neg c26] at H
     exact absurd H (by simp)
    rw [if_pos c26] at H
    have LMc26 := Aside0.mk c26
    clear c26
    obtain ⟨y129, hy129⟩ : ∃ y_ : List Int, y_ = (x8_3 ++ [rd l1 x10_3]) := ⟨_, rfl⟩
    replace H : (spec_l8Parts.l2 k3 a0 l1 x5_1 x6_1 x7_1 y129 x9_2 (wrap64 (x10_3 + 1))) = some r := zqH hy129 H
    have Ny129 := Aside0.mk hy129
    clear hy129
    have H' := Aside0.mk H
    clear H
    have p123 : 0 ≤ (x10_3 : Int) := of_decide_eq_true zq2
    have q123 : x10_3 < (l1.length : Int) := of_decide_eq_true zq2
    obtain ⟨ad123, e123, hx123_0⟩ := Kd.at_int HR1.out x10_3 p123 q123
    obtain rfl : ad117 = ad123 := (by injection e123)
    replace hx123_0 := bx HB.out hx123_0
    replace p123 := eq_true p123
    replace q123 := eq_true q123
    obtain ⟨Ao27, co27, eo27⟩ := Kd.R_slice HO_8.out
    subst eo27
    go_wp2_with (first | (go_at_call 53; (with_reducible refine (spec_l1Has.calls k3 _ _ x8_3 (rd l1 x10_3) false _ ?side1 ?side2 A19.out).mono ?_); (case side1 => exact zqC (Kd.R_reads' HO_8.out).2.2); (case side2 => exact (Kd.R_reads' HO_8.out).2.1); rintro e w' ⟨rfl, ⟨nd, rfl⟩⟩; (try first | exact ⟨rfl, _, World.drewN_drewN _ _ _⟩ | exact ⟨rfl, _, Eq.trans (World.drewN_drewN _ _ _) (congrArg (World.drewN _) (Nat.add_assoc _ _ _))⟩); all_goals (have p125 : 0 ≤ (x9_2 : Int) := of_decide_eq_true zq2; have q125 : x9_2 < (x8_3.length : Int) := of_decide_eq_true zq2; obtain ⟨ad125, e125, hx125_0⟩ := Kd.at_int (Kd.R_reads' HO_8.out).2.2 x9_2 p125 q125; cases e125; replace p125 := eq_true p125; replace q125 := eq_true q125; have p126 : 0 ≤ (x10_3 : Int) := of_decide_eq_true zq2; have q126 : x10_3 < (l1.length : Int) := of_decide_eq_true zq2; obtain ⟨ad126, e126, hx126_0⟩ := Kd.at_int HR1.out x10_3 p126 q126; obtain rfl : ad117 = ad126 := (by injection e126); replace hx126_0 := bx HB.out hx126_0; replace p126 := eq_true p126; replace q126 := eq_true q126)) | (go_at_call 54; (with_reducible refine (spec_l8Beside.calls a0 (rd x8_3 x9_2) (rd l1 x10_3) true _ A24.out).mono ?_); rintro e w' ⟨rfl, ⟨nd, rfl⟩⟩; (try first | exact ⟨rfl, _, World.drewN_drewN _ _ _⟩ | exact ⟨rfl, _, Eq.trans (World.drewN_drewN _ _ _) (congrArg (World.drewN _) (Nat.add_assoc _ _ _))⟩); all_goals (have p128 : 0 ≤ (x10_3 : Int) := of_decide_eq_true zq2; have q128 : x10_3 < (l1.length : Int) := of_decide_eq_true zq2; obtain ⟨ad128, e128, hx128_0⟩ := Kd.at_int HR1.out x10_3 p128 q128; obtain rfl : ad117 = ad128 := (by injection e128); replace hx128_0 := bx HB.out hx128_0; replace p128 := eq_true p128; replace q128 := eq_true q128)) | ((with_reducible refine gate_builtin (b := .append) (xs := #[.tmp 63, .tmp 68]) rfl ?_); at_builtin; refine Kd.R_append (Kd.int .i64) (w0 := w) w.heap.size rfl (.tmp 63) (.tmp 68) 22 3 (.int .i64 0) 8 rfl Try.underlying22 info3 rfl (by decide) (by omega) (.slice (some ad125) x8_3.length co27) x8_3 (rd l1 x10_3) [.int .i64 (rd l1 x10_3)] (fun k_ => some k_ ≠ (.slice Ao12 x6_1.length co12 : Value).ownBlock) (fun _ => False) rfl rfl ?aP (fun _ hk => hk.elim) ?aF ?aO ?aB ?aS ?aL ?_; (case aP => exact rfl); (case aB => exact zq0); (case aF => exact (fun k_ hk => Kd.fresh' (Kd.R_lt (zqR HO_6.out)) k_ hk)); (case aO => exact (zqR HO_8.out)); (case aS => exact (below_size zq0)); (case aL => have := LMc26.out; omega); intro v130 w28 ho hb hg hat; rw [← Ny129.out] at ho; replace HO_5 := Aside0.mk (Kd.S_after (ok := (fun k_ => some k_ ≠ (.slice Ao12 x6_1.length co12 : Value).ownBlock)) zq17 hg hat); replace HO_6 := Aside0.mk (Kd.R_after (ok := (fun _ => True)) (by (with_reducible repeat (first | apply Kd.R_alloc | apply Kd.R_drewN | apply Kd.R_drew)); exact Kd.R_mono HO_6.out (fun _ hk => ⟨trivial, hk⟩)) hg hat); replace HB := Aside0.mk (hb); have HO131 := Aside0.mk (ho); clear HO_8; clear ho hb hg hat))
    repeat (go_quiet (first | (go_at_call 53; (with_reducible refine (spec_l1Has.calls k3 _ _ x8_3 (rd l1 x10_3) false _ ?side1 ?side2 A19.out).mono ?_); (case side1 => exact zqC (Kd.R_reads' HO_8.out).2.2); (case side2 => exact (Kd.R_reads' HO_8.out).2.1); rintro e w' ⟨rfl, ⟨nd, rfl⟩⟩; (try first | exact ⟨rfl, _, World.drewN_drewN _ _ _⟩ | exact ⟨rfl, _, Eq.trans (World.drewN_drewN _ _ _) (congrArg (World.drewN _) (Nat.add_assoc _ _ _))⟩); all_goals (have p125 : 0 ≤ (x9_2 : Int) := of_decide_eq_true zq2; have q125 : x9_2 < (x8_3.length : Int) := of_decide_eq_true zq2; obtain ⟨ad125, e125, hx125_0⟩ := Kd.at_int (Kd.R_reads' HO_8.out).2.2 x9_2 p125 q125; cases e125; replace p125 := eq_true p125; replace q125 := eq_true q125; have p126 : 0 ≤ (x10_3 : Int) := of_decide_eq_true zq2; have q126 : x10_3 < (l1.length : Int) := of_decide_eq_true zq2; obtain ⟨ad126, e126, hx126_0⟩ := Kd.at_int HR1.out x10_3 p126 q126; obtain rfl : ad117 = ad126 := (by injection e126); replace hx126_0 := bx HB.out hx126_0; replace p126 := eq_true p126; replace q126 := eq_true q126)) | (go_at_call 54; (with_reducible refine (spec_l8Beside.calls a0 (rd x8_3 x9_2) (rd l1 x10_3) true _ A24.out).mono ?_); rintro e w' ⟨rfl, ⟨nd, rfl⟩⟩; (try first | exact ⟨rfl, _, World.drewN_drewN _ _ _⟩ | exact ⟨rfl, _, Eq.trans (World.drewN_drewN _ _ _) (congrArg (World.drewN _) (Nat.add_assoc _ _ _))⟩); all_goals (have p128 : 0 ≤ (x10_3 : Int) := of_decide_eq_true zq2; have q128 : x10_3 < (l1.length : Int) := of_decide_eq_true zq2; obtain ⟨ad128, e128, hx128_0⟩ := Kd.at_int HR1.out x10_3 p128 q128; obtain rfl : ad117 = ad128 := (by injection e128); replace hx128_0 := bx HB.out hx128_0; replace p128 := eq_true p128; replace q128 := eq_true q128)) | ((with_reducible refine gate_builtin (b := .append) (xs := #[.tmp 63, .tmp 68]) rfl ?_); at_builtin; refine Kd.R_append (Kd.int .i64) (w0 := w) w.heap.size rfl (.tmp 63) (.tmp 68) 22 3 (.int .i64 0) 8 rfl Try.underlying22 info3 rfl (by decide) (by omega) (.slice (some ad125) x8_3.length co27) x8_3 (rd l1 x10_3) [.int .i64 (rd l1 x10_3)] (fun k_ => some k_ ≠ (.slice Ao12 x6_1.length co12 : Value).ownBlock) (fun _ => False) rfl rfl ?aP (fun _ hk => hk.elim) ?aF ?aO ?aB ?aS ?aL ?_; (case aP => exact rfl); (case aB => exact zq0); (case aF => exact (fun k_ hk => Kd.fresh' (Kd.R_lt (zqR HO_6.out)) k_ hk)); (case aO => exact (zqR HO_8.out)); (case aS => exact (below_size zq0)); (case aL => have := LMc26.out; omega); intro v130 w28 ho hb hg hat; rw [← Ny129.out] at ho; replace HO_5 := Aside0.mk (Kd.S_after (ok := (fun k_ => some k_ ≠ (.slice Ao12 x6_1.length co12 : Value).ownBlock)) zq17 hg hat); replace HO_6 := Aside0.mk (Kd.R_after (ok := (fun _ => True)) (by (with_reducible repeat (first | apply Kd.R_alloc | apply Kd.R_drewN | apply Kd.R_drew)); exact Kd.R_mono HO_6.out (fun _ hk => ⟨trivial, hk⟩)) hg hat); replace HB := Aside0.mk (hb); have HO131 := Aside0.mk (ho); clear HO_8; clear ho hb hg hat)); try go_wp2_with (first | (go_at_call 53; (with_reducible refine (spec_l1Has.calls k3 _ _ x8_3 (rd l1 x10_3) false _ ?side1 ?side2 A19.out).mono ?_); (case side1 => exact zqC (Kd.R_reads' HO_8.out).2.2); (case side2 => exact (Kd.R_reads' HO_8.out).2.1); rintro e w' ⟨rfl, ⟨nd, rfl⟩⟩; (try first | exact ⟨rfl, _, World.drewN_drewN _ _ _⟩ | exact ⟨rfl, _, Eq.trans (World.drewN_drewN _ _ _) (congrArg (World.drewN _) (Nat.add_assoc _ _ _))⟩); all_goals (have p125 : 0 ≤ (x9_2 : Int) := of_decide_eq_true zq2; have q125 : x9_2 < (x8_3.length : Int) := of_decide_eq_true zq2; obtain ⟨ad125, e125, hx125_0⟩ := Kd.at_int (Kd.R_reads' HO_8.out).2.2 x9_2 p125 q125; cases e125; replace p125 := eq_true p125; replace q125 := eq_true q125; have p126 : 0 ≤ (x10_3 : Int) := of_decide_eq_true zq2; have q126 : x10_3 < (l1.length : Int) := of_decide_eq_true zq2; obtain ⟨ad126, e126, hx126_0⟩ := Kd.at_int HR1.out x10_3 p126 q126; obtain rfl : ad117 = ad126 := (by injection e126); replace hx126_0 := bx HB.out hx126_0; replace p126 := eq_true p126; replace q126 := eq_true q126)) | (go_at_call 54; (with_reducible refine (spec_l8Beside.calls a0 (rd x8_3 x9_2) (rd l1 x10_3) true _ A24.out).mono ?_); rintro e w' ⟨rfl, ⟨nd, rfl⟩⟩; (try first | exact ⟨rfl, _, World.drewN_drewN _ _ _⟩ | exact ⟨rfl, _, Eq.trans (World.drewN_drewN _ _ _) (congrArg (World.drewN _) (Nat.add_assoc _ _ _))⟩); all_goals (have p128 : 0 ≤ (x10_3 : Int) := of_decide_eq_true zq2; have q128 : x10_3 < (l1.length : Int) := of_decide_eq_true zq2; obtain ⟨ad128, e128, hx128_0⟩ := Kd.at_int HR1.out x10_3 p128 q128; obtain rfl : ad117 = ad128 := (by injection e128); replace hx128_0 := bx HB.out hx128_0; replace p128 := eq_true p128; replace q128 := eq_true q128)) | ((with_reducible refine gate_builtin (b := .append) (xs := #[.tmp 63, .tmp 68]) rfl ?_); at_builtin; refine Kd.R_append (Kd.int .i64) (w0 := w) w.heap.size rfl (.tmp 63) (.tmp 68) 22 3 (.int .i64 0) 8 rfl Try.underlying22 info3 rfl (by decide) (by omega) (.slice (some ad125) x8_3.length co27) x8_3 (rd l1 x10_3) [.int .i64 (rd l1 x10_3)] (fun k_ => some k_ ≠ (.slice Ao12 x6_1.length co12 : Value).ownBlock) (fun _ => False) rfl rfl ?aP (fun _ hk => hk.elim) ?aF ?aO ?aB ?aS ?aL ?_; (case aP => exact rfl); (case aB => exact zq0); (case aF => exact (fun k_ hk => Kd.fresh' (Kd.R_lt (zqR HO_6.out)) k_ hk)); (case aO => exact (zqR HO_8.out)); (case aS => exact (below_size zq0)); (case aL => have := LMc26.out; omega); intro v130 w28 ho hb hg hat; rw [← Ny129.out] at ho; replace HO_5 := Aside0.mk (Kd.S_after (ok := (fun k_ => some k_ ≠ (.slice Ao12 x6_1.length co12 : Value).ownBlock)) zq17 hg hat); replace HO_6 := Aside0.mk (Kd.R_after (ok := (fun _ => True)) (by (with_reducible repeat (first | apply Kd.R_alloc | apply Kd.R_drewN | apply Kd.R_drew)); exact Kd.R_mono HO_6.out (fun _ hk => ⟨trivial, hk⟩)) hg hat); replace HB := Aside0.mk (hb); have HO131 := Aside0.mk (ho); clear HO_8; clear ho hb hg hat)))
    go_roundg k3
    case measure => have := HK1.out; have := HK2.out; have := HK3.out; omega
    case rel => exact ⟨(y129), (wrap64 (x10_3 + 1)), (by first | rfl | (simp; done) | (simp [*]; done)), H', ⟨by have := HK1.out; have := HK2.out; have := HK3.out; omega⟩, ⟨by (with_reducible repeat (first | apply Kd.S_alloc | apply Kd.S_drewN | apply Kd.S_drew)); exact HO_5.out⟩, ⟨by (with_reducible repeat (first | apply Kd.R_alloc | apply Kd.R_drewN | apply Kd.R_drew)); exact Kd.R_mono HO_6.out (fun _ hk => hk.2)⟩, ⟨zqR HO131.out⟩, ⟨zq0⟩⟩
def spec_l8Above.l0 : Nat → Int → List Int → Int → Int → Int → List Int → Option (List Int)
 | 0, _, _, _, _, _, _ => none
 | k + 1, x1, x5, x6, x146000, x146001, x146002 => if x6 < (x146002.length : Int) then (if 0 ≤ x6 then (if (rd x146002 x6) = (-9999) then (spec_l8Above.l0 k x1 x5 (wrap64 (x6 + 1)) x146000 x146001 x146002) else (if (rd x146002 x6) > x1 then (if x5.length < 17592186044416 then (spec_l8Above.l0 k x1 (x5 ++ [x6]) (wrap64 (x6 + 1)) x146000 x146001 x146002) else (none)) else (spec_l8Above.l0 k x1 x5 (wrap64 (x6 + 1)) x146000 x146001 x146002))) else (none)) else (some x5)
def spec_l8Above.f (k : Nat) (a0_0 : Int) (a0_1 : Int) (l0_2 : List Int) (a1 : Int) : Option (List Int) := spec_l8Above.l0 k a1 (([] : List Int)) 0 a0_0 a0_1 l0_2
set_option maxHeartbeats 8000000 in
set_option maxRecDepth 100000 in
theorem spec_l8Above.calls (k : Nat) (a0_0 : Int) (a0_1 : Int) (A0_2 : Option Addr) (c0_2 : Nat) (l0_2 : List Int) (a1 : Int) (r : List Int) (w : World) (hr0_2 : Kd.C (Kd.int .i64) w A0_2 l0_2.length l0_2) (hc0_2 : l0_2.length ≤ c0_2) (h : spec_l8Above.f k a0_0 a0_1 l0_2 a1 = some r) :
  Calls Try.prog 27 #[.agg #[.int .i64 a0_0, .int .i64 a0_1, .slice A0_2 l0_2.length c0_2], .int .i64 a1] w fun e w' => ∃ v0_ : Value, e = .returned (v0_) ∧ Kd.R (Kd.int .i64) 3 w' w.heap.size (fun _ => True) v0_ r ∧ Below w.heap.size w w' := by
 have hu29 := Try.underlying29
 have HR0_2 := Aside0.mk hr0_2
 have HC0_2 := Aside0.mk hc0_2
 clear hr0_2 hc0_2
 have HB := Aside0.mk (Below.refl w.heap.size w)
 have H : (spec_l8Above.l0 k a1 (([] : List Int)) 0 a0_0 a0_1 l0_2) = some r := h
 clear h
 obtain ⟨y146, hy146⟩ : ∃ y_ : List Int, y_ = (([] : List Int)) := ⟨_, rfl⟩
 replace H : (spec_l8Above.l0 k a1 y146 0 a0_0 a0_1 l0_2) = some r := zqH hy146 H
 have Ny146 := Aside0.mk hy146
 clear hy146
 have H' := Aside0.mk H
 clear H
 go_enter Try.func27, Try.ntmps27
 go_wp2_with (first | ((with_reducible refine gate_dst (N := 2) rfl ?_); refine box_event ?hg (N := 2) ?hd (cs := #[.int .i64 a0_0, .int .i64 a0_1, .slice A0_2 l0_2.length c0_2]) (t := 29) ?hr ?_; (case hd => rfl); (case hg => rfl); (case hr => exact zqS); intro gb145 hg w3 hbox hb; have BK145 := Aside0.mk (hbox); have GW145 := Aside0.mk ((by rw [hg]; exact (below_size zq0) : w.heap.size ≤ gb145)); replace HB := Aside0.mk (below_step zq0 hb); have GE145 := GW145; clear hb hbox hg) | ((with_reducible refine gate_dst (N := 7) rfl ?_); refine Kd.R_lit (Kd.int .i64) _ 3 ?hg (N := 7) ?hd (xs := ([] : List Int)) (inner := []) (ok := fun _ => True) (okp := fun _ => True) ?hr ?hp (fun _ hk => hk) trivial (Below.refl _ _) (Nat.le_refl _) (by simp) ?_; (case hd => rfl); (case hg => rfl); (case hr => exact zqS); (case hp => exact (Reps.none _ _)); intro v147 w4 ho5 hb hg_ hnew_; clear hg_ hnew_; (first | rw [← Ny146.out] at ho5 | (simp only [Int.reduceToNat] at ho5; rw [← Ny146.out] at ho5)); have HO148 := Aside0.mk (Kd.R_lower ho5 (below_size zq24)); replace BK145 := Aside0.mk (blk_below (g := gb145) (o := .cells #[.int .i64 a0_0, .int .i64 a0_1, .slice A0_2 l0_2.length c0_2] 29 (0, 0)) (zqK BK145.out) hb); replace HB := Aside0.mk (below_step zq24 hb); clear hb ho5))
 go_loopg [5, 6] k (fun kq v5 v6 w' => ∃ (x5_1 : List Int) (x6_1 : Int), v6 = .int .i64 x6_1 ∧ Aside0 (spec_l8Above.l0 kq a1 x5_1 x6_1 a0_0 a0_1 l0_2 = some r) ∧ Aside0 (kq ≤ k) ∧ Aside0 (Kd.R (Kd.int .i64) 3 w' w.heap.size (fun _ => True) v5 x5_1) ∧ Aside0 (w'.heap[gb145]? = some (.cells #[.int .i64 a0_0, .int .i64 a0_1, (.slice A0_2 l0_2.length c0_2)] 29 (0, 0))) ∧ Aside0 (Below w.heap.size w w'))
 case atStart => exact ⟨(y146), (0), (by first | rfl | (simp; done) | (simp [*]; done)), H', ⟨Nat.le_refl _⟩, ⟨zqR HO148.out⟩, ⟨by (with_reducible repeat (first | refine blk_drewN ?_ _ | refine blk_drew ?_ | refine blk_alloc ?_ _)); exact BK145.out⟩, ⟨zq24⟩⟩
 clear H'
 try clear c2
 try clear p2
 obtain ⟨x5_1, x6_1, rfl, HA, HK1, HO_5, BK145, HB⟩ := hrel
 cases gk with
 | zero => exact absurd HA.out (by simp [spec_l8Above.l0])
 | succ k1 =>
  have H := HA.out
  clear HA
  simp only [spec_l8Above.l0] at H
  by_cases c6 : x6_1 < (l0_2.length : Int)
  case neg =>
   rw [if_neg c6] at H
   have c6b0 : decide (x6_1 < (l0_2.length : Int)) = false := decide_eq_false c6
   clear c6
   obtain rfl := Option.some.inj H
   have hcz15_0 := bz BK145.out 0 (.int .i64 a0_0)
   have hcz15_1 := bz BK145.out 1 (.int .i64 a0_1)
   have hcz15_2 := bz BK145.out 2 (.slice A0_2 l0_2.length c0_2)
   have hfz15_0 := blk_frozen BK145.out 0
   have hfz15_1 := blk_frozen BK145.out 1
   have hfz15_2 := blk_frozen BK145.out 2
   go_wp2
   go_ret
   exact ⟨_, by first | rfl | (simp [errW_none, errW_some] <;> rfl) | (simp [*, errW_none, errW_some] <;> rfl), zqR HO_5.out, zq24⟩
  rw [if_pos c6] at H
  have c6b0 : decide (x6_1 < (l0_2.length : Int)) = true := decide_eq_true c6
  clear c6
  by_cases c7 : 0 ≤ x6_1
  case neg =>
   rw [if_neg c7] at H
   exact absurd H (by simp)
  rw [if_pos c7] at H
  have c7b0 : decide (0 ≤ x6_1) = true := decide_eq_true c7
  clear c7
  by_cases c8 : (rd l0_2 x6_1) = (-9999)
  case pos =>
   rw [if_pos c8] at H
   have c8b0 : ((rd l0_2 x6_1) == (-9999)) = true := beq_iff_eq.mpr c8
   have c8b1 : ((rd l0_2 x6_1) != (-9999)) = false := bne_eq_false_iff_eq.mpr c8
   clear c8
   have H' := Aside0.mk H
   clear H
   have hcz9_0 := bz BK145.out 0 (.int .i64 a0_0)
   have hcz9_1 := bz BK145.out 1 (.int .i64 a0_1)
   have hcz9_2 := bz BK145.out 2 (.slice A0_2 l0_2.length c0_2)
   have hfz9_0 := blk_frozen BK145.out 0
   have hfz9_1 := blk_frozen BK145.out 1
   have hfz9_2 := blk_frozen BK145.out 2
   have p149 : 0 ≤ (x6_1 : Int) := of_decide_eq_true zq2
   have q149 : x6_1 < (l0_2.length : Int) := of_decide_eq_true zq2
   obtain ⟨ad149, e149, hx149_0⟩ := Kd.at_int HR0_2.out x6_1 p149 q149
   cases e149
   replace hx149_0 := bx HB.out hx149_0
   replace p149 := eq_true p149
   replace q149 := eq_true q149
   go_wp2
   go_roundg k1
   case measure => have := HK1.out; omega
   case rel => exact ⟨(x5_1), (wrap64 (x6_1 + 1)), (by first | rfl | (simp; done) | (simp [*]; done)), H', ⟨by have := HK1.out; omega⟩, ⟨zqR HO_5.out⟩, ⟨by (with_reducible repeat (first | refine blk_drewN ?_ _ | refine blk_drew ?_ | refine blk_alloc ?_ _)); exact BK145.out⟩, ⟨zq24⟩⟩
  rw [if_neg c8] at H
  have c8b0 : ((rd l0_2 x6_1) == (-9999)) = false := beq_eq_false_iff_ne.mpr c8
  have c8b1 : ((rd l0_2 x6_1) != (-9999)) = true := bne_iff_ne.mpr c8
  by_cases c10 : (rd l0_2 x6_1) > a1
  case neg =>
   rw [if_neg c10] at H
   have c10b0 : decide (a1 < (rd l0_2 x6_1)) = false := decide_eq_false c10
   clear c10
   have H' := Aside0.mk H
   clear H
   have hcz14_0 := bz BK145.out 0 (.int .i64 a0_0)
   have hcz14_1 := bz BK145.out 1 (.int .i64 a0_1)
   have hcz14_2 := bz BK145.out 2 (.slice A0_2 l0_2.length c0_2)
   have hfz14_0 := blk_frozen BK145.out 0
   have hfz14_1 := blk_frozen BK145.out 1
   have hfz14_2 := blk_frozen BK145.out 2
   have p149 : 0 ≤ (x6_1 : Int) := of_decide_eq_true zq2
   have q149 : x6_1 < (l0_2.length : Int) := of_decide_eq_true zq2
   obtain ⟨ad149, e149, hx149_0⟩ := Kd.at_int HR0_2.out x6_1 p149 q149
   cases e149
   replace hx149_0 := bx HB.out hx149_0
   replace p149 := eq_true p149
   replace q149 := eq_true q149
   have p150 : 0 ≤ (x6_1 : Int) := of_decide_eq_true zq2
   have q150 : x6_1 < (l0_2.length : Int) := of_decide_eq_true zq2
   obtain ⟨ad150, e150, hx150_0⟩ := Kd.at_int HR0_2.out x6_1 p150 q150
   obtain rfl : ad149 = ad150 := (by injection e150)
   replace hx150_0 := bx HB.out hx150_0
   replace p150 := eq_true p150
   replace q150 := eq_true q150
   go_wp2
   go_roundg k1
   case measure => have := HK1.out; omega
   case rel => exact ⟨(x5_1), (wrap64 (x6_1 + 1)), (by first | rfl | (simp; done) | (simp [*]; done)), H', ⟨by have := HK1.out; omega⟩, ⟨zqR HO_5.out⟩, ⟨by (with_reducible repeat (first | refine blk_drewN ?_ _ | refine blk_drew ?_ | refine blk_alloc ?_ _)); exact BK145.out⟩, ⟨zq24⟩⟩
  rw [if_pos c10] at H
  have c10b0 : decide (a1 < (rd l0_2 x6_1)) = true := decide_eq_true c10
  clear c10
  by_cases c11 : x5_1.length < 17592186044416
  case neg =>
   rw [if_neg c11] at H
   exact absurd H (by simp)
  rw [if_pos c11] at H
  have LMc11 := Aside0.mk c11
  clear c11
  obtain ⟨y151, hy151⟩ : ∃ y_ : List Int, y_ = (x5_1 ++ [x6_1]) := ⟨_, rfl⟩
  replace H : (spec_l8Above.l0 k1 a1 y151 (wrap64 (x6_1 + 1)) a0_0 a0_1 l0_2) = some r := zqH hy151 H
  have Ny151 := Aside0.mk hy151
  clear hy151
  have H' := Aside0.mk H
  clear H
  have hcz12_0 := bz BK145.out 0 (.int .i64 a0_0)
  have hcz12_1 := bz BK145.out 1 (.int .i64 a0_1)
  have hcz12_2 := bz BK145.out 2 (.slice A0_2 l0_2.length c0_2)
  have hfz12_0 := blk_frozen BK145.out 0
  have hfz12_1 := blk_frozen BK145.out 1
  have hfz12_2 := blk_frozen BK145.out 2
  have p149 : 0 ≤ (x6_1 : Int) := of_decide_eq_true zq2
  have q149 : x6_1 < (l0_2.length : Int) := of_decide_eq_true zq2
  obtain ⟨ad149, e149, hx149_0⟩ := Kd.at_int HR0_2.out x6_1 p149 q149
  cases e149
  replace hx149_0 := bx HB.out hx149_0
  replace p149 := eq_true p149
  replace q149 := eq_true q149
  have p150 : 0 ≤ (x6_1 : Int) := of_decide_eq_true zq2
  have q150 : x6_1 < (l0_2.length : Int) := of_decide_eq_true zq2
  obtain ⟨ad150, e150, hx150_0⟩ := Kd.at_int HR0_2.out x6_1 p150 q150
  obtain rfl : ad149 = ad150 := (by injection e150)
  replace hx150_0 := bx HB.out hx150_0
  replace p150 := eq_true p150
  replace q150 := eq_true q150
  go_wp2_with (first | ((with_reducible refine gate_builtin (b := .append) (xs := #[.tmp 30, .tmp 32]) rfl ?_); at_builtin; refine Kd.R_append (Kd.int .i64) (w0 := w) w.heap.size rfl (.tmp 30) (.tmp 32) 22 3 (.int .i64 0) 8 rfl Try.underlying22 info3 rfl (by decide) (by omega) u5 x5_1 x6_1 [.int .i64 x6_1] (fun _ => True) (fun _ => False) rfl rfl ?aP (fun _ hk => hk.elim) ?aF ?aO ?aB ?aS ?aL ?_; (case aP => exact rfl); (case aB => exact zq24); (case aF => exact (fun _ _ => trivial)); (case aO => exact (zqR HO_5.out)); (case aS => exact (below_size zq24)); (case aL => have := LMc11.out; omega); intro v152 w13 ho hb hg hat; rw [← Ny151.out] at ho; replace BK145 := Aside0.mk (blk_grown (g := gb145) (o := .cells #[.int .i64 a0_0, .int .i64 a0_1, .slice (some ad149) l0_2.length c0_2] 29 (0, 0)) (zqK BK145.out) hg (Kd.R_ne HO_5.out BK145.out (by decide))); replace HB := Aside0.mk (hb); have HO153 := Aside0.mk (ho); clear HO_5; clear ho hb hg hat))
  go_roundg k1
  case measure => have := HK1.out; omega
  case rel => exact ⟨(y151), (wrap64 (x6_1 + 1)), (by first | rfl | (simp; done) | (simp [*]; done)), H', ⟨by have := HK1.out; omega⟩, ⟨zqR HO153.out⟩, ⟨by (with_reducible repeat (first | refine blk_drewN ?_ _ | refine blk_drew ?_ | refine blk_alloc ?_ _)); exact BK145.out⟩, ⟨zq24⟩⟩
def spec_l12Storm.l0 : Nat → List Int → Int → Int → Int → Int → List Int → Option (Int × Int × Int × Int)
 | 0, _, _, _, _, _, _ => none
 | k + 1, x1, x5, x6, x155000, x155001, x155002 => if x6 < (x1.length : Int) then (if 0 ≤ x6 then (if 0 ≤ (rd x1 x6) then (if (rd x1 x6) < (x155002.length : Int) then (if 0 ≤ x5 then (if x5 < (x155002.length : Int) then (if (rd x155002 (rd x1 x6)) > (rd x155002 x5) then (spec_l12Storm.l0 k x1 (rd x1 x6) (wrap64 (x6 + 1)) x155000 x155001 x155002) else (spec_l12Storm.l0 k x1 x5 (wrap64 (x6 + 1)) x155000 x155001 x155002)) else (none)) else (none)) else (none)) else (none)) else (none)) else (if x155000 = 0 then (none) else (if 0 ≤ x5 then (if x5 < (x155002.length : Int) then (some (Int.tmod x5 x155000, wrap64 (Int.tdiv x5 x155000), (x1.length : Int), rd x155002 x5)) else (none)) else (none)))
def spec_l12Storm.f (k : Nat) (a0_0 : Int) (a0_1 : Int) (l0_2 : List Int) (l1 : List Int) : Option (Int × Int × Int × Int) := if 0 < (l1.length : Int) then (spec_l12Storm.l0 k l1 (rd l1 0) 1 a0_0 a0_1 l0_2) else (none)
def spec_l12Storm.T5 : Bool × List (List Nat × List Nat) := (true, [([], []), ([0], [0]), ([], []), ([], []), ([2, 3], [2, 3]), ([4], [4]), ([1, 5], [1, 5]), ([6], [6]), ([], []), ([8], [8]), ([], []), ([9, 10], [9, 10]), ([11], [11]), ([7, 12], [7, 12])])
def spec_l12Storm.B5 : List Nat := [0, 1, 0, 0, 12, 28, 63, 127, 0, 256, 0, 1792, 3840, 8191]
theorem spec_l12Storm.tab5 : rtab .any (opsOf Try.f28 5) = spec_l12Storm.T5 := by kernel_rfl
theorem spec_l12Storm.bits5 : waitsOk spec_l12Storm.T5.2 spec_l12Storm.B5 = true := by kernel_rfl
def spec_l12Storm.T7 : Bool × List (List Nat × List Nat) := (true, [([], []), ([], []), ([1], [1]), ([0, 2], [0, 2]), ([], []), ([], []), ([5], [5]), ([4, 6], [4, 6]), ([], []), ([8], [8]), ([], []), ([10], [10]), ([], []), ([11, 12], [11, 12]), ([13], [13]), ([3, 7, 9, 14], [3, 7, 9, 14]), ([15, 0, 1, 2, 3, 4, 5, 6, 7, 8, 9, 10, 11, 12, 13, 14, 15], [15])])
def spec_l12Storm.B7 : List Nat := [0, 0, 2, 7, 0, 0, 32, 112, 0, 256, 0, 1024, 0, 7168, 15360, 32767, 65535]
theorem spec_l12Storm.tab7 : rtab .any (opsOf Try.f28 7) = spec_l12Storm.T7 := by kernel_rfl
theorem spec_l12Storm.bits7 : waitsOk spec_l12Storm.T7.2 spec_l12Storm.B7 = true := by kernel_rfl
set_option maxHeartbeats 8000000 in
set_option maxRecDepth 100000 in
theorem spec_l12Storm.calls (k : Nat) (a0_0 : Int) (a0_1 : Int) (A0_2 : Option Addr) (c0_2 : Nat) (l0_2 : List Int) (A1 : Option Addr) (c1 : Nat) (l1 : List Int) (r1 : Int) (r2 : Int) (r3 : Int) (r4 : Int) (w : World) (hr0_2 : Kd.C (Kd.int .i64) w A0_2 l0_2.length l0_2) (hc0_2 : l0_2.length ≤ c0_2) (hr1 : Kd.C (Kd.int .i64) w A1 l1.length l1) (hc1 : l1.length ≤ c1) (h : spec_l12Storm.f k a0_0 a0_1 l0_2 l1 = some (r1, r2, r3, r4)) :
  Calls Try.prog 28 #[.agg #[.int .i64 a0_0, .int .i64 a0_1, .slice A0_2 l0_2.length c0_2], .slice A1 l1.length c1] w fun e w' => e = .returned (.agg #[.int .i64 r1, .int .i64 r2, .int .i64 r3, .int .i64 r4]) ∧ Below w.heap.size w w' := by
 have hu29 := Try.underlying29
 have hu49 := Try.underlying49
 have HR0_2 := Aside0.mk hr0_2
 have HC0_2 := Aside0.mk hc0_2
 clear hr0_2 hc0_2
 have HR1 := Aside0.mk hr1
 have HC1 := Aside0.mk hc1
 clear hr1 hc1
 have HB := Aside0.mk (Below.refl w.heap.size w)
 have H : (if 0 < (l1.length : Int) then (spec_l12Storm.l0 k l1 (rd l1 0) 1 a0_0 a0_1 l0_2) else (none)) = some (r1, r2, r3, r4) := h
 clear h
 by_cases c3 : 0 < (l1.length : Int)
 case neg =>
  rw [if_neg c3] at H
  exact absurd H (by simp)
 rw [if_pos c3] at H
 have c3b0 : decide (0 < (l1.length : Int)) = true := decide_eq_true c3
 have c3b1 : decide (0 < l1.length) = true := decide_eq_true (by omega)
 clear c3
 have H' := Aside0.mk H
 clear H
 go_enter Try.func28, Try.ntmps28
 go_wp2_with (first | ((with_reducible refine gate_dst (N := 2) rfl ?_); refine box_event ?hg (N := 2) ?hd (cs := #[.int .i64 a0_0, .int .i64 a0_1, .slice A0_2 l0_2.length c0_2]) (t := 29) ?hr ?_; (case hd => rfl); (case hg => rfl); (case hr => exact zqS); intro gb154 hg w4 hbox hb; have BK154 := Aside0.mk (hbox); have GW154 := Aside0.mk ((by rw [hg]; exact (below_size zq0) : w.heap.size ≤ gb154)); replace HB := Aside0.mk (below_step zq0 hb); have GE154 := GW154; clear hb hbox hg) | ((with_reducible refine gate_dst (N := 4) rfl ?_); refine box_event ?hg (N := 4) ?hd (cs := #[.int .i64 0, .int .i64 0, .int .i64 0, .int .i64 0]) (t := 49) ?hr ?_; (case hd => rfl); (case hg => rfl); (case hr => exact zqS); intro gb155 hg w5 hbox hb; have BK155 := Aside0.mk (hbox); have GW155 := Aside0.mk ((by rw [hg]; exact (below_size zq45) : w.heap.size ≤ gb155)); replace HB := Aside0.mk (below_step zq45 hb); have GE155 := GW155; have NB154_155 := Aside0.mk ((by rw [hg]; exact Nat.ne_of_lt (blk_lt (g := gb154) (o := .cells #[.int .i64 a0_0, .int .i64 a0_1, .slice A0_2 l0_2.length c0_2] 29 (0, 0)) (zqK BK154.out)) : gb154 ≠ gb155)); have NB155_154 := Aside0.mk ((by rw [hg]; exact Nat.ne_of_gt (blk_lt (g := gb154) (o := .cells #[.int .i64 a0_0, .int .i64 a0_1, .slice A0_2 l0_2.length c0_2] 29 (0, 0)) (zqK BK154.out)) : gb155 ≠ gb154)); replace BK154 := Aside0.mk (blk_below (g := gb154) (o := .cells #[.int .i64 a0_0, .int .i64 a0_1, .slice A0_2 l0_2.length c0_2] 29 (0, 0)) (zqK BK154.out) hb); clear hb hbox hg; have p156 : 0 ≤ (0 : Int) := (by omega); have q156 : 0 < (l1.length : Int) := of_decide_eq_true zq2; obtain ⟨ad156, e156, hx156_0⟩ := Kd.at_int HR1.out 0 p156 q156; cases e156; have qi156 : (0 < l1.length) = True := eq_true (by omega); (try rw [show ((0 : Int)).toNat = 0 from rfl] at hx156_0); (try rw [Addr.add_zero'] at hx156_0); replace hx156_0 := bx HB.out hx156_0; replace p156 := eq_true p156; replace q156 := eq_true q156))
 go_loopg [5, 6] k (fun kq v5 v6 w' => ∃ (x5_1 : Int) (x6_1 : Int), v5 = .int .i64 x5_1 ∧ v6 = .int .i64 x6_1 ∧ Aside0 (spec_l12Storm.l0 kq l1 x5_1 x6_1 a0_0 a0_1 l0_2 = some (r1, r2, r3, r4)) ∧ Aside0 (kq ≤ k) ∧ Aside0 (w'.heap[gb154]? = some (.cells #[.int .i64 a0_0, .int .i64 a0_1, (.slice A0_2 l0_2.length c0_2)] 29 (0, 0))) ∧ Aside0 (w'.heap[gb155]? = some (.cells #[.int .i64 0, .int .i64 0, .int .i64 0, .int .i64 0] 49 (0, 0))) ∧ Aside0 (Below w.heap.size w w'))
 case atStart => exact ⟨(rd l1 0), (1), (by first | rfl | (simp; done) | (simp [*]; done)), (by first | rfl | (simp; done) | (simp [*]; done)), H', ⟨Nat.le_refl _⟩, ⟨by (with_reducible repeat (first | refine blk_drewN ?_ _ | refine blk_drew ?_ | refine blk_alloc ?_ _)); exact BK154.out⟩, ⟨by (with_reducible repeat (first | refine blk_drewN ?_ _ | refine blk_drew ?_ | refine blk_alloc ?_ _)); exact BK155.out⟩, ⟨zq37⟩⟩
 clear H'
 try clear c1
 try clear p1
 try clear q1
 try clear hx1
 try clear qi1
 try clear c2
 try clear p2
 try clear c3
 try clear c3b0
 try clear c3b1
 try clear hx156_0
 try clear p156
 try clear q156
 obtain ⟨x5_1, x6_1, rfl, rfl, HA, HK1, BK154, BK155, HB⟩ := hrel
 cases gk with
 | zero => exact absurd HA.out (by simp [spec_l12Storm.l0])
 | succ k1 =>
  have H := HA.out
  clear HA
  simp only [spec_l12Storm.l0] at H
  by_cases c6 : x6_1 < (l1.length : Int)
  case neg =>
   rw [if_neg c6] at H
   have c6b0 : decide (x6_1 < (l1.length : Int)) = false := decide_eq_false c6
   clear c6
   by_cases c15 : a0_0 = 0
   case pos =>
    rw [if_pos c15] at H
    exact absurd H (by simp)
   rw [if_neg c15] at H
   have c15b0 : (a0_0 == 0) = false := beq_eq_false_iff_ne.mpr c15
   have c15b1 : (a0_0 != 0) = true := bne_iff_ne.mpr c15
   by_cases c16 : 0 ≤ x5_1
   case neg =>
    rw [if_neg c16] at H
    exact absurd H (by simp)
   rw [if_pos c16] at H
   have c16b0 : decide (0 ≤ x5_1) = true := decide_eq_true c16
   clear c16
   by_cases c17 : x5_1 < (l0_2.length : Int)
   case neg =>
    rw [if_neg c17] at H
    exact absurd H (by simp)
   rw [if_pos c17] at H
   have c17b0 : decide (x5_1 < (l0_2.length : Int)) = true := decide_eq_true c17
   clear c17
   simp only [Option.some.injEq, Prod.mk.injEq] at H
   obtain ⟨rfl, rfl, rfl, rfl⟩ := H
   try go_wp2
   have n0_ := Aside0.mk (blk_drew BK154.out)
   have n1_ := Aside0.mk (blk_drew BK155.out)
   have n2_ := Aside0.mk (below_drew1 HB.out)
   clear BK154
   clear BK155
   clear HB
   have BK154 := n0_
   have BK155 := n1_
   have HB := n2_
   clear n0_ n1_ n2_
   have p161 : 0 ≤ (x5_1 : Int) := of_decide_eq_true zq2
   have q161 : x5_1 < (l0_2.length : Int) := of_decide_eq_true zq2
   obtain ⟨ad161, e161, hx161_0⟩ := Kd.at_int HR0_2.out x5_1 p161 q161
   have hw161_0 := hx161_0
   cases e161
   replace hx161_0 := bx HB.out hx161_0
   replace p161 := eq_true p161
   replace q161 := eq_true q161
   refine start_ (n := 17) (S := fun w' => w'.cell? ⟨gb154, 0, none⟩ = some (.int .i64 a0_0) ∧ w'.cell? ⟨gb154, 1, none⟩ = some (.int .i64 a0_1) ∧ w'.cell? ⟨gb154, 2, none⟩ = some (.slice (some ad161) l0_2.length c0_2) ∧ w'.cell? (ad161.add (x5_1).toNat) = some (.int .i64 (rd l0_2 x5_1))) (ds := []) #[false, false, false, false, false, false, false, false, false, false, false, false, false, false, false, false, false] (by kernel_rfl) rfl rfl ⟨(blk_cell BK154.out 0).trans rfl, (blk_cell BK154.out 1).trans rfl, (blk_cell BK154.out 2).trans rfl, ((HB.out.cell (World.block_lt_of_cell? w _ hw161_0)).trans hw161_0)⟩ (fun hHeld => ?_); refine with_tabW spec_l12Storm.tab7 spec_l12Storm.bits7 (fun HT_ HW_ => ?_)
   generalize wr.drew = w18 at BK154 BK155 HB hx161_0 hHeld ⊢
   refine zP 0 (some 34) #[zt, zf, zf, zf, zf, zf, zf, zf, zf, zf, zf, zf, zf, zf, zf, zf, zf] ?_ rfl rfl HT_ (Or.inl ⟨by rfl, ?_⟩) ?_ ?_ ?_
   rotate_left; · exact zqB
   rotate_left; · exact zqA
   refine zP 1 (some 35) #[zt, zt, zf, zf, zf, zf, zf, zf, zf, zf, zf, zf, zf, zf, zf, zf, zf] ?_ rfl rfl HT_ (Or.inl ⟨by rfl, ?_⟩) ?_ ?_ ?_
   rotate_left; · exact zqB
   rotate_left; · exact zqA
   refine zP 4 (some 38) #[zt, zt, zf, zf, zt, zf, zf, zf, zf, zf, zf, zf, zf, zf, zf, zf, zf] ?_ rfl rfl HT_ (Or.inl ⟨by rfl, ?_⟩) ?_ ?_ ?_
   rotate_left; · exact zqB
   rotate_left; · exact zqA
   refine zP 5 (some 39) #[zt, zt, zf, zf, zt, zt, zf, zf, zf, zf, zf, zf, zf, zf, zf, zf, zf] ?_ rfl rfl HT_ (Or.inl ⟨by rfl, ?_⟩) ?_ ?_ ?_
   rotate_left; · exact zqB
   rotate_left; · exact zqA
   refine zP 8 (some 42) #[zt, zt, zf, zf, zt, zt, zf, zf, zt, zf, zf, zf, zf, zf, zf, zf, zf] ?_ rfl rfl HT_ (Or.inl ⟨by rfl, ?_⟩) ?_ ?_ ?_
   rotate_left; · exact zqB
   rotate_left; · exact zqA
   refine zP 9 (some 43) #[zt, zt, zf, zf, zt, zt, zf, zf, zt, zt, zf, zf, zf, zf, zf, zf, zf] ?_ rfl rfl HT_ (Or.inl ⟨by rfl, ?_⟩) ?_ ?_ ?_
   rotate_left; · exact zqB
   rotate_left; · exact zqA
   refine zP 10 (some 44) #[zt, zt, zf, zf, zt, zt, zf, zf, zt, zt, zt, zf, zf, zf, zf, zf, zf] ?_ rfl rfl HT_ (Or.inl ⟨by rfl, ?_⟩) ?_ ?_ ?_
   rotate_left; · exact zqB
   rotate_left; · exact zqA
   refine zP 12 (some 46) #[zt, zt, zf, zf, zt, zt, zf, zf, zt, zt, zt, zf, zt, zf, zf, zf, zf] ?_ rfl rfl HT_ (Or.inl ⟨by rfl, ?_⟩) ?_ ?_ ?_
   rotate_left; · exact zqB
   rotate_left; · exact zqA
   refine zT 2 (some 36) #[zt, zt, zt, zf, zt, zt, zf, zf, zt, zt, zt, zf, zt, zf, zf, zf, zf] ?_ rfl rfl HT_ HW_ (Or.inl ⟨by rfl, ?_⟩) hHeld ?_ ?_ ?_
   rotate_left
   ·
    rintro w' ⟨s0, s1, s2, s3⟩
    go_simp
    with_reducible rfl
   rotate_left; · exact zqA
   refine zP 3 (some 37) #[zt, zt, zt, zt, zt, zt, zf, zf, zt, zt, zt, zf, zt, zf, zf, zf, zf] ?_ rfl rfl HT_ (Or.inl ⟨by rfl, ?_⟩) ?_ ?_ ?_
   rotate_left; · exact zqB
   rotate_left; · exact zqA
   refine zT 6 (some 40) #[zt, zt, zt, zt, zt, zt, zt, zf, zt, zt, zt, zf, zt, zf, zf, zf, zf] ?_ rfl rfl HT_ HW_ (Or.inl ⟨by rfl, ?_⟩) hHeld ?_ ?_ ?_
   rotate_left
   ·
    rintro w' ⟨s0, s1, s2, s3⟩
    go_simp
    with_reducible rfl
   rotate_left; · exact zqA
   refine zP 7 (some 41) #[zt, zt, zt, zt, zt, zt, zt, zt, zt, zt, zt, zf, zt, zf, zf, zf, zf] ?_ rfl rfl HT_ (Or.inl ⟨by rfl, ?_⟩) ?_ ?_ ?_
   rotate_left; · exact zqB
   rotate_left; · exact zqA
   refine zT 11 (some 45) #[zt, zt, zt, zt, zt, zt, zt, zt, zt, zt, zt, zt, zt, zf, zf, zf, zf] ?_ rfl rfl HT_ HW_ (Or.inl ⟨by rfl, ?_⟩) hHeld ?_ ?_ ?_
   rotate_left
   ·
    rintro w' ⟨s0, s1, s2, s3⟩
    go_simp
    with_reducible rfl
   rotate_left; · exact zqA
   refine zP 13 (some 47) #[zt, zt, zt, zt, zt, zt, zt, zt, zt, zt, zt, zt, zt, zt, zf, zf, zf] ?_ rfl rfl HT_ (Or.inl ⟨by rfl, ?_⟩) ?_ ?_ ?_
   rotate_left; · exact zqB
   rotate_left; · exact zqA
   refine zT 14 (some 48) #[zt, zt, zt, zt, zt, zt, zt, zt, zt, zt, zt, zt, zt, zt, zt, zf, zf] ?_ rfl rfl HT_ HW_ (Or.inl ⟨by rfl, ?_⟩) hHeld ?_ ?_ ?_
   rotate_left
   ·
    rintro w' ⟨s0, s1, s2, s3⟩
    go_simp
    with_reducible rfl
   rotate_left; · exact zqA
   refine zP 15 (some 49) #[zt, zt, zt, zt, zt, zt, zt, zt, zt, zt, zt, zt, zt, zt, zt, zt, zf] ?_ rfl rfl HT_ (Or.inl ⟨by rfl, ?_⟩) ?_ ?_ ?_
   rotate_left; · exact zqB
   rotate_left; · exact zqA
   refine one_ (i := 16) (N := none) #[zt, zt, zt, zt, zt, zt, zt, zt, zt, zt, zt, zt, zt, zt, zt, zt, zt] rfl rfl (one_of HT_.out (by kernel_rfl)) (by decide) (fun K hK => ?_)
   have hs19 : w18.cell? ⟨gb155, 0, none⟩ = some (.int .i64 0) := (blk_cell BK155.out 0).trans rfl
   have hfs19 := blk_frozen BK155.out 0
   have hns19_0 := NB154_155.out
   have hms19_0 := NB155_154.out
   have hs20 : w18.cell? ⟨gb155, 1, none⟩ = some (.int .i64 0) := (blk_cell BK155.out 1).trans rfl
   have hfs20 := blk_frozen BK155.out 1
   have hns20_0 := NB154_155.out
   have hms20_0 := NB155_154.out
   have hs21 : w18.cell? ⟨gb155, 2, none⟩ = some (.int .i64 0) := (blk_cell BK155.out 2).trans rfl
   have hfs21 := blk_frozen BK155.out 2
   have hns21_0 := NB154_155.out
   have hms21_0 := NB155_154.out
   have hs22 : w18.cell? ⟨gb155, 3, none⟩ = some (.int .i64 0) := (blk_cell BK155.out 3).trans rfl
   have hfs22 := blk_frozen BK155.out 3
   have hns22_0 := NB154_155.out
   have hms22_0 := NB155_154.out
   refine skip_ (w1 := ?_) (by rfl) rfl ?_ ?_
   rotate_left
   ·
    go_simp
    rfl
   refine hK.out _ _ ⟨((cell_far (p := ⟨gb155, _, none⟩) NB154_155.out _).trans (((cell_far (p := ⟨gb155, _, none⟩) NB154_155.out _).trans (((cell_far (p := ⟨gb155, _, none⟩) NB154_155.out _).trans (((cell_far (p := ⟨gb155, _, none⟩) NB154_155.out _).trans (hHeld.1)))))))), ((cell_far (p := ⟨gb155, _, none⟩) NB154_155.out _).trans (((cell_far (p := ⟨gb155, _, none⟩) NB154_155.out _).trans (((cell_far (p := ⟨gb155, _, none⟩) NB154_155.out _).trans (((cell_far (p := ⟨gb155, _, none⟩) NB154_155.out _).trans (hHeld.2.1)))))))), ((cell_far (p := ⟨gb155, _, none⟩) NB154_155.out _).trans (((cell_far (p := ⟨gb155, _, none⟩) NB154_155.out _).trans (((cell_far (p := ⟨gb155, _, none⟩) NB154_155.out _).trans (((cell_far (p := ⟨gb155, _, none⟩) NB154_155.out _).trans (hHeld.2.2.1)))))))), ((cell_far (p := ⟨gb155, _, none⟩) (by first | exact Nat.ne_of_lt (Nat.lt_of_lt_of_le (by have := World.block_lt_of_cell? _ _ hw161_0; first | rwa [add_block] at this | exact this) GW155.out) | (rw [add_block]; exact Nat.ne_of_lt (Nat.lt_of_lt_of_le (by have := World.block_lt_of_cell? _ _ hw161_0; first | rwa [add_block] at this | exact this) GW155.out)) | (show (Addr.add _ _).block ≠ _; rw [add_block]; exact Nat.ne_of_lt (Nat.lt_of_lt_of_le (by have := World.block_lt_of_cell? _ _ hw161_0; first | rwa [add_block] at this | exact this) GW155.out)) | (dsimp only; exact Nat.ne_of_lt (Nat.lt_of_lt_of_le (by have := World.block_lt_of_cell? _ _ hw161_0; first | rwa [add_block] at this | exact this) GW155.out))) _).trans (((cell_far (p := ⟨gb155, _, none⟩) (by first | exact Nat.ne_of_lt (Nat.lt_of_lt_of_le (by have := World.block_lt_of_cell? _ _ hw161_0; first | rwa [add_block] at this | exact this) GW155.out) | (rw [add_block]; exact Nat.ne_of_lt (Nat.lt_of_lt_of_le (by have := World.block_lt_of_cell? _ _ hw161_0; first | rwa [add_block] at this | exact this) GW155.out)) | (show (Addr.add _ _).block ≠ _; rw [add_block]; exact Nat.ne_of_lt (Nat.lt_of_lt_of_le (by have := World.block_lt_of_cell? _ _ hw161_0; first | rwa [add_block] at this | exact this) GW155.out)) | (dsimp only; exact Nat.ne_of_lt (Nat.lt_of_lt_of_le (by have := World.block_lt_of_cell? _ _ hw161_0; first | rwa [add_block] at this | exact this) GW155.out))) _).trans (((cell_far (p := ⟨gb155, _, none⟩) (by first | exact Nat.ne_of_lt (Nat.lt_of_lt_of_le (by have := World.block_lt_of_cell? _ _ hw161_0; first | rwa [add_block] at this | exact this) GW155.out) | (rw [add_block]; exact Nat.ne_of_lt (Nat.lt_of_lt_of_le (by have := World.block_lt_of_cell? _ _ hw161_0; first | rwa [add_block] at this | exact this) GW155.out)) | (show (Addr.add _ _).block ≠ _; rw [add_block]; exact Nat.ne_of_lt (Nat.lt_of_lt_of_le (by have := World.block_lt_of_cell? _ _ hw161_0; first | rwa [add_block] at this | exact this) GW155.out)) | (dsimp only; exact Nat.ne_of_lt (Nat.lt_of_lt_of_le (by have := World.block_lt_of_cell? _ _ hw161_0; first | rwa [add_block] at this | exact this) GW155.out))) _).trans (((cell_far (p := ⟨gb155, _, none⟩) (by first | exact Nat.ne_of_lt (Nat.lt_of_lt_of_le (by have := World.block_lt_of_cell? _ _ hw161_0; first | rwa [add_block] at this | exact this) GW155.out) | (rw [add_block]; exact Nat.ne_of_lt (Nat.lt_of_lt_of_le (by have := World.block_lt_of_cell? _ _ hw161_0; first | rwa [add_block] at this | exact this) GW155.out)) | (show (Addr.add _ _).block ≠ _; rw [add_block]; exact Nat.ne_of_lt (Nat.lt_of_lt_of_le (by have := World.block_lt_of_cell? _ _ hw161_0; first | rwa [add_block] at this | exact this) GW155.out)) | (dsimp only; exact Nat.ne_of_lt (Nat.lt_of_lt_of_le (by have := World.block_lt_of_cell? _ _ hw161_0; first | rwa [add_block] at this | exact this) GW155.out))) _).trans (hHeld.2.2.2))))))))⟩ (fun hHeld => ?_)
   clear hK K
   refine done_ (done_of HT_.out (by kernel_rfl)) ?_
   try go_wp2
   refine bodyPost_ret (results_cell_row rfl _ _ gb155 49 #[.int .i64 (Int.tmod x5_1 a0_0), .int .i64 (wrap64 (Int.tdiv x5_1 a0_0)), .int .i64 (l1.length : Int), .int .i64 (rd l0_2 x5_1)] (0, 0) _ rfl (by (with_reducible repeat (first | refine blk_drewN ?_ _ | refine blk_drew ?_ | refine blk_alloc ?_ _)); refine blk_put (cs := #[.int .i64 (Int.tmod x5_1 a0_0), .int .i64 (wrap64 (Int.tdiv x5_1 a0_0)), .int .i64 (l1.length : Int), .int .i64 0]) ?_ 3 _ rfl; (with_reducible repeat (first | refine blk_drewN ?_ _ | refine blk_drew ?_ | refine blk_alloc ?_ _)); refine blk_put (cs := #[.int .i64 (Int.tmod x5_1 a0_0), .int .i64 (wrap64 (Int.tdiv x5_1 a0_0)), .int .i64 0, .int .i64 0]) ?_ 2 _ rfl; (with_reducible repeat (first | refine blk_drewN ?_ _ | refine blk_drew ?_ | refine blk_alloc ?_ _)); refine blk_put (cs := #[.int .i64 (Int.tmod x5_1 a0_0), .int .i64 0, .int .i64 0, .int .i64 0]) ?_ 1 _ rfl; (with_reducible repeat (first | refine blk_drewN ?_ _ | refine blk_drew ?_ | refine blk_alloc ?_ _)); refine blk_put (cs := #[.int .i64 0, .int .i64 0, .int .i64 0, .int .i64 0]) ?_ 0 _ rfl; (with_reducible repeat (first | refine blk_drewN ?_ _ | refine blk_drew ?_ | refine blk_alloc ?_ _)); exact BK155.out) Try.underlying49 rfl (by kernel_rfl)) rfl ?_
   exact ⟨zqE, zq37⟩
  rw [if_pos c6] at H
  have c6b0 : decide (x6_1 < (l1.length : Int)) = true := decide_eq_true c6
  clear c6
  by_cases c7 : 0 ≤ x6_1
  case neg =>
   rw [if_neg c7] at H
   exact absurd H (by simp)
  rw [if_pos c7] at H
  have c7b0 : decide (0 ≤ x6_1) = true := decide_eq_true c7
  clear c7
  by_cases c8 : 0 ≤ (rd l1 x6_1)
  case neg =>
   rw [if_neg c8] at H
   exact absurd H (by simp)
  rw [if_pos c8] at H
  have c8b0 : decide (0 ≤ (rd l1 x6_1)) = true := decide_eq_true c8
  clear c8
  by_cases c9 : (rd l1 x6_1) < (l0_2.length : Int)
  case neg =>
   rw [if_neg c9] at H
   exact absurd H (by simp)
  rw [if_pos c9] at H
  have c9b0 : decide ((rd l1 x6_1) < (l0_2.length : Int)) = true := decide_eq_true c9
  clear c9
  by_cases c10 : 0 ≤ x5_1
  case neg =>
   rw [if_neg c10] at H
   exact absurd H (by simp)
  rw [if_pos c10] at H
  have c10b0 : decide (0 ≤ x5_1) = true := decide_eq_true c10
  clear c10
  by_cases c11 : x5_1 < (l0_2.length : Int)
  case neg =>
   rw [if_neg c11] at H
   exact absurd H (by simp)
  rw [if_pos c11] at H
  have c11b0 : decide (x5_1 < (l0_2.length : Int)) = true := decide_eq_true c11
  clear c11
  by_cases c12 : (rd l0_2 (rd l1 x6_1)) > (rd l0_2 x5_1)
  case neg =>
   rw [if_neg c12] at H
   have c12b0 : decide ((rd l0_2 x5_1) < (rd l0_2 (rd l1 x6_1))) = false := decide_eq_false c12
   clear c12
   have H' := Aside0.mk H
   clear H
   try go_wp2
   have n0_ := Aside0.mk (blk_drew BK154.out)
   have n1_ := Aside0.mk (blk_drew BK155.out)
   have n2_ := Aside0.mk (below_drew1 HB.out)
   clear BK154
   clear BK155
   clear HB
   have BK154 := n0_
   have BK155 := n1_
   have HB := n2_
   clear n0_ n1_ n2_
   have p157 : 0 ≤ (x6_1 : Int) := of_decide_eq_true zq2
   have q157 : x6_1 < (l1.length : Int) := of_decide_eq_true zq2
   obtain ⟨ad157, e157, hx157_0⟩ := Kd.at_int HR1.out x6_1 p157 q157
   have hw157_0 := hx157_0
   obtain rfl : ad156 = ad157 := (by injection e157)
   replace hx157_0 := bx HB.out hx157_0
   replace p157 := eq_true p157
   replace q157 := eq_true q157
   have p158 : 0 ≤ ((rd l1 x6_1) : Int) := of_decide_eq_true zq2
   have q158 : (rd l1 x6_1) < (l0_2.length : Int) := of_decide_eq_true zq2
   obtain ⟨ad158, e158, hx158_0⟩ := Kd.at_int HR0_2.out (rd l1 x6_1) p158 q158
   have hw158_0 := hx158_0
   cases e158
   replace hx158_0 := bx HB.out hx158_0
   replace p158 := eq_true p158
   replace q158 := eq_true q158
   have p159 : 0 ≤ (x5_1 : Int) := of_decide_eq_true zq2
   have q159 : x5_1 < (l0_2.length : Int) := of_decide_eq_true zq2
   obtain ⟨ad159, e159, hx159_0⟩ := Kd.at_int HR0_2.out x5_1 p159 q159
   have hw159_0 := hx159_0
   obtain rfl : ad158 = ad159 := (by injection e159)
   replace hx159_0 := bx HB.out hx159_0
   replace p159 := eq_true p159
   replace q159 := eq_true q159
   refine start_ (n := 14) (S := fun w' => w'.cell? ⟨gb154, 0, none⟩ = some (.int .i64 a0_0) ∧ w'.cell? ⟨gb154, 1, none⟩ = some (.int .i64 a0_1) ∧ w'.cell? ⟨gb154, 2, none⟩ = some (.slice (some ad158) l0_2.length c0_2) ∧ w'.cell? (ad156.add (x6_1).toNat) = some (.int .i64 (rd l1 x6_1)) ∧ w'.cell? (ad158.add ((rd l1 x6_1)).toNat) = some (.int .i64 (rd l0_2 (rd l1 x6_1))) ∧ w'.cell? (ad158.add (x5_1).toNat) = some (.int .i64 (rd l0_2 x5_1))) (ds := []) #[false, false, false, false, false, false, false, false, false, false, false, false, false, false] (by kernel_rfl) rfl rfl ⟨(blk_cell BK154.out 0).trans rfl, (blk_cell BK154.out 1).trans rfl, (blk_cell BK154.out 2).trans rfl, ((HB.out.cell (World.block_lt_of_cell? w _ hw157_0)).trans hw157_0), ((HB.out.cell (World.block_lt_of_cell? w _ hw158_0)).trans hw158_0), ((HB.out.cell (World.block_lt_of_cell? w _ hw159_0)).trans hw159_0)⟩ (fun hHeld => ?_); refine with_tabW spec_l12Storm.tab5 spec_l12Storm.bits5 (fun HT_ HW_ => ?_)
   generalize wr.drew = w14 at BK154 BK155 HB hx157_0 hx158_0 hx159_0 hHeld ⊢
   refine zP 0 (some 16) #[zt, zf, zf, zf, zf, zf, zf, zf, zf, zf, zf, zf, zf, zf] ?_ rfl rfl HT_ (Or.inl ⟨by rfl, ?_⟩) ?_ ?_ ?_
   rotate_left; · exact zqB
   rotate_left; · exact zqA
   refine zP 2 (some 18) #[zt, zf, zt, zf, zf, zf, zf, zf, zf, zf, zf, zf, zf, zf] ?_ rfl rfl HT_ (Or.inl ⟨by rfl, ?_⟩) ?_ ?_ ?_
   rotate_left; · exact zqB
   rotate_left; · exact zqA
   refine zP 3 (some 19) #[zt, zf, zt, zt, zf, zf, zf, zf, zf, zf, zf, zf, zf, zf] ?_ rfl rfl HT_ (Or.inl ⟨by rfl, ?_⟩) ?_ ?_ ?_
   rotate_left; · exact zqB
   rotate_left; · exact zqA
   refine zP 4 (some 20) #[zt, zf, zt, zt, zt, zf, zf, zf, zf, zf, zf, zf, zf, zf] ?_ rfl rfl HT_ (Or.inl ⟨by rfl, ?_⟩) ?_ ?_ ?_
   rotate_left; · exact zqB
   rotate_left; · exact zqA
   refine zP 8 (some 24) #[zt, zf, zt, zt, zt, zf, zf, zf, zt, zf, zf, zf, zf, zf] ?_ rfl rfl HT_ (Or.inl ⟨by rfl, ?_⟩) ?_ ?_ ?_
   rotate_left; · exact zqB
   rotate_left; · exact zqA
   refine zP 10 (some 26) #[zt, zf, zt, zt, zt, zf, zf, zf, zt, zf, zt, zf, zf, zf] ?_ rfl rfl HT_ (Or.inl ⟨by rfl, ?_⟩) ?_ ?_ ?_
   rotate_left; · exact zqB
   rotate_left; · exact zqA
   refine zT 1 (some 17) #[zt, zt, zt, zt, zt, zf, zf, zf, zt, zf, zt, zf, zf, zf] ?_ rfl rfl HT_ HW_ (Or.inl ⟨by rfl, ?_⟩) hHeld ?_ ?_ ?_
   rotate_left
   ·
    rintro w' ⟨s0, s1, s2, s3, s4, s5⟩
    go_simp
    with_reducible rfl
   rotate_left; · exact zqA
   refine zT 5 (some 21) #[zt, zt, zt, zt, zt, zt, zf, zf, zt, zf, zt, zf, zf, zf] ?_ rfl rfl HT_ HW_ (Or.inl ⟨by rfl, ?_⟩) hHeld ?_ ?_ ?_
   rotate_left
   ·
    rintro w' ⟨s0, s1, s2, s3, s4, s5⟩
    go_simp
    with_reducible rfl
   rotate_left; · exact zqA
   refine zP 6 (some 22) #[zt, zt, zt, zt, zt, zt, zt, zf, zt, zf, zt, zf, zf, zf] ?_ rfl rfl HT_ (Or.inl ⟨by rfl, ?_⟩) ?_ ?_ ?_
   rotate_left; · exact zqB
   rotate_left; · exact zqA
   refine zT 7 (some 23) #[zt, zt, zt, zt, zt, zt, zt, zt, zt, zf, zt, zf, zf, zf] ?_ rfl rfl HT_ HW_ (Or.inl ⟨by rfl, ?_⟩) hHeld ?_ ?_ ?_
   rotate_left
   ·
    rintro w' ⟨s0, s1, s2, s3, s4, s5⟩
    go_simp
    with_reducible rfl
   rotate_left; · exact zqA
   refine zT 9 (some 25) #[zt, zt, zt, zt, zt, zt, zt, zt, zt, zt, zt, zf, zf, zf] ?_ rfl rfl HT_ HW_ (Or.inl ⟨by rfl, ?_⟩) hHeld ?_ ?_ ?_
   rotate_left
   ·
    rintro w' ⟨s0, s1, s2, s3, s4, s5⟩
    go_simp
    with_reducible rfl
   rotate_left; · exact zqA
   refine zP 11 (some 27) #[zt, zt, zt, zt, zt, zt, zt, zt, zt, zt, zt, zt, zf, zf] ?_ rfl rfl HT_ (Or.inl ⟨by rfl, ?_⟩) ?_ ?_ ?_
   rotate_left; · exact zqB
   rotate_left; · exact zqA
   refine zT 12 (some 28) #[zt, zt, zt, zt, zt, zt, zt, zt, zt, zt, zt, zt, zt, zf] ?_ rfl rfl HT_ HW_ (Or.inl ⟨by rfl, ?_⟩) hHeld ?_ ?_ ?_
   rotate_left
   ·
    rintro w' ⟨s0, s1, s2, s3, s4, s5⟩
    go_simp
    with_reducible rfl
   rotate_left; · exact zqA
   refine zP 13 (some 29) #[zt, zt, zt, zt, zt, zt, zt, zt, zt, zt, zt, zt, zt, zt] ?_ rfl rfl HT_ (Or.inl ⟨by rfl, ?_⟩) ?_ ?_ ?_
   rotate_left; · exact zqB
   rotate_left; · exact zqA
   refine done_ (done_of HT_.out (by kernel_rfl)) ?_
   try go_wp2
   go_roundg k1
   case measure => have := HK1.out; omega
   case rel => exact ⟨(x5_1), (wrap64 (x6_1 + 1)), (by first | rfl | (simp; done) | (simp [*]; done)), (by first | rfl | (simp; done) | (simp [*]; done)), H', ⟨by have := HK1.out; omega⟩, ⟨by (with_reducible repeat (first | refine blk_drewN ?_ _ | refine blk_drew ?_ | refine blk_alloc ?_ _)); exact BK154.out⟩, ⟨by (with_reducible repeat (first | refine blk_drewN ?_ _ | refine blk_drew ?_ | refine blk_alloc ?_ _)); exact BK155.out⟩, ⟨zq37⟩⟩
  rw [if_pos c12] at H
  have c12b0 : decide ((rd l0_2 x5_1) < (rd l0_2 (rd l1 x6_1))) = true := decide_eq_true c12
  clear c12
  have H' := Aside0.mk H
  clear H
  try go_wp2
  have n0_ := Aside0.mk (blk_drew BK154.out)
  have n1_ := Aside0.mk (blk_drew BK155.out)
  have n2_ := Aside0.mk (below_drew1 HB.out)
  clear BK154
  clear BK155
  clear HB
  have BK154 := n0_
  have BK155 := n1_
  have HB := n2_
  clear n0_ n1_ n2_
  have p157 : 0 ≤ (x6_1 : Int) := of_decide_eq_true zq2
  have q157 : x6_1 < (l1.length : Int) := of_decide_eq_true zq2
  obtain ⟨ad157, e157, hx157_0⟩ := Kd.at_int HR1.out x6_1 p157 q157
  have hw157_0 := hx157_0
  obtain rfl : ad156 = ad157 := (by injection e157)
  replace hx157_0 := bx HB.out hx157_0
  replace p157 := eq_true p157
  replace q157 := eq_true q157
  have p158 : 0 ≤ ((rd l1 x6_1) : Int) := of_decide_eq_true zq2
  have q158 : (rd l1 x6_1) < (l0_2.length : Int) := of_decide_eq_true zq2
  obtain ⟨ad158, e158, hx158_0⟩ := Kd.at_int HR0_2.out (rd l1 x6_1) p158 q158
  have hw158_0 := hx158_0
  cases e158
  replace hx158_0 := bx HB.out hx158_0
  replace p158 := eq_true p158
  replace q158 := eq_true q158
  have p159 : 0 ≤ (x5_1 : Int) := of_decide_eq_true zq2
  have q159 : x5_1 < (l0_2.length : Int) := of_decide_eq_true zq2
  obtain ⟨ad159, e159, hx159_0⟩ := Kd.at_int HR0_2.out x5_1 p159 q159
  have hw159_0 := hx159_0
  obtain rfl : ad158 = ad159 := (by injection e159)
  replace hx159_0 := bx HB.out hx159_0
  replace p159 := eq_true p159
  replace q159 := eq_true q159
  refine start_ (n := 14) (S := fun w' => w'.cell? ⟨gb154, 0, none⟩ = some (.int .i64 a0_0) ∧ w'.cell? ⟨gb154, 1, none⟩ = some (.int .i64 a0_1) ∧ w'.cell? ⟨gb154, 2, none⟩ = some (.slice (some ad158) l0_2.length c0_2) ∧ w'.cell? (ad156.add (x6_1).toNat) = some (.int .i64 (rd l1 x6_1)) ∧ w'.cell? (ad158.add ((rd l1 x6_1)).toNat) = some (.int .i64 (rd l0_2 (rd l1 x6_1))) ∧ w'.cell? (ad158.add (x5_1).toNat) = some (.int .i64 (rd l0_2 x5_1))) (ds := []) #[false, false, false, false, false, false, false, false, false, false, false, false, false, false] (by kernel_rfl) rfl rfl ⟨(blk_cell BK154.out 0).trans rfl, (blk_cell BK154.out 1).trans rfl, (blk_cell BK154.out 2).trans rfl, ((HB.out.cell (World.block_lt_of_cell? w _ hw157_0)).trans hw157_0), ((HB.out.cell (World.block_lt_of_cell? w _ hw158_0)).trans hw158_0), ((HB.out.cell (World.block_lt_of_cell? w _ hw159_0)).trans hw159_0)⟩ (fun hHeld => ?_); refine with_tabW spec_l12Storm.tab5 spec_l12Storm.bits5 (fun HT_ HW_ => ?_)
  generalize wr.drew = w13 at BK154 BK155 HB hx157_0 hx158_0 hx159_0 hHeld ⊢
  refine zP 0 (some 16) #[zt, zf, zf, zf, zf, zf, zf, zf, zf, zf, zf, zf, zf, zf] ?_ rfl rfl HT_ (Or.inl ⟨by rfl, ?_⟩) ?_ ?_ ?_
  rotate_left; · exact zqB
  rotate_left; · exact zqA
  refine zP 2 (some 18) #[zt, zf, zt, zf, zf, zf, zf, zf, zf, zf, zf, zf, zf, zf] ?_ rfl rfl HT_ (Or.inl ⟨by rfl, ?_⟩) ?_ ?_ ?_
  rotate_left; · exact zqB
  rotate_left; · exact zqA
  refine zP 3 (some 19) #[zt, zf, zt, zt, zf, zf, zf, zf, zf, zf, zf, zf, zf, zf] ?_ rfl rfl HT_ (Or.inl ⟨by rfl, ?_⟩) ?_ ?_ ?_
  rotate_left; · exact zqB
  rotate_left; · exact zqA
  refine zP 4 (some 20) #[zt, zf, zt, zt, zt, zf, zf, zf, zf, zf, zf, zf, zf, zf] ?_ rfl rfl HT_ (Or.inl ⟨by rfl, ?_⟩) ?_ ?_ ?_
  rotate_left; · exact zqB
  rotate_left; · exact zqA
  refine zP 8 (some 24) #[zt, zf, zt, zt, zt, zf, zf, zf, zt, zf, zf, zf, zf, zf] ?_ rfl rfl HT_ (Or.inl ⟨by rfl, ?_⟩) ?_ ?_ ?_
  rotate_left; · exact zqB
  rotate_left; · exact zqA
  refine zP 10 (some 26) #[zt, zf, zt, zt, zt, zf, zf, zf, zt, zf, zt, zf, zf, zf] ?_ rfl rfl HT_ (Or.inl ⟨by rfl, ?_⟩) ?_ ?_ ?_
  rotate_left; · exact zqB
  rotate_left; · exact zqA
  refine zT 1 (some 17) #[zt, zt, zt, zt, zt, zf, zf, zf, zt, zf, zt, zf, zf, zf] ?_ rfl rfl HT_ HW_ (Or.inl ⟨by rfl, ?_⟩) hHeld ?_ ?_ ?_
  rotate_left
  ·
   rintro w' ⟨s0, s1, s2, s3, s4, s5⟩
   go_simp
   with_reducible rfl
  rotate_left; · exact zqA
  refine zT 5 (some 21) #[zt, zt, zt, zt, zt, zt, zf, zf, zt, zf, zt, zf, zf, zf] ?_ rfl rfl HT_ HW_ (Or.inl ⟨by rfl, ?_⟩) hHeld ?_ ?_ ?_
  rotate_left
  ·
   rintro w' ⟨s0, s1, s2, s3, s4, s5⟩
   go_simp
   with_reducible rfl
  rotate_left; · exact zqA
  refine zP 6 (some 22) #[zt, zt, zt, zt, zt, zt, zt, zf, zt, zf, zt, zf, zf, zf] ?_ rfl rfl HT_ (Or.inl ⟨by rfl, ?_⟩) ?_ ?_ ?_
  rotate_left; · exact zqB
  rotate_left; · exact zqA
  refine zT 7 (some 23) #[zt, zt, zt, zt, zt, zt, zt, zt, zt, zf, zt, zf, zf, zf] ?_ rfl rfl HT_ HW_ (Or.inl ⟨by rfl, ?_⟩) hHeld ?_ ?_ ?_
  rotate_left
  ·
   rintro w' ⟨s0, s1, s2, s3, s4, s5⟩
   go_simp
   with_reducible rfl
  rotate_left; · exact zqA
  refine zT 9 (some 25) #[zt, zt, zt, zt, zt, zt, zt, zt, zt, zt, zt, zf, zf, zf] ?_ rfl rfl HT_ HW_ (Or.inl ⟨by rfl, ?_⟩) hHeld ?_ ?_ ?_
  rotate_left
  ·
   rintro w' ⟨s0, s1, s2, s3, s4, s5⟩
   go_simp
   with_reducible rfl
  rotate_left; · exact zqA
  refine zP 11 (some 27) #[zt, zt, zt, zt, zt, zt, zt, zt, zt, zt, zt, zt, zf, zf] ?_ rfl rfl HT_ (Or.inl ⟨by rfl, ?_⟩) ?_ ?_ ?_
  rotate_left; · exact zqB
  rotate_left; · exact zqA
  refine zT 12 (some 28) #[zt, zt, zt, zt, zt, zt, zt, zt, zt, zt, zt, zt, zt, zf] ?_ rfl rfl HT_ HW_ (Or.inl ⟨by rfl, ?_⟩) hHeld ?_ ?_ ?_
  rotate_left
  ·
   rintro w' ⟨s0, s1, s2, s3, s4, s5⟩
   go_simp
   with_reducible rfl
  rotate_left; · exact zqA
  refine zP 13 (some 29) #[zt, zt, zt, zt, zt, zt, zt, zt, zt, zt, zt, zt, zt, zt] ?_ rfl rfl HT_ (Or.inl ⟨by rfl, ?_⟩) ?_ ?_ ?_
  rotate_left; · exact zqB
  rotate_left; · exact zqA
  refine done_ (done_of HT_.out (by kernel_rfl)) ?_
  have p160 : 0 ≤ (x6_1 : Int) := of_decide_eq_true zq2
  have q160 : x6_1 < (l1.length : Int) := of_decide_eq_true zq2
  obtain ⟨ad160, e160, hx160_0⟩ := Kd.at_int HR1.out x6_1 p160 q160
  obtain rfl : ad156 = ad160 := (by injection e160)
  replace hx160_0 := bx HB.out hx160_0
  replace p160 := eq_true p160
  replace q160 := eq_true q160
  try go_wp2
  go_roundg k1
  case measure => have := HK1.out; omega
  case rel => exact ⟨(rd l1 x6_1), (wrap64 (x6_1 + 1)), (by first | rfl | (simp; done) | (simp [*]; done)), (by first | rfl | (simp; done) | (simp [*]; done)), H', ⟨by have := HK1.out; omega⟩, ⟨by (with_reducible repeat (first | refine blk_drewN ?_ _ | refine blk_drew ?_ | refine blk_alloc ?_ _)); exact BK154.out⟩, ⟨by (with_reducible repeat (first | refine blk_drewN ?_ _ | refine blk_drew ?_ | refine blk_alloc ?_ _)); exact BK155.out⟩, ⟨zq37⟩⟩
end Go.Proofs.Ytpdeapefekbdpaa.Q
