/- Texts of this claim, put together: walks of the program's functions, and plain facts. -/
import Derived.Test.YtpdeapefekbdpaaZFnTracks
import Derived.Test.YtpdeapefekbdpaaBFnTracks0
import Derived.Test.YtpdeapefekbdpaaBFnTracks2
import Derived.Test.YtpdeapefekbdpaaBFnTracks4
namespace Go.Proofs.Ytpdeapefekbdpaa.Q
open Go.RowKit Go.Proofs.YtpdeapefekbdpaaW.PrintWords Go.Proofs.YtpdeapefekbdpaaW.PrintLast Go.Proofs.YtpdeapefekbdpaaW.PrintMore
attribute [local go_sem] max2_int min2_int max_two min_two max_three min_three max_four min_four
set_option linter.unusedVariables false
set_option linter.unusedSimpArgs false
mutual
def spec_DrawLongestTrack.l0 : Nat → List (List (S49)) → Int → List Int → Int → Int → Option ((List (List (S49))) × Int)
 | 0, _, _, _, _, _ => none
 | k + 1, x5, x6, x464000, x464001, x464002 => if x6 > 0 then ((spec_l1Cur_storms.f k x464000 x464001 x464002).bind fun bt470 => (if x5.length < 5864062014805 then (spec_DrawLongestTrack.l0 k (x5 ++ [bt470.1]) (wrap64 (x6 - 1)) x464000 bt470.2.1 bt470.2.2) else (none))) else ((spec_l1Cur_one.f x464000 x464001 x464002 24).bind fun bt478 => (if bt478.1 = true then (spec_DrawLongestTrack.l1 k x5 0 x464000 bt478.2.1 bt478.2.2) else ((spec_l1Cur_among.f x464000 bt478.2.1 bt478.2.2 (([0, 2, 4, 6, 10, 21] : List Int))).bind fun bt505 => (some (x5, bt505.1)))))
def spec_DrawLongestTrack.l1 : Nat → List (List (S49)) → Int → List Int → Int → Int → Option ((List (List (S49))) × Int)
 | 0, _, _, _, _, _ => none
 | k + 1, x5, x7, x464000, x464001, x464002 => (spec_l1Cur_pick.f x464000 x464001 x464002 2).bind fun bt481 => (if (x5.length : Int) < (wrap64 (6 + bt481.1)) then (if x7 < 8 then (if x5.length < 5864062014805 then (spec_DrawLongestTrack.l1 k (x5 ++ [(([(⟨Int.tmod x7 8, 1, 1, 0⟩ : S49)] : List (S49)))]) (wrap64 (x7 + 1)) x464000 bt481.2.1 bt481.2.2) else (none)) else ((spec_l1Cur_among.f x464000 bt481.2.1 bt481.2.2 (([0, 2, 4, 6, 10, 21] : List Int))).bind fun bt493 => (some (x5, bt493.1)))) else ((spec_l1Cur_among.f x464000 bt481.2.1 bt481.2.2 (([0, 2, 4, 6, 10, 21] : List Int))).bind fun bt499 => (some (x5, bt499.1))))
end
def spec_DrawLongestTrack.f (k : Nat) (l0 : List Int) : Option ((List (List (S49))) × Int) := (spec_l1Cur_pick.f l0 0 0 5).bind fun bt467 => (spec_DrawLongestTrack.l0 k (([] : List (List (S49)))) bt467.1 l0 bt467.2.1 bt467.2.2)
set_option maxHeartbeats 8000000 in
set_option maxRecDepth 100000 in
theorem spec_DrawLongestTrack.calls (k : Nat) (A0 : Option Addr) (c0 : Nat) (l0 : List Int) (r1 : List (List (S49))) (r2 : Int) (w : World) (hr0 : Kd.C (Kd.int .u8) w A0 l0.length l0) (hc0 : l0.length ≤ c0) (h : spec_DrawLongestTrack.f k l0 = some (r1, r2)) :
  Calls Try.prog 36 #[.slice A0 l0.length c0] w fun e w' => ∃ v0_ : Value, e = .returned (.tuple #[v0_, .int .i64 r2]) ∧ Kd.S (Kd.slice 49 k49) 26 w' w.heap.size (fun _ => True) v0_ r1 ∧ Below w.heap.size w w' := by
 have hu63 := Try.underlying63
 have hu49 := Try.underlying49
 have HR0 := Aside0.mk hr0
 have HC0 := Aside0.mk hc0
 clear hr0 hc0
 have HB := Aside0.mk (Below.refl w.heap.size w)
 have H : ((spec_l1Cur_pick.f l0 0 0 5).bind fun bt467 => (spec_DrawLongestTrack.l0 k (([] : List (List (S49)))) bt467.1 l0 bt467.2.1 bt467.2.2)) = some (r1, r2) := h
 clear h
 obtain ⟨y464, hy464⟩ : ∃ y_ : List (List (S49)), y_ = (([] : List (List (S49)))) := ⟨_, rfl⟩
 replace H : ((spec_l1Cur_pick.f l0 0 0 5).bind fun bt467 => (spec_DrawLongestTrack.l0 k y464 bt467.1 l0 bt467.2.1 bt467.2.2)) = some (r1, r2) := zqH hy464 H
 have Ny464 := Aside0.mk hy464
 clear hy464
 replace H := Option.bind_eq_some_iff.mp H
 obtain ⟨⟨t467, t468, t469⟩, A20, H⟩ := H
 replace H : (spec_DrawLongestTrack.l0 k y464 t467 l0 t468 t469) = some (r1, r2) := H
 have A2 := Aside0.mk A20
 clear A20
 have H' := Aside0.mk H
 clear H
 go_enter Try.func36, Try.ntmps36
 go_wp2_with (first | ((with_reducible refine gate_dst (N := 10) rfl ?_); refine box_event ?hg (N := 10) ?hd (cs := #[.slice A0 l0.length c0, .int .i64 0, .int .u64 0]) (t := 63) ?hr ?_; (case hd => rfl); (case hg => rfl); (case hr => exact zqS); intro gb463 hg w3 hbox hb; have HI463 := Aside0.mk ((show IsS63 w w3 gb463 l0 0 0 from ⟨_, _, hbox, (by rw [hg]; exact (below_size zq0) : w.heap.size ≤ gb463), HR0.out⟩)); have GW463 := Aside0.mk ((by rw [hg]; exact (below_size zq0) : w.heap.size ≤ gb463)); replace HB := Aside0.mk (below_step zq0 hb); have GE463 := GW463; clear hb hbox hg) | ((with_reducible refine gate_dst (N := 11) rfl ?_); refine Kd.S_lit (Kd.slice 49 k49) _ 26 ?hg (N := 11) ?hd (xs := ([] : List (List (S49)))) (inner := []) (ok := fun _ => True) (okp := fun _ => True) ?hr ?hp (fun _ hk => hk) trivial (Below.refl _ _) (Nat.le_refl _) (by simp) ?_; (case hd => rfl); (case hg => rfl); (case hr => exact zqS); (case hp => exact (Reps.none _ _)); intro v465 w4 ho5 hb hg_ hnew_; clear hg_ hnew_; (first | rw [← Ny464.out] at ho5 | (simp only [Int.reduceToNat] at ho5; rw [← Ny464.out] at ho5)); have HO466 := Aside0.mk (Kd.S_lower ho5 (below_size zq7)); replace HB := Aside0.mk (below_step zq7 hb); replace HI463 := Aside0.mk (IsS63.below zq10 hb); clear hb ho5) | ((with_reducible refine gate_callee (f := 37) rfl ?_); refine goesL_ (some 13) rfl rfl Try.func37 (by kernel_rfl) rfl #[.pointer (some ⟨gb463, 0, none⟩), .int .i64 5] rfl zq1 ?_; (with_reducible refine (spec_l1Cur_pick.calls gb463 l0 0 0 5 t467 t468 t469 w _ ?side1 ?side2 A2.out).mono ?_); (case side1 => exact zq10); (case side2 => exact zq7); rintro e w6 ⟨rfl, hi, hb, hk⟩; refine ⟨_, rfl, ?_⟩; replace HO466 := Aside0.mk (Kd.S_mono (Kd.S_keep (IsS63.apartS (show IsS63 w _ gb463 l0 0 0 from by repeat (first | (with_reducible first | exact HI463.out | apply IsS63.alloc | apply IsS63.drewN | apply IsS63.drew | apply IsS63.set_1 | apply IsS63.set_2) | exact HI463.out)) (by (with_reducible repeat (first | apply Kd.S_alloc | apply Kd.S_drewN | apply Kd.S_drew)); exact HO466.out) (by decide)) hk (fun _ h => h.2)) (fun _ h => h.1)); replace HB := Aside0.mk (hb); replace HI463 := Aside0.mk (hi); (try clear hb); (try clear hb2); (try clear hk); (try clear hi)))
 go_loopg [5, 6] k (fun kq v5 v6 w' => ∃ (x5_1 : List (List (S49))) (x6_1 : Int) (x464001_1 : Int) (x464002_1 : Int), v6 = .int .i64 x6_1 ∧ Aside0 (spec_DrawLongestTrack.l0 kq x5_1 x6_1 l0 x464001_1 x464002_1 = some (r1, r2)) ∧ Aside0 (kq ≤ k) ∧ Aside0 (Kd.S (Kd.slice 49 k49) 26 w' w.heap.size (fun _ => True) v5 x5_1) ∧ Aside0 (IsS63 w w' gb463 l0 x464001_1 x464002_1) ∧ Aside0 (Below w.heap.size w w'))
 case atStart => exact ⟨(y464), (t467), (t468), (t469), (by first | rfl | (simp; done) | (simp [*]; done)), H', ⟨Nat.le_refl _⟩, ⟨by (with_reducible repeat (first | apply Kd.S_alloc | apply Kd.S_drewN | apply Kd.S_drew)); exact HO466.out⟩, ⟨zq10⟩, ⟨zq7⟩⟩
 clear H'
 try clear p2
 try clear c3
 obtain ⟨x5_1, x6_1, x464001_1, x464002_1, rfl, HA, HK1, HO_5, HI463, HB⟩ := hrel
 cases gk with
 | zero => exact absurd HA.out (by simp [spec_DrawLongestTrack.l0])
 | succ k1 =>
  have H := HA.out
  clear HA
  simp only [spec_DrawLongestTrack.l0] at H
  by_cases c7 : x6_1 > 0
  case pos =>
   rw [if_pos c7] at H
   have c7b0 : decide (0 < x6_1) = true := decide_eq_true c7
   clear c7
   replace H := Option.bind_eq_some_iff.mp H
   obtain ⟨⟨t470, t473, t474⟩, A80, H⟩ := H
   replace H : (if x5_1.length < 5864062014805 then (spec_DrawLongestTrack.l0 k1 (x5_1 ++ [t470]) (wrap64 (x6_1 - 1)) l0 t473 t474) else (none)) = some (r1, r2) := H
   have A8 := Aside0.mk A80
   clear A80
   by_cases c9 : x5_1.length < 5864062014805
   case neg =>
    rw [if_neg c9] at H
    exact absurd H (by simp)
   rw [if_pos c9] at H
   have LMc9 := Aside0.mk c9
   clear c9
   obtain ⟨y475, hy475⟩ : ∃ y_ : List (List (S49)), y_ = (x5_1 ++ [t470]) := ⟨_, rfl⟩
   replace H : (spec_DrawLongestTrack.l0 k1 y475 (wrap64 (x6_1 - 1)) l0 t473 t474) = some (r1, r2) := zqH hy475 H
   have Ny475 := Aside0.mk hy475
   clear hy475
   have H' := Aside0.mk H
   clear H
   go_wp2_with (first | ((with_reducible refine gate_callee (f := 64) rfl ?_); refine goesL_ (some 20) rfl rfl Try.func64 (by kernel_rfl) rfl #[.pointer (some ⟨gb463, 0, none⟩)] rfl zq1 ?_; (with_reducible refine (spec_l1Cur_storms.calls k1 gb463 l0 x464001_1 x464002_1 t470 t473 t474 w _ ?side1 ?side2 A8.out).mono ?_); (case side1 => exact zq10); (case side2 => exact zq7); rintro e w10 ⟨v471, rfl, ho0, hi, hb, hk⟩; refine ⟨_, rfl, ?_⟩; replace HO_5 := Aside0.mk (Kd.S_mono (Kd.S_told (Kd.S_oldK (IsS63.apartS (show IsS63 w _ gb463 l0 x464001_1 x464002_1 from by repeat (first | (with_reducible first | exact HI463.out | apply IsS63.alloc | apply IsS63.drewN | apply IsS63.drew | apply IsS63.set_1 | apply IsS63.set_2) | exact HI463.out)) zq17 (by decide)) hk) (Kd.R_base ho0)) (fun _ h_ => h_.1)); have HO472 := Aside0.mk (Kd.R_lower ho0 (below_size zq7)); replace HB := Aside0.mk (hb); replace HI463 := Aside0.mk (hi); (try clear hb); (try clear hb2); (try clear hk); (try clear hi); (try clear ho0); obtain ⟨Ao12, co12, eo12⟩ := Kd.R_slice HO472.out; subst eo12) | ((with_reducible refine gate_builtin (b := .append) (xs := #[.tmp 18, .tmp 21]) rfl ?_); at_builtin; refine Kd.S_append (Kd.slice 49 k49) (w0 := w) w.heap.size rfl (.tmp 18) (.tmp 21) 38 26 (.slice none 0 0) 24 rfl Try.underlying38 info26 rfl (by decide) (by omega) u5 x5_1 t470 [.slice Ao12 t470.length co12] (fun _ => True) (fun k_ => some k_ = (.slice Ao12 t470.length co12 : Value).ownBlock) rfl rfl ?aP (fun k_ hk_ => ((Kd.R_mono (ok' := fun k_ => ((fun _ => True)) k_ ∧ some k_ ≠ (u5 : Value).ownBlock) (Kd.R_apart' (HO472.out) (Kd.S_typed HO_5.out) (by decide)) (fun k_ hk => ⟨trivial, hk.2⟩))).1 k_ hk_.symm) ?aF ?aO ?aB ?aS ?aL ?_; (case aP => exact Kd.M_row (Kd.R_mono (Kd.R_tight rfl (Kd.R_mono (ok' := fun k_ => ((fun _ => True)) k_ ∧ some k_ ≠ (u5 : Value).ownBlock) (Kd.R_apart' (HO472.out) (Kd.S_typed HO_5.out) (by decide)) (fun k_ hk => ⟨trivial, hk.2⟩))) (fun _ h_ => h_))); (case aB => exact zq7); (case aF => exact (fun _ _ => trivial)); (case aO => exact (by (with_reducible repeat (first | apply Kd.S_alloc | apply Kd.S_drewN | apply Kd.S_drew)); exact Kd.S_mono HO_5.out (fun k_ hk => ⟨trivial, fun e_ => hk.2 e_⟩))); (case aS => exact (below_size zq7)); (case aL => have := LMc9.out; omega); intro v476 w11 ho hb hg hat; rw [← Ny475.out] at ho; replace HI463 := Aside0.mk (IsS63.grown zq10 hg (IsS63.own_neS HI463.out HO_5.out (by decide))); replace HB := Aside0.mk (hb); have HO477 := Aside0.mk (ho); clear HO_5; clear HO472; clear ho hb hg hat))
   go_roundg k1
   case measure => have := HK1.out; omega
   case rel => exact ⟨(y475), (wrap64 (x6_1 - 1)), (t473), (t474), (by first | rfl | (simp; done) | (simp [*]; done)), H', ⟨by have := HK1.out; omega⟩, ⟨by (with_reducible repeat (first | apply Kd.S_alloc | apply Kd.S_drewN | apply Kd.S_drew)); exact HO477.out⟩, ⟨zq10⟩, ⟨zq7⟩⟩
  rw [if_neg c7] at H
  have c7b0 : decide (0 < x6_1) = false := decide_eq_false c7
  clear c7
  replace H := Option.bind_eq_some_iff.mp H
  obtain ⟨⟨t478, t479, t480⟩, A130, H⟩ := H
  replace H : (if t478 = true then (spec_DrawLongestTrack.l1 k1 x5_1 0 l0 t479 t480) else ((spec_l1Cur_among.f l0 t479 t480 (([0, 2, 4, 6, 10, 21] : List Int))).bind fun bt505 => (some (x5_1, bt505.1)))) = some (r1, r2) := H
  have A13 := Aside0.mk A130
  clear A130
  by_cases c14 : t478 = true
  case neg =>
   replace c14 := Bool.eq_false_iff.mpr c14
   subst c14
   have H1 : ((spec_l1Cur_among.f l0 t479 t480 (([0, 2, 4, 6, 10, 21] : List Int))).bind fun bt505 => (some (x5_1, bt505.1))) = some (r1, r2) := by rw [if_neg (show ¬ (false = true) by decide)] at H; exact H
   clear H
   have H := H1
   clear H1
   obtain ⟨y502, hy502⟩ : ∃ y_ : List Int, y_ = (([0, 2, 4, 6, 10, 21] : List Int)) := ⟨_, rfl⟩
   replace H : ((spec_l1Cur_among.f l0 t479 t480 y502).bind fun bt505 => (some (x5_1, bt505.1))) = some (r1, r2) := zqH hy502 H
   have Ny502 := Aside0.mk hy502
   clear hy502
   replace H := Option.bind_eq_some_iff.mp H
   obtain ⟨⟨t505, t506, t507⟩, A400, H⟩ := H
   replace H : (some (x5_1, t505)) = some (r1, r2) := H
   have A40 := Aside0.mk A400
   clear A400
   simp only [Option.some.injEq, Prod.mk.injEq] at H
   obtain ⟨rfl, rfl⟩ := H
   go_wp2_with (first | ((with_reducible refine gate_callee (f := 65) rfl ?_); refine goesL_ (some 24) rfl rfl Try.func65 (by kernel_rfl) rfl #[.pointer (some ⟨gb463, 0, none⟩), .int .i64 24] rfl zq1 ?_; (with_reducible refine (spec_l1Cur_one.calls gb463 l0 x464001_1 x464002_1 24 false t479 t480 w _ ?side1 ?side2 A13.out).mono ?_); (case side1 => exact zq10); (case side2 => exact zq7); rintro e w41 ⟨rfl, hi, hb, hk⟩; refine ⟨_, rfl, ?_⟩; replace HO_5 := Aside0.mk (Kd.S_mono (Kd.S_keep (IsS63.apartS (show IsS63 w _ gb463 l0 x464001_1 x464002_1 from by repeat (first | (with_reducible first | exact HI463.out | apply IsS63.alloc | apply IsS63.drewN | apply IsS63.drew | apply IsS63.set_1 | apply IsS63.set_2) | exact HI463.out)) zq17 (by decide)) hk (fun _ h => h.2)) (fun _ h => h.1)); replace HB := Aside0.mk (hb); replace HI463 := Aside0.mk (hi); (try clear hb); (try clear hb2); (try clear hk); (try clear hi)) | ((with_reducible refine gate_dst (N := 46) rfl ?_); refine Kd.R_lit (Kd.int .i64) _ 3 ?hg (N := 46) ?hd (xs := ([0, 2, 4, 6, 10, 21] : List Int)) (inner := [.int .i64 0, .int .i64 2, .int .i64 4, .int .i64 6, .int .i64 10, .int .i64 21]) (ok := fun _ => True) (okp := fun _ => True) ?hr ?hp (fun _ hk => hk) trivial (Below.refl _ _) (Nat.le_refl _) (by simp) ?_; (case hd => rfl); (case hg => rfl); (case hr => exact zqS); (case hp => exact (Reps.one (show Kd.M (Kd.int .i64) _ _ _ 0 [.int .i64 0] from rfl) (Reps.one (show Kd.M (Kd.int .i64) _ _ _ 2 [.int .i64 2] from rfl) (Reps.one (show Kd.M (Kd.int .i64) _ _ _ 4 [.int .i64 4] from rfl) (Reps.one (show Kd.M (Kd.int .i64) _ _ _ 6 [.int .i64 6] from rfl) (Reps.one (show Kd.M (Kd.int .i64) _ _ _ 10 [.int .i64 10] from rfl) (Reps.one (show Kd.M (Kd.int .i64) _ _ _ 21 [.int .i64 21] from rfl) (Reps.none _ _)))))))); intro v503 w42 ho43 hb hg_ hnew_; clear hg_ hnew_; (first | rw [← Ny502.out] at ho43 | (simp only [Int.reduceToNat] at ho43; rw [← Ny502.out] at ho43)); replace HO_5 := Aside0.mk (Kd.S_below zq17 hb); have HO504 := Aside0.mk (Kd.R_lower ho43 (below_size zq7)); replace HB := Aside0.mk (below_step zq7 hb); replace HI463 := Aside0.mk (IsS63.below zq10 hb); clear hb ho43; obtain ⟨Ao44, co44, eo44⟩ := Kd.R_slice HO504.out; subst eo44) | ((with_reducible refine gate_callee (f := 66) rfl ?_); refine goesL_ (some 47) rfl rfl Try.func66 (by kernel_rfl) rfl #[.pointer (some ⟨gb463, 0, none⟩), .slice Ao44 y502.length co44] rfl zq1 ?_; (with_reducible refine (spec_l1Cur_among.calls gb463 l0 t479 t480 _ _ y502 t505 t506 t507 w _ ?side1 ?side2 ?side3 ?side4 ?side5 A40.out).mono ?_); (case side1 => exact zq10); (case side2 => exact zq7); (case side3 => exact zqC (Kd.R_reads' HO504.out).2.2); (case side4 => exact (Kd.R_reads' HO504.out).2.1); (case side5 => exact far_slice (IsS63.own_ne HI463.out HO504.out (by decide))); rintro e w45 ⟨rfl, hi, hb, hk⟩; refine ⟨_, rfl, ?_⟩; replace HO_5 := Aside0.mk (Kd.S_mono (Kd.S_keep (IsS63.apartS (show IsS63 w _ gb463 l0 t479 t480 from by repeat (first | (with_reducible first | exact HI463.out | apply IsS63.alloc | apply IsS63.drewN | apply IsS63.drew | apply IsS63.set_1 | apply IsS63.set_2) | exact HI463.out)) zq17 (by decide)) hk (fun _ h => h.2)) (fun _ h => h.1)); replace HO504 := Aside0.mk (Kd.R_mono (Kd.R_keep (IsS63.apart (show IsS63 w _ gb463 l0 t479 t480 from by repeat (first | (with_reducible first | exact HI463.out | apply IsS63.alloc | apply IsS63.drewN | apply IsS63.drew | apply IsS63.set_1 | apply IsS63.set_2) | exact HI463.out)) (zqR HO504.out) (by decide)) hk (fun _ h => h.2)) (fun _ h => h.1)); replace HB := Aside0.mk (hb); replace HI463 := Aside0.mk (hi); (try clear hb); (try clear hb2); (try clear hk); (try clear hi)))
   go_ret2
   exact ⟨_, by first | rfl | (simp [errW_none, errW_some] <;> rfl) | (simp [*, errW_none, errW_some] <;> rfl), by (with_reducible repeat (first | apply Kd.S_alloc | apply Kd.S_drewN | apply Kd.S_drew)); exact HO_5.out, zq7⟩
  subst c14
  have H1 : (spec_DrawLongestTrack.l1 k1 x5_1 0 l0 t479 t480) = some (r1, r2) := by rw [if_pos rfl] at H; exact H
  clear H
  have H := H1
  clear H1
  have H' := Aside0.mk H
  clear H
  go_wp2_with (first | ((with_reducible refine gate_callee (f := 65) rfl ?_); refine goesL_ (some 24) rfl rfl Try.func65 (by kernel_rfl) rfl #[.pointer (some ⟨gb463, 0, none⟩), .int .i64 24] rfl zq1 ?_; (with_reducible refine (spec_l1Cur_one.calls gb463 l0 x464001_1 x464002_1 24 true t479 t480 w _ ?side1 ?side2 A13.out).mono ?_); (case side1 => exact zq10); (case side2 => exact zq7); rintro e w15 ⟨rfl, hi, hb, hk⟩; refine ⟨_, rfl, ?_⟩; replace HO_5 := Aside0.mk (Kd.S_mono (Kd.S_keep (IsS63.apartS (show IsS63 w _ gb463 l0 x464001_1 x464002_1 from by repeat (first | (with_reducible first | exact HI463.out | apply IsS63.alloc | apply IsS63.drewN | apply IsS63.drew | apply IsS63.set_1 | apply IsS63.set_2) | exact HI463.out)) zq17 (by decide)) hk (fun _ h => h.2)) (fun _ h => h.1)); replace HB := Aside0.mk (hb); replace HI463 := Aside0.mk (hi); (try clear hb); (try clear hb2); (try clear hk); (try clear hi)))
  go_loopg [5, 7] k1 (fun kq v5 v7 w' => ∃ (x5_2 : List (List (S49))) (x7_2 : Int) (x464001_2 : Int) (x464002_2 : Int), v7 = .int .i64 x7_2 ∧ Aside0 (spec_DrawLongestTrack.l1 kq x5_2 x7_2 l0 x464001_2 x464002_2 = some (r1, r2)) ∧ Aside0 (kq ≤ k1) ∧ Aside0 (Kd.S (Kd.slice 49 k49) 26 w' w.heap.size (fun _ => True) v5 x5_2) ∧ Aside0 (IsS63 w w' gb463 l0 x464001_2 x464002_2) ∧ Aside0 (Below w.heap.size w w'))
  case atStart => exact ⟨(x5_1), (0), (t479), (t480), (by first | rfl | (simp; done) | (simp [*]; done)), H', ⟨Nat.le_refl _⟩, ⟨by (with_reducible repeat (first | apply Kd.S_alloc | apply Kd.S_drewN | apply Kd.S_drew)); exact HO_5.out⟩, ⟨zq10⟩, ⟨zq7⟩⟩
  clear H'
  try clear c1
  try clear p2
  try clear c3
  try clear c6
  try clear p6
  try clear c7
  try clear c7b0
  try clear c9
  try clear c14
  try clear p2
  obtain ⟨x5_2, x7_2, x464001_2, x464002_2, rfl, HA, HK2, HO_5, HI463, HB⟩ := hrel
  cases gk with
  | zero => exact absurd HA.out (by simp [spec_DrawLongestTrack.l1])
  | succ k2 =>
   have H := HA.out
   clear HA
   simp only [spec_DrawLongestTrack.l1] at H
   replace H := Option.bind_eq_some_iff.mp H
   obtain ⟨⟨t481, t482, t483⟩, A160, H⟩ := H
   replace H : (if (x5_2.length : Int) < (wrap64 (6 + t481)) then (if x7_2 < 8 then (if x5_2.length < 5864062014805 then (spec_DrawLongestTrack.l1 k2 (x5_2 ++ [(([(⟨Int.tmod x7_2 8, 1, 1, 0⟩ : S49)] : List (S49)))]) (wrap64 (x7_2 + 1)) l0 t482 t483) else (none)) else ((spec_l1Cur_among.f l0 t482 t483 (([0, 2, 4, 6, 10, 21] : List Int))).bind fun bt493 => (some (x5_2, bt493.1)))) else ((spec_l1Cur_among.f l0 t482 t483 (([0, 2, 4, 6, 10, 21] : List Int))).bind fun bt499 => (some (x5_2, bt499.1)))) = some (r1, r2) := H
   have A16 := Aside0.mk A160
   clear A160
   by_cases c17 : (x5_2.length : Int) < (wrap64 (6 + t481))
   case neg =>
    rw [if_neg c17] at H
    have c17b0 : decide ((x5_2.length : Int) < (wrap64 (6 + t481))) = false := decide_eq_false c17
    clear c17
    obtain ⟨y496, hy496⟩ : ∃ y_ : List Int, y_ = (([0, 2, 4, 6, 10, 21] : List Int)) := ⟨_, rfl⟩
    replace H : ((spec_l1Cur_among.f l0 t482 t483 y496).bind fun bt499 => (some (x5_2, bt499.1))) = some (r1, r2) := zqH hy496 H
    have Ny496 := Aside0.mk hy496
    clear hy496
    replace H := Option.bind_eq_some_iff.mp H
    obtain ⟨⟨t499, t500, t501⟩, A330, H⟩ := H
    replace H : (some (x5_2, t499)) = some (r1, r2) := H
    have A33 := Aside0.mk A330
    clear A330
    simp only [Option.some.injEq, Prod.mk.injEq] at H
    obtain ⟨rfl, rfl⟩ := H
    obtain ⟨Ao34, co34, eo34⟩ := Kd.S_slice HO_5.out
    subst eo34
    go_wp2_with (first | ((with_reducible refine gate_callee (f := 37) rfl ?_); refine goesL_ (some 28) rfl rfl Try.func37 (by kernel_rfl) rfl #[.pointer (some ⟨gb463, 0, none⟩), .int .i64 2] rfl zq1 ?_; (with_reducible refine (spec_l1Cur_pick.calls gb463 l0 x464001_2 x464002_2 2 t481 t482 t483 w _ ?side1 ?side2 A16.out).mono ?_); (case side1 => exact zq10); (case side2 => exact zq7); rintro e w35 ⟨rfl, hi, hb, hk⟩; refine ⟨_, rfl, ?_⟩; replace HO_5 := Aside0.mk (Kd.S_mono (Kd.S_keep (IsS63.apartS (show IsS63 w _ gb463 l0 x464001_2 x464002_2 from by repeat (first | (with_reducible first | exact HI463.out | apply IsS63.alloc | apply IsS63.drewN | apply IsS63.drew | apply IsS63.set_1 | apply IsS63.set_2) | exact HI463.out)) zq17 (by decide)) hk (fun _ h => h.2)) (fun _ h => h.1)); replace HB := Aside0.mk (hb); replace HI463 := Aside0.mk (hi); (try clear hb); (try clear hb2); (try clear hk); (try clear hi)) | ((with_reducible refine gate_dst (N := 46) rfl ?_); refine Kd.R_lit (Kd.int .i64) _ 3 ?hg (N := 46) ?hd (xs := ([0, 2, 4, 6, 10, 21] : List Int)) (inner := [.int .i64 0, .int .i64 2, .int .i64 4, .int .i64 6, .int .i64 10, .int .i64 21]) (ok := fun _ => True) (okp := fun _ => True) ?hr ?hp (fun _ hk => hk) trivial (Below.refl _ _) (Nat.le_refl _) (by simp) ?_; (case hd => rfl); (case hg => rfl); (case hr => exact zqS); (case hp => exact (Reps.one (show Kd.M (Kd.int .i64) _ _ _ 0 [.int .i64 0] from rfl) (Reps.one (show Kd.M (Kd.int .i64) _ _ _ 2 [.int .i64 2] from rfl) (Reps.one (show Kd.M (Kd.int .i64) _ _ _ 4 [.int .i64 4] from rfl) (Reps.one (show Kd.M (Kd.int .i64) _ _ _ 6 [.int .i64 6] from rfl) (Reps.one (show Kd.M (Kd.int .i64) _ _ _ 10 [.int .i64 10] from rfl) (Reps.one (show Kd.M (Kd.int .i64) _ _ _ 21 [.int .i64 21] from rfl) (Reps.none _ _)))))))); intro v497 w36 ho37 hb hg_ hnew_; clear hg_ hnew_; (first | rw [← Ny496.out] at ho37 | (simp only [Int.reduceToNat] at ho37; rw [← Ny496.out] at ho37)); replace HO_5 := Aside0.mk (Kd.S_below zq17 hb); have HO498 := Aside0.mk (Kd.R_lower ho37 (below_size zq7)); replace HB := Aside0.mk (below_step zq7 hb); replace HI463 := Aside0.mk (IsS63.below zq10 hb); clear hb ho37; obtain ⟨Ao38, co38, eo38⟩ := Kd.R_slice HO498.out; subst eo38) | ((with_reducible refine gate_callee (f := 66) rfl ?_); refine goesL_ (some 47) rfl rfl Try.func66 (by kernel_rfl) rfl #[.pointer (some ⟨gb463, 0, none⟩), .slice Ao38 y496.length co38] rfl zq1 ?_; (with_reducible refine (spec_l1Cur_among.calls gb463 l0 t482 t483 _ _ y496 t499 t500 t501 w _ ?side1 ?side2 ?side3 ?side4 ?side5 A33.out).mono ?_); (case side1 => exact zq10); (case side2 => exact zq7); (case side3 => exact zqC (Kd.R_reads' HO498.out).2.2); (case side4 => exact (Kd.R_reads' HO498.out).2.1); (case side5 => exact far_slice (IsS63.own_ne HI463.out HO498.out (by decide))); rintro e w39 ⟨rfl, hi, hb, hk⟩; refine ⟨_, rfl, ?_⟩; replace HO_5 := Aside0.mk (Kd.S_mono (Kd.S_keep (IsS63.apartS (show IsS63 w _ gb463 l0 t482 t483 from by repeat (first | (with_reducible first | exact HI463.out | apply IsS63.alloc | apply IsS63.drewN | apply IsS63.drew | apply IsS63.set_1 | apply IsS63.set_2) | exact HI463.out)) zq17 (by decide)) hk (fun _ h => h.2)) (fun _ h => h.1)); replace HO498 := Aside0.mk (Kd.R_mono (Kd.R_keep (IsS63.apart (show IsS63 w _ gb463 l0 t482 t483 from by repeat (first | (with_reducible first | exact HI463.out | apply IsS63.alloc | apply IsS63.drewN | apply IsS63.drew | apply IsS63.set_1 | apply IsS63.set_2) | exact HI463.out)) (zqR HO498.out) (by decide)) hk (fun _ h => h.2)) (fun _ h => h.1)); replace HB := Aside0.mk (hb); replace HI463 := Aside0.mk (hi); (try clear hb); (try clear hb2); (try clear hk); (try clear hi)))
    go_ret2
    exact ⟨_, by first | rfl | (simp [errW_none, errW_some] <;> rfl) | (simp [*, errW_none, errW_some] <;> rfl), by (with_reducible repeat (first | apply Kd.S_alloc | apply Kd.S_drewN | apply Kd.S_drew)); exact HO_5.out, zq7⟩
   rw [if_pos c17] at H
   have c17b0 : decide ((x5_2.length : Int) < (wrap64 (6 + t481))) = true := decide_eq_true c17
   clear c17
   by_cases c18 : x7_2 < 8
   case neg =>
    rw [if_neg c18] at H
    have c18b0 : decide (x7_2 < 8) = false := decide_eq_false c18
    clear c18
    obtain ⟨y490, hy490⟩ : ∃ y_ : List Int, y_ = (([0, 2, 4, 6, 10, 21] : List Int)) := ⟨_, rfl⟩
    replace H : ((spec_l1Cur_among.f l0 t482 t483 y490).bind fun bt493 => (some (x5_2, bt493.1))) = some (r1, r2) := zqH hy490 H
    have Ny490 := Aside0.mk hy490
    clear hy490
    replace H := Option.bind_eq_some_iff.mp H
    obtain ⟨⟨t493, t494, t495⟩, A260, H⟩ := H
    replace H : (some (x5_2, t493)) = some (r1, r2) := H
    have A26 := Aside0.mk A260
    clear A260
    simp only [Option.some.injEq, Prod.mk.injEq] at H
    obtain ⟨rfl, rfl⟩ := H
    obtain ⟨Ao27, co27, eo27⟩ := Kd.S_slice HO_5.out
    subst eo27
    go_wp2_with (first | ((with_reducible refine gate_callee (f := 37) rfl ?_); refine goesL_ (some 28) rfl rfl Try.func37 (by kernel_rfl) rfl #[.pointer (some ⟨gb463, 0, none⟩), .int .i64 2] rfl zq1 ?_; (with_reducible refine (spec_l1Cur_pick.calls gb463 l0 x464001_2 x464002_2 2 t481 t482 t483 w _ ?side1 ?side2 A16.out).mono ?_); (case side1 => exact zq10); (case side2 => exact zq7); rintro e w28 ⟨rfl, hi, hb, hk⟩; refine ⟨_, rfl, ?_⟩; replace HO_5 := Aside0.mk (Kd.S_mono (Kd.S_keep (IsS63.apartS (show IsS63 w _ gb463 l0 x464001_2 x464002_2 from by repeat (first | (with_reducible first | exact HI463.out | apply IsS63.alloc | apply IsS63.drewN | apply IsS63.drew | apply IsS63.set_1 | apply IsS63.set_2) | exact HI463.out)) zq17 (by decide)) hk (fun _ h => h.2)) (fun _ h => h.1)); replace HB := Aside0.mk (hb); replace HI463 := Aside0.mk (hi); (try clear hb); (try clear hb2); (try clear hk); (try clear hi)) | ((with_reducible refine gate_dst (N := 46) rfl ?_); refine Kd.R_lit (Kd.int .i64) _ 3 ?hg (N := 46) ?hd (xs := ([0, 2, 4, 6, 10, 21] : List Int)) (inner := [.int .i64 0, .int .i64 2, .int .i64 4, .int .i64 6, .int .i64 10, .int .i64 21]) (ok := fun _ => True) (okp := fun _ => True) ?hr ?hp (fun _ hk => hk) trivial (Below.refl _ _) (Nat.le_refl _) (by simp) ?_; (case hd => rfl); (case hg => rfl); (case hr => exact zqS); (case hp => exact (Reps.one (show Kd.M (Kd.int .i64) _ _ _ 0 [.int .i64 0] from rfl) (Reps.one (show Kd.M (Kd.int .i64) _ _ _ 2 [.int .i64 2] from rfl) (Reps.one (show Kd.M (Kd.int .i64) _ _ _ 4 [.int .i64 4] from rfl) (Reps.one (show Kd.M (Kd.int .i64) _ _ _ 6 [.int .i64 6] from rfl) (Reps.one (show Kd.M (Kd.int .i64) _ _ _ 10 [.int .i64 10] from rfl) (Reps.one (show Kd.M (Kd.int .i64) _ _ _ 21 [.int .i64 21] from rfl) (Reps.none _ _)))))))); intro v491 w29 ho30 hb hg_ hnew_; clear hg_ hnew_; (first | rw [← Ny490.out] at ho30 | (simp only [Int.reduceToNat] at ho30; rw [← Ny490.out] at ho30)); replace HO_5 := Aside0.mk (Kd.S_below zq17 hb); have HO492 := Aside0.mk (Kd.R_lower ho30 (below_size zq7)); replace HB := Aside0.mk (below_step zq7 hb); replace HI463 := Aside0.mk (IsS63.below zq10 hb); clear hb ho30; obtain ⟨Ao31, co31, eo31⟩ := Kd.R_slice HO492.out; subst eo31) | ((with_reducible refine gate_callee (f := 66) rfl ?_); refine goesL_ (some 47) rfl rfl Try.func66 (by kernel_rfl) rfl #[.pointer (some ⟨gb463, 0, none⟩), .slice Ao31 y490.length co31] rfl zq1 ?_; (with_reducible refine (spec_l1Cur_among.calls gb463 l0 t482 t483 _ _ y490 t493 t494 t495 w _ ?side1 ?side2 ?side3 ?side4 ?side5 A26.out).mono ?_); (case side1 => exact zq10); (case side2 => exact zq7); (case side3 => exact zqC (Kd.R_reads' HO492.out).2.2); (case side4 => exact (Kd.R_reads' HO492.out).2.1); (case side5 => exact far_slice (IsS63.own_ne HI463.out HO492.out (by decide))); rintro e w32 ⟨rfl, hi, hb, hk⟩; refine ⟨_, rfl, ?_⟩; replace HO_5 := Aside0.mk (Kd.S_mono (Kd.S_keep (IsS63.apartS (show IsS63 w _ gb463 l0 t482 t483 from by repeat (first | (with_reducible first | exact HI463.out | apply IsS63.alloc | apply IsS63.drewN | apply IsS63.drew | apply IsS63.set_1 | apply IsS63.set_2) | exact HI463.out)) zq17 (by decide)) hk (fun _ h => h.2)) (fun _ h => h.1)); replace HO492 := Aside0.mk (Kd.R_mono (Kd.R_keep (IsS63.apart (show IsS63 w _ gb463 l0 t482 t483 from by repeat (first | (with_reducible first | exact HI463.out | apply IsS63.alloc | apply IsS63.drewN | apply IsS63.drew | apply IsS63.set_1 | apply IsS63.set_2) | exact HI463.out)) (zqR HO492.out) (by decide)) hk (fun _ h => h.2)) (fun _ h => h.1)); replace HB := Aside0.mk (hb); replace HI463 := Aside0.mk (hi); (try clear hb); (try clear hb2); (try clear hk); (try clear hi)))
    go_ret2
    exact ⟨_, by first | rfl | (simp [errW_none, errW_some] <;> rfl) | (simp [*, errW_none, errW_some] <;> rfl), by (with_reducible repeat (first | apply Kd.S_alloc | apply Kd.S_drewN | apply Kd.S_drew)); exact HO_5.out, zq7⟩
   rw [if_pos c18] at H
   have c18b0 : decide (x7_2 < 8) = true := decide_eq_true c18
   clear c18
   obtain ⟨y484, hy484⟩ : ∃ y_ : List (S49), y_ = (([(⟨Int.tmod x7_2 8, 1, 1, 0⟩ : S49)] : List (S49))) := ⟨_, rfl⟩
   replace H : (if x5_2.length < 5864062014805 then (spec_DrawLongestTrack.l1 k2 (x5_2 ++ [y484]) (wrap64 (x7_2 + 1)) l0 t482 t483) else (none)) = some (r1, r2) := zqH hy484 H
   have Ny484 := Aside0.mk hy484
   clear hy484
   by_cases c19 : x5_2.length < 5864062014805
   case neg =>
    rw [if_neg c19] at H
    exact absurd H (by simp)
   rw [if_pos c19] at H
   have LMc19 := Aside0.mk c19
   clear c19
   obtain ⟨y487, hy487⟩ : ∃ y_ : List (List (S49)), y_ = (x5_2 ++ [y484]) := ⟨_, rfl⟩
   replace H : (spec_DrawLongestTrack.l1 k2 y487 (wrap64 (x7_2 + 1)) l0 t482 t483) = some (r1, r2) := zqH hy487 H
   have Ny487 := Aside0.mk hy487
   clear hy487
   have H' := Aside0.mk H
   clear H
   obtain ⟨Ao20, co20, eo20⟩ := Kd.S_slice HO_5.out
   subst eo20
   go_wp2_with (first | ((with_reducible refine gate_callee (f := 37) rfl ?_); refine goesL_ (some 28) rfl rfl Try.func37 (by kernel_rfl) rfl #[.pointer (some ⟨gb463, 0, none⟩), .int .i64 2] rfl zq1 ?_; (with_reducible refine (spec_l1Cur_pick.calls gb463 l0 x464001_2 x464002_2 2 t481 t482 t483 w _ ?side1 ?side2 A16.out).mono ?_); (case side1 => exact zq10); (case side2 => exact zq7); rintro e w21 ⟨rfl, hi, hb, hk⟩; refine ⟨_, rfl, ?_⟩; replace HO_5 := Aside0.mk (Kd.S_mono (Kd.S_keep (IsS63.apartS (show IsS63 w _ gb463 l0 x464001_2 x464002_2 from by repeat (first | (with_reducible first | exact HI463.out | apply IsS63.alloc | apply IsS63.drewN | apply IsS63.drew | apply IsS63.set_1 | apply IsS63.set_2) | exact HI463.out)) zq17 (by decide)) hk (fun _ h => h.2)) (fun _ h => h.1)); replace HB := Aside0.mk (hb); replace HI463 := Aside0.mk (hi); (try clear hb); (try clear hb2); (try clear hk); (try clear hi)) | ((with_reducible refine gate_dst (N := 41) rfl ?_); refine Kd.R_lit k49 _ 49 ?hg (N := 41) ?hd (xs := ([(⟨Int.tmod x7_2 8, 1, 1, 0⟩ : S49)] : List (S49))) (inner := [.int .i64 (Int.tmod x7_2 8), .int .i64 1, .int .i64 1, .int .i64 0]) (ok := fun _ => True) (okp := fun _ => True) ?hr ?hp (fun _ hk => hk) trivial (Below.refl _ _) (Nat.le_refl _) (by simp) ?_; (case hd => rfl); (case hg => rfl); (case hr => exact zqS); (case hp => exact (Reps.c4 (show Kd.M k49 _ _ _ (⟨Int.tmod x7_2 8, 1, 1, 0⟩ : S49) [.int .i64 (Int.tmod x7_2 8), .int .i64 1, .int .i64 1, .int .i64 0] from (k49_mkM _ _ _ (⟨Int.tmod x7_2 8, 1, 1, 0⟩ : S49) )) (Reps.none _ _))); intro v485 w22 ho23 hb hg_ hnew_; clear hg_ hnew_; (first | rw [← Ny484.out] at ho23 | (simp only [Int.reduceToNat] at ho23; rw [← Ny484.out] at ho23)); replace HO_5 := Aside0.mk (Kd.S_elder' zq17 (Kd.R_base ho23) hb); have HO486 := Aside0.mk (Kd.R_lower ho23 (below_size zq7)); replace HB := Aside0.mk (below_step zq7 hb); replace HI463 := Aside0.mk (IsS63.below zq10 hb); clear hb ho23; obtain ⟨Ao25, co25, eo25⟩ := Kd.R_slice HO486.out; subst eo25) | ((with_reducible refine gate_builtin (b := .append) (xs := #[.tmp 37, .tmp 42]) rfl ?_); at_builtin; refine Kd.S_append (Kd.slice 49 k49) (w0 := w) w.heap.size rfl (.tmp 37) (.tmp 42) 38 26 (.slice none 0 0) 24 rfl Try.underlying38 info26 rfl (by decide) (by omega) (.slice Ao20 x5_2.length co20) x5_2 y484 [.slice Ao25 y484.length co25] (fun _ => True) (fun k_ => some k_ = (.slice Ao25 y484.length co25 : Value).ownBlock) rfl rfl ?aP (fun k_ hk_ => ((Kd.R_mono (ok' := fun k_ => ((fun _ => True)) k_ ∧ some k_ ≠ (.slice Ao20 x5_2.length co20 : Value).ownBlock) (Kd.R_apart' (HO486.out) (Kd.S_typed HO_5.out) (by decide)) (fun k_ hk => ⟨trivial, hk.2⟩))).1 k_ hk_.symm) ?aF ?aO ?aB ?aS ?aL ?_; (case aP => exact Kd.M_row (Kd.R_mono (Kd.R_tight rfl (Kd.R_mono (ok' := fun k_ => ((fun _ => True)) k_ ∧ some k_ ≠ (.slice Ao20 x5_2.length co20 : Value).ownBlock) (Kd.R_apart' (HO486.out) (Kd.S_typed HO_5.out) (by decide)) (fun k_ hk => ⟨trivial, hk.2⟩))) (fun _ h_ => h_))); (case aB => exact zq7); (case aF => exact (fun _ _ => trivial)); (case aO => exact (by (with_reducible repeat (first | apply Kd.S_alloc | apply Kd.S_drewN | apply Kd.S_drew)); exact Kd.S_mono HO_5.out (fun k_ hk => ⟨trivial, fun e_ => hk.2 e_⟩))); (case aS => exact (below_size zq7)); (case aL => have := LMc19.out; omega); intro v488 w24 ho hb hg hat; rw [← Ny487.out] at ho; replace HI463 := Aside0.mk (IsS63.grown zq10 hg (IsS63.own_neS HI463.out HO_5.out (by decide))); replace HB := Aside0.mk (hb); have HO489 := Aside0.mk (ho); clear HO_5; clear HO486; clear ho hb hg hat))
   go_roundg k2
   case measure => have := HK1.out; have := HK2.out; omega
   case rel => exact ⟨(y487), (wrap64 (x7_2 + 1)), (t482), (t483), (by first | rfl | (simp; done) | (simp [*]; done)), H', ⟨by have := HK1.out; have := HK2.out; omega⟩, ⟨by (with_reducible repeat (first | apply Kd.S_alloc | apply Kd.S_drewN | apply Kd.S_drew)); exact HO489.out⟩, ⟨zq10⟩, ⟨zq7⟩⟩
def spec_DrawTrackLength.f (k : Nat) (l0 : List Int) : Option ((List (List (S49))) × Int × Int × Int) := (spec_DrawLongestTrack.f k l0).bind fun bt509 => ((spec_l1Cur_pick.f l0 0 0 5).bind fun bt513 => ((spec_l1Cur_pick.f l0 bt513.2.1 bt513.2.2 9).bind fun bt516 => ((spec_l1Cur_pick.f l0 bt516.2.1 bt516.2.2 5).bind fun bt519 => (some (bt509.1, bt509.2, wrap64 (bt513.1 - (wrap64 (Int.tdiv bt516.1 8))), bt519.1)))))
set_option maxHeartbeats 8000000 in
set_option maxRecDepth 100000 in
theorem spec_DrawTrackLength.calls (k : Nat) (A0 : Option Addr) (c0 : Nat) (l0 : List Int) (r1 : List (List (S49))) (r2 : Int) (r3 : Int) (r4 : Int) (w : World) (hr0 : Kd.C (Kd.int .u8) w A0 l0.length l0) (hc0 : l0.length ≤ c0) (h : spec_DrawTrackLength.f k l0 = some (r1, r2, r3, r4)) :
  Calls Try.prog 15 #[.slice A0 l0.length c0] w fun e w' => ∃ v0_ : Value, e = .returned (.tuple #[v0_, .int .i64 r2, .int .i64 r3, .int .i64 r4]) ∧ Kd.S (Kd.slice 49 k49) 26 w' w.heap.size (fun _ => True) v0_ r1 ∧ Below w.heap.size w w' := by
 have hu63 := Try.underlying63
 have HR0 := Aside0.mk hr0
 have HC0 := Aside0.mk hc0
 clear hr0 hc0
 have HB := Aside0.mk (Below.refl w.heap.size w)
 have H : ((spec_DrawLongestTrack.f k l0).bind fun bt509 => ((spec_l1Cur_pick.f l0 0 0 5).bind fun bt513 => ((spec_l1Cur_pick.f l0 bt513.2.1 bt513.2.2 9).bind fun bt516 => ((spec_l1Cur_pick.f l0 bt516.2.1 bt516.2.2 5).bind fun bt519 => (some (bt509.1, bt509.2, wrap64 (bt513.1 - (wrap64 (Int.tdiv bt516.1 8))), bt519.1)))))) = some (r1, r2, r3, r4) := h
 clear h
 replace H := Option.bind_eq_some_iff.mp H
 obtain ⟨⟨t509, t510⟩, A20, H⟩ := H
 replace H : ((spec_l1Cur_pick.f l0 0 0 5).bind fun bt513 => ((spec_l1Cur_pick.f l0 bt513.2.1 bt513.2.2 9).bind fun bt516 => ((spec_l1Cur_pick.f l0 bt516.2.1 bt516.2.2 5).bind fun bt519 => (some (t509, t510, wrap64 (bt513.1 - (wrap64 (Int.tdiv bt516.1 8))), bt519.1))))) = some (r1, r2, r3, r4) := H
 have A2 := Aside0.mk A20
 clear A20
 replace H := Option.bind_eq_some_iff.mp H
 obtain ⟨⟨t513, t514, t515⟩, A30, H⟩ := H
 replace H : ((spec_l1Cur_pick.f l0 t514 t515 9).bind fun bt516 => ((spec_l1Cur_pick.f l0 bt516.2.1 bt516.2.2 5).bind fun bt519 => (some (t509, t510, wrap64 (t513 - (wrap64 (Int.tdiv bt516.1 8))), bt519.1)))) = some (r1, r2, r3, r4) := H
 have A3 := Aside0.mk A30
 clear A30
 replace H := Option.bind_eq_some_iff.mp H
 obtain ⟨⟨t516, t517, t518⟩, A40, H⟩ := H
 replace H : ((spec_l1Cur_pick.f l0 t517 t518 5).bind fun bt519 => (some (t509, t510, wrap64 (t513 - (wrap64 (Int.tdiv t516 8))), bt519.1))) = some (r1, r2, r3, r4) := H
 have A4 := Aside0.mk A40
 clear A40
 replace H := Option.bind_eq_some_iff.mp H
 obtain ⟨⟨t519, t520, t521⟩, A50, H⟩ := H
 replace H : (some (t509, t510, wrap64 (t513 - (wrap64 (Int.tdiv t516 8))), t519)) = some (r1, r2, r3, r4) := H
 have A5 := Aside0.mk A50
 clear A50
 simp only [Option.some.injEq, Prod.mk.injEq] at H
 obtain ⟨rfl, rfl, rfl, rfl⟩ := H
 go_enter Try.func15, Try.ntmps15
 go_wp2_with (first | ((with_reducible refine gate_dst (N := 11) rfl ?_); refine box_event ?hg (N := 11) ?hd (cs := #[.slice A0 l0.length c0, .int .i64 0, .int .u64 0]) (t := 63) ?hr ?_; (case hd => rfl); (case hg => rfl); (case hr => exact zqS); intro gb508 hg w6 hbox hb; have HI508 := Aside0.mk ((show IsS63 w w6 gb508 l0 0 0 from ⟨_, _, hbox, (by rw [hg]; exact (below_size zq0) : w.heap.size ≤ gb508), HR0.out⟩)); have GW508 := Aside0.mk ((by rw [hg]; exact (below_size zq0) : w.heap.size ≤ gb508)); replace HB := Aside0.mk (below_step zq0 hb); have GE508 := GW508; clear hb hbox hg) | ((with_reducible refine gate_callee (f := 36) rfl ?_); refine goesL_ (some 14) rfl rfl Try.func36 (by kernel_rfl) rfl #[.slice A0 l0.length c0] rfl zq1 ?_; (with_reducible refine (spec_DrawLongestTrack.calls k _ _ l0 t509 t510 _ ?side1 ?side2 A2.out).mono ?_); (case side1 => exact zqC (Kd.C_below HR0.out HB.out)); (case side2 => exact HC0.out); rintro e w7 ⟨v511, rfl, ho0, hb⟩; refine ⟨_, rfl, ?_⟩; have HO512 := Aside0.mk (Kd.S_lower ho0 (below_size zq29)); replace HB := Aside0.mk (below_step zq29 hb); replace HI508 := Aside0.mk (IsS63.below zq39 hb); (try clear hb); (try clear hb2); (try clear hk); (try clear hi); (try clear ho0)) | ((with_reducible refine gate_callee (f := 37) rfl ?_); refine goesL_ (some 20) rfl rfl Try.func37 (by kernel_rfl) rfl #[.pointer (some ⟨gb508, 0, none⟩), .int .i64 5] rfl zq1 ?_; (with_reducible refine (spec_l1Cur_pick.calls gb508 l0 0 0 5 t513 t514 t515 w _ ?side1 ?side2 A3.out).mono ?_); (case side1 => exact zq39); (case side2 => exact zq29); rintro e w8 ⟨rfl, hi, hb, hk⟩; refine ⟨_, rfl, ?_⟩; replace HO512 := Aside0.mk (Kd.S_mono (Kd.S_keep (IsS63.apartS (show IsS63 w _ gb508 l0 0 0 from by repeat (first | (with_reducible first | exact HI508.out | apply IsS63.alloc | apply IsS63.drewN | apply IsS63.drew | apply IsS63.set_1 | apply IsS63.set_2) | exact HI508.out)) (by (with_reducible repeat (first | apply Kd.S_alloc | apply Kd.S_drewN | apply Kd.S_drew)); exact HO512.out) (by decide)) hk (fun _ h => h.2)) (fun _ h => h.1)); replace HB := Aside0.mk (hb); replace HI508 := Aside0.mk (hi); (try clear hb); (try clear hb2); (try clear hk); (try clear hi)) | ((with_reducible refine gate_callee (f := 37) rfl ?_); refine goesL_ (some 22) rfl rfl Try.func37 (by kernel_rfl) rfl #[.pointer (some ⟨gb508, 0, none⟩), .int .i64 9] rfl zq1 ?_; (with_reducible refine (spec_l1Cur_pick.calls gb508 l0 t514 t515 9 t516 t517 t518 w _ ?side1 ?side2 A4.out).mono ?_); (case side1 => exact zq39); (case side2 => exact zq29); rintro e w9 ⟨rfl, hi, hb, hk⟩; refine ⟨_, rfl, ?_⟩; replace HO512 := Aside0.mk (Kd.S_mono (Kd.S_keep (IsS63.apartS (show IsS63 w _ gb508 l0 t514 t515 from by repeat (first | (with_reducible first | exact HI508.out | apply IsS63.alloc | apply IsS63.drewN | apply IsS63.drew | apply IsS63.set_1 | apply IsS63.set_2) | exact HI508.out)) (by (with_reducible repeat (first | apply Kd.S_alloc | apply Kd.S_drewN | apply Kd.S_drew)); exact HO512.out) (by decide)) hk (fun _ h => h.2)) (fun _ h => h.1)); replace HB := Aside0.mk (hb); replace HI508 := Aside0.mk (hi); (try clear hb); (try clear hb2); (try clear hk); (try clear hi)) | ((with_reducible refine gate_callee (f := 37) rfl ?_); refine goesL_ (some 26) rfl rfl Try.func37 (by kernel_rfl) rfl #[.pointer (some ⟨gb508, 0, none⟩), .int .i64 5] rfl zq1 ?_; (with_reducible refine (spec_l1Cur_pick.calls gb508 l0 t517 t518 5 t519 t520 t521 w _ ?side1 ?side2 A5.out).mono ?_); (case side1 => exact zq39); (case side2 => exact zq29); rintro e w10 ⟨rfl, hi, hb, hk⟩; refine ⟨_, rfl, ?_⟩; replace HO512 := Aside0.mk (Kd.S_mono (Kd.S_keep (IsS63.apartS (show IsS63 w _ gb508 l0 t517 t518 from by repeat (first | (with_reducible first | exact HI508.out | apply IsS63.alloc | apply IsS63.drewN | apply IsS63.drew | apply IsS63.set_1 | apply IsS63.set_2) | exact HI508.out)) (by (with_reducible repeat (first | apply Kd.S_alloc | apply Kd.S_drewN | apply Kd.S_drew)); exact HO512.out) (by decide)) hk (fun _ h => h.2)) (fun _ h => h.1)); replace HB := Aside0.mk (hb); replace HI508 := Aside0.mk (hi); (try clear hb); (try clear hb2); (try clear hk); (try clear hi)))
 refine bodyPost_ret (results_list (rs := [.tmp 2, .tmp 3, .tmp 4, .tmp 5]) rfl (by simp) (.tmp (.tmp (.tmp (.tmp .nil))))) rfl ?_
 exact ⟨_, by first | rfl | (simp [errW_none, errW_some] <;> rfl) | (simp [*, errW_none, errW_some] <;> rfl), by (with_reducible repeat (first | apply Kd.S_alloc | apply Kd.S_drewN | apply Kd.S_drew)); exact HO512.out, zq29⟩
theorem IndexFuncS.calls (g : Nat) (lb : Array Value) (p : S49 → Bool) (eg : ∀ args w, (callFunc g args).run Try.prog w = .ok (.enter g args) w)
  (A0 : Option Addr) (n0 c0 : Nat) (l0 : List S49) (w : World) (hn : n0 = l0.length) (hr0 : Kd.C k49 w A0 l0.length l0) (hc0 : l0.length ≤ c0)
  (hp : ∀ (W : World) (x : S49), Below w.heap.size w W → Calls Try.prog g (#[.agg #[.int .i64 x.f0, .int .i64 x.f1, .int .i64 x.f2, .int .i64 x.f3]] ++ lb) W fun e w' => e = .returned (.bool (p x)) ∧ Below W.heap.size W w') :
  Calls Try.prog 90 #[.slice A0 n0 c0, .func (.func g) #[] lb] w fun e w' => e = .returned (.int .i64 (Gen.fIdx p l0)) ∧ Below w.heap.size w w' := by
 subst hn
 have hu := Try.underlying49
 have HR0 := Aside0.mk hr0
 have HP := Aside0.mk hp
 have hbig : l0.length ≤ 9223372036854775807 := hr0.2.1
 clear hr0 hp hc0
 go_enter Try.func90, Try.ntmps90
 go_wp2
 go_loopg [5, 8] l0.length (fun gg _ s8 wr => ∃ kk : Nat, kk ≤ l0.length ∧ l0.length - kk ≤ gg ∧ s8 = .int .i64 kk ∧ Aside0 (Below w.heap.size w wr) ∧ Aside0 (∀ j, j < kk → p (l0.getD j z49) = false))
 case atStart => exact ⟨0, Nat.zero_le _, by omega, rfl, ⟨Below.refl _ w⟩, ⟨fun j hj => absurd hj (Nat.not_lt_zero _)⟩⟩
 case round =>
  obtain ⟨kk, hkk, hg, rfl, BW, AN⟩ := hrel
  by_cases hlt : kk < l0.length
  ·
   have hltz : (kk : Int) < (l0.length : Int) := by omega
   obtain ⟨ad, e0, hx0, hx1, hx2, hx3⟩ := at_T49 HR0.out (kk : Int) (by omega) hltz
   cases e0
   rw [show rd_T49 l0 (kk : Int) = l0.getD kk z49 from rfl, Int.toNat_natCast] at hx0 hx1 hx2 hx3
   generalize hy : l0.getD kk z49 = y at hx0 hx1 hx2 hx3
   have B := Aside0.mk hy
   clear hy
   replace hx0 := (BW.out.cell (World.block_lt_of_cell? w _ hx0)).trans hx0
   replace hx1 := (BW.out.cell (World.block_lt_of_cell? w _ hx1)).trans hx1
   replace hx2 := (BW.out.cell (World.block_lt_of_cell? w _ hx2)).trans hx2
   replace hx3 := (BW.out.cell (World.block_lt_of_cell? w _ hx3)).trans hx3
   have hcall := HP.out wr y BW.out
   cases hq : p y with
   | true =>
    rw [hq] at hcall
    go_wp2_with (go_at_fn g; refine hcall.mono ?_; rintro e w' ⟨rfl, hb'⟩)
    go_ret
    refine ⟨?_, BW.out.trans (hb'.mono BW.out.size)⟩
    rw [Gen.fIdx_hit p l0 z49 kk hlt (by rw [B.out]; exact hq) AN.out]
    rfl
   | false =>
    rw [hq] at hcall
    go_wp2_with (go_at_fn g; refine hcall.mono ?_; rintro e w' ⟨rfl, hb'⟩)
    go_roundg (l0.length - (kk + 1))
    case measure => omega
    case rel =>
     refine ⟨kk + 1, by omega, by omega, by go_num, ⟨BW.out.trans (hb'.mono BW.out.size)⟩, ⟨fun j hj => ?_⟩⟩
     by_cases e : j = kk
     ·
      subst e
      rw [B.out]; exact hq
     ·
      exact AN.out j (by omega)
  ·
   have hltz : ¬ (kk : Int) < (l0.length : Int) := by omega
   have : kk = l0.length := by omega
   subst this
   go_wp2
   go_ret
   refine ⟨?_, BW.out⟩
   rw [Gen.fIdx_miss p l0 z49 AN.out]
   rfl
theorem ContainsFuncS.calls (g : Nat) (lb : Array Value) (p : S49 → Bool) (eg : ∀ args w, (callFunc g args).run Try.prog w = .ok (.enter g args) w)
  (A0 : Option Addr) (n0 c0 : Nat) (l0 : List S49) (w : World) (hn : n0 = l0.length) (hr0 : Kd.C k49 w A0 l0.length l0) (hc0 : l0.length ≤ c0)
  (hp : ∀ (W : World) (x : S49), Below w.heap.size w W → Calls Try.prog g (#[.agg #[.int .i64 x.f0, .int .i64 x.f1, .int .i64 x.f2, .int .i64 x.f3]] ++ lb) W fun e w' => e = .returned (.bool (p x)) ∧ Below W.heap.size W w') :
  Calls Try.prog 78 #[.slice A0 n0 c0, .func (.func g) #[] lb] w fun e w' => e = .returned (.bool (l0.any p)) ∧ Below w.heap.size w w' := by
 subst hn
 rw [← Gen.fIdx_nonneg p l0]
 have HC := Aside0.mk (IndexFuncS.calls g lb p eg A0 _ c0 l0 w rfl hr0 hc0 hp)
 clear hr0 hp hc0
 go_enter Try.func78, Try.ntmps78
 go_wp2_with (go_at_call 90; refine HC.out.mono ?_; rintro e w' ⟨rfl, hb'⟩)
 go_ret
 exact ⟨rfl, hb'⟩
def stormB (x : S49) : Bool := decide (0 ≤ x.f0 ∧ x.f0 ≤ 7) && (decide (0 ≤ x.f1 ∧ x.f1 ≤ 7) && (decide (1 ≤ x.f2 ∧ x.f2 ≤ 64) && decide (-9000 ≤ x.f3 ∧ x.f3 ≤ 9000)))
def badS (x : S49) : Bool := !stormB x
set_option maxRecDepth 100000 in
theorem impl_areStorms.pred : ∀ (W : World) (x : S49), Calls Try.prog 79 (#[.agg #[.int .i64 x.f0, .int .i64 x.f1, .int .i64 x.f2, .int .i64 x.f3]] ++ #[]) W fun e w' => e = .returned (.bool (badS x)) ∧ Below W.heap.size W w' := by
 intro W x
 show Calls Try.prog 79 #[.agg #[.int .i64 x.f0, .int .i64 x.f1, .int .i64 x.f2, .int .i64 x.f3]] W _
 unfold badS stormB
 have e1 := within_f x.f0 0 7
 have e2 := within_f x.f1 0 7
 have e3 := within_f x.f2 1 64
 have e4 := within_f x.f3 (-9000) 9000
 have hu := Try.underlying49
 generalize decide (0 ≤ x.f0 ∧ x.f0 ≤ 7) = b1 at e1 ⊢
 generalize decide (0 ≤ x.f1 ∧ x.f1 ≤ 7) = b2 at e2 ⊢
 generalize decide (1 ≤ x.f2 ∧ x.f2 ≤ 64) = b3 at e3 ⊢
 generalize decide (-9000 ≤ x.f3 ∧ x.f3 ≤ 9000) = b4 at e4 ⊢
 have E1 := Aside0.mk e1
 have E2 := Aside0.mk e2
 have E3 := Aside0.mk e3
 have E4 := Aside0.mk e4
 clear e1 e2 e3 e4
 generalize x.f0 = x0 at *
 generalize x.f1 = x1 at *
 generalize x.f2 = x2 at *
 generalize x.f3 = x3 at *
 obtain ⟨W1, hW1⟩ : ∃ W1, W1 = W.alloc (.cells #[.int .i64 x0, .int .i64 x1, .int .i64 x2, .int .i64 x3] 49) := ⟨_, rfl⟩
 have a1B : Below W.heap.size W W1 := by rw [hW1]; exact (Below.refl _ W).alloc (Nat.le_refl _) _
 have a1N : W1.heap[W.heap.size]? = some (.cells #[.int .i64 x0, .int .i64 x1, .int .i64 x2, .int .i64 x3] 49 (0, 0)) := by rw [hW1]; exact heap_alloc_new W _
 have HW := Aside0.mk hW1
 have HBW := Aside0.mk a1B
 have HN := Aside0.mk a1N
 clear a1B a1N hW1
 go_enter Try.func79, Try.ntmps79
 go_wp2_with fail
 rw [← HW.out]
 refine (impl_within.calls x0 0 7 b1 _ E1.out).mono ?_
 rintro e w1 ⟨rfl, hb⟩
 try replace hb := hb.below
 have HB1 := Aside0.mk (below_step HBW.out hb)
 have HN1 := Aside0.mk (blk_below HN.out hb)
 have f1 : w1.cell? ⟨W.heap.size, 1, none⟩ = some (.int .i64 x1) := blk_cell HN1.out 1
 clear hb
 cases b1 with
 | false =>
  go_wp2
  go_ret
  exact ⟨rfl, HB1.out⟩
 | true =>
  go_wp2_with fail
  refine (impl_within.calls x1 0 7 b2 _ E2.out).mono ?_
  rintro e w2 ⟨rfl, hb⟩
  try replace hb := hb.below
  have HB2 := Aside0.mk (below_step HB1.out hb)
  have HN2 := Aside0.mk (blk_below HN1.out hb)
  have f2 : w2.cell? ⟨W.heap.size, 2, none⟩ = some (.int .i64 x2) := blk_cell HN2.out 2
  clear hb f1
  cases b2 with
  | false =>
   go_wp2
   go_ret
   exact ⟨rfl, HB2.out⟩
  | true =>
   go_wp2_with fail
   refine (impl_within.calls x2 1 64 b3 _ E3.out).mono ?_
   rintro e w3 ⟨rfl, hb⟩
   try replace hb := hb.below
   have HB3 := Aside0.mk (below_step HB2.out hb)
   have HN3 := Aside0.mk (blk_below HN2.out hb)
   have f3 : w3.cell? ⟨W.heap.size, 3, none⟩ = some (.int .i64 x3) := blk_cell HN3.out 3
   clear hb f2
   cases b3 with
   | false =>
    go_wp2
    go_ret
    exact ⟨rfl, HB3.out⟩
   | true =>
    go_wp2_with fail
    refine (impl_within.calls x3 (-9000) 9000 b4 _ E4.out).mono ?_
    rintro e w4 ⟨rfl, hb⟩
    try replace hb := hb.below
    have HB4 := Aside0.mk (below_step HB3.out hb)
    have HN4 := Aside0.mk (blk_below HN3.out hb)
    clear hb f3
    go_wp2
    go_ret
    exact ⟨by cases b4 <;> rfl, HB4.out⟩
def impl_areStorms.f (l0 : List S49) : Option Bool := some (decide (l0.length ≤ 5) && !(l0.any badS))
theorem impl_areStorms.calls (A0 : Option Addr) (c0 : Nat) (l0 : List S49) (r : Bool) (w : World) (hr0 : Kd.C k49 w A0 l0.length l0) (hc0 : l0.length ≤ c0) (h : impl_areStorms.f l0 = some r) :
  Calls Try.prog 49 #[.slice A0 l0.length c0] w fun e w' => e = .returned (.bool r) ∧ Below w.heap.size w w' := by
 have eg : ∀ args w, (callFunc 79 args).run Try.prog w = .ok (.enter 79 args) w := enters_of Try.func79 (by kernel_rfl) rfl
 have EG := Aside0.mk eg
 have HR := Aside0.mk hr0
 have HC := Aside0.mk hc0
 have hbig : l0.length ≤ 9223372036854775807 := hr0.2.1
 clear eg hr0 hc0
 obtain rfl := Option.some.inj h
 clear h
 by_cases c : l0.length ≤ 5
 case neg =>
  have c1 : decide ((l0.length : Int) ≤ 5) = false := decide_eq_false (by omega)
  have c2 : ((l0.length : Int) ≤ 5) = False := eq_false (by omega)
  rw [decide_eq_false c, Bool.false_and]
  clear c
  go_enter Try.func49, Try.ntmps49
  go_wp2
  go_ret
  exact ⟨rfl, by first | exact Below.refl _ _ | exact (Below.refl _ _).drew | exact pw_below_drewN (Below.refl _ _) _⟩
 have c1 : decide ((l0.length : Int) ≤ 5) = true := decide_eq_true (by omega)
 have c2 : ((l0.length : Int) ≤ 5) = True := eq_true (by omega)
 rw [decide_eq_true c, Bool.true_and]
 clear c
 go_enter Try.func49, Try.ntmps49
 go_wp2_with fail
 refine (ContainsFuncS.calls 79 #[] badS EG.out A0 l0.length c0 l0 _ rfl ?hr1 HC.out ?hp1).mono ?_
 case hr1 => first | exact HR.out | exact Kd.C_drew HR.out
 case hp1 => exact fun W x _ => impl_areStorms.pred W x
 rintro e w' ⟨rfl, hb'⟩
 go_wp2
 go_ret
 exact ⟨by first | rfl | simp, hb'⟩
def impl_isPenalty.f (a0 : Int) : Option (Bool) := (impl_within.f a0 0 20).bind fun t522 => (some t522)
set_option maxHeartbeats 8000000 in
set_option maxRecDepth 100000 in
theorem impl_isPenalty.calls (a0 : Int) (r : Bool) (w : World) (h : impl_isPenalty.f a0 = some r) :
  Calls Try.prog 68 #[.int .i64 a0] w fun e w' => e = .returned (.bool r) ∧ Drawn0 w w' := by
 have H : ((impl_within.f a0 0 20).bind fun t522 => (some t522)) = some r := h
 clear h
 replace H := Option.bind_eq_some_iff.mp H
 obtain ⟨t522, A20, H⟩ := H
 replace H : (some t522) = some r := H
 have A2 := Aside0.mk A20
 clear A20
 obtain rfl := Option.some.inj H
 go_enter Try.func68, Try.ntmps68
 go_wp2_with (first | ((with_reducible refine gate_callee (f := 39) rfl ?_); refine goesL_ (some 4) rfl rfl Try.func39 (by kernel_rfl) rfl #[.int .i64 a0, .int .i64 0, .int .i64 20] rfl zq1 ?_; (with_reducible refine (impl_within.calls a0 0 20 t522 _ A2.out).mono ?_); rintro e w' ⟨rfl, ⟨nd, rfl⟩⟩; refine ⟨_, rfl, ?_⟩))
 go_ret
 exact ⟨by first | rfl | (simp; done) | (simp [*]; done), zq19⟩
theorem IndexFuncL.calls (g : Nat) (lb : Array Value) (p : List S49 → Bool) (eg : ∀ args w, (callFunc g args).run Try.prog w = .ok (.enter g args) w)
  (A0 : Option Addr) (n0 c0 : Nat) (l0 : List (List S49)) (w : World) (hn : n0 = l0.length) (hr0 : Kd.C (Kd.slice 49 k49) w A0 l0.length l0) (hc0 : l0.length ≤ c0)
  (hp : ∀ (W : World) (A : Option Addr) (c : Nat) (x : List S49), Below w.heap.size w W → Kd.C k49 W A x.length x → x.length ≤ c → Calls Try.prog g (#[.slice A x.length c] ++ lb) W fun e w' => e = .returned (.bool (p x)) ∧ Below W.heap.size W w') :
  Calls Try.prog 84 #[.slice A0 n0 c0, .func (.func g) #[] lb] w fun e w' => e = .returned (.int .i64 (Gen.fIdx p l0)) ∧ Below w.heap.size w w' := by
 subst hn
 have HR0 := Aside0.mk hr0
 have HP := Aside0.mk hp
 have hbig : l0.length ≤ 9223372036854775807 := hr0.2.1
 clear hr0 hp hc0
 go_enter Try.func84, Try.ntmps84
 go_wp2
 go_loopg [5, 8] l0.length (fun gg _ s8 wr => ∃ kk : Nat, kk ≤ l0.length ∧ l0.length - kk ≤ gg ∧ s8 = .int .i64 kk ∧ Aside0 (Below w.heap.size w wr) ∧ Aside0 (∀ j, j < kk → p (l0.getD j []) = false))
 case atStart => exact ⟨0, Nat.zero_le _, by omega, rfl, ⟨Below.refl _ w⟩, ⟨fun j hj => absurd hj (Nat.not_lt_zero _)⟩⟩
 case round =>
  obtain ⟨kk, hkk, hg, rfl, BW, AN⟩ := hrel
  by_cases hlt : kk < l0.length
  ·
   have hltz : (kk : Int) < (l0.length : Int) := by omega
   obtain ⟨ad, Ai, ci, e0, hx0, hl0, hc1⟩ := at_L8 HR0.out (kk : Int) (by omega) hltz
   cases e0
   rw [show rd_L8 l0 (kk : Int) = l0.getD kk [] from rfl] at hx0 hl0 hc1
   rw [Int.toNat_natCast] at hx0
   generalize hy : l0.getD kk [] = y at hx0 hl0 hc1
   have B := Aside0.mk hy
   clear hy
   replace hx0 := (BW.out.cell (World.block_lt_of_cell? w _ hx0)).trans hx0
   have hcall := HP.out wr Ai ci y BW.out (Kd.C_below hc1 BW.out) hl0
   clear hl0 hc1
   cases hq : p y with
   | true =>
    rw [hq] at hcall
    go_wp2_with (go_at_fn g; refine hcall.mono ?_; rintro e w' ⟨rfl, hb'⟩)
    go_ret
    refine ⟨?_, BW.out.trans (hb'.mono BW.out.size)⟩
    rw [Gen.fIdx_hit p l0 [] kk hlt (by rw [B.out]; exact hq) AN.out]
    rfl
   | false =>
    rw [hq] at hcall
    go_wp2_with (go_at_fn g; refine hcall.mono ?_; rintro e w' ⟨rfl, hb'⟩)
    go_roundg (l0.length - (kk + 1))
    case measure => omega
    case rel =>
     refine ⟨kk + 1, by omega, by omega, by go_num, ⟨BW.out.trans (hb'.mono BW.out.size)⟩, ⟨fun j hj => ?_⟩⟩
     by_cases e : j = kk
     ·
      subst e
      rw [B.out]; exact hq
     ·
      exact AN.out j (by omega)
  ·
   have hltz : ¬ (kk : Int) < (l0.length : Int) := by omega
   have : kk = l0.length := by omega
   subst this
   go_wp2
   go_ret
   refine ⟨?_, BW.out⟩
   rw [Gen.fIdx_miss p l0 [] AN.out]
   rfl
theorem ContainsFuncL.calls (g : Nat) (lb : Array Value) (p : List S49 → Bool) (eg : ∀ args w, (callFunc g args).run Try.prog w = .ok (.enter g args) w)
  (A0 : Option Addr) (n0 c0 : Nat) (l0 : List (List S49)) (w : World) (hn : n0 = l0.length) (hr0 : Kd.C (Kd.slice 49 k49) w A0 l0.length l0) (hc0 : l0.length ≤ c0)
  (hp : ∀ (W : World) (A : Option Addr) (c : Nat) (x : List S49), Below w.heap.size w W → Kd.C k49 W A x.length x → x.length ≤ c → Calls Try.prog g (#[.slice A x.length c] ++ lb) W fun e w' => e = .returned (.bool (p x)) ∧ Below W.heap.size W w') :
  Calls Try.prog 69 #[.slice A0 n0 c0, .func (.func g) #[] lb] w fun e w' => e = .returned (.bool (l0.any p)) ∧ Below w.heap.size w w' := by
 subst hn
 rw [← Gen.fIdx_nonneg p l0]
 have HC := Aside0.mk (IndexFuncL.calls g lb p eg A0 _ c0 l0 w rfl hr0 hc0 hp)
 clear hr0 hp hc0
 go_enter Try.func69, Try.ntmps69
 go_wp2_with (go_at_call 84; refine HC.out.mono ?_; rintro e w' ⟨rfl, hb'⟩)
 go_ret
 exact ⟨rfl, hb'⟩
def slices_Index_int_int.l0 : Nat → List Int → Int → Int → Int → Option (Int)
 | 0, _, _, _, _ => none
 | k + 1, x0, x1, x7, x8 => if x8 < x7 then (if 0 ≤ x8 then (if x8 < (x0.length : Int) then (if x1 = (rd x0 x8) then (some x8) else (slices_Index_int_int.l0 k x0 x1 x7 (wrap64 (x8 + 1)))) else (none)) else (none)) else (some (-1))
def slices_Index_int_int.f (k : Nat) (l0 : List Int) (a1 : Int) : Option (Int) := slices_Index_int_int.l0 k l0 a1 (l0.length : Int) 0
set_option maxHeartbeats 8000000 in
set_option maxRecDepth 100000 in
theorem slices_Index_int_int.calls (k : Nat) (A0 : Option Addr) (c0 : Nat) (l0 : List Int) (a1 : Int) (r : Int) (w : World) (hr0 : Kd.C (Kd.int .i64) w A0 l0.length l0) (hc0 : l0.length ≤ c0) (h : slices_Index_int_int.f k l0 a1 = some r) :
  Calls Try.prog 74 #[.slice A0 l0.length c0, .int .i64 a1] w fun e w' => e = .returned (.int .i64 r) ∧ Drawn0 w w' := by
 have HR0 := Aside0.mk hr0
 have HC0 := Aside0.mk hc0
 clear hr0 hc0
 have H : (slices_Index_int_int.l0 k l0 a1 (l0.length : Int) 0) = some r := h
 clear h
 have H' := Aside0.mk H
 clear H
 go_enter Try.func74, Try.ntmps74
 go_wp2
 go_loopg [8] k (fun kq v8 w' => ∃ (x8_1 : Int), v8 = .int .i64 x8_1 ∧ Aside0 (slices_Index_int_int.l0 kq l0 a1 (l0.length : Int) x8_1 = some r) ∧ Aside0 (kq ≤ k) ∧ Drawn0 w w')
 case atStart => exact ⟨(0), (by first | rfl | (simp; done) | (simp [*]; done)), H', ⟨Nat.le_refl _⟩, zq19⟩
 clear H'
 try clear p2
 obtain ⟨x8_1, rfl, HA, HK1, ⟨m1, rfl⟩⟩ := hrel
 cases gk with
 | zero => exact absurd HA.out (by simp [slices_Index_int_int.l0])
 | succ k1 =>
  have H := HA.out
  clear HA
  simp only [slices_Index_int_int.l0] at H
  by_cases c3 : x8_1 < (l0.length : Int)
  case neg =>
   rw [if_neg c3] at H
   have c3b0 : decide (x8_1 < (l0.length : Int)) = false := decide_eq_false c3
   clear c3
   obtain rfl := Option.some.inj H
   go_wp2
   go_ret
   exact ⟨by first | rfl | (simp; done) | (simp [*]; done), zq19⟩
  rw [if_pos c3] at H
  have c3b0 : decide (x8_1 < (l0.length : Int)) = true := decide_eq_true c3
  clear c3
  by_cases c4 : 0 ≤ x8_1
  case neg =>
   rw [if_neg c4] at H
   exact absurd H (by simp)
  rw [if_pos c4] at H
  have c4b0 : decide (0 ≤ x8_1) = true := decide_eq_true c4
  clear c4
  by_cases c5 : x8_1 < (l0.length : Int)
  case neg =>
   rw [if_neg c5] at H
   exact absurd H (by simp)
  rw [if_pos c5] at H
  have c5b0 : decide (x8_1 < (l0.length : Int)) = true := decide_eq_true c5
  clear c5
  by_cases c6 : a1 = (rd l0 x8_1)
  case pos =>
   rw [if_pos c6] at H
   have c6b0 : (a1 == (rd l0 x8_1)) = true := beq_iff_eq.mpr c6
   have c6b1 : (a1 != (rd l0 x8_1)) = false := bne_eq_false_iff_eq.mpr c6
   clear c6
   obtain rfl := Option.some.inj H
   have p523 : 0 ≤ (x8_1 : Int) := of_decide_eq_true zq2
   have q523 : x8_1 < (l0.length : Int) := of_decide_eq_true zq2
   obtain ⟨ad523, e523, hx523_0⟩ := Kd.at_int HR0.out x8_1 p523 q523
   cases e523
   replace p523 := eq_true p523
   replace q523 := eq_true q523
   go_wp2
   go_ret
   exact ⟨by first | rfl | (simp; done) | (simp [*]; done), zq19⟩
  rw [if_neg c6] at H
  have c6b0 : (a1 == (rd l0 x8_1)) = false := beq_eq_false_iff_ne.mpr c6
  have c6b1 : (a1 != (rd l0 x8_1)) = true := bne_iff_ne.mpr c6
  have H' := Aside0.mk H
  clear H
  have p523 : 0 ≤ (x8_1 : Int) := of_decide_eq_true zq2
  have q523 : x8_1 < (l0.length : Int) := of_decide_eq_true zq2
  obtain ⟨ad523, e523, hx523_0⟩ := Kd.at_int HR0.out x8_1 p523 q523
  cases e523
  replace p523 := eq_true p523
  replace q523 := eq_true q523
  go_wp2
  go_roundg k1
  case measure => have := HK1.out; omega
  case rel => exact ⟨(wrap64 (x8_1 + 1)), (by first | rfl | (simp; done) | (simp [*]; done)), H', ⟨by have := HK1.out; omega⟩, zq19⟩
def slices_Contains_int_int.f (k : Nat) (l0 : List Int) (a1 : Int) : Option (Bool) := (slices_Index_int_int.f k l0 a1).bind fun t524 => (some (decide (t524 ≥ 0)))
set_option maxHeartbeats 8000000 in
set_option maxRecDepth 100000 in
theorem slices_Contains_int_int.calls (k : Nat) (A0 : Option Addr) (c0 : Nat) (l0 : List Int) (a1 : Int) (r : Bool) (w : World) (hr0 : Kd.C (Kd.int .i64) w A0 l0.length l0) (hc0 : l0.length ≤ c0) (h : slices_Contains_int_int.f k l0 a1 = some r) :
  Calls Try.prog 44 #[.slice A0 l0.length c0, .int .i64 a1] w fun e w' => e = .returned (.bool r) ∧ Drawn0 w w' := by
 have HR0 := Aside0.mk hr0
 have HC0 := Aside0.mk hc0
 clear hr0 hc0
 have H : ((slices_Index_int_int.f k l0 a1).bind fun t524 => (some (decide (t524 ≥ 0)))) = some r := h
 clear h
 replace H := Option.bind_eq_some_iff.mp H
 obtain ⟨t524, A30, H⟩ := H
 replace H : (some (decide (t524 ≥ 0))) = some r := H
 have A3 := Aside0.mk A30
 clear A30
 obtain rfl := Option.some.inj H
 go_enter Try.func44, Try.ntmps44
 go_wp2_with (first | ((with_reducible refine gate_callee (f := 74) rfl ?_); refine goesL_ (some 7) rfl rfl Try.func74 (by kernel_rfl) rfl #[.slice A0 l0.length c0, .int .i64 a1] rfl zq1 ?_; (with_reducible refine (slices_Index_int_int.calls k _ _ l0 a1 t524 _ ?side1 ?side2 A3.out).mono ?_); (case side1 => exact zqC HR0.out); (case side2 => exact HC0.out); rintro e w' ⟨rfl, ⟨nd, rfl⟩⟩; refine ⟨_, rfl, ?_⟩))
 go_ret
 exact ⟨by first | rfl | (simp; done) | (simp [*]; done), zq19⟩
theorem rdI_ (l : List Int) (i : Nat) : rd l (i : Int) = l.getD i 0 := rfl
theorem wrapI_ (i n : Nat) (h : i < n) (hn : n ≤ 9223372036854775807) : wrap64 ((i : Int) + 1) = ((i + 1 : Nat) : Int) := by unfold wrap64; omega
theorem ev_indexI (l : List Int) (hl : l.length ≤ 9223372036854775807) (x : Int) : Ev (fun k => slices_Index_int_int.f k l x) (Gen.fIdx (fun y => y == x) l) := by
 unfold slices_Index_int_int.f
 have key := Gen.ev_run (fun k (_ : Unit) i => slices_Index_int_int.l0 k l x (l.length : Int) i) l.length (fun i _ => if (l.getD i 0 == x) = true then (.inl (i : Int)) else .inr ()) (fun _ => -1) (fun _ _ => True)
  (by
   intro i s b hi _ h
   obtain ⟨hh, rfl⟩ := Gen.inl_of h
   refine Gen.Ev.eq_now fun k => ?_
   simp only [slices_Index_int_int.l0]
   rw [if_pos (by omega), if_pos (by omega), if_pos (by omega), rdI_, if_pos (beq_iff_eq.1 hh).symm])
  (by
   intro i s s' r hi _ h
   obtain ⟨hh, _⟩ := Gen.inr_of h
   refine ⟨trivial, fun he => Ev.congr (fun k => ?_) he⟩
   simp only [slices_Index_int_int.l0]
   rw [if_pos (by omega), if_pos (by omega), if_pos (by omega), rdI_, if_neg (fun e => beq_eq_false_iff_ne.1 hh e.symm), wrapI_ i l.length hi hl])
  (by
   intro s _
   refine Gen.Ev.eq_now fun k => ?_
   simp only [slices_Index_int_int.l0]
   rw [if_neg (by omega)])
  l.length 0 () (by omega) trivial
 have hr : Gen.run (fun i (_ : Unit) => if (l.getD i 0 == x) = true then (.inl (i : Int)) else .inr ()) (fun _ => (-1 : Int)) l.length 0 () = Gen.fIdx (fun y => y == x) l :=
  Gen.run_inv (n := l.length) (fun i _ => ∀ j, j < i → (l.getD j 0 == x) = false) (fun b => b = Gen.fIdx (fun y => y == x) l)
   (fun i s b hi hs h => by obtain ⟨hh, rfl⟩ := Gen.inl_of h; exact (Gen.fIdx_hit (fun y => y == x) l 0 i hi hh hs).symm)
   (fun i s s' hi hs h => by
    obtain ⟨hh, _⟩ := Gen.inr_of h
    intro j hj
    by_cases e : j = i
    ·
     rw [e]; exact hh
    ·
     exact hs j (by omega))
   (fun s hs => (Gen.fIdx_miss (fun y => y == x) l 0 hs).symm) l.length 0 () (by omega) (fun j hj => absurd hj (Nat.not_lt_zero _))
 rw [hr] at key
 exact key
theorem any_mem (l : List Int) (x : Int) : l.any (fun y => y == x) = decide (x ∈ l) := by
 rw [Bool.eq_iff_iff, List.any_eq_true, decide_eq_true_eq]
 constructor
 ·
  rintro ⟨y, hy, h⟩; rw [← beq_iff_eq.1 h]; exact hy
 ·
  intro h; exact ⟨x, h, beq_iff_eq.2 rfl⟩
theorem ev_containsI (l : List Int) (hl : l.length ≤ 9223372036854775807) (x : Int) : Ev (fun k => slices_Contains_int_int.f k l x) (decide (x ∈ l)) := by
 unfold slices_Contains_int_int.f
 rw [← any_mem, ← Gen.fIdx_nonneg]
 exact Ev.bind (f := fun k t => _) (ev_indexI l hl x) (Ev.now _)
def impl_stormDistance.f (a0_0 : Int) (a0_1 : Int) (a0_2 : Int) (a0_3 : Int) (a1_0 : Int) (a1_1 : Int) (a1_2 : Int) (a1_3 : Int) : Option (Int) := (impl_absOf.f (wrap64 (a0_0 - a1_0))).bind fun t527 => ((impl_absOf.f (wrap64 (a0_1 - a1_1))).bind fun t528 => (some (wrap64 (t527 + t528))))
set_option maxHeartbeats 8000000 in
set_option maxRecDepth 100000 in
theorem impl_stormDistance.calls (a0_0 : Int) (a0_1 : Int) (a0_2 : Int) (a0_3 : Int) (a1_0 : Int) (a1_1 : Int) (a1_2 : Int) (a1_3 : Int) (r : Int) (w : World) (h : impl_stormDistance.f a0_0 a0_1 a0_2 a0_3 a1_0 a1_1 a1_2 a1_3 = some r) :
  Calls Try.prog 50 #[.agg #[.int .i64 a0_0, .int .i64 a0_1, .int .i64 a0_2, .int .i64 a0_3], .agg #[.int .i64 a1_0, .int .i64 a1_1, .int .i64 a1_2, .int .i64 a1_3]] w fun e w' => e = .returned (.int .i64 r) ∧ Below w.heap.size w w' := by
 have hu49 := Try.underlying49
 have HB := Aside0.mk (Below.refl w.heap.size w)
 have H : ((impl_absOf.f (wrap64 (a0_0 - a1_0))).bind fun t527 => ((impl_absOf.f (wrap64 (a0_1 - a1_1))).bind fun t528 => (some (wrap64 (t527 + t528))))) = some r := h
 clear h
 replace H := Option.bind_eq_some_iff.mp H
 obtain ⟨t527, A30, H⟩ := H
 replace H : ((impl_absOf.f (wrap64 (a0_1 - a1_1))).bind fun t528 => (some (wrap64 (t527 + t528)))) = some r := H
 have A3 := Aside0.mk A30
 clear A30
 replace H := Option.bind_eq_some_iff.mp H
 obtain ⟨t528, A40, H⟩ := H
 replace H : (some (wrap64 (t527 + t528))) = some r := H
 have A4 := Aside0.mk A40
 clear A40
 obtain rfl := Option.some.inj H
 go_enter Try.func50, Try.ntmps50
 go_wp2_with (first | ((with_reducible refine gate_dst (N := 2) rfl ?_); refine box_event ?hg (N := 2) ?hd (cs := #[.int .i64 a0_0, .int .i64 a0_1, .int .i64 a0_2, .int .i64 a0_3]) (t := 49) ?hr ?_; (case hd => rfl); (case hg => rfl); (case hr => exact zqS); intro gb525 hg w5 hbox hb; have BK525 := Aside0.mk (hbox); have GW525 := Aside0.mk ((by rw [hg]; exact (below_size zq0) : w.heap.size ≤ gb525)); replace HB := Aside0.mk (below_step zq0 hb); have GE525 := GW525; clear hb hbox hg) | ((with_reducible refine gate_dst (N := 3) rfl ?_); refine box_event ?hg (N := 3) ?hd (cs := #[.int .i64 a1_0, .int .i64 a1_1, .int .i64 a1_2, .int .i64 a1_3]) (t := 49) ?hr ?_; (case hd => rfl); (case hg => rfl); (case hr => exact zqS); intro gb526 hg w6 hbox hb; have BK526 := Aside0.mk (hbox); have GW526 := Aside0.mk ((by rw [hg]; exact (below_size zq25) : w.heap.size ≤ gb526)); replace HB := Aside0.mk (below_step zq25 hb); have GE526 := GW526; have NB525_526 := Aside0.mk ((by rw [hg]; exact Nat.ne_of_lt (blk_lt (g := gb525) (o := .cells #[.int .i64 a0_0, .int .i64 a0_1, .int .i64 a0_2, .int .i64 a0_3] 49 (0, 0)) (zqK BK525.out)) : gb525 ≠ gb526)); have NB526_525 := Aside0.mk ((by rw [hg]; exact Nat.ne_of_gt (blk_lt (g := gb525) (o := .cells #[.int .i64 a0_0, .int .i64 a0_1, .int .i64 a0_2, .int .i64 a0_3] 49 (0, 0)) (zqK BK525.out)) : gb526 ≠ gb525)); replace BK525 := Aside0.mk (blk_below (g := gb525) (o := .cells #[.int .i64 a0_0, .int .i64 a0_1, .int .i64 a0_2, .int .i64 a0_3] 49 (0, 0)) (zqK BK525.out) hb); clear hb hbox hg; have hnb7 := NB525_526.out; have hnc7 := NB526_525.out; have hcz8_0 := bz BK525.out 0 (.int .i64 a0_0); have hcz8_1 := bz BK525.out 1 (.int .i64 a0_1); have hcz8_2 := bz BK525.out 2 (.int .i64 a0_2); have hcz8_3 := bz BK525.out 3 (.int .i64 a0_3); have hfz8_0 := blk_frozen BK525.out 0; have hfz8_1 := blk_frozen BK525.out 1; have hfz8_2 := blk_frozen BK525.out 2; have hfz8_3 := blk_frozen BK525.out 3; have hcz9_0 := bz BK526.out 0 (.int .i64 a1_0); have hcz9_1 := bz BK526.out 1 (.int .i64 a1_1); have hcz9_2 := bz BK526.out 2 (.int .i64 a1_2); have hcz9_3 := bz BK526.out 3 (.int .i64 a1_3); have hfz9_0 := blk_frozen BK526.out 0; have hfz9_1 := blk_frozen BK526.out 1; have hfz9_2 := blk_frozen BK526.out 2; have hfz9_3 := blk_frozen BK526.out 3) | (go_at_call 80; (with_reducible refine (impl_absOf.calls (wrap64 (a0_0 - a1_0)) t527 _ A3.out).mono ?_); rintro e w' ⟨rfl, ⟨nd, rfl⟩⟩; (try first | exact ⟨rfl, _, World.drewN_drewN _ _ _⟩ | exact ⟨rfl, _, Eq.trans (World.drewN_drewN _ _ _) (congrArg (World.drewN _) (Nat.add_assoc _ _ _))⟩)) | (go_at_call 80; (with_reducible refine (impl_absOf.calls (wrap64 (a0_1 - a1_1)) t528 _ A4.out).mono ?_); rintro e w' ⟨rfl, ⟨nd, rfl⟩⟩; (try first | exact ⟨rfl, _, World.drewN_drewN _ _ _⟩ | exact ⟨rfl, _, Eq.trans (World.drewN_drewN _ _ _) (congrArg (World.drewN _) (Nat.add_assoc _ _ _))⟩)))
 repeat (go_quiet (first | ((with_reducible refine gate_dst (N := 2) rfl ?_); refine box_event ?hg (N := 2) ?hd (cs := #[.int .i64 a0_0, .int .i64 a0_1, .int .i64 a0_2, .int .i64 a0_3]) (t := 49) ?hr ?_; (case hd => rfl); (case hg => rfl); (case hr => exact zqS); intro gb525 hg w5 hbox hb; have BK525 := Aside0.mk (hbox); have GW525 := Aside0.mk ((by rw [hg]; exact (below_size zq0) : w.heap.size ≤ gb525)); replace HB := Aside0.mk (below_step zq0 hb); have GE525 := GW525; clear hb hbox hg) | ((with_reducible refine gate_dst (N := 3) rfl ?_); refine box_event ?hg (N := 3) ?hd (cs := #[.int .i64 a1_0, .int .i64 a1_1, .int .i64 a1_2, .int .i64 a1_3]) (t := 49) ?hr ?_; (case hd => rfl); (case hg => rfl); (case hr => exact zqS); intro gb526 hg w6 hbox hb; have BK526 := Aside0.mk (hbox); have GW526 := Aside0.mk ((by rw [hg]; exact (below_size zq25) : w.heap.size ≤ gb526)); replace HB := Aside0.mk (below_step zq25 hb); have GE526 := GW526; have NB525_526 := Aside0.mk ((by rw [hg]; exact Nat.ne_of_lt (blk_lt (g := gb525) (o := .cells #[.int .i64 a0_0, .int .i64 a0_1, .int .i64 a0_2, .int .i64 a0_3] 49 (0, 0)) (zqK BK525.out)) : gb525 ≠ gb526)); have NB526_525 := Aside0.mk ((by rw [hg]; exact Nat.ne_of_gt (blk_lt (g := gb525) (o := .cells #[.int .i64 a0_0, .int .i64 a0_1, .int .i64 a0_2, .int .i64 a0_3] 49 (0, 0)) (zqK BK525.out)) : gb526 ≠ gb525)); replace BK525 := Aside0.mk (blk_below (g := gb525) (o := .cells #[.int .i64 a0_0, .int .i64 a0_1, .int .i64 a0_2, .int .i64 a0_3] 49 (0, 0)) (zqK BK525.out) hb); clear hb hbox hg; have hnb7 := NB525_526.out; have hnc7 := NB526_525.out; have hcz8_0 := bz BK525.out 0 (.int .i64 a0_0); have hcz8_1 := bz BK525.out 1 (.int .i64 a0_1); have hcz8_2 := bz BK525.out 2 (.int .i64 a0_2); have hcz8_3 := bz BK525.out 3 (.int .i64 a0_3); have hfz8_0 := blk_frozen BK525.out 0; have hfz8_1 := blk_frozen BK525.out 1; have hfz8_2 := blk_frozen BK525.out 2; have hfz8_3 := blk_frozen BK525.out 3; have hcz9_0 := bz BK526.out 0 (.int .i64 a1_0); have hcz9_1 := bz BK526.out 1 (.int .i64 a1_1); have hcz9_2 := bz BK526.out 2 (.int .i64 a1_2); have hcz9_3 := bz BK526.out 3 (.int .i64 a1_3); have hfz9_0 := blk_frozen BK526.out 0; have hfz9_1 := blk_frozen BK526.out 1; have hfz9_2 := blk_frozen BK526.out 2; have hfz9_3 := blk_frozen BK526.out 3) | (go_at_call 80; (with_reducible refine (impl_absOf.calls (wrap64 (a0_0 - a1_0)) t527 _ A3.out).mono ?_); rintro e w' ⟨rfl, ⟨nd, rfl⟩⟩; (try first | exact ⟨rfl, _, World.drewN_drewN _ _ _⟩ | exact ⟨rfl, _, Eq.trans (World.drewN_drewN _ _ _) (congrArg (World.drewN _) (Nat.add_assoc _ _ _))⟩)) | (go_at_call 80; (with_reducible refine (impl_absOf.calls (wrap64 (a0_1 - a1_1)) t528 _ A4.out).mono ?_); rintro e w' ⟨rfl, ⟨nd, rfl⟩⟩; (try first | exact ⟨rfl, _, World.drewN_drewN _ _ _⟩ | exact ⟨rfl, _, Eq.trans (World.drewN_drewN _ _ _) (congrArg (World.drewN _) (Nat.add_assoc _ _ _))⟩))); try go_wp2_with (first | ((with_reducible refine gate_dst (N := 2) rfl ?_); refine box_event ?hg (N := 2) ?hd (cs := #[.int .i64 a0_0, .int .i64 a0_1, .int .i64 a0_2, .int .i64 a0_3]) (t := 49) ?hr ?_; (case hd => rfl); (case hg => rfl); (case hr => exact zqS); intro gb525 hg w5 hbox hb; have BK525 := Aside0.mk (hbox); have GW525 := Aside0.mk ((by rw [hg]; exact (below_size zq0) : w.heap.size ≤ gb525)); replace HB := Aside0.mk (below_step zq0 hb); have GE525 := GW525; clear hb hbox hg) | ((with_reducible refine gate_dst (N := 3) rfl ?_); refine box_event ?hg (N := 3) ?hd (cs := #[.int .i64 a1_0, .int .i64 a1_1, .int .i64 a1_2, .int .i64 a1_3]) (t := 49) ?hr ?_; (case hd => rfl); (case hg => rfl); (case hr => exact zqS); intro gb526 hg w6 hbox hb; have BK526 := Aside0.mk (hbox); have GW526 := Aside0.mk ((by rw [hg]; exact (below_size zq25) : w.heap.size ≤ gb526)); replace HB := Aside0.mk (below_step zq25 hb); have GE526 := GW526; have NB525_526 := Aside0.mk ((by rw [hg]; exact Nat.ne_of_lt (blk_lt (g := gb525) (o := .cells #[.int .i64 a0_0, .int .i64 a0_1, .int .i64 a0_2, .int .i64 a0_3] 49 (0, 0)) (zqK BK525.out)) : gb525 ≠ gb526)); have NB526_525 := Aside0.mk ((by rw [hg]; exact Nat.ne_of_gt (blk_lt (g := gb525) (o := .cells #[.int .i64 a0_0, .int .i64 a0_1, .int .i64 a0_2, .int .i64 a0_3] 49 (0, 0)) (zqK BK525.out)) : gb526 ≠ gb525)); replace BK525 := Aside0.mk (blk_below (g := gb525) (o := .cells #[.int .i64 a0_0, .int .i64 a0_1, .int .i64 a0_2, .int .i64 a0_3] 49 (0, 0)) (zqK BK525.out) hb); clear hb hbox hg; have hnb7 := NB525_526.out; have hnc7 := NB526_525.out; have hcz8_0 := bz BK525.out 0 (.int .i64 a0_0); have hcz8_1 := bz BK525.out 1 (.int .i64 a0_1); have hcz8_2 := bz BK525.out 2 (.int .i64 a0_2); have hcz8_3 := bz BK525.out 3 (.int .i64 a0_3); have hfz8_0 := blk_frozen BK525.out 0; have hfz8_1 := blk_frozen BK525.out 1; have hfz8_2 := blk_frozen BK525.out 2; have hfz8_3 := blk_frozen BK525.out 3; have hcz9_0 := bz BK526.out 0 (.int .i64 a1_0); have hcz9_1 := bz BK526.out 1 (.int .i64 a1_1); have hcz9_2 := bz BK526.out 2 (.int .i64 a1_2); have hcz9_3 := bz BK526.out 3 (.int .i64 a1_3); have hfz9_0 := blk_frozen BK526.out 0; have hfz9_1 := blk_frozen BK526.out 1; have hfz9_2 := blk_frozen BK526.out 2; have hfz9_3 := blk_frozen BK526.out 3) | (go_at_call 80; (with_reducible refine (impl_absOf.calls (wrap64 (a0_0 - a1_0)) t527 _ A3.out).mono ?_); rintro e w' ⟨rfl, ⟨nd, rfl⟩⟩; (try first | exact ⟨rfl, _, World.drewN_drewN _ _ _⟩ | exact ⟨rfl, _, Eq.trans (World.drewN_drewN _ _ _) (congrArg (World.drewN _) (Nat.add_assoc _ _ _))⟩)) | (go_at_call 80; (with_reducible refine (impl_absOf.calls (wrap64 (a0_1 - a1_1)) t528 _ A4.out).mono ?_); rintro e w' ⟨rfl, ⟨nd, rfl⟩⟩; (try first | exact ⟨rfl, _, World.drewN_drewN _ _ _⟩ | exact ⟨rfl, _, Eq.trans (World.drewN_drewN _ _ _) (congrArg (World.drewN _) (Nat.add_assoc _ _ _))⟩))))
 go_ret
 exact ⟨zqE, (by repeat (first | (with_reducible first | exact HB.out | apply below_alloc | apply pw_below_drewN | apply below_drew1 | refine below_set ?_ GE525.out | refine below_set ?_ GE526.out) | exact HB.out))⟩
def impl_trackingCost.l0 : Nat → List (S49) → List (S49) → Int → Int → List Int → Int → Int → Option (Int)
 | 0, _, _, _, _, _, _, _ => none
 | k + 1, x0, x1, x3, x9, x19, x20, x21 => if x21 < x20 then (if 0 ≤ x21 then (if x21 < (x19.length : Int) then (if (rd x19 x21) ≥ 0 then (if x21 < (x0.length : Int) then (if 0 ≤ (rd x19 x21) then (if (rd x19 x21) < (x1.length : Int) then ((impl_stormDistance.f ((rd_T49 x0 x21).f0) ((rd_T49 x0 x21).f1) ((rd_T49 x0 x21).f2) ((rd_T49 x0 x21).f3) ((rd_T49 x1 (rd x19 x21)).f0) ((rd_T49 x1 (rd x19 x21)).f1) ((rd_T49 x1 (rd x19 x21)).f2) ((rd_T49 x1 (rd x19 x21)).f3)).bind fun t532 => (impl_trackingCost.l0 k x0 x1 x3 (wrap64 (x9 + (wrap64 (t532 - (wrap64 (2 * x3)))))) x19 x20 (wrap64 (x21 + 1)))) else (none)) else (none)) else (none)) else (impl_trackingCost.l0 k x0 x1 x3 x9 x19 x20 (wrap64 (x21 + 1)))) else (none)) else (none)) else (some x9)
def impl_trackingCost.f (k : Nat) (l0 : List (S49)) (l1 : List (S49)) (l2 : List Int) (a3 : Int) : Option (Int) := impl_trackingCost.l0 k l0 l1 a3 (wrap64 ((wrap64 ((l0.length : Int) + (l1.length : Int))) * a3)) l2 (l2.length : Int) 0
def impl_trackingCost.T6 : Bool × List (List Nat × List Nat) := (true, [([], []), ([], []), ([], []), ([1, 2], [1, 2]), ([3], [3]), ([], []), ([], []), ([5, 6], [5, 6]), ([7], [7]), ([4, 8], [4, 8]), ([], []), ([10], [10]), ([9, 11], [9, 11]), ([0, 12], [0, 12]), ([13, 9, 0, 1, 2, 3, 4, 5, 6, 7, 8, 9, 10, 11, 12, 13], [0, 13])])
def impl_trackingCost.B6 : List Nat := [0, 0, 0, 6, 14, 0, 0, 96, 224, 510, 0, 1024, 4094, 8191, 16383]
theorem impl_trackingCost.tab6 : rtab .any (opsOf Try.f86 6) = impl_trackingCost.T6 := by kernel_rfl
theorem impl_trackingCost.bits6 : waitsOk impl_trackingCost.T6.2 impl_trackingCost.B6 = true := by kernel_rfl
set_option maxHeartbeats 8000000 in
set_option maxRecDepth 100000 in
theorem impl_trackingCost.calls (k : Nat) (A0 : Option Addr) (c0 : Nat) (l0 : List (S49)) (A1 : Option Addr) (c1 : Nat) (l1 : List (S49)) (A2 : Option Addr) (c2 : Nat) (l2 : List Int) (a3 : Int) (r : Int) (w : World) (hr0 : Kd.C k49 w A0 l0.length l0) (hc0 : l0.length ≤ c0) (hr1 : Kd.C k49 w A1 l1.length l1) (hc1 : l1.length ≤ c1) (hr2 : Kd.C (Kd.int .i64) w A2 l2.length l2) (hc2 : l2.length ≤ c2) (h : impl_trackingCost.f k l0 l1 l2 a3 = some r) :
  Calls Try.prog 86 #[.slice A0 l0.length c0, .slice A1 l1.length c1, .slice A2 l2.length c2, .int .i64 a3] w fun e w' => e = .returned (.int .i64 r) ∧ Below w.heap.size w w' := by
 have hu49 := Try.underlying49
 have HR0 := Aside0.mk hr0
 have HC0 := Aside0.mk hc0
 clear hr0 hc0
 have HR1 := Aside0.mk hr1
 have HC1 := Aside0.mk hc1
 clear hr1 hc1
 have HR2 := Aside0.mk hr2
 have HC2 := Aside0.mk hc2
 clear hr2 hc2
 have HB := Aside0.mk (Below.refl w.heap.size w)
 have H : (impl_trackingCost.l0 k l0 l1 a3 (wrap64 ((wrap64 ((l0.length : Int) + (l1.length : Int))) * a3)) l2 (l2.length : Int) 0) = some r := h
 clear h
 have H' := Aside0.mk H
 clear H
 go_enter Try.func86, Try.ntmps86
 go_wp2
 go_loopg [9, 21] k (fun kq v9 v21 w' => ∃ (x9_1 : Int) (x21_1 : Int), v9 = .int .i64 x9_1 ∧ v21 = .int .i64 x21_1 ∧ Aside0 (impl_trackingCost.l0 kq l0 l1 a3 x9_1 l2 (l2.length : Int) x21_1 = some r) ∧ Aside0 (kq ≤ k) ∧ Aside0 (Below w.heap.size w w'))
 case atStart => exact ⟨(wrap64 ((wrap64 ((l0.length : Int) + (l1.length : Int))) * a3)), (0), (by first | rfl | (simp; done) | (simp [*]; done)), (by first | rfl | (simp; done) | (simp [*]; done)), H', ⟨Nat.le_refl _⟩, ⟨zq0⟩⟩
 clear H'
 try clear c1
 try clear c2
 try clear p2
 obtain ⟨x9_1, x21_1, rfl, rfl, HA, HK1, HB⟩ := hrel
 cases gk with
 | zero => exact absurd HA.out (by simp [impl_trackingCost.l0])
 | succ k1 =>
  have H := HA.out
  clear HA
  simp only [impl_trackingCost.l0] at H
  by_cases c5 : x21_1 < (l2.length : Int)
  case neg =>
   rw [if_neg c5] at H
   have c5b0 : decide (x21_1 < (l2.length : Int)) = false := decide_eq_false c5
   clear c5
   obtain rfl := Option.some.inj H
   go_wp2
   go_ret
   exact ⟨zqE, zq0⟩
  rw [if_pos c5] at H
  have c5b0 : decide (x21_1 < (l2.length : Int)) = true := decide_eq_true c5
  clear c5
  by_cases c6 : 0 ≤ x21_1
  case neg =>
   rw [if_neg c6] at H
   exact absurd H (by simp)
  rw [if_pos c6] at H
  have c6b0 : decide (0 ≤ x21_1) = true := decide_eq_true c6
  clear c6
  by_cases c7 : x21_1 < (l2.length : Int)
  case neg =>
   rw [if_neg c7] at H
   exact absurd H (by simp)
  rw [if_pos c7] at H
  have c7b0 : decide (x21_1 < (l2.length : Int)) = true := decide_eq_true c7
  clear c7
  by_cases c8 : (rd l2 x21_1) ≥ 0
  case neg =>
   rw [if_neg c8] at H
   have c8b0 : decide (0 ≤ (rd l2 x21_1)) = false := decide_eq_false c8
   clear c8
   have H' := Aside0.mk H
   clear H
   have p529 : 0 ≤ (x21_1 : Int) := of_decide_eq_true zq2
   have q529 : x21_1 < (l2.length : Int) := of_decide_eq_true zq2
   obtain ⟨ad529, e529, hx529_0⟩ := Kd.at_int HR2.out x21_1 p529 q529
   cases e529
   replace hx529_0 := bx HB.out hx529_0
   replace p529 := eq_true p529
   replace q529 := eq_true q529
   go_wp2
   go_roundg k1
   case measure => have := HK1.out; omega
   case rel => exact ⟨(x9_1), (wrap64 (x21_1 + 1)), (by first | rfl | (simp; done) | (simp [*]; done)), (by first | rfl | (simp; done) | (simp [*]; done)), H', ⟨by have := HK1.out; omega⟩, ⟨zq0⟩⟩
  rw [if_pos c8] at H
  have c8b0 : decide (0 ≤ (rd l2 x21_1)) = true := decide_eq_true c8
  clear c8
  by_cases c9 : x21_1 < (l0.length : Int)
  case neg =>
   rw [if_neg c9] at H
   exact absurd H (by simp)
  rw [if_pos c9] at H
  have c9b0 : decide (x21_1 < (l0.length : Int)) = true := decide_eq_true c9
  clear c9
  by_cases c10 : 0 ≤ (rd l2 x21_1)
  case neg =>
   rw [if_neg c10] at H
   exact absurd H (by simp)
  rw [if_pos c10] at H
  have c10b0 : decide (0 ≤ (rd l2 x21_1)) = true := decide_eq_true c10
  clear c10
  by_cases c11 : (rd l2 x21_1) < (l1.length : Int)
  case neg =>
   rw [if_neg c11] at H
   exact absurd H (by simp)
  rw [if_pos c11] at H
  have c11b0 : decide ((rd l2 x21_1) < (l1.length : Int)) = true := decide_eq_true c11
  clear c11
  replace H := Option.bind_eq_some_iff.mp H
  obtain ⟨t532, A120, H⟩ := H
  replace H : (impl_trackingCost.l0 k1 l0 l1 a3 (wrap64 (x9_1 + (wrap64 (t532 - (wrap64 (2 * a3)))))) l2 (l2.length : Int) (wrap64 (x21_1 + 1))) = some r := H
  have A12 := Aside0.mk A120
  clear A120
  have H' := Aside0.mk H
  clear H
  have p529 : 0 ≤ (x21_1 : Int) := of_decide_eq_true zq2
  have q529 : x21_1 < (l2.length : Int) := of_decide_eq_true zq2
  obtain ⟨ad529, e529, hx529_0⟩ := Kd.at_int HR2.out x21_1 p529 q529
  cases e529
  replace hx529_0 := bx HB.out hx529_0
  replace p529 := eq_true p529
  replace q529 := eq_true q529
  try go_wp2
  have n0_ := Aside0.mk (below_drew1 HB.out)
  clear HB
  have HB := n0_
  clear n0_
  have p530 : 0 ≤ (x21_1 : Int) := of_decide_eq_true zq2
  have q530 : x21_1 < (l0.length : Int) := of_decide_eq_true zq2
  obtain ⟨ad530, e530, hx530_0, hx530_1, hx530_2, hx530_3⟩ := at_T49 HR0.out x21_1 p530 q530
  have hw530_3 := hx530_3
  have hw530_2 := hx530_2
  have hw530_1 := hx530_1
  have hw530_0 := hx530_0
  cases e530
  replace hx530_0 := bx HB.out hx530_0
  replace hx530_1 := bx HB.out hx530_1
  replace hx530_2 := bx HB.out hx530_2
  replace hx530_3 := bx HB.out hx530_3
  replace p530 := eq_true p530
  replace q530 := eq_true q530
  have p531 : 0 ≤ ((rd l2 x21_1) : Int) := of_decide_eq_true zq2
  have q531 : (rd l2 x21_1) < (l1.length : Int) := of_decide_eq_true zq2
  obtain ⟨ad531, e531, hx531_0, hx531_1, hx531_2, hx531_3⟩ := at_T49 HR1.out (rd l2 x21_1) p531 q531
  have hw531_3 := hx531_3
  have hw531_2 := hx531_2
  have hw531_1 := hx531_1
  have hw531_0 := hx531_0
  cases e531
  replace hx531_0 := bx HB.out hx531_0
  replace hx531_1 := bx HB.out hx531_1
  replace hx531_2 := bx HB.out hx531_2
  replace hx531_3 := bx HB.out hx531_3
  replace p531 := eq_true p531
  replace q531 := eq_true q531
  refine start_ (n := 15) (S := fun w' => w'.cell? (ad530.add ((x21_1).toNat * 4)) = some (.int .i64 ((rd_T49 l0 x21_1).f0)) ∧ w'.cell? ⟨(ad530.add ((x21_1).toNat * 4)).block, (ad530.add ((x21_1).toNat * 4)).off + 1, none⟩ = some (.int .i64 ((rd_T49 l0 x21_1).f1)) ∧ w'.cell? ⟨(ad530.add ((x21_1).toNat * 4)).block, (ad530.add ((x21_1).toNat * 4)).off + 2, none⟩ = some (.int .i64 ((rd_T49 l0 x21_1).f2)) ∧ w'.cell? ⟨(ad530.add ((x21_1).toNat * 4)).block, (ad530.add ((x21_1).toNat * 4)).off + 3, none⟩ = some (.int .i64 ((rd_T49 l0 x21_1).f3)) ∧ w'.cell? (ad531.add (((rd l2 x21_1)).toNat * 4)) = some (.int .i64 ((rd_T49 l1 (rd l2 x21_1)).f0)) ∧ w'.cell? ⟨(ad531.add (((rd l2 x21_1)).toNat * 4)).block, (ad531.add (((rd l2 x21_1)).toNat * 4)).off + 1, none⟩ = some (.int .i64 ((rd_T49 l1 (rd l2 x21_1)).f1)) ∧ w'.cell? ⟨(ad531.add (((rd l2 x21_1)).toNat * 4)).block, (ad531.add (((rd l2 x21_1)).toNat * 4)).off + 2, none⟩ = some (.int .i64 ((rd_T49 l1 (rd l2 x21_1)).f2)) ∧ w'.cell? ⟨(ad531.add (((rd l2 x21_1)).toNat * 4)).block, (ad531.add (((rd l2 x21_1)).toNat * 4)).off + 3, none⟩ = some (.int .i64 ((rd_T49 l1 (rd l2 x21_1)).f3))) (ds := []) #[false, false, false, false, false, false, false, false, false, false, false, false, false, false, false] (by kernel_rfl) rfl rfl ⟨((HB.out.cell (World.block_lt_of_cell? w _ hw530_0)).trans hw530_0), ((HB.out.cell (World.block_lt_of_cell? w _ hw530_1)).trans hw530_1), ((HB.out.cell (World.block_lt_of_cell? w _ hw530_2)).trans hw530_2), ((HB.out.cell (World.block_lt_of_cell? w _ hw530_3)).trans hw530_3), ((HB.out.cell (World.block_lt_of_cell? w _ hw531_0)).trans hw531_0), ((HB.out.cell (World.block_lt_of_cell? w _ hw531_1)).trans hw531_1), ((HB.out.cell (World.block_lt_of_cell? w _ hw531_2)).trans hw531_2), ((HB.out.cell (World.block_lt_of_cell? w _ hw531_3)).trans hw531_3)⟩ (fun hHeld => ?_); refine with_tabW impl_trackingCost.tab6 impl_trackingCost.bits6 (fun HT_ HW_ => ?_)
  generalize wr.drew = w13 at HB hx530_0 hx530_1 hx530_2 hx530_3 hx531_0 hx531_1 hx531_2 hx531_3 hHeld ⊢
  refine zP 0 (some 28) #[zt, zf, zf, zf, zf, zf, zf, zf, zf, zf, zf, zf, zf, zf, zf] ?_ rfl rfl HT_ (Or.inl ⟨by rfl, ?_⟩) ?_ ?_ ?_
  rotate_left; · exact zqB
  rotate_left; · exact zqA
  refine zP 1 (some 29) #[zt, zt, zf, zf, zf, zf, zf, zf, zf, zf, zf, zf, zf, zf, zf] ?_ rfl rfl HT_ (Or.inl ⟨by rfl, ?_⟩) ?_ ?_ ?_
  rotate_left; · exact zqB
  rotate_left; · exact zqA
  refine zP 2 (some 30) #[zt, zt, zt, zf, zf, zf, zf, zf, zf, zf, zf, zf, zf, zf, zf] ?_ rfl rfl HT_ (Or.inl ⟨by rfl, ?_⟩) ?_ ?_ ?_
  rotate_left; · exact zqB
  rotate_left; · exact zqA
  refine zP 3 (some 31) #[zt, zt, zt, zt, zf, zf, zf, zf, zf, zf, zf, zf, zf, zf, zf] ?_ rfl rfl HT_ (Or.inl ⟨by rfl, ?_⟩) ?_ ?_ ?_
  rotate_left; · exact zqB
  rotate_left; · exact zqA
  refine zP 5 (some 33) #[zt, zt, zt, zt, zf, zt, zf, zf, zf, zf, zf, zf, zf, zf, zf] ?_ rfl rfl HT_ (Or.inl ⟨by rfl, ?_⟩) ?_ ?_ ?_
  rotate_left; · exact zqB
  rotate_left; · exact zqA
  refine zP 6 (some 34) #[zt, zt, zt, zt, zf, zt, zt, zf, zf, zf, zf, zf, zf, zf, zf] ?_ rfl rfl HT_ (Or.inl ⟨by rfl, ?_⟩) ?_ ?_ ?_
  rotate_left; · exact zqB
  rotate_left; · exact zqA
  refine zP 7 (some 35) #[zt, zt, zt, zt, zf, zt, zt, zt, zf, zf, zf, zf, zf, zf, zf] ?_ rfl rfl HT_ (Or.inl ⟨by rfl, ?_⟩) ?_ ?_ ?_
  rotate_left; · exact zqB
  rotate_left; · exact zqA
  refine zP 10 (some 38) #[zt, zt, zt, zt, zf, zt, zt, zt, zf, zf, zt, zf, zf, zf, zf] ?_ rfl rfl HT_ (Or.inl ⟨by rfl, ?_⟩) ?_ ?_ ?_
  rotate_left; · exact zqB
  rotate_left; · exact zqA
  refine zP 11 (some 39) #[zt, zt, zt, zt, zf, zt, zt, zt, zf, zf, zt, zt, zf, zf, zf] ?_ rfl rfl HT_ (Or.inl ⟨by rfl, ?_⟩) ?_ ?_ ?_
  rotate_left; · exact zqB
  rotate_left; · exact zqA
  refine zT 4 (some 32) #[zt, zt, zt, zt, zt, zt, zt, zt, zf, zf, zt, zt, zf, zf, zf] ?_ rfl rfl HT_ HW_ (Or.inl ⟨by rfl, ?_⟩) hHeld ?_ ?_ ?_
  rotate_left
  ·
   rintro w' ⟨s0, s1, s2, s3, s4, s5, s6, s7⟩
   go_simp
   with_reducible rfl
  rotate_left; · exact zqA
  refine zT 8 (some 36) #[zt, zt, zt, zt, zt, zt, zt, zt, zt, zf, zt, zt, zf, zf, zf] ?_ rfl rfl HT_ HW_ (Or.inl ⟨by rfl, ?_⟩) hHeld ?_ ?_ ?_
  rotate_left
  ·
   rintro w' ⟨s0, s1, s2, s3, s4, s5, s6, s7⟩
   go_simp
   with_reducible rfl
  rotate_left; · exact zqA
  refine one_ (i := 9) (N := some 37) #[zt, zt, zt, zt, zt, zt, zt, zt, zt, zt, zt, zt, zf, zf, zf] rfl rfl (one_of HT_.out (by kernel_rfl)) (by decide) (fun K hK => ?_)
  refine goes_ Try.func50 (by kernel_rfl) rfl #[.agg #[.int .i64 ((rd_T49 l0 x21_1).f0), .int .i64 ((rd_T49 l0 x21_1).f1), .int .i64 ((rd_T49 l0 x21_1).f2), .int .i64 ((rd_T49 l0 x21_1).f3)], .agg #[.int .i64 ((rd_T49 l1 (rd l2 x21_1)).f0), .int .i64 ((rd_T49 l1 (rd l2 x21_1)).f1), .int .i64 ((rd_T49 l1 (rd l2 x21_1)).f2), .int .i64 ((rd_T49 l1 (rd l2 x21_1)).f3)]] (by rfl) rfl rfl zq1 ?_
  with_reducible refine (impl_stormDistance.calls ((rd_T49 l0 x21_1).f0) ((rd_T49 l0 x21_1).f1) ((rd_T49 l0 x21_1).f2) ((rd_T49 l0 x21_1).f3) ((rd_T49 l1 (rd l2 x21_1)).f0) ((rd_T49 l1 (rd l2 x21_1)).f1) ((rd_T49 l1 (rd l2 x21_1)).f2) ((rd_T49 l1 (rd l2 x21_1)).f3) t532 _ A12.out).mono ?_
  rintro e w14 ⟨rfl, hb⟩
  refine ⟨_, rfl, ?_⟩
  have n0_ := Aside0.mk (below_step zq0 hb)
  clear HB
  have HB := n0_
  clear n0_
  (try clear hb)
  (try clear hb2)
  (try clear hk)
  (try clear hi)
  refine hK.out _ _ ⟨((HB.out.cell (World.block_lt_of_cell? w _ hw530_0)).trans hw530_0), ((HB.out.cell (World.block_lt_of_cell? w _ hw530_1)).trans hw530_1), ((HB.out.cell (World.block_lt_of_cell? w _ hw530_2)).trans hw530_2), ((HB.out.cell (World.block_lt_of_cell? w _ hw530_3)).trans hw530_3), ((HB.out.cell (World.block_lt_of_cell? w _ hw531_0)).trans hw531_0), ((HB.out.cell (World.block_lt_of_cell? w _ hw531_1)).trans hw531_1), ((HB.out.cell (World.block_lt_of_cell? w _ hw531_2)).trans hw531_2), ((HB.out.cell (World.block_lt_of_cell? w _ hw531_3)).trans hw531_3)⟩ (fun hHeld => ?_)
  clear hK K
  refine norm_ (a' := ?_) ?_ ?_
  rotate_left
  ·
   show Act.put _ (some 37) _ = _
   simp only [Act.put, List.setIfInBounds_toArray, List.set_cons_zero, List.set_cons_succ, i64_w, i32_w]
   rfl
  refine zP 12 (some 40) #[zt, zt, zt, zt, zt, zt, zt, zt, zt, zt, zt, zt, zt, zf, zf] ?_ rfl rfl HT_ (Or.inl ⟨by rfl, ?_⟩) ?_ ?_ ?_
  rotate_left; · exact zqB
  rotate_left; · exact zqA
  refine zP 13 (some 41) #[zt, zt, zt, zt, zt, zt, zt, zt, zt, zt, zt, zt, zt, zt, zf] ?_ rfl rfl HT_ (Or.inl ⟨by rfl, ?_⟩) ?_ ?_ ?_
  rotate_left; · exact zqB
  rotate_left; · exact zqA
  refine zP 14 (some 9) #[zt, zt, zt, zt, zt, zt, zt, zt, zt, zt, zt, zt, zt, zt, zt] ?_ rfl rfl HT_ (Or.inl ⟨by rfl, ?_⟩) ?_ ?_ ?_
  rotate_left; · exact zqB
  rotate_left; · exact zqA
  refine done_ (done_of HT_.out (by kernel_rfl)) ?_
  try go_wp2
  go_roundg k1
  case measure => have := HK1.out; omega
  case rel => exact ⟨(wrap64 (x9_1 + (wrap64 (t532 - (wrap64 (2 * a3)))))), (wrap64 (x21_1 + 1)), (by first | rfl | (simp; done) | (simp [*]; done)), (by first | rfl | (simp; done) | (simp [*]; done)), H', ⟨by have := HK1.out; omega⟩, ⟨zq0⟩⟩
end Go.Proofs.Ytpdeapefekbdpaa.Q
