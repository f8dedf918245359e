-- Printed by a program of this session (wip/tools/seatprint.py) that runs over the kit's print.
import Derived.Test.YthmkgdlmegohoaaQ0
namespace Go.Proofs.Ythmkgdlmegohoaa.Q
open Go.RowKit Go.Proofs.YthmkgdlmegohoaaW.PrintWords Go.Proofs.YthmkgdlmegohoaaW.PrintLast Go.Proofs.YthmkgdlmegohoaaW.PrintMore
attribute [local go_sem] max2_int min2_int max_two min_two max_three min_three max_four min_four   -- for this text's walks alone
set_option linter.unusedVariables false
set_option linter.unusedSimpArgs false

/-! ### impl_timeline: function 78 -/
def impl_timeline.l0 : Nat → (Int → Int) →  List (S85) → Int → Option ((List (S85)))
 | 0, _, _, _ => none
 | k + 1, x0, x3, x7 => if x7 < 240 then ((some (x0 x7)).bind fun t656 => (if t656 = 0 then (impl_timeline.l0 k x0 x3 (wrap64 (x7 + 1))) else (if (x3.length : Int) > 0 then (if 0 ≤ (wrap64 ((x3.length : Int) - 1)) then (if (wrap64 ((x3.length : Int) - 1)) < (x3.length : Int) then (if ((rd_T85 x3 (wrap64 ((x3.length : Int) - 1))).f1) = x7 then (if ((rd_T85 x3 (wrap64 ((x3.length : Int) - 1))).f2) = t656 then (impl_timeline.l0 k x0 (x3.set ((wrap64 ((x3.length : Int) - 1)) : Int).toNat (⟨(rd_T85 x3 (wrap64 ((x3.length : Int) - 1))).f0, wrap64 (((rd_T85 x3 (wrap64 ((x3.length : Int) - 1))).f1) + 1), (rd_T85 x3 (wrap64 ((x3.length : Int) - 1))).f2⟩ : S85)) (wrap64 (x7 + 1))) else (if x3.length < 5864062014805 then (impl_timeline.l0 k x0 (x3 ++ [(⟨x7, wrap64 (x7 + 1), t656⟩ : S85)]) (wrap64 (x7 + 1))) else (none))) else (if x3.length < 5864062014805 then (impl_timeline.l0 k x0 (x3 ++ [(⟨x7, wrap64 (x7 + 1), t656⟩ : S85)]) (wrap64 (x7 + 1))) else (none))) else (none)) else (none)) else (if x3.length < 5864062014805 then (impl_timeline.l0 k x0 (x3 ++ [(⟨x7, wrap64 (x7 + 1), t656⟩ : S85)]) (wrap64 (x7 + 1))) else (none))))) else (some x3)
def impl_timeline.f (k : Nat) (a0 : Int → Int) : Option ((List (S85))) := impl_timeline.l0 k a0 ([] : List (S85)) 0
theorem impl_timeline.mono_l : ∀ k, (∀ y0 y1 y2, LeO (impl_timeline.l0 k y0 y1 y2) (impl_timeline.l0 (k + 1) y0 y1 y2))
 | 0 => fun _ _ _ r h => by simp [impl_timeline.l0] at h
 | k + 1 => by
  have ih0 := impl_timeline.mono_l k
  ·
   intro y0 y1 y2
   unfold impl_timeline.l0
   repeat' first
   | (with_reducible exact ih0 _ _ _)
   | (with_reducible exact LeO.refl _)
   | (with_reducible exact LeO.none _)
   | (with_reducible refine LeO.ite ?_ ?_)
   | (with_reducible refine LeO.bind ?_ (fun _ => ?_))
   | exact ih0 _ _ _
   | exact LeO.none _
   | refine LeO.ite ?_ ?_
   | refine LeO.bind ?_ (fun _ => ?_)
theorem impl_timeline.mono : ∀ a0 k, LeO (impl_timeline.f k a0) (impl_timeline.f (k + 1) a0) := by
 intro a0 k
 have ih0 := impl_timeline.mono_l k
 unfold impl_timeline.f
 repeat' first
   | (with_reducible exact ih0 _ _ _)
   | (with_reducible exact LeO.refl _)
   | (with_reducible exact LeO.none _)
   | (with_reducible refine LeO.ite ?_ ?_)
   | (with_reducible refine LeO.bind ?_ (fun _ => ?_))
   | exact ih0 _ _ _
   | exact LeO.none _
   | refine LeO.ite ?_ ?_
   | refine LeO.bind ?_ (fun _ => ?_)
set_option maxHeartbeats 8000000 in
set_option maxRecDepth 100000 in
theorem impl_timeline.calls (k : Nat) (g : Nat) (lb : Array Value) (eg : ∀ args w, (callFunc g args).run Try.prog w = .ok (.enter g args) w) (a0 : Int → Int) (r : List (S85)) (w : World) (hp : ∀ (W : World) (h r : Int), Below w.heap.size w W → some (a0 h) = some r → Calls Try.prog g (#[.int .i64 h] ++ lb) W fun e w' => e = .returned (.int .i64 r) ∧ Below W.heap.size W w') (h : impl_timeline.f k a0 = some r) :
  Calls Try.prog 78 #[.func (.func g) #[] lb] w fun e w' => ∃ v0_ : Value, e = .returned (v0_) ∧ Kd.R k85 85 w' w.heap.size (fun _ => True) v0_ r ∧ Below w.heap.size w w' := by
 have HP := Aside0.mk hp
 clear hp
 have hu85 := Try.underlying85
 have HB := Aside0.mk (Below.refl w.heap.size w)
 have H : (impl_timeline.l0 k a0 ([] : List (S85)) 0) = some r := h
 clear h
 have H' := Aside0.mk H
 clear H
 go_enter Try.func78, Try.ntmps78
 go_wp2
 go_loopg [3, 7] k (fun kq v3 v7 w' => ∃ (x3_1 : List (S85)) (x7_1 : Int), v7 = .int .i64 x7_1 ∧ Aside0 (impl_timeline.l0 kq a0 x3_1 x7_1 = some r) ∧ Aside0 (kq ≤ k) ∧ Aside0 (Kd.R k85 85 w' w.heap.size (fun _ => True) v3 x3_1) ∧ Aside0 (Below w.heap.size w w'))
 case atStart => exact ⟨(([] : List (S85))), (0), (by first | rfl | (simp; done) | (simp [*]; done)), H', ⟨Nat.le_refl _⟩, ⟨by first | exact Kd.R_nil _ _ _ _ _ | exact Kd.N_nil _ _ _ _ _ | exact Kd.V_nil _ _ _ _ _ | exact Kd.Q_nil _ _ _ _ _ | exact Kd.S_nil _ _ _ _ _⟩, ⟨by repeat (first | (with_reducible first | exact HB.out | apply below_alloc | apply pw_below_drewN | apply below_drew1) | exact HB.out)⟩⟩
 case round =>
  clear H'
  obtain ⟨x3_1, x7_1, rfl, HA, HK1, HO_3, HB⟩ := hrel
  cases gk with
  | zero => exact absurd HA.out (by simp [impl_timeline.l0])
  | succ k1 =>
   have H := HA.out
   clear HA
   simp only [impl_timeline.l0] at H
   by_cases c2 : x7_1 < 240
   ·
    rw [if_pos c2] at H
    have c2b0 : decide (x7_1 < 240) = true := decide_eq_true c2
    clear c2
    replace H := Option.bind_eq_some_iff.mp H
    obtain ⟨t656, A30, H⟩ := H
    replace H : (if t656 = 0 then (impl_timeline.l0 k1 a0 x3_1 (wrap64 (x7_1 + 1))) else (if (x3_1.length : Int) > 0 then (if 0 ≤ (wrap64 ((x3_1.length : Int) - 1)) then (if (wrap64 ((x3_1.length : Int) - 1)) < (x3_1.length : Int) then (if ((rd_T85 x3_1 (wrap64 ((x3_1.length : Int) - 1))).f1) = x7_1 then (if ((rd_T85 x3_1 (wrap64 ((x3_1.length : Int) - 1))).f2) = t656 then (impl_timeline.l0 k1 a0 (x3_1.set ((wrap64 ((x3_1.length : Int) - 1)) : Int).toNat (⟨(rd_T85 x3_1 (wrap64 ((x3_1.length : Int) - 1))).f0, wrap64 (((rd_T85 x3_1 (wrap64 ((x3_1.length : Int) - 1))).f1) + 1), (rd_T85 x3_1 (wrap64 ((x3_1.length : Int) - 1))).f2⟩ : S85)) (wrap64 (x7_1 + 1))) else (if x3_1.length < 5864062014805 then (impl_timeline.l0 k1 a0 (x3_1 ++ [(⟨x7_1, wrap64 (x7_1 + 1), t656⟩ : S85)]) (wrap64 (x7_1 + 1))) else (none))) else (if x3_1.length < 5864062014805 then (impl_timeline.l0 k1 a0 (x3_1 ++ [(⟨x7_1, wrap64 (x7_1 + 1), t656⟩ : S85)]) (wrap64 (x7_1 + 1))) else (none))) else (none)) else (none)) else (if x3_1.length < 5864062014805 then (impl_timeline.l0 k1 a0 (x3_1 ++ [(⟨x7_1, wrap64 (x7_1 + 1), t656⟩ : S85)]) (wrap64 (x7_1 + 1))) else (none)))) = some r := H
    have A3 := Aside0.mk A30
    clear A30
    by_cases c4 : t656 = 0
    ·
     rw [if_pos c4] at H
     have c4b0 : (t656 == 0) = true := beq_iff_eq.mpr c4
     have c4b1 : (t656 != 0) = false := bne_eq_false_iff_eq.mpr c4
     clear c4
     have H' := Aside0.mk H
     clear H
     go_wp2_with (first | (go_at_fn g; refine (HP.out _ x7_1 t656 ?hpb A3.out).mono ?_; (case hpb => repeat (first | (with_reducible first | exact HB.out | apply below_alloc | apply pw_below_drewN | apply below_drew1) | exact HB.out)); rintro e w5 ⟨rfl, hb⟩;  have n0_ := Aside0.mk (Kd.R_below (by (with_reducible repeat (first | apply Kd.R_alloc | apply Kd.R_drewN | apply Kd.R_drew)); exact HO_3.out) hb); have n1_ := Aside0.mk (below_step (by repeat (first | (with_reducible first | exact HB.out | apply below_alloc | apply pw_below_drewN | apply below_drew1) | exact HB.out)) hb); clear HO_3; clear HB; have HO_3 := n0_; have HB := n1_; clear n0_ n1_; (try clear hb); (try clear hb2); (try clear hk); (try clear hi)))
     go_roundg k1
     case measure => have := HK1.out; omega
     case rel => exact ⟨(x3_1), (wrap64 (x7_1 + 1)), (by first | rfl | (simp; done) | (simp [*]; done)), H', ⟨by have := HK1.out; omega⟩, ⟨by (with_reducible repeat (first | apply Kd.R_alloc | apply Kd.R_drewN | apply Kd.R_drew)); exact HO_3.out⟩, ⟨by repeat (first | (with_reducible first | exact HB.out | apply below_alloc | apply pw_below_drewN | apply below_drew1) | exact HB.out)⟩⟩
    ·
     rw [if_neg c4] at H
     have c4b0 : (t656 == 0) = false := beq_eq_false_iff_ne.mpr c4
     have c4b1 : (t656 != 0) = true := bne_iff_ne.mpr c4
     by_cases c6 : (x3_1.length : Int) > 0
     ·
      rw [if_pos c6] at H
      have c6b0 : decide (0 < (x3_1.length : Int)) = true := decide_eq_true c6
      have c6b1 : decide (0 < x3_1.length) = true := decide_eq_true (by omega)
      clear c6
      obtain ⟨ji7, hji7⟩ : ∃ j_ : Int, (wrap64 ((x3_1.length : Int) - 1)) = j_ := ⟨_, rfl⟩
      replace H : (if 0 ≤ (ji7) then (if (ji7) < (x3_1.length : Int) then (if ((rd_T85 x3_1 (ji7)).f1) = x7_1 then (if ((rd_T85 x3_1 (ji7)).f2) = t656 then (impl_timeline.l0 k1 a0 (x3_1.set ((ji7) : Int).toNat (⟨(rd_T85 x3_1 (ji7)).f0, wrap64 (((rd_T85 x3_1 (ji7)).f1) + 1), (rd_T85 x3_1 (ji7)).f2⟩ : S85)) (wrap64 (x7_1 + 1))) else (if x3_1.length < 5864062014805 then (impl_timeline.l0 k1 a0 (x3_1 ++ [(⟨x7_1, wrap64 (x7_1 + 1), t656⟩ : S85)]) (wrap64 (x7_1 + 1))) else (none))) else (if x3_1.length < 5864062014805 then (impl_timeline.l0 k1 a0 (x3_1 ++ [(⟨x7_1, wrap64 (x7_1 + 1), t656⟩ : S85)]) (wrap64 (x7_1 + 1))) else (none))) else (none)) else (none)) = some r := by first | (rw [hji7] at H; exact H) | (simp only [hji7] at H ⊢; exact H)
      (try rw [hji7] at A3)
      have hji7w : (IntKind.i64.wrap ((x3_1.length : Int) - 1)) = ji7 := (i64_w _).trans hji7
      by_cases c8 : 0 ≤ (ji7)
      ·
       rw [if_pos c8] at H
       have c8b0 : decide (0 ≤ (ji7)) = true := decide_eq_true c8
       clear c8
       by_cases c9 : (ji7) < (x3_1.length : Int)
       ·
        rw [if_pos c9] at H
        have c9b0 : decide ((ji7) < (x3_1.length : Int)) = true := decide_eq_true c9
        clear c9
        by_cases c10 : ((rd_T85 x3_1 (ji7)).f1) = x7_1
        ·
         rw [if_pos c10] at H
         have c10b0 : (((rd_T85 x3_1 (ji7)).f1) == x7_1) = true := beq_iff_eq.mpr c10
         have c10b1 : (((rd_T85 x3_1 (ji7)).f1) != x7_1) = false := bne_eq_false_iff_eq.mpr c10
         clear c10
         by_cases c11 : ((rd_T85 x3_1 (ji7)).f2) = t656
         ·
          rw [if_pos c11] at H
          have c11b0 : (((rd_T85 x3_1 (ji7)).f2) == t656) = true := beq_iff_eq.mpr c11
          have c11b1 : (((rd_T85 x3_1 (ji7)).f2) != t656) = false := bne_eq_false_iff_eq.mpr c11
          clear c11
          obtain ⟨y660, hy660⟩ : ∃ y_ : List (S85), y_ = (x3_1.set ((ji7) : Int).toNat (⟨(rd_T85 x3_1 (ji7)).f0, wrap64 (((rd_T85 x3_1 (ji7)).f1) + 1), (rd_T85 x3_1 (ji7)).f2⟩ : S85)) := ⟨_, rfl⟩
          replace H : (impl_timeline.l0 k1 a0 y660 (wrap64 (x7_1 + 1))) = some r := by first | (rw [hy660]; with_reducible exact H) | (have H2_ := (Option.bind_some _ _).symm.trans H; rw [hy660]; with_reducible exact H2_) | (have H2_ := (Option.bind_some _ _).symm.trans H; with_reducible exact H2_) | with_reducible exact H | (rw [hy660]; exact H) | exact H
          have Ny660 := Aside0.mk hy660
          clear hy660
          have H' := Aside0.mk H
          clear H
          go_wp2_with (first | (go_at_fn g; refine (HP.out _ x7_1 t656 ?hpb A3.out).mono ?_; (case hpb => repeat (first | (with_reducible first | exact HB.out | apply below_alloc | apply pw_below_drewN | apply below_drew1) | exact HB.out)); rintro e w13 ⟨rfl, hb⟩;  have n0_ := Aside0.mk (Kd.R_below (by (with_reducible repeat (first | apply Kd.R_alloc | apply Kd.R_drewN | apply Kd.R_drew)); exact HO_3.out) hb); have n1_ := Aside0.mk (below_step (by repeat (first | (with_reducible first | exact HB.out | apply below_alloc | apply pw_below_drewN | apply below_drew1) | exact HB.out)) hb); clear HO_3; clear HB; have HO_3 := n0_; have HB := n1_; clear n0_ n1_; (try clear hb); (try clear hb2); (try clear hk); (try clear hi); obtain ⟨Ao14, co14, eo14⟩ := Kd.R_slice HO_3.out; subst eo14; have p657 : 0 ≤ ((ji7) : Int) := of_decide_eq_true (by first | (with_reducible assumption) | assumption); have q657 : (ji7) < (x3_1.length : Int) := of_decide_eq_true (by first | (with_reducible assumption) | assumption); obtain ⟨ad657, e657, hx657_0, hx657_1, hx657_2⟩ := at_T85 (Kd.R_reads' HO_3.out).2.2 (ji7) p657 q657; cases e657; replace p657 := eq_true p657; replace q657 := eq_true q657; have p658 : 0 ≤ ((ji7) : Int) := of_decide_eq_true (by first | (with_reducible assumption) | assumption); have q658 : (ji7) < (x3_1.length : Int) := of_decide_eq_true (by first | (with_reducible assumption) | assumption); obtain ⟨ad658, e658, hx658_0, hx658_1, hx658_2⟩ := at_T85 (Kd.R_reads' HO_3.out).2.2 (ji7) p658 q658; obtain rfl : ad657 = ad658 := (by injection e658); replace p658 := eq_true p658; replace q658 := eq_true q658; have p659 : 0 ≤ ((ji7) : Int) := of_decide_eq_true (by first | (with_reducible assumption) | assumption); have q659 : (ji7) < (x3_1.length : Int) := of_decide_eq_true (by first | (with_reducible assumption) | assumption); obtain ⟨ad659, e659, hx659_0, hx659_1, hx659_2⟩ := at_T85 (Kd.R_reads' HO_3.out).2.2 (ji7) p659 q659; obtain rfl : ad657 = ad659 := (by injection e659); replace p659 := eq_true p659; replace q659 := eq_true q659; have p12 : 0 ≤ ((ji7) : Int) := of_decide_eq_true (by first | (with_reducible assumption) | assumption); have q12 : ((ji7) : Int) < ((x3_1.length : Int) : Int) := of_decide_eq_true (by first | (with_reducible assumption) | assumption); obtain ⟨go12, co12, eo12, gb12, gl12, cl12, HG12⟩ := Kd.R_form HO_3.out (by omega); (first | cases eo12 | (injection eo12 with ea_ en_ ec_; (first | subst ea_ | (injection ea_ with ea_; subst ea_)); subst ec_; clear en_)); have GB12 := Aside0.mk gb12; have GG12 := Aside0.mk HG12; clear gb12 gl12 HG12; (first | simp only [add_plain] at hx657_0 | skip); (first | simp only [add_plain] at hx657_1 | skip); (first | simp only [add_plain] at hx657_2 | skip); (first | simp only [add_plain] at hx658_0 | skip); (first | simp only [add_plain] at hx658_1 | skip); (first | simp only [add_plain] at hx658_2 | skip); (first | simp only [add_plain] at hx659_0 | skip); (first | simp only [add_plain] at hx659_1 | skip); (first | simp only [add_plain] at hx659_2 | skip); obtain ⟨ce12, hcl12, hM12, hcc12, hfr12⟩ := Kd.R_elem HO_3.out z85 ((ji7) : Int) p12 q12; obtain rfl := k85_openM hM12; have hx12_0 : w13.cell? ⟨go12, ((ji7) : Int).toNat * 3, none⟩ = some (.int .i64 ((rd_T85 x3_1 (ji7)).f0)) := hcc12 0 _ rfl; have hx12_1 : w13.cell? ⟨go12, ((ji7) : Int).toNat * 3 + 1, none⟩ = some (.int .i64 ((rd_T85 x3_1 (ji7)).f1)) := hcc12 1 _ rfl; have hx12_2 : w13.cell? ⟨go12, ((ji7) : Int).toNat * 3 + 2, none⟩ = some (.int .i64 ((rd_T85 x3_1 (ji7)).f2)) := hcc12 2 _ rfl; have hf12_0 : w13.frozen? ⟨go12, ((ji7) : Int).toNat * 3, none⟩ = false := hfr12 0; have hf12_1 : w13.frozen? ⟨go12, ((ji7) : Int).toNat * 3 + 1, none⟩ = false := hfr12 1; have hf12_2 : w13.frozen? ⟨go12, ((ji7) : Int).toNat * 3 + 2, none⟩ = false := hfr12 2; clear hcl12 hcc12 hfr12 hM12; replace p12 := eq_true p12; replace q12 := eq_true q12; have HX15 := Aside0.mk (show Kd.R k85 85 w13 w.heap.size (fun _ => True) (.slice (some ⟨go12, 0, none⟩) x3_1.length co14) x3_1 from (by (with_reducible repeat (first | apply Kd.R_alloc | apply Kd.R_drewN | apply Kd.R_drew)); exact HO_3.out)); obtain ⟨ce15, hcl15, hM15, hcc15, hfr15⟩ := Kd.R_elem HX15.out z85 ((ji7) : Int) (of_decide_eq_true (by first | (with_reducible assumption) | assumption)) (by have h_ : ((ji7) : Int) < ((x3_1.length : Int) : Int) := of_decide_eq_true (by first | (with_reducible assumption) | assumption); first | exact h_ | (have e_ := (Kd.R_reads' HO_3.out).1; omega) | simpa using h_); obtain rfl := k85_openM hM15; have HP15 := Kd.R_seg HX15.out ((ji7) : Int) (of_decide_eq_true (by first | (with_reducible assumption) | assumption)) (by have h_ : ((ji7) : Int) < ((x3_1.length : Int) : Int) := of_decide_eq_true (by first | (with_reducible assumption) | assumption); first | exact h_ | (have e_ := (Kd.R_reads' HO_3.out).1; omega) | simpa using h_) (seg := [.int .i64 (wrap64 (((rd_T85 x3_1 (ji7)).f1) + 1))]) (j := 1) hcl15 hcc15 (show 2 ≤ 3 from by decide) (x' := (⟨(rd_T85 x3_1 (ji7)).f0, wrap64 (((rd_T85 x3_1 (ji7)).f1) + 1), (rd_T85 x3_1 (ji7)).f2⟩ : S85)) (k85_mkM _ _ _ (⟨(rd_T85 x3_1 (ji7)).f0, wrap64 (((rd_T85 x3_1 (ji7)).f1) + 1), (rd_T85 x3_1 (ji7)).f2⟩ : S85) ) (fun _ hk => hk); have hx15_1 := hcc15 1 _ rfl; (try simp only [show (k85).sz = 3 from rfl, Nat.mul_one, Nat.add_zero] at hx15_1); have hf15_1 := hfr15 1; (try simp only [show (k85).sz = 3 from rfl, Nat.mul_one, Nat.add_zero] at hf15_1); clear hcl15 hcc15 hfr15 hM15) | ((with_reducible refine gate_store (t := 3) (p := 47) rfl ?_); refine store_event (t := 3) (p := 47) (v := ?vo_w16) (w1 := (w13.setCell ⟨go12, ((ji7) : Int).toNat * 3 + 1, none⟩ (.int .i64 (wrap64 (((rd_T85 x3_1 (ji7)).f1) + 1))))) ?hg ?ho ?hn ?hr ?_; (case ho => rfl); (case hg => rfl); (case hn => rfl); (case hr => first | (go_simp; done) | (go_simp; rfl)); intro w16 hw; have hg : w13.grownBy w16 (some go12) := (by rw [hw]; exact HP15.2); have hp_ : Kd.R k85 85 w16 w.heap.size (fun _ => True) (.slice (some ⟨go12, 0, none⟩) x3_1.length co14) y660 := (by rw [hw, Ny660.out]; exact HP15.1); clear HP15; have n0_ := Aside0.mk (hp_); have n1_ := Aside0.mk ((by rw [hw]; exact below_set (HB.out) GB12.out : Below w.heap.size w w16)); clear HO_3; clear HB; have HO_3 := n0_; have HB := n1_; clear n0_ n1_; clear hg hw hp_))
          go_roundg k1
          case measure => have := HK1.out; omega
          case rel => exact ⟨(y660), (wrap64 (x7_1 + 1)), (by first | rfl | (simp; done) | (simp [*]; done)), H', ⟨by have := HK1.out; omega⟩, ⟨by (with_reducible repeat (first | apply Kd.R_alloc | apply Kd.R_drewN | apply Kd.R_drew)); exact HO_3.out⟩, ⟨by repeat (first | (with_reducible first | exact HB.out | apply below_alloc | apply pw_below_drewN | apply below_drew1) | exact HB.out)⟩⟩
         ·
          rw [if_neg c11] at H
          have c11b0 : (((rd_T85 x3_1 (ji7)).f2) == t656) = false := beq_eq_false_iff_ne.mpr c11
          have c11b1 : (((rd_T85 x3_1 (ji7)).f2) != t656) = true := bne_iff_ne.mpr c11
          by_cases c17 : x3_1.length < 5864062014805
          ·
           rw [if_pos c17] at H
           have LMc17 := Aside0.mk c17
           clear c17
           obtain ⟨y661, hy661⟩ : ∃ y_ : List (S85), y_ = (x3_1 ++ [(⟨x7_1, wrap64 (x7_1 + 1), t656⟩ : S85)]) := ⟨_, rfl⟩
           replace H : (impl_timeline.l0 k1 a0 y661 (wrap64 (x7_1 + 1))) = some r := by first | (rw [hy661]; with_reducible exact H) | (have H2_ := (Option.bind_some _ _).symm.trans H; rw [hy661]; with_reducible exact H2_) | (have H2_ := (Option.bind_some _ _).symm.trans H; with_reducible exact H2_) | with_reducible exact H | (rw [hy661]; exact H) | exact H
           have Ny661 := Aside0.mk hy661
           clear hy661
           have H' := Aside0.mk H
           clear H
           go_wp2_with (first | (go_at_fn g; refine (HP.out _ x7_1 t656 ?hpb A3.out).mono ?_; (case hpb => repeat (first | (with_reducible first | exact HB.out | apply below_alloc | apply pw_below_drewN | apply below_drew1) | exact HB.out)); rintro e w18 ⟨rfl, hb⟩;  have n0_ := Aside0.mk (Kd.R_below (by (with_reducible repeat (first | apply Kd.R_alloc | apply Kd.R_drewN | apply Kd.R_drew)); exact HO_3.out) hb); have n1_ := Aside0.mk (below_step (by repeat (first | (with_reducible first | exact HB.out | apply below_alloc | apply pw_below_drewN | apply below_drew1) | exact HB.out)) hb); clear HO_3; clear HB; have HO_3 := n0_; have HB := n1_; clear n0_ n1_; (try clear hb); (try clear hb2); (try clear hk); (try clear hi); obtain ⟨Ao19, co19, eo19⟩ := Kd.R_slice HO_3.out; subst eo19; have p657 : 0 ≤ ((ji7) : Int) := of_decide_eq_true (by first | (with_reducible assumption) | assumption); have q657 : (ji7) < (x3_1.length : Int) := of_decide_eq_true (by first | (with_reducible assumption) | assumption); obtain ⟨ad657, e657, hx657_0, hx657_1, hx657_2⟩ := at_T85 (Kd.R_reads' HO_3.out).2.2 (ji7) p657 q657; cases e657; replace p657 := eq_true p657; replace q657 := eq_true q657; have p658 : 0 ≤ ((ji7) : Int) := of_decide_eq_true (by first | (with_reducible assumption) | assumption); have q658 : (ji7) < (x3_1.length : Int) := of_decide_eq_true (by first | (with_reducible assumption) | assumption); obtain ⟨ad658, e658, hx658_0, hx658_1, hx658_2⟩ := at_T85 (Kd.R_reads' HO_3.out).2.2 (ji7) p658 q658; obtain rfl : ad657 = ad658 := (by injection e658); replace p658 := eq_true p658; replace q658 := eq_true q658) | ((with_reducible refine gate_builtin (b := .append) (xs := #[.tmp 48, .tmp 54]) rfl ?_); at_builtin; refine Kd.R_append k85 (w0 := w) w.heap.size rfl (.tmp 48) (.tmp 54) 41 85 (.agg #[(.int .i64 0), (.int .i64 0), (.int .i64 0)]) 24 rfl Try.underlying41 info85 rfl (by decide) (by omega) (.slice (some ad657) x3_1.length co19) x3_1 (⟨x7_1, wrap64 (x7_1 + 1), t656⟩ : S85) [.int .i64 x7_1, .int .i64 (wrap64 (x7_1 + 1)), .int .i64 t656] (fun _ => True) (fun _ => False) rfl rfl ?aP (fun _ hk => hk.elim) ?aF ?aO ?aB ?aS ?aL ?_; (case aP => exact k85_mkM _ _ _ (⟨x7_1, wrap64 (x7_1 + 1), t656⟩ : S85)); (case aB => exact (by repeat (first | (with_reducible first | exact HB.out | apply below_alloc | apply pw_below_drewN | apply below_drew1) | exact HB.out))); (case aF => exact (fun _ _ => trivial)); (case aO => exact (by (with_reducible repeat (first | apply Kd.R_alloc | apply Kd.R_drewN | apply Kd.R_drew)); exact HO_3.out)); (case aS => exact (below_size (by repeat (first | (with_reducible first | exact HB.out | apply below_alloc | apply pw_below_drewN | apply below_drew1) | exact HB.out)))); (case aL => have := LMc17.out; omega); intro v662 w20 ho hb hg hat; rw [← Ny661.out] at ho; have n0_ := Aside0.mk (hb); have n1_ := Aside0.mk (ho); clear HB; clear HO_3; have HB := n0_; have HO663 := n1_; clear n0_ n1_; clear ho hb hg hat))
           go_roundg k1
           case measure => have := HK1.out; omega
           case rel => exact ⟨(y661), (wrap64 (x7_1 + 1)), (by first | rfl | (simp; done) | (simp [*]; done)), H', ⟨by have := HK1.out; omega⟩, ⟨by (with_reducible repeat (first | apply Kd.R_alloc | apply Kd.R_drewN | apply Kd.R_drew)); exact HO663.out⟩, ⟨by repeat (first | (with_reducible first | exact HB.out | apply below_alloc | apply pw_below_drewN | apply below_drew1) | exact HB.out)⟩⟩
          ·
           rw [if_neg c17] at H
           exact absurd H (by simp)
        ·
         rw [if_neg c10] at H
         have c10b0 : (((rd_T85 x3_1 (ji7)).f1) == x7_1) = false := beq_eq_false_iff_ne.mpr c10
         have c10b1 : (((rd_T85 x3_1 (ji7)).f1) != x7_1) = true := bne_iff_ne.mpr c10
         by_cases c21 : x3_1.length < 5864062014805
         ·
          rw [if_pos c21] at H
          have LMc21 := Aside0.mk c21
          clear c21
          obtain ⟨y664, hy664⟩ : ∃ y_ : List (S85), y_ = (x3_1 ++ [(⟨x7_1, wrap64 (x7_1 + 1), t656⟩ : S85)]) := ⟨_, rfl⟩
          replace H : (impl_timeline.l0 k1 a0 y664 (wrap64 (x7_1 + 1))) = some r := by first | (rw [hy664]; with_reducible exact H) | (have H2_ := (Option.bind_some _ _).symm.trans H; rw [hy664]; with_reducible exact H2_) | (have H2_ := (Option.bind_some _ _).symm.trans H; with_reducible exact H2_) | with_reducible exact H | (rw [hy664]; exact H) | exact H
          have Ny664 := Aside0.mk hy664
          clear hy664
          have H' := Aside0.mk H
          clear H
          go_wp2_with (first | (go_at_fn g; refine (HP.out _ x7_1 t656 ?hpb A3.out).mono ?_; (case hpb => repeat (first | (with_reducible first | exact HB.out | apply below_alloc | apply pw_below_drewN | apply below_drew1) | exact HB.out)); rintro e w22 ⟨rfl, hb⟩;  have n0_ := Aside0.mk (Kd.R_below (by (with_reducible repeat (first | apply Kd.R_alloc | apply Kd.R_drewN | apply Kd.R_drew)); exact HO_3.out) hb); have n1_ := Aside0.mk (below_step (by repeat (first | (with_reducible first | exact HB.out | apply below_alloc | apply pw_below_drewN | apply below_drew1) | exact HB.out)) hb); clear HO_3; clear HB; have HO_3 := n0_; have HB := n1_; clear n0_ n1_; (try clear hb); (try clear hb2); (try clear hk); (try clear hi); obtain ⟨Ao23, co23, eo23⟩ := Kd.R_slice HO_3.out; subst eo23; have p657 : 0 ≤ ((ji7) : Int) := of_decide_eq_true (by first | (with_reducible assumption) | assumption); have q657 : (ji7) < (x3_1.length : Int) := of_decide_eq_true (by first | (with_reducible assumption) | assumption); obtain ⟨ad657, e657, hx657_0, hx657_1, hx657_2⟩ := at_T85 (Kd.R_reads' HO_3.out).2.2 (ji7) p657 q657; cases e657; replace p657 := eq_true p657; replace q657 := eq_true q657) | ((with_reducible refine gate_builtin (b := .append) (xs := #[.tmp 48, .tmp 54]) rfl ?_); at_builtin; refine Kd.R_append k85 (w0 := w) w.heap.size rfl (.tmp 48) (.tmp 54) 41 85 (.agg #[(.int .i64 0), (.int .i64 0), (.int .i64 0)]) 24 rfl Try.underlying41 info85 rfl (by decide) (by omega) (.slice (some ad657) x3_1.length co23) x3_1 (⟨x7_1, wrap64 (x7_1 + 1), t656⟩ : S85) [.int .i64 x7_1, .int .i64 (wrap64 (x7_1 + 1)), .int .i64 t656] (fun _ => True) (fun _ => False) rfl rfl ?aP (fun _ hk => hk.elim) ?aF ?aO ?aB ?aS ?aL ?_; (case aP => exact k85_mkM _ _ _ (⟨x7_1, wrap64 (x7_1 + 1), t656⟩ : S85)); (case aB => exact (by repeat (first | (with_reducible first | exact HB.out | apply below_alloc | apply pw_below_drewN | apply below_drew1) | exact HB.out))); (case aF => exact (fun _ _ => trivial)); (case aO => exact (by (with_reducible repeat (first | apply Kd.R_alloc | apply Kd.R_drewN | apply Kd.R_drew)); exact HO_3.out)); (case aS => exact (below_size (by repeat (first | (with_reducible first | exact HB.out | apply below_alloc | apply pw_below_drewN | apply below_drew1) | exact HB.out)))); (case aL => have := LMc21.out; omega); intro v665 w24 ho hb hg hat; rw [← Ny664.out] at ho; have n0_ := Aside0.mk (hb); have n1_ := Aside0.mk (ho); clear HB; clear HO_3; have HB := n0_; have HO666 := n1_; clear n0_ n1_; clear ho hb hg hat))
          go_roundg k1
          case measure => have := HK1.out; omega
          case rel => exact ⟨(y664), (wrap64 (x7_1 + 1)), (by first | rfl | (simp; done) | (simp [*]; done)), H', ⟨by have := HK1.out; omega⟩, ⟨by (with_reducible repeat (first | apply Kd.R_alloc | apply Kd.R_drewN | apply Kd.R_drew)); exact HO666.out⟩, ⟨by repeat (first | (with_reducible first | exact HB.out | apply below_alloc | apply pw_below_drewN | apply below_drew1) | exact HB.out)⟩⟩
         ·
          rw [if_neg c21] at H
          exact absurd H (by simp)
       ·
        rw [if_neg c9] at H
        exact absurd H (by simp)
      ·
       rw [if_neg c8] at H
       exact absurd H (by simp)
     ·
      rw [if_neg c6] at H
      have c6b0 : decide (0 < (x3_1.length : Int)) = false := decide_eq_false c6
      have c6b1 : decide (0 < x3_1.length) = false := decide_eq_false (by omega)
      clear c6
      by_cases c25 : x3_1.length < 5864062014805
      ·
       rw [if_pos c25] at H
       have LMc25 := Aside0.mk c25
       clear c25
       obtain ⟨y667, hy667⟩ : ∃ y_ : List (S85), y_ = (x3_1 ++ [(⟨x7_1, wrap64 (x7_1 + 1), t656⟩ : S85)]) := ⟨_, rfl⟩
       replace H : (impl_timeline.l0 k1 a0 y667 (wrap64 (x7_1 + 1))) = some r := by first | (rw [hy667]; with_reducible exact H) | (have H2_ := (Option.bind_some _ _).symm.trans H; rw [hy667]; with_reducible exact H2_) | (have H2_ := (Option.bind_some _ _).symm.trans H; with_reducible exact H2_) | with_reducible exact H | (rw [hy667]; exact H) | exact H
       have Ny667 := Aside0.mk hy667
       clear hy667
       have H' := Aside0.mk H
       clear H
       go_wp2_with (first | (go_at_fn g; refine (HP.out _ x7_1 t656 ?hpb A3.out).mono ?_; (case hpb => repeat (first | (with_reducible first | exact HB.out | apply below_alloc | apply pw_below_drewN | apply below_drew1) | exact HB.out)); rintro e w26 ⟨rfl, hb⟩;  have n0_ := Aside0.mk (Kd.R_below (by (with_reducible repeat (first | apply Kd.R_alloc | apply Kd.R_drewN | apply Kd.R_drew)); exact HO_3.out) hb); have n1_ := Aside0.mk (below_step (by repeat (first | (with_reducible first | exact HB.out | apply below_alloc | apply pw_below_drewN | apply below_drew1) | exact HB.out)) hb); clear HO_3; clear HB; have HO_3 := n0_; have HB := n1_; clear n0_ n1_; (try clear hb); (try clear hb2); (try clear hk); (try clear hi); obtain ⟨Ao27, co27, eo27⟩ := Kd.R_slice HO_3.out; subst eo27) | ((with_reducible refine gate_builtin (b := .append) (xs := #[.tmp 48, .tmp 54]) rfl ?_); at_builtin; refine Kd.R_append k85 (w0 := w) w.heap.size rfl (.tmp 48) (.tmp 54) 41 85 (.agg #[(.int .i64 0), (.int .i64 0), (.int .i64 0)]) 24 rfl Try.underlying41 info85 rfl (by decide) (by omega) (.slice Ao27 x3_1.length co27) x3_1 (⟨x7_1, wrap64 (x7_1 + 1), t656⟩ : S85) [.int .i64 x7_1, .int .i64 (wrap64 (x7_1 + 1)), .int .i64 t656] (fun _ => True) (fun _ => False) rfl rfl ?aP (fun _ hk => hk.elim) ?aF ?aO ?aB ?aS ?aL ?_; (case aP => exact k85_mkM _ _ _ (⟨x7_1, wrap64 (x7_1 + 1), t656⟩ : S85)); (case aB => exact (by repeat (first | (with_reducible first | exact HB.out | apply below_alloc | apply pw_below_drewN | apply below_drew1) | exact HB.out))); (case aF => exact (fun _ _ => trivial)); (case aO => exact (by (with_reducible repeat (first | apply Kd.R_alloc | apply Kd.R_drewN | apply Kd.R_drew)); exact HO_3.out)); (case aS => exact (below_size (by repeat (first | (with_reducible first | exact HB.out | apply below_alloc | apply pw_below_drewN | apply below_drew1) | exact HB.out)))); (case aL => have := LMc25.out; omega); intro v668 w28 ho hb hg hat; rw [← Ny667.out] at ho; have n0_ := Aside0.mk (hb); have n1_ := Aside0.mk (ho); clear HB; clear HO_3; have HB := n0_; have HO669 := n1_; clear n0_ n1_; clear ho hb hg hat))
       go_roundg k1
       case measure => have := HK1.out; omega
       case rel => exact ⟨(y667), (wrap64 (x7_1 + 1)), (by first | rfl | (simp; done) | (simp [*]; done)), H', ⟨by have := HK1.out; omega⟩, ⟨by (with_reducible repeat (first | apply Kd.R_alloc | apply Kd.R_drewN | apply Kd.R_drew)); exact HO669.out⟩, ⟨by repeat (first | (with_reducible first | exact HB.out | apply below_alloc | apply pw_below_drewN | apply below_drew1) | exact HB.out)⟩⟩
      ·
       rw [if_neg c25] at H
       exact absurd H (by simp)
   ·
    rw [if_neg c2] at H
    have c2b0 : decide (x7_1 < 240) = false := decide_eq_false c2
    clear c2
    obtain rfl := Option.some.inj H
    go_wp2
    go_ret
    exact ⟨_, by first | rfl | (simp [errW_none, errW_some] <;> rfl) | (simp [*, errW_none, errW_some] <;> rfl), by (with_reducible repeat (first | apply Kd.R_alloc | apply Kd.R_drewN | apply Kd.R_drew)); exact HO_3.out, by repeat (first | (with_reducible first | exact HB.out | apply below_alloc | apply pw_below_drewN | apply below_drew1) | exact HB.out)⟩

end Go.Proofs.Ythmkgdlmegohoaa.Q
