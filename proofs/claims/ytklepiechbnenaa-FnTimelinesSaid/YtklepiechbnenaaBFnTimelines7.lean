/- Texts of this seat, put together: Qf18, Qf79, Qf19, Qf81, Qf82, Qf83, Qf84, Qf20, Qe2, Qf21, Qf85. -/
import Derived.Test.YtklepiechbnenaaZFnTimelines
import Derived.Test.YtklepiechbnenaaWEqStruct
import Derived.Test.YtklepiechbnenaaBFnTimelines0
import Derived.Test.YtklepiechbnenaaBFnTimelines1
import Derived.Test.YtklepiechbnenaaBFnTimelines2
import Derived.Test.YtklepiechbnenaaBFnTimelines3
import Derived.Test.YtklepiechbnenaaBFnTimelines6
namespace Go.Proofs.Ytklepiechbnenaa.Q
open Go.RowKit Go.Proofs.YtklepiechbnenaaW.PrintWords Go.Proofs.YtklepiechbnenaaW.PrintLast Go.Proofs.YtklepiechbnenaaW.PrintMore
attribute [local go_sem] max2_int min2_int max_two min_two max_three min_three max_four min_four   -- for this text's walks alone
set_option linter.unusedVariables false
set_option linter.unusedSimpArgs false

/-! ### spec_DrawTopicTimeline: function 18 -/
def spec_DrawTopicTimeline.f (k : Nat) (l0 : List Int) : Option ((List (S31)) × Int × Int) := (spec_l1Cur_touching.f k l0 0 0).bind fun bt530 => ((spec_l1Cur_topic15.f l0 bt530.2.1 bt530.2.2).bind fun bt535 => ((spec_l1Cur_area15.f l0 bt535.2.1 bt535.2.2).bind fun bt538 => (some (bt530.1, bt535.1, bt538.1))))
theorem spec_DrawTopicTimeline.mono : ∀ a0 k, LeO (spec_DrawTopicTimeline.f k a0) (spec_DrawTopicTimeline.f (k + 1) a0) := by
 intro a0 k
 unfold spec_DrawTopicTimeline.f
 repeat' first
   | (with_reducible exact spec_l1Cur_touching.mono _ _ _ _)
   | (with_reducible exact LeO.refl _)
   | (with_reducible exact LeO.none _)
   | (with_reducible refine LeO.ite ?_ ?_)
   | (with_reducible refine LeO.bind ?_ (fun _ => ?_))
   | exact spec_l1Cur_touching.mono _ _ _ _
   | exact LeO.none _
   | refine LeO.ite ?_ ?_
   | refine LeO.bind ?_ (fun _ => ?_)
set_option maxHeartbeats 8000000 in
set_option maxRecDepth 100000 in
theorem spec_DrawTopicTimeline.calls (k : Nat) (A0 : Option Addr) (c0 : Nat) (l0 : List Int) (r1 : List (S31)) (r2 : Int) (r3 : Int) (w : World) (hr0 : Kd.C (Kd.int .u8) w A0 l0.length l0) (hc0 : l0.length ≤ c0) (h : spec_DrawTopicTimeline.f k l0 = some (r1, r2, r3)) :
  Calls Try.prog 18 #[.slice A0 l0.length c0] w fun e w' => ∃ v0_ : Value, e = .returned (.tuple #[v0_, .int .i64 r2, .int .i64 r3]) ∧ Kd.R k31 31 w' w.heap.size (fun _ => True) v0_ r1 ∧ Below w.heap.size w w' := by
 have hu72 := Try.underlying72
 have HR0 := Aside0.mk hr0
 have HC0 := Aside0.mk hc0
 clear hr0 hc0
 have HB := Aside0.mk (Below.refl w.heap.size w)
 have H : ((spec_l1Cur_touching.f k l0 0 0).bind fun bt530 => ((spec_l1Cur_topic15.f l0 bt530.2.1 bt530.2.2).bind fun bt535 => ((spec_l1Cur_area15.f l0 bt535.2.1 bt535.2.2).bind fun bt538 => (some (bt530.1, bt535.1, bt538.1))))) = some (r1, r2, r3) := h
 clear h
 replace H := Option.bind_eq_some_iff.mp H
 obtain ⟨⟨t530, t533, t534⟩, A20, H⟩ := H
 replace H : ((spec_l1Cur_topic15.f l0 t533 t534).bind fun bt535 => ((spec_l1Cur_area15.f l0 bt535.2.1 bt535.2.2).bind fun bt538 => (some (t530, bt535.1, bt538.1)))) = some (r1, r2, r3) := H
 have A2 := Aside0.mk A20
 clear A20
 replace H := Option.bind_eq_some_iff.mp H
 obtain ⟨⟨t535, t536, t537⟩, A30, H⟩ := H
 replace H : ((spec_l1Cur_area15.f l0 t536 t537).bind fun bt538 => (some (t530, t535, bt538.1))) = some (r1, r2, r3) := H
 have A3 := Aside0.mk A30
 clear A30
 replace H := Option.bind_eq_some_iff.mp H
 obtain ⟨⟨t538, t539, t540⟩, A40, H⟩ := H
 replace H : (some (t530, t535, t538)) = some (r1, r2, r3) := H
 have A4 := Aside0.mk A40
 clear A40
 simp only [Option.some.injEq, Prod.mk.injEq] at H
 obtain ⟨rfl, rfl, rfl⟩ := H
 go_enter Try.func18, Try.ntmps18
 go_wp2_with (first | ((with_reducible refine gate_dst (N := 8) rfl ?_); refine box_event ?hg (N := 8) ?hd (cs := #[.slice A0 l0.length c0, .int .i64 0, .int .u64 0]) (t := 72) ?hr ?_; (case hd => rfl); (case hg => rfl); (case hr => first | (go_simp; done) | (go_simp; rfl)); intro gb529 hg w5 hbox hb; have n0_ := Aside0.mk (below_step zq0 hb); have n1_ := Aside0.mk ((show IsS72 w w5 gb529 l0 0 0 from ⟨_, _, hbox, (by rw [hg]; exact (below_size zq0) : w.heap.size ≤ gb529), HR0.out⟩)); have n2_ := Aside0.mk ((by rw [hg]; exact (below_size zq0) : w.heap.size ≤ gb529)); have n3_ := Aside0.mk ((by rw [hg]; exact (below_size zq0) : w.heap.size ≤ gb529)); clear HB; have HB := n0_; have HI529 := n1_; have GW529 := n2_; have GE529 := n3_; clear n0_ n1_ n2_ n3_; clear hb hbox hg) | ((with_reducible refine gate_callee (f := 76) rfl ?_); refine goesL_ (some 10) rfl rfl Try.func76 (by kernel_rfl) rfl #[.pointer (some ⟨gb529, 0, none⟩)] rfl zq1 ?_; (with_reducible refine (spec_l1Cur_touching.calls k gb529 l0 0 0 t530 t533 t534 w _ ?side1 ?side2 A2.out).mono ?_); (case side1 => repeat (first | (with_reducible first | exact HI529.out | apply IsS72.alloc | apply IsS72.drewN | apply IsS72.drew | apply IsS72.set_1 | apply IsS72.set_2) | exact HI529.out)); (case side2 => repeat (first | (with_reducible first | exact HB.out | apply below_alloc | apply pw_below_drewN | apply below_drew1 | refine below_set ?_ (IsS72.ge HI529.out)) | exact HB.out)); rintro e w6 ⟨v531, rfl, ho0, hi, hb, hk⟩; refine ⟨_, rfl, ?_⟩; have n0_ := Aside0.mk (Kd.R_lower ho0 (below_size (by repeat (first | (with_reducible first | exact HB.out | apply below_alloc | apply pw_below_drewN | apply below_drew1 | refine below_set ?_ (IsS72.ge HI529.out)) | exact HB.out)))); have n1_ := Aside0.mk (hb); have n2_ := Aside0.mk (hi); clear HB; clear HI529; have HO532 := n0_; have HB := n1_; have HI529 := n2_; clear n0_ n1_ n2_; (try clear hb); (try clear hb2); (try clear hk); (try clear hi); (try clear ho0)) | ((with_reducible refine gate_callee (f := 77) rfl ?_); refine goesL_ (some 12) rfl rfl Try.func77 (by kernel_rfl) rfl #[.pointer (some ⟨gb529, 0, none⟩)] rfl zq1 ?_; (with_reducible refine (spec_l1Cur_topic15.calls gb529 l0 t533 t534 t535 t536 t537 w _ ?side1 ?side2 A3.out).mono ?_); (case side1 => repeat (first | (with_reducible first | exact HI529.out | apply IsS72.alloc | apply IsS72.drewN | apply IsS72.drew | apply IsS72.set_1 | apply IsS72.set_2) | exact HI529.out)); (case side2 => repeat (first | (with_reducible first | exact HB.out | apply below_alloc | apply pw_below_drewN | apply below_drew1 | refine below_set ?_ (IsS72.ge HI529.out)) | exact HB.out)); rintro e w7 ⟨rfl, hi, hb, hk⟩; refine ⟨_, rfl, ?_⟩; have n0_ := Aside0.mk (Kd.R_mono (Kd.R_keep (IsS72.apart (show IsS72 w _ gb529 l0 t533 t534 from by repeat (first | (with_reducible first | exact HI529.out | apply IsS72.alloc | apply IsS72.drewN | apply IsS72.drew | apply IsS72.set_1 | apply IsS72.set_2) | exact HI529.out)) (zqR HO532.out) (by decide)) hk (fun _ h => h.2)) (fun _ h => h.1)); have n1_ := Aside0.mk (hb); have n2_ := Aside0.mk (hi); clear HO532; clear HB; clear HI529; have HO532 := n0_; have HB := n1_; have HI529 := n2_; clear n0_ n1_ n2_; (try clear hb); (try clear hb2); (try clear hk); (try clear hi)) | ((with_reducible refine gate_callee (f := 78) rfl ?_); refine goesL_ (some 14) rfl rfl Try.func78 (by kernel_rfl) rfl #[.pointer (some ⟨gb529, 0, none⟩)] rfl zq1 ?_; (with_reducible refine (spec_l1Cur_area15.calls gb529 l0 t536 t537 t538 t539 t540 w _ ?side1 ?side2 A4.out).mono ?_); (case side1 => repeat (first | (with_reducible first | exact HI529.out | apply IsS72.alloc | apply IsS72.drewN | apply IsS72.drew | apply IsS72.set_1 | apply IsS72.set_2) | exact HI529.out)); (case side2 => repeat (first | (with_reducible first | exact HB.out | apply below_alloc | apply pw_below_drewN | apply below_drew1 | refine below_set ?_ (IsS72.ge HI529.out)) | exact HB.out)); rintro e w8 ⟨rfl, hi, hb, hk⟩; refine ⟨_, rfl, ?_⟩; have n0_ := Aside0.mk (Kd.R_mono (Kd.R_keep (IsS72.apart (show IsS72 w _ gb529 l0 t536 t537 from by repeat (first | (with_reducible first | exact HI529.out | apply IsS72.alloc | apply IsS72.drewN | apply IsS72.drew | apply IsS72.set_1 | apply IsS72.set_2) | exact HI529.out)) (zqR HO532.out) (by decide)) hk (fun _ h => h.2)) (fun _ h => h.1)); have n1_ := Aside0.mk (hb); have n2_ := Aside0.mk (hi); clear HO532; clear HB; clear HI529; have HO532 := n0_; have HB := n1_; have HI529 := n2_; clear n0_ n1_ n2_; (try clear hb); (try clear hb2); (try clear hk); (try clear hi)))
 go_ret3
 exact ⟨_, by first | rfl | (simp [errW_none, errW_some] <;> rfl) | (simp [*, errW_none, errW_some] <;> rfl), by (with_reducible repeat (first | apply Kd.R_alloc | apply Kd.R_drewN | apply Kd.R_drew)); exact HO532.out, by repeat (first | (with_reducible first | exact HB.out | apply below_alloc | apply pw_below_drewN | apply below_drew1 | refine below_set ?_ (IsS72.ge HI529.out)) | exact HB.out)⟩

end Go.Proofs.Ytklepiechbnenaa.Q
namespace Go.Proofs.Ytklepiechbnenaa.Q
open Go.RowKit Go.Proofs.YtklepiechbnenaaW.PrintWords Go.Proofs.YtklepiechbnenaaW.PrintLast Go.Proofs.YtklepiechbnenaaW.PrintMore
attribute [local go_sem] max2_int min2_int max_two min_two max_three min_three max_four min_four   -- for this text's walks alone
set_option linter.unusedVariables false
set_option linter.unusedSimpArgs false

/-! ### impl_timeline: function 79 -/
def impl_timeline.l0 : Nat → (Int → Int) →  List (S50) → Int → Option ((List (S50)))
 | 0, _, _, _ => none
 | k + 1, x0, x3, x7 => if x7 < 240 then ((some (x0 x7)).bind fun t541 => (if t541 = 0 then (impl_timeline.l0 k x0 x3 (wrap64 (x7 + 1))) else (if (x3.length : Int) > 0 then (if 0 ≤ (wrap64 ((x3.length : Int) - 1)) then (if (wrap64 ((x3.length : Int) - 1)) < (x3.length : Int) then (if ((rd_T50 x3 (wrap64 ((x3.length : Int) - 1))).f1) = x7 then (if ((rd_T50 x3 (wrap64 ((x3.length : Int) - 1))).f2) = t541 then (impl_timeline.l0 k x0 (x3.set ((wrap64 ((x3.length : Int) - 1)) : Int).toNat (⟨(rd_T50 x3 (wrap64 ((x3.length : Int) - 1))).f0, wrap64 (((rd_T50 x3 (wrap64 ((x3.length : Int) - 1))).f1) + 1), (rd_T50 x3 (wrap64 ((x3.length : Int) - 1))).f2⟩ : S50)) (wrap64 (x7 + 1))) else (if x3.length < 5864062014805 then (impl_timeline.l0 k x0 (x3 ++ [(⟨x7, wrap64 (x7 + 1), t541⟩ : S50)]) (wrap64 (x7 + 1))) else (none))) else (if x3.length < 5864062014805 then (impl_timeline.l0 k x0 (x3 ++ [(⟨x7, wrap64 (x7 + 1), t541⟩ : S50)]) (wrap64 (x7 + 1))) else (none))) else (none)) else (none)) else (if x3.length < 5864062014805 then (impl_timeline.l0 k x0 (x3 ++ [(⟨x7, wrap64 (x7 + 1), t541⟩ : S50)]) (wrap64 (x7 + 1))) else (none))))) else (some x3)
def impl_timeline.f (k : Nat) (a0 : Int → Int) : Option ((List (S50))) := impl_timeline.l0 k a0 ([] : List (S50)) 0
theorem impl_timeline.mono_l : ∀ k, (∀ y0 y1 y2, LeO (impl_timeline.l0 k y0 y1 y2) (impl_timeline.l0 (k + 1) y0 y1 y2))
 | 0 => fun _ _ _ r h => by simp [impl_timeline.l0] at h
 | k + 1 => by
  have ih0 := impl_timeline.mono_l k
  ·
   intro y0 y1 y2
   unfold impl_timeline.l0
   repeat' first
   | (with_reducible exact ih0 _ _ _)
   | (with_reducible exact LeO.refl _)
   | (with_reducible exact LeO.none _)
   | (with_reducible refine LeO.ite ?_ ?_)
   | (with_reducible refine LeO.bind ?_ (fun _ => ?_))
   | exact ih0 _ _ _
   | exact LeO.none _
   | refine LeO.ite ?_ ?_
   | refine LeO.bind ?_ (fun _ => ?_)
theorem impl_timeline.mono : ∀ a0 k, LeO (impl_timeline.f k a0) (impl_timeline.f (k + 1) a0) := by
 intro a0 k
 have ih0 := impl_timeline.mono_l k
 unfold impl_timeline.f
 repeat' first
   | (with_reducible exact ih0 _ _ _)
   | (with_reducible exact LeO.refl _)
   | (with_reducible exact LeO.none _)
   | (with_reducible refine LeO.ite ?_ ?_)
   | (with_reducible refine LeO.bind ?_ (fun _ => ?_))
   | exact ih0 _ _ _
   | exact LeO.none _
   | refine LeO.ite ?_ ?_
   | refine LeO.bind ?_ (fun _ => ?_)
set_option maxHeartbeats 8000000 in
set_option maxRecDepth 100000 in
theorem impl_timeline.calls (k : Nat) (g : Nat) (lb : Array Value) (eg : ∀ args w, (callFunc g args).run Try.prog w = .ok (.enter g args) w) (a0 : Int → Int) (r : List (S50)) (w : World) (hp : ∀ (W : World) (h r : Int), Below w.heap.size w W → some (a0 h) = some r → Calls Try.prog g (#[.int .i64 h] ++ lb) W fun e w' => e = .returned (.int .i64 r) ∧ Below W.heap.size W w') (h : impl_timeline.f k a0 = some r) :
  Calls Try.prog 79 #[.func (.func g) #[] lb] w fun e w' => ∃ v0_ : Value, e = .returned (v0_) ∧ Kd.R k50 50 w' w.heap.size (fun _ => True) v0_ r ∧ Below w.heap.size w w' := by
 have HP := Aside0.mk hp
 clear hp
 have hu50 := Try.underlying50
 have HB := Aside0.mk (Below.refl w.heap.size w)
 have H : (impl_timeline.l0 k a0 ([] : List (S50)) 0) = some r := h
 clear h
 have H' := Aside0.mk H
 clear H
 go_enter Try.func79, Try.ntmps79
 go_wp2
 go_loopg [3, 7] k (fun kq v3 v7 w' => ∃ (x3_1 : List (S50)) (x7_1 : Int), v7 = .int .i64 x7_1 ∧ Aside0 (impl_timeline.l0 kq a0 x3_1 x7_1 = some r) ∧ Aside0 (kq ≤ k) ∧ Aside0 (Kd.R k50 50 w' w.heap.size (fun _ => True) v3 x3_1) ∧ Aside0 (Below w.heap.size w w'))
 case atStart => exact ⟨(([] : List (S50))), (0), (by first | rfl | (simp; done) | (simp [*]; done)), H', ⟨Nat.le_refl _⟩, ⟨by first | exact Kd.R_nil _ _ _ _ _ | exact Kd.N_nil _ _ _ _ _ | exact Kd.V_nil _ _ _ _ _ | exact Kd.Q_nil _ _ _ _ _ | exact Kd.S_nil _ _ _ _ _⟩, ⟨by repeat (first | (with_reducible first | exact HB.out | apply below_alloc | apply pw_below_drewN | apply below_drew1) | exact HB.out)⟩⟩
 case round =>
  clear H'
  obtain ⟨x3_1, x7_1, rfl, HA, HK1, HO_3, HB⟩ := hrel
  cases gk with
  | zero => exact absurd HA.out (by simp [impl_timeline.l0])
  | succ k1 =>
   have H := HA.out
   clear HA
   simp only [impl_timeline.l0] at H
   by_cases c2 : x7_1 < 240
   ·
    rw [if_pos c2] at H
    have c2b0 : decide (x7_1 < 240) = true := decide_eq_true c2
    clear c2
    replace H := Option.bind_eq_some_iff.mp H
    obtain ⟨t541, A30, H⟩ := H
    replace H : (if t541 = 0 then (impl_timeline.l0 k1 a0 x3_1 (wrap64 (x7_1 + 1))) else (if (x3_1.length : Int) > 0 then (if 0 ≤ (wrap64 ((x3_1.length : Int) - 1)) then (if (wrap64 ((x3_1.length : Int) - 1)) < (x3_1.length : Int) then (if ((rd_T50 x3_1 (wrap64 ((x3_1.length : Int) - 1))).f1) = x7_1 then (if ((rd_T50 x3_1 (wrap64 ((x3_1.length : Int) - 1))).f2) = t541 then (impl_timeline.l0 k1 a0 (x3_1.set ((wrap64 ((x3_1.length : Int) - 1)) : Int).toNat (⟨(rd_T50 x3_1 (wrap64 ((x3_1.length : Int) - 1))).f0, wrap64 (((rd_T50 x3_1 (wrap64 ((x3_1.length : Int) - 1))).f1) + 1), (rd_T50 x3_1 (wrap64 ((x3_1.length : Int) - 1))).f2⟩ : S50)) (wrap64 (x7_1 + 1))) else (if x3_1.length < 5864062014805 then (impl_timeline.l0 k1 a0 (x3_1 ++ [(⟨x7_1, wrap64 (x7_1 + 1), t541⟩ : S50)]) (wrap64 (x7_1 + 1))) else (none))) else (if x3_1.length < 5864062014805 then (impl_timeline.l0 k1 a0 (x3_1 ++ [(⟨x7_1, wrap64 (x7_1 + 1), t541⟩ : S50)]) (wrap64 (x7_1 + 1))) else (none))) else (none)) else (none)) else (if x3_1.length < 5864062014805 then (impl_timeline.l0 k1 a0 (x3_1 ++ [(⟨x7_1, wrap64 (x7_1 + 1), t541⟩ : S50)]) (wrap64 (x7_1 + 1))) else (none)))) = some r := H
    have A3 := Aside0.mk A30
    clear A30
    by_cases c4 : t541 = 0
    ·
     rw [if_pos c4] at H
     have c4b0 : (t541 == 0) = true := beq_iff_eq.mpr c4
     have c4b1 : (t541 != 0) = false := bne_eq_false_iff_eq.mpr c4
     clear c4
     have H' := Aside0.mk H
     clear H
     go_wp2_with (first | (go_at_fn g; refine (HP.out _ x7_1 t541 ?hpb A3.out).mono ?_; (case hpb => repeat (first | (with_reducible first | exact HB.out | apply below_alloc | apply pw_below_drewN | apply below_drew1) | exact HB.out)); rintro e w5 ⟨rfl, hb⟩;  have n0_ := Aside0.mk (Kd.R_below (zqR HO_3.out) hb); have n1_ := Aside0.mk (below_step zq0 hb); clear HO_3; clear HB; have HO_3 := n0_; have HB := n1_; clear n0_ n1_; (try clear hb); (try clear hb2); (try clear hk); (try clear hi)))
     go_roundg k1
     case measure => have := HK1.out; omega
     case rel => exact ⟨(x3_1), (wrap64 (x7_1 + 1)), (by first | rfl | (simp; done) | (simp [*]; done)), H', ⟨by have := HK1.out; omega⟩, ⟨by (with_reducible repeat (first | apply Kd.R_alloc | apply Kd.R_drewN | apply Kd.R_drew)); exact HO_3.out⟩, ⟨by repeat (first | (with_reducible first | exact HB.out | apply below_alloc | apply pw_below_drewN | apply below_drew1) | exact HB.out)⟩⟩
    ·
     rw [if_neg c4] at H
     have c4b0 : (t541 == 0) = false := beq_eq_false_iff_ne.mpr c4
     have c4b1 : (t541 != 0) = true := bne_iff_ne.mpr c4
     by_cases c6 : (x3_1.length : Int) > 0
     ·
      rw [if_pos c6] at H
      have c6b0 : decide (0 < (x3_1.length : Int)) = true := decide_eq_true c6
      have c6b1 : decide (0 < x3_1.length) = true := decide_eq_true (by omega)
      clear c6
      obtain ⟨ji7, hji7⟩ : ∃ j_ : Int, (wrap64 ((x3_1.length : Int) - 1)) = j_ := ⟨_, rfl⟩
      replace H : (if 0 ≤ (ji7) then (if (ji7) < (x3_1.length : Int) then (if ((rd_T50 x3_1 (ji7)).f1) = x7_1 then (if ((rd_T50 x3_1 (ji7)).f2) = t541 then (impl_timeline.l0 k1 a0 (x3_1.set ((ji7) : Int).toNat (⟨(rd_T50 x3_1 (ji7)).f0, wrap64 (((rd_T50 x3_1 (ji7)).f1) + 1), (rd_T50 x3_1 (ji7)).f2⟩ : S50)) (wrap64 (x7_1 + 1))) else (if x3_1.length < 5864062014805 then (impl_timeline.l0 k1 a0 (x3_1 ++ [(⟨x7_1, wrap64 (x7_1 + 1), t541⟩ : S50)]) (wrap64 (x7_1 + 1))) else (none))) else (if x3_1.length < 5864062014805 then (impl_timeline.l0 k1 a0 (x3_1 ++ [(⟨x7_1, wrap64 (x7_1 + 1), t541⟩ : S50)]) (wrap64 (x7_1 + 1))) else (none))) else (none)) else (none)) = some r := by first | (rw [hji7] at H; exact H) | (simp only [hji7] at H ⊢; exact H)
      (try rw [hji7] at A3)
      have hji7w : (IntKind.i64.wrap ((x3_1.length : Int) - 1)) = ji7 := (i64_w _).trans hji7
      by_cases c8 : 0 ≤ (ji7)
      ·
       rw [if_pos c8] at H
       have c8b0 : decide (0 ≤ (ji7)) = true := decide_eq_true c8
       clear c8
       by_cases c9 : (ji7) < (x3_1.length : Int)
       ·
        rw [if_pos c9] at H
        have c9b0 : decide ((ji7) < (x3_1.length : Int)) = true := decide_eq_true c9
        clear c9
        by_cases c10 : ((rd_T50 x3_1 (ji7)).f1) = x7_1
        ·
         rw [if_pos c10] at H
         have c10b0 : (((rd_T50 x3_1 (ji7)).f1) == x7_1) = true := beq_iff_eq.mpr c10
         have c10b1 : (((rd_T50 x3_1 (ji7)).f1) != x7_1) = false := bne_eq_false_iff_eq.mpr c10
         clear c10
         by_cases c11 : ((rd_T50 x3_1 (ji7)).f2) = t541
         ·
          rw [if_pos c11] at H
          have c11b0 : (((rd_T50 x3_1 (ji7)).f2) == t541) = true := beq_iff_eq.mpr c11
          have c11b1 : (((rd_T50 x3_1 (ji7)).f2) != t541) = false := bne_eq_false_iff_eq.mpr c11
          clear c11
          obtain ⟨y545, hy545⟩ : ∃ y_ : List (S50), y_ = (x3_1.set ((ji7) : Int).toNat (⟨(rd_T50 x3_1 (ji7)).f0, wrap64 (((rd_T50 x3_1 (ji7)).f1) + 1), (rd_T50 x3_1 (ji7)).f2⟩ : S50)) := ⟨_, rfl⟩
          replace H : (impl_timeline.l0 k1 a0 y545 (wrap64 (x7_1 + 1))) = some r := by first | (rw [hy545]; with_reducible exact H) | (have H2_ := (Option.bind_some _ _).symm.trans H; rw [hy545]; with_reducible exact H2_) | (have H2_ := (Option.bind_some _ _).symm.trans H; with_reducible exact H2_) | with_reducible exact H | (rw [hy545]; exact H) | exact H
          have Ny545 := Aside0.mk hy545
          clear hy545
          have H' := Aside0.mk H
          clear H
          go_wp2_with (first | (go_at_fn g; refine (HP.out _ x7_1 t541 ?hpb A3.out).mono ?_; (case hpb => repeat (first | (with_reducible first | exact HB.out | apply below_alloc | apply pw_below_drewN | apply below_drew1) | exact HB.out)); rintro e w13 ⟨rfl, hb⟩;  have n0_ := Aside0.mk (Kd.R_below (zqR HO_3.out) hb); have n1_ := Aside0.mk (below_step zq0 hb); clear HO_3; clear HB; have HO_3 := n0_; have HB := n1_; clear n0_ n1_; (try clear hb); (try clear hb2); (try clear hk); (try clear hi); obtain ⟨Ao14, co14, eo14⟩ := Kd.R_slice HO_3.out; subst eo14; have p542 : 0 ≤ ((ji7) : Int) := of_decide_eq_true zq3; have q542 : (ji7) < (x3_1.length : Int) := of_decide_eq_true zq3; obtain ⟨ad542, e542, hx542_0, hx542_1, hx542_2⟩ := at_T50 (Kd.R_reads' HO_3.out).2.2 (ji7) p542 q542; cases e542; replace p542 := eq_true p542; replace q542 := eq_true q542; have p543 : 0 ≤ ((ji7) : Int) := of_decide_eq_true zq3; have q543 : (ji7) < (x3_1.length : Int) := of_decide_eq_true zq3; obtain ⟨ad543, e543, hx543_0, hx543_1, hx543_2⟩ := at_T50 (Kd.R_reads' HO_3.out).2.2 (ji7) p543 q543; obtain rfl : ad542 = ad543 := (by injection e543); replace p543 := eq_true p543; replace q543 := eq_true q543; have p544 : 0 ≤ ((ji7) : Int) := of_decide_eq_true zq3; have q544 : (ji7) < (x3_1.length : Int) := of_decide_eq_true zq3; obtain ⟨ad544, e544, hx544_0, hx544_1, hx544_2⟩ := at_T50 (Kd.R_reads' HO_3.out).2.2 (ji7) p544 q544; obtain rfl : ad542 = ad544 := (by injection e544); replace p544 := eq_true p544; replace q544 := eq_true q544; have p12 : 0 ≤ ((ji7) : Int) := of_decide_eq_true zq3; have q12 : ((ji7) : Int) < ((x3_1.length : Int) : Int) := of_decide_eq_true zq3; obtain ⟨go12, co12, eo12, gb12, gl12, cl12, HG12⟩ := Kd.R_form HO_3.out (by omega); (first | cases eo12 | (injection eo12 with ea_ en_ ec_; (first | subst ea_ | (injection ea_ with ea_; subst ea_)); subst ec_; clear en_)); have GB12 := Aside0.mk gb12; have GG12 := Aside0.mk HG12; clear gb12 gl12 HG12; (first | simp only [add_plain] at hx542_0 | skip); (first | simp only [add_plain] at hx542_1 | skip); (first | simp only [add_plain] at hx542_2 | skip); (first | simp only [add_plain] at hx543_0 | skip); (first | simp only [add_plain] at hx543_1 | skip); (first | simp only [add_plain] at hx543_2 | skip); (first | simp only [add_plain] at hx544_0 | skip); (first | simp only [add_plain] at hx544_1 | skip); (first | simp only [add_plain] at hx544_2 | skip); obtain ⟨ce12, hcl12, hM12, hcc12, hfr12⟩ := Kd.R_elem HO_3.out z50 ((ji7) : Int) p12 q12; obtain rfl := k50_openM hM12; have hx12_0 : w13.cell? ⟨go12, ((ji7) : Int).toNat * 3, none⟩ = some (.int .i64 ((rd_T50 x3_1 (ji7)).f0)) := hcc12 0 _ rfl; have hx12_1 : w13.cell? ⟨go12, ((ji7) : Int).toNat * 3 + 1, none⟩ = some (.int .i64 ((rd_T50 x3_1 (ji7)).f1)) := hcc12 1 _ rfl; have hx12_2 : w13.cell? ⟨go12, ((ji7) : Int).toNat * 3 + 2, none⟩ = some (.int .i64 ((rd_T50 x3_1 (ji7)).f2)) := hcc12 2 _ rfl; have hf12_0 : w13.frozen? ⟨go12, ((ji7) : Int).toNat * 3, none⟩ = false := hfr12 0; have hf12_1 : w13.frozen? ⟨go12, ((ji7) : Int).toNat * 3 + 1, none⟩ = false := hfr12 1; have hf12_2 : w13.frozen? ⟨go12, ((ji7) : Int).toNat * 3 + 2, none⟩ = false := hfr12 2; clear hcl12 hcc12 hfr12 hM12; replace p12 := eq_true p12; replace q12 := eq_true q12; have HX15 := Aside0.mk (show Kd.R k50 50 w13 w.heap.size (fun _ => True) (.slice (some ⟨go12, 0, none⟩) x3_1.length co14) x3_1 from (zqR HO_3.out)); obtain ⟨ce15, hcl15, hM15, hcc15, hfr15⟩ := Kd.R_elem HX15.out z50 ((ji7) : Int) (of_decide_eq_true zq3) (by have h_ : ((ji7) : Int) < ((x3_1.length : Int) : Int) := of_decide_eq_true zq3; first | exact h_ | (have e_ := (Kd.R_reads' HO_3.out).1; omega) | simpa using h_); obtain rfl := k50_openM hM15; have HP15 := Kd.R_seg HX15.out ((ji7) : Int) (of_decide_eq_true zq3) (by have h_ : ((ji7) : Int) < ((x3_1.length : Int) : Int) := of_decide_eq_true zq3; first | exact h_ | (have e_ := (Kd.R_reads' HO_3.out).1; omega) | simpa using h_) (seg := [.int .i64 (wrap64 (((rd_T50 x3_1 (ji7)).f1) + 1))]) (j := 1) hcl15 hcc15 (show 2 ≤ 3 from by decide) (x' := (⟨(rd_T50 x3_1 (ji7)).f0, wrap64 (((rd_T50 x3_1 (ji7)).f1) + 1), (rd_T50 x3_1 (ji7)).f2⟩ : S50)) (k50_mkM _ _ _ (⟨(rd_T50 x3_1 (ji7)).f0, wrap64 (((rd_T50 x3_1 (ji7)).f1) + 1), (rd_T50 x3_1 (ji7)).f2⟩ : S50) ) (fun _ hk => hk); have hx15_1 := hcc15 1 _ rfl; (try simp only [show (k50).sz = 3 from rfl, Nat.mul_one, Nat.add_zero] at hx15_1); have hf15_1 := hfr15 1; (try simp only [show (k50).sz = 3 from rfl, Nat.mul_one, Nat.add_zero] at hf15_1); clear hcl15 hcc15 hfr15 hM15) | ((with_reducible refine gate_store (t := 3) (p := 47) rfl ?_); refine store_event (t := 3) (p := 47) (v := ?vo_w16) (w1 := (w13.setCell ⟨go12, ((ji7) : Int).toNat * 3 + 1, none⟩ (.int .i64 (wrap64 (((rd_T50 x3_1 (ji7)).f1) + 1))))) ?hg ?ho ?hn ?hr ?_; (case ho => rfl); (case hg => rfl); (case hn => rfl); (case hr => first | (go_simp; done) | (go_simp; rfl)); intro w16 hw; have hg : w13.grownBy w16 (some go12) := (by rw [hw]; exact HP15.2); have hp_ : Kd.R k50 50 w16 w.heap.size (fun _ => True) (.slice (some ⟨go12, 0, none⟩) x3_1.length co14) y545 := (by rw [hw, Ny545.out]; exact HP15.1); clear HP15; have n0_ := Aside0.mk (hp_); have n1_ := Aside0.mk ((by rw [hw]; exact below_set (HB.out) GB12.out : Below w.heap.size w w16)); clear HO_3; clear HB; have HO_3 := n0_; have HB := n1_; clear n0_ n1_; clear hg hw hp_))
          go_roundg k1
          case measure => have := HK1.out; omega
          case rel => exact ⟨(y545), (wrap64 (x7_1 + 1)), (by first | rfl | (simp; done) | (simp [*]; done)), H', ⟨by have := HK1.out; omega⟩, ⟨by (with_reducible repeat (first | apply Kd.R_alloc | apply Kd.R_drewN | apply Kd.R_drew)); exact HO_3.out⟩, ⟨by repeat (first | (with_reducible first | exact HB.out | apply below_alloc | apply pw_below_drewN | apply below_drew1) | exact HB.out)⟩⟩
         ·
          rw [if_neg c11] at H
          have c11b0 : (((rd_T50 x3_1 (ji7)).f2) == t541) = false := beq_eq_false_iff_ne.mpr c11
          have c11b1 : (((rd_T50 x3_1 (ji7)).f2) != t541) = true := bne_iff_ne.mpr c11
          by_cases c17 : x3_1.length < 5864062014805
          ·
           rw [if_pos c17] at H
           have LMc17 := Aside0.mk c17
           clear c17
           obtain ⟨y546, hy546⟩ : ∃ y_ : List (S50), y_ = (x3_1 ++ [(⟨x7_1, wrap64 (x7_1 + 1), t541⟩ : S50)]) := ⟨_, rfl⟩
           replace H : (impl_timeline.l0 k1 a0 y546 (wrap64 (x7_1 + 1))) = some r := by first | (rw [hy546]; with_reducible exact H) | (have H2_ := (Option.bind_some _ _).symm.trans H; rw [hy546]; with_reducible exact H2_) | (have H2_ := (Option.bind_some _ _).symm.trans H; with_reducible exact H2_) | with_reducible exact H | (rw [hy546]; exact H) | exact H
           have Ny546 := Aside0.mk hy546
           clear hy546
           have H' := Aside0.mk H
           clear H
           go_wp2_with (first | (go_at_fn g; refine (HP.out _ x7_1 t541 ?hpb A3.out).mono ?_; (case hpb => repeat (first | (with_reducible first | exact HB.out | apply below_alloc | apply pw_below_drewN | apply below_drew1) | exact HB.out)); rintro e w18 ⟨rfl, hb⟩;  have n0_ := Aside0.mk (Kd.R_below (zqR HO_3.out) hb); have n1_ := Aside0.mk (below_step zq0 hb); clear HO_3; clear HB; have HO_3 := n0_; have HB := n1_; clear n0_ n1_; (try clear hb); (try clear hb2); (try clear hk); (try clear hi); obtain ⟨Ao19, co19, eo19⟩ := Kd.R_slice HO_3.out; subst eo19; have p542 : 0 ≤ ((ji7) : Int) := of_decide_eq_true zq3; have q542 : (ji7) < (x3_1.length : Int) := of_decide_eq_true zq3; obtain ⟨ad542, e542, hx542_0, hx542_1, hx542_2⟩ := at_T50 (Kd.R_reads' HO_3.out).2.2 (ji7) p542 q542; cases e542; replace p542 := eq_true p542; replace q542 := eq_true q542; have p543 : 0 ≤ ((ji7) : Int) := of_decide_eq_true zq3; have q543 : (ji7) < (x3_1.length : Int) := of_decide_eq_true zq3; obtain ⟨ad543, e543, hx543_0, hx543_1, hx543_2⟩ := at_T50 (Kd.R_reads' HO_3.out).2.2 (ji7) p543 q543; obtain rfl : ad542 = ad543 := (by injection e543); replace p543 := eq_true p543; replace q543 := eq_true q543) | ((with_reducible refine gate_builtin (b := .append) (xs := #[.tmp 48, .tmp 54]) rfl ?_); at_builtin; refine Kd.R_append k50 (w0 := w) w.heap.size rfl (.tmp 48) (.tmp 54) 40 50 (.agg #[(.int .i64 0), (.int .i64 0), (.int .i64 0)]) 24 rfl Try.underlying40 info50 rfl (by decide) (by omega) (.slice (some ad542) x3_1.length co19) x3_1 (⟨x7_1, wrap64 (x7_1 + 1), t541⟩ : S50) [.int .i64 x7_1, .int .i64 (wrap64 (x7_1 + 1)), .int .i64 t541] (fun _ => True) (fun _ => False) rfl rfl ?aP (fun _ hk => hk.elim) ?aF ?aO ?aB ?aS ?aL ?_; (case aP => exact k50_mkM _ _ _ (⟨x7_1, wrap64 (x7_1 + 1), t541⟩ : S50)); (case aB => exact zq0); (case aF => exact (fun _ _ => trivial)); (case aO => exact (zqR HO_3.out)); (case aS => exact (below_size zq0)); (case aL => have := LMc17.out; omega); intro v547 w20 ho hb hg hat; rw [← Ny546.out] at ho; have n0_ := Aside0.mk (hb); have n1_ := Aside0.mk (ho); clear HB; clear HO_3; have HB := n0_; have HO548 := n1_; clear n0_ n1_; clear ho hb hg hat))
           go_roundg k1
           case measure => have := HK1.out; omega
           case rel => exact ⟨(y546), (wrap64 (x7_1 + 1)), (by first | rfl | (simp; done) | (simp [*]; done)), H', ⟨by have := HK1.out; omega⟩, ⟨by (with_reducible repeat (first | apply Kd.R_alloc | apply Kd.R_drewN | apply Kd.R_drew)); exact HO548.out⟩, ⟨by repeat (first | (with_reducible first | exact HB.out | apply below_alloc | apply pw_below_drewN | apply below_drew1) | exact HB.out)⟩⟩
          ·
           rw [if_neg c17] at H
           exact absurd H (by simp)
        ·
         rw [if_neg c10] at H
         have c10b0 : (((rd_T50 x3_1 (ji7)).f1) == x7_1) = false := beq_eq_false_iff_ne.mpr c10
         have c10b1 : (((rd_T50 x3_1 (ji7)).f1) != x7_1) = true := bne_iff_ne.mpr c10
         by_cases c21 : x3_1.length < 5864062014805
         ·
          rw [if_pos c21] at H
          have LMc21 := Aside0.mk c21
          clear c21
          obtain ⟨y549, hy549⟩ : ∃ y_ : List (S50), y_ = (x3_1 ++ [(⟨x7_1, wrap64 (x7_1 + 1), t541⟩ : S50)]) := ⟨_, rfl⟩
          replace H : (impl_timeline.l0 k1 a0 y549 (wrap64 (x7_1 + 1))) = some r := by first | (rw [hy549]; with_reducible exact H) | (have H2_ := (Option.bind_some _ _).symm.trans H; rw [hy549]; with_reducible exact H2_) | (have H2_ := (Option.bind_some _ _).symm.trans H; with_reducible exact H2_) | with_reducible exact H | (rw [hy549]; exact H) | exact H
          have Ny549 := Aside0.mk hy549
          clear hy549
          have H' := Aside0.mk H
          clear H
          go_wp2_with (first | (go_at_fn g; refine (HP.out _ x7_1 t541 ?hpb A3.out).mono ?_; (case hpb => repeat (first | (with_reducible first | exact HB.out | apply below_alloc | apply pw_below_drewN | apply below_drew1) | exact HB.out)); rintro e w22 ⟨rfl, hb⟩;  have n0_ := Aside0.mk (Kd.R_below (zqR HO_3.out) hb); have n1_ := Aside0.mk (below_step zq0 hb); clear HO_3; clear HB; have HO_3 := n0_; have HB := n1_; clear n0_ n1_; (try clear hb); (try clear hb2); (try clear hk); (try clear hi); obtain ⟨Ao23, co23, eo23⟩ := Kd.R_slice HO_3.out; subst eo23; have p542 : 0 ≤ ((ji7) : Int) := of_decide_eq_true zq3; have q542 : (ji7) < (x3_1.length : Int) := of_decide_eq_true zq3; obtain ⟨ad542, e542, hx542_0, hx542_1, hx542_2⟩ := at_T50 (Kd.R_reads' HO_3.out).2.2 (ji7) p542 q542; cases e542; replace p542 := eq_true p542; replace q542 := eq_true q542) | ((with_reducible refine gate_builtin (b := .append) (xs := #[.tmp 48, .tmp 54]) rfl ?_); at_builtin; refine Kd.R_append k50 (w0 := w) w.heap.size rfl (.tmp 48) (.tmp 54) 40 50 (.agg #[(.int .i64 0), (.int .i64 0), (.int .i64 0)]) 24 rfl Try.underlying40 info50 rfl (by decide) (by omega) (.slice (some ad542) x3_1.length co23) x3_1 (⟨x7_1, wrap64 (x7_1 + 1), t541⟩ : S50) [.int .i64 x7_1, .int .i64 (wrap64 (x7_1 + 1)), .int .i64 t541] (fun _ => True) (fun _ => False) rfl rfl ?aP (fun _ hk => hk.elim) ?aF ?aO ?aB ?aS ?aL ?_; (case aP => exact k50_mkM _ _ _ (⟨x7_1, wrap64 (x7_1 + 1), t541⟩ : S50)); (case aB => exact zq0); (case aF => exact (fun _ _ => trivial)); (case aO => exact (zqR HO_3.out)); (case aS => exact (below_size zq0)); (case aL => have := LMc21.out; omega); intro v550 w24 ho hb hg hat; rw [← Ny549.out] at ho; have n0_ := Aside0.mk (hb); have n1_ := Aside0.mk (ho); clear HB; clear HO_3; have HB := n0_; have HO551 := n1_; clear n0_ n1_; clear ho hb hg hat))
          go_roundg k1
          case measure => have := HK1.out; omega
          case rel => exact ⟨(y549), (wrap64 (x7_1 + 1)), (by first | rfl | (simp; done) | (simp [*]; done)), H', ⟨by have := HK1.out; omega⟩, ⟨by (with_reducible repeat (first | apply Kd.R_alloc | apply Kd.R_drewN | apply Kd.R_drew)); exact HO551.out⟩, ⟨by repeat (first | (with_reducible first | exact HB.out | apply below_alloc | apply pw_below_drewN | apply below_drew1) | exact HB.out)⟩⟩
         ·
          rw [if_neg c21] at H
          exact absurd H (by simp)
       ·
        rw [if_neg c9] at H
        exact absurd H (by simp)
      ·
       rw [if_neg c8] at H
       exact absurd H (by simp)
     ·
      rw [if_neg c6] at H
      have c6b0 : decide (0 < (x3_1.length : Int)) = false := decide_eq_false c6
      have c6b1 : decide (0 < x3_1.length) = false := decide_eq_false (by omega)
      clear c6
      by_cases c25 : x3_1.length < 5864062014805
      ·
       rw [if_pos c25] at H
       have LMc25 := Aside0.mk c25
       clear c25
       obtain ⟨y552, hy552⟩ : ∃ y_ : List (S50), y_ = (x3_1 ++ [(⟨x7_1, wrap64 (x7_1 + 1), t541⟩ : S50)]) := ⟨_, rfl⟩
       replace H : (impl_timeline.l0 k1 a0 y552 (wrap64 (x7_1 + 1))) = some r := by first | (rw [hy552]; with_reducible exact H) | (have H2_ := (Option.bind_some _ _).symm.trans H; rw [hy552]; with_reducible exact H2_) | (have H2_ := (Option.bind_some _ _).symm.trans H; with_reducible exact H2_) | with_reducible exact H | (rw [hy552]; exact H) | exact H
       have Ny552 := Aside0.mk hy552
       clear hy552
       have H' := Aside0.mk H
       clear H
       go_wp2_with (first | (go_at_fn g; refine (HP.out _ x7_1 t541 ?hpb A3.out).mono ?_; (case hpb => repeat (first | (with_reducible first | exact HB.out | apply below_alloc | apply pw_below_drewN | apply below_drew1) | exact HB.out)); rintro e w26 ⟨rfl, hb⟩;  have n0_ := Aside0.mk (Kd.R_below (zqR HO_3.out) hb); have n1_ := Aside0.mk (below_step zq0 hb); clear HO_3; clear HB; have HO_3 := n0_; have HB := n1_; clear n0_ n1_; (try clear hb); (try clear hb2); (try clear hk); (try clear hi); obtain ⟨Ao27, co27, eo27⟩ := Kd.R_slice HO_3.out; subst eo27) | ((with_reducible refine gate_builtin (b := .append) (xs := #[.tmp 48, .tmp 54]) rfl ?_); at_builtin; refine Kd.R_append k50 (w0 := w) w.heap.size rfl (.tmp 48) (.tmp 54) 40 50 (.agg #[(.int .i64 0), (.int .i64 0), (.int .i64 0)]) 24 rfl Try.underlying40 info50 rfl (by decide) (by omega) (.slice Ao27 x3_1.length co27) x3_1 (⟨x7_1, wrap64 (x7_1 + 1), t541⟩ : S50) [.int .i64 x7_1, .int .i64 (wrap64 (x7_1 + 1)), .int .i64 t541] (fun _ => True) (fun _ => False) rfl rfl ?aP (fun _ hk => hk.elim) ?aF ?aO ?aB ?aS ?aL ?_; (case aP => exact k50_mkM _ _ _ (⟨x7_1, wrap64 (x7_1 + 1), t541⟩ : S50)); (case aB => exact zq0); (case aF => exact (fun _ _ => trivial)); (case aO => exact (zqR HO_3.out)); (case aS => exact (below_size zq0)); (case aL => have := LMc25.out; omega); intro v553 w28 ho hb hg hat; rw [← Ny552.out] at ho; have n0_ := Aside0.mk (hb); have n1_ := Aside0.mk (ho); clear HB; clear HO_3; have HB := n0_; have HO554 := n1_; clear n0_ n1_; clear ho hb hg hat))
       go_roundg k1
       case measure => have := HK1.out; omega
       case rel => exact ⟨(y552), (wrap64 (x7_1 + 1)), (by first | rfl | (simp; done) | (simp [*]; done)), H', ⟨by have := HK1.out; omega⟩, ⟨by (with_reducible repeat (first | apply Kd.R_alloc | apply Kd.R_drewN | apply Kd.R_drew)); exact HO554.out⟩, ⟨by repeat (first | (with_reducible first | exact HB.out | apply below_alloc | apply pw_below_drewN | apply below_drew1) | exact HB.out)⟩⟩
      ·
       rw [if_neg c25] at H
       exact absurd H (by simp)
   ·
    rw [if_neg c2] at H
    have c2b0 : decide (x7_1 < 240) = false := decide_eq_false c2
    clear c2
    obtain rfl := Option.some.inj H
    go_wp2
    go_ret
    exact ⟨_, by first | rfl | (simp [errW_none, errW_some] <;> rfl) | (simp [*, errW_none, errW_some] <;> rfl), by (with_reducible repeat (first | apply Kd.R_alloc | apply Kd.R_drewN | apply Kd.R_drew)); exact HO_3.out, by repeat (first | (with_reducible first | exact HB.out | apply below_alloc | apply pw_below_drewN | apply below_drew1) | exact HB.out)⟩

end Go.Proofs.Ytklepiechbnenaa.Q
namespace Go.Proofs.Ytklepiechbnenaa.Q
open Go.RowKit Go.Proofs.YtklepiechbnenaaW.PrintWords Go.Proofs.YtklepiechbnenaaW.PrintLast Go.Proofs.YtklepiechbnenaaW.PrintMore
attribute [local go_sem] max2_int min2_int max_two min_two max_three min_three max_four min_four   -- for this text's walks alone
set_option linter.unusedVariables false
set_option linter.unusedSimpArgs false

/-! ### impl_TopicTimeline: function 19 -/
def impl_TopicTimeline.f (k : Nat) (l0 : List S31) (a1 a2 : Int) : Option (List S50 × Bool) := if l0.length ≤ 4611686018427387904 then ((impl_IsConsistent.f k l0).bind fun t => (if t = true then ((impl_isTopicArea.f a1 a2).bind fun u => (if u = true then ((impl_timeline.f k (lvl l0 a1 a2)).bind fun v => some (v, true)) else (some ([], false)))) else (some ([], false)))) else none
theorem impl_TopicTimeline.mono : ∀ a0 a1 a2 k, LeO (impl_TopicTimeline.f k a0 a1 a2) (impl_TopicTimeline.f (k + 1) a0 a1 a2) := by
 intro a0 a1 a2 k
 unfold impl_TopicTimeline.f
 refine LeO.ite (LeO.bind (impl_IsConsistent.mono a0 k) fun _ => LeO.ite (LeO.bind (LeO.refl _) fun _ => LeO.ite (LeO.bind (impl_timeline.mono _ k) fun _ => LeO.refl _) (LeO.refl _)) (LeO.refl _)) (LeO.refl _)
/-- The level that TopicTimeline hands on. -/
theorem impl_TopicTimeline.level (B1 B2 B3 : Nat) (A0 : Option Addr) (c0 : Nat) (l0 : List S31) (a1 a2 : Int) (w0 w : World) (hr0 : Kd.C k31 w0 A0 l0.length l0) (hc0 : l0.length ≤ c0) (hb0 : Below w0.heap.size w0 w) (hl : l0.length ≤ 4611686018427387904)
  (h1 : w.heap[B1]? = some (.cells #[.slice A0 l0.length c0] 24 (0, 0))) (h2 : w.heap[B2]? = some (.cells #[.int .i64 a1] 3 (0, 0))) (h3 : w.heap[B3]? = some (.cells #[.int .i64 a2] 3 (0, 0))) :
  ∀ (W : World) (h r : Int), Below w.heap.size w W → some (lvl l0 a1 a2 h) = some r → Calls Try.prog 80 (#[.int .i64 h] ++ #[.pointer (some ⟨B1, 0, none⟩), .pointer (some ⟨B2, 0, none⟩), .pointer (some ⟨B3, 0, none⟩)]) W fun e w' => e = .returned (.int .i64 r) ∧ Below W.heap.size W w' := by
 intro W h r hb hr
 obtain rfl := Option.some.inj hr
 have g1 : W.cell? ⟨B1, 0, none⟩ = some (.slice A0 l0.length c0) := blk_cell (blk_below h1 hb) 0
 have g2 : W.cell? ⟨B2, 0, none⟩ = some (.int .i64 a1) := blk_cell (blk_below h2 hb) 0
 have g3 : W.cell? ⟨B3, 0, none⟩ = some (.int .i64 a2) := blk_cell (blk_below h3 hb) 0
 have HR := Aside0.mk (Kd.C_below (Kd.C_below hr0 hb0) hb)
 have HC := Aside0.mk hc0
 obtain ⟨k1, hf⟩ := (ev_topicLevel l0 hl a1 a2 h).rounds
 have HF := Aside0.mk hf
 clear hf
 clear hr0 hc0 hb0 h1 h2 h3 hb hr hl
 show Calls Try.prog 80 #[.int .i64 h, .pointer (some ⟨B1, 0, none⟩), .pointer (some ⟨B2, 0, none⟩), .pointer (some ⟨B3, 0, none⟩)] W _
 go_enter Try.func80, Try.ntmps80
 go_wp2_with (go_at_call 72; refine (impl_topicLevel.calls k1 A0 c0 l0 a1 a2 h (lvl l0 a1 a2 h) _ HR.out HC.out HF.out).mono ?_; rintro e w' ⟨rfl, hb'⟩)
 go_ret
 exact ⟨rfl, hb'⟩
set_option maxHeartbeats 4000000 in
theorem impl_TopicTimeline.calls (k : Nat) (A0 : Option Addr) (c0 : Nat) (l0 : List S31) (a1 a2 : Int) (r1 : List S50) (r2 : Bool) (w : World) (hr0 : Kd.C k31 w A0 l0.length l0) (hc0 : l0.length ≤ c0) (h : impl_TopicTimeline.f k l0 a1 a2 = some (r1, r2)) :
  Calls Try.prog 19 #[.slice A0 l0.length c0, .int .i64 a1, .int .i64 a2] w fun e w' => ∃ v0_ : Value, e = .returned (.tuple #[v0_, .bool r2]) ∧ Kd.R k50 50 w' w.heap.size (fun _ => True) v0_ r1 ∧ Below w.heap.size w w' := by
 have hu := Try.underlying31
 unfold impl_TopicTimeline.f at h
 by_cases hl : l0.length ≤ 4611686018427387904
 ·
  rw [if_pos hl] at h
  obtain ⟨t, ht, h⟩ := Option.bind_eq_some_iff.mp h
  have HR0 := Aside0.mk hr0
  have HC0 := Aside0.mk hc0
  have HT := Aside0.mk ht
  have HL := Aside0.mk hl
  clear hr0 hc0 ht hl
  -- the boxes
  obtain ⟨W1, hW1⟩ : ∃ W1, W1 = w.alloc (.cells #[.slice A0 l0.length c0] 24) := ⟨_, rfl⟩
  have a1B : Below w.heap.size w W1 := by rw [hW1]; exact (Below.refl _ w).alloc (Nat.le_refl _) _
  have a1N : W1.heap[w.heap.size]? = some (.cells #[.slice A0 l0.length c0] 24 (0, 0)) := by rw [hW1]; exact heap_alloc_new w _
  have a1S : W1.heap.size = w.heap.size + 1 := by rw [hW1]; show (w.heap.push _).size = _; rw [Array.size_push]
  obtain ⟨W2, hW2⟩ : ∃ W2, W2 = W1.alloc (.cells #[.int .i64 a1] 3) := ⟨_, rfl⟩
  have a2B : Below W1.heap.size W1 W2 := by rw [hW2]; exact (Below.refl _ W1).alloc (Nat.le_refl _) _
  have a2N : W2.heap[W1.heap.size]? = some (.cells #[.int .i64 a1] 3 (0, 0)) := by rw [hW2]; exact heap_alloc_new W1 _
  have a2S : W2.heap.size = W1.heap.size + 1 := by rw [hW2]; show (W1.heap.push _).size = _; rw [Array.size_push]
  obtain ⟨WL, hWL⟩ : ∃ WL, WL = W2.alloc (.cells #[.int .i64 a2] 3) := ⟨_, rfl⟩
  have a3B : Below W2.heap.size W2 WL := by rw [hWL]; exact (Below.refl _ W2).alloc (Nat.le_refl _) _
  have a3N : WL.heap[W2.heap.size]? = some (.cells #[.int .i64 a2] 3 (0, 0)) := by rw [hWL]; exact heap_alloc_new W2 _
  have bB : Below w.heap.size w WL := (a1B.trans (a2B.mono (by omega))).trans (a3B.mono (by omega))
  have g1 : WL.heap[w.heap.size]? = some (.cells #[.slice A0 l0.length c0] 24 (0, 0)) := blk_below (blk_below a1N a2B) a3B
  have g2 : WL.heap[W1.heap.size]? = some (.cells #[.int .i64 a1] 3 (0, 0)) := blk_below a2N a3B
  rw [a1S] at g2
  have g3 : WL.heap[W2.heap.size]? = some (.cells #[.int .i64 a2] 3 (0, 0)) := a3N
  rw [a2S, a1S] at g3
  have g2c : WL.cell? ⟨w.heap.size + 1, 0, none⟩ = some (.int .i64 a1) := blk_cell g2 0
  have g3c : WL.cell? ⟨w.heap.size + 1 + 1, 0, none⟩ = some (.int .i64 a2) := blk_cell g3 0
  have BB := Aside0.mk bB
  have GB1 := Aside0.mk g1
  have GB2 := Aside0.mk g2
  have GB3 := Aside0.mk g3
  have HW := Aside0.mk (show ((w.alloc (.cells #[.slice A0 l0.length c0] 24)).alloc (.cells #[.int .i64 a1] 3)).alloc (.cells #[.int .i64 a2] 3) = WL from by rw [hWL, hW2, hW1])
  have HCW := Aside0.mk (Kd.C_below HR0.out BB.out)
  have g1c : WL.cell? ⟨w.heap.size, 0, none⟩ = some (.slice A0 l0.length c0) := blk_cell g1 0
  clear a1B a1N a1S g1 a2B a2N a2S a3B a3N g2 g3 hW1 hW2 hWL bB
  cases t with
  | false =>
   rw [if_neg (by decide)] at h
   have hr : r1 = [] ∧ r2 = false := ⟨(congrArg Prod.fst (Option.some.inj h)).symm, (congrArg Prod.snd (Option.some.inj h)).symm⟩
   obtain ⟨rfl, rfl⟩ := hr
   clear h
   skip
   go_enter Try.func19, Try.ntmps19
   go_wp2_with (first | (go_at_call 12; rw [HW.out]; refine (impl_IsConsistent.calls k A0 c0 l0 false _ HCW.out HC0.out HT.out).mono ?_; rintro e w' ⟨rfl, hb'⟩))
   go_ret2
   exact ⟨_, rfl, Kd.R_nil _ _ _ _ _, BB.out.trans (hb'.mono BB.out.size)⟩
  | true =>
   rw [if_pos rfl] at h
   obtain ⟨u, hu2, h⟩ := Option.bind_eq_some_iff.mp h
   have HU := Aside0.mk hu2
   clear hu2
   cases u with
   | false =>
    rw [if_neg (by decide)] at h
    have hr : r1 = [] ∧ r2 = false := ⟨(congrArg Prod.fst (Option.some.inj h)).symm, (congrArg Prod.snd (Option.some.inj h)).symm⟩
    obtain ⟨rfl, rfl⟩ := hr
    clear h
    go_enter Try.func19, Try.ntmps19
    go_wp2_with (first | (go_at_call 12; rw [HW.out]; refine (impl_IsConsistent.calls k A0 c0 l0 true _ HCW.out HC0.out HT.out).mono ?_; rintro e w' ⟨rfl, hb'⟩; have HB1 := Aside0.mk hb'; have q2 := (hb'.cell (World.block_lt_of_cell? _ _ g2c)).trans g2c; have q3 := (hb'.cell (World.block_lt_of_cell? _ _ g3c)).trans g3c; clear hb') | (go_at_call 70; refine (impl_isTopicArea.calls a1 a2 false _ HU.out).mono ?_; rintro e w'' ⟨rfl, hb''⟩; replace hb'' := hb''.below))
    go_ret2
    exact ⟨_, rfl, Kd.R_nil _ _ _ _ _, (BB.out.trans (HB1.out.mono BB.out.size)).trans (hb''.mono (Nat.le_trans BB.out.size HB1.out.size))⟩
   | true =>
    rw [if_pos rfl] at h
    obtain ⟨v, hv, h⟩ := Option.bind_eq_some_iff.mp h
    have hr : r1 = v ∧ r2 = true := ⟨(congrArg Prod.fst (Option.some.inj h)).symm, (congrArg Prod.snd (Option.some.inj h)).symm⟩
    obtain ⟨rfl, rfl⟩ := hr
    have HV := Aside0.mk hv
    clear h hv
    have eg : ∀ args w, (callFunc 80 args).run Try.prog w = .ok (.enter 80 args) w := enters_of Try.func80 (by kernel_rfl) rfl
    go_enter Try.func19, Try.ntmps19
    go_wp2_with (first | (go_at_call 12; rw [HW.out]; refine (impl_IsConsistent.calls k A0 c0 l0 true _ HCW.out HC0.out HT.out).mono ?_; rintro e w' ⟨rfl, hb'⟩; have HB1 := Aside0.mk hb'; have q2 := (hb'.cell (World.block_lt_of_cell? _ _ g2c)).trans g2c; have q3 := (hb'.cell (World.block_lt_of_cell? _ _ g3c)).trans g3c; clear hb') | (go_at_call 70; refine (impl_isTopicArea.calls a1 a2 true _ HU.out).mono ?_; rintro e w'' ⟨rfl, hb''⟩; replace hb'' := hb''.below; have HB2 := Aside0.mk (HB1.out.trans (hb''.mono HB1.out.size)); clear hb'') | (go_at_call 79; refine (impl_timeline.calls k 80 #[.pointer (some ⟨w.heap.size, 0, none⟩), .pointer (some ⟨w.heap.size + 1, 0, none⟩), .pointer (some ⟨w.heap.size + 1 + 1, 0, none⟩)] eg _ r1 _ ?hpt HV.out).mono ?_; (case hpt => exact impl_TopicTimeline.level _ _ _ A0 c0 l0 a1 a2 w _ HR0.out HC0.out (BB.out.trans (HB2.out.mono BB.out.size)) HL.out (blk_below GB1.out HB2.out) (blk_below GB2.out HB2.out) (blk_below GB3.out HB2.out)); rintro e w3 ⟨v3, rfl, ho3, hb3⟩))
    go_ret2
    exact ⟨_, rfl, Kd.R_lower ho3 (Nat.le_trans BB.out.size HB2.out.size), (BB.out.trans (HB2.out.mono BB.out.size)).trans (hb3.mono (Nat.le_trans BB.out.size HB2.out.size))⟩
 ·
  rw [if_neg hl] at h
  cases h

end Go.Proofs.Ytklepiechbnenaa.Q
namespace Go.Proofs.Ytklepiechbnenaa.Q
open Go.RowKit Go.Proofs.YtklepiechbnenaaW.PrintWords Go.Proofs.YtklepiechbnenaaW.PrintLast Go.Proofs.YtklepiechbnenaaW.PrintMore
attribute [local go_sem] max2_int min2_int max_two min_two max_three min_three max_four min_four   -- for this text's walks alone
set_option linter.unusedVariables false
set_option linter.unusedSimpArgs false

/-! ### spec_l15Topic: function 81 -/
def spec_l15Topic.f (a0 : Int) : Option (Bool) := (spec_l1In.f a0 1 5).bind fun t555 => (some t555)
set_option maxHeartbeats 8000000 in
set_option maxRecDepth 100000 in
theorem spec_l15Topic.calls (a0 : Int) (r : Bool) (w : World) (h : spec_l15Topic.f a0 = some r) :
  Calls Try.prog 81 #[.int .i64 a0] w fun e w' => e = .returned (.bool r) ∧ Drawn0 w w' := by
 have H : ((spec_l1In.f a0 1 5).bind fun t555 => (some t555)) = some r := h
 clear h
 replace H := Option.bind_eq_some_iff.mp H
 obtain ⟨t555, A20, H⟩ := H
 replace H : (some t555) = some r := H
 have A2 := Aside0.mk A20
 clear A20
 obtain rfl := Option.some.inj H
 go_enter Try.func81, Try.ntmps81
 go_wp2_with (first | ((with_reducible refine gate_callee (f := 101) rfl ?_); refine goesL_ (some 4) rfl rfl Try.func101 (by kernel_rfl) rfl #[.int .i64 a0, .int .i64 1, .int .i64 5] rfl zq1 ?_; (with_reducible refine (spec_l1In.calls a0 1 5 t555 _ A2.out).mono ?_); rintro e w' ⟨rfl, ⟨nd, rfl⟩⟩; refine ⟨_, rfl, ?_⟩))
 go_ret
 exact ⟨by first | rfl | (simp; done) | (simp [*]; done), by repeat (first | exact Drawn0.refl _ | apply Drawn0.step)⟩

end Go.Proofs.Ytklepiechbnenaa.Q
namespace Go.Proofs.Ytklepiechbnenaa.Q
open Go.RowKit Go.Proofs.YtklepiechbnenaaW.PrintWords Go.Proofs.YtklepiechbnenaaW.PrintLast Go.Proofs.YtklepiechbnenaaW.PrintMore
attribute [local go_sem] max2_int min2_int max_two min_two max_three min_three max_four min_four   -- for this text's walks alone
set_option linter.unusedVariables false
set_option linter.unusedSimpArgs false

/-! ### spec_l15Area: function 82 -/
def spec_l15Area.f (a0 : Int) : Option (Bool) := (spec_l1In.f a0 1 9).bind fun t556 => (some t556)
set_option maxHeartbeats 8000000 in
set_option maxRecDepth 100000 in
theorem spec_l15Area.calls (a0 : Int) (r : Bool) (w : World) (h : spec_l15Area.f a0 = some r) :
  Calls Try.prog 82 #[.int .i64 a0] w fun e w' => e = .returned (.bool r) ∧ Drawn0 w w' := by
 have H : ((spec_l1In.f a0 1 9).bind fun t556 => (some t556)) = some r := h
 clear h
 replace H := Option.bind_eq_some_iff.mp H
 obtain ⟨t556, A20, H⟩ := H
 replace H : (some t556) = some r := H
 have A2 := Aside0.mk A20
 clear A20
 obtain rfl := Option.some.inj H
 go_enter Try.func82, Try.ntmps82
 go_wp2_with (first | ((with_reducible refine gate_callee (f := 101) rfl ?_); refine goesL_ (some 4) rfl rfl Try.func101 (by kernel_rfl) rfl #[.int .i64 a0, .int .i64 1, .int .i64 9] rfl zq1 ?_; (with_reducible refine (spec_l1In.calls a0 1 9 t556 _ A2.out).mono ?_); rintro e w' ⟨rfl, ⟨nd, rfl⟩⟩; refine ⟨_, rfl, ?_⟩))
 go_ret
 exact ⟨by first | rfl | (simp; done) | (simp [*]; done), by repeat (first | exact Drawn0.refl _ | apply Drawn0.step)⟩

end Go.Proofs.Ytklepiechbnenaa.Q
namespace Go.Proofs.Ytklepiechbnenaa.Q
open Go.RowKit Go.Proofs.YtklepiechbnenaaW.PrintWords Go.Proofs.YtklepiechbnenaaW.PrintLast Go.Proofs.YtklepiechbnenaaW.PrintMore
attribute [local go_sem] max2_int min2_int max_two min_two max_three min_three max_four min_four   -- for this text's walks alone
set_option linter.unusedVariables false
set_option linter.unusedSimpArgs false

/-! ### spec_l15Level: function 83 -/
def spec_l15Level.l0 : Nat → List (S31) → Int → Int → Int → Int → Option (Int)
 | 0, _, _, _, _, _ => none
 | k + 1, x0, x1, x2, x3, x9 => if x9 < (x0.length : Int) then (if 0 ≤ x9 then (if ((rd_T31 x0 x9).f1) = x1 then (if ((rd_T31 x0 x9).f3) = x2 then ((spec_l1In.f x3 ((rd_T31 x0 x9).f4) (wrap64 (((rd_T31 x0 x9).f5) - 1))).bind fun t559 => (if t559 = true then (some ((rd_T31 x0 x9).f2)) else (spec_l15Level.l0 k x0 x1 x2 x3 (wrap64 (x9 + 1))))) else (spec_l15Level.l0 k x0 x1 x2 x3 (wrap64 (x9 + 1)))) else (spec_l15Level.l0 k x0 x1 x2 x3 (wrap64 (x9 + 1)))) else (none)) else (some 0)
def spec_l15Level.f (k : Nat) (l0 : List (S31)) (a1 : Int) (a2 : Int) (a3 : Int) : Option (Int) := spec_l15Level.l0 k l0 a1 a2 a3 0
theorem spec_l15Level.mono_l : ∀ k, (∀ y0 y1 y2 y3 y4, LeO (spec_l15Level.l0 k y0 y1 y2 y3 y4) (spec_l15Level.l0 (k + 1) y0 y1 y2 y3 y4))
 | 0 => fun _ _ _ _ _ r h => by simp [spec_l15Level.l0] at h
 | k + 1 => by
  have ih0 := spec_l15Level.mono_l k
  ·
   intro y0 y1 y2 y3 y4
   unfold spec_l15Level.l0
   repeat' first
   | (with_reducible exact ih0 _ _ _ _ _)
   | (with_reducible exact LeO.refl _)
   | (with_reducible exact LeO.none _)
   | (with_reducible refine LeO.ite ?_ ?_)
   | (with_reducible refine LeO.bind ?_ (fun _ => ?_))
   | exact ih0 _ _ _ _ _
   | exact LeO.none _
   | refine LeO.ite ?_ ?_
   | refine LeO.bind ?_ (fun _ => ?_)
theorem spec_l15Level.mono : ∀ a0 a1 a2 a3 k, LeO (spec_l15Level.f k a0 a1 a2 a3) (spec_l15Level.f (k + 1) a0 a1 a2 a3) := by
 intro a0 a1 a2 a3 k
 have ih0 := spec_l15Level.mono_l k
 unfold spec_l15Level.f
 repeat' first
   | (with_reducible exact ih0 _ _ _ _ _)
   | (with_reducible exact LeO.refl _)
   | (with_reducible exact LeO.none _)
   | (with_reducible refine LeO.ite ?_ ?_)
   | (with_reducible refine LeO.bind ?_ (fun _ => ?_))
   | exact ih0 _ _ _ _ _
   | exact LeO.none _
   | refine LeO.ite ?_ ?_
   | refine LeO.bind ?_ (fun _ => ?_)
set_option maxHeartbeats 8000000 in
set_option maxRecDepth 100000 in
theorem spec_l15Level.calls (k : Nat) (A0 : Option Addr) (c0 : Nat) (l0 : List (S31)) (a1 : Int) (a2 : Int) (a3 : Int) (r : Int) (w : World) (hr0 : Kd.C k31 w A0 l0.length l0) (hc0 : l0.length ≤ c0) (h : spec_l15Level.f k l0 a1 a2 a3 = some r) :
  Calls Try.prog 83 #[.slice A0 l0.length c0, .int .i64 a1, .int .i64 a2, .int .i64 a3] w fun e w' => e = .returned (.int .i64 r) ∧ Below w.heap.size w w' := by
 have hu31 := Try.underlying31
 have HR0 := Aside0.mk hr0
 have HC0 := Aside0.mk hc0
 clear hr0 hc0
 have HB := Aside0.mk (Below.refl w.heap.size w)
 have H : (spec_l15Level.l0 k l0 a1 a2 a3 0) = some r := h
 clear h
 have H' := Aside0.mk H
 clear H
 go_enter Try.func83, Try.ntmps83
 go_wp2
 go_loopg [9] k (fun kq v9 w' => ∃ (x9_1 : Int), v9 = .int .i64 x9_1 ∧ Aside0 (spec_l15Level.l0 kq l0 a1 a2 a3 x9_1 = some r) ∧ Aside0 (kq ≤ k) ∧ Aside0 (Below w.heap.size w w'))
 case atStart => exact ⟨(0), (by first | rfl | (simp; done) | (simp [*]; done)), H', ⟨Nat.le_refl _⟩, ⟨by repeat (first | (with_reducible first | exact HB.out | apply below_alloc | apply pw_below_drewN | apply below_drew1) | exact HB.out)⟩⟩
 case round =>
  clear H'
  try clear p2
  obtain ⟨x9_1, rfl, HA, HK1, HB⟩ := hrel
  cases gk with
  | zero => exact absurd HA.out (by simp [spec_l15Level.l0])
  | succ k1 =>
   have H := HA.out
   clear HA
   simp only [spec_l15Level.l0] at H
   by_cases c5 : x9_1 < (l0.length : Int)
   ·
    rw [if_pos c5] at H
    have c5b0 : decide (x9_1 < (l0.length : Int)) = true := decide_eq_true c5
    clear c5
    by_cases c6 : 0 ≤ x9_1
    ·
     rw [if_pos c6] at H
     have c6b0 : decide (0 ≤ x9_1) = true := decide_eq_true c6
     clear c6
     by_cases c7 : ((rd_T31 l0 x9_1).f1) = a1
     ·
      rw [if_pos c7] at H
      have c7b0 : (((rd_T31 l0 x9_1).f1) == a1) = true := beq_iff_eq.mpr c7
      have c7b1 : (((rd_T31 l0 x9_1).f1) != a1) = false := bne_eq_false_iff_eq.mpr c7
      clear c7
      by_cases c8 : ((rd_T31 l0 x9_1).f3) = a2
      ·
       rw [if_pos c8] at H
       have c8b0 : (((rd_T31 l0 x9_1).f3) == a2) = true := beq_iff_eq.mpr c8
       have c8b1 : (((rd_T31 l0 x9_1).f3) != a2) = false := bne_eq_false_iff_eq.mpr c8
       clear c8
       replace H := Option.bind_eq_some_iff.mp H
       obtain ⟨t559, A90, H⟩ := H
       replace H : (if t559 = true then (some ((rd_T31 l0 x9_1).f2)) else (spec_l15Level.l0 k1 l0 a1 a2 a3 (wrap64 (x9_1 + 1)))) = some r := H
       have A9 := Aside0.mk A90
       clear A90
       by_cases c10 : t559 = true
       ·
        subst c10
        have H1 : (some ((rd_T31 l0 x9_1).f2)) = some r := by rw [if_pos rfl] at H; exact H
        clear H
        have H := H1
        clear H1
        obtain rfl := Option.some.inj H
        have p557 : 0 ≤ (x9_1 : Int) := of_decide_eq_true zq3
        have q557 : x9_1 < (l0.length : Int) := of_decide_eq_true zq3
        obtain ⟨ad557, e557, hx557_0, hx557_1, hx557_2, hx557_3, hx557_4, hx557_5⟩ := at_T31 HR0.out x9_1 p557 q557
        cases e557
        replace hx557_0 := (HB.out.cell (World.block_lt_of_cell? w _ hx557_0)).trans hx557_0
        replace hx557_1 := (HB.out.cell (World.block_lt_of_cell? w _ hx557_1)).trans hx557_1
        replace hx557_2 := (HB.out.cell (World.block_lt_of_cell? w _ hx557_2)).trans hx557_2
        replace hx557_3 := (HB.out.cell (World.block_lt_of_cell? w _ hx557_3)).trans hx557_3
        replace hx557_4 := (HB.out.cell (World.block_lt_of_cell? w _ hx557_4)).trans hx557_4
        replace hx557_5 := (HB.out.cell (World.block_lt_of_cell? w _ hx557_5)).trans hx557_5
        replace p557 := eq_true p557
        replace q557 := eq_true q557
        go_wp2_with (first | ((with_reducible refine gate_dst (N := 10) rfl ?_); refine box_event ?hg (N := 10) ?hd (cs := #[.int .i64 0, .int .i64 0, .int .i64 0, .int .i64 0, .int .i64 0, .int .i64 0]) (t := 31) ?hr ?_; (case hd => rfl); (case hg => rfl); (case hr => first | (go_simp; done) | (go_simp; rfl)); intro gb558 hg w11 hbox hb; have n0_ := Aside0.mk (below_step zq0 hb); have n1_ := Aside0.mk (hbox); have n2_ := Aside0.mk ((by rw [hg]; exact (below_size zq0) : w.heap.size ≤ gb558)); have n3_ := Aside0.mk ((by rw [hg]; exact (below_size zq0) : w.heap.size ≤ gb558)); clear HB; have HB := n0_; have BK558 := n1_; have GW558 := n2_; have GE558 := n3_; clear n0_ n1_ n2_ n3_; clear hb hbox hg; have hcz12_0 : w11.cell? ⟨gb558, 0, none⟩ = some (.int .i64 0) := (blk_cell BK558.out 0).trans rfl; have hcz12_1 : w11.cell? ⟨gb558, 1, none⟩ = some (.int .i64 0) := (blk_cell BK558.out 1).trans rfl; have hcz12_2 : w11.cell? ⟨gb558, 2, none⟩ = some (.int .i64 0) := (blk_cell BK558.out 2).trans rfl; have hcz12_3 : w11.cell? ⟨gb558, 3, none⟩ = some (.int .i64 0) := (blk_cell BK558.out 3).trans rfl; have hcz12_4 : w11.cell? ⟨gb558, 4, none⟩ = some (.int .i64 0) := (blk_cell BK558.out 4).trans rfl; have hcz12_5 : w11.cell? ⟨gb558, 5, none⟩ = some (.int .i64 0) := (blk_cell BK558.out 5).trans rfl; have hfz12_0 := blk_frozen BK558.out 0; have hfz12_1 := blk_frozen BK558.out 1; have hfz12_2 := blk_frozen BK558.out 2; have hfz12_3 := blk_frozen BK558.out 3; have hfz12_4 := blk_frozen BK558.out 4; have hfz12_5 := blk_frozen BK558.out 5) | (go_at_call 101; (with_reducible refine (spec_l1In.calls a3 ((rd_T31 l0 x9_1).f4) (wrap64 (((rd_T31 l0 x9_1).f5) - 1)) true _ A9.out).mono ?_); rintro e w' ⟨rfl, ⟨nd, rfl⟩⟩))
        go_ret
        exact ⟨by first | rfl | (simp [errW_none, errW_some] <;> rfl) | (simp [*, errW_none, errW_some] <;> rfl), by repeat (first | (with_reducible first | exact HB.out | apply below_alloc | apply pw_below_drewN | apply below_drew1 | refine below_set ?_ GE558.out) | exact HB.out)⟩
       ·
        replace c10 := Bool.eq_false_iff.mpr c10
        subst c10
        have H1 : (spec_l15Level.l0 k1 l0 a1 a2 a3 (wrap64 (x9_1 + 1))) = some r := by rw [if_neg (show ¬ (false = true) by decide)] at H; exact H
        clear H
        have H := H1
        clear H1
        have H' := Aside0.mk H
        clear H
        have p557 : 0 ≤ (x9_1 : Int) := of_decide_eq_true zq3
        have q557 : x9_1 < (l0.length : Int) := of_decide_eq_true zq3
        obtain ⟨ad557, e557, hx557_0, hx557_1, hx557_2, hx557_3, hx557_4, hx557_5⟩ := at_T31 HR0.out x9_1 p557 q557
        cases e557
        replace hx557_0 := (HB.out.cell (World.block_lt_of_cell? w _ hx557_0)).trans hx557_0
        replace hx557_1 := (HB.out.cell (World.block_lt_of_cell? w _ hx557_1)).trans hx557_1
        replace hx557_2 := (HB.out.cell (World.block_lt_of_cell? w _ hx557_2)).trans hx557_2
        replace hx557_3 := (HB.out.cell (World.block_lt_of_cell? w _ hx557_3)).trans hx557_3
        replace hx557_4 := (HB.out.cell (World.block_lt_of_cell? w _ hx557_4)).trans hx557_4
        replace hx557_5 := (HB.out.cell (World.block_lt_of_cell? w _ hx557_5)).trans hx557_5
        replace p557 := eq_true p557
        replace q557 := eq_true q557
        go_wp2_with (first | ((with_reducible refine gate_dst (N := 10) rfl ?_); refine box_event ?hg (N := 10) ?hd (cs := #[.int .i64 0, .int .i64 0, .int .i64 0, .int .i64 0, .int .i64 0, .int .i64 0]) (t := 31) ?hr ?_; (case hd => rfl); (case hg => rfl); (case hr => first | (go_simp; done) | (go_simp; rfl)); intro gb558 hg w13 hbox hb; have n0_ := Aside0.mk (below_step zq0 hb); have n1_ := Aside0.mk (hbox); have n2_ := Aside0.mk ((by rw [hg]; exact (below_size zq0) : w.heap.size ≤ gb558)); have n3_ := Aside0.mk ((by rw [hg]; exact (below_size zq0) : w.heap.size ≤ gb558)); clear HB; have HB := n0_; have BK558 := n1_; have GW558 := n2_; have GE558 := n3_; clear n0_ n1_ n2_ n3_; clear hb hbox hg; have hcz14_0 : w13.cell? ⟨gb558, 0, none⟩ = some (.int .i64 0) := (blk_cell BK558.out 0).trans rfl; have hcz14_1 : w13.cell? ⟨gb558, 1, none⟩ = some (.int .i64 0) := (blk_cell BK558.out 1).trans rfl; have hcz14_2 : w13.cell? ⟨gb558, 2, none⟩ = some (.int .i64 0) := (blk_cell BK558.out 2).trans rfl; have hcz14_3 : w13.cell? ⟨gb558, 3, none⟩ = some (.int .i64 0) := (blk_cell BK558.out 3).trans rfl; have hcz14_4 : w13.cell? ⟨gb558, 4, none⟩ = some (.int .i64 0) := (blk_cell BK558.out 4).trans rfl; have hcz14_5 : w13.cell? ⟨gb558, 5, none⟩ = some (.int .i64 0) := (blk_cell BK558.out 5).trans rfl; have hfz14_0 := blk_frozen BK558.out 0; have hfz14_1 := blk_frozen BK558.out 1; have hfz14_2 := blk_frozen BK558.out 2; have hfz14_3 := blk_frozen BK558.out 3; have hfz14_4 := blk_frozen BK558.out 4; have hfz14_5 := blk_frozen BK558.out 5) | (go_at_call 101; (with_reducible refine (spec_l1In.calls a3 ((rd_T31 l0 x9_1).f4) (wrap64 (((rd_T31 l0 x9_1).f5) - 1)) false _ A9.out).mono ?_); rintro e w' ⟨rfl, ⟨nd, rfl⟩⟩))
        go_roundg k1
        case measure => have := HK1.out; omega
        case rel => exact ⟨(wrap64 (x9_1 + 1)), (by first | rfl | (simp; done) | (simp [*]; done)), H', ⟨by have := HK1.out; omega⟩, ⟨by repeat (first | (with_reducible first | exact HB.out | apply below_alloc | apply pw_below_drewN | apply below_drew1 | refine below_set ?_ GE558.out) | exact HB.out)⟩⟩
      ·
       rw [if_neg c8] at H
       have c8b0 : (((rd_T31 l0 x9_1).f3) == a2) = false := beq_eq_false_iff_ne.mpr c8
       have c8b1 : (((rd_T31 l0 x9_1).f3) != a2) = true := bne_iff_ne.mpr c8
       have H' := Aside0.mk H
       clear H
       have p557 : 0 ≤ (x9_1 : Int) := of_decide_eq_true zq3
       have q557 : x9_1 < (l0.length : Int) := of_decide_eq_true zq3
       obtain ⟨ad557, e557, hx557_0, hx557_1, hx557_2, hx557_3, hx557_4, hx557_5⟩ := at_T31 HR0.out x9_1 p557 q557
       cases e557
       replace hx557_0 := (HB.out.cell (World.block_lt_of_cell? w _ hx557_0)).trans hx557_0
       replace hx557_1 := (HB.out.cell (World.block_lt_of_cell? w _ hx557_1)).trans hx557_1
       replace hx557_2 := (HB.out.cell (World.block_lt_of_cell? w _ hx557_2)).trans hx557_2
       replace hx557_3 := (HB.out.cell (World.block_lt_of_cell? w _ hx557_3)).trans hx557_3
       replace hx557_4 := (HB.out.cell (World.block_lt_of_cell? w _ hx557_4)).trans hx557_4
       replace hx557_5 := (HB.out.cell (World.block_lt_of_cell? w _ hx557_5)).trans hx557_5
       replace p557 := eq_true p557
       replace q557 := eq_true q557
       go_wp2_with (first | ((with_reducible refine gate_dst (N := 10) rfl ?_); refine box_event ?hg (N := 10) ?hd (cs := #[.int .i64 0, .int .i64 0, .int .i64 0, .int .i64 0, .int .i64 0, .int .i64 0]) (t := 31) ?hr ?_; (case hd => rfl); (case hg => rfl); (case hr => first | (go_simp; done) | (go_simp; rfl)); intro gb558 hg w15 hbox hb; have n0_ := Aside0.mk (below_step zq0 hb); have n1_ := Aside0.mk (hbox); have n2_ := Aside0.mk ((by rw [hg]; exact (below_size zq0) : w.heap.size ≤ gb558)); have n3_ := Aside0.mk ((by rw [hg]; exact (below_size zq0) : w.heap.size ≤ gb558)); clear HB; have HB := n0_; have BK558 := n1_; have GW558 := n2_; have GE558 := n3_; clear n0_ n1_ n2_ n3_; clear hb hbox hg; have hcz16_0 : w15.cell? ⟨gb558, 0, none⟩ = some (.int .i64 0) := (blk_cell BK558.out 0).trans rfl; have hcz16_1 : w15.cell? ⟨gb558, 1, none⟩ = some (.int .i64 0) := (blk_cell BK558.out 1).trans rfl; have hcz16_2 : w15.cell? ⟨gb558, 2, none⟩ = some (.int .i64 0) := (blk_cell BK558.out 2).trans rfl; have hcz16_3 : w15.cell? ⟨gb558, 3, none⟩ = some (.int .i64 0) := (blk_cell BK558.out 3).trans rfl; have hcz16_4 : w15.cell? ⟨gb558, 4, none⟩ = some (.int .i64 0) := (blk_cell BK558.out 4).trans rfl; have hcz16_5 : w15.cell? ⟨gb558, 5, none⟩ = some (.int .i64 0) := (blk_cell BK558.out 5).trans rfl; have hfz16_0 := blk_frozen BK558.out 0; have hfz16_1 := blk_frozen BK558.out 1; have hfz16_2 := blk_frozen BK558.out 2; have hfz16_3 := blk_frozen BK558.out 3; have hfz16_4 := blk_frozen BK558.out 4; have hfz16_5 := blk_frozen BK558.out 5))
       go_roundg k1
       case measure => have := HK1.out; omega
       case rel => exact ⟨(wrap64 (x9_1 + 1)), (by first | rfl | (simp; done) | (simp [*]; done)), H', ⟨by have := HK1.out; omega⟩, ⟨by repeat (first | (with_reducible first | exact HB.out | apply below_alloc | apply pw_below_drewN | apply below_drew1 | refine below_set ?_ GE558.out) | exact HB.out)⟩⟩
     ·
      rw [if_neg c7] at H
      have c7b0 : (((rd_T31 l0 x9_1).f1) == a1) = false := beq_eq_false_iff_ne.mpr c7
      have c7b1 : (((rd_T31 l0 x9_1).f1) != a1) = true := bne_iff_ne.mpr c7
      have H' := Aside0.mk H
      clear H
      have p557 : 0 ≤ (x9_1 : Int) := of_decide_eq_true zq3
      have q557 : x9_1 < (l0.length : Int) := of_decide_eq_true zq3
      obtain ⟨ad557, e557, hx557_0, hx557_1, hx557_2, hx557_3, hx557_4, hx557_5⟩ := at_T31 HR0.out x9_1 p557 q557
      cases e557
      replace hx557_0 := (HB.out.cell (World.block_lt_of_cell? w _ hx557_0)).trans hx557_0
      replace hx557_1 := (HB.out.cell (World.block_lt_of_cell? w _ hx557_1)).trans hx557_1
      replace hx557_2 := (HB.out.cell (World.block_lt_of_cell? w _ hx557_2)).trans hx557_2
      replace hx557_3 := (HB.out.cell (World.block_lt_of_cell? w _ hx557_3)).trans hx557_3
      replace hx557_4 := (HB.out.cell (World.block_lt_of_cell? w _ hx557_4)).trans hx557_4
      replace hx557_5 := (HB.out.cell (World.block_lt_of_cell? w _ hx557_5)).trans hx557_5
      replace p557 := eq_true p557
      replace q557 := eq_true q557
      go_wp2_with (first | ((with_reducible refine gate_dst (N := 10) rfl ?_); refine box_event ?hg (N := 10) ?hd (cs := #[.int .i64 0, .int .i64 0, .int .i64 0, .int .i64 0, .int .i64 0, .int .i64 0]) (t := 31) ?hr ?_; (case hd => rfl); (case hg => rfl); (case hr => first | (go_simp; done) | (go_simp; rfl)); intro gb558 hg w17 hbox hb; have n0_ := Aside0.mk (below_step zq0 hb); have n1_ := Aside0.mk (hbox); have n2_ := Aside0.mk ((by rw [hg]; exact (below_size zq0) : w.heap.size ≤ gb558)); have n3_ := Aside0.mk ((by rw [hg]; exact (below_size zq0) : w.heap.size ≤ gb558)); clear HB; have HB := n0_; have BK558 := n1_; have GW558 := n2_; have GE558 := n3_; clear n0_ n1_ n2_ n3_; clear hb hbox hg; have hcz18_0 : w17.cell? ⟨gb558, 0, none⟩ = some (.int .i64 0) := (blk_cell BK558.out 0).trans rfl; have hcz18_1 : w17.cell? ⟨gb558, 1, none⟩ = some (.int .i64 0) := (blk_cell BK558.out 1).trans rfl; have hcz18_2 : w17.cell? ⟨gb558, 2, none⟩ = some (.int .i64 0) := (blk_cell BK558.out 2).trans rfl; have hcz18_3 : w17.cell? ⟨gb558, 3, none⟩ = some (.int .i64 0) := (blk_cell BK558.out 3).trans rfl; have hcz18_4 : w17.cell? ⟨gb558, 4, none⟩ = some (.int .i64 0) := (blk_cell BK558.out 4).trans rfl; have hcz18_5 : w17.cell? ⟨gb558, 5, none⟩ = some (.int .i64 0) := (blk_cell BK558.out 5).trans rfl; have hfz18_0 := blk_frozen BK558.out 0; have hfz18_1 := blk_frozen BK558.out 1; have hfz18_2 := blk_frozen BK558.out 2; have hfz18_3 := blk_frozen BK558.out 3; have hfz18_4 := blk_frozen BK558.out 4; have hfz18_5 := blk_frozen BK558.out 5))
      go_roundg k1
      case measure => have := HK1.out; omega
      case rel => exact ⟨(wrap64 (x9_1 + 1)), (by first | rfl | (simp; done) | (simp [*]; done)), H', ⟨by have := HK1.out; omega⟩, ⟨by repeat (first | (with_reducible first | exact HB.out | apply below_alloc | apply pw_below_drewN | apply below_drew1 | refine below_set ?_ GE558.out) | exact HB.out)⟩⟩
    ·
     rw [if_neg c6] at H
     exact absurd H (by simp)
   ·
    rw [if_neg c5] at H
    have c5b0 : decide (x9_1 < (l0.length : Int)) = false := decide_eq_false c5
    clear c5
    obtain rfl := Option.some.inj H
    go_wp2
    go_ret
    exact ⟨by first | rfl | (simp [errW_none, errW_some] <;> rfl) | (simp [*, errW_none, errW_some] <;> rfl), by repeat (first | (with_reducible first | exact HB.out | apply below_alloc | apply pw_below_drewN | apply below_drew1) | exact HB.out)⟩

end Go.Proofs.Ytklepiechbnenaa.Q
namespace Go.Proofs.Ytklepiechbnenaa.Q
open Go.RowKit Go.Proofs.YtklepiechbnenaaW.PrintWords Go.Proofs.YtklepiechbnenaaW.PrintLast Go.Proofs.YtklepiechbnenaaW.PrintMore
attribute [local go_sem] max2_int min2_int max_two min_two max_three min_three max_four min_four   -- for this text's walks alone
set_option linter.unusedVariables false
set_option linter.unusedSimpArgs false

/-! ### spec_l15Timeline: function 84 -/
mutual
def spec_l15Timeline.l0 : Nat → List Int → List (S50) → Int → Option ((List (S50)))
 | 0, _, _, _ => none
 | k + 1, x0, x3, x4 => if x4 < (x0.length : Int) then (spec_l15Timeline.l1 k x0 x3 x4 x4) else (some x3)
def spec_l15Timeline.l1 : Nat → List Int → List (S50) → Int → Int → Option ((List (S50)))
 | 0, _, _, _, _ => none
 | k + 1, x0, x3, x4, x5 => if x5 < (x0.length : Int) then (if 0 ≤ x5 then (if 0 ≤ x4 then (if x4 < (x0.length : Int) then (if (rd x0 x5) = (rd x0 x4) then (spec_l15Timeline.l1 k x0 x3 x4 (wrap64 (x5 + 1))) else (if (rd x0 x4) > 0 then (if x3.length < 5864062014805 then (spec_l15Timeline.l0 k x0 (x3 ++ [(⟨x4, x5, rd x0 x4⟩ : S50)]) x5) else (none)) else (spec_l15Timeline.l0 k x0 x3 x5))) else (none)) else (none)) else (none)) else (if 0 ≤ x4 then (if x4 < (x0.length : Int) then (if (rd x0 x4) > 0 then (if x3.length < 5864062014805 then (spec_l15Timeline.l0 k x0 (x3 ++ [(⟨x4, x5, rd x0 x4⟩ : S50)]) x5) else (none)) else (spec_l15Timeline.l0 k x0 x3 x5)) else (none)) else (none))
end
def spec_l15Timeline.f (k : Nat) (l0 : List Int) : Option ((List (S50))) := spec_l15Timeline.l0 k l0 (([] : List (S50))) 0
theorem spec_l15Timeline.mono_l : ∀ k, (∀ y0 y1 y2, LeO (spec_l15Timeline.l0 k y0 y1 y2) (spec_l15Timeline.l0 (k + 1) y0 y1 y2)) ∧ (∀ y0 y1 y2 y3, LeO (spec_l15Timeline.l1 k y0 y1 y2 y3) (spec_l15Timeline.l1 (k + 1) y0 y1 y2 y3))
 | 0 => ⟨fun _ _ _ r h => by simp [spec_l15Timeline.l0] at h, fun _ _ _ _ r h => by simp [spec_l15Timeline.l1] at h⟩
 | k + 1 => by
  obtain ⟨ih0, ih1⟩ := spec_l15Timeline.mono_l k
  refine ⟨?_, ?_⟩
  ·
   intro y0 y1 y2
   unfold spec_l15Timeline.l0
   repeat' first
   | (with_reducible exact ih0 _ _ _)
   | (with_reducible exact ih1 _ _ _ _)
   | (with_reducible exact LeO.refl _)
   | (with_reducible exact LeO.none _)
   | (with_reducible refine LeO.ite ?_ ?_)
   | (with_reducible refine LeO.bind ?_ (fun _ => ?_))
   | exact ih0 _ _ _
   | exact ih1 _ _ _ _
   | exact LeO.none _
   | refine LeO.ite ?_ ?_
   | refine LeO.bind ?_ (fun _ => ?_)
  ·
   intro y0 y1 y2 y3
   unfold spec_l15Timeline.l1
   repeat' first
   | (with_reducible exact ih0 _ _ _)
   | (with_reducible exact ih1 _ _ _ _)
   | (with_reducible exact LeO.refl _)
   | (with_reducible exact LeO.none _)
   | (with_reducible refine LeO.ite ?_ ?_)
   | (with_reducible refine LeO.bind ?_ (fun _ => ?_))
   | exact ih0 _ _ _
   | exact ih1 _ _ _ _
   | exact LeO.none _
   | refine LeO.ite ?_ ?_
   | refine LeO.bind ?_ (fun _ => ?_)
theorem spec_l15Timeline.mono : ∀ a0 k, LeO (spec_l15Timeline.f k a0) (spec_l15Timeline.f (k + 1) a0) := by
 intro a0 k
 obtain ⟨ih0, ih1⟩ := spec_l15Timeline.mono_l k
 unfold spec_l15Timeline.f
 repeat' first
   | (with_reducible exact ih0 _ _ _)
   | (with_reducible exact ih1 _ _ _ _)
   | (with_reducible exact LeO.refl _)
   | (with_reducible exact LeO.none _)
   | (with_reducible refine LeO.ite ?_ ?_)
   | (with_reducible refine LeO.bind ?_ (fun _ => ?_))
   | exact ih0 _ _ _
   | exact ih1 _ _ _ _
   | exact LeO.none _
   | refine LeO.ite ?_ ?_
   | refine LeO.bind ?_ (fun _ => ?_)
set_option maxHeartbeats 8000000 in
set_option maxRecDepth 100000 in
theorem spec_l15Timeline.calls (k : Nat) (A0 : Option Addr) (c0 : Nat) (l0 : List Int) (r : List (S50)) (w : World) (hr0 : Kd.C (Kd.int .i64) w A0 l0.length l0) (hc0 : l0.length ≤ c0) (h : spec_l15Timeline.f k l0 = some r) :
  Calls Try.prog 84 #[.slice A0 l0.length c0] w fun e w' => ∃ v0_ : Value, e = .returned (v0_) ∧ Kd.R k50 50 w' w.heap.size (fun _ => True) v0_ r ∧ Below w.heap.size w w' := by
 have hu50 := Try.underlying50
 have HR0 := Aside0.mk hr0
 have HC0 := Aside0.mk hc0
 clear hr0 hc0
 have HB := Aside0.mk (Below.refl w.heap.size w)
 have H : (spec_l15Timeline.l0 k l0 (([] : List (S50))) 0) = some r := h
 clear h
 obtain ⟨y560, hy560⟩ : ∃ y_ : List (S50), y_ = (([] : List (S50))) := ⟨_, rfl⟩
 replace H : (spec_l15Timeline.l0 k l0 y560 0) = some r := by first | (rw [hy560]; with_reducible exact H) | (have H2_ := (Option.bind_some _ _).symm.trans H; rw [hy560]; with_reducible exact H2_) | (have H2_ := (Option.bind_some _ _).symm.trans H; with_reducible exact H2_) | with_reducible exact H | (rw [hy560]; exact H) | exact H
 have Ny560 := Aside0.mk hy560
 clear hy560
 have H' := Aside0.mk H
 clear H
 go_enter Try.func84, Try.ntmps84
 go_wp2_with (first | ((with_reducible refine gate_dst (N := 6) rfl ?_); refine Kd.R_lit k50 _ 50 ?hg (N := 6) ?hd (xs := ([] : List (S50))) (inner := []) (ok := fun _ => True) (okp := fun _ => True) ?hr ?hp (fun _ hk => hk) trivial (Below.refl _ _) (Nat.le_refl _) (by simp) ?_; (case hd => rfl); (case hg => rfl); (case hr => first | (go_simp; done) | (go_simp; rfl)); (case hp => exact (Reps.none _ _)); intro v561 w2 ho3 hb hg_ hnew_; clear hg_ hnew_; (first | rw [← Ny560.out] at ho3 | (simp only [Int.reduceToNat] at ho3; rw [← Ny560.out] at ho3)); have n0_ := Aside0.mk (Kd.R_lower ho3 (below_size zq0)); have n1_ := Aside0.mk (below_step zq0 hb); clear HB; have HO562 := n0_; have HB := n1_; clear n0_ n1_; clear hb ho3))
 repeat (go_quiet (first | ((with_reducible refine gate_dst (N := 6) rfl ?_); refine Kd.R_lit k50 _ 50 ?hg (N := 6) ?hd (xs := ([] : List (S50))) (inner := []) (ok := fun _ => True) (okp := fun _ => True) ?hr ?hp (fun _ hk => hk) trivial (Below.refl _ _) (Nat.le_refl _) (by simp) ?_; (case hd => rfl); (case hg => rfl); (case hr => first | (go_simp; done) | (go_simp; rfl)); (case hp => exact (Reps.none _ _)); intro v561 w2 ho3 hb hg_ hnew_; clear hg_ hnew_; (first | rw [← Ny560.out] at ho3 | (simp only [Int.reduceToNat] at ho3; rw [← Ny560.out] at ho3)); have n0_ := Aside0.mk (Kd.R_lower ho3 (below_size zq0)); have n1_ := Aside0.mk (below_step zq0 hb); clear HB; have HO562 := n0_; have HB := n1_; clear n0_ n1_; clear hb ho3)); try go_wp2_with (first | ((with_reducible refine gate_dst (N := 6) rfl ?_); refine Kd.R_lit k50 _ 50 ?hg (N := 6) ?hd (xs := ([] : List (S50))) (inner := []) (ok := fun _ => True) (okp := fun _ => True) ?hr ?hp (fun _ hk => hk) trivial (Below.refl _ _) (Nat.le_refl _) (by simp) ?_; (case hd => rfl); (case hg => rfl); (case hr => first | (go_simp; done) | (go_simp; rfl)); (case hp => exact (Reps.none _ _)); intro v561 w2 ho3 hb hg_ hnew_; clear hg_ hnew_; (first | rw [← Ny560.out] at ho3 | (simp only [Int.reduceToNat] at ho3; rw [← Ny560.out] at ho3)); have n0_ := Aside0.mk (Kd.R_lower ho3 (below_size zq0)); have n1_ := Aside0.mk (below_step zq0 hb); clear HB; have HO562 := n0_; have HB := n1_; clear n0_ n1_; clear hb ho3)))
 go_loopg [3, 4] k (fun kq v3 v4 w' => ∃ (x3_1 : List (S50)) (x4_1 : Int), v4 = .int .i64 x4_1 ∧ Aside0 (spec_l15Timeline.l0 kq l0 x3_1 x4_1 = some r) ∧ Aside0 (kq ≤ k) ∧ Aside0 (Kd.R k50 50 w' w.heap.size (fun _ => True) v3 x3_1) ∧ Aside0 (Below w.heap.size w w'))
 case atStart => exact ⟨(y560), (0), (by first | rfl | (simp; done) | (simp [*]; done)), H', ⟨Nat.le_refl _⟩, ⟨by (with_reducible repeat (first | apply Kd.R_alloc | apply Kd.R_drewN | apply Kd.R_drew)); exact HO562.out⟩, ⟨by repeat (first | (with_reducible first | exact HB.out | apply below_alloc | apply pw_below_drewN | apply below_drew1) | exact HB.out)⟩⟩
 case round =>
  clear H'
  try clear p2
  obtain ⟨x3_1, x4_1, rfl, HA, HK1, HO_3, HB⟩ := hrel
  cases gk with
  | zero => exact absurd HA.out (by simp [spec_l15Timeline.l0])
  | succ k1 =>
   have H := HA.out
   clear HA
   simp only [spec_l15Timeline.l0] at H
   by_cases c4 : x4_1 < (l0.length : Int)
   ·
    rw [if_pos c4] at H
    have c4b0 : decide (x4_1 < (l0.length : Int)) = true := decide_eq_true c4
    clear c4
    have H' := Aside0.mk H
    clear H
    go_wp2
    repeat (go_quiet (fail); try go_wp2)
    go_loopg [5] k1 (fun kq v5 w' => ∃ (x5_2 : Int), v5 = .int .i64 x5_2 ∧ Aside0 (spec_l15Timeline.l1 kq l0 x3_1 x4_1 x5_2 = some r) ∧ Aside0 (kq ≤ k1) ∧ Aside0 (Kd.R k50 50 w' w.heap.size (fun _ => True) u3 x3_1) ∧ Aside0 (Below w.heap.size w w'))
    case atStart => exact ⟨(x4_1), (by first | rfl | (simp; done) | (simp [*]; done)), H', ⟨Nat.le_refl _⟩, ⟨by (with_reducible repeat (first | apply Kd.R_alloc | apply Kd.R_drewN | apply Kd.R_drew)); exact HO_3.out⟩, ⟨by repeat (first | (with_reducible first | exact HB.out | apply below_alloc | apply pw_below_drewN | apply below_drew1) | exact HB.out)⟩⟩
    case round =>
     clear H'
     try clear p2
     try clear c4
     try clear c4b0
     try clear p2
     obtain ⟨x5_2, rfl, HA, HK2, HO_3, HB⟩ := hrel
     cases gk with
     | zero => exact absurd HA.out (by simp [spec_l15Timeline.l1])
     | succ k2 =>
      have H := HA.out
      clear HA
      simp only [spec_l15Timeline.l1] at H
      by_cases c5 : x5_2 < (l0.length : Int)
      ·
       rw [if_pos c5] at H
       have c5b0 : decide (x5_2 < (l0.length : Int)) = true := decide_eq_true c5
       clear c5
       by_cases c6 : 0 ≤ x5_2
       ·
        rw [if_pos c6] at H
        have c6b0 : decide (0 ≤ x5_2) = true := decide_eq_true c6
        clear c6
        by_cases c7 : 0 ≤ x4_1
        ·
         rw [if_pos c7] at H
         have c7b0 : decide (0 ≤ x4_1) = true := decide_eq_true c7
         clear c7
         by_cases c8 : x4_1 < (l0.length : Int)
         ·
          rw [if_pos c8] at H
          have c8b0 : decide (x4_1 < (l0.length : Int)) = true := decide_eq_true c8
          clear c8
          by_cases c9 : (rd l0 x5_2) = (rd l0 x4_1)
          ·
           rw [if_pos c9] at H
           have c9b0 : ((rd l0 x5_2) == (rd l0 x4_1)) = true := beq_iff_eq.mpr c9
           have c9b1 : ((rd l0 x5_2) != (rd l0 x4_1)) = false := bne_eq_false_iff_eq.mpr c9
           clear c9
           have H' := Aside0.mk H
           clear H
           have p563 : 0 ≤ (x5_2 : Int) := of_decide_eq_true zq3
           have q563 : x5_2 < (l0.length : Int) := of_decide_eq_true zq3
           obtain ⟨ad563, e563, hx563_0⟩ := Kd.at_int HR0.out x5_2 p563 q563
           cases e563
           replace hx563_0 := (HB.out.cell (World.block_lt_of_cell? w _ hx563_0)).trans hx563_0
           replace p563 := eq_true p563
           replace q563 := eq_true q563
           have p564 : 0 ≤ (x4_1 : Int) := of_decide_eq_true zq3
           have q564 : x4_1 < (l0.length : Int) := of_decide_eq_true zq3
           obtain ⟨ad564, e564, hx564_0⟩ := Kd.at_int HR0.out x4_1 p564 q564
           obtain rfl : ad563 = ad564 := (by injection e564)
           replace hx564_0 := (HB.out.cell (World.block_lt_of_cell? w _ hx564_0)).trans hx564_0
           replace p564 := eq_true p564
           replace q564 := eq_true q564
           go_wp2
           repeat (go_quiet (fail); try go_wp2)
           go_roundg k2
           case measure => have := HK1.out; have := HK2.out; omega
           case rel => exact ⟨(wrap64 (x5_2 + 1)), (by first | rfl | (simp; done) | (simp [*]; done)), H', ⟨by have := HK1.out; have := HK2.out; omega⟩, ⟨by (with_reducible repeat (first | apply Kd.R_alloc | apply Kd.R_drewN | apply Kd.R_drew)); exact HO_3.out⟩, ⟨by repeat (first | (with_reducible first | exact HB.out | apply below_alloc | apply pw_below_drewN | apply below_drew1) | exact HB.out)⟩⟩
          ·
           rw [if_neg c9] at H
           have c9b0 : ((rd l0 x5_2) == (rd l0 x4_1)) = false := beq_eq_false_iff_ne.mpr c9
           have c9b1 : ((rd l0 x5_2) != (rd l0 x4_1)) = true := bne_iff_ne.mpr c9
           by_cases c10 : (rd l0 x4_1) > 0
           ·
            rw [if_pos c10] at H
            have c10b0 : decide (0 < (rd l0 x4_1)) = true := decide_eq_true c10
            clear c10
            by_cases c11 : x3_1.length < 5864062014805
            ·
             rw [if_pos c11] at H
             have LMc11 := Aside0.mk c11
             clear c11
             obtain ⟨y567, hy567⟩ : ∃ y_ : List (S50), y_ = (x3_1 ++ [(⟨x4_1, x5_2, rd l0 x4_1⟩ : S50)]) := ⟨_, rfl⟩
             replace H : (spec_l15Timeline.l0 k2 l0 y567 x5_2) = some r := by first | (rw [hy567]; with_reducible exact H) | (have H2_ := (Option.bind_some _ _).symm.trans H; rw [hy567]; with_reducible exact H2_) | (have H2_ := (Option.bind_some _ _).symm.trans H; with_reducible exact H2_) | with_reducible exact H | (rw [hy567]; exact H) | exact H
             have Ny567 := Aside0.mk hy567
             clear hy567
             have H' := Aside0.mk H
             clear H
             have p563 : 0 ≤ (x5_2 : Int) := of_decide_eq_true zq3
             have q563 : x5_2 < (l0.length : Int) := of_decide_eq_true zq3
             obtain ⟨ad563, e563, hx563_0⟩ := Kd.at_int HR0.out x5_2 p563 q563
             cases e563
             replace hx563_0 := (HB.out.cell (World.block_lt_of_cell? w _ hx563_0)).trans hx563_0
             replace p563 := eq_true p563
             replace q563 := eq_true q563
             have p564 : 0 ≤ (x4_1 : Int) := of_decide_eq_true zq3
             have q564 : x4_1 < (l0.length : Int) := of_decide_eq_true zq3
             obtain ⟨ad564, e564, hx564_0⟩ := Kd.at_int HR0.out x4_1 p564 q564
             obtain rfl : ad563 = ad564 := (by injection e564)
             replace hx564_0 := (HB.out.cell (World.block_lt_of_cell? w _ hx564_0)).trans hx564_0
             replace p564 := eq_true p564
             replace q564 := eq_true q564
             have p565 : 0 ≤ (x4_1 : Int) := of_decide_eq_true zq3
             have q565 : x4_1 < (l0.length : Int) := of_decide_eq_true zq3
             obtain ⟨ad565, e565, hx565_0⟩ := Kd.at_int HR0.out x4_1 p565 q565
             obtain rfl : ad563 = ad565 := (by injection e565)
             replace hx565_0 := (HB.out.cell (World.block_lt_of_cell? w _ hx565_0)).trans hx565_0
             replace p565 := eq_true p565
             replace q565 := eq_true q565
             have p566 : 0 ≤ (x4_1 : Int) := of_decide_eq_true zq3
             have q566 : x4_1 < (l0.length : Int) := of_decide_eq_true zq3
             obtain ⟨ad566, e566, hx566_0⟩ := Kd.at_int HR0.out x4_1 p566 q566
             obtain rfl : ad563 = ad566 := (by injection e566)
             replace hx566_0 := (HB.out.cell (World.block_lt_of_cell? w _ hx566_0)).trans hx566_0
             replace p566 := eq_true p566
             replace q566 := eq_true q566
             go_wp2_with (first | ((with_reducible refine gate_builtin (b := .append) (xs := #[.tmp 34, .tmp 42]) rfl ?_); at_builtin; refine Kd.R_append k50 (w0 := w) w.heap.size rfl (.tmp 34) (.tmp 42) 40 50 (.agg #[(.int .i64 0), (.int .i64 0), (.int .i64 0)]) 24 rfl Try.underlying40 info50 rfl (by decide) (by omega) u3 x3_1 (⟨x4_1, x5_2, rd l0 x4_1⟩ : S50) [.int .i64 x4_1, .int .i64 x5_2, .int .i64 (rd l0 x4_1)] (fun _ => True) (fun _ => False) rfl rfl ?aP (fun _ hk => hk.elim) ?aF ?aO ?aB ?aS ?aL ?_; (case aP => exact k50_mkM _ _ _ (⟨x4_1, x5_2, rd l0 x4_1⟩ : S50)); (case aB => exact zq0); (case aF => exact (fun _ _ => trivial)); (case aO => exact (zqR HO_3.out)); (case aS => exact (below_size zq0)); (case aL => have := LMc11.out; omega); intro v568 w12 ho hb hg hat; rw [← Ny567.out] at ho; have n0_ := Aside0.mk (hb); have n1_ := Aside0.mk (ho); clear HB; clear HO_3; have HB := n0_; have HO569 := n1_; clear n0_ n1_; clear ho hb hg hat))
             repeat (go_quiet (first | ((with_reducible refine gate_builtin (b := .append) (xs := #[.tmp 34, .tmp 42]) rfl ?_); at_builtin; refine Kd.R_append k50 (w0 := w) w.heap.size rfl (.tmp 34) (.tmp 42) 40 50 (.agg #[(.int .i64 0), (.int .i64 0), (.int .i64 0)]) 24 rfl Try.underlying40 info50 rfl (by decide) (by omega) u3 x3_1 (⟨x4_1, x5_2, rd l0 x4_1⟩ : S50) [.int .i64 x4_1, .int .i64 x5_2, .int .i64 (rd l0 x4_1)] (fun _ => True) (fun _ => False) rfl rfl ?aP (fun _ hk => hk.elim) ?aF ?aO ?aB ?aS ?aL ?_; (case aP => exact k50_mkM _ _ _ (⟨x4_1, x5_2, rd l0 x4_1⟩ : S50)); (case aB => exact zq0); (case aF => exact (fun _ _ => trivial)); (case aO => exact (zqR HO_3.out)); (case aS => exact (below_size zq0)); (case aL => have := LMc11.out; omega); intro v568 w12 ho hb hg hat; rw [← Ny567.out] at ho; have n0_ := Aside0.mk (hb); have n1_ := Aside0.mk (ho); clear HB; clear HO_3; have HB := n0_; have HO569 := n1_; clear n0_ n1_; clear ho hb hg hat)); try go_wp2_with (first | ((with_reducible refine gate_builtin (b := .append) (xs := #[.tmp 34, .tmp 42]) rfl ?_); at_builtin; refine Kd.R_append k50 (w0 := w) w.heap.size rfl (.tmp 34) (.tmp 42) 40 50 (.agg #[(.int .i64 0), (.int .i64 0), (.int .i64 0)]) 24 rfl Try.underlying40 info50 rfl (by decide) (by omega) u3 x3_1 (⟨x4_1, x5_2, rd l0 x4_1⟩ : S50) [.int .i64 x4_1, .int .i64 x5_2, .int .i64 (rd l0 x4_1)] (fun _ => True) (fun _ => False) rfl rfl ?aP (fun _ hk => hk.elim) ?aF ?aO ?aB ?aS ?aL ?_; (case aP => exact k50_mkM _ _ _ (⟨x4_1, x5_2, rd l0 x4_1⟩ : S50)); (case aB => exact zq0); (case aF => exact (fun _ _ => trivial)); (case aO => exact (zqR HO_3.out)); (case aS => exact (below_size zq0)); (case aL => have := LMc11.out; omega); intro v568 w12 ho hb hg hat; rw [← Ny567.out] at ho; have n0_ := Aside0.mk (hb); have n1_ := Aside0.mk (ho); clear HB; clear HO_3; have HB := n0_; have HO569 := n1_; clear n0_ n1_; clear ho hb hg hat)))
             go_roundg k2
             case measure => have := HK1.out; have := HK2.out; omega
             case rel => exact ⟨(y567), (x5_2), (by first | rfl | (simp; done) | (simp [*]; done)), H', ⟨by have := HK1.out; have := HK2.out; omega⟩, ⟨by (with_reducible repeat (first | apply Kd.R_alloc | apply Kd.R_drewN | apply Kd.R_drew)); exact HO569.out⟩, ⟨by repeat (first | (with_reducible first | exact HB.out | apply below_alloc | apply pw_below_drewN | apply below_drew1) | exact HB.out)⟩⟩
            ·
             rw [if_neg c11] at H
             exact absurd H (by simp)
           ·
            rw [if_neg c10] at H
            have c10b0 : decide (0 < (rd l0 x4_1)) = false := decide_eq_false c10
            clear c10
            have H' := Aside0.mk H
            clear H
            have p563 : 0 ≤ (x5_2 : Int) := of_decide_eq_true zq3
            have q563 : x5_2 < (l0.length : Int) := of_decide_eq_true zq3
            obtain ⟨ad563, e563, hx563_0⟩ := Kd.at_int HR0.out x5_2 p563 q563
            cases e563
            replace hx563_0 := (HB.out.cell (World.block_lt_of_cell? w _ hx563_0)).trans hx563_0
            replace p563 := eq_true p563
            replace q563 := eq_true q563
            have p564 : 0 ≤ (x4_1 : Int) := of_decide_eq_true zq3
            have q564 : x4_1 < (l0.length : Int) := of_decide_eq_true zq3
            obtain ⟨ad564, e564, hx564_0⟩ := Kd.at_int HR0.out x4_1 p564 q564
            obtain rfl : ad563 = ad564 := (by injection e564)
            replace hx564_0 := (HB.out.cell (World.block_lt_of_cell? w _ hx564_0)).trans hx564_0
            replace p564 := eq_true p564
            replace q564 := eq_true q564
            have p565 : 0 ≤ (x4_1 : Int) := of_decide_eq_true zq3
            have q565 : x4_1 < (l0.length : Int) := of_decide_eq_true zq3
            obtain ⟨ad565, e565, hx565_0⟩ := Kd.at_int HR0.out x4_1 p565 q565
            obtain rfl : ad563 = ad565 := (by injection e565)
            replace hx565_0 := (HB.out.cell (World.block_lt_of_cell? w _ hx565_0)).trans hx565_0
            replace p565 := eq_true p565
            replace q565 := eq_true q565
            go_wp2
            repeat (go_quiet (fail); try go_wp2)
            go_roundg k2
            case measure => have := HK1.out; have := HK2.out; omega
            case rel => exact ⟨(x3_1), (x5_2), (by first | rfl | (simp; done) | (simp [*]; done)), H', ⟨by have := HK1.out; have := HK2.out; omega⟩, ⟨by (with_reducible repeat (first | apply Kd.R_alloc | apply Kd.R_drewN | apply Kd.R_drew)); exact HO_3.out⟩, ⟨by repeat (first | (with_reducible first | exact HB.out | apply below_alloc | apply pw_below_drewN | apply below_drew1) | exact HB.out)⟩⟩
         ·
          rw [if_neg c8] at H
          exact absurd H (by simp)
        ·
         rw [if_neg c7] at H
         exact absurd H (by simp)
       ·
        rw [if_neg c6] at H
        exact absurd H (by simp)
      ·
       rw [if_neg c5] at H
       have c5b0 : decide (x5_2 < (l0.length : Int)) = false := decide_eq_false c5
       clear c5
       by_cases c13 : 0 ≤ x4_1
       ·
        rw [if_pos c13] at H
        have c13b0 : decide (0 ≤ x4_1) = true := decide_eq_true c13
        clear c13
        by_cases c14 : x4_1 < (l0.length : Int)
        ·
         rw [if_pos c14] at H
         have c14b0 : decide (x4_1 < (l0.length : Int)) = true := decide_eq_true c14
         clear c14
         by_cases c15 : (rd l0 x4_1) > 0
         ·
          rw [if_pos c15] at H
          have c15b0 : decide (0 < (rd l0 x4_1)) = true := decide_eq_true c15
          clear c15
          by_cases c16 : x3_1.length < 5864062014805
          ·
           rw [if_pos c16] at H
           have LMc16 := Aside0.mk c16
           clear c16
           obtain ⟨y572, hy572⟩ : ∃ y_ : List (S50), y_ = (x3_1 ++ [(⟨x4_1, x5_2, rd l0 x4_1⟩ : S50)]) := ⟨_, rfl⟩
           replace H : (spec_l15Timeline.l0 k2 l0 y572 x5_2) = some r := by first | (rw [hy572]; with_reducible exact H) | (have H2_ := (Option.bind_some _ _).symm.trans H; rw [hy572]; with_reducible exact H2_) | (have H2_ := (Option.bind_some _ _).symm.trans H; with_reducible exact H2_) | with_reducible exact H | (rw [hy572]; exact H) | exact H
           have Ny572 := Aside0.mk hy572
           clear hy572
           have H' := Aside0.mk H
           clear H
           have p570 : 0 ≤ (x4_1 : Int) := of_decide_eq_true zq3
           have q570 : x4_1 < (l0.length : Int) := of_decide_eq_true zq3
           obtain ⟨ad570, e570, hx570_0⟩ := Kd.at_int HR0.out x4_1 p570 q570
           cases e570
           replace hx570_0 := (HB.out.cell (World.block_lt_of_cell? w _ hx570_0)).trans hx570_0
           replace p570 := eq_true p570
           replace q570 := eq_true q570
           have p571 : 0 ≤ (x4_1 : Int) := of_decide_eq_true zq3
           have q571 : x4_1 < (l0.length : Int) := of_decide_eq_true zq3
           obtain ⟨ad571, e571, hx571_0⟩ := Kd.at_int HR0.out x4_1 p571 q571
           obtain rfl : ad570 = ad571 := (by injection e571)
           replace hx571_0 := (HB.out.cell (World.block_lt_of_cell? w _ hx571_0)).trans hx571_0
           replace p571 := eq_true p571
           replace q571 := eq_true q571
           go_wp2_with (first | ((with_reducible refine gate_builtin (b := .append) (xs := #[.tmp 34, .tmp 42]) rfl ?_); at_builtin; refine Kd.R_append k50 (w0 := w) w.heap.size rfl (.tmp 34) (.tmp 42) 40 50 (.agg #[(.int .i64 0), (.int .i64 0), (.int .i64 0)]) 24 rfl Try.underlying40 info50 rfl (by decide) (by omega) u3 x3_1 (⟨x4_1, x5_2, rd l0 x4_1⟩ : S50) [.int .i64 x4_1, .int .i64 x5_2, .int .i64 (rd l0 x4_1)] (fun _ => True) (fun _ => False) rfl rfl ?aP (fun _ hk => hk.elim) ?aF ?aO ?aB ?aS ?aL ?_; (case aP => exact k50_mkM _ _ _ (⟨x4_1, x5_2, rd l0 x4_1⟩ : S50)); (case aB => exact zq0); (case aF => exact (fun _ _ => trivial)); (case aO => exact (zqR HO_3.out)); (case aS => exact (below_size zq0)); (case aL => have := LMc16.out; omega); intro v573 w17 ho hb hg hat; rw [← Ny572.out] at ho; have n0_ := Aside0.mk (hb); have n1_ := Aside0.mk (ho); clear HB; clear HO_3; have HB := n0_; have HO574 := n1_; clear n0_ n1_; clear ho hb hg hat))
           repeat (go_quiet (first | ((with_reducible refine gate_builtin (b := .append) (xs := #[.tmp 34, .tmp 42]) rfl ?_); at_builtin; refine Kd.R_append k50 (w0 := w) w.heap.size rfl (.tmp 34) (.tmp 42) 40 50 (.agg #[(.int .i64 0), (.int .i64 0), (.int .i64 0)]) 24 rfl Try.underlying40 info50 rfl (by decide) (by omega) u3 x3_1 (⟨x4_1, x5_2, rd l0 x4_1⟩ : S50) [.int .i64 x4_1, .int .i64 x5_2, .int .i64 (rd l0 x4_1)] (fun _ => True) (fun _ => False) rfl rfl ?aP (fun _ hk => hk.elim) ?aF ?aO ?aB ?aS ?aL ?_; (case aP => exact k50_mkM _ _ _ (⟨x4_1, x5_2, rd l0 x4_1⟩ : S50)); (case aB => exact zq0); (case aF => exact (fun _ _ => trivial)); (case aO => exact (zqR HO_3.out)); (case aS => exact (below_size zq0)); (case aL => have := LMc16.out; omega); intro v573 w17 ho hb hg hat; rw [← Ny572.out] at ho; have n0_ := Aside0.mk (hb); have n1_ := Aside0.mk (ho); clear HB; clear HO_3; have HB := n0_; have HO574 := n1_; clear n0_ n1_; clear ho hb hg hat)); try go_wp2_with (first | ((with_reducible refine gate_builtin (b := .append) (xs := #[.tmp 34, .tmp 42]) rfl ?_); at_builtin; refine Kd.R_append k50 (w0 := w) w.heap.size rfl (.tmp 34) (.tmp 42) 40 50 (.agg #[(.int .i64 0), (.int .i64 0), (.int .i64 0)]) 24 rfl Try.underlying40 info50 rfl (by decide) (by omega) u3 x3_1 (⟨x4_1, x5_2, rd l0 x4_1⟩ : S50) [.int .i64 x4_1, .int .i64 x5_2, .int .i64 (rd l0 x4_1)] (fun _ => True) (fun _ => False) rfl rfl ?aP (fun _ hk => hk.elim) ?aF ?aO ?aB ?aS ?aL ?_; (case aP => exact k50_mkM _ _ _ (⟨x4_1, x5_2, rd l0 x4_1⟩ : S50)); (case aB => exact zq0); (case aF => exact (fun _ _ => trivial)); (case aO => exact (zqR HO_3.out)); (case aS => exact (below_size zq0)); (case aL => have := LMc16.out; omega); intro v573 w17 ho hb hg hat; rw [← Ny572.out] at ho; have n0_ := Aside0.mk (hb); have n1_ := Aside0.mk (ho); clear HB; clear HO_3; have HB := n0_; have HO574 := n1_; clear n0_ n1_; clear ho hb hg hat)))
           go_roundg k2
           case measure => have := HK1.out; have := HK2.out; omega
           case rel => exact ⟨(y572), (x5_2), (by first | rfl | (simp; done) | (simp [*]; done)), H', ⟨by have := HK1.out; have := HK2.out; omega⟩, ⟨by (with_reducible repeat (first | apply Kd.R_alloc | apply Kd.R_drewN | apply Kd.R_drew)); exact HO574.out⟩, ⟨by repeat (first | (with_reducible first | exact HB.out | apply below_alloc | apply pw_below_drewN | apply below_drew1) | exact HB.out)⟩⟩
          ·
           rw [if_neg c16] at H
           exact absurd H (by simp)
         ·
          rw [if_neg c15] at H
          have c15b0 : decide (0 < (rd l0 x4_1)) = false := decide_eq_false c15
          clear c15
          have H' := Aside0.mk H
          clear H
          have p570 : 0 ≤ (x4_1 : Int) := of_decide_eq_true zq3
          have q570 : x4_1 < (l0.length : Int) := of_decide_eq_true zq3
          obtain ⟨ad570, e570, hx570_0⟩ := Kd.at_int HR0.out x4_1 p570 q570
          cases e570
          replace hx570_0 := (HB.out.cell (World.block_lt_of_cell? w _ hx570_0)).trans hx570_0
          replace p570 := eq_true p570
          replace q570 := eq_true q570
          go_wp2
          repeat (go_quiet (fail); try go_wp2)
          go_roundg k2
          case measure => have := HK1.out; have := HK2.out; omega
          case rel => exact ⟨(x3_1), (x5_2), (by first | rfl | (simp; done) | (simp [*]; done)), H', ⟨by have := HK1.out; have := HK2.out; omega⟩, ⟨by (with_reducible repeat (first | apply Kd.R_alloc | apply Kd.R_drewN | apply Kd.R_drew)); exact HO_3.out⟩, ⟨by repeat (first | (with_reducible first | exact HB.out | apply below_alloc | apply pw_below_drewN | apply below_drew1) | exact HB.out)⟩⟩
        ·
         rw [if_neg c14] at H
         exact absurd H (by simp)
       ·
        rw [if_neg c13] at H
        exact absurd H (by simp)
   ·
    rw [if_neg c4] at H
    have c4b0 : decide (x4_1 < (l0.length : Int)) = false := decide_eq_false c4
    clear c4
    obtain rfl := Option.some.inj H
    go_wp2
    repeat (go_quiet (fail); try go_wp2)
    go_ret
    exact ⟨_, by first | rfl | (simp [errW_none, errW_some] <;> rfl) | (simp [*, errW_none, errW_some] <;> rfl), by (with_reducible repeat (first | apply Kd.R_alloc | apply Kd.R_drewN | apply Kd.R_drew)); exact HO_3.out, by repeat (first | (with_reducible first | exact HB.out | apply below_alloc | apply pw_below_drewN | apply below_drew1) | exact HB.out)⟩

end Go.Proofs.Ytklepiechbnenaa.Q
namespace Go.Proofs.Ytklepiechbnenaa.Q
open Go.RowKit Go.Proofs.YtklepiechbnenaaW.PrintWords Go.Proofs.YtklepiechbnenaaW.PrintLast Go.Proofs.YtklepiechbnenaaW.PrintMore
attribute [local go_sem] max2_int min2_int max_two min_two max_three min_three max_four min_four   -- for this text's walks alone
set_option linter.unusedVariables false
set_option linter.unusedSimpArgs false

/-! ### spec_TopicTimeline: function 20 -/
mutual
def spec_TopicTimeline.j0 : Nat → List (S31) → Int → Int → Bool → Option ((List (S50)) × Bool)
 | 0, _, _, _, _ => none
 | k + 1, x0, x1, x2, x22 => if x22 = true then (some ((([] : List (S50))), false)) else (spec_TopicTimeline.l0 k x0 x1 x2 (([] : List Int)) 0)
def spec_TopicTimeline.l0 : Nat → List (S31) → Int → Int → List Int → Int → Option ((List (S50)) × Bool)
 | 0, _, _, _, _, _ => none
 | k + 1, x0, x1, x2, x8, x9 => if x9 < 240 then ((spec_l15Level.f k x0 x1 x2 x9).bind fun t584 => (if x8.length < 17592186044416 then (spec_TopicTimeline.l0 k x0 x1 x2 (x8 ++ [t584]) (wrap64 (x9 + 1))) else (none))) else ((spec_l15Timeline.f k x8).bind fun t588 => (some (t588, true)))
end
def spec_TopicTimeline.f (k : Nat) (l0 : List (S31)) (a1 : Int) (a2 : Int) : Option ((List (S50)) × Bool) := (spec_l14List.f k l0).bind fun t575 => (if t575 = true then ((spec_l15Topic.f a1).bind fun t576 => (if t576 = true then ((spec_l15Area.f a2).bind fun t577 => (spec_TopicTimeline.j0 k l0 a1 a2 (!t577))) else (spec_TopicTimeline.j0 k l0 a1 a2 true))) else (spec_TopicTimeline.j0 k l0 a1 a2 true))
theorem spec_TopicTimeline.mono_l : ∀ k, (∀ y0 y1 y2 y3, LeO (spec_TopicTimeline.j0 k y0 y1 y2 y3) (spec_TopicTimeline.j0 (k + 1) y0 y1 y2 y3)) ∧ (∀ y0 y1 y2 y3 y4, LeO (spec_TopicTimeline.l0 k y0 y1 y2 y3 y4) (spec_TopicTimeline.l0 (k + 1) y0 y1 y2 y3 y4))
 | 0 => ⟨fun _ _ _ _ r h => by simp [spec_TopicTimeline.j0] at h, fun _ _ _ _ _ r h => by simp [spec_TopicTimeline.l0] at h⟩
 | k + 1 => by
  obtain ⟨ih0, ih1⟩ := spec_TopicTimeline.mono_l k
  refine ⟨?_, ?_⟩
  ·
   intro y0 y1 y2 y3
   unfold spec_TopicTimeline.j0
   repeat' first
   | (with_reducible exact ih0 _ _ _ _)
   | (with_reducible exact ih1 _ _ _ _ _)
   | (with_reducible exact spec_l14List.mono _ _)
   | (with_reducible exact spec_l15Level.mono _ _ _ _ _)
   | (with_reducible exact spec_l15Timeline.mono _ _)
   | (with_reducible exact LeO.refl _)
   | (with_reducible exact LeO.none _)
   | (with_reducible refine LeO.ite ?_ ?_)
   | (with_reducible refine LeO.bind ?_ (fun _ => ?_))
   | exact ih0 _ _ _ _
   | exact ih1 _ _ _ _ _
   | exact spec_l14List.mono _ _
   | exact spec_l15Level.mono _ _ _ _ _
   | exact spec_l15Timeline.mono _ _
   | exact LeO.none _
   | refine LeO.ite ?_ ?_
   | refine LeO.bind ?_ (fun _ => ?_)
  ·
   intro y0 y1 y2 y3 y4
   unfold spec_TopicTimeline.l0
   repeat' first
   | (with_reducible exact ih0 _ _ _ _)
   | (with_reducible exact ih1 _ _ _ _ _)
   | (with_reducible exact spec_l14List.mono _ _)
   | (with_reducible exact spec_l15Level.mono _ _ _ _ _)
   | (with_reducible exact spec_l15Timeline.mono _ _)
   | (with_reducible exact LeO.refl _)
   | (with_reducible exact LeO.none _)
   | (with_reducible refine LeO.ite ?_ ?_)
   | (with_reducible refine LeO.bind ?_ (fun _ => ?_))
   | exact ih0 _ _ _ _
   | exact ih1 _ _ _ _ _
   | exact spec_l14List.mono _ _
   | exact spec_l15Level.mono _ _ _ _ _
   | exact spec_l15Timeline.mono _ _
   | exact LeO.none _
   | refine LeO.ite ?_ ?_
   | refine LeO.bind ?_ (fun _ => ?_)
theorem spec_TopicTimeline.mono : ∀ a0 a1 a2 k, LeO (spec_TopicTimeline.f k a0 a1 a2) (spec_TopicTimeline.f (k + 1) a0 a1 a2) := by
 intro a0 a1 a2 k
 obtain ⟨ih0, ih1⟩ := spec_TopicTimeline.mono_l k
 unfold spec_TopicTimeline.f
 repeat' first
   | (with_reducible exact ih0 _ _ _ _)
   | (with_reducible exact ih1 _ _ _ _ _)
   | (with_reducible exact spec_l14List.mono _ _)
   | (with_reducible exact spec_l15Level.mono _ _ _ _ _)
   | (with_reducible exact spec_l15Timeline.mono _ _)
   | (with_reducible exact LeO.refl _)
   | (with_reducible exact LeO.none _)
   | (with_reducible refine LeO.ite ?_ ?_)
   | (with_reducible refine LeO.bind ?_ (fun _ => ?_))
   | exact ih0 _ _ _ _
   | exact ih1 _ _ _ _ _
   | exact spec_l14List.mono _ _
   | exact spec_l15Level.mono _ _ _ _ _
   | exact spec_l15Timeline.mono _ _
   | exact LeO.none _
   | refine LeO.ite ?_ ?_
   | refine LeO.bind ?_ (fun _ => ?_)
set_option maxHeartbeats 8000000 in
set_option maxRecDepth 100000 in
theorem spec_TopicTimeline.calls (k : Nat) (A0 : Option Addr) (c0 : Nat) (l0 : List (S31)) (a1 : Int) (a2 : Int) (r1 : List (S50)) (r2 : Bool) (w : World) (hr0 : Kd.C k31 w A0 l0.length l0) (hc0 : l0.length ≤ c0) (h : spec_TopicTimeline.f k l0 a1 a2 = some (r1, r2)) :
  Calls Try.prog 20 #[.slice A0 l0.length c0, .int .i64 a1, .int .i64 a2] w fun e w' => ∃ v0_ : Value, e = .returned (.tuple #[v0_, .bool r2]) ∧ Kd.R k50 50 w' w.heap.size (fun _ => True) v0_ r1 ∧ Below w.heap.size w w' := by
 have HR0 := Aside0.mk hr0
 have HC0 := Aside0.mk hc0
 clear hr0 hc0
 have HB := Aside0.mk (Below.refl w.heap.size w)
 have H : ((spec_l14List.f k l0).bind fun t575 => (if t575 = true then ((spec_l15Topic.f a1).bind fun t576 => (if t576 = true then ((spec_l15Area.f a2).bind fun t577 => (spec_TopicTimeline.j0 k l0 a1 a2 (!t577))) else (spec_TopicTimeline.j0 k l0 a1 a2 true))) else (spec_TopicTimeline.j0 k l0 a1 a2 true))) = some (r1, r2) := h
 clear h
 have HC4 := Aside0.mk H
 clear H
 go_enter Try.func20, Try.ntmps20
 go_upto_region 1 with (fail)
 go_cut [22] (fun v22 wc => ∃ (kq : Nat) (x22_3 : Bool), v22 = .bool x22_3 ∧ Aside0 (spec_TopicTimeline.j0 kq l0 a1 a2 x22_3 = some (r1, r2)) ∧ Aside0 (kq ≤ k) ∧ Aside0 (Below w.heap.size w wc))
 case first =>
  have H := HC4.out
  clear HC4
  replace H := Option.bind_eq_some_iff.mp H
  obtain ⟨t575, A50, H⟩ := H
  replace H : (if t575 = true then ((spec_l15Topic.f a1).bind fun t576 => (if t576 = true then ((spec_l15Area.f a2).bind fun t577 => (spec_TopicTimeline.j0 k l0 a1 a2 (!t577))) else (spec_TopicTimeline.j0 k l0 a1 a2 true))) else (spec_TopicTimeline.j0 k l0 a1 a2 true)) = some (r1, r2) := H
  have A5 := Aside0.mk A50
  clear A50
  by_cases c6 : t575 = true
  ·
   subst c6
   have H1 : ((spec_l15Topic.f a1).bind fun t576 => (if t576 = true then ((spec_l15Area.f a2).bind fun t577 => (spec_TopicTimeline.j0 k l0 a1 a2 (!t577))) else (spec_TopicTimeline.j0 k l0 a1 a2 true))) = some (r1, r2) := by rw [if_pos rfl] at H; exact H
   clear H
   have H := H1
   clear H1
   replace H := Option.bind_eq_some_iff.mp H
   obtain ⟨t576, A70, H⟩ := H
   replace H : (if t576 = true then ((spec_l15Area.f a2).bind fun t577 => (spec_TopicTimeline.j0 k l0 a1 a2 (!t577))) else (spec_TopicTimeline.j0 k l0 a1 a2 true)) = some (r1, r2) := H
   have A7 := Aside0.mk A70
   clear A70
   by_cases c8 : t576 = true
   ·
    subst c8
    have H1 : ((spec_l15Area.f a2).bind fun t577 => (spec_TopicTimeline.j0 k l0 a1 a2 (!t577))) = some (r1, r2) := by rw [if_pos rfl] at H; exact H
    clear H
    have H := H1
    clear H1
    replace H := Option.bind_eq_some_iff.mp H
    obtain ⟨t577, A90, H⟩ := H
    replace H : (spec_TopicTimeline.j0 k l0 a1 a2 (!t577)) = some (r1, r2) := H
    have A9 := Aside0.mk A90
    clear A90
    have H' := Aside0.mk H
    clear H
    go_wp2_with (first | ((with_reducible refine gate_callee (f := 63) rfl ?_); refine goesL_ (some 11) rfl rfl Try.func63 (by kernel_rfl) rfl #[.slice A0 l0.length c0] rfl zq1 ?_; (with_reducible refine (spec_l14List.calls k _ _ l0 true _ ?side1 ?side2 A5.out).mono ?_); (case side1 => repeat (first | exact (Kd.C_below HR0.out HB.out) | (with_reducible refine Kd.C_alloc ?_ _) | (with_reducible refine Kd.C_drewN ?_ _) | (with_reducible refine Kd.C_drew ?_))); (case side2 => exact HC0.out); rintro e w10 ⟨rfl, hb⟩; refine ⟨_, rfl, ?_⟩; have n0_ := Aside0.mk (below_step zq0 hb); clear HB; have HB := n0_; clear n0_; (try clear hb); (try clear hb2); (try clear hk); (try clear hi)) | (go_at_call 81; (with_reducible refine (spec_l15Topic.calls a1 true _ A7.out).mono ?_); rintro e w' ⟨rfl, ⟨nd, rfl⟩⟩) | (go_at_call 82; (with_reducible refine (spec_l15Area.calls a2 t577 _ A9.out).mono ?_); rintro e w' ⟨rfl, ⟨nd, rfl⟩⟩))
    go_meet
    case rel => exact ⟨_, (!t577), (by first | rfl | (simp; done) | (simp [*]; done)), H', ⟨by first | omega | exact Nat.le_refl _⟩, ⟨by repeat (first | (with_reducible first | exact HB.out | apply below_alloc | apply pw_below_drewN | apply below_drew1) | exact HB.out)⟩⟩
   ·
    replace c8 := Bool.eq_false_iff.mpr c8
    subst c8
    have H1 : (spec_TopicTimeline.j0 k l0 a1 a2 true) = some (r1, r2) := by rw [if_neg (show ¬ (false = true) by decide)] at H; exact H
    clear H
    have H := H1
    clear H1
    have H' := Aside0.mk H
    clear H
    go_wp2_with (first | ((with_reducible refine gate_callee (f := 63) rfl ?_); refine goesL_ (some 11) rfl rfl Try.func63 (by kernel_rfl) rfl #[.slice A0 l0.length c0] rfl zq1 ?_; (with_reducible refine (spec_l14List.calls k _ _ l0 true _ ?side1 ?side2 A5.out).mono ?_); (case side1 => repeat (first | exact (Kd.C_below HR0.out HB.out) | (with_reducible refine Kd.C_alloc ?_ _) | (with_reducible refine Kd.C_drewN ?_ _) | (with_reducible refine Kd.C_drew ?_))); (case side2 => exact HC0.out); rintro e w11 ⟨rfl, hb⟩; refine ⟨_, rfl, ?_⟩; have n0_ := Aside0.mk (below_step zq0 hb); clear HB; have HB := n0_; clear n0_; (try clear hb); (try clear hb2); (try clear hk); (try clear hi)) | (go_at_call 81; (with_reducible refine (spec_l15Topic.calls a1 false _ A7.out).mono ?_); rintro e w' ⟨rfl, ⟨nd, rfl⟩⟩))
    go_meet
    case rel => exact ⟨_, (true), (by first | rfl | (simp; done) | (simp [*]; done)), H', ⟨by first | omega | exact Nat.le_refl _⟩, ⟨by repeat (first | (with_reducible first | exact HB.out | apply below_alloc | apply pw_below_drewN | apply below_drew1) | exact HB.out)⟩⟩
  ·
   replace c6 := Bool.eq_false_iff.mpr c6
   subst c6
   have H1 : (spec_TopicTimeline.j0 k l0 a1 a2 true) = some (r1, r2) := by rw [if_neg (show ¬ (false = true) by decide)] at H; exact H
   clear H
   have H := H1
   clear H1
   have H' := Aside0.mk H
   clear H
   go_wp2_with (first | ((with_reducible refine gate_callee (f := 63) rfl ?_); refine goesL_ (some 11) rfl rfl Try.func63 (by kernel_rfl) rfl #[.slice A0 l0.length c0] rfl zq1 ?_; (with_reducible refine (spec_l14List.calls k _ _ l0 false _ ?side1 ?side2 A5.out).mono ?_); (case side1 => repeat (first | exact (Kd.C_below HR0.out HB.out) | (with_reducible refine Kd.C_alloc ?_ _) | (with_reducible refine Kd.C_drewN ?_ _) | (with_reducible refine Kd.C_drew ?_))); (case side2 => exact HC0.out); rintro e w12 ⟨rfl, hb⟩; refine ⟨_, rfl, ?_⟩; have n0_ := Aside0.mk (below_step zq0 hb); clear HB; have HB := n0_; clear n0_; (try clear hb); (try clear hb2); (try clear hk); (try clear hi)))
   go_meet
   case rel => exact ⟨_, (true), (by first | rfl | (simp; done) | (simp [*]; done)), H', ⟨by first | omega | exact Nat.le_refl _⟩, ⟨by repeat (first | (with_reducible first | exact HB.out | apply below_alloc | apply pw_below_drewN | apply below_drew1) | exact HB.out)⟩⟩
 case rest =>
  clear HC4
  try clear c2
  try clear p2
  try clear c6
  try clear c8
  obtain ⟨kq, x22_3, rfl, HA, HJ3, HB⟩ := hcut
  cases kq with
  | zero => exact absurd HA.out (by simp [spec_TopicTimeline.j0])
  | succ kj3 =>
   have H := HA.out
   clear HA
   simp only [spec_TopicTimeline.j0] at H
   by_cases c13 : x22_3 = true
   ·
    subst c13
    have H1 : (some ((([] : List (S50))), false)) = some (r1, r2) := by rw [if_pos rfl] at H; exact H
    clear H
    have H := H1
    clear H1
    obtain ⟨y578, hy578⟩ : ∃ y_ : List (S50), y_ = (([] : List (S50))) := ⟨_, rfl⟩
    replace H : (some (y578, false)) = some (r1, r2) := by first | (rw [hy578]; with_reducible exact H) | (have H2_ := (Option.bind_some _ _).symm.trans H; rw [hy578]; with_reducible exact H2_) | (have H2_ := (Option.bind_some _ _).symm.trans H; with_reducible exact H2_) | with_reducible exact H | (rw [hy578]; exact H) | exact H
    have Ny578 := Aside0.mk hy578
    clear hy578
    simp only [Option.some.injEq, Prod.mk.injEq] at H
    obtain ⟨rfl, rfl⟩ := H
    go_wp2_with (first | ((with_reducible refine gate_dst (N := 23) rfl ?_); refine Kd.R_lit k50 _ 50 ?hg (N := 23) ?hd (xs := ([] : List (S50))) (inner := []) (ok := fun _ => True) (okp := fun _ => True) ?hr ?hp (fun _ hk => hk) trivial (Below.refl _ _) (Nat.le_refl _) (by simp) ?_; (case hd => rfl); (case hg => rfl); (case hr => first | (go_simp; done) | (go_simp; rfl)); (case hp => exact (Reps.none _ _)); intro v579 w14 ho15 hb hg_ hnew_; clear hg_ hnew_; (first | rw [← Ny578.out] at ho15 | (simp only [Int.reduceToNat] at ho15; rw [← Ny578.out] at ho15)); have n0_ := Aside0.mk (Kd.R_lower ho15 (below_size zq0)); have n1_ := Aside0.mk (below_step zq0 hb); clear HB; have HO580 := n0_; have HB := n1_; clear n0_ n1_; clear hb ho15))
    go_ret2
    exact ⟨_, by first | rfl | (simp [errW_none, errW_some] <;> rfl) | (simp [*, errW_none, errW_some] <;> rfl), by (with_reducible repeat (first | apply Kd.R_alloc | apply Kd.R_drewN | apply Kd.R_drew)); exact HO580.out, by repeat (first | (with_reducible first | exact HB.out | apply below_alloc | apply pw_below_drewN | apply below_drew1) | exact HB.out)⟩
   ·
    replace c13 := Bool.eq_false_iff.mpr c13
    subst c13
    have H1 : (spec_TopicTimeline.l0 kj3 l0 a1 a2 (([] : List Int)) 0) = some (r1, r2) := by rw [if_neg (show ¬ (false = true) by decide)] at H; exact H
    clear H
    have H := H1
    clear H1
    obtain ⟨y581, hy581⟩ : ∃ y_ : List Int, y_ = (([] : List Int)) := ⟨_, rfl⟩
    replace H : (spec_TopicTimeline.l0 kj3 l0 a1 a2 y581 0) = some (r1, r2) := by first | (rw [hy581]; with_reducible exact H) | (have H2_ := (Option.bind_some _ _).symm.trans H; rw [hy581]; with_reducible exact H2_) | (have H2_ := (Option.bind_some _ _).symm.trans H; with_reducible exact H2_) | with_reducible exact H | (rw [hy581]; exact H) | exact H
    have Ny581 := Aside0.mk hy581
    clear hy581
    have H' := Aside0.mk H
    clear H
    go_wp2_with (first | ((with_reducible refine gate_dst (N := 24) rfl ?_); refine Kd.R_lit (Kd.int .i64) _ 3 ?hg (N := 24) ?hd (xs := ([] : List Int)) (inner := []) (ok := fun _ => True) (okp := fun _ => True) ?hr ?hp (fun _ hk => hk) trivial (Below.refl _ _) (Nat.le_refl _) (by simp) ?_; (case hd => rfl); (case hg => rfl); (case hr => first | (go_simp; done) | (go_simp; rfl)); (case hp => exact (Reps.none _ _)); intro v582 w16 ho17 hb hg_ hnew_; clear hg_ hnew_; (first | rw [← Ny581.out] at ho17 | (simp only [Int.reduceToNat] at ho17; rw [← Ny581.out] at ho17)); have n0_ := Aside0.mk (Kd.R_lower ho17 (below_size zq0)); have n1_ := Aside0.mk (below_step zq0 hb); clear HB; have HO583 := n0_; have HB := n1_; clear n0_ n1_; clear hb ho17))
    go_loopg [8, 9] kj3 (fun kq v8 v9 w' => ∃ (x8_2 : List Int) (x9_2 : Int), v9 = .int .i64 x9_2 ∧ Aside0 (spec_TopicTimeline.l0 kq l0 a1 a2 x8_2 x9_2 = some (r1, r2)) ∧ Aside0 (kq ≤ kj3) ∧ Aside0 (Kd.R (Kd.int .i64) 3 w' w.heap.size (fun _ => True) v8 x8_2) ∧ Aside0 (Below w.heap.size w w'))
    case atStart => exact ⟨(y581), (0), (by first | rfl | (simp; done) | (simp [*]; done)), H', ⟨Nat.le_refl _⟩, ⟨by (with_reducible repeat (first | apply Kd.R_alloc | apply Kd.R_drewN | apply Kd.R_drew)); exact HO583.out⟩, ⟨by repeat (first | (with_reducible first | exact HB.out | apply below_alloc | apply pw_below_drewN | apply below_drew1) | exact HB.out)⟩⟩
    case round =>
     clear H'
     try clear c1
     try clear c2
     try clear p2
     try clear c6
     try clear c8
     try clear c13
     try clear p2
     obtain ⟨x8_2, x9_2, rfl, HA, HK2, HO_8, HB⟩ := hrel
     cases gk with
     | zero => exact absurd HA.out (by simp [spec_TopicTimeline.l0])
     | succ k2 =>
      have H := HA.out
      clear HA
      simp only [spec_TopicTimeline.l0] at H
      by_cases c18 : x9_2 < 240
      ·
       rw [if_pos c18] at H
       have c18b0 : decide (x9_2 < 240) = true := decide_eq_true c18
       clear c18
       replace H := Option.bind_eq_some_iff.mp H
       obtain ⟨t584, A190, H⟩ := H
       replace H : (if x8_2.length < 17592186044416 then (spec_TopicTimeline.l0 k2 l0 a1 a2 (x8_2 ++ [t584]) (wrap64 (x9_2 + 1))) else (none)) = some (r1, r2) := H
       have A19 := Aside0.mk A190
       clear A190
       by_cases c20 : x8_2.length < 17592186044416
       ·
        rw [if_pos c20] at H
        have LMc20 := Aside0.mk c20
        clear c20
        obtain ⟨y585, hy585⟩ : ∃ y_ : List Int, y_ = (x8_2 ++ [t584]) := ⟨_, rfl⟩
        replace H : (spec_TopicTimeline.l0 k2 l0 a1 a2 y585 (wrap64 (x9_2 + 1))) = some (r1, r2) := by first | (rw [hy585]; with_reducible exact H) | (have H2_ := (Option.bind_some _ _).symm.trans H; rw [hy585]; with_reducible exact H2_) | (have H2_ := (Option.bind_some _ _).symm.trans H; with_reducible exact H2_) | with_reducible exact H | (rw [hy585]; exact H) | exact H
        have Ny585 := Aside0.mk hy585
        clear hy585
        have H' := Aside0.mk H
        clear H
        go_wp2_with (first | ((with_reducible refine gate_callee (f := 83) rfl ?_); refine goesL_ (some 34) rfl rfl Try.func83 (by kernel_rfl) rfl #[.slice A0 l0.length c0, .int .i64 a1, .int .i64 a2, .int .i64 x9_2] rfl zq1 ?_; (with_reducible refine (spec_l15Level.calls k2 _ _ l0 a1 a2 x9_2 t584 _ ?side1 ?side2 A19.out).mono ?_); (case side1 => repeat (first | exact (Kd.C_below HR0.out HB.out) | (with_reducible refine Kd.C_alloc ?_ _) | (with_reducible refine Kd.C_drewN ?_ _) | (with_reducible refine Kd.C_drew ?_))); (case side2 => exact HC0.out); rintro e w21 ⟨rfl, hb⟩; refine ⟨_, rfl, ?_⟩; have n0_ := Aside0.mk (Kd.R_below (zqR HO_8.out) hb); have n1_ := Aside0.mk (below_step zq0 hb); clear HO_8; clear HB; have HO_8 := n0_; have HB := n1_; clear n0_ n1_; (try clear hb); (try clear hb2); (try clear hk); (try clear hi)) | ((with_reducible refine gate_builtin (b := .append) (xs := #[.tmp 29, .tmp 35]) rfl ?_); at_builtin; refine Kd.R_append (Kd.int .i64) (w0 := w) w.heap.size rfl (.tmp 29) (.tmp 35) 54 3 (.int .i64 0) 8 rfl Try.underlying54 info3 rfl (by decide) (by omega) u8 x8_2 t584 [.int .i64 t584] (fun _ => True) (fun _ => False) rfl rfl ?aP (fun _ hk => hk.elim) ?aF ?aO ?aB ?aS ?aL ?_; (case aP => exact rfl); (case aB => exact zq0); (case aF => exact (fun _ _ => trivial)); (case aO => exact (zqR HO_8.out)); (case aS => exact (below_size zq0)); (case aL => have := LMc20.out; omega); intro v586 w22 ho hb hg hat; rw [← Ny585.out] at ho; have n0_ := Aside0.mk (hb); have n1_ := Aside0.mk (ho); clear HB; clear HO_8; have HB := n0_; have HO587 := n1_; clear n0_ n1_; clear ho hb hg hat))
        go_roundg k2
        case measure => have := HJ3.out; have := HK2.out; omega
        case rel => exact ⟨(y585), (wrap64 (x9_2 + 1)), (by first | rfl | (simp; done) | (simp [*]; done)), H', ⟨by have := HJ3.out; have := HK2.out; omega⟩, ⟨by (with_reducible repeat (first | apply Kd.R_alloc | apply Kd.R_drewN | apply Kd.R_drew)); exact HO587.out⟩, ⟨by repeat (first | (with_reducible first | exact HB.out | apply below_alloc | apply pw_below_drewN | apply below_drew1) | exact HB.out)⟩⟩
       ·
        rw [if_neg c20] at H
        exact absurd H (by simp)
      ·
       rw [if_neg c18] at H
       have c18b0 : decide (x9_2 < 240) = false := decide_eq_false c18
       clear c18
       replace H := Option.bind_eq_some_iff.mp H
       obtain ⟨t588, A230, H⟩ := H
       replace H : (some (t588, true)) = some (r1, r2) := H
       have A23 := Aside0.mk A230
       clear A230
       simp only [Option.some.injEq, Prod.mk.injEq] at H
       obtain ⟨rfl, rfl⟩ := H
       obtain ⟨Ao24, co24, eo24⟩ := Kd.R_slice HO_8.out
       subst eo24
       go_wp2_with (first | ((with_reducible refine gate_callee (f := 84) rfl ?_); refine goesL_ (some 38) rfl rfl Try.func84 (by kernel_rfl) rfl #[.slice Ao24 x8_2.length co24] rfl zq1 ?_; (with_reducible refine (spec_l15Timeline.calls k2 _ _ x8_2 t588 _ ?side1 ?side2 A23.out).mono ?_); (case side1 => repeat (first | exact (Kd.R_reads' HO_8.out).2.2 | (with_reducible refine Kd.C_alloc ?_ _) | (with_reducible refine Kd.C_drewN ?_ _) | (with_reducible refine Kd.C_drew ?_))); (case side2 => exact (Kd.R_reads' HO_8.out).2.1); rintro e w25 ⟨v589, rfl, ho0, hb⟩; refine ⟨_, rfl, ?_⟩; have n0_ := Aside0.mk (Kd.R_below (zqR HO_8.out) hb); have n1_ := Aside0.mk (Kd.R_lower ho0 (below_size zq0)); have n2_ := Aside0.mk (below_step zq0 hb); clear HO_8; clear HB; have HO_8 := n0_; have HO590 := n1_; have HB := n2_; clear n0_ n1_ n2_; (try clear hb); (try clear hb2); (try clear hk); (try clear hi); (try clear ho0)))
       go_ret2
       exact ⟨_, by first | rfl | (simp [errW_none, errW_some] <;> rfl) | (simp [*, errW_none, errW_some] <;> rfl), by (with_reducible repeat (first | apply Kd.R_alloc | apply Kd.R_drewN | apply Kd.R_drew)); exact HO590.out, by repeat (first | (with_reducible first | exact HB.out | apply below_alloc | apply pw_below_drewN | apply below_drew1) | exact HB.out)⟩

end Go.Proofs.Ytklepiechbnenaa.Q
namespace Go.Proofs.Ytklepiechbnenaa.Q
open Go.RowKit Go.Proofs.YtklepiechbnenaaW.PrintWords Go.Proofs.YtklepiechbnenaaW.PrintLast Go.Proofs.YtklepiechbnenaaW.PrintMore
attribute [local go_sem] max2_int min2_int max_two min_two max_three min_three max_four min_four   -- for this text's walks alone
set_option linter.unusedVariables false
set_option linter.unusedSimpArgs false

theorem eqA50 (d : Nat) (w : World) (x0 y0 : Int) (x1 y1 : Int) (x2 y2 : Int) :
  (Op.equalIn (d + 2) 50 (.agg #[.int .i64 x0, .int .i64 x1, .int .i64 x2]) (.agg #[.int .i64 y0, .int .i64 y1, .int .i64 y2])).run Try.prog w = .ok (x0 == y0 && (x1 == y1 && (x2 == y2))) w := by
 refine eqA_of Try.underlying50 (by kernel_rfl) ?_
 refine eqf_cons (by rfl) (by go_simp; rfl) (by go_simp; rfl) (by go_simp) ?_
 refine eqf_cons (by rfl) (by go_simp; rfl) (by go_simp; rfl) (by go_simp) ?_
 exact eqf_last (by rfl) (by go_simp; rfl) (by go_simp; rfl) (by go_simp)
end Go.Proofs.Ytklepiechbnenaa.Q
namespace Go.Proofs.Ytklepiechbnenaa.Q
open Go.RowKit Go.Proofs.YtklepiechbnenaaW.PrintWords Go.Proofs.YtklepiechbnenaaW.PrintLast Go.Proofs.YtklepiechbnenaaW.PrintMore
attribute [local go_sem] max2_int min2_int max_two min_two max_three min_three max_four min_four   -- for this text's walks alone
set_option linter.unusedVariables false
set_option linter.unusedSimpArgs false

attribute [local go_sem high] eqA50
/-! ### laws_vStretches: function 21 -/
def laws_vStretches.l0 : Nat → List (S50) → List (S50) → Int → Option (Bool)
 | 0, _, _, _ => none
 | k + 1, x0, x1, x5 => if x5 < (x0.length : Int) then (if 0 ≤ x5 then (if x5 < (x1.length : Int) then (if (!(((rd_T50 x0 x5).f0) == ((rd_T50 x1 x5).f0)) || (!(((rd_T50 x0 x5).f1) == ((rd_T50 x1 x5).f1)) || (!(((rd_T50 x0 x5).f2) == ((rd_T50 x1 x5).f2))))) = true then (some false) else (laws_vStretches.l0 k x0 x1 (wrap64 (x5 + 1)))) else (none)) else (none)) else (some true)
def laws_vStretches.f (k : Nat) (l0 : List (S50)) (l1 : List (S50)) : Option (Bool) := if (l0.length : Int) = (l1.length : Int) then (laws_vStretches.l0 k l0 l1 0) else (some false)
theorem laws_vStretches.mono_l : ∀ k, (∀ y0 y1 y2, LeO (laws_vStretches.l0 k y0 y1 y2) (laws_vStretches.l0 (k + 1) y0 y1 y2))
 | 0 => fun _ _ _ r h => by simp [laws_vStretches.l0] at h
 | k + 1 => by
  have ih0 := laws_vStretches.mono_l k
  ·
   intro y0 y1 y2
   unfold laws_vStretches.l0
   repeat' first
   | (with_reducible exact ih0 _ _ _)
   | (with_reducible exact LeO.refl _)
   | (with_reducible exact LeO.none _)
   | (with_reducible refine LeO.ite ?_ ?_)
   | (with_reducible refine LeO.bind ?_ (fun _ => ?_))
   | exact ih0 _ _ _
   | exact LeO.none _
   | refine LeO.ite ?_ ?_
   | refine LeO.bind ?_ (fun _ => ?_)
theorem laws_vStretches.mono : ∀ a0 a1 k, LeO (laws_vStretches.f k a0 a1) (laws_vStretches.f (k + 1) a0 a1) := by
 intro a0 a1 k
 have ih0 := laws_vStretches.mono_l k
 unfold laws_vStretches.f
 repeat' first
   | (with_reducible exact ih0 _ _ _)
   | (with_reducible exact LeO.refl _)
   | (with_reducible exact LeO.none _)
   | (with_reducible refine LeO.ite ?_ ?_)
   | (with_reducible refine LeO.bind ?_ (fun _ => ?_))
   | exact ih0 _ _ _
   | exact LeO.none _
   | refine LeO.ite ?_ ?_
   | refine LeO.bind ?_ (fun _ => ?_)
set_option maxHeartbeats 8000000 in
set_option maxRecDepth 100000 in
theorem laws_vStretches.calls (k : Nat) (A0 : Option Addr) (c0 : Nat) (l0 : List (S50)) (A1 : Option Addr) (c1 : Nat) (l1 : List (S50)) (r : Bool) (w : World) (hr0 : Kd.C k50 w A0 l0.length l0) (hc0 : l0.length ≤ c0) (hr1 : Kd.C k50 w A1 l1.length l1) (hc1 : l1.length ≤ c1) (h : laws_vStretches.f k l0 l1 = some r) :
  Calls Try.prog 21 #[.slice A0 l0.length c0, .slice A1 l1.length c1] w fun e w' => e = .returned (.bool r) ∧ Drawn0 w w' := by
 have hu50 := Try.underlying50
 have HR0 := Aside0.mk hr0
 have HC0 := Aside0.mk hc0
 clear hr0 hc0
 have HR1 := Aside0.mk hr1
 have HC1 := Aside0.mk hc1
 clear hr1 hc1
 have H : (if (l0.length : Int) = (l1.length : Int) then (laws_vStretches.l0 k l0 l1 0) else (some false)) = some r := h
 clear h
 by_cases c3 : (l0.length : Int) = (l1.length : Int)
 ·
  rw [if_pos c3] at H
  have c3b0 : ((l0.length : Int) == (l1.length : Int)) = true := beq_iff_eq.mpr c3
  have c3b1 : ((l0.length : Int) != (l1.length : Int)) = false := bne_eq_false_iff_eq.mpr c3
  have c3b2 : (l0.length == l1.length) = true := by first | simpa using c3 | (simp at c3 ⊢; omega)
  clear c3
  have H' := Aside0.mk H
  clear H
  go_enter Try.func21, Try.ntmps21
  go_wp2
  repeat (go_quiet (fail); try go_wp2)
  go_loopg [5] k (fun kq v5 w' => ∃ (x5_1 : Int), v5 = .int .i64 x5_1 ∧ Aside0 (laws_vStretches.l0 kq l0 l1 x5_1 = some r) ∧ Aside0 (kq ≤ k) ∧ Drawn0 w w')
  case atStart => exact ⟨(0), (by first | rfl | (simp; done) | (simp [*]; done)), H', ⟨Nat.le_refl _⟩, by repeat (first | exact Drawn0.refl _ | apply Drawn0.step)⟩
  case round =>
   clear H'
   try clear c1
   try clear c2
   try clear p2
   try clear c3
   try clear c3b0
   try clear c3b1
   try clear c3b2
   obtain ⟨x5_1, rfl, HA, HK1, ⟨m1, rfl⟩⟩ := hrel
   cases gk with
   | zero => exact absurd HA.out (by simp [laws_vStretches.l0])
   | succ k1 =>
    have H := HA.out
    clear HA
    simp only [laws_vStretches.l0] at H
    by_cases c4 : x5_1 < (l0.length : Int)
    ·
     rw [if_pos c4] at H
     have c4b0 : decide (x5_1 < (l0.length : Int)) = true := decide_eq_true c4
     clear c4
     by_cases c5 : 0 ≤ x5_1
     ·
      rw [if_pos c5] at H
      have c5b0 : decide (0 ≤ x5_1) = true := decide_eq_true c5
      clear c5
      by_cases c6 : x5_1 < (l1.length : Int)
      ·
       rw [if_pos c6] at H
       have c6b0 : decide (x5_1 < (l1.length : Int)) = true := decide_eq_true c6
       clear c6
       by_cases c7 : (!(((rd_T50 l0 x5_1).f0) == ((rd_T50 l1 x5_1).f0)) || (!(((rd_T50 l0 x5_1).f1) == ((rd_T50 l1 x5_1).f1)) || (!(((rd_T50 l0 x5_1).f2) == ((rd_T50 l1 x5_1).f2))))) = true
       ·
        rw [if_pos c7] at H
        have c7b0 : (!(((rd_T50 l0 x5_1).f0) == ((rd_T50 l1 x5_1).f0)) || (!(((rd_T50 l0 x5_1).f1) == ((rd_T50 l1 x5_1).f1)) || (!(((rd_T50 l0 x5_1).f2) == ((rd_T50 l1 x5_1).f2))))) = true := c7
        clear c7
        obtain rfl := Option.some.inj H
        have p591 : 0 ≤ (x5_1 : Int) := of_decide_eq_true zq3
        have q591 : x5_1 < (l0.length : Int) := of_decide_eq_true zq3
        obtain ⟨ad591, e591, hx591_0, hx591_1, hx591_2⟩ := at_T50 HR0.out x5_1 p591 q591
        cases e591
        replace p591 := eq_true p591
        replace q591 := eq_true q591
        have p592 : 0 ≤ (x5_1 : Int) := of_decide_eq_true zq3
        have q592 : x5_1 < (l1.length : Int) := of_decide_eq_true zq3
        obtain ⟨ad592, e592, hx592_0, hx592_1, hx592_2⟩ := at_T50 HR1.out x5_1 p592 q592
        cases e592
        replace p592 := eq_true p592
        replace q592 := eq_true q592
        go_wp2
        repeat (go_quiet (fail); try go_wp2)
        go_ret
        exact ⟨by first | rfl | (simp; done) | (simp [*]; done), by repeat (first | exact Drawn0.refl _ | apply Drawn0.step)⟩
       ·
        rw [if_neg c7] at H
        have c7b0 : (!(((rd_T50 l0 x5_1).f0) == ((rd_T50 l1 x5_1).f0)) || (!(((rd_T50 l0 x5_1).f1) == ((rd_T50 l1 x5_1).f1)) || (!(((rd_T50 l0 x5_1).f2) == ((rd_T50 l1 x5_1).f2))))) = false := by simpa using c7
        clear c7
        have H' := Aside0.mk H
        clear H
        have p591 : 0 ≤ (x5_1 : Int) := of_decide_eq_true zq3
        have q591 : x5_1 < (l0.length : Int) := of_decide_eq_true zq3
        obtain ⟨ad591, e591, hx591_0, hx591_1, hx591_2⟩ := at_T50 HR0.out x5_1 p591 q591
        cases e591
        replace p591 := eq_true p591
        replace q591 := eq_true q591
        have p592 : 0 ≤ (x5_1 : Int) := of_decide_eq_true zq3
        have q592 : x5_1 < (l1.length : Int) := of_decide_eq_true zq3
        obtain ⟨ad592, e592, hx592_0, hx592_1, hx592_2⟩ := at_T50 HR1.out x5_1 p592 q592
        cases e592
        replace p592 := eq_true p592
        replace q592 := eq_true q592
        go_wp2
        repeat (go_quiet (fail); try go_wp2)
        go_roundg k1
        case measure => have := HK1.out; omega
        case rel => exact ⟨(wrap64 (x5_1 + 1)), (by first | rfl | (simp; done) | (simp [*]; done)), H', ⟨by have := HK1.out; omega⟩, by repeat (first | exact Drawn0.refl _ | apply Drawn0.step)⟩
      ·
       rw [if_neg c6] at H
       exact absurd H (by simp)
     ·
      rw [if_neg c5] at H
      exact absurd H (by simp)
    ·
     rw [if_neg c4] at H
     have c4b0 : decide (x5_1 < (l0.length : Int)) = false := decide_eq_false c4
     clear c4
     obtain rfl := Option.some.inj H
     go_wp2
     repeat (go_quiet (fail); try go_wp2)
     go_ret
     exact ⟨by first | rfl | (simp; done) | (simp [*]; done), by repeat (first | exact Drawn0.refl _ | apply Drawn0.step)⟩
 ·
  rw [if_neg c3] at H
  have c3b0 : ((l0.length : Int) == (l1.length : Int)) = false := beq_eq_false_iff_ne.mpr c3
  have c3b1 : ((l0.length : Int) != (l1.length : Int)) = true := bne_iff_ne.mpr c3
  have c3b2 : (l0.length == l1.length) = false := by first | simpa using c3 | (simp at c3 ⊢; omega)
  obtain rfl := Option.some.inj H
  go_enter Try.func21, Try.ntmps21
  go_wp2
  repeat (go_quiet (fail); try go_wp2)
  go_ret
  exact ⟨by first | rfl | (simp; done) | (simp [*]; done), by repeat (first | exact Drawn0.refl _ | apply Drawn0.step)⟩

end Go.Proofs.Ytklepiechbnenaa.Q
namespace Go.Proofs.Ytklepiechbnenaa.Q
open Go.RowKit Go.Proofs.YtklepiechbnenaaW.PrintWords Go.Proofs.YtklepiechbnenaaW.PrintLast Go.Proofs.YtklepiechbnenaaW.PrintMore
attribute [local go_sem] max2_int min2_int max_two min_two max_three min_three max_four min_four   -- for this text's walks alone
set_option linter.unusedVariables false
set_option linter.unusedSimpArgs false

/-! ### impl_checkedWarnings: function 85 -/
def impl_checkedWarnings.f (k : Nat) (l0 : List (S31)) : Option ((List (S31)) × Bool) := (impl_IsConsistent.f k l0).bind fun t292 => (if t292 = true then (some (l0, true)) else (some (([] : List (S31)), false)))
theorem impl_checkedWarnings.mono : ∀ a0 k, LeO (impl_checkedWarnings.f k a0) (impl_checkedWarnings.f (k + 1) a0) := by
 intro a0 k
 unfold impl_checkedWarnings.f
 repeat' first
   | (with_reducible exact impl_IsConsistent.mono _ _)
   | (with_reducible exact LeO.refl _)
   | (with_reducible exact LeO.none _)
   | (with_reducible refine LeO.ite ?_ ?_)
   | (with_reducible refine LeO.bind ?_ (fun _ => ?_))
   | exact impl_IsConsistent.mono _ _
   | exact LeO.none _
   | refine LeO.ite ?_ ?_
   | refine LeO.bind ?_ (fun _ => ?_)
set_option maxHeartbeats 8000000 in
set_option maxRecDepth 100000 in
theorem impl_checkedWarnings.calls (k : Nat) (P0_ : Nat → Prop) (u9000_ : Value) (l0 : List (S31)) (r1 : List (S31)) (r2 : Bool) (w0 w : World) (hB : Below w0.heap.size w0 w) (ho0 : Kd.R k31 31 w w0.heap.size P0_ u9000_ l0) (h : impl_checkedWarnings.f k l0 = some (r1, r2)) :
  Calls Try.prog 85 #[u9000_] w fun e w' => ∃ v0_ : Value, e = .returned (.tuple #[v0_, .bool r2]) ∧ Kd.R k31 31 w' w0.heap.size (fun k_ => (P0_ k_ ∨ w.heap.size ≤ k_)) v0_ r1 ∧ Below w0.heap.size w0 w' ∧ Kept w w' (fun k_ => P0_ k_) := by
 have HO0 := Aside0.mk (show Kd.R k31 31 w w0.heap.size (fun k_ => (P0_ k_ ∨ w.heap.size ≤ k_)) u9000_ l0 from Kd.R_mono ho0 (fun k_ hk => (.inl hk)))
 have HK := Aside0.mk (Kept.refl w (fun k_ => P0_ k_))
 have HW0 := Aside0.mk hB.size
 have HB := Aside0.mk hB
 clear hB
 have H : ((impl_IsConsistent.f k l0).bind fun t292 => (if t292 = true then (some (l0, true)) else (some (([] : List (S31)), false)))) = some (r1, r2) := h
 clear h
 replace H := Option.bind_eq_some_iff.mp H
 obtain ⟨t292, A20, H⟩ := H
 replace H : (if t292 = true then (some (l0, true)) else (some (([] : List (S31)), false))) = some (r1, r2) := H
 have A2 := Aside0.mk A20
 clear A20
 by_cases c3 : t292 = true
 ·
  subst c3
  have H1 : (some (l0, true)) = some (r1, r2) := by rw [if_pos rfl] at H; exact H
  clear H
  have H := H1
  clear H1
  simp only [Option.some.injEq, Prod.mk.injEq] at H
  obtain ⟨rfl, rfl⟩ := H
  obtain ⟨Ao4, co4, eo4⟩ := Kd.R_slice HO0.out
  subst eo4
  go_enter Try.func85, Try.ntmps85
  go_wp2_with (first | ((with_reducible refine gate_callee (f := 12) rfl ?_); refine goesL_ (some 5) rfl rfl Try.func12 (by kernel_rfl) rfl #[.slice Ao4 l0.length co4] rfl zq1 ?_; (with_reducible refine (impl_IsConsistent.calls k _ _ l0 true _ ?side1 ?side2 A2.out).mono ?_); (case side1 => repeat (first | exact (Kd.R_reads' HO0.out).2.2 | (with_reducible refine Kd.C_alloc ?_ _) | (with_reducible refine Kd.C_drewN ?_ _) | (with_reducible refine Kd.C_drew ?_))); (case side2 => exact (Kd.R_reads' HO0.out).2.1); rintro e w5 ⟨rfl, hb⟩; refine ⟨_, rfl, ?_⟩; have n0_ := Aside0.mk (Kd.R_below (zqR HO0.out) hb); have n1_ := Aside0.mk (Kept.below (S := (fun k_ => P0_ k_)) zq19 hb); have n2_ := Aside0.mk (below_step zq0 hb); clear HO0; clear HK; clear HB; have HO0 := n0_; have HK := n1_; have HB := n2_; clear n0_ n1_ n2_; (try clear hb); (try clear hb2); (try clear hk); (try clear hi)))
  go_ret2
  exact ⟨_, by first | rfl | (simp [errW_none, errW_some] <;> rfl) | (simp [*, errW_none, errW_some] <;> rfl), by (with_reducible repeat (first | apply Kd.R_alloc | apply Kd.R_drewN | apply Kd.R_drew)); exact HO0.out, by repeat (first | (with_reducible first | exact HB.out | apply below_alloc | apply pw_below_drewN | apply below_drew1) | exact HB.out), by repeat (first | (with_reducible first | exact HK.out | apply Kept.alloc | apply Kept.drewN | apply Kept.drew) | exact HK.out)⟩
 ·
  replace c3 := Bool.eq_false_iff.mpr c3
  subst c3
  have H1 : (some (([] : List (S31)), false)) = some (r1, r2) := by rw [if_neg (show ¬ (false = true) by decide)] at H; exact H
  clear H
  have H := H1
  clear H1
  simp only [Option.some.injEq, Prod.mk.injEq] at H
  obtain ⟨rfl, rfl⟩ := H
  obtain ⟨Ao6, co6, eo6⟩ := Kd.R_slice HO0.out
  subst eo6
  go_enter Try.func85, Try.ntmps85
  go_wp2_with (first | ((with_reducible refine gate_callee (f := 12) rfl ?_); refine goesL_ (some 5) rfl rfl Try.func12 (by kernel_rfl) rfl #[.slice Ao6 l0.length co6] rfl zq1 ?_; (with_reducible refine (impl_IsConsistent.calls k _ _ l0 false _ ?side1 ?side2 A2.out).mono ?_); (case side1 => repeat (first | exact (Kd.R_reads' HO0.out).2.2 | (with_reducible refine Kd.C_alloc ?_ _) | (with_reducible refine Kd.C_drewN ?_ _) | (with_reducible refine Kd.C_drew ?_))); (case side2 => exact (Kd.R_reads' HO0.out).2.1); rintro e w7 ⟨rfl, hb⟩; refine ⟨_, rfl, ?_⟩; have n0_ := Aside0.mk (Kd.R_below (zqR HO0.out) hb); have n1_ := Aside0.mk (Kept.below (S := (fun k_ => P0_ k_)) zq19 hb); have n2_ := Aside0.mk (below_step zq0 hb); clear HO0; clear HK; clear HB; have HO0 := n0_; have HK := n1_; have HB := n2_; clear n0_ n1_ n2_; (try clear hb); (try clear hb2); (try clear hk); (try clear hi)))
  go_ret2
  exact ⟨_, by first | rfl | (simp [errW_none, errW_some] <;> rfl) | (simp [*, errW_none, errW_some] <;> rfl), by first | exact Kd.R_nil _ _ _ _ _ | exact Kd.N_nil _ _ _ _ _ | exact Kd.V_nil _ _ _ _ _ | exact Kd.Q_nil _ _ _ _ _ | exact Kd.S_nil _ _ _ _ _, by repeat (first | (with_reducible first | exact HB.out | apply below_alloc | apply pw_below_drewN | apply below_drew1) | exact HB.out), by repeat (first | (with_reducible first | exact HK.out | apply Kept.alloc | apply Kept.drewN | apply Kept.drew) | exact HK.out)⟩

end Go.Proofs.Ytklepiechbnenaa.Q
