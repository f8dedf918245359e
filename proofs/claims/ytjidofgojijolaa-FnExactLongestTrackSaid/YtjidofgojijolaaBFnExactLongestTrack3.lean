/- Texts of this seat, put together: Qf60, Qf40, Qf35, Qf70, Qf58, Qf36, Qf63, Qf41, Qf73, Qf67, Qf50. -/
import Derived.Test.YtjidofgojijolaaBFnExactLongestTrack0
import Derived.Test.YtjidofgojijolaaBFnExactLongestTrack2
namespace Go.Proofs.Ytjidofgojijolaa.Q
open Go.RowKit Go.Proofs.YtjidofgojijolaaW.PrintWords Go.Proofs.YtjidofgojijolaaW.PrintLast Go.Proofs.YtjidofgojijolaaW.PrintMore
attribute [local go_sem] max2_int min2_int max_two min_two max_three min_three max_four min_four   -- for this text's walks alone
set_option linter.unusedVariables false
set_option linter.unusedSimpArgs false

/-! ### impl_Storm_60: function 60 -/
/-- slices.ContainsFunc at storms. -/
theorem ContainsFuncS.calls (g : Nat) (lb : Array Value) (p : S71 → Bool) (eg : ∀ args w, (callFunc g args).run Try.prog w = .ok (.enter g args) w)
  (A0 : Option Addr) (n0 c0 : Nat) (l0 : List S71) (w : World) (hn : n0 = l0.length) (hr0 : Kd.C k71 w A0 l0.length l0) (hc0 : l0.length ≤ c0)
  (hp : ∀ (W : World) (x : S71), Below w.heap.size w W → Calls Try.prog g (#[.agg #[.int .i64 x.f0, .int .i64 x.f1, .int .i64 x.f2, .int .i64 x.f3]] ++ lb) W fun e w' => e = .returned (.bool (p x)) ∧ Below W.heap.size W w') :
  Calls Try.prog 60 #[.slice A0 n0 c0, .func (.func g) #[] lb] w fun e w' => e = .returned (.bool (l0.any p)) ∧ Below w.heap.size w w' := by
 subst hn
 rw [← Gen.fIdx_nonneg p l0]
 have HC := Aside0.mk (IndexFuncS.calls g lb p eg A0 _ c0 l0 w rfl hr0 hc0 hp)
 clear hr0 hp hc0
 go_enter Try.func60, Try.ntmps60
 go_wp2_with (go_at_call 72; refine HC.out.mono ?_; rintro e w' ⟨rfl, hb'⟩)
 go_ret
 exact ⟨rfl, hb'⟩

end Go.Proofs.Ytjidofgojijolaa.Q
namespace Go.Proofs.Ytjidofgojijolaa.Q
open Go.RowKit Go.Proofs.YtjidofgojijolaaW.PrintWords Go.Proofs.YtjidofgojijolaaW.PrintLast Go.Proofs.YtjidofgojijolaaW.PrintMore
attribute [local go_sem] max2_int min2_int max_two min_two max_three min_three max_four min_four   -- for this text's walks alone
set_option linter.unusedVariables false
set_option linter.unusedSimpArgs false

/-! ### impl_areStorms: function 40 -/
-- called: 60 51
/-- A storm in its ranges. -/
def stormB (x : S71) : Bool := decide (0 ≤ x.f0 ∧ x.f0 ≤ 7) && (decide (0 ≤ x.f1 ∧ x.f1 ≤ 7) && (decide (1 ≤ x.f2 ∧ x.f2 ≤ 64) && decide (-9000 ≤ x.f3 ∧ x.f3 ≤ 9000)))
def badS (x : S71) : Bool := !stormB x
set_option maxRecDepth 100000 in
theorem impl_areStorms.pred : ∀ (W : World) (x : S71), Calls Try.prog 61 (#[.agg #[.int .i64 x.f0, .int .i64 x.f1, .int .i64 x.f2, .int .i64 x.f3]] ++ #[]) W fun e w' => e = .returned (.bool (badS x)) ∧ Below W.heap.size W w' := by
 intro W x
 show Calls Try.prog 61 #[.agg #[.int .i64 x.f0, .int .i64 x.f1, .int .i64 x.f2, .int .i64 x.f3]] W _
 unfold badS stormB
 have e1 := within_f x.f0 0 7
 have e2 := within_f x.f1 0 7
 have e3 := within_f x.f2 1 64
 have e4 := within_f x.f3 (-9000) 9000
 have hu := Try.underlying71
 generalize decide (0 ≤ x.f0 ∧ x.f0 ≤ 7) = b1 at e1 ⊢
 generalize decide (0 ≤ x.f1 ∧ x.f1 ≤ 7) = b2 at e2 ⊢
 generalize decide (1 ≤ x.f2 ∧ x.f2 ≤ 64) = b3 at e3 ⊢
 generalize decide (-9000 ≤ x.f3 ∧ x.f3 ≤ 9000) = b4 at e4 ⊢
 have E1 := Aside0.mk e1
 have E2 := Aside0.mk e2
 have E3 := Aside0.mk e3
 have E4 := Aside0.mk e4
 clear e1 e2 e3 e4
 generalize x.f0 = x0 at *
 generalize x.f1 = x1 at *
 generalize x.f2 = x2 at *
 generalize x.f3 = x3 at *
 obtain ⟨W1, hW1⟩ : ∃ W1, W1 = W.alloc (.cells #[.int .i64 x0, .int .i64 x1, .int .i64 x2, .int .i64 x3] 71) := ⟨_, rfl⟩
 have a1B : Below W.heap.size W W1 := by rw [hW1]; exact (Below.refl _ W).alloc (Nat.le_refl _) _
 have a1N : W1.heap[W.heap.size]? = some (.cells #[.int .i64 x0, .int .i64 x1, .int .i64 x2, .int .i64 x3] 71 (0, 0)) := by rw [hW1]; exact heap_alloc_new W _
 have HW := Aside0.mk hW1
 have HBW := Aside0.mk a1B
 have HN := Aside0.mk a1N
 clear a1B a1N hW1
 go_enter Try.func61, Try.ntmps61
 go_wp2_with fail
 rw [← HW.out]
 refine (impl_within.calls x0 0 7 b1 _ E1.out).mono ?_
 rintro e w1 ⟨rfl, hb⟩
 try replace hb := hb.below
 have HB1 := Aside0.mk (below_step HBW.out hb)
 have HN1 := Aside0.mk (blk_below HN.out hb)
 have f1 : w1.cell? ⟨W.heap.size, 1, none⟩ = some (.int .i64 x1) := blk_cell HN1.out 1
 clear hb
 cases b1 with
 | false =>
  go_wp2
  go_ret
  exact ⟨rfl, HB1.out⟩
 | true =>
  go_wp2_with fail
  refine (impl_within.calls x1 0 7 b2 _ E2.out).mono ?_
  rintro e w2 ⟨rfl, hb⟩
  try replace hb := hb.below
  have HB2 := Aside0.mk (below_step HB1.out hb)
  have HN2 := Aside0.mk (blk_below HN1.out hb)
  have f2 : w2.cell? ⟨W.heap.size, 2, none⟩ = some (.int .i64 x2) := blk_cell HN2.out 2
  clear hb f1
  cases b2 with
  | false =>
   go_wp2
   go_ret
   exact ⟨rfl, HB2.out⟩
  | true =>
   go_wp2_with fail
   refine (impl_within.calls x2 1 64 b3 _ E3.out).mono ?_
   rintro e w3 ⟨rfl, hb⟩
   try replace hb := hb.below
   have HB3 := Aside0.mk (below_step HB2.out hb)
   have HN3 := Aside0.mk (blk_below HN2.out hb)
   have f3 : w3.cell? ⟨W.heap.size, 3, none⟩ = some (.int .i64 x3) := blk_cell HN3.out 3
   clear hb f2
   cases b3 with
   | false =>
    go_wp2
    go_ret
    exact ⟨rfl, HB3.out⟩
   | true =>
    go_wp2_with fail
    refine (impl_within.calls x3 (-9000) 9000 b4 _ E4.out).mono ?_
    rintro e w4 ⟨rfl, hb⟩
    try replace hb := hb.below
    have HB4 := Aside0.mk (below_step HB3.out hb)
    have HN4 := Aside0.mk (blk_below HN3.out hb)
    clear hb f3
    go_wp2
    go_ret
    exact ⟨by cases b4 <;> rfl, HB4.out⟩
def impl_areStorms.f (l0 : List S71) : Option Bool := some (decide (l0.length ≤ 5) && !(l0.any badS))
theorem impl_areStorms.calls (A0 : Option Addr) (c0 : Nat) (l0 : List S71) (r : Bool) (w : World) (hr0 : Kd.C k71 w A0 l0.length l0) (hc0 : l0.length ≤ c0) (h : impl_areStorms.f l0 = some r) :
  Calls Try.prog 40 #[.slice A0 l0.length c0] w fun e w' => e = .returned (.bool r) ∧ Below w.heap.size w w' := by
 have eg : ∀ args w, (callFunc 61 args).run Try.prog w = .ok (.enter 61 args) w := enters_of Try.func61 (by kernel_rfl) rfl
 have EG := Aside0.mk eg
 have HR := Aside0.mk hr0
 have HC := Aside0.mk hc0
 have hbig : l0.length ≤ 9223372036854775807 := hr0.2.1
 clear eg hr0 hc0
 obtain rfl := Option.some.inj h
 clear h
 by_cases c : l0.length ≤ 5
 ·
  have c1 : decide ((l0.length : Int) ≤ 5) = true := decide_eq_true (by omega)
  have c2 : ((l0.length : Int) ≤ 5) = True := eq_true (by omega)
  rw [decide_eq_true c, Bool.true_and]
  clear c
  go_enter Try.func40, Try.ntmps40
  go_wp2_with fail
  refine (ContainsFuncS.calls 61 #[] badS EG.out A0 l0.length c0 l0 _ rfl ?hr1 HC.out ?hp1).mono ?_
  case hr1 => first | exact HR.out | exact Kd.C_drew HR.out
  case hp1 => exact fun W x _ => impl_areStorms.pred W x
  rintro e w' ⟨rfl, hb'⟩
  go_wp2
  go_ret
  exact ⟨by first | rfl | simp, hb'⟩
 ·
  have c1 : decide ((l0.length : Int) ≤ 5) = false := decide_eq_false (by omega)
  have c2 : ((l0.length : Int) ≤ 5) = False := eq_false (by omega)
  rw [decide_eq_false c, Bool.false_and]
  clear c
  go_enter Try.func40, Try.ntmps40
  go_wp2
  go_ret
  exact ⟨rfl, by first | exact Below.refl _ _ | exact (Below.refl _ _).drew | exact pw_below_drewN (Below.refl _ _) _⟩

end Go.Proofs.Ytjidofgojijolaa.Q
namespace Go.Proofs.Ytjidofgojijolaa.Q
open Go.RowKit Go.Proofs.YtjidofgojijolaaW.PrintWords Go.Proofs.YtjidofgojijolaaW.PrintLast Go.Proofs.YtjidofgojijolaaW.PrintMore
attribute [local go_sem] max2_int min2_int max_two min_two max_three min_three max_four min_four   -- for this text's walks alone
set_option linter.unusedVariables false
set_option linter.unusedSimpArgs false

/-! ### impl_isPenalty: function 35 -/
def impl_isPenalty.f (a0 : Int) : Option (Bool) := (impl_within.f a0 0 20).bind fun t213 => (some t213)
set_option maxHeartbeats 8000000 in
set_option maxRecDepth 100000 in
theorem impl_isPenalty.calls (a0 : Int) (r : Bool) (w : World) (h : impl_isPenalty.f a0 = some r) :
  Calls Try.prog 35 #[.int .i64 a0] w fun e w' => e = .returned (.bool r) ∧ Drawn0 w w' := by
 have H : ((impl_within.f a0 0 20).bind fun t213 => (some t213)) = some r := h
 clear h
 replace H := Option.bind_eq_some_iff.mp H
 obtain ⟨t213, A20, H⟩ := H
 replace H : (some t213) = some r := H
 have A2 := Aside0.mk A20
 clear A20
 obtain rfl := Option.some.inj H
 go_enter Try.func35, Try.ntmps35
 go_wp2_with (first | ((with_reducible refine gate_callee (f := 51) rfl ?_); refine goesL_ (some 4) rfl rfl Try.func51 (by kernel_rfl) rfl #[.int .i64 a0, .int .i64 0, .int .i64 20] rfl (by (try simp only [List.map_toArray, List.map_cons, List.map_nil]); first | done | rfl | (simp only [List.length_drop, List.length_take]; rfl)) ?_; (with_reducible refine (impl_within.calls a0 0 20 t213 _ A2.out).mono ?_); rintro e w' ⟨rfl, ⟨nd, rfl⟩⟩; refine ⟨_, rfl, ?_⟩))
 go_ret
 exact ⟨by first | rfl | (simp; done) | (simp [*]; done), by repeat (first | exact Drawn0.refl _ | apply Drawn0.step)⟩

end Go.Proofs.Ytjidofgojijolaa.Q
namespace Go.Proofs.Ytjidofgojijolaa.Q
open Go.RowKit Go.Proofs.YtjidofgojijolaaW.PrintWords Go.Proofs.YtjidofgojijolaaW.PrintLast Go.Proofs.YtjidofgojijolaaW.PrintMore
attribute [local go_sem] max2_int min2_int max_two min_two max_three min_three max_four min_four   -- for this text's walks alone
set_option linter.unusedVariables false
set_option linter.unusedSimpArgs false

/-! ### impl_absOf: function 70 -/
def impl_absOf.f (a0 : Int) : Option (Int) := if a0 < 0 then (some (wrap64 (-a0))) else (some a0)
set_option maxHeartbeats 8000000 in
set_option maxRecDepth 100000 in
theorem impl_absOf.calls (a0 : Int) (r : Int) (w : World) (h : impl_absOf.f a0 = some r) :
  Calls Try.prog 70 #[.int .i64 a0] w fun e w' => e = .returned (.int .i64 r) ∧ Drawn0 w w' := by
 have H : (if a0 < 0 then (some (wrap64 (-a0))) else (some a0)) = some r := h
 clear h
 by_cases c2 : a0 < 0
 ·
  rw [if_pos c2] at H
  have c2b0 : decide (a0 < 0) = true := decide_eq_true c2
  clear c2
  obtain rfl := Option.some.inj H
  go_enter Try.func70, Try.ntmps70
  go_wp2
  go_ret
  exact ⟨by first | rfl | (simp; done) | (simp [*]; done), by repeat (first | exact Drawn0.refl _ | apply Drawn0.step)⟩
 ·
  rw [if_neg c2] at H
  have c2b0 : decide (a0 < 0) = false := decide_eq_false c2
  clear c2
  obtain rfl := Option.some.inj H
  go_enter Try.func70, Try.ntmps70
  go_wp2
  go_ret
  exact ⟨by first | rfl | (simp; done) | (simp [*]; done), by repeat (first | exact Drawn0.refl _ | apply Drawn0.step)⟩

end Go.Proofs.Ytjidofgojijolaa.Q
namespace Go.Proofs.Ytjidofgojijolaa.Q
open Go.RowKit Go.Proofs.YtjidofgojijolaaW.PrintWords Go.Proofs.YtjidofgojijolaaW.PrintLast Go.Proofs.YtjidofgojijolaaW.PrintMore
attribute [local go_sem] max2_int min2_int max_two min_two max_three min_three max_four min_four   -- for this text's walks alone
set_option linter.unusedVariables false
set_option linter.unusedSimpArgs false

/-! ### impl_stormDistance: function 58 -/
def impl_stormDistance.f (a0_0 : Int) (a0_1 : Int) (a0_2 : Int) (a0_3 : Int) (a1_0 : Int) (a1_1 : Int) (a1_2 : Int) (a1_3 : Int) : Option (Int) := (impl_absOf.f (wrap64 (a0_0 - a1_0))).bind fun t216 => ((impl_absOf.f (wrap64 (a0_1 - a1_1))).bind fun t217 => (some (wrap64 (t216 + t217))))
set_option maxHeartbeats 8000000 in
set_option maxRecDepth 100000 in
theorem impl_stormDistance.calls (a0_0 : Int) (a0_1 : Int) (a0_2 : Int) (a0_3 : Int) (a1_0 : Int) (a1_1 : Int) (a1_2 : Int) (a1_3 : Int) (r : Int) (w : World) (h : impl_stormDistance.f a0_0 a0_1 a0_2 a0_3 a1_0 a1_1 a1_2 a1_3 = some r) :
  Calls Try.prog 58 #[.agg #[.int .i64 a0_0, .int .i64 a0_1, .int .i64 a0_2, .int .i64 a0_3], .agg #[.int .i64 a1_0, .int .i64 a1_1, .int .i64 a1_2, .int .i64 a1_3]] w fun e w' => e = .returned (.int .i64 r) ∧ Below w.heap.size w w' := by
 have hu71 := Try.underlying71
 have HB := Aside0.mk (Below.refl w.heap.size w)
 have H : ((impl_absOf.f (wrap64 (a0_0 - a1_0))).bind fun t216 => ((impl_absOf.f (wrap64 (a0_1 - a1_1))).bind fun t217 => (some (wrap64 (t216 + t217))))) = some r := h
 clear h
 replace H := Option.bind_eq_some_iff.mp H
 obtain ⟨t216, A30, H⟩ := H
 replace H : ((impl_absOf.f (wrap64 (a0_1 - a1_1))).bind fun t217 => (some (wrap64 (t216 + t217)))) = some r := H
 have A3 := Aside0.mk A30
 clear A30
 replace H := Option.bind_eq_some_iff.mp H
 obtain ⟨t217, A40, H⟩ := H
 replace H : (some (wrap64 (t216 + t217))) = some r := H
 have A4 := Aside0.mk A40
 clear A40
 obtain rfl := Option.some.inj H
 go_enter Try.func58, Try.ntmps58
 go_wp2_with (first | ((with_reducible refine gate_dst (N := 2) rfl ?_); refine box_event ?hg (N := 2) ?hd (cs := #[.int .i64 a0_0, .int .i64 a0_1, .int .i64 a0_2, .int .i64 a0_3]) (t := 71) ?hr ?_; (case hd => rfl); (case hg => rfl); (case hr => first | (go_simp; done) | (go_simp; rfl)); intro gb214 hg w5 hbox hb; have n0_ := Aside0.mk (below_step (by repeat (first | (with_reducible first | exact HB.out | apply below_alloc | apply pw_below_drewN | apply below_drew1) | exact HB.out)) hb); have n1_ := Aside0.mk (hbox); have n2_ := Aside0.mk ((by rw [hg]; exact (below_size (by repeat (first | (with_reducible first | exact HB.out | apply below_alloc | apply pw_below_drewN | apply below_drew1) | exact HB.out))) : w.heap.size ≤ gb214)); have n3_ := Aside0.mk ((by rw [hg]; exact (below_size (by repeat (first | (with_reducible first | exact HB.out | apply below_alloc | apply pw_below_drewN | apply below_drew1) | exact HB.out))) : w.heap.size ≤ gb214)); clear HB; have HB := n0_; have BK214 := n1_; have GW214 := n2_; have GE214 := n3_; clear n0_ n1_ n2_ n3_; clear hb hbox hg) | ((with_reducible refine gate_dst (N := 3) rfl ?_); refine box_event ?hg (N := 3) ?hd (cs := #[.int .i64 a1_0, .int .i64 a1_1, .int .i64 a1_2, .int .i64 a1_3]) (t := 71) ?hr ?_; (case hd => rfl); (case hg => rfl); (case hr => first | (go_simp; done) | (go_simp; rfl)); intro gb215 hg w6 hbox hb; have n0_ := Aside0.mk (blk_below (g := gb214) (o := .cells #[.int .i64 a0_0, .int .i64 a0_1, .int .i64 a0_2, .int .i64 a0_3] 71 (0, 0)) (by (with_reducible repeat (first | refine blk_drewN ?_ _ | refine blk_drew ?_ | refine blk_alloc ?_ _)); exact BK214.out) hb); have n1_ := Aside0.mk (below_step (by repeat (first | (with_reducible first | exact HB.out | apply below_alloc | apply pw_below_drewN | apply below_drew1 | refine below_set ?_ GE214.out) | exact HB.out)) hb); have n2_ := Aside0.mk (hbox); have n3_ := Aside0.mk ((by rw [hg]; exact (below_size (by repeat (first | (with_reducible first | exact HB.out | apply below_alloc | apply pw_below_drewN | apply below_drew1 | refine below_set ?_ GE214.out) | exact HB.out))) : w.heap.size ≤ gb215)); have n4_ := Aside0.mk ((by rw [hg]; exact (below_size (by repeat (first | (with_reducible first | exact HB.out | apply below_alloc | apply pw_below_drewN | apply below_drew1 | refine below_set ?_ GE214.out) | exact HB.out))) : w.heap.size ≤ gb215)); have n5_ := Aside0.mk ((by rw [hg]; exact Nat.ne_of_lt (blk_lt (g := gb214) (o := .cells #[.int .i64 a0_0, .int .i64 a0_1, .int .i64 a0_2, .int .i64 a0_3] 71 (0, 0)) (by (with_reducible repeat (first | refine blk_drewN ?_ _ | refine blk_drew ?_ | refine blk_alloc ?_ _)); exact BK214.out)) : gb214 ≠ gb215)); have n6_ := Aside0.mk ((by rw [hg]; exact Nat.ne_of_gt (blk_lt (g := gb214) (o := .cells #[.int .i64 a0_0, .int .i64 a0_1, .int .i64 a0_2, .int .i64 a0_3] 71 (0, 0)) (by (with_reducible repeat (first | refine blk_drewN ?_ _ | refine blk_drew ?_ | refine blk_alloc ?_ _)); exact BK214.out)) : gb215 ≠ gb214)); clear BK214; clear HB; have BK214 := n0_; have HB := n1_; have BK215 := n2_; have GW215 := n3_; have GE215 := n4_; have NB214_215 := n5_; have NB215_214 := n6_; clear n0_ n1_ n2_ n3_ n4_ n5_ n6_; clear hb hbox hg; have hnb7 := NB214_215.out; have hnc7 := NB215_214.out; have hcz8_0 : w6.cell? ⟨gb214, 0, none⟩ = some (.int .i64 a0_0) := (blk_cell BK214.out 0).trans rfl; have hcz8_1 : w6.cell? ⟨gb214, 1, none⟩ = some (.int .i64 a0_1) := (blk_cell BK214.out 1).trans rfl; have hcz8_2 : w6.cell? ⟨gb214, 2, none⟩ = some (.int .i64 a0_2) := (blk_cell BK214.out 2).trans rfl; have hcz8_3 : w6.cell? ⟨gb214, 3, none⟩ = some (.int .i64 a0_3) := (blk_cell BK214.out 3).trans rfl; have hfz8_0 := blk_frozen BK214.out 0; have hfz8_1 := blk_frozen BK214.out 1; have hfz8_2 := blk_frozen BK214.out 2; have hfz8_3 := blk_frozen BK214.out 3; have hcz9_0 : w6.cell? ⟨gb215, 0, none⟩ = some (.int .i64 a1_0) := (blk_cell BK215.out 0).trans rfl; have hcz9_1 : w6.cell? ⟨gb215, 1, none⟩ = some (.int .i64 a1_1) := (blk_cell BK215.out 1).trans rfl; have hcz9_2 : w6.cell? ⟨gb215, 2, none⟩ = some (.int .i64 a1_2) := (blk_cell BK215.out 2).trans rfl; have hcz9_3 : w6.cell? ⟨gb215, 3, none⟩ = some (.int .i64 a1_3) := (blk_cell BK215.out 3).trans rfl; have hfz9_0 := blk_frozen BK215.out 0; have hfz9_1 := blk_frozen BK215.out 1; have hfz9_2 := blk_frozen BK215.out 2; have hfz9_3 := blk_frozen BK215.out 3) | (go_at_call 70; (with_reducible refine (impl_absOf.calls (wrap64 (a0_0 - a1_0)) t216 _ A3.out).mono ?_); rintro e w' ⟨rfl, ⟨nd, rfl⟩⟩; (try first | exact ⟨rfl, _, World.drewN_drewN _ _ _⟩ | exact ⟨rfl, _, Eq.trans (World.drewN_drewN _ _ _) (congrArg (World.drewN _) (Nat.add_assoc _ _ _))⟩)) | (go_at_call 70; (with_reducible refine (impl_absOf.calls (wrap64 (a0_1 - a1_1)) t217 _ A4.out).mono ?_); rintro e w' ⟨rfl, ⟨nd, rfl⟩⟩; (try first | exact ⟨rfl, _, World.drewN_drewN _ _ _⟩ | exact ⟨rfl, _, Eq.trans (World.drewN_drewN _ _ _) (congrArg (World.drewN _) (Nat.add_assoc _ _ _))⟩)))
 repeat (go_quiet (first | ((with_reducible refine gate_dst (N := 2) rfl ?_); refine box_event ?hg (N := 2) ?hd (cs := #[.int .i64 a0_0, .int .i64 a0_1, .int .i64 a0_2, .int .i64 a0_3]) (t := 71) ?hr ?_; (case hd => rfl); (case hg => rfl); (case hr => first | (go_simp; done) | (go_simp; rfl)); intro gb214 hg w5 hbox hb; have n0_ := Aside0.mk (below_step (by repeat (first | (with_reducible first | exact HB.out | apply below_alloc | apply pw_below_drewN | apply below_drew1) | exact HB.out)) hb); have n1_ := Aside0.mk (hbox); have n2_ := Aside0.mk ((by rw [hg]; exact (below_size (by repeat (first | (with_reducible first | exact HB.out | apply below_alloc | apply pw_below_drewN | apply below_drew1) | exact HB.out))) : w.heap.size ≤ gb214)); have n3_ := Aside0.mk ((by rw [hg]; exact (below_size (by repeat (first | (with_reducible first | exact HB.out | apply below_alloc | apply pw_below_drewN | apply below_drew1) | exact HB.out))) : w.heap.size ≤ gb214)); clear HB; have HB := n0_; have BK214 := n1_; have GW214 := n2_; have GE214 := n3_; clear n0_ n1_ n2_ n3_; clear hb hbox hg) | ((with_reducible refine gate_dst (N := 3) rfl ?_); refine box_event ?hg (N := 3) ?hd (cs := #[.int .i64 a1_0, .int .i64 a1_1, .int .i64 a1_2, .int .i64 a1_3]) (t := 71) ?hr ?_; (case hd => rfl); (case hg => rfl); (case hr => first | (go_simp; done) | (go_simp; rfl)); intro gb215 hg w6 hbox hb; have n0_ := Aside0.mk (blk_below (g := gb214) (o := .cells #[.int .i64 a0_0, .int .i64 a0_1, .int .i64 a0_2, .int .i64 a0_3] 71 (0, 0)) (by (with_reducible repeat (first | refine blk_drewN ?_ _ | refine blk_drew ?_ | refine blk_alloc ?_ _)); exact BK214.out) hb); have n1_ := Aside0.mk (below_step (by repeat (first | (with_reducible first | exact HB.out | apply below_alloc | apply pw_below_drewN | apply below_drew1 | refine below_set ?_ GE214.out) | exact HB.out)) hb); have n2_ := Aside0.mk (hbox); have n3_ := Aside0.mk ((by rw [hg]; exact (below_size (by repeat (first | (with_reducible first | exact HB.out | apply below_alloc | apply pw_below_drewN | apply below_drew1 | refine below_set ?_ GE214.out) | exact HB.out))) : w.heap.size ≤ gb215)); have n4_ := Aside0.mk ((by rw [hg]; exact (below_size (by repeat (first | (with_reducible first | exact HB.out | apply below_alloc | apply pw_below_drewN | apply below_drew1 | refine below_set ?_ GE214.out) | exact HB.out))) : w.heap.size ≤ gb215)); have n5_ := Aside0.mk ((by rw [hg]; exact Nat.ne_of_lt (blk_lt (g := gb214) (o := .cells #[.int .i64 a0_0, .int .i64 a0_1, .int .i64 a0_2, .int .i64 a0_3] 71 (0, 0)) (by (with_reducible repeat (first | refine blk_drewN ?_ _ | refine blk_drew ?_ | refine blk_alloc ?_ _)); exact BK214.out)) : gb214 ≠ gb215)); have n6_ := Aside0.mk ((by rw [hg]; exact Nat.ne_of_gt (blk_lt (g := gb214) (o := .cells #[.int .i64 a0_0, .int .i64 a0_1, .int .i64 a0_2, .int .i64 a0_3] 71 (0, 0)) (by (with_reducible repeat (first | refine blk_drewN ?_ _ | refine blk_drew ?_ | refine blk_alloc ?_ _)); exact BK214.out)) : gb215 ≠ gb214)); clear BK214; clear HB; have BK214 := n0_; have HB := n1_; have BK215 := n2_; have GW215 := n3_; have GE215 := n4_; have NB214_215 := n5_; have NB215_214 := n6_; clear n0_ n1_ n2_ n3_ n4_ n5_ n6_; clear hb hbox hg; have hnb7 := NB214_215.out; have hnc7 := NB215_214.out; have hcz8_0 : w6.cell? ⟨gb214, 0, none⟩ = some (.int .i64 a0_0) := (blk_cell BK214.out 0).trans rfl; have hcz8_1 : w6.cell? ⟨gb214, 1, none⟩ = some (.int .i64 a0_1) := (blk_cell BK214.out 1).trans rfl; have hcz8_2 : w6.cell? ⟨gb214, 2, none⟩ = some (.int .i64 a0_2) := (blk_cell BK214.out 2).trans rfl; have hcz8_3 : w6.cell? ⟨gb214, 3, none⟩ = some (.int .i64 a0_3) := (blk_cell BK214.out 3).trans rfl; have hfz8_0 := blk_frozen BK214.out 0; have hfz8_1 := blk_frozen BK214.out 1; have hfz8_2 := blk_frozen BK214.out 2; have hfz8_3 := blk_frozen BK214.out 3; have hcz9_0 : w6.cell? ⟨gb215, 0, none⟩ = some (.int .i64 a1_0) := (blk_cell BK215.out 0).trans rfl; have hcz9_1 : w6.cell? ⟨gb215, 1, none⟩ = some (.int .i64 a1_1) := (blk_cell BK215.out 1).trans rfl; have hcz9_2 : w6.cell? ⟨gb215, 2, none⟩ = some (.int .i64 a1_2) := (blk_cell BK215.out 2).trans rfl; have hcz9_3 : w6.cell? ⟨gb215, 3, none⟩ = some (.int .i64 a1_3) := (blk_cell BK215.out 3).trans rfl; have hfz9_0 := blk_frozen BK215.out 0; have hfz9_1 := blk_frozen BK215.out 1; have hfz9_2 := blk_frozen BK215.out 2; have hfz9_3 := blk_frozen BK215.out 3) | (go_at_call 70; (with_reducible refine (impl_absOf.calls (wrap64 (a0_0 - a1_0)) t216 _ A3.out).mono ?_); rintro e w' ⟨rfl, ⟨nd, rfl⟩⟩; (try first | exact ⟨rfl, _, World.drewN_drewN _ _ _⟩ | exact ⟨rfl, _, Eq.trans (World.drewN_drewN _ _ _) (congrArg (World.drewN _) (Nat.add_assoc _ _ _))⟩)) | (go_at_call 70; (with_reducible refine (impl_absOf.calls (wrap64 (a0_1 - a1_1)) t217 _ A4.out).mono ?_); rintro e w' ⟨rfl, ⟨nd, rfl⟩⟩; (try first | exact ⟨rfl, _, World.drewN_drewN _ _ _⟩ | exact ⟨rfl, _, Eq.trans (World.drewN_drewN _ _ _) (congrArg (World.drewN _) (Nat.add_assoc _ _ _))⟩))); try go_wp2_with (first | ((with_reducible refine gate_dst (N := 2) rfl ?_); refine box_event ?hg (N := 2) ?hd (cs := #[.int .i64 a0_0, .int .i64 a0_1, .int .i64 a0_2, .int .i64 a0_3]) (t := 71) ?hr ?_; (case hd => rfl); (case hg => rfl); (case hr => first | (go_simp; done) | (go_simp; rfl)); intro gb214 hg w5 hbox hb; have n0_ := Aside0.mk (below_step (by repeat (first | (with_reducible first | exact HB.out | apply below_alloc | apply pw_below_drewN | apply below_drew1) | exact HB.out)) hb); have n1_ := Aside0.mk (hbox); have n2_ := Aside0.mk ((by rw [hg]; exact (below_size (by repeat (first | (with_reducible first | exact HB.out | apply below_alloc | apply pw_below_drewN | apply below_drew1) | exact HB.out))) : w.heap.size ≤ gb214)); have n3_ := Aside0.mk ((by rw [hg]; exact (below_size (by repeat (first | (with_reducible first | exact HB.out | apply below_alloc | apply pw_below_drewN | apply below_drew1) | exact HB.out))) : w.heap.size ≤ gb214)); clear HB; have HB := n0_; have BK214 := n1_; have GW214 := n2_; have GE214 := n3_; clear n0_ n1_ n2_ n3_; clear hb hbox hg) | ((with_reducible refine gate_dst (N := 3) rfl ?_); refine box_event ?hg (N := 3) ?hd (cs := #[.int .i64 a1_0, .int .i64 a1_1, .int .i64 a1_2, .int .i64 a1_3]) (t := 71) ?hr ?_; (case hd => rfl); (case hg => rfl); (case hr => first | (go_simp; done) | (go_simp; rfl)); intro gb215 hg w6 hbox hb; have n0_ := Aside0.mk (blk_below (g := gb214) (o := .cells #[.int .i64 a0_0, .int .i64 a0_1, .int .i64 a0_2, .int .i64 a0_3] 71 (0, 0)) (by (with_reducible repeat (first | refine blk_drewN ?_ _ | refine blk_drew ?_ | refine blk_alloc ?_ _)); exact BK214.out) hb); have n1_ := Aside0.mk (below_step (by repeat (first | (with_reducible first | exact HB.out | apply below_alloc | apply pw_below_drewN | apply below_drew1 | refine below_set ?_ GE214.out) | exact HB.out)) hb); have n2_ := Aside0.mk (hbox); have n3_ := Aside0.mk ((by rw [hg]; exact (below_size (by repeat (first | (with_reducible first | exact HB.out | apply below_alloc | apply pw_below_drewN | apply below_drew1 | refine below_set ?_ GE214.out) | exact HB.out))) : w.heap.size ≤ gb215)); have n4_ := Aside0.mk ((by rw [hg]; exact (below_size (by repeat (first | (with_reducible first | exact HB.out | apply below_alloc | apply pw_below_drewN | apply below_drew1 | refine below_set ?_ GE214.out) | exact HB.out))) : w.heap.size ≤ gb215)); have n5_ := Aside0.mk ((by rw [hg]; exact Nat.ne_of_lt (blk_lt (g := gb214) (o := .cells #[.int .i64 a0_0, .int .i64 a0_1, .int .i64 a0_2, .int .i64 a0_3] 71 (0, 0)) (by (with_reducible repeat (first | refine blk_drewN ?_ _ | refine blk_drew ?_ | refine blk_alloc ?_ _)); exact BK214.out)) : gb214 ≠ gb215)); have n6_ := Aside0.mk ((by rw [hg]; exact Nat.ne_of_gt (blk_lt (g := gb214) (o := .cells #[.int .i64 a0_0, .int .i64 a0_1, .int .i64 a0_2, .int .i64 a0_3] 71 (0, 0)) (by (with_reducible repeat (first | refine blk_drewN ?_ _ | refine blk_drew ?_ | refine blk_alloc ?_ _)); exact BK214.out)) : gb215 ≠ gb214)); clear BK214; clear HB; have BK214 := n0_; have HB := n1_; have BK215 := n2_; have GW215 := n3_; have GE215 := n4_; have NB214_215 := n5_; have NB215_214 := n6_; clear n0_ n1_ n2_ n3_ n4_ n5_ n6_; clear hb hbox hg; have hnb7 := NB214_215.out; have hnc7 := NB215_214.out; have hcz8_0 : w6.cell? ⟨gb214, 0, none⟩ = some (.int .i64 a0_0) := (blk_cell BK214.out 0).trans rfl; have hcz8_1 : w6.cell? ⟨gb214, 1, none⟩ = some (.int .i64 a0_1) := (blk_cell BK214.out 1).trans rfl; have hcz8_2 : w6.cell? ⟨gb214, 2, none⟩ = some (.int .i64 a0_2) := (blk_cell BK214.out 2).trans rfl; have hcz8_3 : w6.cell? ⟨gb214, 3, none⟩ = some (.int .i64 a0_3) := (blk_cell BK214.out 3).trans rfl; have hfz8_0 := blk_frozen BK214.out 0; have hfz8_1 := blk_frozen BK214.out 1; have hfz8_2 := blk_frozen BK214.out 2; have hfz8_3 := blk_frozen BK214.out 3; have hcz9_0 : w6.cell? ⟨gb215, 0, none⟩ = some (.int .i64 a1_0) := (blk_cell BK215.out 0).trans rfl; have hcz9_1 : w6.cell? ⟨gb215, 1, none⟩ = some (.int .i64 a1_1) := (blk_cell BK215.out 1).trans rfl; have hcz9_2 : w6.cell? ⟨gb215, 2, none⟩ = some (.int .i64 a1_2) := (blk_cell BK215.out 2).trans rfl; have hcz9_3 : w6.cell? ⟨gb215, 3, none⟩ = some (.int .i64 a1_3) := (blk_cell BK215.out 3).trans rfl; have hfz9_0 := blk_frozen BK215.out 0; have hfz9_1 := blk_frozen BK215.out 1; have hfz9_2 := blk_frozen BK215.out 2; have hfz9_3 := blk_frozen BK215.out 3) | (go_at_call 70; (with_reducible refine (impl_absOf.calls (wrap64 (a0_0 - a1_0)) t216 _ A3.out).mono ?_); rintro e w' ⟨rfl, ⟨nd, rfl⟩⟩; (try first | exact ⟨rfl, _, World.drewN_drewN _ _ _⟩ | exact ⟨rfl, _, Eq.trans (World.drewN_drewN _ _ _) (congrArg (World.drewN _) (Nat.add_assoc _ _ _))⟩)) | (go_at_call 70; (with_reducible refine (impl_absOf.calls (wrap64 (a0_1 - a1_1)) t217 _ A4.out).mono ?_); rintro e w' ⟨rfl, ⟨nd, rfl⟩⟩; (try first | exact ⟨rfl, _, World.drewN_drewN _ _ _⟩ | exact ⟨rfl, _, Eq.trans (World.drewN_drewN _ _ _) (congrArg (World.drewN _) (Nat.add_assoc _ _ _))⟩))))
 go_ret
 exact ⟨by first | rfl | (simp [errW_none, errW_some] <;> rfl) | (simp [*, errW_none, errW_some] <;> rfl), by repeat (first | (with_reducible first | exact HB.out | apply below_alloc | apply pw_below_drewN | apply below_drew1 | refine below_set ?_ GE214.out | refine below_set ?_ GE215.out) | exact HB.out)⟩

end Go.Proofs.Ytjidofgojijolaa.Q
namespace Go.Proofs.Ytjidofgojijolaa.Q
open Go.RowKit Go.Proofs.YtjidofgojijolaaW.PrintWords Go.Proofs.YtjidofgojijolaaW.PrintLast Go.Proofs.YtjidofgojijolaaW.PrintMore
attribute [local go_sem] max2_int min2_int max_two min_two max_three min_three max_four min_four   -- for this text's walks alone
set_option linter.unusedVariables false
set_option linter.unusedSimpArgs false

/-! ### impl_trackingCost: function 36 -/
def impl_trackingCost.l0 : Nat → List (S71) → List (S71) → Int → Int → List Int → Int → Int → Option (Int)
 | 0, _, _, _, _, _, _, _ => none
 | k + 1, x0, x1, x3, x9, x19, x20, x21 => if x21 < x20 then (if 0 ≤ x21 then (if x21 < (x19.length : Int) then (if (rd x19 x21) ≥ 0 then (if x21 < (x0.length : Int) then (if 0 ≤ (rd x19 x21) then (if (rd x19 x21) < (x1.length : Int) then ((impl_stormDistance.f ((rd_T71 x0 x21).f0) ((rd_T71 x0 x21).f1) ((rd_T71 x0 x21).f2) ((rd_T71 x0 x21).f3) ((rd_T71 x1 (rd x19 x21)).f0) ((rd_T71 x1 (rd x19 x21)).f1) ((rd_T71 x1 (rd x19 x21)).f2) ((rd_T71 x1 (rd x19 x21)).f3)).bind fun t221 => (impl_trackingCost.l0 k x0 x1 x3 (wrap64 (x9 + (wrap64 (t221 - (wrap64 (2 * x3)))))) x19 x20 (wrap64 (x21 + 1)))) else (none)) else (none)) else (none)) else (impl_trackingCost.l0 k x0 x1 x3 x9 x19 x20 (wrap64 (x21 + 1)))) else (none)) else (none)) else (some x9)
def impl_trackingCost.f (k : Nat) (l0 : List (S71)) (l1 : List (S71)) (l2 : List Int) (a3 : Int) : Option (Int) := impl_trackingCost.l0 k l0 l1 a3 (wrap64 ((wrap64 ((l0.length : Int) + (l1.length : Int))) * a3)) l2 (l2.length : Int) 0
theorem impl_trackingCost.mono_l : ∀ k, (∀ y0 y1 y2 y3 y4 y5 y6, LeO (impl_trackingCost.l0 k y0 y1 y2 y3 y4 y5 y6) (impl_trackingCost.l0 (k + 1) y0 y1 y2 y3 y4 y5 y6))
 | 0 => fun _ _ _ _ _ _ _ r h => by simp [impl_trackingCost.l0] at h
 | k + 1 => by
  have ih0 := impl_trackingCost.mono_l k
  ·
   intro y0 y1 y2 y3 y4 y5 y6
   unfold impl_trackingCost.l0
   repeat' first
   | (with_reducible exact ih0 _ _ _ _ _ _ _)
   | (with_reducible exact LeO.refl _)
   | (with_reducible exact LeO.none _)
   | (with_reducible refine LeO.ite ?_ ?_)
   | (with_reducible refine LeO.bind ?_ (fun _ => ?_))
   | exact ih0 _ _ _ _ _ _ _
   | exact LeO.none _
   | refine LeO.ite ?_ ?_
   | refine LeO.bind ?_ (fun _ => ?_)
theorem impl_trackingCost.mono : ∀ a0 a1 a2 a3 k, LeO (impl_trackingCost.f k a0 a1 a2 a3) (impl_trackingCost.f (k + 1) a0 a1 a2 a3) := by
 intro a0 a1 a2 a3 k
 have ih0 := impl_trackingCost.mono_l k
 unfold impl_trackingCost.f
 repeat' first
   | (with_reducible exact ih0 _ _ _ _ _ _ _)
   | (with_reducible exact LeO.refl _)
   | (with_reducible exact LeO.none _)
   | (with_reducible refine LeO.ite ?_ ?_)
   | (with_reducible refine LeO.bind ?_ (fun _ => ?_))
   | exact ih0 _ _ _ _ _ _ _
   | exact LeO.none _
   | refine LeO.ite ?_ ?_
   | refine LeO.bind ?_ (fun _ => ?_)
def impl_trackingCost.T6 : Bool × List (List Nat × List Nat) := (true, [([], []), ([], []), ([], []), ([1, 2], [1, 2]), ([3], [3]), ([], []), ([], []), ([5, 6], [5, 6]), ([7], [7]), ([4, 8], [4, 8]), ([], []), ([10], [10]), ([9, 11], [9, 11]), ([0, 12], [0, 12]), ([13, 9, 0, 1, 2, 3, 4, 5, 6, 7, 8, 9, 10, 11, 12, 13], [0, 13])])
def impl_trackingCost.B6 : List Nat := [0, 0, 0, 6, 14, 0, 0, 96, 224, 510, 0, 1024, 4094, 8191, 16383]
theorem impl_trackingCost.tab6 : rtab .any (opsOf Try.f36 6) = impl_trackingCost.T6 := by kernel_rfl
theorem impl_trackingCost.bits6 : waitsOk impl_trackingCost.T6.2 impl_trackingCost.B6 = true := by kernel_rfl
set_option maxHeartbeats 8000000 in
set_option maxRecDepth 100000 in
theorem impl_trackingCost.calls (k : Nat) (A0 : Option Addr) (c0 : Nat) (l0 : List (S71)) (A1 : Option Addr) (c1 : Nat) (l1 : List (S71)) (A2 : Option Addr) (c2 : Nat) (l2 : List Int) (a3 : Int) (r : Int) (w : World) (hr0 : Kd.C k71 w A0 l0.length l0) (hc0 : l0.length ≤ c0) (hr1 : Kd.C k71 w A1 l1.length l1) (hc1 : l1.length ≤ c1) (hr2 : Kd.C (Kd.int .i64) w A2 l2.length l2) (hc2 : l2.length ≤ c2) (h : impl_trackingCost.f k l0 l1 l2 a3 = some r) :
  Calls Try.prog 36 #[.slice A0 l0.length c0, .slice A1 l1.length c1, .slice A2 l2.length c2, .int .i64 a3] w fun e w' => e = .returned (.int .i64 r) ∧ Below w.heap.size w w' := by
 have hu71 := Try.underlying71
 have HR0 := Aside0.mk hr0
 have HC0 := Aside0.mk hc0
 clear hr0 hc0
 have HR1 := Aside0.mk hr1
 have HC1 := Aside0.mk hc1
 clear hr1 hc1
 have HR2 := Aside0.mk hr2
 have HC2 := Aside0.mk hc2
 clear hr2 hc2
 have HB := Aside0.mk (Below.refl w.heap.size w)
 have H : (impl_trackingCost.l0 k l0 l1 a3 (wrap64 ((wrap64 ((l0.length : Int) + (l1.length : Int))) * a3)) l2 (l2.length : Int) 0) = some r := h
 clear h
 have H' := Aside0.mk H
 clear H
 go_enter Try.func36, Try.ntmps36
 go_wp2
 go_loopg [9, 21] k (fun kq v9 v21 w' => ∃ (x9_1 : Int) (x21_1 : Int), v9 = .int .i64 x9_1 ∧ v21 = .int .i64 x21_1 ∧ Aside0 (impl_trackingCost.l0 kq l0 l1 a3 x9_1 l2 (l2.length : Int) x21_1 = some r) ∧ Aside0 (kq ≤ k) ∧ Aside0 (Below w.heap.size w w'))
 case atStart => exact ⟨(wrap64 ((wrap64 ((l0.length : Int) + (l1.length : Int))) * a3)), (0), (by first | rfl | (simp; done) | (simp [*]; done)), (by first | rfl | (simp; done) | (simp [*]; done)), H', ⟨Nat.le_refl _⟩, ⟨by repeat (first | (with_reducible first | exact HB.out | apply below_alloc | apply pw_below_drewN | apply below_drew1) | exact HB.out)⟩⟩
 case round =>
  clear H'
  try clear c1
  try clear c2
  try clear p2
  try clear c3
  obtain ⟨x9_1, x21_1, rfl, rfl, HA, HK1, HB⟩ := hrel
  cases gk with
  | zero => exact absurd HA.out (by simp [impl_trackingCost.l0])
  | succ k1 =>
   have H := HA.out
   clear HA
   simp only [impl_trackingCost.l0] at H
   by_cases c5 : x21_1 < (l2.length : Int)
   ·
    rw [if_pos c5] at H
    have c5b0 : decide (x21_1 < (l2.length : Int)) = true := decide_eq_true c5
    clear c5
    by_cases c6 : 0 ≤ x21_1
    ·
     rw [if_pos c6] at H
     have c6b0 : decide (0 ≤ x21_1) = true := decide_eq_true c6
     clear c6
     by_cases c7 : x21_1 < (l2.length : Int)
     ·
      rw [if_pos c7] at H
      have c7b0 : decide (x21_1 < (l2.length : Int)) = true := decide_eq_true c7
      clear c7
      by_cases c8 : (rd l2 x21_1) ≥ 0
      ·
       rw [if_pos c8] at H
       have c8b0 : decide (0 ≤ (rd l2 x21_1)) = true := decide_eq_true c8
       clear c8
       by_cases c9 : x21_1 < (l0.length : Int)
       ·
        rw [if_pos c9] at H
        have c9b0 : decide (x21_1 < (l0.length : Int)) = true := decide_eq_true c9
        clear c9
        by_cases c10 : 0 ≤ (rd l2 x21_1)
        ·
         rw [if_pos c10] at H
         have c10b0 : decide (0 ≤ (rd l2 x21_1)) = true := decide_eq_true c10
         clear c10
         by_cases c11 : (rd l2 x21_1) < (l1.length : Int)
         ·
          rw [if_pos c11] at H
          have c11b0 : decide ((rd l2 x21_1) < (l1.length : Int)) = true := decide_eq_true c11
          clear c11
          replace H := Option.bind_eq_some_iff.mp H
          obtain ⟨t221, A120, H⟩ := H
          replace H : (impl_trackingCost.l0 k1 l0 l1 a3 (wrap64 (x9_1 + (wrap64 (t221 - (wrap64 (2 * a3)))))) l2 (l2.length : Int) (wrap64 (x21_1 + 1))) = some r := H
          have A12 := Aside0.mk A120
          clear A120
          have H' := Aside0.mk H
          clear H
          have p218 : 0 ≤ (x21_1 : Int) := of_decide_eq_true (by first | (with_reducible assumption) | assumption)
          have q218 : x21_1 < (l2.length : Int) := of_decide_eq_true (by first | (with_reducible assumption) | assumption)
          obtain ⟨ad218, e218, hx218_0⟩ := Kd.at_int HR2.out x21_1 p218 q218
          cases e218
          replace hx218_0 := (HB.out.cell (World.block_lt_of_cell? w _ hx218_0)).trans hx218_0
          replace p218 := eq_true p218
          replace q218 := eq_true q218
          try go_wp2
          have n0_ := Aside0.mk (below_drew1 HB.out)
          clear HB
          have HB := n0_
          clear n0_
          have p219 : 0 ≤ (x21_1 : Int) := of_decide_eq_true (by first | (with_reducible assumption) | assumption)
          have q219 : x21_1 < (l0.length : Int) := of_decide_eq_true (by first | (with_reducible assumption) | assumption)
          obtain ⟨ad219, e219, hx219_0, hx219_1, hx219_2, hx219_3⟩ := at_T71 HR0.out x21_1 p219 q219
          have hw219_3 := hx219_3
          have hw219_2 := hx219_2
          have hw219_1 := hx219_1
          have hw219_0 := hx219_0
          cases e219
          replace hx219_0 := (HB.out.cell (World.block_lt_of_cell? w _ hx219_0)).trans hx219_0
          replace hx219_1 := (HB.out.cell (World.block_lt_of_cell? w _ hx219_1)).trans hx219_1
          replace hx219_2 := (HB.out.cell (World.block_lt_of_cell? w _ hx219_2)).trans hx219_2
          replace hx219_3 := (HB.out.cell (World.block_lt_of_cell? w _ hx219_3)).trans hx219_3
          replace p219 := eq_true p219
          replace q219 := eq_true q219
          have p220 : 0 ≤ ((rd l2 x21_1) : Int) := of_decide_eq_true (by first | (with_reducible assumption) | assumption)
          have q220 : (rd l2 x21_1) < (l1.length : Int) := of_decide_eq_true (by first | (with_reducible assumption) | assumption)
          obtain ⟨ad220, e220, hx220_0, hx220_1, hx220_2, hx220_3⟩ := at_T71 HR1.out (rd l2 x21_1) p220 q220
          have hw220_3 := hx220_3
          have hw220_2 := hx220_2
          have hw220_1 := hx220_1
          have hw220_0 := hx220_0
          cases e220
          replace hx220_0 := (HB.out.cell (World.block_lt_of_cell? w _ hx220_0)).trans hx220_0
          replace hx220_1 := (HB.out.cell (World.block_lt_of_cell? w _ hx220_1)).trans hx220_1
          replace hx220_2 := (HB.out.cell (World.block_lt_of_cell? w _ hx220_2)).trans hx220_2
          replace hx220_3 := (HB.out.cell (World.block_lt_of_cell? w _ hx220_3)).trans hx220_3
          replace p220 := eq_true p220
          replace q220 := eq_true q220
          refine start_ (n := 15) (S := fun w' => w'.cell? (ad219.add ((x21_1).toNat * 4)) = some (.int .i64 ((rd_T71 l0 x21_1).f0)) ∧ w'.cell? ⟨(ad219.add ((x21_1).toNat * 4)).block, (ad219.add ((x21_1).toNat * 4)).off + 1, none⟩ = some (.int .i64 ((rd_T71 l0 x21_1).f1)) ∧ w'.cell? ⟨(ad219.add ((x21_1).toNat * 4)).block, (ad219.add ((x21_1).toNat * 4)).off + 2, none⟩ = some (.int .i64 ((rd_T71 l0 x21_1).f2)) ∧ w'.cell? ⟨(ad219.add ((x21_1).toNat * 4)).block, (ad219.add ((x21_1).toNat * 4)).off + 3, none⟩ = some (.int .i64 ((rd_T71 l0 x21_1).f3)) ∧ w'.cell? (ad220.add (((rd l2 x21_1)).toNat * 4)) = some (.int .i64 ((rd_T71 l1 (rd l2 x21_1)).f0)) ∧ w'.cell? ⟨(ad220.add (((rd l2 x21_1)).toNat * 4)).block, (ad220.add (((rd l2 x21_1)).toNat * 4)).off + 1, none⟩ = some (.int .i64 ((rd_T71 l1 (rd l2 x21_1)).f1)) ∧ w'.cell? ⟨(ad220.add (((rd l2 x21_1)).toNat * 4)).block, (ad220.add (((rd l2 x21_1)).toNat * 4)).off + 2, none⟩ = some (.int .i64 ((rd_T71 l1 (rd l2 x21_1)).f2)) ∧ w'.cell? ⟨(ad220.add (((rd l2 x21_1)).toNat * 4)).block, (ad220.add (((rd l2 x21_1)).toNat * 4)).off + 3, none⟩ = some (.int .i64 ((rd_T71 l1 (rd l2 x21_1)).f3))) (ds := []) #[false, false, false, false, false, false, false, false, false, false, false, false, false, false, false] (by kernel_rfl) rfl rfl ⟨((HB.out.cell (World.block_lt_of_cell? w _ hw219_0)).trans hw219_0), ((HB.out.cell (World.block_lt_of_cell? w _ hw219_1)).trans hw219_1), ((HB.out.cell (World.block_lt_of_cell? w _ hw219_2)).trans hw219_2), ((HB.out.cell (World.block_lt_of_cell? w _ hw219_3)).trans hw219_3), ((HB.out.cell (World.block_lt_of_cell? w _ hw220_0)).trans hw220_0), ((HB.out.cell (World.block_lt_of_cell? w _ hw220_1)).trans hw220_1), ((HB.out.cell (World.block_lt_of_cell? w _ hw220_2)).trans hw220_2), ((HB.out.cell (World.block_lt_of_cell? w _ hw220_3)).trans hw220_3)⟩ (fun hHeld => ?_); refine with_tabW impl_trackingCost.tab6 impl_trackingCost.bits6 (fun HT_ HW_ => ?_)
          generalize wr.drew = w13 at HB hx219_0 hx219_1 hx219_2 hx219_3 hx220_0 hx220_1 hx220_2 hx220_3 hHeld ⊢
          refine pure_ (i := 0) (N := some 28) (v := ?_) (a' := ?_) #[true, false, false, false, false, false, false, false, false, false, false, false, false, false, false] rfl rfl (any_of HT_.out (by kernel_rfl)) (fun _ _ _ h => h) (Or.inl ⟨by rfl, ?_⟩) ?_ ?_
          rotate_left
          ·
           intro w'
           go_simp
           with_reducible rfl
          rotate_left
          ·
           simp only [Act.put, List.setIfInBounds_toArray, List.set_cons_zero, List.set_cons_succ, i64_w, i32_w]
           rfl
          refine pure_ (i := 1) (N := some 29) (v := ?_) (a' := ?_) #[true, true, false, false, false, false, false, false, false, false, false, false, false, false, false] rfl rfl (any_of HT_.out (by kernel_rfl)) (fun _ _ _ h => h) (Or.inl ⟨by rfl, ?_⟩) ?_ ?_
          rotate_left
          ·
           intro w'
           go_simp
           with_reducible rfl
          rotate_left
          ·
           simp only [Act.put, List.setIfInBounds_toArray, List.set_cons_zero, List.set_cons_succ, i64_w, i32_w]
           rfl
          refine pure_ (i := 2) (N := some 30) (v := ?_) (a' := ?_) #[true, true, true, false, false, false, false, false, false, false, false, false, false, false, false] rfl rfl (any_of HT_.out (by kernel_rfl)) (fun _ _ _ h => h) (Or.inl ⟨by rfl, ?_⟩) ?_ ?_
          rotate_left
          ·
           intro w'
           go_simp
           with_reducible rfl
          rotate_left
          ·
           simp only [Act.put, List.setIfInBounds_toArray, List.set_cons_zero, List.set_cons_succ, i64_w, i32_w]
           rfl
          refine pure_ (i := 3) (N := some 31) (v := ?_) (a' := ?_) #[true, true, true, true, false, false, false, false, false, false, false, false, false, false, false] rfl rfl (any_of HT_.out (by kernel_rfl)) (fun _ _ _ h => h) (Or.inl ⟨by rfl, ?_⟩) ?_ ?_
          rotate_left
          ·
           intro w'
           go_simp
           with_reducible rfl
          rotate_left
          ·
           simp only [Act.put, List.setIfInBounds_toArray, List.set_cons_zero, List.set_cons_succ, i64_w, i32_w]
           rfl
          refine pure_ (i := 5) (N := some 33) (v := ?_) (a' := ?_) #[true, true, true, true, false, true, false, false, false, false, false, false, false, false, false] rfl rfl (any_of HT_.out (by kernel_rfl)) (fun _ _ _ h => h) (Or.inl ⟨by rfl, ?_⟩) ?_ ?_
          rotate_left
          ·
           intro w'
           go_simp
           with_reducible rfl
          rotate_left
          ·
           simp only [Act.put, List.setIfInBounds_toArray, List.set_cons_zero, List.set_cons_succ, i64_w, i32_w]
           rfl
          refine pure_ (i := 6) (N := some 34) (v := ?_) (a' := ?_) #[true, true, true, true, false, true, true, false, false, false, false, false, false, false, false] rfl rfl (any_of HT_.out (by kernel_rfl)) (fun _ _ _ h => h) (Or.inl ⟨by rfl, ?_⟩) ?_ ?_
          rotate_left
          ·
           intro w'
           go_simp
           with_reducible rfl
          rotate_left
          ·
           simp only [Act.put, List.setIfInBounds_toArray, List.set_cons_zero, List.set_cons_succ, i64_w, i32_w]
           rfl
          refine pure_ (i := 7) (N := some 35) (v := ?_) (a' := ?_) #[true, true, true, true, false, true, true, true, false, false, false, false, false, false, false] rfl rfl (any_of HT_.out (by kernel_rfl)) (fun _ _ _ h => h) (Or.inl ⟨by rfl, ?_⟩) ?_ ?_
          rotate_left
          ·
           intro w'
           go_simp
           with_reducible rfl
          rotate_left
          ·
           simp only [Act.put, List.setIfInBounds_toArray, List.set_cons_zero, List.set_cons_succ, i64_w, i32_w]
           rfl
          refine pure_ (i := 10) (N := some 38) (v := ?_) (a' := ?_) #[true, true, true, true, false, true, true, true, false, false, true, false, false, false, false] rfl rfl (any_of HT_.out (by kernel_rfl)) (fun _ _ _ h => h) (Or.inl ⟨by rfl, ?_⟩) ?_ ?_
          rotate_left
          ·
           intro w'
           go_simp
           with_reducible rfl
          rotate_left
          ·
           simp only [Act.put, List.setIfInBounds_toArray, List.set_cons_zero, List.set_cons_succ, i64_w, i32_w]
           rfl
          refine pure_ (i := 11) (N := some 39) (v := ?_) (a' := ?_) #[true, true, true, true, false, true, true, true, false, false, true, true, false, false, false] rfl rfl (any_of HT_.out (by kernel_rfl)) (fun _ _ _ h => h) (Or.inl ⟨by rfl, ?_⟩) ?_ ?_
          rotate_left
          ·
           intro w'
           go_simp
           with_reducible rfl
          rotate_left
          ·
           simp only [Act.put, List.setIfInBounds_toArray, List.set_cons_zero, List.set_cons_succ, i64_w, i32_w]
           rfl
          refine take_ (i := 4) (N := some 32) (v := ?_) (a' := ?_) #[true, true, true, true, true, true, true, true, false, false, true, true, false, false, false] rfl rfl (take_ofW HT_.out HW_.out (by kernel_rfl)) (fun _ _ _ h => h) (Or.inl ⟨by rfl, ?_⟩) hHeld ?_ ?_
          rotate_left
          ·
           rintro w' ⟨s0, s1, s2, s3, s4, s5, s6, s7⟩
           go_simp
           with_reducible rfl
          rotate_left
          ·
           simp only [Act.put, List.setIfInBounds_toArray, List.set_cons_zero, List.set_cons_succ, i64_w, i32_w]
           rfl
          refine take_ (i := 8) (N := some 36) (v := ?_) (a' := ?_) #[true, true, true, true, true, true, true, true, true, false, true, true, false, false, false] rfl rfl (take_ofW HT_.out HW_.out (by kernel_rfl)) (fun _ _ _ h => h) (Or.inl ⟨by rfl, ?_⟩) hHeld ?_ ?_
          rotate_left
          ·
           rintro w' ⟨s0, s1, s2, s3, s4, s5, s6, s7⟩
           go_simp
           with_reducible rfl
          rotate_left
          ·
           simp only [Act.put, List.setIfInBounds_toArray, List.set_cons_zero, List.set_cons_succ, i64_w, i32_w]
           rfl
          refine one_ (i := 9) (N := some 37) #[true, true, true, true, true, true, true, true, true, true, true, true, false, false, false] rfl rfl (one_of HT_.out (by kernel_rfl)) (by decide) (fun K hK => ?_)
          refine goes_ Try.func58 (by kernel_rfl) rfl #[.agg #[.int .i64 ((rd_T71 l0 x21_1).f0), .int .i64 ((rd_T71 l0 x21_1).f1), .int .i64 ((rd_T71 l0 x21_1).f2), .int .i64 ((rd_T71 l0 x21_1).f3)], .agg #[.int .i64 ((rd_T71 l1 (rd l2 x21_1)).f0), .int .i64 ((rd_T71 l1 (rd l2 x21_1)).f1), .int .i64 ((rd_T71 l1 (rd l2 x21_1)).f2), .int .i64 ((rd_T71 l1 (rd l2 x21_1)).f3)]] (by rfl) rfl rfl (by (try simp only [List.map_toArray, List.map_cons, List.map_nil]); first | done | rfl | (simp only [List.length_drop, List.length_take]; rfl)) ?_
          with_reducible refine (impl_stormDistance.calls ((rd_T71 l0 x21_1).f0) ((rd_T71 l0 x21_1).f1) ((rd_T71 l0 x21_1).f2) ((rd_T71 l0 x21_1).f3) ((rd_T71 l1 (rd l2 x21_1)).f0) ((rd_T71 l1 (rd l2 x21_1)).f1) ((rd_T71 l1 (rd l2 x21_1)).f2) ((rd_T71 l1 (rd l2 x21_1)).f3) t221 _ A12.out).mono ?_
          rintro e w14 ⟨rfl, hb⟩
          refine ⟨_, rfl, ?_⟩
          have n0_ := Aside0.mk (below_step (by repeat (first | (with_reducible first | exact HB.out | apply below_alloc | apply pw_below_drewN | apply below_drew1) | exact HB.out)) hb)
          clear HB
          have HB := n0_
          clear n0_
          (try clear hb)
          (try clear hb2)
          (try clear hk)
          (try clear hi)
          refine hK.out _ _ ⟨((HB.out.cell (World.block_lt_of_cell? w _ hw219_0)).trans hw219_0), ((HB.out.cell (World.block_lt_of_cell? w _ hw219_1)).trans hw219_1), ((HB.out.cell (World.block_lt_of_cell? w _ hw219_2)).trans hw219_2), ((HB.out.cell (World.block_lt_of_cell? w _ hw219_3)).trans hw219_3), ((HB.out.cell (World.block_lt_of_cell? w _ hw220_0)).trans hw220_0), ((HB.out.cell (World.block_lt_of_cell? w _ hw220_1)).trans hw220_1), ((HB.out.cell (World.block_lt_of_cell? w _ hw220_2)).trans hw220_2), ((HB.out.cell (World.block_lt_of_cell? w _ hw220_3)).trans hw220_3)⟩ (fun hHeld => ?_)
          clear hK K
          refine norm_ (a' := ?_) ?_ ?_
          rotate_left
          ·
           show Act.put _ (some 37) _ = _
           simp only [Act.put, List.setIfInBounds_toArray, List.set_cons_zero, List.set_cons_succ, i64_w, i32_w]
           rfl
          refine pure_ (i := 12) (N := some 40) (v := ?_) (a' := ?_) #[true, true, true, true, true, true, true, true, true, true, true, true, true, false, false] rfl rfl (any_of HT_.out (by kernel_rfl)) (fun _ _ _ h => h) (Or.inl ⟨by rfl, ?_⟩) ?_ ?_
          rotate_left
          ·
           intro w'
           go_simp
           with_reducible rfl
          rotate_left
          ·
           simp only [Act.put, List.setIfInBounds_toArray, List.set_cons_zero, List.set_cons_succ, i64_w, i32_w]
           rfl
          refine pure_ (i := 13) (N := some 41) (v := ?_) (a' := ?_) #[true, true, true, true, true, true, true, true, true, true, true, true, true, true, false] rfl rfl (any_of HT_.out (by kernel_rfl)) (fun _ _ _ h => h) (Or.inl ⟨by rfl, ?_⟩) ?_ ?_
          rotate_left
          ·
           intro w'
           go_simp
           with_reducible rfl
          rotate_left
          ·
           simp only [Act.put, List.setIfInBounds_toArray, List.set_cons_zero, List.set_cons_succ, i64_w, i32_w]
           rfl
          refine pure_ (i := 14) (N := some 9) (v := ?_) (a' := ?_) #[true, true, true, true, true, true, true, true, true, true, true, true, true, true, true] rfl rfl (any_of HT_.out (by kernel_rfl)) (fun _ _ _ h => h) (Or.inl ⟨by rfl, ?_⟩) ?_ ?_
          rotate_left
          ·
           intro w'
           go_simp
           with_reducible rfl
          rotate_left
          ·
           simp only [Act.put, List.setIfInBounds_toArray, List.set_cons_zero, List.set_cons_succ, i64_w, i32_w]
           rfl
          refine done_ (done_of HT_.out (by kernel_rfl)) ?_
          try go_wp2
          go_roundg k1
          case measure => have := HK1.out; omega
          case rel => exact ⟨(wrap64 (x9_1 + (wrap64 (t221 - (wrap64 (2 * a3)))))), (wrap64 (x21_1 + 1)), (by first | rfl | (simp; done) | (simp [*]; done)), (by first | rfl | (simp; done) | (simp [*]; done)), H', ⟨by have := HK1.out; omega⟩, ⟨by repeat (first | (with_reducible first | exact HB.out | apply below_alloc | apply pw_below_drewN | apply below_drew1) | exact HB.out)⟩⟩
         ·
          rw [if_neg c11] at H
          exact absurd H (by simp)
        ·
         rw [if_neg c10] at H
         exact absurd H (by simp)
       ·
        rw [if_neg c9] at H
        exact absurd H (by simp)
      ·
       rw [if_neg c8] at H
       have c8b0 : decide (0 ≤ (rd l2 x21_1)) = false := decide_eq_false c8
       clear c8
       have H' := Aside0.mk H
       clear H
       have p218 : 0 ≤ (x21_1 : Int) := of_decide_eq_true (by first | (with_reducible assumption) | assumption)
       have q218 : x21_1 < (l2.length : Int) := of_decide_eq_true (by first | (with_reducible assumption) | assumption)
       obtain ⟨ad218, e218, hx218_0⟩ := Kd.at_int HR2.out x21_1 p218 q218
       cases e218
       replace hx218_0 := (HB.out.cell (World.block_lt_of_cell? w _ hx218_0)).trans hx218_0
       replace p218 := eq_true p218
       replace q218 := eq_true q218
       go_wp2
       go_roundg k1
       case measure => have := HK1.out; omega
       case rel => exact ⟨(x9_1), (wrap64 (x21_1 + 1)), (by first | rfl | (simp; done) | (simp [*]; done)), (by first | rfl | (simp; done) | (simp [*]; done)), H', ⟨by have := HK1.out; omega⟩, ⟨by repeat (first | (with_reducible first | exact HB.out | apply below_alloc | apply pw_below_drewN | apply below_drew1) | exact HB.out)⟩⟩
     ·
      rw [if_neg c7] at H
      exact absurd H (by simp)
    ·
     rw [if_neg c6] at H
     exact absurd H (by simp)
   ·
    rw [if_neg c5] at H
    have c5b0 : decide (x21_1 < (l2.length : Int)) = false := decide_eq_false c5
    clear c5
    obtain rfl := Option.some.inj H
    go_wp2
    go_ret
    exact ⟨by first | rfl | (simp [errW_none, errW_some] <;> rfl) | (simp [*, errW_none, errW_some] <;> rfl), by repeat (first | (with_reducible first | exact HB.out | apply below_alloc | apply pw_below_drewN | apply below_drew1) | exact HB.out)⟩

end Go.Proofs.Ytjidofgojijolaa.Q
namespace Go.Proofs.Ytjidofgojijolaa.Q
open Go.RowKit Go.Proofs.YtjidofgojijolaaW.PrintWords Go.Proofs.YtjidofgojijolaaW.PrintLast Go.Proofs.YtjidofgojijolaaW.PrintMore
attribute [local go_sem] max2_int min2_int max_two min_two max_three min_three max_four min_four   -- for this text's walks alone
set_option linter.unusedVariables false
set_option linter.unusedSimpArgs false

/-! ### slices_Clone_int_int: function 63 -/
/-- slices.Clone at ints: the same list, in a row of its own. -/
def slices_Clone_int_int.f (l0 : List Int) : Option (List Int) := if l0.length < 17592186044416 then some l0 else none
set_option maxHeartbeats 4000000 in
theorem slices_Clone_int_int.calls (A0 : Option Addr) (c0 : Nat) (l0 : List Int) (r : List Int) (w : World) (hr0 : Kd.C (Kd.int .i64) w A0 l0.length l0) (hc0 : l0.length ≤ c0) (h : slices_Clone_int_int.f l0 = some r) :
  Calls Try.prog 63 #[.slice A0 l0.length c0] w fun e w' => ∃ v0_ : Value, e = .returned (v0_) ∧ Kd.R (Kd.int .i64) 3 w' w.heap.size (fun _ => True) v0_ r ∧ Below w.heap.size w w' := by
 have q26 : ∀ (w : World) (a : Option Addr) (n c n' c' : Nat), (binOp .eql 25 (.slice a n c) (.slice none n' c')).run Try.prog w = .ok (.bool a.isNone) w := fun w a n c n' c' => Lib.run_eql_slice_nil w _ _ a n c n' c' Try.underlying25
 unfold slices_Clone_int_int.f at h
 by_cases c4 : l0.length < 17592186044416
 ·
  rw [if_pos c4] at h
  obtain rfl := Option.some.inj h
  clear h
  cases A0 with
  | none =>
   have e0 : l0 = [] := by
    rcases Nat.eq_zero_or_pos l0.length with h0 | h0
    ·
     exact List.length_eq_zero_iff.1 h0
    ·
     obtain ⟨ad, ha, _⟩ := hr0.2.2 h0
     cases ha
   subst e0
   clear hr0 hc0
   go_enter Try.func63, Try.ntmps63
   go_wp2
   go_ret
   exact ⟨_, rfl, Kd.R_nil _ _ _ _ _, Below.refl _ _⟩
  | some ad =>
   have HR0 := Aside0.mk hr0
   have HC0 := Aside0.mk hc0
   have LM := Aside0.mk c4
   clear hr0 hc0 c4
   have HB := Aside0.mk (Below.refl w.heap.size w)
   go_enter Try.func63, Try.ntmps63
   go_wp2_with (first | ((with_reducible refine gate_dst (N := 5) rfl ?_); refine Kd.R_lit (Kd.int .i64) _ 3 ?hg (N := 5) ?hd (xs := ([] : List Int)) (inner := []) (ok := fun _ => True) (okp := fun _ => True) ?hr ?hp (fun _ hk => hk) trivial HB.out (Nat.le_refl _) (by simp) ?_; (case hd => rfl); (case hg => rfl); (case hr => first | (go_simp; done) | (go_simp; rfl)); (case hp => exact (Reps.none _ _)); intro v5 w5 ho5 hb5 hg5 hn5; have HO := Aside0.mk ho5; have HB5 := Aside0.mk hb5; clear ho5 hb5 hg5 hn5) | ((with_reducible refine gate_builtin (b := .append) (xs := #[.tmp 5, .tmp 6]) rfl ?_); at_builtin; refine Kd.R_append_rows (Kd.int .i64) (w0 := w) w.heap.size rfl (.tmp 5) (.tmp 6) 25 3 (.int .i64 0) 8 rfl Try.underlying25 info3 rfl (by decide) (by omega) v5 ([] : List Int) l0 _ _ _ (fun _ => True) (fun _ => False) rfl rfl (by (with_reducible repeat (first | apply Kd.R_alloc | apply Kd.R_drewN | apply Kd.R_drew)); exact HO.out) (by (with_reducible repeat (first | refine Kd.C_alloc ?_ _ | refine Kd.C_drewN ?_ _ | refine Kd.C_drew ?_)); exact (Kd.C_below HR0.out HB5.out)) (fun _ _ h => h) (fun _ h => h.elim) (fun _ _ => trivial) (by repeat (first | (with_reducible first | exact HB5.out | apply below_alloc | apply pw_below_drewN | apply below_drew1) | exact HB5.out)) (below_size (by repeat (first | (with_reducible first | exact HB5.out | apply below_alloc | apply pw_below_drewN | apply below_drew1) | exact HB5.out))) (by have := LM.out; simp only [List.length_nil]; omega) ?_; intro v7 w7 ho7 hb7 hg7 hat7; rw [List.nil_append] at ho7; have HO7 := Aside0.mk ho7; have HB7 := Aside0.mk hb7; clear ho7 hb7 hg7 hat7))
   go_ret
   exact ⟨_, rfl, by (with_reducible repeat (first | apply Kd.R_alloc | apply Kd.R_drewN | apply Kd.R_drew)); exact HO7.out, by repeat (first | (with_reducible first | exact HB7.out | apply below_alloc | apply pw_below_drewN | apply below_drew1) | exact HB7.out)⟩
 ·
  rw [if_neg c4] at h
  cases h

end Go.Proofs.Ytjidofgojijolaa.Q
namespace Go.Proofs.Ytjidofgojijolaa.Q
open Go.RowKit Go.Proofs.YtjidofgojijolaaW.PrintWords Go.Proofs.YtjidofgojijolaaW.PrintLast Go.Proofs.YtjidofgojijolaaW.PrintMore
attribute [local go_sem] max2_int min2_int max_two min_two max_three min_three max_four min_four   -- for this text's walks alone
set_option linter.unusedVariables false
set_option linter.unusedSimpArgs false

/-! ### impl_bestTracking: function 41 -/
-- called: 36 63 44
def impl_bestTracking.c.T8 : Bool × List (List Nat × List Nat) := (true, [([], []), ([], []), ([1], [1]), ([], []), ([3], [3]), ([2, 4, 2], [2, 4]), ([0, 5, 5], [0, 5])])
def impl_bestTracking.c.B8 : List Nat := [0, 0, 2, 0, 8, 30, 63]
theorem impl_bestTracking.c.tab8 : rtab .any (opsOf Try.f62 8) = impl_bestTracking.c.T8 := by kernel_rfl
theorem impl_bestTracking.c.bits8 : waitsOk impl_bestTracking.c.T8.2 impl_bestTracking.c.B8 = true := by kernel_rfl
def impl_bestTracking.d.T6 : Bool × List (List Nat × List Nat) := (true, [([], []), ([], []), ([0, 0], [0]), ([1, 2, 0, 1, 2], [1])])
def impl_bestTracking.d.B6 : List Nat := [0, 0, 1, 7]
theorem impl_bestTracking.d.tab6 : rtab .any (opsOf Try.f41 6) = impl_bestTracking.d.T6 := by kernel_rfl
theorem impl_bestTracking.d.bits6 : waitsOk impl_bestTracking.d.T6.2 impl_bestTracking.d.B6 = true := by kernel_rfl
/-- One way on from a tracking behind the other: -1 first, then each place that is not in it. -/
def btL (f : List Int → List Int × Int → Option (List Int × Int)) (tr : List Int) : Nat → Nat → List Int × Int → Option (List Int × Int)
 | 0, _, s => some s
 | d + 1, i, s => if (i : Int) - 1 < 0 ∨ ¬ ((i : Int) - 1 ∈ tr) then (f (tr ++ [(i : Int) - 1]) s).bind fun s' => btL f tr d (i + 1) s' else btL f tr d (i + 1) s
def btF (c : List Int → Option Int) (nb : Nat) : Nat → List Int → List Int × Int → Option (List Int × Int)
 | 0, tr, s => (c tr).bind fun x => some (if s.2 < 0 ∨ x < s.2 then (tr, x) else s)
 | n + 1, tr, s => btL (btF c nb n) tr (nb + 1) 0 s
theorem btL_mono {f g : List Int → List Int × Int → Option (List Int × Int)} (h : ∀ t s, LeO (f t s) (g t s)) (tr : List Int) : ∀ d i s, LeO (btL f tr d i s) (btL g tr d i s)
 | 0, _, _ => LeO.refl _
 | d + 1, i, s => by
  unfold btL
  split
  ·
   exact LeO.bind (h _ _) (fun _ => btL_mono h tr d _ _)
  ·
   exact btL_mono h tr d _ _
theorem btF_mono {c e : List Int → Option Int} (h : ∀ t, LeO (c t) (e t)) (nb : Nat) : ∀ n tr s, LeO (btF c nb n tr s) (btF e nb n tr s)
 | 0, tr, s => LeO.bind (h tr) (fun _ => LeO.refl _)
 | n + 1, tr, s => btL_mono (fun t s => btF_mono h nb n t s) tr _ _ _
def impl_bestTracking.f (k : Nat) (l0 l1 : List S71) (a2 : Int) : Option (List Int × Int) := if l0.length ≤ 5 ∧ l1.length ≤ 5 then btF (fun t => impl_trackingCost.f k l0 l1 t a2) l1.length l0.length [] ([], -1) else none
theorem impl_bestTracking.mono : ∀ a0 a1 a2 k, LeO (impl_bestTracking.f k a0 a1 a2) (impl_bestTracking.f (k + 1) a0 a1 a2) := fun a b c k => by
 unfold impl_bestTracking.f
 split
 ·
  exact btF_mono (fun t => impl_trackingCost.mono _ _ _ _ k) _ _ _ _
 ·
  exact LeO.refl _
theorem C_blkI {w W : World} {A : Option Addr} {n : Nat} {xs : List Int} (h : Kd.C (Kd.int .i64) w A n xs) (hb : ∀ ad, A = some ad → 0 < n → W.heap[ad.block]? = w.heap[ad.block]?) : Kd.C (Kd.int .i64) W A n xs := by
 have h' := Kd.reads_of_C (d := 0) h
 refine Kd.C_of_reads (d := 0) ⟨h'.1, h'.2.1, fun hn => ?_⟩
 obtain ⟨ad, e, hc⟩ := h'.2.2 hn
 have e2 : ∀ j, (ad.add j).block = ad.block := fun j => by unfold Addr.add; cases ad; first | rfl | (split <;> rfl)
 exact ⟨ad, e, fun j hj => (World.cell?_of_block (a := ad.add j) (by rw [e2]; exact hb ad e hn)).trans (hc j hj)⟩
theorem C_ltI {w : World} {A : Option Addr} {n : Nat} {xs : List Int} (h : Kd.C (Kd.int .i64) w A n xs) (ad : Addr) (e : A = some ad) (hn : 0 < n) : ad.block < w.heap.size := by
 have h' := Kd.reads_of_C (d := 0) h
 obtain ⟨ad', e', hc⟩ := h'.2.2 hn
 have : ad' = ad := Option.some.inj (e'.symm.trans e)
 subst this
 have e2 : (ad'.add 0).block = ad'.block := by unfold Addr.add; cases ad'; first | rfl | (split <;> rfl)
 rw [← e2]
 exact World.block_lt_of_cell? w _ (hc 0 hn)
/-- What the boxes of the best tracking and of its cost hold. -/
def ST (W : World) (B Bs Bl : Nat) (v : Value) (s : List Int × Int) : Prop := W.heap[Bs]? = some (.cells #[v] 25 (0, 0)) ∧ W.heap[Bl]? = some (.cells #[.int .i64 s.2] 3 (0, 0)) ∧ Kd.R (Kd.int .i64) 3 W B (fun q => B ≤ q) v s.1
theorem ST.below {W W' : World} {B Bs Bl : Nat} {v : Value} {s : List Int × Int} (h : ST W B Bs Bl v s) (hb : Below W.heap.size W W') : ST W' B Bs Bl v s := ⟨blk_below h.1 hb, blk_below h.2.1 hb, Kd.R_below h.2.2 hb⟩
theorem repsOne {w : World} {b : Nat} {ok : Nat → Prop} (x : Int) : Reps ((Kd.int .i64).M w b ok) (Kd.int .i64).sz [x] [.int .i64 x] := Kd.reps_scalar (enc := Value.int .i64) [x]
theorem C_keepI {w W : World} {A : Option Addr} {n : Nat} {xs : List Int} (h : Kd.C (Kd.int .i64) w A n xs) (hb : Below w.heap.size w W) : Kd.C (Kd.int .i64) W A n xs := Kd.C_below h hb
def Two (Bs Bl : Nat) (q : Nat) : Prop := q = Bs ∨ q = Bl
theorem keptT {w W : World} {S : Nat → Prop} (h : Kept w W S) {g : Nat} (hg : S g) (v : Value) : Kept w (W.setCell ⟨g, 0, none⟩ v) S :=
 ⟨by rw [show (W.setCell ⟨g, 0, none⟩ v).heap.size = W.heap.size by simp [World.setCell]]; exact h.1, fun k hk hn => (Below.heap_setCell W ⟨g, 0, none⟩ v k (fun e => hn (by rw [e]; exact hg))).trans (h.2 k hk hn)⟩
/-- A call of a function value that lies in a temporary. -/
theorem goesV_ {P : Program} {ops : Array Oper} {Q : Exit → Act → World → Prop} {oi : Oper} {N : Option Tmp} {a : Act} {w : World} {K : Act → World → Prop} {f : FuncId} {t : Operand} {os_ : Array Operand} {ts : Array TypeId} {lb : Array Value} (eg : ∀ args w, (callFunc f args).run P w = .ok (.enter f args) w) (args : Array Value)
  (hw : Region.wanted oi (yielded ops a.tmps) = true) (hN : oi.dst = N) (hop : oi.op = .call { callee := .value t, args := os_, argTypes := ts }) (ht : a.eval t = .func (.func f) #[] lb) (hargs : os_.map a.eval ++ lb = args)
  (h : Calls P f args w fun e w' => ∃ v, e = .returned v ∧ K (a.put N v) w') : if Region.wanted oi (yielded ops a.tmps) = true then Oper.wp P oi a w K Q else K (a.put N undef) w := by
 refine call_ f args hw hN ?_ h
 unfold execOp
 simp [hop, resolve, Deferred.ofValue, invoke, ht, hargs, eg]
set_option maxHeartbeats 4000000 in
set_option maxRecDepth 100000 in
theorem impl_bestTracking.ext (k : Nat) (l0 l1 : List S71) (a2 : Int) (A0 A1 : Option Addr) (c0 c1 : Nat) (w0 W1 : World) (Ba Bb Bp Bs Bl Be : Nat) (lb : Array Value)
  (hlb : lb = #[.pointer (some ⟨Ba, 0, none⟩), .pointer (some ⟨Bb, 0, none⟩), .pointer (some ⟨Bp, 0, none⟩), .pointer (some ⟨Bl, 0, none⟩), .pointer (some ⟨Bs, 0, none⟩), .pointer (some ⟨Be, 0, none⟩)])
  (hA : W1.heap[Ba]? = some (.cells #[.slice A0 l0.length c0] 24 (0, 0))) (hBb : W1.heap[Bb]? = some (.cells #[.slice A1 l1.length c1] 24 (0, 0)))
  (hP : W1.heap[Bp]? = some (.cells #[.int .i64 a2] 3 (0, 0))) (hE : W1.heap[Be]? = some (.cells #[.func (.func 62) #[] lb] 89 (0, 0)))
  (hd : Ba ≠ Bs ∧ Ba ≠ Bl ∧ Bb ≠ Bs ∧ Bb ≠ Bl ∧ Bp ≠ Bs ∧ Bp ≠ Bl ∧ Be ≠ Bs ∧ Be ≠ Bl ∧ Bs ≠ Bl) (hg : w0.heap.size ≤ Bs ∧ w0.heap.size ≤ Bl) (hlt : Bs < W1.heap.size ∧ Bl < W1.heap.size) (hl : l0.length ≤ 5 ∧ l1.length ≤ 5)
  (hr0 : Kd.C k71 w0 A0 l0.length l0) (hc0 : l0.length ≤ c0) (hr1 : Kd.C k71 w0 A1 l1.length l1) (hc1 : l1.length ≤ c1) :
  ∀ (n : Nat) (tr : List Int) (At : Option Addr) (ct : Nat) (W : World) (v : Value) (s r : List Int × Int), l0.length = tr.length + n → Kd.C (Kd.int .i64) W At tr.length tr → tr.length ≤ ct → (∀ ad, At = some ad → 0 < tr.length → ad.block ≠ Bs ∧ ad.block ≠ Bl) →
   Below w0.heap.size w0 W → Kept W1 W (Two Bs Bl) → ST W W1.heap.size Bs Bl v s → btF (fun t => impl_trackingCost.f k l0 l1 t a2) l1.length n tr s = some r →
   Calls Try.prog 62 #[.slice At tr.length ct, .pointer (some ⟨Ba, 0, none⟩), .pointer (some ⟨Bb, 0, none⟩), .pointer (some ⟨Bp, 0, none⟩), .pointer (some ⟨Bl, 0, none⟩), .pointer (some ⟨Bs, 0, none⟩), .pointer (some ⟨Be, 0, none⟩)] W fun e w' => e = .returned (.tuple #[]) ∧ Below w0.heap.size w0 w' ∧ Kept W w' (Two Bs Bl) ∧ ∃ v', ST w' W1.heap.size Bs Bl v' r := by
 subst hlb
 have eg : ∀ args w, (callFunc 62 args).run Try.prog w = .ok (.enter 62 args) w := enters_of Try.func62 (by kernel_rfl) rfl
 have EG := Aside0.mk eg
 clear eg
 have env : ∀ W, Kept W1 W (Two Bs Bl) → W.heap[Ba]? = some (.cells #[.slice A0 l0.length c0] 24 (0, 0)) ∧ W.heap[Bb]? = some (.cells #[.slice A1 l1.length c1] 24 (0, 0)) ∧ W.heap[Bp]? = some (.cells #[.int .i64 a2] 3 (0, 0)) ∧ W.heap[Be]? = some (.cells #[.func (.func 62) #[] #[.pointer (some ⟨Ba, 0, none⟩), .pointer (some ⟨Bb, 0, none⟩), .pointer (some ⟨Bp, 0, none⟩), .pointer (some ⟨Bl, 0, none⟩), .pointer (some ⟨Bs, 0, none⟩), .pointer (some ⟨Be, 0, none⟩)]] 89 (0, 0)) := fun W hk =>
  ⟨(hk.2 Ba (blk_lt hA) (fun e => e.elim hd.1 hd.2.1)).trans hA, (hk.2 Bb (blk_lt hBb) (fun e => e.elim hd.2.2.1 hd.2.2.2.1)).trans hBb, (hk.2 Bp (blk_lt hP) (fun e => e.elim hd.2.2.2.2.1 hd.2.2.2.2.2.1)).trans hP, (hk.2 Be (blk_lt hE) (fun e => e.elim hd.2.2.2.2.2.2.1 hd.2.2.2.2.2.2.2.1)).trans hE⟩
 have ENV := Aside0.mk env
 have HD := Aside0.mk hd
 have HG := Aside0.mk hg
 have HLT := Aside0.mk hlt
 have HL := Aside0.mk hl
 have HR0 := Aside0.mk hr0
 have HC0 := Aside0.mk hc0
 have HR1 := Aside0.mk hr1
 have HC1 := Aside0.mk hc1
 clear env hd hg hlt hr0 hc0 hr1 hc1 hA hBb hP hE
 intro n
 induction n with
 | zero =>
  intro tr At ct W v s r hn hC hct hne hB hK hS h
  obtain ⟨eA, eB, eP, eE⟩ := ENV.out W hK
  have cA : W.cell? ⟨Ba, 0, none⟩ = some (.slice A0 l0.length c0) := blk_cell eA 0
  have cB : W.cell? ⟨Bb, 0, none⟩ = some (.slice A1 l1.length c1) := blk_cell eB 0
  have cP : W.cell? ⟨Bp, 0, none⟩ = some (.int .i64 a2) := blk_cell eP 0
  have HCt := Aside0.mk hC
  have Hct := Aside0.mk hct
  have HB := Aside0.mk hB
  have HK := Aside0.mk hK
  have HS := Aside0.mk hS
  unfold btF at h
  obtain ⟨x, hx, h⟩ := Option.bind_eq_some_iff.1 h
  have HX := Aside0.mk hx
  have HR := Aside0.mk (Option.some.inj h)
  have hz1 : ((tr.length : Int) == (l0.length : Int)) = true := beq_iff_eq.2 (by omega)
  have hz2 : decide ((tr.length : Int) = (l0.length : Int)) = true := decide_eq_true (by omega)
  have hz3 : ((tr.length : Int) = (l0.length : Int)) = True := eq_true (by omega)
  have hbig : tr.length < 17592186044416 := by have := HL.out; omega
  have HBIG := Aside0.mk hbig
  clear eA eB eP eE hC hct hne hB hK hS hx h hn hbig hl
  show Calls Try.prog 62 #[.slice At tr.length ct, .pointer (some ⟨Ba, 0, none⟩), .pointer (some ⟨Bb, 0, none⟩), .pointer (some ⟨Bp, 0, none⟩), .pointer (some ⟨Bl, 0, none⟩), .pointer (some ⟨Bs, 0, none⟩), .pointer (some ⟨Be, 0, none⟩)] W _
  go_enter Try.func62, Try.ntmps62
  go_wp2_with fail
  refine (impl_trackingCost.calls k A0 c0 l0 A1 c1 l1 At ct tr a2 x _ (Kd.C_below HR0.out HB.out) HC0.out (Kd.C_below HR1.out HB.out) HC1.out HCt.out Hct.out HX.out).mono ?_
  rintro e w1 ⟨rfl, hb⟩
  have HS1 := Aside0.mk (HS.out.below hb)
  have HB1 := Aside0.mk (HB.out.trans (hb.mono HB.out.size))
  have HK1 := Aside0.mk (Kept.of_below hb (Two Bs Bl))
  have HC1t := Aside0.mk (Kd.C_below HCt.out hb)
  have cl : w1.cell? ⟨Bl, 0, none⟩ = some (.int .i64 s.2) := blk_cell HS1.out.2.1 0
  clear hb cA cB cP
  by_cases k1 : s.2 < 0
  ·
   have k1a : (s.2 < 0) = True := eq_true k1
   have k1b : decide (s.2 < 0) = true := decide_eq_true k1
   go_wp2_with fail
   refine (slices_Clone_int_int.calls At ct tr tr _ HC1t.out Hct.out (if_pos HBIG.out)).mono ?_
   rintro e w2 ⟨v2, rfl, ho2, hb2⟩
   have HS2 := Aside0.mk (HS1.out.below hb2)
   have HB2 := Aside0.mk (HB1.out.trans (hb2.mono HB1.out.size))
   have HK2 := Aside0.mk (Kept.then_ (S := Two Bs Bl) HK1.out (Kept.of_below hb2 (fun _ => False)) (fun _ h => h.elim))
   have hW1 : W1.heap.size ≤ w1.heap.size := Nat.le_trans HK.out.1 HK1.out.1
   have HO2 := Aside0.mk (Kd.R_lower (Kd.R_mono (Kd.R_bound ho2) (ok' := fun q => W1.heap.size ≤ q) (fun q hq => Nat.le_trans hW1 hq.2.1)) hW1)
   have g1 : w2.cell? ⟨Bs, 0, none⟩ = some v := blk_cell HS2.out.1 0
   have g2 : w2.frozen? ⟨Bs, 0, none⟩ = false := blk_frozen HS2.out.1 0
   have g3 : ∀ u, (w2.setCell ⟨Bs, 0, none⟩ u).cell? ⟨Bl, 0, none⟩ = some (.int .i64 s.2) := fun u => blk_cell (blk_far HS2.out.2.1 (fun e => HD.out.2.2.2.2.2.2.2.2 e.symm) u) 0
   have g4 : ∀ u, (w2.setCell ⟨Bs, 0, none⟩ u).frozen? ⟨Bl, 0, none⟩ = false := fun u => blk_frozen (blk_far HS2.out.2.1 (fun e => HD.out.2.2.2.2.2.2.2.2 e.symm) u) 0
   have g5 : w2.cell? ⟨Bl, 0, none⟩ = some (.int .i64 s.2) := blk_cell HS2.out.2.1 0
   have g6 : w2.frozen? ⟨Bl, 0, none⟩ = false := blk_frozen HS2.out.2.1 0
   have hv2 : v2.oneCell' = true := by obtain ⟨A', c', rfl⟩ := Kd.R_slice HO2.out; rfl
   obtain ⟨A2', c2', ev2⟩ := Kd.R_slice HO2.out
   subst ev2
   clear ho2 hb2 hW1 hv2
   go_wp2
   (try simp only [Exit.inBlock, Exit.then]); refine bodyPost_ret (results_none rfl _ _ _) rfl ?_
   rw [← HR.out]
   have lt1 := HLT.out
   have b1 := blk_put HS2.out.1 0 (.slice A2' tr.length c2') (cs' := #[.slice A2' tr.length c2']) rfl
   have b2 := blk_far HS2.out.2.1 (p := ⟨Bs, 0, none⟩) (fun e => HD.out.2.2.2.2.2.2.2.2 e.symm) (.slice A2' tr.length c2')
   have r1 := Kd.R_far HO2.out (p := ⟨Bs, 0, none⟩) (fun q hq => by show q ≠ Bs; omega) (.slice A2' tr.length c2')
   refine ⟨rfl, (HB2.out.setCell (p := ⟨Bs, 0, none⟩) HG.out.1 _).setCell (p := ⟨Bl, 0, none⟩) HG.out.2 _, keptT (keptT HK2.out (.inl rfl) _) (.inr rfl) _, .slice A2' tr.length c2', ?_⟩
   rw [if_pos (.inl k1)]
   exact ⟨blk_far b1 (p := ⟨Bl, 0, none⟩) HD.out.2.2.2.2.2.2.2.2 _, blk_put b2 0 (.int .i64 x) rfl, Kd.R_far r1 (p := ⟨Bl, 0, none⟩) (fun q hq => by show q ≠ Bl; omega) _⟩
  ·
   have k1a : (s.2 < 0) = False := eq_false k1
   have k1b : decide (s.2 < 0) = false := decide_eq_false k1
   by_cases k2 : x < s.2
   ·
    have k2a : (x < s.2) = True := eq_true k2
    have k2b : decide (x < s.2) = true := decide_eq_true k2
    go_wp2_with fail
    refine (slices_Clone_int_int.calls At ct tr tr _ HC1t.out Hct.out (if_pos HBIG.out)).mono ?_
    rintro e w2 ⟨v2, rfl, ho2, hb2⟩
    have HS2 := Aside0.mk (HS1.out.below hb2)
    have HB2 := Aside0.mk (HB1.out.trans (hb2.mono HB1.out.size))
    have HK2 := Aside0.mk (Kept.then_ (S := Two Bs Bl) HK1.out (Kept.of_below hb2 (fun _ => False)) (fun _ h => h.elim))
    have hW1 : W1.heap.size ≤ w1.heap.size := Nat.le_trans HK.out.1 HK1.out.1
    have HO2 := Aside0.mk (Kd.R_lower (Kd.R_mono (Kd.R_bound ho2) (ok' := fun q => W1.heap.size ≤ q) (fun q hq => Nat.le_trans hW1 hq.2.1)) hW1)
    have g1 : w2.cell? ⟨Bs, 0, none⟩ = some v := blk_cell HS2.out.1 0
    have g2 : w2.frozen? ⟨Bs, 0, none⟩ = false := blk_frozen HS2.out.1 0
    have g3 : ∀ u, (w2.setCell ⟨Bs, 0, none⟩ u).cell? ⟨Bl, 0, none⟩ = some (.int .i64 s.2) := fun u => blk_cell (blk_far HS2.out.2.1 (fun e => HD.out.2.2.2.2.2.2.2.2 e.symm) u) 0
    have g4 : ∀ u, (w2.setCell ⟨Bs, 0, none⟩ u).frozen? ⟨Bl, 0, none⟩ = false := fun u => blk_frozen (blk_far HS2.out.2.1 (fun e => HD.out.2.2.2.2.2.2.2.2 e.symm) u) 0
    have g5 : w2.cell? ⟨Bl, 0, none⟩ = some (.int .i64 s.2) := blk_cell HS2.out.2.1 0
    have g6 : w2.frozen? ⟨Bl, 0, none⟩ = false := blk_frozen HS2.out.2.1 0
    have hv2 : v2.oneCell' = true := by obtain ⟨A', c', rfl⟩ := Kd.R_slice HO2.out; rfl
    obtain ⟨A2', c2', ev2⟩ := Kd.R_slice HO2.out
    subst ev2
    clear ho2 hb2 hW1 hv2
    go_wp2
    (try simp only [Exit.inBlock, Exit.then]); refine bodyPost_ret (results_none rfl _ _ _) rfl ?_
    rw [← HR.out]
    have lt1 := HLT.out
    have b1 := blk_put HS2.out.1 0 (.slice A2' tr.length c2') (cs' := #[.slice A2' tr.length c2']) rfl
    have b2 := blk_far HS2.out.2.1 (p := ⟨Bs, 0, none⟩) (fun e => HD.out.2.2.2.2.2.2.2.2 e.symm) (.slice A2' tr.length c2')
    have r1 := Kd.R_far HO2.out (p := ⟨Bs, 0, none⟩) (fun q hq => by show q ≠ Bs; omega) (.slice A2' tr.length c2')
    refine ⟨rfl, (HB2.out.setCell (p := ⟨Bs, 0, none⟩) HG.out.1 _).setCell (p := ⟨Bl, 0, none⟩) HG.out.2 _, keptT (keptT HK2.out (.inl rfl) _) (.inr rfl) _, .slice A2' tr.length c2', ?_⟩
    rw [if_pos (.inr k2)]
    exact ⟨blk_far b1 (p := ⟨Bl, 0, none⟩) HD.out.2.2.2.2.2.2.2.2 _, blk_put b2 0 (.int .i64 x) rfl, Kd.R_far r1 (p := ⟨Bl, 0, none⟩) (fun q hq => by show q ≠ Bl; omega) _⟩
   ·
    have k2a : (x < s.2) = False := eq_false k2
    have k2b : decide (x < s.2) = false := decide_eq_false k2
    go_wp2
    (try simp only [Exit.inBlock, Exit.then]); refine bodyPost_ret (results_none rfl _ _ _) rfl ?_
    rw [← HR.out, if_neg (fun e => e.elim (fun q => by omega) (fun q => by omega))]
    exact ⟨rfl, HB1.out, HK1.out, v, HS1.out⟩
 | succ n ih =>
  intro tr At ct W v s r hn hC hct hne hB hK hS h
  have hbig : tr.length < 17592186044416 := by have := HL.out; omega
  have HBIG := Aside0.mk hbig
  have HN := Aside0.mk hn
  have HCt := Aside0.mk hC
  have Hct := Aside0.mk hct
  have HNE := Aside0.mk hne
  have HB := Aside0.mk hB
  have HK := Aside0.mk hK
  have HS := Aside0.mk hS
  unfold btF at h
  have HH := Aside0.mk h
  have cA : W.cell? ⟨Ba, 0, none⟩ = some (.slice A0 l0.length c0) := blk_cell (ENV.out W hK).1 0
  have hz1 : ((tr.length : Int) == (l0.length : Int)) = false := beq_eq_false_iff_ne.2 (by omega)
  have hz2 : decide ((tr.length : Int) = (l0.length : Int)) = false := decide_eq_false (by omega)
  have hz3 : ((tr.length : Int) = (l0.length : Int)) = False := eq_false (by omega)
  have hl1 : l1.length ≤ 5 := HL.out.2
  have KC : ∀ W', Kept W W' (Two Bs Bl) → Kd.C (Kd.int .i64) W' At tr.length tr := fun W' hk => C_blkI HCt.out (fun ad e hp => hk.2 ad.block (C_ltI HCt.out ad e hp) (fun q => q.elim (HNE.out ad e hp).1 (HNE.out ad e hp).2))
  have HKC := Aside0.mk KC
  clear hbig hn hC hct hne hB hK hS h KC hl
  go_enter Try.func62, Try.ntmps62
  go_wp2_with fail
  clear cA
  go_loopg [9, 30, 31, 32, 33, 34, 35, 36, 37, 38, 39, 40, 41, 42, 43, 44, 45, 46, 47, 48, 49, 50] (l1.length + 1) (fun gg s9 _ _ _ _ _ _ _ _ _ _ _ _ _ _ _ _ _ _ _ _ _ wr => ∃ (i : Nat) (v' : Value) (s' : List Int × Int), i ≤ l1.length + 1 ∧ l1.length + 1 - i ≤ gg ∧ s9 = .int .i64 ((i : Int) - 1) ∧ Aside0 (Below w0.heap.size w0 wr) ∧ Aside0 (Kept W wr (Two Bs Bl)) ∧ Aside0 (ST wr W1.heap.size Bs Bl v' s') ∧ Aside0 (btL (btF (fun t => impl_trackingCost.f k l0 l1 t a2) l1.length n) tr (l1.length + 1 - i) i s' = some r))
  case atStart => exact ⟨0, v, s, by omega, by omega, by go_num, HB, ⟨Kept.refl _ _⟩, HS, HH⟩
  case round =>
   obtain ⟨i, v', s', hi, hgg, rfl, HBr, HKr, HSr, HTr⟩ := hrel
   have HKr1 := Aside0.mk (Kept.then_ (S := Two Bs Bl) HK.out HKr.out (fun _ h => .inl h))
   have cB : wr.cell? ⟨Bb, 0, none⟩ = some (.slice A1 l1.length c1) := blk_cell (ENV.out wr HKr1.out).2.1 0
   by_cases hlt : i < l1.length + 1
   ·
    have hltz : ((i : Int) - 1 < (l1.length : Int)) = True := eq_true (by omega)
    obtain ⟨d, hd⟩ : ∃ d, l1.length + 1 - i = d + 1 := ⟨l1.length - i, by omega⟩
    have HT0 := HTr.out
    rw [hd] at HT0
    unfold btL at HT0
    have cE0 := blk_cell (ENV.out wr HKr1.out).2.2.2 0
    have cE : wr.cell? ⟨Be, 0, none⟩ = some (.func (.func 62) #[] #[.pointer (some ⟨Ba, 0, none⟩), .pointer (some ⟨Bb, 0, none⟩), .pointer (some ⟨Bp, 0, none⟩), .pointer (some ⟨Bl, 0, none⟩), .pointer (some ⟨Bs, 0, none⟩), .pointer (some ⟨Be, 0, none⟩)]) := cE0
    clear cE0
    by_cases hi0 : i = 0
    ·
     have hneg : ((i : Int) - 1 < 0) = True := eq_true (by omega)
     have hnegb : decide ((i : Int) - 1 < 0) = true := decide_eq_true (by omega)
     rw [if_pos (.inl (by omega))] at HT0
     obtain ⟨s2, hf, ht⟩ := Option.bind_eq_some_iff.1 HT0
     have HF := Aside0.mk hf
     have HT := Aside0.mk ht
     clear hf ht HT0
     obtain ⟨wq, hwq⟩ : ∃ wq, wq = wr := ⟨_, rfl⟩
     subst hwq
     have HBq := HBr
     have HKq := HKr
     have HKq1 := HKr1
     have HSq := HSr
     have HCq := Aside0.mk (HKC.out _ HKr.out)
     go_wp2_with fail
     obtain ⟨y, hy⟩ : ∃ y, y = tr ++ [(i : Int) - 1] := ⟨_, rfl⟩
     have NY := Aside0.mk hy
     clear hy
     have HBd := Aside0.mk (below_drew (Below.refl wq.heap.size wq))
     refine start_ (n := 7) (S := fun w' => w'.cell? ⟨Be, 0, none⟩ = some (.func (.func 62) #[] #[.pointer (some ⟨Ba, 0, none⟩), .pointer (some ⟨Bb, 0, none⟩), .pointer (some ⟨Bp, 0, none⟩), .pointer (some ⟨Bl, 0, none⟩), .pointer (some ⟨Bs, 0, none⟩), .pointer (some ⟨Be, 0, none⟩)])) (ds := []) #[false, false, false, false, false, false, false] (by kernel_rfl) rfl rfl (show wq.drew.cell? ⟨Be, 0, none⟩ = _ from cE) (fun hHeld => ?_)
     refine with_tabW impl_bestTracking.c.tab8 impl_bestTracking.c.bits8 (fun HT_ HW_ => ?_)
     generalize wq.drew = wd at HBd hHeld ⊢
     refine pure_ (i := 1) (N := some 45) (v := ?_) (a' := ?_) #[false, true, false, false, false, false, false] rfl rfl (any_of HT_.out (by kernel_rfl)) (fun _ _ _ h => h) (Or.inl ⟨by rfl, ?_⟩) ?_ ?_
     rotate_left
     ·
      intro w'
      go_simp
      with_reducible rfl
     rotate_left
     ·
      simp only [Act.put, List.setIfInBounds_toArray, List.set_cons_zero, List.set_cons_succ, i64_w, i32_w]
      rfl
     refine pure_ (i := 3) (N := some 47) (v := ?_) (a' := ?_) #[false, true, false, true, false, false, false] rfl rfl (any_of HT_.out (by kernel_rfl)) (fun _ _ _ h => h) (Or.inl ⟨by rfl, ?_⟩) ?_ ?_
     rotate_left
     ·
      intro w'
      go_simp
      with_reducible rfl
     rotate_left
     ·
      simp only [Act.put, List.setIfInBounds_toArray, List.set_cons_zero, List.set_cons_succ, i64_w, i32_w]
      rfl
     refine take_ (i := 0) (N := some 44) (v := ?_) (a' := ?_) #[true, true, false, true, false, false, false] rfl rfl (take_ofW HT_.out HW_.out (by kernel_rfl)) (fun _ _ _ h => h) (Or.inl ⟨by rfl, ?_⟩) hHeld ?_ ?_
     rotate_left
     ·
      rintro w' s0
      go_simp
      with_reducible rfl
     rotate_left
     ·
      simp only [Act.put, List.setIfInBounds_toArray, List.set_cons_zero, List.set_cons_succ, i64_w, i32_w]
      rfl
     refine join_ (σ := Value × Value) 2 #[true, true, true, true, true, false, false] (fun s_ => [(46, s_.1), (48, s_.2)]) (fun s_ w' => w'.cell? ⟨Be, 0, none⟩ = some (.func (.func 62) #[] #[.pointer (some ⟨Ba, 0, none⟩), .pointer (some ⟨Bb, 0, none⟩), .pointer (some ⟨Bp, 0, none⟩), .pointer (some ⟨Bl, 0, none⟩), .pointer (some ⟨Bs, 0, none⟩), .pointer (some ⟨Be, 0, none⟩)]) ∧ Kd.R (Kd.int .i64) 3 w' wq.heap.size (fun _ => True) s_.1 tr ∧ Kd.R (Kd.int .i64) 3 w' wq.heap.size (fun _ => True) s_.2 [(i : Int) - 1] ∧ Below wq.heap.size wq w') ?_ ?_
     rotate_left
     ·
      intro hCont
      refine two_ (i := 2) (j := 4) (Ni := some 46) (Nj := some 48) #[true, true, true, true, false, false, false] #[true, true, false, true, true, false, false] rfl rfl rfl rfl (by kernel_rfl) (by decide) (by decide) (fun K hK => ?_) (fun K hK => ?_)
      ·
       refine goes_ Try.func63 (by kernel_rfl) rfl #[.slice At tr.length ct] (by rfl) rfl rfl (by (try simp only [List.map_toArray, List.map_cons, List.map_nil]); first | done | rfl) ?_
       refine (slices_Clone_int_int.calls At ct tr tr _ (C_keepI HCq.out HBd.out) Hct.out (if_pos HBIG.out)).mono ?_
       rintro e wc ⟨vc, rfl, hoc, hb⟩
       refine ⟨_, rfl, ?_⟩
       have HOc := Aside0.mk (Kd.R_lower hoc HBd.out.size)
       have HBc := Aside0.mk (HBd.out.trans (hb.mono HBd.out.size))
       refine hK.out _ _ ((hb.cell (World.block_lt_of_cell? _ _ hHeld)).trans hHeld) (fun hHeld => ?_)
       clear hK K hoc hb
       refine norm_ (a' := ?_) ?_ ?_
       rotate_left
       ·
        show Act.put _ (some 46) _ = _
        simp only [Act.put, List.setIfInBounds_toArray, List.set_cons_zero, List.set_cons_succ, i64_w, i32_w]
        rfl
       refine one_ (i := 4) (N := some 48) #[true, true, true, true, true, false, false] rfl rfl (by kernel_rfl) (by decide) (fun K hK => ?_)
       refine Kd.R_lit_step (Kd.int .i64) _ 3 ?hg (N := 48) ?hd (xs := [(i : Int) - 1]) (inner := [.int .i64 ((i : Int) - 1)]) (ok := fun _ => True) (okp := fun _ => True) ?hr ?hp (fun _ hk => hk) trivial (Below.refl _ _) (Nat.le_refl _) (by simp) ?_
       case hd => rfl
       case hg => rfl
       case hr => first | (go_simp; done) | (go_simp; rfl)
       case hp => exact repsOne _
       intro vk wk hok hb _ _
       have HOc2 := Aside0.mk (Kd.R_below HOc.out hb)
       have HBk := Aside0.mk (HBc.out.trans (hb.mono HBc.out.size))
       have HOk := Aside0.mk (Kd.R_lower hok HBc.out.size)
       refine hK.out _ _ ((hb.cell (World.block_lt_of_cell? _ _ hHeld)).trans hHeld) (fun hHeld => ?_)
       clear hK K hok hb
       refine norm_ (a' := ?_) ?_ ?_
       rotate_left
       ·
        show Act.put _ (some 48) _ = _
        simp only [Act.put, List.setIfInBounds_toArray, List.set_cons_zero, List.set_cons_succ, i64_w, i32_w]
        rfl
       exact norm_ (by simp only [putAll, Act.put, List.setIfInBounds_toArray, List.set_cons_zero, List.set_cons_succ]) (hCont (vc, vk) _ ⟨hHeld, HOc2.out, HOk.out, HBk.out⟩)
      ·
       skip
       refine Kd.R_lit_step (Kd.int .i64) _ 3 ?hg (N := 48) ?hd (xs := [(i : Int) - 1]) (inner := [.int .i64 ((i : Int) - 1)]) (ok := fun _ => True) (okp := fun _ => True) ?hr ?hp (fun _ hk => hk) trivial (Below.refl _ _) (Nat.le_refl _) (by simp) ?_
       case hd => rfl
       case hg => rfl
       case hr => first | (go_simp; done) | (go_simp; rfl)
       case hp => exact repsOne _
       intro vk wk hok hb _ _
       have HBk := Aside0.mk (HBd.out.trans (hb.mono HBd.out.size))
       have HOk := Aside0.mk (Kd.R_lower hok HBd.out.size)
       refine hK.out _ _ ((hb.cell (World.block_lt_of_cell? _ _ hHeld)).trans hHeld) (fun hHeld => ?_)
       clear hK K hok hb
       refine norm_ (a' := ?_) ?_ ?_
       rotate_left
       ·
        show Act.put _ (some 48) _ = _
        simp only [Act.put, List.setIfInBounds_toArray, List.set_cons_zero, List.set_cons_succ, i64_w, i32_w]
        rfl
       refine one_ (i := 2) (N := some 46) #[true, true, true, true, true, false, false] rfl rfl (by kernel_rfl) (by decide) (fun K hK => ?_)
       refine goes_ Try.func63 (by kernel_rfl) rfl #[.slice At tr.length ct] (by rfl) rfl rfl (by (try simp only [List.map_toArray, List.map_cons, List.map_nil]); first | done | rfl) ?_
       refine (slices_Clone_int_int.calls At ct tr tr _ (C_keepI HCq.out HBk.out) Hct.out (if_pos HBIG.out)).mono ?_
       rintro e wc ⟨vc, rfl, hoc, hb⟩
       refine ⟨_, rfl, ?_⟩
       have HOc := Aside0.mk (Kd.R_lower hoc HBk.out.size)
       have HBc := Aside0.mk (HBk.out.trans (hb.mono HBk.out.size))
       have HOk2 := Aside0.mk (Kd.R_below HOk.out hb)
       refine hK.out _ _ ((hb.cell (World.block_lt_of_cell? _ _ hHeld)).trans hHeld) (fun hHeld => ?_)
       clear hK K hoc hb
       refine norm_ (a' := ?_) ?_ ?_
       rotate_left
       ·
        show Act.put _ (some 46) _ = _
        simp only [Act.put, List.setIfInBounds_toArray, List.set_cons_zero, List.set_cons_succ, i64_w, i32_w]
        rfl
       exact norm_ (by simp only [putAll, Act.put, List.setIfInBounds_toArray, List.set_cons_zero, List.set_cons_succ]) (hCont (vc, vk) _ ⟨hHeld, HOc.out, HOk2.out, HBc.out⟩)
     rintro ⟨vc, vk⟩ wj ⟨hS_, h0_, h1_, h2_⟩
     have HOc : Aside0 (Kd.R (Kd.int .i64) 3 wj wq.heap.size (fun _ => True) vc tr) := ⟨h0_⟩
     have HOk : Aside0 (Kd.R (Kd.int .i64) 3 wj wq.heap.size (fun _ => True) vk [(i : Int) - 1]) := ⟨h1_⟩
     have HBj : Aside0 (Below wq.heap.size wq wj) := ⟨h2_⟩
     have hHeld : wj.cell? ⟨Be, 0, none⟩ = some (.func (.func 62) #[] #[.pointer (some ⟨Ba, 0, none⟩), .pointer (some ⟨Bb, 0, none⟩), .pointer (some ⟨Bp, 0, none⟩), .pointer (some ⟨Bl, 0, none⟩), .pointer (some ⟨Bs, 0, none⟩), .pointer (some ⟨Be, 0, none⟩)]) := hS_
     clear h0_ h1_ h2_ hS_
     obtain ⟨Ak, ck, eo⟩ := Kd.R_slice HOk.out
     subst eo
     refine norm_ (a' := ?_) ?_ ?_
     rotate_left
     ·
      simp only [putAll, Act.put, List.setIfInBounds_toArray, List.set_cons_zero, List.set_cons_succ]
      rfl
     refine one_ (i := 5) (N := some 49) #[true, true, true, true, true, true, false] rfl rfl (by kernel_rfl) (by decide) (fun K hK => ?_)
     refine Kd.R_append_rows_step (Kd.int .i64) wq.heap.size (by rfl) (.tmp 46) (.tmp 48) 25 3 (.int .i64 0) 8 rfl Try.underlying25 info3 rfl (by decide) (by omega) vc tr [(i : Int) - 1] _ _ _ (fun _ => True) (fun _ => False) rfl rfl ?aO ?aR (fun _ _ h => h) (fun _ h => h.elim) ?aF HBj.out ?aS ?aL ?_
     case aO => exact HOc.out
     case aR => exact (Kd.R_reads' HOk.out).2.2
     case aF => exact fun _ _ => trivial
     case aS => exact HBj.out.size
     case aL => have := HBIG.out; simp only [List.length_singleton]; omega
     intro v3 w3 ho hb hg hat
     rw [← NY.out] at ho
     have HO3 := Aside0.mk ho
     have HB3 := Aside0.mk hb
     clear ho hb hg hat
     obtain ⟨Ao, co, eo⟩ := Kd.R_slice HO3.out
     subst eo
     have hHeld3 : w3.cell? ⟨Be, 0, none⟩ = some (.func (.func 62) #[] #[.pointer (some ⟨Ba, 0, none⟩), .pointer (some ⟨Bb, 0, none⟩), .pointer (some ⟨Bp, 0, none⟩), .pointer (some ⟨Bl, 0, none⟩), .pointer (some ⟨Bs, 0, none⟩), .pointer (some ⟨Be, 0, none⟩)]) := (HB3.out.cell (World.block_lt_of_cell? _ _ cE)).trans cE
     clear hHeld
     refine hK.out _ _ hHeld3 (fun hHeld => ?_)
     clear hK K hHeld3
     refine norm_ (a' := ?_) ?_ ?_
     rotate_left
     ·
      show Act.put _ (some 49) _ = _
      simp only [Act.put, List.setIfInBounds_toArray, List.set_cons_zero, List.set_cons_succ, i64_w, i32_w]
      rfl
     refine one_ (i := 6) (N := some 50) #[true, true, true, true, true, true, true] rfl rfl (by kernel_rfl) (by decide) (fun K hK => ?_)
     refine goesV_ EG.out #[.slice Ao y.length co, .pointer (some ⟨Ba, 0, none⟩), .pointer (some ⟨Bb, 0, none⟩), .pointer (some ⟨Bp, 0, none⟩), .pointer (some ⟨Bl, 0, none⟩), .pointer (some ⟨Bs, 0, none⟩), .pointer (some ⟨Be, 0, none⟩)] (by rfl) rfl rfl (by rfl) (by simp only [List.map_toArray, List.map_cons, List.map_nil]; rfl) ?_
     refine (ih y Ao co w3 v' s' s2 (by rw [NY.out, List.length_append, List.length_singleton]; have := HN.out; omega) (Kd.R_reads' HO3.out).2.2 (Kd.R_reads' HO3.out).2.1 ?hne (HBq.out.trans (HB3.out.mono HBq.out.size)) ?hk (HSq.out.below HB3.out) (by rw [NY.out]; exact HF.out)).mono ?_
     case hne =>
      intro ad ea hpos
      have h1 : wq.heap.size ≤ ad.block := Kd.R_base HO3.out ad.block (by rw [ea]; rfl)
      have h2 := HLT.out
      have h3 := HKq1.out.1
      exact ⟨by omega, by omega⟩
     case hk => exact Kept.then_ (S := Two Bs Bl) HKq1.out (Kept.of_below HB3.out (fun _ => False)) (fun _ h => h.elim)
     rintro e w4 ⟨rfl, hb4, hk4, v4, hs4⟩
     refine ⟨_, rfl, ?_⟩
     have HK4 := Aside0.mk (Kept.then_ (S := Two Bs Bl) (Kept.then_ (S := Two Bs Bl) HKq.out (Kept.of_below HB3.out (fun _ => False)) (fun _ h => h.elim)) hk4 (fun _ h => .inl h))
     have HK41 := Aside0.mk (Kept.then_ (S := Two Bs Bl) (Kept.then_ (S := Two Bs Bl) HKq1.out (Kept.of_below HB3.out (fun _ => False)) (fun _ h => h.elim)) hk4 (fun _ h => .inl h))
     have HB4 := Aside0.mk hb4
     have HS4 := Aside0.mk hs4
     clear hb4 hk4 hs4
     have cE4 := blk_cell (ENV.out w4 HK41.out).2.2.2 0
     refine hK.out _ _ cE4 (fun hHeld4 => ?_)
     clear hK K
     refine done_ (done_of HT_.out (by kernel_rfl)) ?_
     clear hHeld hHeld4 cE4 cE HT_ HW_
     go_wp2
     go_roundg (l1.length + 1 - (i + 1))
     case measure => omega
     case rel => exact ⟨i + 1, v4, s2, by omega, by omega, by go_num, HB4, HK4, HS4, ⟨by rw [show l1.length + 1 - (i + 1) = d from by omega]; exact HT.out⟩⟩
    ·
     have hneg : ((i : Int) - 1 < 0) = False := eq_false (by omega)
     have hnegb : decide ((i : Int) - 1 < 0) = false := decide_eq_false (by omega)
     obtain ⟨k1, hf1⟩ := (ev_containsI tr (by have := HBIG.out; omega) ((i : Int) - 1)).rounds
     have HCN := Aside0.mk hf1
     clear hf1
     go_wp2_with fail
     by_cases hin : ((i : Int) - 1) ∈ tr
     ·
      rw [decide_eq_true hin] at HCN
      rw [if_neg (fun q => q.elim (by omega) (fun n => n hin))] at HT0
      have HT := Aside0.mk HT0
      clear HT0
      refine (slices_Contains_int_int.calls k1 At ct tr ((i : Int) - 1) true _ (HKC.out _ HKr.out) Hct.out HCN.out).mono ?_
      rintro e wq ⟨rfl, hb⟩
      replace hb := hb.below
      go_wp2
      go_roundg (l1.length + 1 - (i + 1))
      case measure => omega
      case rel => exact ⟨i + 1, v', s', by omega, by omega, by go_num, ⟨HBr.out.trans (hb.mono HBr.out.size)⟩, ⟨Kept.then_ (S := Two Bs Bl) HKr.out (Kept.of_below hb (fun _ => False)) (fun _ h => h.elim)⟩, ⟨HSr.out.below hb⟩, ⟨by rw [show l1.length + 1 - (i + 1) = d from by omega]; exact HT.out⟩⟩
     ·
      rw [decide_eq_false hin] at HCN
      rw [if_pos (.inr hin)] at HT0
      obtain ⟨s2, hf, ht⟩ := Option.bind_eq_some_iff.1 HT0
      have HF := Aside0.mk hf
      have HT := Aside0.mk ht
      clear hf ht HT0
      refine (slices_Contains_int_int.calls k1 At ct tr ((i : Int) - 1) false _ (HKC.out _ HKr.out) Hct.out HCN.out).mono ?_
      rintro e wq ⟨rfl, hb⟩
      replace hb := hb.below
      have HBq := Aside0.mk (HBr.out.trans (hb.mono HBr.out.size))
      have HKq := Aside0.mk (Kept.then_ (S := Two Bs Bl) HKr.out (Kept.of_below hb (fun _ => False)) (fun _ h => h.elim))
      have HKq1 := Aside0.mk (Kept.then_ (S := Two Bs Bl) HKr1.out (Kept.of_below hb (fun _ => False)) (fun _ h => h.elim))
      have HSq := Aside0.mk (HSr.out.below hb)
      have HCq := Aside0.mk (HKC.out _ HKq.out)
      replace cE : wq.cell? ⟨Be, 0, none⟩ = some (.func (.func 62) #[] #[.pointer (some ⟨Ba, 0, none⟩), .pointer (some ⟨Bb, 0, none⟩), .pointer (some ⟨Bp, 0, none⟩), .pointer (some ⟨Bl, 0, none⟩), .pointer (some ⟨Bs, 0, none⟩), .pointer (some ⟨Be, 0, none⟩)]) := blk_cell (ENV.out wq HKq1.out).2.2.2 0
      clear hb cB
      go_wp2_with fail
      obtain ⟨y, hy⟩ : ∃ y, y = tr ++ [(i : Int) - 1] := ⟨_, rfl⟩
      have NY := Aside0.mk hy
      clear hy
      have HBd := Aside0.mk (below_drew (Below.refl wq.heap.size wq))
      refine start_ (n := 7) (S := fun w' => w'.cell? ⟨Be, 0, none⟩ = some (.func (.func 62) #[] #[.pointer (some ⟨Ba, 0, none⟩), .pointer (some ⟨Bb, 0, none⟩), .pointer (some ⟨Bp, 0, none⟩), .pointer (some ⟨Bl, 0, none⟩), .pointer (some ⟨Bs, 0, none⟩), .pointer (some ⟨Be, 0, none⟩)])) (ds := []) #[false, false, false, false, false, false, false] (by kernel_rfl) rfl rfl (show wq.drew.cell? ⟨Be, 0, none⟩ = _ from cE) (fun hHeld => ?_)
      refine with_tabW impl_bestTracking.c.tab8 impl_bestTracking.c.bits8 (fun HT_ HW_ => ?_)
      generalize wq.drew = wd at HBd hHeld ⊢
      refine pure_ (i := 1) (N := some 45) (v := ?_) (a' := ?_) #[false, true, false, false, false, false, false] rfl rfl (any_of HT_.out (by kernel_rfl)) (fun _ _ _ h => h) (Or.inl ⟨by rfl, ?_⟩) ?_ ?_
      rotate_left
      ·
       intro w'
       go_simp
       with_reducible rfl
      rotate_left
      ·
       simp only [Act.put, List.setIfInBounds_toArray, List.set_cons_zero, List.set_cons_succ, i64_w, i32_w]
       rfl
      refine pure_ (i := 3) (N := some 47) (v := ?_) (a' := ?_) #[false, true, false, true, false, false, false] rfl rfl (any_of HT_.out (by kernel_rfl)) (fun _ _ _ h => h) (Or.inl ⟨by rfl, ?_⟩) ?_ ?_
      rotate_left
      ·
       intro w'
       go_simp
       with_reducible rfl
      rotate_left
      ·
       simp only [Act.put, List.setIfInBounds_toArray, List.set_cons_zero, List.set_cons_succ, i64_w, i32_w]
       rfl
      refine take_ (i := 0) (N := some 44) (v := ?_) (a' := ?_) #[true, true, false, true, false, false, false] rfl rfl (take_ofW HT_.out HW_.out (by kernel_rfl)) (fun _ _ _ h => h) (Or.inl ⟨by rfl, ?_⟩) hHeld ?_ ?_
      rotate_left
      ·
       rintro w' s0
       go_simp
       with_reducible rfl
      rotate_left
      ·
       simp only [Act.put, List.setIfInBounds_toArray, List.set_cons_zero, List.set_cons_succ, i64_w, i32_w]
       rfl
      refine join_ (σ := Value × Value) 2 #[true, true, true, true, true, false, false] (fun s_ => [(46, s_.1), (48, s_.2)]) (fun s_ w' => w'.cell? ⟨Be, 0, none⟩ = some (.func (.func 62) #[] #[.pointer (some ⟨Ba, 0, none⟩), .pointer (some ⟨Bb, 0, none⟩), .pointer (some ⟨Bp, 0, none⟩), .pointer (some ⟨Bl, 0, none⟩), .pointer (some ⟨Bs, 0, none⟩), .pointer (some ⟨Be, 0, none⟩)]) ∧ Kd.R (Kd.int .i64) 3 w' wq.heap.size (fun _ => True) s_.1 tr ∧ Kd.R (Kd.int .i64) 3 w' wq.heap.size (fun _ => True) s_.2 [(i : Int) - 1] ∧ Below wq.heap.size wq w') ?_ ?_
      rotate_left
      ·
       intro hCont
       refine two_ (i := 2) (j := 4) (Ni := some 46) (Nj := some 48) #[true, true, true, true, false, false, false] #[true, true, false, true, true, false, false] rfl rfl rfl rfl (by kernel_rfl) (by decide) (by decide) (fun K hK => ?_) (fun K hK => ?_)
       ·
        refine goes_ Try.func63 (by kernel_rfl) rfl #[.slice At tr.length ct] (by rfl) rfl rfl (by (try simp only [List.map_toArray, List.map_cons, List.map_nil]); first | done | rfl) ?_
        refine (slices_Clone_int_int.calls At ct tr tr _ (C_keepI HCq.out HBd.out) Hct.out (if_pos HBIG.out)).mono ?_
        rintro e wc ⟨vc, rfl, hoc, hb⟩
        refine ⟨_, rfl, ?_⟩
        have HOc := Aside0.mk (Kd.R_lower hoc HBd.out.size)
        have HBc := Aside0.mk (HBd.out.trans (hb.mono HBd.out.size))
        refine hK.out _ _ ((hb.cell (World.block_lt_of_cell? _ _ hHeld)).trans hHeld) (fun hHeld => ?_)
        clear hK K hoc hb
        refine norm_ (a' := ?_) ?_ ?_
        rotate_left
        ·
         show Act.put _ (some 46) _ = _
         simp only [Act.put, List.setIfInBounds_toArray, List.set_cons_zero, List.set_cons_succ, i64_w, i32_w]
         rfl
        refine one_ (i := 4) (N := some 48) #[true, true, true, true, true, false, false] rfl rfl (by kernel_rfl) (by decide) (fun K hK => ?_)
        refine Kd.R_lit_step (Kd.int .i64) _ 3 ?hg (N := 48) ?hd (xs := [(i : Int) - 1]) (inner := [.int .i64 ((i : Int) - 1)]) (ok := fun _ => True) (okp := fun _ => True) ?hr ?hp (fun _ hk => hk) trivial (Below.refl _ _) (Nat.le_refl _) (by simp) ?_
        case hd => rfl
        case hg => rfl
        case hr => first | (go_simp; done) | (go_simp; rfl)
        case hp => exact repsOne _
        intro vk wk hok hb _ _
        have HOc2 := Aside0.mk (Kd.R_below HOc.out hb)
        have HBk := Aside0.mk (HBc.out.trans (hb.mono HBc.out.size))
        have HOk := Aside0.mk (Kd.R_lower hok HBc.out.size)
        refine hK.out _ _ ((hb.cell (World.block_lt_of_cell? _ _ hHeld)).trans hHeld) (fun hHeld => ?_)
        clear hK K hok hb
        refine norm_ (a' := ?_) ?_ ?_
        rotate_left
        ·
         show Act.put _ (some 48) _ = _
         simp only [Act.put, List.setIfInBounds_toArray, List.set_cons_zero, List.set_cons_succ, i64_w, i32_w]
         rfl
        exact norm_ (by simp only [putAll, Act.put, List.setIfInBounds_toArray, List.set_cons_zero, List.set_cons_succ]) (hCont (vc, vk) _ ⟨hHeld, HOc2.out, HOk.out, HBk.out⟩)
       ·
        skip
        refine Kd.R_lit_step (Kd.int .i64) _ 3 ?hg (N := 48) ?hd (xs := [(i : Int) - 1]) (inner := [.int .i64 ((i : Int) - 1)]) (ok := fun _ => True) (okp := fun _ => True) ?hr ?hp (fun _ hk => hk) trivial (Below.refl _ _) (Nat.le_refl _) (by simp) ?_
        case hd => rfl
        case hg => rfl
        case hr => first | (go_simp; done) | (go_simp; rfl)
        case hp => exact repsOne _
        intro vk wk hok hb _ _
        have HBk := Aside0.mk (HBd.out.trans (hb.mono HBd.out.size))
        have HOk := Aside0.mk (Kd.R_lower hok HBd.out.size)
        refine hK.out _ _ ((hb.cell (World.block_lt_of_cell? _ _ hHeld)).trans hHeld) (fun hHeld => ?_)
        clear hK K hok hb
        refine norm_ (a' := ?_) ?_ ?_
        rotate_left
        ·
         show Act.put _ (some 48) _ = _
         simp only [Act.put, List.setIfInBounds_toArray, List.set_cons_zero, List.set_cons_succ, i64_w, i32_w]
         rfl
        refine one_ (i := 2) (N := some 46) #[true, true, true, true, true, false, false] rfl rfl (by kernel_rfl) (by decide) (fun K hK => ?_)
        refine goes_ Try.func63 (by kernel_rfl) rfl #[.slice At tr.length ct] (by rfl) rfl rfl (by (try simp only [List.map_toArray, List.map_cons, List.map_nil]); first | done | rfl) ?_
        refine (slices_Clone_int_int.calls At ct tr tr _ (C_keepI HCq.out HBk.out) Hct.out (if_pos HBIG.out)).mono ?_
        rintro e wc ⟨vc, rfl, hoc, hb⟩
        refine ⟨_, rfl, ?_⟩
        have HOc := Aside0.mk (Kd.R_lower hoc HBk.out.size)
        have HBc := Aside0.mk (HBk.out.trans (hb.mono HBk.out.size))
        have HOk2 := Aside0.mk (Kd.R_below HOk.out hb)
        refine hK.out _ _ ((hb.cell (World.block_lt_of_cell? _ _ hHeld)).trans hHeld) (fun hHeld => ?_)
        clear hK K hoc hb
        refine norm_ (a' := ?_) ?_ ?_
        rotate_left
        ·
         show Act.put _ (some 46) _ = _
         simp only [Act.put, List.setIfInBounds_toArray, List.set_cons_zero, List.set_cons_succ, i64_w, i32_w]
         rfl
        exact norm_ (by simp only [putAll, Act.put, List.setIfInBounds_toArray, List.set_cons_zero, List.set_cons_succ]) (hCont (vc, vk) _ ⟨hHeld, HOc.out, HOk2.out, HBc.out⟩)
      rintro ⟨vc, vk⟩ wj ⟨hS_, h0_, h1_, h2_⟩
      have HOc : Aside0 (Kd.R (Kd.int .i64) 3 wj wq.heap.size (fun _ => True) vc tr) := ⟨h0_⟩
      have HOk : Aside0 (Kd.R (Kd.int .i64) 3 wj wq.heap.size (fun _ => True) vk [(i : Int) - 1]) := ⟨h1_⟩
      have HBj : Aside0 (Below wq.heap.size wq wj) := ⟨h2_⟩
      have hHeld : wj.cell? ⟨Be, 0, none⟩ = some (.func (.func 62) #[] #[.pointer (some ⟨Ba, 0, none⟩), .pointer (some ⟨Bb, 0, none⟩), .pointer (some ⟨Bp, 0, none⟩), .pointer (some ⟨Bl, 0, none⟩), .pointer (some ⟨Bs, 0, none⟩), .pointer (some ⟨Be, 0, none⟩)]) := hS_
      clear h0_ h1_ h2_ hS_
      obtain ⟨Ak, ck, eo⟩ := Kd.R_slice HOk.out
      subst eo
      refine norm_ (a' := ?_) ?_ ?_
      rotate_left
      ·
       simp only [putAll, Act.put, List.setIfInBounds_toArray, List.set_cons_zero, List.set_cons_succ]
       rfl
      refine one_ (i := 5) (N := some 49) #[true, true, true, true, true, true, false] rfl rfl (by kernel_rfl) (by decide) (fun K hK => ?_)
      refine Kd.R_append_rows_step (Kd.int .i64) wq.heap.size (by rfl) (.tmp 46) (.tmp 48) 25 3 (.int .i64 0) 8 rfl Try.underlying25 info3 rfl (by decide) (by omega) vc tr [(i : Int) - 1] _ _ _ (fun _ => True) (fun _ => False) rfl rfl ?aO ?aR (fun _ _ h => h) (fun _ h => h.elim) ?aF HBj.out ?aS ?aL ?_
      case aO => exact HOc.out
      case aR => exact (Kd.R_reads' HOk.out).2.2
      case aF => exact fun _ _ => trivial
      case aS => exact HBj.out.size
      case aL => have := HBIG.out; simp only [List.length_singleton]; omega
      intro v3 w3 ho hb hg hat
      rw [← NY.out] at ho
      have HO3 := Aside0.mk ho
      have HB3 := Aside0.mk hb
      clear ho hb hg hat
      obtain ⟨Ao, co, eo⟩ := Kd.R_slice HO3.out
      subst eo
      have hHeld3 : w3.cell? ⟨Be, 0, none⟩ = some (.func (.func 62) #[] #[.pointer (some ⟨Ba, 0, none⟩), .pointer (some ⟨Bb, 0, none⟩), .pointer (some ⟨Bp, 0, none⟩), .pointer (some ⟨Bl, 0, none⟩), .pointer (some ⟨Bs, 0, none⟩), .pointer (some ⟨Be, 0, none⟩)]) := (HB3.out.cell (World.block_lt_of_cell? _ _ cE)).trans cE
      clear hHeld
      refine hK.out _ _ hHeld3 (fun hHeld => ?_)
      clear hK K hHeld3
      refine norm_ (a' := ?_) ?_ ?_
      rotate_left
      ·
       show Act.put _ (some 49) _ = _
       simp only [Act.put, List.setIfInBounds_toArray, List.set_cons_zero, List.set_cons_succ, i64_w, i32_w]
       rfl
      refine one_ (i := 6) (N := some 50) #[true, true, true, true, true, true, true] rfl rfl (by kernel_rfl) (by decide) (fun K hK => ?_)
      refine goesV_ EG.out #[.slice Ao y.length co, .pointer (some ⟨Ba, 0, none⟩), .pointer (some ⟨Bb, 0, none⟩), .pointer (some ⟨Bp, 0, none⟩), .pointer (some ⟨Bl, 0, none⟩), .pointer (some ⟨Bs, 0, none⟩), .pointer (some ⟨Be, 0, none⟩)] (by rfl) rfl rfl (by rfl) (by simp only [List.map_toArray, List.map_cons, List.map_nil]; rfl) ?_
      refine (ih y Ao co w3 v' s' s2 (by rw [NY.out, List.length_append, List.length_singleton]; have := HN.out; omega) (Kd.R_reads' HO3.out).2.2 (Kd.R_reads' HO3.out).2.1 ?hne (HBq.out.trans (HB3.out.mono HBq.out.size)) ?hk (HSq.out.below HB3.out) (by rw [NY.out]; exact HF.out)).mono ?_
      case hne =>
       intro ad ea hpos
       have h1 : wq.heap.size ≤ ad.block := Kd.R_base HO3.out ad.block (by rw [ea]; rfl)
       have h2 := HLT.out
       have h3 := HKq1.out.1
       exact ⟨by omega, by omega⟩
      case hk => exact Kept.then_ (S := Two Bs Bl) HKq1.out (Kept.of_below HB3.out (fun _ => False)) (fun _ h => h.elim)
      rintro e w4 ⟨rfl, hb4, hk4, v4, hs4⟩
      refine ⟨_, rfl, ?_⟩
      have HK4 := Aside0.mk (Kept.then_ (S := Two Bs Bl) (Kept.then_ (S := Two Bs Bl) HKq.out (Kept.of_below HB3.out (fun _ => False)) (fun _ h => h.elim)) hk4 (fun _ h => .inl h))
      have HK41 := Aside0.mk (Kept.then_ (S := Two Bs Bl) (Kept.then_ (S := Two Bs Bl) HKq1.out (Kept.of_below HB3.out (fun _ => False)) (fun _ h => h.elim)) hk4 (fun _ h => .inl h))
      have HB4 := Aside0.mk hb4
      have HS4 := Aside0.mk hs4
      clear hb4 hk4 hs4
      have cE4 := blk_cell (ENV.out w4 HK41.out).2.2.2 0
      refine hK.out _ _ cE4 (fun hHeld4 => ?_)
      clear hK K
      refine done_ (done_of HT_.out (by kernel_rfl)) ?_
      clear hHeld hHeld4 cE4 cE HT_ HW_
      go_wp2
      go_roundg (l1.length + 1 - (i + 1))
      case measure => omega
      case rel => exact ⟨i + 1, v4, s2, by omega, by omega, by go_num, HB4, HK4, HS4, ⟨by rw [show l1.length + 1 - (i + 1) = d from by omega]; exact HT.out⟩⟩
   ·
    have hltz : ((i : Int) - 1 < (l1.length : Int)) = False := eq_false (by omega)
    have HT0 := HTr.out
    rw [show l1.length + 1 - i = 0 from by omega] at HT0
    have hr : s' = r := Option.some.inj HT0
    subst hr
    clear HT0
    go_wp2
    (try simp only [Exit.inBlock, Exit.then]); first | refine bodyPost_end (results_none rfl _ _ _) rfl ?_ | refine bodyPost_ret (results_none rfl _ _ _) rfl ?_
    exact ⟨rfl, HBr.out, HKr.out, v', HSr.out⟩
theorem rsFunc (P : Program) (w : World) (a : Addr) (m : Mode) (fn : Fn) (first captured : Array Value) : (store a (.func fn first captured) m).run P w = stored P w a (.func fn first captured) m := run_store P w a _ m rfl
attribute [local go_sem] rsFunc
set_option maxHeartbeats 4000000 in
set_option maxRecDepth 100000 in
theorem impl_bestTracking.calls (k : Nat) (A0 : Option Addr) (c0 : Nat) (l0 : List S71) (A1 : Option Addr) (c1 : Nat) (l1 : List S71) (a2 : Int) (r1 : List Int) (r2 : Int) (w : World) (hr0 : Kd.C k71 w A0 l0.length l0) (hc0 : l0.length ≤ c0) (hr1 : Kd.C k71 w A1 l1.length l1) (hc1 : l1.length ≤ c1) (h : impl_bestTracking.f k l0 l1 a2 = some (r1, r2)) :
  Calls Try.prog 41 #[.slice A0 l0.length c0, .slice A1 l1.length c1, .int .i64 a2] w fun e w' => ∃ v0_ : Value, e = .returned (.tuple #[v0_, .int .i64 r2]) ∧ Kd.R (Kd.int .i64) 3 w' w.heap.size (fun _ => True) v0_ r1 ∧ Below w.heap.size w w' := by
 have H := h
 unfold impl_bestTracking.f at H
 split at H
 ·
  rename_i hl
  obtain ⟨W1, hW1⟩ : ∃ W1, W1 = ((((((w.alloc (.cells #[.slice A0 l0.length c0] 24)).alloc (.cells #[.slice A1 l1.length c1] 24)).alloc (.cells #[.int .i64 a2] 3)).alloc (.cells #[.slice none 0 0] 25)).alloc (.cells #[.int .i64 (-1)] 3)).alloc (.cells #[.func (.func 62) #[] #[.pointer (some ⟨w.heap.size, 0, none⟩), .pointer (some ⟨w.heap.size + 1, 0, none⟩), .pointer (some ⟨w.heap.size + 1 + 1, 0, none⟩), .pointer (some ⟨w.heap.size + 1 + 1 + 1 + 1, 0, none⟩), .pointer (some ⟨w.heap.size + 1 + 1 + 1, 0, none⟩), .pointer (some ⟨w.heap.size + 1 + 1 + 1 + 1 + 1, 0, none⟩)]] 89)) := ⟨_, rfl⟩
  have a1B : Below w.heap.size w W1 := by rw [hW1]; repeat (first | exact Below.refl _ _ | apply below_alloc)
  have n0 : W1.heap[w.heap.size]? = some (.cells #[.slice A0 l0.length c0] 24 (0, 0)) := by
   rw [hW1]
   have q := blk_new w (.cells #[.slice A0 l0.length c0] 24)
   have q := blk_alloc q (.cells #[.slice A1 l1.length c1] 24)
   have q := blk_alloc q (.cells #[.int .i64 a2] 3)
   have q := blk_alloc q (.cells #[.slice none 0 0] 25)
   have q := blk_alloc q (.cells #[.int .i64 (-1)] 3)
   have q := blk_alloc q (.cells #[.func (.func 62) #[] #[.pointer (some ⟨w.heap.size, 0, none⟩), .pointer (some ⟨w.heap.size + 1, 0, none⟩), .pointer (some ⟨w.heap.size + 1 + 1, 0, none⟩), .pointer (some ⟨w.heap.size + 1 + 1 + 1 + 1, 0, none⟩), .pointer (some ⟨w.heap.size + 1 + 1 + 1, 0, none⟩), .pointer (some ⟨w.heap.size + 1 + 1 + 1 + 1 + 1, 0, none⟩)]] 89)
   simpa using q
  have n1 : W1.heap[w.heap.size + 1]? = some (.cells #[.slice A1 l1.length c1] 24 (0, 0)) := by
   rw [hW1]
   have q := blk_new (w.alloc (.cells #[.slice A0 l0.length c0] 24)) (.cells #[.slice A1 l1.length c1] 24)
   have q := blk_alloc q (.cells #[.int .i64 a2] 3)
   have q := blk_alloc q (.cells #[.slice none 0 0] 25)
   have q := blk_alloc q (.cells #[.int .i64 (-1)] 3)
   have q := blk_alloc q (.cells #[.func (.func 62) #[] #[.pointer (some ⟨w.heap.size, 0, none⟩), .pointer (some ⟨w.heap.size + 1, 0, none⟩), .pointer (some ⟨w.heap.size + 1 + 1, 0, none⟩), .pointer (some ⟨w.heap.size + 1 + 1 + 1 + 1, 0, none⟩), .pointer (some ⟨w.heap.size + 1 + 1 + 1, 0, none⟩), .pointer (some ⟨w.heap.size + 1 + 1 + 1 + 1 + 1, 0, none⟩)]] 89)
   simpa using q
  have n2 : W1.heap[w.heap.size + 1 + 1]? = some (.cells #[.int .i64 a2] 3 (0, 0)) := by
   rw [hW1]
   have q := blk_new ((w.alloc (.cells #[.slice A0 l0.length c0] 24)).alloc (.cells #[.slice A1 l1.length c1] 24)) (.cells #[.int .i64 a2] 3)
   have q := blk_alloc q (.cells #[.slice none 0 0] 25)
   have q := blk_alloc q (.cells #[.int .i64 (-1)] 3)
   have q := blk_alloc q (.cells #[.func (.func 62) #[] #[.pointer (some ⟨w.heap.size, 0, none⟩), .pointer (some ⟨w.heap.size + 1, 0, none⟩), .pointer (some ⟨w.heap.size + 1 + 1, 0, none⟩), .pointer (some ⟨w.heap.size + 1 + 1 + 1 + 1, 0, none⟩), .pointer (some ⟨w.heap.size + 1 + 1 + 1, 0, none⟩), .pointer (some ⟨w.heap.size + 1 + 1 + 1 + 1 + 1, 0, none⟩)]] 89)
   simpa using q
  have n3 : W1.heap[w.heap.size + 1 + 1 + 1]? = some (.cells #[.slice none 0 0] 25 (0, 0)) := by
   rw [hW1]
   have q := blk_new (((w.alloc (.cells #[.slice A0 l0.length c0] 24)).alloc (.cells #[.slice A1 l1.length c1] 24)).alloc (.cells #[.int .i64 a2] 3)) (.cells #[.slice none 0 0] 25)
   have q := blk_alloc q (.cells #[.int .i64 (-1)] 3)
   have q := blk_alloc q (.cells #[.func (.func 62) #[] #[.pointer (some ⟨w.heap.size, 0, none⟩), .pointer (some ⟨w.heap.size + 1, 0, none⟩), .pointer (some ⟨w.heap.size + 1 + 1, 0, none⟩), .pointer (some ⟨w.heap.size + 1 + 1 + 1 + 1, 0, none⟩), .pointer (some ⟨w.heap.size + 1 + 1 + 1, 0, none⟩), .pointer (some ⟨w.heap.size + 1 + 1 + 1 + 1 + 1, 0, none⟩)]] 89)
   simpa using q
  have n4 : W1.heap[w.heap.size + 1 + 1 + 1 + 1]? = some (.cells #[.int .i64 (-1)] 3 (0, 0)) := by
   rw [hW1]
   have q := blk_new ((((w.alloc (.cells #[.slice A0 l0.length c0] 24)).alloc (.cells #[.slice A1 l1.length c1] 24)).alloc (.cells #[.int .i64 a2] 3)).alloc (.cells #[.slice none 0 0] 25)) (.cells #[.int .i64 (-1)] 3)
   have q := blk_alloc q (.cells #[.func (.func 62) #[] #[.pointer (some ⟨w.heap.size, 0, none⟩), .pointer (some ⟨w.heap.size + 1, 0, none⟩), .pointer (some ⟨w.heap.size + 1 + 1, 0, none⟩), .pointer (some ⟨w.heap.size + 1 + 1 + 1 + 1, 0, none⟩), .pointer (some ⟨w.heap.size + 1 + 1 + 1, 0, none⟩), .pointer (some ⟨w.heap.size + 1 + 1 + 1 + 1 + 1, 0, none⟩)]] 89)
   simpa using q
  have n5 : W1.heap[w.heap.size + 1 + 1 + 1 + 1 + 1]? = some (.cells #[.func (.func 62) #[] #[.pointer (some ⟨w.heap.size, 0, none⟩), .pointer (some ⟨w.heap.size + 1, 0, none⟩), .pointer (some ⟨w.heap.size + 1 + 1, 0, none⟩), .pointer (some ⟨w.heap.size + 1 + 1 + 1 + 1, 0, none⟩), .pointer (some ⟨w.heap.size + 1 + 1 + 1, 0, none⟩), .pointer (some ⟨w.heap.size + 1 + 1 + 1 + 1 + 1, 0, none⟩)]] 89 (0, 0)) := by
   rw [hW1]
   have q := blk_new (((((w.alloc (.cells #[.slice A0 l0.length c0] 24)).alloc (.cells #[.slice A1 l1.length c1] 24)).alloc (.cells #[.int .i64 a2] 3)).alloc (.cells #[.slice none 0 0] 25)).alloc (.cells #[.int .i64 (-1)] 3)) (.cells #[.func (.func 62) #[] #[.pointer (some ⟨w.heap.size, 0, none⟩), .pointer (some ⟨w.heap.size + 1, 0, none⟩), .pointer (some ⟨w.heap.size + 1 + 1, 0, none⟩), .pointer (some ⟨w.heap.size + 1 + 1 + 1 + 1, 0, none⟩), .pointer (some ⟨w.heap.size + 1 + 1 + 1, 0, none⟩), .pointer (some ⟨w.heap.size + 1 + 1 + 1 + 1 + 1, 0, none⟩)]] 89)
   simpa using q
  have hsz : W1.heap.size = w.heap.size + 6 := by rw [hW1]; simp
  have HW := Aside0.mk hW1
  have HBW := Aside0.mk a1B
  have HSZ := Aside0.mk hsz
  have HX := Aside0.mk (impl_bestTracking.ext k l0 l1 a2 A0 A1 c0 c1 w W1 (w.heap.size) (w.heap.size + 1) (w.heap.size + 1 + 1) (w.heap.size + 1 + 1 + 1) (w.heap.size + 1 + 1 + 1 + 1) (w.heap.size + 1 + 1 + 1 + 1 + 1) _ rfl n0 n1 n2 n5 ⟨by omega, by omega, by omega, by omega, by omega, by omega, by omega, by omega, by omega⟩ ⟨by omega, by omega⟩ ⟨by omega, by omega⟩ hl hr0 hc0 hr1 hc1 l0.length [] none 0 W1 (.slice none 0 0) ([], -1) (r1, r2) (by simp) (Kd.C_nil _ _) (by simp) (fun ad e => by cases e) a1B (Kept.refl _ _) ⟨n3, n4, Kd.R_nil _ _ _ _ _⟩ H)
  clear hW1 a1B n0 n1 n2 n3 n4 n5 hsz hr0 hc0 hr1 hc1 h H hl
  go_enter Try.func41, Try.ntmps41
  go_wp2_with fail
  rw [← HW.out]
  refine HX.out.mono ?_
  rintro e we ⟨rfl, hb, hk, v', hs⟩
  obtain ⟨Av, cv, ev⟩ := Kd.R_slice hs.2.2
  subst ev
  have HB := Aside0.mk (below_drew hb)
  have HR := Aside0.mk (Kd.R_drew hs.2.2)
  have d0 : we.cell? ⟨w.heap.size + 1 + 1 + 1, 0, none⟩ = some (.slice Av r1.length cv) := blk_cell hs.1 0
  have d1 : we.cell? ⟨w.heap.size + 1 + 1 + 1 + 1, 0, none⟩ = some (.int .i64 r2) := blk_cell hs.2.1 0
  clear hb hk hs
  go_wp2_with fail
  refine start_ (n := 4) (S := fun w' => w'.cell? ⟨w.heap.size + 1 + 1 + 1, 0, none⟩ = some (.slice Av r1.length cv) ∧ w'.cell? ⟨w.heap.size + 1 + 1 + 1 + 1, 0, none⟩ = some (.int .i64 r2)) (ds := []) #[false, false, false, false] (by kernel_rfl) rfl rfl ⟨(show we.drew.cell? _ = _ from d0), (show we.drew.cell? _ = _ from d1)⟩ (fun hHeld => ?_)
  refine with_tabW impl_bestTracking.d.tab6 impl_bestTracking.d.bits6 (fun HT_ HW_ => ?_)
  generalize we.drew = w1 at HB HR hHeld ⊢
  refine take_ (i := 0) (N := some 14) (v := ?_) (a' := ?_) #[true, false, false, false] rfl rfl (take_ofW HT_.out HW_.out (by kernel_rfl)) (fun _ _ _ h => h) (Or.inl ⟨by rfl, ?_⟩) hHeld ?_ ?_
  rotate_left
  ·
   rintro w' ⟨s0, s1⟩
   go_simp
   with_reducible rfl
  rotate_left
  ·
   simp only [Act.put, List.setIfInBounds_toArray, List.set_cons_zero, List.set_cons_succ, i64_w, i32_w]
   rfl
  refine pure_ (i := 2) (N := some 6) (v := ?_) (a' := ?_) #[true, false, true, false] rfl rfl (any_of HT_.out (by kernel_rfl)) (fun _ _ _ h => h) (Or.inl ⟨by rfl, ?_⟩) ?_ ?_
  rotate_left
  ·
   intro w'
   go_simp
   with_reducible rfl
  rotate_left
  ·
   simp only [Act.put, List.setIfInBounds_toArray, List.set_cons_zero, List.set_cons_succ, i64_w, i32_w]
   rfl
  refine take_ (i := 1) (N := some 15) (v := ?_) (a' := ?_) #[true, true, true, false] rfl rfl (take_ofW HT_.out HW_.out (by kernel_rfl)) (fun _ _ _ h => h) (Or.inl ⟨by rfl, ?_⟩) hHeld ?_ ?_
  rotate_left
  ·
   rintro w' ⟨s0, s1⟩
   go_simp
   with_reducible rfl
  rotate_left
  ·
   simp only [Act.put, List.setIfInBounds_toArray, List.set_cons_zero, List.set_cons_succ, i64_w, i32_w]
   rfl
  refine pure_ (i := 3) (N := some 7) (v := ?_) (a' := ?_) #[true, true, true, true] rfl rfl (any_of HT_.out (by kernel_rfl)) (fun _ _ _ h => h) (Or.inl ⟨by rfl, ?_⟩) ?_ ?_
  rotate_left
  ·
   intro w'
   go_simp
   with_reducible rfl
  rotate_left
  ·
   simp only [Act.put, List.setIfInBounds_toArray, List.set_cons_zero, List.set_cons_succ, i64_w, i32_w]
   rfl
  refine done_ (done_of HT_.out (by kernel_rfl)) ?_
  go_wp2
  go_ret2
  exact ⟨_, rfl, Kd.R_mono (Kd.R_lower HR.out HBW.out.size) (fun _ _ => trivial), HB.out⟩
 ·
  cases H

end Go.Proofs.Ytjidofgojijolaa.Q
namespace Go.Proofs.Ytjidofgojijolaa.Q
open Go.RowKit Go.Proofs.YtjidofgojijolaaW.PrintWords Go.Proofs.YtjidofgojijolaaW.PrintLast Go.Proofs.YtjidofgojijolaaW.PrintMore
attribute [local go_sem] max2_int min2_int max_two min_two max_three min_three max_four min_four   -- for this text's walks alone
set_option linter.unusedVariables false
set_option linter.unusedSimpArgs false

/-! ### impl_Storm_73: function 73 -/
theorem IndexFuncL.calls (g : Nat) (lb : Array Value) (p : List S71 → Bool) (eg : ∀ args w, (callFunc g args).run Try.prog w = .ok (.enter g args) w)
  (A0 : Option Addr) (n0 c0 : Nat) (l0 : List (List S71)) (w : World) (hn : n0 = l0.length) (hr0 : Kd.C (Kd.slice 71 k71) w A0 l0.length l0) (hc0 : l0.length ≤ c0)
  (hp : ∀ (W : World) (A : Option Addr) (c : Nat) (x : List S71), Below w.heap.size w W → Kd.C k71 W A x.length x → x.length ≤ c → Calls Try.prog g (#[.slice A x.length c] ++ lb) W fun e w' => e = .returned (.bool (p x)) ∧ Below W.heap.size W w') :
  Calls Try.prog 73 #[.slice A0 n0 c0, .func (.func g) #[] lb] w fun e w' => e = .returned (.int .i64 (Gen.fIdx p l0)) ∧ Below w.heap.size w w' := by
 subst hn
 have HR0 := Aside0.mk hr0
 have HP := Aside0.mk hp
 have hbig : l0.length ≤ 9223372036854775807 := hr0.2.1
 clear hr0 hp hc0
 go_enter Try.func73, Try.ntmps73
 go_wp2
 go_loopg [5, 8] l0.length (fun gg _ s8 wr => ∃ kk : Nat, kk ≤ l0.length ∧ l0.length - kk ≤ gg ∧ s8 = .int .i64 kk ∧ Aside0 (Below w.heap.size w wr) ∧ Aside0 (∀ j, j < kk → p (l0.getD j []) = false))
 case atStart => exact ⟨0, Nat.zero_le _, by omega, rfl, ⟨Below.refl _ w⟩, ⟨fun j hj => absurd hj (Nat.not_lt_zero _)⟩⟩
 case round =>
  obtain ⟨kk, hkk, hg, rfl, BW, AN⟩ := hrel
  by_cases hlt : kk < l0.length
  ·
   have hltz : (kk : Int) < (l0.length : Int) := by omega
   obtain ⟨ad, Ai, ci, e0, hx0, hl0, hc1⟩ := at_L3 HR0.out (kk : Int) (by omega) hltz
   cases e0
   rw [show rd_L3 l0 (kk : Int) = l0.getD kk [] from rfl] at hx0 hl0 hc1
   rw [Int.toNat_natCast] at hx0
   generalize hy : l0.getD kk [] = y at hx0 hl0 hc1
   have B := Aside0.mk hy
   clear hy
   replace hx0 := (BW.out.cell (World.block_lt_of_cell? w _ hx0)).trans hx0
   have hcall := HP.out wr Ai ci y BW.out (Kd.C_below hc1 BW.out) hl0
   clear hl0 hc1
   cases hq : p y with
   | true =>
    rw [hq] at hcall
    go_wp2_with (go_at_fn g; refine hcall.mono ?_; rintro e w' ⟨rfl, hb'⟩)
    go_ret
    refine ⟨?_, BW.out.trans (hb'.mono BW.out.size)⟩
    rw [Gen.fIdx_hit p l0 [] kk hlt (by rw [B.out]; exact hq) AN.out]
    rfl
   | false =>
    rw [hq] at hcall
    go_wp2_with (go_at_fn g; refine hcall.mono ?_; rintro e w' ⟨rfl, hb'⟩)
    go_roundg (l0.length - (kk + 1))
    case measure => omega
    case rel =>
     refine ⟨kk + 1, by omega, by omega, by go_num, ⟨BW.out.trans (hb'.mono BW.out.size)⟩, ⟨fun j hj => ?_⟩⟩
     by_cases e : j = kk
     ·
      subst e
      rw [B.out]; exact hq
     ·
      exact AN.out j (by omega)
  ·
   have hltz : ¬ (kk : Int) < (l0.length : Int) := by omega
   have : kk = l0.length := by omega
   subst this
   go_wp2
   go_ret
   refine ⟨?_, BW.out⟩
   rw [Gen.fIdx_miss p l0 [] AN.out]
   rfl

end Go.Proofs.Ytjidofgojijolaa.Q
namespace Go.Proofs.Ytjidofgojijolaa.Q
open Go.RowKit Go.Proofs.YtjidofgojijolaaW.PrintWords Go.Proofs.YtjidofgojijolaaW.PrintLast Go.Proofs.YtjidofgojijolaaW.PrintMore
attribute [local go_sem] max2_int min2_int max_two min_two max_three min_three max_four min_four   -- for this text's walks alone
set_option linter.unusedVariables false
set_option linter.unusedSimpArgs false

/-! ### impl_Storm_67: function 67 -/
theorem ContainsFuncL.calls (g : Nat) (lb : Array Value) (p : List S71 → Bool) (eg : ∀ args w, (callFunc g args).run Try.prog w = .ok (.enter g args) w)
  (A0 : Option Addr) (n0 c0 : Nat) (l0 : List (List S71)) (w : World) (hn : n0 = l0.length) (hr0 : Kd.C (Kd.slice 71 k71) w A0 l0.length l0) (hc0 : l0.length ≤ c0)
  (hp : ∀ (W : World) (A : Option Addr) (c : Nat) (x : List S71), Below w.heap.size w W → Kd.C k71 W A x.length x → x.length ≤ c → Calls Try.prog g (#[.slice A x.length c] ++ lb) W fun e w' => e = .returned (.bool (p x)) ∧ Below W.heap.size W w') :
  Calls Try.prog 67 #[.slice A0 n0 c0, .func (.func g) #[] lb] w fun e w' => e = .returned (.bool (l0.any p)) ∧ Below w.heap.size w w' := by
 subst hn
 rw [← Gen.fIdx_nonneg p l0]
 have HC := Aside0.mk (IndexFuncL.calls g lb p eg A0 _ c0 l0 w rfl hr0 hc0 hp)
 clear hr0 hp hc0
 go_enter Try.func67, Try.ntmps67
 go_wp2_with (go_at_call 73; refine HC.out.mono ?_; rintro e w' ⟨rfl, hb'⟩)
 go_ret
 exact ⟨rfl, hb'⟩

end Go.Proofs.Ytjidofgojijolaa.Q
namespace Go.Proofs.Ytjidofgojijolaa.Q
open Go.RowKit Go.Proofs.YtjidofgojijolaaW.PrintWords Go.Proofs.YtjidofgojijolaaW.PrintLast Go.Proofs.YtjidofgojijolaaW.PrintMore
attribute [local go_sem] max2_int min2_int max_two min_two max_three min_three max_four min_four   -- for this text's walks alone
set_option linter.unusedVariables false
set_option linter.unusedSimpArgs false

/-! ### impl_trackingsOf: function 50 -/
-- called: 67 35 40 41
def impl_trackingsOf.c.T7 : Bool × List (List Nat × List Nat) := (true, [([], []), ([], []), ([1], [1]), ([0, 2], [0, 2]), ([3], [3]), ([], []), ([], []), ([5, 6], [5, 6]), ([7], [7]), ([], []), ([4, 8, 9], [4, 8, 9]), ([10], [10]), ([11], [11]), ([11], [11]), ([12, 10, 0, 1, 2, 3, 4, 5, 6, 7, 8, 9, 10, 11, 12], [12]), ([13, 14, 0, 1, 2, 3, 4, 5, 6, 7, 8, 9, 10, 11, 12, 13, 14], [13])])
def impl_trackingsOf.c.B7 : List Nat := [0, 0, 2, 7, 15, 0, 0, 96, 224, 0, 1023, 2047, 4095, 4095, 8191, 32767]
theorem impl_trackingsOf.c.tab7 : rtab .any (opsOf Try.f50 7) = impl_trackingsOf.c.T7 := by kernel_rfl
theorem impl_trackingsOf.c.bits7 : waitsOk impl_trackingsOf.c.T7.2 impl_trackingsOf.c.B7 = true := by kernel_rfl
def okL (l : List S71) : Bool := decide (l.length ≤ 5) && !(l.any badS)
/-- The best trackings from each list to the next one. -/
def trL (c : List S71 → List S71 → Option (List Int × Int)) (l0 : List (List S71)) : Nat → Nat → List (List Int) → Option (List (List Int))
 | 0, _, acc => some acc
 | d + 1, i, acc => (c (rd_L3 l0 ((i : Int) - 1)) (rd_L3 l0 (i : Int))).bind fun t => trL c l0 d (i + 1) (acc ++ [t.1])
theorem trL_mono {c e : List S71 → List S71 → Option (List Int × Int)} (h : ∀ x y, LeO (c x y) (e x y)) (l0 : List (List S71)) : ∀ d i acc, LeO (trL c l0 d i acc) (trL e l0 d i acc)
 | 0, _, _ => LeO.refl _
 | d + 1, i, acc => LeO.bind (h _ _) (fun _ => trL_mono h l0 d _ _)
def impl_trackingsOf.f (k : Nat) (l0 : List (List S71)) (a1 : Int) : Option (List (List Int) × Bool) := if 6 < l0.length then some ([], false) else if (decide (0 ≤ a1 ∧ a1 ≤ 20)) = true then (if (l0.any fun l => !okL l) = true then some ([], false) else (trL (fun x y => impl_bestTracking.f k x y a1) l0 (l0.length - 1) 1 []).bind fun t => some (t, true)) else some ([], false)
theorem impl_trackingsOf.mono : ∀ a0 a1 k, LeO (impl_trackingsOf.f k a0 a1) (impl_trackingsOf.f (k + 1) a0 a1) := fun a b k => by
 unfold impl_trackingsOf.f
 repeat' split
 all_goals first | exact LeO.refl _ | exact LeO.bind (trL_mono (fun x y => impl_bestTracking.mono _ _ _ k) _ _ _ _) (fun _ => LeO.refl _)
set_option maxRecDepth 100000 in
theorem impl_trackingsOf.pred : ∀ (W : World) (A : Option Addr) (c : Nat) (x : List S71), Kd.C k71 W A x.length x → x.length ≤ c → Calls Try.prog 68 (#[.slice A x.length c] ++ #[]) W fun e w' => e = .returned (.bool (!okL x)) ∧ Below W.heap.size W w' := by
 intro W A c x hC hc
 have HC := Aside0.mk hC
 have Hc := Aside0.mk hc
 clear hC hc
 show Calls Try.prog 68 #[.slice A x.length c] W _
 have h : impl_areStorms.f x = some (okL x) := rfl
 have H := Aside0.mk h
 clear h
 generalize okL x = q at H ⊢
 go_enter Try.func68, Try.ntmps68
 go_wp2_with fail
 refine (impl_areStorms.calls A c x q _ HC.out Hc.out H.out).mono ?_
 rintro e w1 ⟨rfl, hb⟩
 go_wp2
 go_ret
 exact ⟨rfl, hb⟩
set_option maxHeartbeats 4000000 in
set_option maxRecDepth 1000000 in
theorem impl_trackingsOf.calls (k : Nat) (A0 : Option Addr) (c0 : Nat) (l0 : List (List S71)) (a1 : Int) (r1 : List (List Int)) (r2 : Bool) (w : World) (hr0 : Kd.C (Kd.slice 71 k71) w A0 l0.length l0) (hc0 : l0.length ≤ c0) (h : impl_trackingsOf.f k l0 a1 = some (r1, r2)) :
  Calls Try.prog 50 #[.slice A0 l0.length c0, .int .i64 a1] w fun e w' => ∃ v0_ : Value, e = .returned (.tuple #[v0_, .bool r2]) ∧ Kd.R (Kd.slice 3 (Kd.int .i64)) 25 w' w.heap.size (fun _ => True) v0_ r1 ∧ Below w.heap.size w w' := by
 have eg : ∀ args w, (callFunc 68 args).run Try.prog w = .ok (.enter 68 args) w := enters_of Try.func68 (by kernel_rfl) rfl
 have EG := Aside0.mk eg
 have HR0 := Aside0.mk hr0
 have HC0 := Aside0.mk hc0
 have hbig : l0.length ≤ 9223372036854775807 := hr0.2.1
 clear eg hr0 hc0
 unfold impl_trackingsOf.f at h
 by_cases c1 : 6 < l0.length
 ·
  rw [if_pos c1] at h
  have c1a : ((l0.length : Int) > 6) = True := eq_true (by omega)
  have c1b : (6 < (l0.length : Int)) = True := eq_true (by omega)
  have c1c : decide (6 < (l0.length : Int)) = true := decide_eq_true (by omega)
  injection h with h
  injection h with h1 h2
  subst h1 h2
  clear c1
  go_enter Try.func50, Try.ntmps50
  go_wp2
  go_ret2
  exact ⟨_, rfl, Kd.R_nil _ _ _ _ _, by first | exact Below.refl _ _ | exact pw_below_drewN (Below.refl _ _) _⟩
 ·
  rw [if_neg c1] at h
  have c1a : ((l0.length : Int) > 6) = False := eq_false (by omega)
  have c1b : (6 < (l0.length : Int)) = False := eq_false (by omega)
  have c1c : decide (6 < (l0.length : Int)) = false := decide_eq_false (by omega)
  have hpen : impl_isPenalty.f a1 = some (decide (0 ≤ a1 ∧ a1 ≤ 20)) := by unfold impl_isPenalty.f; rw [within_f]; rfl
  have hle : l0.length ≤ 6 := by omega
  generalize decide (0 ≤ a1 ∧ a1 ≤ 20) = b at hpen h
  have HPEN := Aside0.mk hpen
  have H := Aside0.mk h
  have HLE := Aside0.mk hle
  clear c1 hpen h hle
  go_enter Try.func50, Try.ntmps50
  go_wp2_with fail
  refine (impl_isPenalty.calls a1 b _ HPEN.out).mono ?_
  rintro e w1 ⟨rfl, hb⟩
  try replace hb := hb.below
  have HB1 := Aside0.mk hb
  clear hb
  cases b with
  | false =>
   have h := H.out
   first | rw [if_neg (by simp)] at h | simp only [if_false] at h
   injection h with h
   injection h with h1 h2
   subst h1 h2
   go_wp2
   go_ret2
   exact ⟨_, rfl, Kd.R_nil _ _ _ _ _, HB1.out⟩
  | true =>
   go_wp2_with fail
   refine (ContainsFuncL.calls 68 #[] (fun l => !okL l) EG.out A0 l0.length c0 l0 _ rfl ?hr1 HC0.out (fun W A c x _ hC hc => impl_trackingsOf.pred W A c x hC hc)).mono ?_
   case hr1 => first | exact Kd.C_below HR0.out HB1.out | exact Kd.C_drew (Kd.C_below HR0.out HB1.out)
   rintro e w2 ⟨rfl, hb⟩
   have HB2 := Aside0.mk (below_step HB1.out hb)
   clear hb
   have h := H.out
   first | rw [if_pos rfl] at h | rw [if_pos trivial] at h
   have HQ := Aside0.mk h
   clear h
   generalize (l0.any fun l => !okL l) = q at HQ ⊢
   cases q with
   | true =>
    have h := HQ.out
    first | rw [if_pos rfl] at h | rw [if_pos trivial] at h
    injection h with h
    injection h with h1 h2
    subst h1 h2
    go_wp2
    go_ret2
    exact ⟨_, rfl, Kd.R_nil _ _ _ _ _, HB2.out⟩
   | false =>
    have h := HQ.out
    first | rw [if_neg (by simp)] at h | simp only [if_false] at h
    obtain ⟨t, ht, h⟩ := Option.bind_eq_some_iff.1 h
    injection h with h
    injection h with h1 h2
    subst h1 h2
    have HT := Aside0.mk ht
    clear ht H HQ
    go_wp2
    go_loopg [7, 6, 8, 9, 22, 23, 24, 25, 26, 27, 28, 29, 30, 31, 32, 33, 34, 35, 36, 37, 38, 39, 40, 41, 42, 43, 44, 45] (l0.length + 1) (fun gg s7 s6 _ _ _ _ _ _ _ _ _ _ _ _ _ _ _ _ _ _ _ _ _ _ _ _ _ _ wr => ∃ (i : Nat) (acc : List (List Int)), 1 ≤ i ∧ l0.length + 1 - i ≤ gg ∧ s7 = .int .i64 (i : Int) ∧ Aside0 (Below w.heap.size w wr) ∧ Aside0 (Kd.R (Kd.slice 3 (Kd.int .i64)) 25 wr w.heap.size (fun _ => True) s6 acc) ∧ Aside0 (acc.length < i) ∧ Aside0 (trL (fun x y => impl_bestTracking.f k x y a1) l0 (l0.length - i) i acc = some t))
    case atStart => exact ⟨1, [], by omega, by omega, by go_num, HB2, ⟨Kd.R_nil _ _ _ _ _⟩, ⟨by simp⟩, HT⟩
    case round =>
     obtain ⟨i, acc, hi, hgg, rfl, HBr, HOr0, HAL, HTr⟩ := hrel
     by_cases hlt : i < l0.length
     ·
      have hltz : ((i : Int) < (l0.length : Int)) = True := eq_true (by omega)
      obtain ⟨d, hd⟩ : ∃ d, l0.length - i = d + 1 := ⟨l0.length - i - 1, by omega⟩
      have ht := HTr.out
      rw [hd] at ht
      unfold trL at ht
      obtain ⟨⟨t1, t2⟩, h1, ht⟩ := Option.bind_eq_some_iff.1 ht
      have HT1 := Aside0.mk h1
      have HT2 := Aside0.mk ht
      clear h1 ht
      obtain ⟨ad, Ax, cx, e0, hx, hlx, hcx⟩ := at_L3 HR0.out ((i : Int) - 1) (by omega) (by omega)
      cases e0
      obtain ⟨ad', Ay, cy, e1, hy, hly, hcy⟩ := at_L3 HR0.out (i : Int) (by omega) (by omega)
      obtain rfl : ad = ad' := by injection e1
      have HCx := Aside0.mk (Kd.C_below hcx HBr.out)
      have HCy := Aside0.mk (Kd.C_below hcy HBr.out)
      have HLx := Aside0.mk hlx
      have HLy := Aside0.mk hly
      replace hx := (HBr.out.cell (World.block_lt_of_cell? w _ hx)).trans hx
      replace hy := (HBr.out.cell (World.block_lt_of_cell? w _ hy)).trans hy
      rw [show ((i : Int) - 1).toNat = i - 1 from by omega] at hx
      rw [Int.toNat_natCast] at hy
      clear hcx hcy hlx hly e1
      have P1 : (0 ≤ (i : Int) - 1) = True := eq_true (by omega)
      have P2 : ((i : Int) - 1 < (l0.length : Int)) = True := eq_true (by omega)
      have WI : wrap64 ((i : Int) - 1) = (i : Int) - 1 := by have := HLE.out; unfold wrap64; omega
      have P4 : (1 ≤ (i : Int)) = True := eq_true (by omega)
      have P5 : (1 ≤ i) = True := eq_true (by omega)
      have P3 : (0 ≤ (i : Int)) = True := eq_true (by omega)
      have HI := Aside0.mk hi
      have HD := Aside0.mk hd
      clear hi hd
      have HB := Aside0.mk (below_drew (Below.refl wr.heap.size wr))
      have HOw := Aside0.mk (Kd.R_drew HOr0.out)
      go_wp2_with fail
      refine start_ (n := 16) (S := fun w' => w'.cell? (ad.add (i - 1)) = some (.slice Ax (rd_L3 l0 ((i : Int) - 1)).length cx) ∧ w'.cell? (ad.add i) = some (.slice Ay (rd_L3 l0 (i : Int)).length cy)) (ds := []) #[false, false, false, false, false, false, false, false, false, false, false, false, false, false, false, false] (by kernel_rfl) rfl rfl ⟨(show wr.drew.cell? _ = _ from hx), (show wr.drew.cell? _ = _ from hy)⟩ (fun hHeld => ?_)
      refine with_tabW impl_trackingsOf.c.tab7 impl_trackingsOf.c.bits7 (fun HT_ HW_ => ?_)
      generalize wr.drew = w1 at HB HOw hHeld ⊢
      refine pure_ (i := 0) (N := some 29) (v := ?_) (a' := ?_) #[true, false, false, false, false, false, false, false, false, false, false, false, false, false, false, false] rfl rfl (any_of HT_.out (by kernel_rfl)) (fun _ _ _ h => h) (Or.inl ⟨by rfl, ?_⟩) ?_ ?_
      rotate_left
      ·
       intro w'
       go_simp
       with_reducible rfl
      rotate_left
      ·
       simp only [Act.put, List.setIfInBounds_toArray, List.set_cons_zero, List.set_cons_succ, i64_w, i32_w]
       rfl
      refine pure_ (i := 1) (N := some 30) (v := ?_) (a' := ?_) #[true, true, false, false, false, false, false, false, false, false, false, false, false, false, false, false] rfl rfl (any_of HT_.out (by kernel_rfl)) (fun _ _ _ h => h) (Or.inl ⟨by rfl, ?_⟩) ?_ ?_
      rotate_left
      ·
       intro w'
       go_simp
       with_reducible rfl
      rotate_left
      ·
       simp only [Act.put, List.setIfInBounds_toArray, List.set_cons_zero, List.set_cons_succ, i64_w, i32_w]
       rfl
      refine pure_ (i := 2) (N := some 31) (v := ?_) (a' := ?_) #[true, true, true, false, false, false, false, false, false, false, false, false, false, false, false, false] rfl rfl (any_of HT_.out (by kernel_rfl)) (fun _ _ _ h => h) (Or.inl ⟨by rfl, ?_⟩) ?_ ?_
      rotate_left
      ·
       intro w'
       go_simp
       with_reducible rfl
      rotate_left
      ·
       simp only [Act.put, List.setIfInBounds_toArray, List.set_cons_zero, List.set_cons_succ, i64_w, i32_w]
       rfl
      refine pure_ (i := 3) (N := some 32) (v := ?_) (a' := ?_) #[true, true, true, true, false, false, false, false, false, false, false, false, false, false, false, false] rfl rfl (any_of HT_.out (by kernel_rfl)) (fun _ _ _ h => h) (Or.inl ⟨by rfl, ?_⟩) ?_ ?_
      rotate_left
      ·
       intro w'
       go_simp
       with_reducible rfl
      rotate_left
      ·
       simp only [Act.put, List.setIfInBounds_toArray, List.set_cons_zero, List.set_cons_succ, i64_w, i32_w]
       rfl
      refine pure_ (i := 5) (N := some 34) (v := ?_) (a' := ?_) #[true, true, true, true, false, true, false, false, false, false, false, false, false, false, false, false] rfl rfl (any_of HT_.out (by kernel_rfl)) (fun _ _ _ h => h) (Or.inl ⟨by rfl, ?_⟩) ?_ ?_
      rotate_left
      ·
       intro w'
       go_simp
       with_reducible rfl
      rotate_left
      ·
       simp only [Act.put, List.setIfInBounds_toArray, List.set_cons_zero, List.set_cons_succ, i64_w, i32_w]
       rfl
      refine pure_ (i := 6) (N := some 35) (v := ?_) (a' := ?_) #[true, true, true, true, false, true, true, false, false, false, false, false, false, false, false, false] rfl rfl (any_of HT_.out (by kernel_rfl)) (fun _ _ _ h => h) (Or.inl ⟨by rfl, ?_⟩) ?_ ?_
      rotate_left
      ·
       intro w'
       go_simp
       with_reducible rfl
      rotate_left
      ·
       simp only [Act.put, List.setIfInBounds_toArray, List.set_cons_zero, List.set_cons_succ, i64_w, i32_w]
       rfl
      refine pure_ (i := 7) (N := some 36) (v := ?_) (a' := ?_) #[true, true, true, true, false, true, true, true, false, false, false, false, false, false, false, false] rfl rfl (any_of HT_.out (by kernel_rfl)) (fun _ _ _ h => h) (Or.inl ⟨by rfl, ?_⟩) ?_ ?_
      rotate_left
      ·
       intro w'
       go_simp
       with_reducible rfl
      rotate_left
      ·
       simp only [Act.put, List.setIfInBounds_toArray, List.set_cons_zero, List.set_cons_succ, i64_w, i32_w]
       rfl
      refine pure_ (i := 9) (N := some 38) (v := ?_) (a' := ?_) #[true, true, true, true, false, true, true, true, false, true, false, false, false, false, false, false] rfl rfl (any_of HT_.out (by kernel_rfl)) (fun _ _ _ h => h) (Or.inl ⟨by rfl, ?_⟩) ?_ ?_
      rotate_left
      ·
       intro w'
       go_simp
       with_reducible rfl
      rotate_left
      ·
       simp only [Act.put, List.setIfInBounds_toArray, List.set_cons_zero, List.set_cons_succ, i64_w, i32_w]
       rfl
      refine take_ (i := 4) (N := some 33) (v := ?_) (a' := ?_) #[true, true, true, true, true, true, true, true, false, true, false, false, false, false, false, false] rfl rfl (take_ofW HT_.out HW_.out (by kernel_rfl)) (fun _ _ _ h => h) (Or.inl ⟨by rfl, ?_⟩) hHeld ?_ ?_
      rotate_left
      ·
       rintro w' ⟨s0, s1⟩
       go_simp
       with_reducible rfl
      rotate_left
      ·
       simp only [Act.put, List.setIfInBounds_toArray, List.set_cons_zero, List.set_cons_succ, i64_w, i32_w]
       rfl
      refine take_ (i := 8) (N := some 37) (v := ?_) (a' := ?_) #[true, true, true, true, true, true, true, true, true, true, false, false, false, false, false, false] rfl rfl (take_ofW HT_.out HW_.out (by kernel_rfl)) (fun _ _ _ h => h) (Or.inl ⟨by rfl, ?_⟩) hHeld ?_ ?_
      rotate_left
      ·
       rintro w' ⟨s0, s1⟩
       go_simp
       with_reducible rfl
      rotate_left
      ·
       simp only [Act.put, List.setIfInBounds_toArray, List.set_cons_zero, List.set_cons_succ, i64_w, i32_w]
       rfl
      refine one_ (i := 10) (N := some 39) #[true, true, true, true, true, true, true, true, true, true, true, false, false, false, false, false] rfl rfl (one_of HT_.out (by kernel_rfl)) (by decide) (fun K hK => ?_)
      refine goes_ Try.func41 (by kernel_rfl) rfl #[.slice Ax (rd_L3 l0 ((i : Int) - 1)).length cx, .slice Ay (rd_L3 l0 (i : Int)).length cy, .int .i64 a1] (by rfl) rfl rfl (by (try simp only [List.map_toArray, List.map_cons, List.map_nil]); first | done | rfl) ?_
      refine (impl_bestTracking.calls k Ax cx (rd_L3 l0 ((i : Int) - 1)) Ay cy (rd_L3 l0 (i : Int)) a1 t1 t2 _ (Kd.C_below HCx.out HB.out) HLx.out (Kd.C_below HCy.out HB.out) HLy.out HT1.out).mono ?_
      rintro e w2 ⟨vt, rfl, hot, hb⟩
      refine ⟨_, rfl, ?_⟩
      have HOt := Aside0.mk hot
      have HOr := Aside0.mk (Kd.R_elder' HOw.out (Kd.R_base hot) hb)
      have HLW := Aside0.mk HB.out.size
      obtain ⟨At, ct, et_⟩ := Kd.R_slice HOt.out
      subst et_
      clear hot HOw
      obtain ⟨s0, s1⟩ := hHeld
      have HB_ := Aside0.mk (HB.out.trans (hb.mono HB.out.size))
      clear HB
      have HB := HB_
      clear HB_
      refine hK.out _ _ ⟨(hb.cell (World.block_lt_of_cell? _ _ s0)).trans s0, (hb.cell (World.block_lt_of_cell? _ _ s1)).trans s1⟩ (fun hHeld => ?_)
      clear hK K hb s0 s1
      refine norm_ (a' := ?_) ?_ ?_
      rotate_left
      ·
       show Act.put _ (some 39) _ = _
       simp only [Act.put, List.setIfInBounds_toArray, List.set_cons_zero, List.set_cons_succ, i64_w, i32_w]
       rfl
      refine pure_ (i := 11) (N := some 28) (v := ?_) (a' := ?_) #[true, true, true, true, true, true, true, true, true, true, true, true, false, false, false, false] rfl rfl (any_of HT_.out (by kernel_rfl)) (fun _ _ _ h => h) (Or.inl ⟨by rfl, ?_⟩) ?_ ?_
      rotate_left
      ·
       intro w'
       go_simp
       with_reducible rfl
      rotate_left
      ·
       simp only [Act.put, List.setIfInBounds_toArray, List.set_cons_zero, List.set_cons_succ, i64_w, i32_w]
       rfl
      refine pure_ (i := 12) (N := some 40) (v := ?_) (a' := ?_) #[true, true, true, true, true, true, true, true, true, true, true, true, true, false, false, false] rfl rfl (any_of HT_.out (by kernel_rfl)) (fun _ _ _ h => h) (Or.inl ⟨by rfl, ?_⟩) ?_ ?_
      rotate_left
      ·
       intro w'
       go_simp
       with_reducible rfl
      rotate_left
      ·
       simp only [Act.put, List.setIfInBounds_toArray, List.set_cons_zero, List.set_cons_succ, i64_w, i32_w]
       rfl
      refine pure_ (i := 13) (N := some 41) (v := ?_) (a' := ?_) #[true, true, true, true, true, true, true, true, true, true, true, true, true, true, false, false] rfl rfl (any_of HT_.out (by kernel_rfl)) (fun _ _ _ h => h) (Or.inl ⟨by rfl, ?_⟩) ?_ ?_
      rotate_left
      ·
       intro w'
       go_simp
       with_reducible rfl
      rotate_left
      ·
       simp only [Act.put, List.setIfInBounds_toArray, List.set_cons_zero, List.set_cons_succ, i64_w, i32_w]
       rfl
      refine pure_ (i := 14) (N := some 8) (v := ?_) (a' := ?_) #[true, true, true, true, true, true, true, true, true, true, true, true, true, true, true, false] rfl rfl (any_of HT_.out (by kernel_rfl)) (fun _ _ _ h => h) (Or.inl ⟨by rfl, ?_⟩) ?_ ?_
      rotate_left
      ·
       intro w'
       go_simp
       with_reducible rfl
      rotate_left
      ·
       simp only [Act.put, List.setIfInBounds_toArray, List.set_cons_zero, List.set_cons_succ, i64_w, i32_w]
       rfl
      refine pure_ (i := 15) (N := some 9) (v := ?_) (a' := ?_) #[true, true, true, true, true, true, true, true, true, true, true, true, true, true, true, true] rfl rfl (any_of HT_.out (by kernel_rfl)) (fun _ _ _ h => h) (Or.inl ⟨by rfl, ?_⟩) ?_ ?_
      rotate_left
      ·
       intro w'
       go_simp
       with_reducible rfl
      rotate_left
      ·
       simp only [Act.put, List.setIfInBounds_toArray, List.set_cons_zero, List.set_cons_succ, i64_w, i32_w]
       rfl
      refine done_ (done_of HT_.out (by kernel_rfl)) ?_
      have HBn := Aside0.mk (HBr.out.trans (HB.out.mono HBr.out.size))
      clear hHeld HT_ HW_
      go_wp2_with ((with_reducible refine gate_dst (N := 45) rfl ?_); refine Kd.R_append (Kd.slice 3 (Kd.int .i64)) (w0 := w) w.heap.size rfl (.tmp 42) (.tmp 44) 79 25 (.slice none 0 0) 24 rfl Try.underlying79 info25 rfl (by decide) (by omega) u6 acc t1 [.slice At t1.length ct] (fun _ => True) (fun k_ => some k_ ≠ (u6 : Value).ownBlock) rfl rfl ?aP (fun k_ hk => ⟨trivial, hk⟩) (fun _ _ => trivial) ?aO HBn.out ?aS ?aL ?_; (case aP => exact ⟨_, rfl, Kd.R_mono (Kd.R_lower (Kd.R_new' HOt.out (fun q hq => Nat.lt_of_lt_of_le (Kd.R_lt HOr0.out q hq) HLW.out)) (Nat.le_trans HBr.out.size HLW.out)) (fun _ hk => hk.2)⟩); (case aO => exact Kd.R_mono HOr.out (fun _ _ => trivial)); (case aS => exact HBn.out.size); (case aL => have := HAL.out; have := HLE.out; omega); intro v9 w9 ho hb hg hat; have HO9 := Aside0.mk ho; have HB9 := Aside0.mk hb; clear ho hb hg hat)
      go_wp2
      go_roundg (l0.length + 1 - (i + 1))
      case measure => omega
      case rel => exact ⟨i + 1, acc ++ [t1], by omega, by omega, by go_num, HB9, HO9, ⟨by rw [List.length_append, List.length_singleton]; have := HAL.out; omega⟩, ⟨by rw [show l0.length - (i + 1) = d from by have := HD.out; omega]; exact HT2.out⟩⟩
     ·
      have hltz : ((i : Int) < (l0.length : Int)) = False := eq_false (by omega)
      have ht := HTr.out
      rw [show l0.length - i = 0 from by omega] at ht
      obtain rfl := Option.some.inj ht
      clear ht
      go_wp2
      go_ret2
      exact ⟨_, rfl, HOr0.out, HBr.out⟩

end Go.Proofs.Ytjidofgojijolaa.Q
