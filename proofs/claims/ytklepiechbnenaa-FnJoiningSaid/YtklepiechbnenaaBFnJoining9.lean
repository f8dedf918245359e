/- Texts of this seat, put together: Qf72, Qf46, Qf47, Qf83. -/
import Derived.Test.YtklepiechbnenaaZFnJoining
import Derived.Test.YtklepiechbnenaaBFnJoining0
import Derived.Test.YtklepiechbnenaaBFnJoining3
import Derived.Test.YtklepiechbnenaaBFnJoining4
import Derived.Test.YtklepiechbnenaaBFnJoining6
import Derived.Test.YtklepiechbnenaaBFnJoining8
namespace Go.Proofs.Ytklepiechbnenaa.Q
open Go.RowKit Go.Proofs.YtklepiechbnenaaW.PrintWords Go.Proofs.YtklepiechbnenaaW.PrintLast Go.Proofs.YtklepiechbnenaaW.PrintMore
attribute [local go_sem] max2_int min2_int max_two min_two max_three min_three max_four min_four   -- for this text's walks alone
set_option linter.unusedVariables false
set_option linter.unusedSimpArgs false

/-! ### impl_topicLevel: function 72 -/
def impl_topicLevel.l0 : Nat → Int → Int → Int → List (S31) → Int → Int → Option (Int)
 | 0, _, _, _, _, _, _ => none
 | k + 1, x1, x2, x3, x11, x12, x13 => if x13 < x12 then (if 0 ≤ x13 then (if x13 < (x11.length : Int) then (if ((rd_T31 x11 x13).f1) = x1 then (if ((rd_T31 x11 x13).f3) = x2 then ((impl_within.f x3 ((rd_T31 x11 x13).f4) (wrap64 (((rd_T31 x11 x13).f5) - 1))).bind fun t378 => (if t378 = true then (some ((rd_T31 x11 x13).f2)) else (impl_topicLevel.l0 k x1 x2 x3 x11 x12 (wrap64 (x13 + 1))))) else (impl_topicLevel.l0 k x1 x2 x3 x11 x12 (wrap64 (x13 + 1)))) else (impl_topicLevel.l0 k x1 x2 x3 x11 x12 (wrap64 (x13 + 1)))) else (none)) else (none)) else (some 0)
def impl_topicLevel.f (k : Nat) (l0 : List (S31)) (a1 : Int) (a2 : Int) (a3 : Int) : Option (Int) := impl_topicLevel.l0 k a1 a2 a3 l0 (l0.length : Int) 0
theorem impl_topicLevel.mono_l : ∀ k, (∀ y0 y1 y2 y3 y4 y5, LeO (impl_topicLevel.l0 k y0 y1 y2 y3 y4 y5) (impl_topicLevel.l0 (k + 1) y0 y1 y2 y3 y4 y5))
 | 0 => fun _ _ _ _ _ _ r h => by simp [impl_topicLevel.l0] at h
 | k + 1 => by
  have ih0 := impl_topicLevel.mono_l k
  ·
   intro y0 y1 y2 y3 y4 y5
   unfold impl_topicLevel.l0
   repeat' first
   | (with_reducible exact ih0 _ _ _ _ _ _)
   | (with_reducible exact LeO.refl _)
   | (with_reducible exact LeO.none _)
   | (with_reducible refine LeO.ite ?_ ?_)
   | (with_reducible refine LeO.bind ?_ (fun _ => ?_))
   | exact ih0 _ _ _ _ _ _
   | exact LeO.none _
   | refine LeO.ite ?_ ?_
   | refine LeO.bind ?_ (fun _ => ?_)
theorem impl_topicLevel.mono : ∀ a0 a1 a2 a3 k, LeO (impl_topicLevel.f k a0 a1 a2 a3) (impl_topicLevel.f (k + 1) a0 a1 a2 a3) := by
 intro a0 a1 a2 a3 k
 have ih0 := impl_topicLevel.mono_l k
 unfold impl_topicLevel.f
 repeat' first
   | (with_reducible exact ih0 _ _ _ _ _ _)
   | (with_reducible exact LeO.refl _)
   | (with_reducible exact LeO.none _)
   | (with_reducible refine LeO.ite ?_ ?_)
   | (with_reducible refine LeO.bind ?_ (fun _ => ?_))
   | exact ih0 _ _ _ _ _ _
   | exact LeO.none _
   | refine LeO.ite ?_ ?_
   | refine LeO.bind ?_ (fun _ => ?_)
set_option maxHeartbeats 8000000 in
set_option maxRecDepth 100000 in
theorem impl_topicLevel.calls (k : Nat) (A0 : Option Addr) (c0 : Nat) (l0 : List (S31)) (a1 : Int) (a2 : Int) (a3 : Int) (r : Int) (w : World) (hr0 : Kd.C k31 w A0 l0.length l0) (hc0 : l0.length ≤ c0) (h : impl_topicLevel.f k l0 a1 a2 a3 = some r) :
  Calls Try.prog 72 #[.slice A0 l0.length c0, .int .i64 a1, .int .i64 a2, .int .i64 a3] w fun e w' => e = .returned (.int .i64 r) ∧ Below w.heap.size w w' := by
 have hu31 := Try.underlying31
 have HR0 := Aside0.mk hr0
 have HC0 := Aside0.mk hc0
 clear hr0 hc0
 have HB := Aside0.mk (Below.refl w.heap.size w)
 have H : (impl_topicLevel.l0 k a1 a2 a3 l0 (l0.length : Int) 0) = some r := h
 clear h
 have H' := Aside0.mk H
 clear H
 go_enter Try.func72, Try.ntmps72
 go_wp2
 go_loopg [13] k (fun kq v13 w' => ∃ (x13_1 : Int), v13 = .int .i64 x13_1 ∧ Aside0 (impl_topicLevel.l0 kq a1 a2 a3 l0 (l0.length : Int) x13_1 = some r) ∧ Aside0 (kq ≤ k) ∧ Aside0 (Below w.heap.size w w'))
 case atStart => exact ⟨(0), (by first | rfl | (simp; done) | (simp [*]; done)), H', ⟨Nat.le_refl _⟩, ⟨zq0⟩⟩
 clear H'
 try clear p2
 obtain ⟨x13_1, rfl, HA, HK1, HB⟩ := hrel
 cases gk with
 | zero => exact absurd HA.out (by simp [impl_topicLevel.l0])
 | succ k1 =>
  have H := HA.out
  clear HA
  simp only [impl_topicLevel.l0] at H
  by_cases c5 : x13_1 < (l0.length : Int)
  case neg =>
   rw [if_neg c5] at H
   have c5b0 : decide (x13_1 < (l0.length : Int)) = false := decide_eq_false c5
   clear c5
   obtain rfl := Option.some.inj H
   go_wp2
   go_ret
   exact ⟨zqE, zq0⟩
  rw [if_pos c5] at H
  have c5b0 : decide (x13_1 < (l0.length : Int)) = true := decide_eq_true c5
  clear c5
  by_cases c6 : 0 ≤ x13_1
  case neg =>
   rw [if_neg c6] at H
   exact absurd H (by simp)
  rw [if_pos c6] at H
  have c6b0 : decide (0 ≤ x13_1) = true := decide_eq_true c6
  clear c6
  by_cases c7 : x13_1 < (l0.length : Int)
  case neg =>
   rw [if_neg c7] at H
   exact absurd H (by simp)
  rw [if_pos c7] at H
  have c7b0 : decide (x13_1 < (l0.length : Int)) = true := decide_eq_true c7
  clear c7
  by_cases c8 : ((rd_T31 l0 x13_1).f1) = a1
  case neg =>
   rw [if_neg c8] at H
   have c8b0 : (((rd_T31 l0 x13_1).f1) == a1) = false := beq_eq_false_iff_ne.mpr c8
   have c8b1 : (((rd_T31 l0 x13_1).f1) != a1) = true := bne_iff_ne.mpr c8
   have H' := Aside0.mk H
   clear H
   have p376 : 0 ≤ (x13_1 : Int) := of_decide_eq_true zq5
   have q376 : x13_1 < (l0.length : Int) := of_decide_eq_true zq5
   obtain ⟨ad376, e376, hx376_0, hx376_1, hx376_2, hx376_3, hx376_4, hx376_5⟩ := at_T31 HR0.out x13_1 p376 q376
   cases e376
   replace hx376_0 := bx HB.out hx376_0
   replace hx376_1 := bx HB.out hx376_1
   replace hx376_2 := bx HB.out hx376_2
   replace hx376_3 := bx HB.out hx376_3
   replace hx376_4 := bx HB.out hx376_4
   replace hx376_5 := bx HB.out hx376_5
   replace p376 := eq_true p376
   replace q376 := eq_true q376
   go_wp2_with (first | ((with_reducible refine gate_dst (N := 10) rfl ?_); refine box_event ?hg (N := 10) ?hd (cs := #[.int .i64 0, .int .i64 0, .int .i64 0, .int .i64 0, .int .i64 0, .int .i64 0]) (t := 31) ?hr ?_; (case hd => rfl); (case hg => rfl); (case hr => exact zqS); intro gb377 hg w18 hbox hb; have n0_ := Aside0.mk (below_step zq0 hb); have n1_ := Aside0.mk (hbox); have n2_ := Aside0.mk ((by rw [hg]; exact (below_size zq0) : w.heap.size ≤ gb377)); have n3_ := n2_; clear HB; have HB := n0_; have BK377 := n1_; have GW377 := n2_; have GE377 := n3_; clear n0_ n1_ n2_ n3_; clear hb hbox hg; obtain ⟨hcz19_0, hcz19_1, hcz19_2, hcz19_3, hcz19_4, hcz19_5, hfz19_0, hfz19_1, hfz19_2, hfz19_3, hfz19_4, hfz19_5⟩ := bz6 BK377.out))
   go_roundg k1
   case measure => have := HK1.out; omega
   case rel => exact ⟨(wrap64 (x13_1 + 1)), (by first | rfl | (simp; done) | (simp [*]; done)), H', ⟨by have := HK1.out; omega⟩, ⟨zq35⟩⟩
  rw [if_pos c8] at H
  have c8b0 : (((rd_T31 l0 x13_1).f1) == a1) = true := beq_iff_eq.mpr c8
  have c8b1 : (((rd_T31 l0 x13_1).f1) != a1) = false := bne_eq_false_iff_eq.mpr c8
  clear c8
  by_cases c9 : ((rd_T31 l0 x13_1).f3) = a2
  case neg =>
   rw [if_neg c9] at H
   have c9b0 : (((rd_T31 l0 x13_1).f3) == a2) = false := beq_eq_false_iff_ne.mpr c9
   have c9b1 : (((rd_T31 l0 x13_1).f3) != a2) = true := bne_iff_ne.mpr c9
   have H' := Aside0.mk H
   clear H
   have p376 : 0 ≤ (x13_1 : Int) := of_decide_eq_true zq5
   have q376 : x13_1 < (l0.length : Int) := of_decide_eq_true zq5
   obtain ⟨ad376, e376, hx376_0, hx376_1, hx376_2, hx376_3, hx376_4, hx376_5⟩ := at_T31 HR0.out x13_1 p376 q376
   cases e376
   replace hx376_0 := bx HB.out hx376_0
   replace hx376_1 := bx HB.out hx376_1
   replace hx376_2 := bx HB.out hx376_2
   replace hx376_3 := bx HB.out hx376_3
   replace hx376_4 := bx HB.out hx376_4
   replace hx376_5 := bx HB.out hx376_5
   replace p376 := eq_true p376
   replace q376 := eq_true q376
   go_wp2_with (first | ((with_reducible refine gate_dst (N := 10) rfl ?_); refine box_event ?hg (N := 10) ?hd (cs := #[.int .i64 0, .int .i64 0, .int .i64 0, .int .i64 0, .int .i64 0, .int .i64 0]) (t := 31) ?hr ?_; (case hd => rfl); (case hg => rfl); (case hr => exact zqS); intro gb377 hg w16 hbox hb; have n0_ := Aside0.mk (below_step zq0 hb); have n1_ := Aside0.mk (hbox); have n2_ := Aside0.mk ((by rw [hg]; exact (below_size zq0) : w.heap.size ≤ gb377)); have n3_ := n2_; clear HB; have HB := n0_; have BK377 := n1_; have GW377 := n2_; have GE377 := n3_; clear n0_ n1_ n2_ n3_; clear hb hbox hg; obtain ⟨hcz17_0, hcz17_1, hcz17_2, hcz17_3, hcz17_4, hcz17_5, hfz17_0, hfz17_1, hfz17_2, hfz17_3, hfz17_4, hfz17_5⟩ := bz6 BK377.out))
   go_roundg k1
   case measure => have := HK1.out; omega
   case rel => exact ⟨(wrap64 (x13_1 + 1)), (by first | rfl | (simp; done) | (simp [*]; done)), H', ⟨by have := HK1.out; omega⟩, ⟨zq35⟩⟩
  rw [if_pos c9] at H
  have c9b0 : (((rd_T31 l0 x13_1).f3) == a2) = true := beq_iff_eq.mpr c9
  have c9b1 : (((rd_T31 l0 x13_1).f3) != a2) = false := bne_eq_false_iff_eq.mpr c9
  clear c9
  replace H := Option.bind_eq_some_iff.mp H
  obtain ⟨t378, A100, H⟩ := H
  replace H : (if t378 = true then (some ((rd_T31 l0 x13_1).f2)) else (impl_topicLevel.l0 k1 a1 a2 a3 l0 (l0.length : Int) (wrap64 (x13_1 + 1)))) = some r := H
  have A10 := Aside0.mk A100
  clear A100
  by_cases c11 : t378 = true
  case pos =>
   subst c11
   have H1 : (some ((rd_T31 l0 x13_1).f2)) = some r := by rw [if_pos rfl] at H; exact H
   clear H
   have H := H1
   clear H1
   obtain rfl := Option.some.inj H
   have p376 : 0 ≤ (x13_1 : Int) := of_decide_eq_true zq5
   have q376 : x13_1 < (l0.length : Int) := of_decide_eq_true zq5
   obtain ⟨ad376, e376, hx376_0, hx376_1, hx376_2, hx376_3, hx376_4, hx376_5⟩ := at_T31 HR0.out x13_1 p376 q376
   cases e376
   replace hx376_0 := bx HB.out hx376_0
   replace hx376_1 := bx HB.out hx376_1
   replace hx376_2 := bx HB.out hx376_2
   replace hx376_3 := bx HB.out hx376_3
   replace hx376_4 := bx HB.out hx376_4
   replace hx376_5 := bx HB.out hx376_5
   replace p376 := eq_true p376
   replace q376 := eq_true q376
   go_wp2_with (first | ((with_reducible refine gate_dst (N := 10) rfl ?_); refine box_event ?hg (N := 10) ?hd (cs := #[.int .i64 0, .int .i64 0, .int .i64 0, .int .i64 0, .int .i64 0, .int .i64 0]) (t := 31) ?hr ?_; (case hd => rfl); (case hg => rfl); (case hr => exact zqS); intro gb377 hg w12 hbox hb; have n0_ := Aside0.mk (below_step zq0 hb); have n1_ := Aside0.mk (hbox); have n2_ := Aside0.mk ((by rw [hg]; exact (below_size zq0) : w.heap.size ≤ gb377)); have n3_ := n2_; clear HB; have HB := n0_; have BK377 := n1_; have GW377 := n2_; have GE377 := n3_; clear n0_ n1_ n2_ n3_; clear hb hbox hg; obtain ⟨hcz13_0, hcz13_1, hcz13_2, hcz13_3, hcz13_4, hcz13_5, hfz13_0, hfz13_1, hfz13_2, hfz13_3, hfz13_4, hfz13_5⟩ := bz6 BK377.out) | (go_at_call 60; (with_reducible refine (impl_within.calls a3 ((rd_T31 l0 x13_1).f4) (wrap64 (((rd_T31 l0 x13_1).f5) - 1)) true _ A10.out).mono ?_); rintro e w' ⟨rfl, ⟨nd, rfl⟩⟩))
   go_ret
   exact ⟨zqE, zq35⟩
  replace c11 := Bool.eq_false_iff.mpr c11
  subst c11
  have H1 : (impl_topicLevel.l0 k1 a1 a2 a3 l0 (l0.length : Int) (wrap64 (x13_1 + 1))) = some r := by rw [if_neg (show ¬ (false = true) by decide)] at H; exact H
  clear H
  have H := H1
  clear H1
  have H' := Aside0.mk H
  clear H
  have p376 : 0 ≤ (x13_1 : Int) := of_decide_eq_true zq5
  have q376 : x13_1 < (l0.length : Int) := of_decide_eq_true zq5
  obtain ⟨ad376, e376, hx376_0, hx376_1, hx376_2, hx376_3, hx376_4, hx376_5⟩ := at_T31 HR0.out x13_1 p376 q376
  cases e376
  replace hx376_0 := bx HB.out hx376_0
  replace hx376_1 := bx HB.out hx376_1
  replace hx376_2 := bx HB.out hx376_2
  replace hx376_3 := bx HB.out hx376_3
  replace hx376_4 := bx HB.out hx376_4
  replace hx376_5 := bx HB.out hx376_5
  replace p376 := eq_true p376
  replace q376 := eq_true q376
  go_wp2_with (first | ((with_reducible refine gate_dst (N := 10) rfl ?_); refine box_event ?hg (N := 10) ?hd (cs := #[.int .i64 0, .int .i64 0, .int .i64 0, .int .i64 0, .int .i64 0, .int .i64 0]) (t := 31) ?hr ?_; (case hd => rfl); (case hg => rfl); (case hr => exact zqS); intro gb377 hg w14 hbox hb; have n0_ := Aside0.mk (below_step zq0 hb); have n1_ := Aside0.mk (hbox); have n2_ := Aside0.mk ((by rw [hg]; exact (below_size zq0) : w.heap.size ≤ gb377)); have n3_ := n2_; clear HB; have HB := n0_; have BK377 := n1_; have GW377 := n2_; have GE377 := n3_; clear n0_ n1_ n2_ n3_; clear hb hbox hg; obtain ⟨hcz15_0, hcz15_1, hcz15_2, hcz15_3, hcz15_4, hcz15_5, hfz15_0, hfz15_1, hfz15_2, hfz15_3, hfz15_4, hfz15_5⟩ := bz6 BK377.out) | (go_at_call 60; (with_reducible refine (impl_within.calls a3 ((rd_T31 l0 x13_1).f4) (wrap64 (((rd_T31 l0 x13_1).f5) - 1)) false _ A10.out).mono ?_); rintro e w' ⟨rfl, ⟨nd, rfl⟩⟩))
  go_roundg k1
  case measure => have := HK1.out; omega
  case rel => exact ⟨(wrap64 (x13_1 + 1)), (by first | rfl | (simp; done) | (simp [*]; done)), H', ⟨by have := HK1.out; omega⟩, ⟨zq35⟩⟩
/-- The warning holds at the hour (by the programs' own sum). -/
def atB (x : S31) (h : Int) : Bool := decide (x.f4 ≤ h ∧ h ≤ wrap64 (x.f5 - 1))
def holdsB (t a h : Int) (x : S31) : Bool := decide (x.f1 = t) && (decide (x.f3 = a) && atB x h)
/-- The level of topic t and area a at hour h. -/
def lvl (l : List S31) (t a h : Int) : Int := Gen.run (fun i (_ : Unit) => if holdsB t a h (l.getD i z31) = true then .inl (l.getD i z31).f2 else .inr ()) (fun _ => 0) l.length 0 ()
theorem rdW_ (l : List S31) (i : Nat) : rd_T31 l (i : Int) = l.getD i z31 := rfl
theorem ev_topicLevel (l : List S31) (hl : l.length ≤ 4611686018427387904) (t a h : Int) : Ev (fun k => impl_topicLevel.f k l t a h) (lvl l t a h) := by
 unfold impl_topicLevel.f lvl
 refine Gen.ev_run (fun k (_ : Unit) i => impl_topicLevel.l0 k t a h l (l.length : Int) i) l.length _ (fun _ => 0) (fun _ _ => True) ?_ ?_ ?_ l.length 0 () (by omega) trivial
 ·
  intro i s b hi _ hf
  refine Gen.Ev.eq_now fun k => ?_
  obtain ⟨hh, rfl⟩ := Gen.inl_of hf
  unfold holdsB at hh
  simp only [Bool.and_eq_true, decide_eq_true_eq] at hh
  simp only [impl_topicLevel.l0]
  rw [if_pos (by omega), if_pos (by omega), if_pos (by omega), rdW_, if_pos hh.1, if_pos hh.2.1, within_f]
  simp only [Option.bind_some]
  rw [if_pos (by exact hh.2.2)]
 ·
  intro i s s' r hi _ hf
  refine ⟨trivial, fun he => Ev.congr (fun k => ?_) he⟩
  have hh := (Gen.inr_of hf).1
  simp only [impl_topicLevel.l0]
  rw [if_pos (by omega), if_pos (by omega), if_pos (by omega), rdW_, Gen.wrapS i (by omega)]
  by_cases h1 : (l.getD i z31).f1 = t
  ·
   by_cases h2 : (l.getD i z31).f3 = a
   ·
    rw [if_pos h1, if_pos h2, within_f]
    simp only [Option.bind_some]
    rw [if_neg]
    intro h3
    unfold holdsB at hh
    rw [decide_eq_true h1, decide_eq_true h2] at hh
    rw [show decide ((l.getD i z31).f4 ≤ h ∧ h ≤ wrap64 ((l.getD i z31).f5 - 1)) = atB (l.getD i z31) h from rfl] at h3
    rw [h3] at hh
    cases hh
   ·
    rw [if_pos h1, if_neg h2]
  ·
   rw [if_neg h1]
 ·
  intro s _
  refine Gen.Ev.eq_now fun k => ?_
  simp only [impl_topicLevel.l0]
  rw [if_neg (by omega)]


/-! ### impl_SameStates: function 46 -/
def impl_SameStates.c.T0 : Bool × List (List Nat × List Nat) := (true, [([], []), ([0], [0]), ([1], [1]), ([1], [1]), ([1], [1]), ([1], [1]), ([2, 3, 4, 5, 1, 1], [1, 2, 3, 4, 5]), ([1], [1]), ([1], [1]), ([1], [1]), ([1], [1]), ([7, 8, 9, 10, 6, 1], [1, 7, 8, 9, 10]), ([6, 11, 1], [1, 6, 11]), ([1, 12], [1, 12]), ([13, 11, 0, 1, 2, 3, 4, 5, 6, 7, 8, 9, 10, 11, 12, 13], [13])])
def impl_SameStates.c.B0 : List Nat := [0, 1, 3, 3, 3, 3, 63, 3, 3, 3, 3, 2047, 4095, 8191, 16383]
theorem impl_SameStates.c.tab0 : rtab .any (opsOf Try.f98 0) = impl_SameStates.c.T0 := by kernel_rfl
theorem impl_SameStates.c.bits0 : waitsOk impl_SameStates.c.T0.2 impl_SameStates.c.B0 = true := by kernel_rfl
theorem cell_drewS {w : World} {a : Addr} {v : Value} (h : w.cell? a = some v) : w.drew.cell? a = some v := by simpa using h
/-- What a visit leaves: the one variable is set, all else that was there lies as it lay. -/
def Visited (Bs : Nat) (b : Bool) (W : World) (e : Ending) (w' : World) : Prop := e = .returned (.tuple #[]) ∧ ∃ w2, Below W.heap.size W w2 ∧ w' = w2.setCell ⟨Bs, 0, none⟩ (.bool b)
set_option maxHeartbeats 2000000 in
set_option maxRecDepth 100000 in
theorem impl_SameStates.visit (A0 A1 : Option Addr) (c0 c1 : Nat) (l0 l1 : List S31) (Bs Ba Bb : Nat) (s : Bool) (t a h : Int) (W : World) (hr0 : Kd.C k31 W A0 l0.length l0) (hc0 : l0.length ≤ c0) (hr1 : Kd.C k31 W A1 l1.length l1) (hc1 : l1.length ≤ c1)
  (hBs : W.heap[Bs]? = some (.cells #[.bool s] 4 (0, 0))) (hBa : W.heap[Ba]? = some (.cells #[.slice A0 l0.length c0] 24 (0, 0))) (hBb : W.heap[Bb]? = some (.cells #[.slice A1 l1.length c1] 24 (0, 0)))
  (h0 : l0.length ≤ 4611686018427387904) (h1 : l1.length ≤ 4611686018427387904) :
  Calls Try.prog 98 #[.int .i64 t, .int .i64 a, .int .i64 h, .pointer (some ⟨Bs, 0, none⟩), .pointer (some ⟨Ba, 0, none⟩), .pointer (some ⟨Bb, 0, none⟩)] W (Visited Bs (s && (lvl l0 t a h == lvl l1 t a h)) W) := by
 have hlt : Bs < W.heap.size := by
  rcases Nat.lt_or_ge Bs W.heap.size with h | h
  ·
   exact h
  ·
   rw [Array.getElem?_eq_none h] at hBs; cases hBs
 have s0 : W.cell? ⟨Bs, 0, none⟩ = some (.bool s) := by simp [World.cell?, hBs]
 have s1 : W.cell? ⟨Ba, 0, none⟩ = some (.slice A0 l0.length c0) := by simp [World.cell?, hBa]
 have s2 : W.cell? ⟨Bb, 0, none⟩ = some (.slice A1 l1.length c1) := by simp [World.cell?, hBb]
 have hf0 : W.frozen? ⟨Bs, 0, none⟩ = false := by simp [World.frozen?, hBs]
 have HR0 := Aside0.mk hr0
 have HC0 := Aside0.mk hc0
 have HR1 := Aside0.mk hr1
 have HC1 := Aside0.mk hc1
 obtain ⟨k1, e1⟩ := (ev_topicLevel l0 h0 t a h).rounds
 obtain ⟨k2, e2⟩ := (ev_topicLevel l1 h1 t a h).rounds
 generalize lvl l0 t a h = r1 at e1 ⊢
 generalize lvl l1 t a h = r2 at e2 ⊢
 have E1 := Aside0.mk e1
 have E2 := Aside0.mk e2
 clear e1 e2 hBs hBa hBb hr0 hr1 hc0 hc1 h0 h1
 have HB := Aside0.mk (Below.refl W.heap.size W).drew
 cases s with
 | true =>
  go_enter Try.func98, Try.ntmps98
  go_wp2_with fail
  refine start_ (n := 15) (S := fun w' => w'.cell? ⟨Bs, 0, none⟩ = some (.bool true) ∧ w'.cell? ⟨Ba, 0, none⟩ = some (.slice A0 l0.length c0) ∧ w'.cell? ⟨Bb, 0, none⟩ = some (.slice A1 l1.length c1)) (ds := [14]) #[false, false, false, false, false, false, false, false, false, false, false, false, false, false, false] (by kernel_rfl) rfl rfl ⟨(cell_drewS s0), (cell_drewS s1), (cell_drewS s2)⟩ (fun hHeld => ?_)
  refine with_tabW impl_SameStates.c.tab0 impl_SameStates.c.bits0 (fun HT_ HW_ => ?_)
  generalize W.drew = w1 at HB hHeld ⊢
  refine take_ (i := 0) (N := some 9) (v := ?_) (a' := ?_) #[true, false, false, false, false, false, false, false, false, false, false, false, false, false, false] rfl rfl (take_ofW HT_.out HW_.out (by kernel_rfl)) (fun _ _ _ h => h) (Or.inl ⟨by rfl, ?_⟩) hHeld ?_ ?_
  rotate_left
  ·
   rintro w' ⟨s0, s1, s2⟩
   go_simp
   with_reducible rfl
  rotate_left; · exact zqA
  refine pure_ (i := 1) (N := some 10) (v := ?_) (a' := ?_) #[true, true, false, false, false, false, false, false, false, false, false, false, false, false, false] rfl rfl (any_of HT_.out (by kernel_rfl)) (fun _ _ _ h => h) (Or.inl ⟨by rfl, ?_⟩) ?_ ?_
  rotate_left; · exact zqB
  rotate_left; · exact zqA
  refine pure_ (i := 3) (N := some 12) (v := ?_) (a' := ?_) #[true, true, false, true, false, false, false, false, false, false, false, false, false, false, false] rfl rfl (any_of HT_.out (by kernel_rfl)) (fun _ _ _ h => h) (Or.inl ⟨by rfl, ?_⟩) ?_ ?_
  rotate_left; · exact zqB
  rotate_left; · exact zqA
  refine pure_ (i := 4) (N := some 13) (v := ?_) (a' := ?_) #[true, true, false, true, true, false, false, false, false, false, false, false, false, false, false] rfl rfl (any_of HT_.out (by kernel_rfl)) (fun _ _ _ h => h) (Or.inl ⟨by rfl, ?_⟩) ?_ ?_
  rotate_left; · exact zqB
  rotate_left; · exact zqA
  refine pure_ (i := 5) (N := some 14) (v := ?_) (a' := ?_) #[true, true, false, true, true, true, false, false, false, false, false, false, false, false, false] rfl rfl (any_of HT_.out (by kernel_rfl)) (fun _ _ _ h => h) (Or.inl ⟨by rfl, ?_⟩) ?_ ?_
  rotate_left; · exact zqB
  rotate_left; · exact zqA
  refine pure_ (i := 8) (N := some 17) (v := ?_) (a' := ?_) #[true, true, false, true, true, true, false, false, true, false, false, false, false, false, false] rfl rfl (any_of HT_.out (by kernel_rfl)) (fun _ _ _ h => h) (Or.inl ⟨by rfl, ?_⟩) ?_ ?_
  rotate_left; · exact zqB
  rotate_left; · exact zqA
  refine pure_ (i := 9) (N := some 18) (v := ?_) (a' := ?_) #[true, true, false, true, true, true, false, false, true, true, false, false, false, false, false] rfl rfl (any_of HT_.out (by kernel_rfl)) (fun _ _ _ h => h) (Or.inl ⟨by rfl, ?_⟩) ?_ ?_
  rotate_left; · exact zqB
  rotate_left; · exact zqA
  refine pure_ (i := 10) (N := some 19) (v := ?_) (a' := ?_) #[true, true, false, true, true, true, false, false, true, true, true, false, false, false, false] rfl rfl (any_of HT_.out (by kernel_rfl)) (fun _ _ _ h => h) (Or.inl ⟨by rfl, ?_⟩) ?_ ?_
  rotate_left; · exact zqB
  rotate_left; · exact zqA
  refine take_ (i := 2) (N := some 11) (v := ?_) (a' := ?_) #[true, true, true, true, true, true, false, false, true, true, true, false, false, false, false] rfl rfl (take_ofW HT_.out HW_.out (by kernel_rfl)) (fun _ _ _ h => h) (Or.inl ⟨by rfl, ?_⟩) hHeld ?_ ?_
  rotate_left
  ·
   rintro w' ⟨s0, s1, s2⟩
   go_simp
   with_reducible rfl
  rotate_left; · exact zqA
  refine take_ (i := 7) (N := some 16) (v := ?_) (a' := ?_) #[true, true, true, true, true, true, false, true, true, true, true, false, false, false, false] rfl rfl (take_ofW HT_.out HW_.out (by kernel_rfl)) (fun _ _ _ h => h) (Or.inl ⟨by rfl, ?_⟩) hHeld ?_ ?_
  rotate_left
  ·
   rintro w' ⟨s0, s1, s2⟩
   go_simp
   with_reducible rfl
  rotate_left; · exact zqA
  refine one_ (i := 6) (N := some 15) #[true, true, true, true, true, true, true, true, true, true, true, false, false, false, false] rfl rfl (one_of HT_.out (by kernel_rfl)) (by decide) (fun K hK => ?_)
  refine goes_ Try.func72 (by kernel_rfl) rfl #[.slice A0 l0.length c0, .int .i64 t, .int .i64 a, .int .i64 h] (by rfl) rfl rfl zq38 ?_
  refine (impl_topicLevel.calls _ A0 c0 l0 t a h _ _ (Kd.C_below HR0.out HB.out) HC0.out E1.out).mono ?_
  rintro e w2 ⟨rfl, hb⟩
  refine ⟨_, rfl, ?_⟩
  obtain ⟨s0, s1, s2⟩ := hHeld
  have HB_ := Aside0.mk (HB.out.trans (hb.mono HB.out.size))
  clear HB
  have HB := HB_
  clear HB_
  refine hK.out _ _ ⟨(hb.cell (World.block_lt_of_cell? _ _ s0)).trans s0, (hb.cell (World.block_lt_of_cell? _ _ s1)).trans s1, (hb.cell (World.block_lt_of_cell? _ _ s2)).trans s2⟩ (fun hHeld => ?_)
  clear hK K hb s0 s1 s2
  refine norm_ (a' := ?_) ?_ ?_
  rotate_left
  ·
   show Act.put _ (some 15) _ = _
   simp only [Act.put, List.setIfInBounds_toArray, List.set_cons_zero, List.set_cons_succ, i64_w, i32_w]
   rfl
  refine one_ (i := 11) (N := some 20) #[true, true, true, true, true, true, true, true, true, true, true, true, false, false, false] rfl rfl (one_of HT_.out (by kernel_rfl)) (by decide) (fun K hK => ?_)
  refine goes_ Try.func72 (by kernel_rfl) rfl #[.slice A1 l1.length c1, .int .i64 t, .int .i64 a, .int .i64 h] (by rfl) rfl rfl zq38 ?_
  refine (impl_topicLevel.calls _ A1 c1 l1 t a h _ _ (Kd.C_below HR1.out HB.out) HC1.out E2.out).mono ?_
  rintro e w3 ⟨rfl, hb⟩
  refine ⟨_, rfl, ?_⟩
  obtain ⟨s0, s1, s2⟩ := hHeld
  have HB_ := Aside0.mk (HB.out.trans (hb.mono HB.out.size))
  clear HB
  have HB := HB_
  clear HB_
  refine hK.out _ _ ⟨(hb.cell (World.block_lt_of_cell? _ _ s0)).trans s0, (hb.cell (World.block_lt_of_cell? _ _ s1)).trans s1, (hb.cell (World.block_lt_of_cell? _ _ s2)).trans s2⟩ (fun hHeld => ?_)
  clear hK K hb s0 s1 s2
  refine norm_ (a' := ?_) ?_ ?_
  rotate_left
  ·
   show Act.put _ (some 20) _ = _
   simp only [Act.put, List.setIfInBounds_toArray, List.set_cons_zero, List.set_cons_succ, i64_w, i32_w]
   rfl
  refine pure_ (i := 12) (N := some 21) (v := ?_) (a' := ?_) #[true, true, true, true, true, true, true, true, true, true, true, true, true, false, false] rfl rfl (any_of HT_.out (by kernel_rfl)) (fun _ _ _ h => h) (Or.inl ⟨by rfl, ?_⟩) ?_ ?_
  rotate_left; · exact zqB
  rotate_left; · exact zqA
  refine pure_ (i := 13) (N := some 22) (v := ?_) (a' := ?_) #[true, true, true, true, true, true, true, true, true, true, true, true, true, true, false] rfl rfl (any_of HT_.out (by kernel_rfl)) (fun _ _ _ h => h) (Or.inl ⟨by rfl, ?_⟩) ?_ ?_
  rotate_left; · exact zqB
  rotate_left; · exact zqA
  refine last_ (i := 14) (N := none) #[true, true, true, true, true, true, true, true, true, true, true, true, true, true, true] rfl rfl (one_of HT_.out (by kernel_rfl)) (by decide) (fun K hK => ?_)
  obtain ⟨s0, s1, s2⟩ := hHeld
  have hfs := (HB.out.frozen (p := ⟨Bs, 0, none⟩) hlt).trans hf0
  refine skip_ (w1 := ?_) (by rfl) rfl ?_ ?_
  rotate_left
  ·
   go_simp
   rfl
  refine hK.out _ _ ?_
  clear hK K
  refine done_ (done_of HT_.out (by kernel_rfl)) ?_
  go_wp2
  go_end0
  exact ⟨rfl, _, HB.out, rfl⟩
 | false =>
  go_enter Try.func98, Try.ntmps98
  go_wp2_with fail
  refine start_ (n := 15) (S := fun w' => w'.cell? ⟨Bs, 0, none⟩ = some (.bool false) ∧ w'.cell? ⟨Ba, 0, none⟩ = some (.slice A0 l0.length c0) ∧ w'.cell? ⟨Bb, 0, none⟩ = some (.slice A1 l1.length c1)) (ds := [14]) #[false, false, false, false, false, false, false, false, false, false, false, false, false, false, false] (by kernel_rfl) rfl rfl ⟨(cell_drewS s0), (cell_drewS s1), (cell_drewS s2)⟩ (fun hHeld => ?_)
  refine with_tabW impl_SameStates.c.tab0 impl_SameStates.c.bits0 (fun HT_ HW_ => ?_)
  generalize W.drew = w1 at HB hHeld ⊢
  refine take_ (i := 0) (N := some 9) (v := ?_) (a' := ?_) #[true, false, false, false, false, false, false, false, false, false, false, false, false, false, false] rfl rfl (take_ofW HT_.out HW_.out (by kernel_rfl)) (fun _ _ _ h => h) (Or.inl ⟨by rfl, ?_⟩) hHeld ?_ ?_
  rotate_left
  ·
   rintro w' ⟨s0, s1, s2⟩
   go_simp
   with_reducible rfl
  rotate_left; · exact zqA
  refine pure_ (i := 1) (N := some 10) (v := ?_) (a' := ?_) #[true, true, false, false, false, false, false, false, false, false, false, false, false, false, false] rfl rfl (any_of HT_.out (by kernel_rfl)) (fun _ _ _ h => h) (Or.inl ⟨by rfl, ?_⟩) ?_ ?_
  rotate_left; · exact zqB
  rotate_left; · exact zqA
  refine pure_ (i := 2) (N := some 11) (v := undef) (a' := ?_) #[true, true, true, false, false, false, false, false, false, false, false, false, false, false, false] rfl rfl (any_of HT_.out (by kernel_rfl)) (fun _ _ _ h => h) (Or.inr ⟨by rfl, rfl⟩) ?_ ?_
  rotate_left; · exact zqA
  refine pure_ (i := 3) (N := some 12) (v := undef) (a' := ?_) #[true, true, true, true, false, false, false, false, false, false, false, false, false, false, false] rfl rfl (any_of HT_.out (by kernel_rfl)) (fun _ _ _ h => h) (Or.inr ⟨by rfl, rfl⟩) ?_ ?_
  rotate_left; · exact zqA
  refine pure_ (i := 4) (N := some 13) (v := undef) (a' := ?_) #[true, true, true, true, true, false, false, false, false, false, false, false, false, false, false] rfl rfl (any_of HT_.out (by kernel_rfl)) (fun _ _ _ h => h) (Or.inr ⟨by rfl, rfl⟩) ?_ ?_
  rotate_left; · exact zqA
  refine pure_ (i := 5) (N := some 14) (v := undef) (a' := ?_) #[true, true, true, true, true, true, false, false, false, false, false, false, false, false, false] rfl rfl (any_of HT_.out (by kernel_rfl)) (fun _ _ _ h => h) (Or.inr ⟨by rfl, rfl⟩) ?_ ?_
  rotate_left; · exact zqA
  refine pure_ (i := 6) (N := some 15) (v := undef) (a' := ?_) #[true, true, true, true, true, true, true, false, false, false, false, false, false, false, false] rfl rfl (any_of HT_.out (by kernel_rfl)) (fun _ _ _ h => h) (Or.inr ⟨by rfl, rfl⟩) ?_ ?_
  rotate_left; · exact zqA
  refine pure_ (i := 7) (N := some 16) (v := undef) (a' := ?_) #[true, true, true, true, true, true, true, true, false, false, false, false, false, false, false] rfl rfl (any_of HT_.out (by kernel_rfl)) (fun _ _ _ h => h) (Or.inr ⟨by rfl, rfl⟩) ?_ ?_
  rotate_left; · exact zqA
  refine pure_ (i := 8) (N := some 17) (v := undef) (a' := ?_) #[true, true, true, true, true, true, true, true, true, false, false, false, false, false, false] rfl rfl (any_of HT_.out (by kernel_rfl)) (fun _ _ _ h => h) (Or.inr ⟨by rfl, rfl⟩) ?_ ?_
  rotate_left; · exact zqA
  refine pure_ (i := 9) (N := some 18) (v := undef) (a' := ?_) #[true, true, true, true, true, true, true, true, true, true, false, false, false, false, false] rfl rfl (any_of HT_.out (by kernel_rfl)) (fun _ _ _ h => h) (Or.inr ⟨by rfl, rfl⟩) ?_ ?_
  rotate_left; · exact zqA
  refine pure_ (i := 10) (N := some 19) (v := undef) (a' := ?_) #[true, true, true, true, true, true, true, true, true, true, true, false, false, false, false] rfl rfl (any_of HT_.out (by kernel_rfl)) (fun _ _ _ h => h) (Or.inr ⟨by rfl, rfl⟩) ?_ ?_
  rotate_left; · exact zqA
  refine pure_ (i := 11) (N := some 20) (v := undef) (a' := ?_) #[true, true, true, true, true, true, true, true, true, true, true, true, false, false, false] rfl rfl (any_of HT_.out (by kernel_rfl)) (fun _ _ _ h => h) (Or.inr ⟨by rfl, rfl⟩) ?_ ?_
  rotate_left; · exact zqA
  refine pure_ (i := 12) (N := some 21) (v := undef) (a' := ?_) #[true, true, true, true, true, true, true, true, true, true, true, true, true, false, false] rfl rfl (any_of HT_.out (by kernel_rfl)) (fun _ _ _ h => h) (Or.inr ⟨by rfl, rfl⟩) ?_ ?_
  rotate_left; · exact zqA
  refine pure_ (i := 13) (N := some 22) (v := ?_) (a' := ?_) #[true, true, true, true, true, true, true, true, true, true, true, true, true, true, false] rfl rfl (any_of HT_.out (by kernel_rfl)) (fun _ _ _ h => h) (Or.inl ⟨by rfl, ?_⟩) ?_ ?_
  rotate_left; · exact zqB
  rotate_left; · exact zqA
  refine last_ (i := 14) (N := none) #[true, true, true, true, true, true, true, true, true, true, true, true, true, true, true] rfl rfl (one_of HT_.out (by kernel_rfl)) (by decide) (fun K hK => ?_)
  obtain ⟨s0, s1, s2⟩ := hHeld
  have hfs := (HB.out.frozen (p := ⟨Bs, 0, none⟩) hlt).trans hf0
  refine skip_ (w1 := ?_) (by rfl) rfl ?_ ?_
  rotate_left
  ·
   go_simp
   rfl
  refine hK.out _ _ ?_
  clear hK K
  refine done_ (done_of HT_.out (by kernel_rfl)) ?_
  go_wp2
  go_end0
  exact ⟨rfl, _, HB.out, rfl⟩
/-- Every topic, area and hour is visited, one behind the other. -/
theorem forAllStates.calls (g : Nat) (lb : Array Value) (eg : ∀ args w, (callFunc g args).run Try.prog w = .ok (.enter g args) w) (J : Nat → World → Prop)
  (step : ∀ (n t a h : Nat) (W : World), J n W → n = t * 2160 + a * 240 + h → t < 5 → a < 9 → h < 240 → Calls Try.prog g (#[.int .i64 ((t : Int) + 1), .int .i64 ((a : Int) + 1), .int .i64 (h : Int)] ++ lb) W fun e w' => e = .returned (.tuple #[]) ∧ J (n + 1) w')
  (w : World) (h0 : J 0 w) : Calls Try.prog 97 #[.func (.func g) #[] lb] w fun e w' => e = .returned (.tuple #[]) ∧ J 10800 w' := by
 have HS := Aside0.mk step
 have HJ := Aside0.mk h0
 clear step h0
 go_enter Try.func97, Try.ntmps97
 go_wp2
 go_loopg [2, 3, 4, 13] 6 (fun gg s2 _ _ _ wr => ∃ tt : Nat, tt ≤ 5 ∧ 6 - tt ≤ gg ∧ s2 = .int .i64 ((tt : Int) + 1) ∧ Aside0 (J (tt * 2160) wr))
 case atStart => exact ⟨0, by omega, by omega, rfl, ⟨by rw [Nat.zero_mul]; exact HJ.out⟩⟩
 case round =>
  clear HJ
  obtain ⟨tt, h1, h2, rfl, HJ⟩ := hrel
  by_cases ht : tt < 5
  ·
   have ht' : (tt : Int) + 1 ≤ 5 := by omega
   go_wp2
   go_loopg [3, 4, 13] 10 (fun gg s3 _ _ wr => ∃ aa : Nat, aa ≤ 9 ∧ 10 - aa ≤ gg ∧ s3 = .int .i64 ((aa : Int) + 1) ∧ Aside0 (J (tt * 2160 + aa * 240) wr))
   case atStart => exact ⟨0, by omega, by omega, rfl, ⟨by rw [Nat.zero_mul, Nat.add_zero]; exact HJ.out⟩⟩
   case round =>
    clear HJ
    obtain ⟨aa, h3, h4, rfl, HJ⟩ := hrel
    by_cases ha : aa < 9
    ·
     have ha' : (aa : Int) + 1 ≤ 9 := by omega
     go_wp2
     go_loopg [4, 13] 241 (fun gg _ s13 wr => ∃ hh : Nat, hh ≤ 240 ∧ 241 - hh ≤ gg ∧ s13 = .int .i64 (hh : Int) ∧ Aside0 (J (tt * 2160 + aa * 240 + hh) wr))
     case atStart => exact ⟨0, by omega, by omega, rfl, ⟨by rw [Nat.add_zero]; exact HJ.out⟩⟩
     case round =>
      clear HJ
      obtain ⟨hh, h5, h6, rfl, HJ⟩ := hrel
      by_cases hq : hh < 240
      ·
       have hq' : (hh : Int) < 240 := by omega
       have hcall := HS.out (tt * 2160 + aa * 240 + hh) tt aa hh _ HJ.out rfl ht ha hq
       go_wp2_with (go_at_fn g; refine hcall.mono ?_; rintro e w' ⟨rfl, hj⟩)
       go_roundg (241 - (hh + 1))
       case measure => omega
       case rel => exact ⟨hh + 1, by omega, by omega, by go_num, ⟨by rw [← Nat.add_assoc]; exact hj⟩⟩
      ·
       have hq' : ¬ (hh : Int) < 240 := by omega
       have : hh = 240 := by omega
       subst this
       go_wp2
       go_roundg (10 - (aa + 1))
       case measure => omega
       case rel => exact ⟨aa + 1, by omega, by omega, by go_num, ⟨by have := HJ.out; rw [show tt * 2160 + (aa + 1) * 240 = tt * 2160 + aa * 240 + 240 by omega]; exact this⟩⟩
    ·
     have ha' : ¬ (aa : Int) + 1 ≤ 9 := by omega
     have : aa = 9 := by omega
     subst this
     go_wp2
     go_roundg (6 - (tt + 1))
     case measure => omega
     case rel => exact ⟨tt + 1, by omega, by omega, by go_num, ⟨by have := HJ.out; rw [show (tt + 1) * 2160 = tt * 2160 + 9 * 240 by omega]; exact this⟩⟩
  ·
   have ht' : ¬ (tt : Int) + 1 ≤ 5 := by omega
   have : tt = 5 := by omega
   subst this
   go_wp2
   go_end0
   exact ⟨rfl, HJ.out⟩
/-- The two lists have the same level at the n-th topic, area and hour. -/
def sameAt (l0 l1 : List S31) (n : Nat) : Bool := lvl l0 ((n / 2160 : Nat) + 1 : Int) ((n % 2160 / 240 : Nat) + 1 : Int) ((n % 240 : Nat) : Int) == lvl l1 ((n / 2160 : Nat) + 1 : Int) ((n % 2160 / 240 : Nat) + 1 : Int) ((n % 240 : Nat) : Int)
def sameUpTo (l0 l1 : List S31) (n : Nat) : Bool := (List.range n).all (sameAt l0 l1)
theorem sameUpTo_succ (l0 l1 : List S31) (n t a h : Nat) (hn : n = t * 2160 + a * 240 + h) (ht : t < 5) (ha : a < 9) (hh : h < 240) : sameUpTo l0 l1 (n + 1) = (sameUpTo l0 l1 n && (lvl l0 ((t : Int) + 1) ((a : Int) + 1) (h : Int) == lvl l1 ((t : Int) + 1) ((a : Int) + 1) (h : Int))) := by
 unfold sameUpTo
 rw [List.range_succ, List.all_append]
 congr 1
 have e1 : n / 2160 = t := by omega
 have e2 : n % 2160 / 240 = a := by omega
 have e3 : n % 240 = h := by omega
 simp [sameAt, e1, e2, e3]
def impl_SameStates.f (k : Nat) (l0 l1 : List S31) : Option (Bool × Bool) := if l0.length ≤ 4611686018427387904 ∧ l1.length ≤ 4611686018427387904 then (impl_IsConsistent.f k l0).bind fun t => (if t = true then ((impl_IsConsistent.f k l1).bind fun u => (if u = true then (some (sameUpTo l0 l1 10800, true)) else (some (false, false)))) else (some (false, false))) else none
theorem impl_SameStates.mono : ∀ a0 a1 k, LeO (impl_SameStates.f k a0 a1) (impl_SameStates.f (k + 1) a0 a1) := by
 intro a0 a1 k
 unfold impl_SameStates.f
 exact LeO.ite (LeO.bind (impl_IsConsistent.mono a0 k) (fun _ => LeO.ite (LeO.bind (impl_IsConsistent.mono a1 k) (fun _ => LeO.refl _)) (LeO.refl _))) (LeO.none _)
/-- What holds between two visits. -/
structure impl_SameStates.J (l0 l1 : List S31) (A0 A1 : Option Addr) (c0 c1 Bs Ba Bb : Nat) (w : World) (n : Nat) (W : World) : Prop where
 below : Below w.heap.size w W
 a : W.heap[Ba]? = some (.cells #[.slice A0 l0.length c0] 24 (0, 0))
 b : W.heap[Bb]? = some (.cells #[.slice A1 l1.length c1] 24 (0, 0))
 s : W.heap[Bs]? = some (.cells #[.bool (sameUpTo l0 l1 n)] 4 (0, 0))
theorem lt_of_block {W : World} {B : Nat} {o : Obj} (h : W.heap[B]? = some o) : B < W.heap.size := by
 rcases Nat.lt_or_ge B W.heap.size with h' | h'
 ·
  exact h'
 ·
  rw [Array.getElem?_eq_none h'] at h; cases h
theorem impl_SameStates.step (A0 A1 : Option Addr) (c0 c1 : Nat) (l0 l1 : List S31) (Bs Ba Bb : Nat) (w : World) (hr0 : Kd.C k31 w A0 l0.length l0) (hc0 : l0.length ≤ c0) (hr1 : Kd.C k31 w A1 l1.length l1) (hc1 : l1.length ≤ c1)
  (h0 : l0.length ≤ 4611686018427387904) (h1 : l1.length ≤ 4611686018427387904) (hs : w.heap.size ≤ Bs) (ha : Ba ≠ Bs) (hb : Bb ≠ Bs)
  (n t a h : Nat) (W : World) (HJ : impl_SameStates.J l0 l1 A0 A1 c0 c1 Bs Ba Bb w n W) (hn : n = t * 2160 + a * 240 + h) (ht : t < 5) (hha : a < 9) (hh : h < 240) :
  Calls Try.prog 98 (#[.int .i64 ((t : Int) + 1), .int .i64 ((a : Int) + 1), .int .i64 (h : Int)] ++ #[.pointer (some ⟨Bs, 0, none⟩), .pointer (some ⟨Ba, 0, none⟩), .pointer (some ⟨Bb, 0, none⟩)]) W fun e w' => e = .returned (.tuple #[]) ∧ impl_SameStates.J l0 l1 A0 A1 c0 c1 Bs Ba Bb w (n + 1) w' := by
 refine (impl_SameStates.visit A0 A1 c0 c1 l0 l1 Bs Ba Bb _ _ _ _ W (Kd.C_below hr0 HJ.below) hc0 (Kd.C_below hr1 HJ.below) hc1 HJ.s HJ.a HJ.b h0 h1).mono ?_
 rintro e w' ⟨rfl, w2, hb2, rfl⟩
 refine ⟨rfl, ⟨?_, ?_, ?_, ?_⟩⟩
 ·
  exact (HJ.below.trans (hb2.mono HJ.below.size)).setCell hs _
 ·
  rw [Below.heap_setCell _ _ _ _ ha]
  exact (hb2.block Ba (lt_of_block HJ.a)).trans HJ.a
 ·
  rw [Below.heap_setCell _ _ _ _ hb]
  exact (hb2.block Bb (lt_of_block HJ.b)).trans HJ.b
 ·
  rw [sameUpTo_succ l0 l1 n t a h hn ht hha hh]
  exact blk_put (cs := #[.bool (sameUpTo l0 l1 n)]) ((hb2.block Bs (lt_of_block HJ.s)).trans HJ.s) 0 _ rfl
set_option maxHeartbeats 2000000 in
set_option maxRecDepth 100000 in
theorem impl_SameStates.calls (k : Nat) (A0 : Option Addr) (c0 : Nat) (l0 : List S31) (A1 : Option Addr) (c1 : Nat) (l1 : List S31) (r1 : Bool) (r2 : Bool) (w : World) (hr0 : Kd.C k31 w A0 l0.length l0) (hc0 : l0.length ≤ c0) (hr1 : Kd.C k31 w A1 l1.length l1) (hc1 : l1.length ≤ c1) (h : impl_SameStates.f k l0 l1 = some (r1, r2)) :
  Calls Try.prog 46 #[.slice A0 l0.length c0, .slice A1 l1.length c1] w fun e w' => e = .returned (.tuple #[.bool r1, .bool r2]) ∧ Below w.heap.size w w' := by
 unfold impl_SameStates.f at h
 by_cases hl : l0.length ≤ 4611686018427387904 ∧ l1.length ≤ 4611686018427387904
 case neg =>
  rw [if_neg hl] at h
  cases h
 rw [if_pos hl] at h
 obtain ⟨t, ht, h⟩ := Option.bind_eq_some_iff.1 h
 have HT := Aside0.mk ht
 clear ht
 have eg : ∀ args w, (callFunc 98 args).run Try.prog w = .ok (.enter 98 args) w := enters_of Try.func98 (by kernel_rfl) rfl
 have EG := Aside0.mk eg
 clear eg
 have hB0 : Below w.heap.size w ((w.alloc (.cells #[.slice A0 l0.length c0] 24)).alloc (.cells #[.slice A1 l1.length c1] 24)) := ((Below.refl w.heap.size w).alloc (Nat.le_refl _) _).alloc (by simp) _
 have hBa : ((w.alloc (.cells #[.slice A0 l0.length c0] 24)).alloc (.cells #[.slice A1 l1.length c1] 24)).heap[w.heap.size]? = some (.cells #[.slice A0 l0.length c0] 24 (0, 0)) := by
  rw [Below.heap_alloc _ _ _ (by simp)]
  exact blk_new _ _
 have hBb : ((w.alloc (.cells #[.slice A0 l0.length c0] 24)).alloc (.cells #[.slice A1 l1.length c1] 24)).heap[w.heap.size + 1]? = some (.cells #[.slice A1 l1.length c1] 24 (0, 0)) := by
  have e := blk_new (w.alloc (.cells #[.slice A0 l0.length c0] 24)) (.cells #[.slice A1 l1.length c1] 24)
  simpa using e
 have HR0 := Aside0.mk hr0
 have HC0 := Aside0.mk hc0
 have HR1 := Aside0.mk hr1
 have HC1 := Aside0.mk hc1
 have HBl := Aside0.mk hl
 have HB := Aside0.mk hB0
 have HA := Aside0.mk hBa
 have HBb := Aside0.mk hBb
 clear hr0 hc0 hr1 hc1 hl hB0 hBa hBb
 cases t with
 | false =>
  rw [if_neg (by simp)] at h
  have e := Option.some.inj h
  obtain ⟨rfl, rfl⟩ := Prod.mk.inj e
  clear h e
  go_enter Try.func46, Try.ntmps46
  go_wp2_with (go_at_call 12; refine (impl_IsConsistent.calls k A0 c0 l0 false _ (Kd.C_below HR0.out HB.out) HC0.out HT.out).mono ?_; rintro e w1 ⟨rfl, hb⟩)
  go_ret2
  exact ⟨rfl, HB.out.trans (hb.mono HB.out.size)⟩
 | true =>
  rw [if_pos rfl] at h
  obtain ⟨u, hu, h⟩ := Option.bind_eq_some_iff.1 h
  have HU := Aside0.mk hu
  clear hu
  cases u with
  | false =>
   rw [if_neg (by simp)] at h
   have e := Option.some.inj h
   obtain ⟨rfl, rfl⟩ := Prod.mk.inj e
   clear h e
   go_enter Try.func46, Try.ntmps46
   go_wp2_with fail
   refine (impl_IsConsistent.calls k A0 c0 l0 true _ (Kd.C_below HR0.out HB.out) HC0.out HT.out).mono ?_
   rintro e w1 ⟨rfl, hb⟩
   have hB1 := (hb.block _ (lt_of_block HBb.out)).trans HBb.out
   have d : w1.cell? ⟨w.heap.size + 1, 0, none⟩ = some (.slice A1 l1.length c1) := by simp [World.cell?, hB1]
   have HB1 := Aside0.mk (HB.out.trans (hb.mono HB.out.size))
   clear hB1 hb
   go_wp2_with fail
   refine (impl_IsConsistent.calls k A1 c1 l1 false _ (Kd.C_below HR1.out HB1.out) HC1.out HU.out).mono ?_
   rintro e w2 ⟨rfl, hb⟩
   go_wp2
   go_ret2
   exact ⟨rfl, HB1.out.trans (hb.mono HB1.out.size)⟩
  | true =>
   rw [if_pos rfl] at h
   have e := Option.some.inj h
   obtain ⟨rfl, rfl⟩ := Prod.mk.inj e
   clear h e
   go_enter Try.func46, Try.ntmps46
   go_wp2_with fail
   refine (impl_IsConsistent.calls k A0 c0 l0 true _ (Kd.C_below HR0.out HB.out) HC0.out HT.out).mono ?_
   rintro e w1 ⟨rfl, hb⟩
   have hA1 := (hb.block _ (lt_of_block HA.out)).trans HA.out
   have hB1 := (hb.block _ (lt_of_block HBb.out)).trans HBb.out
   have d : w1.cell? ⟨w.heap.size + 1, 0, none⟩ = some (.slice A1 l1.length c1) := by simp [World.cell?, hB1]
   have HB1 := Aside0.mk (HB.out.trans (hb.mono HB.out.size))
   have HA1 := Aside0.mk hA1
   have HBb1 := Aside0.mk hB1
   clear hB1 hb hA1
   go_wp2_with fail
   refine (impl_IsConsistent.calls k A1 c1 l1 true _ (Kd.C_below HR1.out HB1.out) HC1.out HU.out).mono ?_
   rintro e w2 ⟨rfl, hb⟩
   have hA2 := (hb.block _ (lt_of_block HA1.out)).trans HA1.out
   have hB2 := (hb.block _ (lt_of_block HBb1.out)).trans HBb1.out
   have HB2 := Aside0.mk (HB1.out.trans (hb.mono HB1.out.size))
   have HA2 := Aside0.mk hA2
   have HBb2 := Aside0.mk hB2
   clear hB2 hb hA2 d
   have hla := lt_of_block HA2.out
   have hlb := lt_of_block HBb2.out
   have h00 : impl_SameStates.J l0 l1 A0 A1 c0 c1 w2.heap.size w.heap.size (w.heap.size + 1) w 0 (w2.alloc (.cells #[.bool true] 4)) :=
    ⟨below_alloc HB2.out _, blk_alloc HA2.out _, blk_alloc HBb2.out _, blk_new _ _⟩
   have HJ0 := Aside0.mk h00
   clear h00
   have HC := Aside0.mk (forAllStates.calls 98 #[.pointer (some ⟨w2.heap.size, 0, none⟩), .pointer (some ⟨w.heap.size, 0, none⟩), .pointer (some ⟨w.heap.size + 1, 0, none⟩)] EG.out (impl_SameStates.J l0 l1 A0 A1 c0 c1 w2.heap.size w.heap.size (w.heap.size + 1) w)
    (fun n t a h W HJ hn ht ha hh => impl_SameStates.step A0 A1 c0 c1 l0 l1 w2.heap.size w.heap.size (w.heap.size + 1) w HR0.out HC0.out HR1.out HC1.out HBl.out.1 HBl.out.2 HB2.out.size (by omega) (by omega) n t a h W HJ hn ht ha hh) _ HJ0.out)
   go_wp2_with fail
   refine HC.out.mono ?_
   rintro e w3 ⟨rfl, hj⟩
   have d3 : w3.cell? ⟨w2.heap.size, 0, none⟩ = some (.bool (sameUpTo l0 l1 10800)) := by simp [World.cell?, hj.s]
   have HJ := Aside0.mk hj
   clear hj
   go_wp2
   go_ret2
   exact ⟨rfl, HJ.out.below⟩

/-! ### spec_DrawSameStates: function 47 -/
mutual
def spec_DrawSameStates.j0 : Nat → List (S31) → List (S31) → List (S31) → Bool → List Int → Int → Int → Option ((List (S31)) × (List (S31)))
 | 0, _, _, _, _, _, _, _ => none
 | k + 1, x5, x6, x7, x27, x976000, x976001, x976002 => if x27 = true then (spec_DrawSameStates.j1 k x5 x7 x976000 x976001 x976002) else (spec_DrawSameStates.j1 k x5 x6 x976000 x976001 x976002)
def spec_DrawSameStates.j1 : Nat → List (S31) → List (S31) → List Int → Int → Int → Option ((List (S31)) × (List (S31)))
 | 0, _, _, _, _, _ => none
 | k + 1, x5, x6, x976000, x976001, x976002 => if (x6.length : Int) > 0 then ((spec_l1Cur_one.f x976000 x976001 x976002 4).bind fun bt994 => (spec_DrawSameStates.j2 k x5 x6 bt994.1)) else (spec_DrawSameStates.j2 k x5 x6 false)
def spec_DrawSameStates.j2 : Nat → List (S31) → List (S31) → Bool → Option ((List (S31)) × (List (S31)))
 | 0, _, _, _ => none
 | k + 1, x5, x6, x35 => if x35 = true then (if 0 < (x6.length : Int) then (some (x5, (x6.set (0 : Int).toNat (⟨(rd_T31 x6 0).f0, (rd_T31 x6 0).f1, wrap64 (1 + (Int.tmod ((rd_T31 x6 0).f2) 3)), (rd_T31 x6 0).f3, (rd_T31 x6 0).f4, (rd_T31 x6 0).f5⟩ : S31)))) else (none)) else (some (x5, x6))
end
def spec_DrawSameStates.f (k : Nat) (l0 : List Int) : Option ((List (S31)) × (List (S31))) := (spec_l1Cur_touching.f k l0 0 0).bind fun bt976 => ((some (([] : List (S31)) : List (S31))).bind fun y981 => (if y981.length + bt976.1.length < 2932031007402 then ((some (y981 ++ bt976.1 : List (S31))).bind fun y984 => ((spec_JoinWarnings.f k bt976.1).bind fun bt987 => (if bt987.2 = true then ((spec_l1Cur_one.f l0 bt976.2.1 bt976.2.2 2).bind fun bt991 => (spec_DrawSameStates.j0 k bt976.1 y984 bt987.1 bt991.1 l0 bt991.2.1 bt991.2.2)) else (spec_DrawSameStates.j0 k bt976.1 y984 bt987.1 false l0 bt976.2.1 bt976.2.2)))) else (none)))
theorem spec_DrawSameStates.mono_l : ∀ k, (∀ y0 y1 y2 y3 y4 y5 y6, LeO (spec_DrawSameStates.j0 k y0 y1 y2 y3 y4 y5 y6) (spec_DrawSameStates.j0 (k + 1) y0 y1 y2 y3 y4 y5 y6)) ∧ (∀ y0 y1 y2 y3 y4, LeO (spec_DrawSameStates.j1 k y0 y1 y2 y3 y4) (spec_DrawSameStates.j1 (k + 1) y0 y1 y2 y3 y4)) ∧ (∀ y0 y1 y2, LeO (spec_DrawSameStates.j2 k y0 y1 y2) (spec_DrawSameStates.j2 (k + 1) y0 y1 y2))
 | 0 => ⟨fun _ _ _ _ _ _ _ r h => by simp [spec_DrawSameStates.j0] at h, fun _ _ _ _ _ r h => by simp [spec_DrawSameStates.j1] at h, fun _ _ _ r h => by simp [spec_DrawSameStates.j2] at h⟩
 | k + 1 => by
  obtain ⟨ih0, ih1, ih2⟩ := spec_DrawSameStates.mono_l k
  refine ⟨?_, ?_, ?_⟩
  ·
   intro y0 y1 y2 y3 y4 y5 y6
   unfold spec_DrawSameStates.j0
   repeat' first
   | (with_reducible exact ih0 _ _ _ _ _ _ _)
   | (with_reducible exact ih1 _ _ _ _ _)
   | (with_reducible exact ih2 _ _ _)
   | (with_reducible exact spec_JoinWarnings.mono _ _)
   | (with_reducible exact spec_l1Cur_touching.mono _ _ _ _)
   | (with_reducible exact LeO.refl _)
   | (with_reducible exact LeO.none _)
   | (with_reducible refine LeO.ite ?_ ?_)
   | (with_reducible refine LeO.bind ?_ (fun _ => ?_))
   | exact ih0 _ _ _ _ _ _ _
   | exact ih1 _ _ _ _ _
   | exact ih2 _ _ _
   | exact spec_JoinWarnings.mono _ _
   | exact spec_l1Cur_touching.mono _ _ _ _
   | exact LeO.none _
   | refine LeO.ite ?_ ?_
   | refine LeO.bind ?_ (fun _ => ?_)
  ·
   intro y0 y1 y2 y3 y4
   unfold spec_DrawSameStates.j1
   repeat' first
   | (with_reducible exact ih0 _ _ _ _ _ _ _)
   | (with_reducible exact ih1 _ _ _ _ _)
   | (with_reducible exact ih2 _ _ _)
   | (with_reducible exact spec_JoinWarnings.mono _ _)
   | (with_reducible exact spec_l1Cur_touching.mono _ _ _ _)
   | (with_reducible exact LeO.refl _)
   | (with_reducible exact LeO.none _)
   | (with_reducible refine LeO.ite ?_ ?_)
   | (with_reducible refine LeO.bind ?_ (fun _ => ?_))
   | exact ih0 _ _ _ _ _ _ _
   | exact ih1 _ _ _ _ _
   | exact ih2 _ _ _
   | exact spec_JoinWarnings.mono _ _
   | exact spec_l1Cur_touching.mono _ _ _ _
   | exact LeO.none _
   | refine LeO.ite ?_ ?_
   | refine LeO.bind ?_ (fun _ => ?_)
  ·
   intro y0 y1 y2
   unfold spec_DrawSameStates.j2
   repeat' first
   | (with_reducible exact ih0 _ _ _ _ _ _ _)
   | (with_reducible exact ih1 _ _ _ _ _)
   | (with_reducible exact ih2 _ _ _)
   | (with_reducible exact spec_JoinWarnings.mono _ _)
   | (with_reducible exact spec_l1Cur_touching.mono _ _ _ _)
   | (with_reducible exact LeO.refl _)
   | (with_reducible exact LeO.none _)
   | (with_reducible refine LeO.ite ?_ ?_)
   | (with_reducible refine LeO.bind ?_ (fun _ => ?_))
   | exact ih0 _ _ _ _ _ _ _
   | exact ih1 _ _ _ _ _
   | exact ih2 _ _ _
   | exact spec_JoinWarnings.mono _ _
   | exact spec_l1Cur_touching.mono _ _ _ _
   | exact LeO.none _
   | refine LeO.ite ?_ ?_
   | refine LeO.bind ?_ (fun _ => ?_)
theorem spec_DrawSameStates.mono : ∀ a0 k, LeO (spec_DrawSameStates.f k a0) (spec_DrawSameStates.f (k + 1) a0) := by
 intro a0 k
 obtain ⟨ih0, ih1, ih2⟩ := spec_DrawSameStates.mono_l k
 unfold spec_DrawSameStates.f
 repeat' first
   | (with_reducible exact ih0 _ _ _ _ _ _ _)
   | (with_reducible exact ih1 _ _ _ _ _)
   | (with_reducible exact ih2 _ _ _)
   | (with_reducible exact spec_JoinWarnings.mono _ _)
   | (with_reducible exact spec_l1Cur_touching.mono _ _ _ _)
   | (with_reducible exact LeO.refl _)
   | (with_reducible exact LeO.none _)
   | (with_reducible refine LeO.ite ?_ ?_)
   | (with_reducible refine LeO.bind ?_ (fun _ => ?_))
   | exact ih0 _ _ _ _ _ _ _
   | exact ih1 _ _ _ _ _
   | exact ih2 _ _ _
   | exact spec_JoinWarnings.mono _ _
   | exact spec_l1Cur_touching.mono _ _ _ _
   | exact LeO.none _
   | refine LeO.ite ?_ ?_
   | refine LeO.bind ?_ (fun _ => ?_)
set_option maxHeartbeats 8000000 in
set_option maxRecDepth 100000 in
theorem spec_DrawSameStates.calls (k : Nat) (A0 : Option Addr) (c0 : Nat) (l0 : List Int) (r1 : List (S31)) (r2 : List (S31)) (w : World) (hr0 : Kd.C (Kd.int .u8) w A0 l0.length l0) (hc0 : l0.length ≤ c0) (h : spec_DrawSameStates.f k l0 = some (r1, r2)) :
  Calls Try.prog 47 #[.slice A0 l0.length c0] w fun e w' => ∃ v0_ v1_ : Value, e = .returned (.tuple #[v0_, v1_]) ∧ Kd.R k31 31 w' w.heap.size (fun k_ => some k_ ≠ (v1_ : Value).ownBlock) v0_ r1 ∧ Kd.R k31 31 w' w.heap.size (fun k_ => some k_ ≠ (v0_ : Value).ownBlock) v1_ r2 ∧ Below w.heap.size w w' := by
 have hu72 := Try.underlying72
 have hu31 := Try.underlying31
 have HR0 := Aside0.mk hr0
 have HC0 := Aside0.mk hc0
 clear hr0 hc0
 have HB := Aside0.mk (Below.refl w.heap.size w)
 have H : ((spec_l1Cur_touching.f k l0 0 0).bind fun bt976 => ((some (([] : List (S31)) : List (S31))).bind fun y981 => (if y981.length + bt976.1.length < 2932031007402 then ((some (y981 ++ bt976.1 : List (S31))).bind fun y984 => ((spec_JoinWarnings.f k bt976.1).bind fun bt987 => (if bt987.2 = true then ((spec_l1Cur_one.f l0 bt976.2.1 bt976.2.2 2).bind fun bt991 => (spec_DrawSameStates.j0 k bt976.1 y984 bt987.1 bt991.1 l0 bt991.2.1 bt991.2.2)) else (spec_DrawSameStates.j0 k bt976.1 y984 bt987.1 false l0 bt976.2.1 bt976.2.2)))) else (none)))) = some (r1, r2) := h
 clear h
 replace H := Option.bind_eq_some_iff.mp H
 obtain ⟨⟨t976, t979, t980⟩, A20, H⟩ := H
 replace H : ((some (([] : List (S31)) : List (S31))).bind fun y981 => (if y981.length + t976.length < 2932031007402 then ((some (y981 ++ t976 : List (S31))).bind fun y984 => ((spec_JoinWarnings.f k t976).bind fun bt987 => (if bt987.2 = true then ((spec_l1Cur_one.f l0 t979 t980 2).bind fun bt991 => (spec_DrawSameStates.j0 k t976 y984 bt987.1 bt991.1 l0 bt991.2.1 bt991.2.2)) else (spec_DrawSameStates.j0 k t976 y984 bt987.1 false l0 t979 t980)))) else (none))) = some (r1, r2) := H
 have A2 := Aside0.mk A20
 clear A20
 obtain ⟨y981, hy981⟩ : ∃ y_ : List (S31), y_ = (([] : List (S31))) := ⟨_, rfl⟩
 replace H : (if y981.length + t976.length < 2932031007402 then ((some (y981 ++ t976 : List (S31))).bind fun y984 => ((spec_JoinWarnings.f k t976).bind fun bt987 => (if bt987.2 = true then ((spec_l1Cur_one.f l0 t979 t980 2).bind fun bt991 => (spec_DrawSameStates.j0 k t976 y984 bt987.1 bt991.1 l0 bt991.2.1 bt991.2.2)) else (spec_DrawSameStates.j0 k t976 y984 bt987.1 false l0 t979 t980)))) else (none)) = some (r1, r2) := zqH hy981 H
 have Ny981 := Aside0.mk hy981
 clear hy981
 by_cases c3 : y981.length + t976.length < 2932031007402
 case neg =>
  rw [if_neg c3] at H
  exact absurd H (by simp)
 rw [if_pos c3] at H
 have LMc3 := Aside0.mk c3
 clear c3
 obtain ⟨y984, hy984⟩ : ∃ y_ : List (S31), y_ = (y981 ++ t976) := ⟨_, rfl⟩
 replace H : ((spec_JoinWarnings.f k t976).bind fun bt987 => (if bt987.2 = true then ((spec_l1Cur_one.f l0 t979 t980 2).bind fun bt991 => (spec_DrawSameStates.j0 k t976 y984 bt987.1 bt991.1 l0 bt991.2.1 bt991.2.2)) else (spec_DrawSameStates.j0 k t976 y984 bt987.1 false l0 t979 t980))) = some (r1, r2) := zqH hy984 H
 have Ny984 := Aside0.mk hy984
 clear hy984
 replace H := Option.bind_eq_some_iff.mp H
 obtain ⟨⟨t987, t988⟩, A40, H⟩ := H
 replace H : (if t988 = true then ((spec_l1Cur_one.f l0 t979 t980 2).bind fun bt991 => (spec_DrawSameStates.j0 k t976 y984 t987 bt991.1 l0 bt991.2.1 bt991.2.2)) else (spec_DrawSameStates.j0 k t976 y984 t987 false l0 t979 t980)) = some (r1, r2) := H
 have A4 := Aside0.mk A40
 clear A40
 have HC5 := Aside0.mk H
 clear H
 go_enter Try.func47, Try.ntmps47
 go_upto_region 5 with (first | ((with_reducible refine gate_dst (N := 12) rfl ?_); refine box_event ?hg (N := 12) ?hd (cs := #[.slice A0 l0.length c0, .int .i64 0, .int .u64 0]) (t := 72) ?hr ?_; (case hd => rfl); (case hg => rfl); (case hr => exact zqS); intro gb975 hg w6 hbox hb; have n0_ := Aside0.mk (below_step zq0 hb); have n1_ := Aside0.mk ((show IsS72 w w6 gb975 l0 0 0 from ⟨_, _, hbox, (by rw [hg]; exact (below_size zq0) : w.heap.size ≤ gb975), HR0.out⟩)); have n2_ := Aside0.mk ((by rw [hg]; exact (below_size zq0) : w.heap.size ≤ gb975)); have n3_ := n2_; clear HB; have HB := n0_; have HI975 := n1_; have GW975 := n2_; have GE975 := n3_; clear n0_ n1_ n2_ n3_; clear hb hbox hg) | ((with_reducible refine gate_callee (f := 76) rfl ?_); refine goesL_ (some 14) rfl rfl Try.func76 (by kernel_rfl) rfl #[.pointer (some ⟨gb975, 0, none⟩)] rfl zq1 ?_; (with_reducible refine (spec_l1Cur_touching.calls k gb975 l0 0 0 t976 t979 t980 w _ ?side1 ?side2 A2.out).mono ?_); (case side1 => exact zq23); (case side2 => exact zq16); rintro e w7 ⟨v977, rfl, ho0, hi, hb, hk⟩; refine ⟨_, rfl, ?_⟩; have n0_ := Aside0.mk (Kd.R_lower ho0 (below_size zq16)); have n1_ := Aside0.mk (hb); have n2_ := Aside0.mk (hi); clear HB; clear HI975; have HO978 := n0_; have HB := n1_; have HI975 := n2_; clear n0_ n1_ n2_; (try clear hb); (try clear hb2); (try clear hk); (try clear hi); (try clear ho0)) | ((with_reducible refine gate_dst (N := 15) rfl ?_); refine Kd.R_lit k31 _ 31 ?hg (N := 15) ?hd (xs := ([] : List (S31))) (inner := []) (ok := fun _ => True) (okp := fun _ => True) ?hr ?hp (fun _ hk => hk) trivial (Below.refl _ _) (Nat.le_refl _) (by simp) ?_; (case hd => rfl); (case hg => rfl); (case hr => exact zqS); (case hp => exact (Reps.none _ _)); intro v982 w8 ho9 hb hg_ hnew_; clear hg_ hnew_; (first | rw [← Ny981.out] at ho9 | (simp only [Int.reduceToNat] at ho9; rw [← Ny981.out] at ho9)); have n0_ := Aside0.mk (Kd.R_elder' (zqR HO978.out) (Kd.R_base ho9) hb); have n1_ := Aside0.mk (Kd.R_lower (Kd.R_new' ho9 (Kd.R_lt (zqR HO978.out))) (below_size zq16)); have n2_ := Aside0.mk (IsS72.below zq23 hb); have n3_ := Aside0.mk (below_step zq16 hb); clear HO978; clear HI975; clear HB; have HO978 := n0_; have HO983 := n1_; have HI975 := n2_; have HB := n3_; clear n0_ n1_ n2_ n3_; clear hb ho9; obtain ⟨Ao11, co11, eo11⟩ := Kd.R_slice HO978.out; subst eo11) | ((with_reducible refine gate_builtin (b := .append) (xs := #[.tmp 15, .tmp 16]) rfl ?_); at_builtin; refine Kd.R_append_rows k31 (w0 := w) w.heap.size rfl (.tmp 15) (.tmp 16) 24 31 (.agg #[(.int .i64 0), (.int .i64 0), (.int .i64 0), (.int .i64 0), (.int .i64 0), (.int .i64 0)]) 48 rfl Try.underlying24 info31 rfl (by decide) (by omega) v982 y981 t976 _ _ _ (fun k_ => some k_ ≠ (.slice Ao11 t976.length co11 : Value).ownBlock) (fun _ => False) rfl rfl ?aO ?aR (fun _ _ h => h) (fun _ h => h.elim) ?aF ?aB ?aS ?aL ?_; (case aR => exact zqC (Kd.R_reads' HO978.out).2.2); (case aB => exact zq16); (case aF => exact (fun k_ hk => Kd.fresh' (Kd.R_lt (zqR HO978.out)) k_ hk)); (case aO => exact (by (with_reducible repeat (first | apply Kd.R_alloc | apply Kd.R_drewN | apply Kd.R_drew)); exact Kd.R_mono HO983.out (fun _ hk => hk.2))); (case aS => exact (below_size zq16)); (case aL => have := LMc3.out; omega); intro v985 w10 ho hb hg hat; rw [← Ny984.out] at ho; have n0_ := Aside0.mk (IsS72.grown zq23 hg (IsS72.own_ne HI975.out HO983.out (by decide))); have n1_ := Aside0.mk (Kd.R_after (ok := (fun _ => True)) (zqR HO978.out) hg hat); have n2_ := Aside0.mk (hb); have n3_ := Aside0.mk (ho); clear HI975; clear HO978; clear HB; clear HO983; have HI975 := n0_; have HO978 := n1_; have HB := n2_; have HO986 := n3_; clear n0_ n1_ n2_ n3_; clear ho hb hg hat) | ((with_reducible refine gate_callee (f := 45) rfl ?_); refine goesL_ (some 20) rfl rfl Try.func45 (by kernel_rfl) rfl #[.slice Ao11 t976.length co11] rfl zq1 ?_; (with_reducible refine (spec_JoinWarnings.calls k _ _ t976 t987 t988 _ ?side1 ?side2 A4.out).mono ?_); (case side1 => exact zqC (Kd.R_reads' HO978.out).2.2); (case side2 => exact (Kd.R_reads' HO978.out).2.1); rintro e w12 ⟨v989, rfl, ho0, hb⟩; refine ⟨_, rfl, ?_⟩; have n0_ := Aside0.mk (Kd.R_elder' (zqR HO978.out) (Kd.R_base ho0) hb); have n1_ := Aside0.mk (Kd.R_elder' (zqR HO986.out) (Kd.R_base ho0) hb); have n2_ := Aside0.mk (Kd.R_lower (Kd.R_new' (Kd.R_new' ho0 (Kd.R_lt (zqR HO978.out))) (Kd.R_lt (zqR HO986.out))) (below_size zq16)); have n3_ := Aside0.mk (IsS72.below zq23 hb); have n4_ := Aside0.mk (below_step zq16 hb); clear HO978; clear HO986; clear HI975; clear HB; have HO978 := n0_; have HO986 := n1_; have HO990 := n2_; have HI975 := n3_; have HB := n4_; clear n0_ n1_ n2_ n3_ n4_; (try clear hb); (try clear hb2); (try clear hk); (try clear hi); (try clear ho0)))
 (try simp only [Act.put, List.setIfInBounds_toArray, List.set_cons_zero, List.set_cons_succ])
 go_cut [27] (fun v27 wc => ∃ (kq : Nat) (x27_4 : Bool) (x976001_4 : Int) (x976002_4 : Int), v27 = .bool x27_4 ∧ Aside0 (spec_DrawSameStates.j0 kq t976 y984 t987 x27_4 l0 x976001_4 x976002_4 = some (r1, r2)) ∧ Aside0 (kq ≤ k) ∧ Aside0 (Kd.R k31 31 wc w.heap.size (fun k_ => some k_ ≠ (v985 : Value).ownBlock ∧ some k_ ≠ (v989 : Value).ownBlock) (.slice Ao11 t976.length co11) t976) ∧ Aside0 (Kd.R k31 31 wc w.heap.size (fun k_ => some k_ ≠ ((.slice Ao11 t976.length co11) : Value).ownBlock ∧ some k_ ≠ (v989 : Value).ownBlock) v985 y984) ∧ Aside0 (Kd.R k31 31 wc w.heap.size (fun k_ => some k_ ≠ ((.slice Ao11 t976.length co11) : Value).ownBlock ∧ some k_ ≠ (v985 : Value).ownBlock) v989 t987) ∧ Aside0 (IsS72 w wc gb975 l0 x976001_4 x976002_4) ∧ Aside0 (Below w.heap.size w wc))
 case first =>
  have H := HC5.out
  clear HC5
  by_cases c13 : t988 = true
  case neg =>
   replace c13 := Bool.eq_false_iff.mpr c13
   subst c13
   have H1 : (spec_DrawSameStates.j0 k t976 y984 t987 false l0 t979 t980) = some (r1, r2) := by rw [if_neg (show ¬ (false = true) by decide)] at H; exact H
   clear H
   have H := H1
   clear H1
   have H' := Aside0.mk H
   clear H
   go_wp2
   go_meet
   case rel => exact ⟨_, (false), (t979), (t980), (by first | rfl | (simp; done) | (simp [*]; done)), H', ⟨by first | omega | exact Nat.le_refl _⟩, ⟨by (with_reducible repeat (first | apply Kd.R_alloc | apply Kd.R_drewN | apply Kd.R_drew)); exact Kd.R_mono HO978.out (fun _ hk => ⟨hk.1.2, hk.2⟩)⟩, ⟨zqR HO986.out⟩, ⟨by (with_reducible repeat (first | apply Kd.R_alloc | apply Kd.R_drewN | apply Kd.R_drew)); exact Kd.R_mono HO990.out (fun _ hk => ⟨hk.1.2, hk.2⟩)⟩, ⟨zq23⟩, ⟨zq16⟩⟩
  subst c13
  have H1 : ((spec_l1Cur_one.f l0 t979 t980 2).bind fun bt991 => (spec_DrawSameStates.j0 k t976 y984 t987 bt991.1 l0 bt991.2.1 bt991.2.2)) = some (r1, r2) := by rw [if_pos rfl] at H; exact H
  clear H
  have H := H1
  clear H1
  replace H := Option.bind_eq_some_iff.mp H
  obtain ⟨⟨t991, t992, t993⟩, A140, H⟩ := H
  replace H : (spec_DrawSameStates.j0 k t976 y984 t987 t991 l0 t992 t993) = some (r1, r2) := H
  have A14 := Aside0.mk A140
  clear A140
  have H' := Aside0.mk H
  clear H
  go_wp2_with (first | (go_at_call 99; (with_reducible refine (spec_l1Cur_one.calls gb975 l0 t979 t980 2 t991 t992 t993 w _ ?side1 ?side2 A14.out).mono ?_); (case side1 => exact zq23); (case side2 => exact zq16); rintro e w15 ⟨rfl, hi, hb, hk⟩; have n0_ := Aside0.mk (Kd.R_mono (Kd.R_keep (IsS72.apart (show IsS72 w _ gb975 l0 t979 t980 from by repeat (first | (with_reducible first | exact HI975.out | apply IsS72.alloc | apply IsS72.drewN | apply IsS72.drew | apply IsS72.set_1 | apply IsS72.set_2) | exact HI975.out)) (zqR HO978.out) (by decide)) hk (fun _ h => h.2)) (fun _ h => h.1)); have n1_ := Aside0.mk (Kd.R_mono (Kd.R_keep (IsS72.apart (show IsS72 w _ gb975 l0 t979 t980 from by repeat (first | (with_reducible first | exact HI975.out | apply IsS72.alloc | apply IsS72.drewN | apply IsS72.drew | apply IsS72.set_1 | apply IsS72.set_2) | exact HI975.out)) (zqR HO986.out) (by decide)) hk (fun _ h => h.2)) (fun _ h => h.1)); have n2_ := Aside0.mk (Kd.R_mono (Kd.R_keep (IsS72.apart (show IsS72 w _ gb975 l0 t979 t980 from by repeat (first | (with_reducible first | exact HI975.out | apply IsS72.alloc | apply IsS72.drewN | apply IsS72.drew | apply IsS72.set_1 | apply IsS72.set_2) | exact HI975.out)) (zqR HO990.out) (by decide)) hk (fun _ h => h.2)) (fun _ h => h.1)); have n3_ := Aside0.mk (hb); have n4_ := Aside0.mk (hi); clear HO978; clear HO986; clear HO990; clear HB; clear HI975; have HO978 := n0_; have HO986 := n1_; have HO990 := n2_; have HB := n3_; have HI975 := n4_; clear n0_ n1_ n2_ n3_ n4_; (try clear hb); (try clear hb2); (try clear hk); (try clear hi)))
  go_meet
  case rel => exact ⟨_, (t991), (t992), (t993), (by first | rfl | (simp; done) | (simp [*]; done)), H', ⟨by first | omega | exact Nat.le_refl _⟩, ⟨by (with_reducible repeat (first | apply Kd.R_alloc | apply Kd.R_drewN | apply Kd.R_drew)); exact Kd.R_mono HO978.out (fun _ hk => ⟨hk.1.2, hk.2⟩)⟩, ⟨zqR HO986.out⟩, ⟨by (with_reducible repeat (first | apply Kd.R_alloc | apply Kd.R_drewN | apply Kd.R_drew)); exact Kd.R_mono HO990.out (fun _ hk => ⟨hk.1.2, hk.2⟩)⟩, ⟨zq23⟩, ⟨zq16⟩⟩
 clear HC5
 try clear c1
 try clear p2
 try clear c3
 try clear c4
 try clear c7
 try clear c13
 obtain ⟨kq, x27_4, x976001_4, x976002_4, rfl, HA, HJ4, HO_5, HO_6, HO_7, HI975, HB⟩ := hcut
 cases kq with
 | zero => exact absurd HA.out (by simp [spec_DrawSameStates.j0])
 | succ kj4 =>
  have H := HA.out
  clear HA
  simp only [spec_DrawSameStates.j0] at H
  have HC16 := Aside0.mk H
  clear H
  go_upto_if 27 with (fail)
  go_cut [6] (fun v6 wc => ∃ (kq : Nat) (x6_15 : List (S31)), Aside0 (spec_DrawSameStates.j1 kq t976 x6_15 l0 x976001_4 x976002_4 = some (r1, r2)) ∧ Aside0 (kq ≤ kj4) ∧ Aside0 (Kd.R k31 31 wc w.heap.size (fun k_ => some k_ ≠ (v6 : Value).ownBlock) (.slice Ao11 t976.length co11) t976) ∧ Aside0 (Kd.R k31 31 wc w.heap.size (fun k_ => some k_ ≠ ((.slice Ao11 t976.length co11) : Value).ownBlock) v6 x6_15) ∧ Aside0 (IsS72 w wc gb975 l0 x976001_4 x976002_4) ∧ Aside0 (Below w.heap.size w wc))
  case first =>
   have H := HC16.out
   clear HC16
   by_cases c17 : x27_4 = true
   case pos =>
    subst c17
    have H1 : (spec_DrawSameStates.j1 kj4 t976 t987 l0 x976001_4 x976002_4) = some (r1, r2) := by rw [if_pos rfl] at H; exact H
    clear H
    have H := H1
    clear H1
    have H' := Aside0.mk H
    clear H
    go_wp2
    go_meet
    case rel => exact ⟨_, (t987), H', ⟨by have := HJ4.out; first | omega | exact Nat.le_refl _⟩, ⟨by (with_reducible repeat (first | apply Kd.R_alloc | apply Kd.R_drewN | apply Kd.R_drew)); exact Kd.R_mono HO_5.out (fun _ hk => hk.2)⟩, ⟨by (with_reducible repeat (first | apply Kd.R_alloc | apply Kd.R_drewN | apply Kd.R_drew)); exact Kd.R_mono HO_7.out (fun _ hk => hk.1)⟩, ⟨zq23⟩, ⟨zq16⟩⟩
   replace c17 := Bool.eq_false_iff.mpr c17
   subst c17
   have H1 : (spec_DrawSameStates.j1 kj4 t976 y984 l0 x976001_4 x976002_4) = some (r1, r2) := by rw [if_neg (show ¬ (false = true) by decide)] at H; exact H
   clear H
   have H := H1
   clear H1
   have H' := Aside0.mk H
   clear H
   go_wp2
   go_meet
   case rel => exact ⟨_, (y984), H', ⟨by have := HJ4.out; first | omega | exact Nat.le_refl _⟩, ⟨by (with_reducible repeat (first | apply Kd.R_alloc | apply Kd.R_drewN | apply Kd.R_drew)); exact Kd.R_mono HO_5.out (fun _ hk => hk.1)⟩, ⟨by (with_reducible repeat (first | apply Kd.R_alloc | apply Kd.R_drewN | apply Kd.R_drew)); exact Kd.R_mono HO_6.out (fun _ hk => hk.1)⟩, ⟨zq23⟩, ⟨zq16⟩⟩
  clear HC16
  try clear c1
  try clear p2
  try clear c3
  try clear c4
  try clear c7
  try clear c13
  try clear c17
  try clear p2
  obtain ⟨kq, x6_15, HA, HJ15, HO_5, HO_6, HI975, HB⟩ := hcut
  cases kq with
  | zero => exact absurd HA.out (by simp [spec_DrawSameStates.j1])
  | succ kj15 =>
   have H := HA.out
   clear HA
   simp only [spec_DrawSameStates.j1] at H
   have HC18 := Aside0.mk H
   clear H
   go_upto_region 7 with (fail)
   go_cut [35] (fun v35 wc => ∃ (kq : Nat) (x35_17 : Bool), v35 = .bool x35_17 ∧ Aside0 (spec_DrawSameStates.j2 kq t976 x6_15 x35_17 = some (r1, r2)) ∧ Aside0 (kq ≤ kj15) ∧ Aside0 (Kd.R k31 31 wc w.heap.size (fun k_ => some k_ ≠ (u6 : Value).ownBlock) (.slice Ao11 t976.length co11) t976) ∧ Aside0 (Kd.R k31 31 wc w.heap.size (fun k_ => some k_ ≠ ((.slice Ao11 t976.length co11) : Value).ownBlock) u6 x6_15) ∧ Aside0 (Below w.heap.size w wc))
   case first =>
    have H := HC18.out
    clear HC18
    by_cases c19 : (x6_15.length : Int) > 0
    case neg =>
     rw [if_neg c19] at H
     have c19b0 : decide (0 < (x6_15.length : Int)) = false := decide_eq_false c19
     have c19b1 : decide (0 < x6_15.length) = false := decide_eq_false (by omega)
     clear c19
     (first | rw [c19b0] | (simp only [i64_w, i32_w]; rw [c19b0]) | rw [c19b1] | skip)
     have H' := Aside0.mk H
     clear H
     obtain ⟨Ao23, co23, eo23⟩ := Kd.R_slice HO_6.out
     subst eo23
     go_wp2
     go_meet
     case rel => exact ⟨_, (false), (by first | rfl | (simp; done) | (simp [*]; done)), H', ⟨by have := HJ4.out; have := HJ15.out; first | omega | exact Nat.le_refl _⟩, ⟨zqR HO_5.out⟩, ⟨zqR HO_6.out⟩, ⟨zq16⟩⟩
    rw [if_pos c19] at H
    have c19b0 : decide (0 < (x6_15.length : Int)) = true := decide_eq_true c19
    have c19b1 : decide (0 < x6_15.length) = true := decide_eq_true (by omega)
    clear c19
    (first | rw [c19b0] | (simp only [i64_w, i32_w]; rw [c19b0]) | rw [c19b1] | skip)
    replace H := Option.bind_eq_some_iff.mp H
    obtain ⟨⟨t994, t995, t996⟩, A200, H⟩ := H
    replace H : (spec_DrawSameStates.j2 kj15 t976 x6_15 t994) = some (r1, r2) := H
    have A20 := Aside0.mk A200
    clear A200
    have H' := Aside0.mk H
    clear H
    obtain ⟨Ao21, co21, eo21⟩ := Kd.R_slice HO_6.out
    subst eo21
    go_wp2_with (first | (go_at_call 99; (with_reducible refine (spec_l1Cur_one.calls gb975 l0 x976001_4 x976002_4 4 t994 t995 t996 w _ ?side1 ?side2 A20.out).mono ?_); (case side1 => exact zq23); (case side2 => exact zq16); rintro e w22 ⟨rfl, hi, hb, hk⟩; have n0_ := Aside0.mk (Kd.R_mono (Kd.R_keep (IsS72.apart (show IsS72 w _ gb975 l0 x976001_4 x976002_4 from by repeat (first | (with_reducible first | exact HI975.out | apply IsS72.alloc | apply IsS72.drewN | apply IsS72.drew | apply IsS72.set_1 | apply IsS72.set_2) | exact HI975.out)) (zqR HO_5.out) (by decide)) hk (fun _ h => h.2)) (fun _ h => h.1)); have n1_ := Aside0.mk (Kd.R_mono (Kd.R_keep (IsS72.apart (show IsS72 w _ gb975 l0 x976001_4 x976002_4 from by repeat (first | (with_reducible first | exact HI975.out | apply IsS72.alloc | apply IsS72.drewN | apply IsS72.drew | apply IsS72.set_1 | apply IsS72.set_2) | exact HI975.out)) (zqR HO_6.out) (by decide)) hk (fun _ h => h.2)) (fun _ h => h.1)); have n2_ := Aside0.mk (hb); have n3_ := Aside0.mk (hi); clear HO_5; clear HO_6; clear HB; clear HI975; have HO_5 := n0_; have HO_6 := n1_; have HB := n2_; have HI975 := n3_; clear n0_ n1_ n2_ n3_; (try clear hb); (try clear hb2); (try clear hk); (try clear hi)))
    go_meet
    case rel => exact ⟨_, (t994), (by first | rfl | (simp; done) | (simp [*]; done)), H', ⟨by have := HJ4.out; have := HJ15.out; first | omega | exact Nat.le_refl _⟩, ⟨zqR HO_5.out⟩, ⟨zqR HO_6.out⟩, ⟨zq16⟩⟩
   clear HC18
   try clear c1
   try clear p2
   try clear c3
   try clear c4
   try clear c7
   try clear c13
   try clear c17
   try clear c19
   try clear c19b0
   try clear c19b1
   try clear p2
   obtain ⟨kq, x35_17, rfl, HA, HJ17, HO_5, HO_6, HB⟩ := hcut
   cases kq with
   | zero => exact absurd HA.out (by simp [spec_DrawSameStates.j2])
   | succ kj17 =>
    have H := HA.out
    clear HA
    simp only [spec_DrawSameStates.j2] at H
    by_cases c24 : x35_17 = true
    case neg =>
     replace c24 := Bool.eq_false_iff.mpr c24
     subst c24
     have H1 : (some (t976, x6_15)) = some (r1, r2) := by rw [if_neg (show ¬ (false = true) by decide)] at H; exact H
     clear H
     have H := H1
     clear H1
     simp only [Option.some.injEq, Prod.mk.injEq] at H
     obtain ⟨rfl, rfl⟩ := H
     go_wp2
     go_ret2
     exact ⟨_, _, by first | rfl | (simp [errW_none, errW_some] <;> rfl) | (simp [*, errW_none, errW_some] <;> rfl), zqR HO_5.out, zqR HO_6.out, zq0⟩
    subst c24
    have H1 : (if 0 < (x6_15.length : Int) then (some (t976, (x6_15.set (0 : Int).toNat (⟨(rd_T31 x6_15 0).f0, (rd_T31 x6_15 0).f1, wrap64 (1 + (Int.tmod ((rd_T31 x6_15 0).f2) 3)), (rd_T31 x6_15 0).f3, (rd_T31 x6_15 0).f4, (rd_T31 x6_15 0).f5⟩ : S31)))) else (none)) = some (r1, r2) := by rw [if_pos rfl] at H; exact H
    clear H
    have H := H1
    clear H1
    by_cases c25 : 0 < (x6_15.length : Int)
    case neg =>
     rw [if_neg c25] at H
     exact absurd H (by simp)
    rw [if_pos c25] at H
    have c25b0 : decide (0 < (x6_15.length : Int)) = true := decide_eq_true c25
    have c25b1 : decide (0 < x6_15.length) = true := decide_eq_true (by omega)
    clear c25
    obtain ⟨y999, hy999⟩ : ∃ y_ : List (S31), y_ = (x6_15.set (0 : Int).toNat (⟨(rd_T31 x6_15 0).f0, (rd_T31 x6_15 0).f1, wrap64 (1 + (Int.tmod ((rd_T31 x6_15 0).f2) 3)), (rd_T31 x6_15 0).f3, (rd_T31 x6_15 0).f4, (rd_T31 x6_15 0).f5⟩ : S31)) := ⟨_, rfl⟩
    replace H : (some (t976, y999)) = some (r1, r2) := zqH hy999 H
    have Ny999 := Aside0.mk hy999
    clear hy999
    simp only [Option.some.injEq, Prod.mk.injEq] at H
    obtain ⟨rfl, rfl⟩ := H
    obtain ⟨Ao27, co27, eo27⟩ := Kd.R_slice HO_6.out
    subst eo27
    have p997 : 0 ≤ (0 : Int) := (by omega)
    have q997 : 0 < (x6_15.length : Int) := of_decide_eq_true zq5
    obtain ⟨ad997, e997, hx997_0, hx997_1, hx997_2, hx997_3, hx997_4, hx997_5⟩ := at_T31 (Kd.R_reads' HO_6.out).2.2 0 p997 q997
    cases e997
    have qi997 : (0 < x6_15.length) = True := eq_true (by omega)
    (try rw [show ((0 : Int)).toNat = 0 from rfl] at hx997_0)
    (try rw [show 0 * 6 = 0 from rfl] at hx997_0)
    (try rw [Addr.add_zero'] at hx997_0)
    (try rw [show ((0 : Int)).toNat = 0 from rfl] at hx997_1)
    (try rw [show 0 * 6 = 0 from rfl] at hx997_1)
    (try rw [Addr.add_zero'] at hx997_1)
    (try rw [show ((0 : Int)).toNat = 0 from rfl] at hx997_2)
    (try rw [show 0 * 6 = 0 from rfl] at hx997_2)
    (try rw [Addr.add_zero'] at hx997_2)
    (try rw [show ((0 : Int)).toNat = 0 from rfl] at hx997_3)
    (try rw [show 0 * 6 = 0 from rfl] at hx997_3)
    (try rw [Addr.add_zero'] at hx997_3)
    (try rw [show ((0 : Int)).toNat = 0 from rfl] at hx997_4)
    (try rw [show 0 * 6 = 0 from rfl] at hx997_4)
    (try rw [Addr.add_zero'] at hx997_4)
    (try rw [show ((0 : Int)).toNat = 0 from rfl] at hx997_5)
    (try rw [show 0 * 6 = 0 from rfl] at hx997_5)
    (try rw [Addr.add_zero'] at hx997_5)
    replace p997 := eq_true p997
    replace q997 := eq_true q997
    go_wp2_with (first | ((with_reducible refine gate_dst (N := 9) rfl ?_); refine box_event ?hg (N := 9) ?hd (cs := #[.int .i64 0, .int .i64 0, .int .i64 0, .int .i64 0, .int .i64 0, .int .i64 0]) (t := 31) ?hr ?_; (case hd => rfl); (case hg => rfl); (case hr => exact zqS); intro gb998 hg w28 hbox hb; have n0_ := Aside0.mk (Kd.R_below (Kd.R_elderB (zqR HO_5.out) gb998 (Nat.le_of_eq hg.symm)) hb); have n1_ := Aside0.mk (Kd.R_below (Kd.R_elderB (zqR HO_6.out) gb998 (Nat.le_of_eq hg.symm)) hb); have n2_ := Aside0.mk (below_step zq0 hb); have n3_ := Aside0.mk (hbox); have n4_ := Aside0.mk ((by rw [hg]; exact (below_size zq0) : w.heap.size ≤ gb998)); have n5_ := n4_; clear HO_5; clear HO_6; clear HB; have HO_5 := n0_; have HO_6 := n1_; have HB := n2_; have BK998 := n3_; have GW998 := n4_; have GE998 := n5_; clear n0_ n1_ n2_ n3_ n4_ n5_; clear hb hbox hg; obtain ⟨hcz29_0, hcz29_1, hcz29_2, hcz29_3, hcz29_4, hcz29_5, hfz29_0, hfz29_1, hfz29_2, hfz29_3, hfz29_4, hfz29_5⟩ := bz6 BK998.out) | ((with_reducible refine gate_store (t := 31) (p := 9) rfl ?_); refine store_event (t := 31) (p := 9) (v := ?vo_w30) (w1 := ((((((w28.setCell ⟨gb998, 0, none⟩ (.int .i64 ((rd_T31 x6_15 0).f0))).setCell ⟨gb998, 1, none⟩ (.int .i64 ((rd_T31 x6_15 0).f1))).setCell ⟨gb998, 2, none⟩ (.int .i64 ((rd_T31 x6_15 0).f2))).setCell ⟨gb998, 3, none⟩ (.int .i64 ((rd_T31 x6_15 0).f3))).setCell ⟨gb998, 4, none⟩ (.int .i64 ((rd_T31 x6_15 0).f4))).setCell ⟨gb998, 5, none⟩ (.int .i64 ((rd_T31 x6_15 0).f5)))) ?hg ?ho ?hn ?hr ?_; (case ho => rfl); (case hg => rfl); (case hn => rfl); (case hr => exact zqS); intro w30 hw; have n0_ : Aside0 (Kd.R k31 31 w30 w.heap.size (fun k_ => some k_ ≠ (.slice (some ad997) x6_15.length co27 : Value).ownBlock ∧ k_ ≠ gb998) (.slice Ao11 t976.length co11) t976) := ⟨(by rw [hw]; exact (by (with_reducible repeat (first | apply Kd.R_alloc | apply Kd.R_drewN | apply Kd.R_drew)); exact Kd.R_mono (Kd.R_far (p := ⟨gb998, 5, none⟩) (Kd.R_far (p := ⟨gb998, 4, none⟩) (Kd.R_far (p := ⟨gb998, 3, none⟩) (Kd.R_far (p := ⟨gb998, 2, none⟩) (Kd.R_far (p := ⟨gb998, 1, none⟩) (Kd.R_far (p := ⟨gb998, 0, none⟩) (Kd.R_mono HO_5.out (fun k_ hk => (⟨hk, hk.2⟩ : _ ∧ k_ ≠ gb998))) (fun _ hk => hk.2) (.int .i64 ((rd_T31 x6_15 0).f0))) (fun _ hk => hk.2) (.int .i64 ((rd_T31 x6_15 0).f1))) (fun _ hk => hk.2) (.int .i64 ((rd_T31 x6_15 0).f2))) (fun _ hk => hk.2) (.int .i64 ((rd_T31 x6_15 0).f3))) (fun _ hk => hk.2) (.int .i64 ((rd_T31 x6_15 0).f4))) (fun _ hk => hk.2) (.int .i64 ((rd_T31 x6_15 0).f5))) (fun _ hk => ⟨hk.1.1, hk.1.2⟩)))⟩; have n1_ : Aside0 (Kd.R k31 31 w30 w.heap.size (fun k_ => some k_ ≠ (.slice Ao11 t976.length co11 : Value).ownBlock ∧ k_ ≠ gb998) (.slice (some ad997) x6_15.length co27) x6_15) := ⟨(by rw [hw]; exact (by (with_reducible repeat (first | apply Kd.R_alloc | apply Kd.R_drewN | apply Kd.R_drew)); exact Kd.R_mono (Kd.R_far (p := ⟨gb998, 5, none⟩) (Kd.R_far (p := ⟨gb998, 4, none⟩) (Kd.R_far (p := ⟨gb998, 3, none⟩) (Kd.R_far (p := ⟨gb998, 2, none⟩) (Kd.R_far (p := ⟨gb998, 1, none⟩) (Kd.R_far (p := ⟨gb998, 0, none⟩) (Kd.R_mono HO_6.out (fun k_ hk => (⟨hk, hk.2⟩ : _ ∧ k_ ≠ gb998))) (fun _ hk => hk.2) (.int .i64 ((rd_T31 x6_15 0).f0))) (fun _ hk => hk.2) (.int .i64 ((rd_T31 x6_15 0).f1))) (fun _ hk => hk.2) (.int .i64 ((rd_T31 x6_15 0).f2))) (fun _ hk => hk.2) (.int .i64 ((rd_T31 x6_15 0).f3))) (fun _ hk => hk.2) (.int .i64 ((rd_T31 x6_15 0).f4))) (fun _ hk => hk.2) (.int .i64 ((rd_T31 x6_15 0).f5))) (fun _ hk => ⟨hk.1.1, hk.1.2⟩)))⟩; have n2_ : Aside0 (w30.heap[gb998]? = some (.cells #[.int .i64 ((rd_T31 x6_15 0).f0), .int .i64 ((rd_T31 x6_15 0).f1), .int .i64 ((rd_T31 x6_15 0).f2), .int .i64 ((rd_T31 x6_15 0).f3), .int .i64 ((rd_T31 x6_15 0).f4), .int .i64 ((rd_T31 x6_15 0).f5)] 31 (0, 0))) := ⟨(by rw [hw]; exact (by (with_reducible repeat (first | refine blk_drewN ?_ _ | refine blk_drew ?_ | refine blk_alloc ?_ _)); refine blk_put (cs := #[.int .i64 ((rd_T31 x6_15 0).f0), .int .i64 ((rd_T31 x6_15 0).f1), .int .i64 ((rd_T31 x6_15 0).f2), .int .i64 ((rd_T31 x6_15 0).f3), .int .i64 ((rd_T31 x6_15 0).f4), .int .i64 0]) ?_ 5 _ rfl; (with_reducible repeat (first | refine blk_drewN ?_ _ | refine blk_drew ?_ | refine blk_alloc ?_ _)); refine blk_put (cs := #[.int .i64 ((rd_T31 x6_15 0).f0), .int .i64 ((rd_T31 x6_15 0).f1), .int .i64 ((rd_T31 x6_15 0).f2), .int .i64 ((rd_T31 x6_15 0).f3), .int .i64 0, .int .i64 0]) ?_ 4 _ rfl; (with_reducible repeat (first | refine blk_drewN ?_ _ | refine blk_drew ?_ | refine blk_alloc ?_ _)); refine blk_put (cs := #[.int .i64 ((rd_T31 x6_15 0).f0), .int .i64 ((rd_T31 x6_15 0).f1), .int .i64 ((rd_T31 x6_15 0).f2), .int .i64 0, .int .i64 0, .int .i64 0]) ?_ 3 _ rfl; (with_reducible repeat (first | refine blk_drewN ?_ _ | refine blk_drew ?_ | refine blk_alloc ?_ _)); refine blk_put (cs := #[.int .i64 ((rd_T31 x6_15 0).f0), .int .i64 ((rd_T31 x6_15 0).f1), .int .i64 0, .int .i64 0, .int .i64 0, .int .i64 0]) ?_ 2 _ rfl; (with_reducible repeat (first | refine blk_drewN ?_ _ | refine blk_drew ?_ | refine blk_alloc ?_ _)); refine blk_put (cs := #[.int .i64 ((rd_T31 x6_15 0).f0), .int .i64 0, .int .i64 0, .int .i64 0, .int .i64 0, .int .i64 0]) ?_ 1 _ rfl; (with_reducible repeat (first | refine blk_drewN ?_ _ | refine blk_drew ?_ | refine blk_alloc ?_ _)); refine blk_put (cs := #[.int .i64 0, .int .i64 0, .int .i64 0, .int .i64 0, .int .i64 0, .int .i64 0]) ?_ 0 _ rfl; (with_reducible repeat (first | refine blk_drewN ?_ _ | refine blk_drew ?_ | refine blk_alloc ?_ _)); exact BK998.out))⟩; have n3_ : Aside0 (Below w.heap.size w w30) := ⟨(by rw [hw]; exact zq40)⟩; clear hw; clear HO_5; clear HO_6; clear BK998; clear HB; have HO_5 := n0_; have HO_6 := n1_; have BK998 := n2_; have HB := n3_; clear n0_ n1_ n2_ n3_; obtain ⟨hcz31_0, hcz31_1, hcz31_2, hcz31_3, hcz31_4, hcz31_5, hfz31_0, hfz31_1, hfz31_2, hfz31_3, hfz31_4, hfz31_5⟩ := bz6 BK998.out) | ((with_reducible refine gate_store (t := 3) (p := 43) rfl ?_); refine store_event (t := 3) (p := 43) (v := ?vo_w32) (w1 := (w30.setCell ⟨gb998, 2, none⟩ (.int .i64 (wrap64 (1 + (Int.tmod ((rd_T31 x6_15 0).f2) 3)))))) ?hg ?ho ?hn ?hr ?_; (case ho => rfl); (case hg => rfl); (case hn => rfl); (case hr => exact zqS); intro w32 hw; have n0_ : Aside0 (Kd.R k31 31 w32 w.heap.size (fun k_ => some k_ ≠ (.slice (some ad997) x6_15.length co27 : Value).ownBlock ∧ k_ ≠ gb998) (.slice Ao11 t976.length co11) t976) := ⟨(by rw [hw]; exact (by (with_reducible repeat (first | apply Kd.R_alloc | apply Kd.R_drewN | apply Kd.R_drew)); exact Kd.R_mono (Kd.R_far (p := ⟨gb998, 2, none⟩) (Kd.R_mono HO_5.out (fun k_ hk => (⟨hk, hk.2⟩ : _ ∧ k_ ≠ gb998))) (fun _ hk => hk.2) (.int .i64 (wrap64 (1 + (Int.tmod ((rd_T31 x6_15 0).f2) 3))))) (fun _ hk => ⟨hk.1.1, hk.1.2⟩)))⟩; have n1_ : Aside0 (Kd.R k31 31 w32 w.heap.size (fun k_ => some k_ ≠ (.slice Ao11 t976.length co11 : Value).ownBlock ∧ k_ ≠ gb998) (.slice (some ad997) x6_15.length co27) x6_15) := ⟨(by rw [hw]; exact (by (with_reducible repeat (first | apply Kd.R_alloc | apply Kd.R_drewN | apply Kd.R_drew)); exact Kd.R_mono (Kd.R_far (p := ⟨gb998, 2, none⟩) (Kd.R_mono HO_6.out (fun k_ hk => (⟨hk, hk.2⟩ : _ ∧ k_ ≠ gb998))) (fun _ hk => hk.2) (.int .i64 (wrap64 (1 + (Int.tmod ((rd_T31 x6_15 0).f2) 3))))) (fun _ hk => ⟨hk.1.1, hk.1.2⟩)))⟩; have n2_ : Aside0 (w32.heap[gb998]? = some (.cells #[.int .i64 ((rd_T31 x6_15 0).f0), .int .i64 ((rd_T31 x6_15 0).f1), .int .i64 (wrap64 (1 + (Int.tmod ((rd_T31 x6_15 0).f2) 3))), .int .i64 ((rd_T31 x6_15 0).f3), .int .i64 ((rd_T31 x6_15 0).f4), .int .i64 ((rd_T31 x6_15 0).f5)] 31 (0, 0))) := ⟨(by rw [hw]; exact (by (with_reducible repeat (first | refine blk_drewN ?_ _ | refine blk_drew ?_ | refine blk_alloc ?_ _)); refine blk_put (cs := #[.int .i64 ((rd_T31 x6_15 0).f0), .int .i64 ((rd_T31 x6_15 0).f1), .int .i64 ((rd_T31 x6_15 0).f2), .int .i64 ((rd_T31 x6_15 0).f3), .int .i64 ((rd_T31 x6_15 0).f4), .int .i64 ((rd_T31 x6_15 0).f5)]) ?_ 2 _ rfl; (with_reducible repeat (first | refine blk_drewN ?_ _ | refine blk_drew ?_ | refine blk_alloc ?_ _)); exact BK998.out))⟩; have n3_ : Aside0 (Below w.heap.size w w32) := ⟨(by rw [hw]; exact zq40)⟩; clear hw; clear HO_5; clear HO_6; clear BK998; clear HB; have HO_5 := n0_; have HO_6 := n1_; have BK998 := n2_; have HB := n3_; clear n0_ n1_ n2_ n3_; obtain ⟨hcz33_0, hcz33_1, hcz33_2, hcz33_3, hcz33_4, hcz33_5, hfz33_0, hfz33_1, hfz33_2, hfz33_3, hfz33_4, hfz33_5⟩ := bz6 BK998.out; have p26 : 0 ≤ (0 : Int) := (by omega); have q26 : (0 : Int) < ((x6_15.length : Int) : Int) := of_decide_eq_true zq5; have qi26 : (0 < x6_15.length) = True := eq_true (by omega); obtain ⟨go26, co26, eo26, gb26, gl26, cl26, HG26⟩ := Kd.R_form HO_6.out (by omega); (first | cases eo26 | (injection eo26 with ea_ en_ ec_; (first | subst ea_ | (injection ea_ with ea_; subst ea_)); subst ec_; clear en_)); have GB26 := Aside0.mk gb26; have GG26 := Aside0.mk HG26; clear gb26 gl26 HG26; (first | simp only [add_plain] at hx997_0 | skip); (first | simp only [add_plain] at hx997_1 | skip); (first | simp only [add_plain] at hx997_2 | skip); (first | simp only [add_plain] at hx997_3 | skip); (first | simp only [add_plain] at hx997_4 | skip); (first | simp only [add_plain] at hx997_5 | skip); obtain ⟨ce26, hcl26, hM26, hcc26, hfr26⟩ := Kd.R_elem HO_6.out z31 (0 : Int) p26 q26; obtain rfl := k31_openM hM26; have hx26_0 : w32.cell? ⟨go26, (0 : Int).toNat * 6, none⟩ = some (.int .i64 ((rd_T31 x6_15 0).f0)) := hcc26 0 _ rfl; have hx26_1 : w32.cell? ⟨go26, (0 : Int).toNat * 6 + 1, none⟩ = some (.int .i64 ((rd_T31 x6_15 0).f1)) := hcc26 1 _ rfl; have hx26_2 : w32.cell? ⟨go26, (0 : Int).toNat * 6 + 2, none⟩ = some (.int .i64 ((rd_T31 x6_15 0).f2)) := hcc26 2 _ rfl; have hx26_3 : w32.cell? ⟨go26, (0 : Int).toNat * 6 + 3, none⟩ = some (.int .i64 ((rd_T31 x6_15 0).f3)) := hcc26 3 _ rfl; have hx26_4 : w32.cell? ⟨go26, (0 : Int).toNat * 6 + 4, none⟩ = some (.int .i64 ((rd_T31 x6_15 0).f4)) := hcc26 4 _ rfl; have hx26_5 : w32.cell? ⟨go26, (0 : Int).toNat * 6 + 5, none⟩ = some (.int .i64 ((rd_T31 x6_15 0).f5)) := hcc26 5 _ rfl; have hf26_0 : w32.frozen? ⟨go26, (0 : Int).toNat * 6, none⟩ = false := hfr26 0; have hf26_1 : w32.frozen? ⟨go26, (0 : Int).toNat * 6 + 1, none⟩ = false := hfr26 1; have hf26_2 : w32.frozen? ⟨go26, (0 : Int).toNat * 6 + 2, none⟩ = false := hfr26 2; have hf26_3 : w32.frozen? ⟨go26, (0 : Int).toNat * 6 + 3, none⟩ = false := hfr26 3; have hf26_4 : w32.frozen? ⟨go26, (0 : Int).toNat * 6 + 4, none⟩ = false := hfr26 4; have hf26_5 : w32.frozen? ⟨go26, (0 : Int).toNat * 6 + 5, none⟩ = false := hfr26 5; clear hcl26 hcc26 hfr26 hM26; (try rw [show ((0 : Int)).toNat = 0 from rfl] at hx26_0); (try simp only [Nat.reduceMul, Nat.zero_mul, Nat.zero_add, Nat.reduceAdd] at hx26_0); (try rw [show ((0 : Int)).toNat = 0 from rfl] at hf26_0); (try simp only [Nat.reduceMul, Nat.zero_mul, Nat.zero_add, Nat.reduceAdd] at hf26_0); (try rw [show ((0 : Int)).toNat = 0 from rfl] at hx26_1); (try simp only [Nat.reduceMul, Nat.zero_mul, Nat.zero_add, Nat.reduceAdd] at hx26_1); (try rw [show ((0 : Int)).toNat = 0 from rfl] at hf26_1); (try simp only [Nat.reduceMul, Nat.zero_mul, Nat.zero_add, Nat.reduceAdd] at hf26_1); (try rw [show ((0 : Int)).toNat = 0 from rfl] at hx26_2); (try simp only [Nat.reduceMul, Nat.zero_mul, Nat.zero_add, Nat.reduceAdd] at hx26_2); (try rw [show ((0 : Int)).toNat = 0 from rfl] at hf26_2); (try simp only [Nat.reduceMul, Nat.zero_mul, Nat.zero_add, Nat.reduceAdd] at hf26_2); (try rw [show ((0 : Int)).toNat = 0 from rfl] at hx26_3); (try simp only [Nat.reduceMul, Nat.zero_mul, Nat.zero_add, Nat.reduceAdd] at hx26_3); (try rw [show ((0 : Int)).toNat = 0 from rfl] at hf26_3); (try simp only [Nat.reduceMul, Nat.zero_mul, Nat.zero_add, Nat.reduceAdd] at hf26_3); (try rw [show ((0 : Int)).toNat = 0 from rfl] at hx26_4); (try simp only [Nat.reduceMul, Nat.zero_mul, Nat.zero_add, Nat.reduceAdd] at hx26_4); (try rw [show ((0 : Int)).toNat = 0 from rfl] at hf26_4); (try simp only [Nat.reduceMul, Nat.zero_mul, Nat.zero_add, Nat.reduceAdd] at hf26_4); (try rw [show ((0 : Int)).toNat = 0 from rfl] at hx26_5); (try simp only [Nat.reduceMul, Nat.zero_mul, Nat.zero_add, Nat.reduceAdd] at hx26_5); (try rw [show ((0 : Int)).toNat = 0 from rfl] at hf26_5); (try simp only [Nat.reduceMul, Nat.zero_mul, Nat.zero_add, Nat.reduceAdd] at hf26_5); replace p26 := eq_true p26; replace q26 := eq_true q26; have HX34 := Aside0.mk (show Kd.R k31 31 w32 w.heap.size (fun k_ => some k_ ≠ (.slice Ao11 t976.length co11 : Value).ownBlock ∧ k_ ≠ gb998) (.slice (some ⟨go26, 0, none⟩) x6_15.length co27) x6_15 from (zqR HO_6.out)); obtain ⟨ce34, hcl34, hM34, hcc34, hfr34⟩ := Kd.R_elem HX34.out z31 (0 : Int) (by omega) (by have h_ : (0 : Int) < ((x6_15.length : Int) : Int) := of_decide_eq_true zq5; first | exact h_ | (have e_ := (Kd.R_reads' HO_6.out).1; omega) | simpa using h_); obtain rfl := k31_openM hM34; have HP34 := Kd.R_seg HX34.out (0 : Int) (by omega) (by have h_ : (0 : Int) < ((x6_15.length : Int) : Int) := of_decide_eq_true zq5; first | exact h_ | (have e_ := (Kd.R_reads' HO_6.out).1; omega) | simpa using h_) (seg := [.int .i64 ((rd_T31 x6_15 0).f0), .int .i64 ((rd_T31 x6_15 0).f1), .int .i64 (wrap64 (1 + (Int.tmod ((rd_T31 x6_15 0).f2) 3))), .int .i64 ((rd_T31 x6_15 0).f3), .int .i64 ((rd_T31 x6_15 0).f4), .int .i64 ((rd_T31 x6_15 0).f5)]) (j := 0) hcl34 hcc34 (show 6 ≤ 6 from by decide) (x' := (⟨(rd_T31 x6_15 0).f0, (rd_T31 x6_15 0).f1, wrap64 (1 + (Int.tmod ((rd_T31 x6_15 0).f2) 3)), (rd_T31 x6_15 0).f3, (rd_T31 x6_15 0).f4, (rd_T31 x6_15 0).f5⟩ : S31)) (k31_mkM _ _ _ (⟨(rd_T31 x6_15 0).f0, (rd_T31 x6_15 0).f1, wrap64 (1 + (Int.tmod ((rd_T31 x6_15 0).f2) 3)), (rd_T31 x6_15 0).f3, (rd_T31 x6_15 0).f4, (rd_T31 x6_15 0).f5⟩ : S31) ) (fun _ hk => hk); have hx34_0 := hcc34 0 _ rfl; (try simp only [show (k31).sz = 6 from rfl, Nat.mul_one, Nat.add_zero] at hx34_0); (try rw [show ((0 : Int)).toNat = 0 from rfl] at hx34_0); (try simp only [Nat.reduceMul, Nat.zero_mul, Nat.zero_add, Nat.reduceAdd] at hx34_0); have hf34_0 := hfr34 0; (try simp only [show (k31).sz = 6 from rfl, Nat.mul_one, Nat.add_zero] at hf34_0); (try rw [show ((0 : Int)).toNat = 0 from rfl] at hf34_0); (try simp only [Nat.reduceMul, Nat.zero_mul, Nat.zero_add, Nat.reduceAdd] at hf34_0); have hx34_1 := hcc34 1 _ rfl; (try simp only [show (k31).sz = 6 from rfl, Nat.mul_one, Nat.add_zero] at hx34_1); (try rw [show ((0 : Int)).toNat = 0 from rfl] at hx34_1); (try simp only [Nat.reduceMul, Nat.zero_mul, Nat.zero_add, Nat.reduceAdd] at hx34_1); have hf34_1 := hfr34 1; (try simp only [show (k31).sz = 6 from rfl, Nat.mul_one, Nat.add_zero] at hf34_1); (try rw [show ((0 : Int)).toNat = 0 from rfl] at hf34_1); (try simp only [Nat.reduceMul, Nat.zero_mul, Nat.zero_add, Nat.reduceAdd] at hf34_1); have hx34_2 := hcc34 2 _ rfl; (try simp only [show (k31).sz = 6 from rfl, Nat.mul_one, Nat.add_zero] at hx34_2); (try rw [show ((0 : Int)).toNat = 0 from rfl] at hx34_2); (try simp only [Nat.reduceMul, Nat.zero_mul, Nat.zero_add, Nat.reduceAdd] at hx34_2); have hf34_2 := hfr34 2; (try simp only [show (k31).sz = 6 from rfl, Nat.mul_one, Nat.add_zero] at hf34_2); (try rw [show ((0 : Int)).toNat = 0 from rfl] at hf34_2); (try simp only [Nat.reduceMul, Nat.zero_mul, Nat.zero_add, Nat.reduceAdd] at hf34_2); have hx34_3 := hcc34 3 _ rfl; (try simp only [show (k31).sz = 6 from rfl, Nat.mul_one, Nat.add_zero] at hx34_3); (try rw [show ((0 : Int)).toNat = 0 from rfl] at hx34_3); (try simp only [Nat.reduceMul, Nat.zero_mul, Nat.zero_add, Nat.reduceAdd] at hx34_3); have hf34_3 := hfr34 3; (try simp only [show (k31).sz = 6 from rfl, Nat.mul_one, Nat.add_zero] at hf34_3); (try rw [show ((0 : Int)).toNat = 0 from rfl] at hf34_3); (try simp only [Nat.reduceMul, Nat.zero_mul, Nat.zero_add, Nat.reduceAdd] at hf34_3); have hx34_4 := hcc34 4 _ rfl; (try simp only [show (k31).sz = 6 from rfl, Nat.mul_one, Nat.add_zero] at hx34_4); (try rw [show ((0 : Int)).toNat = 0 from rfl] at hx34_4); (try simp only [Nat.reduceMul, Nat.zero_mul, Nat.zero_add, Nat.reduceAdd] at hx34_4); have hf34_4 := hfr34 4; (try simp only [show (k31).sz = 6 from rfl, Nat.mul_one, Nat.add_zero] at hf34_4); (try rw [show ((0 : Int)).toNat = 0 from rfl] at hf34_4); (try simp only [Nat.reduceMul, Nat.zero_mul, Nat.zero_add, Nat.reduceAdd] at hf34_4); have hx34_5 := hcc34 5 _ rfl; (try simp only [show (k31).sz = 6 from rfl, Nat.mul_one, Nat.add_zero] at hx34_5); (try rw [show ((0 : Int)).toNat = 0 from rfl] at hx34_5); (try simp only [Nat.reduceMul, Nat.zero_mul, Nat.zero_add, Nat.reduceAdd] at hx34_5); have hf34_5 := hfr34 5; (try simp only [show (k31).sz = 6 from rfl, Nat.mul_one, Nat.add_zero] at hf34_5); (try rw [show ((0 : Int)).toNat = 0 from rfl] at hf34_5); (try simp only [Nat.reduceMul, Nat.zero_mul, Nat.zero_add, Nat.reduceAdd] at hf34_5); clear hcl34 hcc34 hfr34 hM34) | ((with_reducible refine gate_store (t := 31) (p := 46) rfl ?_); refine store_event (t := 31) (p := 46) (v := ?vo_w35) (w1 := ((((((w32.setCell ⟨go26, 0, none⟩ (.int .i64 ((rd_T31 x6_15 0).f0))).setCell ⟨go26, 1, none⟩ (.int .i64 ((rd_T31 x6_15 0).f1))).setCell ⟨go26, 2, none⟩ (.int .i64 (wrap64 (1 + (Int.tmod ((rd_T31 x6_15 0).f2) 3))))).setCell ⟨go26, 3, none⟩ (.int .i64 ((rd_T31 x6_15 0).f3))).setCell ⟨go26, 4, none⟩ (.int .i64 ((rd_T31 x6_15 0).f4))).setCell ⟨go26, 5, none⟩ (.int .i64 ((rd_T31 x6_15 0).f5)))) ?hg ?ho ?hn ?hr ?_; (case ho => rfl); (case hg => rfl); (case hn => rfl); (case hr => exact zqS); intro w35 hw; have hg : w32.grownBy w35 (some go26) := (by rw [hw]; exact HP34.2); have hp_ : Kd.R k31 31 w35 w.heap.size (fun k_ => some k_ ≠ (.slice Ao11 t976.length co11 : Value).ownBlock ∧ k_ ≠ gb998) (.slice (some ⟨go26, 0, none⟩) x6_15.length co27) y999 := (by rw [hw, Ny999.out]; exact HP34.1); clear HP34; have n0_ := Aside0.mk (Kd.R_after (v := (.slice (some ⟨go26, 0, none⟩) x6_15.length co27)) (v1 := (.slice (some ⟨go26, 0, none⟩) x6_15.length co27)) (ok := (fun k_ => k_ ≠ gb998)) (by (with_reducible repeat (first | apply Kd.R_alloc | apply Kd.R_drewN | apply Kd.R_drew)); exact Kd.R_mono HO_5.out (fun _ hk => ⟨hk.2, hk.1⟩)) hg (.inl rfl)); have n1_ := Aside0.mk (hp_); have n2_ := Aside0.mk (blk_grown (g := gb998) (o := .cells #[.int .i64 ((rd_T31 x6_15 0).f0), .int .i64 ((rd_T31 x6_15 0).f1), .int .i64 (wrap64 (1 + (Int.tmod ((rd_T31 x6_15 0).f2) 3))), .int .i64 ((rd_T31 x6_15 0).f3), .int .i64 ((rd_T31 x6_15 0).f4), .int .i64 ((rd_T31 x6_15 0).f5)] 31 (0, 0)) (zqK BK998.out) hg (Kd.R_away HO_6.out (fun _ hk => hk.2))); have n3_ := Aside0.mk ((by rw [hw]; exact below_set (below_set (below_set (below_set (below_set (below_set (HB.out) GB26.out) GB26.out) GB26.out) GB26.out) GB26.out) GB26.out : Below w.heap.size w w35)); clear HO_5; clear HO_6; clear BK998; clear HB; have HO_5 := n0_; have HO_6 := n1_; have BK998 := n2_; have HB := n3_; clear n0_ n1_ n2_ n3_; clear hg hw hp_))
    go_ret2
    exact ⟨_, _, by first | rfl | (simp [errW_none, errW_some] <;> rfl) | (simp [*, errW_none, errW_some] <;> rfl), by (with_reducible repeat (first | apply Kd.R_alloc | apply Kd.R_drewN | apply Kd.R_drew)); exact Kd.R_mono HO_5.out (fun _ hk => hk.2), by (with_reducible repeat (first | apply Kd.R_alloc | apply Kd.R_drewN | apply Kd.R_drew)); exact Kd.R_mono HO_6.out (fun _ hk => hk.1), zq40⟩

/-! ### spec_l15Level: function 83 -/
def spec_l15Level.l0 : Nat → List (S31) → Int → Int → Int → Int → Option (Int)
 | 0, _, _, _, _, _ => none
 | k + 1, x0, x1, x2, x3, x9 => if x9 < (x0.length : Int) then (if 0 ≤ x9 then (if ((rd_T31 x0 x9).f1) = x1 then (if ((rd_T31 x0 x9).f3) = x2 then ((spec_l1In.f x3 ((rd_T31 x0 x9).f4) (wrap64 (((rd_T31 x0 x9).f5) - 1))).bind fun t559 => (if t559 = true then (some ((rd_T31 x0 x9).f2)) else (spec_l15Level.l0 k x0 x1 x2 x3 (wrap64 (x9 + 1))))) else (spec_l15Level.l0 k x0 x1 x2 x3 (wrap64 (x9 + 1)))) else (spec_l15Level.l0 k x0 x1 x2 x3 (wrap64 (x9 + 1)))) else (none)) else (some 0)
def spec_l15Level.f (k : Nat) (l0 : List (S31)) (a1 : Int) (a2 : Int) (a3 : Int) : Option (Int) := spec_l15Level.l0 k l0 a1 a2 a3 0
theorem spec_l15Level.mono_l : ∀ k, (∀ y0 y1 y2 y3 y4, LeO (spec_l15Level.l0 k y0 y1 y2 y3 y4) (spec_l15Level.l0 (k + 1) y0 y1 y2 y3 y4))
 | 0 => fun _ _ _ _ _ r h => by simp [spec_l15Level.l0] at h
 | k + 1 => by
  have ih0 := spec_l15Level.mono_l k
  ·
   intro y0 y1 y2 y3 y4
   unfold spec_l15Level.l0
   repeat' first
   | (with_reducible exact ih0 _ _ _ _ _)
   | (with_reducible exact LeO.refl _)
   | (with_reducible exact LeO.none _)
   | (with_reducible refine LeO.ite ?_ ?_)
   | (with_reducible refine LeO.bind ?_ (fun _ => ?_))
   | exact ih0 _ _ _ _ _
   | exact LeO.none _
   | refine LeO.ite ?_ ?_
   | refine LeO.bind ?_ (fun _ => ?_)
theorem spec_l15Level.mono : ∀ a0 a1 a2 a3 k, LeO (spec_l15Level.f k a0 a1 a2 a3) (spec_l15Level.f (k + 1) a0 a1 a2 a3) := by
 intro a0 a1 a2 a3 k
 have ih0 := spec_l15Level.mono_l k
 unfold spec_l15Level.f
 repeat' first
   | (with_reducible exact ih0 _ _ _ _ _)
   | (with_reducible exact LeO.refl _)
   | (with_reducible exact LeO.none _)
   | (with_reducible refine LeO.ite ?_ ?_)
   | (with_reducible refine LeO.bind ?_ (fun _ => ?_))
   | exact ih0 _ _ _ _ _
   | exact LeO.none _
   | refine LeO.ite ?_ ?_
   | refine LeO.bind ?_ (fun _ => ?_)
set_option maxHeartbeats 8000000 in
set_option maxRecDepth 100000 in
theorem spec_l15Level.calls (k : Nat) (A0 : Option Addr) (c0 : Nat) (l0 : List (S31)) (a1 : Int) (a2 : Int) (a3 : Int) (r : Int) (w : World) (hr0 : Kd.C k31 w A0 l0.length l0) (hc0 : l0.length ≤ c0) (h : spec_l15Level.f k l0 a1 a2 a3 = some r) :
  Calls Try.prog 83 #[.slice A0 l0.length c0, .int .i64 a1, .int .i64 a2, .int .i64 a3] w fun e w' => e = .returned (.int .i64 r) ∧ Below w.heap.size w w' := by
 have hu31 := Try.underlying31
 have HR0 := Aside0.mk hr0
 have HC0 := Aside0.mk hc0
 clear hr0 hc0
 have HB := Aside0.mk (Below.refl w.heap.size w)
 have H : (spec_l15Level.l0 k l0 a1 a2 a3 0) = some r := h
 clear h
 have H' := Aside0.mk H
 clear H
 go_enter Try.func83, Try.ntmps83
 go_wp2
 go_loopg [9] k (fun kq v9 w' => ∃ (x9_1 : Int), v9 = .int .i64 x9_1 ∧ Aside0 (spec_l15Level.l0 kq l0 a1 a2 a3 x9_1 = some r) ∧ Aside0 (kq ≤ k) ∧ Aside0 (Below w.heap.size w w'))
 case atStart => exact ⟨(0), (by first | rfl | (simp; done) | (simp [*]; done)), H', ⟨Nat.le_refl _⟩, ⟨zq0⟩⟩
 clear H'
 try clear p2
 obtain ⟨x9_1, rfl, HA, HK1, HB⟩ := hrel
 cases gk with
 | zero => exact absurd HA.out (by simp [spec_l15Level.l0])
 | succ k1 =>
  have H := HA.out
  clear HA
  simp only [spec_l15Level.l0] at H
  by_cases c5 : x9_1 < (l0.length : Int)
  case neg =>
   rw [if_neg c5] at H
   have c5b0 : decide (x9_1 < (l0.length : Int)) = false := decide_eq_false c5
   clear c5
   obtain rfl := Option.some.inj H
   go_wp2
   go_ret
   exact ⟨zqE, zq0⟩
  rw [if_pos c5] at H
  have c5b0 : decide (x9_1 < (l0.length : Int)) = true := decide_eq_true c5
  clear c5
  by_cases c6 : 0 ≤ x9_1
  case neg =>
   rw [if_neg c6] at H
   exact absurd H (by simp)
  rw [if_pos c6] at H
  have c6b0 : decide (0 ≤ x9_1) = true := decide_eq_true c6
  clear c6
  by_cases c7 : ((rd_T31 l0 x9_1).f1) = a1
  case neg =>
   rw [if_neg c7] at H
   have c7b0 : (((rd_T31 l0 x9_1).f1) == a1) = false := beq_eq_false_iff_ne.mpr c7
   have c7b1 : (((rd_T31 l0 x9_1).f1) != a1) = true := bne_iff_ne.mpr c7
   have H' := Aside0.mk H
   clear H
   have p557 : 0 ≤ (x9_1 : Int) := of_decide_eq_true zq5
   have q557 : x9_1 < (l0.length : Int) := of_decide_eq_true zq5
   obtain ⟨ad557, e557, hx557_0, hx557_1, hx557_2, hx557_3, hx557_4, hx557_5⟩ := at_T31 HR0.out x9_1 p557 q557
   cases e557
   replace hx557_0 := bx HB.out hx557_0
   replace hx557_1 := bx HB.out hx557_1
   replace hx557_2 := bx HB.out hx557_2
   replace hx557_3 := bx HB.out hx557_3
   replace hx557_4 := bx HB.out hx557_4
   replace hx557_5 := bx HB.out hx557_5
   replace p557 := eq_true p557
   replace q557 := eq_true q557
   go_wp2_with (first | ((with_reducible refine gate_dst (N := 10) rfl ?_); refine box_event ?hg (N := 10) ?hd (cs := #[.int .i64 0, .int .i64 0, .int .i64 0, .int .i64 0, .int .i64 0, .int .i64 0]) (t := 31) ?hr ?_; (case hd => rfl); (case hg => rfl); (case hr => exact zqS); intro gb558 hg w17 hbox hb; have n0_ := Aside0.mk (below_step zq0 hb); have n1_ := Aside0.mk (hbox); have n2_ := Aside0.mk ((by rw [hg]; exact (below_size zq0) : w.heap.size ≤ gb558)); have n3_ := n2_; clear HB; have HB := n0_; have BK558 := n1_; have GW558 := n2_; have GE558 := n3_; clear n0_ n1_ n2_ n3_; clear hb hbox hg; obtain ⟨hcz18_0, hcz18_1, hcz18_2, hcz18_3, hcz18_4, hcz18_5, hfz18_0, hfz18_1, hfz18_2, hfz18_3, hfz18_4, hfz18_5⟩ := bz6 BK558.out))
   go_roundg k1
   case measure => have := HK1.out; omega
   case rel => exact ⟨(wrap64 (x9_1 + 1)), (by first | rfl | (simp; done) | (simp [*]; done)), H', ⟨by have := HK1.out; omega⟩, ⟨zq36⟩⟩
  rw [if_pos c7] at H
  have c7b0 : (((rd_T31 l0 x9_1).f1) == a1) = true := beq_iff_eq.mpr c7
  have c7b1 : (((rd_T31 l0 x9_1).f1) != a1) = false := bne_eq_false_iff_eq.mpr c7
  clear c7
  by_cases c8 : ((rd_T31 l0 x9_1).f3) = a2
  case neg =>
   rw [if_neg c8] at H
   have c8b0 : (((rd_T31 l0 x9_1).f3) == a2) = false := beq_eq_false_iff_ne.mpr c8
   have c8b1 : (((rd_T31 l0 x9_1).f3) != a2) = true := bne_iff_ne.mpr c8
   have H' := Aside0.mk H
   clear H
   have p557 : 0 ≤ (x9_1 : Int) := of_decide_eq_true zq5
   have q557 : x9_1 < (l0.length : Int) := of_decide_eq_true zq5
   obtain ⟨ad557, e557, hx557_0, hx557_1, hx557_2, hx557_3, hx557_4, hx557_5⟩ := at_T31 HR0.out x9_1 p557 q557
   cases e557
   replace hx557_0 := bx HB.out hx557_0
   replace hx557_1 := bx HB.out hx557_1
   replace hx557_2 := bx HB.out hx557_2
   replace hx557_3 := bx HB.out hx557_3
   replace hx557_4 := bx HB.out hx557_4
   replace hx557_5 := bx HB.out hx557_5
   replace p557 := eq_true p557
   replace q557 := eq_true q557
   go_wp2_with (first | ((with_reducible refine gate_dst (N := 10) rfl ?_); refine box_event ?hg (N := 10) ?hd (cs := #[.int .i64 0, .int .i64 0, .int .i64 0, .int .i64 0, .int .i64 0, .int .i64 0]) (t := 31) ?hr ?_; (case hd => rfl); (case hg => rfl); (case hr => exact zqS); intro gb558 hg w15 hbox hb; have n0_ := Aside0.mk (below_step zq0 hb); have n1_ := Aside0.mk (hbox); have n2_ := Aside0.mk ((by rw [hg]; exact (below_size zq0) : w.heap.size ≤ gb558)); have n3_ := n2_; clear HB; have HB := n0_; have BK558 := n1_; have GW558 := n2_; have GE558 := n3_; clear n0_ n1_ n2_ n3_; clear hb hbox hg; obtain ⟨hcz16_0, hcz16_1, hcz16_2, hcz16_3, hcz16_4, hcz16_5, hfz16_0, hfz16_1, hfz16_2, hfz16_3, hfz16_4, hfz16_5⟩ := bz6 BK558.out))
   go_roundg k1
   case measure => have := HK1.out; omega
   case rel => exact ⟨(wrap64 (x9_1 + 1)), (by first | rfl | (simp; done) | (simp [*]; done)), H', ⟨by have := HK1.out; omega⟩, ⟨zq36⟩⟩
  rw [if_pos c8] at H
  have c8b0 : (((rd_T31 l0 x9_1).f3) == a2) = true := beq_iff_eq.mpr c8
  have c8b1 : (((rd_T31 l0 x9_1).f3) != a2) = false := bne_eq_false_iff_eq.mpr c8
  clear c8
  replace H := Option.bind_eq_some_iff.mp H
  obtain ⟨t559, A90, H⟩ := H
  replace H : (if t559 = true then (some ((rd_T31 l0 x9_1).f2)) else (spec_l15Level.l0 k1 l0 a1 a2 a3 (wrap64 (x9_1 + 1)))) = some r := H
  have A9 := Aside0.mk A90
  clear A90
  by_cases c10 : t559 = true
  case pos =>
   subst c10
   have H1 : (some ((rd_T31 l0 x9_1).f2)) = some r := by rw [if_pos rfl] at H; exact H
   clear H
   have H := H1
   clear H1
   obtain rfl := Option.some.inj H
   have p557 : 0 ≤ (x9_1 : Int) := of_decide_eq_true zq5
   have q557 : x9_1 < (l0.length : Int) := of_decide_eq_true zq5
   obtain ⟨ad557, e557, hx557_0, hx557_1, hx557_2, hx557_3, hx557_4, hx557_5⟩ := at_T31 HR0.out x9_1 p557 q557
   cases e557
   replace hx557_0 := bx HB.out hx557_0
   replace hx557_1 := bx HB.out hx557_1
   replace hx557_2 := bx HB.out hx557_2
   replace hx557_3 := bx HB.out hx557_3
   replace hx557_4 := bx HB.out hx557_4
   replace hx557_5 := bx HB.out hx557_5
   replace p557 := eq_true p557
   replace q557 := eq_true q557
   go_wp2_with (first | ((with_reducible refine gate_dst (N := 10) rfl ?_); refine box_event ?hg (N := 10) ?hd (cs := #[.int .i64 0, .int .i64 0, .int .i64 0, .int .i64 0, .int .i64 0, .int .i64 0]) (t := 31) ?hr ?_; (case hd => rfl); (case hg => rfl); (case hr => exact zqS); intro gb558 hg w11 hbox hb; have n0_ := Aside0.mk (below_step zq0 hb); have n1_ := Aside0.mk (hbox); have n2_ := Aside0.mk ((by rw [hg]; exact (below_size zq0) : w.heap.size ≤ gb558)); have n3_ := n2_; clear HB; have HB := n0_; have BK558 := n1_; have GW558 := n2_; have GE558 := n3_; clear n0_ n1_ n2_ n3_; clear hb hbox hg; obtain ⟨hcz12_0, hcz12_1, hcz12_2, hcz12_3, hcz12_4, hcz12_5, hfz12_0, hfz12_1, hfz12_2, hfz12_3, hfz12_4, hfz12_5⟩ := bz6 BK558.out) | (go_at_call 101; (with_reducible refine (spec_l1In.calls a3 ((rd_T31 l0 x9_1).f4) (wrap64 (((rd_T31 l0 x9_1).f5) - 1)) true _ A9.out).mono ?_); rintro e w' ⟨rfl, ⟨nd, rfl⟩⟩))
   go_ret
   exact ⟨zqE, zq36⟩
  replace c10 := Bool.eq_false_iff.mpr c10
  subst c10
  have H1 : (spec_l15Level.l0 k1 l0 a1 a2 a3 (wrap64 (x9_1 + 1))) = some r := by rw [if_neg (show ¬ (false = true) by decide)] at H; exact H
  clear H
  have H := H1
  clear H1
  have H' := Aside0.mk H
  clear H
  have p557 : 0 ≤ (x9_1 : Int) := of_decide_eq_true zq5
  have q557 : x9_1 < (l0.length : Int) := of_decide_eq_true zq5
  obtain ⟨ad557, e557, hx557_0, hx557_1, hx557_2, hx557_3, hx557_4, hx557_5⟩ := at_T31 HR0.out x9_1 p557 q557
  cases e557
  replace hx557_0 := bx HB.out hx557_0
  replace hx557_1 := bx HB.out hx557_1
  replace hx557_2 := bx HB.out hx557_2
  replace hx557_3 := bx HB.out hx557_3
  replace hx557_4 := bx HB.out hx557_4
  replace hx557_5 := bx HB.out hx557_5
  replace p557 := eq_true p557
  replace q557 := eq_true q557
  go_wp2_with (first | ((with_reducible refine gate_dst (N := 10) rfl ?_); refine box_event ?hg (N := 10) ?hd (cs := #[.int .i64 0, .int .i64 0, .int .i64 0, .int .i64 0, .int .i64 0, .int .i64 0]) (t := 31) ?hr ?_; (case hd => rfl); (case hg => rfl); (case hr => exact zqS); intro gb558 hg w13 hbox hb; have n0_ := Aside0.mk (below_step zq0 hb); have n1_ := Aside0.mk (hbox); have n2_ := Aside0.mk ((by rw [hg]; exact (below_size zq0) : w.heap.size ≤ gb558)); have n3_ := n2_; clear HB; have HB := n0_; have BK558 := n1_; have GW558 := n2_; have GE558 := n3_; clear n0_ n1_ n2_ n3_; clear hb hbox hg; obtain ⟨hcz14_0, hcz14_1, hcz14_2, hcz14_3, hcz14_4, hcz14_5, hfz14_0, hfz14_1, hfz14_2, hfz14_3, hfz14_4, hfz14_5⟩ := bz6 BK558.out) | (go_at_call 101; (with_reducible refine (spec_l1In.calls a3 ((rd_T31 l0 x9_1).f4) (wrap64 (((rd_T31 l0 x9_1).f5) - 1)) false _ A9.out).mono ?_); rintro e w' ⟨rfl, ⟨nd, rfl⟩⟩))
  go_roundg k1
  case measure => have := HK1.out; omega
  case rel => exact ⟨(wrap64 (x9_1 + 1)), (by first | rfl | (simp; done) | (simp [*]; done)), H', ⟨by have := HK1.out; omega⟩, ⟨zq36⟩⟩
end Go.Proofs.Ytklepiechbnenaa.Q
