-- Printed by a program of this session (wip/tools/seatprint.py) that runs over the kit's print.
import Derived.Test.YthmkgdlmegohoaaQ0
import Derived.Test.YthmkgdlmegohoaaQf81
import Derived.Test.YthmkgdlmegohoaaQf57
import Derived.Test.YthmkgdlmegohoaaQf78
import Derived.Test.YthmkgdlmegohoaaQf80
namespace Go.Proofs.Ythmkgdlmegohoaa.Q
open Go.RowKit Go.Proofs.YthmkgdlmegohoaaW.PrintWords Go.Proofs.YthmkgdlmegohoaaW.PrintLast Go.Proofs.YthmkgdlmegohoaaW.PrintMore
attribute [local go_sem] max2_int min2_int max_two min_two max_three min_three max_four min_four   -- for this text's walks alone
set_option linter.unusedVariables false
set_option linter.unusedSimpArgs false

/-! ### impl_areaLevel: function 86 -/
def impl_areaLevel.l0 : Nat → List (S30) → Int → Int → Int → Int → Option (Int)
 | 0, _, _, _, _, _ => none
 | k + 1, x0, x1, x2, x7, x8 => if x8 ≤ 5 then ((impl_topicLevel.f k x0 x8 x1 x2).bind fun t900 => (impl_areaLevel.l0 k x0 x1 x2 (mx x7 t900) (wrap64 (x8 + 1)))) else (some x7)
def impl_areaLevel.f (k : Nat) (l0 : List (S30)) (a1 : Int) (a2 : Int) : Option (Int) := impl_areaLevel.l0 k l0 a1 a2 0 1
theorem impl_areaLevel.mono_l : ∀ k, (∀ y0 y1 y2 y3 y4, LeO (impl_areaLevel.l0 k y0 y1 y2 y3 y4) (impl_areaLevel.l0 (k + 1) y0 y1 y2 y3 y4))
 | 0 => fun _ _ _ _ _ r h => by simp [impl_areaLevel.l0] at h
 | k + 1 => by
  have ih0 := impl_areaLevel.mono_l k
  ·
   intro y0 y1 y2 y3 y4
   unfold impl_areaLevel.l0
   repeat' first
   | (with_reducible exact ih0 _ _ _ _ _)
   | (with_reducible exact impl_topicLevel.mono _ _ _ _ _)
   | (with_reducible exact LeO.refl _)
   | (with_reducible exact LeO.none _)
   | (with_reducible refine LeO.ite ?_ ?_)
   | (with_reducible refine LeO.bind ?_ (fun _ => ?_))
   | exact ih0 _ _ _ _ _
   | exact impl_topicLevel.mono _ _ _ _ _
   | exact LeO.none _
   | refine LeO.ite ?_ ?_
   | refine LeO.bind ?_ (fun _ => ?_)
theorem impl_areaLevel.mono : ∀ a0 a1 a2 k, LeO (impl_areaLevel.f k a0 a1 a2) (impl_areaLevel.f (k + 1) a0 a1 a2) := by
 intro a0 a1 a2 k
 have ih0 := impl_areaLevel.mono_l k
 unfold impl_areaLevel.f
 repeat' first
   | (with_reducible exact ih0 _ _ _ _ _)
   | (with_reducible exact impl_topicLevel.mono _ _ _ _ _)
   | (with_reducible exact LeO.refl _)
   | (with_reducible exact LeO.none _)
   | (with_reducible refine LeO.ite ?_ ?_)
   | (with_reducible refine LeO.bind ?_ (fun _ => ?_))
   | exact ih0 _ _ _ _ _
   | exact impl_topicLevel.mono _ _ _ _ _
   | exact LeO.none _
   | refine LeO.ite ?_ ?_
   | refine LeO.bind ?_ (fun _ => ?_)
set_option maxHeartbeats 8000000 in
set_option maxRecDepth 100000 in
theorem impl_areaLevel.calls (k : Nat) (A0 : Option Addr) (c0 : Nat) (l0 : List (S30)) (a1 : Int) (a2 : Int) (r : Int) (w : World) (hr0 : Kd.C k30 w A0 l0.length l0) (hc0 : l0.length ≤ c0) (h : impl_areaLevel.f k l0 a1 a2 = some r) :
  Calls Try.prog 86 #[.slice A0 l0.length c0, .int .i64 a1, .int .i64 a2] w fun e w' => e = .returned (.int .i64 r) ∧ Below w.heap.size w w' := by
 have HR0 := Aside0.mk hr0
 have HC0 := Aside0.mk hc0
 clear hr0 hc0
 have HB := Aside0.mk (Below.refl w.heap.size w)
 have H : (impl_areaLevel.l0 k l0 a1 a2 0 1) = some r := h
 clear h
 have H' := Aside0.mk H
 clear H
 go_enter Try.func86, Try.ntmps86
 go_wp2
 go_loopg [7, 8] k (fun kq v7 v8 w' => ∃ (x7_1 : Int) (x8_1 : Int), v7 = .int .i64 x7_1 ∧ v8 = .int .i64 x8_1 ∧ Aside0 (impl_areaLevel.l0 kq l0 a1 a2 x7_1 x8_1 = some r) ∧ Aside0 (kq ≤ k) ∧ Aside0 (Below w.heap.size w w'))
 case atStart => exact ⟨(0), (1), (by first | rfl | (simp; done) | (simp [*]; done)), (by first | rfl | (simp; done) | (simp [*]; done)), H', ⟨Nat.le_refl _⟩, ⟨by repeat (first | (with_reducible first | exact HB.out | apply below_alloc | apply pw_below_drewN | apply below_drew1) | exact HB.out)⟩⟩
 case round =>
  clear H'
  try clear p2
  obtain ⟨x7_1, x8_1, rfl, rfl, HA, HK1, HB⟩ := hrel
  cases gk with
  | zero => exact absurd HA.out (by simp [impl_areaLevel.l0])
  | succ k1 =>
   have H := HA.out
   clear HA
   simp only [impl_areaLevel.l0] at H
   by_cases c4 : x8_1 ≤ 5
   ·
    rw [if_pos c4] at H
    have c4b0 : decide (x8_1 ≤ 5) = true := decide_eq_true c4
    clear c4
    replace H := Option.bind_eq_some_iff.mp H
    obtain ⟨t900, A50, H⟩ := H
    replace H : (impl_areaLevel.l0 k1 l0 a1 a2 (mx x7_1 t900) (wrap64 (x8_1 + 1))) = some r := H
    have A5 := Aside0.mk A50
    clear A50
    obtain ⟨ji6, hji6⟩ : ∃ j_ : Int, (mx x7_1 t900) = j_ := ⟨_, rfl⟩
    replace H : (impl_areaLevel.l0 k1 l0 a1 a2 ji6 (wrap64 (x8_1 + 1))) = some r := by first | (rw [hji6] at H; exact H) | (simp only [hji6] at H ⊢; exact H)
    (try rw [hji6] at A5)
    have hji6_ : (if x7_1 < t900 then t900 else x7_1) = ji6 := hji6
    have H' := Aside0.mk H
    clear H
    go_wp2_with (first | ((with_reducible refine gate_callee (f := 80) rfl ?_); refine goesL_ (some 18) rfl rfl Try.func80 (by kernel_rfl) rfl #[.slice A0 l0.length c0, .int .i64 x8_1, .int .i64 a1, .int .i64 a2] rfl (by (try simp only [List.map_toArray, List.map_cons, List.map_nil]); first | done | rfl | (simp only [List.length_drop, List.length_take]; rfl)) ?_; (with_reducible refine (impl_topicLevel.calls k1 _ _ l0 x8_1 a1 a2 t900 _ ?side1 ?side2 A5.out).mono ?_); (case side1 => repeat (first | exact (Kd.C_below HR0.out HB.out) | (with_reducible refine Kd.C_alloc ?_ _) | (with_reducible refine Kd.C_drewN ?_ _) | (with_reducible refine Kd.C_drew ?_))); (case side2 => exact HC0.out); rintro e w7 ⟨rfl, hb⟩; refine ⟨_, rfl, ?_⟩; have n0_ := Aside0.mk (below_step (by repeat (first | (with_reducible first | exact HB.out | apply below_alloc | apply pw_below_drewN | apply below_drew1) | exact HB.out)) hb); clear HB; have HB := n0_; clear n0_; (try clear hb); (try clear hb2); (try clear hk); (try clear hi)))
    go_roundg k1
    case measure => have := HK1.out; omega
    case rel => exact ⟨(ji6), (wrap64 (x8_1 + 1)), (by first | rfl | (simp; done) | (simp only [← hji6] <;> (first | rfl | simp)) | (simp [*]; done)), (by first | rfl | (simp; done) | (simp [*]; done)), H', ⟨by have := HK1.out; omega⟩, ⟨by repeat (first | (with_reducible first | exact HB.out | apply below_alloc | apply pw_below_drewN | apply below_drew1) | exact HB.out)⟩⟩
   ·
    rw [if_neg c4] at H
    have c4b0 : decide (x8_1 ≤ 5) = false := decide_eq_false c4
    clear c4
    obtain rfl := Option.some.inj H
    go_wp2
    go_ret
    exact ⟨by first | rfl | (simp [errW_none, errW_some] <;> rfl) | (simp [*, errW_none, errW_some] <;> rfl), by repeat (first | (with_reducible first | exact HB.out | apply below_alloc | apply pw_below_drewN | apply below_drew1) | exact HB.out)⟩
/-- The level of area a at hour h. -/
def great (l : List S30) (a h : Int) : Int := Gen.run (fun i (s : Int) => .inr (mx s (lvl l (i : Int) a h))) (fun s => s) 5 1 0
theorem ev_areaLevel (l : List S30) (hl : l.length ≤ 4611686018427387904) (a h : Int) : Ev (fun k => impl_areaLevel.f k l a h) (great l a h) := by
 unfold impl_areaLevel.f great
 refine Gen.ev_run (fun k (s : Int) i => impl_areaLevel.l0 k l a h s i) 6 _ (fun s => s) (fun _ _ => True) ?_ ?_ ?_ 5 1 0 (by omega) trivial
 ·
  intro i s b hi _ hf; cases hf
 ·
  intro i s s' r hi _ hf
  cases hf
  refine ⟨trivial, fun he => ?_⟩
  simp only [impl_areaLevel.l0]
  refine Ev.congr (fun k => if_pos (by omega)) ?_
  refine Ev.bind (f := fun k t => _) (ev_topicLevel l hl _ _ _) ?_
  rw [Gen.wrapS i (by omega)]
  exact he
 ·
  intro s _
  refine Gen.Ev.eq_now fun k => ?_
  simp only [impl_areaLevel.l0]
  rw [if_neg (by omega)]

/-! ### impl_AreaTimeline: function 48 -/
def impl_AreaTimeline.f (k : Nat) (l0 : List S30) (a1 : Int) : Option (List S85 × Bool) := if l0.length ≤ 4611686018427387904 then ((impl_IsConsistent.f k l0).bind fun t => (if t = true then ((impl_within.f a1 1 9).bind fun u => (if u = true then ((impl_timeline.f k (great l0 a1)).bind fun v => some (v, true)) else (some ([], false)))) else (some ([], false)))) else none
theorem impl_AreaTimeline.mono : ∀ a0 a1 k, LeO (impl_AreaTimeline.f k a0 a1) (impl_AreaTimeline.f (k + 1) a0 a1) := by
 intro a0 a1 k
 unfold impl_AreaTimeline.f
 refine LeO.ite (LeO.bind (impl_IsConsistent.mono a0 k) fun _ => LeO.ite (LeO.bind (LeO.refl _) fun _ => LeO.ite (LeO.bind (impl_timeline.mono _ k) fun _ => LeO.refl _) (LeO.refl _)) (LeO.refl _)) (LeO.refl _)
/-- The level that TopicTimeline hands on. -/
theorem impl_AreaTimeline.level (B1 B2 : Nat) (A0 : Option Addr) (c0 : Nat) (l0 : List S30) (a1 : Int) (w0 w : World) (hr0 : Kd.C k30 w0 A0 l0.length l0) (hc0 : l0.length ≤ c0) (hb0 : Below w0.heap.size w0 w) (hl : l0.length ≤ 4611686018427387904)
  (h1 : w.heap[B1]? = some (.cells #[.slice A0 l0.length c0] 26 (0, 0))) (h2 : w.heap[B2]? = some (.cells #[.int .i64 a1] 3 (0, 0))) :
  ∀ (W : World) (h r : Int), Below w.heap.size w W → some (great l0 a1 h) = some r → Calls Try.prog 85 (#[.int .i64 h] ++ #[.pointer (some ⟨B1, 0, none⟩), .pointer (some ⟨B2, 0, none⟩)]) W fun e w' => e = .returned (.int .i64 r) ∧ Below W.heap.size W w' := by
 intro W h r hb hr
 obtain rfl := Option.some.inj hr
 have g1 : W.cell? ⟨B1, 0, none⟩ = some (.slice A0 l0.length c0) := blk_cell (blk_below h1 hb) 0
 have g2 : W.cell? ⟨B2, 0, none⟩ = some (.int .i64 a1) := blk_cell (blk_below h2 hb) 0
 have HR := Aside0.mk (Kd.C_below (Kd.C_below hr0 hb0) hb)
 have HC := Aside0.mk hc0
 obtain ⟨k1, hf⟩ := (ev_areaLevel l0 hl a1 h).rounds
 have HF := Aside0.mk hf
 clear hf
 clear hr0 hc0 hb0 h1 h2 hb hr hl
 show Calls Try.prog 85 #[.int .i64 h, .pointer (some ⟨B1, 0, none⟩), .pointer (some ⟨B2, 0, none⟩)] W _
 go_enter Try.func85, Try.ntmps85
 go_wp2_with (go_at_call 86; refine (impl_areaLevel.calls k1 A0 c0 l0 a1 h (great l0 a1 h) _ HR.out HC.out HF.out).mono ?_; rintro e w' ⟨rfl, hb'⟩)
 go_ret
 exact ⟨rfl, hb'⟩
set_option maxHeartbeats 4000000 in
theorem impl_AreaTimeline.calls (k : Nat) (A0 : Option Addr) (c0 : Nat) (l0 : List S30) (a1 : Int) (r1 : List S85) (r2 : Bool) (w : World) (hr0 : Kd.C k30 w A0 l0.length l0) (hc0 : l0.length ≤ c0) (h : impl_AreaTimeline.f k l0 a1 = some (r1, r2)) :
  Calls Try.prog 48 #[.slice A0 l0.length c0, .int .i64 a1] w fun e w' => ∃ v0_ : Value, e = .returned (.tuple #[v0_, .bool r2]) ∧ Kd.R k85 85 w' w.heap.size (fun _ => True) v0_ r1 ∧ Below w.heap.size w w' := by
 have hu := Try.underlying30
 unfold impl_AreaTimeline.f at h
 by_cases hl : l0.length ≤ 4611686018427387904
 ·
  rw [if_pos hl] at h
  obtain ⟨t, ht, h⟩ := Option.bind_eq_some_iff.mp h
  have HR0 := Aside0.mk hr0
  have HC0 := Aside0.mk hc0
  have HT := Aside0.mk ht
  have HL := Aside0.mk hl
  clear hr0 hc0 ht hl
  -- the boxes
  obtain ⟨W1, hW1⟩ : ∃ W1, W1 = w.alloc (.cells #[.slice A0 l0.length c0] 26) := ⟨_, rfl⟩
  have a1B : Below w.heap.size w W1 := by rw [hW1]; exact (Below.refl _ w).alloc (Nat.le_refl _) _
  have a1N : W1.heap[w.heap.size]? = some (.cells #[.slice A0 l0.length c0] 26 (0, 0)) := by rw [hW1]; exact heap_alloc_new w _
  have a1S : W1.heap.size = w.heap.size + 1 := by rw [hW1]; show (w.heap.push _).size = _; rw [Array.size_push]
  obtain ⟨WL, hWL⟩ : ∃ WL, WL = W1.alloc (.cells #[.int .i64 a1] 3) := ⟨_, rfl⟩
  have a3B : Below W1.heap.size W1 WL := by rw [hWL]; exact (Below.refl _ W1).alloc (Nat.le_refl _) _
  have a3N : WL.heap[W1.heap.size]? = some (.cells #[.int .i64 a1] 3 (0, 0)) := by rw [hWL]; exact heap_alloc_new W1 _
  have bB : Below w.heap.size w WL := a1B.trans (a3B.mono (by omega))
  have g1 : WL.heap[w.heap.size]? = some (.cells #[.slice A0 l0.length c0] 26 (0, 0)) := blk_below a1N a3B
  have g2 : WL.heap[W1.heap.size]? = some (.cells #[.int .i64 a1] 3 (0, 0)) := a3N
  rw [a1S] at g2
  have g2c : WL.cell? ⟨w.heap.size + 1, 0, none⟩ = some (.int .i64 a1) := blk_cell g2 0
  have BB := Aside0.mk bB
  have GB1 := Aside0.mk g1
  have GB2 := Aside0.mk g2
  have HW := Aside0.mk (show (w.alloc (.cells #[.slice A0 l0.length c0] 26)).alloc (.cells #[.int .i64 a1] 3) = WL from by rw [hWL, hW1])
  have HCW := Aside0.mk (Kd.C_below HR0.out BB.out)
  have g1c : WL.cell? ⟨w.heap.size, 0, none⟩ = some (.slice A0 l0.length c0) := blk_cell g1 0
  clear a1B a1N a1S g1 a3B a3N g2 hW1 hWL bB
  cases t with
  | false =>
   rw [if_neg (by decide)] at h
   have hr : r1 = [] ∧ r2 = false := ⟨(congrArg Prod.fst (Option.some.inj h)).symm, (congrArg Prod.snd (Option.some.inj h)).symm⟩
   obtain ⟨rfl, rfl⟩ := hr
   clear h
   skip
   go_enter Try.func48, Try.ntmps48
   go_wp2_with (first | (go_at_call 57; rw [HW.out]; refine (impl_IsConsistent.calls k A0 c0 l0 false _ HCW.out HC0.out HT.out).mono ?_; rintro e w' ⟨rfl, hb'⟩))
   go_ret2
   exact ⟨_, rfl, Kd.R_nil _ _ _ _ _, BB.out.trans (hb'.mono BB.out.size)⟩
  | true =>
   rw [if_pos rfl] at h
   obtain ⟨u, hu2, h⟩ := Option.bind_eq_some_iff.mp h
   have HU := Aside0.mk hu2
   clear hu2
   cases u with
   | false =>
    rw [if_neg (by decide)] at h
    have hr : r1 = [] ∧ r2 = false := ⟨(congrArg Prod.fst (Option.some.inj h)).symm, (congrArg Prod.snd (Option.some.inj h)).symm⟩
    obtain ⟨rfl, rfl⟩ := hr
    clear h
    go_enter Try.func48, Try.ntmps48
    go_wp2_with (first | (go_at_call 57; rw [HW.out]; refine (impl_IsConsistent.calls k A0 c0 l0 true _ HCW.out HC0.out HT.out).mono ?_; rintro e w' ⟨rfl, hb'⟩; have HB1 := Aside0.mk hb'; have q2 := (hb'.cell (World.block_lt_of_cell? _ _ g2c)).trans g2c; clear hb') | (go_at_call 81; refine (impl_within.calls a1 1 9 false _ HU.out).mono ?_; rintro e w'' ⟨rfl, hb''⟩; replace hb'' := hb''.below))
    go_ret2
    exact ⟨_, rfl, Kd.R_nil _ _ _ _ _, (BB.out.trans (HB1.out.mono BB.out.size)).trans (hb''.mono (Nat.le_trans BB.out.size HB1.out.size))⟩
   | true =>
    rw [if_pos rfl] at h
    obtain ⟨v, hv, h⟩ := Option.bind_eq_some_iff.mp h
    have hr : r1 = v ∧ r2 = true := ⟨(congrArg Prod.fst (Option.some.inj h)).symm, (congrArg Prod.snd (Option.some.inj h)).symm⟩
    obtain ⟨rfl, rfl⟩ := hr
    have HV := Aside0.mk hv
    clear h hv
    have eg : ∀ args w, (callFunc 85 args).run Try.prog w = .ok (.enter 85 args) w := enters_of Try.func85 (by kernel_rfl) rfl
    go_enter Try.func48, Try.ntmps48
    go_wp2_with (first | (go_at_call 57; rw [HW.out]; refine (impl_IsConsistent.calls k A0 c0 l0 true _ HCW.out HC0.out HT.out).mono ?_; rintro e w' ⟨rfl, hb'⟩; have HB1 := Aside0.mk hb'; have q2 := (hb'.cell (World.block_lt_of_cell? _ _ g2c)).trans g2c; clear hb') | (go_at_call 81; refine (impl_within.calls a1 1 9 true _ HU.out).mono ?_; rintro e w'' ⟨rfl, hb''⟩; replace hb'' := hb''.below; have HB2 := Aside0.mk (HB1.out.trans (hb''.mono HB1.out.size)); clear hb'') | (go_at_call 78; refine (impl_timeline.calls k 85 #[.pointer (some ⟨w.heap.size, 0, none⟩), .pointer (some ⟨w.heap.size + 1, 0, none⟩)] eg _ r1 _ ?hpt HV.out).mono ?_; (case hpt => exact impl_AreaTimeline.level _ _ A0 c0 l0 a1 w _ HR0.out HC0.out (BB.out.trans (HB2.out.mono BB.out.size)) HL.out (blk_below GB1.out HB2.out) (blk_below GB2.out HB2.out)); rintro e w3 ⟨v3, rfl, ho3, hb3⟩))
    go_ret2
    exact ⟨_, rfl, Kd.R_lower ho3 (Nat.le_trans BB.out.size HB2.out.size), (BB.out.trans (HB2.out.mono BB.out.size)).trans (hb3.mono (Nat.le_trans BB.out.size HB2.out.size))⟩
 ·
  rw [if_neg hl] at h
  cases h

end Go.Proofs.Ythmkgdlmegohoaa.Q
