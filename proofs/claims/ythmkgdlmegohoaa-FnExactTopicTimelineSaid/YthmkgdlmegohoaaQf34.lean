-- Printed by a program of this session (wip/tools/seatprint.py) that runs over the kit's print.
import Derived.Test.YthmkgdlmegohoaaQ0
import Derived.Test.YthmkgdlmegohoaaQf57
import Derived.Test.YthmkgdlmegohoaaQf69
import Derived.Test.YthmkgdlmegohoaaQf78
import Derived.Test.YthmkgdlmegohoaaQf80
namespace Go.Proofs.Ythmkgdlmegohoaa.Q
open Go.RowKit Go.Proofs.YthmkgdlmegohoaaW.PrintWords Go.Proofs.YthmkgdlmegohoaaW.PrintLast Go.Proofs.YthmkgdlmegohoaaW.PrintMore
attribute [local go_sem] max2_int min2_int max_two min_two max_three min_three max_four min_four   -- for this text's walks alone
set_option linter.unusedVariables false
set_option linter.unusedSimpArgs false

/-! ### impl_TopicTimeline: function 34 -/
def impl_TopicTimeline.f (k : Nat) (l0 : List S30) (a1 a2 : Int) : Option (List S85 × Bool) := if l0.length ≤ 4611686018427387904 then ((impl_IsConsistent.f k l0).bind fun t => (if t = true then ((impl_isTopicArea.f a1 a2).bind fun u => (if u = true then ((impl_timeline.f k (lvl l0 a1 a2)).bind fun v => some (v, true)) else (some ([], false)))) else (some ([], false)))) else none
theorem impl_TopicTimeline.mono : ∀ a0 a1 a2 k, LeO (impl_TopicTimeline.f k a0 a1 a2) (impl_TopicTimeline.f (k + 1) a0 a1 a2) := by
 intro a0 a1 a2 k
 unfold impl_TopicTimeline.f
 refine LeO.ite (LeO.bind (impl_IsConsistent.mono a0 k) fun _ => LeO.ite (LeO.bind (LeO.refl _) fun _ => LeO.ite (LeO.bind (impl_timeline.mono _ k) fun _ => LeO.refl _) (LeO.refl _)) (LeO.refl _)) (LeO.refl _)
/-- The level that TopicTimeline hands on. -/
theorem impl_TopicTimeline.level (B1 B2 B3 : Nat) (A0 : Option Addr) (c0 : Nat) (l0 : List S30) (a1 a2 : Int) (w0 w : World) (hr0 : Kd.C k30 w0 A0 l0.length l0) (hc0 : l0.length ≤ c0) (hb0 : Below w0.heap.size w0 w) (hl : l0.length ≤ 4611686018427387904)
  (h1 : w.heap[B1]? = some (.cells #[.slice A0 l0.length c0] 26 (0, 0))) (h2 : w.heap[B2]? = some (.cells #[.int .i64 a1] 3 (0, 0))) (h3 : w.heap[B3]? = some (.cells #[.int .i64 a2] 3 (0, 0))) :
  ∀ (W : World) (h r : Int), Below w.heap.size w W → some (lvl l0 a1 a2 h) = some r → Calls Try.prog 79 (#[.int .i64 h] ++ #[.pointer (some ⟨B1, 0, none⟩), .pointer (some ⟨B2, 0, none⟩), .pointer (some ⟨B3, 0, none⟩)]) W fun e w' => e = .returned (.int .i64 r) ∧ Below W.heap.size W w' := by
 intro W h r hb hr
 obtain rfl := Option.some.inj hr
 have g1 : W.cell? ⟨B1, 0, none⟩ = some (.slice A0 l0.length c0) := blk_cell (blk_below h1 hb) 0
 have g2 : W.cell? ⟨B2, 0, none⟩ = some (.int .i64 a1) := blk_cell (blk_below h2 hb) 0
 have g3 : W.cell? ⟨B3, 0, none⟩ = some (.int .i64 a2) := blk_cell (blk_below h3 hb) 0
 have HR := Aside0.mk (Kd.C_below (Kd.C_below hr0 hb0) hb)
 have HC := Aside0.mk hc0
 obtain ⟨k1, hf⟩ := (ev_topicLevel l0 hl a1 a2 h).rounds
 have HF := Aside0.mk hf
 clear hf
 clear hr0 hc0 hb0 h1 h2 h3 hb hr hl
 show Calls Try.prog 79 #[.int .i64 h, .pointer (some ⟨B1, 0, none⟩), .pointer (some ⟨B2, 0, none⟩), .pointer (some ⟨B3, 0, none⟩)] W _
 go_enter Try.func79, Try.ntmps79
 go_wp2_with (go_at_call 80; refine (impl_topicLevel.calls k1 A0 c0 l0 a1 a2 h (lvl l0 a1 a2 h) _ HR.out HC.out HF.out).mono ?_; rintro e w' ⟨rfl, hb'⟩)
 go_ret
 exact ⟨rfl, hb'⟩
set_option maxHeartbeats 4000000 in
theorem impl_TopicTimeline.calls (k : Nat) (A0 : Option Addr) (c0 : Nat) (l0 : List S30) (a1 a2 : Int) (r1 : List S85) (r2 : Bool) (w : World) (hr0 : Kd.C k30 w A0 l0.length l0) (hc0 : l0.length ≤ c0) (h : impl_TopicTimeline.f k l0 a1 a2 = some (r1, r2)) :
  Calls Try.prog 34 #[.slice A0 l0.length c0, .int .i64 a1, .int .i64 a2] w fun e w' => ∃ v0_ : Value, e = .returned (.tuple #[v0_, .bool r2]) ∧ Kd.R k85 85 w' w.heap.size (fun _ => True) v0_ r1 ∧ Below w.heap.size w w' := by
 have hu := Try.underlying30
 unfold impl_TopicTimeline.f at h
 by_cases hl : l0.length ≤ 4611686018427387904
 ·
  rw [if_pos hl] at h
  obtain ⟨t, ht, h⟩ := Option.bind_eq_some_iff.mp h
  have HR0 := Aside0.mk hr0
  have HC0 := Aside0.mk hc0
  have HT := Aside0.mk ht
  have HL := Aside0.mk hl
  clear hr0 hc0 ht hl
  -- the boxes
  obtain ⟨W1, hW1⟩ : ∃ W1, W1 = w.alloc (.cells #[.slice A0 l0.length c0] 26) := ⟨_, rfl⟩
  have a1B : Below w.heap.size w W1 := by rw [hW1]; exact (Below.refl _ w).alloc (Nat.le_refl _) _
  have a1N : W1.heap[w.heap.size]? = some (.cells #[.slice A0 l0.length c0] 26 (0, 0)) := by rw [hW1]; exact heap_alloc_new w _
  have a1S : W1.heap.size = w.heap.size + 1 := by rw [hW1]; show (w.heap.push _).size = _; rw [Array.size_push]
  obtain ⟨W2, hW2⟩ : ∃ W2, W2 = W1.alloc (.cells #[.int .i64 a1] 3) := ⟨_, rfl⟩
  have a2B : Below W1.heap.size W1 W2 := by rw [hW2]; exact (Below.refl _ W1).alloc (Nat.le_refl _) _
  have a2N : W2.heap[W1.heap.size]? = some (.cells #[.int .i64 a1] 3 (0, 0)) := by rw [hW2]; exact heap_alloc_new W1 _
  have a2S : W2.heap.size = W1.heap.size + 1 := by rw [hW2]; show (W1.heap.push _).size = _; rw [Array.size_push]
  obtain ⟨WL, hWL⟩ : ∃ WL, WL = W2.alloc (.cells #[.int .i64 a2] 3) := ⟨_, rfl⟩
  have a3B : Below W2.heap.size W2 WL := by rw [hWL]; exact (Below.refl _ W2).alloc (Nat.le_refl _) _
  have a3N : WL.heap[W2.heap.size]? = some (.cells #[.int .i64 a2] 3 (0, 0)) := by rw [hWL]; exact heap_alloc_new W2 _
  have bB : Below w.heap.size w WL := (a1B.trans (a2B.mono (by omega))).trans (a3B.mono (by omega))
  have g1 : WL.heap[w.heap.size]? = some (.cells #[.slice A0 l0.length c0] 26 (0, 0)) := blk_below (blk_below a1N a2B) a3B
  have g2 : WL.heap[W1.heap.size]? = some (.cells #[.int .i64 a1] 3 (0, 0)) := blk_below a2N a3B
  rw [a1S] at g2
  have g3 : WL.heap[W2.heap.size]? = some (.cells #[.int .i64 a2] 3 (0, 0)) := a3N
  rw [a2S, a1S] at g3
  have g2c : WL.cell? ⟨w.heap.size + 1, 0, none⟩ = some (.int .i64 a1) := blk_cell g2 0
  have g3c : WL.cell? ⟨w.heap.size + 1 + 1, 0, none⟩ = some (.int .i64 a2) := blk_cell g3 0
  have BB := Aside0.mk bB
  have GB1 := Aside0.mk g1
  have GB2 := Aside0.mk g2
  have GB3 := Aside0.mk g3
  have HW := Aside0.mk (show ((w.alloc (.cells #[.slice A0 l0.length c0] 26)).alloc (.cells #[.int .i64 a1] 3)).alloc (.cells #[.int .i64 a2] 3) = WL from by rw [hWL, hW2, hW1])
  have HCW := Aside0.mk (Kd.C_below HR0.out BB.out)
  have g1c : WL.cell? ⟨w.heap.size, 0, none⟩ = some (.slice A0 l0.length c0) := blk_cell g1 0
  clear a1B a1N a1S g1 a2B a2N a2S a3B a3N g2 g3 hW1 hW2 hWL bB
  cases t with
  | false =>
   rw [if_neg (by decide)] at h
   have hr : r1 = [] ∧ r2 = false := ⟨(congrArg Prod.fst (Option.some.inj h)).symm, (congrArg Prod.snd (Option.some.inj h)).symm⟩
   obtain ⟨rfl, rfl⟩ := hr
   clear h
   skip
   go_enter Try.func34, Try.ntmps34
   go_wp2_with (first | (go_at_call 57; rw [HW.out]; refine (impl_IsConsistent.calls k A0 c0 l0 false _ HCW.out HC0.out HT.out).mono ?_; rintro e w' ⟨rfl, hb'⟩))
   go_ret2
   exact ⟨_, rfl, Kd.R_nil _ _ _ _ _, BB.out.trans (hb'.mono BB.out.size)⟩
  | true =>
   rw [if_pos rfl] at h
   obtain ⟨u, hu2, h⟩ := Option.bind_eq_some_iff.mp h
   have HU := Aside0.mk hu2
   clear hu2
   cases u with
   | false =>
    rw [if_neg (by decide)] at h
    have hr : r1 = [] ∧ r2 = false := ⟨(congrArg Prod.fst (Option.some.inj h)).symm, (congrArg Prod.snd (Option.some.inj h)).symm⟩
    obtain ⟨rfl, rfl⟩ := hr
    clear h
    go_enter Try.func34, Try.ntmps34
    go_wp2_with (first | (go_at_call 57; rw [HW.out]; refine (impl_IsConsistent.calls k A0 c0 l0 true _ HCW.out HC0.out HT.out).mono ?_; rintro e w' ⟨rfl, hb'⟩; have HB1 := Aside0.mk hb'; have q2 := (hb'.cell (World.block_lt_of_cell? _ _ g2c)).trans g2c; have q3 := (hb'.cell (World.block_lt_of_cell? _ _ g3c)).trans g3c; clear hb') | (go_at_call 70; refine (impl_isTopicArea.calls a1 a2 false _ HU.out).mono ?_; rintro e w'' ⟨rfl, hb''⟩; replace hb'' := hb''.below))
    go_ret2
    exact ⟨_, rfl, Kd.R_nil _ _ _ _ _, (BB.out.trans (HB1.out.mono BB.out.size)).trans (hb''.mono (Nat.le_trans BB.out.size HB1.out.size))⟩
   | true =>
    rw [if_pos rfl] at h
    obtain ⟨v, hv, h⟩ := Option.bind_eq_some_iff.mp h
    have hr : r1 = v ∧ r2 = true := ⟨(congrArg Prod.fst (Option.some.inj h)).symm, (congrArg Prod.snd (Option.some.inj h)).symm⟩
    obtain ⟨rfl, rfl⟩ := hr
    have HV := Aside0.mk hv
    clear h hv
    have eg : ∀ args w, (callFunc 79 args).run Try.prog w = .ok (.enter 79 args) w := enters_of Try.func79 (by kernel_rfl) rfl
    go_enter Try.func34, Try.ntmps34
    go_wp2_with (first | (go_at_call 57; rw [HW.out]; refine (impl_IsConsistent.calls k A0 c0 l0 true _ HCW.out HC0.out HT.out).mono ?_; rintro e w' ⟨rfl, hb'⟩; have HB1 := Aside0.mk hb'; have q2 := (hb'.cell (World.block_lt_of_cell? _ _ g2c)).trans g2c; have q3 := (hb'.cell (World.block_lt_of_cell? _ _ g3c)).trans g3c; clear hb') | (go_at_call 70; refine (impl_isTopicArea.calls a1 a2 true _ HU.out).mono ?_; rintro e w'' ⟨rfl, hb''⟩; replace hb'' := hb''.below; have HB2 := Aside0.mk (HB1.out.trans (hb''.mono HB1.out.size)); clear hb'') | (go_at_call 78; refine (impl_timeline.calls k 79 #[.pointer (some ⟨w.heap.size, 0, none⟩), .pointer (some ⟨w.heap.size + 1, 0, none⟩), .pointer (some ⟨w.heap.size + 1 + 1, 0, none⟩)] eg _ r1 _ ?hpt HV.out).mono ?_; (case hpt => exact impl_TopicTimeline.level _ _ _ A0 c0 l0 a1 a2 w _ HR0.out HC0.out (BB.out.trans (HB2.out.mono BB.out.size)) HL.out (blk_below GB1.out HB2.out) (blk_below GB2.out HB2.out) (blk_below GB3.out HB2.out)); rintro e w3 ⟨v3, rfl, ho3, hb3⟩))
    go_ret2
    exact ⟨_, rfl, Kd.R_lower ho3 (Nat.le_trans BB.out.size HB2.out.size), (BB.out.trans (HB2.out.mono BB.out.size)).trans (hb3.mono (Nat.le_trans BB.out.size HB2.out.size))⟩
 ·
  rw [if_neg hl] at h
  cases h

end Go.Proofs.Ythmkgdlmegohoaa.Q
