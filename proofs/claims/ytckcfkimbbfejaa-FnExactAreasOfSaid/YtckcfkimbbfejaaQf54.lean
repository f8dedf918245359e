-- Printed by a program of this session (wip/tools/seatprint.py) that runs over the kit's print.
import Derived.Test.YtckcfkimbbfejaaQ0
import Derived.Test.YtckcfkimbbfejaaQf60
import Derived.Test.YtckcfkimbbfejaaQf17
import Derived.Test.YtckcfkimbbfejaaQf90
namespace Go.Proofs.Ytckcfkimbbfejaa.Q
open Go.RowKit Go.Proofs.YtckcfkimbbfejaaW.PrintWords Go.Proofs.YtckcfkimbbfejaaW.PrintLast Go.Proofs.YtckcfkimbbfejaaW.PrintMore
attribute [local go_sem] max2_int min2_int max_two min_two max_three min_three max_four min_four   -- for this text's walks alone
set_option linter.unusedVariables false
set_option linter.unusedSimpArgs false

/-! ### impl_hasAreas: function 54 -/
/-- The area is not there. -/
def awayB (l : List Int) (x : Int) : Bool := decide (x < 1) || !(decide (x ∈ l))
theorem impl_hasAreas.pred (B : Nat) (a0_0 a0_1 : Int) (A : Option Addr) (c : Nat) (l : List Int) (w : World) (hB : w.heap[B]? = some (.cells #[.int .i64 a0_0, .int .i64 a0_1, .slice A l.length c] 28 (0, 0))) (hr : Kd.C (Kd.int .i64) w A l.length l) (hc : l.length ≤ c) :
  ∀ (W : World) (x : Int), Below w.heap.size w W → Calls Try.prog 72 (#[.int .i64 x] ++ #[.pointer (some ⟨B, 0, none⟩)]) W fun e w' => e = .returned (.bool (awayB l x)) ∧ Below W.heap.size W w' := by
 intro W x hb
 have hl : l.length ≤ 9223372036854775807 := hr.2.1
 have hB2 : W.cell? ⟨B, 2, none⟩ = some (.slice A l.length c) := blk_cell (blk_below hB hb) 2
 have HR := Aside0.mk (Kd.C_below hr hb)
 have HC := Aside0.mk hc
 have hu := Try.underlying28
 clear hB hr hc hb
 show Calls Try.prog 72 #[.int .i64 x, .pointer (some ⟨B, 0, none⟩)] W _
 by_cases h1 : x < 1
 ·
  have e1 : awayB l x = true := by unfold awayB; rw [decide_eq_true h1]; rfl
  rw [e1]
  clear e1
  go_enter Try.func72, Try.ntmps72
  go_wp2
  go_ret
  exact ⟨rfl, Below.refl _ _⟩
 ·
  obtain ⟨k1, hf⟩ := (ev_containsI l hl x).rounds
  have HF := Aside0.mk hf
  have e1 : awayB l x = !(decide (x ∈ l)) := by unfold awayB; rw [decide_eq_false h1]; rfl
  rw [e1]
  clear e1 hf
  generalize decide (x ∈ l) = q at HF
  go_enter Try.func72, Try.ntmps72
  go_wp2_with (go_at_call 73; refine (slices_Contains_int_int.calls k1 A c l x q _ HR.out HC.out HF.out).mono ?_; rintro e w' ⟨rfl, hb'⟩; replace hb' := hb'.below)
  go_ret
  exact ⟨rfl, hb'⟩
def impl_hasAreas.f (k : Nat) (a0_0 : Int) (a0_1 : Int) (l0_2 : List Int) (l1 : List Int) : Option Bool := (impl_IsValidAreaMap.f k a0_0 a0_1 l0_2).bind fun t => some (t && !(l1.any (awayB l0_2)))
theorem impl_hasAreas.mono : ∀ a0_0 a0_1 a0_2 a1 k, LeO (impl_hasAreas.f k a0_0 a0_1 a0_2 a1) (impl_hasAreas.f (k + 1) a0_0 a0_1 a0_2 a1) := fun a b c d k => LeO.bind (impl_IsValidAreaMap.mono a b c k) (fun _ => LeO.refl _)
theorem impl_hasAreas.calls (k : Nat) (a0_0 : Int) (a0_1 : Int) (A0_2 : Option Addr) (c0_2 : Nat) (l0_2 : List Int) (A1 : Option Addr) (c1 : Nat) (l1 : List Int) (r : Bool) (w : World) (hr0_2 : Kd.C (Kd.int .i64) w A0_2 l0_2.length l0_2) (hc0_2 : l0_2.length ≤ c0_2) (hr1 : Kd.C (Kd.int .i64) w A1 l1.length l1) (hc1 : l1.length ≤ c1) (h : impl_hasAreas.f k a0_0 a0_1 l0_2 l1 = some r) :
  Calls Try.prog 54 #[.agg #[.int .i64 a0_0, .int .i64 a0_1, .slice A0_2 l0_2.length c0_2], .slice A1 l1.length c1] w fun e w' => e = .returned (.bool r) ∧ Below w.heap.size w w' := by
 have hu := Try.underlying28
 have HR := Aside0.mk hr0_2
 have HC := Aside0.mk hc0_2
 have HR1 := Aside0.mk hr1
 have HC1 := Aside0.mk hc1
 clear hr0_2 hc0_2 hr1 hc1
 unfold impl_hasAreas.f at h
 obtain ⟨t, ht, h⟩ := Option.bind_eq_some_iff.mp h
 have HT := Aside0.mk ht
 clear ht
 have eg : ∀ args w, (callFunc 72 args).run Try.prog w = .ok (.enter 72 args) w := enters_of Try.func72 (by kernel_rfl) rfl
 have EG := Aside0.mk eg
 clear eg
 have HH := Aside0.mk (Option.some.inj h)
 clear h
 obtain ⟨W1, hW1⟩ : ∃ W1, W1 = w.alloc (.cells #[.int .i64 a0_0, .int .i64 a0_1, .slice A0_2 l0_2.length c0_2] 28) := ⟨_, rfl⟩
 have a1B : Below w.heap.size w W1 := by rw [hW1]; exact (Below.refl _ w).alloc (Nat.le_refl _) _
 have a1N : W1.heap[w.heap.size]? = some (.cells #[.int .i64 a0_0, .int .i64 a0_1, .slice A0_2 l0_2.length c0_2] 28 (0, 0)) := by rw [hW1]; exact heap_alloc_new w _
 have HW := Aside0.mk hW1
 have HB1 := Aside0.mk a1B
 have HN1 := Aside0.mk a1N
 clear a1B a1N hW1
 cases t with
 | false =>
  rw [Bool.false_and] at HH
  go_enter Try.func54, Try.ntmps54
  go_wp2_with (go_at_call 35; rw [← HW.out]; refine (impl_IsValidAreaMap.calls k a0_0 a0_1 A0_2 c0_2 l0_2 false _ (Kd.C_below HR.out HB1.out) HC.out HT.out).mono ?_; rintro e w' ⟨rfl, hb⟩)
  go_ret
  exact ⟨by show Ending.returned (Value.bool false) = _; rw [← HH.out], HB1.out.trans (hb.mono HB1.out.size)⟩
 | true =>
  rw [Bool.true_and] at HH
  go_enter Try.func54, Try.ntmps54
  go_wp2_with fail
  rw [← HW.out]
  refine (impl_IsValidAreaMap.calls k a0_0 a0_1 A0_2 c0_2 l0_2 true _ (Kd.C_below HR.out HB1.out) HC.out HT.out).mono ?_
  rintro e w1 ⟨rfl, hb⟩
  have HB2 := Aside0.mk hb
  clear hb
  go_wp2_with fail
  refine (ContainsFuncI.calls 72 #[.pointer (some ⟨w.heap.size, 0, none⟩)] (awayB l0_2) EG.out A1 l1.length c1 l1 _ rfl ?hr1 HC1.out ?hp1).mono ?_
  case hr1 => exact Kd.C_below (Kd.C_below HR1.out HB1.out) HB2.out
  case hp1 => exact fun W x _ hb => impl_hasAreas.pred w.heap.size a0_0 a0_1 A0_2 c0_2 l0_2 w1 (blk_below HN1.out HB2.out) (Kd.C_below (Kd.C_below HR.out HB1.out) HB2.out) HC.out W x hb
  rintro e w' ⟨rfl, hb'⟩
  generalize hq : (l1.any (awayB l0_2)) = q at *
  go_wp2
  go_ret
  exact ⟨by show Ending.returned (Value.bool (!q)) = _; rw [← HH.out], (HB1.out.trans (HB2.out.mono HB1.out.size)).trans (hb'.mono (Nat.le_trans HB1.out.size HB2.out.size))⟩
-- slices.Contains is called through hasAreas$1: 73

end Go.Proofs.Ytckcfkimbbfejaa.Q
