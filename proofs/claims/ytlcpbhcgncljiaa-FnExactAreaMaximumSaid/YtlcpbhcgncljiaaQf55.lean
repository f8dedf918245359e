-- Printed by a program of this session (wip/tools/seatprint.py) that runs over the kit's print.
import Derived.Test.YtlcpbhcgncljiaaQ0
namespace Go.Proofs.Ytlcpbhcgncljiaa.Q
open Go.RowKit Go.Proofs.YtlcpbhcgncljiaaW.PrintWords Go.Proofs.YtlcpbhcgncljiaaW.PrintLast Go.Proofs.YtlcpbhcgncljiaaW.PrintMore
attribute [local go_sem] max2_int min2_int max_two min_two max_three min_three max_four min_four   -- for this text's walks alone
set_option linter.unusedVariables false
set_option linter.unusedSimpArgs false

/-! ### slices_Max_int_int: function 55 -/
/-- slices.Max: what it holds behind place j. -/
def maxN (l : List Int) : Nat → Int
 | 0 => l.getD 0 0
 | j + 1 => mx (maxN l j) (l.getD (j + 1) 0)
def slices_Max_int_int.f (l0 : List Int) : Option Int := if 0 < l0.length then some (maxN l0 (l0.length - 1)) else none
set_option maxHeartbeats 4000000 in
theorem slices_Max_int_int.calls (A0 : Option Addr) (c0 : Nat) (l0 : List Int) (r : Int) (w : World) (hr0 : Kd.C (Kd.int .i64) w A0 l0.length l0) (hc0 : l0.length ≤ c0) (h : slices_Max_int_int.f l0 = some r) :
  Calls Try.prog 55 #[.slice A0 l0.length c0] w fun e w' => e = .returned (.int .i64 r) ∧ Below w.heap.size w w' := by
 have hbig : l0.length ≤ 9223372036854775807 := hr0.2.1
 unfold slices_Max_int_int.f at h
 by_cases h0 : 0 < l0.length
 ·
  rw [if_pos h0] at h
  obtain rfl := Option.some.inj h
  clear h
  have HR0 := Aside0.mk hr0
  obtain ⟨ad, e0, hx0⟩ := Kd.at_int hr0 0 (by omega) (by omega)
  cases e0
  have hz : (rd l0 0) = maxN l0 0 := rfl
  rw [hz, show ad.add (Int.toNat 0) = ad from by cases ad; rfl] at hx0
  have h1 : ¬ (l0.length : Int) < 1 := by omega
  have h2 : (0 : Int) < (l0.length : Int) := by omega
  clear hr0 hz hc0
  generalize hm : maxN l0 0 = m0 at hx0
  have HM := Aside0.mk hm
  clear hm
  go_enter Try.func55, Try.ntmps55
  go_wp2
  go_loopg [3, 4] l0.length (fun gg s3 s4 wr => ∃ j : Nat, j < l0.length ∧ l0.length - (j + 1) ≤ gg ∧ Aside0 (s3 = .int .i64 (maxN l0 j)) ∧ s4 = .int .i64 ((j : Int) + 1) ∧ w = wr)
  case atStart => exact ⟨0, h0, by omega, ⟨by rw [HM.out]⟩, by go_num, rfl⟩
  case round =>
   obtain ⟨j, hj, hg, ⟨rfl⟩, rfl, rfl⟩ := hrel
   clear hx0
   by_cases hlt : j + 1 < l0.length
   ·
    have hltz : (j : Int) + 1 < (l0.length : Int) := by omega
    obtain ⟨ad', e1, hx1⟩ := Kd.at_int HR0.out ((j : Int) + 1) (by omega) hltz
    cases e1
    have e2 : rd l0 ((j : Int) + 1) = l0.getD (j + 1) 0 := rfl
    rw [e2, show ((j : Int) + 1).toNat = j + 1 from by omega] at hx1
    clear e2
    generalize hv : l0.getD (j + 1) 0 = v at hx1
    replace hx1 : w.cell? ⟨ad.block, ad.off + (j + 1), none⟩ = some (.int .i64 v) := hx1
    have HV := Aside0.mk hv
    clear hv
    generalize hu : maxN l0 j = u
    have HU := Aside0.mk hu
    clear hu
    by_cases huv : u < v
    ·
     go_wp2
     go_roundg (l0.length - (j + 1 + 1))
     case measure => omega
     case rel => exact ⟨j + 1, hlt, by omega, ⟨by show Value.int .i64 _ = Value.int .i64 (mx (maxN l0 j) (l0.getD (j + 1) 0)); rw [HU.out, HV.out]; unfold mx; rw [if_pos huv]⟩, by go_num, rfl⟩
    ·
     go_wp2
     go_roundg (l0.length - (j + 1 + 1))
     case measure => omega
     case rel => exact ⟨j + 1, hlt, by omega, ⟨by show Value.int .i64 _ = Value.int .i64 (mx (maxN l0 j) (l0.getD (j + 1) 0)); rw [HU.out, HV.out]; unfold mx; rw [if_neg (by omega)]⟩, by go_num, rfl⟩
   ·
    have hltz : ¬ (j : Int) + 1 < (l0.length : Int) := by omega
    have : j = l0.length - 1 := by omega
    generalize hu : maxN l0 j = u
    have HU := Aside0.mk hu
    clear hu
    have HJ := Aside0.mk this
    clear this
    go_wp2
    go_ret
    exact ⟨by show Ending.returned (Value.int .i64 u) = _; rw [← HU.out, ← HJ.out], Below.refl _ _⟩
 ·
  rw [if_neg h0] at h
  cases h

end Go.Proofs.Ytlcpbhcgncljiaa.Q
