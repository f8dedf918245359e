-- Printed by a program of this session (wip/tools/seatprint.py) that runs over the kit's print.
import Derived.Test.YtckcfkimbbfejaaQ0
import Derived.Test.YtckcfkimbbfejaaQf60
import Derived.Test.YtckcfkimbbfejaaQf63
namespace Go.Proofs.Ytckcfkimbbfejaa.Q
open Go.RowKit Go.Proofs.YtckcfkimbbfejaaW.PrintWords Go.Proofs.YtckcfkimbbfejaaW.PrintLast Go.Proofs.YtckcfkimbbfejaaW.PrintMore
attribute [local go_sem] max2_int min2_int max_two min_two max_three min_three max_four min_four   -- for this text's walks alone
set_option linter.unusedVariables false
set_option linter.unusedSimpArgs false

/-! ### impl_AreasOf: function 9 -/
-- called: 36 38 35
theorem compactLe (l : List Int) : (Lib.compact l).length ≤ l.length := by
 unfold Lib.compact Lib.compactUpTo
 rw [List.length_map]
 refine Nat.le_trans (List.length_filter_le _ _) ?_
 rw [List.length_range]
 simp
/-- slices.Sort at a row of the call's own. -/
theorem sortI.calls (P0_ : Nat → Prop) (u : Value) (l0 : List Int) (w0 w : World) (hB : Below w0.heap.size w0 w) (ho0 : Kd.R (Kd.int .i64) 3 w w0.heap.size P0_ u l0) (h0 : 0 < l0.length) (hs : l0.length < 4611686018427387904) :
  Calls Try.prog 37 #[u] w fun e w' => e = .returned (.tuple #[]) ∧ Kd.R (Kd.int .i64) 3 w' w0.heap.size P0_ u (l0.mergeSort fun x y => decide (x ≤ y)) ∧ Below w0.heap.size w0 w' := by
 have hok := ho0.1
 have ho := Kd.own_of_R ho0
 obtain ⟨hlen, hor⟩ := ho
 rcases hor with ⟨rfl, hn⟩ | ⟨g, cap, cur, rfl, hg, hh, hncap, hcap, hcs, htk⟩
 ·
  omega
 rw [Nat.mul_one] at htk
 refine (Try.slices_Sort_int g 0 cap l0 w (Go.holds_of_blockI hh htk) (blk_lt hh) hs).mono ?_
 rintro e w' ⟨rfl, n, os, rfl⟩
 have hl : (l0.mergeSort fun x y => decide (x ≤ y)).length = l0.length := List.length_mergeSort _
 refine ⟨rfl, Kd.R_of_own ?_ hok, hB.grown (Go.grownBy_sortedI _) hB.size (fun k hk => by cases hk; exact hg)⟩
 rw [hl]
 exact Go.ownsRow_sortedI hl hg hh hncap hcap hcs
/-- slices.Compact at a row of the call's own. -/
theorem compactI.calls (P0_ : Nat → Prop) (u : Value) (l0 : List Int) (w0 w : World) (hB : Below w0.heap.size w0 w) (ho0 : Kd.R (Kd.int .i64) 3 w w0.heap.size P0_ u l0) (h0 : 0 < l0.length) :
  Calls Try.prog 39 #[u] w fun e w' => ∃ v0_ : Value, e = .returned v0_ ∧ Kd.R (Kd.int .i64) 3 w' w0.heap.size P0_ v0_ (Lib.compact l0) ∧ Below w0.heap.size w0 w' := by
 have hok := ho0.1
 have ho := Kd.own_of_R ho0
 obtain ⟨hlen, hor⟩ := ho
 rcases hor with ⟨rfl, hn⟩ | ⟨g, cap, cur, rfl, hg, hh, hncap, hcap, hcs, htk⟩
 ·
  omega
 rw [Nat.mul_one] at htk
 have hm : cap ≤ 9223372036854775807 := by simpa [maxLen] using hcap
 refine (Try.slices_Compact_int g 0 cap l0 w (Go.holds_of_blockI hh htk) (by omega) hncap).mono ?_
 rintro e w' ⟨rfl, q, rfl⟩
 have hle : (Lib.compact l0).length ≤ l0.length := compactLe l0
 have hl : (Lib.compact l0 ++ List.replicate (l0.length - (Lib.compact l0).length) (0 : Int)).length = l0.length := by rw [List.length_append, List.length_replicate]; omega
 have hR : Kd.R (Kd.int .i64) 3 (Go.Sort.putRow (Value.int .i64) (Go.Sort.ahead w q) g 0 (Lib.compact l0 ++ List.replicate (l0.length - (Lib.compact l0).length) (0 : Int)).toArray) w0.heap.size P0_ (.slice (some ⟨g, 0, none⟩) l0.length cap) (Lib.compact l0 ++ List.replicate (l0.length - (Lib.compact l0).length) (0 : Int)) := by
  refine Kd.R_of_own ?_ hok
  rw [hl]
  have := Go.ownsRow_sortedI (n := q) (os := #[]) hl hg hh hncap hcap hcs
  rwa [Go.Sort.grow_empty] at this
 refine ⟨_, rfl, ?_, ?_⟩
 ·
  have := Kd.R_take hR (m := (Lib.compact l0).length) (by rw [hl]; exact hle)
  rwa [List.take_left] at this
 ·
  have h2 := Go.grownBy_sortedI (w := w) (g := g) (n := q) (os := #[]) (Lib.compact l0 ++ List.replicate (l0.length - (Lib.compact l0).length) (0 : Int)).toArray
  rw [Go.Sort.grow_empty] at h2
  exact hB.grown h2 hB.size (fun k hk => by cases hk; exact hg)
theorem impl_AreasOf.pred : ∀ (W : World) (x : Int), Calls Try.prog 40 (#[.int .i64 x] ++ #[]) W fun e w' => e = .returned (.bool (x == 0)) ∧ Below W.heap.size W w' := by
 intro W x
 show Calls Try.prog 40 #[.int .i64 x] W _
 go_enter Try.func40, Try.ntmps40
 go_wp2
 go_ret
 exact ⟨rfl, Below.refl _ _⟩
def impl_AreasOf.f (k : Nat) (a0_0 : Int) (a0_1 : Int) (l0_2 : List Int) : Option (List Int × Bool) := (impl_IsValidAreaMap.f k a0_0 a0_1 l0_2).bind fun t => if t = true then (if 0 < l0_2.length ∧ l0_2.length < 17592186044416 then some ((Lib.compact (l0_2.mergeSort fun x y => decide (x ≤ y))).filter (fun x => !(x == 0)), true) else none) else some ([], false)
theorem impl_AreasOf.mono : ∀ a0_0 a0_1 a0_2 k, LeO (impl_AreasOf.f k a0_0 a0_1 a0_2) (impl_AreasOf.f (k + 1) a0_0 a0_1 a0_2) := fun a b c k => LeO.bind (impl_IsValidAreaMap.mono a b c k) (fun _ => LeO.refl _)
set_option maxHeartbeats 4000000 in
theorem impl_AreasOf.calls (k : Nat) (a0_0 : Int) (a0_1 : Int) (A0_2 : Option Addr) (c0_2 : Nat) (l0_2 : List Int) (r1 : List Int) (r2 : Bool) (w : World) (hr0_2 : Kd.C (Kd.int .i64) w A0_2 l0_2.length l0_2) (hc0_2 : l0_2.length ≤ c0_2) (h : impl_AreasOf.f k a0_0 a0_1 l0_2 = some (r1, r2)) :
  Calls Try.prog 9 #[.agg #[.int .i64 a0_0, .int .i64 a0_1, .slice A0_2 l0_2.length c0_2]] w fun e w' => ∃ v0_ : Value, e = .returned (.tuple #[v0_, .bool r2]) ∧ Kd.R (Kd.int .i64) 3 w' w.heap.size (fun _ => True) v0_ r1 ∧ Below w.heap.size w w' := by
 have hu := Try.underlying28
 have HR := Aside0.mk hr0_2
 have HC := Aside0.mk hc0_2
 have eg : ∀ args w, (callFunc 40 args).run Try.prog w = .ok (.enter 40 args) w := enters_of Try.func40 (by kernel_rfl) rfl
 have EG := Aside0.mk eg
 clear hr0_2 hc0_2 eg
 unfold impl_AreasOf.f at h
 obtain ⟨t, ht, h⟩ := Option.bind_eq_some_iff.mp h
 have HT := Aside0.mk ht
 clear ht
 obtain ⟨W1, hW1⟩ : ∃ W1, W1 = w.alloc (.cells #[.int .i64 a0_0, .int .i64 a0_1, .slice A0_2 l0_2.length c0_2] 28) := ⟨_, rfl⟩
 have a1B : Below w.heap.size w W1 := by rw [hW1]; exact (Below.refl _ w).alloc (Nat.le_refl _) _
 have a1N : W1.heap[w.heap.size]? = some (.cells #[.int .i64 a0_0, .int .i64 a0_1, .slice A0_2 l0_2.length c0_2] 28 (0, 0)) := by rw [hW1]; exact heap_alloc_new w _
 have HW := Aside0.mk hW1
 have HBW := Aside0.mk a1B
 have HN1 := Aside0.mk a1N
 clear a1B a1N hW1
 cases t with
 | false =>
  rw [if_neg (by simp)] at h
  injection h with h
  injection h with h1 h2
  subst h1 h2
  go_enter Try.func9, Try.ntmps9
  go_wp2_with (go_at_call 35; rw [← HW.out]; refine (impl_IsValidAreaMap.calls k a0_0 a0_1 A0_2 c0_2 l0_2 false _ (Kd.C_below HR.out HBW.out) HC.out HT.out).mono ?_; rintro e w1 ⟨rfl, hb⟩)
  go_ret2
  exact ⟨_, rfl, Kd.R_nil _ _ _ _ _, below_step HBW.out hb⟩
 | true =>
  rw [if_pos rfl] at h
  split at h
  ·
   rename_i hlen
   injection h with h
   injection h with h1 h2
   subst h1 h2
   have HL := Aside0.mk hlen
   clear hlen
   go_enter Try.func9, Try.ntmps9
   go_wp2_with fail
   rw [← HW.out]
   refine (impl_IsValidAreaMap.calls k a0_0 a0_1 A0_2 c0_2 l0_2 true _ (Kd.C_below HR.out HBW.out) HC.out HT.out).mono ?_
   rintro e w1 ⟨rfl, hb⟩
   have HB1 := Aside0.mk (below_step HBW.out hb)
   have hc2 : w1.cell? ⟨w.heap.size, 2, none⟩ = some (.slice A0_2 l0_2.length c0_2) := blk_cell (blk_below HN1.out hb) 2
   clear hb
   go_wp2_with fail
   refine (slices_Clone_int_int.calls A0_2 c0_2 l0_2 l0_2 w1 (Kd.C_below HR.out HB1.out) HC.out (if_pos HL.out.2)).mono ?_
   rintro e w2 ⟨v2, rfl, ho2, hb2⟩
   have HO2 := Aside0.mk (Kd.R_lower ho2 HB1.out.size)
   have HB2 := Aside0.mk (below_step HB1.out hb2)
   clear ho2 hb2
   go_wp2_with fail
   refine (sortI.calls (fun _ => True) v2 l0_2 w w2 HB2.out HO2.out HL.out.1 (by have := HL.out.2; omega)).mono ?_
   rintro e w3 ⟨rfl, ho3, hb3⟩
   have HO3 := Aside0.mk ho3
   have HB3 := Aside0.mk hb3
   clear ho3 hb3
   go_wp2_with fail
   refine (compactI.calls (fun _ => True) v2 (l0_2.mergeSort fun x y => decide (x ≤ y)) w w3 HB3.out HO3.out (by rw [List.length_mergeSort]; exact HL.out.1)).mono ?_
   rintro e w4 ⟨v4, rfl, ho4, hb4⟩
   have HO4 := Aside0.mk ho4
   have HB4 := Aside0.mk hb4
   clear ho4 hb4
   go_wp2_with fail
   refine (DeleteFuncI.calls 40 #[] (fun x => x == 0) EG.out (fun _ => True) v4 (Lib.compact (l0_2.mergeSort fun x y => decide (x ≤ y))) w w4 HB4.out HO4.out (fun W x _ _ _ => impl_AreasOf.pred W x)).mono ?_
   rintro e w5 ⟨v5, rfl, ho5, hb5, _⟩
   go_wp2
   go_ret2
   exact ⟨_, rfl, ho5, hb5⟩
  ·
   cases h

end Go.Proofs.Ytckcfkimbbfejaa.Q
