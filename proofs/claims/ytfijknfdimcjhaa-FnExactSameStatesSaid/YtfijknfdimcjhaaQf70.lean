-- Printed by a program of this session (wip/tools/seatprint.py) that runs over the kit's print.
import Derived.Test.YtfijknfdimcjhaaQ0
import Derived.Test.YtfijknfdimcjhaaQf50
import Derived.Test.YtfijknfdimcjhaaQf53
namespace Go.Proofs.Ytfijknfdimcjhaa.Q
open Go.RowKit Go.Proofs.YtfijknfdimcjhaaW.PrintWords Go.Proofs.YtfijknfdimcjhaaW.PrintLast Go.Proofs.YtfijknfdimcjhaaW.PrintMore
attribute [local go_sem] max2_int min2_int max_two min_two max_three min_three max_four min_four   -- for this text's walks alone
set_option linter.unusedVariables false
set_option linter.unusedSimpArgs false

/-! ### impl_Warning_70: function 70 -/
/-- slices.IndexFunc at warnings, whatever the predicate that leaves the old memory alone. -/
theorem IndexFuncW.calls (g : Nat) (lb : Array Value) (p : S25 → Bool) (eg : ∀ args w, (callFunc g args).run Try.prog w = .ok (.enter g args) w)
    (A0 : Option Addr) (n0 c0 : Nat) (l0 : List S25) (w : World) (hn : n0 = l0.length) (hr0 : Kd.C k25 w A0 l0.length l0) (hc0 : l0.length ≤ c0)
    (hp : ∀ (W : World) (x : S25), Below w.heap.size w W → Calls Try.prog g (#[.agg #[.int .i64 x.f0, .int .i64 x.f1, .int .i64 x.f2, .int .i64 x.f3, .int .i64 x.f4, .int .i64 x.f5]] ++ lb) W fun e w' => e = .returned (.bool (p x)) ∧ Below W.heap.size W w') :
    Calls Try.prog 70 #[.slice A0 n0 c0, .func (.func g) #[] lb] w fun e w' => e = .returned (.int .i64 (Gen.fIdx p l0)) ∧ Below w.heap.size w w' := by
  subst hn
  have hu := Try.underlying25
  have HR0 := Aside0.mk hr0
  have HP := Aside0.mk hp
  have hbig : l0.length ≤ 9223372036854775807 := hr0.2.1
  clear hr0 hp hc0
  go_enter Try.func70, Try.ntmps70
  go_wp2
  go_loopg [5, 8] l0.length (fun gg _ s8 wr => ∃ kk : Nat, kk ≤ l0.length ∧ l0.length - kk ≤ gg ∧ s8 = .int .i64 kk ∧ Aside0 (Below w.heap.size w wr) ∧ Aside0 (∀ j, j < kk → p (l0.getD j z25) = false))
  case atStart => exact ⟨0, Nat.zero_le _, by omega, rfl, ⟨Below.refl _ w⟩, ⟨fun j hj => absurd hj (Nat.not_lt_zero _)⟩⟩
  case round =>
    obtain ⟨kk, hkk, hg, rfl, BW, AN⟩ := hrel
    by_cases hlt : kk < l0.length
    · have hltz : (kk : Int) < (l0.length : Int) := by omega
      obtain ⟨ad, e0, hx0, hx1, hx2, hx3, hx4, hx5⟩ := at_T25 HR0.out (kk : Int) (by omega) hltz
      cases e0
      rw [show rd_T25 l0 (kk : Int) = l0.getD kk z25 from rfl, Int.toNat_natCast] at hx0 hx1 hx2 hx3 hx4 hx5
      generalize hy : l0.getD kk z25 = y at hx0 hx1 hx2 hx3 hx4 hx5
      have B := Aside0.mk hy
      clear hy
      replace hx0 := (BW.out.cell (World.block_lt_of_cell? w _ hx0)).trans hx0
      replace hx1 := (BW.out.cell (World.block_lt_of_cell? w _ hx1)).trans hx1
      replace hx2 := (BW.out.cell (World.block_lt_of_cell? w _ hx2)).trans hx2
      replace hx3 := (BW.out.cell (World.block_lt_of_cell? w _ hx3)).trans hx3
      replace hx4 := (BW.out.cell (World.block_lt_of_cell? w _ hx4)).trans hx4
      replace hx5 := (BW.out.cell (World.block_lt_of_cell? w _ hx5)).trans hx5
      have hcall := HP.out wr y BW.out
      cases hq : p y with
      | true =>
        rw [hq] at hcall
        go_wp2_with (go_at_fn g; refine hcall.mono ?_; rintro e w' ⟨rfl, hb'⟩)
        go_ret
        refine ⟨?_, BW.out.trans (hb'.mono BW.out.size)⟩
        rw [Gen.fIdx_hit p l0 z25 kk hlt (by rw [B.out]; exact hq) AN.out]
        rfl
      | false =>
        rw [hq] at hcall
        go_wp2_with (go_at_fn g; refine hcall.mono ?_; rintro e w' ⟨rfl, hb'⟩)
        go_roundg (l0.length - (kk + 1))
        case measure => omega
        case rel =>
          refine ⟨kk + 1, by omega, by omega, by go_num, ⟨BW.out.trans (hb'.mono BW.out.size)⟩, ⟨fun j hj => ?_⟩⟩
          by_cases e : j = kk
          · subst e
            rw [B.out]; exact hq
          · exact AN.out j (by omega)
    · have hltz : ¬ (kk : Int) < (l0.length : Int) := by omega
      have : kk = l0.length := by omega
      subst this
      go_wp2
      go_ret
      refine ⟨?_, BW.out⟩
      rw [Gen.fIdx_miss p l0 z25 AN.out]
      rfl

/-! ### impl_Warning_51: function 51 -/
/-- slices.ContainsFunc at warnings. -/
theorem ContainsFuncW.calls (g : Nat) (lb : Array Value) (p : S25 → Bool) (eg : ∀ args w, (callFunc g args).run Try.prog w = .ok (.enter g args) w)
    (A0 : Option Addr) (n0 c0 : Nat) (l0 : List S25) (w : World) (hn : n0 = l0.length) (hr0 : Kd.C k25 w A0 l0.length l0) (hc0 : l0.length ≤ c0)
    (hp : ∀ (W : World) (x : S25), Below w.heap.size w W → Calls Try.prog g (#[.agg #[.int .i64 x.f0, .int .i64 x.f1, .int .i64 x.f2, .int .i64 x.f3, .int .i64 x.f4, .int .i64 x.f5]] ++ lb) W fun e w' => e = .returned (.bool (p x)) ∧ Below W.heap.size W w') :
    Calls Try.prog 51 #[.slice A0 n0 c0, .func (.func g) #[] lb] w fun e w' => e = .returned (.bool (l0.any p)) ∧ Below w.heap.size w w' := by
  subst hn
  rw [← Gen.fIdx_nonneg p l0]
  have HC := Aside0.mk (IndexFuncW.calls g lb p eg A0 _ c0 l0 w rfl hr0 hc0 hp)
  clear hr0 hp hc0
  go_enter Try.func51, Try.ntmps51
  go_wp2_with (go_at_call 70; refine HC.out.mono ?_; rintro e w' ⟨rfl, hb'⟩)
  go_ret
  exact ⟨rfl, hb'⟩

/-! ### impl_IsConsistent: function 20 -/
/-- No two of the list meet. -/
def apartB (l : List S25) : Bool := (List.range l.length).all fun i => !((l.take i).any fun o => meetB (l.getD i z25) o)
def impl_IsConsistent.f (k : Nat) (l0 : List S25) : Option Bool := (impl_areWarnings.f k l0).bind fun t => some (t && apartB l0)
theorem impl_IsConsistent.mono : ∀ a0 k, LeO (impl_IsConsistent.f k a0) (impl_IsConsistent.f (k + 1) a0) := fun a0 k => LeO.bind (impl_areWarnings.mono a0 k) (fun _ => LeO.refl _)
/-- The function that IsConsistent hands on: it asks whether the warning in block B meets another. -/
theorem impl_IsConsistent.pred (B : Nat) (y : S25) (w : World) (hB : w.heap[B]? = some (.cells #[.int .i64 y.f0, .int .i64 y.f1, .int .i64 y.f2, .int .i64 y.f3, .int .i64 y.f4, .int .i64 y.f5] 25 (0, 0))) :
    ∀ (W : World) (x : S25), Below w.heap.size w W → Calls Try.prog 52 (#[.agg #[.int .i64 x.f0, .int .i64 x.f1, .int .i64 x.f2, .int .i64 x.f3, .int .i64 x.f4, .int .i64 x.f5]] ++ #[.pointer (some ⟨B, 0, none⟩)]) W fun e w' => e = .returned (.bool (meetB y x)) ∧ Below W.heap.size W w' := by
  intro W x hb
  have hlt : B < w.heap.size := by
    rcases Nat.lt_or_ge B w.heap.size with h | h
    · exact h
    · rw [Array.getElem?_eq_none h] at hB; cases hB
  have hBW : W.heap[B]? = some (.cells #[.int .i64 y.f0, .int .i64 y.f1, .int .i64 y.f2, .int .i64 y.f3, .int .i64 y.f4, .int .i64 y.f5] 25 (0, 0)) := (hb.block B hlt).trans hB
  have h0 : W.cell? ⟨B, 0, none⟩ = some (.int .i64 y.f0) := by simp [World.cell?, hBW]
  have h1 : W.cell? ⟨B, 1, none⟩ = some (.int .i64 y.f1) := by simp [World.cell?, hBW]
  have h2 : W.cell? ⟨B, 2, none⟩ = some (.int .i64 y.f2) := by simp [World.cell?, hBW]
  have h3 : W.cell? ⟨B, 3, none⟩ = some (.int .i64 y.f3) := by simp [World.cell?, hBW]
  have h4 : W.cell? ⟨B, 4, none⟩ = some (.int .i64 y.f4) := by simp [World.cell?, hBW]
  have h5 : W.cell? ⟨B, 5, none⟩ = some (.int .i64 y.f5) := by simp [World.cell?, hBW]
  have hBlt : B < W.heap.size := Nat.lt_of_lt_of_le hlt hb.size
  have hne : B ≠ W.heap.size := by omega
  have hu := Try.underlying25
  clear hBW hB hb
  have HF := Aside0.mk (meetB_f y x)
  show Calls Try.prog 52 #[.agg #[.int .i64 x.f0, .int .i64 x.f1, .int .i64 x.f2, .int .i64 x.f3, .int .i64 x.f4, .int .i64 x.f5], .pointer (some ⟨B, 0, none⟩)] W _
  go_enter Try.func52, Try.ntmps52
  go_wp2_with (go_at_call 53; refine (impl_doMeet.calls y.f0 y.f1 y.f2 y.f3 y.f4 y.f5 x.f0 x.f1 x.f2 x.f3 x.f4 x.f5 (meetB y x) _ HF.out).mono ?_; rintro e w' ⟨rfl, hb'⟩)
  go_ret
  exact ⟨rfl, by first | exact ((Below.refl _ W).alloc (Nat.le_refl _) _).trans (hb'.mono (by simp)) | exact ((Below.refl _ W).alloc (Nat.le_refl _) _).drewN _⟩
theorem impl_IsConsistent.loop (A0 : Option Addr) (c0 : Nat) (l0 : List S25) (hl : (apartB l0) = true) (kk : Nat) (hk : kk < l0.length) : (l0.take kk).any (meetB (l0.getD kk z25)) = false := by
  have h := List.all_eq_true.1 hl kk (List.mem_range.2 hk)
  simpa using h
theorem apartB_hit {l0 : List S25} {kk : Nat} (hk : kk < l0.length) (h : (l0.take kk).any (meetB (l0.getD kk z25)) = true) : apartB l0 = false := by
  unfold apartB
  rw [Bool.eq_false_iff]
  intro ha
  have h1 := List.all_eq_true.1 ha kk (List.mem_range.2 hk)
  have h1' : !((l0.take kk).any (meetB (l0.getD kk z25))) = true := by simpa using h1
  rw [h] at h1'
  cases h1'
theorem apartB_all {l0 : List S25} (h : ∀ j, j < l0.length → (l0.take j).any (meetB (l0.getD j z25)) = false) : apartB l0 = true := by
  unfold apartB
  refine List.all_eq_true.2 fun j hj => ?_
  have h1 := h j (List.mem_range.1 hj)
  show (!((l0.take j).any (meetB (l0.getD j z25)))) = true
  rw [h1]; rfl
set_option maxHeartbeats 2000000 in
set_option maxRecDepth 100000 in
theorem impl_IsConsistent.calls (k : Nat) (A0 : Option Addr) (c0 : Nat) (l0 : List S25) (r : Bool) (w : World) (hr0 : Kd.C k25 w A0 l0.length l0) (hc0 : l0.length ≤ c0) (h : impl_IsConsistent.f k l0 = some r) :
    Calls Try.prog 20 #[.slice A0 l0.length c0] w fun e w' => e = .returned (.bool r) ∧ Below w.heap.size w w' := by
  obtain ⟨t, ht, hr⟩ := Option.bind_eq_some_iff.1 h
  have hr' := Option.some.inj hr
  clear h hr
  have HT := Aside0.mk ht
  clear ht
  have hu := Try.underlying25
  have HR0 := Aside0.mk hr0
  have HC0 := Aside0.mk hc0
  have hbig : l0.length ≤ 9223372036854775807 := hr0.2.1
  clear hr0
  have eg : ∀ args w, (callFunc 52 args).run Try.prog w = .ok (.enter 52 args) w := enters_of Try.func52 (by kernel_rfl) rfl
  have EG := Aside0.mk eg
  clear eg
  cases t with
  | false =>
    subst hr'
    clear hc0
    go_enter Try.func20, Try.ntmps20
    go_wp2_with (go_at_call 50; (with_reducible refine (impl_areWarnings.calls k A0 c0 l0 false _ HR0.out HC0.out HT.out).mono ?_); rintro e w1 ⟨rfl, hb⟩)
    go_ret
    exact ⟨rfl, hb⟩
  | true =>
    rw [Bool.true_and] at hr'
    have HRR := Aside0.mk hr'
    clear hr'
    go_enter Try.func20, Try.ntmps20
    go_wp2_with (go_at_call 50; (with_reducible refine (impl_areWarnings.calls k A0 c0 l0 true _ HR0.out HC0.out HT.out).mono ?_); rintro e w1 ⟨rfl, hb⟩)
    have HB1 := Aside0.mk hb
    clear hb
    go_loopg [3, 4, 10] l0.length (fun gg _ _ s10 wr => ∃ kk : Nat, kk ≤ l0.length ∧ l0.length - kk ≤ gg ∧ s10 = .int .i64 kk ∧ Aside0 (Below w.heap.size w wr) ∧ Aside0 (∀ j, j < kk → (l0.take j).any (meetB (l0.getD j z25)) = false))
    case atStart => exact ⟨0, Nat.zero_le _, by omega, rfl, HB1, ⟨fun j hj => absurd hj (Nat.not_lt_zero _)⟩⟩
    case round =>
      clear HB1
      obtain ⟨kk, hkk, hg, rfl, BW, AN⟩ := hrel
      by_cases hlt : kk < l0.length
      · have hltz : (kk : Int) < (l0.length : Int) := by omega
        obtain ⟨ad, e0, hx0, hx1, hx2, hx3, hx4, hx5⟩ := at_T25 HR0.out (kk : Int) (by omega) hltz
        cases e0
        rw [show rd_T25 l0 (kk : Int) = l0.getD kk z25 from rfl, Int.toNat_natCast] at hx0 hx1 hx2 hx3 hx4 hx5
        generalize hy : l0.getD kk z25 = y at hx0 hx1 hx2 hx3 hx4 hx5
        have B := Aside0.mk hy
        clear hy
        replace hx0 := (BW.out.cell (World.block_lt_of_cell? w _ hx0)).trans hx0
        replace hx1 := (BW.out.cell (World.block_lt_of_cell? w _ hx1)).trans hx1
        replace hx2 := (BW.out.cell (World.block_lt_of_cell? w _ hx2)).trans hx2
        replace hx3 := (BW.out.cell (World.block_lt_of_cell? w _ hx3)).trans hx3
        replace hx4 := (BW.out.cell (World.block_lt_of_cell? w _ hx4)).trans hx4
        replace hx5 := (BW.out.cell (World.block_lt_of_cell? w _ hx5)).trans hx5
        have hkc : (kk : Int) ≤ (c0 : Int) := by omega
        cases hq : (l0.take kk).any (meetB y) with
        | true =>
          go_wp2_with fail
          refine (ContainsFuncW.calls 52 #[.pointer (some ⟨wr.heap.size, 0, none⟩)] (meetB y) EG.out (some ad) kk c0 (l0.take kk) _ (by rw [List.length_take]; omega) ?hr1 ?hc1 ?hp1).mono ?_
          case hr1 => exact Kd.C_take (Kd.C_below (Kd.C_below HR0.out BW.out) (below_alloc (Below.refl _ _) _)) hkk
          case hc1 => rw [List.length_take]; omega
          case hp1 => exact impl_IsConsistent.pred _ y _ (blk_new _ _)
          rintro e w' ⟨rfl, hb'⟩
          rw [hq]
          go_wp2
          go_ret
          refine ⟨?_, (below_alloc BW.out _).trans (hb'.mono (by have := BW.out.size; simp; omega))⟩
          rw [← HRR.out, apartB_hit hlt (by rw [B.out]; exact hq)]
          rfl
        | false =>
          go_wp2_with fail
          refine (ContainsFuncW.calls 52 #[.pointer (some ⟨wr.heap.size, 0, none⟩)] (meetB y) EG.out (some ad) kk c0 (l0.take kk) _ (by rw [List.length_take]; omega) ?hr1 ?hc1 ?hp1).mono ?_
          case hr1 => exact Kd.C_take (Kd.C_below (Kd.C_below HR0.out BW.out) (below_alloc (Below.refl _ _) _)) hkk
          case hc1 => rw [List.length_take]; omega
          case hp1 => exact impl_IsConsistent.pred _ y _ (blk_new _ _)
          rintro e w' ⟨rfl, hb'⟩
          rw [hq]
          go_wp2
          go_roundg (l0.length - (kk + 1))
          case measure => omega
          case rel =>
            refine ⟨kk + 1, by omega, by omega, by go_num, ⟨(below_alloc BW.out _).trans (hb'.mono (by have := BW.out.size; simp; omega))⟩, ⟨fun j hj => ?_⟩⟩
            by_cases e : j = kk
            · subst e
              rw [B.out]; exact hq
            · exact AN.out j (by omega)
      · have hltz : ¬ (kk : Int) < (l0.length : Int) := by omega
        have : kk = l0.length := by omega
        subst this
        go_wp2
        go_ret
        refine ⟨?_, BW.out⟩
        rw [← HRR.out, apartB_all AN.out]
        rfl

end Go.Proofs.Ytfijknfdimcjhaa.Q
