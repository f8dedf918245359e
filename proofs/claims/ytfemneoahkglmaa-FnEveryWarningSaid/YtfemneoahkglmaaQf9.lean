-- Printed by a program of this session (wip/tools/seatprint.py) that runs over the kit's print.
import Derived.Test.YtfemneoahkglmaaQ0
import Derived.Test.YtfemneoahkglmaaQf35
import Derived.Test.YtfemneoahkglmaaQf55
namespace Go.Proofs.Ytfemneoahkglmaa.Q
open Go.RowKit Go.Proofs.YtfemneoahkglmaaW.PrintWords Go.Proofs.YtfemneoahkglmaaW.PrintLast Go.Proofs.YtfemneoahkglmaaW.PrintMore
attribute [local go_sem] max2_int min2_int max_two min_two max_three min_three max_four min_four   -- for this text's walks alone
set_option linter.unusedVariables false
set_option linter.unusedSimpArgs false

/-! ### impl_IsConsistent: function 9 -/
/-- No two of the list meet. -/
def apartB (l : List S37) : Bool := (List.range l.length).all fun i => !((l.take i).any fun o => meetB (l.getD i z37) o)
def impl_IsConsistent.f (k : Nat) (l0 : List S37) : Option Bool := (impl_areWarnings.f k l0).bind fun t => some (t && apartB l0)
theorem impl_IsConsistent.mono : ∀ a0 k, LeO (impl_IsConsistent.f k a0) (impl_IsConsistent.f (k + 1) a0) := fun a0 k => LeO.bind (impl_areWarnings.mono a0 k) (fun _ => LeO.refl _)
/-- The function that IsConsistent hands on: it asks whether the warning in block B meets another. -/
theorem impl_IsConsistent.pred (B : Nat) (y : S37) (w : World) (hB : w.heap[B]? = some (.cells #[.int .i64 y.f0, .int .i64 y.f1, .int .i64 y.f2, .int .i64 y.f3, .int .i64 y.f4, .int .i64 y.f5] 37 (0, 0))) :
  ∀ (W : World) (x : S37), Below w.heap.size w W → Calls Try.prog 37 (#[.agg #[.int .i64 x.f0, .int .i64 x.f1, .int .i64 x.f2, .int .i64 x.f3, .int .i64 x.f4, .int .i64 x.f5]] ++ #[.pointer (some ⟨B, 0, none⟩)]) W fun e w' => e = .returned (.bool (meetB y x)) ∧ Below W.heap.size W w' := by
 intro W x hb
 have hlt : B < w.heap.size := by
  rcases Nat.lt_or_ge B w.heap.size with h | h
  ·
   exact h
  ·
   rw [Array.getElem?_eq_none h] at hB; cases hB
 have hBW : W.heap[B]? = some (.cells #[.int .i64 y.f0, .int .i64 y.f1, .int .i64 y.f2, .int .i64 y.f3, .int .i64 y.f4, .int .i64 y.f5] 37 (0, 0)) := (hb.block B hlt).trans hB
 have h0 : W.cell? ⟨B, 0, none⟩ = some (.int .i64 y.f0) := by simp [World.cell?, hBW]
 have h1 : W.cell? ⟨B, 1, none⟩ = some (.int .i64 y.f1) := by simp [World.cell?, hBW]
 have h2 : W.cell? ⟨B, 2, none⟩ = some (.int .i64 y.f2) := by simp [World.cell?, hBW]
 have h3 : W.cell? ⟨B, 3, none⟩ = some (.int .i64 y.f3) := by simp [World.cell?, hBW]
 have h4 : W.cell? ⟨B, 4, none⟩ = some (.int .i64 y.f4) := by simp [World.cell?, hBW]
 have h5 : W.cell? ⟨B, 5, none⟩ = some (.int .i64 y.f5) := by simp [World.cell?, hBW]
 have hBlt : B < W.heap.size := Nat.lt_of_lt_of_le hlt hb.size
 have hne : B ≠ W.heap.size := by omega
 have hu := Try.underlying37
 clear hBW hB hb
 have HF := Aside0.mk (meetB_f y x)
 show Calls Try.prog 37 #[.agg #[.int .i64 x.f0, .int .i64 x.f1, .int .i64 x.f2, .int .i64 x.f3, .int .i64 x.f4, .int .i64 x.f5], .pointer (some ⟨B, 0, none⟩)] W _
 go_enter Try.func37, Try.ntmps37
 go_wp2_with (go_at_call 38; refine (impl_doMeet.calls y.f0 y.f1 y.f2 y.f3 y.f4 y.f5 x.f0 x.f1 x.f2 x.f3 x.f4 x.f5 (meetB y x) _ HF.out).mono ?_; rintro e w' ⟨rfl, hb'⟩)
 go_ret
 exact ⟨rfl, by first | exact ((Below.refl _ W).alloc (Nat.le_refl _) _).trans (hb'.mono (by simp)) | exact ((Below.refl _ W).alloc (Nat.le_refl _) _).drewN _⟩
theorem impl_IsConsistent.loop (A0 : Option Addr) (c0 : Nat) (l0 : List S37) (hl : (apartB l0) = true) (kk : Nat) (hk : kk < l0.length) : (l0.take kk).any (meetB (l0.getD kk z37)) = false := by
 have h := List.all_eq_true.1 hl kk (List.mem_range.2 hk)
 simpa using h
theorem apartB_hit {l0 : List S37} {kk : Nat} (hk : kk < l0.length) (h : (l0.take kk).any (meetB (l0.getD kk z37)) = true) : apartB l0 = false := by
 unfold apartB
 rw [Bool.eq_false_iff]
 intro ha
 have h1 := List.all_eq_true.1 ha kk (List.mem_range.2 hk)
 have h1' : !((l0.take kk).any (meetB (l0.getD kk z37))) = true := by simpa using h1
 rw [h] at h1'
 cases h1'
theorem apartB_all {l0 : List S37} (h : ∀ j, j < l0.length → (l0.take j).any (meetB (l0.getD j z37)) = false) : apartB l0 = true := by
 unfold apartB
 refine List.all_eq_true.2 fun j hj => ?_
 have h1 := h j (List.mem_range.1 hj)
 show (!((l0.take j).any (meetB (l0.getD j z37)))) = true
 rw [h1]; rfl
set_option maxHeartbeats 2000000 in
set_option maxRecDepth 100000 in
theorem impl_IsConsistent.calls (k : Nat) (A0 : Option Addr) (c0 : Nat) (l0 : List S37) (r : Bool) (w : World) (hr0 : Kd.C k37 w A0 l0.length l0) (hc0 : l0.length ≤ c0) (h : impl_IsConsistent.f k l0 = some r) :
  Calls Try.prog 9 #[.slice A0 l0.length c0] w fun e w' => e = .returned (.bool r) ∧ Below w.heap.size w w' := by
 obtain ⟨t, ht, hr⟩ := Option.bind_eq_some_iff.1 h
 have hr' := Option.some.inj hr
 clear h hr
 have HT := Aside0.mk ht
 clear ht
 have hu := Try.underlying37
 have HR0 := Aside0.mk hr0
 have HC0 := Aside0.mk hc0
 have hbig : l0.length ≤ 9223372036854775807 := hr0.2.1
 clear hr0
 have eg : ∀ args w, (callFunc 37 args).run Try.prog w = .ok (.enter 37 args) w := enters_of Try.func37 (by kernel_rfl) rfl
 have EG := Aside0.mk eg
 clear eg
 cases t with
 | false =>
  subst hr'
  clear hc0
  go_enter Try.func9, Try.ntmps9
  go_wp2_with (go_at_call 35; (with_reducible refine (impl_areWarnings.calls k A0 c0 l0 false _ HR0.out HC0.out HT.out).mono ?_); rintro e w1 ⟨rfl, hb⟩)
  go_ret
  exact ⟨rfl, hb⟩
 | true =>
  rw [Bool.true_and] at hr'
  have HRR := Aside0.mk hr'
  clear hr'
  go_enter Try.func9, Try.ntmps9
  go_wp2_with (go_at_call 35; (with_reducible refine (impl_areWarnings.calls k A0 c0 l0 true _ HR0.out HC0.out HT.out).mono ?_); rintro e w1 ⟨rfl, hb⟩)
  have HB1 := Aside0.mk hb
  clear hb
  go_loopg [3, 4, 10] l0.length (fun gg _ _ s10 wr => ∃ kk : Nat, kk ≤ l0.length ∧ l0.length - kk ≤ gg ∧ s10 = .int .i64 kk ∧ Aside0 (Below w.heap.size w wr) ∧ Aside0 (∀ j, j < kk → (l0.take j).any (meetB (l0.getD j z37)) = false))
  case atStart => exact ⟨0, Nat.zero_le _, by omega, rfl, HB1, ⟨fun j hj => absurd hj (Nat.not_lt_zero _)⟩⟩
  case round =>
   clear HB1
   obtain ⟨kk, hkk, hg, rfl, BW, AN⟩ := hrel
   by_cases hlt : kk < l0.length
   ·
    have hltz : (kk : Int) < (l0.length : Int) := by omega
    obtain ⟨ad, e0, hx0, hx1, hx2, hx3, hx4, hx5⟩ := at_T37 HR0.out (kk : Int) (by omega) hltz
    cases e0
    rw [show rd_T37 l0 (kk : Int) = l0.getD kk z37 from rfl, Int.toNat_natCast] at hx0 hx1 hx2 hx3 hx4 hx5
    generalize hy : l0.getD kk z37 = y at hx0 hx1 hx2 hx3 hx4 hx5
    have B := Aside0.mk hy
    clear hy
    replace hx0 := (BW.out.cell (World.block_lt_of_cell? w _ hx0)).trans hx0
    replace hx1 := (BW.out.cell (World.block_lt_of_cell? w _ hx1)).trans hx1
    replace hx2 := (BW.out.cell (World.block_lt_of_cell? w _ hx2)).trans hx2
    replace hx3 := (BW.out.cell (World.block_lt_of_cell? w _ hx3)).trans hx3
    replace hx4 := (BW.out.cell (World.block_lt_of_cell? w _ hx4)).trans hx4
    replace hx5 := (BW.out.cell (World.block_lt_of_cell? w _ hx5)).trans hx5
    have hkc : (kk : Int) ≤ (c0 : Int) := by omega
    cases hq : (l0.take kk).any (meetB y) with
    | true =>
     go_wp2_with fail
     refine (ContainsFuncW.calls 37 #[.pointer (some ⟨wr.heap.size, 0, none⟩)] (meetB y) EG.out (some ad) kk c0 (l0.take kk) _ (by rw [List.length_take]; omega) ?hr1 ?hc1 ?hp1).mono ?_
     case hr1 => exact Kd.C_take (Kd.C_below (Kd.C_below HR0.out BW.out) (below_alloc (Below.refl _ _) _)) hkk
     case hc1 => rw [List.length_take]; omega
     case hp1 => exact impl_IsConsistent.pred _ y _ (blk_new _ _)
     rintro e w' ⟨rfl, hb'⟩
     rw [hq]
     go_wp2
     go_ret
     refine ⟨?_, (below_alloc BW.out _).trans (hb'.mono (by have := BW.out.size; simp; omega))⟩
     rw [← HRR.out, apartB_hit hlt (by rw [B.out]; exact hq)]
     rfl
    | false =>
     go_wp2_with fail
     refine (ContainsFuncW.calls 37 #[.pointer (some ⟨wr.heap.size, 0, none⟩)] (meetB y) EG.out (some ad) kk c0 (l0.take kk) _ (by rw [List.length_take]; omega) ?hr1 ?hc1 ?hp1).mono ?_
     case hr1 => exact Kd.C_take (Kd.C_below (Kd.C_below HR0.out BW.out) (below_alloc (Below.refl _ _) _)) hkk
     case hc1 => rw [List.length_take]; omega
     case hp1 => exact impl_IsConsistent.pred _ y _ (blk_new _ _)
     rintro e w' ⟨rfl, hb'⟩
     rw [hq]
     go_wp2
     go_roundg (l0.length - (kk + 1))
     case measure => omega
     case rel =>
      refine ⟨kk + 1, by omega, by omega, by go_num, ⟨(below_alloc BW.out _).trans (hb'.mono (by have := BW.out.size; simp; omega))⟩, ⟨fun j hj => ?_⟩⟩
      by_cases e : j = kk
      ·
       subst e
       rw [B.out]; exact hq
      ·
       exact AN.out j (by omega)
   ·
    have hltz : ¬ (kk : Int) < (l0.length : Int) := by omega
    have : kk = l0.length := by omega
    subst this
    go_wp2
    go_ret
    refine ⟨?_, BW.out⟩
    rw [← HRR.out, apartB_all AN.out]
    rfl

/-! ### impl_Warning_25: function 25 -/
/-- slices.Clone at warnings: the same list, in a row of its own. -/
def impl_Warning_25.f (l0 : List S37) : Option (List S37) := if l0.length < 2932031007402 then some l0 else none
set_option maxHeartbeats 4000000 in
theorem impl_Warning_25.calls (A0 : Option Addr) (c0 : Nat) (l0 : List S37) (r : List S37) (w : World) (hr0 : Kd.C k37 w A0 l0.length l0) (hc0 : l0.length ≤ c0) (h : impl_Warning_25.f l0 = some r) :
  Calls Try.prog 25 #[.slice A0 l0.length c0] w fun e w' => ∃ v0_ : Value, e = .returned (v0_) ∧ Kd.R k37 37 w' w.heap.size (fun _ => True) v0_ r ∧ Below w.heap.size w w' := by
 have hu := Try.underlying37
 have q26 : ∀ (w : World) (a : Option Addr) (n c n' c' : Nat), (binOp .eql 22 (.slice a n c) (.slice none n' c')).run Try.prog w = .ok (.bool a.isNone) w := fun w a n c n' c' => Lib.run_eql_slice_nil w _ _ a n c n' c' Try.underlying22
 unfold impl_Warning_25.f at h
 by_cases c4 : l0.length < 2932031007402
 ·
  rw [if_pos c4] at h
  obtain rfl := Option.some.inj h
  clear h
  cases A0 with
  | none =>
   have e0 : l0 = [] := by
    rcases Nat.eq_zero_or_pos l0.length with h0 | h0
    ·
     exact List.length_eq_zero_iff.1 h0
    ·
     obtain ⟨ad, ha, _⟩ := hr0.2.2 h0
     cases ha
   subst e0
   clear hr0 hc0
   go_enter Try.func25, Try.ntmps25
   go_wp2
   go_ret
   exact ⟨_, rfl, Kd.R_nil _ _ _ _ _, Below.refl _ _⟩
  | some ad =>
   have HR0 := Aside0.mk hr0
   have HC0 := Aside0.mk hc0
   have LM := Aside0.mk c4
   clear hr0 hc0 c4
   have HB := Aside0.mk (Below.refl w.heap.size w)
   go_enter Try.func25, Try.ntmps25
   go_wp2_with (first | ((with_reducible refine gate_dst (N := 5) rfl ?_); refine Kd.R_lit k37 _ 37 ?hg (N := 5) ?hd (xs := ([] : List S37)) (inner := []) (ok := fun _ => True) (okp := fun _ => True) ?hr ?hp (fun _ hk => hk) trivial HB.out (Nat.le_refl _) (by simp) ?_; (case hd => rfl); (case hg => rfl); (case hr => first | (go_simp; done) | (go_simp; rfl)); (case hp => exact (Reps.none _ _)); intro v5 w5 ho5 hb5 hg5 hn5; have HO := Aside0.mk ho5; have HB5 := Aside0.mk hb5; clear ho5 hb5 hg5 hn5) | ((with_reducible refine gate_builtin (b := .append) (xs := #[.tmp 5, .tmp 6]) rfl ?_); at_builtin; refine Kd.R_append_rows k37 (w0 := w) w.heap.size rfl (.tmp 5) (.tmp 6) 22 37 (.agg #[(.int .i64 0), (.int .i64 0), (.int .i64 0), (.int .i64 0), (.int .i64 0), (.int .i64 0)]) 48 rfl Try.underlying22 info37 rfl (by decide) (by omega) v5 ([] : List S37) l0 _ _ _ (fun _ => True) (fun _ => False) rfl rfl (by (with_reducible repeat (first | apply Kd.R_alloc | apply Kd.R_drewN | apply Kd.R_drew)); exact HO.out) (by (with_reducible repeat (first | refine Kd.C_alloc ?_ _ | refine Kd.C_drewN ?_ _ | refine Kd.C_drew ?_)); exact (Kd.C_below HR0.out HB5.out)) (fun _ _ h => h) (fun _ h => h.elim) (fun _ _ => trivial) (by repeat (first | (with_reducible first | exact HB5.out | apply below_alloc | apply pw_below_drewN | apply below_drew1) | exact HB5.out)) (below_size (by repeat (first | (with_reducible first | exact HB5.out | apply below_alloc | apply pw_below_drewN | apply below_drew1) | exact HB5.out))) (by have := LM.out; simp only [List.length_nil]; omega) ?_; intro v7 w7 ho7 hb7 hg7 hat7; rw [List.nil_append] at ho7; have HO7 := Aside0.mk ho7; have HB7 := Aside0.mk hb7; clear ho7 hb7 hg7 hat7))
   go_ret
   exact ⟨_, rfl, by (with_reducible repeat (first | apply Kd.R_alloc | apply Kd.R_drewN | apply Kd.R_drew)); exact HO7.out, by repeat (first | (with_reducible first | exact HB7.out | apply below_alloc | apply pw_below_drewN | apply below_drew1) | exact HB7.out)⟩
 ·
  rw [if_neg c4] at h
  cases h

end Go.Proofs.Ytfemneoahkglmaa.Q
