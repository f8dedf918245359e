-- Printed by a program of this session (wip/tools/seatprint.py) that runs over the kit's print.
import Derived.Test.YtckcfkimbbfejaaQ0
namespace Go.Proofs.Ytckcfkimbbfejaa.Q
open Go.RowKit Go.Proofs.YtckcfkimbbfejaaW.PrintWords Go.Proofs.YtckcfkimbbfejaaW.PrintLast Go.Proofs.YtckcfkimbbfejaaW.PrintMore
attribute [local go_sem] max2_int min2_int max_two min_two max_three min_three max_four min_four   -- for this text's walks alone
set_option linter.unusedVariables false
set_option linter.unusedSimpArgs false

/-! ### slices_IndexFunc_int_int: function 63 -/
/-- slices.IndexFunc at ints, whatever the predicate that leaves the old memory alone. -/
theorem IndexFuncI.calls (g : Nat) (lb : Array Value) (p : Int → Bool) (eg : ∀ args w, (callFunc g args).run Try.prog w = .ok (.enter g args) w)
  (A0 : Option Addr) (n0 c0 : Nat) (l0 : List Int) (w : World) (hn : n0 = l0.length) (hr0 : Kd.C (Kd.int .i64) w A0 l0.length l0) (hc0 : l0.length ≤ c0)
  (hp : ∀ (W : World) (x : Int), x ∈ l0 → Below w.heap.size w W → Calls Try.prog g (#[.int .i64 x] ++ lb) W fun e w' => e = .returned (.bool (p x)) ∧ Below W.heap.size W w') :
  Calls Try.prog 63 #[.slice A0 n0 c0, .func (.func g) #[] lb] w fun e w' => e = .returned (.int .i64 (Gen.fIdx p l0)) ∧ Below w.heap.size w w' := by
 subst hn
 have HR0 := Aside0.mk hr0
 have HP := Aside0.mk hp
 have hbig : l0.length ≤ 9223372036854775807 := hr0.2.1
 clear hr0 hp hc0
 go_enter Try.func63, Try.ntmps63
 go_wp2
 go_loopg [5, 8] l0.length (fun gg _ s8 wr => ∃ kk : Nat, kk ≤ l0.length ∧ l0.length - kk ≤ gg ∧ s8 = .int .i64 kk ∧ Aside0 (Below w.heap.size w wr) ∧ Aside0 (∀ j, j < kk → p (l0.getD j 0) = false))
 case atStart => exact ⟨0, Nat.zero_le _, by omega, rfl, ⟨Below.refl _ w⟩, ⟨fun j hj => absurd hj (Nat.not_lt_zero _)⟩⟩
 case round =>
  obtain ⟨kk, hkk, hg, rfl, BW, AN⟩ := hrel
  by_cases hlt : kk < l0.length
  ·
   have hltz : (kk : Int) < (l0.length : Int) := by omega
   obtain ⟨ad, e0, hx0⟩ := Kd.at_int HR0.out (kk : Int) (by omega) hltz
   cases e0
   rw [show rd l0 (kk : Int) = l0.getD kk 0 from rfl, Int.toNat_natCast] at hx0
   have hmem : l0.getD kk 0 ∈ l0 := by rw [Gen.getD_lt l0 0 kk hlt]; exact List.getElem_mem hlt
   generalize hy : l0.getD kk 0 = y at hx0 hmem
   have B := Aside0.mk hy
   clear hy
   replace hx0 := (BW.out.cell (World.block_lt_of_cell? w _ hx0)).trans hx0
   have hcall := HP.out wr y hmem BW.out
   clear hmem
   cases hq : p y with
   | true =>
    rw [hq] at hcall
    go_wp2_with (go_at_fn g; refine hcall.mono ?_; rintro e w' ⟨rfl, hb'⟩)
    go_ret
    refine ⟨?_, BW.out.trans (hb'.mono BW.out.size)⟩
    rw [Gen.fIdx_hit p l0 0 kk hlt (by rw [B.out]; exact hq) AN.out]
    rfl
   | false =>
    rw [hq] at hcall
    go_wp2_with (go_at_fn g; refine hcall.mono ?_; rintro e w' ⟨rfl, hb'⟩)
    go_roundg (l0.length - (kk + 1))
    case measure => omega
    case rel =>
     refine ⟨kk + 1, by omega, by omega, by go_num, ⟨BW.out.trans (hb'.mono BW.out.size)⟩, ⟨fun j hj => ?_⟩⟩
     by_cases e : j = kk
     ·
      subst e
      rw [B.out]; exact hq
     ·
      exact AN.out j (by omega)
  ·
   have hltz : ¬ (kk : Int) < (l0.length : Int) := by omega
   have : kk = l0.length := by omega
   subst this
   go_wp2
   go_ret
   refine ⟨?_, BW.out⟩
   rw [Gen.fIdx_miss p l0 0 AN.out]
   rfl

/-! ### slices_DeleteFunc_int_int: function 38 -/
theorem fIdxSpec (p : Int → Bool) (l : List Int) : (Gen.fIdx p l = -1 ∧ ∀ j, j < l.length → p (l.getD j 0) = false) ∨ ∃ k, k < l.length ∧ Gen.fIdx p l = (k : Int) ∧ p (l.getD k 0) = true ∧ ∀ j, j < k → p (l.getD j 0) = false := by
 have key : ∀ n, n ≤ l.length → (∀ j, j < n → p (l.getD j 0) = false) ∨ ∃ k, k < n ∧ p (l.getD k 0) = true ∧ ∀ j, j < k → p (l.getD j 0) = false := by
  intro n
  induction n with
  | zero => exact fun _ => .inl fun j hj => absurd hj (Nat.not_lt_zero _)
  | succ n ih =>
   intro hn
   rcases ih (by omega) with h | ⟨k, hk, h1, h2⟩
   ·
    cases hq : p (l.getD n 0) with
    | true => exact .inr ⟨n, by omega, hq, h⟩
    | false =>
     refine .inl fun j hj => ?_
     by_cases e : j = n
     ·
      rw [e]; exact hq
     ·
      exact h j (by omega)
   ·
    exact .inr ⟨k, by omega, h1, h2⟩
 rcases key l.length (Nat.le_refl _) with h | ⟨k, hk, h1, h2⟩
 ·
  exact .inl ⟨Gen.fIdx_miss p l 0 h, h⟩
 ·
  exact .inr ⟨k, hk, Gen.fIdx_hit p l 0 k hk h1 h2, h1, h2⟩
theorem takeS (l : List Int) (j : Nat) (hj : j < l.length) : l.take (j + 1) = l.take j ++ [l.getD j 0] := by
 rw [List.take_succ_eq_append_getElem hj, Gen.getD_lt l 0 j hj]
theorem setTake (l : List Int) (i : Nat) (x : Int) (hi : i < l.length) : (l.set i x).take (i + 1) = l.take i ++ [x] := by
 rw [List.take_succ_eq_append_getElem (by rw [List.length_set]; exact hi), List.getElem_set_self, List.take_set_of_le (Nat.le_refl _)]
theorem setDrop (l : List Int) (i j : Nat) (x : Int) (hi : i < j) : (l.set i x).drop j = l.drop j := List.drop_set_of_lt hi
theorem dropS {l m : List Int} {j : Nat} (h : l.drop j = m.drop j) : l.drop (j + 1) = m.drop (j + 1) := by
 rw [← List.drop_drop, ← List.drop_drop, h]
theorem dropAt {l m : List Int} {j : Nat} (h : l.drop j = m.drop j) : l.getD j 0 = m.getD j 0 := by
 have := congrArg (fun z => z[0]?) h
 simp only [List.getElem?_drop, Nat.add_zero] at this
 simp only [List.getD_eq_getElem?_getD, this]
theorem filterAll (p : Int → Bool) (l : List Int) (k : Nat) (hk : k ≤ l.length) (h : ∀ j, j < k → p (l.getD j 0) = false) : (l.take k).filter (fun x => !p x) = l.take k := by
 rw [List.filter_eq_self]
 intro x hx
 obtain ⟨t, ht, rfl⟩ := List.getElem_of_mem hx
 have htk : t < k := by rw [List.length_take] at ht; omega
 have := h t htk
 rw [Gen.getD_lt l 0 t (by omega)] at this
 rw [List.getElem_take, this]
 rfl
theorem clearI {e : Nat} {base : Nat} {ok : Nat → Prop} {g n cap : Nat} : ∀ (m i : Nat) (W : World) (dk : List Int), Kd.R (Kd.int .i64) e W base ok (.slice (some ⟨g, 0, none⟩) n cap) dk → ∃ dk' : List Int, dk'.length = dk.length ∧ dk'.take i = dk.take i ∧ Kd.R (Kd.int .i64) e (W.setCells g i (List.replicate m (.int .i64 0))) base ok (.slice (some ⟨g, 0, none⟩) n cap) dk'
 | 0, _, _, dk, h => ⟨dk, rfl, rfl, h⟩
 | m + 1, i, W, dk, h => by
  have h1 := Kd.R_putn h (i : Int) 0
  rw [Int.toNat_natCast] at h1
  obtain ⟨dk', e1, e2, e3⟩ := clearI m (i + 1) _ _ h1
  refine ⟨dk', by rw [e1, List.length_set], ?_, e3⟩
  have := congrArg (List.take i) e2
  rw [List.take_take, List.take_take, Nat.min_eq_left (by omega), List.take_set_of_le (Nat.le_refl _)] at this
  exact this
theorem keptSet {w W : World} {S : Nat → Prop} (h : Kept w W S) {g : Nat} (hg : S g) (i : Nat) (v : Value) : Kept w (W.setCell ⟨g, i, none⟩ v) S :=
 ⟨by rw [show (W.setCell ⟨g, i, none⟩ v).heap.size = W.heap.size by simp [World.setCell]]; exact h.1, fun k hk hn => (Below.heap_setCell W ⟨g, i, none⟩ v k (fun e => hn (by rw [e]; exact hg))).trans (h.2 k hk hn)⟩
theorem keptSets {w : World} {S : Nat → Prop} {g : Nat} (hg : S g) : ∀ (vs : List Value) (i : Nat) (W : World), Kept w W S → Kept w (W.setCells g i vs) S
 | [], _, _, h => h
 | v :: r, i, W, h => keptSets hg r (i + 1) _ (keptSet h hg i v)
theorem belowSets {B g : Nat} {a : World} (hg : B ≤ g) : ∀ (vs : List Value) (i : Nat) (W : World), Below B a W → Below B a (W.setCells g i vs)
 | [], _, _, h => h
 | v :: r, i, W, h => belowSets hg r (i + 1) _ (h.setCell (p := ⟨g, i, none⟩) hg v)
set_option maxHeartbeats 4000000 in
set_option maxRecDepth 1000000 in
/-- slices.DeleteFunc at ints, whatever the predicate that leaves the old memory alone. -/
theorem DeleteFuncI.calls (g : Nat) (lb : Array Value) (p : Int → Bool) (eg : ∀ args w, (callFunc g args).run Try.prog w = .ok (.enter g args) w)
  (P0_ : Nat → Prop) (u : Value) (l0 : List Int) (w0 w : World) (hB : Below w0.heap.size w0 w) (ho0 : Kd.R (Kd.int .i64) 3 w w0.heap.size P0_ u l0)
  (hp : ∀ (W : World) (x : Int), x ∈ l0 → Below w0.heap.size w0 W → Kept w W P0_ → Calls Try.prog g (#[.int .i64 x] ++ lb) W fun e w' => e = .returned (.bool (p x)) ∧ Below W.heap.size W w') :
  Calls Try.prog 38 #[u, .func (.func g) #[] lb] w fun e w' => ∃ v0_ : Value, e = .returned v0_ ∧ Kd.R (Kd.int .i64) 3 w' w0.heap.size P0_ v0_ (l0.filter fun x => !p x) ∧ Below w0.heap.size w0 w' ∧ Kept w w' P0_ := by
 obtain ⟨A, c, e0, hc, hC⟩ := Kd.R_reads ho0
 subst e0
 have hbig : l0.length ≤ 9223372036854775807 := hC.2.1
 have HIF := Aside0.mk (IndexFuncI.calls g lb p eg A _ c l0 w rfl hC hc (fun W x hx hb => hp W x hx (hB.trans (hb.mono hB.size)) (Kept.of_below hb _)))
 have HP := Aside0.mk hp
 have HB := Aside0.mk hB
 have HO := Aside0.mk ho0
 clear hp hB
 rcases fIdxSpec p l0 with ⟨e1, hall⟩ | ⟨k0, hk0, e1, ht, hall⟩
 ·
  rw [e1] at HIF
  have hfil : (l0.filter fun x => !p x) = l0 := by have := filterAll p l0 l0.length (Nat.le_refl _) hall; rwa [List.take_length] at this
  rw [hfil]
  clear hfil hall hC ho0
  go_enter Try.func38, Try.ntmps38
  go_wp2_with (go_at_call 63; refine HIF.out.mono ?_; rintro e w1 ⟨rfl, hb⟩)
  go_ret
  exact ⟨_, rfl, Kd.R_below HO.out hb, HB.out.trans (hb.mono HB.out.size), Kept.of_below hb _⟩
 ·
  obtain ⟨gb, cap, ev, hgb, hlt, cells, hcells⟩ := Kd.R_form ho0 (by omega)
  injection ev with e2 e3 e4
  subst e2 e4
  rw [e1] at HIF
  have hPg : P0_ gb := ho0.1 gb rfl
  have HPG := Aside0.mk hPg
  have HGB := Aside0.mk hgb
  have hne1 : ((k0 : Int) == -1) = false := beq_eq_false_iff_ne.2 (by omega)
  have F0 := Aside0.mk (filterAll p l0 k0 (by omega) hall)
  have HT := Aside0.mk ht
  clear hall hC ho0 ht hgb hlt hcells hPg
  go_enter Try.func38, Try.ntmps38
  go_wp2_with (go_at_call 63; refine HIF.out.mono ?_; rintro e w1 ⟨rfl, hb⟩)
  go_loopg [5, 6, 7] l0.length (fun gg s5 s6 _ wr => ∃ (i j : Nat) (dk : List Int), s5 = .int .i64 i ∧ s6 = .int .i64 j ∧ i < j ∧ j ≤ l0.length ∧ l0.length - j ≤ gg ∧ Aside0 (Below w0.heap.size w0 wr) ∧ Aside0 (Kept w wr P0_) ∧ Aside0 (Kd.R (Kd.int .i64) 3 wr w0.heap.size P0_ (.slice (some ⟨gb, 0, none⟩) l0.length c) dk) ∧ Aside0 (dk.length = l0.length) ∧ Aside0 (dk.take i = (l0.take j).filter fun x => !p x) ∧ Aside0 (dk.drop j = l0.drop j))
  case atStart =>
   exact ⟨k0, k0 + 1, l0, rfl, by go_num, by omega, by omega, by omega, ⟨HB.out.trans (hb.mono HB.out.size)⟩, ⟨Kept.of_below hb _⟩, ⟨Kd.R_below HO.out hb⟩, ⟨rfl⟩, ⟨by rw [takeS l0 k0 hk0, List.filter_append, F0.out, List.filter_cons, HT.out]; simp⟩, ⟨rfl⟩⟩
  case round =>
   obtain ⟨i, j, dk, rfl, rfl, hij, hj, hg, BW, KW, RW, DL, TK, DR⟩ := hrel
   have hf : ∀ t, t < l0.length → wr.cell? ⟨gb, t, none⟩ = some (.int .i64 (dk.getD t 0)) ∧ wr.frozen? ⟨gb, t, none⟩ = false := fun t ht => by
    have := Kd.R_celln 0 RW.out (t : Int) (by omega) (by omega)
    rw [Int.toNat_natCast] at this
    exact this
   by_cases hlt : j < l0.length
   ·
    have hltz : (j : Int) < (l0.length : Int) := by omega
    obtain ⟨cj, fj⟩ := hf j hlt
    obtain ⟨ci, fi⟩ := hf i (by omega)
    rw [dropAt DR.out] at cj
    have hcall := HP.out wr (l0.getD j 0) (by rw [Gen.getD_lt l0 0 j hlt]; exact List.getElem_mem hlt) BW.out KW.out
    have TS := Aside0.mk (takeS l0 j hlt)
    generalize hy : l0.getD j 0 = y at cj hcall TS
    clear hy hf
    generalize dk.getD i 0 = old at ci
    have hbk : gb < wr.heap.size := World.block_lt_of_cell? wr _ ci
    cases hq : p y with
    | false =>
     rw [hq] at hcall
     go_wp2_with (go_at_fn g; refine hcall.mono ?_; rintro e w2 ⟨rfl, hb2⟩; replace ci := (hb2.cell (p := ⟨gb, i, none⟩) hbk).trans ci; replace fi := (World.frozen?_of_block (a := ⟨gb, i, none⟩) (hb2.block gb hbk)).trans fi)
     go_roundg (l0.length - (j + 1))
     case measure => omega
     case rel =>
      have RW2 := Kd.R_putn (Kd.R_below RW.out hb2) (i : Int) y
      rw [Int.toNat_natCast] at RW2
      refine ⟨i + 1, j + 1, dk.set i y, by go_num, by go_num, by omega, by omega, by omega, ⟨(BW.out.trans (hb2.mono BW.out.size)).setCell (p := ⟨gb, i, none⟩) HGB.out _⟩, ⟨keptSet (KW.out.then_ (Kept.of_below hb2 (fun _ => False)) (fun _ h => h.elim)) HPG.out _ _⟩, ⟨RW2⟩, ⟨by rw [List.length_set]; exact DL.out⟩, ⟨?_⟩, ⟨by rw [setDrop dk i (j + 1) y (by omega)]; exact dropS DR.out⟩⟩
      rw [setTake dk i y (by have := DL.out; omega), TK.out, TS.out, List.filter_append]
      simp [hq]
    | true =>
     rw [hq] at hcall
     go_wp2_with (go_at_fn g; refine hcall.mono ?_; rintro e w2 ⟨rfl, hb2⟩)
     go_roundg (l0.length - (j + 1))
     case measure => omega
     case rel =>
      exact ⟨i, j + 1, dk, rfl, by go_num, by omega, by omega, by omega, ⟨BW.out.trans (hb2.mono BW.out.size)⟩, ⟨KW.out.then_ (Kept.of_below hb2 (fun _ => False)) (fun _ h => h.elim)⟩, ⟨Kd.R_below RW.out hb2⟩, DL, ⟨by rw [TS.out, List.filter_append, ← TK.out]; simp [hq]⟩, ⟨dropS DR.out⟩⟩
   ·
    have : j = l0.length := by omega
    subst this
    have hltz : ¬ (l0.length : Int) < (l0.length : Int) := by omega
    have hcl : ∀ ty, (Builtin.clear_ #[22] ty #[.slice (some ⟨gb, i, none⟩) (l0.length - i) (c - i)]).run Try.prog wr = .ok (.tuple #[]) (wr.setCells gb i (List.replicate (l0.length - i) (.int .i64 0))) := fun ty => Lib.run_clear_slice wr 22 3 ty (.int .i64 0) Try.underlying22 Try.zeroValue3 rfl rfl gb i _ _ (by omega) (fun t ht => by rw [(hf (i + t) (by omega)).1]; rfl) (fun t ht => (hf (i + t) (by omega)).2)
    clear hf
    go_wp2
    go_ret
    obtain ⟨dk', f1, f2, f3⟩ := clearI (l0.length - i) i wr dk RW.out
    refine ⟨_, rfl, ?_, belowSets HGB.out _ _ _ BW.out, keptSets HPG.out _ _ _ KW.out⟩
    have h3 := Kd.R_take f3 (m := i) (by rw [f1, DL.out]; omega)
    rw [f2, TK.out, List.take_length] at h3
    exact h3

end Go.Proofs.Ytckcfkimbbfejaa.Q
