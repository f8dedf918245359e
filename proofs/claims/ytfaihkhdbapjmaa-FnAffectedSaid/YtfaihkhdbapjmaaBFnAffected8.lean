/- Texts of this claim, put together: walks of the program's functions, and plain facts. -/
import Derived.Test.YtfaihkhdbapjmaaZFnAffected
import Derived.Test.YtfaihkhdbapjmaaBFnAffected0
namespace Go.Proofs.Ytfaihkhdbapjmaa.Q
open Go.RowKit Go.Proofs.YtfaihkhdbapjmaaW.PrintWords Go.Proofs.YtfaihkhdbapjmaaW.PrintLast Go.Proofs.YtfaihkhdbapjmaaW.PrintMore
attribute [local go_sem] max2_int min2_int max_two min_two max_three min_three max_four min_four
set_option linter.unusedVariables false
set_option linter.unusedSimpArgs false
theorem IndexFuncI.calls (g : Nat) (lb : Array Value) (p : Int → Bool) (eg : ∀ args w, (callFunc g args).run Try.prog w = .ok (.enter g args) w)
  (A0 : Option Addr) (n0 c0 : Nat) (l0 : List Int) (w : World) (hn : n0 = l0.length) (hr0 : Kd.C (Kd.int .i64) w A0 l0.length l0) (hc0 : l0.length ≤ c0)
  (hp : ∀ (W : World) (x : Int), x ∈ l0 → Below w.heap.size w W → Calls Try.prog g (#[.int .i64 x] ++ lb) W fun e w' => e = .returned (.bool (p x)) ∧ Below W.heap.size W w') :
  Calls Try.prog 47 #[.slice A0 n0 c0, .func (.func g) #[] lb] w fun e w' => e = .returned (.int .i64 (Gen.fIdx p l0)) ∧ Below w.heap.size w w' := by
 subst hn
 have HR0 := zm hr0
 have HP := zm hp
 have hbig : l0.length ≤ 9223372036854775807 := hr0.2.1
 clear hr0 hp hc0
 go_enter Try.func47, Try.ntmps47
 go_wp2
 go_loopg [5, 8] l0.length (fun gg _ s8 wr => ∃ kk : Nat, kk ≤ l0.length ∧ l0.length - kk ≤ gg ∧ s8 = .int .i64 kk ∧ Aside0 (Below w.heap.size w wr) ∧ Aside0 (∀ j, j < kk → p (l0.getD j 0) = false))
 case atStart => exact ⟨0, Nat.zero_le _, by omega, rfl, ⟨Below.refl _ w⟩, ⟨fun j hj => absurd hj (Nat.not_lt_zero _)⟩⟩
 case round =>
  obtain ⟨kk, hkk, hg, rfl, BW, AN⟩ := hrel
  by_cases hlt : kk < l0.length
  ·
   have hltz : (kk : Int) < (l0.length : Int) := by omega
   obtain ⟨ad, e0, hx0⟩ := Kd.at_int HR0.out (kk : Int) (by omega) hltz
   cases e0
   rw [show rd l0 (kk : Int) = l0.getD kk 0 from rfl, Int.toNat_natCast] at hx0
   have hmem : l0.getD kk 0 ∈ l0 := by rw [Gen.getD_lt l0 0 kk hlt]; exact List.getElem_mem hlt
   generalize hy : l0.getD kk 0 = y at hx0 hmem
   have B := zm hy
   clear hy
   replace hx0 := zx BW.out hx0
   have hcall := HP.out wr y hmem BW.out
   clear hmem
   cases hq : p y with
   | true =>
    rw [hq] at hcall
    go_wp2_with (go_at_fn g; refine hcall.mono ?_; rintro e w' ⟨rfl, hb'⟩)
    go_ret
    refine ⟨?_, BW.out.trans (hb'.mono BW.out.size)⟩
    rw [Gen.fIdx_hit p l0 0 kk hlt (by rw [B.out]; exact hq) AN.out]
    rfl
   | false =>
    rw [hq] at hcall
    go_wp2_with (go_at_fn g; refine hcall.mono ?_; rintro e w' ⟨rfl, hb'⟩)
    go_roundg (l0.length - (kk + 1))
    case measure => omega
    case rel =>
     refine ⟨kk + 1, by omega, by omega, by go_num, ⟨BW.out.trans (hb'.mono BW.out.size)⟩, ⟨fun j hj => ?_⟩⟩
     by_cases e : j = kk
     ·
      subst e
      rw [B.out]; exact hq
     ·
      exact AN.out j (by omega)
  ·
   have hltz : ¬ (kk : Int) < (l0.length : Int) := by omega
   have : kk = l0.length := by omega
   subst this
   go_wp2
   go_ret
   refine ⟨?_, BW.out⟩
   rw [Gen.fIdx_miss p l0 0 AN.out]
   rfl
theorem fIdxSpec (p : Int → Bool) (l : List Int) : (Gen.fIdx p l = -1 ∧ ∀ j, j < l.length → p (l.getD j 0) = false) ∨ ∃ k, k < l.length ∧ Gen.fIdx p l = (k : Int) ∧ p (l.getD k 0) = true ∧ ∀ j, j < k → p (l.getD j 0) = false := by
 have key : ∀ n, n ≤ l.length → (∀ j, j < n → p (l.getD j 0) = false) ∨ ∃ k, k < n ∧ p (l.getD k 0) = true ∧ ∀ j, j < k → p (l.getD j 0) = false := by
  intro n
  induction n with
  | zero => exact fun _ => .inl fun j hj => absurd hj (Nat.not_lt_zero _)
  | succ n ih =>
   intro hn
   rcases ih (by omega) with h | ⟨k, hk, h1, h2⟩
   ·
    cases hq : p (l.getD n 0) with
    | true => exact .inr ⟨n, by omega, hq, h⟩
    | false =>
     refine .inl fun j hj => ?_
     by_cases e : j = n
     ·
      rw [e]; exact hq
     ·
      exact h j (by omega)
   ·
    exact .inr ⟨k, by omega, h1, h2⟩
 rcases key l.length (Nat.le_refl _) with h | ⟨k, hk, h1, h2⟩
 ·
  exact .inl ⟨Gen.fIdx_miss p l 0 h, h⟩
 ·
  exact .inr ⟨k, hk, Gen.fIdx_hit p l 0 k hk h1 h2, h1, h2⟩
theorem takeS (l : List Int) (j : Nat) (hj : j < l.length) : l.take (j + 1) = l.take j ++ [l.getD j 0] := by
 rw [List.take_succ_eq_append_getElem hj, Gen.getD_lt l 0 j hj]
theorem setTake (l : List Int) (i : Nat) (x : Int) (hi : i < l.length) : (l.set i x).take (i + 1) = l.take i ++ [x] := by
 rw [List.take_succ_eq_append_getElem (by rw [List.length_set]; exact hi), List.getElem_set_self, List.take_set_of_le (Nat.le_refl _)]
theorem setDrop (l : List Int) (i j : Nat) (x : Int) (hi : i < j) : (l.set i x).drop j = l.drop j := List.drop_set_of_lt hi
theorem dropS {l m : List Int} {j : Nat} (h : l.drop j = m.drop j) : l.drop (j + 1) = m.drop (j + 1) := by
 rw [← List.drop_drop, ← List.drop_drop, h]
theorem dropAt {l m : List Int} {j : Nat} (h : l.drop j = m.drop j) : l.getD j 0 = m.getD j 0 := by
 have := congrArg (fun z => z[0]?) h
 simp only [List.getElem?_drop, Nat.add_zero] at this
 simp only [List.getD_eq_getElem?_getD, this]
theorem filterAll (p : Int → Bool) (l : List Int) (k : Nat) (hk : k ≤ l.length) (h : ∀ j, j < k → p (l.getD j 0) = false) : (l.take k).filter (fun x => !p x) = l.take k := by
 rw [List.filter_eq_self]
 intro x hx
 obtain ⟨t, ht, rfl⟩ := List.getElem_of_mem hx
 have htk : t < k := by rw [List.length_take] at ht; omega
 have := h t htk
 rw [Gen.getD_lt l 0 t (by omega)] at this
 rw [List.getElem_take, this]
 rfl
theorem clearI {e : Nat} {base : Nat} {ok : Nat → Prop} {g n cap : Nat} : ∀ (m i : Nat) (W : World) (dk : List Int), Kd.R (Kd.int .i64) e W base ok (.slice (some ⟨g, 0, none⟩) n cap) dk → ∃ dk' : List Int, dk'.length = dk.length ∧ dk'.take i = dk.take i ∧ Kd.R (Kd.int .i64) e (W.setCells g i (List.replicate m (.int .i64 0))) base ok (.slice (some ⟨g, 0, none⟩) n cap) dk'
 | 0, _, _, dk, h => ⟨dk, rfl, rfl, h⟩
 | m + 1, i, W, dk, h => by
  have h1 := Kd.R_putn h (i : Int) 0
  rw [Int.toNat_natCast] at h1
  obtain ⟨dk', e1, e2, e3⟩ := clearI m (i + 1) _ _ h1
  refine ⟨dk', by rw [e1, List.length_set], ?_, e3⟩
  have := congrArg (List.take i) e2
  rw [List.take_take, List.take_take, Nat.min_eq_left (by omega), List.take_set_of_le (Nat.le_refl _)] at this
  exact this
theorem keptSet {w W : World} {S : Nat → Prop} (h : Kept w W S) {g : Nat} (hg : S g) (i : Nat) (v : Value) : Kept w (W.setCell ⟨g, i, none⟩ v) S :=
 ⟨by rw [show (W.setCell ⟨g, i, none⟩ v).heap.size = W.heap.size by simp [World.setCell]]; exact h.1, fun k hk hn => (Below.heap_setCell W ⟨g, i, none⟩ v k (fun e => hn (by rw [e]; exact hg))).trans (h.2 k hk hn)⟩
theorem keptSets {w : World} {S : Nat → Prop} {g : Nat} (hg : S g) : ∀ (vs : List Value) (i : Nat) (W : World), Kept w W S → Kept w (W.setCells g i vs) S
 | [], _, _, h => h
 | v :: r, i, W, h => keptSets hg r (i + 1) _ (keptSet h hg i v)
theorem belowSets {B g : Nat} {a : World} (hg : B ≤ g) : ∀ (vs : List Value) (i : Nat) (W : World), Below B a W → Below B a (W.setCells g i vs)
 | [], _, _, h => h
 | v :: r, i, W, h => belowSets hg r (i + 1) _ (h.setCell (p := ⟨g, i, none⟩) hg v)
set_option maxHeartbeats 4000000 in
set_option maxRecDepth 1000000 in
theorem DeleteFuncI.calls (g : Nat) (lb : Array Value) (p : Int → Bool) (eg : ∀ args w, (callFunc g args).run Try.prog w = .ok (.enter g args) w)
  (P0_ : Nat → Prop) (u : Value) (l0 : List Int) (w0 w : World) (hB : Below w0.heap.size w0 w) (ho0 : Kd.R (Kd.int .i64) 3 w w0.heap.size P0_ u l0)
  (hp : ∀ (W : World) (x : Int), x ∈ l0 → Below w0.heap.size w0 W → Kept w W P0_ → Calls Try.prog g (#[.int .i64 x] ++ lb) W fun e w' => e = .returned (.bool (p x)) ∧ Below W.heap.size W w') :
  Calls Try.prog 23 #[u, .func (.func g) #[] lb] w fun e w' => ∃ v0_ : Value, e = .returned v0_ ∧ Kd.R (Kd.int .i64) 3 w' w0.heap.size P0_ v0_ (l0.filter fun x => !p x) ∧ Below w0.heap.size w0 w' ∧ Kept w w' P0_ := by
 obtain ⟨A, c, e0, hc, hC⟩ := Kd.R_reads ho0
 subst e0
 have hbig : l0.length ≤ 9223372036854775807 := hC.2.1
 have HIF := zm (IndexFuncI.calls g lb p eg A _ c l0 w rfl hC hc (fun W x hx hb => hp W x hx (hB.trans (hb.mono hB.size)) (Kept.of_below hb _)))
 have HP := zm hp
 have HB := zm hB
 have HO := zm ho0
 clear hp hB
 rcases fIdxSpec p l0 with ⟨e1, hall⟩ | ⟨k0, hk0, e1, ht, hall⟩
 ·
  rw [e1] at HIF
  have hfil : (l0.filter fun x => !p x) = l0 := by have := filterAll p l0 l0.length (Nat.le_refl _) hall; rwa [List.take_length] at this
  rw [hfil]
  clear hfil hall hC ho0
  go_enter Try.func23, Try.ntmps23
  go_wp2_with (go_at_call 47; refine HIF.out.mono ?_; rintro e w1 ⟨rfl, hb⟩)
  go_ret
  exact ⟨_, rfl, Kd.R_below HO.out hb, HB.out.trans (hb.mono HB.out.size), Kept.of_below hb _⟩
 ·
  obtain ⟨gb, cap, ev, hgb, hlt, cells, hcells⟩ := Kd.R_form ho0 (by omega)
  injection ev with e2 e3 e4
  subst e2 e4
  rw [e1] at HIF
  have hPg : P0_ gb := ho0.1 gb rfl
  have HPG := zm hPg
  have HGB := zm hgb
  have hne1 : ((k0 : Int) == -1) = false := beq_eq_false_iff_ne.2 (by omega)
  have F0 := zm (filterAll p l0 k0 (by omega) hall)
  have HT := zm ht
  clear hall hC ho0 ht hgb hlt hcells hPg
  go_enter Try.func23, Try.ntmps23
  go_wp2_with (go_at_call 47; refine HIF.out.mono ?_; rintro e w1 ⟨rfl, hb⟩)
  go_loopg [5, 6, 7] l0.length (fun gg s5 s6 _ wr => ∃ (i j : Nat) (dk : List Int), s5 = .int .i64 i ∧ s6 = .int .i64 j ∧ i < j ∧ j ≤ l0.length ∧ l0.length - j ≤ gg ∧ Aside0 (Below w0.heap.size w0 wr) ∧ Aside0 (Kept w wr P0_) ∧ Aside0 (Kd.R (Kd.int .i64) 3 wr w0.heap.size P0_ (.slice (some ⟨gb, 0, none⟩) l0.length c) dk) ∧ Aside0 (dk.length = l0.length) ∧ Aside0 (dk.take i = (l0.take j).filter fun x => !p x) ∧ Aside0 (dk.drop j = l0.drop j))
  case atStart =>
   exact ⟨k0, k0 + 1, l0, rfl, by go_num, by omega, by omega, by omega, ⟨HB.out.trans (hb.mono HB.out.size)⟩, ⟨Kept.of_below hb _⟩, ⟨Kd.R_below HO.out hb⟩, ⟨rfl⟩, ⟨by rw [takeS l0 k0 hk0, List.filter_append, F0.out, List.filter_cons, HT.out]; simp⟩, ⟨rfl⟩⟩
  case round =>
   obtain ⟨i, j, dk, rfl, rfl, hij, hj, hg, BW, KW, RW, DL, TK, DR⟩ := hrel
   have hf : ∀ t, t < l0.length → wr.cell? ⟨gb, t, none⟩ = some (.int .i64 (dk.getD t 0)) ∧ wr.frozen? ⟨gb, t, none⟩ = false := fun t ht => by
    have := Kd.R_celln 0 RW.out (t : Int) (by omega) (by omega)
    rw [Int.toNat_natCast] at this
    exact this
   by_cases hlt : j < l0.length
   ·
    have hltz : (j : Int) < (l0.length : Int) := by omega
    obtain ⟨cj, fj⟩ := hf j hlt
    obtain ⟨ci, fi⟩ := hf i (by omega)
    rw [dropAt DR.out] at cj
    have hcall := HP.out wr (l0.getD j 0) (by rw [Gen.getD_lt l0 0 j hlt]; exact List.getElem_mem hlt) BW.out KW.out
    have TS := zm (takeS l0 j hlt)
    generalize hy : l0.getD j 0 = y at cj hcall TS
    clear hy hf
    generalize dk.getD i 0 = old at ci
    have hbk : gb < wr.heap.size := World.block_lt_of_cell? wr _ ci
    cases hq : p y with
    | false =>
     rw [hq] at hcall
     go_wp2_with (go_at_fn g; refine hcall.mono ?_; rintro e w2 ⟨rfl, hb2⟩; replace ci := (hb2.cell (p := ⟨gb, i, none⟩) hbk).trans ci; replace fi := (World.frozen?_of_block (a := ⟨gb, i, none⟩) (hb2.block gb hbk)).trans fi)
     go_roundg (l0.length - (j + 1))
     case measure => omega
     case rel =>
      have RW2 := Kd.R_putn (Kd.R_below RW.out hb2) (i : Int) y
      rw [Int.toNat_natCast] at RW2
      refine ⟨i + 1, j + 1, dk.set i y, by go_num, by go_num, by omega, by omega, by omega, ⟨(BW.out.trans (hb2.mono BW.out.size)).setCell (p := ⟨gb, i, none⟩) HGB.out _⟩, ⟨keptSet (KW.out.then_ (Kept.of_below hb2 (fun _ => False)) (fun _ h => h.elim)) HPG.out _ _⟩, ⟨RW2⟩, ⟨by rw [List.length_set]; exact DL.out⟩, ⟨?_⟩, ⟨by rw [setDrop dk i (j + 1) y (by omega)]; exact dropS DR.out⟩⟩
      rw [setTake dk i y (by have := DL.out; omega), TK.out, TS.out, List.filter_append]
      simp [hq]
    | true =>
     rw [hq] at hcall
     go_wp2_with (go_at_fn g; refine hcall.mono ?_; rintro e w2 ⟨rfl, hb2⟩)
     go_roundg (l0.length - (j + 1))
     case measure => omega
     case rel =>
      exact ⟨i, j + 1, dk, rfl, by go_num, by omega, by omega, by omega, ⟨BW.out.trans (hb2.mono BW.out.size)⟩, ⟨KW.out.then_ (Kept.of_below hb2 (fun _ => False)) (fun _ h => h.elim)⟩, ⟨Kd.R_below RW.out hb2⟩, DL, ⟨by rw [TS.out, List.filter_append, ← TK.out]; simp [hq]⟩, ⟨dropS DR.out⟩⟩
   ·
    have : j = l0.length := by omega
    subst this
    have hltz : ¬ (l0.length : Int) < (l0.length : Int) := by omega
    have hcl : ∀ ty, (Builtin.clear_ #[24] ty #[.slice (some ⟨gb, i, none⟩) (l0.length - i) (c - i)]).run Try.prog wr = .ok (.tuple #[]) (wr.setCells gb i (List.replicate (l0.length - i) (.int .i64 0))) := fun ty => Lib.run_clear_slice wr 24 3 ty (.int .i64 0) Try.underlying24 Try.zeroValue3 rfl rfl gb i _ _ (by omega) (fun t ht => by rw [(hf (i + t) (by omega)).1]; rfl) (fun t ht => (hf (i + t) (by omega)).2)
    clear hf
    go_wp2
    go_ret
    obtain ⟨dk', f1, f2, f3⟩ := clearI (l0.length - i) i wr dk RW.out
    refine ⟨_, rfl, ?_, belowSets HGB.out _ _ _ BW.out, keptSets HPG.out _ _ _ KW.out⟩
    have h3 := Kd.R_take f3 (m := i) (by rw [f1, DL.out]; omega)
    rw [f2, TK.out, List.take_length] at h3
    exact h3
def seenN (p : Int → Bool) (l : List Int) : Nat := if Gen.fIdx p l < 0 then l.length else (Gen.fIdx p l).toNat + 1
theorem splitAt1 (l : List Int) (j : Nat) (hj : j < l.length) : l = l.take j ++ l.getD j 0 :: l.drop (j + 1) := by
 rw [Gen.getD_lt l 0 j hj, ← List.drop_eq_getElem_cons hj, List.take_append_drop]
theorem IndexFuncJ.calls (g : Nat) (lb : Array Value) (p : Int → Bool) (eg : ∀ args w, (callFunc g args).run Try.prog w = .ok (.enter g args) w)
  (P0_ Q : Nat → Prop) (hPQ : ∀ k, P0_ k → ¬ Q k) (J : List Int → World → Prop) (A0 : Option Addr) (c0 : Nat) (l0 : List Int) (w0 w : World) (hB : Below w0.heap.size w0 w)
  (ho0 : Kd.R (Kd.int .i64) 3 w w0.heap.size P0_ (.slice A0 l0.length c0) l0) (hj : J [] w)
  (hp : ∀ (pre : List Int) (x : Int) (post : List Int) (W : World), l0 = pre ++ x :: post → Below w0.heap.size w0 W → J pre W → Calls Try.prog g (#[.int .i64 x] ++ lb) W fun e w' => e = .returned (.bool (p x)) ∧ J (pre ++ [x]) w' ∧ Below w0.heap.size w0 w' ∧ Kept W w' Q) :
  Calls Try.prog 47 #[.slice A0 l0.length c0, .func (.func g) #[] lb] w fun e w' => e = .returned (.int .i64 (Gen.fIdx p l0)) ∧ J (l0.take (seenN p l0)) w' ∧ Below w0.heap.size w0 w' ∧ Kept w w' Q := by
 have HO := zm ho0
 have HP := zm hp
 have HB := zm hB
 have HJ := zm hj
 have HPQ := zm hPQ
 have hbig : l0.length ≤ 9223372036854775807 := ((Kd.R_reads' ho0).2.2).2.1
 clear ho0 hp hB hj hPQ
 go_enter Try.func47, Try.ntmps47
 go_wp2
 go_loopg [5, 8] l0.length (fun gg _ s8 wr => ∃ kk : Nat, kk ≤ l0.length ∧ l0.length - kk ≤ gg ∧ s8 = .int .i64 kk ∧ Aside0 (Below w0.heap.size w0 wr) ∧ Aside0 (Kept w wr Q) ∧ Aside0 (J (l0.take kk) wr) ∧ Aside0 (∀ j, j < kk → p (l0.getD j 0) = false))
 case atStart => exact ⟨0, Nat.zero_le _, by omega, rfl, HB, ⟨Kept.refl _ _⟩, HJ, ⟨fun j hj => absurd hj (Nat.not_lt_zero _)⟩⟩
 case round =>
  obtain ⟨kk, hkk, hg, rfl, BW, KW, JW, AN⟩ := hrel
  by_cases hlt : kk < l0.length
  ·
   have hltz : (kk : Int) < (l0.length : Int) := by omega
   obtain ⟨ad, e0, hx0⟩ := Kd.at_int (Kd.R_reads' (Kd.R_kept HO.out KW.out HPQ.out)).2.2 (kk : Int) (by omega) hltz
   cases e0
   rw [show rd l0 (kk : Int) = l0.getD kk 0 from rfl, Int.toNat_natCast] at hx0
   have hcall := HP.out (l0.take kk) (l0.getD kk 0) (l0.drop (kk + 1)) wr (splitAt1 l0 kk hlt) BW.out JW.out
   rw [← takeS l0 kk hlt] at hcall
   generalize hy : l0.getD kk 0 = y at hx0 hcall
   have B := zm hy
   clear hy
   cases hq : p y with
   | true =>
    rw [hq] at hcall
    go_wp2_with (go_at_fn g; refine hcall.mono ?_; rintro e w' ⟨rfl, hj', hb', hk'⟩)
    go_ret
    have e1 := Gen.fIdx_hit p l0 0 kk hlt (by rw [B.out]; exact hq) AN.out
    refine ⟨by rw [e1]; rfl, ?_, hb', KW.out.then_ hk' (fun _ h => .inl h)⟩
    have e2 : seenN p l0 = kk + 1 := by
     unfold seenN
     rw [e1, if_neg (by omega), Int.toNat_natCast]
    rw [e2]
    exact hj'
   | false =>
    rw [hq] at hcall
    go_wp2_with (go_at_fn g; refine hcall.mono ?_; rintro e w' ⟨rfl, hj', hb', hk'⟩)
    go_roundg (l0.length - (kk + 1))
    case measure => omega
    case rel =>
     refine ⟨kk + 1, by omega, by omega, by go_num, ⟨hb'⟩, ⟨KW.out.then_ hk' (fun _ h => .inl h)⟩, ⟨hj'⟩, ⟨fun j hj => ?_⟩⟩
     by_cases e : j = kk
     ·
      subst e
      rw [B.out]; exact hq
     ·
      exact AN.out j (by omega)
  ·
   have hltz : ¬ (kk : Int) < (l0.length : Int) := by omega
   have hkl : kk = l0.length := by omega
   subst hkl
   go_wp2
   go_ret
   have e1 := Gen.fIdx_miss p l0 0 AN.out
   refine ⟨by rw [e1]; rfl, ?_, BW.out, KW.out⟩
   have e2 : seenN p l0 = l0.length := by
    unfold seenN
    rw [e1, if_pos (by decide)]
   rw [e2]
   exact JW.out
theorem jSets {J : World → Prop} {g : Nat} (hs : ∀ W i v, J W → J (W.setCell ⟨g, i, none⟩ v)) : ∀ (vs : List Value) (i : Nat) (W : World), J W → J (W.setCells g i vs)
 | [], _, _, h => h
 | v :: r, i, W, h => jSets hs r (i + 1) _ (hs W i v h)
set_option maxHeartbeats 4000000 in
set_option maxRecDepth 1000000 in
theorem DeleteFuncJ.calls (g : Nat) (lb : Array Value) (p : Int → Bool) (eg : ∀ args w, (callFunc g args).run Try.prog w = .ok (.enter g args) w)
  (P0_ Q : Nat → Prop) (hPQ : ∀ k, P0_ k → ¬ Q k) (J : List Int → World → Prop) (hJs : ∀ pre W gb i v, P0_ gb → J pre W → J pre (W.setCell ⟨gb, i, none⟩ v)) (u : Value) (l0 : List Int) (w0 w : World) (hB : Below w0.heap.size w0 w)
  (ho0 : Kd.R (Kd.int .i64) 3 w w0.heap.size P0_ u l0) (hj : J [] w)
  (hp : ∀ (pre : List Int) (x : Int) (post : List Int) (W : World), l0 = pre ++ x :: post → Below w0.heap.size w0 W → J pre W → Calls Try.prog g (#[.int .i64 x] ++ lb) W fun e w' => e = .returned (.bool (p x)) ∧ J (pre ++ [x]) w' ∧ Below w0.heap.size w0 w' ∧ Kept W w' Q) :
  Calls Try.prog 23 #[u, .func (.func g) #[] lb] w fun e w' => ∃ v0_ : Value, e = .returned v0_ ∧ Kd.R (Kd.int .i64) 3 w' w0.heap.size P0_ v0_ (l0.filter fun x => !p x) ∧ J l0 w' ∧ Below w0.heap.size w0 w' ∧ Kept w w' (fun k => P0_ k ∨ Q k) := by
 obtain ⟨A, c, e0, hc, hC⟩ := Kd.R_reads ho0
 subst e0
 have hbig : l0.length ≤ 9223372036854775807 := hC.2.1
 have HIF := zm (IndexFuncJ.calls g lb p eg P0_ Q hPQ J A c l0 w0 w hB ho0 hj hp)
 have HP := zm hp
 have HB := zm hB
 have HO := zm ho0
 have HPQ := zm hPQ
 have HJS := zm hJs
 clear hp hB hPQ hJs hj
 rcases fIdxSpec p l0 with ⟨e1, hall⟩ | ⟨k0, hk0, e1, ht, hall⟩
 ·
  have e2 : seenN p l0 = l0.length := by
   unfold seenN
   rw [e1, if_pos (by decide)]
  rw [e1, e2, List.take_length] at HIF
  have hfil : (l0.filter fun x => !p x) = l0 := by have := filterAll p l0 l0.length (Nat.le_refl _) hall; rwa [List.take_length] at this
  rw [hfil]
  clear hfil hall hC ho0
  go_enter Try.func23, Try.ntmps23
  go_wp2_with (go_at_call 47; refine HIF.out.mono ?_; rintro e w1 ⟨rfl, hj1, hb1, hk1⟩)
  go_ret
  exact ⟨_, rfl, Kd.R_kept HO.out hk1 HPQ.out, hj1, hb1, hk1.mono (fun _ h => .inr h)⟩
 ·
  obtain ⟨gb, cap, ev, hgb, hlt, cells, hcells⟩ := Kd.R_form ho0 (by omega)
  injection ev with e2 e3 e4
  subst e2 e4
  have e5 : seenN p l0 = k0 + 1 := by
   unfold seenN
   rw [e1, if_neg (by omega), Int.toNat_natCast]
  rw [e1, e5] at HIF
  have hPg : P0_ gb := ho0.1 gb rfl
  have HPG := zm hPg
  have HGB := zm hgb
  have hne1 : ((k0 : Int) == -1) = false := beq_eq_false_iff_ne.2 (by omega)
  have F0 := zm (filterAll p l0 k0 (by omega) hall)
  have HT := zm ht
  clear hall hC ho0 ht hgb hlt hcells hPg
  go_enter Try.func23, Try.ntmps23
  go_wp2_with (go_at_call 47; refine HIF.out.mono ?_; rintro e w1 ⟨rfl, hj1, hb1, hk1⟩)
  go_loopg [5, 6, 7] l0.length (fun gg s5 s6 _ wr => ∃ (i j : Nat) (dk : List Int), s5 = .int .i64 i ∧ s6 = .int .i64 j ∧ i < j ∧ j ≤ l0.length ∧ l0.length - j ≤ gg ∧ Aside0 (Below w0.heap.size w0 wr) ∧ Aside0 (Kept w wr (fun k => P0_ k ∨ Q k)) ∧ Aside0 (Kd.R (Kd.int .i64) 3 wr w0.heap.size P0_ (.slice (some ⟨gb, 0, none⟩) l0.length c) dk) ∧ Aside0 (dk.length = l0.length) ∧ Aside0 (dk.take i = (l0.take j).filter (fun x => !p x)) ∧ Aside0 (dk.drop j = l0.drop j) ∧ Aside0 (J (l0.take j) wr))
  case atStart =>
   exact ⟨k0, k0 + 1, l0, rfl, by go_num, by omega, by omega, by omega, ⟨hb1⟩, ⟨hk1.mono (fun _ h => .inr h)⟩, ⟨Kd.R_kept HO.out hk1 HPQ.out⟩, ⟨rfl⟩, ⟨by rw [takeS l0 k0 hk0, List.filter_append, F0.out, List.filter_cons, HT.out]; simp⟩, ⟨rfl⟩, ⟨hj1⟩⟩
  case round =>
   obtain ⟨i, j, dk, rfl, rfl, hij, hj, hg, BW, KW, RW, DL, TK, DR, JW⟩ := hrel
   have hf : ∀ t, t < l0.length → wr.cell? ⟨gb, t, none⟩ = some (.int .i64 (dk.getD t 0)) ∧ wr.frozen? ⟨gb, t, none⟩ = false := fun t ht => by
    have := Kd.R_celln 0 RW.out (t : Int) (by omega) (by omega)
    rw [Int.toNat_natCast] at this
    exact this
   by_cases hlt : j < l0.length
   ·
    have hltz : (j : Int) < (l0.length : Int) := by omega
    obtain ⟨cj, fj⟩ := hf j hlt
    obtain ⟨ci, fi⟩ := hf i (by omega)
    rw [dropAt DR.out] at cj
    have hcall := HP.out (l0.take j) (l0.getD j 0) (l0.drop (j + 1)) wr (splitAt1 l0 j hlt) BW.out JW.out
    rw [← takeS l0 j hlt] at hcall
    have TS := zm (takeS l0 j hlt)
    generalize hy : l0.getD j 0 = y at cj hcall TS
    clear hy hf
    generalize dk.getD i 0 = old at ci
    have hbk : gb < wr.heap.size := World.block_lt_of_cell? wr _ ci
    have hnq : ¬ Q gb := HPQ.out gb HPG.out
    cases hq : p y with
    | false =>
     rw [hq] at hcall
     go_wp2_with (go_at_fn g; refine hcall.mono ?_; rintro e w2 ⟨rfl, hj2, hb2, hk2⟩; replace ci := cell_kept ci hk2 hnq; replace fi := (World.frozen?_of_block (a := ⟨gb, i, none⟩) (hk2.2 gb hbk hnq)).trans fi)
     go_roundg (l0.length - (j + 1))
     case measure => omega
     case rel =>
      have RW2 := Kd.R_putn (Kd.R_kept RW.out hk2 HPQ.out) (i : Int) y
      rw [Int.toNat_natCast] at RW2
      refine ⟨i + 1, j + 1, dk.set i y, by go_num, by go_num, by omega, by omega, by omega, ⟨hb2.setCell (p := ⟨gb, i, none⟩) HGB.out _⟩, ⟨keptSet (KW.out.then_ hk2 (fun _ h => .inl (.inr h))) (.inl HPG.out) _ _⟩, ⟨RW2⟩, ⟨by rw [List.length_set]; exact DL.out⟩, ⟨?_⟩, ⟨?_⟩, ⟨HJS.out _ _ _ _ _ HPG.out hj2⟩⟩
      ·
       rw [setTake dk i y (by have := DL.out; omega), TK.out, TS.out, List.filter_append]
       simp [hq]
      ·
       rw [setDrop dk i (j + 1) y (by omega)]
       exact dropS DR.out
    | true =>
     rw [hq] at hcall
     go_wp2_with (go_at_fn g; refine hcall.mono ?_; rintro e w2 ⟨rfl, hj2, hb2, hk2⟩)
     go_roundg (l0.length - (j + 1))
     case measure => omega
     case rel =>
      exact ⟨i, j + 1, dk, rfl, by go_num, by omega, by omega, by omega, ⟨hb2⟩, ⟨KW.out.then_ hk2 (fun _ h => .inl (.inr h))⟩, ⟨Kd.R_kept RW.out hk2 HPQ.out⟩, DL, ⟨by rw [TS.out, List.filter_append, ← TK.out]; simp [hq]⟩, ⟨dropS DR.out⟩, ⟨hj2⟩⟩
   ·
    have hjl : j = l0.length := by omega
    subst hjl
    have hltz : ¬ (l0.length : Int) < (l0.length : Int) := by omega
    have hcl : ∀ ty, (Builtin.clear_ #[24] ty #[.slice (some ⟨gb, i, none⟩) (l0.length - i) (c - i)]).run Try.prog wr = .ok (.tuple #[]) (wr.setCells gb i (List.replicate (l0.length - i) (.int .i64 0))) := fun ty => Lib.run_clear_slice wr 24 3 ty (.int .i64 0) Try.underlying24 Try.zeroValue3 rfl rfl gb i _ _ (by omega) (fun t ht => by rw [(hf (i + t) (by omega)).1]; rfl) (fun t ht => (hf (i + t) (by omega)).2)
    clear hf
    go_wp2
    go_ret
    obtain ⟨dk', f1, f2, f3⟩ := clearI (l0.length - i) i wr dk RW.out
    refine ⟨_, rfl, ?_, ?_, belowSets HGB.out _ _ _ BW.out, keptSets (.inl HPG.out) _ _ _ KW.out⟩
    ·
     have h3 := Kd.R_take f3 (m := i) (by rw [f1, DL.out]; omega)
     rw [f2, TK.out, List.take_length] at h3
     exact h3
    ·
     have := JW.out
     rw [List.take_length] at this
     exact jSets (fun W i v h => HJS.out _ _ _ _ _ HPG.out h) _ _ _ this
def RowAt (W : World) (gb off : Nat) (l : List Int) : Prop := ∃ cs : Array Value, W.heap[gb]? = some (.cells cs 3 (0, 0)) ∧ ∀ t, t < l.length → cs[off + t]? = some (.int .i64 (l.getD t 0))
theorem RowAt.cell {W : World} {gb off : Nat} {l : List Int} (h : RowAt W gb off l) {t : Nat} (ht : t < l.length) : W.cell? ⟨gb, off + t, none⟩ = some (.int .i64 (l.getD t 0)) ∧ W.frozen? ⟨gb, off + t, none⟩ = false := by
 obtain ⟨cs, hb, hc⟩ := h
 exact ⟨(zyk hb (off + t)).trans (hc t ht), zyF hb (off + t)⟩
theorem RowAt.lt {W : World} {gb off : Nat} {l : List Int} (h : RowAt W gb off l) : gb < W.heap.size := by
 obtain ⟨cs, hb, _⟩ := h
 exact blk_lt hb
theorem RowAt.kept {W W2 : World} {gb off : Nat} {l : List Int} {Q : Nat → Prop} (h : RowAt W gb off l) (hk : Kept W W2 Q) (hn : ¬ Q gb) : RowAt W2 gb off l := by
 obtain ⟨cs, hb, hc⟩ := h
 exact ⟨cs, blk_kept hb hk hn, hc⟩
theorem RowAt.set {W : World} {gb off : Nat} {l : List Int} (h : RowAt W gb off l) {i : Nat} (hi : i < l.length) (y : Int) : RowAt (W.setCell ⟨gb, off + i, none⟩ (.int .i64 y)) gb off (l.set i y) := by
 obtain ⟨cs, hb, hc⟩ := h
 refine ⟨_, blk_set hb (off + i) (.int .i64 y), fun t ht => ?_⟩
 rw [List.length_set] at ht
 have hin := (Array.getElem?_eq_some_iff.1 (hc i hi)).1
 rw [Array.getElem?_setIfInBounds]
 by_cases e : i = t
 ·
  subst e
  rw [if_pos rfl, if_pos hin, List.getD_eq_getElem?_getD, List.getElem?_set_self hi]
  rfl
 ·
  rw [if_neg (by omega), hc t ht, List.getD_eq_getElem?_getD, List.getD_eq_getElem?_getD, List.getElem?_set_ne e]
theorem RowAt.past {W : World} {gb off m : Nat} {l : List Int} (h : RowAt W gb off l) (hl : l.length ≤ m) (j : Nat) (hj : off + m ≤ j) (v : Value) : RowAt (W.setCell ⟨gb, j, none⟩ v) gb off l := by
 obtain ⟨cs, hb, hc⟩ := h
 refine ⟨_, blk_set hb j v, fun t ht => ?_⟩
 rw [Array.getElem?_setIfInBounds, if_neg (by omega)]
 exact hc t ht
theorem RowAt.pasts {gb off m : Nat} {l : List Int} (hl : l.length ≤ m) : ∀ (vs : List Value) (j : Nat) (W : World), off + m ≤ j → RowAt W gb off l → RowAt (W.setCells gb j vs) gb off l
 | [], _, _, _, h => h
 | v :: r, j, W, hj, h => RowAt.pasts hl r (j + 1) _ (by omega) (h.past hl j hj v)
theorem RowAt.take {W : World} {gb off : Nat} {l : List Int} (h : RowAt W gb off l) (m : Nat) : RowAt W gb off (l.take m) := by
 obtain ⟨cs, hb, hc⟩ := h
 refine ⟨cs, hb, fun t ht => ?_⟩
 rw [List.length_take] at ht
 rw [hc t (by omega), List.getD_eq_getElem?_getD, List.getD_eq_getElem?_getD, List.getElem?_take_of_lt (by omega)]
theorem IndexFuncA.calls (g : Nat) (lb : Array Value) (p : Int → Bool) (eg : ∀ args w, (callFunc g args).run Try.prog w = .ok (.enter g args) w)
  (Q : Nat → Prop) (J : List Int → World → Prop) (gb off c0 : Nat) (l0 : List Int) (w0 w : World) (hQ : ¬ Q gb) (hB : Below w0.heap.size w0 w)
  (ho0 : RowAt w gb off l0) (hbig : l0.length ≤ 1000000) (hj : J [] w)
  (hp : ∀ (pre : List Int) (x : Int) (post : List Int) (W : World), l0 = pre ++ x :: post → Below w0.heap.size w0 W → J pre W → Calls Try.prog g (#[.int .i64 x] ++ lb) W fun e w' => e = .returned (.bool (p x)) ∧ J (pre ++ [x]) w' ∧ Below w0.heap.size w0 w' ∧ Kept W w' Q) :
  Calls Try.prog 47 #[.slice (some ⟨gb, off, none⟩) l0.length c0, .func (.func g) #[] lb] w fun e w' => e = .returned (.int .i64 (Gen.fIdx p l0)) ∧ J (l0.take (seenN p l0)) w' ∧ Below w0.heap.size w0 w' ∧ Kept w w' Q := by
 have HO := zm ho0
 have HP := zm hp
 have HB := zm hB
 have HJ := zm hj
 clear ho0 hp hB hj
 go_enter Try.func47, Try.ntmps47
 go_wp2
 go_loopg [5, 8] l0.length (fun gg _ s8 wr => ∃ kk : Nat, kk ≤ l0.length ∧ l0.length - kk ≤ gg ∧ s8 = .int .i64 kk ∧ Aside0 (Below w0.heap.size w0 wr) ∧ Aside0 (Kept w wr Q) ∧ Aside0 (J (l0.take kk) wr) ∧ Aside0 (∀ j, j < kk → p (l0.getD j 0) = false))
 case atStart => exact ⟨0, Nat.zero_le _, by omega, rfl, HB, ⟨Kept.refl _ _⟩, HJ, ⟨fun j hj => absurd hj (Nat.not_lt_zero _)⟩⟩
 case round =>
  obtain ⟨kk, hkk, hg, rfl, BW, KW, JW, AN⟩ := hrel
  by_cases hlt : kk < l0.length
  ·
   have hltz : (kk : Int) < (l0.length : Int) := by omega
   have hx0 := ((HO.out.kept KW.out hQ).cell hlt).1
   have hcall := HP.out (l0.take kk) (l0.getD kk 0) (l0.drop (kk + 1)) wr (splitAt1 l0 kk hlt) BW.out JW.out
   rw [← takeS l0 kk hlt] at hcall
   generalize hy : l0.getD kk 0 = y at hx0 hcall
   have B := zm hy
   clear hy
   cases hq : p y with
   | true =>
    rw [hq] at hcall
    go_wp2_with (go_at_fn g; refine hcall.mono ?_; rintro e w' ⟨rfl, hj', hb', hk'⟩)
    go_ret
    have e1 := Gen.fIdx_hit p l0 0 kk hlt (by rw [B.out]; exact hq) AN.out
    refine ⟨by rw [e1]; rfl, ?_, hb', KW.out.then_ hk' (fun _ h => .inl h)⟩
    have e2 : seenN p l0 = kk + 1 := by
     unfold seenN
     rw [e1, if_neg (by omega), Int.toNat_natCast]
    rw [e2]
    exact hj'
   | false =>
    rw [hq] at hcall
    go_wp2_with (go_at_fn g; refine hcall.mono ?_; rintro e w' ⟨rfl, hj', hb', hk'⟩)
    go_roundg (l0.length - (kk + 1))
    case measure => omega
    case rel =>
     refine ⟨kk + 1, by omega, by omega, by go_num, ⟨hb'⟩, ⟨KW.out.then_ hk' (fun _ h => .inl h)⟩, ⟨hj'⟩, ⟨fun j hj => ?_⟩⟩
     by_cases e : j = kk
     ·
      subst e
      rw [B.out]; exact hq
     ·
      exact AN.out j (by omega)
  ·
   have hltz : ¬ (kk : Int) < (l0.length : Int) := by omega
   have hkl : kk = l0.length := by omega
   subst hkl
   go_wp2
   go_ret
   have e1 := Gen.fIdx_miss p l0 0 AN.out
   refine ⟨by rw [e1]; rfl, ?_, BW.out, KW.out⟩
   have e2 : seenN p l0 = l0.length := by
    unfold seenN
    rw [e1, if_pos (by decide)]
   rw [e2]
   exact JW.out
set_option maxHeartbeats 4000000 in
set_option maxRecDepth 1000000 in
theorem DeleteFuncA.calls (g : Nat) (lb : Array Value) (p : Int → Bool) (eg : ∀ args w, (callFunc g args).run Try.prog w = .ok (.enter g args) w)
  (Q : Nat → Prop) (J : List Int → World → Prop) (gb off c : Nat) (l0 : List Int) (w0 w : World) (hQ : ¬ Q gb) (hgb : w0.heap.size ≤ gb) (hc : l0.length ≤ c) (hJs : ∀ pre W i v, J pre W → J pre (W.setCell ⟨gb, i, none⟩ v)) (hB : Below w0.heap.size w0 w)
  (ho0 : RowAt w gb off l0) (hbig : l0.length ≤ 1000000) (hoff : off ≤ 1000000) (hj : J [] w)
  (hp : ∀ (pre : List Int) (x : Int) (post : List Int) (W : World), l0 = pre ++ x :: post → Below w0.heap.size w0 W → J pre W → Calls Try.prog g (#[.int .i64 x] ++ lb) W fun e w' => e = .returned (.bool (p x)) ∧ J (pre ++ [x]) w' ∧ Below w0.heap.size w0 w' ∧ Kept W w' Q) :
  Calls Try.prog 23 #[.slice (some ⟨gb, off, none⟩) l0.length c, .func (.func g) #[] lb] w fun e w' => e = .returned (.slice (some ⟨gb, off, none⟩) (l0.filter fun x => !p x).length c) ∧ RowAt w' gb off (l0.filter fun x => !p x) ∧ J l0 w' ∧ Below w0.heap.size w0 w' ∧ Kept w w' (fun k => k = gb ∨ Q k) := by
 have HIF := zm (IndexFuncA.calls g lb p eg Q J gb off c l0 w0 w hQ hB ho0 hbig hj hp)
 have HP := zm hp
 have HB := zm hB
 have HO := zm ho0
 have HJS := zm hJs
 have HGB := zm hgb
 clear hp hB hJs hj
 rcases fIdxSpec p l0 with ⟨e1, hall⟩ | ⟨k0, hk0, e1, ht, hall⟩
 ·
  have e2 : seenN p l0 = l0.length := by
   unfold seenN
   rw [e1, if_pos (by decide)]
  rw [e1, e2, List.take_length] at HIF
  have hfil : (l0.filter fun x => !p x) = l0 := by have := filterAll p l0 l0.length (Nat.le_refl _) hall; rwa [List.take_length] at this
  rw [hfil]
  clear hfil hall ho0
  go_enter Try.func23, Try.ntmps23
  go_wp2_with (go_at_call 47; refine HIF.out.mono ?_; rintro e w1 ⟨rfl, hj1, hb1, hk1⟩)
  go_ret
  exact ⟨rfl, HO.out.kept hk1 hQ, hj1, hb1, hk1.mono (fun _ h => .inr h)⟩
 ·
  have e5 : seenN p l0 = k0 + 1 := by
   unfold seenN
   rw [e1, if_neg (by omega), Int.toNat_natCast]
  rw [e1, e5] at HIF
  have hne1 : ((k0 : Int) == -1) = false := beq_eq_false_iff_ne.2 (by omega)
  have F0 := zm (filterAll p l0 k0 (by omega) hall)
  have HT := zm ht
  clear hall ho0 ht hgb
  go_enter Try.func23, Try.ntmps23
  go_wp2_with (go_at_call 47; refine HIF.out.mono ?_; rintro e w1 ⟨rfl, hj1, hb1, hk1⟩)
  go_loopg [5, 6, 7] l0.length (fun gg s5 s6 _ wr => ∃ (i j : Nat) (dk : List Int), s5 = .int .i64 i ∧ s6 = .int .i64 j ∧ i < j ∧ j ≤ l0.length ∧ l0.length - j ≤ gg ∧ Aside0 (Below w0.heap.size w0 wr) ∧ Aside0 (Kept w wr (fun k => k = gb ∨ Q k)) ∧ Aside0 (RowAt wr gb off dk) ∧ Aside0 (dk.length = l0.length) ∧ Aside0 (dk.take i = (l0.take j).filter (fun x => !p x)) ∧ Aside0 (dk.drop j = l0.drop j) ∧ Aside0 (J (l0.take j) wr))
  case atStart =>
   exact ⟨k0, k0 + 1, l0, rfl, by go_num, by omega, by omega, by omega, ⟨hb1⟩, ⟨hk1.mono (fun _ h => .inr h)⟩, ⟨HO.out.kept hk1 hQ⟩, ⟨rfl⟩, ⟨by rw [takeS l0 k0 hk0, List.filter_append, F0.out, List.filter_cons, HT.out]; simp⟩, ⟨rfl⟩, ⟨hj1⟩⟩
  case round =>
   obtain ⟨i, j, dk, rfl, rfl, hij, hj, hg, BW, KW, RW, DL, TK, DR, JW⟩ := hrel
   by_cases hlt : j < l0.length
   ·
    have hltz : (j : Int) < (l0.length : Int) := by omega
    obtain ⟨cj, fj⟩ := RW.out.cell (t := j) (by have := DL.out; omega)
    obtain ⟨ci, fi⟩ := RW.out.cell (t := i) (by have := DL.out; omega)
    rw [dropAt DR.out] at cj
    have hcall := HP.out (l0.take j) (l0.getD j 0) (l0.drop (j + 1)) wr (splitAt1 l0 j hlt) BW.out JW.out
    rw [← takeS l0 j hlt] at hcall
    have TS := zm (takeS l0 j hlt)
    generalize hy : l0.getD j 0 = y at cj hcall TS
    clear hy
    generalize dk.getD i 0 = old at ci
    have hbk : gb < wr.heap.size := World.block_lt_of_cell? wr _ ci
    cases hq : p y with
    | false =>
     rw [hq] at hcall
     go_wp2_with (go_at_fn g; refine hcall.mono ?_; rintro e w2 ⟨rfl, hj2, hb2, hk2⟩; replace ci := cell_kept ci hk2 hQ; replace fi := (World.frozen?_of_block (a := ⟨gb, off + i, none⟩) (hk2.2 gb hbk hQ)).trans fi)
     go_roundg (l0.length - (j + 1))
     case measure => omega
     case rel =>
      refine ⟨i + 1, j + 1, dk.set i y, by go_num, by go_num, by omega, by omega, by omega, ⟨hb2.setCell (p := ⟨gb, off + i, none⟩) HGB.out _⟩, ⟨keptSet (KW.out.then_ hk2 (fun _ h => .inl (.inr h))) (.inl rfl) _ _⟩, ⟨(RW.out.kept hk2 hQ).set (by have := DL.out; omega) y⟩, ⟨by rw [List.length_set]; exact DL.out⟩, ⟨?_⟩, ⟨?_⟩, ⟨HJS.out _ _ _ _ hj2⟩⟩
      ·
       rw [setTake dk i y (by have := DL.out; omega), TK.out, TS.out, List.filter_append]
       simp [hq]
      ·
       rw [setDrop dk i (j + 1) y (by omega)]
       exact dropS DR.out
    | true =>
     rw [hq] at hcall
     go_wp2_with (go_at_fn g; refine hcall.mono ?_; rintro e w2 ⟨rfl, hj2, hb2, hk2⟩)
     go_roundg (l0.length - (j + 1))
     case measure => omega
     case rel =>
      exact ⟨i, j + 1, dk, rfl, by go_num, by omega, by omega, by omega, ⟨hb2⟩, ⟨KW.out.then_ hk2 (fun _ h => .inl (.inr h))⟩, ⟨RW.out.kept hk2 hQ⟩, DL, ⟨by rw [TS.out, List.filter_append, ← TK.out]; simp [hq]⟩, ⟨dropS DR.out⟩, ⟨hj2⟩⟩
   ·
    have hjl : j = l0.length := by omega
    subst hjl
    have hltz : ¬ (l0.length : Int) < (l0.length : Int) := by omega
    have hcl : ∀ ty, (Builtin.clear_ #[24] ty #[.slice (some ⟨gb, off + i, none⟩) (l0.length - i) (c - i)]).run Try.prog wr = .ok (.tuple #[]) (wr.setCells gb (off + i) (List.replicate (l0.length - i) (.int .i64 0))) := fun ty => Lib.run_clear_slice wr 24 3 ty (.int .i64 0) Try.underlying24 Try.zeroValue3 rfl rfl gb (off + i) _ _ (by omega) (fun t ht => by rw [Nat.add_assoc, (RW.out.cell (t := i + t) (by have := DL.out; omega)).1]; rfl) (fun t ht => by rw [Nat.add_assoc]; exact (RW.out.cell (t := i + t) (by have := DL.out; omega)).2)
    go_wp2
    go_ret
    have e6 : (l0.filter fun x => !p x) = dk.take i := by rw [TK.out, List.take_length]
    have e7 : (dk.take i).length = i := by rw [List.length_take]; have := DL.out; omega
    rw [e6, e7]
    refine ⟨rfl, RowAt.pasts (m := i) (by omega) _ _ _ (Nat.le_refl _) (RW.out.take i), ?_, belowSets HGB.out _ _ _ BW.out, keptSets (.inl rfl) _ _ _ KW.out⟩
    have := JW.out
    rw [List.take_length] at this
    exact jSets (fun W i v h => HJS.out _ _ _ _ h) _ _ _ this
def impl_within.f (a0 : Int) (a1 : Int) (a2 : Int) : Option (Bool) := if a0 ≥ a1 then (some (decide (a0 ≤ a2))) else (some false)
set_option maxHeartbeats 8000000 in
set_option maxRecDepth 100000 in
theorem impl_within.calls (a0 : Int) (a1 : Int) (a2 : Int) (r : Bool) (w : World) (h : impl_within.f a0 a1 a2 = some r) :
  Calls Try.prog 22 #[.int .i64 a0, .int .i64 a1, .int .i64 a2] w fun e w' => e = .returned (.bool r) ∧ Drawn0 w w' := by
 have H : (if a0 ≥ a1 then (some (decide (a0 ≤ a2))) else (some false)) = some r := h
 clear h
 by_cases c4 : a0 ≥ a1
 case neg =>
  rw [if_neg c4] at H
  have c4b0 : decide (a1 ≤ a0) = false := decide_eq_false c4
  clear c4
  obtain rfl := Option.some.inj H
  go_enter Try.func22, Try.ntmps22
  go_wp2
  go_ret
  exact ⟨by first | rfl | (simp; done) | (simp [*]; done), zq28⟩
 rw [if_pos c4] at H
 have c4b0 : decide (a1 ≤ a0) = true := decide_eq_true c4
 clear c4
 obtain rfl := Option.some.inj H
 go_enter Try.func22, Try.ntmps22
 go_wp2
 go_ret
 exact ⟨by first | rfl | (simp; done) | (simp [*]; done), zq28⟩
theorem within_f (a b c : Int) : impl_within.f a b c = some (decide (b ≤ a ∧ a ≤ c)) := by
 unfold impl_within.f
 by_cases h1 : a ≥ b <;> by_cases h2 : a ≤ c <;> simp [h1, h2] <;> omega
def impl_isShape.f (a0 : Int) (a1 : Int) : Option (Bool) := (impl_within.f a0 1 8).bind fun t336 => (if t336 = true then ((impl_within.f a1 1 8).bind fun t337 => (some t337)) else (some false))
set_option maxHeartbeats 8000000 in
set_option maxRecDepth 100000 in
theorem impl_isShape.calls (a0 : Int) (a1 : Int) (r : Bool) (w : World) (h : impl_isShape.f a0 a1 = some r) :
  Calls Try.prog 50 #[.int .i64 a0, .int .i64 a1] w fun e w' => e = .returned (.bool r) ∧ Drawn0 w w' := by
 have H : ((impl_within.f a0 1 8).bind fun t336 => (if t336 = true then ((impl_within.f a1 1 8).bind fun t337 => (some t337)) else (some false))) = some r := h
 clear h
 obtain ⟨t336, A30, H⟩ := zob H
 replace H : (if t336 = true then ((impl_within.f a1 1 8).bind fun t337 => (some t337)) else (some false)) = some r := H
 have A3 := zm A30
 clear A30
 by_cases c4 : t336 = true
 case neg =>
  replace c4 := Bool.eq_false_iff.mpr c4
  subst c4
  have H1 : (some false) = some r := by rw [if_neg (show ¬ (false = true) by decide)] at H; exact H
  clear H
  have H := H1
  clear H1
  obtain rfl := Option.some.inj H
  go_enter Try.func50, Try.ntmps50
  go_wp2_with (first | ((with_reducible refine zyg (f := 22) rfl ?_); refine goesL_ (some 6) rfl rfl Try.func22 (by kernel_rfl) rfl #[.int .i64 a0, .int .i64 1, .int .i64 8] rfl zq0 ?_; (with_reducible refine (impl_within.calls a0 1 8 false _ A3.out).mono ?_); rintro e w' ⟨rfl, ⟨nd, rfl⟩⟩; refine ⟨_, rfl, ?_⟩))
  go_ret
  exact ⟨by first | rfl | (simp; done) | (simp [*]; done), zq28⟩
 subst c4
 have H1 : ((impl_within.f a1 1 8).bind fun t337 => (some t337)) = some r := by rw [if_pos rfl] at H; exact H
 clear H
 have H := H1
 clear H1
 obtain ⟨t337, A50, H⟩ := zob H
 replace H : (some t337) = some r := H
 have A5 := zm A50
 clear A50
 obtain rfl := Option.some.inj H
 go_enter Try.func50, Try.ntmps50
 go_wp2_with (first | ((with_reducible refine zyg (f := 22) rfl ?_); refine goesL_ (some 6) rfl rfl Try.func22 (by kernel_rfl) rfl #[.int .i64 a0, .int .i64 1, .int .i64 8] rfl zq0 ?_; (with_reducible refine (impl_within.calls a0 1 8 true _ A3.out).mono ?_); rintro e w' ⟨rfl, ⟨nd, rfl⟩⟩; refine ⟨_, rfl, ?_⟩) | (go_at_call 22; (with_reducible refine (impl_within.calls a1 1 8 t337 _ A5.out).mono ?_); rintro e w' ⟨rfl, ⟨nd, rfl⟩⟩))
 go_ret
 exact ⟨by first | rfl | (simp; done) | (simp [*]; done), zq28⟩
def impl_allWithin.l0 : Nat → Int → Int → List Int → Int → Int → Option (Bool)
 | 0, _, _, _, _, _ => none
 | k + 1, x1, x2, x9, x10, x11 => if x11 < x10 then (if 0 ≤ x11 then (if x11 < (x9.length : Int) then ((impl_within.f (rd x9 x11) x1 x2).bind fun t339 => (if t339 = true then (impl_allWithin.l0 k x1 x2 x9 x10 (wrap64 (x11 + 1))) else (some false))) else (none)) else (none)) else (some true)
def impl_allWithin.f (k : Nat) (l0 : List Int) (a1 : Int) (a2 : Int) : Option (Bool) := impl_allWithin.l0 k a1 a2 l0 (l0.length : Int) 0
set_option maxHeartbeats 8000000 in
set_option maxRecDepth 100000 in
theorem impl_allWithin.calls (k : Nat) (A0 : Option Addr) (c0 : Nat) (l0 : List Int) (a1 : Int) (a2 : Int) (r : Bool) (w : World) (hr0 : Kd.C (Kd.int .i64) w A0 l0.length l0) (hc0 : l0.length ≤ c0) (h : impl_allWithin.f k l0 a1 a2 = some r) :
  Calls Try.prog 51 #[.slice A0 l0.length c0, .int .i64 a1, .int .i64 a2] w fun e w' => e = .returned (.bool r) ∧ Drawn0 w w' := by
 have HR0 := zm hr0
 have HC0 := zm hc0
 clear hr0 hc0
 have H : (impl_allWithin.l0 k a1 a2 l0 (l0.length : Int) 0) = some r := h
 clear h
 have H' := zm H
 clear H
 go_enter Try.func51, Try.ntmps51
 go_wp2
 go_loopg [11] k (fun kq v11 w' => ∃ (x11_1 : Int), v11 = .int .i64 x11_1 ∧ Aside0 (impl_allWithin.l0 kq a1 a2 l0 (l0.length : Int) x11_1 = some r) ∧ Aside0 (kq ≤ k) ∧ Drawn0 w w')
 case atStart => exact ⟨(0), (by first | rfl | (simp; done) | (simp [*]; done)), H', ⟨Nat.le_refl _⟩, zq28⟩
 clear H'
 try clear p2
 obtain ⟨x11_1, rfl, HA, HK1, ⟨m1, rfl⟩⟩ := hrel
 cases gk with
 | zero => exact absurd HA.out (by simp [impl_allWithin.l0])
 | succ k1 =>
  have H := HA.out
  clear HA
  simp only [impl_allWithin.l0] at H
  by_cases c4 : x11_1 < (l0.length : Int)
  case neg =>
   rw [if_neg c4] at H
   have c4b0 : decide (x11_1 < (l0.length : Int)) = false := decide_eq_false c4
   clear c4
   obtain rfl := Option.some.inj H
   go_wp2
   go_ret
   exact ⟨by first | rfl | (simp; done) | (simp [*]; done), zq28⟩
  rw [if_pos c4] at H
  have c4b0 : decide (x11_1 < (l0.length : Int)) = true := decide_eq_true c4
  clear c4
  by_cases c5 : 0 ≤ x11_1
  case neg =>
   rw [if_neg c5] at H
   exact absurd H (by simp)
  rw [if_pos c5] at H
  have c5b0 : decide (0 ≤ x11_1) = true := decide_eq_true c5
  clear c5
  by_cases c6 : x11_1 < (l0.length : Int)
  case neg =>
   rw [if_neg c6] at H
   exact absurd H (by simp)
  rw [if_pos c6] at H
  have c6b0 : decide (x11_1 < (l0.length : Int)) = true := decide_eq_true c6
  clear c6
  obtain ⟨t339, A70, H⟩ := zob H
  replace H : (if t339 = true then (impl_allWithin.l0 k1 a1 a2 l0 (l0.length : Int) (wrap64 (x11_1 + 1))) else (some false)) = some r := H
  have A7 := zm A70
  clear A70
  by_cases c8 : t339 = true
  case neg =>
   replace c8 := Bool.eq_false_iff.mpr c8
   subst c8
   have H1 : (some false) = some r := by rw [if_neg (show ¬ (false = true) by decide)] at H; exact H
   clear H
   have H := H1
   clear H1
   obtain rfl := Option.some.inj H
   have p338 : 0 ≤ (x11_1 : Int) := of_decide_eq_true zq6
   have q338 : x11_1 < (l0.length : Int) := of_decide_eq_true zq6
   obtain ⟨ad338, e338, hx338_0⟩ := Kd.at_int HR0.out x11_1 p338 q338
   cases e338
   replace p338 := eq_true p338
   replace q338 := eq_true q338
   go_wp2_with (first | ((with_reducible refine zyg (f := 22) rfl ?_); refine goesL_ (some 18) rfl rfl Try.func22 (by kernel_rfl) rfl #[.int .i64 (rd l0 x11_1), .int .i64 a1, .int .i64 a2] rfl zq0 ?_; (with_reducible refine (impl_within.calls (rd l0 x11_1) a1 a2 false _ A7.out).mono ?_); rintro e w' ⟨rfl, ⟨nd, rfl⟩⟩; refine ⟨_, rfl, ?_⟩))
   go_ret
   exact ⟨by first | rfl | (simp; done) | (simp [*]; done), zq28⟩
  subst c8
  have H1 : (impl_allWithin.l0 k1 a1 a2 l0 (l0.length : Int) (wrap64 (x11_1 + 1))) = some r := by rw [if_pos rfl] at H; exact H
  clear H
  have H := H1
  clear H1
  have H' := zm H
  clear H
  have p338 : 0 ≤ (x11_1 : Int) := of_decide_eq_true zq6
  have q338 : x11_1 < (l0.length : Int) := of_decide_eq_true zq6
  obtain ⟨ad338, e338, hx338_0⟩ := Kd.at_int HR0.out x11_1 p338 q338
  cases e338
  replace p338 := eq_true p338
  replace q338 := eq_true q338
  go_wp2_with (first | ((with_reducible refine zyg (f := 22) rfl ?_); refine goesL_ (some 18) rfl rfl Try.func22 (by kernel_rfl) rfl #[.int .i64 (rd l0 x11_1), .int .i64 a1, .int .i64 a2] rfl zq0 ?_; (with_reducible refine (impl_within.calls (rd l0 x11_1) a1 a2 true _ A7.out).mono ?_); rintro e w' ⟨rfl, ⟨nd, rfl⟩⟩; refine ⟨_, rfl, ?_⟩))
  go_roundg k1
  case measure => have := HK1.out; omega
  case rel => exact ⟨(wrap64 (x11_1 + 1)), (by first | rfl | (simp; done) | (simp [*]; done)), H', ⟨by have := HK1.out; omega⟩, zq28⟩
def impl_IsValidAreaMap.f (k : Nat) (a0_0 : Int) (a0_1 : Int) (l0_2 : List Int) : Option (Bool) := (impl_isShape.f a0_0 a0_1).bind fun t341 => (if t341 = true then (if (l0_2.length : Int) = (wrap64 (a0_0 * a0_1)) then ((impl_allWithin.f k l0_2 0 9).bind fun t342 => (some t342)) else (some false)) else (some false))
set_option maxHeartbeats 8000000 in
set_option maxRecDepth 100000 in
theorem impl_IsValidAreaMap.calls (k : Nat) (a0_0 : Int) (a0_1 : Int) (A0_2 : Option Addr) (c0_2 : Nat) (l0_2 : List Int) (r : Bool) (w : World) (hr0_2 : Kd.C (Kd.int .i64) w A0_2 l0_2.length l0_2) (hc0_2 : l0_2.length ≤ c0_2) (h : impl_IsValidAreaMap.f k a0_0 a0_1 l0_2 = some r) :
  Calls Try.prog 31 #[.agg #[.int .i64 a0_0, .int .i64 a0_1, .slice A0_2 l0_2.length c0_2]] w fun e w' => e = .returned (.bool r) ∧ Below w.heap.size w w' := by
 have hu26 := Try.underlying26
 have HR0_2 := zm hr0_2
 have HC0_2 := zm hc0_2
 clear hr0_2 hc0_2
 have HB := zm (Below.refl w.heap.size w)
 have H : ((impl_isShape.f a0_0 a0_1).bind fun t341 => (if t341 = true then (if (l0_2.length : Int) = (wrap64 (a0_0 * a0_1)) then ((impl_allWithin.f k l0_2 0 9).bind fun t342 => (some t342)) else (some false)) else (some false))) = some r := h
 clear h
 obtain ⟨t341, A20, H⟩ := zob H
 replace H : (if t341 = true then (if (l0_2.length : Int) = (wrap64 (a0_0 * a0_1)) then ((impl_allWithin.f k l0_2 0 9).bind fun t342 => (some t342)) else (some false)) else (some false)) = some r := H
 have A2 := zm A20
 clear A20
 by_cases c3 : t341 = true
 case neg =>
  replace c3 := Bool.eq_false_iff.mpr c3
  subst c3
  have H1 : (some false) = some r := by rw [if_neg (show ¬ (false = true) by decide)] at H; exact H
  clear H
  have H := H1
  clear H1
  obtain rfl := Option.some.inj H
  go_enter Try.func31, Try.ntmps31
  go_wp2_with (first | ((with_reducible refine gate_dst (N := 1) rfl ?_); refine box_event ?hg (N := 1) ?hd (cs := #[.int .i64 a0_0, .int .i64 a0_1, .slice A0_2 l0_2.length c0_2]) (t := 26) ?hr ?_; (case hd => rfl); (case hg => rfl); (case hr => exact zqS); intro gb340 hg w10 hbox hb; have BK340 := zm (hbox); have GW340 := zm ((by rw [hg]; exact (zyi zq1) : w.heap.size ≤ gb340)); replace HB := zm (zyh zq1 hb); have GE340 := GW340; clear hb hbox hg; have hcz11_0 := bz BK340.out 0 (.int .i64 a0_0); have hcz11_1 := bz BK340.out 1 (.int .i64 a0_1); have hcz11_2 := bz BK340.out 2 (.slice A0_2 l0_2.length c0_2); have hfz11_0 := zyF BK340.out 0; have hfz11_1 := zyF BK340.out 1; have hfz11_2 := zyF BK340.out 2) | ((with_reducible refine zyg (f := 50) rfl ?_); refine goesL_ (some 7) rfl rfl Try.func50 (by kernel_rfl) rfl #[.int .i64 a0_0, .int .i64 a0_1] rfl zq0 ?_; (with_reducible refine (impl_isShape.calls a0_0 a0_1 false _ A2.out).mono ?_); rintro e w' ⟨rfl, ⟨nd, rfl⟩⟩; refine ⟨_, rfl, ?_⟩))
  go_ret
  exact ⟨zqE, zq89⟩
 subst c3
 have H1 : (if (l0_2.length : Int) = (wrap64 (a0_0 * a0_1)) then ((impl_allWithin.f k l0_2 0 9).bind fun t342 => (some t342)) else (some false)) = some r := by rw [if_pos rfl] at H; exact H
 clear H
 have H := H1
 clear H1
 by_cases c4 : (l0_2.length : Int) = (wrap64 (a0_0 * a0_1))
 case neg =>
  rw [if_neg c4] at H
  have c4b0 : ((l0_2.length : Int) == (wrap64 (a0_0 * a0_1))) = false := beq_eq_false_iff_ne.mpr c4
  have c4b1 : ((l0_2.length : Int) != (wrap64 (a0_0 * a0_1))) = true := bne_iff_ne.mpr c4
  obtain rfl := Option.some.inj H
  go_enter Try.func31, Try.ntmps31
  go_wp2_with (first | ((with_reducible refine gate_dst (N := 1) rfl ?_); refine box_event ?hg (N := 1) ?hd (cs := #[.int .i64 a0_0, .int .i64 a0_1, .slice A0_2 l0_2.length c0_2]) (t := 26) ?hr ?_; (case hd => rfl); (case hg => rfl); (case hr => exact zqS); intro gb340 hg w8 hbox hb; have BK340 := zm (hbox); have GW340 := zm ((by rw [hg]; exact (zyi zq1) : w.heap.size ≤ gb340)); replace HB := zm (zyh zq1 hb); have GE340 := GW340; clear hb hbox hg; have hcz9_0 := bz BK340.out 0 (.int .i64 a0_0); have hcz9_1 := bz BK340.out 1 (.int .i64 a0_1); have hcz9_2 := bz BK340.out 2 (.slice A0_2 l0_2.length c0_2); have hfz9_0 := zyF BK340.out 0; have hfz9_1 := zyF BK340.out 1; have hfz9_2 := zyF BK340.out 2) | ((with_reducible refine zyg (f := 50) rfl ?_); refine goesL_ (some 7) rfl rfl Try.func50 (by kernel_rfl) rfl #[.int .i64 a0_0, .int .i64 a0_1] rfl zq0 ?_; (with_reducible refine (impl_isShape.calls a0_0 a0_1 true _ A2.out).mono ?_); rintro e w' ⟨rfl, ⟨nd, rfl⟩⟩; refine ⟨_, rfl, ?_⟩))
  go_ret
  exact ⟨zqE, zq89⟩
 rw [if_pos c4] at H
 have c4b0 : ((l0_2.length : Int) == (wrap64 (a0_0 * a0_1))) = true := beq_iff_eq.mpr c4
 have c4b1 : ((l0_2.length : Int) != (wrap64 (a0_0 * a0_1))) = false := bne_eq_false_iff_eq.mpr c4
 clear c4
 obtain ⟨t342, A50, H⟩ := zob H
 replace H : (some t342) = some r := H
 have A5 := zm A50
 clear A50
 obtain rfl := Option.some.inj H
 go_enter Try.func31, Try.ntmps31
 go_wp2_with (first | ((with_reducible refine gate_dst (N := 1) rfl ?_); refine box_event ?hg (N := 1) ?hd (cs := #[.int .i64 a0_0, .int .i64 a0_1, .slice A0_2 l0_2.length c0_2]) (t := 26) ?hr ?_; (case hd => rfl); (case hg => rfl); (case hr => exact zqS); intro gb340 hg w6 hbox hb; have BK340 := zm (hbox); have GW340 := zm ((by rw [hg]; exact (zyi zq1) : w.heap.size ≤ gb340)); replace HB := zm (zyh zq1 hb); have GE340 := GW340; clear hb hbox hg; have hcz7_0 := bz BK340.out 0 (.int .i64 a0_0); have hcz7_1 := bz BK340.out 1 (.int .i64 a0_1); have hcz7_2 := bz BK340.out 2 (.slice A0_2 l0_2.length c0_2); have hfz7_0 := zyF BK340.out 0; have hfz7_1 := zyF BK340.out 1; have hfz7_2 := zyF BK340.out 2) | ((with_reducible refine zyg (f := 50) rfl ?_); refine goesL_ (some 7) rfl rfl Try.func50 (by kernel_rfl) rfl #[.int .i64 a0_0, .int .i64 a0_1] rfl zq0 ?_; (with_reducible refine (impl_isShape.calls a0_0 a0_1 true _ A2.out).mono ?_); rintro e w' ⟨rfl, ⟨nd, rfl⟩⟩; refine ⟨_, rfl, ?_⟩) | (go_at_call 51; (with_reducible refine (impl_allWithin.calls k _ _ l0_2 0 9 t342 _ ?side1 ?side2 A5.out).mono ?_); (case side1 => repeat (first | exact (Kd.C_below HR0_2.out zq89) | (with_reducible refine Kd.C_alloc ?_ _) | (with_reducible refine Kd.C_drewN ?_ _) | (with_reducible refine Kd.C_drew ?_))); (case side2 => exact HC0_2.out); rintro e w' ⟨rfl, ⟨nd, rfl⟩⟩))
 go_ret
 exact ⟨zqE, zq89⟩
def slices_Clone_int_int.f (l0 : List Int) : Option (List Int) := if l0.length < 17592186044416 then some l0 else none
set_option maxHeartbeats 4000000 in
theorem slices_Clone_int_int.calls (A0 : Option Addr) (c0 : Nat) (l0 : List Int) (r : List Int) (w : World) (hr0 : Kd.C (Kd.int .i64) w A0 l0.length l0) (hc0 : l0.length ≤ c0) (h : slices_Clone_int_int.f l0 = some r) :
  Calls Try.prog 32 #[.slice A0 l0.length c0] w fun e w' => ∃ v0_ : Value, e = .returned (v0_) ∧ Kd.R (Kd.int .i64) 3 w' w.heap.size (fun _ => True) v0_ r ∧ Below w.heap.size w w' := by
 have q26 : ∀ (w : World) (a : Option Addr) (n c n' c' : Nat), (binOp .eql 24 (.slice a n c) (.slice none n' c')).run Try.prog w = .ok (.bool a.isNone) w := fun w a n c n' c' => Lib.run_eql_slice_nil w _ _ a n c n' c' Try.underlying24
 unfold slices_Clone_int_int.f at h
 by_cases c4 : l0.length < 17592186044416
 case neg =>
  rw [if_neg c4] at h
  cases h
 rw [if_pos c4] at h
 obtain rfl := Option.some.inj h
 clear h
 cases A0 with
 | none =>
  have e0 : l0 = [] := by
   rcases Nat.eq_zero_or_pos l0.length with h0 | h0
   ·
    exact List.length_eq_zero_iff.1 h0
   ·
    obtain ⟨ad, ha, _⟩ := hr0.2.2 h0
    cases ha
  subst e0
  clear hr0 hc0
  go_enter Try.func32, Try.ntmps32
  go_wp2
  go_ret
  exact ⟨_, rfl, Kd.R_nil _ _ _ _ _, Below.refl _ _⟩
 | some ad =>
  have HR0 := zm hr0
  have HC0 := zm hc0
  have LM := zm c4
  clear hr0 hc0 c4
  have HB := zm (Below.refl w.heap.size w)
  go_enter Try.func32, Try.ntmps32
  go_wp2_with (first | ((with_reducible refine gate_dst (N := 5) rfl ?_); refine Kd.R_lit (Kd.int .i64) _ 3 ?hg (N := 5) ?hd (xs := ([] : List Int)) (inner := []) (ok := fun _ => True) (okp := fun _ => True) ?hr ?hp (fun _ hk => hk) trivial HB.out (Nat.le_refl _) (by simp) ?_; (case hd => rfl); (case hg => rfl); (case hr => exact zqS); (case hp => exact (Reps.none _ _)); intro v5 w5 ho5 hb5 hg5 hn5; have HO := zm ho5; have HB5 := zm hb5; clear ho5 hb5 hg5 hn5) | ((with_reducible refine gate_builtin (b := .append) (xs := #[.tmp 5, .tmp 6]) rfl ?_); at_builtin; refine Kd.R_append_rows (Kd.int .i64) (w0 := w) w.heap.size rfl (.tmp 5) (.tmp 6) 24 3 (.int .i64 0) 8 rfl Try.underlying24 info3 rfl (by decide) (by omega) v5 ([] : List Int) l0 _ _ _ (fun _ => True) (fun _ => False) rfl rfl (zqR HO.out) (by (with_reducible repeat (first | refine Kd.C_alloc ?_ _ | refine Kd.C_drewN ?_ _ | refine Kd.C_drew ?_)); exact (Kd.C_below HR0.out HB5.out)) (fun _ _ h => h) (fun _ h => h.elim) (fun _ _ => trivial) (by repeat (first | (with_reducible first | exact HB5.out | apply zya | apply zyp | apply zyr) | exact HB5.out)) (zyi (by repeat (first | (with_reducible first | exact HB5.out | apply zya | apply zyp | apply zyr) | exact HB5.out))) (by have := LM.out; simp only [List.length_nil]; omega) ?_; intro v7 w7 ho7 hb7 hg7 hat7; rw [List.nil_append] at ho7; have HO7 := zm ho7; have HB7 := zm hb7; clear ho7 hb7 hg7 hat7))
  go_ret
  exact ⟨_, rfl, zqR HO7.out, (by repeat (first | (with_reducible first | exact HB7.out | apply zya | apply zyp | apply zyr) | exact HB7.out))⟩
theorem compactLe (l : List Int) : (Lib.compact l).length ≤ l.length := by
 unfold Lib.compact Lib.compactUpTo
 rw [List.length_map]
 refine Nat.le_trans (List.length_filter_le _ _) ?_
 rw [List.length_range]
 simp
theorem sortI.calls (P0_ : Nat → Prop) (u : Value) (l0 : List Int) (w0 w : World) (hB : Below w0.heap.size w0 w) (ho0 : Kd.R (Kd.int .i64) 3 w w0.heap.size P0_ u l0) (h0 : 0 < l0.length) (hs : l0.length < 4611686018427387904) :
  Calls Try.prog 33 #[u] w fun e w' => e = .returned (.tuple #[]) ∧ Kd.R (Kd.int .i64) 3 w' w0.heap.size P0_ u (l0.mergeSort fun x y => decide (x ≤ y)) ∧ Below w0.heap.size w0 w' := by
 have hok := ho0.1
 have ho := Kd.own_of_R ho0
 obtain ⟨hlen, hor⟩ := ho
 rcases hor with ⟨rfl, hn⟩ | ⟨g, cap, cur, rfl, hg, hh, hncap, hcap, hcs, htk⟩
 ·
  omega
 rw [Nat.mul_one] at htk
 refine (Try.slices_Sort_int g 0 cap l0 w (Go.holds_of_blockI hh htk) (blk_lt hh) hs).mono ?_
 rintro e w' ⟨rfl, n, os, rfl⟩
 have hl : (l0.mergeSort fun x y => decide (x ≤ y)).length = l0.length := List.length_mergeSort _
 refine ⟨rfl, Kd.R_of_own ?_ hok, hB.grown (Go.grownBy_sortedI _) hB.size (fun k hk => by cases hk; exact hg)⟩
 rw [hl]
 exact Go.ownsRow_sortedI hl hg hh hncap hcap hcs
theorem compactI.calls (P0_ : Nat → Prop) (u : Value) (l0 : List Int) (w0 w : World) (hB : Below w0.heap.size w0 w) (ho0 : Kd.R (Kd.int .i64) 3 w w0.heap.size P0_ u l0) (h0 : 0 < l0.length) :
  Calls Try.prog 34 #[u] w fun e w' => ∃ v0_ : Value, e = .returned v0_ ∧ Kd.R (Kd.int .i64) 3 w' w0.heap.size P0_ v0_ (Lib.compact l0) ∧ Below w0.heap.size w0 w' := by
 have hok := ho0.1
 have ho := Kd.own_of_R ho0
 obtain ⟨hlen, hor⟩ := ho
 rcases hor with ⟨rfl, hn⟩ | ⟨g, cap, cur, rfl, hg, hh, hncap, hcap, hcs, htk⟩
 ·
  omega
 rw [Nat.mul_one] at htk
 have hm : cap ≤ 9223372036854775807 := by simpa [maxLen] using hcap
 refine (Try.slices_Compact_int g 0 cap l0 w (Go.holds_of_blockI hh htk) (by omega) hncap).mono ?_
 rintro e w' ⟨rfl, q, rfl⟩
 have hle : (Lib.compact l0).length ≤ l0.length := compactLe l0
 have hl : (Lib.compact l0 ++ List.replicate (l0.length - (Lib.compact l0).length) (0 : Int)).length = l0.length := by rw [List.length_append, List.length_replicate]; omega
 have hR : Kd.R (Kd.int .i64) 3 (Go.Sort.putRow (Value.int .i64) (Go.Sort.ahead w q) g 0 (Lib.compact l0 ++ List.replicate (l0.length - (Lib.compact l0).length) (0 : Int)).toArray) w0.heap.size P0_ (.slice (some ⟨g, 0, none⟩) l0.length cap) (Lib.compact l0 ++ List.replicate (l0.length - (Lib.compact l0).length) (0 : Int)) := by
  refine Kd.R_of_own ?_ hok
  rw [hl]
  have := Go.ownsRow_sortedI (n := q) (os := #[]) hl hg hh hncap hcap hcs
  rwa [Go.Sort.grow_empty] at this
 refine ⟨_, rfl, ?_, ?_⟩
 ·
  have := Kd.R_take hR (m := (Lib.compact l0).length) (by rw [hl]; exact hle)
  rwa [List.take_left] at this
 ·
  have h2 := Go.grownBy_sortedI (w := w) (g := g) (n := q) (os := #[]) (Lib.compact l0 ++ List.replicate (l0.length - (Lib.compact l0).length) (0 : Int)).toArray
  rw [Go.Sort.grow_empty] at h2
  exact hB.grown h2 hB.size (fun k hk => by cases hk; exact hg)
theorem impl_AreasOf.pred : ∀ (W : World) (x : Int), Calls Try.prog 35 (#[.int .i64 x] ++ #[]) W fun e w' => e = .returned (.bool (x == 0)) ∧ Below W.heap.size W w' := by
 intro W x
 show Calls Try.prog 35 #[.int .i64 x] W _
 go_enter Try.func35, Try.ntmps35
 go_wp2
 go_ret
 exact ⟨rfl, Below.refl _ _⟩
def impl_AreasOf.f (k : Nat) (a0_0 : Int) (a0_1 : Int) (l0_2 : List Int) : Option (List Int × Bool) := (impl_IsValidAreaMap.f k a0_0 a0_1 l0_2).bind fun t => if t = true then (if 0 < l0_2.length ∧ l0_2.length < 17592186044416 then some ((Lib.compact (l0_2.mergeSort fun x y => decide (x ≤ y))).filter (fun x => !(x == 0)), true) else none) else some ([], false)
set_option maxHeartbeats 4000000 in
theorem impl_AreasOf.calls (k : Nat) (a0_0 : Int) (a0_1 : Int) (A0_2 : Option Addr) (c0_2 : Nat) (l0_2 : List Int) (r1 : List Int) (r2 : Bool) (w : World) (hr0_2 : Kd.C (Kd.int .i64) w A0_2 l0_2.length l0_2) (hc0_2 : l0_2.length ≤ c0_2) (h : impl_AreasOf.f k a0_0 a0_1 l0_2 = some (r1, r2)) :
  Calls Try.prog 9 #[.agg #[.int .i64 a0_0, .int .i64 a0_1, .slice A0_2 l0_2.length c0_2]] w fun e w' => ∃ v0_ : Value, e = .returned (.tuple #[v0_, .bool r2]) ∧ Kd.R (Kd.int .i64) 3 w' w.heap.size (fun _ => True) v0_ r1 ∧ Below w.heap.size w w' := by
 have hu := Try.underlying26
 have HR := zm hr0_2
 have HC := zm hc0_2
 have eg : ∀ args w, (callFunc 35 args).run Try.prog w = .ok (.enter 35 args) w := enters_of Try.func35 (by kernel_rfl) rfl
 have EG := zm eg
 clear hr0_2 hc0_2 eg
 unfold impl_AreasOf.f at h
 obtain ⟨t, ht, h⟩ := Option.bind_eq_some_iff.mp h
 have HT := zm ht
 clear ht
 obtain ⟨W1, hW1⟩ : ∃ W1, W1 = w.alloc (.cells #[.int .i64 a0_0, .int .i64 a0_1, .slice A0_2 l0_2.length c0_2] 26) := ⟨_, rfl⟩
 have a1B : Below w.heap.size w W1 := by rw [hW1]; exact (Below.refl _ w).alloc (Nat.le_refl _) _
 have a1N : W1.heap[w.heap.size]? = some (.cells #[.int .i64 a0_0, .int .i64 a0_1, .slice A0_2 l0_2.length c0_2] 26 (0, 0)) := by rw [hW1]; exact heap_alloc_new w _
 have HW := zm hW1
 have HBW := zm a1B
 have HN1 := zm a1N
 clear a1B a1N hW1
 cases t with
 | false =>
  rw [if_neg (by simp)] at h
  injection h with h
  injection h with h1 h2
  subst h1 h2
  go_enter Try.func9, Try.ntmps9
  go_wp2_with (go_at_call 31; rw [← HW.out]; refine (impl_IsValidAreaMap.calls k a0_0 a0_1 A0_2 c0_2 l0_2 false _ (Kd.C_below HR.out HBW.out) HC.out HT.out).mono ?_; rintro e w1 ⟨rfl, hb⟩)
  go_ret2
  exact ⟨_, rfl, Kd.R_nil _ _ _ _ _, zyh HBW.out hb⟩
 | true =>
  rw [if_pos rfl] at h
  split at h
  ·
   rename_i hlen
   injection h with h
   injection h with h1 h2
   subst h1 h2
   have HL := zm hlen
   clear hlen
   go_enter Try.func9, Try.ntmps9
   go_wp2_with fail
   rw [← HW.out]
   refine (impl_IsValidAreaMap.calls k a0_0 a0_1 A0_2 c0_2 l0_2 true _ (Kd.C_below HR.out HBW.out) HC.out HT.out).mono ?_
   rintro e w1 ⟨rfl, hb⟩
   have HB1 := zm (zyh HBW.out hb)
   have hc2 : w1.cell? ⟨w.heap.size, 2, none⟩ = some (.slice A0_2 l0_2.length c0_2) := zyk (zyb HN1.out hb) 2
   clear hb
   go_wp2_with fail
   refine (slices_Clone_int_int.calls A0_2 c0_2 l0_2 l0_2 w1 (Kd.C_below HR.out HB1.out) HC.out (if_pos HL.out.2)).mono ?_
   rintro e w2 ⟨v2, rfl, ho2, hb2⟩
   have HO2 := zm (Kd.R_lower ho2 HB1.out.size)
   have HB2 := zm (zyh HB1.out hb2)
   clear ho2 hb2
   go_wp2_with fail
   refine (sortI.calls (fun _ => True) v2 l0_2 w w2 HB2.out HO2.out HL.out.1 (by have := HL.out.2; omega)).mono ?_
   rintro e w3 ⟨rfl, ho3, hb3⟩
   have HO3 := zm ho3
   have HB3 := zm hb3
   clear ho3 hb3
   go_wp2_with fail
   refine (compactI.calls (fun _ => True) v2 (l0_2.mergeSort fun x y => decide (x ≤ y)) w w3 HB3.out HO3.out (by rw [List.length_mergeSort]; exact HL.out.1)).mono ?_
   rintro e w4 ⟨v4, rfl, ho4, hb4⟩
   have HO4 := zm ho4
   have HB4 := zm hb4
   clear ho4 hb4
   go_wp2_with fail
   refine (DeleteFuncI.calls 35 #[] (fun x => x == 0) EG.out (fun _ => True) v4 (Lib.compact (l0_2.mergeSort fun x y => decide (x ≤ y))) w w4 HB4.out HO4.out (fun W x _ _ _ => impl_AreasOf.pred W x)).mono ?_
   rintro e w5 ⟨v5, rfl, ho5, hb5, _⟩
   go_wp2
   go_ret2
   exact ⟨_, rfl, ho5, hb5⟩
  ·
   cases h
theorem ContainsFuncI.calls (g : Nat) (lb : Array Value) (p : Int → Bool) (eg : ∀ args w, (callFunc g args).run Try.prog w = .ok (.enter g args) w)
  (A0 : Option Addr) (n0 c0 : Nat) (l0 : List Int) (w : World) (hn : n0 = l0.length) (hr0 : Kd.C (Kd.int .i64) w A0 l0.length l0) (hc0 : l0.length ≤ c0)
  (hp : ∀ (W : World) (x : Int), x ∈ l0 → Below w.heap.size w W → Calls Try.prog g (#[.int .i64 x] ++ lb) W fun e w' => e = .returned (.bool (p x)) ∧ Below W.heap.size W w') :
  Calls Try.prog 54 #[.slice A0 n0 c0, .func (.func g) #[] lb] w fun e w' => e = .returned (.bool (l0.any p)) ∧ Below w.heap.size w w' := by
 subst hn
 rw [← Gen.fIdx_nonneg p l0]
 have HC := zm (IndexFuncI.calls g lb p eg A0 _ c0 l0 w rfl hr0 hc0 hp)
 clear hr0 hp hc0
 go_enter Try.func54, Try.ntmps54
 go_wp2_with (go_at_call 47; refine HC.out.mono ?_; rintro e w' ⟨rfl, hb'⟩)
 go_ret
 exact ⟨rfl, hb'⟩
def impl_isCell.f (a0 : Int) : Option (Bool) := if a0 = (-9999) then (some true) else ((impl_within.f a0 (-9000) 9000).bind fun t343 => (some t343))
set_option maxHeartbeats 8000000 in
set_option maxRecDepth 100000 in
theorem impl_isCell.calls (a0 : Int) (r : Bool) (w : World) (h : impl_isCell.f a0 = some r) :
  Calls Try.prog 60 #[.int .i64 a0] w fun e w' => e = .returned (.bool r) ∧ Drawn0 w w' := by
 have H : (if a0 = (-9999) then (some true) else ((impl_within.f a0 (-9000) 9000).bind fun t343 => (some t343))) = some r := h
 clear h
 by_cases c2 : a0 = (-9999)
 case pos =>
  rw [if_pos c2] at H
  have c2b0 : (a0 == (-9999)) = true := beq_iff_eq.mpr c2
  have c2b1 : (a0 != (-9999)) = false := bne_eq_false_iff_eq.mpr c2
  clear c2
  obtain rfl := Option.some.inj H
  go_enter Try.func60, Try.ntmps60
  go_wp2
  go_ret
  exact ⟨by first | rfl | (simp; done) | (simp [*]; done), zq28⟩
 rw [if_neg c2] at H
 have c2b0 : (a0 == (-9999)) = false := beq_eq_false_iff_ne.mpr c2
 have c2b1 : (a0 != (-9999)) = true := bne_iff_ne.mpr c2
 obtain ⟨t343, A30, H⟩ := zob H
 replace H : (some t343) = some r := H
 have A3 := zm A30
 clear A30
 obtain rfl := Option.some.inj H
 go_enter Try.func60, Try.ntmps60
 go_wp2_with (first | (go_at_call 22; (with_reducible refine (impl_within.calls a0 (-9000) 9000 t343 _ A3.out).mono ?_); rintro e w' ⟨rfl, ⟨nd, rfl⟩⟩))
 go_ret
 exact ⟨by first | rfl | (simp; done) | (simp [*]; done), zq28⟩
def cellB (n : Int) : Bool := decide (n = -9999) || decide (-9000 ≤ n ∧ n ≤ 9000)
theorem isCell_f (n : Int) : impl_isCell.f n = some (cellB n) := by
 unfold impl_isCell.f cellB
 by_cases h : n = -9999
 ·
  rw [if_pos h, decide_eq_true h]; rfl
 ·
  rw [if_neg h, decide_eq_false h, within_f]; rfl
theorem impl_IsValidField.pred : ∀ (W : World) (x : Int), Calls Try.prog 59 (#[.int .i64 x] ++ #[]) W fun e w' => e = .returned (.bool (!cellB x)) ∧ Below W.heap.size W w' := by
 intro W x
 have HF := zm (isCell_f x)
 show Calls Try.prog 59 #[.int .i64 x] W _
 go_enter Try.func59, Try.ntmps59
 go_wp2_with (go_at_call 60; refine (impl_isCell.calls x (cellB x) _ HF.out).mono ?_; rintro e w' ⟨rfl, hb⟩; replace hb := hb.below)
 go_ret
 exact ⟨rfl, hb⟩
def impl_IsValidField.f (a0_0 : Int) (a0_1 : Int) (l0_2 : List Int) : Option Bool := (impl_within.f a0_0 1 8).bind fun t => (if t = true then ((impl_within.f a0_1 1 8).bind fun u => (if u = true then (if (l0_2.length : Int) = (wrap64 (a0_0 * a0_1)) then some (!(l0_2.any fun x => !cellB x)) else some false) else some false)) else some false)
set_option maxHeartbeats 4000000 in
theorem impl_IsValidField.calls (a0_0 : Int) (a0_1 : Int) (A0_2 : Option Addr) (c0_2 : Nat) (l0_2 : List Int) (r : Bool) (w : World) (hr0_2 : Kd.C (Kd.int .i64) w A0_2 l0_2.length l0_2) (hc0_2 : l0_2.length ≤ c0_2) (h : impl_IsValidField.f a0_0 a0_1 l0_2 = some r) :
  Calls Try.prog 46 #[.agg #[.int .i64 a0_0, .int .i64 a0_1, .slice A0_2 l0_2.length c0_2]] w fun e w' => e = .returned (.bool r) ∧ Below w.heap.size w w' := by
 have hu := Try.underlying27
 have HR := zm hr0_2
 have HC := zm hc0_2
 clear hr0_2 hc0_2
 unfold impl_IsValidField.f at h
 obtain ⟨t, ht, h⟩ := Option.bind_eq_some_iff.mp h
 have HT := zm ht
 clear ht
 have eg : ∀ args w, (callFunc 59 args).run Try.prog w = .ok (.enter 59 args) w := enters_of Try.func59 (by kernel_rfl) rfl
 have EG := zm eg
 clear eg
 cases t with
 | false =>
  rw [if_neg (by decide)] at h
  obtain rfl := Option.some.inj h
  clear h
  go_enter Try.func46, Try.ntmps46
  go_wp2_with (go_at_call 22; refine (impl_within.calls a0_0 1 8 false _ HT.out).mono ?_; rintro e w' ⟨rfl, hb⟩; replace hb := hb.below)
  go_ret
  exact ⟨rfl, ((Below.refl _ w).alloc (Nat.le_refl _) _).trans (hb.mono (by simp))⟩
 | true =>
  rw [if_pos rfl] at h
  obtain ⟨u, hu2, h⟩ := Option.bind_eq_some_iff.mp h
  have HU := zm hu2
  clear hu2
  cases u with
  | false =>
   rw [if_neg (by decide)] at h
   obtain rfl := Option.some.inj h
   clear h
   go_enter Try.func46, Try.ntmps46
   go_wp2_with fail
   refine (impl_within.calls a0_0 1 8 true _ HT.out).mono ?_
   rintro e w' ⟨rfl, m1, rfl⟩
   go_wp2_with fail
   refine (impl_within.calls a0_1 1 8 false _ HU.out).mono ?_
   rintro e w' ⟨rfl, m2, rfl⟩
   go_wp2
   go_ret
   exact ⟨rfl, (by repeat (first | exact Below.refl _ _ | apply zyp | apply zya))⟩
  | true =>
   rw [if_pos rfl] at h
   by_cases c4 : (l0_2.length : Int) = (wrap64 (a0_0 * a0_1))
   case neg =>
    rw [if_neg c4] at h
    have c4b0 : ((l0_2.length : Int) == (wrap64 (a0_0 * a0_1))) = false := beq_eq_false_iff_ne.mpr c4
    obtain rfl := Option.some.inj h
    clear c4 h
    go_enter Try.func46, Try.ntmps46
    go_wp2_with fail
    refine (impl_within.calls a0_0 1 8 true _ HT.out).mono ?_
    rintro e w' ⟨rfl, m1, rfl⟩
    go_wp2_with fail
    refine (impl_within.calls a0_1 1 8 true _ HU.out).mono ?_
    rintro e w' ⟨rfl, m2, rfl⟩
    go_wp2
    go_ret
    exact ⟨rfl, (by repeat (first | exact Below.refl _ _ | apply zyp | apply zya))⟩
   rw [if_pos c4] at h
   have c4b0 : ((l0_2.length : Int) == (wrap64 (a0_0 * a0_1))) = true := beq_iff_eq.mpr c4
   have HH := zm (Option.some.inj h)
   clear c4 h
   go_enter Try.func46, Try.ntmps46
   go_wp2_with fail
   refine (impl_within.calls a0_0 1 8 true _ HT.out).mono ?_
   rintro e w' ⟨rfl, m1, rfl⟩
   go_wp2_with fail
   refine (impl_within.calls a0_1 1 8 true _ HU.out).mono ?_
   rintro e w' ⟨rfl, m2, rfl⟩
   go_wp2_with fail
   refine (ContainsFuncI.calls 59 #[] (fun x => !cellB x) EG.out A0_2 l0_2.length c0_2 l0_2 _ rfl ?hr1 HC.out (fun W x _ _ => impl_IsValidField.pred W x)).mono ?_
   case hr1 => repeat (first | exact HR.out | apply Kd.C_drewN | apply Kd.C_alloc)
   rintro e w' ⟨rfl, hb'⟩
   generalize hq : (l0_2.any fun x => !cellB x) = q at *
   go_wp2
   go_ret
   refine ⟨by show Ending.returned (Value.bool (!q)) = _; rw [← HH.out], Below.trans ?_ (hb'.mono ?_)⟩
   ·
    repeat (first | exact Below.refl _ _ | apply zyp | apply zya)
   ·
    simp
def impl_fitsMap.f (a0_0 : Int) (a0_1 : Int) (l0_2 : List Int) (a1_0 : Int) (a1_1 : Int) (l1_2 : List Int) : Option (Bool) := (impl_IsValidField.f a1_0 a1_1 l1_2).bind fun t346 => (if t346 = true then (if a1_0 = a0_0 then (some (a1_1 == a0_1)) else (some false)) else (some false))
set_option maxHeartbeats 8000000 in
set_option maxRecDepth 100000 in
theorem impl_fitsMap.calls (a0_0 : Int) (a0_1 : Int) (A0_2 : Option Addr) (c0_2 : Nat) (l0_2 : List Int) (a1_0 : Int) (a1_1 : Int) (A1_2 : Option Addr) (c1_2 : Nat) (l1_2 : List Int) (r : Bool) (w : World) (hr0_2 : Kd.C (Kd.int .i64) w A0_2 l0_2.length l0_2) (hc0_2 : l0_2.length ≤ c0_2) (hr1_2 : Kd.C (Kd.int .i64) w A1_2 l1_2.length l1_2) (hc1_2 : l1_2.length ≤ c1_2) (h : impl_fitsMap.f a0_0 a0_1 l0_2 a1_0 a1_1 l1_2 = some r) :
  Calls Try.prog 21 #[.agg #[.int .i64 a0_0, .int .i64 a0_1, .slice A0_2 l0_2.length c0_2], .agg #[.int .i64 a1_0, .int .i64 a1_1, .slice A1_2 l1_2.length c1_2]] w fun e w' => e = .returned (.bool r) ∧ Below w.heap.size w w' := by
 have hu26 := Try.underlying26
 have hu27 := Try.underlying27
 have HR0_2 := zm hr0_2
 have HC0_2 := zm hc0_2
 clear hr0_2 hc0_2
 have HR1_2 := zm hr1_2
 have HC1_2 := zm hc1_2
 clear hr1_2 hc1_2
 have HB := zm (Below.refl w.heap.size w)
 have H : ((impl_IsValidField.f a1_0 a1_1 l1_2).bind fun t346 => (if t346 = true then (if a1_0 = a0_0 then (some (a1_1 == a0_1)) else (some false)) else (some false))) = some r := h
 clear h
 obtain ⟨t346, A30, H⟩ := zob H
 replace H : (if t346 = true then (if a1_0 = a0_0 then (some (a1_1 == a0_1)) else (some false)) else (some false)) = some r := H
 have A3 := zm A30
 clear A30
 by_cases c4 : t346 = true
 case neg =>
  replace c4 := Bool.eq_false_iff.mpr c4
  subst c4
  have H1 : (some false) = some r := by rw [if_neg (show ¬ (false = true) by decide)] at H; exact H
  clear H
  have H := H1
  clear H1
  obtain rfl := Option.some.inj H
  go_enter Try.func21, Try.ntmps21
  go_wp2_with (first | ((with_reducible refine gate_dst (N := 2) rfl ?_); refine box_event ?hg (N := 2) ?hd (cs := #[.int .i64 a0_0, .int .i64 a0_1, .slice A0_2 l0_2.length c0_2]) (t := 26) ?hr ?_; (case hd => rfl); (case hg => rfl); (case hr => exact zqS); intro gb344 hg w20 hbox hb; have BK344 := zm (hbox); have GW344 := zm ((by rw [hg]; exact (zyi zq1) : w.heap.size ≤ gb344)); replace HB := zm (zyh zq1 hb); have GE344 := GW344; clear hb hbox hg) | ((with_reducible refine gate_dst (N := 3) rfl ?_); refine box_event ?hg (N := 3) ?hd (cs := #[.int .i64 a1_0, .int .i64 a1_1, .slice A1_2 l1_2.length c1_2]) (t := 27) ?hr ?_; (case hd => rfl); (case hg => rfl); (case hr => exact zqS); intro gb345 hg w21 hbox hb; have BK345 := zm (hbox); have GW345 := zm ((by rw [hg]; exact (zyi zq47) : w.heap.size ≤ gb345)); replace HB := zm (zyh zq47 hb); have GE345 := GW345; have NB344_345 := zm ((by rw [hg]; exact Nat.ne_of_lt (blk_lt (g := gb344) (o := .cells #[.int .i64 a0_0, .int .i64 a0_1, .slice A0_2 l0_2.length c0_2] 26 (0, 0)) (zqK BK344.out)) : gb344 ≠ gb345)); have NB345_344 := zm ((by rw [hg]; exact Nat.ne_of_gt (blk_lt (g := gb344) (o := .cells #[.int .i64 a0_0, .int .i64 a0_1, .slice A0_2 l0_2.length c0_2] 26 (0, 0)) (zqK BK344.out)) : gb345 ≠ gb344)); replace BK344 := zm (zyb (g := gb344) (o := .cells #[.int .i64 a0_0, .int .i64 a0_1, .slice A0_2 l0_2.length c0_2] 26 (0, 0)) (zqK BK344.out) hb); clear hb hbox hg; have hnb22 := NB345_344.out; have hnc22 := NB344_345.out; have hcz23_0 := bz BK345.out 0 (.int .i64 a1_0); have hcz23_1 := bz BK345.out 1 (.int .i64 a1_1); have hcz23_2 := bz BK345.out 2 (.slice A1_2 l1_2.length c1_2); have hfz23_0 := zyF BK345.out 0; have hfz23_1 := zyF BK345.out 1; have hfz23_2 := zyF BK345.out 2) | ((with_reducible refine zyg (f := 46) rfl ?_); refine goesL_ (some 6) rfl rfl Try.func46 (by kernel_rfl) rfl #[.agg #[.int .i64 a1_0, .int .i64 a1_1, .slice A1_2 l1_2.length c1_2]] rfl zq0 ?_; (with_reducible refine (impl_IsValidField.calls a1_0 a1_1 _ _ l1_2 false _ ?side1 ?side2 A3.out).mono ?_); (case side1 => exact zqC (Kd.C_below HR1_2.out HB.out)); (case side2 => exact HC1_2.out); rintro e w24 ⟨rfl, hb⟩; refine ⟨_, rfl, ?_⟩; replace BK344 := zm (zyb (g := gb344) (o := .cells #[.int .i64 a0_0, .int .i64 a0_1, .slice A0_2 l0_2.length c0_2] 26 (0, 0)) (zqK BK344.out) hb); replace BK345 := zm (zyb (g := gb345) (o := .cells #[.int .i64 a1_0, .int .i64 a1_1, .slice A1_2 l1_2.length c1_2] 27 (0, 0)) (zqK BK345.out) hb); replace HB := zm (zyh zq54 hb); (try clear hb); (try clear hb2); (try clear hk); (try clear hi)))
  go_ret
  exact ⟨zqE, zq54⟩
 subst c4
 have H1 : (if a1_0 = a0_0 then (some (a1_1 == a0_1)) else (some false)) = some r := by rw [if_pos rfl] at H; exact H
 clear H
 have H := H1
 clear H1
 by_cases c5 : a1_0 = a0_0
 case neg =>
  rw [if_neg c5] at H
  have c5b0 : (a1_0 == a0_0) = false := beq_eq_false_iff_ne.mpr c5
  have c5b1 : (a1_0 != a0_0) = true := bne_iff_ne.mpr c5
  obtain rfl := Option.some.inj H
  go_enter Try.func21, Try.ntmps21
  go_wp2_with (first | ((with_reducible refine gate_dst (N := 2) rfl ?_); refine box_event ?hg (N := 2) ?hd (cs := #[.int .i64 a0_0, .int .i64 a0_1, .slice A0_2 l0_2.length c0_2]) (t := 26) ?hr ?_; (case hd => rfl); (case hg => rfl); (case hr => exact zqS); intro gb344 hg w13 hbox hb; have BK344 := zm (hbox); have GW344 := zm ((by rw [hg]; exact (zyi zq1) : w.heap.size ≤ gb344)); replace HB := zm (zyh zq1 hb); have GE344 := GW344; clear hb hbox hg) | ((with_reducible refine gate_dst (N := 3) rfl ?_); refine box_event ?hg (N := 3) ?hd (cs := #[.int .i64 a1_0, .int .i64 a1_1, .slice A1_2 l1_2.length c1_2]) (t := 27) ?hr ?_; (case hd => rfl); (case hg => rfl); (case hr => exact zqS); intro gb345 hg w14 hbox hb; have BK345 := zm (hbox); have GW345 := zm ((by rw [hg]; exact (zyi zq47) : w.heap.size ≤ gb345)); replace HB := zm (zyh zq47 hb); have GE345 := GW345; have NB344_345 := zm ((by rw [hg]; exact Nat.ne_of_lt (blk_lt (g := gb344) (o := .cells #[.int .i64 a0_0, .int .i64 a0_1, .slice A0_2 l0_2.length c0_2] 26 (0, 0)) (zqK BK344.out)) : gb344 ≠ gb345)); have NB345_344 := zm ((by rw [hg]; exact Nat.ne_of_gt (blk_lt (g := gb344) (o := .cells #[.int .i64 a0_0, .int .i64 a0_1, .slice A0_2 l0_2.length c0_2] 26 (0, 0)) (zqK BK344.out)) : gb345 ≠ gb344)); replace BK344 := zm (zyb (g := gb344) (o := .cells #[.int .i64 a0_0, .int .i64 a0_1, .slice A0_2 l0_2.length c0_2] 26 (0, 0)) (zqK BK344.out) hb); clear hb hbox hg; have hnb15 := NB345_344.out; have hnc15 := NB344_345.out; have hcz16_0 := bz BK345.out 0 (.int .i64 a1_0); have hcz16_1 := bz BK345.out 1 (.int .i64 a1_1); have hcz16_2 := bz BK345.out 2 (.slice A1_2 l1_2.length c1_2); have hfz16_0 := zyF BK345.out 0; have hfz16_1 := zyF BK345.out 1; have hfz16_2 := zyF BK345.out 2) | ((with_reducible refine zyg (f := 46) rfl ?_); refine goesL_ (some 6) rfl rfl Try.func46 (by kernel_rfl) rfl #[.agg #[.int .i64 a1_0, .int .i64 a1_1, .slice A1_2 l1_2.length c1_2]] rfl zq0 ?_; (with_reducible refine (impl_IsValidField.calls a1_0 a1_1 _ _ l1_2 true _ ?side1 ?side2 A3.out).mono ?_); (case side1 => exact zqC (Kd.C_below HR1_2.out HB.out)); (case side2 => exact HC1_2.out); rintro e w17 ⟨rfl, hb⟩; refine ⟨_, rfl, ?_⟩; replace BK344 := zm (zyb (g := gb344) (o := .cells #[.int .i64 a0_0, .int .i64 a0_1, .slice A0_2 l0_2.length c0_2] 26 (0, 0)) (zqK BK344.out) hb); replace BK345 := zm (zyb (g := gb345) (o := .cells #[.int .i64 a1_0, .int .i64 a1_1, .slice A1_2 l1_2.length c1_2] 27 (0, 0)) (zqK BK345.out) hb); replace HB := zm (zyh zq54 hb); (try clear hb); (try clear hb2); (try clear hk); (try clear hi); have hcz18_0 := bz BK345.out 0 (.int .i64 a1_0); have hcz18_1 := bz BK345.out 1 (.int .i64 a1_1); have hcz18_2 := bz BK345.out 2 (.slice A1_2 l1_2.length c1_2); have hfz18_0 := zyF BK345.out 0; have hfz18_1 := zyF BK345.out 1; have hfz18_2 := zyF BK345.out 2; have hcz19_0 := bz BK344.out 0 (.int .i64 a0_0); have hcz19_1 := bz BK344.out 1 (.int .i64 a0_1); have hcz19_2 := bz BK344.out 2 (.slice A0_2 l0_2.length c0_2); have hfz19_0 := zyF BK344.out 0; have hfz19_1 := zyF BK344.out 1; have hfz19_2 := zyF BK344.out 2))
  go_ret
  exact ⟨zqE, zq54⟩
 rw [if_pos c5] at H
 have c5b0 : (a1_0 == a0_0) = true := beq_iff_eq.mpr c5
 have c5b1 : (a1_0 != a0_0) = false := bne_eq_false_iff_eq.mpr c5
 clear c5
 obtain rfl := Option.some.inj H
 go_enter Try.func21, Try.ntmps21
 go_wp2_with (first | ((with_reducible refine gate_dst (N := 2) rfl ?_); refine box_event ?hg (N := 2) ?hd (cs := #[.int .i64 a0_0, .int .i64 a0_1, .slice A0_2 l0_2.length c0_2]) (t := 26) ?hr ?_; (case hd => rfl); (case hg => rfl); (case hr => exact zqS); intro gb344 hg w6 hbox hb; have BK344 := zm (hbox); have GW344 := zm ((by rw [hg]; exact (zyi zq1) : w.heap.size ≤ gb344)); replace HB := zm (zyh zq1 hb); have GE344 := GW344; clear hb hbox hg) | ((with_reducible refine gate_dst (N := 3) rfl ?_); refine box_event ?hg (N := 3) ?hd (cs := #[.int .i64 a1_0, .int .i64 a1_1, .slice A1_2 l1_2.length c1_2]) (t := 27) ?hr ?_; (case hd => rfl); (case hg => rfl); (case hr => exact zqS); intro gb345 hg w7 hbox hb; have BK345 := zm (hbox); have GW345 := zm ((by rw [hg]; exact (zyi zq47) : w.heap.size ≤ gb345)); replace HB := zm (zyh zq47 hb); have GE345 := GW345; have NB344_345 := zm ((by rw [hg]; exact Nat.ne_of_lt (blk_lt (g := gb344) (o := .cells #[.int .i64 a0_0, .int .i64 a0_1, .slice A0_2 l0_2.length c0_2] 26 (0, 0)) (zqK BK344.out)) : gb344 ≠ gb345)); have NB345_344 := zm ((by rw [hg]; exact Nat.ne_of_gt (blk_lt (g := gb344) (o := .cells #[.int .i64 a0_0, .int .i64 a0_1, .slice A0_2 l0_2.length c0_2] 26 (0, 0)) (zqK BK344.out)) : gb345 ≠ gb344)); replace BK344 := zm (zyb (g := gb344) (o := .cells #[.int .i64 a0_0, .int .i64 a0_1, .slice A0_2 l0_2.length c0_2] 26 (0, 0)) (zqK BK344.out) hb); clear hb hbox hg; have hnb8 := NB345_344.out; have hnc8 := NB344_345.out; have hcz9_0 := bz BK345.out 0 (.int .i64 a1_0); have hcz9_1 := bz BK345.out 1 (.int .i64 a1_1); have hcz9_2 := bz BK345.out 2 (.slice A1_2 l1_2.length c1_2); have hfz9_0 := zyF BK345.out 0; have hfz9_1 := zyF BK345.out 1; have hfz9_2 := zyF BK345.out 2) | ((with_reducible refine zyg (f := 46) rfl ?_); refine goesL_ (some 6) rfl rfl Try.func46 (by kernel_rfl) rfl #[.agg #[.int .i64 a1_0, .int .i64 a1_1, .slice A1_2 l1_2.length c1_2]] rfl zq0 ?_; (with_reducible refine (impl_IsValidField.calls a1_0 a1_1 _ _ l1_2 true _ ?side1 ?side2 A3.out).mono ?_); (case side1 => exact zqC (Kd.C_below HR1_2.out HB.out)); (case side2 => exact HC1_2.out); rintro e w10 ⟨rfl, hb⟩; refine ⟨_, rfl, ?_⟩; replace BK344 := zm (zyb (g := gb344) (o := .cells #[.int .i64 a0_0, .int .i64 a0_1, .slice A0_2 l0_2.length c0_2] 26 (0, 0)) (zqK BK344.out) hb); replace BK345 := zm (zyb (g := gb345) (o := .cells #[.int .i64 a1_0, .int .i64 a1_1, .slice A1_2 l1_2.length c1_2] 27 (0, 0)) (zqK BK345.out) hb); replace HB := zm (zyh zq54 hb); (try clear hb); (try clear hb2); (try clear hk); (try clear hi); have hcz11_0 := bz BK345.out 0 (.int .i64 a1_0); have hcz11_1 := bz BK345.out 1 (.int .i64 a1_1); have hcz11_2 := bz BK345.out 2 (.slice A1_2 l1_2.length c1_2); have hfz11_0 := zyF BK345.out 0; have hfz11_1 := zyF BK345.out 1; have hfz11_2 := zyF BK345.out 2; have hcz12_0 := bz BK344.out 0 (.int .i64 a0_0); have hcz12_1 := bz BK344.out 1 (.int .i64 a0_1); have hcz12_2 := bz BK344.out 2 (.slice A0_2 l0_2.length c0_2); have hfz12_0 := zyF BK344.out 0; have hfz12_1 := zyF BK344.out 1; have hfz12_2 := zyF BK344.out 2))
 go_ret
 exact ⟨zqE, zq54⟩
def impl_cellsOf.l0 : Nat → Int → List Int → List Int → Int → Int → Option (List Int)
 | 0, _, _, _, _, _ => none
 | k + 1, x1, x5, x9, x10, x11 => if x11 < x10 then (if 0 ≤ x11 then (if x11 < (x9.length : Int) then (if (rd x9 x11) = x1 then (if x5.length < 17592186044416 then (impl_cellsOf.l0 k x1 (x5 ++ [x11]) x9 x10 (wrap64 (x11 + 1))) else (none)) else (impl_cellsOf.l0 k x1 x5 x9 x10 (wrap64 (x11 + 1)))) else (none)) else (none)) else (some x5)
def impl_cellsOf.f (k : Nat) (a0_0 : Int) (a0_1 : Int) (l0_2 : List Int) (a1 : Int) : Option (List Int) := impl_cellsOf.l0 k a1 ([] : List Int) l0_2 (l0_2.length : Int) 0
theorem impl_cellsOf.mono_l : ∀ k, (∀ y0 y1 y2 y3 y4, LeO (impl_cellsOf.l0 k y0 y1 y2 y3 y4) (impl_cellsOf.l0 (k + 1) y0 y1 y2 y3 y4))
 | 0 => fun _ _ _ _ _ r h => by simp [impl_cellsOf.l0] at h
 | k + 1 => by
  have ih0 := impl_cellsOf.mono_l k
  ·
   intro y0 y1 y2 y3 y4
   unfold impl_cellsOf.l0
   repeat' first
   | (with_reducible exact ih0 _ _ _ _ _)
   | (with_reducible exact LeO.refl _)
   | (with_reducible exact LeO.none _)
   | (with_reducible refine LeO.ite ?_ ?_)
   | (with_reducible refine LeO.bind ?_ (fun _ => ?_))
   | exact ih0 _ _ _ _ _
   | exact LeO.none _
   | refine LeO.ite ?_ ?_
   | refine LeO.bind ?_ (fun _ => ?_)
theorem impl_cellsOf.mono : ∀ a0 a1 a2 a3 k, LeO (impl_cellsOf.f k a0 a1 a2 a3) (impl_cellsOf.f (k + 1) a0 a1 a2 a3) := by
 intro a0 a1 a2 a3 k
 have ih0 := impl_cellsOf.mono_l k
 unfold impl_cellsOf.f
 repeat' first
   | (with_reducible exact ih0 _ _ _ _ _)
   | (with_reducible exact LeO.refl _)
   | (with_reducible exact LeO.none _)
   | (with_reducible refine LeO.ite ?_ ?_)
   | (with_reducible refine LeO.bind ?_ (fun _ => ?_))
   | exact ih0 _ _ _ _ _
   | exact LeO.none _
   | refine LeO.ite ?_ ?_
   | refine LeO.bind ?_ (fun _ => ?_)
set_option maxHeartbeats 8000000 in
set_option maxRecDepth 100000 in
theorem impl_cellsOf.calls (k : Nat) (a0_0 : Int) (a0_1 : Int) (A0_2 : Option Addr) (c0_2 : Nat) (l0_2 : List Int) (a1 : Int) (r : List Int) (w : World) (hr0_2 : Kd.C (Kd.int .i64) w A0_2 l0_2.length l0_2) (hc0_2 : l0_2.length ≤ c0_2) (h : impl_cellsOf.f k a0_0 a0_1 l0_2 a1 = some r) :
  Calls Try.prog 48 #[.agg #[.int .i64 a0_0, .int .i64 a0_1, .slice A0_2 l0_2.length c0_2], .int .i64 a1] w fun e w' => ∃ v0_ : Value, e = .returned (v0_) ∧ Kd.R (Kd.int .i64) 3 w' w.heap.size (fun _ => True) v0_ r ∧ Below w.heap.size w w' := by
 have hu26 := Try.underlying26
 have HR0_2 := zm hr0_2
 have HC0_2 := zm hc0_2
 clear hr0_2 hc0_2
 have HB := zm (Below.refl w.heap.size w)
 have H : (impl_cellsOf.l0 k a1 ([] : List Int) l0_2 (l0_2.length : Int) 0) = some r := h
 clear h
 have H' := zm H
 clear H
 go_enter Try.func48, Try.ntmps48
 go_wp2_with (first | ((with_reducible refine gate_dst (N := 2) rfl ?_); refine box_event ?hg (N := 2) ?hd (cs := #[.int .i64 a0_0, .int .i64 a0_1, .slice A0_2 l0_2.length c0_2]) (t := 26) ?hr ?_; (case hd => rfl); (case hg => rfl); (case hr => exact zqS); intro gb347 hg w3 hbox hb; have BK347 := zm (hbox); have GW347 := zm ((by rw [hg]; exact (zyi zq1) : w.heap.size ≤ gb347)); replace HB := zm (zyh zq1 hb); have GE347 := GW347; clear hb hbox hg; have hcz4_0 := bz BK347.out 0 (.int .i64 a0_0); have hcz4_1 := bz BK347.out 1 (.int .i64 a0_1); have hcz4_2 := bz BK347.out 2 (.slice A0_2 l0_2.length c0_2); have hfz4_0 := zyF BK347.out 0; have hfz4_1 := zyF BK347.out 1; have hfz4_2 := zyF BK347.out 2))
 go_loopg [5, 11] k (fun kq v5 v11 w' => ∃ (x5_1 : List Int) (x11_1 : Int), v11 = .int .i64 x11_1 ∧ Aside0 (impl_cellsOf.l0 kq a1 x5_1 l0_2 (l0_2.length : Int) x11_1 = some r) ∧ Aside0 (kq ≤ k) ∧ Aside0 (Kd.R (Kd.int .i64) 3 w' w.heap.size (fun _ => True) v5 x5_1) ∧ Aside0 (w'.heap[gb347]? = some (.cells #[.int .i64 a0_0, .int .i64 a0_1, (.slice A0_2 l0_2.length c0_2)] 26 (0, 0))) ∧ Aside0 (Below w.heap.size w w'))
 case atStart => exact ⟨(([] : List Int)), (0), (by first | rfl | (simp; done) | (simp [*]; done)), H', ⟨Nat.le_refl _⟩, ⟨by first | exact Kd.R_nil _ _ _ _ _ | exact Kd.N_nil _ _ _ _ _ | exact Kd.V_nil _ _ _ _ _ | exact Kd.Q_nil _ _ _ _ _ | exact Kd.S_nil _ _ _ _ _⟩, ⟨by (with_reducible repeat (first | apply zN | apply zD | apply zL)); exact BK347.out⟩, ⟨zq60⟩⟩
 clear H'
 try clear p2
 try clear c4
 try clear hcz4_0
 try clear hcz4_1
 try clear hcz4_2
 try clear hfz4_0
 try clear hfz4_1
 try clear hfz4_2
 obtain ⟨x5_1, x11_1, rfl, HA, HK1, HO_5, BK347, HB⟩ := hrel
 cases gk with
 | zero => exact absurd HA.out (by simp [impl_cellsOf.l0])
 | succ k1 =>
  have H := HA.out
  clear HA
  simp only [impl_cellsOf.l0] at H
  by_cases c5 : x11_1 < (l0_2.length : Int)
  case neg =>
   rw [if_neg c5] at H
   have c5b0 : decide (x11_1 < (l0_2.length : Int)) = false := decide_eq_false c5
   clear c5
   obtain rfl := Option.some.inj H
   go_wp2
   go_ret
   exact ⟨_, by first | rfl | (simp [errW_none, errW_some] <;> rfl) | (simp [*, errW_none, errW_some] <;> rfl), zqR HO_5.out, zq60⟩
  rw [if_pos c5] at H
  have c5b0 : decide (x11_1 < (l0_2.length : Int)) = true := decide_eq_true c5
  clear c5
  by_cases c6 : 0 ≤ x11_1
  case neg =>
   rw [if_neg c6] at H
   exact absurd H (by simp)
  rw [if_pos c6] at H
  have c6b0 : decide (0 ≤ x11_1) = true := decide_eq_true c6
  clear c6
  by_cases c7 : x11_1 < (l0_2.length : Int)
  case neg =>
   rw [if_neg c7] at H
   exact absurd H (by simp)
  rw [if_pos c7] at H
  have c7b0 : decide (x11_1 < (l0_2.length : Int)) = true := decide_eq_true c7
  clear c7
  by_cases c8 : (rd l0_2 x11_1) = a1
  case neg =>
   rw [if_neg c8] at H
   have c8b0 : ((rd l0_2 x11_1) == a1) = false := beq_eq_false_iff_ne.mpr c8
   have c8b1 : ((rd l0_2 x11_1) != a1) = true := bne_iff_ne.mpr c8
   have H' := zm H
   clear H
   have p348 : 0 ≤ (x11_1 : Int) := of_decide_eq_true zq6
   have q348 : x11_1 < (l0_2.length : Int) := of_decide_eq_true zq6
   obtain ⟨ad348, e348, hx348_0⟩ := Kd.at_int HR0_2.out x11_1 p348 q348
   cases e348
   replace hx348_0 := bx HB.out hx348_0
   replace p348 := eq_true p348
   replace q348 := eq_true q348
   go_wp2
   go_roundg k1
   case measure => have := HK1.out; omega
   case rel => exact ⟨(x5_1), (wrap64 (x11_1 + 1)), (by first | rfl | (simp; done) | (simp [*]; done)), H', ⟨by have := HK1.out; omega⟩, ⟨zqR HO_5.out⟩, ⟨by (with_reducible repeat (first | apply zN | apply zD | apply zL)); exact BK347.out⟩, ⟨zq60⟩⟩
  rw [if_pos c8] at H
  have c8b0 : ((rd l0_2 x11_1) == a1) = true := beq_iff_eq.mpr c8
  have c8b1 : ((rd l0_2 x11_1) != a1) = false := bne_eq_false_iff_eq.mpr c8
  clear c8
  by_cases c9 : x5_1.length < 17592186044416
  case neg =>
   rw [if_neg c9] at H
   exact absurd H (by simp)
  rw [if_pos c9] at H
  have LMc9 := zm c9
  clear c9
  obtain ⟨y349, hy349⟩ : ∃ y_ : List Int, y_ = (x5_1 ++ [x11_1]) := ⟨_, rfl⟩
  replace H : (impl_cellsOf.l0 k1 a1 y349 l0_2 (l0_2.length : Int) (wrap64 (x11_1 + 1))) = some r := zqH hy349 H
  have Ny349 := zm hy349
  clear hy349
  have H' := zm H
  clear H
  have p348 : 0 ≤ (x11_1 : Int) := of_decide_eq_true zq6
  have q348 : x11_1 < (l0_2.length : Int) := of_decide_eq_true zq6
  obtain ⟨ad348, e348, hx348_0⟩ := Kd.at_int HR0_2.out x11_1 p348 q348
  cases e348
  replace hx348_0 := bx HB.out hx348_0
  replace p348 := eq_true p348
  replace q348 := eq_true q348
  go_wp2_with (first | ((with_reducible refine gate_builtin (b := .append) (xs := #[.tmp 19, .tmp 21]) rfl ?_); at_builtin; refine Kd.R_append (Kd.int .i64) (w0 := w) w.heap.size rfl (.tmp 19) (.tmp 21) 24 3 (.int .i64 0) 8 rfl Try.underlying24 info3 rfl (by decide) (by omega) u5 x5_1 x11_1 [.int .i64 x11_1] (fun _ => True) (fun _ => False) rfl rfl ?aP (fun _ hk => hk.elim) ?aF ?aO ?aB ?aS ?aL ?_; (case aP => exact rfl); (case aB => exact zq60); (case aF => exact (fun _ _ => trivial)); (case aO => exact (zqR HO_5.out)); (case aS => exact (zyi zq60)); (case aL => have := LMc9.out; omega); intro v350 w10 ho hb hg hat; rw [← Ny349.out] at ho; replace BK347 := zm (blk_grown (g := gb347) (o := .cells #[.int .i64 a0_0, .int .i64 a0_1, .slice (some ad348) l0_2.length c0_2] 26 (0, 0)) (zqK BK347.out) hg (Kd.R_ne HO_5.out BK347.out (by decide))); replace HB := zm (hb); have HO351 := zm (ho); clear HO_5; clear ho hb hg hat))
  go_roundg k1
  case measure => have := HK1.out; omega
  case rel => exact ⟨(y349), (wrap64 (x11_1 + 1)), (by first | rfl | (simp; done) | (simp [*]; done)), H', ⟨by have := HK1.out; omega⟩, ⟨zqR HO351.out⟩, ⟨by (with_reducible repeat (first | apply zN | apply zD | apply zL)); exact BK347.out⟩, ⟨zq60⟩⟩
end Go.Proofs.Ytfaihkhdbapjmaa.Q
