/- Texts of this seat, put together: Qf31, Qf28, Qf14, Qf29, Qf15, Qf16. -/
import Derived.Test.YtoaclbbkllpdaaaZFnAreas
import Derived.Test.YtoaclbbkllpdaaaBFnAreas0
import Derived.Test.YtoaclbbkllpdaaaBFnAreas1
import Derived.Test.YtoaclbbkllpdaaaBFnAreas2
import Derived.Test.YtoaclbbkllpdaaaBFnAreas4
namespace Go.Proofs.Ytoaclbbkllpdaaa.Q
open Go.RowKit Go.Proofs.YtoaclbbkllpdaaaW.PrintWords Go.Proofs.YtoaclbbkllpdaaaW.PrintLast Go.Proofs.YtoaclbbkllpdaaaW.PrintMore
attribute [local go_sem] max2_int min2_int max_two min_two max_three min_three max_four min_four   -- for this text's walks alone
set_option linter.unusedVariables false
set_option linter.unusedSimpArgs false

/-! ### slices_DeleteFunc_int_int: function 31 -/
theorem fIdxSpec (p : Int → Bool) (l : List Int) : (Gen.fIdx p l = -1 ∧ ∀ j, j < l.length → p (l.getD j 0) = false) ∨ ∃ k, k < l.length ∧ Gen.fIdx p l = (k : Int) ∧ p (l.getD k 0) = true ∧ ∀ j, j < k → p (l.getD j 0) = false := by
 have key : ∀ n, n ≤ l.length → (∀ j, j < n → p (l.getD j 0) = false) ∨ ∃ k, k < n ∧ p (l.getD k 0) = true ∧ ∀ j, j < k → p (l.getD j 0) = false := by
  intro n
  induction n with
  | zero => exact fun _ => .inl fun j hj => absurd hj (Nat.not_lt_zero _)
  | succ n ih =>
   intro hn
   rcases ih (by omega) with h | ⟨k, hk, h1, h2⟩
   ·
    cases hq : p (l.getD n 0) with
    | true => exact .inr ⟨n, by omega, hq, h⟩
    | false =>
     refine .inl fun j hj => ?_
     by_cases e : j = n
     ·
      rw [e]; exact hq
     ·
      exact h j (by omega)
   ·
    exact .inr ⟨k, by omega, h1, h2⟩
 rcases key l.length (Nat.le_refl _) with h | ⟨k, hk, h1, h2⟩
 ·
  exact .inl ⟨Gen.fIdx_miss p l 0 h, h⟩
 ·
  exact .inr ⟨k, hk, Gen.fIdx_hit p l 0 k hk h1 h2, h1, h2⟩
theorem takeS (l : List Int) (j : Nat) (hj : j < l.length) : l.take (j + 1) = l.take j ++ [l.getD j 0] := by
 rw [List.take_succ_eq_append_getElem hj, Gen.getD_lt l 0 j hj]
theorem setTake (l : List Int) (i : Nat) (x : Int) (hi : i < l.length) : (l.set i x).take (i + 1) = l.take i ++ [x] := by
 rw [List.take_succ_eq_append_getElem (by rw [List.length_set]; exact hi), List.getElem_set_self, List.take_set_of_le (Nat.le_refl _)]
theorem setDrop (l : List Int) (i j : Nat) (x : Int) (hi : i < j) : (l.set i x).drop j = l.drop j := List.drop_set_of_lt hi
theorem dropS {l m : List Int} {j : Nat} (h : l.drop j = m.drop j) : l.drop (j + 1) = m.drop (j + 1) := by
 rw [← List.drop_drop, ← List.drop_drop, h]
theorem dropAt {l m : List Int} {j : Nat} (h : l.drop j = m.drop j) : l.getD j 0 = m.getD j 0 := by
 have := congrArg (fun z => z[0]?) h
 simp only [List.getElem?_drop, Nat.add_zero] at this
 simp only [List.getD_eq_getElem?_getD, this]
theorem filterAll (p : Int → Bool) (l : List Int) (k : Nat) (hk : k ≤ l.length) (h : ∀ j, j < k → p (l.getD j 0) = false) : (l.take k).filter (fun x => !p x) = l.take k := by
 rw [List.filter_eq_self]
 intro x hx
 obtain ⟨t, ht, rfl⟩ := List.getElem_of_mem hx
 have htk : t < k := by rw [List.length_take] at ht; omega
 have := h t htk
 rw [Gen.getD_lt l 0 t (by omega)] at this
 rw [List.getElem_take, this]
 rfl
theorem clearI {e : Nat} {base : Nat} {ok : Nat → Prop} {g n cap : Nat} : ∀ (m i : Nat) (W : World) (dk : List Int), Kd.R (Kd.int .i64) e W base ok (.slice (some ⟨g, 0, none⟩) n cap) dk → ∃ dk' : List Int, dk'.length = dk.length ∧ dk'.take i = dk.take i ∧ Kd.R (Kd.int .i64) e (W.setCells g i (List.replicate m (.int .i64 0))) base ok (.slice (some ⟨g, 0, none⟩) n cap) dk'
 | 0, _, _, dk, h => ⟨dk, rfl, rfl, h⟩
 | m + 1, i, W, dk, h => by
  have h1 := Kd.R_putn h (i : Int) 0
  rw [Int.toNat_natCast] at h1
  obtain ⟨dk', e1, e2, e3⟩ := clearI m (i + 1) _ _ h1
  refine ⟨dk', by rw [e1, List.length_set], ?_, e3⟩
  have := congrArg (List.take i) e2
  rw [List.take_take, List.take_take, Nat.min_eq_left (by omega), List.take_set_of_le (Nat.le_refl _)] at this
  exact this
theorem keptSet {w W : World} {S : Nat → Prop} (h : Kept w W S) {g : Nat} (hg : S g) (i : Nat) (v : Value) : Kept w (W.setCell ⟨g, i, none⟩ v) S :=
 ⟨by rw [show (W.setCell ⟨g, i, none⟩ v).heap.size = W.heap.size by simp [World.setCell]]; exact h.1, fun k hk hn => (Below.heap_setCell W ⟨g, i, none⟩ v k (fun e => hn (by rw [e]; exact hg))).trans (h.2 k hk hn)⟩
theorem keptSets {w : World} {S : Nat → Prop} {g : Nat} (hg : S g) : ∀ (vs : List Value) (i : Nat) (W : World), Kept w W S → Kept w (W.setCells g i vs) S
 | [], _, _, h => h
 | v :: r, i, W, h => keptSets hg r (i + 1) _ (keptSet h hg i v)
theorem belowSets {B g : Nat} {a : World} (hg : B ≤ g) : ∀ (vs : List Value) (i : Nat) (W : World), Below B a W → Below B a (W.setCells g i vs)
 | [], _, _, h => h
 | v :: r, i, W, h => belowSets hg r (i + 1) _ (h.setCell (p := ⟨g, i, none⟩) hg v)
set_option maxHeartbeats 4000000 in
set_option maxRecDepth 1000000 in
/-- slices.DeleteFunc at ints, whatever the predicate that leaves the old memory alone. -/
theorem DeleteFuncI.calls (g : Nat) (lb : Array Value) (p : Int → Bool) (eg : ∀ args w, (callFunc g args).run Try.prog w = .ok (.enter g args) w)
  (P0_ : Nat → Prop) (u : Value) (l0 : List Int) (w0 w : World) (hB : Below w0.heap.size w0 w) (ho0 : Kd.R (Kd.int .i64) 3 w w0.heap.size P0_ u l0)
  (hp : ∀ (W : World) (x : Int), x ∈ l0 → Below w0.heap.size w0 W → Kept w W P0_ → Calls Try.prog g (#[.int .i64 x] ++ lb) W fun e w' => e = .returned (.bool (p x)) ∧ Below W.heap.size W w') :
  Calls Try.prog 31 #[u, .func (.func g) #[] lb] w fun e w' => ∃ v0_ : Value, e = .returned v0_ ∧ Kd.R (Kd.int .i64) 3 w' w0.heap.size P0_ v0_ (l0.filter fun x => !p x) ∧ Below w0.heap.size w0 w' ∧ Kept w w' P0_ := by
 obtain ⟨A, c, e0, hc, hC⟩ := Kd.R_reads ho0
 subst e0
 have hbig : l0.length ≤ 9223372036854775807 := hC.2.1
 have HIF := Aside0.mk (IndexFuncI.calls g lb p eg A _ c l0 w rfl hC hc (fun W x hx hb => hp W x hx (hB.trans (hb.mono hB.size)) (Kept.of_below hb _)))
 have HP := Aside0.mk hp
 have HB := Aside0.mk hB
 have HO := Aside0.mk ho0
 clear hp hB
 rcases fIdxSpec p l0 with ⟨e1, hall⟩ | ⟨k0, hk0, e1, ht, hall⟩
 ·
  rw [e1] at HIF
  have hfil : (l0.filter fun x => !p x) = l0 := by have := filterAll p l0 l0.length (Nat.le_refl _) hall; rwa [List.take_length] at this
  rw [hfil]
  clear hfil hall hC ho0
  go_enter Try.func31, Try.ntmps31
  go_wp2_with (go_at_call 48; refine HIF.out.mono ?_; rintro e w1 ⟨rfl, hb⟩)
  go_ret
  exact ⟨_, rfl, Kd.R_below HO.out hb, HB.out.trans (hb.mono HB.out.size), Kept.of_below hb _⟩
 ·
  obtain ⟨gb, cap, ev, hgb, hlt, cells, hcells⟩ := Kd.R_form ho0 (by omega)
  injection ev with e2 e3 e4
  subst e2 e4
  rw [e1] at HIF
  have hPg : P0_ gb := ho0.1 gb rfl
  have HPG := Aside0.mk hPg
  have HGB := Aside0.mk hgb
  have hne1 : ((k0 : Int) == -1) = false := beq_eq_false_iff_ne.2 (by omega)
  have F0 := Aside0.mk (filterAll p l0 k0 (by omega) hall)
  have HT := Aside0.mk ht
  clear hall hC ho0 ht hgb hlt hcells hPg
  go_enter Try.func31, Try.ntmps31
  go_wp2_with (go_at_call 48; refine HIF.out.mono ?_; rintro e w1 ⟨rfl, hb⟩)
  go_loopg [5, 6, 7] l0.length (fun gg s5 s6 _ wr => ∃ (i j : Nat) (dk : List Int), s5 = .int .i64 i ∧ s6 = .int .i64 j ∧ i < j ∧ j ≤ l0.length ∧ l0.length - j ≤ gg ∧ Aside0 (Below w0.heap.size w0 wr) ∧ Aside0 (Kept w wr P0_) ∧ Aside0 (Kd.R (Kd.int .i64) 3 wr w0.heap.size P0_ (.slice (some ⟨gb, 0, none⟩) l0.length c) dk) ∧ Aside0 (dk.length = l0.length) ∧ Aside0 (dk.take i = (l0.take j).filter fun x => !p x) ∧ Aside0 (dk.drop j = l0.drop j))
  case atStart =>
   exact ⟨k0, k0 + 1, l0, rfl, by go_num, by omega, by omega, by omega, ⟨HB.out.trans (hb.mono HB.out.size)⟩, ⟨Kept.of_below hb _⟩, ⟨Kd.R_below HO.out hb⟩, ⟨rfl⟩, ⟨by rw [takeS l0 k0 hk0, List.filter_append, F0.out, List.filter_cons, HT.out]; simp⟩, ⟨rfl⟩⟩
  case round =>
   obtain ⟨i, j, dk, rfl, rfl, hij, hj, hg, BW, KW, RW, DL, TK, DR⟩ := hrel
   have hf : ∀ t, t < l0.length → wr.cell? ⟨gb, t, none⟩ = some (.int .i64 (dk.getD t 0)) ∧ wr.frozen? ⟨gb, t, none⟩ = false := fun t ht => by
    have := Kd.R_celln 0 RW.out (t : Int) (by omega) (by omega)
    rw [Int.toNat_natCast] at this
    exact this
   by_cases hlt : j < l0.length
   ·
    have hltz : (j : Int) < (l0.length : Int) := by omega
    obtain ⟨cj, fj⟩ := hf j hlt
    obtain ⟨ci, fi⟩ := hf i (by omega)
    rw [dropAt DR.out] at cj
    have hcall := HP.out wr (l0.getD j 0) (by rw [Gen.getD_lt l0 0 j hlt]; exact List.getElem_mem hlt) BW.out KW.out
    have TS := Aside0.mk (takeS l0 j hlt)
    generalize hy : l0.getD j 0 = y at cj hcall TS
    clear hy hf
    generalize dk.getD i 0 = old at ci
    have hbk : gb < wr.heap.size := World.block_lt_of_cell? wr _ ci
    cases hq : p y with
    | false =>
     rw [hq] at hcall
     go_wp2_with (go_at_fn g; refine hcall.mono ?_; rintro e w2 ⟨rfl, hb2⟩; replace ci := (hb2.cell (p := ⟨gb, i, none⟩) hbk).trans ci; replace fi := (World.frozen?_of_block (a := ⟨gb, i, none⟩) (hb2.block gb hbk)).trans fi)
     go_roundg (l0.length - (j + 1))
     case measure => omega
     case rel =>
      have RW2 := Kd.R_putn (Kd.R_below RW.out hb2) (i : Int) y
      rw [Int.toNat_natCast] at RW2
      refine ⟨i + 1, j + 1, dk.set i y, by go_num, by go_num, by omega, by omega, by omega, ⟨(BW.out.trans (hb2.mono BW.out.size)).setCell (p := ⟨gb, i, none⟩) HGB.out _⟩, ⟨keptSet (KW.out.then_ (Kept.of_below hb2 (fun _ => False)) (fun _ h => h.elim)) HPG.out _ _⟩, ⟨RW2⟩, ⟨by rw [List.length_set]; exact DL.out⟩, ⟨?_⟩, ⟨by rw [setDrop dk i (j + 1) y (by omega)]; exact dropS DR.out⟩⟩
      rw [setTake dk i y (by have := DL.out; omega), TK.out, TS.out, List.filter_append]
      simp [hq]
    | true =>
     rw [hq] at hcall
     go_wp2_with (go_at_fn g; refine hcall.mono ?_; rintro e w2 ⟨rfl, hb2⟩)
     go_roundg (l0.length - (j + 1))
     case measure => omega
     case rel =>
      exact ⟨i, j + 1, dk, rfl, by go_num, by omega, by omega, by omega, ⟨BW.out.trans (hb2.mono BW.out.size)⟩, ⟨KW.out.then_ (Kept.of_below hb2 (fun _ => False)) (fun _ h => h.elim)⟩, ⟨Kd.R_below RW.out hb2⟩, DL, ⟨by rw [TS.out, List.filter_append, ← TK.out]; simp [hq]⟩, ⟨dropS DR.out⟩⟩
   ·
    have : j = l0.length := by omega
    subst this
    have hltz : ¬ (l0.length : Int) < (l0.length : Int) := by omega
    have hcl : ∀ ty, (Builtin.clear_ #[24] ty #[.slice (some ⟨gb, i, none⟩) (l0.length - i) (c - i)]).run Try.prog wr = .ok (.tuple #[]) (wr.setCells gb i (List.replicate (l0.length - i) (.int .i64 0))) := fun ty => Lib.run_clear_slice wr 24 3 ty (.int .i64 0) Try.underlying24 Try.zeroValue3 rfl rfl gb i _ _ (by omega) (fun t ht => by rw [(hf (i + t) (by omega)).1]; rfl) (fun t ht => (hf (i + t) (by omega)).2)
    clear hf
    go_wp2
    go_ret
    obtain ⟨dk', f1, f2, f3⟩ := clearI (l0.length - i) i wr dk RW.out
    refine ⟨_, rfl, ?_, belowSets HGB.out _ _ _ BW.out, keptSets HPG.out _ _ _ KW.out⟩
    have h3 := Kd.R_take f3 (m := i) (by rw [f1, DL.out]; omega)
    rw [f2, TK.out, List.take_length] at h3
    exact h3
/-- How many elements slices.IndexFunc looks at. -/
def seenN (p : Int → Bool) (l : List Int) : Nat := if Gen.fIdx p l < 0 then l.length else (Gen.fIdx p l).toNat + 1
theorem splitAt1 (l : List Int) (j : Nat) (hj : j < l.length) : l = l.take j ++ l.getD j 0 :: l.drop (j + 1) := by
 rw [Gen.getD_lt l 0 j hj, ← List.drop_eq_getElem_cons hj, List.take_append_drop]
/-- slices.IndexFunc at ints, where the predicate keeps a tale J of what it has seen, in blocks (of Q) that are none of the row's. -/
theorem IndexFuncJ.calls (g : Nat) (lb : Array Value) (p : Int → Bool) (eg : ∀ args w, (callFunc g args).run Try.prog w = .ok (.enter g args) w)
  (P0_ Q : Nat → Prop) (hPQ : ∀ k, P0_ k → ¬ Q k) (J : List Int → World → Prop) (A0 : Option Addr) (c0 : Nat) (l0 : List Int) (w0 w : World) (hB : Below w0.heap.size w0 w)
  (ho0 : Kd.R (Kd.int .i64) 3 w w0.heap.size P0_ (.slice A0 l0.length c0) l0) (hj : J [] w)
  (hp : ∀ (pre : List Int) (x : Int) (post : List Int) (W : World), l0 = pre ++ x :: post → Below w0.heap.size w0 W → J pre W → Calls Try.prog g (#[.int .i64 x] ++ lb) W fun e w' => e = .returned (.bool (p x)) ∧ J (pre ++ [x]) w' ∧ Below w0.heap.size w0 w' ∧ Kept W w' Q) :
  Calls Try.prog 48 #[.slice A0 l0.length c0, .func (.func g) #[] lb] w fun e w' => e = .returned (.int .i64 (Gen.fIdx p l0)) ∧ J (l0.take (seenN p l0)) w' ∧ Below w0.heap.size w0 w' ∧ Kept w w' Q := by
 have HO := Aside0.mk ho0
 have HP := Aside0.mk hp
 have HB := Aside0.mk hB
 have HJ := Aside0.mk hj
 have HPQ := Aside0.mk hPQ
 have hbig : l0.length ≤ 9223372036854775807 := ((Kd.R_reads' ho0).2.2).2.1
 clear ho0 hp hB hj hPQ
 go_enter Try.func48, Try.ntmps48
 go_wp2
 go_loopg [5, 8] l0.length (fun gg _ s8 wr => ∃ kk : Nat, kk ≤ l0.length ∧ l0.length - kk ≤ gg ∧ s8 = .int .i64 kk ∧ Aside0 (Below w0.heap.size w0 wr) ∧ Aside0 (Kept w wr Q) ∧ Aside0 (J (l0.take kk) wr) ∧ Aside0 (∀ j, j < kk → p (l0.getD j 0) = false))
 case atStart => exact ⟨0, Nat.zero_le _, by omega, rfl, HB, ⟨Kept.refl _ _⟩, HJ, ⟨fun j hj => absurd hj (Nat.not_lt_zero _)⟩⟩
 case round =>
  obtain ⟨kk, hkk, hg, rfl, BW, KW, JW, AN⟩ := hrel
  by_cases hlt : kk < l0.length
  ·
   have hltz : (kk : Int) < (l0.length : Int) := by omega
   obtain ⟨ad, e0, hx0⟩ := Kd.at_int (Kd.R_reads' (Kd.R_kept HO.out KW.out HPQ.out)).2.2 (kk : Int) (by omega) hltz
   cases e0
   rw [show rd l0 (kk : Int) = l0.getD kk 0 from rfl, Int.toNat_natCast] at hx0
   have hcall := HP.out (l0.take kk) (l0.getD kk 0) (l0.drop (kk + 1)) wr (splitAt1 l0 kk hlt) BW.out JW.out
   rw [← takeS l0 kk hlt] at hcall
   generalize hy : l0.getD kk 0 = y at hx0 hcall
   have B := Aside0.mk hy
   clear hy
   cases hq : p y with
   | true =>
    rw [hq] at hcall
    go_wp2_with (go_at_fn g; refine hcall.mono ?_; rintro e w' ⟨rfl, hj', hb', hk'⟩)
    go_ret
    have e1 := Gen.fIdx_hit p l0 0 kk hlt (by rw [B.out]; exact hq) AN.out
    refine ⟨by rw [e1]; rfl, ?_, hb', KW.out.then_ hk' (fun _ h => .inl h)⟩
    have e2 : seenN p l0 = kk + 1 := by
     unfold seenN
     rw [e1, if_neg (by omega), Int.toNat_natCast]
    rw [e2]
    exact hj'
   | false =>
    rw [hq] at hcall
    go_wp2_with (go_at_fn g; refine hcall.mono ?_; rintro e w' ⟨rfl, hj', hb', hk'⟩)
    go_roundg (l0.length - (kk + 1))
    case measure => omega
    case rel =>
     refine ⟨kk + 1, by omega, by omega, by go_num, ⟨hb'⟩, ⟨KW.out.then_ hk' (fun _ h => .inl h)⟩, ⟨hj'⟩, ⟨fun j hj => ?_⟩⟩
     by_cases e : j = kk
     ·
      subst e
      rw [B.out]; exact hq
     ·
      exact AN.out j (by omega)
  ·
   have hltz : ¬ (kk : Int) < (l0.length : Int) := by omega
   have hkl : kk = l0.length := by omega
   subst hkl
   go_wp2
   go_ret
   have e1 := Gen.fIdx_miss p l0 0 AN.out
   refine ⟨by rw [e1]; rfl, ?_, BW.out, KW.out⟩
   have e2 : seenN p l0 = l0.length := by
    unfold seenN
    rw [e1, if_pos (by decide)]
   rw [e2]
   exact JW.out
theorem jSets {J : World → Prop} {g : Nat} (hs : ∀ W i v, J W → J (W.setCell ⟨g, i, none⟩ v)) : ∀ (vs : List Value) (i : Nat) (W : World), J W → J (W.setCells g i vs)
 | [], _, _, h => h
 | v :: r, i, W, h => jSets hs r (i + 1) _ (hs W i v h)
set_option maxHeartbeats 4000000 in
set_option maxRecDepth 1000000 in
/-- slices.DeleteFunc at ints, where the predicate keeps a tale J of what it has seen, in blocks (of Q) that are none of the row's. -/
theorem DeleteFuncJ.calls (g : Nat) (lb : Array Value) (p : Int → Bool) (eg : ∀ args w, (callFunc g args).run Try.prog w = .ok (.enter g args) w)
  (P0_ Q : Nat → Prop) (hPQ : ∀ k, P0_ k → ¬ Q k) (J : List Int → World → Prop) (hJs : ∀ pre W gb i v, P0_ gb → J pre W → J pre (W.setCell ⟨gb, i, none⟩ v)) (u : Value) (l0 : List Int) (w0 w : World) (hB : Below w0.heap.size w0 w)
  (ho0 : Kd.R (Kd.int .i64) 3 w w0.heap.size P0_ u l0) (hj : J [] w)
  (hp : ∀ (pre : List Int) (x : Int) (post : List Int) (W : World), l0 = pre ++ x :: post → Below w0.heap.size w0 W → J pre W → Calls Try.prog g (#[.int .i64 x] ++ lb) W fun e w' => e = .returned (.bool (p x)) ∧ J (pre ++ [x]) w' ∧ Below w0.heap.size w0 w' ∧ Kept W w' Q) :
  Calls Try.prog 31 #[u, .func (.func g) #[] lb] w fun e w' => ∃ v0_ : Value, e = .returned v0_ ∧ Kd.R (Kd.int .i64) 3 w' w0.heap.size P0_ v0_ (l0.filter fun x => !p x) ∧ J l0 w' ∧ Below w0.heap.size w0 w' ∧ Kept w w' (fun k => P0_ k ∨ Q k) := by
 obtain ⟨A, c, e0, hc, hC⟩ := Kd.R_reads ho0
 subst e0
 have hbig : l0.length ≤ 9223372036854775807 := hC.2.1
 have HIF := Aside0.mk (IndexFuncJ.calls g lb p eg P0_ Q hPQ J A c l0 w0 w hB ho0 hj hp)
 have HP := Aside0.mk hp
 have HB := Aside0.mk hB
 have HO := Aside0.mk ho0
 have HPQ := Aside0.mk hPQ
 have HJS := Aside0.mk hJs
 clear hp hB hPQ hJs hj
 rcases fIdxSpec p l0 with ⟨e1, hall⟩ | ⟨k0, hk0, e1, ht, hall⟩
 ·
  have e2 : seenN p l0 = l0.length := by
   unfold seenN
   rw [e1, if_pos (by decide)]
  rw [e1, e2, List.take_length] at HIF
  have hfil : (l0.filter fun x => !p x) = l0 := by have := filterAll p l0 l0.length (Nat.le_refl _) hall; rwa [List.take_length] at this
  rw [hfil]
  clear hfil hall hC ho0
  go_enter Try.func31, Try.ntmps31
  go_wp2_with (go_at_call 48; refine HIF.out.mono ?_; rintro e w1 ⟨rfl, hj1, hb1, hk1⟩)
  go_ret
  exact ⟨_, rfl, Kd.R_kept HO.out hk1 HPQ.out, hj1, hb1, hk1.mono (fun _ h => .inr h)⟩
 ·
  obtain ⟨gb, cap, ev, hgb, hlt, cells, hcells⟩ := Kd.R_form ho0 (by omega)
  injection ev with e2 e3 e4
  subst e2 e4
  have e5 : seenN p l0 = k0 + 1 := by
   unfold seenN
   rw [e1, if_neg (by omega), Int.toNat_natCast]
  rw [e1, e5] at HIF
  have hPg : P0_ gb := ho0.1 gb rfl
  have HPG := Aside0.mk hPg
  have HGB := Aside0.mk hgb
  have hne1 : ((k0 : Int) == -1) = false := beq_eq_false_iff_ne.2 (by omega)
  have F0 := Aside0.mk (filterAll p l0 k0 (by omega) hall)
  have HT := Aside0.mk ht
  clear hall hC ho0 ht hgb hlt hcells hPg
  go_enter Try.func31, Try.ntmps31
  go_wp2_with (go_at_call 48; refine HIF.out.mono ?_; rintro e w1 ⟨rfl, hj1, hb1, hk1⟩)
  go_loopg [5, 6, 7] l0.length (fun gg s5 s6 _ wr => ∃ (i j : Nat) (dk : List Int), s5 = .int .i64 i ∧ s6 = .int .i64 j ∧ i < j ∧ j ≤ l0.length ∧ l0.length - j ≤ gg ∧ Aside0 (Below w0.heap.size w0 wr) ∧ Aside0 (Kept w wr (fun k => P0_ k ∨ Q k)) ∧ Aside0 (Kd.R (Kd.int .i64) 3 wr w0.heap.size P0_ (.slice (some ⟨gb, 0, none⟩) l0.length c) dk) ∧ Aside0 (dk.length = l0.length) ∧ Aside0 (dk.take i = (l0.take j).filter (fun x => !p x)) ∧ Aside0 (dk.drop j = l0.drop j) ∧ Aside0 (J (l0.take j) wr))
  case atStart =>
   exact ⟨k0, k0 + 1, l0, rfl, by go_num, by omega, by omega, by omega, ⟨hb1⟩, ⟨hk1.mono (fun _ h => .inr h)⟩, ⟨Kd.R_kept HO.out hk1 HPQ.out⟩, ⟨rfl⟩, ⟨by rw [takeS l0 k0 hk0, List.filter_append, F0.out, List.filter_cons, HT.out]; simp⟩, ⟨rfl⟩, ⟨hj1⟩⟩
  case round =>
   obtain ⟨i, j, dk, rfl, rfl, hij, hj, hg, BW, KW, RW, DL, TK, DR, JW⟩ := hrel
   have hf : ∀ t, t < l0.length → wr.cell? ⟨gb, t, none⟩ = some (.int .i64 (dk.getD t 0)) ∧ wr.frozen? ⟨gb, t, none⟩ = false := fun t ht => by
    have := Kd.R_celln 0 RW.out (t : Int) (by omega) (by omega)
    rw [Int.toNat_natCast] at this
    exact this
   by_cases hlt : j < l0.length
   ·
    have hltz : (j : Int) < (l0.length : Int) := by omega
    obtain ⟨cj, fj⟩ := hf j hlt
    obtain ⟨ci, fi⟩ := hf i (by omega)
    rw [dropAt DR.out] at cj
    have hcall := HP.out (l0.take j) (l0.getD j 0) (l0.drop (j + 1)) wr (splitAt1 l0 j hlt) BW.out JW.out
    rw [← takeS l0 j hlt] at hcall
    have TS := Aside0.mk (takeS l0 j hlt)
    generalize hy : l0.getD j 0 = y at cj hcall TS
    clear hy hf
    generalize dk.getD i 0 = old at ci
    have hbk : gb < wr.heap.size := World.block_lt_of_cell? wr _ ci
    have hnq : ¬ Q gb := HPQ.out gb HPG.out
    cases hq : p y with
    | false =>
     rw [hq] at hcall
     go_wp2_with (go_at_fn g; refine hcall.mono ?_; rintro e w2 ⟨rfl, hj2, hb2, hk2⟩; replace ci := cell_kept ci hk2 hnq; replace fi := (World.frozen?_of_block (a := ⟨gb, i, none⟩) (hk2.2 gb hbk hnq)).trans fi)
     go_roundg (l0.length - (j + 1))
     case measure => omega
     case rel =>
      have RW2 := Kd.R_putn (Kd.R_kept RW.out hk2 HPQ.out) (i : Int) y
      rw [Int.toNat_natCast] at RW2
      refine ⟨i + 1, j + 1, dk.set i y, by go_num, by go_num, by omega, by omega, by omega, ⟨hb2.setCell (p := ⟨gb, i, none⟩) HGB.out _⟩, ⟨keptSet (KW.out.then_ hk2 (fun _ h => .inl (.inr h))) (.inl HPG.out) _ _⟩, ⟨RW2⟩, ⟨by rw [List.length_set]; exact DL.out⟩, ⟨?_⟩, ⟨?_⟩, ⟨HJS.out _ _ _ _ _ HPG.out hj2⟩⟩
      ·
       rw [setTake dk i y (by have := DL.out; omega), TK.out, TS.out, List.filter_append]
       simp [hq]
      ·
       rw [setDrop dk i (j + 1) y (by omega)]
       exact dropS DR.out
    | true =>
     rw [hq] at hcall
     go_wp2_with (go_at_fn g; refine hcall.mono ?_; rintro e w2 ⟨rfl, hj2, hb2, hk2⟩)
     go_roundg (l0.length - (j + 1))
     case measure => omega
     case rel =>
      exact ⟨i, j + 1, dk, rfl, by go_num, by omega, by omega, by omega, ⟨hb2⟩, ⟨KW.out.then_ hk2 (fun _ h => .inl (.inr h))⟩, ⟨Kd.R_kept RW.out hk2 HPQ.out⟩, DL, ⟨by rw [TS.out, List.filter_append, ← TK.out]; simp [hq]⟩, ⟨dropS DR.out⟩, ⟨hj2⟩⟩
   ·
    have hjl : j = l0.length := by omega
    subst hjl
    have hltz : ¬ (l0.length : Int) < (l0.length : Int) := by omega
    have hcl : ∀ ty, (Builtin.clear_ #[24] ty #[.slice (some ⟨gb, i, none⟩) (l0.length - i) (c - i)]).run Try.prog wr = .ok (.tuple #[]) (wr.setCells gb i (List.replicate (l0.length - i) (.int .i64 0))) := fun ty => Lib.run_clear_slice wr 24 3 ty (.int .i64 0) Try.underlying24 Try.zeroValue3 rfl rfl gb i _ _ (by omega) (fun t ht => by rw [(hf (i + t) (by omega)).1]; rfl) (fun t ht => (hf (i + t) (by omega)).2)
    clear hf
    go_wp2
    go_ret
    obtain ⟨dk', f1, f2, f3⟩ := clearI (l0.length - i) i wr dk RW.out
    refine ⟨_, rfl, ?_, ?_, belowSets HGB.out _ _ _ BW.out, keptSets (.inl HPG.out) _ _ _ KW.out⟩
    ·
     have h3 := Kd.R_take f3 (m := i) (by rw [f1, DL.out]; omega)
     rw [f2, TK.out, List.take_length] at h3
     exact h3
    ·
     have := JW.out
     rw [List.take_length] at this
     exact jSets (fun W i v h => HJS.out _ _ _ _ _ HPG.out h) _ _ _ this
/-- A row of whole numbers, from a place in its block on. -/
def RowAt (W : World) (gb off : Nat) (l : List Int) : Prop := ∃ cs : Array Value, W.heap[gb]? = some (.cells cs 3 (0, 0)) ∧ ∀ t, t < l.length → cs[off + t]? = some (.int .i64 (l.getD t 0))
theorem RowAt.cell {W : World} {gb off : Nat} {l : List Int} (h : RowAt W gb off l) {t : Nat} (ht : t < l.length) : W.cell? ⟨gb, off + t, none⟩ = some (.int .i64 (l.getD t 0)) ∧ W.frozen? ⟨gb, off + t, none⟩ = false := by
 obtain ⟨cs, hb, hc⟩ := h
 exact ⟨(blk_cell hb (off + t)).trans (hc t ht), blk_frozen hb (off + t)⟩
theorem RowAt.lt {W : World} {gb off : Nat} {l : List Int} (h : RowAt W gb off l) : gb < W.heap.size := by
 obtain ⟨cs, hb, _⟩ := h
 exact blk_lt hb
theorem RowAt.kept {W W2 : World} {gb off : Nat} {l : List Int} {Q : Nat → Prop} (h : RowAt W gb off l) (hk : Kept W W2 Q) (hn : ¬ Q gb) : RowAt W2 gb off l := by
 obtain ⟨cs, hb, hc⟩ := h
 exact ⟨cs, blk_kept hb hk hn, hc⟩
theorem RowAt.set {W : World} {gb off : Nat} {l : List Int} (h : RowAt W gb off l) {i : Nat} (hi : i < l.length) (y : Int) : RowAt (W.setCell ⟨gb, off + i, none⟩ (.int .i64 y)) gb off (l.set i y) := by
 obtain ⟨cs, hb, hc⟩ := h
 refine ⟨_, blk_set hb (off + i) (.int .i64 y), fun t ht => ?_⟩
 rw [List.length_set] at ht
 have hin := (Array.getElem?_eq_some_iff.1 (hc i hi)).1
 rw [Array.getElem?_setIfInBounds]
 by_cases e : i = t
 ·
  subst e
  rw [if_pos rfl, if_pos hin, List.getD_eq_getElem?_getD, List.getElem?_set_self hi]
  rfl
 ·
  rw [if_neg (by omega), hc t ht, List.getD_eq_getElem?_getD, List.getD_eq_getElem?_getD, List.getElem?_set_ne e]
theorem RowAt.past {W : World} {gb off m : Nat} {l : List Int} (h : RowAt W gb off l) (hl : l.length ≤ m) (j : Nat) (hj : off + m ≤ j) (v : Value) : RowAt (W.setCell ⟨gb, j, none⟩ v) gb off l := by
 obtain ⟨cs, hb, hc⟩ := h
 refine ⟨_, blk_set hb j v, fun t ht => ?_⟩
 rw [Array.getElem?_setIfInBounds, if_neg (by omega)]
 exact hc t ht
theorem RowAt.pasts {gb off m : Nat} {l : List Int} (hl : l.length ≤ m) : ∀ (vs : List Value) (j : Nat) (W : World), off + m ≤ j → RowAt W gb off l → RowAt (W.setCells gb j vs) gb off l
 | [], _, _, _, h => h
 | v :: r, j, W, hj, h => RowAt.pasts hl r (j + 1) _ (by omega) (h.past hl j hj v)
theorem RowAt.take {W : World} {gb off : Nat} {l : List Int} (h : RowAt W gb off l) (m : Nat) : RowAt W gb off (l.take m) := by
 obtain ⟨cs, hb, hc⟩ := h
 refine ⟨cs, hb, fun t ht => ?_⟩
 rw [List.length_take] at ht
 rw [hc t (by omega), List.getD_eq_getElem?_getD, List.getD_eq_getElem?_getD, List.getElem?_take_of_lt (by omega)]
theorem RowAt.tail {W : World} {gb off : Nat} {x : Int} {l : List Int} (h : RowAt W gb off (x :: l)) : RowAt W gb (off + 1) l := by
 obtain ⟨cs, hb, hc⟩ := h
 refine ⟨cs, hb, fun t ht => ?_⟩
 have := hc (t + 1) (by rw [List.length_cons]; omega)
 rw [show off + 1 + t = off + (t + 1) by omega, this]
 rfl
/-- slices.IndexFunc at ints, from a place in a block on; the predicate keeps a tale J of what it has seen, in blocks (of Q) that are none of the row's. -/
theorem IndexFuncA.calls (g : Nat) (lb : Array Value) (p : Int → Bool) (eg : ∀ args w, (callFunc g args).run Try.prog w = .ok (.enter g args) w)
  (Q : Nat → Prop) (J : List Int → World → Prop) (gb off c0 : Nat) (l0 : List Int) (w0 w : World) (hQ : ¬ Q gb) (hB : Below w0.heap.size w0 w)
  (ho0 : RowAt w gb off l0) (hbig : l0.length ≤ 1000000) (hj : J [] w)
  (hp : ∀ (pre : List Int) (x : Int) (post : List Int) (W : World), l0 = pre ++ x :: post → Below w0.heap.size w0 W → J pre W → Calls Try.prog g (#[.int .i64 x] ++ lb) W fun e w' => e = .returned (.bool (p x)) ∧ J (pre ++ [x]) w' ∧ Below w0.heap.size w0 w' ∧ Kept W w' Q) :
  Calls Try.prog 48 #[.slice (some ⟨gb, off, none⟩) l0.length c0, .func (.func g) #[] lb] w fun e w' => e = .returned (.int .i64 (Gen.fIdx p l0)) ∧ J (l0.take (seenN p l0)) w' ∧ Below w0.heap.size w0 w' ∧ Kept w w' Q := by
 have HO := Aside0.mk ho0
 have HP := Aside0.mk hp
 have HB := Aside0.mk hB
 have HJ := Aside0.mk hj
 clear ho0 hp hB hj
 go_enter Try.func48, Try.ntmps48
 go_wp2
 go_loopg [5, 8] l0.length (fun gg _ s8 wr => ∃ kk : Nat, kk ≤ l0.length ∧ l0.length - kk ≤ gg ∧ s8 = .int .i64 kk ∧ Aside0 (Below w0.heap.size w0 wr) ∧ Aside0 (Kept w wr Q) ∧ Aside0 (J (l0.take kk) wr) ∧ Aside0 (∀ j, j < kk → p (l0.getD j 0) = false))
 case atStart => exact ⟨0, Nat.zero_le _, by omega, rfl, HB, ⟨Kept.refl _ _⟩, HJ, ⟨fun j hj => absurd hj (Nat.not_lt_zero _)⟩⟩
 case round =>
  obtain ⟨kk, hkk, hg, rfl, BW, KW, JW, AN⟩ := hrel
  by_cases hlt : kk < l0.length
  ·
   have hltz : (kk : Int) < (l0.length : Int) := by omega
   have hx0 := ((HO.out.kept KW.out hQ).cell hlt).1
   have hcall := HP.out (l0.take kk) (l0.getD kk 0) (l0.drop (kk + 1)) wr (splitAt1 l0 kk hlt) BW.out JW.out
   rw [← takeS l0 kk hlt] at hcall
   generalize hy : l0.getD kk 0 = y at hx0 hcall
   have B := Aside0.mk hy
   clear hy
   cases hq : p y with
   | true =>
    rw [hq] at hcall
    go_wp2_with (go_at_fn g; refine hcall.mono ?_; rintro e w' ⟨rfl, hj', hb', hk'⟩)
    go_ret
    have e1 := Gen.fIdx_hit p l0 0 kk hlt (by rw [B.out]; exact hq) AN.out
    refine ⟨by rw [e1]; rfl, ?_, hb', KW.out.then_ hk' (fun _ h => .inl h)⟩
    have e2 : seenN p l0 = kk + 1 := by
     unfold seenN
     rw [e1, if_neg (by omega), Int.toNat_natCast]
    rw [e2]
    exact hj'
   | false =>
    rw [hq] at hcall
    go_wp2_with (go_at_fn g; refine hcall.mono ?_; rintro e w' ⟨rfl, hj', hb', hk'⟩)
    go_roundg (l0.length - (kk + 1))
    case measure => omega
    case rel =>
     refine ⟨kk + 1, by omega, by omega, by go_num, ⟨hb'⟩, ⟨KW.out.then_ hk' (fun _ h => .inl h)⟩, ⟨hj'⟩, ⟨fun j hj => ?_⟩⟩
     by_cases e : j = kk
     ·
      subst e
      rw [B.out]; exact hq
     ·
      exact AN.out j (by omega)
  ·
   have hltz : ¬ (kk : Int) < (l0.length : Int) := by omega
   have hkl : kk = l0.length := by omega
   subst hkl
   go_wp2
   go_ret
   have e1 := Gen.fIdx_miss p l0 0 AN.out
   refine ⟨by rw [e1]; rfl, ?_, BW.out, KW.out⟩
   have e2 : seenN p l0 = l0.length := by
    unfold seenN
    rw [e1, if_pos (by decide)]
   rw [e2]
   exact JW.out
set_option maxHeartbeats 4000000 in
set_option maxRecDepth 1000000 in
/-- slices.DeleteFunc at ints, from a place in a block on; the predicate keeps a tale J of what it has seen, in blocks (of Q) that are none of the row's. -/
theorem DeleteFuncA.calls (g : Nat) (lb : Array Value) (p : Int → Bool) (eg : ∀ args w, (callFunc g args).run Try.prog w = .ok (.enter g args) w)
  (Q : Nat → Prop) (J : List Int → World → Prop) (gb off c : Nat) (l0 : List Int) (w0 w : World) (hQ : ¬ Q gb) (hgb : w0.heap.size ≤ gb) (hc : l0.length ≤ c) (hJs : ∀ pre W i v, J pre W → J pre (W.setCell ⟨gb, i, none⟩ v)) (hB : Below w0.heap.size w0 w)
  (ho0 : RowAt w gb off l0) (hbig : l0.length ≤ 1000000) (hoff : off ≤ 1000000) (hj : J [] w)
  (hp : ∀ (pre : List Int) (x : Int) (post : List Int) (W : World), l0 = pre ++ x :: post → Below w0.heap.size w0 W → J pre W → Calls Try.prog g (#[.int .i64 x] ++ lb) W fun e w' => e = .returned (.bool (p x)) ∧ J (pre ++ [x]) w' ∧ Below w0.heap.size w0 w' ∧ Kept W w' Q) :
  Calls Try.prog 31 #[.slice (some ⟨gb, off, none⟩) l0.length c, .func (.func g) #[] lb] w fun e w' => e = .returned (.slice (some ⟨gb, off, none⟩) (l0.filter fun x => !p x).length c) ∧ RowAt w' gb off (l0.filter fun x => !p x) ∧ J l0 w' ∧ Below w0.heap.size w0 w' ∧ Kept w w' (fun k => k = gb ∨ Q k) := by
 have HIF := Aside0.mk (IndexFuncA.calls g lb p eg Q J gb off c l0 w0 w hQ hB ho0 hbig hj hp)
 have HP := Aside0.mk hp
 have HB := Aside0.mk hB
 have HO := Aside0.mk ho0
 have HJS := Aside0.mk hJs
 have HGB := Aside0.mk hgb
 clear hp hB hJs hj
 rcases fIdxSpec p l0 with ⟨e1, hall⟩ | ⟨k0, hk0, e1, ht, hall⟩
 ·
  have e2 : seenN p l0 = l0.length := by
   unfold seenN
   rw [e1, if_pos (by decide)]
  rw [e1, e2, List.take_length] at HIF
  have hfil : (l0.filter fun x => !p x) = l0 := by have := filterAll p l0 l0.length (Nat.le_refl _) hall; rwa [List.take_length] at this
  rw [hfil]
  clear hfil hall ho0
  go_enter Try.func31, Try.ntmps31
  go_wp2_with (go_at_call 48; refine HIF.out.mono ?_; rintro e w1 ⟨rfl, hj1, hb1, hk1⟩)
  go_ret
  exact ⟨rfl, HO.out.kept hk1 hQ, hj1, hb1, hk1.mono (fun _ h => .inr h)⟩
 ·
  have e5 : seenN p l0 = k0 + 1 := by
   unfold seenN
   rw [e1, if_neg (by omega), Int.toNat_natCast]
  rw [e1, e5] at HIF
  have hne1 : ((k0 : Int) == -1) = false := beq_eq_false_iff_ne.2 (by omega)
  have F0 := Aside0.mk (filterAll p l0 k0 (by omega) hall)
  have HT := Aside0.mk ht
  clear hall ho0 ht hgb
  go_enter Try.func31, Try.ntmps31
  go_wp2_with (go_at_call 48; refine HIF.out.mono ?_; rintro e w1 ⟨rfl, hj1, hb1, hk1⟩)
  go_loopg [5, 6, 7] l0.length (fun gg s5 s6 _ wr => ∃ (i j : Nat) (dk : List Int), s5 = .int .i64 i ∧ s6 = .int .i64 j ∧ i < j ∧ j ≤ l0.length ∧ l0.length - j ≤ gg ∧ Aside0 (Below w0.heap.size w0 wr) ∧ Aside0 (Kept w wr (fun k => k = gb ∨ Q k)) ∧ Aside0 (RowAt wr gb off dk) ∧ Aside0 (dk.length = l0.length) ∧ Aside0 (dk.take i = (l0.take j).filter (fun x => !p x)) ∧ Aside0 (dk.drop j = l0.drop j) ∧ Aside0 (J (l0.take j) wr))
  case atStart =>
   exact ⟨k0, k0 + 1, l0, rfl, by go_num, by omega, by omega, by omega, ⟨hb1⟩, ⟨hk1.mono (fun _ h => .inr h)⟩, ⟨HO.out.kept hk1 hQ⟩, ⟨rfl⟩, ⟨by rw [takeS l0 k0 hk0, List.filter_append, F0.out, List.filter_cons, HT.out]; simp⟩, ⟨rfl⟩, ⟨hj1⟩⟩
  case round =>
   obtain ⟨i, j, dk, rfl, rfl, hij, hj, hg, BW, KW, RW, DL, TK, DR, JW⟩ := hrel
   by_cases hlt : j < l0.length
   ·
    have hltz : (j : Int) < (l0.length : Int) := by omega
    obtain ⟨cj, fj⟩ := RW.out.cell (t := j) (by have := DL.out; omega)
    obtain ⟨ci, fi⟩ := RW.out.cell (t := i) (by have := DL.out; omega)
    rw [dropAt DR.out] at cj
    have hcall := HP.out (l0.take j) (l0.getD j 0) (l0.drop (j + 1)) wr (splitAt1 l0 j hlt) BW.out JW.out
    rw [← takeS l0 j hlt] at hcall
    have TS := Aside0.mk (takeS l0 j hlt)
    generalize hy : l0.getD j 0 = y at cj hcall TS
    clear hy
    generalize dk.getD i 0 = old at ci
    have hbk : gb < wr.heap.size := World.block_lt_of_cell? wr _ ci
    cases hq : p y with
    | false =>
     rw [hq] at hcall
     go_wp2_with (go_at_fn g; refine hcall.mono ?_; rintro e w2 ⟨rfl, hj2, hb2, hk2⟩; replace ci := cell_kept ci hk2 hQ; replace fi := (World.frozen?_of_block (a := ⟨gb, off + i, none⟩) (hk2.2 gb hbk hQ)).trans fi)
     go_roundg (l0.length - (j + 1))
     case measure => omega
     case rel =>
      refine ⟨i + 1, j + 1, dk.set i y, by go_num, by go_num, by omega, by omega, by omega, ⟨hb2.setCell (p := ⟨gb, off + i, none⟩) HGB.out _⟩, ⟨keptSet (KW.out.then_ hk2 (fun _ h => .inl (.inr h))) (.inl rfl) _ _⟩, ⟨(RW.out.kept hk2 hQ).set (by have := DL.out; omega) y⟩, ⟨by rw [List.length_set]; exact DL.out⟩, ⟨?_⟩, ⟨?_⟩, ⟨HJS.out _ _ _ _ hj2⟩⟩
      ·
       rw [setTake dk i y (by have := DL.out; omega), TK.out, TS.out, List.filter_append]
       simp [hq]
      ·
       rw [setDrop dk i (j + 1) y (by omega)]
       exact dropS DR.out
    | true =>
     rw [hq] at hcall
     go_wp2_with (go_at_fn g; refine hcall.mono ?_; rintro e w2 ⟨rfl, hj2, hb2, hk2⟩)
     go_roundg (l0.length - (j + 1))
     case measure => omega
     case rel =>
      exact ⟨i, j + 1, dk, rfl, by go_num, by omega, by omega, by omega, ⟨hb2⟩, ⟨KW.out.then_ hk2 (fun _ h => .inl (.inr h))⟩, ⟨RW.out.kept hk2 hQ⟩, DL, ⟨by rw [TS.out, List.filter_append, ← TK.out]; simp [hq]⟩, ⟨dropS DR.out⟩, ⟨hj2⟩⟩
   ·
    have hjl : j = l0.length := by omega
    subst hjl
    have hltz : ¬ (l0.length : Int) < (l0.length : Int) := by omega
    have hcl : ∀ ty, (Builtin.clear_ #[24] ty #[.slice (some ⟨gb, off + i, none⟩) (l0.length - i) (c - i)]).run Try.prog wr = .ok (.tuple #[]) (wr.setCells gb (off + i) (List.replicate (l0.length - i) (.int .i64 0))) := fun ty => Lib.run_clear_slice wr 24 3 ty (.int .i64 0) Try.underlying24 Try.zeroValue3 rfl rfl gb (off + i) _ _ (by omega) (fun t ht => by rw [Nat.add_assoc, (RW.out.cell (t := i + t) (by have := DL.out; omega)).1]; rfl) (fun t ht => by rw [Nat.add_assoc]; exact (RW.out.cell (t := i + t) (by have := DL.out; omega)).2)
    go_wp2
    go_ret
    have e6 : (l0.filter fun x => !p x) = dk.take i := by rw [TK.out, List.take_length]
    have e7 : (dk.take i).length = i := by rw [List.length_take]; have := DL.out; omega
    rw [e6, e7]
    refine ⟨rfl, RowAt.pasts (m := i) (by omega) _ _ _ (Nat.le_refl _) (RW.out.take i), ?_, belowSets HGB.out _ _ _ BW.out, keptSets (.inl rfl) _ _ _ KW.out⟩
    have := JW.out
    rw [List.take_length] at this
    exact jSets (fun W i v h => HJS.out _ _ _ _ h) _ _ _ this


/-! ### impl_regionParts: function 28 -/
-- called: 43 31 22 30
theorem cell_drewP {w : World} {a : Addr} {v : Value} (h : w.cell? a = some v) : w.drew.cell? a = some v := by simpa using h
def RPF1.c.T1 : Bool × List (List Nat × List Nat) := (true, [([], []), ([], []), ([], []), ([1, 2], [1, 2]), ([3], [3]), ([], []), ([0, 4, 5], [0, 4, 5]), ([6, 6, 0, 1, 2, 3, 4, 5, 6], [6])])
def RPF1.c.B1 : List Nat := [0, 0, 0, 6, 14, 0, 63, 127]
theorem RPF1.c.tab1 : rtab .any (opsOf Try.f45 1) = RPF1.c.T1 := by kernel_rfl
theorem RPF1.c.bits1 : waitsOk RPF1.c.T1.2 RPF1.c.B1 = true := by kernel_rfl
set_option maxHeartbeats 4000000 in
set_option maxRecDepth 100000 in
/-- impl.regionParts$1: is a cell next to the part's cell? If so it is appended to the part. -/
theorem RPF1.calls (wide x y : Int) (b : Bool) (i : Nat) (part : List Int) (Bw Bp Bi gb cap : Nat) (okP : Nat → Prop) (w0 W : World) (hB : Below w0.heap.size w0 W) (hbp : w0.heap.size ≤ Bp)
  (hw : W.cell? ⟨Bw, 0, none⟩ = some (.int .i64 wide)) (hi : W.cell? ⟨Bi, 0, none⟩ = some (.int .i64 (i : Int))) (hp : W.cell? ⟨Bp, 0, none⟩ = some (.slice (some ⟨gb, 0, none⟩) part.length cap)) (hf : W.frozen? ⟨Bp, 0, none⟩ = false)
  (hr : Kd.R (Kd.int .i64) 3 W w0.heap.size okP (.slice (some ⟨gb, 0, none⟩) part.length cap) part) (hfr : ∀ k, W.heap.size ≤ k → okP k) (hok : ∀ k, okP k → k ≠ Bp ∧ k ≠ Bi ∧ k ≠ Bw) (hpi : Bp ≠ Bi ∧ Bp ≠ Bw)
  (hil : i < part.length) (hl : part.length ≤ 1000000) (hyv : part.getD i 0 = y) (ha : impl_areConnected.f wide y x = some b) :
  Calls Try.prog 45 #[.int .i64 x, .pointer (some ⟨Bw, 0, none⟩), .pointer (some ⟨Bp, 0, none⟩), .pointer (some ⟨Bi, 0, none⟩)] W fun e w' => e = .returned (.bool b) ∧ Below w0.heap.size w0 w' ∧ Kept W w' (fun k => k = Bp ∨ k = gb) ∧
   w'.cell? ⟨Bw, 0, none⟩ = some (.int .i64 wide) ∧ w'.cell? ⟨Bi, 0, none⟩ = some (.int .i64 (i : Int)) ∧ w'.frozen? ⟨Bp, 0, none⟩ = false ∧
   ∃ gb' cap', w'.cell? ⟨Bp, 0, none⟩ = some (.slice (some ⟨gb', 0, none⟩) (if b = true then part ++ [x] else part).length cap') ∧ Kd.R (Kd.int .i64) 3 w' w0.heap.size okP (.slice (some ⟨gb', 0, none⟩) (if b = true then part ++ [x] else part).length cap') (if b = true then part ++ [x] else part) ∧ (gb' = gb ∨ W.heap.size ≤ gb') := by
 have hy : W.cell? ⟨gb, i, none⟩ = some (.int .i64 y) := by
  have := (Kd.R_celln 0 hr (i : Int) (by omega) (by omega)).1
  rw [Int.toNat_natCast, show rdOf 0 part (i : Int) = part.getD i 0 from rfl, hyv] at this
  exact this
 have HA := Aside0.mk ha
 have HBB := Aside0.mk hB
 have HR := Aside0.mk hr
 have HF := Aside0.mk hf
 have HFR := Aside0.mk hfr
 have HOK := Aside0.mk hok
 have b1 : (0 : Int) ≤ (i : Int) := by omega
 have b2 : (i : Int) < (part.length : Int) := by omega
 have d1 : decide ((0 : Int) ≤ (i : Int)) = true := decide_eq_true b1
 have d2 : decide ((i : Int) < (part.length : Int)) = true := decide_eq_true b2
 replace b1 := eq_true b1
 replace b2 := eq_true b2
 have HB := Aside0.mk (Below.refl W.heap.size W).drew
 clear ha hB hr hf hfr hok hyv
 go_enter Try.func45, Try.ntmps45
 go_wp2_with fail
 refine start_ (n := 8) (S := fun w' => w'.cell? ⟨Bw, 0, none⟩ = some (.int .i64 wide) ∧ w'.cell? ⟨Bp, 0, none⟩ = some (.slice (some ⟨gb, 0, none⟩) part.length cap) ∧ w'.cell? ⟨Bi, 0, none⟩ = some (.int .i64 (i : Int)) ∧ w'.cell? ⟨gb, i, none⟩ = some (.int .i64 y)) (ds := []) #[false, false, false, false, false, false, false, false] (by kernel_rfl) rfl rfl ⟨(cell_drewP hw), (cell_drewP hp), (cell_drewP hi), (cell_drewP hy)⟩ (fun hHeld => ?_)
 refine with_tabW RPF1.c.tab1 RPF1.c.bits1 (fun HT_ HW_ => ?_)
 generalize hw1_ : W.drew = w1 at HB hHeld ⊢
 have HW1 := Aside0.mk hw1_
 clear hw1_
 refine pure_ (i := 5) (N := some 12) (v := ?_) (a' := ?_) #[false, false, false, false, false, true, false, false] rfl rfl (any_of HT_.out (by kernel_rfl)) (fun _ _ _ h => h) (Or.inl ⟨by rfl, ?_⟩) ?_ ?_
 rotate_left; · exact zqB
 rotate_left; · exact zqA
 refine take_ (i := 0) (N := some 7) (v := ?_) (a' := ?_) #[true, false, false, false, false, true, false, false] rfl rfl (take_ofW HT_.out HW_.out (by kernel_rfl)) (fun _ _ _ h => h) (Or.inl ⟨by rfl, ?_⟩) hHeld ?_ ?_
 rotate_left
 ·
  rintro w' ⟨s0, s1, s2, s3⟩
  go_simp
  with_reducible rfl
 rotate_left; · exact zqA
 refine take_ (i := 1) (N := some 8) (v := ?_) (a' := ?_) #[true, true, false, false, false, true, false, false] rfl rfl (take_ofW HT_.out HW_.out (by kernel_rfl)) (fun _ _ _ h => h) (Or.inl ⟨by rfl, ?_⟩) hHeld ?_ ?_
 rotate_left
 ·
  rintro w' ⟨s0, s1, s2, s3⟩
  go_simp
  with_reducible rfl
 rotate_left; · exact zqA
 refine take_ (i := 2) (N := some 9) (v := ?_) (a' := ?_) #[true, true, true, false, false, true, false, false] rfl rfl (take_ofW HT_.out HW_.out (by kernel_rfl)) (fun _ _ _ h => h) (Or.inl ⟨by rfl, ?_⟩) hHeld ?_ ?_
 rotate_left
 ·
  rintro w' ⟨s0, s1, s2, s3⟩
  go_simp
  with_reducible rfl
 rotate_left; · exact zqA
 refine pure_ (i := 3) (N := some 10) (v := ?_) (a' := ?_) #[true, true, true, true, false, true, false, false] rfl rfl (any_of HT_.out (by kernel_rfl)) (fun _ _ _ h => h) (Or.inl ⟨by rfl, ?_⟩) ?_ ?_
 rotate_left; · exact zqB
 rotate_left; · exact zqA
 refine take_ (i := 4) (N := some 11) (v := ?_) (a' := ?_) #[true, true, true, true, true, true, false, false] rfl rfl (take_ofW HT_.out HW_.out (by kernel_rfl)) (fun _ _ _ h => h) (Or.inl ⟨by rfl, ?_⟩) hHeld ?_ ?_
 rotate_left
 ·
  rintro w' ⟨s0, s1, s2, s3⟩
  go_simp
  with_reducible rfl
 rotate_left; · exact zqA
 refine one_ (i := 6) (N := some 13) #[true, true, true, true, true, true, true, false] rfl rfl (one_of HT_.out (by kernel_rfl)) (by decide) (fun K hK => ?_)
 refine goes_ Try.func43 (by kernel_rfl) rfl #[.int .i64 wide, .int .i64 y, .int .i64 x] (by rfl) rfl rfl (by (try simp only [List.map_toArray, List.map_cons, List.map_nil]); first | done | rfl) ?_
 refine (impl_areConnected.calls wide y x b _ HA.out).mono ?_
 rintro e w2 ⟨rfl, nd1, rfl⟩
 have hb := pw_below_drewN (Below.refl w1.heap.size w1) nd1
 refine ⟨_, rfl, ?_⟩
 obtain ⟨s0, s1, s2, s3⟩ := hHeld
 have HB_ := Aside0.mk (HB.out.trans (hb.mono HB.out.size))
 clear HB
 have HB := HB_
 clear HB_
 refine hK.out _ _ ⟨(hb.cell (World.block_lt_of_cell? _ _ s0)).trans s0, (hb.cell (World.block_lt_of_cell? _ _ s1)).trans s1, (hb.cell (World.block_lt_of_cell? _ _ s2)).trans s2, (hb.cell (World.block_lt_of_cell? _ _ s3)).trans s3⟩ (fun hHeld => ?_)
 clear hK K hb s0 s1 s2 s3
 refine norm_ (a' := ?_) ?_ ?_
 rotate_left
 ·
  show Act.put _ (some 13) _ = _
  simp only [Act.put, List.setIfInBounds_toArray, List.set_cons_zero, List.set_cons_succ, i64_w, i32_w]
  rfl
 refine pure_ (i := 7) (N := some 6) (v := ?_) (a' := ?_) #[true, true, true, true, true, true, true, true] rfl rfl (any_of HT_.out (by kernel_rfl)) (fun _ _ _ h => h) (Or.inl ⟨by rfl, ?_⟩) ?_ ?_
 rotate_left; · exact zqB
 rotate_left; · exact zqA
 refine done_ (done_of HT_.out (by kernel_rfl)) ?_
 have e_ := HW1.out
 subst e_
 clear HW1
 obtain ⟨s0, s1, s2, s3⟩ := hHeld
 have hf2 : (W.drew.drewN nd1).frozen? ⟨Bp, 0, none⟩ = false := HF.out
 cases b with
 | false =>
  go_wp2
  go_ret
  exact ⟨rfl, (by repeat (first | (with_reducible first | exact HBB.out | apply pw_below_drewN | apply below_drew1) | exact HBB.out)), (by repeat (first | exact Kept.refl _ _ | apply Kept.drewN | apply Kept.drew)), by first | exact s0 | simpa using s0, by first | exact s2 | simpa using s2, HF.out, gb, cap, by first | exact s1 | simpa using s1, by (with_reducible repeat (first | apply Kd.R_drewN | apply Kd.R_drew)); exact HR.out, .inl rfl⟩
 | true =>
  have hRW : Aside0 (Kd.R (Kd.int .i64) 3 (W.drew.drewN nd1) w0.heap.size okP (.slice (some ⟨gb, 0, none⟩) part.length cap) part) := ⟨Kd.R_drewN (Kd.R_drew HR.out) nd1⟩
  have hgb : okP gb := HR.out.1 gb rfl
  obtain ⟨n1, n2, n3⟩ := HOK.out gb hgb
  go_wp2_with ((with_reducible refine gate_builtin (b := .append) (xs := #[.tmp 15, .tmp 17]) rfl ?_); at_builtin; refine Kd.R_append (Kd.int .i64) (w0 := w0) w0.heap.size rfl (.tmp 15) (.tmp 17) 24 3 (.int .i64 0) 8 rfl Try.underlying24 info3 rfl (by decide) (by omega) (.slice (some ⟨gb, 0, none⟩) part.length cap) part x [.int .i64 x] okP (fun _ => False) rfl rfl ?aP (fun _ hk => hk.elim) ?aF ?aO ?aB ?aS ?aL ?_; (case aP => exact rfl); (case aF => intro k hk; exact HFR.out k hk); (case aO => (with_reducible repeat (first | apply Kd.R_alloc | apply Kd.R_drewN | apply Kd.R_drew)); exact HR.out); (case aB => exact (by repeat (first | (with_reducible first | exact HBB.out | apply below_alloc | apply pw_below_drewN | apply below_drew1) | exact HBB.out))); (case aS => exact HBB.out.size); (case aL => omega); intro v1 w3 ho3 hb3 hg3 hat3; have hp3 := cell_grown hg3 s1 (fun e => n1 (by injection e with e; exact e.symm)); have hw3 := cell_grown hg3 s0 (fun e => n3 (by injection e with e; exact e.symm)); have hi3 := cell_grown hg3 s2 (fun e => n2 (by injection e with e; exact e.symm)); have hf3 : w3.frozen? ⟨Bp, 0, none⟩ = false := (World.frozen?_of_block (a := ⟨Bp, 0, none⟩) (hg3.block Bp (World.block_lt_of_cell? _ _ s1) (fun e => n1 (by injection e with e; exact e.symm)))).trans hf2; obtain ⟨gb', cap', ev, hgb', hlt', cells', hcells'⟩ := Kd.R_form ho3 (by rw [List.length_append]; exact Nat.succ_pos _); subst ev)
  go_ret
  have hRk := Kd.R_kept ho3 (Kept.setCell (p := ⟨Bp, 0, none⟩) (Kept.refl w3 (fun k => k = Bp)) (.inl rfl) (.slice (some ⟨gb', 0, none⟩) (part.length + 1) cap')) (fun k hk e => (HOK.out k hk).1 e)
  refine ⟨rfl, hb3.setCell (p := ⟨Bp, 0, none⟩) hbp _, Kept.setCell (p := ⟨Bp, 0, none⟩) (Kept.of_grown hg3 ((Kept.refl W _).drew.drewN nd1) (fun k e => .inl (.inr (by injection e with e; exact e.symm)))) (.inl (.inl rfl)) _,
   (cell_far (p := ⟨Bp, 0, none⟩) (fun e => hpi.2 e.symm) _).trans hw3, (cell_far (p := ⟨Bp, 0, none⟩) (fun e => hpi.1 e.symm) _).trans hi3, by rw [World.frozen?_setCell]; exact hf3, gb', cap', World.cell?_setCell_same' _ _ _ (by rw [hp3]; rfl), by simpa using hRk, ?_⟩
  rcases hat3 with h | ⟨b', h, hle⟩
  ·
   exact .inl (by injection h)
  ·
   exact .inr (by injection h with h; have h5 : gb' = b' := h; rw [h5]; exact hle)
/-- What the boxes of one part hold. -/
def PartAt (w0 W : World) (wide : Int) (Bw Bp Bi gl i : Nat) (part : List Int) (gp : Nat) : Prop := ∃ cap : Nat, W.cell? ⟨Bw, 0, none⟩ = some (.int .i64 wide) ∧ W.cell? ⟨Bi, 0, none⟩ = some (.int .i64 (i : Int)) ∧ W.cell? ⟨Bp, 0, none⟩ = some (.slice (some ⟨gp, 0, none⟩) part.length cap) ∧ W.frozen? ⟨Bp, 0, none⟩ = false ∧
 Kd.R (Kd.int .i64) 3 W w0.heap.size (fun k => k ≠ Bp ∧ k ≠ Bi ∧ k ≠ Bw ∧ k ≠ gl) (.slice (some ⟨gp, 0, none⟩) part.length cap) part
set_option maxHeartbeats 4000000 in
/-- One cell of the part is done with: what is next to it has come to the part, and is gone from what is left. -/
theorem partRound.calls (p : Int → Bool) (wide : Int) (i : Nat) (part left : List Int) (Bw Bp Bi gl off cl gp : Nat) (w0 W : World) (hB : Below w0.heap.size w0 W) (hbp : w0.heap.size ≤ Bp) (hgl : w0.heap.size ≤ gl)
  (d1 : Bp ≠ Bi ∧ Bp ≠ Bw) (d2 : gl ≠ Bp ∧ gl ≠ Bi ∧ gl ≠ Bw) (hP : PartAt w0 W wide Bw Bp Bi gl i part gp) (hR : RowAt W gl off left) (hc : left.length ≤ cl) (hoff : off ≤ 1000) (hil : i < part.length) (hl : part.length + left.length ≤ 1000)
  (hn : ∀ x ∈ left, impl_areConnected.f wide (part.getD i 0) x = some (p x)) :
  Calls Try.prog 31 #[.slice (some ⟨gl, off, none⟩) left.length cl, .func (.func 45) #[] #[.pointer (some ⟨Bw, 0, none⟩), .pointer (some ⟨Bp, 0, none⟩), .pointer (some ⟨Bi, 0, none⟩)]] W fun e w' =>
   e = .returned (.slice (some ⟨gl, off, none⟩) (left.filter fun x => !p x).length cl) ∧ RowAt w' gl off (left.filter fun x => !p x) ∧ Below w0.heap.size w0 w' ∧ Kept W w' (fun k => k = gl ∨ (k = Bp ∨ W.heap.size ≤ k ∨ k = gp)) ∧ W.heap.size ≤ w'.heap.size ∧
   ∃ gp', (gp' = gp ∨ W.heap.size ≤ gp') ∧ PartAt w0 w' wide Bw Bp Bi gl i (part ++ left.filter p) gp' := by
 have hgp : gp ≠ gl := by
  obtain ⟨cap, _, _, _, _, h5⟩ := hP
  exact (h5.1 gp rfl).2.2.2
 have hltp : Bp < W.heap.size ∧ Bi < W.heap.size ∧ Bw < W.heap.size := by
  obtain ⟨cap, h1, h2, h3, _, _⟩ := hP
  exact ⟨World.block_lt_of_cell? W _ h3, World.block_lt_of_cell? W _ h2, World.block_lt_of_cell? W _ h1⟩
 have hltl := hR.lt
 refine (DeleteFuncA.calls 45 _ p (enters_of Try.func45 (by kernel_rfl) rfl) (fun k => k = Bp ∨ W.heap.size ≤ k ∨ k = gp)
  (fun pre W' => W.heap.size ≤ W'.heap.size ∧ ∃ gb, (gb = gp ∨ W.heap.size ≤ gb) ∧ PartAt w0 W' wide Bw Bp Bi gl i (part ++ pre.filter p) gb) gl off cl left w0 W (fun h => ?_) hgl hc ?_ hB hR (by omega) (by omega) ?_ ?_).mono ?_
 ·
  rcases h with h | h | h
  ·
   exact d2.1 h
  ·
   omega
  ·
   exact hgp h.symm
 ·
  rintro pre W1 j v ⟨hs, gb, hg, cap, h1, h2, h3, h4, h5⟩
  refine ⟨by simpa [World.setCell] using hs, gb, hg, cap, (cell_far (p := ⟨gl, j, none⟩) (fun e => d2.2.2 e.symm) _).trans h1, (cell_far (p := ⟨gl, j, none⟩) (fun e => d2.2.1 e.symm) _).trans h2, (cell_far (p := ⟨gl, j, none⟩) (fun e => d2.1 e.symm) _).trans h3, by rw [World.frozen?_setCell]; exact h4, ?_⟩
  exact Kd.R_kept h5 (Kept.setCell (p := ⟨gl, j, none⟩) (Kept.refl W1 (fun k => k = gl)) (.inl rfl) v) (fun k hk e => hk.2.2.2 e)
 ·
  refine ⟨Nat.le_refl _, gp, .inl rfl, ?_⟩
  rw [List.filter_nil, List.append_nil]
  exact hP
 ·
  rintro pre x post W1 e hB1 ⟨hs, gb, hg, cap, h1, h2, h3, h4, h5⟩
  have hxl : x ∈ left := by rw [e]; simp
  have hpl : pre.length ≤ left.length := by rw [e, List.length_append]; omega
  have hfl := List.length_filter_le p pre
  refine (RPF1.calls wide x (part.getD i 0) (p x) i (part ++ pre.filter p) Bw Bp Bi gb cap (fun k => k ≠ Bp ∧ k ≠ Bi ∧ k ≠ Bw ∧ k ≠ gl) w0 W1 hB1 hbp h1 h2 h3 h4 h5 (fun k hk => ⟨by omega, by omega, by omega, by omega⟩) (fun k hk => ⟨hk.1, hk.2.1, hk.2.2.1⟩) d1
   (by rw [List.length_append]; omega) (by rw [List.length_append]; omega) (by rw [List.getD_eq_getElem?_getD, List.getElem?_append_left hil, ← List.getD_eq_getElem?_getD]) (hn x hxl)).mono ?_
  rintro e' w' ⟨r1, r2, r3, r4, r5, r6, gb', cap', r7, r8, r9⟩
  have hcomb : (if p x = true then part ++ pre.filter p ++ [x] else part ++ pre.filter p) = part ++ (pre ++ [x]).filter p := by
   rw [List.filter_append]
   cases hq : p x with
   | true => rw [if_pos rfl, List.append_assoc, List.filter_cons, hq]; rfl
   | false => rw [if_neg (by decide), List.filter_cons, hq]; simp
  rw [hcomb] at r7 r8
  refine ⟨r1, ⟨Nat.le_trans hs r3.1, gb', ?_, cap', r4, r5, r7, r6, r8⟩, r2, r3.mono (fun k hk => ?_)⟩
  ·
   rcases r9 with r9 | r9
   ·
    rw [r9]; exact hg
   ·
    exact .inr (Nat.le_trans hs r9)
  ·
   rcases hk with hk | hk
   ·
    exact .inl hk
   ·
    rcases hg with hg | hg
    ·
     exact .inr (.inr (hk.trans hg))
    ·
     exact .inr (.inl (by omega))
 ·
  rintro e' w' ⟨r1, r2, ⟨r3, gb', r4, r5⟩, r6, r7⟩
  exact ⟨r1, r2, r6, r7, r3, gb', r4, r5⟩
/-- A part grows: for each of its cells what is next to it comes from what is left. -/
def growP (near : Int → Int → Bool) : Nat → List Int → List Int → Nat → List Int × List Int
 | 0, part, left, _ => (part, left)
 | n + 1, part, left, i => if i < part.length then growP near n (part ++ left.filter (near (part.getD i 0))) (left.filter fun x => !near (part.getD i 0) x) (i + 1) else (part, left)
/-- The parts, each in order. -/
def partsS (near : Int → Int → Bool) : Nat → List Int → List (List Int)
 | 0, _ => []
 | _ + 1, [] => []
 | n + 1, c :: r => ((growP near (r.length + 1) [c] r 0).1.mergeSort fun x y => decide (x ≤ y)) :: partsS near n (growP near (r.length + 1) [c] r 0).2
theorem growP_done (near : Int → Int → Bool) {part : List Int} {i : Nat} (h : ¬ i < part.length) (left : List Int) : ∀ n, growP near n part left i = (part, left)
 | 0 => rfl
 | n + 1 => by unfold growP; rw [if_neg h]
theorem length_split (p : Int → Bool) : ∀ l : List Int, l.length = (l.filter p).length + (l.filter fun x => !p x).length
 | [] => rfl
 | x :: r => by
  have := length_split p r
  cases h : p x <;> simp [List.filter_cons, h] <;> omega
theorem partsS_nil (near : Int → Int → Bool) : ∀ n, partsS near n [] = []
 | 0 => rfl
 | _ + 1 => rfl
theorem getD_mem {l : List Int} {i : Nat} (h : i < l.length) : l.getD i 0 ∈ l := by
 rw [Gen.getD_lt l 0 i h]; exact List.getElem_mem h
theorem R_one (W : World) (base : Nat) (ok : Nat → Prop) (x : Int) (hb : base ≤ W.heap.size) (hok : ok W.heap.size) : Kd.R (Kd.int .i64) 3 (W.alloc (.cells #[.int .i64 x] 3)) base ok (.slice (some ⟨W.heap.size, 0, none⟩) 1 1) [x] :=
 Kd.R_of_own (own_lit W base 3 .i64 [x] hb (by simp)) (fun k hk => by
  have : W.heap.size = k := by simpa [Value.ownBlock] using hk
  rw [← this]; exact hok)
theorem R_int_ok {W : World} {b g n c : Nat} {ok ok' : Nat → Prop} {xs : List Int} (h : Kd.R (Kd.int .i64) 3 W b ok (.slice (some ⟨g, 0, none⟩) n c) xs) (hg : ok' g) : Kd.R (Kd.int .i64) 3 W b ok' (.slice (some ⟨g, 0, none⟩) n c) xs :=
 Kd.R_of_own (Kd.own_of_R h) (fun k hk => by
  have : g = k := by simpa [Value.ownBlock] using hk
  rw [← this]; exact hg)
/-- slices.Sort at a row of the call's own. -/
theorem sortRP.calls (P0_ : Nat → Prop) (u : Value) (l0 : List Int) (w0 w : World) (hB : Below w0.heap.size w0 w) (ho0 : Kd.R (Kd.int .i64) 3 w w0.heap.size P0_ u l0) (h0 : 0 < l0.length) (hs : l0.length < 4611686018427387904) :
  Calls Try.prog 30 #[u] w fun e w' => e = .returned (.tuple #[]) ∧ Kd.R (Kd.int .i64) 3 w' w0.heap.size P0_ u (l0.mergeSort fun x y => decide (x ≤ y)) ∧ Below w0.heap.size w0 w' ∧ w.grownBy w' u.ownBlock := by
 have hok := ho0.1
 have ho := Kd.own_of_R ho0
 obtain ⟨hlen, hor⟩ := ho
 rcases hor with ⟨rfl, hn⟩ | ⟨g, cap, cur, rfl, hg, hh, hncap, hcap, hcs, htk⟩
 ·
  omega
 rw [Nat.mul_one] at htk
 refine (Try.slices_Sort_int g 0 cap l0 w (Go.holds_of_blockI hh htk) (blk_lt hh) hs).mono ?_
 rintro e w' ⟨rfl, n, os, rfl⟩
 have hl : (l0.mergeSort fun x y => decide (x ≤ y)).length = l0.length := List.length_mergeSort _
 refine ⟨rfl, Kd.R_of_own ?_ hok, hB.grown (Go.grownBy_sortedI _) hB.size (fun k hk => by cases hk; exact hg), Go.grownBy_sortedI _⟩
 rw [hl]
 exact Go.ownsRow_sortedI hl hg hh hncap hcap hcs
/-- A part of one cell, in boxes of its own. -/
theorem PartAt_new (w0 W : World) (wide c : Int) (Bw gl : Nat) (hw : W.cell? ⟨Bw, 0, none⟩ = some (.int .i64 wide)) (hb : w0.heap.size ≤ W.heap.size) (hgl : gl < W.heap.size) (e : Nat) :
  PartAt w0 (((W.alloc (.cells #[.int .i64 c] 3)).alloc (.cells #[.slice (some ⟨W.heap.size, 0, none⟩) 1 1] e)).alloc (.cells #[.int .i64 0] 3)) wide Bw (W.heap.size + 1) (W.heap.size + 2) gl 0 [c] W.heap.size := by
 have hlt : Bw < W.heap.size := World.block_lt_of_cell? W _ hw
 obtain ⟨W1, hW1⟩ : ∃ W1, W1 = W.alloc (.cells #[.int .i64 c] 3) := ⟨_, rfl⟩
 obtain ⟨W2, hW2⟩ : ∃ W2, W2 = W1.alloc (.cells #[.slice (some ⟨W.heap.size, 0, none⟩) 1 1] e) := ⟨_, rfl⟩
 have s1 : W1.heap.size = W.heap.size + 1 := by rw [hW1, World.size_alloc]
 have s2 : W2.heap.size = W.heap.size + 2 := by rw [hW2, World.size_alloc, s1]
 have b1 : Below W.heap.size W W1 := by rw [hW1]; exact (Below.refl _ W).alloc (Nat.le_refl _) _
 have b2 : Below W1.heap.size W1 W2 := by rw [hW2]; exact (Below.refl _ W1).alloc (Nat.le_refl _) _
 have b3 : Below W2.heap.size W2 (W2.alloc (.cells #[.int .i64 0] 3)) := (Below.refl _ W2).alloc (Nat.le_refl _) _
 have n2 : W2.heap[W1.heap.size]? = some (.cells #[.slice (some ⟨W.heap.size, 0, none⟩) 1 1] e (0, 0)) := by rw [hW2]; exact heap_alloc_new W1 _
 have n3 : (W2.alloc (.cells #[.int .i64 0] 3)).heap[W2.heap.size]? = some (.cells #[.int .i64 0] 3 (0, 0)) := heap_alloc_new W2 _
 have r1 := R_one W w0.heap.size (fun k => k ≠ W.heap.size + 1 ∧ k ≠ W.heap.size + 2 ∧ k ≠ Bw ∧ k ≠ gl) c hb ⟨by omega, by omega, by omega, by omega⟩
 rw [← hW1] at r1 ⊢
 rw [← hW2]
 rw [s2] at n3
 rw [s1] at n2
 have n4 := blk_below n2 b3
 exact ⟨1, (b3.cell (p := ⟨Bw, 0, none⟩) (by show Bw < _; omega)).trans ((b2.cell (p := ⟨Bw, 0, none⟩) (by show Bw < _; omega)).trans ((b1.cell (p := ⟨Bw, 0, none⟩) hlt).trans hw)), blk_cell n3 0, blk_cell n4 0, blk_frozen n4 0, Kd.R_below (Kd.R_below r1 b2) b3⟩
set_option maxHeartbeats 8000000 in
set_option maxRecDepth 1000000 in
theorem regionPartsW.calls
  (near : Int → Int → Bool) (wide : Int) (A0 : Option Addr) (c0 : Nat) (l : List Int) (w : World) (hr0 : Kd.C (Kd.int .i64) w A0 l.length l) (hc0 : l.length ≤ c0) (hl : l.length ≤ 999) (hnear : ∀ a ∈ l, ∀ x ∈ l, impl_areConnected.f wide a x = some (near a x)) :
  Calls Try.prog 28 #[.int .i64 wide, .slice A0 l.length c0] w fun e w' => ∃ v0_ : Value, e = .returned v0_ ∧ Kd.S (Kd.slice 3 (Kd.int .i64)) 24 w' w.heap.size (fun _ => True) v0_ (partsS near l.length l) ∧ Below w.heap.size w w' := by
 have HN := Aside0.mk hnear
 have HR := Aside0.mk hr0
 have HC := Aside0.mk hc0
 obtain ⟨W1, hW1⟩ : ∃ W1, W1 = w.alloc (.cells #[.int .i64 wide] 3) := ⟨_, rfl⟩
 have hB1 : Below w.heap.size w W1 := by rw [hW1]; exact (Below.refl _ w).alloc (Nat.le_refl _) _
 have hN1 : W1.heap[w.heap.size]? = some (.cells #[.int .i64 wide] 3 (0, 0)) := by rw [hW1]; exact heap_alloc_new w _
 have HW := Aside0.mk hW1
 have HB1 := Aside0.mk hB1
 have HN1 := Aside0.mk hN1
 clear hnear hr0 hc0 hW1 hB1 hN1
 go_enter Try.func28, Try.ntmps28
 go_wp2_with (go_at_call 22; rw [← HW.out]; refine (slices_Clone_int_int.calls A0 c0 l l W1 (Kd.C_below HR.out HB1.out) HC.out (if_pos (by omega))).mono ?_; rintro e w2 ⟨v2, rfl, ho2, hb2⟩)
 obtain ⟨Al0, cl0, ev2⟩ := Kd.R_slice ho2
 subst ev2
 have hBw2 : w2.heap[w.heap.size]? = some (.cells #[.int .i64 wide] 3 (0, 0)) := blk_below HN1.out hb2
 have HB2 := Aside0.mk (below_step HB1.out hb2)
 have hW1s : W1.heap.size = w.heap.size + 1 := by rw [HW.out, World.size_alloc]
 obtain ⟨gl, hgl, hfirst⟩ : ∃ gl : Nat, gl < w2.heap.size ∧ (0 < l.length → w.heap.size < gl ∧ ∃ off : Nat, Al0 = some ⟨gl, off, none⟩ ∧ RowAt w2 gl off l ∧ off + l.length ≤ 1000) := by
  by_cases h : 0 < l.length
  ·
   obtain ⟨g, cap, ev, hg, hlt, cs, hcs⟩ := Kd.R_form ho2 h
   injection ev with e1 _ _
   refine ⟨g, hlt, fun _ => ⟨by omega, 0, e1, ⟨cs, hcs, fun t ht => ?_⟩, by omega⟩⟩
   subst e1
   have := (Kd.R_celln 0 ho2 (t : Int) (by omega) (by omega)).1
   rw [Int.toNat_natCast] at this
   rw [Nat.zero_add]
   exact (blk_cell hcs t).symm.trans this
  ·
   exact ⟨w.heap.size, blk_lt hBw2, fun h2 => absurd h2 h⟩
 have HF := Aside0.mk hfirst
 have hcl0 := (Kd.R_reads' ho2).2.1
 have hgl2 := Aside0.mk hgl
 clear hfirst ho2 hb2 hW1s hgl
 have hbw := Aside0.mk hBw2
 clear hBw2
 go_loopg [5, 6] (l.length + 1) (fun gg s5 s6 wr => ∃ (left : List Int) (Al : Option Addr) (cl : Nat) (pl : List (List Int)), s6 = .slice Al left.length cl ∧ left.length < gg ∧ left.length ≤ cl ∧ pl.length + left.length ≤ l.length ∧ Aside0 (∀ x ∈ left, x ∈ l) ∧
  Aside0 (0 < left.length → w.heap.size < gl ∧ ∃ off : Nat, Al = some ⟨gl, off, none⟩ ∧ RowAt wr gl off left ∧ off + left.length ≤ 1000) ∧ Aside0 (gl < wr.heap.size) ∧ Aside0 (Kd.S (Kd.slice 3 (Kd.int .i64)) 24 wr w.heap.size (fun k => k ≠ gl ∧ k ≠ w.heap.size) s5 pl) ∧
  Aside0 (∃ n, left.length ≤ n ∧ pl ++ partsS near n left = partsS near l.length l) ∧ Aside0 (wr.heap[w.heap.size]? = some (.cells #[.int .i64 wide] 3 (0, 0))) ∧ Aside0 (Below w.heap.size w wr))
 case atStart => exact ⟨l, Al0, cl0, [], rfl, by omega, hcl0, by rw [List.length_nil]; omega, ⟨fun x h => h⟩, HF, hgl2, ⟨Kd.S_nil _ _ _ _ _⟩, ⟨l.length, Nat.le_refl _, rfl⟩, hbw, HB2⟩
 case round =>
  obtain ⟨left, Al, cl, pl, rfl, hgg, hlc, hhl, HL, HA, HGL, HP, HQ, HW2, HB⟩ := hrel
  cases left with
  | nil =>
   go_wp2
   go_ret
   obtain ⟨n, hn, he⟩ := HQ.out
   rw [partsS_nil, List.append_nil] at he
   exact ⟨_, rfl, by rw [← he]; exact Kd.S_mono HP.out (fun _ _ => trivial), HB.out⟩
  | cons c r =>
   obtain ⟨hglw, off, rfl, hrow, hoff⟩ := HA.out (by simp)
   have hx0 := (hrow.cell (t := 0) (by simp)).1
   rw [Nat.add_zero] at hx0
   have HM1 : Aside0 ((c :: r).length = r.length + 1) := ⟨List.length_cons⟩
   generalize hmE : (c :: r).length = m at hgg hlc hhl hoff HM1 hx0 ⊢
   have hm1 : 0 < m := by have := HM1.out; omega
   have hm2 : ((m : Int) > 0) = True := eq_true (by omega)
   have hm3 : ((1 : Int) ≤ (m : Int)) = True := eq_true (by omega)
   clear hmE
   have HM : Aside0 (∀ x, x ∈ [c] ∨ x ∈ r → x ∈ l) := ⟨fun x hx => HL.out x (by rcases hx with h | h; exact List.mem_cons.2 (.inl (List.mem_singleton.1 h)); exact List.mem_cons.2 (.inr h))⟩
   have HROW := Aside0.mk hrow
   have hgl3 := hrow.lt
   have hwr := HB.out.size
   have HPART := Aside0.mk (PartAt_new w wr wide c w.heap.size gl (blk_cell HW2.out 0) hwr hgl3 24)
   clear HA
   by_cases hcl : cl = 1
   ·
    subst hcl
    have hmv : m = 1 := by omega
    subst hmv
    have HR0 : Aside0 (r.length = 1 - 1) := ⟨by have := HM1.out; omega⟩
    have HROF : Aside0 (RowAt wr gl off r) := ⟨by rw [List.eq_nil_of_length_eq_zero HR0.out]; exact hrow.take 0⟩
    clear hrow

    go_wp2
    obtain ⟨fo, hfo⟩ : ∃ fo, fo = gk := ⟨_, rfl⟩
    subst hfo
    obtain ⟨wo, hwo⟩ : ∃ wo, wo = wr := ⟨_, rfl⟩
    subst hwo
    go_loopg [6, 8] (1 + 1) (fun gg s6 s8 wi => ∃ (i gp Bi : Nat) (part left2 : List Int), s6 = .slice (some ⟨gl, off, none⟩) left2.length 0 ∧ s8 = .pointer (some ⟨Bi, 0, none⟩) ∧ part.length + left2.length = 1 ∧ 1 ≤ part.length ∧ i ≤ part.length ∧ 1 + 1 - i ≤ gg ∧ wo.heap.size ≤ gp ∧ wo.heap.size + 2 ≤ Bi ∧
     Aside0 (∀ x, x ∈ part ∨ x ∈ left2 → x ∈ l) ∧ Aside0 (growP near (1 - i) part left2 i = growP near (r.length + 1) [c] r 0) ∧ Aside0 (PartAt w wi wide w.heap.size (wo.heap.size + 1) Bi gl i part gp) ∧ Aside0 (RowAt wi gl off left2) ∧ Aside0 (Below w.heap.size w wi) ∧ Aside0 (Kept wo wi (fun k => k = gl)))
    case atStart =>
     refine ⟨0, wo.heap.size, wo.heap.size + 2, [c], r, by rw [HR0.out], rfl, by have := HR0.out; rw [List.length_singleton]; omega, by simp, by simp, by omega, Nat.le_refl _, Nat.le_refl _, ⟨HM.out⟩, ⟨congrArg (fun n => growP near n [c] r 0) (show 1 - 0 = r.length + 1 by have := HR0.out; omega)⟩, HPART, ?_, ?_, ?_⟩
     ·
      exact ⟨HROF.out.kept (((Kept.refl wo (fun _ => False)).alloc _).alloc _ |>.alloc _) (fun h => h)⟩
     ·
      exact ⟨((HB.out.alloc hwr _).alloc (by simp; omega) _).alloc (by simp; omega) _⟩
     ·
      exact ⟨((Kept.refl wo _).alloc _).alloc _ |>.alloc _⟩
    case round =>
     obtain ⟨i, gp, Bi, part, left2, rfl, rfl, hpl, hp1, hil, hgi, hgp, hBi, HMi, HGi, HPi, HRi, HBi, HKi⟩ := hrel
     obtain ⟨cap, c1, c2, c3, c4, c5⟩ := HPi.out
     by_cases hlt : i < part.length
     ·
      have hltz : ((i : Int) < (part.length : Int)) = True := eq_true (by omega)
      obtain ⟨y, hy⟩ : ∃ y, part.getD i 0 = y := ⟨_, rfl⟩
      have HY := Aside0.mk hy
      clear hy
      go_wp2_with (go_at_call 31; refine (partRound.calls (near y) wide i part left2 w.heap.size (wo.heap.size + 1) Bi gl off 0 gp w wr HBi.out (by omega) (by omega) ⟨by omega, by omega⟩ ⟨by omega, by omega, by omega⟩ HPi.out HRi.out (by omega) (by omega) hlt (by omega) (fun x hx => by rw [HY.out]; exact HN.out _ (HMi.out _ (.inl (by rw [← HY.out]; exact getD_mem hlt))) _ (HMi.out _ (.inr hx)))).mono ?_; rintro e w3 ⟨rfl, k1, k2, k3, k4, gp3, k5, cap3, b1, b2, b3, b4, b5⟩)
      have hs3 : wo.heap.size ≤ wr.heap.size := HKi.out.1
      have hlen := length_split (near y) left2
      have hgrow : growP near (1 - (i + 1)) (part ++ left2.filter (near y)) (left2.filter fun x => !near y x) (i + 1) = growP near (r.length + 1) [c] r 0 := by
       rw [← HGi.out, show 1 - i = (1 - (i + 1)) + 1 by omega, growP, if_pos hlt, HY.out]
      obtain ⟨W5, hW5⟩ : ∃ W5, W5 = w3.alloc (.cells #[.int .i64 ((i : Int) + 1)] 3) := ⟨_, rfl⟩
      have q1 : Below w3.heap.size w3 W5 := by rw [hW5]; exact (Below.refl _ w3).alloc (Nat.le_refl _) _
      have q2 : W5.heap[w3.heap.size]? = some (.cells #[.int .i64 ((i : Int) + 1)] 3 (0, 0)) := by rw [hW5]; exact heap_alloc_new w3 _
      rw [← hW5]
      go_roundg (1 + 1 - (i + 1))
      case measure => omega
      case rel =>
       have l1 : w.heap.size < w3.heap.size := by omega
       have l2 : wo.heap.size + 1 < w3.heap.size := World.block_lt_of_cell? w3 _ b3
       have l4 : gl < w3.heap.size := k1.lt
       refine ⟨i + 1, gp3, w3.heap.size, part ++ left2.filter (near y), left2.filter fun x => !near y x, rfl, rfl, by rw [List.length_append]; omega, by rw [List.length_append]; omega, by rw [List.length_append]; omega, by omega, by omega, by omega, ⟨?_⟩, ⟨hgrow⟩, ⟨cap3, ?_, ?_, ?_, ?_, ?_⟩, ⟨?_⟩, ⟨?_⟩, ⟨?_⟩⟩
       ·
        intro x hx
        rcases hx with h | h
        ·
         rcases List.mem_append.1 h with h | h
         ·
          exact HMi.out x (.inl h)
         ·
          exact HMi.out x (.inr (List.mem_filter.1 h).1)
        ·
         exact HMi.out x (.inr (List.mem_filter.1 h).1)
       ·
        exact (q1.cell (p := ⟨w.heap.size, 0, none⟩) l1).trans b1
       ·
        rw [Int.natCast_add]; exact blk_cell q2 0
       ·
        exact (q1.cell (p := ⟨wo.heap.size + 1, 0, none⟩) l2).trans b3
       ·
        exact (World.frozen?_of_block (a := ⟨wo.heap.size + 1, 0, none⟩) (q1.block _ l2)).trans b4
       ·
        have l5 := b5.1 gp3 rfl
        have l6 := Kd.R_lt b5 gp3 rfl
        exact R_int_ok (Kd.R_below b5 q1) ⟨l5.1, by omega, l5.2.2.1, l5.2.2.2⟩
       ·
        exact k1.kept (Kept.of_below q1 (fun _ => False)) (fun h => h)
       ·
        exact k2.trans (q1.mono (by omega))
       ·
        exact (HKi.out.then_ k3 (fun k hk => by rcases hk with h | h | h | h; exact .inl h; exact .inr (by omega); exact .inr (by omega); exact .inr (by omega))).below q1
     ·
      have hltz : ((i : Int) < (part.length : Int)) = False := eq_false (by omega)
      have hs5 := Kd.S_lt HP.out
      have hgp1 := (c5.1 gp rfl).1
      have hsz := HKi.out.1
      have hne1 : some (wo.heap.size + 1) ≠ (Value.slice (some ⟨gp, 0, none⟩) part.length cap).ownBlock := fun e => hgp1 (by injection e with e; exact e.symm)
      go_wp2_with (first
       | (go_at_call 30; refine (sortRP.calls _ _ part w wr HBi.out c5 (by omega) (by omega)).mono ?_; rintro e w3 ⟨rfl, k1, k2, k3⟩; have b3 := cell_grown (a := ⟨wo.heap.size + 1, 0, none⟩) k3 c3 hne1; have k4 := k3.size)
       | ((with_reducible refine gate_builtin (b := .append) (xs := #[.tmp 32, .tmp 34]) rfl ?_); at_builtin; refine Kd.S_append (Kd.slice 3 (Kd.int .i64)) (w0 := w) w.heap.size rfl (.tmp 32) (.tmp 34) 49 24 (.slice none 0 0) 24 rfl Try.underlying49 info24 rfl (by decide) (by omega) u5 pl (part.mergeSort fun x y => decide (x ≤ y)) [.slice (some ⟨gp, 0, none⟩) part.length cap] (fun k => k ≠ gl ∧ k ≠ w.heap.size) (fun k => k = gp) rfl rfl ?aP ?aK ?aF ?aO ?aB ?aS ?aL ?_; (case aP => exact ⟨_, rfl, R_int_ok k1 rfl⟩); (case aK => intro k hk; subst hk; exact ⟨⟨by omega, by omega⟩, fun e => absurd (hs5 _ e.symm) (by omega)⟩); (case aF => intro k hk; exact ⟨by omega, by omega⟩); (case aO => exact Kd.S_mono (Kd.S_step (Kd.S_bound HP.out) (fun k hk hk2 => (k3.block k (by omega) (fun e => by have e2 : some k = some gp := e; injection e2 with e3; omega)).trans (HKi.out.2 k hk2 hk.1.1))) (fun k hk => ⟨hk.1, fun e => by have := hk.2.2.1; omega⟩)); (case aB => exact k2); (case aS => exact k2.size); (case aL => omega); intro v9 w9 ho9 hb9 hg9 hat9))
      have hdone : (part, left2) = growP near (r.length + 1) [c] r 0 := by rw [← HGi.out]; exact (growP_done near hlt left2 _).symm
      have hbig : ∀ k, k < wr.heap.size → k ≠ gp → u5.ownBlock ≠ some k → w9.heap[k]? = wr.heap[k]? := fun k q1 q2 q3 => (hg9.block k (by omega) (fun e => q3 e.symm)).trans (k3.block k q1 (fun e => by have e2 : some k = some gp := e; injection e2 with e3; omega))
      have hn1 : u5.ownBlock ≠ some gl := fun e => ((Kd.S_R HP.out).1 gl e).1 rfl
      have hn2 : u5.ownBlock ≠ some w.heap.size := fun e => ((Kd.S_R HP.out).1 _ e).2 rfl
      have hgpx := c5.1 gp rfl
      have hsz9 := hg9.size
      have hglr := HRi.out.lt
      have hw0 := World.block_lt_of_cell? wr _ c1
      go_roundg 1
      case measure => omega
      case rel =>
       refine ⟨left2, some ⟨gl, off, none⟩, 0, pl ++ [part.mergeSort fun x y => decide (x ≤ y)], rfl, by omega, by omega, by rw [List.length_append, List.length_singleton]; omega, ⟨fun x hx => HMi.out x (.inr hx)⟩, ⟨fun _ => ⟨hglw, off, rfl, ?_, by omega⟩⟩, ⟨by omega⟩, ⟨ho9⟩, ⟨?_⟩, ⟨?_⟩, ⟨hb9⟩⟩
       ·
        obtain ⟨cs, h1, h2⟩ := HRi.out
        exact ⟨cs, (hbig gl hglr (fun e => hgpx.2.2.2 e.symm) hn1).trans h1, h2⟩
       ·
        obtain ⟨n, hn, he⟩ := HQ.out
        rw [List.length_cons] at hn
        obtain ⟨n', rfl⟩ : ∃ n', n = n' + 1 := ⟨n - 1, by omega⟩
        have hM1 := HM1.out
        refine ⟨n', by omega, ?_⟩
        rw [← he, partsS, ← hdone, List.append_assoc]
        rfl
       ·
        refine (hbig w.heap.size (by omega) (fun e => hgpx.2.2.1 e.symm) hn2).trans ?_
        exact (HKi.out.2 _ (by omega) (by omega)).trans HW2.out

   ·
    have HR0 : Aside0 (r.length = m - 1) := ⟨by have := HM1.out; omega⟩
    have HROF : Aside0 (RowAt wr gl (off + 1) r) := ⟨hrow.tail⟩
    clear hrow

    go_wp2
    obtain ⟨fo, hfo⟩ : ∃ fo, fo = gk := ⟨_, rfl⟩
    subst hfo
    obtain ⟨wo, hwo⟩ : ∃ wo, wo = wr := ⟨_, rfl⟩
    subst hwo
    go_loopg [6, 8] (m + 1) (fun gg s6 s8 wi => ∃ (i gp Bi : Nat) (part left2 : List Int), s6 = .slice (some ⟨gl, (off + 1), none⟩) left2.length (cl - 1) ∧ s8 = .pointer (some ⟨Bi, 0, none⟩) ∧ part.length + left2.length = m ∧ 1 ≤ part.length ∧ i ≤ part.length ∧ m + 1 - i ≤ gg ∧ wo.heap.size ≤ gp ∧ wo.heap.size + 2 ≤ Bi ∧
     Aside0 (∀ x, x ∈ part ∨ x ∈ left2 → x ∈ l) ∧ Aside0 (growP near (m - i) part left2 i = growP near (r.length + 1) [c] r 0) ∧ Aside0 (PartAt w wi wide w.heap.size (wo.heap.size + 1) Bi gl i part gp) ∧ Aside0 (RowAt wi gl (off + 1) left2) ∧ Aside0 (Below w.heap.size w wi) ∧ Aside0 (Kept wo wi (fun k => k = gl)))
    case atStart =>
     refine ⟨0, wo.heap.size, wo.heap.size + 2, [c], r, by rw [HR0.out], rfl, by have := HR0.out; rw [List.length_singleton]; omega, by simp, by simp, by omega, Nat.le_refl _, Nat.le_refl _, ⟨HM.out⟩, ⟨congrArg (fun n => growP near n [c] r 0) (show m - 0 = r.length + 1 by have := HR0.out; omega)⟩, HPART, ?_, ?_, ?_⟩
     ·
      exact ⟨HROF.out.kept (((Kept.refl wo (fun _ => False)).alloc _).alloc _ |>.alloc _) (fun h => h)⟩
     ·
      exact ⟨((HB.out.alloc hwr _).alloc (by simp; omega) _).alloc (by simp; omega) _⟩
     ·
      exact ⟨((Kept.refl wo _).alloc _).alloc _ |>.alloc _⟩
    case round =>
     obtain ⟨i, gp, Bi, part, left2, rfl, rfl, hpl, hp1, hil, hgi, hgp, hBi, HMi, HGi, HPi, HRi, HBi, HKi⟩ := hrel
     obtain ⟨cap, c1, c2, c3, c4, c5⟩ := HPi.out
     by_cases hlt : i < part.length
     ·
      have hltz : ((i : Int) < (part.length : Int)) = True := eq_true (by omega)
      obtain ⟨y, hy⟩ : ∃ y, part.getD i 0 = y := ⟨_, rfl⟩
      have HY := Aside0.mk hy
      clear hy
      go_wp2_with (go_at_call 31; refine (partRound.calls (near y) wide i part left2 w.heap.size (wo.heap.size + 1) Bi gl (off + 1) (cl - 1) gp w wr HBi.out (by omega) (by omega) ⟨by omega, by omega⟩ ⟨by omega, by omega, by omega⟩ HPi.out HRi.out (by omega) (by omega) hlt (by omega) (fun x hx => by rw [HY.out]; exact HN.out _ (HMi.out _ (.inl (by rw [← HY.out]; exact getD_mem hlt))) _ (HMi.out _ (.inr hx)))).mono ?_; rintro e w3 ⟨rfl, k1, k2, k3, k4, gp3, k5, cap3, b1, b2, b3, b4, b5⟩)
      have hs3 : wo.heap.size ≤ wr.heap.size := HKi.out.1
      have hlen := length_split (near y) left2
      have hgrow : growP near (m - (i + 1)) (part ++ left2.filter (near y)) (left2.filter fun x => !near y x) (i + 1) = growP near (r.length + 1) [c] r 0 := by
       rw [← HGi.out, show m - i = (m - (i + 1)) + 1 by omega, growP, if_pos hlt, HY.out]
      obtain ⟨W5, hW5⟩ : ∃ W5, W5 = w3.alloc (.cells #[.int .i64 ((i : Int) + 1)] 3) := ⟨_, rfl⟩
      have q1 : Below w3.heap.size w3 W5 := by rw [hW5]; exact (Below.refl _ w3).alloc (Nat.le_refl _) _
      have q2 : W5.heap[w3.heap.size]? = some (.cells #[.int .i64 ((i : Int) + 1)] 3 (0, 0)) := by rw [hW5]; exact heap_alloc_new w3 _
      rw [← hW5]
      go_roundg (m + 1 - (i + 1))
      case measure => omega
      case rel =>
       have l1 : w.heap.size < w3.heap.size := by omega
       have l2 : wo.heap.size + 1 < w3.heap.size := World.block_lt_of_cell? w3 _ b3
       have l4 : gl < w3.heap.size := k1.lt
       refine ⟨i + 1, gp3, w3.heap.size, part ++ left2.filter (near y), left2.filter fun x => !near y x, rfl, rfl, by rw [List.length_append]; omega, by rw [List.length_append]; omega, by rw [List.length_append]; omega, by omega, by omega, by omega, ⟨?_⟩, ⟨hgrow⟩, ⟨cap3, ?_, ?_, ?_, ?_, ?_⟩, ⟨?_⟩, ⟨?_⟩, ⟨?_⟩⟩
       ·
        intro x hx
        rcases hx with h | h
        ·
         rcases List.mem_append.1 h with h | h
         ·
          exact HMi.out x (.inl h)
         ·
          exact HMi.out x (.inr (List.mem_filter.1 h).1)
        ·
         exact HMi.out x (.inr (List.mem_filter.1 h).1)
       ·
        exact (q1.cell (p := ⟨w.heap.size, 0, none⟩) l1).trans b1
       ·
        rw [Int.natCast_add]; exact blk_cell q2 0
       ·
        exact (q1.cell (p := ⟨wo.heap.size + 1, 0, none⟩) l2).trans b3
       ·
        exact (World.frozen?_of_block (a := ⟨wo.heap.size + 1, 0, none⟩) (q1.block _ l2)).trans b4
       ·
        have l5 := b5.1 gp3 rfl
        have l6 := Kd.R_lt b5 gp3 rfl
        exact R_int_ok (Kd.R_below b5 q1) ⟨l5.1, by omega, l5.2.2.1, l5.2.2.2⟩
       ·
        exact k1.kept (Kept.of_below q1 (fun _ => False)) (fun h => h)
       ·
        exact k2.trans (q1.mono (by omega))
       ·
        exact (HKi.out.then_ k3 (fun k hk => by rcases hk with h | h | h | h; exact .inl h; exact .inr (by omega); exact .inr (by omega); exact .inr (by omega))).below q1
     ·
      have hltz : ((i : Int) < (part.length : Int)) = False := eq_false (by omega)
      have hs5 := Kd.S_lt HP.out
      have hgp1 := (c5.1 gp rfl).1
      have hsz := HKi.out.1
      have hne1 : some (wo.heap.size + 1) ≠ (Value.slice (some ⟨gp, 0, none⟩) part.length cap).ownBlock := fun e => hgp1 (by injection e with e; exact e.symm)
      go_wp2_with (first
       | (go_at_call 30; refine (sortRP.calls _ _ part w wr HBi.out c5 (by omega) (by omega)).mono ?_; rintro e w3 ⟨rfl, k1, k2, k3⟩; have b3 := cell_grown (a := ⟨wo.heap.size + 1, 0, none⟩) k3 c3 hne1; have k4 := k3.size)
       | ((with_reducible refine gate_builtin (b := .append) (xs := #[.tmp 32, .tmp 34]) rfl ?_); at_builtin; refine Kd.S_append (Kd.slice 3 (Kd.int .i64)) (w0 := w) w.heap.size rfl (.tmp 32) (.tmp 34) 49 24 (.slice none 0 0) 24 rfl Try.underlying49 info24 rfl (by decide) (by omega) u5 pl (part.mergeSort fun x y => decide (x ≤ y)) [.slice (some ⟨gp, 0, none⟩) part.length cap] (fun k => k ≠ gl ∧ k ≠ w.heap.size) (fun k => k = gp) rfl rfl ?aP ?aK ?aF ?aO ?aB ?aS ?aL ?_; (case aP => exact ⟨_, rfl, R_int_ok k1 rfl⟩); (case aK => intro k hk; subst hk; exact ⟨⟨by omega, by omega⟩, fun e => absurd (hs5 _ e.symm) (by omega)⟩); (case aF => intro k hk; exact ⟨by omega, by omega⟩); (case aO => exact Kd.S_mono (Kd.S_step (Kd.S_bound HP.out) (fun k hk hk2 => (k3.block k (by omega) (fun e => by have e2 : some k = some gp := e; injection e2 with e3; omega)).trans (HKi.out.2 k hk2 hk.1.1))) (fun k hk => ⟨hk.1, fun e => by have := hk.2.2.1; omega⟩)); (case aB => exact k2); (case aS => exact k2.size); (case aL => omega); intro v9 w9 ho9 hb9 hg9 hat9))
      have hdone : (part, left2) = growP near (r.length + 1) [c] r 0 := by rw [← HGi.out]; exact (growP_done near hlt left2 _).symm
      have hbig : ∀ k, k < wr.heap.size → k ≠ gp → u5.ownBlock ≠ some k → w9.heap[k]? = wr.heap[k]? := fun k q1 q2 q3 => (hg9.block k (by omega) (fun e => q3 e.symm)).trans (k3.block k q1 (fun e => by have e2 : some k = some gp := e; injection e2 with e3; omega))
      have hn1 : u5.ownBlock ≠ some gl := fun e => ((Kd.S_R HP.out).1 gl e).1 rfl
      have hn2 : u5.ownBlock ≠ some w.heap.size := fun e => ((Kd.S_R HP.out).1 _ e).2 rfl
      have hgpx := c5.1 gp rfl
      have hsz9 := hg9.size
      have hglr := HRi.out.lt
      have hw0 := World.block_lt_of_cell? wr _ c1
      go_roundg m
      case measure => omega
      case rel =>
       refine ⟨left2, some ⟨gl, (off + 1), none⟩, (cl - 1), pl ++ [part.mergeSort fun x y => decide (x ≤ y)], rfl, by omega, by omega, by rw [List.length_append, List.length_singleton]; omega, ⟨fun x hx => HMi.out x (.inr hx)⟩, ⟨fun _ => ⟨hglw, (off + 1), rfl, ?_, by omega⟩⟩, ⟨by omega⟩, ⟨ho9⟩, ⟨?_⟩, ⟨?_⟩, ⟨hb9⟩⟩
       ·
        obtain ⟨cs, h1, h2⟩ := HRi.out
        exact ⟨cs, (hbig gl hglr (fun e => hgpx.2.2.2 e.symm) hn1).trans h1, h2⟩
       ·
        obtain ⟨n, hn, he⟩ := HQ.out
        rw [List.length_cons] at hn
        obtain ⟨n', rfl⟩ : ∃ n', n = n' + 1 := ⟨n - 1, by omega⟩
        have hM1 := HM1.out
        refine ⟨n', by omega, ?_⟩
        rw [← he, partsS, ← hdone, List.append_assoc]
        rfl
       ·
        refine (hbig w.heap.size (by omega) (fun e => hgpx.2.2.1 e.symm) hn2).trans ?_
        exact (HKi.out.2 _ (by omega) (by omega)).trans HW2.out
/-- Is a cell next to another? -/
def nearF (wide a x : Int) : Bool := (impl_areConnected.f wide a x).getD false
def impl_regionParts.f (a0 : Int) (l1 : List Int) : Option (List (List Int)) := if l1.length ≤ 999 ∧ (∀ a ∈ l1, ∀ x ∈ l1, (impl_areConnected.f a0 a x).isSome = true) then some (partsS (nearF a0) l1.length l1) else none
theorem impl_regionParts.calls (a0 : Int) (A1 : Option Addr) (c1 : Nat) (l1 : List Int) (r : List (List Int)) (w : World) (hr1 : Kd.C (Kd.int .i64) w A1 l1.length l1) (hc1 : l1.length ≤ c1) (h : impl_regionParts.f a0 l1 = some r) :
  Calls Try.prog 28 #[.int .i64 a0, .slice A1 l1.length c1] w fun e w' => ∃ v0_ : Value, e = .returned v0_ ∧ Kd.S (Kd.slice 3 (Kd.int .i64)) 24 w' w.heap.size (fun _ => True) v0_ r ∧ Below w.heap.size w w' := by
 unfold impl_regionParts.f at h
 split at h
 ·
  rename_i hg
  obtain rfl := Option.some.inj h
  refine regionPartsW.calls (nearF a0) a0 A1 c1 l1 w hr1 hc1 hg.1 (fun a ha x hx => ?_)
  unfold nearF
  exact (Option.some_get (hg.2 a ha x hx)).symm.trans (by rw [Option.get_eq_getD (fallback := false)])
 ·
  exact absurd h (by simp)

/-! ### impl_IsConnectedArea: function 14 -/
def impl_IsConnectedArea.f (k : Nat) (a0_0 : Int) (a0_1 : Int) (l0_2 : List Int) (a1 : Int) : Option (Bool × Bool) := (impl_hasAreas.f k a0_0 a0_1 l0_2 (([a1] : List Int))).bind fun t449 => (if t449 = true then ((impl_cellsOf.f k a0_0 a0_1 l0_2 a1).bind fun t450 => ((impl_regionParts.f a0_0 t450).bind fun t453 => (some (((t453.length : Int) == 1), true)))) else (some (false, false)))
def impl_IsConnectedArea.T3 : Bool × List (List Nat × List Nat) := (true, [([], []), ([0], [0]), ([], []), ([], []), ([2, 3], [2, 3]), ([1, 4, 4], [1, 4]), ([5], [5]), ([6], [6]), ([7, 5, 0, 1, 2, 3, 4, 5, 6, 7], [7]), ([8, 0, 1, 2, 3, 4, 5, 6, 7, 8], [])])
def impl_IsConnectedArea.B3 : List Nat := [0, 1, 0, 0, 12, 31, 63, 127, 255, 511]
theorem impl_IsConnectedArea.tab3 : rtab .any (opsOf Try.f14 3) = impl_IsConnectedArea.T3 := by kernel_rfl
theorem impl_IsConnectedArea.bits3 : waitsOk impl_IsConnectedArea.T3.2 impl_IsConnectedArea.B3 = true := by kernel_rfl
set_option maxHeartbeats 8000000 in
set_option maxRecDepth 100000 in
theorem impl_IsConnectedArea.calls (k : Nat) (a0_0 : Int) (a0_1 : Int) (A0_2 : Option Addr) (c0_2 : Nat) (l0_2 : List Int) (a1 : Int) (r1 : Bool) (r2 : Bool) (w : World) (hr0_2 : Kd.C (Kd.int .i64) w A0_2 l0_2.length l0_2) (hc0_2 : l0_2.length ≤ c0_2) (h : impl_IsConnectedArea.f k a0_0 a0_1 l0_2 a1 = some (r1, r2)) :
  Calls Try.prog 14 #[.agg #[.int .i64 a0_0, .int .i64 a0_1, .slice A0_2 l0_2.length c0_2], .int .i64 a1] w fun e w' => e = .returned (.tuple #[.bool r1, .bool r2]) ∧ Below w.heap.size w w' := by
 have hu26 := Try.underlying26
 have HR0_2 := Aside0.mk hr0_2
 have HC0_2 := Aside0.mk hc0_2
 clear hr0_2 hc0_2
 have HB := Aside0.mk (Below.refl w.heap.size w)
 have H : ((impl_hasAreas.f k a0_0 a0_1 l0_2 (([a1] : List Int))).bind fun t449 => (if t449 = true then ((impl_cellsOf.f k a0_0 a0_1 l0_2 a1).bind fun t450 => ((impl_regionParts.f a0_0 t450).bind fun t453 => (some (((t453.length : Int) == 1), true)))) else (some (false, false)))) = some (r1, r2) := h
 clear h
 obtain ⟨y446, hy446⟩ : ∃ y_ : List Int, y_ = (([a1] : List Int)) := ⟨_, rfl⟩
 replace H : ((impl_hasAreas.f k a0_0 a0_1 l0_2 y446).bind fun t449 => (if t449 = true then ((impl_cellsOf.f k a0_0 a0_1 l0_2 a1).bind fun t450 => ((impl_regionParts.f a0_0 t450).bind fun t453 => (some (((t453.length : Int) == 1), true)))) else (some (false, false)))) = some (r1, r2) := zqH hy446 H
 have Ny446 := Aside0.mk hy446
 clear hy446
 replace H := Option.bind_eq_some_iff.mp H
 obtain ⟨t449, A30, H⟩ := H
 replace H : (if t449 = true then ((impl_cellsOf.f k a0_0 a0_1 l0_2 a1).bind fun t450 => ((impl_regionParts.f a0_0 t450).bind fun t453 => (some (((t453.length : Int) == 1), true)))) else (some (false, false))) = some (r1, r2) := H
 have A3 := Aside0.mk A30
 clear A30
 by_cases c4 : t449 = true
 case neg =>
  replace c4 := Bool.eq_false_iff.mpr c4
  subst c4
  have H1 : (some (false, false)) = some (r1, r2) := by rw [if_neg (show ¬ (false = true) by decide)] at H; exact H
  clear H
  have H := H1
  clear H1
  simp only [Option.some.injEq, Prod.mk.injEq] at H
  obtain ⟨rfl, rfl⟩ := H
  go_enter Try.func14, Try.ntmps14
  go_wp2_with (first | ((with_reducible refine gate_dst (N := 2) rfl ?_); refine box_event ?hg (N := 2) ?hd (cs := #[.int .i64 a0_0, .int .i64 a0_1, .slice A0_2 l0_2.length c0_2]) (t := 26) ?hr ?_; (case hd => rfl); (case hg => rfl); (case hr => exact zqS); intro gb445 hg w18 hbox hb; have BK445 := Aside0.mk (hbox); have GW445 := Aside0.mk ((by rw [hg]; exact (below_size zq0) : w.heap.size ≤ gb445)); replace HB := Aside0.mk (below_step zq0 hb); have GE445 := GW445; clear hb hbox hg; have hcz19_0 := bz BK445.out 0 (.int .i64 a0_0); have hcz19_1 := bz BK445.out 1 (.int .i64 a0_1); have hcz19_2 := bz BK445.out 2 (.slice A0_2 l0_2.length c0_2); have hfz19_0 := blk_frozen BK445.out 0; have hfz19_1 := blk_frozen BK445.out 1; have hfz19_2 := blk_frozen BK445.out 2) | ((with_reducible refine gate_dst (N := 8) rfl ?_); refine Kd.R_lit (Kd.int .i64) _ 3 ?hg (N := 8) ?hd (xs := ([a1] : List Int)) (inner := [.int .i64 a1]) (ok := fun _ => True) (okp := fun _ => True) ?hr ?hp (fun _ hk => hk) trivial (Below.refl _ _) (Nat.le_refl _) (by simp) ?_; (case hd => rfl); (case hg => rfl); (case hr => exact zqS); (case hp => exact (Reps.one (show Kd.M (Kd.int .i64) _ _ _ a1 [.int .i64 a1] from rfl) (Reps.none _ _))); intro v447 w20 ho21 hb hg_ hnew_; clear hg_ hnew_; (first | rw [← Ny446.out] at ho21 | (simp only [Int.reduceToNat] at ho21; rw [← Ny446.out] at ho21)); have HO448 := Aside0.mk (Kd.R_lower ho21 (below_size zq22)); replace BK445 := Aside0.mk (blk_below (g := gb445) (o := .cells #[.int .i64 a0_0, .int .i64 a0_1, .slice A0_2 l0_2.length c0_2] 26 (0, 0)) (zqK BK445.out) hb); replace HB := Aside0.mk (below_step zq22 hb); clear hb ho21; obtain ⟨Ao22, co22, eo22⟩ := Kd.R_slice HO448.out; subst eo22) | ((with_reducible refine gate_callee (f := 21) rfl ?_); refine goesL_ (some 9) rfl rfl Try.func21 (by kernel_rfl) rfl #[.agg #[.int .i64 a0_0, .int .i64 a0_1, .slice A0_2 l0_2.length c0_2], .slice Ao22 y446.length co22] rfl zq1 ?_; (with_reducible refine (impl_hasAreas.calls k a0_0 a0_1 _ _ l0_2 _ _ y446 false _ ?side1 ?side2 ?side3 ?side4 A3.out).mono ?_); (case side1 => exact zqC (Kd.C_below HR0_2.out HB.out)); (case side2 => exact HC0_2.out); (case side3 => exact zqC (Kd.R_reads' HO448.out).2.2); (case side4 => exact (Kd.R_reads' HO448.out).2.1); rintro e w23 ⟨rfl, hb⟩; refine ⟨_, rfl, ?_⟩; replace HO448 := Aside0.mk (Kd.R_below (zqR HO448.out) hb); replace BK445 := Aside0.mk (blk_below (g := gb445) (o := .cells #[.int .i64 a0_0, .int .i64 a0_1, .slice A0_2 l0_2.length c0_2] 26 (0, 0)) (zqK BK445.out) hb); replace HB := Aside0.mk (below_step zq22 hb); (try clear hb); (try clear hb2); (try clear hk); (try clear hi)))
  go_ret2
  exact ⟨zqE, zq22⟩
 subst c4
 have H1 : ((impl_cellsOf.f k a0_0 a0_1 l0_2 a1).bind fun t450 => ((impl_regionParts.f a0_0 t450).bind fun t453 => (some (((t453.length : Int) == 1), true)))) = some (r1, r2) := by rw [if_pos rfl] at H; exact H
 clear H
 have H := H1
 clear H1
 replace H := Option.bind_eq_some_iff.mp H
 obtain ⟨t450, A50, H⟩ := H
 replace H : ((impl_regionParts.f a0_0 t450).bind fun t453 => (some (((t453.length : Int) == 1), true))) = some (r1, r2) := H
 have A5 := Aside0.mk A50
 clear A50
 replace H := Option.bind_eq_some_iff.mp H
 obtain ⟨t453, A60, H⟩ := H
 replace H : (some (((t453.length : Int) == 1), true)) = some (r1, r2) := H
 have A6 := Aside0.mk A60
 clear A60
 simp only [Option.some.injEq, Prod.mk.injEq] at H
 obtain ⟨rfl, rfl⟩ := H
 go_enter Try.func14, Try.ntmps14
 try go_wp2_with (first | ((with_reducible refine gate_dst (N := 2) rfl ?_); refine box_event ?hg (N := 2) ?hd (cs := #[.int .i64 a0_0, .int .i64 a0_1, .slice A0_2 l0_2.length c0_2]) (t := 26) ?hr ?_; (case hd => rfl); (case hg => rfl); (case hr => exact zqS); intro gb445 hg w7 hbox hb; have BK445 := Aside0.mk (hbox); have GW445 := Aside0.mk ((by rw [hg]; exact (below_size zq0) : w.heap.size ≤ gb445)); replace HB := Aside0.mk (below_step zq0 hb); have GE445 := GW445; clear hb hbox hg; have hcz8_0 := bz BK445.out 0 (.int .i64 a0_0); have hcz8_1 := bz BK445.out 1 (.int .i64 a0_1); have hcz8_2 := bz BK445.out 2 (.slice A0_2 l0_2.length c0_2); have hfz8_0 := blk_frozen BK445.out 0; have hfz8_1 := blk_frozen BK445.out 1; have hfz8_2 := blk_frozen BK445.out 2) | ((with_reducible refine gate_dst (N := 8) rfl ?_); refine Kd.R_lit (Kd.int .i64) _ 3 ?hg (N := 8) ?hd (xs := ([a1] : List Int)) (inner := [.int .i64 a1]) (ok := fun _ => True) (okp := fun _ => True) ?hr ?hp (fun _ hk => hk) trivial (Below.refl _ _) (Nat.le_refl _) (by simp) ?_; (case hd => rfl); (case hg => rfl); (case hr => exact zqS); (case hp => exact (Reps.one (show Kd.M (Kd.int .i64) _ _ _ a1 [.int .i64 a1] from rfl) (Reps.none _ _))); intro v447 w9 ho10 hb hg_ hnew_; clear hg_ hnew_; (first | rw [← Ny446.out] at ho10 | (simp only [Int.reduceToNat] at ho10; rw [← Ny446.out] at ho10)); have HO448 := Aside0.mk (Kd.R_lower ho10 (below_size zq22)); replace BK445 := Aside0.mk (blk_below (g := gb445) (o := .cells #[.int .i64 a0_0, .int .i64 a0_1, .slice A0_2 l0_2.length c0_2] 26 (0, 0)) (zqK BK445.out) hb); replace HB := Aside0.mk (below_step zq22 hb); clear hb ho10; obtain ⟨Ao11, co11, eo11⟩ := Kd.R_slice HO448.out; subst eo11) | ((with_reducible refine gate_callee (f := 21) rfl ?_); refine goesL_ (some 9) rfl rfl Try.func21 (by kernel_rfl) rfl #[.agg #[.int .i64 a0_0, .int .i64 a0_1, .slice A0_2 l0_2.length c0_2], .slice Ao11 y446.length co11] rfl zq1 ?_; (with_reducible refine (impl_hasAreas.calls k a0_0 a0_1 _ _ l0_2 _ _ y446 true _ ?side1 ?side2 ?side3 ?side4 A3.out).mono ?_); (case side1 => exact zqC (Kd.C_below HR0_2.out HB.out)); (case side2 => exact HC0_2.out); (case side3 => exact zqC (Kd.R_reads' HO448.out).2.2); (case side4 => exact (Kd.R_reads' HO448.out).2.1); rintro e w12 ⟨rfl, hb⟩; refine ⟨_, rfl, ?_⟩; replace HO448 := Aside0.mk (Kd.R_below (zqR HO448.out) hb); replace BK445 := Aside0.mk (blk_below (g := gb445) (o := .cells #[.int .i64 a0_0, .int .i64 a0_1, .slice A0_2 l0_2.length c0_2] 26 (0, 0)) (zqK BK445.out) hb); replace HB := Aside0.mk (below_step zq22 hb); (try clear hb); (try clear hb2); (try clear hk); (try clear hi)))
 have n0_ := Aside0.mk (Kd.R_drew HO448.out)
 have n1_ := Aside0.mk (blk_drew BK445.out)
 have n2_ := Aside0.mk (below_drew1 HB.out)
 clear HO448
 clear BK445
 clear HB
 have HO448 := n0_
 have BK445 := n1_
 have HB := n2_
 clear n0_ n1_ n2_
 refine start_ (n := 10) (S := fun w' => w'.cell? ⟨gb445, 0, none⟩ = some (.int .i64 a0_0) ∧ w'.cell? ⟨gb445, 1, none⟩ = some (.int .i64 a0_1) ∧ w'.cell? ⟨gb445, 2, none⟩ = some (.slice A0_2 l0_2.length c0_2)) (ds := []) #[false, false, false, false, false, false, false, false, false, false] (by kernel_rfl) rfl rfl ⟨(blk_cell BK445.out 0).trans rfl, (blk_cell BK445.out 1).trans rfl, (blk_cell BK445.out 2).trans rfl⟩ (fun hHeld => ?_); refine with_tabW impl_IsConnectedArea.tab3 impl_IsConnectedArea.bits3 (fun HT_ HW_ => ?_)
 generalize w12.drew = w13 at HO448 BK445 HB hHeld ⊢
 refine pure_ (i := 0) (N := some 11) (v := ?_) (a' := ?_) #[true, false, false, false, false, false, false, false, false, false] rfl rfl (any_of HT_.out (by kernel_rfl)) (fun _ _ _ h => h) (Or.inl ⟨by rfl, ?_⟩) ?_ ?_
 rotate_left; · exact zqB
 rotate_left; · exact zqA
 refine pure_ (i := 3) (N := some 14) (v := ?_) (a' := ?_) #[true, false, false, true, false, false, false, false, false, false] rfl rfl (any_of HT_.out (by kernel_rfl)) (fun _ _ _ h => h) (Or.inl ⟨by rfl, ?_⟩) ?_ ?_
 rotate_left; · exact zqB
 rotate_left; · exact zqA
 refine take_ (i := 1) (N := some 12) (v := ?_) (a' := ?_) #[true, true, false, true, false, false, false, false, false, false] rfl rfl (take_ofW HT_.out HW_.out (by kernel_rfl)) (fun _ _ _ h => h) (Or.inl ⟨by rfl, ?_⟩) hHeld ?_ ?_
 rotate_left
 ·
  rintro w' ⟨s0, s1, s2⟩
  go_simp
  with_reducible rfl
 rotate_left; · exact zqA
 refine take_ (i := 2) (N := some 13) (v := ?_) (a' := ?_) #[true, true, true, true, false, false, false, false, false, false] rfl rfl (take_ofW HT_.out HW_.out (by kernel_rfl)) (fun _ _ _ h => h) (Or.inl ⟨by rfl, ?_⟩) hHeld ?_ ?_
 rotate_left
 ·
  rintro w' ⟨s0, s1, s2⟩
  go_simp
  with_reducible rfl
 rotate_left; · exact zqA
 refine one_ (i := 4) (N := some 15) #[true, true, true, true, true, false, false, false, false, false] rfl rfl (one_of HT_.out (by kernel_rfl)) (by decide) (fun K hK => ?_)
 refine goes_ Try.func23 (by kernel_rfl) rfl #[.agg #[.int .i64 a0_0, .int .i64 a0_1, .slice A0_2 l0_2.length c0_2], .int .i64 a1] (by rfl) rfl rfl zq1 ?_
 with_reducible refine (impl_cellsOf.calls k a0_0 a0_1 _ _ l0_2 a1 t450 _ ?side1 ?side2 A5.out).mono ?_
 (case side1 => exact zqC (Kd.C_below HR0_2.out HB.out))
 (case side2 => exact HC0_2.out)
 rintro e w14 ⟨v451, rfl, ho0, hb⟩
 refine ⟨_, rfl, ?_⟩
 have n0_ := Aside0.mk (Kd.R_elder' (zqR HO448.out) (Kd.R_base ho0) hb)
 have n1_ := Aside0.mk (Kd.R_lower (Kd.R_new' ho0 (Kd.R_lt (zqR HO448.out))) (below_size zq22))
 have n2_ := Aside0.mk (blk_below (g := gb445) (o := .cells #[.int .i64 a0_0, .int .i64 a0_1, .slice A0_2 l0_2.length c0_2] 26 (0, 0)) (zqK BK445.out) hb)
 have n3_ := Aside0.mk (below_step zq22 hb)
 clear HO448
 clear BK445
 clear HB
 have HO448 := n0_
 have HO452 := n1_
 have BK445 := n2_
 have HB := n3_
 clear n0_ n1_ n2_ n3_
 (try clear hb)
 (try clear hb2)
 (try clear hk)
 (try clear hi)
 (try clear ho0)
 obtain ⟨Ao15, co15, eo15⟩ := Kd.R_slice HO452.out
 (first | subst eo15 | (injection eo15 with f1_ f2_ f3_; have f4_ := f1_.symm; have f5_ := f3_.symm; clear f1_ f2_ f3_; subst f4_; subst f5_))
 refine hK.out _ _ ⟨(blk_cell BK445.out 0).trans rfl, (blk_cell BK445.out 1).trans rfl, (blk_cell BK445.out 2).trans rfl⟩ (fun hHeld => ?_)
 clear hK K
 refine norm_ (a' := ?_) ?_ ?_
 rotate_left
 ·
  show Act.put _ (some 15) _ = _
  simp only [Act.put, List.setIfInBounds_toArray, List.set_cons_zero, List.set_cons_succ, i64_w, i32_w]
  rfl
 refine one_ (i := 5) (N := some 16) #[true, true, true, true, true, true, false, false, false, false] rfl rfl (one_of HT_.out (by kernel_rfl)) (by decide) (fun K hK => ?_)
 refine goes_ Try.func28 (by kernel_rfl) rfl #[.int .i64 a0_0, .slice Ao15 t450.length co15] (by rfl) rfl rfl zq1 ?_
 with_reducible refine (impl_regionParts.calls a0_0 _ _ t450 t453 _ ?side1 ?side2 A6.out).mono ?_
 (case side1 => exact zqC (Kd.R_reads' HO452.out).2.2)
 (case side2 => exact (Kd.R_reads' HO452.out).2.1)
 rintro e w16 ⟨v454, rfl, ho0, hb⟩
 refine ⟨_, rfl, ?_⟩
 have n0_ := Aside0.mk (Kd.R_below (zqR HO448.out) hb)
 have n1_ := Aside0.mk (Kd.R_below (zqR HO452.out) hb)
 have n2_ := Aside0.mk (Kd.S_lower (Kd.S_new' (Kd.S_new' ho0 (Kd.R_lt (zqR HO448.out))) (Kd.R_lt (zqR HO452.out))) (below_size zq22))
 have n3_ := Aside0.mk (blk_below (g := gb445) (o := .cells #[.int .i64 a0_0, .int .i64 a0_1, .slice A0_2 l0_2.length c0_2] 26 (0, 0)) (zqK BK445.out) hb)
 have n4_ := Aside0.mk (below_step zq22 hb)
 clear HO448
 clear HO452
 clear BK445
 clear HB
 have HO448 := n0_
 have HO452 := n1_
 have HO455 := n2_
 have BK445 := n3_
 have HB := n4_
 clear n0_ n1_ n2_ n3_ n4_
 (try clear hb)
 (try clear hb2)
 (try clear hk)
 (try clear hi)
 (try clear ho0)
 obtain ⟨Ao17, co17, eo17⟩ := Kd.S_slice HO455.out
 (first | subst eo17 | (injection eo17 with f1_ f2_ f3_; have f4_ := f1_.symm; have f5_ := f3_.symm; clear f1_ f2_ f3_; subst f4_; subst f5_))
 refine hK.out _ _ ⟨(blk_cell BK445.out 0).trans rfl, (blk_cell BK445.out 1).trans rfl, (blk_cell BK445.out 2).trans rfl⟩ (fun hHeld => ?_)
 clear hK K
 refine norm_ (a' := ?_) ?_ ?_
 rotate_left
 ·
  show Act.put _ (some 16) _ = _
  simp only [Act.put, List.setIfInBounds_toArray, List.set_cons_zero, List.set_cons_succ, i64_w, i32_w]
  rfl
 refine pure_ (i := 6) (N := some 17) (v := ?_) (a' := ?_) #[true, true, true, true, true, true, true, false, false, false] rfl rfl (any_of HT_.out (by kernel_rfl)) (fun _ _ _ h => h) (Or.inl ⟨by rfl, ?_⟩) ?_ ?_
 rotate_left; · exact zqB
 rotate_left; · exact zqA
 refine pure_ (i := 7) (N := some 18) (v := ?_) (a' := ?_) #[true, true, true, true, true, true, true, true, false, false] rfl rfl (any_of HT_.out (by kernel_rfl)) (fun _ _ _ h => h) (Or.inl ⟨by rfl, ?_⟩) ?_ ?_
 rotate_left; · exact zqB
 rotate_left; · exact zqA
 refine pure_ (i := 8) (N := some 4) (v := ?_) (a' := ?_) #[true, true, true, true, true, true, true, true, true, false] rfl rfl (any_of HT_.out (by kernel_rfl)) (fun _ _ _ h => h) (Or.inl ⟨by rfl, ?_⟩) ?_ ?_
 rotate_left; · exact zqB
 rotate_left; · exact zqA
 refine pure_ (i := 9) (N := some 5) (v := ?_) (a' := ?_) #[true, true, true, true, true, true, true, true, true, true] rfl rfl (any_of HT_.out (by kernel_rfl)) (fun _ _ _ h => h) (Or.inl ⟨by rfl, ?_⟩) ?_ ?_
 rotate_left; · exact zqB
 rotate_left; · exact zqA
 refine done_ (done_of HT_.out (by kernel_rfl)) ?_
 try go_wp2
 go_ret2
 exact ⟨zqE, zq22⟩

/-! ### spec_DrawIsValidAreaMap: function 29 -/
def spec_DrawIsValidAreaMap.f (k : Nat) (l0 : List Int) : Option (Int × Int × List Int) := (spec_l1Cur_anyAreaMap.f k l0 0 0).bind fun bt458 => (some (bt458.1, bt458.2.1, bt458.2.2.1))
set_option maxHeartbeats 8000000 in
set_option maxRecDepth 100000 in
theorem spec_DrawIsValidAreaMap.calls (k : Nat) (A0 : Option Addr) (c0 : Nat) (l0 : List Int) (r1 : Int) (r2 : Int) (r3 : List Int) (w : World) (hr0 : Kd.C (Kd.int .u8) w A0 l0.length l0) (hc0 : l0.length ≤ c0) (h : spec_DrawIsValidAreaMap.f k l0 = some (r1, r2, r3)) :
  Calls Try.prog 29 #[.slice A0 l0.length c0] w fun e w' => ∃ v2_ : Value, e = .returned (.agg #[.int .i64 r1, .int .i64 r2, v2_]) ∧ Kd.R (Kd.int .i64) 3 w' w.heap.size (fun _ => True) v2_ r3 ∧ Below w.heap.size w w' := by
 have hu26 := Try.underlying26
 have hu59 := Try.underlying59
 have HR0 := Aside0.mk hr0
 have HC0 := Aside0.mk hc0
 clear hr0 hc0
 have HB := Aside0.mk (Below.refl w.heap.size w)
 have H : ((spec_l1Cur_anyAreaMap.f k l0 0 0).bind fun bt458 => (some (bt458.1, bt458.2.1, bt458.2.2.1))) = some (r1, r2, r3) := h
 clear h
 replace H := Option.bind_eq_some_iff.mp H
 obtain ⟨⟨t458, t459, t460, t463, t464⟩, A20, H⟩ := H
 replace H : (some (t458, t459, t460)) = some (r1, r2, r3) := H
 have A2 := Aside0.mk A20
 clear A20
 simp only [Option.some.injEq, Prod.mk.injEq] at H
 obtain ⟨rfl, rfl, rfl⟩ := H
 go_enter Try.func29, Try.ntmps29
 go_wp2_with (first | ((with_reducible refine gate_dst (N := 2) rfl ?_); refine box_event ?hg (N := 2) ?hd (cs := #[.int .i64 0, .int .i64 0, .slice none 0 0]) (t := 26) ?hr ?_; (case hd => rfl); (case hg => rfl); (case hr => exact zqS); intro gb456 hg w3 hbox hb; have BK456 := Aside0.mk (hbox); have GW456 := Aside0.mk ((by rw [hg]; exact (below_size zq0) : w.heap.size ≤ gb456)); replace HB := Aside0.mk (below_step zq0 hb); have GE456 := GW456; clear hb hbox hg) | ((with_reducible refine gate_dst (N := 6) rfl ?_); refine box_event ?hg (N := 6) ?hd (cs := #[.slice A0 l0.length c0, .int .i64 0, .int .u64 0]) (t := 59) ?hr ?_; (case hd => rfl); (case hg => rfl); (case hr => exact zqS); intro gb457 hg w4 hbox hb; have HI457 := Aside0.mk ((show IsS59 w w4 gb457 l0 0 0 from ⟨_, _, hbox, (by rw [hg]; exact (below_size zq41) : w.heap.size ≤ gb457), HR0.out⟩)); have GW457 := Aside0.mk ((by rw [hg]; exact (below_size zq41) : w.heap.size ≤ gb457)); replace HB := Aside0.mk (below_step zq41 hb); have GE457 := GW457; have NB456_457 := Aside0.mk ((by rw [hg]; exact Nat.ne_of_lt (blk_lt (g := gb456) (o := .cells #[.int .i64 0, .int .i64 0, .slice none 0 0] 26 (0, 0)) (zqK BK456.out)) : gb456 ≠ gb457)); have NB457_456 := Aside0.mk ((by rw [hg]; exact Nat.ne_of_gt (blk_lt (g := gb456) (o := .cells #[.int .i64 0, .int .i64 0, .slice none 0 0] 26 (0, 0)) (zqK BK456.out)) : gb457 ≠ gb456)); replace BK456 := Aside0.mk (blk_below (g := gb456) (o := .cells #[.int .i64 0, .int .i64 0, .slice none 0 0] 26 (0, 0)) (zqK BK456.out) hb); clear hb hbox hg) | ((with_reducible refine gate_callee (f := 38) rfl ?_); refine goesL_ (some 8) rfl rfl Try.func38 (by kernel_rfl) rfl #[.pointer (some ⟨gb457, 0, none⟩)] rfl zq1 ?_; (with_reducible refine (spec_l1Cur_anyAreaMap.calls k gb457 l0 0 0 t458 t459 t460 t463 t464 w _ ?side1 ?side2 A2.out).mono ?_); (case side1 => repeat (first | (with_reducible first | exact HI457.out | apply IsS59.alloc | apply IsS59.drewN | apply IsS59.drew | apply IsS59.set_1 | apply IsS59.set_2 | refine IsS59.far ?_ NB457_456.out _) | exact HI457.out)); (case side2 => repeat (first | (with_reducible first | exact HB.out | apply below_alloc | apply pw_below_drewN | apply below_drew1 | refine below_set ?_ (IsS59.ge HI457.out) | refine below_set ?_ GE456.out) | exact HB.out)); rintro e w5 ⟨v461, rfl, ho0, hi, hb, hk⟩; refine ⟨_, rfl, ?_⟩; replace BK456 := Aside0.mk (KeepBut.blk hk (g' := gb456) (o := .cells #[.int .i64 0, .int .i64 0, .slice none 0 0] 26 (0, 0)) (zqK BK456.out) NB456_457.out (by simp)); have HO462 := Aside0.mk (Kd.R_lower ho0 (below_size (by repeat (first | (with_reducible first | exact HB.out | apply below_alloc | apply pw_below_drewN | apply below_drew1 | refine below_set ?_ (IsS59.ge HI457.out) | refine below_set ?_ GE456.out) | exact HB.out)))); replace HB := Aside0.mk (hb); replace HI457 := Aside0.mk (hi); (try clear hb); (try clear hb2); (try clear hk); (try clear hi); (try clear ho0); have hnb6 := NB456_457.out; have hnc6 := NB457_456.out; have hcz7_0 := bz BK456.out 0 (.int .i64 0); have hcz7_1 := bz BK456.out 1 (.int .i64 0); have hcz7_2 := bz BK456.out 2 (.slice none 0 0); have hfz7_0 := blk_frozen BK456.out 0; have hfz7_1 := blk_frozen BK456.out 1; have hfz7_2 := blk_frozen BK456.out 2; obtain ⟨Ao8, co8, eo8⟩ := Kd.R_slice HO462.out; subst eo8))
 refine bodyPost_ret (results_cell_row rfl _ _ gb456 26 #[.int .i64 t458, .int .i64 t459, .slice Ao8 t460.length co8] (0, 0) _ rfl (by (with_reducible repeat (first | refine blk_drewN ?_ _ | refine blk_drew ?_ | refine blk_alloc ?_ _)); refine blk_put (cs := #[.int .i64 t458, .int .i64 t459, .slice none 0 0]) ?_ 2 _ rfl; (with_reducible repeat (first | refine blk_drewN ?_ _ | refine blk_drew ?_ | refine blk_alloc ?_ _)); refine blk_put (cs := #[.int .i64 t458, .int .i64 0, .slice none 0 0]) ?_ 1 _ rfl; (with_reducible repeat (first | refine blk_drewN ?_ _ | refine blk_drew ?_ | refine blk_alloc ?_ _)); refine blk_put (cs := #[.int .i64 0, .int .i64 0, .slice none 0 0]) ?_ 0 _ rfl; (with_reducible repeat (first | refine blk_drewN ?_ _ | refine blk_drew ?_ | refine blk_alloc ?_ _)); exact BK456.out) Try.underlying26 rfl (by kernel_rfl)) rfl ?_
 exact ⟨_, by first | rfl | (simp [errW_none, errW_some] <;> rfl) | (simp [*, errW_none, errW_some] <;> rfl), by (with_reducible repeat (first | apply Kd.R_alloc | apply Kd.R_drewN | apply Kd.R_drew)); exact Kd.R_mono (Kd.R_far (p := ⟨gb456, 2, none⟩) (Kd.R_far (p := ⟨gb456, 1, none⟩) (Kd.R_far (p := ⟨gb456, 0, none⟩) (Kd.R_types HO462.out BK456.out (by decide)) (fun _ hk => hk.2) (.int .i64 t458)) (fun _ hk => hk.2) (.int .i64 t459)) (fun _ hk => hk.2) (.slice Ao8 t460.length co8)) (fun _ hk => trivial), (by repeat (first | (with_reducible first | exact HB.out | apply below_alloc | apply pw_below_drewN | apply below_drew1 | refine below_set ?_ (IsS59.ge HI457.out) | refine below_set ?_ GE456.out) | exact HB.out))⟩

/-! ### spec_DrawAreasOf: function 15 -/
def spec_DrawAreasOf.f (k : Nat) (l0 : List Int) : Option (Int × Int × List Int) := (spec_DrawIsValidAreaMap.f k l0).bind fun bt466 => (some (bt466.1, bt466.2.1, bt466.2.2))
set_option maxHeartbeats 8000000 in
set_option maxRecDepth 100000 in
theorem spec_DrawAreasOf.calls (k : Nat) (A0 : Option Addr) (c0 : Nat) (l0 : List Int) (r1 : Int) (r2 : Int) (r3 : List Int) (w : World) (hr0 : Kd.C (Kd.int .u8) w A0 l0.length l0) (hc0 : l0.length ≤ c0) (h : spec_DrawAreasOf.f k l0 = some (r1, r2, r3)) :
  Calls Try.prog 15 #[.slice A0 l0.length c0] w fun e w' => ∃ v2_ : Value, e = .returned (.agg #[.int .i64 r1, .int .i64 r2, v2_]) ∧ Kd.R (Kd.int .i64) 3 w' w.heap.size (fun _ => True) v2_ r3 ∧ Below w.heap.size w w' := by
 have hu26 := Try.underlying26
 have HR0 := Aside0.mk hr0
 have HC0 := Aside0.mk hc0
 clear hr0 hc0
 have HB := Aside0.mk (Below.refl w.heap.size w)
 have H : ((spec_DrawIsValidAreaMap.f k l0).bind fun bt466 => (some (bt466.1, bt466.2.1, bt466.2.2))) = some (r1, r2, r3) := h
 clear h
 replace H := Option.bind_eq_some_iff.mp H
 obtain ⟨⟨t466, t467, t468⟩, A20, H⟩ := H
 replace H : (some (t466, t467, t468)) = some (r1, r2, r3) := H
 have A2 := Aside0.mk A20
 clear A20
 simp only [Option.some.injEq, Prod.mk.injEq] at H
 obtain ⟨rfl, rfl, rfl⟩ := H
 go_enter Try.func15, Try.ntmps15
 go_wp2_with (first | ((with_reducible refine gate_dst (N := 2) rfl ?_); refine box_event ?hg (N := 2) ?hd (cs := #[.int .i64 0, .int .i64 0, .slice none 0 0]) (t := 26) ?hr ?_; (case hd => rfl); (case hg => rfl); (case hr => exact zqS); intro gb465 hg w3 hbox hb; have BK465 := Aside0.mk (hbox); have GW465 := Aside0.mk ((by rw [hg]; exact (below_size zq0) : w.heap.size ≤ gb465)); replace HB := Aside0.mk (below_step zq0 hb); have GE465 := GW465; clear hb hbox hg) | ((with_reducible refine gate_callee (f := 29) rfl ?_); refine goesL_ (some 4) rfl rfl Try.func29 (by kernel_rfl) rfl #[.slice A0 l0.length c0] rfl zq1 ?_; (with_reducible refine (spec_DrawIsValidAreaMap.calls k _ _ l0 t466 t467 t468 _ ?side1 ?side2 A2.out).mono ?_); (case side1 => exact zqC (Kd.C_below HR0.out HB.out)); (case side2 => exact HC0.out); rintro e w4 ⟨v469, rfl, ho0, hb⟩; refine ⟨_, rfl, ?_⟩; have HO470 := Aside0.mk (Kd.R_lower ho0 (below_size zq50)); replace BK465 := Aside0.mk (blk_below (g := gb465) (o := .cells #[.int .i64 0, .int .i64 0, .slice none 0 0] 26 (0, 0)) (zqK BK465.out) hb); replace HB := Aside0.mk (below_step zq50 hb); (try clear hb); (try clear hb2); (try clear hk); (try clear hi); (try clear ho0); have hcz5_0 := bz BK465.out 0 (.int .i64 0); have hcz5_1 := bz BK465.out 1 (.int .i64 0); have hcz5_2 := bz BK465.out 2 (.slice none 0 0); have hfz5_0 := blk_frozen BK465.out 0; have hfz5_1 := blk_frozen BK465.out 1; have hfz5_2 := blk_frozen BK465.out 2; obtain ⟨Ao6, co6, eo6⟩ := Kd.R_slice HO470.out; subst eo6))
 refine bodyPost_ret (results_cell_row rfl _ _ gb465 26 #[.int .i64 t466, .int .i64 t467, .slice Ao6 t468.length co6] (0, 0) _ rfl (by (with_reducible repeat (first | refine blk_drewN ?_ _ | refine blk_drew ?_ | refine blk_alloc ?_ _)); refine blk_put (cs := #[.int .i64 t466, .int .i64 t467, .slice none 0 0]) ?_ 2 _ rfl; (with_reducible repeat (first | refine blk_drewN ?_ _ | refine blk_drew ?_ | refine blk_alloc ?_ _)); refine blk_put (cs := #[.int .i64 t466, .int .i64 0, .slice none 0 0]) ?_ 1 _ rfl; (with_reducible repeat (first | refine blk_drewN ?_ _ | refine blk_drew ?_ | refine blk_alloc ?_ _)); refine blk_put (cs := #[.int .i64 0, .int .i64 0, .slice none 0 0]) ?_ 0 _ rfl; (with_reducible repeat (first | refine blk_drewN ?_ _ | refine blk_drew ?_ | refine blk_alloc ?_ _)); exact BK465.out) Try.underlying26 rfl (by kernel_rfl)) rfl ?_
 exact ⟨_, by first | rfl | (simp [errW_none, errW_some] <;> rfl) | (simp [*, errW_none, errW_some] <;> rfl), by (with_reducible repeat (first | apply Kd.R_alloc | apply Kd.R_drewN | apply Kd.R_drew)); exact Kd.R_mono (Kd.R_far (p := ⟨gb465, 2, none⟩) (Kd.R_far (p := ⟨gb465, 1, none⟩) (Kd.R_far (p := ⟨gb465, 0, none⟩) (Kd.R_types HO470.out BK465.out (by decide)) (fun _ hk => hk.2) (.int .i64 t466)) (fun _ hk => hk.2) (.int .i64 t467)) (fun _ hk => hk.2) (.slice Ao6 t468.length co6)) (fun _ hk => trivial), zq50⟩

/-! ### impl_AreasOf: function 16 -/
-- called: 22 31 19
theorem compactLe (l : List Int) : (Lib.compact l).length ≤ l.length := by
 unfold Lib.compact Lib.compactUpTo
 rw [List.length_map]
 refine Nat.le_trans (List.length_filter_le _ _) ?_
 rw [List.length_range]
 simp
/-- slices.Sort at a row of the call's own. -/
theorem sortI.calls (P0_ : Nat → Prop) (u : Value) (l0 : List Int) (w0 w : World) (hB : Below w0.heap.size w0 w) (ho0 : Kd.R (Kd.int .i64) 3 w w0.heap.size P0_ u l0) (h0 : 0 < l0.length) (hs : l0.length < 4611686018427387904) :
  Calls Try.prog 30 #[u] w fun e w' => e = .returned (.tuple #[]) ∧ Kd.R (Kd.int .i64) 3 w' w0.heap.size P0_ u (l0.mergeSort fun x y => decide (x ≤ y)) ∧ Below w0.heap.size w0 w' := by
 have hok := ho0.1
 have ho := Kd.own_of_R ho0
 obtain ⟨hlen, hor⟩ := ho
 rcases hor with ⟨rfl, hn⟩ | ⟨g, cap, cur, rfl, hg, hh, hncap, hcap, hcs, htk⟩
 ·
  omega
 rw [Nat.mul_one] at htk
 refine (Try.slices_Sort_int g 0 cap l0 w (Go.holds_of_blockI hh htk) (blk_lt hh) hs).mono ?_
 rintro e w' ⟨rfl, n, os, rfl⟩
 have hl : (l0.mergeSort fun x y => decide (x ≤ y)).length = l0.length := List.length_mergeSort _
 refine ⟨rfl, Kd.R_of_own ?_ hok, hB.grown (Go.grownBy_sortedI _) hB.size (fun k hk => by cases hk; exact hg)⟩
 rw [hl]
 exact Go.ownsRow_sortedI hl hg hh hncap hcap hcs
/-- slices.Compact at a row of the call's own. -/
theorem compactI.calls (P0_ : Nat → Prop) (u : Value) (l0 : List Int) (w0 w : World) (hB : Below w0.heap.size w0 w) (ho0 : Kd.R (Kd.int .i64) 3 w w0.heap.size P0_ u l0) (h0 : 0 < l0.length) :
  Calls Try.prog 32 #[u] w fun e w' => ∃ v0_ : Value, e = .returned v0_ ∧ Kd.R (Kd.int .i64) 3 w' w0.heap.size P0_ v0_ (Lib.compact l0) ∧ Below w0.heap.size w0 w' := by
 have hok := ho0.1
 have ho := Kd.own_of_R ho0
 obtain ⟨hlen, hor⟩ := ho
 rcases hor with ⟨rfl, hn⟩ | ⟨g, cap, cur, rfl, hg, hh, hncap, hcap, hcs, htk⟩
 ·
  omega
 rw [Nat.mul_one] at htk
 have hm : cap ≤ 9223372036854775807 := by simpa [maxLen] using hcap
 refine (Try.slices_Compact_int g 0 cap l0 w (Go.holds_of_blockI hh htk) (by omega) hncap).mono ?_
 rintro e w' ⟨rfl, q, rfl⟩
 have hle : (Lib.compact l0).length ≤ l0.length := compactLe l0
 have hl : (Lib.compact l0 ++ List.replicate (l0.length - (Lib.compact l0).length) (0 : Int)).length = l0.length := by rw [List.length_append, List.length_replicate]; omega
 have hR : Kd.R (Kd.int .i64) 3 (Go.Sort.putRow (Value.int .i64) (Go.Sort.ahead w q) g 0 (Lib.compact l0 ++ List.replicate (l0.length - (Lib.compact l0).length) (0 : Int)).toArray) w0.heap.size P0_ (.slice (some ⟨g, 0, none⟩) l0.length cap) (Lib.compact l0 ++ List.replicate (l0.length - (Lib.compact l0).length) (0 : Int)) := by
  refine Kd.R_of_own ?_ hok
  rw [hl]
  have := Go.ownsRow_sortedI (n := q) (os := #[]) hl hg hh hncap hcap hcs
  rwa [Go.Sort.grow_empty] at this
 refine ⟨_, rfl, ?_, ?_⟩
 ·
  have := Kd.R_take hR (m := (Lib.compact l0).length) (by rw [hl]; exact hle)
  rwa [List.take_left] at this
 ·
  have h2 := Go.grownBy_sortedI (w := w) (g := g) (n := q) (os := #[]) (Lib.compact l0 ++ List.replicate (l0.length - (Lib.compact l0).length) (0 : Int)).toArray
  rw [Go.Sort.grow_empty] at h2
  exact hB.grown h2 hB.size (fun k hk => by cases hk; exact hg)
theorem impl_AreasOf.pred : ∀ (W : World) (x : Int), Calls Try.prog 33 (#[.int .i64 x] ++ #[]) W fun e w' => e = .returned (.bool (x == 0)) ∧ Below W.heap.size W w' := by
 intro W x
 show Calls Try.prog 33 #[.int .i64 x] W _
 go_enter Try.func33, Try.ntmps33
 go_wp2
 go_ret
 exact ⟨rfl, Below.refl _ _⟩
def impl_AreasOf.f (k : Nat) (a0_0 : Int) (a0_1 : Int) (l0_2 : List Int) : Option (List Int × Bool) := (impl_IsValidAreaMap.f k a0_0 a0_1 l0_2).bind fun t => if t = true then (if 0 < l0_2.length ∧ l0_2.length < 17592186044416 then some ((Lib.compact (l0_2.mergeSort fun x y => decide (x ≤ y))).filter (fun x => !(x == 0)), true) else none) else some ([], false)
set_option maxHeartbeats 4000000 in
theorem impl_AreasOf.calls (k : Nat) (a0_0 : Int) (a0_1 : Int) (A0_2 : Option Addr) (c0_2 : Nat) (l0_2 : List Int) (r1 : List Int) (r2 : Bool) (w : World) (hr0_2 : Kd.C (Kd.int .i64) w A0_2 l0_2.length l0_2) (hc0_2 : l0_2.length ≤ c0_2) (h : impl_AreasOf.f k a0_0 a0_1 l0_2 = some (r1, r2)) :
  Calls Try.prog 16 #[.agg #[.int .i64 a0_0, .int .i64 a0_1, .slice A0_2 l0_2.length c0_2]] w fun e w' => ∃ v0_ : Value, e = .returned (.tuple #[v0_, .bool r2]) ∧ Kd.R (Kd.int .i64) 3 w' w.heap.size (fun _ => True) v0_ r1 ∧ Below w.heap.size w w' := by
 have hu := Try.underlying26
 have HR := Aside0.mk hr0_2
 have HC := Aside0.mk hc0_2
 have eg : ∀ args w, (callFunc 33 args).run Try.prog w = .ok (.enter 33 args) w := enters_of Try.func33 (by kernel_rfl) rfl
 have EG := Aside0.mk eg
 clear hr0_2 hc0_2 eg
 unfold impl_AreasOf.f at h
 obtain ⟨t, ht, h⟩ := Option.bind_eq_some_iff.mp h
 have HT := Aside0.mk ht
 clear ht
 obtain ⟨W1, hW1⟩ : ∃ W1, W1 = w.alloc (.cells #[.int .i64 a0_0, .int .i64 a0_1, .slice A0_2 l0_2.length c0_2] 26) := ⟨_, rfl⟩
 have a1B : Below w.heap.size w W1 := by rw [hW1]; exact (Below.refl _ w).alloc (Nat.le_refl _) _
 have a1N : W1.heap[w.heap.size]? = some (.cells #[.int .i64 a0_0, .int .i64 a0_1, .slice A0_2 l0_2.length c0_2] 26 (0, 0)) := by rw [hW1]; exact heap_alloc_new w _
 have HW := Aside0.mk hW1
 have HBW := Aside0.mk a1B
 have HN1 := Aside0.mk a1N
 clear a1B a1N hW1
 cases t with
 | false =>
  rw [if_neg (by simp)] at h
  injection h with h
  injection h with h1 h2
  subst h1 h2
  go_enter Try.func16, Try.ntmps16
  go_wp2_with (go_at_call 19; rw [← HW.out]; refine (impl_IsValidAreaMap.calls k a0_0 a0_1 A0_2 c0_2 l0_2 false _ (Kd.C_below HR.out HBW.out) HC.out HT.out).mono ?_; rintro e w1 ⟨rfl, hb⟩)
  go_ret2
  exact ⟨_, rfl, Kd.R_nil _ _ _ _ _, below_step HBW.out hb⟩
 | true =>
  rw [if_pos rfl] at h
  split at h
  ·
   rename_i hlen
   injection h with h
   injection h with h1 h2
   subst h1 h2
   have HL := Aside0.mk hlen
   clear hlen
   go_enter Try.func16, Try.ntmps16
   go_wp2_with fail
   rw [← HW.out]
   refine (impl_IsValidAreaMap.calls k a0_0 a0_1 A0_2 c0_2 l0_2 true _ (Kd.C_below HR.out HBW.out) HC.out HT.out).mono ?_
   rintro e w1 ⟨rfl, hb⟩
   have HB1 := Aside0.mk (below_step HBW.out hb)
   have hc2 : w1.cell? ⟨w.heap.size, 2, none⟩ = some (.slice A0_2 l0_2.length c0_2) := blk_cell (blk_below HN1.out hb) 2
   clear hb
   go_wp2_with fail
   refine (slices_Clone_int_int.calls A0_2 c0_2 l0_2 l0_2 w1 (Kd.C_below HR.out HB1.out) HC.out (if_pos HL.out.2)).mono ?_
   rintro e w2 ⟨v2, rfl, ho2, hb2⟩
   have HO2 := Aside0.mk (Kd.R_lower ho2 HB1.out.size)
   have HB2 := Aside0.mk (below_step HB1.out hb2)
   clear ho2 hb2
   go_wp2_with fail
   refine (sortI.calls (fun _ => True) v2 l0_2 w w2 HB2.out HO2.out HL.out.1 (by have := HL.out.2; omega)).mono ?_
   rintro e w3 ⟨rfl, ho3, hb3⟩
   have HO3 := Aside0.mk ho3
   have HB3 := Aside0.mk hb3
   clear ho3 hb3
   go_wp2_with fail
   refine (compactI.calls (fun _ => True) v2 (l0_2.mergeSort fun x y => decide (x ≤ y)) w w3 HB3.out HO3.out (by rw [List.length_mergeSort]; exact HL.out.1)).mono ?_
   rintro e w4 ⟨v4, rfl, ho4, hb4⟩
   have HO4 := Aside0.mk ho4
   have HB4 := Aside0.mk hb4
   clear ho4 hb4
   go_wp2_with fail
   refine (DeleteFuncI.calls 33 #[] (fun x => x == 0) EG.out (fun _ => True) v4 (Lib.compact (l0_2.mergeSort fun x y => decide (x ≤ y))) w w4 HB4.out HO4.out (fun W x _ _ _ => impl_AreasOf.pred W x)).mono ?_
   rintro e w5 ⟨v5, rfl, ho5, hb5, _⟩
   go_wp2
   go_ret2
   exact ⟨_, rfl, ho5, hb5⟩
  ·
   cases h
end Go.Proofs.Ytoaclbbkllpdaaa.Q
