/- Texts of this claim, put together: walks of the program's functions, and plain facts. -/
import Derived.Test.YtleadjbfcenofaaGreatDoorZFnWarningTexts
import Derived.Test.YtleadjbfcenofaaGreatDoorBFnWarningTexts0
import Derived.Test.YtleadjbfcenofaaGreatDoorBFnWarningTexts4
import Derived.Test.YtleadjbfcenofaaGreatDoorBFnWarningTexts5
import Derived.Test.YtleadjbfcenofaaGreatDoorBFnWarningTexts6
import Derived.Test.YtleadjbfcenofaaGreatDoorBFnWarningTexts8
import Derived.Test.YtleadjbfcenofaaGreatDoorBFnWarningTexts9
import Derived.Test.YtleadjbfcenofaaGreatDoorBFnWarningTexts10
namespace Go.Proofs.YtleadjbfcenofaaGreatDoor.Q
open Go.RowKit Go.Proofs.YtleadjbfcenofaaGreatDoorW.PrintWords Go.Proofs.YtleadjbfcenofaaGreatDoorW.PrintLast Go.Proofs.YtleadjbfcenofaaGreatDoorW.PrintMore
attribute [local go_sem] max2_int min2_int max_two min_two max_three min_three max_four min_four
set_option linter.unusedVariables false
set_option linter.unusedSimpArgs false
attribute [local go_sem] Oper.semAt_some
def boxPost (D B : Nat) (I : List ByteArray → World → Prop) (Ix : World → Prop) (xs : List ByteArray) (W : World) : Exit → Act → World → Prop
 | .normal, _, W' => KeepsFrom D W W' ∧ W'.heap[B]? = W.heap[B]? ∧ I xs W'
 | .ret, _, W' => KeepsFrom D W W' ∧ Ix W'
 | _, _, _ => False
theorem wp_rangeBox {P : Program} {n : Nat} {g : Operand} {ps : Array Tmp} {assign body : Code} {Q : Exit → Act → World → Prop} {a : Act} {w : World}
  {gf : Nat} {lb : Array Value} (hg : a.eval g = .func (.func gf) #[] lb) (eg : ∀ args w, (callFunc gf args).run P w = .ok (.enter gf args) w) (hps : ps.size = 1)
  (B : Nat) (hB : B < w.heap.size) (zs : List ByteArray)
  (hseq : ∀ (l : Nat) (J : List ByteArray → World → Prop) (Jx : World → Prop) (W : World),
   (∀ pre W v, J pre W → J pre (W.setCell ⟨B, 0, none⟩ v)) → (∀ pre W, J pre W → J pre W.drew) →
   (∀ pre x rest W1, zs = pre ++ x :: rest → J pre W1 → YieldAt Fence.wide (n - 1 - 1) P l #[.string x] W1 fun e W' => (e = .returned (.bool true) ∧ J (pre ++ [x]) W' ∧ W'.heap[B]? = W1.heap[B]?) ∨ (e = .returned (.bool false) ∧ Jx W')) →
   W.heap[B]? = w.heap[B]? → J [] W →
   CallsIn Fence.wide (n - 1) P gf (#[.func (.yield l) #[] #[]] ++ lb) W fun e W' => (∃ v, e = .returned v) ∧ (J zs W' ∨ Jx W'))
  (I : List ByteArray → World → Prop) (Ix : World → Prop) (hI : OwnFrom w.heap.size I) (hIx : OwnFrom w.heap.size (fun (_ : Unit) => Ix))
  (hIB : ∀ pre W v, I pre W → I pre (W.setCell ⟨B, 0, none⟩ v)) (hId : ∀ pre W, I pre W → I pre W.drew) (h0 : I [] w) (a₁ : ByteArray → Act)
  (hassign : ∀ (l : Nat) (x : ByteArray) (W : World) (K : Act → World → Prop), K (a₁ x) W →
   assign.wpIn (Fence.wide.inRound l) (n - 1 - 1) P (Exit.then K (fun _ _ _ => False)) { tmps := (ps.zip #[.string x]).foldl (fun t (p, v) => t.setIfInBounds p v) a.tmps, defers := [] } W)
  (hbody : ∀ (l : Nat) (pre : List ByteArray) (x : ByteArray) (rest : List ByteArray) (W : World), zs = pre ++ x :: rest → I pre W → w.heap.size ≤ W.heap.size → body.wpIn (Fence.wide.inRound l) (n - 1 - 1) P (boxPost w.heap.size B I Ix (pre ++ [x]) W) (a₁ x) W)
  (hdone : ∀ (D : Nat) (W : World), w.heap.size ≤ D → I zs W → W.heap[D]? = some (.deferred (some [])) → Q .normal { a with defers := { target := .collected D, args := #[] } :: a.defers } W)
  (hstop : ∀ (D : Nat) (W : World), w.heap.size ≤ D → Ix W → W.heap[D]? = some (.deferred (some [])) → Code.ret.wpIn Fence.wide n P Q { a with defers := { target := .collected D, args := #[] } :: a.defers } W) :
  (Code.rangeFunc g ps assign body).wpIn Fence.wide n P Q a w := by
 refine wpIn_rangeFunc ?_
 intro fn hfn
 obtain ⟨rec, hrec⟩ : ∃ rec : LoopState → Option Code → Loop, rec = fun st pe => { state := st, pending := pe, fn, tmps := a.tmps, params := ps, assign, body, defers := w.heap.size } := ⟨_, rfl⟩
 obtain ⟨W1, hW1⟩ : ∃ W1, (w.alloc (.deferred (some []))).alloc (.loop (rec .ready none)) = W1 := ⟨_, rfl⟩
 have hL1 : W1.heap[w.heap.size + 1]? = some (.loop (rec .ready none)) := by
  rw [← hW1]
  have := World.alloc_heap_new (w.alloc (.deferred (some []))) (.loop (rec .ready none))
  rwa [World.size_alloc] at this
 have hK1 : W1.heap[w.heap.size]? = some (.deferred (some [])) := by
  rw [← hW1]
  exact (Below.heap_alloc _ _ _ (by simp)).trans (World.alloc_heap_new w _)
 have hI1 : I [] W1 := by rw [← hW1]; exact hI.alloc _ (hI.alloc _ h0)
 have hB1 : W1.heap[B]? = w.heap[B]? := by
  rw [← hW1]
  exact (Below.heap_alloc _ _ _ (by simp; omega)).trans (Below.heap_alloc _ _ _ hB)
 refine ⟨w.heap.size + 1, [{ target := .collected w.heap.size, args := #[] }], W1, { target := .fn (.func gf) lb, args := #[.func (.yield (w.heap.size + 1)) #[] #[]] }, W1, gf, #[.func (.yield (w.heap.size + 1)) #[] #[]] ++ lb, W1, ?_, ?_, ?_, ?_, ?_, ?_⟩
 ·
  rw [← hW1, hrec]
  exact run_enterLoop_outer _ _ _ _ _
 ·
  simp only [resolve, hg]
  simp [go_sem]
 ·
  intro f' hf'
  simp [Target.leads] at hf'
  subst hf'
  trivial
 ·
  simp [invoke, go_sem, eg]
 ·
  intro h
  simp [Fence.wide] at h
 ·
  refine (hseq (w.heap.size + 1)
   (fun pre W => I pre W ∧ W.heap[w.heap.size + 1]? = some (.loop (rec .ready none)) ∧ W.heap[w.heap.size]? = some (.deferred (some [])))
   (fun W => Ix W ∧ W.heap[w.heap.size + 1]? = some (.loop (rec .done (some .ret))) ∧ W.heap[w.heap.size]? = some (.deferred (some [])))
   W1 (fun pre W v h => ⟨hIB _ _ _ h.1, (Below.heap_setCell _ ⟨B, 0, none⟩ _ _ (fun e => by have e : w.heap.size + 1 = B := e; omega)).trans h.2.1, (Below.heap_setCell _ ⟨B, 0, none⟩ _ _ (fun e => by have e : w.heap.size = B := e; omega)).trans h.2.2⟩)
   (fun pre W h => ⟨hId _ _ h.1, h.2.1, h.2.2⟩) ?_ hB1 ⟨hI1, hL1, hK1⟩).mono ?_
  ·
   rintro pre x rest W hzs ⟨hi, hl, hk⟩
   have hlt : w.heap.size + 1 < W.heap.size := (Array.getElem?_eq_some_iff.1 hl).1
   have hy := run_yield (P := P) (args := #[.string x]) hl (by rw [hrec]; exact hps.symm)
   rw [hrec] at hy
   have hl2 : (W.putObj (w.heap.size + 1) (.loop { rec .ready none with state := .busy })).heap[w.heap.size + 1]? = some (.loop { rec .ready none with state := .busy }) := World.putObj_heap_same hlt
   have hk2 : (W.putObj (w.heap.size + 1) (.loop { rec .ready none with state := .busy })).heap[w.heap.size]? = some (.deferred (some [])) := (World.putObj_heap_other (by omega)).trans hk
   have hb2 : (W.putObj (w.heap.size + 1) (.loop { rec .ready none with state := .busy })).heap[B]? = W.heap[B]? := World.putObj_heap_other (by omega)
   refine ⟨fn, _, assign, body, hy, roundIn_of_wpIn hfn (hassign _ x W _ ⟨_, run_beginRound hl (by rw [hrec]), ?_⟩)⟩
   refine wpIn_mono (hbody _ pre x rest _ hzs (hI.putObj _ hi (by omega) hl rfl) (by simp; omega)) ?_
   have fin : ∀ (jump : Option Code) (W3 : World), KeepsFrom w.heap.size (W.putObj (w.heap.size + 1) (.loop { rec .ready none with state := .busy })) W3 →
     (Instr.endRound (w.heap.size + 1) jump).run P W3 = .ok (.bool jump.isNone) (W3.putObj (w.heap.size + 1) (.loop (rec (if jump.isNone then .ready else .done) jump))) ∧
     W3.heap[w.heap.size + 1]? = some (.loop { rec .ready none with state := .busy }) ∧
     (W3.putObj (w.heap.size + 1) (.loop (rec (if jump.isNone then .ready else .done) jump))).heap[w.heap.size + 1]? = some (.loop (rec (if jump.isNone then .ready else .done) jump)) ∧
     (W3.putObj (w.heap.size + 1) (.loop (rec (if jump.isNone then .ready else .done) jump))).heap[w.heap.size]? = some (.deferred (some [])) := fun jump W3 hk3 => by
    have hl3 := hk3.same _ _ (by omega) hl2 rfl
    have h4 := run_endRound (P := P) jump hl3
    rw [hrec] at h4 ⊢
    exact ⟨h4, by rw [hrec] at hl3; exact hl3, World.putObj_heap_same (Array.getElem?_eq_some_iff.1 hl3).1, (World.putObj_heap_other (by omega)).trans (hk3.same _ _ (Nat.le_refl _) hk2 rfl)⟩
   rintro e a3 W3 hp
   cases e with
   | normal =>
    obtain ⟨hk3, hb3, hi3⟩ := hp
    obtain ⟨hr, hl3, hl4, hk4⟩ := fin none W3 hk3
    exact ⟨_, _, hr, .inl ⟨rfl, ⟨hI.putObj _ hi3 (by omega) hl3 rfl, hl4, hk4⟩, (World.putObj_heap_other (by omega)).trans (hb3.trans hb2)⟩⟩
   | ret =>
    obtain ⟨hk3, hi3⟩ := hp
    obtain ⟨hr, hl3, hl4, hk4⟩ := fin (some .ret) W3 hk3
    exact ⟨_, _, hr, .inr ⟨rfl, hIx.putObj (s := ()) _ hi3 (by omega) hl3 rfl, hl4, hk4⟩⟩
   | exit id => exact hp.elim
   | goto t => exact hp.elim
   | panic ch => exact hp.elim
   | outgrown => exact hp.elim
  ·
   rintro e W2 ⟨⟨v, rfl⟩, (⟨hi, hl, hk⟩ | ⟨hi, hl, hk⟩)⟩
   ·
    exact ⟨none, _, by have h5 := run_endLoop (P := P) hl (by rw [hrec]; simp); rw [hrec] at h5; exact h5, hdone _ _ (Nat.le_refl _) (hI.putObj _ hi (by omega) hl rfl) ((World.putObj_heap_other (by omega)).trans hk)⟩
   ·
    exact ⟨some .ret, _, by have h5 := run_endLoop (P := P) hl (by rw [hrec]; simp); rw [hrec] at h5; exact h5, hstop _ _ (Nat.le_refl _) (hIx.putObj (s := ()) _ hi (by omega) hl rfl) ((World.putObj_heap_other (by omega)).trans hk)⟩
def linesF : Nat → ByteArray → List ByteArray
 | 0, _ => []
 | k + 1, z => if z.size = 0 then [] else if 0 ≤ Lib.indexByte z.data.toList 10 then z.extract 0 (Lib.indexByte z.data.toList 10 + 1).toNat :: linesF k (z.extract (Lib.indexByte z.data.toList 10 + 1).toNat z.size) else [z]
theorem linesF_nil (k : Nat) : linesF k ⟨#[]⟩ = [] := by
 cases k with
 | zero => rfl
 | succ k => exact if_pos rfl
noncomputable def leftOf (B : Nat) (W : World) : Nat := match W.cell? ⟨B, 0, none⟩ with
 | some (.string z) => z.size
 | _ => 0
theorem index_nl (z : ByteArray) (w : World) : Calls Tryz.prog 62 #[.string z, .int .u8 10] w fun e w' => e = .returned (.int .i64 (Lib.indexByte z.data.toList 10)) ∧ w' = w := strings_IndexByte.same z 10 w
set_option maxHeartbeats 1000000 in
set_option maxRecDepth 100000 in
theorem lines_in (n : Nat) (l B : Nat) (J : List ByteArray → World → Prop) (Jx : World → Prop)
  (hS : ∀ pre W v, J pre W → J pre (W.setCell ⟨B, 0, none⟩ v)) (hD : ∀ pre W, J pre W → J pre W.drew)
  (z0 : ByteArray) (hY : ∀ pre x rest W, linesF z0.size z0 = pre ++ x :: rest → J pre W → YieldAt Fence.wide (n - 1) Tryz.prog l #[.string x] W fun e W' => (e = .returned (.bool true) ∧ J (pre ++ [x]) W' ∧ W'.heap[B]? = W.heap[B]?) ∨ (e = .returned (.bool false) ∧ Jx W'))
  (h63 : z0.size ≤ 9223372036854775806) (W : World) (hB : Boxed W B 9 (.string z0)) (h0 : J [] W) :
  CallsIn Fence.wide n Tryz.prog 61 #[.func (.yield l) #[] #[], .pointer (some ⟨B, 0, none⟩)] W fun e W' => (∃ v, e = .returned v) ∧ (J (linesF z0.size z0) W' ∨ Jx W') := by
 have hmix : Tryz.prog.follows .mixedOrders = true := by kernel_rfl
 refine callsIn_of_wp Tryz.func61 rfl trivial ?_ rfl
 simp only [Tryz.ntmps61, List.size_toArray, List.length_cons, List.length_nil, Nat.reduceAdd, Nat.reduceSub, Array.replicate_succ, Array.replicate_zero, List.push_toArray, List.append_toArray, List.nil_append, List.cons_append]
 gi_wp2
 gi_loopw [] (fun wr => ∃ (pre : List ByteArray) (z : ByteArray) (k : Nat), linesF z0.size z0 = pre ++ linesF k z ∧ z.size ≤ k ∧ z.size ≤ z0.size ∧ Boxed wr B 9 (.string z) ∧ J pre wr) (fun wr => leftOf B wr)
 case atStart =>
  exact ⟨[], z0, z0.size, rfl, Nat.le_refl _, Nat.le_refl _, hB, h0⟩
 case round =>
  obtain ⟨pre, z, k, hl, hk, hz, hb, hJ⟩ := hrel
  have hc := hb.cell
  have hf := hb.frozen
  by_cases hz0 : z.size = 0
  ·
   have d0 : decide ((0 : Int) < (z.size : Int)) = false := by simp [hz0]
   gi_wp2
   go_end0
   refine ⟨⟨_, rfl⟩, .inl ?_⟩
   rw [hl]
   cases k with
   | zero => simpa [linesF] using hJ
   | succ k => simpa [linesF, hz0] using hJ
  ·
   have d0 : decide ((0 : Int) < (z.size : Int)) = true := by simp; omega
   by_cases hi : 0 ≤ Lib.indexByte z.data.toList 10
   ·
    obtain ⟨i, hie⟩ : ∃ i : Nat, Lib.indexByte z.data.toList 10 = (i : Int) := ⟨_, (Int.toNat_of_nonneg hi).symm⟩
    have hlt : i < z.size := by
     have h1 := (Lib.indexByte_some hie).1
     have h2 := (List.getElem?_eq_some_iff.1 h1).1
     simpa using h2
    have d1 : decide ((0 : Int) ≤ (i : Int)) = true := by simp
    have hw : wrap64 ((i : Int) + 1) = (i : Int) + 1 := by unfold wrap64; omega
    have b1 : (0 : Int) ≤ (i : Int) + 1 := by omega
    have b2 : (i : Int) + 1 ≤ (z.size : Int) := by omega
    have b3 : (z.size : Int) ≤ (z.size : Int) := by omega
    have htn : ((i : Int) + 1).toNat = i + 1 := by omega
    have hJ' := hD _ _ (hS _ _ (.string (z.extract (i + 1) z.size)) hJ)
    obtain ⟨k, rfl⟩ : ∃ k', k = k' + 1 := ⟨k - 1, by omega⟩
    have hstep : linesF (k + 1) z = z.extract 0 (i + 1) :: linesF k (z.extract (i + 1) z.size) := by
     simp only [linesF]
     rw [if_neg hz0, hie, if_pos (by omega), htn]
    rw [hstep] at hl
    obtain ⟨fn, tmps, assign, body, hy, hR⟩ := hY pre (z.extract 0 (i + 1)) _ _ hl hJ'
    gi_wp2_with (refine ⟨trivial, (fun h => by simp [Fence.wide] at h), ?_⟩; refine (callsIn_wide.2 (index_nl z _)).mono ?_; rintro e w1 ⟨rfl, rfl⟩; rw [hie])
    gi_big_region_o
    gi_wp2
    refine ⟨fun h => by simp [Fence.wide] at h, ?_⟩
    refine hR.mono ?_
    rintro e W3 (⟨rfl, hJ3, hB3⟩ | ⟨rfl, hJx3⟩)
    ·
     have hb3 : Boxed W3 B 9 (.string (z.extract (i + 1) z.size)) := hB3.trans (hb.set _)
     have hsz : (z.extract (i + 1) z.size).size < z.size := by rw [ByteArray.size_extract]; omega
     gi_wp2
     go_roundw
     case rel =>
      exact ⟨pre ++ [z.extract 0 (i + 1)], z.extract (i + 1) z.size, k, by rw [hl, List.append_assoc, List.singleton_append], by omega, by omega, hb3, hJ3⟩
     case measure =>
      simp only [leftOf, hb3.cell, hc]
      exact hsz
    ·
     gi_wp2
     refine bodyPost_ret (results_none rfl _ _ _) rfl ?_
     exact ⟨⟨_, rfl⟩, .inr hJx3⟩
   ·
    have d1 : decide ((0 : Int) ≤ Lib.indexByte z.data.toList 10) = false := by simpa using hi
    have hJ' := hS _ _ (.string ⟨#[]⟩) hJ
    obtain ⟨k, rfl⟩ : ∃ k', k = k' + 1 := ⟨k - 1, by omega⟩
    have hstep : linesF (k + 1) z = [z] := by
     simp only [linesF]
     rw [if_neg hz0, if_neg (by omega)]
    rw [hstep] at hl
    obtain ⟨fn, tmps, assign, body, hy, hR⟩ := hY pre z [] _ hl hJ'
    gi_wp2_with (refine ⟨trivial, (fun h => by simp [Fence.wide] at h), ?_⟩; refine (callsIn_wide.2 (index_nl z _)).mono ?_; rintro e w1 ⟨rfl, rfl⟩)
    refine ⟨fun h => by simp [Fence.wide] at h, ?_⟩
    refine hR.mono ?_
    rintro e W3 (⟨rfl, hJ3, hB3⟩ | ⟨rfl, hJx3⟩)
    ·
     have hb3 : Boxed W3 B 9 (.string ⟨#[]⟩) := hB3.trans (hb.set _)
     gi_wp2
     go_roundw
     case rel =>
      exact ⟨pre ++ [z], ⟨#[]⟩, k, by rw [hl, linesF_nil, List.append_nil], Nat.zero_le _, Nat.zero_le _, hb3, hJ3⟩
     case measure =>
      simp only [leftOf, hb3.cell, hc]
      show 0 < z.size
      omega
    ·
     gi_wp2
     refine bodyPost_ret (results_none rfl _ _ _) rfl ?_
     exact ⟨⟨_, rfl⟩, .inr hJx3⟩
theorem lines_made (z : ByteArray) (w : World) : Calls Tryz.prog 44 #[.string z] w fun e w' => e = .returned (.func (.func 61) #[] #[.pointer (some ⟨w.heap.size, 0, none⟩)]) ∧ w' = w.alloc (.cells #[.string z] 9) := by
 go_enter Tryz.func44, Tryz.ntmps44
 go_wp2
 go_ret
 exact ⟨rfl, rfl⟩
def poL (k : Nat) : List ByteArray → List S25 → Option (Option (List S25))
 | [], acc => some (some acc)
 | x :: r, acc => (strings_TrimSuffix.f x ⟨#[10]⟩).bind fun t => (impl_ParseWarning.f k t).bind fun p => if p.2.2.2.2.2.2 = true then (if acc.length < 1000000 then poL k r (acc ++ [⟨p.1, p.2.1, p.2.2.1, p.2.2.2.1, p.2.2.2.2.1, p.2.2.2.2.2.1⟩]) else none) else some none
def poE (k : Nat) : Option (List S25) → Option (List S25 × Bool)
 | none => some ([], false)
 | some l => (impl_isOverview.f k l).bind fun t => if t = true then some (l, true) else some ([], false)
def impl_ParseOverview.f (k : Nat) (a0 : ByteArray) : Option (List S25 × Bool) :=
 if (a0.toList == [78, 111, 32, 119, 97, 114, 110, 105, 110, 103, 115, 46, 10]) = true then some ([], true)
 else if a0.size ≤ 4000 then (strings_HasSuffix.f a0 ⟨#[10]⟩).bind fun t => (if t = true then (poL k (linesF a0.size a0) []).bind fun o => poE k o else some ([], false))
 else some ([], false)
theorem boxed_far {W : World} {B b : Nat} {t : TypeId} {v : Value} (h : Boxed W b t v) (hne : b ≠ B) (u : Value) : Boxed (W.setCell ⟨B, 0, none⟩ u) b t v := (Below.heap_setCell W ⟨B, 0, none⟩ u b hne).trans h
theorem boxed_below {W W' : World} {b : Nat} {t : TypeId} {v : Value} (h : Boxed W b t v) (hb : Below W.heap.size W W') : Boxed W' b t v := (hb.block b h.lt).trans h
theorem boxed_grown {W W' : World} {b : Nat} {t : TypeId} {v : Value} (h : Boxed W b t v) {row : Option Nat} (hg : W.grownBy W' row) (hr : ∀ r, row = some r → ∃ o : Obj, W.heap[r]? = some o ∧ o.isCells = false) : Boxed W' b t v :=
 h.kept hg fun e => by
  obtain ⟨o, ho, hc⟩ := hr b e.symm
  rw [show W.heap[b]? = _ from h] at ho
  cases ho
  cases hc
theorem rows_grown {α : Type} {d : Kd α} {e : Nat} {W W' : World} {base : Nat} {v : Value} {xs : List α} (h : Kd.R d e W base (fun _ => True) v xs) {row : Option Nat} (hg : W.grownBy W' row) (hr : ∀ r, row = some r → ∃ o : Obj, W.heap[r]? = some o ∧ o.isCells = false) : Kd.R d e W' base (fun _ => True) v xs :=
 Kd.R_mono (Kd.R_grown (Kd.R_bound h) hg fun k hk e => by
  obtain ⟨o, ho, hc⟩ := hr k e.symm
  obtain ⟨_, _, _, q, _, cells, hc'⟩ := hk
  rw [hc'] at ho
  cases ho
  cases hc) (fun _ _ => trivial)
theorem impl_ParseOverview.res (tmps : Array Value) (W : World) (b2 b3 : Nat) (v : Value) (u : Bool) (h2 : tmps[2]?.getD undef = .pointer (some ⟨b2, 0, none⟩)) (h3 : tmps[3]?.getD undef = .pointer (some ⟨b3, 0, none⟩)) (H2 : Boxed W b2 32 v) (H3 : Boxed W b3 4 (.bool u)) :
  (results Tryz.f14 tmps).run Tryz.prog W = .ok (.tuple #[v, .bool u]) W := by
 have hc2 := H2.cell
 have hc3 := H3.cell
 have u2 := Tryz.underlying32
 have u3 := Tryz.underlying4
 simp [results, show Tryz.f14.results = #[.cell 2 32, .cell 3 4] from rfl, h2, h3, asAddr, go_sem, loadVar, u2, u3, hc2, hc3]
theorem own_of_rows {α : Type} {d : Kd α} {e : Nat} {W : World} {base : Nat} {v : Value} {xs : List α} (h : Kd.R d e W base (fun _ => True) v xs) : ∃ inner, W.ownsRow base e d.sz v xs.length inner ∧ Reps (d.M W base (fun k => True ∧ some k ≠ v.ownBlock)) d.sz xs inner := by
 obtain ⟨_, inner, ho, hr⟩ := h
 exact ⟨inner, ho, hr⟩
theorem keepsO_below {W W' : World} (hb : Below W.heap.size W W') : KeepsOthers W W' := ⟨hb.size, fun k o hk _ => (hb.block k (Array.getElem?_eq_some_iff.1 hk).1).trans hk⟩
theorem rows_more {W W' : World} {base : Nat} {v' : Value} {acc : List S25} {inner : List Value} {ok : Nat → Prop} (p1 p2 p3 p4 p5 p6 : Int) (hr : Reps (k25.M W base ok) 6 acc inner)
  (ho : W'.ownsRow base 25 6 v' (acc.length + 1) (inner ++ [.int .i64 p1, .int .i64 p2, .int .i64 p3, .int .i64 p4, .int .i64 p5, .int .i64 p6])) : Kd.R k25 25 W' base (fun _ => True) v' (acc ++ [⟨p1, p2, p3, p4, p5, p6⟩]) :=
 ⟨fun _ _ => trivial, _, by rw [List.length_append, List.length_singleton]; exact ho, (hr.imp_ (fun x c hq => by rw [k25_openM hq]; exact k25_mkM _ _ _ _)).snoc (k25_mkM _ _ _ ⟨p1, p2, p3, p4, p5, p6⟩) rfl⟩
def PoI (w : World) (k : Nat) (zs : List ByteArray) (o : Option (List S25)) (pre : List ByteArray) (W : World) : Prop :=
 ∃ (v : Value) (acc : List S25), Boxed W (w.heap.size + 1 + 1) 32 v ∧ Boxed W w.heap.size 32 (.slice none 0 0) ∧ Boxed W (w.heap.size + 1) 4 (.bool false) ∧ (∃ u, Boxed W (w.heap.size + 1 + 1 + 1) 9 u) ∧ Kd.R k25 25 W w.heap.size (fun _ => True) v acc ∧ Below w.heap.size w W ∧ ∀ rest, zs = pre ++ rest → poL k rest acc = some o
def PoX (w : World) (o : Option (List S25)) (W : World) : Prop :=
 Boxed W w.heap.size 32 (.slice none 0 0) ∧ Boxed W (w.heap.size + 1) 4 (.bool false) ∧ Below w.heap.size w W ∧ o = none
theorem PoI.own (w : World) (k : Nat) (zs : List ByteArray) (o : Option (List S25)) {D : Nat} (hD : w.heap.size ≤ D) : OwnFrom D (PoI w k zs o) := by
 rintro pre W W' row ⟨v, acc, h4, h2, h3, ⟨u, hB⟩, hR, hb, hP⟩ hg hr
 have hr' := fun r e => (hr r e).2
 exact ⟨v, acc, boxed_grown h4 hg hr', boxed_grown h2 hg hr', boxed_grown h3 hg hr', ⟨u, boxed_grown hB hg hr'⟩, rows_grown hR hg hr', ownFrom_below (β := Unit) (Nat.le_refl _) hD () W W' row hb hg hr, hP⟩
theorem PoX.own (w : World) (o : Option (List S25)) {D : Nat} (hD : w.heap.size ≤ D) : OwnFrom D (fun (_ : Unit) => PoX w o) := by
 rintro pre W W' row ⟨h2, h3, hb, ho⟩ hg hr
 have hr' := fun r e => (hr r e).2
 exact ⟨boxed_grown h2 hg hr', boxed_grown h3 hg hr', ownFrom_below (β := Unit) (Nat.le_refl _) hD () W W' row hb hg hr, ho⟩
theorem PoI.set {w : World} {k : Nat} {zs : List ByteArray} {o : Option (List S25)} (pre : List ByteArray) (W : World) (u' : Value) (h : PoI w k zs o pre W) : PoI w k zs o pre (W.setCell ⟨w.heap.size + 1 + 1 + 1, 0, none⟩ u') := by
 obtain ⟨v, acc, h4, h2, h3, ⟨u, hB⟩, hR, hb, hP⟩ := h
 exact ⟨v, acc, boxed_far h4 (by omega) _, boxed_far h2 (by omega) _, boxed_far h3 (by omega) _, ⟨u', hB.set _⟩, Kd.R_set hR hB (by decide) 0 u', hb.setCell (p := ⟨w.heap.size + 1 + 1 + 1, 0, none⟩) (by show w.heap.size ≤ w.heap.size + 1 + 1 + 1; omega) _, hP⟩
theorem PoI.drew {w : World} {k : Nat} {zs : List ByteArray} {o : Option (List S25)} (pre : List ByteArray) (W : World) (h : PoI w k zs o pre W) : PoI w k zs o pre W.drew := by
 obtain ⟨v, acc, h4, h2, h3, ⟨u, hB⟩, hR, hb, hP⟩ := h
 exact ⟨v, acc, h4, h2, h3, ⟨u, hB⟩, Kd.R_drew hR, hb.drew, hP⟩
set_option maxHeartbeats 8000000 in
set_option maxRecDepth 100000 in
theorem impl_ParseOverview.calls (k : Nat) (a0 : ByteArray) (r1 : List S25) (r2 : Bool) (w : World) (htE : TabE w) (htL : TabL w) (htM : TabM w) (htN : TabN w) (htO : TabO w) (h : impl_ParseOverview.f k a0 = some (r1, r2)) :
  Calls Tryz.prog 14 #[.string a0] w fun e w' => ∃ v0_ : Value, e = .returned (.tuple #[v0_, .bool r2]) ∧ Kd.R k25 25 w' w.heap.size (fun _ => True) v0_ r1 ∧ Below w.heap.size w w' := by
 have hu := Tryz.underlying25
 have h2 := fun (o : Obj) => Boxed.new w 32 (.slice none 0 0)
 unfold impl_ParseOverview.f at h
 split at h
 ·
  rename_i c1
  injection h with h
  obtain ⟨rfl, rfl⟩ := Prod.mk.inj h
  refine (callsIn_wide (n := 3)).1 ?_
  refine callsIn_of_wp_marks Tryz.func14 rfl trivial ?_ rfl
  simp only [Tryz.ntmps14, List.size_toArray, List.length_cons, List.length_nil, Nat.reduceAdd, Nat.reduceSub, Array.replicate_succ, Array.replicate_zero, List.push_toArray, List.append_toArray, List.nil_append, List.cons_append]
  gi_wp2
  have H2 : Boxed ((w.alloc (.cells #[.slice none 0 0] 32)).alloc (.cells #[.bool true] 4)) w.heap.size 32 (.slice none 0 0) := (Boxed.new w _ _).alloc _
  have H3 := Boxed.new (w.alloc (.cells #[.slice none 0 0] 32)) 4 (.bool true)
  rw [World.size_alloc] at H3
  exact ⟨_, impl_ParseOverview.res _ _ _ _ _ _ rfl rfl H2 H3, _, rfl, Kd.R_nil _ _ _ _ _, ((Below.refl _ w).alloc (Nat.le_refl _) _).alloc (by simp) _⟩
 ·
  rename_i c1
  replace c1 := Bool.eq_false_iff.mpr c1
  split at h
  ·
   rename_i c2
   obtain ⟨t, ht, h⟩ := Option.bind_eq_some_iff.1 h
   cases t with
   | true =>
    rw [if_pos rfl] at h
    obtain ⟨o, ho, h⟩ := Option.bind_eq_some_iff.1 h
    have d0 : decide ((4000 : Int) < (a0.size : Int)) = false := decide_eq_false (by omega)
    refine (callsIn_wide (n := 3)).1 ?_
    refine callsIn_of_wp_marks Tryz.func14 rfl trivial ?_ rfl
    simp only [Tryz.ntmps14, List.size_toArray, List.length_cons, List.length_nil, Nat.reduceAdd, Nat.reduceSub, Array.replicate_succ, Array.replicate_zero, List.push_toArray, List.append_toArray, List.nil_append, List.cons_append]
    gi_wp2_with (first | (refine ⟨trivial, ?_⟩; refine (callsIn_wide.2 (strings_HasSuffix.calls a0 ⟨#[10]⟩ true _ ht)).mono ?_; rintro e w1 ⟨rfl, nd, rfl⟩) | (refine ⟨trivial, ?_⟩; refine (callsIn_wide.2 (lines_made a0 _)).mono ?_; rintro e w2 ⟨rfl, rfl⟩))
    have HW : ∃ W0, ((((w.alloc (.cells #[.slice none 0 0] 32)).alloc (.cells #[.bool false] 4)).drewN nd).alloc (.cells #[.slice none 0 0] 32)).alloc (.cells #[.string a0] 9) = W0 := ⟨_, rfl⟩
    obtain ⟨W0, hW0⟩ := HW
    have G2 : Boxed W0 w.heap.size 32 (.slice none 0 0) := by rw [← hW0]; exact (Boxed.alloc (W := ((w.alloc _).alloc _).drewN nd) ((Boxed.new w _ _).alloc _) _).alloc _
    have G3 : Boxed W0 (w.heap.size + 1) 4 (.bool false) := by
     have := Boxed.new (w.alloc (.cells #[.slice none 0 0] 32)) 4 (.bool false)
     rw [World.size_alloc] at this
     rw [← hW0]; exact (Boxed.alloc (W := ((w.alloc _).alloc _).drewN nd) this _).alloc _
    have G4 : Boxed W0 (w.heap.size + 1 + 1) 32 (.slice none 0 0) := by
     have := Boxed.new (((w.alloc (.cells #[.slice none 0 0] 32)).alloc (.cells #[.bool false] 4)).drewN nd) 32 (.slice none 0 0)
     rw [show (((w.alloc (.cells #[.slice none 0 0] 32)).alloc (.cells #[.bool false] 4)).drewN nd).heap.size = w.heap.size + 1 + 1 from by simp] at this
     rw [← hW0]; exact this.alloc _
    have GB : Boxed W0 (w.heap.size + 1 + 1 + 1) 9 (.string a0) := by
     have := Boxed.new ((((w.alloc (.cells #[.slice none 0 0] 32)).alloc (.cells #[.bool false] 4)).drewN nd).alloc (.cells #[.slice none 0 0] 32)) 9 (.string a0)
     rw [show ((((w.alloc (.cells #[.slice none 0 0] 32)).alloc (.cells #[.bool false] 4)).drewN nd).alloc (.cells #[.slice none 0 0] 32)).heap.size = w.heap.size + 1 + 1 + 1 from by simp] at this
     rw [← hW0]; exact this
    have GW : Below w.heap.size w W0 := by
     rw [← hW0]
     exact (((pw_below_drewN (((Below.refl _ w).alloc (Nat.le_refl _) _).alloc (by simp) _) nd).alloc (by simp; omega) _).alloc (by simp; omega) _)
    rw [hW0]
    refine wp_rangeBox (n := 3) rfl (enters_of Tryz.func61 (by kernel_rfl) rfl) rfl (w.heap.size + 1 + 1 + 1) GB.lt (linesF a0.size a0) ?seq (PoI w k (linesF a0.size a0) o) (PoX w o) (PoI.own w k _ o GW.size) (PoX.own w o GW.size) PoI.set PoI.drew ?start
     (fun x => { tmps := #[.string a0, undef, .pointer (some ⟨w.heap.size, 0, none⟩), .pointer (some ⟨w.heap.size + 1, 0, none⟩), .pointer (some ⟨w.heap.size + 1 + 1, 0, none⟩), .string x, undef, undef, .string a0, .bool false, .string a0, .int .i64 (a0.size : Int), .bool false, .bool false, .string a0, .bool true, .bool false, .bool false, .string a0, .func (.func 61) #[] #[.pointer (some ⟨w.heap.size + 1 + 1 + 1, 0, none⟩)], .string x, undef, undef, undef, undef, undef, undef, undef, undef, undef, undef, undef, undef, undef, undef, undef, undef], defers := [] }) ?assign ?body ?done ?stop
    case seq => exact fun l J Jx W hS hD hY hBW h0 => lines_in 2 l (w.heap.size + 1 + 1 + 1) J Jx hS hD a0 hY (by omega) W (hBW.trans GB) h0
    case start => exact ⟨_, [], G4, G2, G3, ⟨_, GB⟩, Kd.R_nil _ _ _ _ _, GW, fun rest e => by rw [List.nil_append] at e; rw [← e]; exact ho⟩
    case assign =>
     intro l x W K hK
     gi_wp2
     exact hK
    case body =>
     rintro l pre x rest W hzs ⟨v, acc, h4, g2, g3, ⟨u, gB⟩, hR, hb, hP⟩ hsz
     have hp := hP _ hzs
     unfold poL at hp
     obtain ⟨t, ht, hp⟩ := Option.bind_eq_some_iff.1 hp
     obtain ⟨⟨p1, p2, p3, p4, p5, p6, p7⟩, hpw, hp⟩ := Option.bind_eq_some_iff.1 hp
     dsimp only at hp
     cases p7 with
     | true =>
      rw [if_pos rfl] at hp
      split at hp
      ·
       rename_i hlen
       gi_wp2_with (first | (refine ⟨trivial, ?_⟩; refine (CallsIn.inRound l (callsIn_wide.2 (strings_TrimSuffix.calls x ⟨#[10]⟩ t _ ht))).mono ?_; rintro e W1 ⟨rfl, nd1, rfl⟩) | (refine ⟨trivial, ?_⟩; refine (CallsIn.inRound l (callsIn_wide.2 (impl_ParseWarning.calls k t p1 p2 p3 p4 p5 p6 true _ (htE.below (pw_below_drewN hb _)) (htL.below (pw_below_drewN hb _)) (htM.below (pw_below_drewN hb _)) (htN.below (pw_below_drewN hb _)) (htO.below (pw_below_drewN hb _)) hpw))).mono ?_; rintro e W2 ⟨rfl, hb2⟩; have Hb := (pw_below_drewN hb nd1).trans (hb2.mono (pw_below_drewN hb nd1).size); have q4 := boxed_below (W := W.drewN nd1) h4 hb2; have q2 := boxed_below (W := W.drewN nd1) g2 hb2; have q3 := boxed_below (W := W.drewN nd1) g3 hb2; have qB := boxed_below (W := W.drewN nd1) gB hb2; have qR := Kd.R_below (Kd.R_drewN hR nd1) hb2; have qc4 : ∀ o, (W2.alloc o).cell? ⟨w.heap.size + 1 + 1, 0, none⟩ = some v := fun o => (q4.alloc o).cell; have hown : ∃ inner, (W2.alloc (.cells #[.int .i64 p1, .int .i64 p2, .int .i64 p3, .int .i64 p4, .int .i64 p5, .int .i64 p6] 25)).ownsRow w.heap.size 25 6 v acc.length inner ∧ Reps (k25.M (W2.alloc (.cells #[.int .i64 p1, .int .i64 p2, .int .i64 p3, .int .i64 p4, .int .i64 p5, .int .i64 p6] 25)) w.heap.size (fun k => True ∧ some k ≠ v.ownBlock)) 6 acc inner := own_of_rows (Kd.R_alloc qR _); obtain ⟨inner, hin, hrep⟩ := hown; obtain ⟨i0, hi0, hz0, hz1, hz2⟩ := info_parts info25) | (gi_at_builtin; refine wpListIn_append_own _ rfl _ _ 32 rfl w.heap.size 25 i0 _ 6 48 Tryz.underlying32 hi0 hz0 hz1 hz2 rfl (by decide) _ _ _ rfl (hin.alloc _) ⟨_, 0, none⟩ 1 1 [.int .i64 p1, .int .i64 p2, .int .i64 p3, .int .i64 p4, .int .i64 p5, .int .i64 p6] rfl rfl (by simpa using World.news_of_block (cs := #[.int .i64 p1, .int .i64 p2, .int .i64 p3, .int .i64 p4, .int .i64 p5, .int .i64 p6]) (t := 25) (fr := (0, 0)) (heap_alloc_new (W2.alloc (.cells #[.int .i64 p1, .int .i64 p2, .int .i64 p3, .int .i64 p4, .int .i64 p5, .int .i64 p6] 25)) (.cells #[.int .i64 p1, .int .i64 p2, .int .i64 p3, .int .i64 p4, .int .i64 p5, .int .i64 p6] 25))) (by simp [Value.oneCell']) (by simp only [maxLen]; omega) (by omega) (by have := Hb.size; simp; omega) ?_; intro v' w1 hown' hgrow _; obtain ⟨g', cap', rfl⟩ := ownsRow_succ hown'; obtain ⟨x1, x2, x3, x4, x5⟩ := (q4.alloc (.cells #[.int .i64 p1, .int .i64 p2, .int .i64 p3, .int .i64 p4, .int .i64 p5, .int .i64 p6] 25)).appended (by decide) hin (by have := Hb.size; simp; omega) (by omega) hown' hgrow; have y4 := x1.cell; have z4 := x1.frozen))
       have far : ∀ {b t u}, Boxed W2 b t u → t ≠ 25 → b ≠ w.heap.size + 1 + 1 → Boxed (w1.setCell ⟨w.heap.size + 1 + 1, 0, none⟩ (.slice (some ⟨g', 0, none⟩) (acc.length + 1) cap')) b t u := fun {b t u} q ht hne =>
        boxed_far ((((q.alloc (.cells #[.int .i64 p1, .int .i64 p2, .int .i64 p3, .int .i64 p4, .int .i64 p5, .int .i64 p6] 25)).alloc (.cells #[.int .i64 p1, .int .i64 p2, .int .i64 p3, .int .i64 p4, .int .i64 p5, .int .i64 p6] 25)).kept hgrow (((q.alloc (.cells #[.int .i64 p1, .int .i64 p2, .int .i64 p3, .int .i64 p4, .int .i64 p5, .int .i64 p6] 25)).alloc (.cells #[.int .i64 p1, .int .i64 p2, .int .i64 p3, .int .i64 p4, .int .i64 p5, .int .i64 p6] 25)).not_row ht (hin.alloc _)))) hne _
       have fB := far qB (by decide) (by omega)
       refine ⟨((((⟨Nat.le_refl _, fun _ _ h _ => h⟩ : KeepsOthers W (W.drewN nd1)).trans (keepsO_below hb2)).trans (KeepsOthers.alloc W2 (.cells #[.int .i64 p1, .int .i64 p2, .int .i64 p3, .int .i64 p4, .int .i64 p5, .int .i64 p6] 25))).trans x4).from _, Eq.trans fB (Eq.symm gB), _, acc ++ [⟨p1, p2, p3, p4, p5, p6⟩], x2, far q2 (by decide) (by omega), far q3 (by decide) (by omega), ⟨u, fB⟩, rows_more p1 p2 p3 p4 p5 p6 hrep x3, (Hb.alloc (Nat.le_trans hb.size hb2.size) (.cells #[.int .i64 p1, .int .i64 p2, .int .i64 p3, .int .i64 p4, .int .i64 p5, .int .i64 p6] 25)).trans x5, fun rest' e => ?_⟩
       rw [hzs, List.append_assoc] at e
       have e1 := List.append_cancel_left e
       rw [List.singleton_append] at e1
       injection e1 with _ e2
       rw [← e2]
       exact hp
      ·
       cases hp
     | false =>
      rw [if_neg (by simp)] at hp
      injection hp with hp
      subst hp
      gi_wp2_with (first | (refine ⟨trivial, ?_⟩; refine (CallsIn.inRound l (callsIn_wide.2 (strings_TrimSuffix.calls x ⟨#[10]⟩ t _ ht))).mono ?_; rintro e W1 ⟨rfl, nd1, rfl⟩) | (refine ⟨trivial, ?_⟩; refine (CallsIn.inRound l (callsIn_wide.2 (impl_ParseWarning.calls k t p1 p2 p3 p4 p5 p6 false _ (htE.below (pw_below_drewN hb _)) (htL.below (pw_below_drewN hb _)) (htM.below (pw_below_drewN hb _)) (htN.below (pw_below_drewN hb _)) (htO.below (pw_below_drewN hb _)) hpw))).mono ?_; rintro e W2 ⟨rfl, hb2⟩; have Hb := (pw_below_drewN hb nd1).trans (hb2.mono (pw_below_drewN hb nd1).size); have q2 := boxed_below (W := W.drewN nd1) g2 hb2; have q3 := boxed_below (W := W.drewN nd1) g3 hb2; have k2 : ∀ o, (W2.alloc o).cell? ⟨w.heap.size, 0, none⟩ = some (.slice none 0 0) := fun o => (q2.alloc o).cell; have k3 : ∀ o, (W2.alloc o).cell? ⟨w.heap.size + 1, 0, none⟩ = some (.bool false) := fun o => (q3.alloc o).cell; have f2 : ∀ o, (W2.alloc o).frozen? ⟨w.heap.size, 0, none⟩ = false := fun o => (q2.alloc o).frozen; have f3 : ∀ o, (W2.alloc o).frozen? ⟨w.heap.size + 1, 0, none⟩ = false := fun o => (q3.alloc o).frozen))
      refine ⟨?kf, ?b2, ?b3, ?bw, rfl⟩
      case kf => exact (((((⟨Nat.le_refl _, fun _ _ h _ => h⟩ : KeepsOthers W (W.drewN nd1)).trans (keepsO_below hb2)).trans (KeepsOthers.alloc _ _)).trans (KeepsOthers.setCell _ _ _)).trans (KeepsOthers.setCell _ _ _)).from _
      case b2 => exact boxed_far ((q2.alloc _).set _) (by omega) _
      case b3 => exact (boxed_far (q3.alloc _) (by omega) _).set _
      case bw => exact ((Hb.alloc (Nat.le_trans hb.size hb2.size) _).setCell (p := ⟨w.heap.size, 0, none⟩) (Nat.le_refl _) _).setCell (p := ⟨w.heap.size + 1, 0, none⟩) (Nat.le_succ _) _
    case done =>
     rintro D W hD ⟨v, acc, h4, g2, g3, ⟨u, gB⟩, hR, hb, hP⟩ hK
     have hp := hP [] (by rw [List.append_nil])
     injection hp with hp
     subst hp
     obtain ⟨t, hto, h⟩ := Option.bind_eq_some_iff.1 h
     obtain ⟨A1, c1, hv, hc1, hC1⟩ := Kd.R_reads hR
     subst hv
     have hc4 := h4.cell
     cases t with
     | true =>
      rw [if_pos rfl] at h
      injection h with h
      obtain ⟨rfl, rfl⟩ := Prod.mk.inj h
      gi_wp2_with (refine ⟨trivial, ?_⟩; refine (callsIn_wide.2 (impl_isOverview.calls k A1 c1 acc true _ hC1 hc1 hto)).mono ?_; rintro e W3 ⟨rfl, hb3⟩; have q4 := boxed_below h4 hb3; have q2 := boxed_below g2 hb3; have q3 := boxed_below g3 hb3; have k4 := q4.cell; have k2 := q2.cell; have k3 := q3.cell; have f2 := q2.frozen; have f3 := q3.frozen)
      have hD4 : w.heap.size + 1 + 1 + 1 < D := Nat.lt_of_lt_of_le GB.lt hD
      have hKK : ((W3.setCell ⟨w.heap.size, 0, none⟩ (.slice A1 acc.length c1)).setCell ⟨w.heap.size + 1, 0, none⟩ (.bool true)).heap[D]? = some (.deferred (some [])) := (Below.heap_setCell _ ⟨w.heap.size + 1, 0, none⟩ _ D (by show D ≠ w.heap.size + 1; omega)).trans ((Below.heap_setCell _ ⟨w.heap.size, 0, none⟩ _ D (by show D ≠ w.heap.size; omega)).trans ((hb3.block D (Array.getElem?_eq_some_iff.1 hK).1).trans hK))
      refine ⟨by simp, .inl ⟨_, _, rfl, run_takeDeferred hKK, ?_⟩⟩
      have e2 : Boxed (((W3.setCell ⟨w.heap.size, 0, none⟩ (.slice A1 acc.length c1)).setCell ⟨w.heap.size + 1, 0, none⟩ (.bool true)).putObj D (.deferred none)) w.heap.size 32 (.slice A1 acc.length c1) := (World.putObj_heap_other (by omega)).trans (boxed_far (q2.set _) (by omega) _)
      have e3 : Boxed (((W3.setCell ⟨w.heap.size, 0, none⟩ (.slice A1 acc.length c1)).setCell ⟨w.heap.size + 1, 0, none⟩ (.bool true)).putObj D (.deferred none)) (w.heap.size + 1) 4 (.bool true) := (World.putObj_heap_other (by omega)).trans ((boxed_far q3 (by omega) _).set _)
      have hB3 := hb.trans (hb3.mono hb.size)
      refine ⟨_, impl_ParseOverview.res _ _ _ _ _ _ rfl rfl e2 e3, _, rfl, ?rows, ?bel⟩
      case rows =>
       refine rows_grown (W := (W3.setCell ⟨w.heap.size, 0, none⟩ (.slice A1 acc.length c1)).setCell ⟨w.heap.size + 1, 0, none⟩ (.bool true)) ?_ (grownBy_putObj' _ D _) (fun r e => by cases e; exact ⟨_, hKK, rfl⟩)
       exact Kd.R_set (Kd.R_set (Kd.R_below hR hb3) q2 (by decide) 0 _) (boxed_far q3 (by omega) _) (by decide) 0 _
      case bel =>
       have hbb := (hB3.setCell (p := ⟨w.heap.size, 0, none⟩) (Nat.le_refl _) (.slice A1 acc.length c1)).setCell (p := ⟨w.heap.size + 1, 0, none⟩) (Nat.le_succ _) (.bool true)
       exact hbb.trans (belowK_b (w := w) (Nat.le_refl _) _ D _ _ (by omega) hKK rfl rfl)
     | false =>
      rw [if_neg (by simp)] at h
      injection h with h
      obtain ⟨rfl, rfl⟩ := Prod.mk.inj h
      gi_wp2_with (refine ⟨trivial, ?_⟩; refine (callsIn_wide.2 (impl_isOverview.calls k A1 c1 acc false _ hC1 hc1 hto)).mono ?_; rintro e W3 ⟨rfl, hb3⟩; have q4 := boxed_below h4 hb3; have q2 := boxed_below g2 hb3; have q3 := boxed_below g3 hb3; have k4 := q4.cell; have k2 := q2.cell; have k3 := q3.cell; have f2 := q2.frozen; have f3 := q3.frozen)
      have hD4 : w.heap.size + 1 + 1 + 1 < D := Nat.lt_of_lt_of_le GB.lt hD
      have hKK : ((W3.setCell ⟨w.heap.size, 0, none⟩ (.slice none 0 0)).setCell ⟨w.heap.size + 1, 0, none⟩ (.bool false)).heap[D]? = some (.deferred (some [])) := (Below.heap_setCell _ ⟨w.heap.size + 1, 0, none⟩ _ D (by show D ≠ w.heap.size + 1; omega)).trans ((Below.heap_setCell _ ⟨w.heap.size, 0, none⟩ _ D (by show D ≠ w.heap.size; omega)).trans ((hb3.block D (Array.getElem?_eq_some_iff.1 hK).1).trans hK))
      refine ⟨by simp, .inl ⟨_, _, rfl, run_takeDeferred hKK, ?_⟩⟩
      have e2 : Boxed (((W3.setCell ⟨w.heap.size, 0, none⟩ (.slice none 0 0)).setCell ⟨w.heap.size + 1, 0, none⟩ (.bool false)).putObj D (.deferred none)) w.heap.size 32 (.slice none 0 0) := (World.putObj_heap_other (by omega)).trans (boxed_far (q2.set _) (by omega) _)
      have e3 : Boxed (((W3.setCell ⟨w.heap.size, 0, none⟩ (.slice none 0 0)).setCell ⟨w.heap.size + 1, 0, none⟩ (.bool false)).putObj D (.deferred none)) (w.heap.size + 1) 4 (.bool false) := (World.putObj_heap_other (by omega)).trans ((boxed_far q3 (by omega) _).set _)
      have hB3 := hb.trans (hb3.mono hb.size)
      have hbb := (hB3.setCell (p := ⟨w.heap.size, 0, none⟩) (Nat.le_refl _) (.slice none 0 0)).setCell (p := ⟨w.heap.size + 1, 0, none⟩) (Nat.le_succ _) (.bool false)
      exact ⟨_, impl_ParseOverview.res _ _ _ _ _ _ rfl rfl e2 e3, _, rfl, Kd.R_nil _ _ _ _ _, hbb.trans (belowK_b (w := w) (Nat.le_refl _) _ D _ _ (by omega) hKK rfl rfl)⟩
    case stop =>
     rintro D W hD ⟨g2, g3, hb, rfl⟩ hK
     injection h with h
     obtain ⟨rfl, rfl⟩ := Prod.mk.inj h
     gi_wp2
     refine ⟨by simp, .inl ⟨_, _, rfl, run_takeDeferred hK, ?_⟩⟩
     have gg2 : Boxed (W.putObj D (.deferred none)) w.heap.size 32 (.slice none 0 0) := (World.putObj_heap_other (by have := GW.size; have := G2.lt; omega)).trans g2
     have gg3 : Boxed (W.putObj D (.deferred none)) (w.heap.size + 1) 4 (.bool false) := (World.putObj_heap_other (by have := GW.size; have := G3.lt; omega)).trans g3
     exact ⟨_, impl_ParseOverview.res _ _ _ _ _ _ rfl rfl gg2 gg3, _, rfl, Kd.R_nil _ _ _ _ _, hb.trans (belowK_b (w := w) (Nat.le_refl _) W D _ _ (Nat.le_trans GW.size hD) hK rfl rfl)⟩
   | false =>
    rw [if_neg (by simp)] at h
    injection h with h
    obtain ⟨rfl, rfl⟩ := Prod.mk.inj h
    have d0 : decide ((4000 : Int) < (a0.size : Int)) = false := decide_eq_false (by omega)
    refine (callsIn_wide (n := 3)).1 ?_
    refine callsIn_of_wp_marks Tryz.func14 rfl trivial ?_ rfl
    simp only [Tryz.ntmps14, List.size_toArray, List.length_cons, List.length_nil, Nat.reduceAdd, Nat.reduceSub, Array.replicate_succ, Array.replicate_zero, List.push_toArray, List.append_toArray, List.nil_append, List.cons_append]
    gi_wp2_with (refine ⟨trivial, ?_⟩; refine (callsIn_wide.2 (strings_HasSuffix.calls a0 ⟨#[10]⟩ false _ ht)).mono ?_; rintro e w1 ⟨rfl, nd, rfl⟩)
    have H2 : Boxed (((w.alloc (.cells #[.slice none 0 0] 32)).alloc (.cells #[.bool false] 4))) w.heap.size 32 (.slice none 0 0) := (Boxed.new w _ _).alloc _
    have H3 := Boxed.new (w.alloc (.cells #[.slice none 0 0] 32)) 4 (.bool false)
    rw [World.size_alloc] at H3
    have H2' : Boxed (((w.alloc (.cells #[.slice none 0 0] 32)).alloc (.cells #[.bool false] 4)).drewN nd) w.heap.size 32 (.slice none 0 0) := H2
    have H3' : Boxed (((w.alloc (.cells #[.slice none 0 0] 32)).alloc (.cells #[.bool false] 4)).drewN nd) (w.heap.size + 1) 4 (.bool false) := H3
    exact ⟨_, impl_ParseOverview.res _ _ _ _ _ _ rfl rfl (boxed_far (H2'.set (.slice none 0 0)) (by omega) (.bool false)) ((boxed_far H3' (by omega) (.slice none 0 0)).set (.bool false)), _, rfl, Kd.R_nil _ _ _ _ _, ((pw_below_drewN (((Below.refl _ w).alloc (Nat.le_refl _) _).alloc (by simp) _) nd).setCell (p := ⟨w.heap.size, 0, none⟩) (Nat.le_refl _) _).setCell (p := ⟨w.heap.size + 1, 0, none⟩) (Nat.le_succ _) _⟩
  ·
   rename_i c2
   injection h with h
   obtain ⟨rfl, rfl⟩ := Prod.mk.inj h
   have d0 : decide ((4000 : Int) < (a0.size : Int)) = true := decide_eq_true (by omega)
   refine (callsIn_wide (n := 3)).1 ?_
   refine callsIn_of_wp_marks Tryz.func14 rfl trivial ?_ rfl
   simp only [Tryz.ntmps14, List.size_toArray, List.length_cons, List.length_nil, Nat.reduceAdd, Nat.reduceSub, Array.replicate_succ, Array.replicate_zero, List.push_toArray, List.append_toArray, List.nil_append, List.cons_append]
   gi_wp2
   refine ⟨trivial, ?_⟩
   gi_wp2
   have H2 : Boxed (((w.alloc (.cells #[.slice none 0 0] 32)).alloc (.cells #[.bool false] 4))) w.heap.size 32 (.slice none 0 0) := (Boxed.new w _ _).alloc _
   have H3 := Boxed.new (w.alloc (.cells #[.slice none 0 0] 32)) 4 (.bool false)
   rw [World.size_alloc] at H3
   exact ⟨_, impl_ParseOverview.res _ _ _ _ _ _ rfl rfl H2 H3, _, rfl, Kd.R_nil _ _ _ _ _, ((Below.refl _ w).alloc (Nat.le_refl _) _).alloc (by simp) _⟩
end Go.Proofs.YtleadjbfcenofaaGreatDoor.Q
namespace Go.Proofs.YtleadjbfcenofaaGreatDoor.Q
open Go.RowKit Go.Proofs.YtleadjbfcenofaaGreatDoorW.PrintWords Go.Proofs.YtleadjbfcenofaaGreatDoorW.PrintLast Go.Proofs.YtleadjbfcenofaaGreatDoorW.PrintMore
attribute [local go_sem] max2_int min2_int max_two min_two max_three min_three max_four min_four
set_option linter.unusedVariables false
set_option linter.unusedSimpArgs false
attribute [local go_sem high] eqA25
def laws_rWarnings.l0 : Nat → List (S25) → List (S25) → Int → Option (Bool)
 | 0, _, _, _ => none
 | k + 1, x0, x1, x5 => if x5 < (x0.length : Int) then (if 0 ≤ x5 then (if x5 < (x1.length : Int) then (if (!(((rd_T25 x0 x5).f0) == ((rd_T25 x1 x5).f0)) || (!(((rd_T25 x0 x5).f1) == ((rd_T25 x1 x5).f1)) || (!(((rd_T25 x0 x5).f2) == ((rd_T25 x1 x5).f2)) || (!(((rd_T25 x0 x5).f3) == ((rd_T25 x1 x5).f3)) || (!(((rd_T25 x0 x5).f4) == ((rd_T25 x1 x5).f4)) || (!(((rd_T25 x0 x5).f5) == ((rd_T25 x1 x5).f5)))))))) = true then (some false) else (laws_rWarnings.l0 k x0 x1 (wrap64 (x5 + 1)))) else (none)) else (none)) else (some true)
def laws_rWarnings.f (k : Nat) (l0 : List (S25)) (l1 : List (S25)) : Option (Bool) := if (l0.length : Int) = (l1.length : Int) then (laws_rWarnings.l0 k l0 l1 0) else (some false)
set_option maxHeartbeats 8000000 in
set_option maxRecDepth 100000 in
theorem laws_rWarnings.calls (k : Nat) (A0 : Option Addr) (c0 : Nat) (l0 : List (S25)) (A1 : Option Addr) (c1 : Nat) (l1 : List (S25)) (r : Bool) (w : World) (hr0 : Kd.C k25 w A0 l0.length l0) (hc0 : l0.length ≤ c0) (hr1 : Kd.C k25 w A1 l1.length l1) (hc1 : l1.length ≤ c1) (h : laws_rWarnings.f k l0 l1 = some r) :
  Calls Tryz.prog 15 #[.slice A0 l0.length c0, .slice A1 l1.length c1] w fun e w' => e = .returned (.bool r) ∧ Drawn0 w w' := by
 have hu25 := Tryz.underlying25
 have HR0 := zm hr0
 have HC0 := zm hc0
 clear hr0 hc0
 have HR1 := zm hr1
 have HC1 := zm hc1
 clear hr1 hc1
 have H : (if (l0.length : Int) = (l1.length : Int) then (laws_rWarnings.l0 k l0 l1 0) else (some false)) = some r := h
 clear h
 by_cases c3 : (l0.length : Int) = (l1.length : Int)
 case neg =>
  rw [if_neg c3] at H
  have c3b0 : ((l0.length : Int) == (l1.length : Int)) = false := beq_eq_false_iff_ne.mpr c3
  have c3b1 : ((l0.length : Int) != (l1.length : Int)) = true := bne_iff_ne.mpr c3
  have c3b2 : (l0.length == l1.length) = false := by first | simpa using c3 | (simp at c3 ⊢; omega)
  obtain rfl := Option.some.inj H
  go_enter Tryz.func15, Tryz.ntmps15
  go_wp2
  repeat (go_quiet (fail); try go_wp2)
  go_ret
  exact ⟨by first | rfl | (simp; done) | (simp [*]; done), zq37⟩
 rw [if_pos c3] at H
 have c3b0 : ((l0.length : Int) == (l1.length : Int)) = true := beq_iff_eq.mpr c3
 have c3b1 : ((l0.length : Int) != (l1.length : Int)) = false := bne_eq_false_iff_eq.mpr c3
 have c3b2 : (l0.length == l1.length) = true := by first | simpa using c3 | (simp at c3 ⊢; omega)
 clear c3
 have H' := zm H
 clear H
 go_enter Tryz.func15, Tryz.ntmps15
 go_wp2
 repeat (go_quiet (fail); try go_wp2)
 go_loopg [5] k (fun kq v5 w' => ∃ (x5_1 : Int), v5 = .int .i64 x5_1 ∧ Aside0 (laws_rWarnings.l0 kq l0 l1 x5_1 = some r) ∧ Aside0 (kq ≤ k) ∧ Drawn0 w w')
 case atStart => exact ⟨(0), (by first | rfl | (simp; done) | (simp [*]; done)), H', ⟨Nat.le_refl _⟩, zq37⟩
 clear H'
 try clear c1
 try clear p2
 try clear c3
 try clear c3b0
 try clear c3b1
 try clear c3b2
 obtain ⟨x5_1, rfl, HA, HK1, ⟨m1, rfl⟩⟩ := hrel
 cases gk with
 | zero => exact absurd HA.out (by simp [laws_rWarnings.l0])
 | succ k1 =>
  have H := HA.out
  clear HA
  simp only [laws_rWarnings.l0] at H
  by_cases c4 : x5_1 < (l0.length : Int)
  case neg =>
   rw [if_neg c4] at H
   have c4b0 : decide (x5_1 < (l0.length : Int)) = false := decide_eq_false c4
   clear c4
   obtain rfl := Option.some.inj H
   go_wp2
   repeat (go_quiet (fail); try go_wp2)
   go_ret
   exact ⟨by first | rfl | (simp; done) | (simp [*]; done), zq37⟩
  rw [if_pos c4] at H
  have c4b0 : decide (x5_1 < (l0.length : Int)) = true := decide_eq_true c4
  clear c4
  by_cases c5 : 0 ≤ x5_1
  case neg =>
   rw [if_neg c5] at H
   exact absurd H (by simp)
  rw [if_pos c5] at H
  have c5b0 : decide (0 ≤ x5_1) = true := decide_eq_true c5
  clear c5
  by_cases c6 : x5_1 < (l1.length : Int)
  case neg =>
   rw [if_neg c6] at H
   exact absurd H (by simp)
  rw [if_pos c6] at H
  have c6b0 : decide (x5_1 < (l1.length : Int)) = true := decide_eq_true c6
  clear c6
  by_cases c7 : (!(((rd_T25 l0 x5_1).f0) == ((rd_T25 l1 x5_1).f0)) || (!(((rd_T25 l0 x5_1).f1) == ((rd_T25 l1 x5_1).f1)) || (!(((rd_T25 l0 x5_1).f2) == ((rd_T25 l1 x5_1).f2)) || (!(((rd_T25 l0 x5_1).f3) == ((rd_T25 l1 x5_1).f3)) || (!(((rd_T25 l0 x5_1).f4) == ((rd_T25 l1 x5_1).f4)) || (!(((rd_T25 l0 x5_1).f5) == ((rd_T25 l1 x5_1).f5)))))))) = true
  case pos =>
   rw [if_pos c7] at H
   have c7b0 : (!(((rd_T25 l0 x5_1).f0) == ((rd_T25 l1 x5_1).f0)) || (!(((rd_T25 l0 x5_1).f1) == ((rd_T25 l1 x5_1).f1)) || (!(((rd_T25 l0 x5_1).f2) == ((rd_T25 l1 x5_1).f2)) || (!(((rd_T25 l0 x5_1).f3) == ((rd_T25 l1 x5_1).f3)) || (!(((rd_T25 l0 x5_1).f4) == ((rd_T25 l1 x5_1).f4)) || (!(((rd_T25 l0 x5_1).f5) == ((rd_T25 l1 x5_1).f5)))))))) = true := c7
   clear c7
   obtain rfl := Option.some.inj H
   have p431 : 0 ≤ (x5_1 : Int) := of_decide_eq_true zq8
   have q431 : x5_1 < (l0.length : Int) := of_decide_eq_true zq8
   obtain ⟨ad431, e431, hx431_0, hx431_1, hx431_2, hx431_3, hx431_4, hx431_5⟩ := at_T25 HR0.out x5_1 p431 q431
   cases e431
   replace p431 := eq_true p431
   replace q431 := eq_true q431
   have p432 : 0 ≤ (x5_1 : Int) := of_decide_eq_true zq8
   have q432 : x5_1 < (l1.length : Int) := of_decide_eq_true zq8
   obtain ⟨ad432, e432, hx432_0, hx432_1, hx432_2, hx432_3, hx432_4, hx432_5⟩ := at_T25 HR1.out x5_1 p432 q432
   cases e432
   replace p432 := eq_true p432
   replace q432 := eq_true q432
   go_wp2
   repeat (go_quiet (fail); try go_wp2)
   go_ret
   exact ⟨by first | rfl | (simp; done) | (simp [*]; done), zq37⟩
  rw [if_neg c7] at H
  have c7b0 : (!(((rd_T25 l0 x5_1).f0) == ((rd_T25 l1 x5_1).f0)) || (!(((rd_T25 l0 x5_1).f1) == ((rd_T25 l1 x5_1).f1)) || (!(((rd_T25 l0 x5_1).f2) == ((rd_T25 l1 x5_1).f2)) || (!(((rd_T25 l0 x5_1).f3) == ((rd_T25 l1 x5_1).f3)) || (!(((rd_T25 l0 x5_1).f4) == ((rd_T25 l1 x5_1).f4)) || (!(((rd_T25 l0 x5_1).f5) == ((rd_T25 l1 x5_1).f5)))))))) = false := by simpa using c7
  clear c7
  have H' := zm H
  clear H
  have p431 : 0 ≤ (x5_1 : Int) := of_decide_eq_true zq8
  have q431 : x5_1 < (l0.length : Int) := of_decide_eq_true zq8
  obtain ⟨ad431, e431, hx431_0, hx431_1, hx431_2, hx431_3, hx431_4, hx431_5⟩ := at_T25 HR0.out x5_1 p431 q431
  cases e431
  replace p431 := eq_true p431
  replace q431 := eq_true q431
  have p432 : 0 ≤ (x5_1 : Int) := of_decide_eq_true zq8
  have q432 : x5_1 < (l1.length : Int) := of_decide_eq_true zq8
  obtain ⟨ad432, e432, hx432_0, hx432_1, hx432_2, hx432_3, hx432_4, hx432_5⟩ := at_T25 HR1.out x5_1 p432 q432
  cases e432
  replace p432 := eq_true p432
  replace q432 := eq_true q432
  go_wp2
  repeat (go_quiet (fail); try go_wp2)
  go_roundg k1
  case measure => have := HK1.out; omega
  case rel => exact ⟨(wrap64 (x5_1 + 1)), (by first | rfl | (simp; done) | (simp [*]; done)), H', ⟨by have := HK1.out; omega⟩, zq37⟩
end Go.Proofs.YtleadjbfcenofaaGreatDoor.Q
namespace Go.Proofs.YtleadjbfcenofaaGreatDoor.Q
open Go.RowKit Go.Proofs.YtleadjbfcenofaaGreatDoorW.PrintWords Go.Proofs.YtleadjbfcenofaaGreatDoorW.PrintLast Go.Proofs.YtleadjbfcenofaaGreatDoorW.PrintMore
attribute [local go_sem] max2_int min2_int max_two min_two max_three min_three max_four min_four
set_option linter.unusedVariables false
set_option linter.unusedSimpArgs false
def spec_DrawParseOverview.f (k : Nat) (l0 : List Int) : Option (ByteArray) := (spec_l1Cur_warnings.f k l0 0 0).bind fun bt434 => ((spec_OverviewText.f k bt434.1).bind fun bt439 => ((spec_l1Cur_one.f l0 bt434.2.1 bt434.2.2 4).bind fun bt441 => (if bt441.1 = true then ((spec_l1Cur_spoilt.f l0 bt441.2.1 bt441.2.2 bt439.1 (⟨#[32, 48, 46, 10]⟩ : ByteArray)).bind fun bt444 => (some bt444.1)) else (some bt439.1))))
set_option maxHeartbeats 8000000 in
set_option maxRecDepth 100000 in
theorem spec_DrawParseOverview.calls (k : Nat) (A0 : Option Addr) (c0 : Nat) (l0 : List Int) (r : ByteArray) (w : World) (hr0 : Kd.C (Kd.int .u8) w A0 l0.length l0) (hc0 : l0.length ≤ c0) (h : spec_DrawParseOverview.f k l0 = some r) :
  Calls Tryz.prog 16 #[.slice A0 l0.length c0] w fun e w' => e = .returned (.string r) ∧ Below w.heap.size w w' := by
 have hu45 := Tryz.underlying45
 have HR0 := zm hr0
 have HC0 := zm hc0
 clear hr0 hc0
 have HB := zm (Below.refl w.heap.size w)
 have H : ((spec_l1Cur_warnings.f k l0 0 0).bind fun bt434 => ((spec_OverviewText.f k bt434.1).bind fun bt439 => ((spec_l1Cur_one.f l0 bt434.2.1 bt434.2.2 4).bind fun bt441 => (if bt441.1 = true then ((spec_l1Cur_spoilt.f l0 bt441.2.1 bt441.2.2 bt439.1 (⟨#[32, 48, 46, 10]⟩ : ByteArray)).bind fun bt444 => (some bt444.1)) else (some bt439.1))))) = some r := h
 clear h
 obtain ⟨⟨t434, t437, t438⟩, A20, H⟩ := zob H
 replace H : ((spec_OverviewText.f k t434).bind fun bt439 => ((spec_l1Cur_one.f l0 t437 t438 4).bind fun bt441 => (if bt441.1 = true then ((spec_l1Cur_spoilt.f l0 bt441.2.1 bt441.2.2 bt439.1 (⟨#[32, 48, 46, 10]⟩ : ByteArray)).bind fun bt444 => (some bt444.1)) else (some bt439.1)))) = some r := H
 have A2 := zm A20
 clear A20
 obtain ⟨⟨t439, t440⟩, A30, H⟩ := zob H
 replace H : ((spec_l1Cur_one.f l0 t437 t438 4).bind fun bt441 => (if bt441.1 = true then ((spec_l1Cur_spoilt.f l0 bt441.2.1 bt441.2.2 t439 (⟨#[32, 48, 46, 10]⟩ : ByteArray)).bind fun bt444 => (some bt444.1)) else (some t439))) = some r := H
 have A3 := zm A30
 clear A30
 obtain ⟨⟨t441, t442, t443⟩, A40, H⟩ := zob H
 replace H : (if t441 = true then ((spec_l1Cur_spoilt.f l0 t442 t443 t439 (⟨#[32, 48, 46, 10]⟩ : ByteArray)).bind fun bt444 => (some bt444.1)) else (some t439)) = some r := H
 have A4 := zm A40
 clear A40
 by_cases c5 : t441 = true
 case neg =>
  replace c5 := Bool.eq_false_iff.mpr c5
  subst c5
  have H1 : (some t439) = some r := by rw [if_neg (show ¬ (false = true) by decide)] at H; exact H
  clear H
  have H := H1
  clear H1
  obtain rfl := Option.some.inj H
  go_enter Tryz.func16, Tryz.ntmps16
  go_wp2_with (first | ((with_reducible refine gate_dst (N := 8) rfl ?_); refine box_event ?hg (N := 8) ?hd (cs := #[.slice A0 l0.length c0, .int .i64 0, .int .u64 0]) (t := 45) ?hr ?_; (case hd => rfl); (case hg => rfl); (case hr => exact zqS); intro gb433 hg w13 hbox hb; have HI433 := zm ((show IsS45 w w13 gb433 l0 0 0 from ⟨_, _, hbox, (by rw [hg]; exact (below_size zq0) : w.heap.size ≤ gb433), HR0.out⟩)); have GW433 := zm ((by rw [hg]; exact (below_size zq0) : w.heap.size ≤ gb433)); replace HB := zm (below_step zq0 hb); have GE433 := GW433; clear hb hbox hg) | ((with_reducible refine gate_callee (f := 38) rfl ?_); refine goesL_ (some 11) rfl rfl Tryz.func38 (by kernel_rfl) rfl #[.pointer (some ⟨gb433, 0, none⟩)] rfl zq1 ?_; (with_reducible refine (spec_l1Cur_warnings.calls k gb433 l0 0 0 t434 t437 t438 w _ ?side1 ?side2 A2.out).mono ?_); (case side1 => exact zq43); (case side2 => exact zq31); rintro e w14 ⟨v435, rfl, ho0, hi, hb, hk⟩; refine ⟨_, rfl, ?_⟩; have HO436 := zm (Kd.R_lower ho0 (below_size zq31)); replace HB := zm (hb); replace HI433 := zm (hi); (try clear hb); (try clear hb2); (try clear hk); (try clear hi); (try clear ho0); obtain ⟨Ao15, co15, eo15⟩ := Kd.R_slice HO436.out; subst eo15) | ((with_reducible refine gate_callee (f := 13) rfl ?_); refine goesL_ (some 12) rfl rfl Tryz.func13 (by kernel_rfl) rfl #[.slice Ao15 t434.length co15] rfl zq1 ?_; (with_reducible refine (spec_OverviewText.calls k _ _ t434 t439 t440 _ ?side1 ?side2 A3.out).mono ?_); (case side1 => exact zqC (Kd.R_reads' HO436.out).2.2); (case side2 => exact (Kd.R_reads' HO436.out).2.1); rintro e w16 ⟨rfl, hb⟩; refine ⟨_, rfl, ?_⟩; replace HO436 := zm (Kd.R_below (zqR HO436.out) hb); replace HB := zm (below_step zq31 hb); replace HI433 := zm (IsS45.below zq43 hb); (try clear hb); (try clear hb2); (try clear hk); (try clear hi)) | ((with_reducible refine gate_callee (f := 30) rfl ?_); refine goesL_ (some 16) rfl rfl Tryz.func30 (by kernel_rfl) rfl #[.pointer (some ⟨gb433, 0, none⟩), .int .i64 4] rfl zq1 ?_; (with_reducible refine (spec_l1Cur_one.calls gb433 l0 t437 t438 4 false t442 t443 w _ ?side1 ?side2 A4.out).mono ?_); (case side1 => exact zq43); (case side2 => exact zq31); rintro e w17 ⟨rfl, hi, hb, hk⟩; refine ⟨_, rfl, ?_⟩; replace HO436 := zm (Kd.R_mono (Kd.R_keep (IsS45.apart (show IsS45 w _ gb433 l0 t437 t438 from by repeat (first | (with_reducible first | exact HI433.out | apply IsS45.alloc | apply IsS45.drewN | apply IsS45.drew | apply IsS45.set_1 | apply IsS45.set_2) | exact HI433.out)) (zqR HO436.out) (by decide)) hk (fun _ h => h.2)) (fun _ h => h.1)); replace HB := zm (hb); replace HI433 := zm (hi); (try clear hb); (try clear hb2); (try clear hk); (try clear hi)))
  go_ret
  exact ⟨zqE, zq31⟩
 subst c5
 have H1 : ((spec_l1Cur_spoilt.f l0 t442 t443 t439 (⟨#[32, 48, 46, 10]⟩ : ByteArray)).bind fun bt444 => (some bt444.1)) = some r := by rw [if_pos rfl] at H; exact H
 clear H
 have H := H1
 clear H1
 obtain ⟨⟨t444, t445, t446⟩, A60, H⟩ := zob H
 replace H : (some t444) = some r := H
 have A6 := zm A60
 clear A60
 obtain rfl := Option.some.inj H
 go_enter Tryz.func16, Tryz.ntmps16
 go_wp2_with (first | ((with_reducible refine gate_dst (N := 8) rfl ?_); refine box_event ?hg (N := 8) ?hd (cs := #[.slice A0 l0.length c0, .int .i64 0, .int .u64 0]) (t := 45) ?hr ?_; (case hd => rfl); (case hg => rfl); (case hr => exact zqS); intro gb433 hg w7 hbox hb; have HI433 := zm ((show IsS45 w w7 gb433 l0 0 0 from ⟨_, _, hbox, (by rw [hg]; exact (below_size zq0) : w.heap.size ≤ gb433), HR0.out⟩)); have GW433 := zm ((by rw [hg]; exact (below_size zq0) : w.heap.size ≤ gb433)); replace HB := zm (below_step zq0 hb); have GE433 := GW433; clear hb hbox hg) | ((with_reducible refine gate_callee (f := 38) rfl ?_); refine goesL_ (some 11) rfl rfl Tryz.func38 (by kernel_rfl) rfl #[.pointer (some ⟨gb433, 0, none⟩)] rfl zq1 ?_; (with_reducible refine (spec_l1Cur_warnings.calls k gb433 l0 0 0 t434 t437 t438 w _ ?side1 ?side2 A2.out).mono ?_); (case side1 => exact zq43); (case side2 => exact zq31); rintro e w8 ⟨v435, rfl, ho0, hi, hb, hk⟩; refine ⟨_, rfl, ?_⟩; have HO436 := zm (Kd.R_lower ho0 (below_size zq31)); replace HB := zm (hb); replace HI433 := zm (hi); (try clear hb); (try clear hb2); (try clear hk); (try clear hi); (try clear ho0); obtain ⟨Ao9, co9, eo9⟩ := Kd.R_slice HO436.out; subst eo9) | ((with_reducible refine gate_callee (f := 13) rfl ?_); refine goesL_ (some 12) rfl rfl Tryz.func13 (by kernel_rfl) rfl #[.slice Ao9 t434.length co9] rfl zq1 ?_; (with_reducible refine (spec_OverviewText.calls k _ _ t434 t439 t440 _ ?side1 ?side2 A3.out).mono ?_); (case side1 => exact zqC (Kd.R_reads' HO436.out).2.2); (case side2 => exact (Kd.R_reads' HO436.out).2.1); rintro e w10 ⟨rfl, hb⟩; refine ⟨_, rfl, ?_⟩; replace HO436 := zm (Kd.R_below (zqR HO436.out) hb); replace HB := zm (below_step zq31 hb); replace HI433 := zm (IsS45.below zq43 hb); (try clear hb); (try clear hb2); (try clear hk); (try clear hi)) | ((with_reducible refine gate_callee (f := 30) rfl ?_); refine goesL_ (some 16) rfl rfl Tryz.func30 (by kernel_rfl) rfl #[.pointer (some ⟨gb433, 0, none⟩), .int .i64 4] rfl zq1 ?_; (with_reducible refine (spec_l1Cur_one.calls gb433 l0 t437 t438 4 true t442 t443 w _ ?side1 ?side2 A4.out).mono ?_); (case side1 => exact zq43); (case side2 => exact zq31); rintro e w11 ⟨rfl, hi, hb, hk⟩; refine ⟨_, rfl, ?_⟩; replace HO436 := zm (Kd.R_mono (Kd.R_keep (IsS45.apart (show IsS45 w _ gb433 l0 t437 t438 from by repeat (first | (with_reducible first | exact HI433.out | apply IsS45.alloc | apply IsS45.drewN | apply IsS45.drew | apply IsS45.set_1 | apply IsS45.set_2) | exact HI433.out)) (zqR HO436.out) (by decide)) hk (fun _ h => h.2)) (fun _ h => h.1)); replace HB := zm (hb); replace HI433 := zm (hi); (try clear hb); (try clear hb2); (try clear hk); (try clear hi)) | ((with_reducible refine gate_callee (f := 31) rfl ?_); refine goesL_ (some 19) rfl rfl Tryz.func31 (by kernel_rfl) rfl #[.pointer (some ⟨gb433, 0, none⟩), .string t439, .string (⟨#[32, 48, 46, 10]⟩ : ByteArray)] rfl zq1 ?_; (with_reducible refine (spec_l1Cur_spoilt.calls gb433 l0 t442 t443 t439 (⟨#[32, 48, 46, 10]⟩ : ByteArray) t444 t445 t446 w _ ?side1 ?side2 A6.out).mono ?_); (case side1 => exact zq43); (case side2 => exact zq31); rintro e w12 ⟨rfl, hi, hb, hk⟩; refine ⟨_, rfl, ?_⟩; replace HO436 := zm (Kd.R_mono (Kd.R_keep (IsS45.apart (show IsS45 w _ gb433 l0 t442 t443 from by repeat (first | (with_reducible first | exact HI433.out | apply IsS45.alloc | apply IsS45.drewN | apply IsS45.drew | apply IsS45.set_1 | apply IsS45.set_2) | exact HI433.out)) (zqR HO436.out) (by decide)) hk (fun _ h => h.2)) (fun _ h => h.1)); replace HB := zm (hb); replace HI433 := zm (hi); (try clear hb); (try clear hb2); (try clear hk); (try clear hi)))
 go_ret
 exact ⟨zqE, zq31⟩
def spec_l1Split.l0 : Nat → ByteArray → Int → List ByteArray → Int → Int → Option (List ByteArray)
 | 0, _, _, _, _, _ => none
 | k + 1, x0, x1, x5, x6, x7 => if x7 < (x0.size : Int) then (if 0 ≤ x7 then (if (bt x0 x7) = x1 then (if 0 ≤ x6 then (if x6 ≤ x7 then (if x7 ≤ (x0.size : Int) then (if x5.length < 8796093022208 then (spec_l1Split.l0 k x0 x1 (x5 ++ [x0.extract (x6 : Int).toNat (x7 : Int).toNat]) (wrap64 (x7 + 1)) (wrap64 (x7 + 1))) else (none)) else (none)) else (none)) else (none)) else (spec_l1Split.l0 k x0 x1 x5 x6 (wrap64 (x7 + 1)))) else (none)) else (if 0 ≤ x6 then (if x6 ≤ (x0.size : Int) then (if x5.length < 8796093022208 then (some (x5 ++ [x0.extract (x6 : Int).toNat x0.size])) else (none)) else (none)) else (none))
def spec_l1Split.f (k : Nat) (a0 : ByteArray) (a1 : Int) : Option (List ByteArray) := spec_l1Split.l0 k a0 a1 (([] : List ByteArray)) 0 0
set_option maxHeartbeats 8000000 in
set_option maxRecDepth 100000 in
theorem spec_l1Split.calls (k : Nat) (a0 : ByteArray) (a1 : Int) (r : List ByteArray) (w : World) (h : spec_l1Split.f k a0 a1 = some r) :
  Calls Tryz.prog 46 #[.string a0, .int .u8 a1] w fun e w' => ∃ v0_ : Value, e = .returned (v0_) ∧ Kd.R Kd.string 9 w' w.heap.size (fun _ => True) v0_ r ∧ Below w.heap.size w w' := by
 have HB := zm (Below.refl w.heap.size w)
 have H : (spec_l1Split.l0 k a0 a1 (([] : List ByteArray)) 0 0) = some r := h
 clear h
 obtain ⟨y447, hy447⟩ : ∃ y_ : List ByteArray, y_ = (([] : List ByteArray)) := ⟨_, rfl⟩
 replace H : (spec_l1Split.l0 k a0 a1 y447 0 0) = some r := zqH hy447 H
 have Ny447 := zm hy447
 clear hy447
 have H' := zm H
 clear H
 go_enter Tryz.func46, Tryz.ntmps46
 go_wp2_with (first | ((with_reducible refine gate_dst (N := 8) rfl ?_); refine Kd.R_lit Kd.string _ 9 ?hg (N := 8) ?hd (xs := ([] : List ByteArray)) (inner := []) (ok := fun _ => True) (okp := fun _ => True) ?hr ?hp (fun _ hk => hk) trivial (Below.refl _ _) (Nat.le_refl _) (by simp) ?_; (case hd => rfl); (case hg => rfl); (case hr => exact zqS); (case hp => exact (Reps.none _ _)); intro v448 w3 ho4 hb hg_ hnew_; clear hg_ hnew_; (first | rw [← Ny447.out] at ho4 | (simp only [Int.reduceToNat] at ho4; rw [← Ny447.out] at ho4)); have HO449 := zm (Kd.R_lower ho4 (below_size zq0)); replace HB := zm (below_step zq0 hb); clear hb ho4))
 go_loopg [5, 6, 7] k (fun kq v5 v6 v7 w' => ∃ (x5_1 : List ByteArray) (x6_1 : Int) (x7_1 : Int), v6 = .int .i64 x6_1 ∧ v7 = .int .i64 x7_1 ∧ Aside0 (spec_l1Split.l0 kq a0 a1 x5_1 x6_1 x7_1 = some r) ∧ Aside0 (kq ≤ k) ∧ Aside0 (Kd.R Kd.string 9 w' w.heap.size (fun _ => True) v5 x5_1) ∧ Aside0 (Below w.heap.size w w'))
 case atStart => exact ⟨(y447), (0), (0), (by first | rfl | (simp; done) | (simp [*]; done)), (by first | rfl | (simp; done) | (simp [*]; done)), H', ⟨Nat.le_refl _⟩, ⟨zqR HO449.out⟩, ⟨zq0⟩⟩
 clear H'
 try clear p2
 try clear c4
 obtain ⟨x5_1, x6_1, x7_1, rfl, rfl, HA, HK1, HO_5, HB⟩ := hrel
 cases gk with
 | zero => exact absurd HA.out (by simp [spec_l1Split.l0])
 | succ k1 =>
  have H := HA.out
  clear HA
  simp only [spec_l1Split.l0] at H
  by_cases c5 : x7_1 < (a0.size : Int)
  case neg =>
   rw [if_neg c5] at H
   have c5b0 : decide (x7_1 < (a0.size : Int)) = false := decide_eq_false c5
   clear c5
   by_cases c14 : 0 ≤ x6_1
   case neg =>
    rw [if_neg c14] at H
    exact absurd H (by simp)
   rw [if_pos c14] at H
   have c14b0 := eq_true c14
   have c14b1 : decide (0 ≤ x6_1) = true := decide_eq_true c14
   clear c14
   by_cases c15 : x6_1 ≤ (a0.size : Int)
   case neg =>
    rw [if_neg c15] at H
    exact absurd H (by simp)
   rw [if_pos c15] at H
   have c15b0 := eq_true c15
   have c15b1 : decide (x6_1 ≤ (a0.size : Int)) = true := decide_eq_true c15
   clear c15
   by_cases c16 : x5_1.length < 8796093022208
   case neg =>
    rw [if_neg c16] at H
    exact absurd H (by simp)
   rw [if_pos c16] at H
   have LMc16 := zm c16
   clear c16
   obtain ⟨y453, hy453⟩ : ∃ y_ : List ByteArray, y_ = (x5_1 ++ [a0.extract (x6_1 : Int).toNat a0.size]) := ⟨_, rfl⟩
   replace H : (some y453) = some r := zqH hy453 H
   have Ny453 := zm hy453
   clear hy453
   obtain rfl := Option.some.inj H
   go_wp2_with (first | ((with_reducible refine gate_builtin (b := .append) (xs := #[.tmp 29, .tmp 33]) rfl ?_); at_builtin; refine Kd.R_append Kd.string (w0 := w) w.heap.size rfl (.tmp 29) (.tmp 33) 54 9 (.string ⟨#[]⟩) 16 rfl Tryz.underlying54 info9 rfl (by decide) (by omega) u5 x5_1 (a0.extract (x6_1 : Int).toNat a0.size) [.string (a0.extract (x6_1 : Int).toNat a0.size)] (fun _ => True) (fun _ => False) rfl rfl ?aP (fun _ hk => hk.elim) ?aF ?aO ?aB ?aS ?aL ?_; (case aP => exact rfl); (case aB => exact zq0); (case aF => exact (fun _ _ => trivial)); (case aO => exact (zqR HO_5.out)); (case aS => exact (below_size zq0)); (case aL => have := LMc16.out; omega); intro v454 w17 ho hb hg hat; rw [← Ny453.out] at ho; replace HB := zm (hb); have HO455 := zm (ho); clear HO_5; clear ho hb hg hat))
   go_ret
   exact ⟨_, by first | rfl | (simp [errW_none, errW_some] <;> rfl) | (simp [*, errW_none, errW_some] <;> rfl), zqR HO455.out, zq0⟩
  rw [if_pos c5] at H
  have c5b0 : decide (x7_1 < (a0.size : Int)) = true := decide_eq_true c5
  clear c5
  by_cases c6 : 0 ≤ x7_1
  case neg =>
   rw [if_neg c6] at H
   exact absurd H (by simp)
  rw [if_pos c6] at H
  have c6b0 : decide (0 ≤ x7_1) = true := decide_eq_true c6
  clear c6
  by_cases c8 : (bt a0 x7_1) = a1
  case neg =>
   rw [if_neg c8] at H
   have c8b0 : ((bt a0 x7_1) == a1) = false := beq_eq_false_iff_ne.mpr c8
   have c8b1 : ((bt a0 x7_1) != a1) = true := bne_iff_ne.mpr c8
   have H' := zm H
   clear H
   have p7 : 0 ≤ (x7_1 : Int) := of_decide_eq_true zq8
   have q7 : x7_1 < (a0.size : Int) := of_decide_eq_true zq8
   have hx7 := bt_at a0 x7_1
   replace p7 := eq_true p7
   replace q7 := eq_true q7
   go_wp2
   go_roundg k1
   case measure => have := HK1.out; omega
   case rel => exact ⟨(x5_1), (x6_1), (wrap64 (x7_1 + 1)), (by first | rfl | (simp; done) | (simp [*]; done)), (by first | rfl | (simp; done) | (simp [*]; done)), H', ⟨by have := HK1.out; omega⟩, ⟨zqR HO_5.out⟩, ⟨zq0⟩⟩
  rw [if_pos c8] at H
  have c8b0 : ((bt a0 x7_1) == a1) = true := beq_iff_eq.mpr c8
  have c8b1 : ((bt a0 x7_1) != a1) = false := bne_eq_false_iff_eq.mpr c8
  clear c8
  by_cases c9 : 0 ≤ x6_1
  case neg =>
   rw [if_neg c9] at H
   exact absurd H (by simp)
  rw [if_pos c9] at H
  have c9b0 := eq_true c9
  have c9b1 : decide (0 ≤ x6_1) = true := decide_eq_true c9
  clear c9
  by_cases c10 : x6_1 ≤ x7_1
  case neg =>
   rw [if_neg c10] at H
   exact absurd H (by simp)
  rw [if_pos c10] at H
  have c10b0 := eq_true c10
  have c10b1 : decide (x6_1 ≤ x7_1) = true := decide_eq_true c10
  clear c10
  by_cases c11 : x7_1 ≤ (a0.size : Int)
  case neg =>
   rw [if_neg c11] at H
   exact absurd H (by simp)
  rw [if_pos c11] at H
  have c11b0 := eq_true c11
  have c11b1 : decide (x7_1 ≤ (a0.size : Int)) = true := decide_eq_true c11
  clear c11
  by_cases c12 : x5_1.length < 8796093022208
  case neg =>
   rw [if_neg c12] at H
   exact absurd H (by simp)
  rw [if_pos c12] at H
  have LMc12 := zm c12
  clear c12
  obtain ⟨y450, hy450⟩ : ∃ y_ : List ByteArray, y_ = (x5_1 ++ [a0.extract (x6_1 : Int).toNat (x7_1 : Int).toNat]) := ⟨_, rfl⟩
  replace H : (spec_l1Split.l0 k1 a0 a1 y450 (wrap64 (x7_1 + 1)) (wrap64 (x7_1 + 1))) = some r := zqH hy450 H
  have Ny450 := zm hy450
  clear hy450
  have H' := zm H
  clear H
  have p7 : 0 ≤ (x7_1 : Int) := of_decide_eq_true zq8
  have q7 : x7_1 < (a0.size : Int) := of_decide_eq_true zq8
  have hx7 := bt_at a0 x7_1
  replace p7 := eq_true p7
  replace q7 := eq_true q7
  go_wp2_with (first | ((with_reducible refine gate_builtin (b := .append) (xs := #[.tmp 20, .tmp 25]) rfl ?_); at_builtin; refine Kd.R_append Kd.string (w0 := w) w.heap.size rfl (.tmp 20) (.tmp 25) 54 9 (.string ⟨#[]⟩) 16 rfl Tryz.underlying54 info9 rfl (by decide) (by omega) u5 x5_1 (a0.extract (x6_1 : Int).toNat (x7_1 : Int).toNat) [.string (a0.extract (x6_1 : Int).toNat (x7_1 : Int).toNat)] (fun _ => True) (fun _ => False) rfl rfl ?aP (fun _ hk => hk.elim) ?aF ?aO ?aB ?aS ?aL ?_; (case aP => exact rfl); (case aB => exact zq0); (case aF => exact (fun _ _ => trivial)); (case aO => exact (zqR HO_5.out)); (case aS => exact (below_size zq0)); (case aL => have := LMc12.out; omega); intro v451 w13 ho hb hg hat; rw [← Ny450.out] at ho; replace HB := zm (hb); have HO452 := zm (ho); clear HO_5; clear ho hb hg hat))
  go_roundg k1
  case measure => have := HK1.out; omega
  case rel => exact ⟨(y450), (wrap64 (x7_1 + 1)), (wrap64 (x7_1 + 1)), (by first | rfl | (simp; done) | (simp [*]; done)), (by first | rfl | (simp; done) | (simp [*]; done)), H', ⟨by have := HK1.out; omega⟩, ⟨zqR HO452.out⟩, ⟨zq0⟩⟩
mutual
def spec_ParseOverview.j0 : Nat → ByteArray → List (S25) → List ByteArray → Bool → Option ((List (S25)) × Bool)
 | 0, _, _, _, _ => none
 | k + 1, x0, x4, x5, x24 => if x24 = true then (some (x4, false)) else (spec_ParseOverview.l0 k x0 x4 x5 0)
def spec_ParseOverview.l0 : Nat → ByteArray → List (S25) → List ByteArray → Int → Option ((List (S25)) × Bool)
 | 0, _, _, _, _ => none
 | k + 1, x0, x4, x5, x6 => if x6 < (wrap64 ((x5.length : Int) - 1)) then (if 0 ≤ x6 then (if x6 < (x5.length : Int) then ((spec_ParseWarning.f k (rdOf ByteArray.empty x5 x6)).bind fun bt463 => (if bt463.2.2.2.2.2.2 = true then (if x4.length < 2932031007402 then (spec_ParseOverview.l0 k x0 (x4 ++ [(⟨bt463.1, bt463.2.1, bt463.2.2.1, bt463.2.2.2.1, bt463.2.2.2.2.1, bt463.2.2.2.2.2.1⟩ : S25)]) x5 (wrap64 (x6 + 1))) else (none)) else (some ((([] : List (S25))), false)))) else (none)) else (none)) else ((spec_OverviewText.f k x4).bind fun bt477 => (if bt477.2 = true then (if bt477.1.toList = x0.toList then (some (x4, true)) else (some ((([] : List (S25))), false))) else (some ((([] : List (S25))), false))))
end
def spec_ParseOverview.f (k : Nat) (a0 : ByteArray) : Option ((List (S25)) × Bool) := (some (([] : List (S25)) : List (S25))).bind fun y456 => (if a0.toList = ([78, 111, 32, 119, 97, 114, 110, 105, 110, 103, 115, 46, 10] : List UInt8) then (some (y456, true)) else ((spec_l1Split.f k a0 10).bind fun t459 => (if (a0.size : Int) > 2000 then (spec_ParseOverview.j0 k a0 y456 t459 true) else (spec_ParseOverview.j0 k a0 y456 t459 (decide ((t459.length : Int) < 2))))))
set_option maxHeartbeats 8000000 in
set_option maxRecDepth 100000 in
theorem spec_ParseOverview.calls (k : Nat) (a0 : ByteArray) (r1 : List (S25)) (r2 : Bool) (w : World) (h : spec_ParseOverview.f k a0 = some (r1, r2)) :
  Calls Tryz.prog 17 #[.string a0] w fun e w' => ∃ v0_ : Value, e = .returned (.tuple #[v0_, .bool r2]) ∧ Kd.R k25 25 w' w.heap.size (fun _ => True) v0_ r1 ∧ Below w.heap.size w w' := by
 have hu25 := Tryz.underlying25
 have HB := zm (Below.refl w.heap.size w)
 have H : ((some (([] : List (S25)) : List (S25))).bind fun y456 => (if a0.toList = ([78, 111, 32, 119, 97, 114, 110, 105, 110, 103, 115, 46, 10] : List UInt8) then (some (y456, true)) else ((spec_l1Split.f k a0 10).bind fun t459 => (if (a0.size : Int) > 2000 then (spec_ParseOverview.j0 k a0 y456 t459 true) else (spec_ParseOverview.j0 k a0 y456 t459 (decide ((t459.length : Int) < 2))))))) = some (r1, r2) := h
 clear h
 obtain ⟨y456, hy456⟩ : ∃ y_ : List (S25), y_ = (([] : List (S25))) := ⟨_, rfl⟩
 replace H : (if a0.toList = ([78, 111, 32, 119, 97, 114, 110, 105, 110, 103, 115, 46, 10] : List UInt8) then (some (y456, true)) else ((spec_l1Split.f k a0 10).bind fun t459 => (if (a0.size : Int) > 2000 then (spec_ParseOverview.j0 k a0 y456 t459 true) else (spec_ParseOverview.j0 k a0 y456 t459 (decide ((t459.length : Int) < 2)))))) = some (r1, r2) := zqH hy456 H
 have Ny456 := zm hy456
 clear hy456
 by_cases c2 : a0.toList = ([78, 111, 32, 119, 97, 114, 110, 105, 110, 103, 115, 46, 10] : List UInt8)
 case pos =>
  rw [if_pos c2] at H
  have c2b0 : (a0.toList == ([78, 111, 32, 119, 97, 114, 110, 105, 110, 103, 115, 46, 10] : List UInt8)) = true := beq_iff_eq.mpr c2
  have c2b1 : (a0.toList != ([78, 111, 32, 119, 97, 114, 110, 105, 110, 103, 115, 46, 10] : List UInt8)) = false := bne_eq_false_iff_eq.mpr c2
  clear c2
  simp only [Option.some.injEq, Prod.mk.injEq] at H
  obtain ⟨rfl, rfl⟩ := H
  go_enter Tryz.func17, Tryz.ntmps17
  go_wp2_with (first | ((with_reducible refine gate_dst (N := 11) rfl ?_); refine Kd.R_lit k25 _ 25 ?hg (N := 11) ?hd (xs := ([] : List (S25))) (inner := []) (ok := fun _ => True) (okp := fun _ => True) ?hr ?hp (fun _ hk => hk) trivial (Below.refl _ _) (Nat.le_refl _) (by simp) ?_; (case hd => rfl); (case hg => rfl); (case hr => exact zqS); (case hp => exact (Reps.none _ _)); intro v457 w3 ho4 hb hg_ hnew_; clear hg_ hnew_; (first | rw [← Ny456.out] at ho4 | (simp only [Int.reduceToNat] at ho4; rw [← Ny456.out] at ho4)); have HO458 := zm (Kd.R_lower ho4 (below_size zq0)); replace HB := zm (below_step zq0 hb); clear hb ho4))
  go_ret2
  exact ⟨_, by first | rfl | (simp [errW_none, errW_some] <;> rfl) | (simp [*, errW_none, errW_some] <;> rfl), zqR HO458.out, zq0⟩
 rw [if_neg c2] at H
 have c2b0 : (a0.toList == ([78, 111, 32, 119, 97, 114, 110, 105, 110, 103, 115, 46, 10] : List UInt8)) = false := beq_eq_false_iff_ne.mpr c2
 have c2b1 : (a0.toList != ([78, 111, 32, 119, 97, 114, 110, 105, 110, 103, 115, 46, 10] : List UInt8)) = true := bne_iff_ne.mpr c2
 obtain ⟨t459, A50, H⟩ := zob H
 replace H : (if (a0.size : Int) > 2000 then (spec_ParseOverview.j0 k a0 y456 t459 true) else (spec_ParseOverview.j0 k a0 y456 t459 (decide ((t459.length : Int) < 2)))) = some (r1, r2) := H
 have A5 := zm A50
 clear A50
 have HC6 := zm H
 clear H
 go_enter Tryz.func17, Tryz.ntmps17
 go_upto_region 5 with (first | ((with_reducible refine gate_dst (N := 11) rfl ?_); refine Kd.R_lit k25 _ 25 ?hg (N := 11) ?hd (xs := ([] : List (S25))) (inner := []) (ok := fun _ => True) (okp := fun _ => True) ?hr ?hp (fun _ hk => hk) trivial (Below.refl _ _) (Nat.le_refl _) (by simp) ?_; (case hd => rfl); (case hg => rfl); (case hr => exact zqS); (case hp => exact (Reps.none _ _)); intro v457 w7 ho8 hb hg_ hnew_; clear hg_ hnew_; (first | rw [← Ny456.out] at ho8 | (simp only [Int.reduceToNat] at ho8; rw [← Ny456.out] at ho8)); have HO458 := zm (Kd.R_lower ho8 (below_size zq0)); replace HB := zm (below_step zq0 hb); clear hb ho8) | ((with_reducible refine gate_callee (f := 46) rfl ?_); refine goesL_ (some 16) rfl rfl Tryz.func46 (by kernel_rfl) rfl #[.string a0, .int .u8 10] rfl zq1 ?_; (with_reducible refine (spec_l1Split.calls k a0 10 t459 _ A5.out).mono ?_); rintro e w9 ⟨v460, rfl, ho0, hb⟩; refine ⟨_, rfl, ?_⟩; replace HO458 := zm (Kd.R_below (zqR HO458.out) hb); have HO461 := zm (Kd.R_lower ho0 (below_size zq0)); replace HB := zm (below_step zq0 hb); (try clear hb); (try clear hb2); (try clear hk); (try clear hi); (try clear ho0)))
 (try simp only [Act.put, List.setIfInBounds_toArray, List.set_cons_zero, List.set_cons_succ])
 go_cut [24] (fun v24 wc => ∃ (kq : Nat) (x24_5 : Bool), v24 = .bool x24_5 ∧ Aside0 (spec_ParseOverview.j0 kq a0 y456 t459 x24_5 = some (r1, r2)) ∧ Aside0 (kq ≤ k) ∧ Aside0 (Kd.R k25 25 wc w.heap.size (fun _ => True) v457 y456) ∧ Aside0 (Kd.R Kd.string 9 wc w.heap.size (fun _ => True) v460 t459) ∧ Aside0 (Below w.heap.size w wc))
 case first =>
  have H := HC6.out
  clear HC6
  by_cases c10 : (a0.size : Int) > 2000
  case pos =>
   rw [if_pos c10] at H
   have c10b0 : decide (2000 < (a0.size : Int)) = true := decide_eq_true c10
   have c10b1 : decide (2000 < a0.size) = true := decide_eq_true (by omega)
   clear c10
   (first | rw [c10b0] | (simp only [i64_w, i32_w]; rw [c10b0]) | rw [c10b1] | skip)
   have H' := zm H
   clear H
   go_wp2
   go_meet
   case rel => exact ⟨_, (true), (by first | rfl | (simp; done) | (simp [*]; done)), H', ⟨by first | omega | exact Nat.le_refl _⟩, ⟨zqR HO458.out⟩, ⟨zqR HO461.out⟩, ⟨zq0⟩⟩
  rw [if_neg c10] at H
  have c10b0 : decide (2000 < (a0.size : Int)) = false := decide_eq_false c10
  have c10b1 : decide (2000 < a0.size) = false := decide_eq_false (by omega)
  clear c10
  (first | rw [c10b0] | (simp only [i64_w, i32_w]; rw [c10b0]) | rw [c10b1] | skip)
  have H' := zm H
  clear H
  obtain ⟨Ao11, co11, eo11⟩ := Kd.R_slice HO461.out
  subst eo11
  go_wp2
  go_meet
  case rel => exact ⟨_, (decide ((t459.length : Int) < 2)), (by first | rfl | (simp; done) | (simp [*]; done)), H', ⟨by first | omega | exact Nat.le_refl _⟩, ⟨zqR HO458.out⟩, ⟨zqR HO461.out⟩, ⟨zq0⟩⟩
 clear HC6
 try clear c1
 try clear c2
 try clear c2b0
 try clear c2b1
 try clear p2
 try clear c4
 try clear c10
 try clear c10b0
 try clear c10b1
 obtain ⟨kq, x24_5, rfl, HA, HJ5, HO_4, HO_5, HB⟩ := hcut
 cases kq with
 | zero => exact absurd HA.out (by simp [spec_ParseOverview.j0])
 | succ kj5 =>
  have H := HA.out
  clear HA
  simp only [spec_ParseOverview.j0] at H
  by_cases c12 : x24_5 = true
  case pos =>
   subst c12
   have H1 : (some (y456, false)) = some (r1, r2) := by rw [if_pos rfl] at H; exact H
   clear H
   have H := H1
   clear H1
   simp only [Option.some.injEq, Prod.mk.injEq] at H
   obtain ⟨rfl, rfl⟩ := H
   go_wp2
   go_ret2
   exact ⟨_, by first | rfl | (simp [errW_none, errW_some] <;> rfl) | (simp [*, errW_none, errW_some] <;> rfl), zqR HO_4.out, zq0⟩
  replace c12 := Bool.eq_false_iff.mpr c12
  subst c12
  have H1 : (spec_ParseOverview.l0 kj5 a0 y456 t459 0) = some (r1, r2) := by rw [if_neg (show ¬ (false = true) by decide)] at H; exact H
  clear H
  have H := H1
  clear H1
  have H' := zm H
  clear H
  go_wp2
  go_loopg [4, 6] kj5 (fun kq v4 v6 w' => ∃ (x4_2 : List (S25)) (x6_2 : Int), v6 = .int .i64 x6_2 ∧ Aside0 (spec_ParseOverview.l0 kq a0 x4_2 t459 x6_2 = some (r1, r2)) ∧ Aside0 (kq ≤ kj5) ∧ Aside0 (Kd.R k25 25 w' w.heap.size (fun _ => True) v4 x4_2) ∧ Aside0 (Kd.R Kd.string 9 w' w.heap.size (fun _ => True) v460 t459) ∧ Aside0 (Below w.heap.size w w'))
  case atStart => exact ⟨(y456), (0), (by first | rfl | (simp; done) | (simp [*]; done)), H', ⟨Nat.le_refl _⟩, ⟨zqR HO_4.out⟩, ⟨zqR HO_5.out⟩, ⟨zq0⟩⟩
  clear H'
  try clear c1
  try clear c2
  try clear c2b0
  try clear c2b1
  try clear p2
  try clear c4
  try clear c10
  try clear c10b0
  try clear c10b1
  try clear c12
  try clear p2
  obtain ⟨x4_2, x6_2, rfl, HA, HK2, HO_4, HO_5, HB⟩ := hrel
  cases gk with
  | zero => exact absurd HA.out (by simp [spec_ParseOverview.l0])
  | succ k2 =>
   have H := HA.out
   clear HA
   simp only [spec_ParseOverview.l0] at H
   by_cases c13 : x6_2 < (wrap64 ((t459.length : Int) - 1))
   case neg =>
    rw [if_neg c13] at H
    have c13b0 : decide (x6_2 < (wrap64 ((t459.length : Int) - 1))) = false := decide_eq_false c13
    clear c13
    obtain ⟨⟨t477, t478⟩, A300, H⟩ := zob H
    replace H : (if t478 = true then (if t477.toList = a0.toList then (some (x4_2, true)) else (some ((([] : List (S25))), false))) else (some ((([] : List (S25))), false))) = some (r1, r2) := H
    have A30 := zm A300
    clear A300
    by_cases c31 : t478 = true
    case neg =>
     replace c31 := Bool.eq_false_iff.mpr c31
     subst c31
     have H1 : (some ((([] : List (S25))), false)) = some (r1, r2) := by rw [if_neg (show ¬ (false = true) by decide)] at H; exact H
     clear H
     have H := H1
     clear H1
     obtain ⟨y482, hy482⟩ : ∃ y_ : List (S25), y_ = (([] : List (S25))) := ⟨_, rfl⟩
     replace H : (some (y482, false)) = some (r1, r2) := zqH hy482 H
     have Ny482 := zm hy482
     clear hy482
     simp only [Option.some.injEq, Prod.mk.injEq] at H
     obtain ⟨rfl, rfl⟩ := H
     obtain ⟨Ao41, co41, eo41⟩ := Kd.R_slice HO_5.out
     subst eo41
     obtain ⟨Ao42, co42, eo42⟩ := Kd.R_slice HO_4.out
     subst eo42
     go_wp2_with (first | ((with_reducible refine gate_callee (f := 13) rfl ?_); refine goesL_ (some 50) rfl rfl Tryz.func13 (by kernel_rfl) rfl #[.slice Ao42 x4_2.length co42] rfl zq1 ?_; (with_reducible refine (spec_OverviewText.calls k2 _ _ x4_2 t477 false _ ?side1 ?side2 A30.out).mono ?_); (case side1 => exact zqC (Kd.R_reads' HO_4.out).2.2); (case side2 => exact (Kd.R_reads' HO_4.out).2.1); rintro e w43 ⟨rfl, hb⟩; refine ⟨_, rfl, ?_⟩; replace HO_4 := zm (Kd.R_below (zqR HO_4.out) hb); replace HO_5 := zm (Kd.R_below (zqR HO_5.out) hb); replace HB := zm (below_step zq0 hb); (try clear hb); (try clear hb2); (try clear hk); (try clear hi)) | ((with_reducible refine gate_dst (N := 60) rfl ?_); refine Kd.R_lit k25 _ 25 ?hg (N := 60) ?hd (xs := ([] : List (S25))) (inner := []) (ok := fun _ => True) (okp := fun _ => True) ?hr ?hp (fun _ hk => hk) trivial (Below.refl _ _) (Nat.le_refl _) (by simp) ?_; (case hd => rfl); (case hg => rfl); (case hr => exact zqS); (case hp => exact (Reps.none _ _)); intro v483 w44 ho45 hb hg_ hnew_; clear hg_ hnew_; (first | rw [← Ny482.out] at ho45 | (simp only [Int.reduceToNat] at ho45; rw [← Ny482.out] at ho45)); replace HO_5 := zm (Kd.R_below (zqR HO_5.out) hb); have HO484 := zm (Kd.R_lower (Kd.R_new' ho45 (Kd.R_lt (zqR HO_4.out))) (below_size zq0)); replace HO_4 := zm (Kd.R_elder' (zqR HO_4.out) (Kd.R_base ho45) hb); replace HB := zm (below_step zq0 hb); clear hb ho45))
     go_ret2
     exact ⟨_, by first | rfl | (simp [errW_none, errW_some] <;> rfl) | (simp [*, errW_none, errW_some] <;> rfl), by (with_reducible repeat (first | apply Kd.R_alloc | apply Kd.R_drewN | apply Kd.R_drew)); exact Kd.R_mono HO484.out (fun _ hk => trivial), zq0⟩
    subst c31
    have H1 : (if t477.toList = a0.toList then (some (x4_2, true)) else (some ((([] : List (S25))), false))) = some (r1, r2) := by rw [if_pos rfl] at H; exact H
    clear H
    have H := H1
    clear H1
    by_cases c32 : t477.toList = a0.toList
    case pos =>
     rw [if_pos c32] at H
     have c32b0 : (t477.toList == a0.toList) = true := beq_iff_eq.mpr c32
     have c32b1 : (t477.toList != a0.toList) = false := bne_eq_false_iff_eq.mpr c32
     clear c32
     simp only [Option.some.injEq, Prod.mk.injEq] at H
     obtain ⟨rfl, rfl⟩ := H
     obtain ⟨Ao33, co33, eo33⟩ := Kd.R_slice HO_5.out
     subst eo33
     obtain ⟨Ao34, co34, eo34⟩ := Kd.R_slice HO_4.out
     subst eo34
     go_wp2_with (first | ((with_reducible refine gate_callee (f := 13) rfl ?_); refine goesL_ (some 50) rfl rfl Tryz.func13 (by kernel_rfl) rfl #[.slice Ao34 x4_2.length co34] rfl zq1 ?_; (with_reducible refine (spec_OverviewText.calls k2 _ _ x4_2 t477 true _ ?side1 ?side2 A30.out).mono ?_); (case side1 => exact zqC (Kd.R_reads' HO_4.out).2.2); (case side2 => exact (Kd.R_reads' HO_4.out).2.1); rintro e w35 ⟨rfl, hb⟩; refine ⟨_, rfl, ?_⟩; replace HO_4 := zm (Kd.R_below (zqR HO_4.out) hb); replace HO_5 := zm (Kd.R_below (zqR HO_5.out) hb); replace HB := zm (below_step zq0 hb); (try clear hb); (try clear hb2); (try clear hk); (try clear hi)))
     go_ret2
     exact ⟨_, by first | rfl | (simp [errW_none, errW_some] <;> rfl) | (simp [*, errW_none, errW_some] <;> rfl), zqR HO_4.out, zq0⟩
    rw [if_neg c32] at H
    have c32b0 : (t477.toList == a0.toList) = false := beq_eq_false_iff_ne.mpr c32
    have c32b1 : (t477.toList != a0.toList) = true := bne_iff_ne.mpr c32
    obtain ⟨y479, hy479⟩ : ∃ y_ : List (S25), y_ = (([] : List (S25))) := ⟨_, rfl⟩
    replace H : (some (y479, false)) = some (r1, r2) := zqH hy479 H
    have Ny479 := zm hy479
    clear hy479
    simp only [Option.some.injEq, Prod.mk.injEq] at H
    obtain ⟨rfl, rfl⟩ := H
    obtain ⟨Ao36, co36, eo36⟩ := Kd.R_slice HO_5.out
    subst eo36
    obtain ⟨Ao37, co37, eo37⟩ := Kd.R_slice HO_4.out
    subst eo37
    go_wp2_with (first | ((with_reducible refine gate_callee (f := 13) rfl ?_); refine goesL_ (some 50) rfl rfl Tryz.func13 (by kernel_rfl) rfl #[.slice Ao37 x4_2.length co37] rfl zq1 ?_; (with_reducible refine (spec_OverviewText.calls k2 _ _ x4_2 t477 true _ ?side1 ?side2 A30.out).mono ?_); (case side1 => exact zqC (Kd.R_reads' HO_4.out).2.2); (case side2 => exact (Kd.R_reads' HO_4.out).2.1); rintro e w38 ⟨rfl, hb⟩; refine ⟨_, rfl, ?_⟩; replace HO_4 := zm (Kd.R_below (zqR HO_4.out) hb); replace HO_5 := zm (Kd.R_below (zqR HO_5.out) hb); replace HB := zm (below_step zq0 hb); (try clear hb); (try clear hb2); (try clear hk); (try clear hi)) | ((with_reducible refine gate_dst (N := 60) rfl ?_); refine Kd.R_lit k25 _ 25 ?hg (N := 60) ?hd (xs := ([] : List (S25))) (inner := []) (ok := fun _ => True) (okp := fun _ => True) ?hr ?hp (fun _ hk => hk) trivial (Below.refl _ _) (Nat.le_refl _) (by simp) ?_; (case hd => rfl); (case hg => rfl); (case hr => exact zqS); (case hp => exact (Reps.none _ _)); intro v480 w39 ho40 hb hg_ hnew_; clear hg_ hnew_; (first | rw [← Ny479.out] at ho40 | (simp only [Int.reduceToNat] at ho40; rw [← Ny479.out] at ho40)); replace HO_5 := zm (Kd.R_below (zqR HO_5.out) hb); have HO481 := zm (Kd.R_lower (Kd.R_new' ho40 (Kd.R_lt (zqR HO_4.out))) (below_size zq0)); replace HO_4 := zm (Kd.R_elder' (zqR HO_4.out) (Kd.R_base ho40) hb); replace HB := zm (below_step zq0 hb); clear hb ho40))
    go_ret2
    exact ⟨_, by first | rfl | (simp [errW_none, errW_some] <;> rfl) | (simp [*, errW_none, errW_some] <;> rfl), by (with_reducible repeat (first | apply Kd.R_alloc | apply Kd.R_drewN | apply Kd.R_drew)); exact Kd.R_mono HO481.out (fun _ hk => trivial), zq0⟩
   rw [if_pos c13] at H
   have c13b0 : decide (x6_2 < (wrap64 ((t459.length : Int) - 1))) = true := decide_eq_true c13
   clear c13
   by_cases c14 : 0 ≤ x6_2
   case neg =>
    rw [if_neg c14] at H
    exact absurd H (by simp)
   rw [if_pos c14] at H
   have c14b0 : decide (0 ≤ x6_2) = true := decide_eq_true c14
   clear c14
   by_cases c15 : x6_2 < (t459.length : Int)
   case neg =>
    rw [if_neg c15] at H
    exact absurd H (by simp)
   rw [if_pos c15] at H
   have c15b0 : decide (x6_2 < (t459.length : Int)) = true := decide_eq_true c15
   clear c15
   obtain ⟨⟨t463, t464, t465, t466, t467, t468, t469⟩, A160, H⟩ := zob H
   replace H : (if t469 = true then (if x4_2.length < 2932031007402 then (spec_ParseOverview.l0 k2 a0 (x4_2 ++ [(⟨t463, t464, t465, t466, t467, t468⟩ : S25)]) t459 (wrap64 (x6_2 + 1))) else (none)) else (some ((([] : List (S25))), false))) = some (r1, r2) := H
   have A16 := zm A160
   clear A160
   by_cases c17 : t469 = true
   case neg =>
    replace c17 := Bool.eq_false_iff.mpr c17
    subst c17
    have H1 : (some ((([] : List (S25))), false)) = some (r1, r2) := by rw [if_neg (show ¬ (false = true) by decide)] at H; exact H
    clear H
    have H := H1
    clear H1
    obtain ⟨y474, hy474⟩ : ∃ y_ : List (S25), y_ = (([] : List (S25))) := ⟨_, rfl⟩
    replace H : (some (y474, false)) = some (r1, r2) := zqH hy474 H
    have Ny474 := zm hy474
    clear hy474
    simp only [Option.some.injEq, Prod.mk.injEq] at H
    obtain ⟨rfl, rfl⟩ := H
    obtain ⟨Ao24, co24, eo24⟩ := Kd.R_slice HO_5.out
    subst eo24
    have p462 : 0 ≤ (x6_2 : Int) := of_decide_eq_true zq8
    have q462 : x6_2 < (t459.length : Int) := of_decide_eq_true zq8
    obtain ⟨ad462, e462, hx462_0⟩ := Kd.at_string (Kd.R_reads' HO_5.out).2.2 x6_2 p462 q462
    cases e462
    replace p462 := eq_true p462
    replace q462 := eq_true q462
    go_wp2_with (first | ((with_reducible refine gate_callee (f := 10) rfl ?_); refine goesL_ (some 38) rfl rfl Tryz.func10 (by kernel_rfl) rfl #[.string (rdOf ByteArray.empty t459 x6_2)] rfl zq1 ?_; (with_reducible refine (spec_ParseWarning.calls k2 (rdOf ByteArray.empty t459 x6_2) t463 t464 t465 t466 t467 t468 false _ A16.out).mono ?_); rintro e w25 ⟨rfl, hb⟩; refine ⟨_, rfl, ?_⟩; replace HO_4 := zm (Kd.R_below (zqR HO_4.out) hb); replace HO_5 := zm (Kd.R_below (zqR HO_5.out) hb); replace HB := zm (below_step zq0 hb); (try clear hb); (try clear hb2); (try clear hk); (try clear hi)) | ((with_reducible refine gate_dst (N := 7) rfl ?_); refine box_event ?hg (N := 7) ?hd (cs := #[.int .i64 0, .int .i64 0, .int .i64 0, .int .i64 0, .int .i64 0, .int .i64 0]) (t := 25) ?hr ?_; (case hd => rfl); (case hg => rfl); (case hr => exact zqS); intro gb470 hg w26 hbox hb; replace HO_4 := zm (Kd.R_below (Kd.R_elderB (zqR HO_4.out) gb470 (Nat.le_of_eq hg.symm)) hb); replace HO_5 := zm (Kd.R_below (zqR HO_5.out) hb); have BK470 := zm (hbox); have GW470 := zm ((by rw [hg]; exact (below_size zq0) : w.heap.size ≤ gb470)); replace HB := zm (below_step zq0 hb); have GE470 := GW470; clear hb hbox hg; obtain ⟨hcz27_0, hcz27_1, hcz27_2, hcz27_3, hcz27_4, hcz27_5, hfz27_0, hfz27_1, hfz27_2, hfz27_3, hfz27_4, hfz27_5⟩ := bz6 BK470.out) | ((with_reducible refine gate_dst (N := 43) rfl ?_); refine Kd.R_lit k25 _ 25 ?hg (N := 43) ?hd (xs := ([] : List (S25))) (inner := []) (ok := fun _ => True) (okp := fun _ => True) ?hr ?hp (fun _ hk => hk) trivial (Below.refl _ _) (Nat.le_refl _) (by simp) ?_; (case hd => rfl); (case hg => rfl); (case hr => exact zqS); (case hp => exact (Reps.none _ _)); intro v475 w28 ho29 hb hg_ hnew_; clear hg_ hnew_; (first | rw [← Ny474.out] at ho29 | (simp only [Int.reduceToNat] at ho29; rw [← Ny474.out] at ho29)); replace HO_5 := zm (Kd.R_below zq57 hb); have HO476 := zm (Kd.R_lower (Kd.R_newB (Kd.R_new' ho29 (Kd.R_lt zq36)) (g := gb470) (o := .cells #[.int .i64 t463, .int .i64 t464, .int .i64 t465, .int .i64 t466, .int .i64 t467, .int .i64 t468] 25 (0, 0)) zq12) (below_size zq47)); replace HO_4 := zm (Kd.R_elder' zq36 (Kd.R_base ho29) hb); replace BK470 := zm (blk_below (g := gb470) (o := .cells #[.int .i64 t463, .int .i64 t464, .int .i64 t465, .int .i64 t466, .int .i64 t467, .int .i64 t468] 25 (0, 0)) zq12 hb); replace HB := zm (below_step zq47 hb); clear hb ho29))
    go_ret2
    exact ⟨_, by first | rfl | (simp [errW_none, errW_some] <;> rfl) | (simp [*, errW_none, errW_some] <;> rfl), by (with_reducible repeat (first | apply Kd.R_alloc | apply Kd.R_drewN | apply Kd.R_drew)); exact Kd.R_mono HO476.out (fun _ hk => trivial), zq47⟩
   subst c17
   have H1 : (if x4_2.length < 2932031007402 then (spec_ParseOverview.l0 k2 a0 (x4_2 ++ [(⟨t463, t464, t465, t466, t467, t468⟩ : S25)]) t459 (wrap64 (x6_2 + 1))) else (none)) = some (r1, r2) := by rw [if_pos rfl] at H; exact H
   clear H
   have H := H1
   clear H1
   by_cases c18 : x4_2.length < 2932031007402
   case neg =>
    rw [if_neg c18] at H
    exact absurd H (by simp)
   rw [if_pos c18] at H
   have LMc18 := zm c18
   clear c18
   obtain ⟨y471, hy471⟩ : ∃ y_ : List (S25), y_ = (x4_2 ++ [(⟨t463, t464, t465, t466, t467, t468⟩ : S25)]) := ⟨_, rfl⟩
   replace H : (spec_ParseOverview.l0 k2 a0 y471 t459 (wrap64 (x6_2 + 1))) = some (r1, r2) := zqH hy471 H
   have Ny471 := zm hy471
   clear hy471
   have H' := zm H
   clear H
   obtain ⟨Ao19, co19, eo19⟩ := Kd.R_slice HO_5.out
   subst eo19
   have p462 : 0 ≤ (x6_2 : Int) := of_decide_eq_true zq8
   have q462 : x6_2 < (t459.length : Int) := of_decide_eq_true zq8
   obtain ⟨ad462, e462, hx462_0⟩ := Kd.at_string (Kd.R_reads' HO_5.out).2.2 x6_2 p462 q462
   cases e462
   replace p462 := eq_true p462
   replace q462 := eq_true q462
   go_wp2_with (first | ((with_reducible refine gate_callee (f := 10) rfl ?_); refine goesL_ (some 38) rfl rfl Tryz.func10 (by kernel_rfl) rfl #[.string (rdOf ByteArray.empty t459 x6_2)] rfl zq1 ?_; (with_reducible refine (spec_ParseWarning.calls k2 (rdOf ByteArray.empty t459 x6_2) t463 t464 t465 t466 t467 t468 true _ A16.out).mono ?_); rintro e w20 ⟨rfl, hb⟩; refine ⟨_, rfl, ?_⟩; replace HO_4 := zm (Kd.R_below (zqR HO_4.out) hb); replace HO_5 := zm (Kd.R_below (zqR HO_5.out) hb); replace HB := zm (below_step zq0 hb); (try clear hb); (try clear hb2); (try clear hk); (try clear hi)) | ((with_reducible refine gate_dst (N := 7) rfl ?_); refine box_event ?hg (N := 7) ?hd (cs := #[.int .i64 0, .int .i64 0, .int .i64 0, .int .i64 0, .int .i64 0, .int .i64 0]) (t := 25) ?hr ?_; (case hd => rfl); (case hg => rfl); (case hr => exact zqS); intro gb470 hg w21 hbox hb; replace HO_4 := zm (Kd.R_below (Kd.R_elderB (zqR HO_4.out) gb470 (Nat.le_of_eq hg.symm)) hb); replace HO_5 := zm (Kd.R_below (zqR HO_5.out) hb); have BK470 := zm (hbox); have GW470 := zm ((by rw [hg]; exact (below_size zq0) : w.heap.size ≤ gb470)); replace HB := zm (below_step zq0 hb); have GE470 := GW470; clear hb hbox hg; obtain ⟨hcz22_0, hcz22_1, hcz22_2, hcz22_3, hcz22_4, hcz22_5, hfz22_0, hfz22_1, hfz22_2, hfz22_3, hfz22_4, hfz22_5⟩ := bz6 BK470.out) | ((with_reducible refine gate_builtin (b := .append) (xs := #[.tmp 44, .tmp 46]) rfl ?_); at_builtin; refine Kd.R_append k25 (w0 := w) w.heap.size rfl (.tmp 44) (.tmp 46) 32 25 (.agg #[(.int .i64 0), (.int .i64 0), (.int .i64 0), (.int .i64 0), (.int .i64 0), (.int .i64 0)]) 48 rfl Tryz.underlying32 info25 rfl (by decide) (by omega) u4 x4_2 (⟨t463, t464, t465, t466, t467, t468⟩ : S25) [.int .i64 t463, .int .i64 t464, .int .i64 t465, .int .i64 t466, .int .i64 t467, .int .i64 t468] (fun k_ => k_ ≠ gb470) (fun _ => False) rfl (by first | (go_simp; done) | (go_simp; rfl)) ?aP (fun _ hk => hk.elim) ?aF ?aO ?aB ?aS ?aL ?_; (case aP => exact k25_mkM _ _ _ (⟨t463, t464, t465, t466, t467, t468⟩ : S25)); (case aB => exact zq47); (case aF => exact (fun k_ hk => Kd.freshB (g := gb470) (o := .cells #[.int .i64 t463, .int .i64 t464, .int .i64 t465, .int .i64 t466, .int .i64 t467, .int .i64 t468] 25 (0, 0)) zq12 k_ hk)); (case aO => exact (by (with_reducible repeat (first | apply Kd.R_alloc | apply Kd.R_drewN | apply Kd.R_drew)); exact Kd.R_mono (Kd.R_far (p := ⟨gb470, 5, none⟩) (Kd.R_far (p := ⟨gb470, 4, none⟩) (Kd.R_far (p := ⟨gb470, 3, none⟩) (Kd.R_far (p := ⟨gb470, 2, none⟩) (Kd.R_far (p := ⟨gb470, 1, none⟩) (Kd.R_far (p := ⟨gb470, 0, none⟩) (Kd.R_mono HO_4.out (fun k_ hk => (⟨hk, hk.2⟩ : _ ∧ k_ ≠ gb470))) (fun _ hk => hk.2) (.int .i64 t463)) (fun _ hk => hk.2) (.int .i64 t464)) (fun _ hk => hk.2) (.int .i64 t465)) (fun _ hk => hk.2) (.int .i64 t466)) (fun _ hk => hk.2) (.int .i64 t467)) (fun _ hk => hk.2) (.int .i64 t468)) (fun _ hk => hk.1.2))); (case aS => exact (below_size zq47)); (case aL => have := LMc18.out; omega); intro v472 w23 ho hb hg hat; rw [← Ny471.out] at ho; replace HO_5 := zm (Kd.R_over' zq57 (Kd.R_typed zq36) (by decide) hg); replace BK470 := zm (blk_grown (g := gb470) (o := .cells #[.int .i64 t463, .int .i64 t464, .int .i64 t465, .int .i64 t466, .int .i64 t467, .int .i64 t468] 25 (0, 0)) zq12 hg (Kd.R_away HO_4.out (fun _ hk => hk.2))); replace HB := zm (hb); have HO473 := zm (ho); clear HO_4; clear ho hb hg hat))
   go_roundg k2
   case measure => have := HJ5.out; have := HK2.out; omega
   case rel => exact ⟨(y471), (wrap64 (x6_2 + 1)), (by first | rfl | (simp; done) | (simp [*]; done)), H', ⟨by have := HJ5.out; have := HK2.out; omega⟩, ⟨by (with_reducible repeat (first | apply Kd.R_alloc | apply Kd.R_drewN | apply Kd.R_drew)); exact Kd.R_mono HO473.out (fun _ hk => trivial)⟩, ⟨zqR HO_5.out⟩, ⟨zq47⟩⟩
end Go.Proofs.YtleadjbfcenofaaGreatDoor.Q
