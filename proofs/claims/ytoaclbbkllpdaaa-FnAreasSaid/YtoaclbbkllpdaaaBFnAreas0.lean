/- Texts of this seat, put together: Sh, Gen, Ev, Q0, Tells, Args, Qf4, Qf68, Qf52, Qf53, Qf54, Qf51. -/
import Derived.Test.YtoaclbbkllpdaaaZFnAreas
import Derived.Shelf.Sort.Plain
import Derived.Ground.Names2Prog
import Derived.Shelf.Slices.CompactI
import Derived.Test.YtoaclbbkllpdaaaProg
import Derived.Test.YtoaclbbkllpdaaaWMore
import Derived.Lib.SliceRun
import Derived.Deep.RegionLaw
import Derived.Shelf.RegionOpenPlain
import Derived.Below
import Derived.Deep.Draws
import Derived.Deep.AppendLies
import Derived.Maps.AppendAt
import Derived.OwnWalk
import Derived.Laws.BytesArg
import Derived.Laws.MakeOwn
import Derived.Laws.OwnMore
import Derived.Deep.OwnRows
import Derived.Tactics
import Derived.Lib.ConvBytes
import Derived.Laws.Slices
import Derived.WalkKit
import Derived.KernelRfl
import Derived.RowKit3
import Derived.Deep.LoopGhost
import Derived.Deep.QuietTactic
import Derived.BigQuiet
import Derived.WideLaws
import Derived.Deep.DeepCutAuto
import Derived.Deep.CutBlock
import Derived.Deep.RegionHeld3
import Derived.Laws.Rows
import Derived.Lib.AppendStr
import Derived.ArgAppend
import Derived.Laws.IdiomCopy
import Derived.OrdersHeld
import Derived.Laws.BitsLemmas
import Derived.RowKit
import Derived.Shelf.Abstract
import Derived.Sort.OwnSortedInts
import Derived.Test.YtoaclbbkllpdaaaWWords
import Derived.Test.YtoaclbbkllpdaaaWLast
import Derived.Test.YtoaclbbkllpdaaaWTab
import Derived.Test.YtoaclbbkllpdaaaWQPut
import Derived.Test.YtoaclbbkllpdaaaWApart
import Derived.Test.YtoaclbbkllpdaaaWArr
import Derived.Test.YtoaclbbkllpdaaaWZeros
import Derived.Test.YtoaclbbkllpdaaaWFoot
import Derived.Test.YtoaclbbkllpdaaaWKept
import Derived.Test.YtoaclbbkllpdaaaWShare
import Derived.Test.YtoaclbbkllpdaaaWN
import Derived.Test.YtoaclbbkllpdaaaWRepsOne
import Derived.Test.YtoaclbbkllpdaaaWNEv
import Derived.Deep.Slices
import Derived.ChangeSame
import Derived.WideShapes
import Derived.ShutString
import Derived.OpenShut
/- Contracts of the library, laid at this translation (out of the kit's shelf, by its own commands, in plain words). -/
namespace Go.Proofs
open Go.Shelf
def Try.lays189_ren : Go.Shelf.Ren := ⟨fun | 189 => 30 | 125 => 47 | 257 => 46 | 128 => 66 | 129 => 67 | 294 => 57 | 295 => 58 | 296 => 59 | 297 => 60 | 298 => 61 | 299 => 62 | 216 => 63 | 300 => 64 | 301 => 65 | 328 => 69 | 329 => 70 | 330 => 71 | 331 => 72 | 332 => 73 | 215 => 74 | 343 => 75 | n => n, fun | 28 => 24 | 3 => 3 | 46 => 66 | 0 => 0 | 51 => 79 | 53 => 57 | 4 => 4 | 183 => 74 | 182 => 73 | 131 => 32 | 5 => 5 | 9 => 9 | 218 => 82 | 222 => 86 | 228 => 88 | 229 => 89 | n => n, fun | n => n⟩
theorem Try.lays189 : Go.Proofs.Lays.n189 Try.prog Try.lays189_ren := {
  mixed := by kernel_rfl
  f125 := Try.func47.trans (congrArg some (by kernel_rfl))
  f128 := Try.func66.trans (congrArg some (by kernel_rfl))
  f129 := Try.func67.trans (congrArg some (by kernel_rfl))
  f189 := Try.func30.trans (congrArg some (by kernel_rfl))
  f215 := Try.func74.trans (congrArg some (by kernel_rfl))
  f216 := Try.func63.trans (congrArg some (by kernel_rfl))
  f257 := Try.func46.trans (congrArg some (by kernel_rfl))
  f294 := Try.func57.trans (congrArg some (by kernel_rfl))
  f295 := Try.func58.trans (congrArg some (by kernel_rfl))
  f296 := Try.func59.trans (congrArg some (by kernel_rfl))
  f297 := Try.func60.trans (congrArg some (by kernel_rfl))
  f298 := Try.func61.trans (congrArg some (by kernel_rfl))
  f299 := Try.func62.trans (congrArg some (by kernel_rfl))
  f300 := Try.func64.trans (congrArg some (by kernel_rfl))
  f301 := Try.func65.trans (congrArg some (by kernel_rfl))
  f328 := Try.func69.trans (congrArg some (by kernel_rfl))
  f329 := Try.func70.trans (congrArg some (by kernel_rfl))
  f330 := Try.func71.trans (congrArg some (by kernel_rfl))
  f331 := Try.func72.trans (congrArg some (by kernel_rfl))
  f332 := Try.func73.trans (congrArg some (by kernel_rfl))
  f343 := Try.func75.trans (congrArg some (by kernel_rfl))
  t0 := Try.underlying0
  a0 := Try.isAgg0
  z0 := Try.sizeOf0
  v0 := Try.zeroValue0
  t3 := Try.underlying3
  a3 := Try.isAgg3
  z3 := Try.sizeOf3
  v3 := Try.zeroValue3
  t4 := Try.underlying4
  a4 := Try.isAgg4
  z4 := Try.sizeOf4
  v4 := Try.zeroValue4
  t5 := Try.underlying5
  a5 := Try.isAgg5
  z5 := Try.sizeOf5
  v5 := Try.zeroValue5
  t9 := Try.underlying9
  a9 := Try.isAgg9
  z9 := Try.sizeOf9
  v9 := Try.zeroValue9
  t28 := Try.underlying24
  a28 := Try.isAgg24
  z28 := Try.sizeOf24
  v28 := Try.zeroValue24
  t46 := Try.underlying66
  a46 := Try.isAgg66
  z46 := Try.sizeOf66
  v46 := Try.zeroValue66
  t51 := Try.underlying79
  a51 := Try.isAgg79
  z51 := Try.sizeOf79
  v51 := Try.zeroValue79
  t53 := Try.underlying57
  a53 := Try.isAgg57
  z53 := Try.sizeOf57
  v53 := Try.zeroValue57
  t131 := Try.underlying32
  a131 := Try.isAgg32
  z131 := Try.sizeOf32
  v131 := Try.zeroValue32
  t182 := Try.underlying73
  a182 := Try.isAgg73
  z182 := Try.sizeOf73
  v182 := Try.zeroValue73
  t183 := Try.underlying74
  a183 := Try.isAgg74
  z183 := Try.sizeOf74
  v183 := Try.zeroValue74
  t218 := Try.underlying82
  a218 := Try.isAgg82
  z218 := Try.sizeOf82
  v218 := Try.zeroValue82
  t222 := Try.underlying86
  a222 := Try.isAgg86
  z222 := Try.sizeOf86
  v222 := Try.zeroValue86
  t228 := Try.underlying88
  a228 := Try.isAgg88
  z228 := Try.sizeOf88
  v228 := Try.zeroValue88
  t229 := Try.underlying89
  a229 := Try.isAgg89
  z229 := Try.sizeOf89
  v229 := Try.zeroValue89 }
open Go.Sort Go.RowKit in
theorem Try.slices_Sort_int (blk off cap : Nat) (zs : List Int) (w : World) (hH : Holds (Value.int .i64) w blk off zs.toArray) (hblk : blk < w.heap.size) (hsz : zs.length < 4611686018427387904) :
    Calls Try.prog 30 #[.slice (some ⟨blk, off, none⟩) zs.length cap] w fun e w' =>
      e = .returned (.tuple #[]) ∧ ∃ n os, w' = grow (putRow (Value.int .i64) (Sort.ahead w n) blk off (zs.mergeSort fun x y => decide (x ≤ y)).toArray) os := Any.slices_Sort_int Try.lays189 blk off cap zs w hH hblk hsz
def Try.laysNm220_ren : Go.Shelf.Ren := ⟨fun | 20 => 32 | n => n, fun | 22 => 24 | 3 => 3 | 4 => 4 | 0 => 0 | n => n, fun | n => n⟩
theorem Try.laysNm220 : Go.Proofs.Lays2.n20 Try.prog Try.laysNm220_ren := {
  mixed := by kernel_rfl
  f20 := Try.func32.trans (congrArg some (by kernel_rfl))
  t0 := Try.underlying0
  a0 := Try.isAgg0
  z0 := Try.sizeOf0
  v0 := Try.zeroValue0
  t3 := Try.underlying3
  a3 := Try.isAgg3
  z3 := Try.sizeOf3
  v3 := Try.zeroValue3
  t4 := Try.underlying4
  a4 := Try.isAgg4
  z4 := Try.sizeOf4
  v4 := Try.zeroValue4
  t22 := Try.underlying24
  a22 := Try.isAgg24
  z22 := Try.sizeOf24
  v22 := Try.zeroValue24
  i3 := by kernel_rfl }
open Go.RowKit Go.Lib Go.Sort in
theorem Try.slices_Compact_int (blk off cap : Nat) (zs : List Int) (w : World) (hH : Holds (Value.int .i64) w blk off zs.toArray) (hsz : zs.length ≤ 9223372036854775807) (hcap : zs.length ≤ cap) :
    Calls Try.prog 32 #[.slice (some ⟨blk, off, none⟩) zs.length cap] w fun e w' => e = .returned (.slice (some ⟨blk, off, none⟩) (Lib.compact zs).length cap) ∧ ∃ q, w' = putRow (Value.int .i64) (Sort.ahead w q) blk off (Lib.compact zs ++ List.replicate (zs.length - (Lib.compact zs).length) 0).toArray := Any.slices_Compact_int Try.laysNm220 blk off cap zs w hH hsz hcap
end Go.Proofs
/- Plain words on lists that the hand-written contracts use: no program in sight. -/
namespace Go.Proofs.Ytoaclbbkllpdaaa.Gen
open Go.RowKit Go.Proofs.YtoaclbbkllpdaaaW.PrintWords
set_option linter.unusedVariables false
set_option linter.unusedSimpArgs false
section
variable {α : Type}
/-- The place of the first element of which p holds, or -1. -/
def fIdx (p : α → Bool) (l : List α) : Int := if l.any p then (l.findIdx p : Int) else -1

theorem fIdx_hit (p : α → Bool) (l : List α) (d : α) (k : Nat) (hk : k < l.length) (h : p (l.getD k d) = true) (hb : ∀ j, j < k → p (l.getD j d) = false) : fIdx p l = k := by
  have e : ∀ j (hj : j < l.length), l.getD j d = l[j] := fun j hj => by simp [List.getD, List.getElem?_eq_getElem hj]
  have ha : l.any p = true := List.any_eq_true.2 ⟨l[k], List.getElem_mem hk, by rw [← e k hk]; exact h⟩
  unfold fIdx
  rw [if_pos ha]
  congr 1
  rw [List.findIdx_eq hk]
  exact ⟨by rw [← e k hk]; exact h, fun j hj => by rw [← e j (by omega)]; exact hb j hj⟩

theorem fIdx_miss (p : α → Bool) (l : List α) (d : α) (hb : ∀ j, j < l.length → p (l.getD j d) = false) : fIdx p l = -1 := by
  unfold fIdx
  rw [if_neg]
  intro h
  obtain ⟨x, hx, hp⟩ := List.any_eq_true.1 h
  obtain ⟨j, hj, rfl⟩ := List.getElem_of_mem hx
  have := hb j hj
  rw [show l.getD j d = l[j] by simp [List.getD, List.getElem?_eq_getElem hj]] at this
  rw [this] at hp
  cases hp

theorem fIdx_nonneg (p : α → Bool) (l : List α) : decide (0 ≤ fIdx p l) = l.any p := by
  unfold fIdx
  cases h : l.any p <;> simp

theorem fIdx_bounds (p : α → Bool) (l : List α) : -1 ≤ fIdx p l ∧ fIdx p l < l.length := by
  unfold fIdx
  split
  · rename_i h
    have := List.findIdx_lt_length.2 (List.any_eq_true.1 h)
    omega
  · omega

theorem getD_lt (l : List α) (d : α) (j : Nat) (hj : j < l.length) : l.getD j d = l[j] := by simp [List.getD, List.getElem?_eq_getElem hj]
theorem getD_take (l : List α) (d : α) (j k : Nat) (hj : j < k) : (l.take k).getD j d = l.getD j d := by
  simp [List.getD, hj]
end

/-- A row cut at the front of a row. -/
theorem C_take {α : Type} {d : Kd α} {w : World} {A : Option Addr} {n k : Nat} {xs : List α} (h : Kd.C d w A n xs) (hk : k ≤ n) : Kd.C d w A k (xs.take k) := by
  obtain ⟨h1, h2, h3⟩ := h
  refine ⟨by simp; omega, by omega, fun h0 => ?_⟩
  obtain ⟨ad, e, hc⟩ := h3 (by omega)
  refine ⟨ad, e, fun j p hp => ?_⟩
  have hj : j < k := by
    have := (List.getElem?_eq_some_iff.1 hp).1
    simp at this
    omega
  rw [List.getElem?_take] at hp
  simp [hj] at hp
  exact hc j p hp

end Go.Proofs.Ytoaclbbkllpdaaa.Gen
/- Loops in plain words: a loop that counts up comes to what 'run' says of its round. -/
namespace Go.Proofs.Ytoaclbbkllpdaaa.Gen
open Go.RowKit Go.Proofs.YtoaclbbkllpdaaaW.PrintWords
set_option linter.unusedVariables false
set_option linter.unusedSimpArgs false

theorem Ev.unr {α : Type} {g : Nat → Option α} {r : α} (h : Ev (fun k => g (k + 1)) r) : Ev g r := Ev.step (fun _ => rfl) h
theorem Ev.eq_now {α : Type} {g : Nat → Option α} {r : α} (h : ∀ k, g k = some r) : Ev g r := ⟨0, fun k _ => h k⟩
theorem Ev.uniq {α : Type} {g : Nat → Option α} {r r' : α} (h : Ev g r) (h' : Ev g r') : r = r' := by
  obtain ⟨K, h⟩ := h
  obtain ⟨K', h'⟩ := h'
  have e := (h (max K K') (by omega)).symm.trans (h' (max K K') (by omega))
  exact Option.some.inj e

/-- What a loop comes to: from round i on, d rounds left, in state s. -/
def run {σ β : Type} (f : Nat → σ → β ⊕ σ) (e : σ → β) : Nat → Nat → σ → β
  | 0, _, s => e s
  | d + 1, i, s => match f i s with
    | .inl b => b
    | .inr s' => run f e d (i + 1) s'

theorem run_stop {σ β : Type} {f : Nat → σ → β ⊕ σ} {e : σ → β} {d i : Nat} {s : σ} {b : β} (h : f i s = .inl b) : run f e (d + 1) i s = b := by simp [run, h]
theorem run_go {σ β : Type} {f : Nat → σ → β ⊕ σ} {e : σ → β} {d i : Nat} {s s' : σ} (h : f i s = .inr s') : run f e (d + 1) i s = run f e d (i + 1) s' := by simp [run, h]

theorem inl_of {β σ : Type} {c : Bool} {x b : β} {y : σ} (h : (if c = true then (.inl x : β ⊕ σ) else .inr y) = .inl b) : c = true ∧ x = b := by
  cases c
  · cases h
  · exact ⟨rfl, Sum.inl.inj h⟩
theorem inr_of {β σ : Type} {c : Bool} {x : β} {y s : σ} (h : (if c = true then (.inl x : β ⊕ σ) else .inr y) = .inr s) : c = false ∧ y = s := by
  cases c
  · exact ⟨rfl, Sum.inr.inj h⟩
  · cases h
/-- A loop with a counter of Go's int from i up to n. -/
theorem ev_run {σ β : Type} (g : Nat → σ → Int → Option β) (n : Nat) (f : Nat → σ → β ⊕ σ) (e : σ → β) (Inv : Nat → σ → Prop)
    (stop : ∀ i s b, i < n → Inv i s → f i s = .inl b → Ev (fun k => g (k + 1) s (i : Int)) b)
    (goon : ∀ i s s' r, i < n → Inv i s → f i s = .inr s' → Inv (i + 1) s' ∧ (Ev (fun k => g k s' ((i + 1 : Nat) : Int)) r → Ev (fun k => g (k + 1) s (i : Int)) r))
    (fin : ∀ s, Inv n s → Ev (fun k => g (k + 1) s (n : Int)) (e s)) :
    ∀ d i s, i + d = n → Inv i s → Ev (fun k => g k s (i : Int)) (run f e d i s) := by
  intro d
  induction d with
  | zero =>
    intro i s hi hs
    obtain rfl : i = n := by omega
    exact Ev.unr (fin s hs)
  | succ d ih =>
    intro i s hi hs
    cases h : f i s with
    | inl b => rw [run_stop h]; exact Ev.unr (stop i s b (by omega) hs h)
    | inr s' =>
      rw [run_go h]
      obtain ⟨h1, h2⟩ := goon i s s' (run f e d (i + 1) s') (by omega) hs h
      exact Ev.unr (h2 (ih (i + 1) s' (by omega) h1))

theorem run_congr {σ β : Type} {f f' : Nat → σ → β ⊕ σ} {e e' : σ → β} {n : Nat} (hf : ∀ i s, i < n → f i s = f' i s) (he : ∀ s, e s = e' s) : ∀ d i s, i + d = n → run f e d i s = run f' e' d i s := by
  intro d
  induction d with
  | zero => intro i s _; exact he s
  | succ d ih =>
    intro i s hi
    have h := hf i s (by omega)
    cases h' : f' i s with
    | inl b => rw [run_stop (h.trans h'), run_stop h']
    | inr s' => rw [run_go (h.trans h'), run_go h']; exact ih (i + 1) s' (by omega)

/-- A property that every round keeps, and that the ends have. -/
theorem run_inv {σ β : Type} {f : Nat → σ → β ⊕ σ} {e : σ → β} {n : Nat} (Inv : Nat → σ → Prop) (Q : β → Prop) (h1 : ∀ i s b, i < n → Inv i s → f i s = .inl b → Q b) (h2 : ∀ i s s', i < n → Inv i s → f i s = .inr s' → Inv (i + 1) s')
    (h3 : ∀ s, Inv n s → Q (e s)) : ∀ d i s, i + d = n → Inv i s → Q (run f e d i s) := by
  intro d
  induction d with
  | zero =>
    intro i s hi hs
    have hi' : i = n := by omega
    subst hi'
    exact h3 s hs
  | succ d ih =>
    intro i s hi hs
    cases h : f i s with
    | inl b => rw [run_stop h]; exact h1 i s b (by omega) hs h
    | inr s' => rw [run_go h]; exact ih (i + 1) s' (by omega) (h2 i s s' (by omega) hs h)

/-- A loop without a state that says no at the first round that fails. -/
theorem run_all {β : Type} (P : Nat → Bool) (no yes : β) (n : Nat) : ∀ d i, i + d = n → run (fun j (_ : Unit) => if P j = true then .inr () else .inl no) (fun _ => yes) d i () = if (∀ j, j < n → i ≤ j → P j = true) then yes else no := by
  intro d
  induction d with
  | zero =>
    intro i hi
    rw [if_pos (fun j hj hij => absurd hj (by omega))]
    rfl
  | succ d ih =>
    intro i hi
    by_cases h : P i = true
    · rw [run_go (s' := ()) (by simp [h]), ih (i + 1) (by omega)]
      by_cases ha : ∀ j, j < n → i + 1 ≤ j → P j = true
      · rw [if_pos ha, if_pos]
        intro j hj hij
        by_cases e : j = i
        · rw [e]; exact h
        · exact ha j hj (by omega)
      · rw [if_neg ha, if_neg]
        intro hb
        exact ha (fun j hj hij => hb j hj (by omega))
    · rw [run_stop (b := no) (by simp [h]), if_neg]
      intro hb
      exact h (hb i (by omega) (Nat.le_refl _))

/-- A loop that ends at the first element of which p holds. -/
theorem run_find {α β : Type} (l : List α) (z : α) (p : α → Bool) (g : α → β) (e : β) : ∀ d i, i + d = l.length → run (fun i (_ : Unit) => if p (l.getD i z) = true then .inl (g (l.getD i z)) else .inr ()) (fun _ => e) d i () = ((l.drop i).find? p).elim e g := by
  intro d
  induction d with
  | zero =>
    intro i hi
    rw [List.drop_eq_nil_of_le (by omega)]
    rfl
  | succ d ih =>
    intro i hi
    rw [List.drop_eq_getElem_cons (by omega), List.find?_cons, ← getD_lt l z i (by omega)]
    cases h : p (l.getD i z) with
    | true => rw [run_stop (b := g (l.getD i z)) (by rw [if_pos h])]; rfl
    | false => rw [run_go (s' := ()) (by rw [if_neg (by rw [h]; simp)]), ih (i + 1) (by omega)]

theorem run_map {σ β : Type} (g : σ → β) (f : Nat → σ → σ) : ∀ d i s, run (fun i s => (.inr (f i s) : β ⊕ σ)) g d i s = g (run (fun i s => (.inr (f i s) : σ ⊕ σ)) (fun s => s) d i s) := by
  intro d
  induction d with
  | zero => intro i s; rfl
  | succ d ih => intro i s; exact ih (i + 1) (f i s)

theorem wrapS (i : Nat) (h : i < 4611686018427387904) : wrap64 ((i : Int) + 1) = ((i + 1 : Nat) : Int) := by unfold wrap64; omega
theorem wrapS' (i : Int) (h0 : 0 ≤ i) (h : i < 4611686018427387904) : wrap64 (i + 1) = i + 1 := by unfold wrap64; omega
theorem wrapP (i : Nat) (h0 : 0 < i) (h : i < 4611686018427387904) : wrap64 ((i : Int) - 1) = ((i - 1 : Nat) : Int) := by unfold wrap64; omega

/-- The numbers m, m + 1, .. -/
def marks (m : Int) (n : Nat) : List Int := (List.range n).map fun (j : Nat) => m + (j : Int)
theorem marks_length (m : Int) (n : Nat) : (marks m n).length = n := by simp [marks]
theorem marks_get (m : Int) (n j : Nat) (h : j < n) : (marks m n).getD j 0 = m + (j : Int) := by simp [marks, h]

end Go.Proofs.Ytoaclbbkllpdaaa.Gen
namespace Go.Proofs.Ytoaclbbkllpdaaa.Q
open Go.RowKit Go.Proofs.YtoaclbbkllpdaaaW.PrintWords Go.Proofs.YtoaclbbkllpdaaaW.PrintLast Go.Proofs.YtoaclbbkllpdaaaW.PrintMore
attribute [local go_sem] max2_int min2_int max_two min_two max_three min_three max_four min_four   -- for this text's walks alone
set_option linter.unusedVariables false
set_option linter.unusedSimpArgs false



def errW : Option Int → Value
 | none => .nilIface
 | some c => .iface 0 (.int .i64 c)
theorem errW_none : errW none = .nilIface := rfl
theorem errW_some (c : Int) : errW (some c) = .iface 0 (.int .i64 c) := rfl

theorem info3 : (Try.prog.info? 3).map (fun i => (i.zero, i.size, i.bytes)) = some (some (.int .i64 0), 1, 8) := by kernel_rfl
theorem info24 : (Try.prog.info? 24).map (fun i => (i.zero, i.size, i.bytes)) = some (some (.slice none 0 0), 1, 24) := by kernel_rfl
-- the values' own types
def rd_L2 (xs : List (List Int)) (i : Int) : (List Int) := xs.getD i.toNat ([] : List Int)
theorem at_L2 {w : World} {A : Option Addr} {n : Nat} {xs : List (List Int)} (h : Kd.C (Kd.slice 3 (Kd.int .i64)) w A n xs) (i : Int) (h0 : 0 ≤ i) (h1 : i < n) : ∃ ad A0 c0, A = some ad ∧ w.cell? (ad.add i.toNat) = some (.slice A0 (rd_L2 xs i).length c0) ∧ (rd_L2 xs i).length ≤ c0 ∧ (Kd.int .i64).C w A0 (rd_L2 xs i).length (rd_L2 xs i) := by
 obtain ⟨ad, c, e, _, hK, hc0⟩ := Kd.C_get h ([] : List Int) i h0 h1
 have hc : ∀ j u, c[j]? = some u → w.cell? (ad.add (i.toNat * 1 + j)) = some u := hc0
 obtain ⟨A0, c0, rfl, l0, g0⟩ := hK
 exact ⟨ad, A0, c0, e, by have hq := hc 0 _ rfl; rwa [Nat.mul_one, Nat.add_zero] at hq, l0, g0⟩

/-! #### struct type 26 -/
structure S26 where
 f0 : Int
 f1 : Int
 f2 : (List Int)
def z26 : S26 := ⟨(0 : Int), (0 : Int), ([] : List Int)⟩
def k26 : Kd S26 := Kd.iso (Kd.pair (Kd.int .i64) (Kd.pair (Kd.int .i64) (Kd.slice 3 (Kd.int .i64)))) (fun x : S26 => (x.f0, x.f1, x.f2))
theorem k26_open {w : World} {x : S26} {cs : List Value} (h : k26.K w x cs) : ∃ A2 c2, cs = [.int .i64 x.f0, .int .i64 x.f1, .slice A2 x.f2.length c2] ∧ x.f2.length ≤ c2 ∧ (Kd.int .i64).C w A2 x.f2.length x.f2 := by
 obtain ⟨_, _, rfl, rfl, ⟨_, _, rfl, rfl, ⟨A2, c2, rfl, l2, g2⟩⟩⟩ := h
 exact ⟨A2, c2, rfl, l2, g2⟩
theorem k26_openM {w : World} {base : Nat} {ok : Nat → Prop} {x : S26} {cs : List Value} (h : k26.M w base ok x cs) : ∃ v2, cs = [.int .i64 x.f0, .int .i64 x.f1, v2] ∧ (Kd.int .i64).R 3 w base ok v2 x.f2 := by
 obtain ⟨_, _, rfl, rfl, ⟨_, _, rfl, rfl, ⟨v2, rfl, g2⟩⟩⟩ := h
 exact ⟨v2, rfl, g2⟩
theorem k26_mk (w : World) (x : S26) {A2 : Option Addr} {c2 : Nat} (l2 : x.f2.length ≤ c2) (g2 : (Kd.int .i64).C w A2 x.f2.length x.f2) : k26.K w x [.int .i64 x.f0, .int .i64 x.f1, .slice A2 x.f2.length c2] := ⟨[.int .i64 x.f0], [.int .i64 x.f1, .slice A2 x.f2.length c2], rfl, rfl, ⟨[.int .i64 x.f1], [.slice A2 x.f2.length c2], rfl, rfl, ⟨A2, c2, rfl, l2, g2⟩⟩⟩
theorem k26_mkM (w : World) (base : Nat) (ok : Nat → Prop) (x : S26) {v2 : Value} (g2 : (Kd.int .i64).R 3 w base ok v2 x.f2) : k26.M w base ok x [.int .i64 x.f0, .int .i64 x.f1, v2] := ⟨[.int .i64 x.f0], [.int .i64 x.f1, v2], rfl, rfl, ⟨[.int .i64 x.f1], [v2], rfl, rfl, ⟨v2, rfl, g2⟩⟩⟩
def rd_T26 (xs : List S26) (i : Int) : S26 := xs.getD i.toNat z26
theorem at_T26 {w : World} {A : Option Addr} {n : Nat} {xs : List S26} (h : Kd.C k26 w A n xs) (i : Int) (h0 : 0 ≤ i) (h1 : i < n) : ∃ ad A2 c2, A = some ad ∧ w.cell? (ad.add (i.toNat * 3)) = some (.int .i64 (rd_T26 xs i).f0) ∧ w.cell? ⟨(ad.add (i.toNat * 3)).block, (ad.add (i.toNat * 3)).off + 1, none⟩ = some (.int .i64 (rd_T26 xs i).f1) ∧ w.cell? ⟨(ad.add (i.toNat * 3)).block, (ad.add (i.toNat * 3)).off + 2, none⟩ = some (.slice A2 (rd_T26 xs i).f2.length c2) ∧ (rd_T26 xs i).f2.length ≤ c2 ∧ (Kd.int .i64).C w A2 (rd_T26 xs i).f2.length (rd_T26 xs i).f2 := by
 obtain ⟨ad, c, e, _, hK, hc0⟩ := Kd.C_get h z26 i h0 h1
 have hc : ∀ j u, c[j]? = some u → w.cell? (ad.add (i.toNat * 3 + j)) = some u := hc0
 obtain ⟨A2, c2, rfl, l2, g2⟩ := k26_open hK
 exact ⟨ad, A2, c2, e, hc 0 _ rfl, by rw [← add_field _ _ 1 (by omega)]; exact hc 1 _ rfl, by rw [← add_field _ _ 2 (by omega)]; exact hc 2 _ rfl, l2, g2⟩

def rd_L5 (xs : List (List (List Int))) (i : Int) : (List (List Int)) := xs.getD i.toNat ([] : List (List Int))
theorem at_L5 {w : World} {A : Option Addr} {n : Nat} {xs : List (List (List Int))} (h : Kd.C (Kd.slice 24 (Kd.slice 3 (Kd.int .i64))) w A n xs) (i : Int) (h0 : 0 ≤ i) (h1 : i < n) : ∃ ad A0 c0, A = some ad ∧ w.cell? (ad.add i.toNat) = some (.slice A0 (rd_L5 xs i).length c0) ∧ (rd_L5 xs i).length ≤ c0 ∧ (Kd.slice 3 (Kd.int .i64)).C w A0 (rd_L5 xs i).length (rd_L5 xs i) := by
 obtain ⟨ad, c, e, _, hK, hc0⟩ := Kd.C_get h ([] : List (List Int)) i h0 h1
 have hc : ∀ j u, c[j]? = some u → w.cell? (ad.add (i.toNat * 1 + j)) = some u := hc0
 obtain ⟨A0, c0, rfl, l0, g0⟩ := hK
 exact ⟨ad, A0, c0, e, by have hq := hc 0 _ rfl; rwa [Nat.mul_one, Nat.add_zero] at hq, l0, g0⟩

def rd_L6 (xs : List (List Int)) (i : Int) : (List Int) := xs.getD i.toNat ([] : List Int)
theorem at_L6 {w : World} {A : Option Addr} {n : Nat} {xs : List (List Int)} (h : Kd.C (Kd.slice 5 (Kd.int .u8)) w A n xs) (i : Int) (h0 : 0 ≤ i) (h1 : i < n) : ∃ ad A0 c0, A = some ad ∧ w.cell? (ad.add i.toNat) = some (.slice A0 (rd_L6 xs i).length c0) ∧ (rd_L6 xs i).length ≤ c0 ∧ (Kd.int .u8).C w A0 (rd_L6 xs i).length (rd_L6 xs i) := by
 obtain ⟨ad, c, e, _, hK, hc0⟩ := Kd.C_get h ([] : List Int) i h0 h1
 have hc : ∀ j u, c[j]? = some u → w.cell? (ad.add (i.toNat * 1 + j)) = some u := hc0
 obtain ⟨A0, c0, rfl, l0, g0⟩ := hK
 exact ⟨ad, A0, c0, e, by have hq := hc 0 _ rfl; rwa [Nat.mul_one, Nat.add_zero] at hq, l0, g0⟩

end Go.Proofs.Ytoaclbbkllpdaaa.Q
/- From a reading of an argument as data to what a kind tells of its cells: for whole numbers, bools, strings, slices and structs of these. -/
namespace Go.Proofs.Ytoaclbbkllpdaaa.Tells
open Go.RowKit Go.ChangeShapes Go.WideShapes Go.Deep Go.Proofs.YtoaclbbkllpdaaaW.PrintWords
set_option linter.unusedVariables false
set_option linter.unusedSimpArgs false

/-- What reads as data at type t is told by kind d; and G holds. -/
def Tells {α : Type} (P : Program) (d : Kd α) (t : TypeId) (G : α → Prop) : Prop :=
  ∀ (H : Type) (enc : TypeId × Value → H) (w : World) (base : Nat) (spare : Nat → Bool) (held : Bool) (fuel : Nat) (cs : List Value) (x : DataW H × List MemPlace),
    DataW.trod enc P w base spare held fuel t cs = some x → ∃ a, d.K w a cs ∧ G a

variable {P : Program} {t e : TypeId}

theorem tells_int {k : IntKind} (ht : P.underlying t = some (.int k)) : Tells P (Kd.int k) t (fun n => (Lit.int k n).wf = true) := by
  intro H enc w base spare held fuel cs x h
  obtain ⟨n, rfl, _, hw⟩ := DataW.trod_int ht h
  exact ⟨n, rfl, hw⟩

theorem tells_string (ht : P.underlying t = some .string) : Tells P Kd.string t (fun s => s.size ≤ maxLen) := by
  intro H enc w base spare held fuel cs x h
  obtain ⟨s, rfl, _, hw⟩ := DataW.trod_string ht h
  exact ⟨s, rfl, hw⟩

theorem tells_bool (ht : P.underlying t = some .bool) : Tells P Kd.bool t (fun _ => True) := by
  intro H enc w base spare held fuel cs x h
  obtain ⟨s, rfl, _⟩ := DataW.trod_bool ht h
  exact ⟨s, rfl, trivial⟩

theorem tells_slice {α : Type} {d : Kd α} {G : α → Prop} (ht : P.underlying t = some (.slice e)) (hc : P.cellsOf e = d.sz) (hd : Tells P d e G) :
    Tells P (Kd.slice e d) t (fun l => l.length ≤ maxLen ∧ ∀ x ∈ l, G x) := by
  intro H enc w base spare held fuel cs x h
  rcases open_slice ht h with ⟨rfl, _⟩ | ⟨a, len, cap, m, n, D, Pl, rfl, hb, hl, hm, hmm, _, hi⟩
  · exact ⟨[], ⟨none, 0, rfl, Nat.le_refl _, rfl, by simp, fun h => absurd h (by simp)⟩, by simp, by simp⟩
  · have hlm : len ≤ m := by rw [hmm]; split <;> omega
    have hx : ∀ i, i < len → ∃ (p : α) , G p ∧ ∃ c : List Value, c.length = d.sz ∧ d.K w p c ∧ ∀ j u, c[j]? = some u → w.cell? (a.add (i * d.sz + j)) = some u := by
      intro i him
      obtain ⟨cs', hc', htr⟩ := hi i (by omega)
      obtain ⟨p, hK, hG⟩ := hd H enc w base spare held n cs' _ htr
      obtain ⟨_, hcl, hat⟩ := World.cells?_some hc'
      rw [hc] at hcl hat hc'
      refine ⟨p, hG, cs', hcl, hK, fun j u hu => ?_⟩
      have hjl : j < d.sz := by
        have := (List.getElem?_eq_some_iff.1 hu).1
        omega
      rw [← Go.Deep.add_add, hat j hjl, hu]
    by_cases h0 : len = 0
    · subst h0
      exact ⟨[], ⟨some a, cap, rfl, Nat.zero_le _, rfl, by simp, fun h => absurd h (by simp)⟩, by simp, by simp⟩
    · obtain ⟨p0, _⟩ := hx 0 (by omega)
      have : Inhabited α := ⟨p0⟩
      obtain ⟨f, hf⟩ := choose_lt (n := len) hx
      refine ⟨(List.range len).map f, ⟨some a, cap, by simp, by simpa using hl, by simp, by rw [List.length_map, List.length_range]; unfold maxLen at hm; omega, fun _ => ⟨a, rfl, fun j p hj => ?_⟩⟩, by simp; omega, ?_⟩
      · have hjl : j < len := by
          have := (List.getElem?_eq_some_iff.1 hj).1
          simpa using this
        simp [hjl] at hj
        subst hj
        obtain ⟨_, c, h1, h2, h3⟩ := hf j hjl
        exact ⟨c, h1, h2, h3⟩
      · intro x hx'
        obtain ⟨j, hj, rfl⟩ := List.mem_map.1 hx'
        exact (hf j (List.mem_range.1 hj)).1

/-- A number of Go's int. -/
def I64 (n : Int) : Prop := -9223372036854775808 ≤ n ∧ n ≤ 9223372036854775807
theorem tells_i64 (ht : P.underlying t = some (.int .i64)) : Tells P (Kd.int .i64) t I64 := by
  intro H enc w base spare held fuel cs x h
  obtain ⟨n, hK, hw⟩ := tells_int ht H enc w base spare held fuel cs x h
  exact ⟨n, hK, bounds_i64 hw⟩
theorem tells_u8 (ht : P.underlying t = some (.int .u8)) : Tells P (Kd.int .u8) t (fun n => 0 ≤ n ∧ n ≤ 255) := by
  intro H enc w base spare held fuel cs x h
  obtain ⟨n, hK, hw⟩ := tells_int ht H enc w base spare held fuel cs x h
  exact ⟨n, hK, bounds_u8 hw⟩

/-- The fields of a struct from a cell on. -/
def TellsAt {α : Type} (P : Program) (fs : List Field) (o : Nat) (d : Kd α) (G : α → Prop) : Prop :=
  ∀ (H : Type) (enc : TypeId × Value → H) (w : World) (base : Nat) (spare : Nat → Bool) (held : Bool) (n : Nat) (cs : List Value),
    cs.length = o + d.sz → (∀ f ∈ fs, ∃ y, DataW.trod enc P w base spare held n f.type ((cs.drop f.offset).take (P.cellsOf f.type)) = some y) → ∃ a, d.K w a (cs.drop o) ∧ G a

theorem tellsAt_one {α : Type} {d : Kd α} {G : α → Prop} {f : Field} {o : Nat} (ho : f.offset = o) (hc : P.cellsOf f.type = d.sz) (hd : Tells P d f.type G) : TellsAt P [f] o d G := by
  intro H enc w base spare held n cs hl h
  obtain ⟨y, hy⟩ := h f List.mem_cons_self
  rw [ho, hc, List.take_of_length_le (by rw [List.length_drop]; omega)] at hy
  exact hd H enc w base spare held n _ _ hy

theorem tellsAt_cons {α β : Type} {d : Kd α} {b : Kd β} {G : α → Prop} {G' : β → Prop} {f : Field} {fs : List Field} {o o' : Nat} (ho : f.offset = o) (ho' : o' = o + d.sz) (hc : P.cellsOf f.type = d.sz) (hd : Tells P d f.type G)
    (hr : TellsAt P fs o' b G') : TellsAt P (f :: fs) o (Kd.pair d b) (fun p => G p.1 ∧ G' p.2) := by
  intro H enc w base spare held n cs hl h
  subst ho'
  obtain ⟨y, hy⟩ := h f List.mem_cons_self
  rw [ho, hc] at hy
  obtain ⟨a, hK, hG⟩ := hd H enc w base spare held n _ _ hy
  have hsz : (Kd.pair d b).sz = d.sz + b.sz := rfl
  obtain ⟨a', hK', hG'⟩ := hr H enc w base spare held n cs (by omega) (fun g hg => h g (List.mem_cons_of_mem _ hg))
  refine ⟨(a, a'), ⟨_, _, ?_, hK, hK'⟩, hG, hG'⟩
  rw [← List.drop_drop, List.take_append_drop]

theorem tells_struct {α β : Type} {d : Kd α} {G : α → Prop} {fs : Array Field} (ht : P.underlying t = some (.struct fs)) (hc : P.cellsOf t = d.sz) (hd : TellsAt P fs.toList 0 d G) (f : β → α) (g : α → β) (hfg : ∀ a, f (g a) = a) :
    Tells P (Kd.iso d f) t (fun b => G (f b)) := by
  intro H enc w base spare held fuel cs x h
  obtain ⟨xs, n, _, rfl, hl, hlen, hf⟩ := DataW.trod_struct ht h
  obtain ⟨a, hK, hG⟩ := hd H enc w base spare held n cs (by omega) (fun q hq => by
    obtain ⟨i, hi⟩ := List.mem_iff_getElem?.1 hq
    have hi' : fs[i]? = some q := by rw [← hi, Array.getElem?_toList]
    have h1 := hf i q hi'
    have hil : i < xs.length := by
      have := (Array.getElem?_eq_some_iff.1 hi').1
      omega
    rw [List.getElem?_eq_getElem hil] at h1
    exact ⟨_, h1⟩)
  refine ⟨g a, ?_, ?_⟩
  · show d.K w (f (g a)) cs
    rw [hfg]
    simpa using hK
  · show G (f (g a))
    rw [hfg]; exact hG

/-- A slice argument. -/
theorem arg_slice {α : Type} {d : Kd α} {G : α → Prop} {H : Type} {enc : TypeId × Value → H} {w : World} {base : Nat} {spare : Nat → Bool} {held : Bool} {a : Option Addr} {len cap : Nat} {D : DataW H} {ps : List MemPlace}
    (hd : Tells P (Kd.slice e d) t (fun l => l.length ≤ maxLen ∧ ∀ x ∈ l, G x)) (h : DataW.Trod enc P w base spare held t (.slice a len cap) D ps) :
    ∃ l : List α, len = l.length ∧ Kd.C d w a l.length l ∧ l.length ≤ cap ∧ l.length ≤ maxLen ∧ ∀ x ∈ l, G x := by
  obtain ⟨fuel, hf⟩ := h
  obtain ⟨l, ⟨A, c, he, hle, hC⟩, hl, hG⟩ := hd H enc w base spare held fuel _ _ hf
  simp [Value.cells] at he
  obtain ⟨rfl, rfl, rfl⟩ := he
  exact ⟨l, rfl, hC, hle, hl, hG⟩

/-- A struct argument: its cells. -/
theorem arg_struct {α : Type} {d : Kd α} {G : α → Prop} {H : Type} {enc : TypeId × Value → H} {w : World} {base b0 : Nat} {r : Reach} {spare : Nat → Bool} {held : Bool} {v : Value} {D : DataW H} {ps : List MemPlace} {fs : Array Field}
    (hs : P.underlying t = some (.struct fs)) (hv : Value.okWide P w r b0 t v) (hd : Tells P d t G) (h : DataW.Trod enc P w base spare held t v D ps) :
    ∃ (x : α) (cs : List Value), v = .agg cs.toArray ∧ d.K w x cs ∧ G x := by
  obtain ⟨cs, rfl, hsz⟩ := okWide_struct hs hv
  obtain ⟨fuel, hf⟩ := h
  obtain ⟨x, hK, hG⟩ := hd H enc w base spare held fuel _ _ hf
  exact ⟨x, cs.toList, by simp, by simpa [Value.cells] using hK, hG⟩

end Go.Proofs.Ytoaclbbkllpdaaa.Tells
/- What the types of the laws' arguments tell of their cells. -/
namespace Go.Proofs.Ytoaclbbkllpdaaa.Q
open Go.RowKit Go.Proofs.YtoaclbbkllpdaaaW.PrintWords Go.Proofs.Ytoaclbbkllpdaaa.Tells
end Go.Proofs.Ytoaclbbkllpdaaa.Q
namespace Go.Proofs.Ytoaclbbkllpdaaa.Q
open Go.RowKit Go.Proofs.YtoaclbbkllpdaaaW.PrintWords Go.Proofs.YtoaclbbkllpdaaaW.PrintLast Go.Proofs.YtoaclbbkllpdaaaW.PrintMore
attribute [local go_sem] max2_int min2_int max_two min_two max_three min_three max_four min_four   -- for this text's walks alone
set_option linter.unusedVariables false
set_option linter.unusedSimpArgs false

/-! ### laws_rBig: function 4 -/
def laws_rBig.f (l0 : List Int) : Option (Bool) := some (decide ((l0.length : Int) > 65536))
set_option maxHeartbeats 8000000 in
set_option maxRecDepth 100000 in
theorem laws_rBig.calls (A0 : Option Addr) (c0 : Nat) (l0 : List Int) (r : Bool) (w : World) (hr0 : Kd.C (Kd.int .u8) w A0 l0.length l0) (hc0 : l0.length ≤ c0) (h : laws_rBig.f l0 = some r) :
  Calls Try.prog 4 #[.slice A0 l0.length c0] w fun e w' => e = .returned (.bool r) ∧ Drawn0 w w' := by
 have HR0 := Aside0.mk hr0
 have HC0 := Aside0.mk hc0
 clear hr0 hc0
 have H : (some (decide ((l0.length : Int) > 65536))) = some r := h
 clear h
 obtain rfl := Option.some.inj H
 go_enter Try.func4, Try.ntmps4
 go_wp2
 go_ret
 exact ⟨by first | rfl | (simp; done) | (simp [*]; done), zq23⟩

/-- A state of type 59 at block g of W; what its slices lead to came in by w0. -/
def IsS59 (w0 W : World) (g : Nat) (f0 : List Int) (f1 : Int) (f2 : Int) : Prop := ∃ A0 c0, W.heap[g]? = some (.cells #[.slice A0 f0.length c0, .int .i64 f1, .int .u64 f2] 59 (0, 0)) ∧ w0.heap.size ≤ g ∧ Kd.C (Kd.int .u8) w0 A0 f0.length f0
theorem IsS59.grown {w0 W : World} {g : Nat} {f0 : List Int} {f1 : Int} {f2 : Int} {W1 : World} {row : Option Nat} (h : IsS59 w0 W g f0 f1 f2) (hw : W.grownBy W1 row) (hne : some g ≠ row) : IsS59 w0 W1 g f0 f1 f2 := by
 obtain ⟨A0, c0, hb, hg, hr0⟩ := h
 exact ⟨A0, c0, blk_grown hb hw hne, hg, hr0⟩
theorem IsS59.own_neN {w0 W : World} {g : Nat} {f0 : List Int} {f1 : Int} {f2 : Int} {α : Type} {d : Kd α} {e : Nat} {base : Nat} {ok : Nat → Prop} {v : Value} {xs : List α} (h : IsS59 w0 W g f0 f1 f2) (ho : Kd.N d e W base ok v xs) (ht : e ≠ 59) : some g ≠ v.ownBlock := by
 obtain ⟨A0, c0, hb, hg, hr0⟩ := h
 exact Kd.N_ne ho hb ht
theorem IsS59.fresh {w0 W : World} {g : Nat} {f0 : List Int} {f1 : Int} {f2 : Int} (h : IsS59 w0 W g f0 f1 f2) : ∀ k, W.heap.size ≤ k → k ≠ g := by
 obtain ⟨A0, c0, hb, hg, hr0⟩ := h
 exact Kd.freshB hb
theorem IsS59.kept {w0 W : World} {g : Nat} {f0 : List Int} {f1 : Int} {f2 : Int} {W1 : World} {S : Nat → Prop} (h : IsS59 w0 W g f0 f1 f2) (hk : Kept W W1 S) (hne : ¬ S g) : IsS59 w0 W1 g f0 f1 f2 := by
 obtain ⟨A0, c0, hb, hg, hr0⟩ := h
 exact ⟨A0, c0, blk_kept hb hk hne, hg, hr0⟩
theorem IsS59.below {w0 W : World} {g : Nat} {f0 : List Int} {f1 : Int} {f2 : Int} {W1 : World} (h : IsS59 w0 W g f0 f1 f2) (hw : Below W.heap.size W W1) : IsS59 w0 W1 g f0 f1 f2 := h.grown (grown_of_below hw none) (by simp)
theorem IsS59.alloc {w0 W : World} {g : Nat} {f0 : List Int} {f1 : Int} {f2 : Int} (h : IsS59 w0 W g f0 f1 f2) (o : Obj) : IsS59 w0 (W.alloc o) g f0 f1 f2 := h.below (below_alloc (Below.refl _ _) o)
theorem IsS59.drewN {w0 W : World} {g : Nat} {f0 : List Int} {f1 : Int} {f2 : Int} (h : IsS59 w0 W g f0 f1 f2) (m : Nat) : IsS59 w0 (W.drewN m) g f0 f1 f2 := h
theorem IsS59.drew {w0 W : World} {g : Nat} {f0 : List Int} {f1 : Int} {f2 : Int} (h : IsS59 w0 W g f0 f1 f2) : IsS59 w0 W.drew g f0 f1 f2 := h
theorem IsS59.at_ {w0 W : World} {g : Nat} {f0 : List Int} {f1 : Int} {f2 : Int} {w' : World} {m : Nat} (hq : W.drewN m = w') (h : IsS59 w0 W g f0 f1 f2) : IsS59 w0 w' g f0 f1 f2 := by subst hq; exact IsS59.drewN h m
theorem IsS59.apart {w0 W : World} {g : Nat} {f0 : List Int} {f1 : Int} {f2 : Int} {α : Type} {d : Kd α} {e : Nat} {base : Nat} {ok : Nat → Prop} {v : Value} {xs : List α} (h : IsS59 w0 W g f0 f1 f2) (ho : d.R e W base ok v xs) (ht : ∀ q, q ∈ e :: d.E → q ≠ 59) : d.R e W base (fun k => ok k ∧ k ≠ g) v xs := by
 obtain ⟨A0, c0, hb, hg, hr0⟩ := h
 exact Kd.R_types ho hb ht
theorem IsS59.own_ne {w0 W : World} {g : Nat} {f0 : List Int} {f1 : Int} {f2 : Int} {α : Type} {d : Kd α} {e : Nat} {base : Nat} {ok : Nat → Prop} {v : Value} {xs : List α} (h : IsS59 w0 W g f0 f1 f2) (ho : d.R e W base ok v xs) (ht : e ≠ 59) : some g ≠ v.ownBlock := by
 obtain ⟨A0, c0, hb, hg, hr0⟩ := h
 exact Kd.R_ne ho hb ht
theorem IsS59.apartQ {w0 W : World} {g : Nat} {f0 : List Int} {f1 : Int} {f2 : Int} {α : Type} {d : Kd α} {e : Nat} {base : Nat} {ok : Nat → Prop} {v : Value} {xs : List α} (h : IsS59 w0 W g f0 f1 f2) (ho : d.Q e W base ok v xs) (ht : ∀ q, q ∈ e :: d.E → q ≠ 59) : d.Q e W base (fun k => ok k ∧ k ≠ g) v xs := by
 obtain ⟨A0, c0, hb, hg, hr0⟩ := h
 exact Kd.Q_types ho hb ht
theorem IsS59.own_neQ {w0 W : World} {g : Nat} {f0 : List Int} {f1 : Int} {f2 : Int} {α : Type} {d : Kd α} {e : Nat} {base : Nat} {ok : Nat → Prop} {v : Value} {xs : List α} (h : IsS59 w0 W g f0 f1 f2) (ho : d.Q e W base ok v xs) (ht : e ≠ 59) : some g ≠ v.ownBlock := by
 obtain ⟨A0, c0, hb, hg, hr0⟩ := h
 exact Kd.Q_ne ho hb ht
theorem IsS59.apartS {w0 W : World} {g : Nat} {f0 : List Int} {f1 : Int} {f2 : Int} {α : Type} {d : Kd α} {e : Nat} {base : Nat} {ok : Nat → Prop} {v : Value} {xs : List α} (h : IsS59 w0 W g f0 f1 f2) (ho : d.S e W base ok v xs) (ht : ∀ q, q ∈ e :: d.E → q ≠ 59) : d.S e W base (fun k => ok k ∧ k ≠ g) v xs := by
 obtain ⟨A0, c0, hb, hg, hr0⟩ := h
 exact Kd.S_types ho hb ht
theorem IsS59.own_neS {w0 W : World} {g : Nat} {f0 : List Int} {f1 : Int} {f2 : Int} {α : Type} {d : Kd α} {e : Nat} {base : Nat} {ok : Nat → Prop} {v : Value} {xs : List α} (h : IsS59 w0 W g f0 f1 f2) (ho : d.S e W base ok v xs) (ht : e ≠ 59) : some g ≠ v.ownBlock := by
 obtain ⟨A0, c0, hb, hg, hr0⟩ := h
 exact Kd.S_ne ho hb ht
theorem IsS59.lt {w0 W : World} {g : Nat} {f0 : List Int} {f1 : Int} {f2 : Int} (h : IsS59 w0 W g f0 f1 f2) : g < W.heap.size := by
 obtain ⟨A0, c0, hb, hg, hr0⟩ := h
 exact blk_lt hb
theorem IsS59.ge {w0 W : World} {g : Nat} {f0 : List Int} {f1 : Int} {f2 : Int} (h : IsS59 w0 W g f0 f1 f2) : w0.heap.size ≤ g := by
 obtain ⟨A0, c0, hb, hg, hr0⟩ := h
 exact hg
theorem IsS59.ne_blk {w0 W : World} {g : Nat} {f0 : List Int} {f1 : Int} {f2 : Int} {a : Nat} {cs : Array Value} {t : TypeId} {fr : Nat × Nat} (h : IsS59 w0 W g f0 f1 f2) (hb2 : W.heap[a]? = some (.cells cs t fr)) (ht : t ≠ 59) : g ≠ a := by
 obtain ⟨A0, c0, hb, hg, hr0⟩ := h
 rintro rfl
 rw [hb] at hb2
 injection hb2 with hb2
 injection hb2 with _ ht2
 exact ht ht2.symm
theorem IsS59.far {w0 W : World} {g : Nat} {f0 : List Int} {f1 : Int} {f2 : Int} {p : Addr} (h : IsS59 w0 W g f0 f1 f2) (hne : g ≠ p.block) (u : Value) : IsS59 w0 (W.setCell p u) g f0 f1 f2 := by
 obtain ⟨A0, c0, hb, hg, hr0⟩ := h
 exact ⟨A0, c0, blk_far hb hne u, hg, hr0⟩
theorem cellS59_0 {W : World} {g : Nat} {A0 : Option Addr} {c0 : Nat} {f0 : List Int} {f1 : Int} {f2 : Int} (h : W.heap[g]? = some (.cells #[.slice A0 f0.length c0, .int .i64 f1, .int .u64 f2] 59 (0, 0))) : W.cell? ⟨g, 0, none⟩ = some (.slice A0 f0.length c0) := (blk_cell h 0).trans rfl
theorem cellS59_1 {W : World} {g : Nat} {A0 : Option Addr} {c0 : Nat} {f0 : List Int} {f1 : Int} {f2 : Int} (h : W.heap[g]? = some (.cells #[.slice A0 f0.length c0, .int .i64 f1, .int .u64 f2] 59 (0, 0))) : W.cell? ⟨g, 1, none⟩ = some (.int .i64 f1) := (blk_cell h 1).trans rfl
theorem IsS59.set_1 {w0 W : World} {g : Nat} {f0 : List Int} {f1 : Int} {f2 : Int} (h : IsS59 w0 W g f0 f1 f2) (x : Int) : IsS59 w0 (W.setCell ⟨g, 1, none⟩ (.int .i64 x)) g f0 x f2 := by
 obtain ⟨A0, c0, hb, hg, hr0⟩ := h
 exact ⟨A0, c0, by simpa using blk_set hb 1 (.int .i64 x), hg, hr0⟩
theorem cellS59_2 {W : World} {g : Nat} {A0 : Option Addr} {c0 : Nat} {f0 : List Int} {f1 : Int} {f2 : Int} (h : W.heap[g]? = some (.cells #[.slice A0 f0.length c0, .int .i64 f1, .int .u64 f2] 59 (0, 0))) : W.cell? ⟨g, 2, none⟩ = some (.int .u64 f2) := (blk_cell h 2).trans rfl
theorem IsS59.set_2 {w0 W : World} {g : Nat} {f0 : List Int} {f1 : Int} {f2 : Int} (h : IsS59 w0 W g f0 f1 f2) (x : Int) : IsS59 w0 (W.setCell ⟨g, 2, none⟩ (.int .u64 x)) g f0 f1 x := by
 obtain ⟨A0, c0, hb, hg, hr0⟩ := h
 exact ⟨A0, c0, by simpa using blk_set hb 2 (.int .u64 x), hg, hr0⟩
theorem IsS59.new (w0 W : World) (A0 : Option Addr) (c0 : Nat) (f0 : List Int) (f1 : Int) (f2 : Int) (hB : Below w0.heap.size w0 W) (hr0 : Kd.C (Kd.int .u8) w0 A0 f0.length f0) : IsS59 w0 (W.alloc (.cells #[.slice A0 f0.length c0, .int .i64 f1, .int .u64 f2] 59)) W.heap.size f0 f1 f2 := ⟨A0, c0, by simpa using heap_alloc_new W _, hB.size, hr0⟩

/-! ### spec_l1Cur_next: function 68 -/
def spec_l1Cur_next.f (s0_0 : List Int) (s0_1 : Int) (s0_2 : Int) : Option (Int × Int × Int) := if s0_1 < (s0_0.length : Int) then (if 0 ≤ s0_1 then (if (wrap64 (s0_1 + 1)) ≤ (s0_0.length : Int) then (some (wrap64 (rd s0_0 s0_1), wrap64 (s0_1 + 1), IntKind.u64.wrap ((IntKind.u64.wrap ((IntKind.u64.wrap (s0_2 * 6364136223846793005)) + (IntKind.u64.wrap (wrap64 (rd s0_0 s0_1))))) + 889889))) else (some (wrap64 (Go.bits .and .u64 ((IntKind.u64.wrap ((IntKind.u64.wrap ((IntKind.u64.wrap (s0_2 * 6364136223846793005)) + (IntKind.u64.wrap (wrap64 (rd s0_0 s0_1))))) + 889889)) / 1099511627776) 255), wrap64 (s0_1 + 1), IntKind.u64.wrap ((IntKind.u64.wrap ((IntKind.u64.wrap (s0_2 * 6364136223846793005)) + (IntKind.u64.wrap (wrap64 (rd s0_0 s0_1))))) + 889889)))) else (none)) else (if (wrap64 (s0_1 + 1)) ≤ (s0_0.length : Int) then (some (0, wrap64 (s0_1 + 1), IntKind.u64.wrap ((IntKind.u64.wrap ((IntKind.u64.wrap (s0_2 * 6364136223846793005)) + 0)) + 889889))) else (some (wrap64 (Go.bits .and .u64 ((IntKind.u64.wrap ((IntKind.u64.wrap ((IntKind.u64.wrap (s0_2 * 6364136223846793005)) + 0)) + 889889)) / 1099511627776) 255), wrap64 (s0_1 + 1), IntKind.u64.wrap ((IntKind.u64.wrap ((IntKind.u64.wrap (s0_2 * 6364136223846793005)) + 0)) + 889889))))
set_option maxHeartbeats 8000000 in
set_option maxRecDepth 100000 in
theorem spec_l1Cur_next.calls (g : Nat) (s0_0 : List Int) (s0_1 : Int) (s0_2 : Int) (r1 : Int) (r2 : Int) (r3 : Int) (w0 w : World) (hI : IsS59 w0 w g s0_0 s0_1 s0_2) (hB : Below w0.heap.size w0 w) (h : spec_l1Cur_next.f s0_0 s0_1 s0_2 = some (r1, r2, r3)) :
  Calls Try.prog 68 #[.pointer (some ⟨g, 0, none⟩)] w fun e w' => e = .returned (.int .i64 r1) ∧ IsS59 w0 w' g s0_0 r2 r3 ∧ Below w0.heap.size w0 w' ∧ KeepBut w w' g none := by
 have HI0 := Aside0.mk hI
 have HK := Aside0.mk (KeepBut.refl w g none)
 have HL := Aside0.mk hB.size
 clear hI
 have HW0 := Aside0.mk hB.size
 have HB := Aside0.mk hB
 clear hB
 have H : (if s0_1 < (s0_0.length : Int) then (if 0 ≤ s0_1 then (if (wrap64 (s0_1 + 1)) ≤ (s0_0.length : Int) then (some (wrap64 (rd s0_0 s0_1), wrap64 (s0_1 + 1), IntKind.u64.wrap ((IntKind.u64.wrap ((IntKind.u64.wrap (s0_2 * 6364136223846793005)) + (IntKind.u64.wrap (wrap64 (rd s0_0 s0_1))))) + 889889))) else (some (wrap64 (Go.bits .and .u64 ((IntKind.u64.wrap ((IntKind.u64.wrap ((IntKind.u64.wrap (s0_2 * 6364136223846793005)) + (IntKind.u64.wrap (wrap64 (rd s0_0 s0_1))))) + 889889)) / 1099511627776) 255), wrap64 (s0_1 + 1), IntKind.u64.wrap ((IntKind.u64.wrap ((IntKind.u64.wrap (s0_2 * 6364136223846793005)) + (IntKind.u64.wrap (wrap64 (rd s0_0 s0_1))))) + 889889)))) else (none)) else (if (wrap64 (s0_1 + 1)) ≤ (s0_0.length : Int) then (some (0, wrap64 (s0_1 + 1), IntKind.u64.wrap ((IntKind.u64.wrap ((IntKind.u64.wrap (s0_2 * 6364136223846793005)) + 0)) + 889889))) else (some (wrap64 (Go.bits .and .u64 ((IntKind.u64.wrap ((IntKind.u64.wrap ((IntKind.u64.wrap (s0_2 * 6364136223846793005)) + 0)) + 889889)) / 1099511627776) 255), wrap64 (s0_1 + 1), IntKind.u64.wrap ((IntKind.u64.wrap ((IntKind.u64.wrap (s0_2 * 6364136223846793005)) + 0)) + 889889))))) = some (r1, r2, r3) := h
 clear h
 by_cases c2 : s0_1 < (s0_0.length : Int)
 case neg =>
  rw [if_neg c2] at H
  have c2b0 : decide (s0_1 < (s0_0.length : Int)) = false := decide_eq_false c2
  clear c2
  by_cases c7 : (wrap64 (s0_1 + 1)) ≤ (s0_0.length : Int)
  case neg =>
   rw [if_neg c7] at H
   have c7b0 : decide ((wrap64 (s0_1 + 1)) ≤ (s0_0.length : Int)) = false := decide_eq_false c7
   clear c7
   simp only [Option.some.injEq, Prod.mk.injEq] at H
   obtain ⟨rfl, rfl, rfl⟩ := H
   obtain ⟨ASz9_0, cSz9_0, HGz9, hgz9, HSz9_0⟩ := HI0.out
   have hcz9_0 := cellS59_0 HGz9
   have hcz9_1 := cellS59_1 HGz9
   have hcz9_2 := cellS59_2 HGz9
   have hfz9_1 := blk_frozen HGz9 1
   have hfz9_2 := blk_frozen HGz9 2
   clear HGz9 hgz9
   go_enter Try.func68, Try.ntmps68
   go_wp2
   repeat (go_quiet (fail); try go_wp2)
   go_ret
   exact ⟨zqE, by (try rw [Int.add_zero]); repeat (first | (with_reducible first | exact HI0.out | apply IsS59.alloc | apply IsS59.drewN | apply IsS59.drew | apply IsS59.set_1 | apply IsS59.set_2) | exact HI0.out), zq7, zq3⟩
  rw [if_pos c7] at H
  have c7b0 : decide ((wrap64 (s0_1 + 1)) ≤ (s0_0.length : Int)) = true := decide_eq_true c7
  clear c7
  simp only [Option.some.injEq, Prod.mk.injEq] at H
  obtain ⟨rfl, rfl, rfl⟩ := H
  obtain ⟨ASz8_0, cSz8_0, HGz8, hgz8, HSz8_0⟩ := HI0.out
  have hcz8_0 := cellS59_0 HGz8
  have hcz8_1 := cellS59_1 HGz8
  have hcz8_2 := cellS59_2 HGz8
  have hfz8_1 := blk_frozen HGz8 1
  have hfz8_2 := blk_frozen HGz8 2
  clear HGz8 hgz8
  go_enter Try.func68, Try.ntmps68
  go_wp2
  repeat (go_quiet (fail); try go_wp2)
  go_ret
  exact ⟨zqE, by (try rw [Int.add_zero]); repeat (first | (with_reducible first | exact HI0.out | apply IsS59.alloc | apply IsS59.drewN | apply IsS59.drew | apply IsS59.set_1 | apply IsS59.set_2) | exact HI0.out), zq7, zq3⟩
 rw [if_pos c2] at H
 have c2b0 : decide (s0_1 < (s0_0.length : Int)) = true := decide_eq_true c2
 clear c2
 by_cases c3 : 0 ≤ s0_1
 case neg =>
  rw [if_neg c3] at H
  exact absurd H (by simp)
 rw [if_pos c3] at H
 have c3b0 : decide (0 ≤ s0_1) = true := decide_eq_true c3
 clear c3
 by_cases c4 : (wrap64 (s0_1 + 1)) ≤ (s0_0.length : Int)
 case neg =>
  rw [if_neg c4] at H
  have c4b0 : decide ((wrap64 (s0_1 + 1)) ≤ (s0_0.length : Int)) = false := decide_eq_false c4
  clear c4
  simp only [Option.some.injEq, Prod.mk.injEq] at H
  obtain ⟨rfl, rfl, rfl⟩ := H
  obtain ⟨ASz6_0, cSz6_0, HGz6, hgz6, HSz6_0⟩ := HI0.out
  have hcz6_0 := cellS59_0 HGz6
  have hcz6_1 := cellS59_1 HGz6
  have hcz6_2 := cellS59_2 HGz6
  have hfz6_1 := blk_frozen HGz6 1
  have hfz6_2 := blk_frozen HGz6 2
  clear HGz6 hgz6
  have p101 : 0 ≤ (s0_1 : Int) := of_decide_eq_true zq10
  have q101 : s0_1 < (s0_0.length : Int) := of_decide_eq_true zq10
  obtain ⟨ad101, e101, hx101_0⟩ := Kd.at_int HSz6_0 s0_1 p101 q101
  cases e101
  replace hx101_0 := pw_cell_below HB.out hx101_0
  replace p101 := eq_true p101
  replace q101 := eq_true q101
  go_enter Try.func68, Try.ntmps68
  go_wp2
  repeat (go_quiet (fail); try go_wp2)
  go_ret
  exact ⟨zqE, by (try rw [Int.add_zero]); repeat (first | (with_reducible first | exact HI0.out | apply IsS59.alloc | apply IsS59.drewN | apply IsS59.drew | apply IsS59.set_1 | apply IsS59.set_2) | exact HI0.out), zq7, zq3⟩
 rw [if_pos c4] at H
 have c4b0 : decide ((wrap64 (s0_1 + 1)) ≤ (s0_0.length : Int)) = true := decide_eq_true c4
 clear c4
 simp only [Option.some.injEq, Prod.mk.injEq] at H
 obtain ⟨rfl, rfl, rfl⟩ := H
 obtain ⟨ASz5_0, cSz5_0, HGz5, hgz5, HSz5_0⟩ := HI0.out
 have hcz5_0 := cellS59_0 HGz5
 have hcz5_1 := cellS59_1 HGz5
 have hcz5_2 := cellS59_2 HGz5
 have hfz5_1 := blk_frozen HGz5 1
 have hfz5_2 := blk_frozen HGz5 2
 clear HGz5 hgz5
 have p101 : 0 ≤ (s0_1 : Int) := of_decide_eq_true zq10
 have q101 : s0_1 < (s0_0.length : Int) := of_decide_eq_true zq10
 obtain ⟨ad101, e101, hx101_0⟩ := Kd.at_int HSz5_0 s0_1 p101 q101
 cases e101
 replace hx101_0 := pw_cell_below HB.out hx101_0
 replace p101 := eq_true p101
 replace q101 := eq_true q101
 go_enter Try.func68, Try.ntmps68
 go_wp2
 repeat (go_quiet (fail); try go_wp2)
 go_ret
 exact ⟨zqE, by (try rw [Int.add_zero]); repeat (first | (with_reducible first | exact HI0.out | apply IsS59.alloc | apply IsS59.drewN | apply IsS59.drew | apply IsS59.set_1 | apply IsS59.set_2) | exact HI0.out), zq7, zq3⟩

/-! ### spec_l1Cur_pick: function 52 -/
def spec_l1Cur_pick.f (s0_0 : List Int) (s0_1 : Int) (s0_2 : Int) (a1 : Int) : Option (Int × Int × Int) := if a1 ≤ 1 then (some (0, s0_1, s0_2)) else ((spec_l1Cur_next.f s0_0 s0_1 s0_2).bind fun bt102 => (if a1 > 200 then ((spec_l1Cur_next.f s0_0 bt102.2.1 bt102.2.2).bind fun bt105 => (if a1 = 0 then (none) else (some (Int.tmod (wrap64 ((wrap64 (bt102.1 * 256)) + bt105.1)) a1, bt105.2.1, bt105.2.2)))) else (if a1 = 0 then (none) else (some (Int.tmod bt102.1 a1, bt102.2.1, bt102.2.2)))))
set_option maxHeartbeats 8000000 in
set_option maxRecDepth 100000 in
theorem spec_l1Cur_pick.calls (g : Nat) (s0_0 : List Int) (s0_1 : Int) (s0_2 : Int) (a1 : Int) (r1 : Int) (r2 : Int) (r3 : Int) (w0 w : World) (hI : IsS59 w0 w g s0_0 s0_1 s0_2) (hB : Below w0.heap.size w0 w) (h : spec_l1Cur_pick.f s0_0 s0_1 s0_2 a1 = some (r1, r2, r3)) :
  Calls Try.prog 52 #[.pointer (some ⟨g, 0, none⟩), .int .i64 a1] w fun e w' => e = .returned (.int .i64 r1) ∧ IsS59 w0 w' g s0_0 r2 r3 ∧ Below w0.heap.size w0 w' ∧ KeepBut w w' g none := by
 have HI0 := Aside0.mk hI
 have HK := Aside0.mk (KeepBut.refl w g none)
 have HL := Aside0.mk hB.size
 clear hI
 have HW0 := Aside0.mk hB.size
 have HB := Aside0.mk hB
 clear hB
 have H : (if a1 ≤ 1 then (some (0, s0_1, s0_2)) else ((spec_l1Cur_next.f s0_0 s0_1 s0_2).bind fun bt102 => (if a1 > 200 then ((spec_l1Cur_next.f s0_0 bt102.2.1 bt102.2.2).bind fun bt105 => (if a1 = 0 then (none) else (some (Int.tmod (wrap64 ((wrap64 (bt102.1 * 256)) + bt105.1)) a1, bt105.2.1, bt105.2.2)))) else (if a1 = 0 then (none) else (some (Int.tmod bt102.1 a1, bt102.2.1, bt102.2.2)))))) = some (r1, r2, r3) := h
 clear h
 by_cases c3 : a1 ≤ 1
 case pos =>
  rw [if_pos c3] at H
  have c3b0 : decide (a1 ≤ 1) = true := decide_eq_true c3
  clear c3
  simp only [Option.some.injEq, Prod.mk.injEq] at H
  obtain ⟨rfl, rfl, rfl⟩ := H
  go_enter Try.func52, Try.ntmps52
  go_wp2
  go_ret
  exact ⟨zqE, zq13, zq7, zq3⟩
 rw [if_neg c3] at H
 have c3b0 : decide (a1 ≤ 1) = false := decide_eq_false c3
 clear c3
 replace H := Option.bind_eq_some_iff.mp H
 obtain ⟨⟨t102, t103, t104⟩, A40, H⟩ := H
 replace H : (if a1 > 200 then ((spec_l1Cur_next.f s0_0 t103 t104).bind fun bt105 => (if a1 = 0 then (none) else (some (Int.tmod (wrap64 ((wrap64 (t102 * 256)) + bt105.1)) a1, bt105.2.1, bt105.2.2)))) else (if a1 = 0 then (none) else (some (Int.tmod t102 a1, t103, t104)))) = some (r1, r2, r3) := H
 have A4 := Aside0.mk A40
 clear A40
 by_cases c5 : a1 > 200
 case neg =>
  rw [if_neg c5] at H
  have c5b0 : decide (200 < a1) = false := decide_eq_false c5
  clear c5
  by_cases c10 : a1 = 0
  case pos =>
   rw [if_pos c10] at H
   exact absurd H (by simp)
  rw [if_neg c10] at H
  have c10b0 : (a1 == 0) = false := beq_eq_false_iff_ne.mpr c10
  have c10b1 : (a1 != 0) = true := bne_iff_ne.mpr c10
  simp only [Option.some.injEq, Prod.mk.injEq] at H
  obtain ⟨rfl, rfl, rfl⟩ := H
  go_enter Try.func52, Try.ntmps52
  go_wp2_with (first | ((with_reducible refine gate_callee (f := 68) rfl ?_); refine goesL_ (some 9) rfl rfl Try.func68 (by kernel_rfl) rfl #[.pointer (some ⟨g, 0, none⟩)] rfl zq1 ?_; (with_reducible refine (spec_l1Cur_next.calls g s0_0 s0_1 s0_2 t102 t103 t104 w0 _ ?side1 ?side2 A4.out).mono ?_); (case side1 => exact zq13); (case side2 => exact zq7); rintro e w11 ⟨rfl, hi, hb, hk⟩; refine ⟨_, rfl, ?_⟩; replace HK := Aside0.mk (KeepBut.trans zq3 hk (.inl rfl)); replace HB := Aside0.mk (hb); replace HI0 := Aside0.mk (hi); (try clear hb); (try clear hb2); (try clear hk); (try clear hi)))
  go_ret
  exact ⟨zqE, zq13, zq7, zq3⟩
 rw [if_pos c5] at H
 have c5b0 : decide (200 < a1) = true := decide_eq_true c5
 clear c5
 replace H := Option.bind_eq_some_iff.mp H
 obtain ⟨⟨t105, t106, t107⟩, A60, H⟩ := H
 replace H : (if a1 = 0 then (none) else (some (Int.tmod (wrap64 ((wrap64 (t102 * 256)) + t105)) a1, t106, t107))) = some (r1, r2, r3) := H
 have A6 := Aside0.mk A60
 clear A60
 by_cases c7 : a1 = 0
 case pos =>
  rw [if_pos c7] at H
  exact absurd H (by simp)
 rw [if_neg c7] at H
 have c7b0 : (a1 == 0) = false := beq_eq_false_iff_ne.mpr c7
 have c7b1 : (a1 != 0) = true := bne_iff_ne.mpr c7
 simp only [Option.some.injEq, Prod.mk.injEq] at H
 obtain ⟨rfl, rfl, rfl⟩ := H
 go_enter Try.func52, Try.ntmps52
 go_wp2_with (first | ((with_reducible refine gate_callee (f := 68) rfl ?_); refine goesL_ (some 9) rfl rfl Try.func68 (by kernel_rfl) rfl #[.pointer (some ⟨g, 0, none⟩)] rfl zq1 ?_; (with_reducible refine (spec_l1Cur_next.calls g s0_0 s0_1 s0_2 t102 t103 t104 w0 _ ?side1 ?side2 A4.out).mono ?_); (case side1 => exact zq13); (case side2 => exact zq7); rintro e w8 ⟨rfl, hi, hb, hk⟩; refine ⟨_, rfl, ?_⟩; replace HK := Aside0.mk (KeepBut.trans zq3 hk (.inl rfl)); replace HB := Aside0.mk (hb); replace HI0 := Aside0.mk (hi); (try clear hb); (try clear hb2); (try clear hk); (try clear hi)) | ((with_reducible refine gate_callee (f := 68) rfl ?_); refine goesL_ (some 15) rfl rfl Try.func68 (by kernel_rfl) rfl #[.pointer (some ⟨g, 0, none⟩)] rfl zq1 ?_; (with_reducible refine (spec_l1Cur_next.calls g s0_0 t103 t104 t105 t106 t107 w0 _ ?side1 ?side2 A6.out).mono ?_); (case side1 => exact zq13); (case side2 => exact zq7); rintro e w9 ⟨rfl, hi, hb, hk⟩; refine ⟨_, rfl, ?_⟩; replace HK := Aside0.mk (KeepBut.trans zq3 hk (.inl rfl)); replace HB := Aside0.mk (hb); replace HI0 := Aside0.mk (hi); (try clear hb); (try clear hb2); (try clear hk); (try clear hi)))
 go_ret
 exact ⟨zqE, zq13, zq7, zq3⟩

/-! ### spec_l1Cur_among: function 53 -/
def spec_l1Cur_among.f (s0_0 : List Int) (s0_1 : Int) (s0_2 : Int) (l1 : List Int) : Option (Int × Int × Int) := (spec_l1Cur_pick.f s0_0 s0_1 s0_2 (l1.length : Int)).bind fun bt108 => (if 0 ≤ bt108.1 then (if bt108.1 < (l1.length : Int) then (some (rd l1 bt108.1, bt108.2.1, bt108.2.2)) else (none)) else (none))
set_option maxHeartbeats 8000000 in
set_option maxRecDepth 100000 in
theorem spec_l1Cur_among.calls (g : Nat) (s0_0 : List Int) (s0_1 : Int) (s0_2 : Int) (A1 : Option Addr) (c1 : Nat) (l1 : List Int) (r1 : Int) (r2 : Int) (r3 : Int) (w0 w : World) (hI : IsS59 w0 w g s0_0 s0_1 s0_2) (hB : Below w0.heap.size w0 w) (hr1 : Kd.C (Kd.int .i64) w A1 l1.length l1) (hc1 : l1.length ≤ c1) (hf1 : ∀ ad, A1 = some ad → 0 < l1.length → ad.block ≠ g) (h : spec_l1Cur_among.f s0_0 s0_1 s0_2 l1 = some (r1, r2, r3)) :
  Calls Try.prog 53 #[.pointer (some ⟨g, 0, none⟩), .slice A1 l1.length c1] w fun e w' => e = .returned (.int .i64 r1) ∧ IsS59 w0 w' g s0_0 r2 r3 ∧ Below w0.heap.size w0 w' ∧ KeepBut w w' g none := by
 have HR1 := Aside0.mk hr1
 have HC1 := Aside0.mk hc1
 clear hr1 hc1
 have HI0 := Aside0.mk hI
 have HK := Aside0.mk (KeepBut.refl w g none)
 have HL := Aside0.mk hB.size
 clear hI
 have HW0 := Aside0.mk hB.size
 have HB := Aside0.mk hB
 clear hB
 have H : ((spec_l1Cur_pick.f s0_0 s0_1 s0_2 (l1.length : Int)).bind fun bt108 => (if 0 ≤ bt108.1 then (if bt108.1 < (l1.length : Int) then (some (rd l1 bt108.1, bt108.2.1, bt108.2.2)) else (none)) else (none))) = some (r1, r2, r3) := h
 clear h
 replace H := Option.bind_eq_some_iff.mp H
 obtain ⟨⟨t108, t109, t110⟩, A30, H⟩ := H
 replace H : (if 0 ≤ t108 then (if t108 < (l1.length : Int) then (some (rd l1 t108, t109, t110)) else (none)) else (none)) = some (r1, r2, r3) := H
 have A3 := Aside0.mk A30
 clear A30
 by_cases c4 : 0 ≤ t108
 case neg =>
  rw [if_neg c4] at H
  exact absurd H (by simp)
 rw [if_pos c4] at H
 have c4b0 : decide (0 ≤ t108) = true := decide_eq_true c4
 clear c4
 by_cases c5 : t108 < (l1.length : Int)
 case neg =>
  rw [if_neg c5] at H
  exact absurd H (by simp)
 rw [if_pos c5] at H
 have c5b0 : decide (t108 < (l1.length : Int)) = true := decide_eq_true c5
 clear c5
 simp only [Option.some.injEq, Prod.mk.injEq] at H
 obtain ⟨rfl, rfl, rfl⟩ := H
 go_enter Try.func53, Try.ntmps53
 go_wp2_with (first | ((with_reducible refine gate_callee (f := 52) rfl ?_); refine goesL_ (some 9) rfl rfl Try.func52 (by kernel_rfl) rfl #[.pointer (some ⟨g, 0, none⟩), .int .i64 (l1.length : Int)] rfl zq1 ?_; (with_reducible refine (spec_l1Cur_pick.calls g s0_0 s0_1 s0_2 (l1.length : Int) t108 t109 t110 w0 _ ?side1 ?side2 A3.out).mono ?_); (case side1 => exact zq13); (case side2 => exact zq7); rintro e w6 ⟨rfl, hi, hb, hk⟩; refine ⟨_, rfl, ?_⟩; replace HK := Aside0.mk (KeepBut.trans zq3 hk (.inl rfl)); replace HB := Aside0.mk (hb); replace HI0 := Aside0.mk (hi); (try clear hb); (try clear hb2); (try clear hk); (try clear hi); have p111 : 0 ≤ (t108 : Int) := of_decide_eq_true zq10; have q111 : t108 < (l1.length : Int) := of_decide_eq_true zq10; obtain ⟨ad111, e111, hx111_0⟩ := Kd.at_int HR1.out t108 p111 q111; cases e111; replace hx111_0 := keep_cell HK.out hx111_0 (by first | (rw [add_block]; exact hf1 _ rfl (by omega)) | exact hf1 _ rfl (by omega) | exact hf1 ad111 rfl (by omega)); replace p111 := eq_true p111; replace q111 := eq_true q111))
 go_ret
 exact ⟨zqE, zq13, zq7, zq3⟩

/-! ### spec_l1Cur_one: function 54 -/
def spec_l1Cur_one.f (s0_0 : List Int) (s0_1 : Int) (s0_2 : Int) (a1 : Int) : Option (Bool × Int × Int) := (spec_l1Cur_pick.f s0_0 s0_1 s0_2 a1).bind fun bt112 => (some ((bt112.1 == 0), bt112.2.1, bt112.2.2))
set_option maxHeartbeats 8000000 in
set_option maxRecDepth 100000 in
theorem spec_l1Cur_one.calls (g : Nat) (s0_0 : List Int) (s0_1 : Int) (s0_2 : Int) (a1 : Int) (r1 : Bool) (r2 : Int) (r3 : Int) (w0 w : World) (hI : IsS59 w0 w g s0_0 s0_1 s0_2) (hB : Below w0.heap.size w0 w) (h : spec_l1Cur_one.f s0_0 s0_1 s0_2 a1 = some (r1, r2, r3)) :
  Calls Try.prog 54 #[.pointer (some ⟨g, 0, none⟩), .int .i64 a1] w fun e w' => e = .returned (.bool r1) ∧ IsS59 w0 w' g s0_0 r2 r3 ∧ Below w0.heap.size w0 w' ∧ KeepBut w w' g none := by
 have HI0 := Aside0.mk hI
 have HK := Aside0.mk (KeepBut.refl w g none)
 have HL := Aside0.mk hB.size
 clear hI
 have HW0 := Aside0.mk hB.size
 have HB := Aside0.mk hB
 clear hB
 have H : ((spec_l1Cur_pick.f s0_0 s0_1 s0_2 a1).bind fun bt112 => (some ((bt112.1 == 0), bt112.2.1, bt112.2.2))) = some (r1, r2, r3) := h
 clear h
 replace H := Option.bind_eq_some_iff.mp H
 obtain ⟨⟨t112, t113, t114⟩, A30, H⟩ := H
 replace H : (some ((t112 == 0), t113, t114)) = some (r1, r2, r3) := H
 have A3 := Aside0.mk A30
 clear A30
 simp only [Option.some.injEq, Prod.mk.injEq] at H
 obtain ⟨rfl, rfl, rfl⟩ := H
 go_enter Try.func54, Try.ntmps54
 go_wp2_with (first | ((with_reducible refine gate_callee (f := 52) rfl ?_); refine goesL_ (some 7) rfl rfl Try.func52 (by kernel_rfl) rfl #[.pointer (some ⟨g, 0, none⟩), .int .i64 a1] rfl zq1 ?_; (with_reducible refine (spec_l1Cur_pick.calls g s0_0 s0_1 s0_2 a1 t112 t113 t114 w0 _ ?side1 ?side2 A3.out).mono ?_); (case side1 => exact zq13); (case side2 => exact zq7); rintro e w4 ⟨rfl, hi, hb, hk⟩; refine ⟨_, rfl, ?_⟩; replace HK := Aside0.mk (KeepBut.trans zq3 hk (.inl rfl)); replace HB := Aside0.mk (hb); replace HI0 := Aside0.mk (hi); (try clear hb); (try clear hb2); (try clear hk); (try clear hi)))
 go_ret
 exact ⟨zqE, zq13, zq7, zq3⟩

/-! ### spec_l1Cur_areaMap: function 51 -/
mutual
def spec_l1Cur_areaMap.l0 : Nat → Int → Int → Int → List Int → Int → Int → Int → Int → List Int → Option (Int × Int × List Int × Int × Int)
 | 0, _, _, _, _, _, _, _, _, _ => none
 | k + 1, x1, x2, x8, x1000, x1001, x1002, x117000, x117001, x117002 => if x8 < (wrap64 (x1 * x2)) then ((spec_l1Cur_among.f x1000 x1001 x1002 (([0, 1, 2, 3, 1, 2, 9] : List Int))).bind fun bt120 => (if x8 > 0 then ((spec_l1Cur_one.f x1000 bt120.2.1 bt120.2.2 2).bind fun bt123 => (spec_l1Cur_areaMap.j1 k x1 x2 x8 bt120.1 bt123.1 x1000 bt123.2.1 bt123.2.2 x117000 x117001 x117002)) else (spec_l1Cur_areaMap.j1 k x1 x2 x8 bt120.1 false x1000 bt120.2.1 bt120.2.2 x117000 x117001 x117002))) else (some (x117000, x117001, x117002, x1001, x1002))
def spec_l1Cur_areaMap.j1 : Nat → Int → Int → Int → Int → Bool → List Int → Int → Int → Int → Int → List Int → Option (Int × Int × List Int × Int × Int)
 | 0, _, _, _, _, _, _, _, _, _, _, _ => none
 | k + 1, x1, x2, x8, x9, x28, x1000, x1001, x1002, x117000, x117001, x117002 => if x28 = true then (if 0 ≤ (wrap64 (x8 - 1)) then (if (wrap64 (x8 - 1)) < (x117002.length : Int) then (if x117002.length < 17592186044416 then (spec_l1Cur_areaMap.l0 k x1 x2 (wrap64 (x8 + 1)) x1000 x1001 x1002 x117000 x117001 (x117002 ++ [rd x117002 (wrap64 (x8 - 1))])) else (none)) else (none)) else (none)) else (if x8 ≥ x1 then ((spec_l1Cur_one.f x1000 x1001 x1002 2).bind fun bt130 => (if bt130.1 = true then (if 0 ≤ (wrap64 (x8 - x1)) then (if (wrap64 (x8 - x1)) < (x117002.length : Int) then (if x117002.length < 17592186044416 then (spec_l1Cur_areaMap.l0 k x1 x2 (wrap64 (x8 + 1)) x1000 bt130.2.1 bt130.2.2 x117000 x117001 (x117002 ++ [rd x117002 (wrap64 (x8 - x1))])) else (none)) else (none)) else (none)) else (if x117002.length < 17592186044416 then (spec_l1Cur_areaMap.l0 k x1 x2 (wrap64 (x8 + 1)) x1000 bt130.2.1 bt130.2.2 x117000 x117001 (x117002 ++ [x9])) else (none)))) else (if x117002.length < 17592186044416 then (spec_l1Cur_areaMap.l0 k x1 x2 (wrap64 (x8 + 1)) x1000 x1001 x1002 x117000 x117001 (x117002 ++ [x9])) else (none)))
end
def spec_l1Cur_areaMap.f (k : Nat) (s0_0 : List Int) (s0_1 : Int) (s0_2 : Int) (a1 : Int) (a2 : Int) : Option (Int × Int × List Int × Int × Int) := spec_l1Cur_areaMap.l0 k a1 a2 0 s0_0 s0_1 s0_2 a1 a2 ([] : List Int)
set_option maxHeartbeats 8000000 in
set_option maxRecDepth 100000 in
theorem spec_l1Cur_areaMap.calls (k : Nat) (g : Nat) (s0_0 : List Int) (s0_1 : Int) (s0_2 : Int) (a1 : Int) (a2 : Int) (r1 : Int) (r2 : Int) (r3 : List Int) (r4 : Int) (r5 : Int) (w0 w : World) (hI : IsS59 w0 w g s0_0 s0_1 s0_2) (hB : Below w0.heap.size w0 w) (h : spec_l1Cur_areaMap.f k s0_0 s0_1 s0_2 a1 a2 = some (r1, r2, r3, r4, r5)) :
  Calls Try.prog 51 #[.pointer (some ⟨g, 0, none⟩), .int .i64 a1, .int .i64 a2] w fun e w' => ∃ v2_ : Value, e = .returned (.agg #[.int .i64 r1, .int .i64 r2, v2_]) ∧ Kd.R (Kd.int .i64) 3 w' w.heap.size (fun _ => True) v2_ r3 ∧ IsS59 w0 w' g s0_0 r4 r5 ∧ Below w0.heap.size w0 w' ∧ KeepBut w w' g none := by
 have hu26 := Try.underlying26
 have HI0 := Aside0.mk hI
 have HK := Aside0.mk (KeepBut.refl w g none)
 have HL := Aside0.mk hB.size
 clear hI
 have HW0 := Aside0.mk hB.size
 have HB := Aside0.mk hB
 clear hB
 have H : (spec_l1Cur_areaMap.l0 k a1 a2 0 s0_0 s0_1 s0_2 a1 a2 ([] : List Int)) = some (r1, r2, r3, r4, r5) := h
 clear h
 have H' := Aside0.mk H
 clear H
 go_enter Try.func51, Try.ntmps51
 go_wp2_with (first | ((with_reducible refine gate_dst (N := 6) rfl ?_); refine box_event ?hg (N := 6) ?hd (cs := #[.int .i64 0, .int .i64 0, .slice none 0 0]) (t := 26) ?hr ?_; (case hd => rfl); (case hg => rfl); (case hr => exact zqS); intro gb115 hg w4 hbox hb; replace HB := Aside0.mk (below_step zq7 hb); have BK115 := Aside0.mk (hbox); have GW115 := Aside0.mk ((by rw [hg]; exact (keep_size (w := w) (g := g) (row := none) zq3) : w.heap.size ≤ gb115)); have GE115 := Aside0.mk ((Nat.le_trans HW0.out (by rw [hg]; exact (keep_size (w := w) (g := g) (row := none) zq3) : w.heap.size ≤ gb115) : w0.heap.size ≤ gb115)); replace HK := Aside0.mk (KeepBut.trans zq3 (KeepBut.of_below hb g none) (.inl rfl)); have NB0_115 := Aside0.mk ((by rw [hg]; exact Nat.ne_of_lt (IsS59.lt (show IsS59 w0 _ g s0_0 s0_1 s0_2 from by repeat (first | (with_reducible first | exact HI0.out | apply IsS59.alloc | apply IsS59.drewN | apply IsS59.drew | apply IsS59.set_1 | apply IsS59.set_2) | exact HI0.out))) : g ≠ gb115)); have NB115_0 := Aside0.mk ((by rw [hg]; exact Nat.ne_of_gt (IsS59.lt (show IsS59 w0 _ g s0_0 s0_1 s0_2 from by repeat (first | (with_reducible first | exact HI0.out | apply IsS59.alloc | apply IsS59.drewN | apply IsS59.drew | apply IsS59.set_1 | apply IsS59.set_2) | exact HI0.out))) : gb115 ≠ g)); replace HI0 := Aside0.mk (IsS59.below zq13 hb); clear hb hbox hg) | ((with_reducible refine gate_dst (N := 7) rfl ?_); refine box_event ?hg (N := 7) ?hd (cs := #[.int .i64 0, .int .i64 0, .slice none 0 0]) (t := 26) ?hr ?_; (case hd => rfl); (case hg => rfl); (case hr => exact zqS); intro gb116 hg w5 hbox hb; replace HB := Aside0.mk (below_step (by repeat (first | (with_reducible first | exact HB.out | apply below_alloc | apply pw_below_drewN | apply below_drew1 | refine below_set ?_ (IsS59.ge HI0.out) | refine below_set ?_ GE115.out) | exact HB.out)) hb); have BK116 := Aside0.mk (hbox); have GW116 := Aside0.mk ((by rw [hg]; exact (keep_size (w := w) (g := g) (row := none) zq45) : w.heap.size ≤ gb116)); have GE116 := Aside0.mk ((Nat.le_trans HW0.out (by rw [hg]; exact (keep_size (w := w) (g := g) (row := none) zq45) : w.heap.size ≤ gb116) : w0.heap.size ≤ gb116)); replace HK := Aside0.mk (KeepBut.trans zq45 (KeepBut.of_below hb g none) (.inl rfl)); have NB115_116 := Aside0.mk ((by rw [hg]; exact Nat.ne_of_lt (blk_lt (g := gb115) (o := .cells #[.int .i64 0, .int .i64 0, .slice none 0 0] 26 (0, 0)) (zqK BK115.out)) : gb115 ≠ gb116)); have NB116_115 := Aside0.mk ((by rw [hg]; exact Nat.ne_of_gt (blk_lt (g := gb115) (o := .cells #[.int .i64 0, .int .i64 0, .slice none 0 0] 26 (0, 0)) (zqK BK115.out)) : gb116 ≠ gb115)); replace BK115 := Aside0.mk (blk_below (g := gb115) (o := .cells #[.int .i64 0, .int .i64 0, .slice none 0 0] 26 (0, 0)) (zqK BK115.out) hb); have NB0_116 := Aside0.mk ((by rw [hg]; exact Nat.ne_of_lt (IsS59.lt (show IsS59 w0 _ g s0_0 s0_1 s0_2 from by repeat (first | (with_reducible first | exact HI0.out | apply IsS59.alloc | apply IsS59.drewN | apply IsS59.drew | apply IsS59.set_1 | apply IsS59.set_2 | refine IsS59.far ?_ NB0_115.out _) | exact HI0.out))) : g ≠ gb116)); have NB116_0 := Aside0.mk ((by rw [hg]; exact Nat.ne_of_gt (IsS59.lt (show IsS59 w0 _ g s0_0 s0_1 s0_2 from by repeat (first | (with_reducible first | exact HI0.out | apply IsS59.alloc | apply IsS59.drewN | apply IsS59.drew | apply IsS59.set_1 | apply IsS59.set_2 | refine IsS59.far ?_ NB0_115.out _) | exact HI0.out))) : gb116 ≠ g)); replace HI0 := Aside0.mk (IsS59.below (by repeat (first | (with_reducible first | exact HI0.out | apply IsS59.alloc | apply IsS59.drewN | apply IsS59.drew | apply IsS59.set_1 | apply IsS59.set_2 | refine IsS59.far ?_ NB0_115.out _) | exact HI0.out)) hb); clear hb hbox hg; have hnb6 := NB116_115.out; have hnc6 := NB115_116.out; have hnb7 := NB116_0.out; have hnc7 := NB0_116.out; have hcz8_0 := bz BK116.out 0 (.int .i64 0); have hcz8_1 := bz BK116.out 1 (.int .i64 0); have hcz8_2 := bz BK116.out 2 (.slice none 0 0); have hfz8_0 := blk_frozen BK116.out 0; have hfz8_1 := blk_frozen BK116.out 1; have hfz8_2 := blk_frozen BK116.out 2))
 go_loopg [8] k (fun kq v8 w' => ∃ (x8_1 : Int) (x1001_1 : Int) (x1002_1 : Int) (x117002_1 : List Int) (u117002 : Value), v8 = .int .i64 x8_1 ∧ Aside0 (spec_l1Cur_areaMap.l0 kq a1 a2 x8_1 s0_0 x1001_1 x1002_1 a1 a2 x117002_1 = some (r1, r2, r3, r4, r5)) ∧ Aside0 (kq ≤ k) ∧ Aside0 (Kd.R (Kd.int .i64) 3 w' w.heap.size (fun _ => True) u117002 x117002_1) ∧ Aside0 (w'.heap[gb115]? = some (.cells #[.int .i64 0, .int .i64 0, (.slice none 0 0)] 26 (0, 0))) ∧ Aside0 (w'.heap[gb116]? = some (.cells #[.int .i64 a1, .int .i64 a2, u117002] 26 (0, 0))) ∧ Aside0 (IsS59 w0 w' g s0_0 x1001_1 x1002_1) ∧ Aside0 (KeepBut w w' g none) ∧ Aside0 (Below w0.heap.size w0 w'))
 case atStart => exact ⟨(0), (s0_1), (s0_2), (([] : List Int)), (.slice none 0 0), (by first | rfl | (simp; done) | (simp [*]; done)), H', ⟨Nat.le_refl _⟩, ⟨by first | exact Kd.R_nil _ _ _ _ _ | exact Kd.N_nil _ _ _ _ _ | exact Kd.V_nil _ _ _ _ _ | exact Kd.Q_nil _ _ _ _ _ | exact Kd.S_nil _ _ _ _ _⟩, ⟨by (with_reducible repeat (first | refine blk_drewN ?_ _ | refine blk_drew ?_ | refine blk_alloc ?_ _)); refine blk_far ?_ NB115_116.out _; (with_reducible repeat (first | refine blk_drewN ?_ _ | refine blk_drew ?_ | refine blk_alloc ?_ _)); refine blk_far ?_ NB115_116.out _; (with_reducible repeat (first | refine blk_drewN ?_ _ | refine blk_drew ?_ | refine blk_alloc ?_ _)); refine blk_far ?_ NB115_116.out _; (with_reducible repeat (first | refine blk_drewN ?_ _ | refine blk_drew ?_ | refine blk_alloc ?_ _)); exact BK115.out⟩, ⟨by (with_reducible repeat (first | refine blk_drewN ?_ _ | refine blk_drew ?_ | refine blk_alloc ?_ _)); refine blk_put (cs := #[.int .i64 a1, .int .i64 a2, .slice none 0 0]) ?_ 2 _ rfl; (with_reducible repeat (first | refine blk_drewN ?_ _ | refine blk_drew ?_ | refine blk_alloc ?_ _)); refine blk_put (cs := #[.int .i64 a1, .int .i64 0, .slice none 0 0]) ?_ 1 _ rfl; (with_reducible repeat (first | refine blk_drewN ?_ _ | refine blk_drew ?_ | refine blk_alloc ?_ _)); refine blk_put (cs := #[.int .i64 0, .int .i64 0, .slice none 0 0]) ?_ 0 _ rfl; (with_reducible repeat (first | refine blk_drewN ?_ _ | refine blk_drew ?_ | refine blk_alloc ?_ _)); exact BK116.out⟩, ⟨zq11⟩, ⟨zq4⟩, ⟨zq12⟩⟩
 clear H'
 try clear p2
 try clear c5
 try clear c6
 try clear c7
 try clear hcz8_0
 try clear hcz8_1
 try clear hcz8_2
 try clear hfz8_0
 try clear hfz8_1
 try clear hfz8_2
 obtain ⟨x8_1, x1001_1, x1002_1, x117002_1, u117002, rfl, HA, HK1, HO_117002, BK115, BK116, HI0, HK, HB⟩ := hrel
 cases gk with
 | zero => exact absurd HA.out (by simp [spec_l1Cur_areaMap.l0])
 | succ k1 =>
  have H := HA.out
  clear HA
  simp only [spec_l1Cur_areaMap.l0] at H
  by_cases c9 : x8_1 < (wrap64 (a1 * a2))
  case neg =>
   rw [if_neg c9] at H
   have c9b0 : decide (x8_1 < (wrap64 (a1 * a2))) = false := decide_eq_false c9
   clear c9
   simp only [Option.some.injEq, Prod.mk.injEq] at H
   obtain ⟨rfl, rfl, rfl, rfl, rfl⟩ := H
   have hnb61 := NB116_115.out
   have hnc61 := NB115_116.out
   have hnb62 := NB116_0.out
   have hnc62 := NB0_116.out
   have hcz63_0 := bz BK116.out 0 (.int .i64 a1)
   have hcz63_1 := bz BK116.out 1 (.int .i64 a2)
   have hcz63_2 := bz BK116.out 2 (u117002)
   have hfz63_0 := blk_frozen BK116.out 0
   have hfz63_1 := blk_frozen BK116.out 1
   have hfz63_2 := blk_frozen BK116.out 2
   have hnb64 := NB115_0.out
   have hnc64 := NB0_115.out
   have hcz65_0 := bz BK115.out 0 (.int .i64 0)
   have hcz65_1 := bz BK115.out 1 (.int .i64 0)
   have hcz65_2 := bz BK115.out 2 (.slice none 0 0)
   have hfz65_0 := blk_frozen BK115.out 0
   have hfz65_1 := blk_frozen BK115.out 1
   have hfz65_2 := blk_frozen BK115.out 2
   obtain ⟨Ao66, co66, eo66⟩ := Kd.R_slice HO_117002.out
   subst eo66
   go_wp2
   refine bodyPost_ret (results_cell_row rfl _ _ gb115 26 #[.int .i64 a1, .int .i64 a2, .slice Ao66 x117002_1.length co66] (0, 0) _ rfl (by (with_reducible repeat (first | refine blk_drewN ?_ _ | refine blk_drew ?_ | refine blk_alloc ?_ _)); refine blk_put (cs := #[.int .i64 a1, .int .i64 a2, .slice none 0 0]) ?_ 2 _ rfl; (with_reducible repeat (first | refine blk_drewN ?_ _ | refine blk_drew ?_ | refine blk_alloc ?_ _)); refine blk_put (cs := #[.int .i64 a1, .int .i64 0, .slice none 0 0]) ?_ 1 _ rfl; (with_reducible repeat (first | refine blk_drewN ?_ _ | refine blk_drew ?_ | refine blk_alloc ?_ _)); refine blk_put (cs := #[.int .i64 0, .int .i64 0, .slice none 0 0]) ?_ 0 _ rfl; (with_reducible repeat (first | refine blk_drewN ?_ _ | refine blk_drew ?_ | refine blk_alloc ?_ _)); exact BK115.out) Try.underlying26 rfl (by kernel_rfl)) rfl ?_
   exact ⟨_, by first | rfl | (simp [errW_none, errW_some] <;> rfl) | (simp [*, errW_none, errW_some] <;> rfl), by (with_reducible repeat (first | apply Kd.R_alloc | apply Kd.R_drewN | apply Kd.R_drew)); exact Kd.R_mono (Kd.R_far (p := ⟨gb115, 2, none⟩) (Kd.R_far (p := ⟨gb115, 1, none⟩) (Kd.R_far (p := ⟨gb115, 0, none⟩) (Kd.R_types HO_117002.out BK115.out (by decide)) (fun _ hk => hk.2) (.int .i64 a1)) (fun _ hk => hk.2) (.int .i64 a2)) (fun _ hk => hk.2) (.slice Ao66 x117002_1.length co66)) (fun _ hk => trivial), zq11, zq12, zq4⟩
  rw [if_pos c9] at H
  have c9b0 : decide (x8_1 < (wrap64 (a1 * a2))) = true := decide_eq_true c9
  clear c9
  obtain ⟨y117, hy117⟩ : ∃ y_ : List Int, y_ = (([0, 1, 2, 3, 1, 2, 9] : List Int)) := ⟨_, rfl⟩
  replace H : ((spec_l1Cur_among.f s0_0 x1001_1 x1002_1 y117).bind fun bt120 => (if x8_1 > 0 then ((spec_l1Cur_one.f s0_0 bt120.2.1 bt120.2.2 2).bind fun bt123 => (spec_l1Cur_areaMap.j1 k1 a1 a2 x8_1 bt120.1 bt123.1 s0_0 bt123.2.1 bt123.2.2 a1 a2 x117002_1)) else (spec_l1Cur_areaMap.j1 k1 a1 a2 x8_1 bt120.1 false s0_0 bt120.2.1 bt120.2.2 a1 a2 x117002_1))) = some (r1, r2, r3, r4, r5) := zqH hy117 H
  have Ny117 := Aside0.mk hy117
  clear hy117
  replace H := Option.bind_eq_some_iff.mp H
  obtain ⟨⟨t120, t121, t122⟩, A100, H⟩ := H
  replace H : (if x8_1 > 0 then ((spec_l1Cur_one.f s0_0 t121 t122 2).bind fun bt123 => (spec_l1Cur_areaMap.j1 k1 a1 a2 x8_1 t120 bt123.1 s0_0 bt123.2.1 bt123.2.2 a1 a2 x117002_1)) else (spec_l1Cur_areaMap.j1 k1 a1 a2 x8_1 t120 false s0_0 t121 t122 a1 a2 x117002_1)) = some (r1, r2, r3, r4, r5) := H
  have A10 := Aside0.mk A100
  clear A100
  have HC11 := Aside0.mk H
  clear H
  go_upto_region 6 with (first | ((with_reducible refine gate_dst (N := 21) rfl ?_); refine Kd.R_lit (Kd.int .i64) _ 3 ?hg (N := 21) ?hd (xs := ([0, 1, 2, 3, 1, 2, 9] : List Int)) (inner := [.int .i64 0, .int .i64 1, .int .i64 2, .int .i64 3, .int .i64 1, .int .i64 2, .int .i64 9]) (ok := fun _ => True) (okp := fun _ => True) ?hr ?hp (fun _ hk => hk) trivial (Below.refl _ _) (Nat.le_refl _) (by simp) ?_; (case hd => rfl); (case hg => rfl); (case hr => exact zqS); (case hp => exact (Reps.one (show Kd.M (Kd.int .i64) _ _ _ 0 [.int .i64 0] from rfl) (Reps.one (show Kd.M (Kd.int .i64) _ _ _ 1 [.int .i64 1] from rfl) (Reps.one (show Kd.M (Kd.int .i64) _ _ _ 2 [.int .i64 2] from rfl) (Reps.one (show Kd.M (Kd.int .i64) _ _ _ 3 [.int .i64 3] from rfl) (Reps.one (show Kd.M (Kd.int .i64) _ _ _ 1 [.int .i64 1] from rfl) (Reps.one (show Kd.M (Kd.int .i64) _ _ _ 2 [.int .i64 2] from rfl) (Reps.one (show Kd.M (Kd.int .i64) _ _ _ 9 [.int .i64 9] from rfl) (Reps.none _ _))))))))); intro v118 w12 ho13 hb hg_ hnew_; clear hg_ hnew_; (first | rw [← Ny117.out] at ho13 | (simp only [Int.reduceToNat] at ho13; rw [← Ny117.out] at ho13)); have HO119 := Aside0.mk (Kd.R_lower (Kd.R_new' ho13 (Kd.R_lt (zqR HO_117002.out))) (keep_size (w := w) (g := g) (row := none) zq4)); replace HO_117002 := Aside0.mk (Kd.R_elder' (zqR HO_117002.out) (Kd.R_base ho13) hb); replace BK115 := Aside0.mk (blk_below (g := gb115) (o := .cells #[.int .i64 0, .int .i64 0, .slice none 0 0] 26 (0, 0)) (zqK BK115.out) hb); replace BK116 := Aside0.mk (blk_below (g := gb116) (o := .cells #[.int .i64 a1, .int .i64 a2, u117002] 26 (0, 0)) (zqK BK116.out) hb); replace HK := Aside0.mk (KeepBut.trans zq4 (KeepBut.of_below hb g none) (.inl rfl)); replace HB := Aside0.mk (below_step zq12 hb); replace HI0 := Aside0.mk (IsS59.below zq11 hb); clear hb ho13; obtain ⟨Ao14, co14, eo14⟩ := Kd.R_slice HO119.out; subst eo14) | ((with_reducible refine gate_callee (f := 53) rfl ?_); refine goesL_ (some 22) rfl rfl Try.func53 (by kernel_rfl) rfl #[.pointer (some ⟨g, 0, none⟩), .slice Ao14 y117.length co14] rfl zq1 ?_; (with_reducible refine (spec_l1Cur_among.calls g s0_0 x1001_1 x1002_1 _ _ y117 t120 t121 t122 w0 _ ?side1 ?side2 ?side3 ?side4 ?side5 A10.out).mono ?_); (case side1 => repeat (first | (with_reducible first | exact HI0.out | apply IsS59.alloc | apply IsS59.drewN | apply IsS59.drew | apply IsS59.set_1 | apply IsS59.set_2 | refine IsS59.far ?_ NB0_115.out _ | refine IsS59.far ?_ NB0_116.out _) | exact HI0.out)); (case side2 => repeat (first | (with_reducible first | exact HB.out | apply below_alloc | apply pw_below_drewN | apply below_drew1 | refine below_set ?_ (IsS59.ge HI0.out) | refine below_set ?_ GE115.out | refine below_set ?_ GE116.out) | exact HB.out)); (case side3 => exact zqC (Kd.R_reads' HO119.out).2.2); (case side4 => exact (Kd.R_reads' HO119.out).2.1); (case side5 => exact far_slice (IsS59.own_ne HI0.out HO119.out (by decide))); rintro e w15 ⟨rfl, hi, hb, hk⟩; refine ⟨_, rfl, ?_⟩; replace HO_117002 := Aside0.mk (Kd.R_mono (Kd.R_keep (IsS59.apart (show IsS59 w0 _ g s0_0 x1001_1 x1002_1 from by repeat (first | (with_reducible first | exact HI0.out | apply IsS59.alloc | apply IsS59.drewN | apply IsS59.drew | apply IsS59.set_1 | apply IsS59.set_2 | refine IsS59.far ?_ NB0_115.out _ | refine IsS59.far ?_ NB0_116.out _) | exact HI0.out)) (zqR HO_117002.out) (by decide)) hk (fun _ h => h.2)) (fun _ h => h.1)); replace BK115 := Aside0.mk (KeepBut.blk hk (g' := gb115) (o := .cells #[.int .i64 0, .int .i64 0, .slice none 0 0] 26 (0, 0)) (zqK BK115.out) NB115_0.out (by simp)); replace BK116 := Aside0.mk (KeepBut.blk hk (g' := gb116) (o := .cells #[.int .i64 a1, .int .i64 a2, u117002] 26 (0, 0)) (zqK BK116.out) NB116_0.out (by simp)); replace HO119 := Aside0.mk (Kd.R_mono (Kd.R_keep (IsS59.apart (show IsS59 w0 _ g s0_0 x1001_1 x1002_1 from by repeat (first | (with_reducible first | exact HI0.out | apply IsS59.alloc | apply IsS59.drewN | apply IsS59.drew | apply IsS59.set_1 | apply IsS59.set_2 | refine IsS59.far ?_ NB0_115.out _ | refine IsS59.far ?_ NB0_116.out _) | exact HI0.out)) (zqR HO119.out) (by decide)) hk (fun _ h => h.2)) (fun _ h => h.1)); replace HK := Aside0.mk (KeepBut.trans zq4 hk (.inl rfl)); replace HB := Aside0.mk (hb); replace HI0 := Aside0.mk (hi); (try clear hb); (try clear hb2); (try clear hk); (try clear hi)))
  (try simp only [Act.put, List.setIfInBounds_toArray, List.set_cons_zero, List.set_cons_succ])
  go_cut [28] (fun v28 wc => ∃ (kq : Nat) (x28_10 : Bool) (x1001_10 : Int) (x1002_10 : Int), v28 = .bool x28_10 ∧ Aside0 (spec_l1Cur_areaMap.j1 kq a1 a2 x8_1 t120 x28_10 s0_0 x1001_10 x1002_10 a1 a2 x117002_1 = some (r1, r2, r3, r4, r5)) ∧ Aside0 (kq ≤ k1) ∧ Aside0 (Kd.R (Kd.int .i64) 3 wc w.heap.size (fun _ => True) u117002 x117002_1) ∧ Aside0 (wc.heap[gb115]? = some (.cells #[.int .i64 0, .int .i64 0, (.slice none 0 0)] 26 (0, 0))) ∧ Aside0 (wc.heap[gb116]? = some (.cells #[.int .i64 a1, .int .i64 a2, u117002] 26 (0, 0))) ∧ Aside0 (IsS59 w0 wc g s0_0 x1001_10 x1002_10) ∧ Aside0 (KeepBut w wc g none) ∧ Aside0 (Below w0.heap.size w0 wc))
  case first =>
   have H := HC11.out
   clear HC11
   by_cases c16 : x8_1 > 0
   case neg =>
    rw [if_neg c16] at H
    have c16b0 : decide (0 < x8_1) = false := decide_eq_false c16
    clear c16
    (first | rw [c16b0] | (simp only [i64_w, i32_w]; rw [c16b0]) | skip)
    have H' := Aside0.mk H
    clear H
    go_wp2
    go_meet
    case rel => exact ⟨_, (false), (t121), (t122), (by first | rfl | (simp; done) | (simp [*]; done)), H', ⟨by have := HK1.out; first | omega | exact Nat.le_refl _⟩, ⟨by (with_reducible repeat (first | apply Kd.R_alloc | apply Kd.R_drewN | apply Kd.R_drew)); exact Kd.R_mono HO_117002.out (fun _ hk => trivial)⟩, ⟨by (with_reducible repeat (first | refine blk_drewN ?_ _ | refine blk_drew ?_ | refine blk_alloc ?_ _)); exact BK115.out⟩, ⟨by (with_reducible repeat (first | refine blk_drewN ?_ _ | refine blk_drew ?_ | refine blk_alloc ?_ _)); exact BK116.out⟩, ⟨zq11⟩, ⟨zq4⟩, ⟨zq12⟩⟩
   rw [if_pos c16] at H
   have c16b0 : decide (0 < x8_1) = true := decide_eq_true c16
   clear c16
   (first | rw [c16b0] | (simp only [i64_w, i32_w]; rw [c16b0]) | skip)
   replace H := Option.bind_eq_some_iff.mp H
   obtain ⟨⟨t123, t124, t125⟩, A170, H⟩ := H
   replace H : (spec_l1Cur_areaMap.j1 k1 a1 a2 x8_1 t120 t123 s0_0 t124 t125 a1 a2 x117002_1) = some (r1, r2, r3, r4, r5) := H
   have A17 := Aside0.mk A170
   clear A170
   have H' := Aside0.mk H
   clear H
   go_wp2_with (first | (go_at_call 54; (with_reducible refine (spec_l1Cur_one.calls g s0_0 t121 t122 2 t123 t124 t125 w0 _ ?side1 ?side2 A17.out).mono ?_); (case side1 => repeat (first | (with_reducible first | exact HI0.out | apply IsS59.alloc | apply IsS59.drewN | apply IsS59.drew | apply IsS59.set_1 | apply IsS59.set_2 | refine IsS59.far ?_ NB0_115.out _ | refine IsS59.far ?_ NB0_116.out _) | exact HI0.out)); (case side2 => repeat (first | (with_reducible first | exact HB.out | apply below_alloc | apply pw_below_drewN | apply below_drew1 | refine below_set ?_ (IsS59.ge HI0.out) | refine below_set ?_ GE115.out | refine below_set ?_ GE116.out) | exact HB.out)); rintro e w18 ⟨rfl, hi, hb, hk⟩; replace HO_117002 := Aside0.mk (Kd.R_mono (Kd.R_keep (IsS59.apart (show IsS59 w0 _ g s0_0 t121 t122 from by repeat (first | (with_reducible first | exact HI0.out | apply IsS59.alloc | apply IsS59.drewN | apply IsS59.drew | apply IsS59.set_1 | apply IsS59.set_2 | refine IsS59.far ?_ NB0_115.out _ | refine IsS59.far ?_ NB0_116.out _) | exact HI0.out)) (zqR HO_117002.out) (by decide)) hk (fun _ h => h.2)) (fun _ h => h.1)); replace BK115 := Aside0.mk (KeepBut.blk hk (g' := gb115) (o := .cells #[.int .i64 0, .int .i64 0, .slice none 0 0] 26 (0, 0)) (zqK BK115.out) NB115_0.out (by simp)); replace BK116 := Aside0.mk (KeepBut.blk hk (g' := gb116) (o := .cells #[.int .i64 a1, .int .i64 a2, u117002] 26 (0, 0)) (zqK BK116.out) NB116_0.out (by simp)); replace HO119 := Aside0.mk (Kd.R_mono (Kd.R_keep (IsS59.apart (show IsS59 w0 _ g s0_0 t121 t122 from by repeat (first | (with_reducible first | exact HI0.out | apply IsS59.alloc | apply IsS59.drewN | apply IsS59.drew | apply IsS59.set_1 | apply IsS59.set_2 | refine IsS59.far ?_ NB0_115.out _ | refine IsS59.far ?_ NB0_116.out _) | exact HI0.out)) (zqR HO119.out) (by decide)) hk (fun _ h => h.2)) (fun _ h => h.1)); replace HK := Aside0.mk (KeepBut.trans zq4 hk (.inl rfl)); replace HB := Aside0.mk (hb); replace HI0 := Aside0.mk (hi); (try clear hb); (try clear hb2); (try clear hk); (try clear hi)))
   go_meet
   case rel => exact ⟨_, (t123), (t124), (t125), (by first | rfl | (simp; done) | (simp [*]; done)), H', ⟨by have := HK1.out; first | omega | exact Nat.le_refl _⟩, ⟨by (with_reducible repeat (first | apply Kd.R_alloc | apply Kd.R_drewN | apply Kd.R_drew)); exact Kd.R_mono HO_117002.out (fun _ hk => trivial)⟩, ⟨by (with_reducible repeat (first | refine blk_drewN ?_ _ | refine blk_drew ?_ | refine blk_alloc ?_ _)); exact BK115.out⟩, ⟨by (with_reducible repeat (first | refine blk_drewN ?_ _ | refine blk_drew ?_ | refine blk_alloc ?_ _)); exact BK116.out⟩, ⟨zq11⟩, ⟨zq4⟩, ⟨zq12⟩⟩
  clear HC11
  try clear c1
  try clear p2
  try clear c5
  try clear c6
  try clear p6
  try clear c7
  try clear c9
  try clear c9b0
  try clear c16
  try clear c16b0
  try clear hcz8_0
  try clear hcz8_1
  try clear hcz8_2
  try clear hfz8_0
  try clear hfz8_1
  try clear hfz8_2
  try clear p2
  obtain ⟨kq, x28_10, x1001_10, x1002_10, rfl, HA, HJ10, HO_117002, BK115, BK116, HI0, HK, HB⟩ := hcut
  cases kq with
  | zero => exact absurd HA.out (by simp [spec_l1Cur_areaMap.j1])
  | succ kj10 =>
   have H := HA.out
   clear HA
   simp only [spec_l1Cur_areaMap.j1] at H
   by_cases c19 : x28_10 = true
   case pos =>
    subst c19
    have H1 : (if 0 ≤ (wrap64 (x8_1 - 1)) then (if (wrap64 (x8_1 - 1)) < (x117002_1.length : Int) then (if x117002_1.length < 17592186044416 then (spec_l1Cur_areaMap.l0 kj10 a1 a2 (wrap64 (x8_1 + 1)) s0_0 x1001_10 x1002_10 a1 a2 (x117002_1 ++ [rd x117002_1 (wrap64 (x8_1 - 1))])) else (none)) else (none)) else (none)) = some (r1, r2, r3, r4, r5) := by rw [if_pos rfl] at H; exact H
    clear H
    have H := H1
    clear H1
    obtain ⟨ji20, hji20⟩ : ∃ j_ : Int, (wrap64 (x8_1 - 1)) = j_ := ⟨_, rfl⟩
    replace H : (if 0 ≤ (ji20) then (if (ji20) < (x117002_1.length : Int) then (if x117002_1.length < 17592186044416 then (spec_l1Cur_areaMap.l0 kj10 a1 a2 (wrap64 (x8_1 + 1)) s0_0 x1001_10 x1002_10 a1 a2 (x117002_1 ++ [rd x117002_1 (ji20)])) else (none)) else (none)) else (none)) = some (r1, r2, r3, r4, r5) := by first | (rw [hji20] at H; exact H) | (simp only [hji20] at H ⊢; exact H)
    have hji20w : (IntKind.i64.wrap (x8_1 - 1)) = ji20 := (i64_w _).trans hji20
    by_cases c21 : 0 ≤ (ji20)
    case neg =>
     rw [if_neg c21] at H
     exact absurd H (by simp)
    rw [if_pos c21] at H
    have c21b0 : decide (0 ≤ (ji20)) = true := decide_eq_true c21
    clear c21
    by_cases c22 : (ji20) < (x117002_1.length : Int)
    case neg =>
     rw [if_neg c22] at H
     exact absurd H (by simp)
    rw [if_pos c22] at H
    have c22b0 : decide ((ji20) < (x117002_1.length : Int)) = true := decide_eq_true c22
    clear c22
    by_cases c23 : x117002_1.length < 17592186044416
    case neg =>
     rw [if_neg c23] at H
     exact absurd H (by simp)
    rw [if_pos c23] at H
    have LMc23 := Aside0.mk c23
    clear c23
    obtain ⟨y127, hy127⟩ : ∃ y_ : List Int, y_ = (x117002_1 ++ [rd x117002_1 (ji20)]) := ⟨_, rfl⟩
    replace H : (spec_l1Cur_areaMap.l0 kj10 a1 a2 (wrap64 (x8_1 + 1)) s0_0 x1001_10 x1002_10 a1 a2 y127) = some (r1, r2, r3, r4, r5) := zqH hy127 H
    have Ny127 := Aside0.mk hy127
    clear hy127
    have H' := Aside0.mk H
    clear H
    have hnb24 := NB116_115.out
    have hnc24 := NB115_116.out
    have hnb25 := NB116_0.out
    have hnc25 := NB0_116.out
    have hcz26_0 := bz BK116.out 0 (.int .i64 a1)
    have hcz26_1 := bz BK116.out 1 (.int .i64 a2)
    have hcz26_2 := bz BK116.out 2 (u117002)
    have hfz26_0 := blk_frozen BK116.out 0
    have hfz26_1 := blk_frozen BK116.out 1
    have hfz26_2 := blk_frozen BK116.out 2
    obtain ⟨Ao27, co27, eo27⟩ := Kd.R_slice HO_117002.out
    subst eo27
    have p126 : 0 ≤ ((ji20) : Int) := of_decide_eq_true zq10
    have q126 : (ji20) < (x117002_1.length : Int) := of_decide_eq_true zq10
    obtain ⟨ad126, e126, hx126_0⟩ := Kd.at_int (Kd.R_reads' HO_117002.out).2.2 (ji20) p126 q126
    cases e126
    replace p126 := eq_true p126
    replace q126 := eq_true q126
    go_wp2_with (first | ((with_reducible refine gate_builtin (b := .append) (xs := #[.tmp 50, .tmp 52]) rfl ?_); at_builtin; refine Kd.R_append (Kd.int .i64) w.heap.size rfl (.tmp 50) (.tmp 52) 24 3 (.int .i64 0) 8 rfl Try.underlying24 info3 rfl (by decide) (by omega) (.slice (some ad126) x117002_1.length co27) x117002_1 (rd x117002_1 (ji20)) [.int .i64 (rd x117002_1 (ji20))] (fun _ => True) (fun _ => False) rfl rfl ?aP (fun _ hk => hk.elim) ?aF ?aO (Below.refl _ _) ?aS ?aL ?_; (case aP => exact rfl); (case aF => exact (fun _ _ => trivial)); (case aO => exact (zqR HO_117002.out)); (case aS => exact (keep_size (w := w) (g := g) (row := none) zq4)); (case aL => have := LMc23.out; omega); intro v128 w28 ho hb hg hat; rw [← Ny127.out] at ho; replace BK115 := Aside0.mk (blk_grown (g := gb115) (o := .cells #[.int .i64 0, .int .i64 0, .slice none 0 0] 26 (0, 0)) (zqK BK115.out) hg (Kd.R_ne HO_117002.out BK115.out (by decide))); replace BK116 := Aside0.mk (blk_grown (g := gb116) (o := .cells #[.int .i64 a1, .int .i64 a2, .slice (some ad126) x117002_1.length co27] 26 (0, 0)) (zqK BK116.out) hg (Kd.R_ne HO_117002.out BK116.out (by decide))); replace HB := Aside0.mk (below_weaken zq12 HL.out hb); replace HI0 := Aside0.mk (IsS59.grown zq11 hg (IsS59.own_ne HI0.out HO_117002.out (by decide))); replace HK := Aside0.mk (KeepBut.trans zq4 (KeepBut.of_grown hg g) (Kd.R_base2 HO_117002.out)); have HO129 := Aside0.mk (ho); clear HO_117002; clear ho hb hg hat; obtain ⟨Ao29, co29, eo29⟩ := Kd.R_slice HO129.out; subst eo29; have hcz30_0 := bz BK116.out 0 (.int .i64 a1); have hcz30_1 := bz BK116.out 1 (.int .i64 a2); have hcz30_2 := bz BK116.out 2 (.slice (some ad126) x117002_1.length co27); have hfz30_0 := blk_frozen BK116.out 0; have hfz30_1 := blk_frozen BK116.out 1; have hfz30_2 := blk_frozen BK116.out 2))
    go_roundg kj10
    case measure => have := HK1.out; have := HJ10.out; omega
    case rel => exact ⟨(wrap64 (x8_1 + 1)), (x1001_10), (x1002_10), (y127), (.slice Ao29 y127.length co29), (by first | rfl | (simp; done) | (simp [*]; done)), H', ⟨by have := HK1.out; have := HJ10.out; omega⟩, ⟨by (with_reducible repeat (first | apply Kd.R_alloc | apply Kd.R_drewN | apply Kd.R_drew)); exact Kd.R_mono (Kd.R_far (p := ⟨gb116, 2, none⟩) (Kd.R_types HO129.out BK116.out (by decide)) (fun _ hk => hk.2) (.slice Ao29 y127.length co29)) (fun _ hk => trivial)⟩, ⟨by (with_reducible repeat (first | refine blk_drewN ?_ _ | refine blk_drew ?_ | refine blk_alloc ?_ _)); refine blk_far ?_ NB115_116.out _; (with_reducible repeat (first | refine blk_drewN ?_ _ | refine blk_drew ?_ | refine blk_alloc ?_ _)); exact BK115.out⟩, ⟨by (with_reducible repeat (first | refine blk_drewN ?_ _ | refine blk_drew ?_ | refine blk_alloc ?_ _)); refine blk_put (cs := #[.int .i64 a1, .int .i64 a2, .slice (some ad126) x117002_1.length co27]) ?_ 2 _ rfl; (with_reducible repeat (first | refine blk_drewN ?_ _ | refine blk_drew ?_ | refine blk_alloc ?_ _)); exact BK116.out⟩, ⟨zq11⟩, ⟨zq4⟩, ⟨zq12⟩⟩
   replace c19 := Bool.eq_false_iff.mpr c19
   subst c19
   have H1 : (if x8_1 ≥ a1 then ((spec_l1Cur_one.f s0_0 x1001_10 x1002_10 2).bind fun bt130 => (if bt130.1 = true then (if 0 ≤ (wrap64 (x8_1 - a1)) then (if (wrap64 (x8_1 - a1)) < (x117002_1.length : Int) then (if x117002_1.length < 17592186044416 then (spec_l1Cur_areaMap.l0 kj10 a1 a2 (wrap64 (x8_1 + 1)) s0_0 bt130.2.1 bt130.2.2 a1 a2 (x117002_1 ++ [rd x117002_1 (wrap64 (x8_1 - a1))])) else (none)) else (none)) else (none)) else (if x117002_1.length < 17592186044416 then (spec_l1Cur_areaMap.l0 kj10 a1 a2 (wrap64 (x8_1 + 1)) s0_0 bt130.2.1 bt130.2.2 a1 a2 (x117002_1 ++ [t120])) else (none)))) else (if x117002_1.length < 17592186044416 then (spec_l1Cur_areaMap.l0 kj10 a1 a2 (wrap64 (x8_1 + 1)) s0_0 x1001_10 x1002_10 a1 a2 (x117002_1 ++ [t120])) else (none))) = some (r1, r2, r3, r4, r5) := by rw [if_neg (show ¬ (false = true) by decide)] at H; exact H
   clear H
   have H := H1
   clear H1
   by_cases c31 : x8_1 ≥ a1
   case neg =>
    rw [if_neg c31] at H
    have c31b0 : decide (a1 ≤ x8_1) = false := decide_eq_false c31
    clear c31
    by_cases c54 : x117002_1.length < 17592186044416
    case neg =>
     rw [if_neg c54] at H
     exact absurd H (by simp)
    rw [if_pos c54] at H
    have LMc54 := Aside0.mk c54
    clear c54
    obtain ⟨y140, hy140⟩ : ∃ y_ : List Int, y_ = (x117002_1 ++ [t120]) := ⟨_, rfl⟩
    replace H : (spec_l1Cur_areaMap.l0 kj10 a1 a2 (wrap64 (x8_1 + 1)) s0_0 x1001_10 x1002_10 a1 a2 y140) = some (r1, r2, r3, r4, r5) := zqH hy140 H
    have Ny140 := Aside0.mk hy140
    clear hy140
    have H' := Aside0.mk H
    clear H
    have hnb55 := NB116_115.out
    have hnc55 := NB115_116.out
    have hnb56 := NB116_0.out
    have hnc56 := NB0_116.out
    have hcz57_0 := bz BK116.out 0 (.int .i64 a1)
    have hcz57_1 := bz BK116.out 1 (.int .i64 a2)
    have hcz57_2 := bz BK116.out 2 (u117002)
    have hfz57_0 := blk_frozen BK116.out 0
    have hfz57_1 := blk_frozen BK116.out 1
    have hfz57_2 := blk_frozen BK116.out 2
    go_wp2_with (first | ((with_reducible refine gate_builtin (b := .append) (xs := #[.tmp 50, .tmp 52]) rfl ?_); at_builtin; refine Kd.R_append (Kd.int .i64) w.heap.size rfl (.tmp 50) (.tmp 52) 24 3 (.int .i64 0) 8 rfl Try.underlying24 info3 rfl (by decide) (by omega) u117002 x117002_1 t120 [.int .i64 t120] (fun _ => True) (fun _ => False) rfl rfl ?aP (fun _ hk => hk.elim) ?aF ?aO (Below.refl _ _) ?aS ?aL ?_; (case aP => exact rfl); (case aF => exact (fun _ _ => trivial)); (case aO => exact (zqR HO_117002.out)); (case aS => exact (keep_size (w := w) (g := g) (row := none) zq4)); (case aL => have := LMc54.out; omega); intro v141 w58 ho hb hg hat; rw [← Ny140.out] at ho; replace BK115 := Aside0.mk (blk_grown (g := gb115) (o := .cells #[.int .i64 0, .int .i64 0, .slice none 0 0] 26 (0, 0)) (zqK BK115.out) hg (Kd.R_ne HO_117002.out BK115.out (by decide))); replace BK116 := Aside0.mk (blk_grown (g := gb116) (o := .cells #[.int .i64 a1, .int .i64 a2, u117002] 26 (0, 0)) (zqK BK116.out) hg (Kd.R_ne HO_117002.out BK116.out (by decide))); replace HB := Aside0.mk (below_weaken zq12 HL.out hb); replace HI0 := Aside0.mk (IsS59.grown zq11 hg (IsS59.own_ne HI0.out HO_117002.out (by decide))); replace HK := Aside0.mk (KeepBut.trans zq4 (KeepBut.of_grown hg g) (Kd.R_base2 HO_117002.out)); have HO142 := Aside0.mk (ho); clear HO_117002; clear ho hb hg hat; obtain ⟨Ao59, co59, eo59⟩ := Kd.R_slice HO142.out; subst eo59; have hcz60_0 := bz BK116.out 0 (.int .i64 a1); have hcz60_1 := bz BK116.out 1 (.int .i64 a2); have hcz60_2 := bz BK116.out 2 (u117002); have hfz60_0 := blk_frozen BK116.out 0; have hfz60_1 := blk_frozen BK116.out 1; have hfz60_2 := blk_frozen BK116.out 2))
    go_roundg kj10
    case measure => have := HK1.out; have := HJ10.out; omega
    case rel => exact ⟨(wrap64 (x8_1 + 1)), (x1001_10), (x1002_10), (y140), (.slice Ao59 y140.length co59), (by first | rfl | (simp; done) | (simp [*]; done)), H', ⟨by have := HK1.out; have := HJ10.out; omega⟩, ⟨by (with_reducible repeat (first | apply Kd.R_alloc | apply Kd.R_drewN | apply Kd.R_drew)); exact Kd.R_mono (Kd.R_far (p := ⟨gb116, 2, none⟩) (Kd.R_types HO142.out BK116.out (by decide)) (fun _ hk => hk.2) (.slice Ao59 y140.length co59)) (fun _ hk => trivial)⟩, ⟨by (with_reducible repeat (first | refine blk_drewN ?_ _ | refine blk_drew ?_ | refine blk_alloc ?_ _)); refine blk_far ?_ NB115_116.out _; (with_reducible repeat (first | refine blk_drewN ?_ _ | refine blk_drew ?_ | refine blk_alloc ?_ _)); exact BK115.out⟩, ⟨by (with_reducible repeat (first | refine blk_drewN ?_ _ | refine blk_drew ?_ | refine blk_alloc ?_ _)); refine blk_put (cs := #[.int .i64 a1, .int .i64 a2, u117002]) ?_ 2 _ rfl; (with_reducible repeat (first | refine blk_drewN ?_ _ | refine blk_drew ?_ | refine blk_alloc ?_ _)); exact BK116.out⟩, ⟨zq11⟩, ⟨zq4⟩, ⟨zq12⟩⟩
   rw [if_pos c31] at H
   have c31b0 : decide (a1 ≤ x8_1) = true := decide_eq_true c31
   clear c31
   replace H := Option.bind_eq_some_iff.mp H
   obtain ⟨⟨t130, t131, t132⟩, A320, H⟩ := H
   replace H : (if t130 = true then (if 0 ≤ (wrap64 (x8_1 - a1)) then (if (wrap64 (x8_1 - a1)) < (x117002_1.length : Int) then (if x117002_1.length < 17592186044416 then (spec_l1Cur_areaMap.l0 kj10 a1 a2 (wrap64 (x8_1 + 1)) s0_0 t131 t132 a1 a2 (x117002_1 ++ [rd x117002_1 (wrap64 (x8_1 - a1))])) else (none)) else (none)) else (none)) else (if x117002_1.length < 17592186044416 then (spec_l1Cur_areaMap.l0 kj10 a1 a2 (wrap64 (x8_1 + 1)) s0_0 t131 t132 a1 a2 (x117002_1 ++ [t120])) else (none))) = some (r1, r2, r3, r4, r5) := H
   have A32 := Aside0.mk A320
   clear A320
   by_cases c33 : t130 = true
   case neg =>
    replace c33 := Bool.eq_false_iff.mpr c33
    subst c33
    have H1 : (if x117002_1.length < 17592186044416 then (spec_l1Cur_areaMap.l0 kj10 a1 a2 (wrap64 (x8_1 + 1)) s0_0 t131 t132 a1 a2 (x117002_1 ++ [t120])) else (none)) = some (r1, r2, r3, r4, r5) := by rw [if_neg (show ¬ (false = true) by decide)] at H; exact H
    clear H
    have H := H1
    clear H1
    by_cases c46 : x117002_1.length < 17592186044416
    case neg =>
     rw [if_neg c46] at H
     exact absurd H (by simp)
    rw [if_pos c46] at H
    have LMc46 := Aside0.mk c46
    clear c46
    obtain ⟨y137, hy137⟩ : ∃ y_ : List Int, y_ = (x117002_1 ++ [t120]) := ⟨_, rfl⟩
    replace H : (spec_l1Cur_areaMap.l0 kj10 a1 a2 (wrap64 (x8_1 + 1)) s0_0 t131 t132 a1 a2 y137) = some (r1, r2, r3, r4, r5) := zqH hy137 H
    have Ny137 := Aside0.mk hy137
    clear hy137
    have H' := Aside0.mk H
    clear H
    go_wp2_with (first | (go_at_call 54; (with_reducible refine (spec_l1Cur_one.calls g s0_0 x1001_10 x1002_10 2 false t131 t132 w0 _ ?side1 ?side2 A32.out).mono ?_); (case side1 => repeat (first | (with_reducible first | exact HI0.out | apply IsS59.alloc | apply IsS59.drewN | apply IsS59.drew | apply IsS59.set_1 | apply IsS59.set_2 | refine IsS59.far ?_ NB0_115.out _ | refine IsS59.far ?_ NB0_116.out _) | exact HI0.out)); (case side2 => repeat (first | (with_reducible first | exact HB.out | apply below_alloc | apply pw_below_drewN | apply below_drew1 | refine below_set ?_ (IsS59.ge HI0.out) | refine below_set ?_ GE115.out | refine below_set ?_ GE116.out) | exact HB.out)); rintro e w47 ⟨rfl, hi, hb, hk⟩; replace HO_117002 := Aside0.mk (Kd.R_mono (Kd.R_keep (IsS59.apart (show IsS59 w0 _ g s0_0 x1001_10 x1002_10 from by repeat (first | (with_reducible first | exact HI0.out | apply IsS59.alloc | apply IsS59.drewN | apply IsS59.drew | apply IsS59.set_1 | apply IsS59.set_2 | refine IsS59.far ?_ NB0_115.out _ | refine IsS59.far ?_ NB0_116.out _) | exact HI0.out)) (zqR HO_117002.out) (by decide)) hk (fun _ h => h.2)) (fun _ h => h.1)); replace BK115 := Aside0.mk (KeepBut.blk hk (g' := gb115) (o := .cells #[.int .i64 0, .int .i64 0, .slice none 0 0] 26 (0, 0)) (zqK BK115.out) NB115_0.out (by simp)); replace BK116 := Aside0.mk (KeepBut.blk hk (g' := gb116) (o := .cells #[.int .i64 a1, .int .i64 a2, u117002] 26 (0, 0)) (zqK BK116.out) NB116_0.out (by simp)); replace HK := Aside0.mk (KeepBut.trans zq4 hk (.inl rfl)); replace HB := Aside0.mk (hb); replace HI0 := Aside0.mk (hi); (try clear hb); (try clear hb2); (try clear hk); (try clear hi); have hnb48 := NB116_115.out; have hnc48 := NB115_116.out; have hnb49 := NB116_0.out; have hnc49 := NB0_116.out; have hcz50_0 := bz BK116.out 0 (.int .i64 a1); have hcz50_1 := bz BK116.out 1 (.int .i64 a2); have hcz50_2 := bz BK116.out 2 (u117002); have hfz50_0 := blk_frozen BK116.out 0; have hfz50_1 := blk_frozen BK116.out 1; have hfz50_2 := blk_frozen BK116.out 2) | ((with_reducible refine gate_builtin (b := .append) (xs := #[.tmp 50, .tmp 52]) rfl ?_); at_builtin; refine Kd.R_append (Kd.int .i64) w.heap.size rfl (.tmp 50) (.tmp 52) 24 3 (.int .i64 0) 8 rfl Try.underlying24 info3 rfl (by decide) (by omega) u117002 x117002_1 t120 [.int .i64 t120] (fun _ => True) (fun _ => False) rfl rfl ?aP (fun _ hk => hk.elim) ?aF ?aO (Below.refl _ _) ?aS ?aL ?_; (case aP => exact rfl); (case aF => exact (fun _ _ => trivial)); (case aO => exact (zqR HO_117002.out)); (case aS => exact (keep_size (w := w) (g := g) (row := none) zq4)); (case aL => have := LMc46.out; omega); intro v138 w51 ho hb hg hat; rw [← Ny137.out] at ho; replace BK115 := Aside0.mk (blk_grown (g := gb115) (o := .cells #[.int .i64 0, .int .i64 0, .slice none 0 0] 26 (0, 0)) (zqK BK115.out) hg (Kd.R_ne HO_117002.out BK115.out (by decide))); replace BK116 := Aside0.mk (blk_grown (g := gb116) (o := .cells #[.int .i64 a1, .int .i64 a2, u117002] 26 (0, 0)) (zqK BK116.out) hg (Kd.R_ne HO_117002.out BK116.out (by decide))); replace HB := Aside0.mk (below_weaken zq12 HL.out hb); replace HI0 := Aside0.mk (IsS59.grown zq11 hg (IsS59.own_ne HI0.out HO_117002.out (by decide))); replace HK := Aside0.mk (KeepBut.trans zq4 (KeepBut.of_grown hg g) (Kd.R_base2 HO_117002.out)); have HO139 := Aside0.mk (ho); clear HO_117002; clear ho hb hg hat; obtain ⟨Ao52, co52, eo52⟩ := Kd.R_slice HO139.out; subst eo52; have hcz53_0 := bz BK116.out 0 (.int .i64 a1); have hcz53_1 := bz BK116.out 1 (.int .i64 a2); have hcz53_2 := bz BK116.out 2 (u117002); have hfz53_0 := blk_frozen BK116.out 0; have hfz53_1 := blk_frozen BK116.out 1; have hfz53_2 := blk_frozen BK116.out 2))
    go_roundg kj10
    case measure => have := HK1.out; have := HJ10.out; omega
    case rel => exact ⟨(wrap64 (x8_1 + 1)), (t131), (t132), (y137), (.slice Ao52 y137.length co52), (by first | rfl | (simp; done) | (simp [*]; done)), H', ⟨by have := HK1.out; have := HJ10.out; omega⟩, ⟨by (with_reducible repeat (first | apply Kd.R_alloc | apply Kd.R_drewN | apply Kd.R_drew)); exact Kd.R_mono (Kd.R_far (p := ⟨gb116, 2, none⟩) (Kd.R_types HO139.out BK116.out (by decide)) (fun _ hk => hk.2) (.slice Ao52 y137.length co52)) (fun _ hk => trivial)⟩, ⟨by (with_reducible repeat (first | refine blk_drewN ?_ _ | refine blk_drew ?_ | refine blk_alloc ?_ _)); refine blk_far ?_ NB115_116.out _; (with_reducible repeat (first | refine blk_drewN ?_ _ | refine blk_drew ?_ | refine blk_alloc ?_ _)); exact BK115.out⟩, ⟨by (with_reducible repeat (first | refine blk_drewN ?_ _ | refine blk_drew ?_ | refine blk_alloc ?_ _)); refine blk_put (cs := #[.int .i64 a1, .int .i64 a2, u117002]) ?_ 2 _ rfl; (with_reducible repeat (first | refine blk_drewN ?_ _ | refine blk_drew ?_ | refine blk_alloc ?_ _)); exact BK116.out⟩, ⟨zq11⟩, ⟨zq4⟩, ⟨zq12⟩⟩
   subst c33
   have H1 : (if 0 ≤ (wrap64 (x8_1 - a1)) then (if (wrap64 (x8_1 - a1)) < (x117002_1.length : Int) then (if x117002_1.length < 17592186044416 then (spec_l1Cur_areaMap.l0 kj10 a1 a2 (wrap64 (x8_1 + 1)) s0_0 t131 t132 a1 a2 (x117002_1 ++ [rd x117002_1 (wrap64 (x8_1 - a1))])) else (none)) else (none)) else (none)) = some (r1, r2, r3, r4, r5) := by rw [if_pos rfl] at H; exact H
   clear H
   have H := H1
   clear H1
   obtain ⟨ji34, hji34⟩ : ∃ j_ : Int, (wrap64 (x8_1 - a1)) = j_ := ⟨_, rfl⟩
   replace H : (if 0 ≤ (ji34) then (if (ji34) < (x117002_1.length : Int) then (if x117002_1.length < 17592186044416 then (spec_l1Cur_areaMap.l0 kj10 a1 a2 (wrap64 (x8_1 + 1)) s0_0 t131 t132 a1 a2 (x117002_1 ++ [rd x117002_1 (ji34)])) else (none)) else (none)) else (none)) = some (r1, r2, r3, r4, r5) := by first | (rw [hji34] at H; exact H) | (simp only [hji34] at H ⊢; exact H)
   (try rw [hji34] at A32)
   have hji34w : (IntKind.i64.wrap (x8_1 - a1)) = ji34 := (i64_w _).trans hji34
   by_cases c35 : 0 ≤ (ji34)
   case neg =>
    rw [if_neg c35] at H
    exact absurd H (by simp)
   rw [if_pos c35] at H
   have c35b0 : decide (0 ≤ (ji34)) = true := decide_eq_true c35
   clear c35
   by_cases c36 : (ji34) < (x117002_1.length : Int)
   case neg =>
    rw [if_neg c36] at H
    exact absurd H (by simp)
   rw [if_pos c36] at H
   have c36b0 : decide ((ji34) < (x117002_1.length : Int)) = true := decide_eq_true c36
   clear c36
   by_cases c37 : x117002_1.length < 17592186044416
   case neg =>
    rw [if_neg c37] at H
    exact absurd H (by simp)
   rw [if_pos c37] at H
   have LMc37 := Aside0.mk c37
   clear c37
   obtain ⟨y134, hy134⟩ : ∃ y_ : List Int, y_ = (x117002_1 ++ [rd x117002_1 (ji34)]) := ⟨_, rfl⟩
   replace H : (spec_l1Cur_areaMap.l0 kj10 a1 a2 (wrap64 (x8_1 + 1)) s0_0 t131 t132 a1 a2 y134) = some (r1, r2, r3, r4, r5) := zqH hy134 H
   have Ny134 := Aside0.mk hy134
   clear hy134
   have H' := Aside0.mk H
   clear H
   go_wp2_with (first | (go_at_call 54; (with_reducible refine (spec_l1Cur_one.calls g s0_0 x1001_10 x1002_10 2 true t131 t132 w0 _ ?side1 ?side2 A32.out).mono ?_); (case side1 => repeat (first | (with_reducible first | exact HI0.out | apply IsS59.alloc | apply IsS59.drewN | apply IsS59.drew | apply IsS59.set_1 | apply IsS59.set_2 | refine IsS59.far ?_ NB0_115.out _ | refine IsS59.far ?_ NB0_116.out _) | exact HI0.out)); (case side2 => repeat (first | (with_reducible first | exact HB.out | apply below_alloc | apply pw_below_drewN | apply below_drew1 | refine below_set ?_ (IsS59.ge HI0.out) | refine below_set ?_ GE115.out | refine below_set ?_ GE116.out) | exact HB.out)); rintro e w38 ⟨rfl, hi, hb, hk⟩; replace HO_117002 := Aside0.mk (Kd.R_mono (Kd.R_keep (IsS59.apart (show IsS59 w0 _ g s0_0 x1001_10 x1002_10 from by repeat (first | (with_reducible first | exact HI0.out | apply IsS59.alloc | apply IsS59.drewN | apply IsS59.drew | apply IsS59.set_1 | apply IsS59.set_2 | refine IsS59.far ?_ NB0_115.out _ | refine IsS59.far ?_ NB0_116.out _) | exact HI0.out)) (zqR HO_117002.out) (by decide)) hk (fun _ h => h.2)) (fun _ h => h.1)); replace BK115 := Aside0.mk (KeepBut.blk hk (g' := gb115) (o := .cells #[.int .i64 0, .int .i64 0, .slice none 0 0] 26 (0, 0)) (zqK BK115.out) NB115_0.out (by simp)); replace BK116 := Aside0.mk (KeepBut.blk hk (g' := gb116) (o := .cells #[.int .i64 a1, .int .i64 a2, u117002] 26 (0, 0)) (zqK BK116.out) NB116_0.out (by simp)); replace HK := Aside0.mk (KeepBut.trans zq4 hk (.inl rfl)); replace HB := Aside0.mk (hb); replace HI0 := Aside0.mk (hi); (try clear hb); (try clear hb2); (try clear hk); (try clear hi); have hnb39 := NB116_115.out; have hnc39 := NB115_116.out; have hnb40 := NB116_0.out; have hnc40 := NB0_116.out; have hcz41_0 := bz BK116.out 0 (.int .i64 a1); have hcz41_1 := bz BK116.out 1 (.int .i64 a2); have hcz41_2 := bz BK116.out 2 (u117002); have hfz41_0 := blk_frozen BK116.out 0; have hfz41_1 := blk_frozen BK116.out 1; have hfz41_2 := blk_frozen BK116.out 2; obtain ⟨Ao42, co42, eo42⟩ := Kd.R_slice HO_117002.out; subst eo42; have p133 : 0 ≤ ((ji34) : Int) := of_decide_eq_true zq10; have q133 : (ji34) < (x117002_1.length : Int) := of_decide_eq_true zq10; obtain ⟨ad133, e133, hx133_0⟩ := Kd.at_int (Kd.R_reads' HO_117002.out).2.2 (ji34) p133 q133; cases e133; replace p133 := eq_true p133; replace q133 := eq_true q133) | ((with_reducible refine gate_builtin (b := .append) (xs := #[.tmp 50, .tmp 52]) rfl ?_); at_builtin; refine Kd.R_append (Kd.int .i64) w.heap.size rfl (.tmp 50) (.tmp 52) 24 3 (.int .i64 0) 8 rfl Try.underlying24 info3 rfl (by decide) (by omega) (.slice (some ad133) x117002_1.length co42) x117002_1 (rd x117002_1 (ji34)) [.int .i64 (rd x117002_1 (ji34))] (fun _ => True) (fun _ => False) rfl rfl ?aP (fun _ hk => hk.elim) ?aF ?aO (Below.refl _ _) ?aS ?aL ?_; (case aP => exact rfl); (case aF => exact (fun _ _ => trivial)); (case aO => exact (zqR HO_117002.out)); (case aS => exact (keep_size (w := w) (g := g) (row := none) zq4)); (case aL => have := LMc37.out; omega); intro v135 w43 ho hb hg hat; rw [← Ny134.out] at ho; replace BK115 := Aside0.mk (blk_grown (g := gb115) (o := .cells #[.int .i64 0, .int .i64 0, .slice none 0 0] 26 (0, 0)) (zqK BK115.out) hg (Kd.R_ne HO_117002.out BK115.out (by decide))); replace BK116 := Aside0.mk (blk_grown (g := gb116) (o := .cells #[.int .i64 a1, .int .i64 a2, .slice (some ad133) x117002_1.length co42] 26 (0, 0)) (zqK BK116.out) hg (Kd.R_ne HO_117002.out BK116.out (by decide))); replace HB := Aside0.mk (below_weaken zq12 HL.out hb); replace HI0 := Aside0.mk (IsS59.grown zq11 hg (IsS59.own_ne HI0.out HO_117002.out (by decide))); replace HK := Aside0.mk (KeepBut.trans zq4 (KeepBut.of_grown hg g) (Kd.R_base2 HO_117002.out)); have HO136 := Aside0.mk (ho); clear HO_117002; clear ho hb hg hat; obtain ⟨Ao44, co44, eo44⟩ := Kd.R_slice HO136.out; subst eo44; have hcz45_0 := bz BK116.out 0 (.int .i64 a1); have hcz45_1 := bz BK116.out 1 (.int .i64 a2); have hcz45_2 := bz BK116.out 2 (.slice (some ad133) x117002_1.length co42); have hfz45_0 := blk_frozen BK116.out 0; have hfz45_1 := blk_frozen BK116.out 1; have hfz45_2 := blk_frozen BK116.out 2))
   go_roundg kj10
   case measure => have := HK1.out; have := HJ10.out; omega
   case rel => exact ⟨(wrap64 (x8_1 + 1)), (t131), (t132), (y134), (.slice Ao44 y134.length co44), (by first | rfl | (simp; done) | (simp [*]; done)), H', ⟨by have := HK1.out; have := HJ10.out; omega⟩, ⟨by (with_reducible repeat (first | apply Kd.R_alloc | apply Kd.R_drewN | apply Kd.R_drew)); exact Kd.R_mono (Kd.R_far (p := ⟨gb116, 2, none⟩) (Kd.R_types HO136.out BK116.out (by decide)) (fun _ hk => hk.2) (.slice Ao44 y134.length co44)) (fun _ hk => trivial)⟩, ⟨by (with_reducible repeat (first | refine blk_drewN ?_ _ | refine blk_drew ?_ | refine blk_alloc ?_ _)); refine blk_far ?_ NB115_116.out _; (with_reducible repeat (first | refine blk_drewN ?_ _ | refine blk_drew ?_ | refine blk_alloc ?_ _)); exact BK115.out⟩, ⟨by (with_reducible repeat (first | refine blk_drewN ?_ _ | refine blk_drew ?_ | refine blk_alloc ?_ _)); refine blk_put (cs := #[.int .i64 a1, .int .i64 a2, .slice (some ad133) x117002_1.length co42]) ?_ 2 _ rfl; (with_reducible repeat (first | refine blk_drewN ?_ _ | refine blk_drew ?_ | refine blk_alloc ?_ _)); exact BK116.out⟩, ⟨zq11⟩, ⟨zq4⟩, ⟨zq12⟩⟩
end Go.Proofs.Ytoaclbbkllpdaaa.Q
