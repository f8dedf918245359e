/- From a reading of an argument as data to what a kind tells of its cells: for whole numbers, bools, strings, slices and structs of these. -/
import Derived.Test.YtckcfkimbbfejaaWMore
import Derived.Deep.Slices
import Derived.ChangeSame
import Derived.WideShapes
import Derived.ShutString
import Derived.OpenShut
namespace Go.Proofs.Ytckcfkimbbfejaa.Tells
open Go.RowKit Go.ChangeShapes Go.WideShapes Go.Deep Go.Proofs.YtckcfkimbbfejaaW.PrintWords
set_option linter.unusedVariables false
set_option linter.unusedSimpArgs false

/-- What reads as data at type t is told by kind d; and G holds. -/
def Tells {α : Type} (P : Program) (d : Kd α) (t : TypeId) (G : α → Prop) : Prop :=
  ∀ (H : Type) (enc : TypeId × Value → H) (w : World) (base : Nat) (spare : Nat → Bool) (held : Bool) (fuel : Nat) (cs : List Value) (x : DataW H × List MemPlace),
    DataW.trod enc P w base spare held fuel t cs = some x → ∃ a, d.K w a cs ∧ G a

variable {P : Program} {t e : TypeId}

theorem tells_int {k : IntKind} (ht : P.underlying t = some (.int k)) : Tells P (Kd.int k) t (fun n => (Lit.int k n).wf = true) := by
  intro H enc w base spare held fuel cs x h
  obtain ⟨n, rfl, _, hw⟩ := DataW.trod_int ht h
  exact ⟨n, rfl, hw⟩

theorem tells_string (ht : P.underlying t = some .string) : Tells P Kd.string t (fun s => s.size ≤ maxLen) := by
  intro H enc w base spare held fuel cs x h
  obtain ⟨s, rfl, _, hw⟩ := DataW.trod_string ht h
  exact ⟨s, rfl, hw⟩

theorem tells_bool (ht : P.underlying t = some .bool) : Tells P Kd.bool t (fun _ => True) := by
  intro H enc w base spare held fuel cs x h
  obtain ⟨s, rfl, _⟩ := DataW.trod_bool ht h
  exact ⟨s, rfl, trivial⟩

theorem tells_slice {α : Type} {d : Kd α} {G : α → Prop} (ht : P.underlying t = some (.slice e)) (hc : P.cellsOf e = d.sz) (hd : Tells P d e G) :
    Tells P (Kd.slice e d) t (fun l => l.length ≤ maxLen ∧ ∀ x ∈ l, G x) := by
  intro H enc w base spare held fuel cs x h
  rcases open_slice ht h with ⟨rfl, _⟩ | ⟨a, len, cap, m, n, D, Pl, rfl, hb, hl, hm, hmm, _, hi⟩
  · exact ⟨[], ⟨none, 0, rfl, Nat.le_refl _, rfl, by simp, fun h => absurd h (by simp)⟩, by simp, by simp⟩
  · have hlm : len ≤ m := by rw [hmm]; split <;> omega
    have hx : ∀ i, i < len → ∃ (p : α) , G p ∧ ∃ c : List Value, c.length = d.sz ∧ d.K w p c ∧ ∀ j u, c[j]? = some u → w.cell? (a.add (i * d.sz + j)) = some u := by
      intro i him
      obtain ⟨cs', hc', htr⟩ := hi i (by omega)
      obtain ⟨p, hK, hG⟩ := hd H enc w base spare held n cs' _ htr
      obtain ⟨_, hcl, hat⟩ := World.cells?_some hc'
      rw [hc] at hcl hat hc'
      refine ⟨p, hG, cs', hcl, hK, fun j u hu => ?_⟩
      have hjl : j < d.sz := by
        have := (List.getElem?_eq_some_iff.1 hu).1
        omega
      rw [← Go.Deep.add_add, hat j hjl, hu]
    by_cases h0 : len = 0
    · subst h0
      exact ⟨[], ⟨some a, cap, rfl, Nat.zero_le _, rfl, by simp, fun h => absurd h (by simp)⟩, by simp, by simp⟩
    · obtain ⟨p0, _⟩ := hx 0 (by omega)
      have : Inhabited α := ⟨p0⟩
      obtain ⟨f, hf⟩ := choose_lt (n := len) hx
      refine ⟨(List.range len).map f, ⟨some a, cap, by simp, by simpa using hl, by simp, by rw [List.length_map, List.length_range]; unfold maxLen at hm; omega, fun _ => ⟨a, rfl, fun j p hj => ?_⟩⟩, by simp; omega, ?_⟩
      · have hjl : j < len := by
          have := (List.getElem?_eq_some_iff.1 hj).1
          simpa using this
        simp [hjl] at hj
        subst hj
        obtain ⟨_, c, h1, h2, h3⟩ := hf j hjl
        exact ⟨c, h1, h2, h3⟩
      · intro x hx'
        obtain ⟨j, hj, rfl⟩ := List.mem_map.1 hx'
        exact (hf j (List.mem_range.1 hj)).1

/-- A number of Go's int. -/
def I64 (n : Int) : Prop := -9223372036854775808 ≤ n ∧ n ≤ 9223372036854775807
theorem tells_i64 (ht : P.underlying t = some (.int .i64)) : Tells P (Kd.int .i64) t I64 := by
  intro H enc w base spare held fuel cs x h
  obtain ⟨n, hK, hw⟩ := tells_int ht H enc w base spare held fuel cs x h
  exact ⟨n, hK, bounds_i64 hw⟩
theorem tells_u8 (ht : P.underlying t = some (.int .u8)) : Tells P (Kd.int .u8) t (fun n => 0 ≤ n ∧ n ≤ 255) := by
  intro H enc w base spare held fuel cs x h
  obtain ⟨n, hK, hw⟩ := tells_int ht H enc w base spare held fuel cs x h
  exact ⟨n, hK, bounds_u8 hw⟩

/-- The fields of a struct from a cell on. -/
def TellsAt {α : Type} (P : Program) (fs : List Field) (o : Nat) (d : Kd α) (G : α → Prop) : Prop :=
  ∀ (H : Type) (enc : TypeId × Value → H) (w : World) (base : Nat) (spare : Nat → Bool) (held : Bool) (n : Nat) (cs : List Value),
    cs.length = o + d.sz → (∀ f ∈ fs, ∃ y, DataW.trod enc P w base spare held n f.type ((cs.drop f.offset).take (P.cellsOf f.type)) = some y) → ∃ a, d.K w a (cs.drop o) ∧ G a

theorem tellsAt_one {α : Type} {d : Kd α} {G : α → Prop} {f : Field} {o : Nat} (ho : f.offset = o) (hc : P.cellsOf f.type = d.sz) (hd : Tells P d f.type G) : TellsAt P [f] o d G := by
  intro H enc w base spare held n cs hl h
  obtain ⟨y, hy⟩ := h f List.mem_cons_self
  rw [ho, hc, List.take_of_length_le (by rw [List.length_drop]; omega)] at hy
  exact hd H enc w base spare held n _ _ hy

theorem tellsAt_cons {α β : Type} {d : Kd α} {b : Kd β} {G : α → Prop} {G' : β → Prop} {f : Field} {fs : List Field} {o o' : Nat} (ho : f.offset = o) (ho' : o' = o + d.sz) (hc : P.cellsOf f.type = d.sz) (hd : Tells P d f.type G)
    (hr : TellsAt P fs o' b G') : TellsAt P (f :: fs) o (Kd.pair d b) (fun p => G p.1 ∧ G' p.2) := by
  intro H enc w base spare held n cs hl h
  subst ho'
  obtain ⟨y, hy⟩ := h f List.mem_cons_self
  rw [ho, hc] at hy
  obtain ⟨a, hK, hG⟩ := hd H enc w base spare held n _ _ hy
  have hsz : (Kd.pair d b).sz = d.sz + b.sz := rfl
  obtain ⟨a', hK', hG'⟩ := hr H enc w base spare held n cs (by omega) (fun g hg => h g (List.mem_cons_of_mem _ hg))
  refine ⟨(a, a'), ⟨_, _, ?_, hK, hK'⟩, hG, hG'⟩
  rw [← List.drop_drop, List.take_append_drop]

theorem tells_struct {α β : Type} {d : Kd α} {G : α → Prop} {fs : Array Field} (ht : P.underlying t = some (.struct fs)) (hc : P.cellsOf t = d.sz) (hd : TellsAt P fs.toList 0 d G) (f : β → α) (g : α → β) (hfg : ∀ a, f (g a) = a) :
    Tells P (Kd.iso d f) t (fun b => G (f b)) := by
  intro H enc w base spare held fuel cs x h
  obtain ⟨xs, n, _, rfl, hl, hlen, hf⟩ := DataW.trod_struct ht h
  obtain ⟨a, hK, hG⟩ := hd H enc w base spare held n cs (by omega) (fun q hq => by
    obtain ⟨i, hi⟩ := List.mem_iff_getElem?.1 hq
    have hi' : fs[i]? = some q := by rw [← hi, Array.getElem?_toList]
    have h1 := hf i q hi'
    have hil : i < xs.length := by
      have := (Array.getElem?_eq_some_iff.1 hi').1
      omega
    rw [List.getElem?_eq_getElem hil] at h1
    exact ⟨_, h1⟩)
  refine ⟨g a, ?_, ?_⟩
  · show d.K w (f (g a)) cs
    rw [hfg]
    simpa using hK
  · show G (f (g a))
    rw [hfg]; exact hG

/-- A slice argument. -/
theorem arg_slice {α : Type} {d : Kd α} {G : α → Prop} {H : Type} {enc : TypeId × Value → H} {w : World} {base : Nat} {spare : Nat → Bool} {held : Bool} {a : Option Addr} {len cap : Nat} {D : DataW H} {ps : List MemPlace}
    (hd : Tells P (Kd.slice e d) t (fun l => l.length ≤ maxLen ∧ ∀ x ∈ l, G x)) (h : DataW.Trod enc P w base spare held t (.slice a len cap) D ps) :
    ∃ l : List α, len = l.length ∧ Kd.C d w a l.length l ∧ l.length ≤ cap ∧ l.length ≤ maxLen ∧ ∀ x ∈ l, G x := by
  obtain ⟨fuel, hf⟩ := h
  obtain ⟨l, ⟨A, c, he, hle, hC⟩, hl, hG⟩ := hd H enc w base spare held fuel _ _ hf
  simp [Value.cells] at he
  obtain ⟨rfl, rfl, rfl⟩ := he
  exact ⟨l, rfl, hC, hle, hl, hG⟩

/-- A struct argument: its cells. -/
theorem arg_struct {α : Type} {d : Kd α} {G : α → Prop} {H : Type} {enc : TypeId × Value → H} {w : World} {base b0 : Nat} {r : Reach} {spare : Nat → Bool} {held : Bool} {v : Value} {D : DataW H} {ps : List MemPlace} {fs : Array Field}
    (hs : P.underlying t = some (.struct fs)) (hv : Value.okWide P w r b0 t v) (hd : Tells P d t G) (h : DataW.Trod enc P w base spare held t v D ps) :
    ∃ (x : α) (cs : List Value), v = .agg cs.toArray ∧ d.K w x cs ∧ G x := by
  obtain ⟨cs, rfl, hsz⟩ := okWide_struct hs hv
  obtain ⟨fuel, hf⟩ := h
  obtain ⟨x, hK, hG⟩ := hd H enc w base spare held fuel _ _ hf
  exact ⟨x, cs.toList, by simp, by simpa [Value.cells] using hK, hG⟩

end Go.Proofs.Ytckcfkimbbfejaa.Tells
