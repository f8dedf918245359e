/- What the laid tables say of a world, and that it stays so; numbers as text. -/
import Derived.Test.YtnibkkfjgmfpnaaDoorSh
import Derived.Test.YtnibkkfjgmfpnaaDoorWMore
import Derived.Lib.AppendIntMem
import Derived.Lib.ItoaLen
import Derived.WalkSmall
import Derived.Stop.LaidErr
import Derived.LaidMore
import Derived.Lib.LaidTab
import Derived.ChangeBears2
import Derived.ChangeMaps5
namespace Go.Proofs.YtnibkkfjgmfpnaaDoor.Q
open Go.RowKit Go.Proofs.YtnibkkfjgmfpnaaDoorW.PrintWords
set_option linter.unusedVariables false
/-- The table of the powers of ten lies in the world. -/
def TabN (w : World) : Prop := Lib.TabIs Tryd.prog w "internal/strconv.uint64pow10" .u64 Lib.pow10Tab
theorem TabN.below {w w' : World} (h : TabN w) (hb : Below w.heap.size w w') : TabN w' := Lib.tabBelow_of_tabIs h w' hb
/-- A variable's cells stay below what a call makes. -/
theorem var_below {P : Program} {w w' : World} {name : String} {cs : Array Value} (h : w.var? P name = some cs) (hb : Below w.heap.size w w') : w'.var? P name = some cs := by
  unfold World.var? at *
  cases hg : P.globalNamed name with
  | none => simp [hg] at h
  | some g =>
    simp only [hg, Option.bind_some] at h ⊢
    have hlt : g < w.heap.size := by
      rcases Nat.lt_or_ge g w.heap.size with h' | h'
      · exact h'
      · rw [Array.getElem?_eq_none h'] at h; simp at h
    rw [hb.block g hlt]
    exact h
/-- A number in decimal. -/
def decS (n : Int) : ByteArray := ⟨(Lib.itoa n).toArray⟩
theorem decS_size (n : Int) (h0 : -9223372036854775808 ≤ n) (h1 : n ≤ 9223372036854775807) : (decS n).size ≤ 21 := by
  have := Lib.itoa_length_le n h0 h1
  show ((Lib.itoa n).toArray).size ≤ 21
  simpa using this
/-- Tables of texts: the words of the levels and of the topics. -/
def strTab (zs : List (List UInt8)) : Array Value := (zs.map fun z => Value.string ⟨z.toArray⟩).toArray
def levelT : List (List UInt8) := [[], [89, 101, 108, 108, 111, 119], [79, 114, 97, 110, 103, 101], [82, 101, 100]]
def topicT : List (List UInt8) := [[], [119, 105, 110, 100], [114, 97, 105, 110], [115, 110, 111, 119], [104, 101, 97, 116], [115, 116, 111, 114, 109]]
def TabL (w : World) : Prop := w.var? Tryd.prog "loop.example/g00889/impl.levelWords" = some (strTab levelT)
def TabO (w : World) : Prop := w.var? Tryd.prog "loop.example/g00889/impl.topicWords" = some (strTab topicT)
theorem TabL.below {w w' : World} (h : TabL w) (hb : Below w.heap.size w w') : TabL w' := var_below h hb
theorem TabO.below {w w' : World} (h : TabO w) (hb : Below w.heap.size w w') : TabO w' := var_below h hb
/-- The word at a place of a table. -/
def wordS (zs : List (List UInt8)) (i : Int) : ByteArray := ⟨(zs.getD i.toNat []).toArray⟩
theorem strTab_cell {P : Program} {w : World} {name : String} {zs : List (List UInt8)} {g : Nat} (h : w.var? P name = some (strTab zs)) (hg : P.globalNamed name = some g) (i : Int) (h1 : i.toNat < zs.length) :
    w.cell? ⟨g, i.toNat, none⟩ = some (.string (wordS zs i)) := by
  have := World.var?_cell hg h i.toNat
  rw [this]
  unfold strTab wordS
  simp [List.getD, h1]
theorem cells_of_strs {H : Type} {enc : TypeId × Value → H} {P : Program} {w : World} {base : Nat} {sp : Nat → Bool} {held : Bool} {fuel : Nat} {t e : TypeId} {n : Nat} {cs : List Value} {zs : List (List UInt8)} {p : List MemPlace}
    (ht : P.underlying t = some (.array n e)) (he : P.underlying e = some .string) (hce : P.cellsOf e = 1) (hct : P.cellsOf t = n)
    (h : DataW.trod enc P w base sp held fuel t cs = some (.agg (zs.map fun z => .lit (.string z)), p)) : cs = zs.map fun z => Value.string ⟨z.toArray⟩ := by
  cases fuel with
  | zero => simp [DataW.trod] at h
  | succ fuel =>
    simp only [DataW.trod, ht, hce, hct, Nat.mul_one] at h
    split at h
    · rename_i hl
      obtain ⟨xs, hm, hx⟩ := Option.map_eq_some_iff.1 h
      have hxs : xs.map (·.1) = zs.map fun z => (DataW.lit (.string z) : DataW H) := by
        have := congrArg Prod.fst hx
        simpa using this
      have hxl : xs.length = n := by simpa using Lib.mapM_length hm
      have hzl : zs.length = n := by
        have := congrArg List.length hxs
        simp at this
        omega
      apply List.ext_getElem?
      intro i
      by_cases hi : i < n
      · obtain ⟨b, hb, hf⟩ := Lib.mapM_at hm i i (by simp [hi])
        obtain ⟨s, hc, rfl, _⟩ := DataW.trod_string he hf
        have h1 : cs[i]? = some (.string s) := by
          have := congrArg (·[0]?) hc
          simpa [List.getElem?_take, List.getElem?_drop] using this
        have h2 : (xs.map (·.1))[i]? = some (DataW.lit (.string s.data.toList) : DataW H) := by simp [hb]
        rw [hxs] at h2
        simp only [List.getElem?_map, Option.map_eq_some_iff, DataW.lit.injEq, Lit.string.injEq] at h2
        obtain ⟨z', hz', hz2⟩ := h2
        simp [h1, hz', hz2]
      · rw [List.getElem?_eq_none (by omega), List.getElem?_eq_none (by simp; omega)]
    · cases h
theorem strs_of_head {P : Program} {W : World} {name : String} {zs : List (List UInt8)} {rest : List (String × DataW Unit)} {g : Nat} {t e : TypeId} {n : Nat}
    (hg : P.globalNamed name = some g) (hty : (P.globals[g]?).map (·.type) = some t) (ht : P.underlying t = some (.array n e)) (he : P.underlying e = some .string) (hce : P.cellsOf e = 1) (hct : P.cellsOf t = n)
    (h : laidMet P ((name, .agg (zs.map fun z => .lit (.string z))) :: rest) W) : W.var? P name = some (strTab zs) := by
  obtain ⟨ps, ⟨g', t', cs, fuel, p, q, hg', ht', hvar, hd, _, _⟩, _⟩ := h
  obtain rfl := Option.some.inj (hg.symm.trans hg')
  obtain rfl := Option.some.inj (hty.symm.trans ht')
  unfold strTab
  rw [hvar, ← cells_of_strs ht he hce hct hd]
theorem laidMet_drop {P : Program} {w : World} : ∀ (n : Nat) {l : List (String × DataW Unit)}, laidMet P l w → laidMet P (l.drop n) w
  | 0, _, h => h
  | _ + 1, [], h => h
  | n + 1, _ :: _, h => laidMet_drop n h.tail
end Go.Proofs.YtnibkkfjgmfpnaaDoor.Q
