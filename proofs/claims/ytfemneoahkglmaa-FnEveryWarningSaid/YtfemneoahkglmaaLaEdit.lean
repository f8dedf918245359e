/- Copying a list of warnings, setting one, taking one out. -/
import Derived.Test.YtfemneoahkglmaaQf27
import Derived.Test.YtfemneoahkglmaaQf9
import Derived.Test.YtfemneoahkglmaaLaW
namespace Go.Proofs.Ytfemneoahkglmaa.Q
open Go.RowKit Go.Proofs.YtfemneoahkglmaaW.PrintWords Go.Proofs.Ytfemneoahkglmaa.Gen
set_option linter.unusedVariables false
set_option linter.unusedSimpArgs false
theorem getD_set (l : List S37) (q j : Nat) (hq : q < l.length) (y : S37) : (l.set q y).getD j z37 = if j = q then y else l.getD j z37 := by
  rw [List.getD_eq_getElem?_getD, List.getD_eq_getElem?_getD]
  by_cases e : j = q
  · subst e; rw [if_pos rfl, List.getElem?_set_self hq]; rfl
  · rw [if_neg e, List.getElem?_set_ne (by omega)]
theorem delete_f (l : List S37) (q : Nat) (hq : q < l.length) (hl : l.length ≤ 2097152) : impl_Warning_27.f l (q : Int) (wrap64 ((q : Int) + 1)) = some (l.eraseIdx q) := by
  unfold impl_Warning_27.f
  rw [if_pos ⟨by omega, by unfold wrap64; omega, by omega⟩, Int.toNat_natCast]
theorem erase_eq (l : List S37) (q : Nat) : l.eraseIdx q = l.take q ++ l.drop (q + 1) := List.eraseIdx_eq_take_drop_succ l q
theorem erase_len (l : List S37) (q : Nat) : (l.eraseIdx q).length ≤ l.length := by
  rw [List.length_eraseIdx]; split <;> omega
theorem clone_f (l : List S37) (hl : l.length ≤ 2097152) : impl_Warning_25.f l = some l := if_pos (by omega)
end Go.Proofs.Ytfemneoahkglmaa.Q
