/- A region that draws its order: what is held may grow on the way (a cell that a call of the region has made). -/
import Derived.Test.YtnibkkfjgmfpnaaDoorWLast
namespace Go.Proofs.YtnibkkfjgmfpnaaDoor.Q
open Go.Proofs.YtnibkkfjgmfpnaaDoorW.PrintLast
set_option linter.unusedVariables false
theorem wpAnyLast_more {P : Program} {md : Region.Mode} {ops : Array Oper} {Q : Exit → Act → World → Prop} {S S0 : World → Prop} (hS : ∀ w, S w → S0 w) :
    ∀ (n : Nat) (l : Array Bool) (a : Act) (w : World), S w → wpAnyLast P md ops Q S [] n l a w → wpAnyLast P md ops Q S0 [] n l a w
  | 0, _, _, _, _, h => h
  | n + 1, l, a, w, hw, h => ⟨h.1, fun i hi => wpOp_mono (fun a' w' h' => ⟨fun _ _ => hS _ (h'.1 List.not_mem_nil hw), wpAnyLast_more hS n _ a' w' (h'.1 List.not_mem_nil hw) h'.2⟩) (h.2 i hi)⟩
theorem more_ {P : Program} {md : Region.Mode} {ops : Array Oper} {Q : Exit → Act → World → Prop} {S0 : World → Prop} (S : World → Prop) {n : Nat} {l : Array Bool} {a : Act} {w : World} (hS : ∀ w, S w → S0 w) (hw : S w)
    (h : S w → wpAnyLast P md ops Q S [] n l a w) : wpAnyLast P md ops Q S0 [] n l a w := wpAnyLast_more hS n l a w hw (h hw)
end Go.Proofs.YtnibkkfjgmfpnaaDoor.Q
