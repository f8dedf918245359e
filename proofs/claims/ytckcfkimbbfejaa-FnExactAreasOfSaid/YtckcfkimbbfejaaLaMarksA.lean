/- The laws' marks in a map of areas. -/
import Derived.Test.YtckcfkimbbfejaaQf13
import Derived.Test.YtckcfkimbbfejaaLaArea
namespace Go.Proofs.Ytckcfkimbbfejaa.Q
open Go.RowKit Go.Proofs.YtckcfkimbbfejaaW.PrintWords Go.Proofs.Ytckcfkimbbfejaa.Gen
set_option linter.unusedVariables false
set_option linter.unusedSimpArgs false
theorem ev_markA (w h : Int) (l : List Int) (hl : l.length ≤ 1048576) : Ev (fun k => laws_markAreaMap.f k w h l 1) (1 + (l.length : Int), marks 1 l.length) := by
  unfold laws_markAreaMap.f
  exact Ev.bind (f := fun k t => _) (ev_markI l (by omega)) (Ev.now _)
end Go.Proofs.Ytckcfkimbbfejaa.Q
