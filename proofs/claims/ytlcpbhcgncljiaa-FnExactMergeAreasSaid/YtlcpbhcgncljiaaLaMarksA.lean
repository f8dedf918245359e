/- The laws' marks in a map of areas. -/
import Derived.Test.YtlcpbhcgncljiaaQf26
import Derived.Test.YtlcpbhcgncljiaaLaArea
import Derived.Test.YtlcpbhcgncljiaaQf22
namespace Go.Proofs.Ytlcpbhcgncljiaa.Q
open Go.RowKit Go.Proofs.YtlcpbhcgncljiaaW.PrintWords Go.Proofs.Ytlcpbhcgncljiaa.Gen
set_option linter.unusedVariables false
set_option linter.unusedSimpArgs false
theorem ev_markA (w h : Int) (l : List Int) (hl : l.length ≤ 1048576) : Ev (fun k => laws_markAreaMap.f k w h l 1) (1 + (l.length : Int), marks 1 l.length) := by
  unfold laws_markAreaMap.f
  exact Ev.bind (f := fun k t => _) (ev_markI l (by omega)) (Ev.now _)
theorem ev_heldA (w h : Int) (n : Nat) (hn : n ≤ 1048576) : Ev (fun k => laws_heldAreaMap.f k w h (marks 1 n) 1) (1 + (n : Int)) := by
  unfold laws_heldAreaMap.f
  exact Ev.bind (f := fun k t => _) (ev_heldI n (by omega)) (Ev.congr (fun k => if_neg (by omega)) (Ev.now _))
end Go.Proofs.Ytlcpbhcgncljiaa.Q
