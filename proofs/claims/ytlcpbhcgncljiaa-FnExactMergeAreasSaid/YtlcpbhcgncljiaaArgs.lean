/- What the types of the laws' arguments tell of their cells. -/
import Derived.Test.YtlcpbhcgncljiaaQ0
import Derived.Test.YtlcpbhcgncljiaaTells
namespace Go.Proofs.Ytlcpbhcgncljiaa.Q
open Go.RowKit Go.Proofs.YtlcpbhcgncljiaaW.PrintWords Go.Proofs.Ytlcpbhcgncljiaa.Tells
def G24 (x : S24) : Prop := I64 x.f0 ∧ I64 x.f1 ∧ (x.f2.length ≤ maxLen ∧ ∀ y ∈ x.f2, I64 y)
theorem tells24 : Tells Try.prog k24 24 G24 := tells_struct (d := _) Try.underlying24 (by kernel_rfl) (tellsAt_cons rfl rfl (by kernel_rfl) (tells_i64 Try.underlying3) (tellsAt_cons rfl rfl (by kernel_rfl) (tells_i64 Try.underlying3) (tellsAt_one rfl (by kernel_rfl) (tells_slice Try.underlying22 (by kernel_rfl) (tells_i64 Try.underlying3))))) (fun x : S24 => (x.f0, x.f1, x.f2)) (fun a => ⟨a.1, a.2.1, a.2.2⟩) (fun a => rfl)
def G43 (x : S43) : Prop := I64 x.f0 ∧ I64 x.f1 ∧ (x.f2.length ≤ maxLen ∧ ∀ y ∈ x.f2, I64 y)
theorem tells43 : Tells Try.prog k43 43 G43 := tells_struct (d := _) Try.underlying43 (by kernel_rfl) (tellsAt_cons rfl rfl (by kernel_rfl) (tells_i64 Try.underlying3) (tellsAt_cons rfl rfl (by kernel_rfl) (tells_i64 Try.underlying3) (tellsAt_one rfl (by kernel_rfl) (tells_slice Try.underlying22 (by kernel_rfl) (tells_i64 Try.underlying3))))) (fun x : S43 => (x.f0, x.f1, x.f2)) (fun a => ⟨a.1, a.2.1, a.2.2⟩) (fun a => rfl)
end Go.Proofs.Ytlcpbhcgncljiaa.Q
