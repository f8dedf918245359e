/- What the types of the laws' arguments tell of their cells. -/
import Derived.Test.YthmkgdlmegohoaaQ0
import Derived.Test.YthmkgdlmegohoaaTells
namespace Go.Proofs.Ythmkgdlmegohoaa.Q
open Go.RowKit Go.Proofs.YthmkgdlmegohoaaW.PrintWords Go.Proofs.Ythmkgdlmegohoaa.Tells
def G87 (x : S87) : Prop := I64 x.f0 ∧ I64 x.f1 ∧ I64 x.f2
theorem tells87 : Tells Try.prog k87 87 G87 := tells_struct (d := _) Try.underlying87 (by kernel_rfl) (tellsAt_cons rfl rfl (by kernel_rfl) (tells_i64 Try.underlying3) (tellsAt_cons rfl rfl (by kernel_rfl) (tells_i64 Try.underlying3) (tellsAt_one rfl (by kernel_rfl) (tells_i64 Try.underlying3)))) (fun x : S87 => (x.f0, x.f1, x.f2)) (fun a => ⟨a.1, a.2.1, a.2.2⟩) (fun a => rfl)
def G24 (x : S24) : Prop := I64 x.f0 ∧ I64 x.f1 ∧ I64 x.f2 ∧ I64 x.f3 ∧ I64 x.f4 ∧ I64 x.f5
theorem tells24 : Tells Try.prog k24 24 G24 := tells_struct (d := _) Try.underlying24 (by kernel_rfl) (tellsAt_cons rfl rfl (by kernel_rfl) (tells_i64 Try.underlying3) (tellsAt_cons rfl rfl (by kernel_rfl) (tells_i64 Try.underlying3) (tellsAt_cons rfl rfl (by kernel_rfl) (tells_i64 Try.underlying3) (tellsAt_cons rfl rfl (by kernel_rfl) (tells_i64 Try.underlying3) (tellsAt_cons rfl rfl (by kernel_rfl) (tells_i64 Try.underlying3) (tellsAt_one rfl (by kernel_rfl) (tells_i64 Try.underlying3))))))) (fun x : S24 => (x.f0, x.f1, x.f2, x.f3, x.f4, x.f5)) (fun a => ⟨a.1, a.2.1, a.2.2.1, a.2.2.2.1, a.2.2.2.2.1, a.2.2.2.2.2⟩) (fun a => rfl)
end Go.Proofs.Ythmkgdlmegohoaa.Q
