/- What the types of the laws' arguments tell of their cells. -/
import Derived.Test.YtnibkkfjgmfpnaaDoorQ0
import Derived.Test.YtnibkkfjgmfpnaaDoorTells
namespace Go.Proofs.YtnibkkfjgmfpnaaDoor.Q
open Go.RowKit Go.Proofs.YtnibkkfjgmfpnaaDoorW.PrintWords Go.Proofs.YtnibkkfjgmfpnaaDoor.Tells
def G46 (x : S46) : Prop := I64 x.f0 ∧ I64 x.f1 ∧ I64 x.f2 ∧ I64 x.f3 ∧ I64 x.f4 ∧ I64 x.f5
theorem tells46 : Tells Tryd.prog k46 46 G46 := tells_struct (d := _) Tryd.underlying46 (by kernel_rfl) (tellsAt_cons rfl rfl (by kernel_rfl) (tells_i64 Tryd.underlying3) (tellsAt_cons rfl rfl (by kernel_rfl) (tells_i64 Tryd.underlying3) (tellsAt_cons rfl rfl (by kernel_rfl) (tells_i64 Tryd.underlying3) (tellsAt_cons rfl rfl (by kernel_rfl) (tells_i64 Tryd.underlying3) (tellsAt_cons rfl rfl (by kernel_rfl) (tells_i64 Tryd.underlying3) (tellsAt_one rfl (by kernel_rfl) (tells_i64 Tryd.underlying3))))))) (fun x : S46 => (x.f0, x.f1, x.f2, x.f3, x.f4, x.f5)) (fun a => ⟨a.1, a.2.1, a.2.2.1, a.2.2.2.1, a.2.2.2.2.1, a.2.2.2.2.2⟩) (fun a => rfl)
end Go.Proofs.YtnibkkfjgmfpnaaDoor.Q
