/- What the types of the laws' arguments tell of their cells. -/
import Derived.Test.YtkoimngbmhlojaaDoorQ0
import Derived.Test.YtkoimngbmhlojaaDoorTells
namespace Go.Proofs.YtkoimngbmhlojaaDoor.Q
open Go.RowKit Go.Proofs.YtkoimngbmhlojaaDoorW.PrintWords Go.Proofs.YtkoimngbmhlojaaDoor.Tells
def G23 (x : S23) : Prop := I64 x.f0 ∧ I64 x.f1 ∧ I64 x.f2 ∧ I64 x.f3 ∧ I64 x.f4 ∧ I64 x.f5
theorem tells23 : Tells Tryd.prog k23 23 G23 := tells_struct (d := _) Tryd.underlying23 (by kernel_rfl) (tellsAt_cons rfl rfl (by kernel_rfl) (tells_i64 Tryd.underlying3) (tellsAt_cons rfl rfl (by kernel_rfl) (tells_i64 Tryd.underlying3) (tellsAt_cons rfl rfl (by kernel_rfl) (tells_i64 Tryd.underlying3) (tellsAt_cons rfl rfl (by kernel_rfl) (tells_i64 Tryd.underlying3) (tellsAt_cons rfl rfl (by kernel_rfl) (tells_i64 Tryd.underlying3) (tellsAt_one rfl (by kernel_rfl) (tells_i64 Tryd.underlying3))))))) (fun x : S23 => (x.f0, x.f1, x.f2, x.f3, x.f4, x.f5)) (fun a => ⟨a.1, a.2.1, a.2.2.1, a.2.2.2.1, a.2.2.2.2.1, a.2.2.2.2.2⟩) (fun a => rfl)
end Go.Proofs.YtkoimngbmhlojaaDoor.Q
