/- Closed facts of the row. -/
import Derived.Test.YtooedghheiecnaaGreatDoorRows
import Derived.JoinedOf
import Derived.ProofKit
namespace Go.Proofs.YtooedghheiecnaaGreatDoor
open Go
set_option maxRecDepth 1000000
theorem kf3 : (Tryz.f4.params.all (Tryz.prog.readableRec ·)) = true := by kernel_rfl
theorem kf7 : ((Rows.certKnownRow.knobs == [])) = true := by kernel_rfl
theorem kf11 : ((Rows.certKnownRow.recurses == Tryz.prog.recurses 4)) = true := by kernel_rfl
theorem kf15 : ((Rows.certKnownRow.mapsOut == Tryz.prog.mapsAmong Tryz.f4.resultTypes.toList)) = true := by kernel_rfl
theorem kf19 : (Tryz.f4.resultTypes.all (fun t => Tryz.prog.readableRec t && decide (t < Tryz.prog.types.size))) = true := by kernel_rfl
theorem kf23 : (Rows.certKnownRow.shortTexts.isNone) = true := by kernel_rfl
theorem kf27 : ((Tryz.prog.make == some Rows.certKnownRow.make)) = true := by kernel_rfl
theorem kf31 : (Rows.certKnownRow.veiledFits Tryz.prog Tryz.f4.params.toList (Tryz.f4.params.toList ++ Rows.certKnownSpec.plain.varTypes Tryz.prog ++ Tryz.f4.resultTypes.toList)) = true := by kernel_rfl
end Go.Proofs.YtooedghheiecnaaGreatDoor
