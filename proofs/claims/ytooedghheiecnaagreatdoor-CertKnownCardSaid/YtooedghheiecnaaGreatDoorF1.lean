/- Closed facts of the row. -/
import Derived.Test.YtooedghheiecnaaGreatDoorRows
import Derived.JoinedOf
import Derived.ProofKit
namespace Go.Proofs.YtooedghheiecnaaGreatDoor
open Go
set_option maxRecDepth 1000000
theorem kf1 : (laidOutB Tryz.prog) = true := by kernel_rfl
theorem kf5 : ((Rows.certKnownRow.stops == [])) = true := by kernel_rfl
theorem kf9 : ((Rows.certKnownRow.inPlace == Tryz.prog.inPlace 4)) = true := by kernel_rfl
theorem kf13 : ((Rows.certKnownRow.maps == (Tryz.f4.params.toList ++ Rows.certKnownSpec.plain.varTypes Tryz.prog).any (Tryz.prog.mapsRec ·))) = true := by kernel_rfl
theorem kf17 : ((Rows.certKnownRow.wideKeys == (Tryz.f4.params.toList ++ Rows.certKnownSpec.plain.varTypes Tryz.prog ++ Tryz.f4.resultTypes.toList).any (Tryz.prog.wideKeysFrom ·))) = true := by kernel_rfl
theorem kf21 : ((Rows.certKnownRow.loopsOut == Tryz.f4.resultTypes.toList.any (Tryz.prog.loopsFrom ·))) = true := by kernel_rfl
theorem kf25 : (Tryz.prog.mayEnter) = true := by kernel_rfl
theorem kf29 : ((Rows.certKnownRow.pinned == Rows.certKnownRow.pinnedBy)) = true := by kernel_rfl
end Go.Proofs.YtooedghheiecnaaGreatDoor
