/- Closed facts of the row. -/
import Derived.Test.YtkdhdocnbcnedaaGreatDoorRows
import Derived.JoinedOf
import Derived.ProofKit
namespace Go.Proofs.YtkdhdocnbcnedaaGreatDoor
open Go
set_option maxRecDepth 1000000
theorem measureKnown_f1 : (laidOutB Tryz.prog) = true := by kernel_rfl
theorem measureKnown_f5 : ((Rows.measureKnownRow.stops == [])) = true := by kernel_rfl
theorem measureKnown_f9 : ((Rows.measureKnownRow.inPlace == Tryz.prog.inPlace 3)) = true := by kernel_rfl
theorem measureKnown_f13 : ((Rows.measureKnownRow.maps == (Tryz.f3.params.toList ++ Rows.measureKnownSpec.plain.varTypes Tryz.prog).any (Tryz.prog.mapsRec ·))) = true := by kernel_rfl
theorem measureKnown_f17 : ((Rows.measureKnownRow.wideKeys == (Tryz.f3.params.toList ++ Rows.measureKnownSpec.plain.varTypes Tryz.prog ++ Tryz.f3.resultTypes.toList).any (Tryz.prog.wideKeysFrom ·))) = true := by kernel_rfl
theorem measureKnown_f21 : ((Rows.measureKnownRow.loopsOut == Tryz.f3.resultTypes.toList.any (Tryz.prog.loopsFrom ·))) = true := by kernel_rfl
theorem measureKnown_f25 : (Tryz.prog.mayEnter) = true := by kernel_rfl
theorem measureKnown_f29 : ((Rows.measureKnownRow.pinned == Rows.measureKnownRow.pinnedBy)) = true := by kernel_rfl
end Go.Proofs.YtkdhdocnbcnedaaGreatDoor
