/- Closed facts of the row. -/
import Derived.Test.YtkdhdocnbcnedaaGreatDoorRows
import Derived.JoinedOf
import Derived.ProofKit
namespace Go.Proofs.YtkdhdocnbcnedaaGreatDoor
open Go
set_option maxRecDepth 1000000
theorem measureKnown_f3 : (Tryz.f3.params.all (Tryz.prog.readableRec ·)) = true := by kernel_rfl
theorem measureKnown_f7 : ((Rows.measureKnownRow.knobs == [])) = true := by kernel_rfl
theorem measureKnown_f11 : ((Rows.measureKnownRow.recurses == Tryz.prog.recurses 3)) = true := by kernel_rfl
theorem measureKnown_f15 : ((Rows.measureKnownRow.mapsOut == Tryz.prog.mapsAmong Tryz.f3.resultTypes.toList)) = true := by kernel_rfl
theorem measureKnown_f19 : (Tryz.f3.resultTypes.all (fun t => Tryz.prog.readableRec t && decide (t < Tryz.prog.types.size))) = true := by kernel_rfl
theorem measureKnown_f23 : (Rows.measureKnownRow.shortTexts.isNone) = true := by kernel_rfl
theorem measureKnown_f27 : ((Tryz.prog.make == some Rows.measureKnownRow.make)) = true := by kernel_rfl
theorem measureKnown_f31 : (Rows.measureKnownRow.veiledFits Tryz.prog Tryz.f3.params.toList (Tryz.f3.params.toList ++ Rows.measureKnownSpec.plain.varTypes Tryz.prog ++ Tryz.f3.resultTypes.toList)) = true := by kernel_rfl
end Go.Proofs.YtkdhdocnbcnedaaGreatDoor
