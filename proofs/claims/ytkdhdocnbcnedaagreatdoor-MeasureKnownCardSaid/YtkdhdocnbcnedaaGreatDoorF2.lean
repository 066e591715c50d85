/- Closed facts of the row. -/
import Derived.Test.YtkdhdocnbcnedaaGreatDoorRows
import Derived.JoinedOf
import Derived.ProofKit
namespace Go.Proofs.YtkdhdocnbcnedaaGreatDoor
open Go
set_option maxRecDepth 1000000
theorem measureKnown_f2 : (mapsRowed Tryz.prog) = true := by kernel_rfl
theorem measureKnown_f6 : ((Tryz.prog.stops == [])) = true := by kernel_rfl
theorem measureKnown_f10 : ((Rows.measureKnownRow.unfollowed == Tryz.prog.unfollowed 3)) = true := by kernel_rfl
theorem measureKnown_f14 : ((Rows.measureKnownRow.ifaces == (Tryz.f3.params.toList ++ Rows.measureKnownSpec.plain.varTypes Tryz.prog).any (Tryz.prog.ifacesRec ·))) = true := by kernel_rfl
theorem measureKnown_f18 : (Rows.measureKnownSpec.vars.all (Tryz.prog.varReadable ·)) = true := by kernel_rfl
theorem measureKnown_f22 : ((Rows.measureKnownRow.plainKeys == Tryz.prog.plainKeys)) = true := by kernel_rfl
theorem measureKnown_f26 : ((Rows.measureKnownRow.lifted == Tryz.prog.liftsFinal)) = true := by kernel_rfl
theorem measureKnown_f30 : ((Rows.measureKnownRow.veiled == (Tryz.f3.params.toList ++ Rows.measureKnownSpec.plain.varTypes Tryz.prog ++ Tryz.f3.resultTypes.toList).any (Tryz.prog.veiledRec ·))) = true := by kernel_rfl
end Go.Proofs.YtkdhdocnbcnedaaGreatDoor
