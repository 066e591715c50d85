/- Closed facts of the row. -/
import Derived.Test.YtooedghheiecnaaGreatDoorRows
import Derived.JoinedOf
import Derived.ProofKit
namespace Go.Proofs.YtooedghheiecnaaGreatDoor
open Go
set_option maxRecDepth 1000000
theorem kf2 : (mapsRowed Tryz.prog) = true := by kernel_rfl
theorem kf6 : ((Tryz.prog.stops == [])) = true := by kernel_rfl
theorem kf10 : ((Rows.certKnownRow.unfollowed == Tryz.prog.unfollowed 4)) = true := by kernel_rfl
theorem kf14 : ((Rows.certKnownRow.ifaces == (Tryz.f4.params.toList ++ Rows.certKnownSpec.plain.varTypes Tryz.prog).any (Tryz.prog.ifacesRec ·))) = true := by kernel_rfl
theorem kf18 : (Rows.certKnownSpec.vars.all (Tryz.prog.varReadable ·)) = true := by kernel_rfl
theorem kf22 : ((Rows.certKnownRow.plainKeys == Tryz.prog.plainKeys)) = true := by kernel_rfl
theorem kf26 : ((Rows.certKnownRow.lifted == Tryz.prog.liftsFinal)) = true := by kernel_rfl
theorem kf30 : ((Rows.certKnownRow.veiled == (Tryz.f4.params.toList ++ Rows.certKnownSpec.plain.varTypes Tryz.prog ++ Tryz.f4.resultTypes.toList).any (Tryz.prog.veiledRec ·))) = true := by kernel_rfl
end Go.Proofs.YtooedghheiecnaaGreatDoor
