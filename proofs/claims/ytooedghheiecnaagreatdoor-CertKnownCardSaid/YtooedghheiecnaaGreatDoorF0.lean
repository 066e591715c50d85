/- Closed facts of the row. -/
import Derived.Test.YtooedghheiecnaaGreatDoorRows
import Derived.JoinedOf
import Derived.ProofKit
namespace Go.Proofs.YtooedghheiecnaaGreatDoor
open Go
set_option maxRecDepth 1000000
theorem kf0 : (Rows.certKnownRow.wf (OpenSpec.ofChange Rows.certKnownSpec)) = true := by kernel_rfl
theorem kf4 : (namedTie Tryz.prog Rows.certKnownRow.named Rows.certKnownSpec.vars) = true := by kernel_rfl
theorem kf8 : ((Tryz.prog.stopKnobs == [])) = true := by kernel_rfl
theorem kf12 : ((Rows.certKnownRow.named == Tryz.prog.varsNamed 4)) = true := by kernel_rfl
theorem kf16 : ((Rows.certKnownRow.loops == (Tryz.f4.params.toList ++ Rows.certKnownSpec.plain.varTypes Tryz.prog).any (Tryz.prog.loopsFrom ·))) = true := by kernel_rfl
theorem kf20 : ((Rows.certKnownRow.ifacesOut == Tryz.f4.resultTypes.toList.any (Tryz.prog.ifacesRec ·))) = true := by kernel_rfl
theorem kf24 : (Tryz.prog.stopsHeard) = true := by kernel_rfl
theorem kf28 : ((Rows.certKnownRow.kinds == (if Rows.certKnownRow.domain.isEmpty then [] else Tryz.f4.params.toList.map fun t => match Tryz.prog.underlying t with | some (.int k) => some k | _ => none))) = true := by kernel_rfl
end Go.Proofs.YtooedghheiecnaaGreatDoor
