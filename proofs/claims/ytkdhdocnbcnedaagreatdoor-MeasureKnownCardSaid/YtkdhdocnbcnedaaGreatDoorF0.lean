/- Closed facts of the row. -/
import Derived.Test.YtkdhdocnbcnedaaGreatDoorRows
import Derived.JoinedOf
import Derived.ProofKit
namespace Go.Proofs.YtkdhdocnbcnedaaGreatDoor
open Go
set_option maxRecDepth 1000000
theorem measureKnown_f0 : (Rows.measureKnownRow.wf (OpenSpec.ofChange Rows.measureKnownSpec)) = true := by kernel_rfl
theorem measureKnown_f4 : (namedTie Tryz.prog Rows.measureKnownRow.named Rows.measureKnownSpec.vars) = true := by kernel_rfl
theorem measureKnown_f8 : ((Tryz.prog.stopKnobs == [])) = true := by kernel_rfl
theorem measureKnown_f12 : ((Rows.measureKnownRow.named == Tryz.prog.varsNamed 3)) = true := by kernel_rfl
theorem measureKnown_f16 : ((Rows.measureKnownRow.loops == (Tryz.f3.params.toList ++ Rows.measureKnownSpec.plain.varTypes Tryz.prog).any (Tryz.prog.loopsFrom ·))) = true := by kernel_rfl
theorem measureKnown_f20 : ((Rows.measureKnownRow.ifacesOut == Tryz.f3.resultTypes.toList.any (Tryz.prog.ifacesRec ·))) = true := by kernel_rfl
theorem measureKnown_f24 : (Tryz.prog.stopsHeard) = true := by kernel_rfl
theorem measureKnown_f28 : ((Rows.measureKnownRow.kinds == (if Rows.measureKnownRow.domain.isEmpty then [] else Tryz.f3.params.toList.map fun t => match Tryz.prog.underlying t with | some (.int k) => some k | _ => none))) = true := by kernel_rfl
end Go.Proofs.YtkdhdocnbcnedaaGreatDoor
