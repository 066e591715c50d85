/- The numbers of this seat; they are true of the program. -/
import Derived.Test.YtkdhdocnbcnedaaGreatDoorAxC
import Derived.Test.YtkdhdocnbcnedaaGreatDoorProg
import Derived.KernelRfl
namespace Go.Ax
open Go.Proofs
noncomputable def TryzN : SeatN := {
  idx := 236, cnt := 317, esc := 246, mnz := 100000, mnzE := 0
  bod := 18788340662327101995035292905827678117298400445221560603093862826550220573021263442816419461000172334238138364
  flat := 90582259379321844009820322087557460235320333957034561006969838453735616888721949228879442949505856947386865045375229260400700485612576767
  nf := 364, nt := 457, lies := [(293,266)], mnzOn := false
  globs := [(5, .cells [.int .u64 1, .int .u64 10, .int .u64 100, .int .u64 1000, .int .u64 10000, .int .u64 100000, .int .u64 1000000, .int .u64 10000000, .int .u64 100000000, .int .u64 1000000000, .int .u64 10000000000, .int .u64 100000000000, .int .u64 1000000000000, .int .u64 10000000000000, .int .u64 100000000000000, .int .u64 1000000000000000, .int .u64 10000000000000000, .int .u64 100000000000000000, .int .u64 1000000000000000000, .int .u64 10000000000000000000] 426 1 16777200),
    (4, .cells [I 301, I 302, I 303, I 307, I 308] 142 1 16777200),
    (2, .cells [St [], St [80, 65, 84, 72], St [81, 85, 69, 82, 89], St [72, 79, 83, 84], St [77, 69, 84, 72, 79, 68]] 197 1 16777200),
    (1, .cells [I (-1), I (-1), I (-1), I (-1)] 97 4 16777200),
    (0, .cells [I 0, I 0, I 128, I 64, I 16] 142 1 16777200)] }
noncomputable def TryzB : XB := TryzN.B Tryz.prog
set_option maxRecDepth 1000000
theorem Tryz.flatOk : TryzN.flatOk Tryz.prog = true := by kernel_rfl
theorem Tryz.bodOk : TryzN.bodOk Tryz.prog = true := by kernel_rfl
theorem Tryz.liesOk : Go.Ax.liesOk Tryz.prog TryzN.lies = true := by kernel_rfl
theorem Tryz.globsOk : Go.Ax.globsOk TryzN.globs = true := by kernel_rfl
theorem TryzB_ok : XBOk TryzB Tryz.prog :=
  SeatN.ok0 Tryz.flatOk Tryz.bodOk Tryz.liesOk Tryz.globsOk (IsExt.mk' Tryz.func236 (by kernel_rfl) (by kernel_rfl) (by kernel_rfl) (by kernel_rfl)) (IsExt.mk' Tryz.func317 (by kernel_rfl) (by kernel_rfl) (by kernel_rfl) (by kernel_rfl))
    (IsExt.mk' Tryz.func246 (by kernel_rfl) (by kernel_rfl) (by kernel_rfl) (by kernel_rfl)) rfl (by kernel_rfl)
end Go.Ax
