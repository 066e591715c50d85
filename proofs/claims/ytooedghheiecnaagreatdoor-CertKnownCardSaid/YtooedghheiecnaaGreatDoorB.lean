/- The numbers of this seat; they are true of the program. -/
import Derived.Test.YtooedghheiecnaaGreatDoorAxC
import Derived.Test.YtooedghheiecnaaGreatDoorProg
import Derived.KernelRfl
namespace Go.Ax
open Go.Proofs
noncomputable def TryzN : SeatN := {
  idx := 122, cnt := 63, esc := 59, mnz := 60, mnzE := 5
  bod := 293567822851001127558026894763457171834299422842745392883124676981420206038058472130778896197990680394465276
  flat := 21596497539362909492184991731176987908797873157419446292538813608381073780329755829459800516877095784883841259192992082118011232255
  nf := 358, nt := 435, lies := [(205, 70), (70, 70)]
  globs := [(9, .cells [St [], St [80,65,84,72], St [81,85,69,82,89], St [72,79,83,84], St [77,69,84,72,79,68]] 300 1 16777200),
    (6, .cells [I (-1), I (-1), I (-1), I (-1)] 177 4 16777200), (10, .cells [I 0, I 0, I 128, I 64, I 16] 313 1 16777200), (11, .cells [I 301, I 302, I 303, I 307, I 308] 313 1 16777200),
    (2, .cells [.int .u64 1, .int .u64 10, .int .u64 100, .int .u64 1000, .int .u64 10000, .int .u64 100000, .int .u64 1000000, .int .u64 10000000, .int .u64 100000000, .int .u64 1000000000, .int .u64 10000000000, .int .u64 100000000000, .int .u64 1000000000000, .int .u64 10000000000000, .int .u64 100000000000000, .int .u64 1000000000000000, .int .u64 10000000000000000, .int .u64 100000000000000000, .int .u64 1000000000000000000, .int .u64 10000000000000000000] 167 1 16777200)] }
noncomputable def TryzB : XB := TryzN.B Tryz.prog
set_option maxRecDepth 1000000
theorem Tryz.flatOk : TryzN.flatOk Tryz.prog = true := by kernel_rfl
theorem Tryz.bodOk : TryzN.bodOk Tryz.prog = true := by kernel_rfl
theorem Tryz.liesOk : Go.Ax.liesOk Tryz.prog TryzN.lies = true := by kernel_rfl
theorem Tryz.globsOk : Go.Ax.globsOk TryzN.globs = true := by kernel_rfl
theorem TryzB_ok : XBOk TryzB Tryz.prog :=
  SeatN.ok Tryz.flatOk Tryz.bodOk Tryz.liesOk Tryz.globsOk (IsExt.mk' Tryz.func122 (by kernel_rfl) (by kernel_rfl) (by kernel_rfl) (by kernel_rfl)) (IsExt.mk' Tryz.func63 (by kernel_rfl) (by kernel_rfl) (by kernel_rfl) (by kernel_rfl))
    (IsExt.mk' Tryz.func59 (by kernel_rfl) (by kernel_rfl) (by kernel_rfl) (by kernel_rfl)) (ps := #[3]) (t := 68) (by kernel_rfl) (IsExt.mk' Tryz.func60 (by kernel_rfl) (by kernel_rfl) (by kernel_rfl) (by kernel_rfl)) (by kernel_rfl)
end Go.Ax
