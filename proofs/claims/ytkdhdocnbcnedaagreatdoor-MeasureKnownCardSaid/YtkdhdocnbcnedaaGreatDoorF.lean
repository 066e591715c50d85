/- The closed facts of the row, joined. -/
import Derived.Test.YtkdhdocnbcnedaaGreatDoorF0
import Derived.Test.YtkdhdocnbcnedaaGreatDoorF1
import Derived.Test.YtkdhdocnbcnedaaGreatDoorF2
import Derived.Test.YtkdhdocnbcnedaaGreatDoorF3
namespace Go.Proofs.YtkdhdocnbcnedaaGreatDoor
open Go
theorem andT {a b : Bool} (h : a = true) (k : b = true) : (a && b) = true := by rw [h, k]; rfl
set_option maxRecDepth 100000 in
theorem measureKnown_closed : joinedFacts Tryz.prog 3 Tryz.f3 Rows.measureKnownSpec Rows.measureKnownRow = true := by
  unfold joinedFacts
  refine andT ?_ (by with_reducible exact measureKnown_f31)
  refine andT ?_ (by with_reducible exact measureKnown_f30)
  refine andT ?_ (by with_reducible exact measureKnown_f29)
  refine andT ?_ (by kernel_rfl)
  refine andT ?_ (by with_reducible exact measureKnown_f27)
  refine andT ?_ (by with_reducible exact measureKnown_f26)
  refine andT ?_ (by with_reducible exact measureKnown_f25)
  refine andT ?_ (by with_reducible exact measureKnown_f24)
  refine andT ?_ (by with_reducible exact measureKnown_f23)
  refine andT ?_ (by with_reducible exact measureKnown_f22)
  refine andT ?_ (by with_reducible exact measureKnown_f21)
  refine andT ?_ (by with_reducible exact measureKnown_f20)
  refine andT ?_ (by with_reducible exact measureKnown_f19)
  refine andT ?_ (by with_reducible exact measureKnown_f18)
  refine andT ?_ (by with_reducible exact measureKnown_f17)
  refine andT ?_ (by with_reducible exact measureKnown_f16)
  refine andT ?_ (by with_reducible exact measureKnown_f15)
  refine andT ?_ (by with_reducible exact measureKnown_f14)
  refine andT ?_ (by with_reducible exact measureKnown_f13)
  refine andT ?_ (by with_reducible exact measureKnown_f12)
  refine andT ?_ (by with_reducible exact measureKnown_f11)
  refine andT ?_ (by with_reducible exact measureKnown_f10)
  refine andT ?_ (by with_reducible exact measureKnown_f9)
  refine andT ?_ (by with_reducible exact measureKnown_f8)
  refine andT ?_ (by with_reducible exact measureKnown_f7)
  refine andT ?_ (by with_reducible exact measureKnown_f6)
  refine andT ?_ (by with_reducible exact measureKnown_f5)
  refine andT ?_ (by with_reducible exact measureKnown_f4)
  refine andT ?_ (by with_reducible exact measureKnown_f3)
  refine andT ?_ (by with_reducible exact measureKnown_f2)
  refine andT ?_ (by with_reducible exact measureKnown_f1)
  exact measureKnown_f0
end Go.Proofs.YtkdhdocnbcnedaaGreatDoor
