/- The closed facts of the row, joined. -/
import Derived.Test.YtooedghheiecnaaGreatDoorF0
import Derived.Test.YtooedghheiecnaaGreatDoorF1
import Derived.Test.YtooedghheiecnaaGreatDoorF2
import Derived.Test.YtooedghheiecnaaGreatDoorF3
namespace Go.Proofs.YtooedghheiecnaaGreatDoor
open Go
theorem andT {a b : Bool} (h : a = true) (k : b = true) : (a && b) = true := by rw [h, k]; rfl
set_option maxRecDepth 100000 in
theorem known_closed : joinedFacts Tryz.prog 4 Tryz.f4 Rows.certKnownSpec Rows.certKnownRow = true := by
  unfold joinedFacts
  refine andT ?_ (by with_reducible exact kf31)
  refine andT ?_ (by with_reducible exact kf30)
  refine andT ?_ (by with_reducible exact kf29)
  refine andT ?_ (by kernel_rfl)
  refine andT ?_ (by with_reducible exact kf27)
  refine andT ?_ (by with_reducible exact kf26)
  refine andT ?_ (by with_reducible exact kf25)
  refine andT ?_ (by with_reducible exact kf24)
  refine andT ?_ (by with_reducible exact kf23)
  refine andT ?_ (by with_reducible exact kf22)
  refine andT ?_ (by with_reducible exact kf21)
  refine andT ?_ (by with_reducible exact kf20)
  refine andT ?_ (by with_reducible exact kf19)
  refine andT ?_ (by with_reducible exact kf18)
  refine andT ?_ (by with_reducible exact kf17)
  refine andT ?_ (by with_reducible exact kf16)
  refine andT ?_ (by with_reducible exact kf15)
  refine andT ?_ (by with_reducible exact kf14)
  refine andT ?_ (by with_reducible exact kf13)
  refine andT ?_ (by with_reducible exact kf12)
  refine andT ?_ (by with_reducible exact kf11)
  refine andT ?_ (by with_reducible exact kf10)
  refine andT ?_ (by with_reducible exact kf9)
  refine andT ?_ (by with_reducible exact kf8)
  refine andT ?_ (by with_reducible exact kf7)
  refine andT ?_ (by with_reducible exact kf6)
  refine andT ?_ (by with_reducible exact kf5)
  refine andT ?_ (by with_reducible exact kf4)
  refine andT ?_ (by with_reducible exact kf3)
  refine andT ?_ (by with_reducible exact kf2)
  refine andT ?_ (by with_reducible exact kf1)
  exact kf0
end Go.Proofs.YtooedghheiecnaaGreatDoor
