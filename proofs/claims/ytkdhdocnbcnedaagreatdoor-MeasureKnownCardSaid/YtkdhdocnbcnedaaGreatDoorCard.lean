/- The law returns true: the row and its tied card. -/
import Derived.Test.YtkdhdocnbcnedaaGreatDoorRow
import Derived.Test.YtkdhdocnbcnedaaGreatDoorF
namespace Go.Proofs.YtkdhdocnbcnedaaGreatDoor
open Go Go.Ax Go.ChangeShapes Go.WideShapes Go.ChangeAt Go.RowKit
set_option maxRecDepth 1000000
theorem measureKnown_row : Rows.MeasureKnownSaid :=
  OpenClaim.holds_of_wide 3 Tryz.f3 rfl rfl rfl rfl rfl rfl rfl ⟨rfl, rfl, rfl, rfl, rfl⟩ rfl rfl rfl rfl rfl (by kernel_rfl) Tryz.func3 measureKnown_closed
    (of_decide_eq_true (by kernel_rfl)) (by unfold Func.isWrapper; first | (rw [if_pos (by decide +kernel)]; kernel_rfl) | (rw [if_neg (by decide +kernel)]; exact ⟨rfl, rfl⟩))
    (fun os started H enc _ => measureKnown_lifted os started H enc)

theorem measureKnown_holds : Rows.MeasureKnownCardSaid :=
  Claim7.holds_tied_plain_at .later [] [.data, .data, .data, .data, .sentinel, .sentinel, .widerDeep, .data, .data, .data, .pinned] true (true, "157e03e3c917adb5b344ebc35badc2fd3e9bfa951257ec1315713c09881f0852") true measureKnown_row (fun _ h => by cases h) (by kernel_rfl) (fun _ h => by cases h) measureKnown_row_tie rfl ⟨rfl, rfl⟩ (by kernel_rfl) rfl
    (fun f fn hf hfn => by
      obtain rfl : f = 3 := Option.some.inj ((show Tryz.prog.funcNamed "waypost/waypostlaw38.MeasureKnown" = some 3 by kernel_rfl).symm.trans hf) |>.symm
      obtain rfl : fn = Tryz.f3 := (Option.some.inj (Tryz.func3.symm.trans hfn)).symm
      exact ⟨by kernel_rfl, fun j t ht => by
        rw [Tryz.params3] at ht
        simp at ht⟩)
    (by kernel_rfl)
#print axioms measureKnown_holds
end Go.Proofs.YtkdhdocnbcnedaaGreatDoor
