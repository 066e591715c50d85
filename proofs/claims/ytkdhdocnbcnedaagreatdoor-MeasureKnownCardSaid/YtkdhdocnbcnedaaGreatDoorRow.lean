/- The law's row, but for its closed facts: what the listed variables hold; the call returns true. -/
import Derived.Test.YtkdhdocnbcnedaaGreatDoorAxC
import Derived.Test.YtkdhdocnbcnedaaGreatDoorOk
import Derived.Test.YtkdhdocnbcnedaaGreatDoorTie
import Derived.Test.YtkdhdocnbcnedaaGreatDoorCards
namespace Go.Proofs.YtkdhdocnbcnedaaGreatDoor
open Go Go.Ax Go.ChangeShapes Go.WideShapes Go.ChangeAt Go.RowKit
set_option maxRecDepth 1000000

theorem own : ownKnob Tryz.prog.godebug = none := by kernel_rfl
abbrev theLaid : List (String × DataW Unit) := Rows.measureKnownRow.laid

theorem glob5 {W : World} (hm : laidMet Tryz.prog theLaid W) (hs : W.ShapedOpen Tryz.prog) :
    ∃ vs el es fz, AObj.cells [.int .u64 1, .int .u64 10, .int .u64 100, .int .u64 1000, .int .u64 10000, .int .u64 100000, .int .u64 1000000, .int .u64 10000000, .int .u64 100000000, .int .u64 1000000000, .int .u64 10000000000, .int .u64 100000000000, .int .u64 1000000000000, .int .u64 10000000000000, .int .u64 100000000000000, .int .u64 1000000000000000, .int .u64 10000000000000000, .int .u64 100000000000000000, .int .u64 1000000000000000000, .int .u64 10000000000000000000] 426 1 16777200 = .cells vs el es fz ∧ W.heap[5]? = some (.cells vs.toArray el (0, 0)) :=
  glob_of hm hs (n := "internal/strconv.uint64pow10") (d := Rows.laid_internal_strconv_uint64pow10) (by simp [theLaid, Rows.measureKnownRow]) (by kernel_rfl) (t := 426) (by kernel_rfl) (of_decide_eq_true (by kernel_rfl)) (el := 426) (zero := Array.replicate 20 (.int .u64 0)) (by kernel_rfl)
    (fun cs fuel p h => cells_of_array (n := 20) (e := 147) (ls := [.int .u64 1, .int .u64 10, .int .u64 100, .int .u64 1000, .int .u64 10000, .int .u64 100000, .int .u64 1000000, .int .u64 10000000, .int .u64 100000000, .int .u64 1000000000, .int .u64 10000000000, .int .u64 100000000000, .int .u64 1000000000000, .int .u64 10000000000000, .int .u64 100000000000000, .int .u64 1000000000000000, .int .u64 10000000000000000, .int .u64 100000000000000000, .int .u64 1000000000000000000, .int .u64 10000000000000000000]) (by kernel_rfl) (by kernel_rfl) (by kernel_rfl) (by kernel_rfl) h (by rfl)) 1 16777200

theorem glob4 {W : World} (hm : laidMet Tryz.prog theLaid W) (hs : W.ShapedOpen Tryz.prog) :
    ∃ vs el es fz, AObj.cells [I 301, I 302, I 303, I 307, I 308] 142 1 16777200 = .cells vs el es fz ∧ W.heap[4]? = some (.cells vs.toArray el (0, 0)) :=
  glob_of hm hs (n := "waypost/flag.codes") (d := Rows.laid_waypost_flag_codes) (by simp [theLaid, Rows.measureKnownRow]) (by kernel_rfl) (t := 142) (by kernel_rfl) (of_decide_eq_true (by kernel_rfl)) (el := 142) (zero := Array.replicate 5 (.int .i64 0)) (by kernel_rfl)
    (fun cs fuel p h => cells_of_array (n := 5) (e := 3) (ls := [.int .i64 301, .int .i64 302, .int .i64 303, .int .i64 307, .int .i64 308]) (by kernel_rfl) (by kernel_rfl) (by kernel_rfl) (by kernel_rfl) h (by rfl)) 1 16777200

theorem glob2 {W : World} (hm : laidMet Tryz.prog theLaid W) (hs : W.ShapedOpen Tryz.prog) :
    ∃ vs el es fz, AObj.cells [St [], St [80, 65, 84, 72], St [81, 85, 69, 82, 89], St [72, 79, 83, 84], St [77, 69, 84, 72, 79, 68]] 197 1 16777200 = .cells vs el es fz ∧ W.heap[2]? = some (.cells vs.toArray el (0, 0)) :=
  glob_of hm hs (n := "waypost/template.names") (d := Rows.laid_waypost_template_names) (by simp [theLaid, Rows.measureKnownRow]) (by kernel_rfl) (t := 197) (by kernel_rfl) (of_decide_eq_true (by kernel_rfl)) (el := 197) (zero := Array.replicate 5 (.string ⟨#[]⟩)) (by kernel_rfl)
    (fun cs fuel p h => cells_of_array (n := 5) (e := 9) (ls := [.string [], .string [80, 65, 84, 72], .string [81, 85, 69, 82, 89], .string [72, 79, 83, 84], .string [77, 69, 84, 72, 79, 68]]) (by kernel_rfl) (by kernel_rfl) (by kernel_rfl) (by kernel_rfl) h (by rfl)) 1 16777200

theorem glob1 {W : World} (hm : laidMet Tryz.prog theLaid W) (hs : W.ShapedOpen Tryz.prog) :
    ∃ vs el es fz, AObj.cells [I (-1), I (-1), I (-1), I (-1)] 97 4 16777200 = .cells vs el es fz ∧ W.heap[1]? = some (.cells vs.toArray el (0, 0)) :=
  glob_of hm hs (n := "waypost/validate.nowhere") (d := Rows.laid_waypost_validate_nowhere) (by simp [theLaid, Rows.measureKnownRow]) (by kernel_rfl) (t := 97) (by kernel_rfl) (of_decide_eq_true (by kernel_rfl)) (el := 97) (zero := Array.replicate 4 (.int .i64 0)) (by kernel_rfl)
    (fun cs fuel p h => cells_of_struct (ls := [.int .i64 (-1), .int .i64 (-1), .int .i64 (-1), .int .i64 (-1)]) Tryz.underlying97 (by kernel_rfl) (by kernel_rfl) h (by rfl)) 4 16777200

theorem glob0 {W : World} (hm : laidMet Tryz.prog theLaid W) (hs : W.ShapedOpen Tryz.prog) :
    ∃ vs el es fz, AObj.cells [I 0, I 0, I 128, I 64, I 16] 142 1 16777200 = .cells vs el es fz ∧ W.heap[0]? = some (.cells vs.toArray el (0, 0)) :=
  glob_of hm hs (n := "waypost/measure.fixed") (d := Rows.laid_waypost_measure_fixed) (by simp [theLaid, Rows.measureKnownRow]) (by kernel_rfl) (t := 142) (by kernel_rfl) (of_decide_eq_true (by kernel_rfl)) (el := 142) (zero := Array.replicate 5 (.int .i64 0)) (by kernel_rfl)
    (fun cs fuel p h => cells_of_array (n := 5) (e := 3) (ls := [.int .i64 0, .int .i64 0, .int .i64 128, .int .i64 64, .int .i64 16]) (by kernel_rfl) (by kernel_rfl) (by kernel_rfl) (by kernel_rfl) h (by rfl)) 1 16777200

theorem globs {W : World} (h : laidMetH Tryz.prog theLaid W) (hs : W.ShapedOpen Tryz.prog) : globHolds W TryzN.globs := by
  rw [MakeChecks.laidMetH_plain _ _ _ (by kernel_rfl)] at h
  exact ⟨glob5 h hs, glob4 h hs, glob2 h hs, glob1 h hs, glob0 h hs, trivial⟩

theorem measureKnown_lifted (os : Os) (started : os.Started) (H : Type) (enc : TypeId × Value → H) :
    ReturnsInHanded {} Tryz.checked os 3 .any (fun w args => (Rows.measureKnownSpec.pre enc Tryz.prog Tryz.f3 Rows.measureKnownRow.domain false w args ∧ laidMetH Tryz.prog theLaid w) ∧ sizedMet enc Tryz.prog Tryz.f3 (OpenSpec.ofChange Rows.measureKnownSpec) false w args)
      (Rows.measureKnownSpec.post enc Tryz.prog Tryz.f3 false true false false) := by
  refine returnsInHanded_shaped (C := Tryz.checked) (X := fun w _ => laidMetH Tryz.prog theLaid w) (fun _ _ _ hh h => h.of_heap hh) own started (by kernel_rfl) Tryz.func3
    (ChangeSpec.witness_shaped (enc := enc) (C := Tryz.checked) (os := os) (X := fun w _ => laidMetH Tryz.prog theLaid w) false (World.laidAll Tryz.prog os theLaid) #[] 8 (World.laidAll_os _ _ _)
      (World.shaped_of_ZipB (by kernel_rfl) (by kernel_rfl)) (by kernel_rfl) (by kernel_rfl) (by kernel_rfl)
      (by rw [MakeChecks.laidMetH_plain _ _ _ (by kernel_rfl)]; exact laidMet_laidAll _ (by kernel_rfl) (by kernel_rfl))) ?_
  intro W base args ds gs before hsh hval0 hW hc _ hL _
  have hW' := hW
  obtain ⟨p, q, hA0, hV, rfl, _, _⟩ := hW
  have hA : DataW.TrodAll enc Tryz.prog W 0 (fun _ => true) true Tryz.f3.params.toList args.toList ds p := hA0
  rw [Tryz.params3] at hA
  obtain ⟨rfl, rfl, rfl⟩ := trodAll_none hA
  obtain ⟨rfl, rfl⟩ := trodVars_none hV
  refine (Con.calls0 m108_ok Tryz.globsOk (globs hL hsh) rfl rfl rfl).mono fun e W' ⟨v', he, E', hv, hp⟩ => ?_
  cases hv
  subst he
  exact ⟨_, rfl, [], [], [], [], [], [], hW', trodAll_mk1 (shut_bool Tryz.underlying4 true), trodAll_mk0, rfl, keptBut_of_post hp _, fun h => by cases h⟩
end Go.Proofs.YtkdhdocnbcnedaaGreatDoor
