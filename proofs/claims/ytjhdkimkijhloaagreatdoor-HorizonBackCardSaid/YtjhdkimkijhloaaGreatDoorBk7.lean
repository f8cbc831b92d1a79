import Derived.Test.YtjhdkimkijhloaaGreatDoorBk6
import Derived.Test.YtjhdkimkijhloaaGreatDoorTie
import Derived.Test.YtjhdkimkijhloaaGreatDoorCards
set_option linter.all false
namespace Go.Proofs.YtjhdkimkijhloaaGreatDoor
open Go.ChangeShapes Go.WideShapes Go.RowKit Go.Abs
theorem and2 {a b : Bool} (h : a = true) (h' : b = true) : (a && b) = true := by rw [h, h']; rfl
theorem own : ownKnob Tryz.prog.godebug = none := by kernel_rfl
theorem laidOut : laidOutB Tryz.prog = true := by kernel_rfl
theorem sc_maps : mapsRowed Tryz.prog = true := by kernel_rfl
theorem sc_stops : (Tryz.prog.stops == []) = true := by kernel_rfl
theorem sc_knobs : (Tryz.prog.stopKnobs == []) = true := by kernel_rfl
theorem sc_heard : Tryz.prog.stopsHeard = true := by kernel_rfl
theorem sc_enter : Tryz.prog.mayEnter = true := by kernel_rfl
theorem sc_lifts : (Rows.horizonPicksRow.lifted == Tryz.prog.liftsFinal) = true := by kernel_rfl
theorem sc_make : (Tryz.prog.make == some Rows.horizonPicksRow.make) = true := by kernel_rfl
theorem sc_keys : (Rows.horizonPicksRow.plainKeys == Tryz.prog.plainKeys) = true := by kernel_rfl
theorem sc_main : Tryz.prog.mainIs = some (true, "ebcced09975124e4fdc27a793f740c15c9f79016bad178323bd89e6d8461bc8d".toList) := by kernel_rfl
theorem sc_looks : false = Tryz.prog.looks [] := by kernel_rfl
end Go.Proofs.YtjhdkimkijhloaaGreatDoor
