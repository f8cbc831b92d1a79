/- Closed facts on the seat's program, one declaration each. No condition. -/
import Derived.Test.YtbgldbmgjcgepaaGreatDoorGa9
import Derived.Test.YtbgldbmgjcgepaaGreatDoorTie
import Derived.Test.YtbgldbmgjcgepaaGreatDoorCards
set_option linter.all false
namespace Go.Proofs.YtbgldbmgjcgepaaGreatDoor
open Go.ChangeShapes Go.WideShapes Go.RowKit Go.Abs

theorem and2 {a b : Bool} (h : a = true) (h' : b = true) : (a && b) = true := by rw [h, h']; rfl
theorem own : ownKnob Tryz.prog.godebug = none := by kernel_rfl
theorem laidOut : laidOutB Tryz.prog = true := by kernel_rfl
theorem sc_maps : mapsRowed Tryz.prog = true := by kernel_rfl
theorem sc_stops : (Tryz.prog.stops == []) = true := by kernel_rfl
theorem sc_knobs : (Tryz.prog.stopKnobs == []) = true := by kernel_rfl
theorem sc_heard : Tryz.prog.stopsHeard = true := by kernel_rfl
theorem sc_enter : Tryz.prog.mayEnter = true := by kernel_rfl
theorem sc_lifts : (Rows.filterTidesRow.lifted == Tryz.prog.liftsFinal) = true := by kernel_rfl
theorem sc_make : (Tryz.prog.make == some Rows.filterTidesRow.make) = true := by kernel_rfl
theorem sc_keys : (Rows.filterTidesRow.plainKeys == Tryz.prog.plainKeys) = true := by kernel_rfl
theorem sc_main : Tryz.prog.mainIs = some (true, "935bb61a7861a9fad800c7aac49f604bfc9e5b8f028eba8f042cb1ef6ca0aa73".toList) := by kernel_rfl
theorem sc_looks : true = Tryz.prog.looks [] := by kernel_rfl
end Go.Proofs.YtbgldbmgjcgepaaGreatDoor
