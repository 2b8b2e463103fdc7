/- closed facts of the row, put together -/
import Derived.Test.YtmpbgfeidflbeaaGreatDoorKp
import Derived.Test.YtmpbgfeidflbeaaGreatDoorKa
import Derived.JoinedOf
/- The row's closed facts, put together. -/
namespace Go.Proofs.YtmpbgfeidflbeaaGreatDoor
open Go
theorem fact_maps : mapsRowed Tryz.prog = true := by kernel_rfl
theorem fact_stops : Tryz.prog.stops = [] := by kernel_rfl
theorem fact_knobs : Tryz.prog.stopKnobs = [] := by kernel_rfl
theorem fact_heard : Tryz.prog.stopsHeard = true := by kernel_rfl
theorem fact_enter : Tryz.prog.mayEnter = true := by kernel_rfl
theorem fact_lifts : Tryz.prog.liftsFinal = false := by kernel_rfl
theorem fact_keys : Tryz.prog.plainKeys = false := by kernel_rfl
theorem fact_make : Tryz.prog.make = some .cut := by kernel_rfl
theorem fact_tie : namedTie Tryz.prog Rows.watchKnownRow.named Rows.watchKnownSpec.vars = true := by kernel_rfl
theorem fact_wf : Rows.watchKnownRow.wf (OpenSpec.ofChange Rows.watchKnownSpec) = true := by kernel_rfl
theorem closed : joinedFacts Tryz.prog 3 Tryz.f3 Rows.watchKnownSpec Rows.watchKnownRow = true := by
  unfold joinedFacts
  rw [← fact_inPlace, ← fact_unfollowed, ← fact_recurses, ← fact_named, laid_ok, fact_maps, fact_stops, fact_knobs, fact_heard, fact_enter, fact_lifts, fact_keys, fact_make, fact_tie, fact_wf]
  kernel_rfl
end Go.Proofs.YtmpbgfeidflbeaaGreatDoor
