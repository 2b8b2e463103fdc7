/- the run of the door -/
import Derived.Test.YtmpbgfeidflbeaaGreatDoorKv
/- the door's run -/
namespace Go.Proofs.YtmpbgfeidflbeaaGreatDoor
open Go
theorem tie_run (os : Os) (tape : Tape) : doorLeaves Tryz.prog 400 8 512 own8 os tape = some (own8.filter fun x => x.2.handleName?.isNone, (funcsListed own8).map (·.2.funcsOut)) := by kernel_rfl
end Go.Proofs.YtmpbgfeidflbeaaGreatDoor
