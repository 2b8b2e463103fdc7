/- what the text of the door names -/
import Derived.Test.YtmpbgfeidflbeaaGreatDoorKv
/- what the door's text names -/
namespace Go.Proofs.YtmpbgfeidflbeaaGreatDoor
open Go
theorem tie_n : varsNamedLaterB Tryz.prog (varsId Tryz.prog) own8 = true := by kernel_rfl
end Go.Proofs.YtmpbgfeidflbeaaGreatDoor
