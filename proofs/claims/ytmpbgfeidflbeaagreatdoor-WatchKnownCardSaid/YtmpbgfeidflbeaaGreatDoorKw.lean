/- smaller facts of the tie -/
import Derived.Test.YtmpbgfeidflbeaaGreatDoorKv
/- the tie's smaller facts -/
namespace Go.Proofs.YtmpbgfeidflbeaaGreatDoor
open Go
theorem tie_w : Tryz.prog.worded (varsWordLater true) = true := by kernel_rfl
theorem tie_w' : Tryz.prog.worded (varsWordLater !true) = false := by kernel_rfl
theorem tie_root : Tryz.prog.worded rootWordLater = true := by kernel_rfl
theorem tie_k : own8.map (fun x => Tryz.prog.kindOfLater x.1) = kinds8.map some := by kernel_rfl
theorem tie_g : (Tryz.prog.funcNamed "gosem.cut.vars").isSome = true := by kernel_rfl
theorem listed : Tryz.prog.listedFits Rows.watchKnownRow.laid = true := by kernel_rfl
theorem pin_fits : Tryz.prog.pinnedFits "unicode/utf8.first" = true := by kernel_rfl
end Go.Proofs.YtmpbgfeidflbeaaGreatDoor
