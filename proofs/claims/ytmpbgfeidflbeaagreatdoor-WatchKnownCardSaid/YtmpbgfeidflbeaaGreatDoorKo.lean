/- the tie -/
import Derived.Test.YtmpbgfeidflbeaaGreatDoorKt
import Derived.Test.YtmpbgfeidflbeaaGreatDoorKu
import Derived.Test.YtmpbgfeidflbeaaGreatDoorKw
/- The tie of the row's list to the program's text. -/
namespace Go.Proofs.YtmpbgfeidflbeaaGreatDoor
open Go
theorem others : Tryz.prog.laidByTextLater own8 kinds8 true := Program.laidByTextLater_by_one 400 8 512 tie_w tie_w' tie_root tie_k tie_g tie_n tie_run
theorem row_tie : Rows.watchKnownRow.laidByTextAt .later Tryz.pinned kinds9 true :=
  OpenClaim.laidByTextAt_pinned rfl rfl others rfl rfl rfl rfl (fun y hy e => by
    simp only [Rows.watchKnownRow, kinds9, List.zip_cons_cons, List.zip_nil_right, List.mem_cons, List.mem_nil_iff, or_false] at hy
    rcases hy with rfl | rfl | rfl | rfl | rfl | rfl | rfl | rfl | rfl
    · cases e
    · cases e
    · cases e
    · cases e
    · exact ⟨pin_fits, by kernel_rfl⟩
    · cases e
    · cases e
    · cases e
    · cases e) listed
end Go.Proofs.YtmpbgfeidflbeaaGreatDoor
