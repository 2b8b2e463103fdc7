/- WatchKnown, run: true -/
import Derived.Test.YtmpbgfeidflbeaaGreatDoorKl
/- WatchKnown, run over what was run before: it is true. -/
namespace Go.Proofs.YtmpbgfeidflbeaaGreatDoor
open Go Go.E
noncomputable def awF : Fun := orF (memoQ aw0) (noF)
theorem awF_R (l : List (Nat × Fun)) : CallR (cfgX l) Tryz.prog 18 awF :=
  orF_R (ifF_R (runW_R l aw0_w aw0_o)) (noF_R)
noncomputable def vfF : Fun := orF (memoQ vf0) (noF)
theorem vfF_R (l : List (Nat × Fun)) : CallR (cfgX l) Tryz.prog 14 vfF :=
  orF_R (ifF_R (runW_R l vf0_w vf0_o)) (noF_R)
noncomputable def fourX : List (Nat × Fun) := (18, awF) :: (14, vfF) :: threeX
noncomputable def cfg4 : Cfg := cfgX fourX
theorem cfg4_ok : CfgOK cfg4 Tryz.prog := cfgX_ok fun p hp => by
  rcases List.mem_cons.1 hp with rfl | hp
  · exact awF_R _
  rcases List.mem_cons.1 hp with rfl | hp
  · exact vfF_R _
  rcases List.mem_cons.1 hp with rfl | hp
  · exact slF_R _
  · exact twoX_R _ p hp
/-- the heap at the start: the variables that are read -/
def h0 (m : Int) : Heap := { size := 10, tr := T.set .dead (T.set .dead (T.set .dead .nil 5 (.cells true [.int .i64 (.negSucc 19999), .int .i64 (.ofNat 20000)])) 1 (.cells true [.int .u64 (.ofNat 1), .int .u64 (.ofNat 10), .int .u64 (.ofNat 100), .int .u64 (.ofNat 1000), .int .u64 (.ofNat 10000), .int .u64 (.ofNat 100000), .int .u64 (.ofNat 1000000), .int .u64 (.ofNat 10000000), .int .u64 (.ofNat 100000000), .int .u64 (.ofNat 1000000000), .int .u64 (.ofNat 10000000000), .int .u64 (.ofNat 100000000000), .int .u64 (.ofNat 1000000000000), .int .u64 (.ofNat 10000000000000), .int .u64 (.ofNat 100000000000000), .int .u64 (.ofNat 1000000000000000), .int .u64 (.ofNat 10000000000000000), .int .u64 (.ofNat 100000000000000000), .int .u64 (.ofNat 1000000000000000000), .int .u64 (.ofNat 10000000000000000000)])) 2 (.cells true [.int .i64 m]), mark := 0, log := [], hide := [] }
noncomputable def knownB (m : Int) : Bool := match call cfg4 1000 3 [] (h0 m) with | some (.ret (.bool b), _) => b | _ => false
set_option maxRecDepth 100000 in
theorem known_ok (m : Int) : knownB m = true := by kernel_rfl
end Go.Proofs.YtmpbgfeidflbeaaGreatDoor
