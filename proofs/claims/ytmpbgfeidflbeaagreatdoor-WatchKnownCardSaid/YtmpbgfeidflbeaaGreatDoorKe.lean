/- memo: barrageref05.Decide -/
import Derived.Test.YtmpbgfeidflbeaaGreatDoorKd
namespace Go.Proofs.YtmpbgfeidflbeaaGreatDoor
open Go Go.E
noncomputable def lvF : Fun := orF (memoRun lv0 10) (orF (memoRun lv1 10) (orF (memoRun lv2 10) (orF (memoRun lv3 10) (orF (memoRun lv4 10) (noF)))))
theorem lvF_R (l : List (Nat × Fun)) : CallR (cfgX l) Tryz.prog 166 lvF := orF_R (runM_R l lv0_w lv0_o) (orF_R (runM_R l lv1_w lv1_o) (orF_R (runM_R l lv2_w lv2_o) (orF_R (runM_R l lv3_w lv3_o) (orF_R (runM_R l lv4_w lv4_o) (noF_R)))))
noncomputable def lvX : List (Nat × Fun) := (166, lvF) :: oneX
noncomputable def cfgV : Cfg := cfgX lvX
theorem cfgV_ok : CfgOK cfgV Tryz.prog := cfgX_ok fun p hp => by
  rcases List.mem_cons.1 hp with rfl | hp
  · exact lvF_R _
  rcases List.mem_cons.1 hp with rfl | hp
  · exact joinF_R _
  · exact baseX_R _ p hp
noncomputable def runV (f : Nat) (m : Memo) : Bool := memoOut m (call cfgV 1000 f m.args m.K)
theorem runV_R (l : List (Nat × Fun)) {f : Nat} {m : Memo} (hw : memoWf m = true) (ho : runV f m = true) : CallR (cfgX l) Tryz.prog f (memoRun m 10) := by
  unfold runV at ho
  exact (memo_fun (c := cfgV) cfgV_ok (keyX lvX l) glob_ok hw ho).call
def dc0 : Memo := { args := [.agg [.slc 10 0 3 3, ip 100, ip 3000, ip 500, .slc 11 0 1 1, .slc 12 0 1 1, .opn 13 0 1 2, .slc 15 0 6 6, ip 0, ip 800, ip 1], .agg [ip 1, ip 3]], size := 16, rows := [(1, .cells true [.int .u64 (1), .int .u64 (10), .int .u64 (100), .int .u64 (1000), .int .u64 (10000), .int .u64 (100000), .int .u64 (1000000), .int .u64 (10000000), .int .u64 (100000000), .int .u64 (1000000000), .int .u64 (10000000000), .int .u64 (100000000000), .int .u64 (1000000000000), .int .u64 (10000000000000), .int .u64 (100000000000000), .int .u64 (1000000000000000), .int .u64 (10000000000000000), .int .u64 (100000000000000000), .int .u64 (1000000000000000000), .int .u64 (10000000000000000000)]), (5, .cells true [im 20000, ip 20000]), (10, .cells false [im 1000, ip 0, ip 0, ip 1000000, ip 2000, ip 5000000]), (11, .cells false [.str [108, 111, 119], ip 200, ip 300, ip 50000]), (12, .cells false [ip 0]), (13, .cells false [ip 10, .opn 14 0 6 1]), (14, .cells false [ip 0, ip 500, ip 1500, ip 2500, ip 1500, ip 500]), (15, .cells false [ip 60000, ip 60000, ip 60000, ip 60000, ip 60000, ip 60000])], v := .tup [.agg [ip 10, ip 15, .opn 5886 0 1 2, .opn 3281 0 4 2], ip 0], size1 := 5887, chg := [(3281, .cells false [ip 0, ip 12, ip 0, ip 12, ip 0, ip 12, ip 0, ip 12]), (5886, .cells false [ip 14, ip 707])] }
theorem dc0_w : memoWf dc0 = true := by kernel_rfl
theorem dc0_o : runV 17 dc0 = true := by kernel_rfl
end Go.Proofs.YtmpbgfeidflbeaaGreatDoor
