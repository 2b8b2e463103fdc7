/- memos as oracles; seals -/
import Derived.Test.YtmpbgfeidflbeaaGreatDoorKb
import Derived.Test.YtmpbgfeidflbeaaGreatDoorKe
import Derived.Test.YtmpbgfeidflbeaaGreatDoorKc
import Derived.Test.YtmpbgfeidflbeaaGreatDoorKf
import Derived.Test.YtmpbgfeidflbeaaGreatDoorKg
import Derived.Test.YtmpbgfeidflbeaaGreatDoorKh
import Derived.Test.YtmpbgfeidflbeaaGreatDoorKi
import Derived.Test.YtmpbgfeidflbeaaGreatDoorKj
import Derived.Test.YtmpbgfeidflbeaaGreatDoorEh
import Derived.Test.YtmpbgfeidflbeaaGreatDoorKa
/- WatchKnown, run over what was run before. -/
namespace Go.Proofs.YtmpbgfeidflbeaaGreatDoor
open Go Go.E
theorem outR_cfg {c c' : Cfg} {P : Program} {μ : Mu} {h h' : Heap} {w w' : World} {o : Out} {e : Ending} (hcc : ∀ t k, keyOk c' t k = keyOk c t k) (H : OutR c P μ h w o h' e w') : OutR c' P μ h w o h' e w' := by
  cases o with
  | ret a => cases e with
    | returned v => obtain ⟨μ', h1, h2, h3⟩ := H; exact ⟨μ', h1, h2.cfg hcc, h3⟩
    | panicked ch => exact H.elim
    | outgrown => exact H.elim
  | pan a => cases e with
    | returned v => exact H.elim
    | panicked ch => obtain ⟨v, h1, μ', h2, h3, h4⟩ := H; exact ⟨v, h1, μ', h2, h3.cfg hcc, h4⟩
    | outgrown => exact H.elim
theorem funR_cfg {c c' : Cfg} {P : Program} {f : FuncId} {F : Fun} (hcc : ∀ t k, keyOk c' t k = keyOk c t k) (H : FunR c P f F) : FunR c' P f F :=
  fun args h o h' hr => ⟨(H args h o h' hr).1, fun μ w args' M G ha => ((H args h o h' hr).2 μ w args' (M.cfg fun t k => (hcc t k).symm) G ha).mono fun _ _ R => outR_cfg hcc R⟩
/-- a run over the tables with failure.join alone -/
noncomputable def plainF (f : Nat) : Fun := fun args h => call cfg1 1000 f args h
theorem plainF_R (l : List (Nat × Fun)) (f : Nat) : CallR (cfgX l) Tryz.prog f (plainF f) := (funR_cfg (keyX oneX l) ((depth_sound cfg1_ok 1000).F f)).call
noncomputable def doF : Fun := orF (memoQ do0) (orF (memoQ do1) (orF (memoQ do2) (orF (memoQ do3) (orF (memoQ do4) (orF (memoQ do5) (orF (memoQ do6) (orF (memoQ do7) (orF (memoQ do8) (orF (memoQ do9) (orF (memoQ do10) (orF (memoQ do11) (orF (memoQ do12) (orF (memoQ do13) (orF (memoQ do14) (orF (memoQ do15) (orF (memoQ do16) (orF (memoQ do17) (orF (memoQ do18) (orF (memoQ do19) (orF (memoQ do20) (orF (memoQ do21) (plainF 51))))))))))))))))))))))
theorem doF_R (l : List (Nat × Fun)) : CallR (cfgX l) Tryz.prog 51 doF :=
  orF_R (ifF_R (runM_R l do0_w do0_o)) (orF_R (ifF_R (runM_R l do1_w do1_o)) (orF_R (ifF_R (runM_R l do2_w do2_o)) (orF_R (ifF_R (runM_R l do3_w do3_o)) (orF_R (ifF_R (runM_R l do4_w do4_o)) (orF_R (ifF_R (runM_R l do5_w do5_o)) (orF_R (ifF_R (runM_R l do6_w do6_o)) (orF_R (ifF_R (runM_R l do7_w do7_o)) (orF_R (ifF_R (runM_R l do8_w do8_o)) (orF_R (ifF_R (runM_R l do9_w do9_o)) (orF_R (ifF_R (runM_R l do10_w do10_o)) (orF_R (ifF_R (runM_R l do11_w do11_o)) (orF_R (ifF_R (runM_R l do12_w do12_o)) (orF_R (ifF_R (runM_R l do13_w do13_o)) (orF_R (ifF_R (runM_R l do14_w do14_o)) (orF_R (ifF_R (runM_R l do15_w do15_o)) (orF_R (ifF_R (runM_R l do16_w do16_o)) (orF_R (ifF_R (runM_R l do17_w do17_o)) (orF_R (ifF_R (runM_R l do18_w do18_o)) (orF_R (ifF_R (runM_R l do19_w do19_o)) (orF_R (ifF_R (runM_R l do20_w do20_o)) (orF_R (ifF_R (runM_R l do21_w do21_o)) (plainF_R l 51))))))))))))))))))))))
noncomputable def ckF : Fun := orF (memoQ ck0) (noF)
theorem ckF_R (l : List (Nat × Fun)) : CallR (cfgX l) Tryz.prog 47 ckF :=
  orF_R (ifF_R (runM_R l ck0_w ck0_o)) (noF_R)
noncomputable def tkF : Fun := orF (memoQ tk0) (noF)
theorem tkF_R (l : List (Nat × Fun)) : CallR (cfgX l) Tryz.prog 7 tkF :=
  orF_R (ifF_R (runM_R l tk0_w tk0_o)) (noF_R)
noncomputable def thF : Fun := orF (memoQ mth0) (noF)
theorem thF_R (l : List (Nat × Fun)) : CallR (cfgX l) Tryz.prog 8 thF :=
  orF_R (ifF_R (runM_R l mth0_w mth0_o)) (noF_R)
noncomputable def rtF : Fun := orF (memoQ rt0) (noF)
theorem rtF_R (l : List (Nat × Fun)) : CallR (cfgX l) Tryz.prog 16 rtF :=
  orF_R (ifF_R (runM_R l rt0_w rt0_o)) (noF_R)
noncomputable def dcF : Fun := orF (memoQ dc0) (noF)
theorem dcF_R (l : List (Nat × Fun)) : CallR (cfgX l) Tryz.prog 17 dcF :=
  orF_R (ifF_R (runV_R l dc0_w dc0_o)) (noF_R)
noncomputable def twoX : List (Nat × Fun) := (47, ckF) :: (51, doF) :: (7, tkF) :: (8, thF) :: (16, rtF) :: (17, dcF) :: oneX
noncomputable def cfg2 : Cfg := cfgX twoX
theorem cfg2_ok : CfgOK cfg2 Tryz.prog := cfgX_ok fun p hp => by
  rcases List.mem_cons.1 hp with rfl | hp
  · exact ckF_R _
  rcases List.mem_cons.1 hp with rfl | hp
  · exact doF_R _
  rcases List.mem_cons.1 hp with rfl | hp
  · exact tkF_R _
  rcases List.mem_cons.1 hp with rfl | hp
  · exact thF_R _
  rcases List.mem_cons.1 hp with rfl | hp
  · exact rtF_R _
  rcases List.mem_cons.1 hp with rfl | hp
  · exact dcF_R _
  rcases List.mem_cons.1 hp with rfl | hp
  · exact joinF_R _
  · exact baseX_R _ p hp
end Go.Proofs.YtmpbgfeidflbeaaGreatDoor
namespace Go.Proofs.YtmpbgfeidflbeaaGreatDoor
open Go Go.E
def sl0 : Memo := { args := [ip 0, .agg [ip 10, .str [108, 111, 111, 107], .str [116, 105, 99, 107, 32, 49, 48, 32, 108, 101, 118, 101, 108, 115, 32, 48, 32, 48, 32, 112, 111, 119, 101, 114, 32, 111, 110, 59, 32, 103, 97, 116, 101, 115, 32, 48, 47, 48, 59, 32, 102, 97, 105, 108, 101, 100], ip 0]], size := 10, rows := [(1, .cells true [.int .u64 (1), .int .u64 (10), .int .u64 (100), .int .u64 (1000), .int .u64 (10000), .int .u64 (100000), .int .u64 (1000000), .int .u64 (10000000), .int .u64 (100000000), .int .u64 (1000000000), .int .u64 (10000000000), .int .u64 (100000000000), .int .u64 (1000000000000), .int .u64 (10000000000000), .int .u64 (100000000000000), .int .u64 (1000000000000000), .int .u64 (10000000000000000), .int .u64 (100000000000000000), .int .u64 (1000000000000000000), .int .u64 (10000000000000000000)]), (5, .cells true [im 20000, ip 20000])], v := ip 1149380617, size1 := 12, chg := [] }
theorem sl0_w : memoWf sl0 = true := by kernel_rfl
theorem sl0_o : runB 32 sl0 = true := by kernel_rfl
def sl1 : Memo := { args := [ip 1149380617, .agg [ip 10, .str [100, 101, 99, 105, 100, 101], .str [99, 108, 111, 115, 101, 32, 97, 116, 32, 49, 48, 32, 111, 112, 101, 110, 32, 49, 53], ip 0]], size := 10, rows := [(1, .cells true [.int .u64 (1), .int .u64 (10), .int .u64 (100), .int .u64 (1000), .int .u64 (10000), .int .u64 (100000), .int .u64 (1000000), .int .u64 (10000000), .int .u64 (100000000), .int .u64 (1000000000), .int .u64 (10000000000), .int .u64 (100000000000), .int .u64 (1000000000000), .int .u64 (10000000000000), .int .u64 (100000000000000), .int .u64 (1000000000000000), .int .u64 (10000000000000000), .int .u64 (100000000000000000), .int .u64 (1000000000000000000), .int .u64 (10000000000000000000)]), (5, .cells true [im 20000, ip 20000])], v := ip 1188397678, size1 := 12, chg := [] }
theorem sl1_w : memoWf sl1 = true := by kernel_rfl
theorem sl1_o : runB 32 sl1 = true := by kernel_rfl
def sl2 : Memo := { args := [ip 1188397678, .agg [ip 10, .str [116, 97, 107, 101, 32, 48, 32, 48], .str [97, 99, 116, 32, 48], ip 0]], size := 10, rows := [(1, .cells true [.int .u64 (1), .int .u64 (10), .int .u64 (100), .int .u64 (1000), .int .u64 (10000), .int .u64 (100000), .int .u64 (1000000), .int .u64 (10000000), .int .u64 (100000000), .int .u64 (1000000000), .int .u64 (10000000000), .int .u64 (100000000000), .int .u64 (1000000000000), .int .u64 (10000000000000), .int .u64 (100000000000000), .int .u64 (1000000000000000), .int .u64 (10000000000000000), .int .u64 (100000000000000000), .int .u64 (1000000000000000000), .int .u64 (10000000000000000000)]), (5, .cells true [im 20000, ip 20000])], v := ip 501147870, size1 := 12, chg := [] }
theorem sl2_w : memoWf sl2 = true := by kernel_rfl
theorem sl2_o : runB 32 sl2 = true := by kernel_rfl
def sl3 : Memo := { args := [ip 501147870, .agg [ip 10, .str [116, 97, 107, 101, 32, 49, 32, 49], .str [97, 99, 116, 32, 49], ip 0]], size := 10, rows := [(1, .cells true [.int .u64 (1), .int .u64 (10), .int .u64 (100), .int .u64 (1000), .int .u64 (10000), .int .u64 (100000), .int .u64 (1000000), .int .u64 (10000000), .int .u64 (100000000), .int .u64 (1000000000), .int .u64 (10000000000), .int .u64 (100000000000), .int .u64 (1000000000000), .int .u64 (10000000000000), .int .u64 (100000000000000), .int .u64 (1000000000000000), .int .u64 (10000000000000000), .int .u64 (100000000000000000), .int .u64 (1000000000000000000), .int .u64 (10000000000000000000)]), (5, .cells true [im 20000, ip 20000])], v := ip 746648218, size1 := 12, chg := [] }
theorem sl3_w : memoWf sl3 = true := by kernel_rfl
theorem sl3_o : runB 32 sl3 = true := by kernel_rfl
def sl4 : Memo := { args := [ip 746648218, .agg [ip 10, .str [111, 114, 100, 101, 114, 32, 48, 32, 49, 32, 48], .str [97, 99, 116, 32, 50], ip 0]], size := 10, rows := [(1, .cells true [.int .u64 (1), .int .u64 (10), .int .u64 (100), .int .u64 (1000), .int .u64 (10000), .int .u64 (100000), .int .u64 (1000000), .int .u64 (10000000), .int .u64 (100000000), .int .u64 (1000000000), .int .u64 (10000000000), .int .u64 (100000000000), .int .u64 (1000000000000), .int .u64 (10000000000000), .int .u64 (100000000000000), .int .u64 (1000000000000000), .int .u64 (10000000000000000), .int .u64 (100000000000000000), .int .u64 (1000000000000000000), .int .u64 (10000000000000000000)]), (5, .cells true [im 20000, ip 20000])], v := ip 1645217312, size1 := 12, chg := [] }
theorem sl4_w : memoWf sl4 = true := by kernel_rfl
theorem sl4_o : runB 32 sl4 = true := by kernel_rfl
def sl5 : Memo := { args := [ip 1645217312, .agg [ip 10, .str [99, 111, 110, 102, 105, 114, 109, 32, 49, 32, 50], .str [97, 99, 116, 32, 51, 32, 105, 110, 32, 101, 102, 102, 101, 99, 116], ip 0]], size := 10, rows := [(1, .cells true [.int .u64 (1), .int .u64 (10), .int .u64 (100), .int .u64 (1000), .int .u64 (10000), .int .u64 (100000), .int .u64 (1000000), .int .u64 (10000000), .int .u64 (100000000), .int .u64 (1000000000), .int .u64 (10000000000), .int .u64 (100000000000), .int .u64 (1000000000000), .int .u64 (10000000000000), .int .u64 (100000000000000), .int .u64 (1000000000000000), .int .u64 (10000000000000000), .int .u64 (100000000000000000), .int .u64 (1000000000000000000), .int .u64 (10000000000000000000)]), (5, .cells true [im 20000, ip 20000])], v := ip 1779086091, size1 := 12, chg := [] }
theorem sl5_w : memoWf sl5 = true := by kernel_rfl
theorem sl5_o : runB 32 sl5 = true := by kernel_rfl
def sl6 : Memo := { args := [ip 1779086091, .agg [ip 10, .str [119, 97, 114, 110], .str [115, 101, 110, 116, 32, 48, 58, 50], ip 0]], size := 10, rows := [(1, .cells true [.int .u64 (1), .int .u64 (10), .int .u64 (100), .int .u64 (1000), .int .u64 (10000), .int .u64 (100000), .int .u64 (1000000), .int .u64 (10000000), .int .u64 (100000000), .int .u64 (1000000000), .int .u64 (10000000000), .int .u64 (100000000000), .int .u64 (1000000000000), .int .u64 (10000000000000), .int .u64 (100000000000000), .int .u64 (1000000000000000), .int .u64 (10000000000000000), .int .u64 (100000000000000000), .int .u64 (1000000000000000000), .int .u64 (10000000000000000000)]), (5, .cells true [im 20000, ip 20000])], v := ip 1544422356, size1 := 12, chg := [] }
theorem sl6_w : memoWf sl6 = true := by kernel_rfl
theorem sl6_o : runB 32 sl6 = true := by kernel_rfl
def sl7 : Memo := { args := [ip 1544422356, .agg [ip 10, .str [115, 104, 105, 112, 32, 48, 32, 105, 110], .str [111, 107], ip 0]], size := 10, rows := [(1, .cells true [.int .u64 (1), .int .u64 (10), .int .u64 (100), .int .u64 (1000), .int .u64 (10000), .int .u64 (100000), .int .u64 (1000000), .int .u64 (10000000), .int .u64 (100000000), .int .u64 (1000000000), .int .u64 (10000000000), .int .u64 (100000000000), .int .u64 (1000000000000), .int .u64 (10000000000000), .int .u64 (100000000000000), .int .u64 (1000000000000000), .int .u64 (10000000000000000), .int .u64 (100000000000000000), .int .u64 (1000000000000000000), .int .u64 (10000000000000000000)]), (5, .cells true [im 20000, ip 20000])], v := ip 1469209297, size1 := 12, chg := [] }
theorem sl7_w : memoWf sl7 = true := by kernel_rfl
theorem sl7_o : runB 32 sl7 = true := by kernel_rfl
def sl8 : Memo := { args := [ip 1469209297, .agg [ip 10, .str [116, 105, 99, 107], .str [97, 116, 32, 49, 49, 58, 32, 48], ip 0]], size := 10, rows := [(1, .cells true [.int .u64 (1), .int .u64 (10), .int .u64 (100), .int .u64 (1000), .int .u64 (10000), .int .u64 (100000), .int .u64 (1000000), .int .u64 (10000000), .int .u64 (100000000), .int .u64 (1000000000), .int .u64 (10000000000), .int .u64 (100000000000), .int .u64 (1000000000000), .int .u64 (10000000000000), .int .u64 (100000000000000), .int .u64 (1000000000000000), .int .u64 (10000000000000000), .int .u64 (100000000000000000), .int .u64 (1000000000000000000), .int .u64 (10000000000000000000)]), (5, .cells true [im 20000, ip 20000])], v := ip 4824596, size1 := 12, chg := [] }
theorem sl8_w : memoWf sl8 = true := by kernel_rfl
theorem sl8_o : runB 32 sl8 = true := by kernel_rfl
def sl9 : Memo := { args := [ip 4824596, .agg [ip 11, .str [115, 104, 105, 112, 32, 48, 32, 111, 117, 116], .str [111, 107], ip 0]], size := 10, rows := [(1, .cells true [.int .u64 (1), .int .u64 (10), .int .u64 (100), .int .u64 (1000), .int .u64 (10000), .int .u64 (100000), .int .u64 (1000000), .int .u64 (10000000), .int .u64 (100000000), .int .u64 (1000000000), .int .u64 (10000000000), .int .u64 (100000000000), .int .u64 (1000000000000), .int .u64 (10000000000000), .int .u64 (100000000000000), .int .u64 (1000000000000000), .int .u64 (10000000000000000), .int .u64 (100000000000000000), .int .u64 (1000000000000000000), .int .u64 (10000000000000000000)]), (5, .cells true [im 20000, ip 20000])], v := ip 249690810, size1 := 12, chg := [] }
theorem sl9_w : memoWf sl9 = true := by kernel_rfl
theorem sl9_o : runB 32 sl9 = true := by kernel_rfl
def sl10 : Memo := { args := [ip 249690810, .agg [ip 11, .str [108, 101, 118, 101, 108, 115, 32, 53, 48, 48, 32, 53, 48, 48], .str [111, 107], ip 0]], size := 10, rows := [(1, .cells true [.int .u64 (1), .int .u64 (10), .int .u64 (100), .int .u64 (1000), .int .u64 (10000), .int .u64 (100000), .int .u64 (1000000), .int .u64 (10000000), .int .u64 (100000000), .int .u64 (1000000000), .int .u64 (10000000000), .int .u64 (100000000000), .int .u64 (1000000000000), .int .u64 (10000000000000), .int .u64 (100000000000000), .int .u64 (1000000000000000), .int .u64 (10000000000000000), .int .u64 (100000000000000000), .int .u64 (1000000000000000000), .int .u64 (10000000000000000000)]), (5, .cells true [im 20000, ip 20000])], v := ip 1085313151, size1 := 12, chg := [] }
theorem sl10_w : memoWf sl10 = true := by kernel_rfl
theorem sl10_o : runB 32 sl10 = true := by kernel_rfl
def sl11 : Memo := { args := [ip 1085313151, .agg [ip 11, .str [100, 101, 99, 105, 100, 101], .str [114, 101, 102, 117, 115, 101, 100, 32, 57], ip 0]], size := 10, rows := [(1, .cells true [.int .u64 (1), .int .u64 (10), .int .u64 (100), .int .u64 (1000), .int .u64 (10000), .int .u64 (100000), .int .u64 (1000000), .int .u64 (10000000), .int .u64 (100000000), .int .u64 (1000000000), .int .u64 (10000000000), .int .u64 (100000000000), .int .u64 (1000000000000), .int .u64 (10000000000000), .int .u64 (100000000000000), .int .u64 (1000000000000000), .int .u64 (10000000000000000), .int .u64 (100000000000000000), .int .u64 (1000000000000000000), .int .u64 (10000000000000000000)]), (5, .cells true [im 20000, ip 20000])], v := ip 1206968785, size1 := 12, chg := [] }
theorem sl11_w : memoWf sl11 = true := by kernel_rfl
theorem sl11_o : runB 32 sl11 = true := by kernel_rfl
def sl12 : Memo := { args := [ip 1206968785, .agg [ip 11, .str [116, 105, 99, 107], .str [97, 116, 32, 49, 50, 58, 32, 52, 48, 48], ip 0]], size := 10, rows := [(1, .cells true [.int .u64 (1), .int .u64 (10), .int .u64 (100), .int .u64 (1000), .int .u64 (10000), .int .u64 (100000), .int .u64 (1000000), .int .u64 (10000000), .int .u64 (100000000), .int .u64 (1000000000), .int .u64 (10000000000), .int .u64 (100000000000), .int .u64 (1000000000000), .int .u64 (10000000000000), .int .u64 (100000000000000), .int .u64 (1000000000000000), .int .u64 (10000000000000000), .int .u64 (100000000000000000), .int .u64 (1000000000000000000), .int .u64 (10000000000000000000)]), (5, .cells true [im 20000, ip 20000])], v := ip 1440449888, size1 := 12, chg := [] }
theorem sl12_w : memoWf sl12 = true := by kernel_rfl
theorem sl12_o : runB 32 sl12 = true := by kernel_rfl
def sl13 : Memo := { args := [ip 1440449888, .agg [ip 12, .str [102, 97, 105, 108, 32, 48], .str [102, 97, 105, 108, 101, 100, 32, 48], ip 0]], size := 10, rows := [(1, .cells true [.int .u64 (1), .int .u64 (10), .int .u64 (100), .int .u64 (1000), .int .u64 (10000), .int .u64 (100000), .int .u64 (1000000), .int .u64 (10000000), .int .u64 (100000000), .int .u64 (1000000000), .int .u64 (10000000000), .int .u64 (100000000000), .int .u64 (1000000000000), .int .u64 (10000000000000), .int .u64 (100000000000000), .int .u64 (1000000000000000), .int .u64 (10000000000000000), .int .u64 (100000000000000000), .int .u64 (1000000000000000000), .int .u64 (10000000000000000000)]), (5, .cells true [im 20000, ip 20000])], v := ip 470080610, size1 := 12, chg := [] }
theorem sl13_w : memoWf sl13 = true := by kernel_rfl
theorem sl13_o : runB 32 sl13 = true := by kernel_rfl
def sl14 : Memo := { args := [ip 470080610, .agg [ip 12, .str [102, 97, 105, 108, 32, 49], .str [102, 97, 105, 108, 101, 100, 32, 48, 32, 49], ip 0]], size := 10, rows := [(1, .cells true [.int .u64 (1), .int .u64 (10), .int .u64 (100), .int .u64 (1000), .int .u64 (10000), .int .u64 (100000), .int .u64 (1000000), .int .u64 (10000000), .int .u64 (100000000), .int .u64 (1000000000), .int .u64 (10000000000), .int .u64 (100000000000), .int .u64 (1000000000000), .int .u64 (10000000000000), .int .u64 (100000000000000), .int .u64 (1000000000000000), .int .u64 (10000000000000000), .int .u64 (100000000000000000), .int .u64 (1000000000000000000), .int .u64 (10000000000000000000)]), (5, .cells true [im 20000, ip 20000])], v := ip 1825282365, size1 := 12, chg := [] }
theorem sl14_w : memoWf sl14 = true := by kernel_rfl
theorem sl14_o : runB 32 sl14 = true := by kernel_rfl
def sl15 : Memo := { args := [ip 1825282365, .agg [ip 12, .str [116, 105, 99, 107], .str [97, 116, 32, 49, 51, 58, 32, 52, 48, 48], ip 0]], size := 10, rows := [(1, .cells true [.int .u64 (1), .int .u64 (10), .int .u64 (100), .int .u64 (1000), .int .u64 (10000), .int .u64 (100000), .int .u64 (1000000), .int .u64 (10000000), .int .u64 (100000000), .int .u64 (1000000000), .int .u64 (10000000000), .int .u64 (100000000000), .int .u64 (1000000000000), .int .u64 (10000000000000), .int .u64 (100000000000000), .int .u64 (1000000000000000), .int .u64 (10000000000000000), .int .u64 (100000000000000000), .int .u64 (1000000000000000000), .int .u64 (10000000000000000000)]), (5, .cells true [im 20000, ip 20000])], v := ip 2133203909, size1 := 12, chg := [] }
theorem sl15_w : memoWf sl15 = true := by kernel_rfl
theorem sl15_o : runB 32 sl15 = true := by kernel_rfl
def sl16 : Memo := { args := [ip 2133203909, .agg [ip 13, .str [108, 111, 111, 107], .str [116, 105, 99, 107, 32, 49, 51, 32, 108, 101, 118, 101, 108, 115, 32, 53, 48, 48, 32, 53, 48, 48, 32, 112, 111, 119, 101, 114, 32, 111, 102, 102, 59, 32, 103, 97, 116, 101, 115, 32, 52, 48, 48, 47, 49, 59, 32, 102, 97, 105, 108, 101, 100, 32, 48, 32, 49, 32, 51], ip 0]], size := 10, rows := [(1, .cells true [.int .u64 (1), .int .u64 (10), .int .u64 (100), .int .u64 (1000), .int .u64 (10000), .int .u64 (100000), .int .u64 (1000000), .int .u64 (10000000), .int .u64 (100000000), .int .u64 (1000000000), .int .u64 (10000000000), .int .u64 (100000000000), .int .u64 (1000000000000), .int .u64 (10000000000000), .int .u64 (100000000000000), .int .u64 (1000000000000000), .int .u64 (10000000000000000), .int .u64 (100000000000000000), .int .u64 (1000000000000000000), .int .u64 (10000000000000000000)]), (5, .cells true [im 20000, ip 20000])], v := ip 1773196368, size1 := 12, chg := [] }
theorem sl16_w : memoWf sl16 = true := by kernel_rfl
theorem sl16_o : runB 32 sl16 = true := by kernel_rfl
def sl17 : Memo := { args := [ip 1773196368, .agg [ip 13, .str [114, 101, 112, 97, 105, 114, 32, 48], .str [102, 97, 105, 108, 101, 100, 32, 49], ip 0]], size := 10, rows := [(1, .cells true [.int .u64 (1), .int .u64 (10), .int .u64 (100), .int .u64 (1000), .int .u64 (10000), .int .u64 (100000), .int .u64 (1000000), .int .u64 (10000000), .int .u64 (100000000), .int .u64 (1000000000), .int .u64 (10000000000), .int .u64 (100000000000), .int .u64 (1000000000000), .int .u64 (10000000000000), .int .u64 (100000000000000), .int .u64 (1000000000000000), .int .u64 (10000000000000000), .int .u64 (100000000000000000), .int .u64 (1000000000000000000), .int .u64 (10000000000000000000)]), (5, .cells true [im 20000, ip 20000])], v := ip 838705687, size1 := 12, chg := [] }
theorem sl17_w : memoWf sl17 = true := by kernel_rfl
theorem sl17_o : runB 32 sl17 = true := by kernel_rfl
def sl18 : Memo := { args := [ip 838705687, .agg [ip 13, .str [98, 111, 108, 116, 32, 48], .str [111, 107], ip 0]], size := 10, rows := [(1, .cells true [.int .u64 (1), .int .u64 (10), .int .u64 (100), .int .u64 (1000), .int .u64 (10000), .int .u64 (100000), .int .u64 (1000000), .int .u64 (10000000), .int .u64 (100000000), .int .u64 (1000000000), .int .u64 (10000000000), .int .u64 (100000000000), .int .u64 (1000000000000), .int .u64 (10000000000000), .int .u64 (100000000000000), .int .u64 (1000000000000000), .int .u64 (10000000000000000), .int .u64 (100000000000000000), .int .u64 (1000000000000000000), .int .u64 (10000000000000000000)]), (5, .cells true [im 20000, ip 20000])], v := ip 303324741, size1 := 12, chg := [] }
theorem sl18_w : memoWf sl18 = true := by kernel_rfl
theorem sl18_o : runB 32 sl18 = true := by kernel_rfl
def sl19 : Memo := { args := [ip 303324741, .agg [ip 13, .str [108, 111, 111, 107], .str [116, 105, 99, 107, 32, 49, 51, 32, 108, 101, 118, 101, 108, 115, 32, 53, 48, 48, 32, 53, 48, 48, 32, 112, 111, 119, 101, 114, 32, 111, 110, 59, 32, 103, 97, 116, 101, 115, 32, 52, 48, 48, 47, 49, 98, 59, 32, 102, 97, 105, 108, 101, 100, 32, 49], ip 0]], size := 10, rows := [(1, .cells true [.int .u64 (1), .int .u64 (10), .int .u64 (100), .int .u64 (1000), .int .u64 (10000), .int .u64 (100000), .int .u64 (1000000), .int .u64 (10000000), .int .u64 (100000000), .int .u64 (1000000000), .int .u64 (10000000000), .int .u64 (100000000000), .int .u64 (1000000000000), .int .u64 (10000000000000), .int .u64 (100000000000000), .int .u64 (1000000000000000), .int .u64 (10000000000000000), .int .u64 (100000000000000000), .int .u64 (1000000000000000000), .int .u64 (10000000000000000000)]), (5, .cells true [im 20000, ip 20000])], v := ip 444449417, size1 := 12, chg := [] }
theorem sl19_w : memoWf sl19 = true := by kernel_rfl
theorem sl19_o : runB 32 sl19 = true := by kernel_rfl
def sl20 : Memo := { args := [ip 444449417, .agg [ip 13, .str [99, 111, 110, 102, 105, 114, 109, 32, 49, 32, 50], .str [114, 101, 102, 117, 115, 101, 100, 32, 50, 48, 54], ip 0]], size := 10, rows := [(1, .cells true [.int .u64 (1), .int .u64 (10), .int .u64 (100), .int .u64 (1000), .int .u64 (10000), .int .u64 (100000), .int .u64 (1000000), .int .u64 (10000000), .int .u64 (100000000), .int .u64 (1000000000), .int .u64 (10000000000), .int .u64 (100000000000), .int .u64 (1000000000000), .int .u64 (10000000000000), .int .u64 (100000000000000), .int .u64 (1000000000000000), .int .u64 (10000000000000000), .int .u64 (100000000000000000), .int .u64 (1000000000000000000), .int .u64 (10000000000000000000)]), (5, .cells true [im 20000, ip 20000])], v := ip 649428910, size1 := 12, chg := [] }
theorem sl20_w : memoWf sl20 = true := by kernel_rfl
theorem sl20_o : runB 32 sl20 = true := by kernel_rfl
def sl21 : Memo := { args := [ip 649428910, .agg [ip 13, .str [97, 103, 97, 105, 110, 32, 49], .str [108, 105, 110, 101, 32, 49, 58, 32, 99, 108, 111, 115, 101, 32, 97, 116, 32, 49, 48, 32, 111, 112, 101, 110, 32, 49, 53], ip 0]], size := 10, rows := [(1, .cells true [.int .u64 (1), .int .u64 (10), .int .u64 (100), .int .u64 (1000), .int .u64 (10000), .int .u64 (100000), .int .u64 (1000000), .int .u64 (10000000), .int .u64 (100000000), .int .u64 (1000000000), .int .u64 (10000000000), .int .u64 (100000000000), .int .u64 (1000000000000), .int .u64 (10000000000000), .int .u64 (100000000000000), .int .u64 (1000000000000000), .int .u64 (10000000000000000), .int .u64 (100000000000000000), .int .u64 (1000000000000000000), .int .u64 (10000000000000000000)]), (5, .cells true [im 20000, ip 20000])], v := ip 1953021368, size1 := 12, chg := [] }
theorem sl21_w : memoWf sl21 = true := by kernel_rfl
theorem sl21_o : runB 32 sl21 = true := by kernel_rfl
def sl22 : Memo := { args := [ip 1953021368, .agg [ip 13, .str [108, 111, 111, 107, 32, 104, 101, 114, 101], .str [114, 101, 102, 117, 115, 101, 100, 32, 54], ip 0]], size := 10, rows := [(1, .cells true [.int .u64 (1), .int .u64 (10), .int .u64 (100), .int .u64 (1000), .int .u64 (10000), .int .u64 (100000), .int .u64 (1000000), .int .u64 (10000000), .int .u64 (100000000), .int .u64 (1000000000), .int .u64 (10000000000), .int .u64 (100000000000), .int .u64 (1000000000000), .int .u64 (10000000000000), .int .u64 (100000000000000), .int .u64 (1000000000000000), .int .u64 (10000000000000000), .int .u64 (100000000000000000), .int .u64 (1000000000000000000), .int .u64 (10000000000000000000)]), (5, .cells true [im 20000, ip 20000])], v := ip 1330988749, size1 := 12, chg := [] }
theorem sl22_w : memoWf sl22 = true := by kernel_rfl
theorem sl22_o : runB 32 sl22 = true := by kernel_rfl
end Go.Proofs.YtmpbgfeidflbeaaGreatDoor
/- seals, as oracles -/
namespace Go.Proofs.YtmpbgfeidflbeaaGreatDoor
open Go Go.E
noncomputable def slF : Fun := orF (memoQ sl0) (orF (memoQ sl1) (orF (memoQ sl2) (orF (memoQ sl3) (orF (memoQ sl4) (orF (memoQ sl5) (orF (memoQ sl6) (orF (memoQ sl7) (orF (memoQ sl8) (orF (memoQ sl9) (orF (memoQ sl10) (orF (memoQ sl11) (orF (memoQ sl12) (orF (memoQ sl13) (orF (memoQ sl14) (orF (memoQ sl15) (orF (memoQ sl16) (orF (memoQ sl17) (orF (memoQ sl18) (orF (memoQ sl19) (orF (memoQ sl20) (orF (memoQ sl21) (orF (memoQ sl22) (plainF 32)))))))))))))))))))))))
theorem slF_R (l : List (Nat × Fun)) : CallR (cfgX l) Tryz.prog 32 slF :=
  orF_R (ifF_R (runM_R l sl0_w sl0_o)) (orF_R (ifF_R (runM_R l sl1_w sl1_o)) (orF_R (ifF_R (runM_R l sl2_w sl2_o)) (orF_R (ifF_R (runM_R l sl3_w sl3_o)) (orF_R (ifF_R (runM_R l sl4_w sl4_o)) (orF_R (ifF_R (runM_R l sl5_w sl5_o)) (orF_R (ifF_R (runM_R l sl6_w sl6_o)) (orF_R (ifF_R (runM_R l sl7_w sl7_o)) (orF_R (ifF_R (runM_R l sl8_w sl8_o)) (orF_R (ifF_R (runM_R l sl9_w sl9_o)) (orF_R (ifF_R (runM_R l sl10_w sl10_o)) (orF_R (ifF_R (runM_R l sl11_w sl11_o)) (orF_R (ifF_R (runM_R l sl12_w sl12_o)) (orF_R (ifF_R (runM_R l sl13_w sl13_o)) (orF_R (ifF_R (runM_R l sl14_w sl14_o)) (orF_R (ifF_R (runM_R l sl15_w sl15_o)) (orF_R (ifF_R (runM_R l sl16_w sl16_o)) (orF_R (ifF_R (runM_R l sl17_w sl17_o)) (orF_R (ifF_R (runM_R l sl18_w sl18_o)) (orF_R (ifF_R (runM_R l sl19_w sl19_o)) (orF_R (ifF_R (runM_R l sl20_w sl20_o)) (orF_R (ifF_R (runM_R l sl21_w sl21_o)) (orF_R (ifF_R (runM_R l sl22_w sl22_o)) (plainF_R l 32)))))))))))))))))))))))
theorem twoX_R (c : List (Nat × Fun)) : ∀ p ∈ twoX, CallR (cfgX c) Tryz.prog p.1 p.2 := fun p hp => by
  rcases List.mem_cons.1 hp with rfl | hp
  · exact ckF_R _
  rcases List.mem_cons.1 hp with rfl | hp
  · exact doF_R _
  rcases List.mem_cons.1 hp with rfl | hp
  · exact tkF_R _
  rcases List.mem_cons.1 hp with rfl | hp
  · exact thF_R _
  rcases List.mem_cons.1 hp with rfl | hp
  · exact rtF_R _
  rcases List.mem_cons.1 hp with rfl | hp
  · exact dcF_R _
  rcases List.mem_cons.1 hp with rfl | hp
  · exact joinF_R _
  · exact baseX_R _ p hp
noncomputable def threeX : List (Nat × Fun) := (32, slF) :: twoX
noncomputable def cfg3 : Cfg := cfgX threeX
theorem cfg3_ok : CfgOK cfg3 Tryz.prog := cfgX_ok fun p hp => by
  rcases List.mem_cons.1 hp with rfl | hp
  · exact slF_R _
  · exact twoX_R _ p hp
noncomputable def runW (f : Nat) (m : Memo) : Bool := memoOut m (call cfg3 1000 f m.args m.K)
theorem runW_R (l : List (Nat × Fun)) {f : Nat} {m : Memo} (hw : memoWf m = true) (ho : runW f m = true) : CallR (cfgX l) Tryz.prog f (memoRun m 10) := by
  unfold runW at ho
  exact (memo_fun (c := cfg3) cfg3_ok (keyX threeX l) glob_ok hw ho).call
end Go.Proofs.YtmpbgfeidflbeaaGreatDoor
