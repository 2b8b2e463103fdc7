/- WatchKnown in a world -/
import Derived.Test.YtmpbgfeidflbeaaGreatDoorKm
import Derived.Test.YtmpbgfeidflbeaaGreatDoorEh
import Derived.Test.YtmpbgfeidflbeaaGreatDoorRows
import Derived.LaidSub
import Derived.Shelf.Vars
/- WatchKnown returns true in every world in which the variables are laid. -/
namespace Go.Proofs.YtmpbgfeidflbeaaGreatDoor
open Go Go.E
def pow10L : List Int := [1, 10, 100, 1000, 10000, 100000, 1000000, 10000000, 100000000, 1000000000, 10000000000, 100000000000, 1000000000000, 10000000000000, 100000000000000, 1000000000000000, 10000000000000000, 100000000000000000, 1000000000000000000, 10000000000000000000]
def levelL : List Int := [-20000, 20000]
def rowsK (m : Int) : List (Nat × Row) := [(5, .cells true (levelL.map (AV.int .i64))), (1, .cells true (pow10L.map (AV.int .u64))), (2, .cells true ([m].map (AV.int .i64)))]
theorem h0_start (m : Int) : h0 m = heap0 10 (rowsK m) := rfl
theorem call_known (m : Int) : ∃ h', call cfg4 1000 3 [] (heap0 10 (rowsK m)) = some (.ret (.bool true), h') := by
  have h := known_ok m
  rw [← h0_start]
  unfold knownB at h
  split at h
  · rename_i b h' e
    subst h
    exact ⟨h', e⟩
  · cases h
theorem g5 : Tryz.prog.globalNamed "barrage/surge.level" = some 5 := by kernel_rfl
theorem g1 : Tryz.prog.globalNamed "internal/strconv.uint64pow10" = some 1 := by kernel_rfl
theorem gt5 : (Tryz.prog.globals[5]?).map (·.type) = some 269 := by kernel_rfl
theorem gt1 : (Tryz.prog.globals[1]?).map (·.type) = some 588 := by kernel_rfl
noncomputable def levelFs : Array Field := match Tryz.prog.underlying 269 with | some (.struct fs) => fs | _ => #[]
theorem u269 : Tryz.prog.underlying 269 = some (.struct levelFs) := by kernel_rfl
theorem levelFs_ok : ∀ (i : Nat) (f : Field), levelFs.toList[i]? = some f → f.offset = i ∧ f.type = 3 := by
  have h2 : levelFs.toList.length = 2 := by kernel_rfl
  have h0 : (levelFs.toList[0]?).map (fun f => (f.offset, f.type)) = some (0, 3) := by kernel_rfl
  have h1 : (levelFs.toList[1]?).map (fun f => (f.offset, f.type)) = some (1, 3) := by kernel_rfl
  intro i f hf
  rcases i with _ | _ | i
  · rw [hf] at h0; simpa using h0
  · rw [hf] at h1; simpa using h1
  · rw [List.getElem?_eq_none (by omega)] at hf; cases hf
theorem size_globals : Tryz.prog.globals.size = 10 := by kernel_rfl
theorem zero9 : (((begin Tryz.prog (fun _ _ => 0) default).world.heap[9]?).bind Obj.row?).isSome = true := by kernel_rfl
theorem zero2 : ((begin Tryz.prog (fun _ _ => 0) default).world.heap[2]?).bind Obj.row? = some (#[.int .i64 0], 3) := by kernel_rfl
theorem shaped_size {W : World} (hs : W.ShapedOpen Tryz.prog) : 10 ≤ W.heap.size := by
  obtain ⟨⟨z, t⟩, e⟩ := Option.isSome_iff_exists.1 zero9
  obtain ⟨cs, h, _⟩ := hs.1 9 z t (by rw [size_globals]; omega) e
  rcases Nat.lt_or_ge 9 W.heap.size with q | q
  · exact q
  · rw [Array.getElem?_eq_none q] at h; cases h
theorem maxLen_cell {W : World} (hs : W.ShapedOpen Tryz.prog) : ∃ m t fr, W.heap[2]? = some (.cells #[.int .i64 m] t fr) := by
  obtain ⟨m, hm⟩ := cell_of_shapedOpen_int hs (g := 2) (by rw [size_globals]; omega) zero2 rfl (by kernel_rfl) (by kernel_rfl) Tryz.underlying3
  obtain ⟨cs, h, hz, _⟩ := hs.1 2 _ _ (by rw [size_globals]; omega) zero2
  refine ⟨m, 3, (0, 0), ?_⟩
  have : cs = #[.int .i64 m] := by
    have hm2 : cs[0]? = some (.int .i64 m) := by
      have e : W.cell? ⟨2, 0, none⟩ = cs[0]? := by simp [World.cell?, h]
      rw [← e]; exact hm
    clear hm; have hm := hm2
    apply Array.ext'
    have hl : cs.toList.length = 1 := hz
    match hc : cs.toList, hl with
    | [x], _ =>
      have : cs[0]? = some x := by rw [← Array.getElem?_toList, hc]; rfl
      rw [this] at hm; simp only [Option.some.injEq] at hm; rw [hm]
  rw [h, this]
theorem law_calls {W : World} (hs : W.ShapedOpen Tryz.prog) (hl : laidMetH Tryz.prog Rows.watchKnownRow.laid W) :
    Calls Tryz.prog 3 #[] W fun e W' => e = .returned (.bool true) ∧ W.keptBut W' (fun _ => False) := by
  obtain ⟨⟨ps, hv, _⟩, _⟩ := laidMetH_iff.1 hl
  obtain ⟨m, t, fr, h2⟩ := maxLen_cell hs
  have hG := shaped_size hs
  have M : Models cfg4 Tryz.prog All (mu0 10 W) (heap0 10 (rowsK m)) W := by
    refine models_start hG fun p hp => ?_
    simp only [rowsK, List.mem_cons, List.mem_nil_iff, or_false] at hp
    rcases hp with rfl | rfl | rfl
    · exact ⟨by decide, ⟨_, rfl⟩, row_struct (k := .i64) (L := levelL) hv (List.mem_of_getElem? (i := 7) (by kernel_rfl)) g5 (by decide) gt5 u269 Tryz.underlying3 (by kernel_rfl) (by kernel_rfl) levelFs_ok (by kernel_rfl)⟩
    · exact ⟨by decide, ⟨_, rfl⟩, row_laid (k := .u64) (L := pow10L) (n := 20) (e := 464) hv (List.mem_of_getElem? (i := 0) (by kernel_rfl)) g1 (by decide) gt1 Tryz.underlying588 Tryz.underlying464 (by kernel_rfl) (by kernel_rfl) (by kernel_rfl)⟩
    · refine ⟨(show (2 : Nat) < 10 by decide), ⟨_, rfl⟩, row_ints (g := 2) (L := [m]) (show (2 : Nat) < 10 by decide) h2 rfl fun i hi => ?_⟩
      have : i = 0 := by simpa using hi
      subst this
      exact ⟨m, rfl, rfl⟩
  have G : GlobR Tryz.prog (mu0 10 W) := fun g hg => ⟨len0 W g, by rw [size_globals] at hg; unfold mu0; exact if_pos hg⟩
  obtain ⟨h', hr⟩ := call_known m
  refine (call_sound cfg4_ok hr M G (args' := []) .nil).mono fun e w' H => ?_
  obtain ⟨v, μ', rfl, hv, _, g⟩ := H
  cases hv
  refine ⟨rfl, kept_start (fun p hp => ?_) g⟩
  simp only [rowsK, List.mem_cons, List.mem_nil_iff, or_false] at hp
  rcases hp with rfl | rfl | rfl <;> exact ⟨_, rfl⟩
end Go.Proofs.YtmpbgfeidflbeaaGreatDoor
