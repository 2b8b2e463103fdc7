/- WatchKnown is proved: the function returns true. Condition: none -/
import Derived.Test.YtmpbgfeidflbeaaGreatDoorKr
import Derived.Test.YtmpbgfeidflbeaaGreatDoorKo
import Derived.SevenTiedAt
import Derived.Test.YtmpbgfeidflbeaaGreatDoorCards
/- The card of WatchKnown holds. -/
namespace Go.Proofs.YtmpbgfeidflbeaaGreatDoor
open Go
theorem card_wf : Rows.watchKnownRow.wfByText (OpenSpec.ofChange Rows.watchKnownSpec) = true := by kernel_rfl
theorem card_main : Tryz.prog.mainIs = some (true, "f04804f77e7fe5e775d066c806e0c8e0ce21ba0e14da87b88a4dd399121435ce".toList) := by kernel_rfl
theorem card_looks : true = Tryz.prog.looks [] := by kernel_rfl
theorem goes_none {P : Program} (h : P.funcs.toList.all (fun fn => !fn.goes) = true) (f : FuncId) : P.goes f = false := by
  have h1 : ∀ fn ∈ P.funcs.toList, fn.goes = false := fun fn hf => by simpa using List.all_eq_true.1 h fn hf
  have h2 : P.funcs.any Func.goes = false := by
    rw [Array.any_eq_false]
    intro i hi
    rw [h1 _ (Array.getElem_mem_toList hi)]; simp
  have h3 : ((P.closure f).any fun g => (P.funcs[g]?).any Func.goes) = false := by
    rw [List.any_eq_false]
    intro g _
    cases e : P.funcs[g]? with
    | none => simp
    | some fn => simp [h1 fn (Array.mem_toList_iff.2 (Array.mem_of_getElem? e))]
  unfold Program.goes
  rw [h3, h2]; simp
theorem all_cut {α : Type} {p : α → Bool} {l : List α} (n : Nat) (h1 : (l.take n).all p = true) (h2 : (l.drop n).all p = true) : l.all p = true := by
  rw [← List.take_append_drop n l, List.all_append, h1, h2]; rfl
theorem goesA0 : (Tryz.prog.funcs.toList.take 73).all (fun fn => !fn.goes) = true := by kernel_rfl
theorem goesA73 : ((Tryz.prog.funcs.toList.drop 73).take 73).all (fun fn => !fn.goes) = true := by kernel_rfl
theorem goesA146 : ((Tryz.prog.funcs.toList.drop 146).take 73).all (fun fn => !fn.goes) = true := by kernel_rfl
theorem goesA219 : ((Tryz.prog.funcs.toList.drop 219).take 73).all (fun fn => !fn.goes) = true := by kernel_rfl
theorem goesA292 : ((Tryz.prog.funcs.toList.drop 292).take 73).all (fun fn => !fn.goes) = true := by kernel_rfl
theorem goesA365 : ((Tryz.prog.funcs.toList.drop 365).take 73).all (fun fn => !fn.goes) = true := by kernel_rfl
theorem goesA438 : ((Tryz.prog.funcs.toList.drop 438).take 73).all (fun fn => !fn.goes) = true := by kernel_rfl
theorem goesA511 : ((Tryz.prog.funcs.toList.drop 511).take 73).all (fun fn => !fn.goes) = true := by kernel_rfl
theorem goesA584 : ((Tryz.prog.funcs.toList.drop 584).take 73).all (fun fn => !fn.goes) = true := by kernel_rfl
theorem goesR657 : (Tryz.prog.funcs.toList.drop 657).all (fun fn => !fn.goes) = true := by kernel_rfl
theorem goesR584 : (Tryz.prog.funcs.toList.drop 584).all (fun fn => !fn.goes) = true := all_cut 73 goesA584 (by rw [List.drop_drop]; exact goesR657)
theorem goesR511 : (Tryz.prog.funcs.toList.drop 511).all (fun fn => !fn.goes) = true := all_cut 73 goesA511 (by rw [List.drop_drop]; exact goesR584)
theorem goesR438 : (Tryz.prog.funcs.toList.drop 438).all (fun fn => !fn.goes) = true := all_cut 73 goesA438 (by rw [List.drop_drop]; exact goesR511)
theorem goesR365 : (Tryz.prog.funcs.toList.drop 365).all (fun fn => !fn.goes) = true := all_cut 73 goesA365 (by rw [List.drop_drop]; exact goesR438)
theorem goesR292 : (Tryz.prog.funcs.toList.drop 292).all (fun fn => !fn.goes) = true := all_cut 73 goesA292 (by rw [List.drop_drop]; exact goesR365)
theorem goesR219 : (Tryz.prog.funcs.toList.drop 219).all (fun fn => !fn.goes) = true := all_cut 73 goesA219 (by rw [List.drop_drop]; exact goesR292)
theorem goesR146 : (Tryz.prog.funcs.toList.drop 146).all (fun fn => !fn.goes) = true := all_cut 73 goesA146 (by rw [List.drop_drop]; exact goesR219)
theorem goesR73 : (Tryz.prog.funcs.toList.drop 73).all (fun fn => !fn.goes) = true := all_cut 73 goesA73 (by rw [List.drop_drop]; exact goesR146)
theorem goesR0 : Tryz.prog.funcs.toList.all (fun fn => !fn.goes) = true := all_cut 73 goesA0 goesR73
theorem goes3 : Tryz.prog.goes 3 = false := goes_none goesR0 3
theorem card_goes : false = Rows.watchKnownRow.goesBy Tryz.prog := by
  have h : Tryz.prog.goesFrom "barrage/barragelaw12.WatchKnown" = false := by
    unfold Program.goesFrom
    rw [known_named, Option.any_some]; exact goes3
  have e : Rows.watchKnownRow.func = "barrage/barragelaw12.WatchKnown" := rfl
  have es : Rows.watchKnownRow.start = .entering := rfl
  unfold OpenClaim.goesBy Program.goesAt
  rw [e, es, h]; rfl
def card : Claim7 := { stood := { row := Rows.watchKnownRow, standIns := [], harness := (true, "f04804f77e7fe5e775d066c806e0c8e0ce21ba0e14da87b88a4dd399121435ce"), looks := true }, kinds := [], alts := [], laidByText := true, laidKinds := kinds9, laidTests := true, laidLooks := .later }
theorem card_holds : Claim7.holds Tryz.pinned (.plain (OpenSpec.ofChange Rows.watchKnownSpec)) card :=
  Claim7.holds_tied_plain_at .later [] kinds9 true (true, "f04804f77e7fe5e775d066c806e0c8e0ce21ba0e14da87b88a4dd399121435ce") true
    f_holds (fun _ h => by cases h) card_wf (fun _ h => by cases h) row_tie rfl ⟨rfl, rfl⟩ card_main rfl
    (fun f fn hf hfn => by
      obtain rfl : f = 3 := Option.some.inj ((show Tryz.prog.funcNamed "barrage/barragelaw12.WatchKnown" = some 3 from known_named).symm.trans hf) |>.symm
      obtain rfl : fn = Tryz.f3 := (Option.some.inj (Tryz.func3.symm.trans hfn)).symm
      exact ⟨card_looks, fun j t ht => by
        have h0 : Tryz.f3.params.toList = [] := params3
        rw [← Array.getElem?_toList, h0] at ht
        cases ht⟩)
    card_goes
theorem watchKnown : Rows.WatchKnownCardSaid := card_holds
#print axioms watchKnown
end Go.Proofs.YtmpbgfeidflbeaaGreatDoor
