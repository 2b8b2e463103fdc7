/- the row holds -/
import Derived.Test.YtmpbgfeidflbeaaGreatDoorRows
import Derived.LaidOnce
import Derived.LaidLaws
import Derived.LaidHandle
import Derived.RowKit
import Derived.Test.YtmpbgfeidflbeaaGreatDoorKn
import Derived.Test.YtmpbgfeidflbeaaGreatDoorKp
import Derived.ChangeSame
import Derived.ChangeVars
import Derived.JoinedOf
import Derived.HandedShaped
import Derived.Stop.Joined
import Derived.Test.YtmpbgfeidflbeaaGreatDoorKq
/- A world in which the variables are laid: the row's witness. -/
namespace Go.Proofs.YtmpbgfeidflbeaaGreatDoor
open Go
noncomputable def low : Nat := (World.holding Tryz.prog default ⟨#[], #[], []⟩).heap.size
def litV : DataW Unit → Value
  | .lit (.int k n) => .int k n
  | _ => .nilIface
def flat1 : DataW Unit → List Value
  | .agg l => l.map litV
  | _ => []
def flat2 : DataW Unit → List Value
  | .agg l => l.flatMap flat1
  | _ => []
def setC (g : Nat) (cs : List Value) (h : Array Obj) : Array Obj := h.modify g fun
  | .cells _ t frozen => .cells cs.toArray t frozen
  | o => o
abbrev rangeS : ByteArray := { data := #[118, 97, 108, 117, 101, 32, 111, 117, 116, 32, 111, 102, 32, 114, 97, 110, 103, 101] }
abbrev synS : ByteArray := { data := #[105, 110, 118, 97, 108, 105, 100, 32, 115, 121, 110, 116, 97, 120] }
noncomputable def laidWorld (os : Os) : World :=
  let w0 := World.holding Tryz.prog os ⟨#[.cells #[.string rangeS] 748, .cells #[.string synS] 748], #[], []⟩
  { w0 with heap := setC 0 [.iface 478 (.agg #[typeHandle Tryz.prog 234])] (setC 1 (flat1 Rows.laid_internal_strconv_uint64pow10) (setC 3 (flat1 Rows.laid_unicode_utf8_first) (setC 4 (flat2 Rows.laid_unicode_utf8_acceptRanges)
      (setC 5 (flat1 Rows.laid_barrage_surge_level) (setC 6 (flat1 Rows.laid_math_bits_deBruijn32tab) (setC 7 (flat1 Rows.laid_math_bits_deBruijn64tab)
      (setC 8 [.iface 746 (.pointer (some ⟨low + 1, 0, none⟩))] (setC 9 [.iface 746 (.pointer (some ⟨low, 0, none⟩))] w0.heap)))))))) }
noncomputable def laidW (os : Os) : World := (laidWorld os).forCall (fun _ _ => 0) ⟨#[], #[], []⟩
theorem laidMet_of_bits {P : Program} {w : World} {l : List (String × DataW Unit)} (fuel M : Nat)
    (h : ((DataW.laidRun P w fuel (l.map (·.1))).bind fun x => if nodupBits M x.2 0 && laidRowsB P w x.2 then some x.1 else none) = some l) : laidMet P l w := by
  rw [Option.bind_eq_some_iff] at h
  obtain ⟨x, hx, h⟩ := h
  split at h
  · rename_i hb
    simp only [Option.some.injEq] at h
    rw [Bool.and_eq_true] at hb
    exact laidMet_of_run (ps := x.2) fuel (by rw [hx, ← h]) (decide_eq_true (nodupBits_sound hb.1).1) hb.2
  · cases h
theorem wit_laid (os : Os) : laidMetH Tryz.prog Rows.watchKnownRow.laid (laidW os).memory :=
  laidMetH_of_parts (laidMet_of_bits 8 512 (by kernel_rfl)) (by kernel_rfl)
theorem wit_os (os : Os) : (laidWorld os).os = os := rfl
theorem wit_vars (os : Os) : (laidW os).variablesRefB Tryz.prog = true := by kernel_rfl
theorem wit_rest (os : Os) : ((laidW os).heap.toList.drop Tryz.prog.globals.size).take ((begin Tryz.prog (fun _ _ => 0) default).world.heap.size - Tryz.prog.globals.size) =
    (begin Tryz.prog (fun _ _ => 0) default).world.heap.toList.drop Tryz.prog.globals.size := by kernel_rfl
theorem wit_ok (os : Os) : Input.okWideB Tryz.prog (laidW os) 3 ⟨#[], #[], []⟩ = true := by kernel_rfl
end Go.Proofs.YtmpbgfeidflbeaaGreatDoor
/- The row of WatchKnown holds. -/
namespace Go.Proofs.YtmpbgfeidflbeaaGreatDoor
open Go Go.E Go.ChangeShapes Go.WideShapes Go.RowKit
/-- the wrap, the world's shape and what is laid kept -/
theorem handed_and_shaped {H : Type} {enc : TypeId × Value → H} {a : Assume} {C : Checked} {os : Os} {f : FuncId} {fn : Func} {s : ChangeSpec} {conds : List PathCond} {apart fresh handsOn again : Bool} {X : World → Array Value → Prop}
    (hX : ∀ (w w' : World) (args : Array Value), w.heap = w'.heap → X w args → X w' args)
    (own : ownKnob C.prog.godebug = none) (started : os.Started) (noInit : C.prog.inits.idxOf? f = none) (hfn : C.prog.funcs[f]? = some fn)
    (witness : ∃ (w : World) (tape : Tape) (i : Input), w.os = os ∧ (w.forCall tape i).Shaped C.prog ∧ i.vars = [] ∧ Input.okWide C.prog (w.forCall tape i) .any w.heap.size f i ∧
      ((s.pre enc C.prog fn conds apart (w.forCall tape i).memory i.args ∧ X (w.forCall tape i).memory i.args) ∧ sizedMet enc C.prog fn (OpenSpec.ofChange s) apart (w.forCall tape i).memory i.args) ∧ a.holds C.prog (lone (Frame.enter C.prog f i.args .normal) [] (w.forCall tape i)))
    (contract : ∀ (W : World) (args : Array Value) (ds gs : List (DataW H)) (before : List MemPlace),
      DataW.Whole enc C.prog fn.params.toList s.vars apart W args.toList ds gs before → W.ShapedOpen C.prog → X W args →
      Calls C.prog f args W fun e W' => ∃ v, e = .returned v ∧ s.post enc C.prog fn apart fresh handsOn again W args v W') :
    ReturnsInHanded a C os f .any (fun w args => (s.pre enc C.prog fn conds apart w args ∧ X w args) ∧ sizedMet enc C.prog fn (OpenSpec.ofChange s) apart w args) (s.post enc C.prog fn apart fresh handsOn again) := by
  refine returnsInHanded_of_calls own started noInit witness ?_
  intro w tape i _ hsh _ hok hpre hholds
  obtain ⟨_, _, _, fn', hfn', _, _, _, _, hval⟩ := hok
  have e : fn' = fn := Option.some.inj (hfn'.symm.trans hfn)
  subst e
  obtain ⟨⟨⟨ds, gs, before, hw, hc⟩, hx⟩, hz⟩ := hpre
  have hw' := DataW.Whole.of_heap (w' := w.forCall tape i) (by rfl) hw
  refine (contract (w.forCall tape i) i.args ds gs before hw' hsh (hX _ _ _ (by rfl) hx)).mono fun e W' ⟨v, he, hp⟩ => ?_
  subst he
  exact ChangeSpec.post_blind hp
theorem own_none : ownKnob Tryz.prog.godebug = none := by kernel_rfl
theorem no_init : Tryz.prog.inits.idxOf? 3 = none := by kernel_rfl
theorem params3 : Tryz.f3.params.toList = [] := by kernel_rfl
theorem results3 : Tryz.f3.resultTypes.toList = [4] := by kernel_rfl
theorem law_lifted (os : Os) (started : os.Started) (H : Type) (enc : TypeId × Value → H) :
    ReturnsInHanded {} Tryz.checked os 3 .any (fun w args => (Rows.watchKnownSpec.pre enc Tryz.prog Tryz.f3 [] false w args ∧ laidMetH Tryz.prog Rows.watchKnownRow.laid w) ∧ sizedMet enc Tryz.prog Tryz.f3 (OpenSpec.ofChange Rows.watchKnownSpec) false w args)
      (Rows.watchKnownSpec.post enc Tryz.prog Tryz.f3 false true false false) := by
  refine handed_and_shaped (C := Tryz.checked) (X := fun w _ => laidMetH Tryz.prog Rows.watchKnownRow.laid w) (fun _ _ _ hh h => h.of_heap hh) own_none started no_init Tryz.func3
    (ChangeSpec.witness_shaped (enc := enc) (C := Tryz.checked) (os := os) (X := fun w _ => laidMetH Tryz.prog Rows.watchKnownRow.laid w) false (laidWorld os) #[] 8 (wit_os os) (World.shaped_of_RefB (wit_vars os) (wit_rest os)) (wit_ok os) (by kernel_rfl) (by kernel_rfl) (wit_laid os)) ?_
  intro W args ds gs before hW hS hL
  have hW' := hW
  obtain ⟨p, q, hA0, hV0, rfl, hfz, hnd⟩ := hW
  have hA : DataW.TrodAll enc Tryz.prog W 0 (fun _ => true) true Tryz.f3.params.toList args.toList ds p := hA0
  have hV : DataW.TrodVars enc Tryz.prog W (fun _ => true) [] gs q := hV0
  rw [params3] at hA
  obtain ⟨ha, rfl, rfl⟩ := trodAll_nil hA
  obtain ⟨rfl, rfl⟩ : gs = [] ∧ q = [] := by
    cases gs with
    | nil => exact ⟨rfl, hV⟩
    | cons g r => exact absurd hV (by intro h; cases h)
  have ha' : args = #[] := Array.ext' (by simpa using ha)
  subst ha'
  refine (law_calls hS hL).mono fun e W' ⟨he, hk⟩ => ?_
  subst he
  have e1 : Rows.watchKnownSpec.fn H ([] ++ []) = { results := [.lit (.bool true)], args := [] } := by simp [Rows.watchKnownSpec]
  refine ⟨_, rfl, _, _, _, [], [], [], hW', ?_, ?_, ?_, ?_, fun h => by cases h⟩
  · rw [e1]
    show DataW.TrodAll _ _ _ _ _ _ Tryz.f3.resultTypes.toList _ _ _
    rw [results3]
    exact trodAll_mk1 (shut_bool Tryz.underlying4 true)
  · rw [e1]
    show DataW.TrodAll _ _ _ _ _ _ Tryz.f3.params.toList _ _ _
    rw [params3]
    exact trodAll_mk0
  · rw [e1]; rfl
  · obtain ⟨k1, k2, k3⟩ := hk
    refine ⟨k1, k2, fun i hi => ?_⟩
    have := k3 i hi
    revert this
    generalize W.heap[i]? = x
    generalize W'.heap[i]? = y
    intro h
    cases x with
    | none => exact h
    | some x => cases y with
      | none => cases x <;> exact h
      | some y => cases x <;> cases y <;> first | exact h | exact ⟨h.1, h.2.1, h.2.2.1, fun j _ => h.2.2.2 j (fun z => z)⟩ | exact h.elim (fun z => z.elim) .inr
end Go.Proofs.YtmpbgfeidflbeaaGreatDoor
/- WatchKnown holds. -/
namespace Go.Proofs.YtmpbgfeidflbeaaGreatDoor
open Go
theorem known_named : Tryz.prog.funcNamed "barrage/barragelaw12.WatchKnown" = some 3 := by kernel_rfl
theorem f_holds : Rows.WatchKnownSaid :=
  OpenClaim.holds_of_wide 3 Tryz.f3 rfl rfl rfl rfl rfl rfl rfl ⟨rfl, rfl, rfl, rfl, rfl⟩ rfl rfl rfl rfl rfl known_named Tryz.func3 closed
    (of_decide_eq_true (by kernel_rfl)) (by unfold Func.isWrapper; rw [if_neg (of_decide_eq_false (by kernel_rfl))]; exact ⟨rfl, rfl⟩)
    (fun os started H enc _ => law_lifted os started H enc)
end Go.Proofs.YtmpbgfeidflbeaaGreatDoor
