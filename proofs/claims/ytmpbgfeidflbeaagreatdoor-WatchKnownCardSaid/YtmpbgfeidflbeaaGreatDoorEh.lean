/- loops over maps; oracles; the heap at the start -/
import Derived.Test.YtmpbgfeidflbeaaGreatDoorEg
import Derived.Shelf.Strings.Replace
import GoSem.ClaimFn
import Derived.Test.YtmpbgfeidflbeaaGreatDoorEf
import GoSem.ClaimJoined
import Derived.FnData
/-! E, part J1: a row that is taken out of a heap for a while; a block that no row has. -/
namespace Go.E
variable {c : Cfg} {P : Program} {μ μ' μ0 : Mu} {h h' h2 h0 : Heap} {w w' w0 : World}

/-- a heap with another row -/
def Heap.at (h : Heap) (r : Nat) (x : Row) : Heap := ⟨h.size, T.set .dead h.tr r x, h.mark, h.log, h.hide⟩
theorem Heap.get_at (h : Heap) (r : Nat) (x : Row) (s : Nat) : (h.at r x).get s = if hidden s h.hide then .dead else if r = s then x else h.get s := by
  rw [Heap.get_eq]
  simp only [Heap.at, T.get_set]
  rw [Heap.get_eq]
  by_cases hh : hidden s h.hide <;> simp [hh]
theorem get_dead_at (h : Heap) (r s : Nat) : (h.at r .dead).get s = if r = s then .dead else h.get s := by
  rw [Heap.get_at]
  by_cases hh : hidden s h.hide
  · rw [if_pos hh, get_hidden hh, ite_self]
  · rw [if_neg hh]
theorem Models.killAt (M : Models c P All μ h w) (r : Nat) : Models c P All μ (h.at r .dead) w := by
  refine ⟨fun s hv => ?_, fun s t hst a b o l => ?_, M.dom, fun s hs => ?_, M.size, M.hid, M.mark⟩
  · rw [get_dead_at]
    by_cases e : r = s
    · rw [if_pos e]; trivial
    · rw [if_neg e]; exact M.row s hv
  · rw [get_dead_at] at o l
    by_cases e : r = s
    · rw [if_pos e] at o; exact o.elim
    · rw [if_neg e] at o
      by_cases e2 : r = t
      · rw [if_pos e2] at l; exact l.elim
      · rw [if_neg e2] at l; exact M.apart s t hst a b o l
  · rw [get_dead_at]
    by_cases e : r = s
    · rw [if_pos e]
    · rw [if_neg e]; exact M.dead s hs
theorem Models.revive (M : Models c P All μ h w) {r : Nat} {x : Row} (e : h.get r = x) (ho : x.own) (M' : Models c P All μ' h2 w') (G : Goes μ (h.at r .dead) w μ' h2 w') :
    Models c P All μ' (h2.at r x) w' ∧ Goes μ h w μ' (h2.at r x) w' := by
  have hl := Row.own_live ho
  have hlt : r < h.size := by
    rcases Nat.lt_or_ge r h.size with q | q
    · exact q
    · rw [M.dead r q] at e; subst e; exact ho.elim
  have hhid : hidden r h.hide = false := by
    cases q : hidden r h.hide with
    | false => rfl
    | true => rw [get_hidden q] at e; subst e; exact ho.elim
  have hh2 : h2.hide = h.hide := G.hide
  have hrow : RowR c P All μ w r x := by rw [← e]; exact M.row r (vis_all r)
  obtain ⟨p, hp⟩ := hrow.some hl
  have hb : blk μ r = some p.1 := by unfold blk; rw [hp]; rfl
  have hb' : blk μ' r = some p.1 := by unfold blk; rw [G.le r p hp]; rfl
  have hg2 : ∀ s, (h2.at r x).get s = if r = s then x else h2.get s := fun s => by
    rw [Heap.get_at]
    by_cases q : hidden s h2.hide
    · rw [if_pos q]
      by_cases e2 : r = s
      · subst e2; rw [hh2, hhid] at q; cases q
      · rw [if_neg e2, get_hidden q]
    · rw [if_neg q]
  have hk : ∀ s, s ≠ r → (h.at r .dead).get s = h.get s := fun s hs => by rw [get_dead_at, if_neg (Ne.symm hs)]
  have ownk : ∀ s, ((h.at r .dead).get s).own → s ≠ r ∧ (h.get s).own := fun s hs => by
    rw [get_dead_at] at hs
    by_cases q : r = s
    · rw [if_pos q] at hs; exact hs.elim
    · rw [if_neg q] at hs; exact ⟨Ne.symm q, hs⟩
  have other : ∀ s, s ≠ r → (h2.get s).live → blk μ' s ≠ some p.1 := fun s hs hls => by
    obtain ⟨q, hq⟩ := (M'.row s (vis_all s)).some hls
    have hbs : blk μ' s = some q.1 := by unfold blk; rw [hq]; rfl
    rcases Nat.lt_or_ge s h.size with q1 | q1
    · have l1 := G.live s q1 hls
      rw [hk s hs] at l1
      have := M.apart r s (Ne.symm hs) (vis_all _) (vis_all _) (by rw [e]; exact ho) l1
      obtain ⟨q2, hq2⟩ := (M.row s (vis_all s)).some l1
      have hbs0 : blk μ s = some q2.1 := by unfold blk; rw [hq2]; rfl
      rw [blk_le G.le hbs0, ← hbs0, ← hb]; exact Ne.symm this
    · intro hc
      rcases G.fresh s p.1 (M.dom s q1) hc with q2 | ⟨t, t1, t2⟩
      · have := M.size r p hp; omega
      · obtain ⟨u1, u2⟩ := ownk t t1
        exact M.apart r t (Ne.symm u1) (vis_all _) (vis_all _) (by rw [e]; exact ho) (Row.own_live u2) (by rw [hb, t2])
  have hsame : w'.heap[p.1]? = w.heap[p.1]? := G.same p.1 (M.size r p hp) fun s hs hc => by
    obtain ⟨u1, u2⟩ := ownk s hs
    exact M.apart r s (Ne.symm u1) (vis_all _) (vis_all _) (by rw [e]; exact ho) (Row.own_live u2) (by rw [hb, hc])
  refine ⟨⟨fun s hv => ?_, fun s t hst a b o l => ?_, M'.dom, fun s hs => ?_, M'.size, M'.hid, M'.mark⟩, ?_⟩
  · rw [hg2]
    by_cases q : r = s
    · subst q; rw [if_pos rfl]
      exact hrow.keep G.le fun b hbb => by rw [hb] at hbb; cases hbb; exact hsame
    · rw [if_neg q]; exact M'.row s hv
  · rw [hg2] at o l
    by_cases q : r = s
    · subst q
      rw [if_neg hst] at l
      rw [hb']; exact Ne.symm (other t (Ne.symm hst) l)
    · rw [if_neg q] at o
      by_cases q2 : r = t
      · subst q2; rw [hb']; exact other s hst (Row.own_live o)
      · rw [if_neg q2] at l; exact M'.apart s t hst a b o l
  · rw [hg2]
    by_cases q : r = s
    · subst q
      have := G.rows
      have hs2 : (h.at r .dead).size = h.size := rfl
      have hs3 : (h2.at r x).size = h2.size := rfl
      rw [hs2] at this; rw [hs3] at hs; omega
    · rw [if_neg q]; exact M'.dead s hs
  · refine ⟨G.le, G.size, G.os, G.output, G.tape, fun b hb0 hn => ?_, fun s b hn hbb => ?_, fun s hs hos => ?_, G.rows, G.hide, G.mark, fun s cs hc => ?_, fun s hs => ?_, ?_, fun s hs hls => ?_, G.dom⟩
    · exact G.same b hb0 fun s hs => hn s (ownk s hs).2
    · rcases G.fresh s b hn hbb with q | ⟨t, t1, t2⟩
      · exact .inl q
      · exact .inr ⟨t, (ownk t t1).2, t2⟩
    · rw [hg2] at hos
      by_cases q : r = s
      · subst q; rw [e]; exact ho
      · rw [if_neg q] at hos
        have := G.own s hs hos
        exact (ownk s this).2
    · rw [hg2]
      by_cases q : r = s
      · subst q; rw [e] at hc; subst hc; cases ho
      · rw [if_neg q]; exact G.ro s cs (by rw [hk s (Ne.symm q)]; exact hc)
    · have hs' : r ≠ s := fun q => by subst q; rw [hhid] at hs; cases hs
      have := G.hid s hs
      simp only [Heap.at, T.get_set] at this ⊢
      rw [if_neg hs'] at this ⊢; exact this
    · obtain ⟨new, n1, n2⟩ := G.told
      refine ⟨new, n1, fun s hs i hn => ?_⟩
      have := n2 s hs i hn
      simp only [Heap.at, T.get_set] at this ⊢
      by_cases q : r = s
      · subst q
        rw [if_pos rfl]
        rw [Heap.get_eq, if_neg (by rw [hhid]; simp)] at e
        rw [e]; exact sameAt.refl _ _
      · rw [if_neg q] at this ⊢; exact this
    · rw [hg2] at hls
      by_cases q : r = s
      · subst q; rw [e]; exact hl
      · rw [if_neg q] at hls
        have := G.live s hs hls
        rw [hk s (Ne.symm q)] at this; exact this

/-- a block that no row has may be anything -/
theorem Models.touch (M : Models c P All μ h w) {b : Nat} (hb : ∀ r, (h.get r).live → blk μ r ≠ some b) (o : Obj) (n : Nat) : Models c P All μ h { w with heap := w.heap.setIfInBounds b o, drawn := n } := by
  refine ⟨fun r hv => ?_, M.apart, M.dom, M.dead, fun r p hp => by simpa using M.size r p hp, M.hid, M.mark⟩
  have H := M.row r hv
  by_cases q : (h.get r).live
  · refine H.keep (Mu.le_refl _) fun b' hb' => ?_
    have : b ≠ b' := fun q2 => by subst q2; exact hb r q hb'
    simp [this]
  · rw [not_live q]; trivial
theorem Goes.touch (G : Goes μ0 h0 w0 μ h w) {b : Nat} (hb : w0.heap.size ≤ b) (o : Obj) (n : Nat) : Goes μ0 h0 w0 μ h { w with heap := w.heap.setIfInBounds b o, drawn := n } :=
  ⟨G.le, by simpa using G.size, G.os, G.output, G.tape, fun b' hb' hn => by
    have : b ≠ b' := by omega
    simp only [Array.getElem?_setIfInBounds, this, if_false]
    exact G.same b' hb' hn, G.fresh, G.own, G.rows, G.hide, G.mark, G.ro, G.hid, G.told, G.live, G.dom⟩
/-- a block that no row has is not met by what is done with the rows -/
theorem Goes.apart {b : Nat} (M : Models c P All μ h w) (_M' : Models c P All μ' h' w') (G : Goes μ h w μ' h' w') (hlt : b < w.heap.size) (hb : ∀ r, (h.get r).live → blk μ r ≠ some b) :
    w'.heap[b]? = w.heap[b]? ∧ ∀ r, (h'.get r).live → blk μ' r ≠ some b := by
  refine ⟨G.same b hlt fun r ho => hb r (Row.own_live ho), fun r hl hc => ?_⟩
  rcases Nat.lt_or_ge r h.size with q | q
  · have l1 := G.live r q hl
    obtain ⟨p, hp⟩ := (M.row r (vis_all r)).some l1
    exact hb r l1 (blk_of_le G.le hp hc)
  · rcases G.fresh r b (M.dom r q) hc with q2 | ⟨s, s1, s2⟩
    · omega
    · exact hb s (Row.own_live s1) s2
end Go.E
/-! E, part J2: a range over a map, as the model has it: the next entry is any that is left. -/
namespace Go.E
variable {P : Program} {w : World}

/-- what is left of a map's entries -/
def leftM (es : Array MapEntry) (seen : Array Nat) : List MapEntry := es.toList.filter fun e => !seen.contains e.born

theorem run_getObj_mit {r : Nat} {m : Option Nat} {s l : Nat} {seen : Array Nat} (hb : w.heap[r]? = some (.mapIter m s seen l)) : (getObj r).run P w = .ok (.mapIter m s seen l) w := by
  simp [getObj, Sem.run, hb]
theorem run_setObj_mit {r : Nat} {m : Option Nat} {s l : Nat} {seen : Array Nat} (o : Obj) (hb : w.heap[r]? = some (.mapIter m s seen l)) : (setObj r o).run P w = .ok () { w with heap := w.heap.setIfInBounds r o } := by
  simp [setObj, Sem.run, hb]
theorem range_run {t kt e : TypeId} {m clock : Nat} {es : Array MapEntry} (ht : P.underlying t = some (.map kt e)) (hm : w.heap[m]? = some (.map es clock)) :
    (Instr.range t (.map (some m))).run P w = .ok (.pointer (some ⟨w.heap.size, 0, none⟩)) (wnew w (.mapIter (some m) clock #[] clock)) := by
  simp [Instr.range, run_underlying' w ht, MapKept.run_getObj_map hm, wnew]
theorem next_run {ib m clock : Nat} {es : Array MapEntry} {seen : Array Nat} {ty : TypeId} (hi : w.heap[ib]? = some (.mapIter (some m) clock seen clock)) (hm : w.heap[m]? = some (.map es clock)) (hbn : ∀ n ∈ es.toList.map (·.born), n < clock) :
    (leftM es seen = [] ∧ (Instr.next (.pointer (some ⟨ib, 0, none⟩)) false ty).run P w = .ok (.tuple #[.bool false]) w) ∨
    (∃ (j : Nat) (e : MapEntry) (n : Nat), (leftM es seen)[j]? = some e ∧ (Instr.next (.pointer (some ⟨ib, 0, none⟩)) false ty).run P w = .ok (.tuple #[.bool true, e.key, e.val]) { w with heap := w.heap.setIfInBounds ib (.mapIter (some m) clock (seen.push e.born) clock), drawn := n }) := by
  have hall : (!seen.isEmpty && !es.isEmpty && es.all (fun e => decide (e.born ≥ clock))) = false := by
    cases q : es.isEmpty with
    | true => simp
    | false =>
      have hne : es.toList ≠ [] := fun h => by
        have : es = #[] := by apply Array.ext'; simpa using h
        subst this; simp at q
      obtain ⟨e, l, hl⟩ := List.exists_cons_of_ne_nil hne
      have hf : es.all (fun e => decide (e.born ≥ clock)) = false := by
        rw [← Array.all_toList, hl, List.all_cons]
        have := hbn e.born (by rw [hl]; simp)
        have h2 : decide (e.born ≥ clock) = false := by simp; exact this
        rw [h2]; rfl
      rw [hf]; simp
  have hleft : (es.filter fun e => !seen.contains e.born).toList = leftM es seen := by unfold leftM; rw [Array.toList_filter]
  have hold : (es.filter fun e => !seen.contains e.born).filter (fun e => decide (e.born < clock)) = es.filter fun e => !seen.contains e.born := by
    apply Array.ext'
    rw [Array.toList_filter, hleft, List.filter_eq_self]
    intro a ha
    unfold leftM at ha
    simp only [decide_eq_true_eq]
    exact hbn _ (List.mem_map.2 ⟨a, (List.mem_filter.1 ha).1, rfl⟩)
  have hnew : (es.filter fun e => !seen.contains e.born).filter (fun e => decide (e.born ≥ clock)) = #[] := by
    apply Array.ext'
    rw [Array.toList_filter, hleft]
    simp only [List.filter_eq_nil_iff]
    intro a ha
    unfold leftM at ha
    have := hbn _ (List.mem_map.2 ⟨a, (List.mem_filter.1 ha).1, rfl⟩)
    simp; exact this
  have hrun : (Instr.next (.pointer (some ⟨ib, 0, none⟩)) false ty).run P w = (do
      let lf := es.filter fun e => !seen.contains e.born
      let candidates := (if lf.isEmpty then #[none] else #[]) ++ (lf ++ #[]).map some
      match candidates[← choose (.mapNext candidates.size)]? with
      | some (some e) =>
        setObj ib (.mapIter (some m) clock (seen.push e.born) clock)
        pure (.tuple #[.bool true, e.key, e.val])
      | some none => pure (.tuple #[.bool false])
      | none => stuck "Next: no such candidate" : Sem Value).run P w := by
    unfold Instr.next
    simp only [Sem.run_bind, run_getObj_mit hi, Result.andThen_ok, MapKept.run_getObj_map hm]
    rw [hall]
    simp only [Bool.false_eq_true, if_false, Sem.run_bind, hold, hnew]
    rfl
  rw [hrun]
  simp only [Array.append_empty]
  by_cases hz : leftM es seen = []
  · refine .inl ⟨hz, ?_⟩
    have : es.filter (fun e => !seen.contains e.born) = #[] := by apply Array.ext'; rw [hleft, hz]
    rw [this]
    simp [Question.forced]
  · right
    have hne : (es.filter fun e => !seen.contains e.born).isEmpty = false := by
      cases q : (es.filter fun e => !seen.contains e.born).isEmpty with
      | false => rfl
      | true =>
        rw [Array.isEmpty_iff] at q
        rw [q] at hleft; exact absurd hleft.symm hz
    rw [hne]
    simp only [Bool.false_eq_true, if_false, Array.empty_append, Array.size_map]
    generalize hA : (es.filter fun e => !seen.contains e.born) = A at *
    have hsz : 0 < A.size := by
      rcases Nat.eq_zero_or_pos A.size with q | q
      · have : A = #[] := Array.eq_empty_of_size_eq_zero q
        rw [this] at hleft; exact absurd hleft.symm hz
      · exact q
    have go : ∀ j n, j < A.size → ∃ e : MapEntry, (leftM es seen)[j]? = some e ∧ ((match (A.map some)[j]? with
        | some (some e) => (do setObj ib (.mapIter (some m) clock (seen.push e.born) clock); pure (.tuple #[.bool true, e.key, e.val]) : Sem Value)
        | some none => pure (.tuple #[.bool false])
        | none => stuck "Next: no such candidate").run P { w with drawn := n } = .ok (.tuple #[.bool true, e.key, e.val]) { w with heap := w.heap.setIfInBounds ib (.mapIter (some m) clock (seen.push e.born) clock), drawn := n }) := by
      intro j n hj
      refine ⟨A[j], by rw [← hleft, Array.getElem?_toList]; exact Array.getElem?_eq_getElem hj, ?_⟩
      have h1 : (A.map some)[j]? = some (some A[j]) := by simp [hj]
      rw [h1]
      have hi' : ({ w with drawn := n } : World).heap[ib]? = some (.mapIter (some m) clock seen clock) := hi
      simp only [Sem.run_bind, run_setObj_mit _ hi', Result.andThen_ok, Sem.run_pure]
    by_cases h1 : A.size ≤ 1
    · obtain ⟨e, e1, e2⟩ := go 0 w.drawn hsz
      refine ⟨0, e, w.drawn, e1, ?_⟩
      simp only [Sem.run_bind, run_choose, Question.forced, h1, decide_true, if_true, Result.andThen_ok]
      exact e2
    · have hlt : w.tape w.drawn (.mapNext A.size) % A.size < A.size := Nat.mod_lt _ hsz
      obtain ⟨e, e1, e2⟩ := go _ (w.drawn + 1) hlt
      refine ⟨_, e, w.drawn + 1, e1, ?_⟩
      simp only [Sem.run_bind, run_choose, Question.forced, h1, decide_false, Bool.false_eq_true, if_false, Result.andThen_ok, Question.cut]
      exact e2
theorem entry_run {ib m clock : Nat} {es : Array MapEntry} {seen : Array Nat} {e : MapEntry} (hi : w.heap[ib]? = some (.mapIter (some m) clock (seen.push e.born) clock)) (hm : w.heap[m]? = some (.map es clock)) (he : e ∈ es.toList) (hn : (es.toList.map (·.born)).Nodup) :
    (Instr.entry (.pointer (some ⟨ib, 0, none⟩))).run P w = .ok (.tuple #[e.key, e.val]) w := by
  have hf : es.find? (fun x => x.born == e.born) = some e := by
    rw [← Array.find?_toList]
    generalize es.toList = l at he hn
    induction l with
    | nil => cases he
    | cons a l ih =>
      rw [List.map_cons, List.nodup_cons] at hn
      rw [List.find?_cons]
      rcases List.mem_cons.1 he with rfl | he
      · simp
      · have : (a.born == e.born) = false := by
          simp; intro q; exact hn.1 (by rw [q]; exact List.mem_map.2 ⟨e, he, rfl⟩)
        rw [this]; exact ih he hn.2
  unfold Instr.entry
  simp only [Sem.run_bind, run_getObj_mit hi, Result.andThen_ok, MapKept.run_getObj_map hm, Array.back?_push, bne_self_eq_false, Bool.false_eq_true, if_false]
  rw [hf]
  simp
end Go.E
/-! E, part J3: a loop over a map whose body handles one entry a round: what it comes to in one of the orders. -/
namespace Go.E
variable {c : Cfg} {P : Program} {μ μ' μ0 : Mu} {h h' h0 : Heap} {w w' w0 : World}

/-- one operation of a region -/
def IsOp (ops : Array Oper) (i : Nat) (op : Op) (d : Option Tmp) : Prop := ∃ o, ops[i]? = some o ∧ o.op = op ∧ o.dst = d ∧ o.guard = none
theorem spec_step {b : Frame} {a : Act} {k : List Item} {cs : List Frame} {ops : Array Oper} {i : Nat} {rest : List Nat} {op : Op} {d : Option Tmp} (ho : IsOp ops i op d) (hd : ∀ k, op ≠ .defer k) {v : Value} {w' : World}
    (hr : ∀ o : Oper, o.op = op → (execOp a.eval o).run P w = .ok (.value v) w') :
    Steps P (lone (b.atR a (.inRegion ops (i :: rest) :: k)) cs w) (lone (b.atR (a.put d v) (.inRegion ops rest :: k)) cs w') := by
  obtain ⟨o, h1, h2, h3, h4⟩ := ho
  rcases op_steps (b := b) (k := k) (cs := cs) (rest := rest) (R := fun v' w'' => v' = v ∧ w'' = w') (Q := fun _ _ => False) h1 (by simp [Region.wanted, h4]) (.inr (by rw [h2]; exact hd)) (.value v w' (hr o h2) ⟨rfl, rfl⟩) with ⟨v', w'', ⟨rfl, rfl⟩, st⟩ | ⟨_, _, hF, _⟩
  · rw [h3] at st; exact st
  · exact hF.elim
theorem range_one {n : Nat} (h : 0 < n) : List.range n = 0 :: List.range' 1 (n - 1) := by
  rw [List.range_eq_range']
  obtain ⟨m, rfl⟩ : ∃ m, n = m + 1 := ⟨n - 1, by omega⟩
  rw [List.range'_succ]; simp

/-- where a pointer to an iterator is -/
def itOk (tm : T AV) (t45 it : Nat) : Bool := match T.get undef tm t45 with | .ptr r 0 => Nat.beq r it | _ => false
theorem itOk_spec {tm : T AV} {t45 it : Nat} (h : itOk tm t45 it = true) : T.get undef tm t45 = .ptr it 0 := by
  unfold itOk at h
  split at h
  · rename_i r e; rw [e, Nat.eq_of_beq_eq_true h]
  · cases h

structure PickT where
  ops14 : Array Oper
  ops15 : Array Oper
  ops16 : Array Oper
  b4 : Nat
  b5 : Nat
  r14 : Nat
  r15 : Nat
  r16 : Nat
  t45 : Tmp
  t46 : Tmp
  t47 : Tmp
  t48 : Tmp
def PickT.code (t : PickT) : Code := .seq (.region t.r14 t.ops14 false) (.seq (.cond (.tmp t.t47) .skip (.exit t.b4)) (.block t.b5 (.seq (.region t.r15 t.ops15 false) (.region t.r16 t.ops16 false))))
structure PickOK (P : Program) (fn : Func) (t : PickT) : Prop where
  o14 : IsOp t.ops14 0 (.next (.tmp t.t45) false) (some t.t46)
  o15 : IsOp t.ops15 0 (.entry (.tmp t.t45)) (some t.t48)
  k14 : ∀ (i : Nat) (o : Oper), t.ops14[i]? = some o → OkOper P fn o
  k15 : ∀ (i : Nat) (o : Oper), t.ops15[i]? = some o → OkOper P fn o
  k16 : ∀ (i : Nat) (o : Oper), t.ops16[i]? = some o → OkOper P fn o

section
variable (c : Cfg) (env : Env) (t : PickT) (it : Nat)
def withT (s : St) (d : Tmp) (x : AV) : St := ⟨(setOf (some d)).run s.tm x, s.hp, s.df, s.pn⟩
def pickEnd (s : St) : Option St :=
  bif itOk s.tm t.t45 it then
    match (compOps c t.ops14 (t.ops14.toList.drop 1)).run env (withT s t.t46 (.tup [.bool false])) with
    | some (.normal, s1) => (match T.get undef s1.tm t.t47 with | .bool false => some s1 | _ => none)
    | _ => none
  else none
def pickStep (kv : AV × AV) (s : St) : Option St :=
  bif itOk s.tm t.t45 it then
    match (compOps c t.ops14 (t.ops14.toList.drop 1)).run env (withT s t.t46 (.tup [.bool true, kv.1, kv.2])) with
    | some (.normal, s1) => (match T.get undef s1.tm t.t47 with
      | .bool true =>
        bif itOk s1.tm t.t45 it then
          (match (compOps c t.ops15 (t.ops15.toList.drop 1)).run env (withT s1 t.t48 (.tup [kv.1, kv.2])) with
          | some (.normal, s2) => (match (compOps c t.ops16 t.ops16.toList).run env s2 with
            | some (.normal, s3) => some s3
            | _ => none)
          | _ => none)
        else none
      | _ => none)
    | _ => none
  else none
def pickE : List (AV × AV) → St → Option St
  | [], s => pickEnd c env t it s
  | kv :: l, s => match pickStep c env t it kv s with | some s' => pickE l s' | none => none
end

variable {env : Env} {b : Frame} {fn : Func} {t : PickT} {it : Nat}
/-- the state of the loop -/
structure PickS (c : Cfg) (P : Program) (f : FuncId) (μ0 : Mu) (h0 : Heap) (w0 : World) (it ib mb clock : Nat) (seen : Array Nat) (es : Array MapEntry) (μ : Mu) (s : St) (a : Act) (w : World) : Prop where
  S : StR c P f μ s a w
  G : Goes μ0 h0 w0 μ s.hp w
  iter : w.heap[ib]? = some (.mapIter (some mb) clock seen clock)
  map : w.heap[mb]? = some (.map es clock)
  apart : ∀ r, (s.hp.get r).live → blk μ r ≠ some ib
  apartm : ∀ r, (s.hp.get r).live → blk μ r ≠ some mb
  low : w0.heap.size ≤ ib
  place : ∃ N, μ it = some (ib, 0, N)

variable {ib mb clock : Nat} {seen : Array Nat} {es : Array MapEntry}
theorem PickS.run (X : CtxR c P env b fn) {s s1 : St} {a : Act} (M0 : Models c P All μ0 h0 w0) (I : PickS c P b.fn μ0 h0 w0 it ib mb clock seen es μ s a w) {ops : Array Oper} (hk : ∀ (i : Nat) (o : Oper), ops[i]? = some o → OkOper P fn o) {i : Nat}
    (hr : (compOps c ops (ops.toList.drop i)).run env s = some (.normal, s1)) {k : List Item} {cs : List Frame} (hp : PnR μ b cs s.pn) :
    ∃ μ1 a1 w1 cs1, PickS c P b.fn μ0 h0 w0 it ib mb clock seen es μ1 s1 a1 w1 ∧ μ.le μ1 ∧ CsR b cs cs1 ∧ PnR μ1 b cs1 s1.pn ∧
      Steps P (lone (b.atR a (.inRegion ops (List.range' i (ops.size - i)) :: k)) cs w) (lone (b.atR a1 k) cs1 w1) := by
  obtain ⟨μ1, a1, w1, cs1, q1, q2, q3, q4, q5⟩ := compOps_sound X hk _ i rfl s s1 .normal a w μ k cs hr I.S hp
  have l1 : ib < w.heap.size := (Array.getElem?_eq_some_iff.1 I.iter).1
  have l2 : mb < w.heap.size := (Array.getElem?_eq_some_iff.1 I.map).1
  obtain ⟨g1, g2⟩ := Goes.apart I.S.M q1.M q2 l1 I.apart
  obtain ⟨g3, g4⟩ := Goes.apart I.S.M q1.M q2 l2 I.apartm
  obtain ⟨N, hN⟩ := I.place
  exact ⟨μ1, a1, w1, cs1, ⟨q1, I.G.trans M0 q2, by rw [g1]; exact I.iter, by rw [g3]; exact I.map, g2, g4, I.low, N, q2.le _ _ hN⟩, q2.le, q3, q4, q5⟩
theorem PickS.put (X : CtxR c P env b fn) {s : St} {a : Act} (I : PickS c P b.fn μ0 h0 w0 it ib mb clock seen es μ s a w) {d : Tmp} (hd : d < fn.ntmps) {x : AV} {v : Value} (hv : VR μ x v) :
    PickS c P b.fn μ0 h0 w0 it ib mb clock seen es μ (withT s d x) (a.put (some d) v) w := by
  obtain ⟨tm, hp, df, pn⟩ := s
  exact ⟨I.S.put X.fn (by intro t ht; cases ht; exact hd) hv I.S.M (Mu.le_refl _), I.G, I.iter, I.map, I.apart, I.apartm, I.low, I.place⟩
theorem PickS.ptr {s : St} {a : Act} {f : FuncId} (I : PickS c P f μ0 h0 w0 it ib mb clock seen es μ s a w) {d : Tmp} (h : itOk s.tm d it = true) : a.eval (.tmp d) = .pointer (some ⟨ib, 0, none⟩) := by
  have e := itOk_spec h
  have hv := I.S.tm.2 d
  rw [e] at hv
  obtain ⟨N, hN⟩ := I.place
  have he : a.eval (.tmp d) = a.tmps.getD d Go.undef := rfl
  rw [he]
  generalize a.tmps.getD d Go.undef = v at hv
  cases hv with
  | ptr _ _ b base N' hm => rw [hN] at hm; cases hm; rfl
end Go.E
/-! E, part J4: the loop over a map. -/
namespace Go.E
variable {c : Cfg} {P : Program} {μ μ' μ0 : Mu} {h h' h0 : Heap} {w w' w0 : World} {env : Env} {b : Frame} {fn : Func} {t : PickT} {it ib mb clock : Nat} {es : Array MapEntry}

theorem spec_step1 {a : Act} {k : List Item} {cs : List Frame} {ops : Array Oper} {i : Nat} {rest : List Nat} {o : Oper} {op : Op} {d : Option Tmp} (h1 : ops[i]? = some o) (h2 : o.op = op) (h3 : o.dst = d) (h4 : o.guard = none) (hd : ∀ k, op ≠ .defer k) {v : Value}
    (hr : (execOp a.eval o).run P w = .ok (.value v) w') :
    Steps P (lone (b.atR a (.inRegion ops (i :: rest) :: k)) cs w) (lone (b.atR (a.put d v) (.inRegion ops rest :: k)) cs w') := by
  rcases op_steps (b := b) (k := k) (cs := cs) (rest := rest) (R := fun v' w'' => v' = v ∧ w'' = w') (Q := fun _ _ => False) h1 (by simp [Region.wanted, h4]) (.inr (by rw [h2]; exact hd)) (.value v w' hr ⟨rfl, rfl⟩) with ⟨v', w'', ⟨rfl, rfl⟩, st⟩ | ⟨_, _, hF, _⟩
  · rw [h3] at st; exact st
  · exact hF.elim
theorem left_push {es : Array MapEntry} {seen : Array Nat} {C D : List MapEntry} {e : MapEntry} (hl : leftM es seen = C ++ e :: D) (hn : (es.toList.map (·.born)).Nodup) : leftM es (seen.push e.born) = C ++ D := by
  have h1 : leftM es (seen.push e.born) = (leftM es seen).filter fun x => !(x.born == e.born) := by
    unfold leftM
    rw [List.filter_filter]
    apply List.filter_congr
    intro x _
    rw [Array.contains_push]
    have hc : (e.born == x.born) = (x.born == e.born) := by simp [Bool.beq_eq_decide_eq, eq_comm]
    cases seen.contains x.born <;> cases q : (x.born == e.born) <;> simp_all
  have hsub : ((leftM es seen).map (·.born)).Nodup := hn.sublist (List.filter_sublist.map _)
  rw [hl] at hsub
  rw [h1, hl]
  simp only [List.map_append, List.map_cons] at hsub
  rw [List.nodup_append] at hsub
  obtain ⟨_, n2, n3⟩ := hsub
  rw [List.nodup_cons] at n2
  have hC : C.filter (fun x => !(x.born == e.born)) = C := by
    rw [List.filter_eq_self]
    intro x hx
    have := n3 x.born (List.mem_map.2 ⟨x, hx, rfl⟩) e.born (by simp)
    simpa using this
  have hD : D.filter (fun x => !(x.born == e.born)) = D := by
    rw [List.filter_eq_self]
    intro x hx
    have : x.born ≠ e.born := fun q => n2.1 (by rw [← q]; exact List.mem_map.2 ⟨x, hx, rfl⟩)
    simpa using this
  rw [List.filter_append, List.filter_cons, hC, hD]
  simp
theorem vl_split {A1 : List AV} : ∀ {x : AV} {A2 : List AV} {L : List Value}, VL μ (A1 ++ x :: A2) L → ∃ L1 y L2, L = L1 ++ y :: L2 ∧ L1.length = A1.length ∧ VL μ A1 L1 ∧ VR μ x y ∧ VL μ A2 L2 := by
  induction A1 with
  | nil => intro x A2 L h; cases h with | cons h1 h2 => exact ⟨[], _, _, rfl, rfl, .nil, h1, h2⟩
  | cons a A1 ih =>
    intro x A2 L h
    cases h with
    | cons h1 h2 =>
      obtain ⟨L1, y, L2, e, e2, q1, q2, q3⟩ := ih h2
      exact ⟨_ :: L1, y, L2, by rw [e]; rfl, by simp [e2], .cons h1 q1, q2, q3⟩
theorem split_nth {α : Type} : ∀ {l : List α} {j : Nat} {x : α}, l[j]? = some x → ∃ A B, l = A ++ x :: B ∧ A.length = j
  | [], _, _, h => by simp at h
  | a :: l, 0, x, h => by simp at h; subst h; exact ⟨[], l, rfl, rfl⟩
  | a :: l, j + 1, x, h => by
    obtain ⟨A, B, e, e2⟩ := split_nth (l := l) (by simpa using h)
    exact ⟨a :: A, B, by rw [e]; rfl, by simp [e2]⟩
theorem pick_loop (X : CtxR c P env b fn) (O : PickOK P fn t) (M0 : Models c P All μ0 h0 w0) (hbn : ∀ n ∈ es.toList.map (·.born), n < clock) (hnd : (es.toList.map (·.born)).Nodup) (k : List Item) :
    ∀ (n : Nat) (A : List (AV × AV)) (seen : Array Nat) (s : St) (a : Act) (w : World) (μ : Mu) (cs : List Frame), A.length = n → PickS c P b.fn μ0 h0 w0 it ib mb clock seen es μ s a w →
      VL μ (A.map (·.1)) ((leftM es seen).map (·.key)) → VL μ (A.map (·.2)) ((leftM es seen).map (·.val)) → PnR μ b cs s.pn → (∀ q, q.Perm A → ∃ s', pickE c env t it q s = some s') →
      ∃ q s' μ' a' w' cs' seen', q.Perm A ∧ pickE c env t it q s = some s' ∧ PickS c P b.fn μ0 h0 w0 it ib mb clock seen' es μ' s' a' w' ∧ CsR b cs cs' ∧ PnR μ' b cs' s'.pn ∧
        Steps P (lone (b.atR a (.code t.code :: .inLoop t.code :: .inBlock t.b4 :: k)) cs w) (lone (b.atR a' k) cs' w') := by
  intro n
  induction n with
  | zero =>
    intro A seen s a w μ cs hA I v1 v2 hp hq
    have hA0 : A = [] := List.eq_nil_of_length_eq_zero hA
    subst hA0
    obtain ⟨s', hs'⟩ := hq [] (.refl _)
    have hl0 : leftM es seen = [] := by
      have := v1.length
      simp at this
      exact List.eq_nil_of_length_eq_zero this.symm
    have hs0 := hs'
    simp only [pickE, pickEnd] at hs0
    cases hit : itOk s.tm t.t45 it with
    | false => rw [hit] at hs0; cases hs0
    | true =>
      rw [hit] at hs0; simp only [cond_true] at hs0
      cases hr : (compOps c t.ops14 (t.ops14.toList.drop 1)).run env (withT s t.t46 (.tup [.bool false])) with
      | none => rw [hr] at hs0; cases hs0
      | some p =>
        obtain ⟨e, s1⟩ := p
        rw [hr] at hs0
        cases e <;> simp only [] at hs0 <;> first | (cases hs0; done) | skip
        have h47 : T.get undef s1.tm t.t47 = .bool false ∧ s1 = s' := by
          generalize T.get undef s1.tm t.t47 = z at hs0
          cases z with
          | bool x => cases x <;> first | (cases hs0; done) | (simp only [Option.some.injEq] at hs0; exact ⟨rfl, hs0⟩)
          | _ => cases hs0
        obtain ⟨h47, rfl⟩ := h47
        obtain ⟨o, o1, o2, o3, o4⟩ := O.o14
        have hptr := I.ptr hit
        rcases next_run (P := P) (ty := o.type) I.iter I.map hbn with ⟨_, hn⟩ | ⟨j, e, _, hj, _⟩
        · have hx : (execOp a.eval o).run P w = .ok (.value (.tuple #[.bool false])) w := by
            simp only [execOp, o2, hptr, Sem.run_bind, hn, Result.andThen_ok, Sem.run_pure]
          have st1 := spec_step1 (b := b) (k := .code (.seq (.cond (.tmp t.t47) .skip (.exit t.b4)) (.block t.b5 (.seq (.region t.r15 t.ops15 false) (.region t.r16 t.ops16 false)))) :: .inLoop t.code :: .inBlock t.b4 :: k) (cs := cs) (rest := List.range' 1 (t.ops14.size - 1)) o1 o2 o3 o4 (by simp) hx
          have I1 := I.put X ((O.k14 0 o o1).dst _ o3) (x := .tup [.bool false]) (v := .tuple #[.bool false]) (.tup _ _ (.cons (.bool _) .nil))
          obtain ⟨μ1, a1, w1, cs1, I2, _, q3, q4, q5⟩ := I1.run X M0 O.k14 hr (k := .code (.seq (.cond (.tmp t.t47) .skip (.exit t.b4)) (.block t.b5 (.seq (.region t.r15 t.ops15 false) (.region t.r16 t.ops16 false)))) :: .inLoop t.code :: .inBlock t.b4 :: k) hp
          have hv47 : a1.eval (.tmp t.t47) = .bool false := by
            have hv := I2.S.tm.2 t.t47
            rw [h47] at hv
            have he : a1.eval (.tmp t.t47) = a1.tmps.getD t.t47 Go.undef := rfl
            rw [he]
            generalize a1.tmps.getD t.t47 Go.undef = v at hv
            cases hv; rfl
          refine ⟨[], s1, μ1, a1, w1, cs1, seen, .refl _, hs', I2, q3, q4, ?_⟩
          have hsz : 0 < t.ops14.size := by have := (Array.getElem?_eq_some_iff.1 o1).1; exact this
          refine Steps.head stepR_seq (Steps.head stepR_region ?_)
          rw [range_one hsz]
          refine Steps.trans st1 (Steps.trans q5 (Steps.head stepR_seq (Steps.head (stepR_cond hv47) ?_)))
          exact .one (stepR_exit (by simp [exitTo]))
        · rw [hl0] at hj; simp at hj
  | succ n ih =>
    intro A seen s a w μ cs hA I v1 v2 hp hq
    have hne : leftM es seen ≠ [] := fun h => by
      have := v1.length
      rw [h] at this; simp at this; subst this; simp at hA
    obtain ⟨o, o1, o2, o3, o4⟩ := O.o14
    -- every order begins with a round
    have hit : itOk s.tm t.t45 it = true := by
      obtain ⟨s', hs'⟩ := hq A (.refl _)
      cases A with
      | nil => simp at hA
      | cons kv A' =>
        simp only [pickE, pickStep] at hs'
        cases h : itOk s.tm t.t45 it with
        | false => rw [h] at hs'; cases hs'
        | true => rfl
    have hptr := I.ptr hit
    rcases next_run (P := P) (ty := o.type) I.iter I.map hbn with ⟨hz, _⟩ | ⟨j, e, dn, hj, hn⟩
    · exact absurd hz hne
    · obtain ⟨C, D, hL, hC⟩ := split_nth hj
      have hAl : A.length = (leftM es seen).length := by have := v1.length; simpa using this
      obtain ⟨kv, hkv⟩ : ∃ kv, A[j]? = some kv := by
        have hjl := (List.getElem?_eq_some_iff.1 hj).1
        exact ⟨_, List.getElem?_eq_getElem (by omega)⟩
      obtain ⟨A1, A2, hAA, hA1⟩ := split_nth hkv
      have vs1 : VL μ (A1.map (·.1)) (C.map (·.key)) ∧ VR μ kv.1 e.key ∧ VL μ (A2.map (·.1)) (D.map (·.key)) := by
        rw [hAA, hL] at v1
        simp only [List.map_append, List.map_cons] at v1
        obtain ⟨L1, y, L2, e1, e2, q1, q2, q3⟩ := vl_split v1
        obtain ⟨f1, f2⟩ := List.append_inj e1 (by simp only [List.length_map] at e2 ⊢; omega)
        rw [f1]; simp only [List.cons.injEq] at f2; rw [f2.1, f2.2]; exact ⟨q1, q2, q3⟩
      have vs2 : VL μ (A1.map (·.2)) (C.map (·.val)) ∧ VR μ kv.2 e.val ∧ VL μ (A2.map (·.2)) (D.map (·.val)) := by
        rw [hAA, hL] at v2
        simp only [List.map_append, List.map_cons] at v2
        obtain ⟨L1, y, L2, e1, e2, q1, q2, q3⟩ := vl_split v2
        obtain ⟨f1, f2⟩ := List.append_inj e1 (by simp only [List.length_map] at e2 ⊢; omega)
        rw [f1]; simp only [List.cons.injEq] at f2; rw [f2.1, f2.2]; exact ⟨q1, q2, q3⟩
      have hperm : ∀ q, q.Perm (A1 ++ A2) → (kv :: q).Perm A := fun q h => by
        rw [hAA]; exact (h.cons kv).trans List.perm_middle.symm
      -- the round
      have hround : ∃ s3, pickStep c env t it kv s = some s3 ∧ ∀ q, q.Perm (A1 ++ A2) → ∃ s', pickE c env t it q s3 = some s' := by
        cases h3 : pickStep c env t it kv s with
        | none =>
          obtain ⟨s', hs'⟩ := hq _ (hperm _ (.refl _))
          simp only [pickE, h3] at hs'; cases hs'
        | some s3 =>
          refine ⟨s3, rfl, fun q h => ?_⟩
          obtain ⟨s', hs'⟩ := hq _ (hperm q h)
          simp only [pickE, h3] at hs'; exact ⟨s', hs'⟩
      obtain ⟨s3, h3, hq3⟩ := hround
      have h3' := h3
      simp only [pickStep, hit, cond_true] at h3'
      cases hr : (compOps c t.ops14 (t.ops14.toList.drop 1)).run env (withT s t.t46 (.tup [.bool true, kv.1, kv.2])) with
      | none => rw [hr] at h3'; cases h3'
      | some p =>
        obtain ⟨ex, s1⟩ := p
        rw [hr] at h3'
        cases ex <;> simp only [] at h3' <;> first | (cases h3'; done) | skip
        have h47 : T.get undef s1.tm t.t47 = .bool true := by
          generalize T.get undef s1.tm t.t47 = z at h3'
          cases z with
          | bool x => cases x <;> first | (cases h3'; done) | rfl
          | _ => cases h3'
        rw [h47] at h3'; simp only [] at h3'
        cases hit1 : itOk s1.tm t.t45 it with
        | false => rw [hit1] at h3'; cases h3'
        | true =>
          rw [hit1] at h3'; simp only [cond_true] at h3'
          cases hr2 : (compOps c t.ops15 (t.ops15.toList.drop 1)).run env (withT s1 t.t48 (.tup [kv.1, kv.2])) with
          | none => rw [hr2] at h3'; cases h3'
          | some p2 =>
            obtain ⟨ex2, s2⟩ := p2
            rw [hr2] at h3'
            cases ex2 <;> simp only [] at h3' <;> first | (cases h3'; done) | skip
            cases hr3 : (compOps c t.ops16 t.ops16.toList).run env s2 with
            | none => rw [hr3] at h3'; cases h3'
            | some p3 =>
              obtain ⟨ex3, s3'⟩ := p3
              rw [hr3] at h3'
              cases ex3 <;> simp only [] at h3' <;> first | (cases h3'; done) | skip
              simp only [Option.some.injEq] at h3'; subst h3'
              -- next
              have hlb : mb ≠ ib := fun q => by
                have h1 := I.iter; have h2 := I.map
                rw [q] at h2; rw [h1] at h2; cases h2
              have hx : (execOp a.eval o).run P w = .ok (.value (.tuple #[.bool true, e.key, e.val])) { w with heap := w.heap.setIfInBounds ib (.mapIter (some mb) clock (seen.push e.born) clock), drawn := dn } := by
                simp only [execOp, o2, hptr, Sem.run_bind, hn, Result.andThen_ok, Sem.run_pure]
              generalize hK : Item.code (.seq (.cond (.tmp t.t47) .skip (.exit t.b4)) (.block t.b5 (.seq (.region t.r15 t.ops15 false) (.region t.r16 t.ops16 false)))) :: .inLoop t.code :: .inBlock t.b4 :: k = K1
              have st1 := spec_step1 (b := b) (k := K1) (cs := cs) (rest := List.range' 1 (t.ops14.size - 1)) o1 o2 o3 o4 (by simp) hx
              have hil : ib < w.heap.size := (Array.getElem?_eq_some_iff.1 I.iter).1
              have I0 : PickS c P b.fn μ0 h0 w0 it ib mb clock (seen.push e.born) es μ s a { w with heap := w.heap.setIfInBounds ib (.mapIter (some mb) clock (seen.push e.born) clock), drawn := dn } :=
                ⟨⟨I.S.M.touch I.apart _ _, I.S.G, I.S.tm, I.S.df⟩, I.G.touch I.low _ _, by simp [hil], by simp [Ne.symm hlb]; exact I.map, I.apart, I.apartm, I.low, I.place⟩
              have I1 := I0.put X ((O.k14 0 o o1).dst _ o3) (x := .tup [.bool true, kv.1, kv.2]) (v := .tuple #[.bool true, e.key, e.val]) (.tup _ _ (.cons (.bool _) (.cons vs1.2.1 (.cons vs2.2.1 .nil))))
              obtain ⟨μ1, a1, w1, cs1, I2, le1, q3, q4, q5⟩ := I1.run X M0 O.k14 hr (k := K1) hp
              have hv47 : a1.eval (.tmp t.t47) = .bool true := by
                have hv := I2.S.tm.2 t.t47
                rw [h47] at hv
                have he : a1.eval (.tmp t.t47) = a1.tmps.getD t.t47 Go.undef := rfl
                rw [he]
                generalize a1.tmps.getD t.t47 Go.undef = v at hv
                cases hv; rfl
              -- entry
              obtain ⟨o', p1, p2, p3, p4⟩ := O.o15
              have hptr1 := I2.ptr hit1
              have hem : e ∈ es.toList := by
                have : e ∈ leftM es seen := List.mem_of_getElem? hj
                unfold leftM at this
                exact (List.mem_filter.1 this).1
              have hen := entry_run (P := P) I2.iter I2.map hem hnd
              have hx2 : (execOp a1.eval o').run P w1 = .ok (.value (.tuple #[e.key, e.val])) w1 := by
                simp only [execOp, p2, hptr1, Sem.run_bind, hen, Result.andThen_ok, Sem.run_pure]
              generalize hK2 : Item.code (.region t.r16 t.ops16 false) :: .inBlock t.b5 :: .inLoop t.code :: .inBlock t.b4 :: k = K2
              have st2 := spec_step1 (b := b) (k := K2) (cs := cs1) (rest := List.range' 1 (t.ops15.size - 1)) p1 p2 p3 p4 (by simp) hx2
              have I3 := I2.put X ((O.k15 0 o' p1).dst _ p3) (x := .tup [kv.1, kv.2]) (v := .tuple #[e.key, e.val]) (.tup _ _ (.cons (vs1.2.1.mono le1) (.cons (vs2.2.1.mono le1) .nil)))
              obtain ⟨μ2, a2, w2, cs2, I4, le2, r3, r4, r5⟩ := I3.run X M0 O.k15 hr2 (k := K2) q4
              have hr3' : (compOps c t.ops16 (t.ops16.toList.drop 0)).run env s2 = some (.normal, s3') := hr3
              obtain ⟨μ3, a3, w3, cs3, I5, le3, u3, u4, u5⟩ := I4.run X M0 O.k16 hr3' (k := .inBlock t.b5 :: .inLoop t.code :: .inBlock t.b4 :: k) r4
              rw [Nat.sub_zero, ← List.range_eq_range'] at u5
              have hle := Mu.le_trans le1 (Mu.le_trans le2 le3)
              have hleft := left_push hL hnd
              obtain ⟨q, s', μ', a', w', cs', seen', z1, z2, z3, z4, z5, z6⟩ := ih (A1 ++ A2) (seen.push e.born) s3' a3 w3 μ3 cs3 (by rw [hAA] at hA; simp at hA ⊢; omega) I5
                (by rw [hleft]; simp only [List.map_append]; exact (vs1.1.append vs1.2.2).mono hle) (by rw [hleft]; simp only [List.map_append]; exact (vs2.1.append vs2.2.2).mono hle) u4 hq3
              refine ⟨kv :: q, s', μ', a', w', cs', seen', hperm q z1, by simp only [pickE, h3]; exact z2, z3, (q3.trans (r3.trans u3)).trans z4, z5, ?_⟩
              have hsz : 0 < t.ops14.size := (Array.getElem?_eq_some_iff.1 o1).1
              have hsz2 : 0 < t.ops15.size := (Array.getElem?_eq_some_iff.1 p1).1
              refine Steps.head stepR_seq (Steps.head stepR_region ?_)
              rw [hK, range_one hsz]
              refine Steps.trans st1 (Steps.trans q5 ?_)
              rw [← hK]
              refine Steps.head stepR_seq (Steps.head (stepR_cond hv47) (Steps.head stepR_skip (Steps.head stepR_block (Steps.head stepR_seq (Steps.head stepR_region ?_)))))
              rw [hK2, range_one hsz2]
              refine Steps.trans st2 (Steps.trans r5 ?_)
              rw [← hK2]
              exact Steps.head stepR_region (Steps.trans u5 (Steps.head stepR_inBlock (Steps.head stepR_inLoop z6)))
end Go.E
/-! E, part J5: a function with one loop over a map. -/
namespace Go.E
variable {c : Cfg} {P : Program} {μ μ' : Mu} {h h' : Heap} {w w' : World} {env : Env} {b : Frame} {fn : Func}

/-! ### orders -/
def inserts {α : Type} (a : α) : List α → List (List α)
  | [] => [[a]]
  | b :: l => (a :: b :: l) :: (inserts a l).map (b :: ·)
def perms {α : Type} : List α → List (List α)
  | [] => [[]]
  | a :: l => (perms l).flatMap (inserts a)
theorem mem_inserts {α : Type} (a : α) : ∀ (A B : List α), A ++ a :: B ∈ inserts a (A ++ B)
  | [], [] => by simp [inserts]
  | [], b :: B => by simp [inserts]
  | x :: A, B => by
    simp only [List.cons_append, inserts, List.mem_cons, List.mem_map]
    exact .inr ⟨_, mem_inserts a A B, rfl⟩
theorem mem_perms {α : Type} : ∀ {l q : List α}, q.Perm l → q ∈ perms l
  | [], q, h => by rw [h.eq_nil]; simp [perms]
  | a :: l, q, h => by
    obtain ⟨A, B, rfl⟩ := List.append_of_mem (h.mem_iff.2 (by simp : a ∈ a :: l))
    have h2 : (A ++ B).Perm l := (List.perm_middle.symm.trans h).cons_inv
    simp only [perms, List.mem_flatMap]
    exact ⟨A ++ B, mem_perms h2, mem_inserts a A B⟩

/-! ### code in a row -/
def seqs : List Code → Code → Code
  | [], z => z
  | a :: l, z => .seq a (seqs l z)
def runL (c : Cfg) (env : Env) : List Code → St → Option St
  | [], s => some s
  | a :: l, s => match (comp c a).run env s with
    | some (.normal, s') => runL c env l s'
    | _ => none
theorem seqs_sound (X : CtxR c P env b fn) (z : Code) : ∀ (l : List Code) (bl la : List Nat), CheckCode.code P fn bl la (seqs l z) = .ok () → goodDraws (seqs l z) = true → ∀ (s s' : St) (a : Act) (w : World) (μ : Mu) (k : List Item) (cs : List Frame), runL c env l s = some s' → StR c P b.fn μ s a w → PnR μ b cs s.pn →
    ∃ μ' a' w' cs', StR c P b.fn μ' s' a' w' ∧ Goes μ s.hp w μ' s'.hp w' ∧ CsR b cs cs' ∧ PnR μ' b cs' s'.pn ∧ Steps P (lone (b.atR a (.code (seqs l z) :: k)) cs w) (lone (b.atR a' (.code z :: k)) cs' w')
  | [], bl, la, hk, hg, s, s', a, w, μ, k, cs, hr, S, hp => by
    simp only [runL, Option.some.injEq] at hr; subst hr
    exact ⟨μ, a, w, cs, S, Goes.refl _ _ _, CsR.refl _, hp, Steps.refl P _⟩
  | x :: l, bl, la, hk, hg, s, s', a, w, μ, k, cs, hr, S, hp => by
    simp only [seqs] at hk hg ⊢
    rw [CheckCode.code] at hk
    obtain ⟨_, h1, h2⟩ := bind_ok hk
    simp only [goodDraws, Bool.and_eq_true] at hg
    simp only [runL] at hr
    cases e : (comp c x).run env s with
    | none => rw [e] at hr; cases hr
    | some p =>
      obtain ⟨ex, s1⟩ := p
      rw [e] at hr
      cases ex <;> simp only [] at hr <;> first | (cases hr; done) | skip
      obtain ⟨μ1, a1, w1, cs1, q1, q2, q3, q4, q5⟩ := comp_sound X x bl la h1 hg.1 s s1 .normal a w μ (.code (seqs l z) :: k) cs e S hp
      obtain ⟨μ2, a2, w2, cs2, r1, r2, r3, r4, r5⟩ := seqs_sound X z l bl la h2 hg.2 s1 s' a1 w1 μ1 k cs1 hr q1 q4
      exact ⟨μ2, a2, w2, cs2, r1, q2.trans S.M r2, q3.trans r3, r4, Steps.head stepR_seq (Steps.trans q5 r5)⟩
theorem seqs_check {z : Code} : ∀ {l : List Code} {bl la : List Nat}, CheckCode.code P fn bl la (seqs l z) = .ok () → goodDraws (seqs l z) = true → CheckCode.code P fn bl la z = .ok () ∧ goodDraws z = true
  | [], _, _, hk, hg => ⟨hk, hg⟩
  | x :: l, bl, la, hk, hg => by
    simp only [seqs] at hk hg
    rw [CheckCode.code] at hk
    obtain ⟨_, h1, h2⟩ := bind_ok hk
    simp only [goodDraws, Bool.and_eq_true] at hg
    exact seqs_check h2 hg.2

/-! ### the function -/
structure JoinT where
  heads : List Code
  r13 : Nat
  ops13 : Array Oper
  t7 : Tmp
  t44 : Tmp
  ty : TypeId
  p : PickT
  tail : Code
def JoinT.code (j : JoinT) : Code := seqs j.heads (.seq (.seq (.region j.r13 j.ops13 false) (.block j.p.b4 (.loop j.p.code))) j.tail)
structure JoinOK (j : JoinT) : Prop where
  o0 : IsOp j.ops13 0 (.move (.tmp j.t7)) (some j.t44)
  o1 : IsOp j.ops13 1 (.range j.ty (.tmp j.t44)) (some j.p.t45)
  sz : j.ops13.size = 2
  o14 : IsOp j.p.ops14 0 (.next (.tmp j.p.t45) false) (some j.p.t46)
  o15 : IsOp j.p.ops15 0 (.entry (.tmp j.p.t45)) (some j.p.t48)
section
variable (c : Cfg) (n : Nat) (f : FuncId) (j : JoinT) (res : List ResultVar)
def envN : Env := ⟨FnF c n, YlF c n, none, f⟩
/-- behind the loop -/
def joinB (r : Nat) (x : Row) (s : St) : Option (AV × Heap) :=
  match (comp c j.tail).run (envN c n f) ⟨s.tm, s.hp.at r x, s.df, s.pn⟩ with
  | some (e, s') => match mOf e with
    | some none => (match defs (exec c n) s'.df none s'.hp with
      | some (none, h2) => (match resE c s'.tm h2 res with
        | some vs => some (tupOf vs, h2)
        | none => none)
      | _ => none)
    | _ => none
  | none => none
def joinQ (r : Nat) (x : Row) (it : Nat) (s : St) (q : List (AV × AV)) : Option (AV × Heap) :=
  match pickE c (envN c n f) j.p it q s with
  | some s' => joinB c n f j res r x s'
  | none => none
def joinRun (args : List AV) (h : Heap) : Option (List (AV × Heap)) :=
  match runL c (envN c n f) j.heads ⟨setAll args 0 .nil, h, [], none⟩ with
  | some s => match T.get undef s.tm j.t7, und c j.ty with
    | .map r, some (.map _ _) => (match s.hp.get r with
      | .map kt es => allM (joinQ c n f j res r (.map kt es) s.hp.size (withT (withT ⟨s.tm, (s.hp.at r .dead).new .dead, s.df, s.pn⟩ j.t44 (.map r)) j.p.t45 (.ptr s.hp.size 0))) (perms es)
      | _ => none)
    | _, _ => none
  | none => none
end
theorem allM_mem {α β : Type} {f : α → Option β} : ∀ {l : List α} {r : List β}, allM f l = some r → ∀ a ∈ l, ∃ b ∈ r, f a = some b
  | [], r, _, a, ha => by cases ha
  | x :: l, r, h, a, ha => by
    simp only [allM] at h
    cases e : f x with
    | none => rw [e] at h; cases h
    | some y =>
      rw [e] at h; simp only [] at h
      cases e2 : allM f l with
      | none => rw [e2] at h; cases h
      | some r' =>
        rw [e2] at h; simp only [Option.some.injEq] at h; subst h
        rcases List.mem_cons.1 ha with rfl | ha
        · exact ⟨y, by simp, e⟩
        · obtain ⟨b, hb, e3⟩ := allM_mem e2 a ha
          exact ⟨b, by simp [hb], e3⟩
end Go.E
/-! E, part J6: a function with one loop over a map is sound. -/
namespace Go.E
variable {c : Cfg} {P : Program} {μ μ' : Mu} {h h' : Heap} {w w' : World}

theorem join_sound (K : CfgOK c P) {n : Nat} {f : FuncId} {fn : Func} {j : JoinT} (c1 : c.fn f = some fn) (c2 : fn.body = some j.code) (O : JoinOK j) {args : List AV} {l : List (AV × Heap)} (hr : joinRun c n f j fn.results.toList args h = some l) :
    Callable P f ∧ ∀ μ w args', Models c P All μ h w → GlobR P μ → VL μ args args' → Calls P f args'.toArray w (fun e w' => ∃ p ∈ l, OutR c P μ h w (.ret p.1) p.2 e w') := by
  refine ⟨callable_of K c1 c2, fun μ w args' M G ha cs => ?_⟩
  have hf := K.fn f fn c1
  obtain ⟨bl, la, hk⟩ := K.code f fn _ hf c2
  have hg := K.good f fn _ c1 c2
  let b : Frame := { (default : Frame) with fn := f, kind := .normal }
  have N := depth_sound K n
  have X : CtxR c P (envN c n f) b fn := ⟨K, ⟨N.F, N.Y⟩, hf, fun _ => rfl, rfl⟩
  have henter : Frame.enter P f args'.toArray .normal = b.atR { tmps := args'.toArray ++ Array.replicate (fn.ntmps - args'.toArray.size) Go.undef, defers := [] } [.code j.code] := by
    simp [Frame.enter, Frame.atR, hf, c2, b]; rfl
  unfold joinRun at hr
  cases e1 : runL c (envN c n f) j.heads ⟨setAll args 0 .nil, h, [], none⟩ with
  | none => rw [e1] at hr; cases hr
  | some s =>
  rw [e1] at hr; simp only [] at hr
  have hp0 : PnR μ b cs none := .inl rfl
  unfold JoinT.code at hk hg henter
  obtain ⟨μ1, a1, w1, cs1, p1, p2, p3, p4, p5⟩ := seqs_sound X _ j.heads bl la hk hg _ s { tmps := args'.toArray ++ Array.replicate (fn.ntmps - args'.toArray.size) Go.undef, defers := [] } w μ [] cs e1 ⟨M, G, start_tmps hf ha, .nil⟩ hp0
  obtain ⟨hk2, hg2⟩ := seqs_check hk hg
  -- the loop's code
  have hk3 := hk2
  rw [CheckCode.code] at hk3
  obtain ⟨_, hkL, hkT⟩ := bind_ok hk3
  rw [CheckCode.code] at hkL
  obtain ⟨_, hk13, hkB⟩ := bind_ok hkL
  rw [CheckCode.code] at hk13
  rw [CheckCode.code] at hkB
  rw [CheckCode.code] at hkB
  unfold PickT.code at hkB
  rw [CheckCode.code] at hkB
  obtain ⟨_, hk14, hkB⟩ := bind_ok hkB
  rw [CheckCode.code] at hk14
  rw [CheckCode.code] at hkB
  obtain ⟨_, _, hkB⟩ := bind_ok hkB
  rw [CheckCode.code] at hkB
  rw [CheckCode.code] at hkB
  obtain ⟨_, hk15, hk16⟩ := bind_ok hkB
  rw [CheckCode.code] at hk15
  rw [CheckCode.code] at hk16
  simp only [goodDraws, Bool.and_eq_true] at hg2
  have O2 : PickOK P fn j.p := ⟨O.o14, O.o15, (region_ok hk14).1, (region_ok hk15).1, (region_ok hk16).1⟩
  have k13 := (region_ok hk13).1
  cases e2 : T.get undef s.tm j.t7 <;> rw [e2] at hr <;> (try simp only [] at hr) <;> first | (cases hr; done) | skip
  rename_i r
  cases e3 : und c j.ty <;> rw [e3] at hr <;> (try simp only [] at hr) <;> first | (cases hr; done) | skip
  rename_i td
  cases td <;> (try simp only [] at hr) <;> first | (cases hr; done) | skip
  rename_i kt0 el0
  cases e4 : s.hp.get r <;> rw [e4] at hr <;> (try simp only [] at hr) <;> first | (cases hr; done) | skip
  rename_i kt es
  obtain ⟨tm, hp, df, pn⟩ := s
  simp only [] at e2 e4 hr p1 p2 p4
  -- the map
  obtain ⟨mb, base, Nm, es', clock, hm, hb, hrow⟩ := row_map p1.M (vis_all r) e4
  obtain ⟨es2, hperm, v1, v2⟩ := hrow.as
  obtain ⟨hbn, hnd⟩ := hrow.born
  have hv7 : a1.eval (.tmp j.t7) = .map (some mb) := by
    have hv := p1.tm.2 j.t7
    simp only [] at hv
    rw [e2] at hv
    have he : a1.eval (.tmp j.t7) = a1.tmps.getD j.t7 Go.undef := rfl
    rw [he]
    generalize a1.tmps.getD j.t7 Go.undef = v at hv
    cases hv with
    | map _ b' _ _ hm' => rw [hm] at hm'; cases hm'; rfl
  have hvm : VR μ1 (.map r) (.map (some mb)) := .map r mb base Nm hm
  -- move
  obtain ⟨o0, a01, a02, a03, a04⟩ := O.o0
  have hx0 : (execOp a1.eval o0).run P w1 = .ok (.value (.map (some mb))) w1 := by
    simp only [execOp, a02, hv7, Sem.run_pure]
  have S1 := p1.put (pn' := pn) X.fn ((k13 0 o0 a01).dst) (x := .map r) (v := .map (some mb)) hvm p1.M (Mu.le_refl _)
  -- range
  obtain ⟨o1, b01, b02, b03, b04⟩ := O.o1
  have hmlt : mb < w1.heap.size := (Array.getElem?_eq_some_iff.1 hb).1
  have hv44 : (a1.put o0.dst (.map (some mb))).eval (.tmp j.t44) = .map (some mb) := by
    have hv := S1.tm.2 j.t44
    rw [a03] at hv ⊢
    have hset : T.get undef ((setOf (some j.t44)).run tm (.map r)) j.t44 = .map r := get_set_same _ _ _ _
    simp only [] at hv
    rw [hset] at hv
    have he : (a1.put (some j.t44) (.map (some mb))).eval (.tmp j.t44) = (a1.put (some j.t44) (.map (some mb))).tmps.getD j.t44 Go.undef := rfl
    rw [he]
    generalize (a1.put (some j.t44) (.map (some mb))).tmps.getD j.t44 Go.undef = v at hv
    cases hv with
    | map _ b' _ _ hm' => rw [hm] at hm'; cases hm'; rfl
  have hx1 : (execOp (a1.put o0.dst (.map (some mb))).eval o1).run P w1 = .ok (.value (.pointer (some ⟨w1.heap.size, 0, none⟩))) (wnew w1 (.mapIter (some mb) clock #[] clock)) := by
    simp only [execOp, b02, hv44, Sem.run_bind, range_run (K.T.und e3) hb, Result.andThen_ok, Sem.run_pure]
  -- the heap of the loop
  have Mk := p1.M.killAt r
  simp only [] at Mk
  obtain ⟨Mn, Gn⟩ := Mk.new (.mapIter (some mb) clock #[] clock) .dead 0 trivial
  have hsz : (hp.at r .dead).size = hp.size := rfl
  rw [hsz] at Mn Gn
  have hnone := p1.M.dom hp.size (Nat.le_refl _)
  have liveD : ∀ x, (((hp.at r .dead).new .dead).get x).live → x ≠ r ∧ x ≠ hp.size ∧ (hp.get x).live := by
    intro x hx
    rw [Heap.get_new, hsz] at hx
    by_cases q1 : hidden x (hp.at r .dead).hide
    · rw [if_pos q1] at hx; exact hx.elim
    · rw [if_neg q1] at hx
      by_cases q2 : hp.size = x
      · rw [if_pos q2] at hx; exact hx.elim
      · rw [if_neg q2, get_dead_at] at hx
        by_cases q3 : r = x
        · rw [if_pos q3] at hx; exact hx.elim
        · rw [if_neg q3] at hx; exact ⟨Ne.symm q3, Ne.symm q2, hx⟩
  have hblk : ∀ x, x ≠ hp.size → blk (μ1.add hp.size (w1.heap.size, 0, 0)) x = blk μ1 x := fun x hx => by unfold blk Mu.add; rw [if_neg hx]
  generalize hs2 : withT (withT ⟨tm, (hp.at r .dead).new .dead, df, pn⟩ j.t44 (.map r)) j.p.t45 (.ptr hp.size 0) = s2 at hr
  have I : PickS c P b.fn μ1 (hp.at r .dead) w1 hp.size w1.heap.size mb clock #[] es' (μ1.add hp.size (w1.heap.size, 0, 0)) s2 ((a1.put o0.dst (.map (some mb))).put o1.dst (.pointer (some ⟨w1.heap.size, 0, none⟩))) (wnew w1 (.mapIter (some mb) clock #[] clock)) := by
    have S2 : StR c P b.fn (μ1.add hp.size (w1.heap.size, 0, 0)) ⟨(setOf o0.dst).run tm (.map r), (hp.at r .dead).new .dead, df, pn⟩ (a1.put o0.dst (.map (some mb))) (wnew w1 (.mapIter (some mb) clock #[] clock)) :=
      ⟨Mn, S1.G.mono Gn.le, S1.tm.mono Gn.le, S1.df.mono Gn.le⟩
    have S3 := S2.put (pn' := pn) X.fn ((k13 1 o1 b01).dst) (x := .ptr hp.size 0) (v := .pointer (some ⟨w1.heap.size, 0, none⟩)) (.ptr hp.size 0 w1.heap.size 0 0 (Mu.add_same _ _ _)) Mn (Mu.le_refl _)
    rw [a03, b03] at S3
    subst hs2
    refine ⟨by rw [a03, b03]; exact S3, Gn, wnew_new _ _, (wnew_old _ _ hmlt).trans hb, fun x hx hc => ?_, fun x hx hc => ?_, Nat.le_refl _, 0, Mu.add_same _ _ _⟩
    · obtain ⟨q1, q2, q3⟩ := liveD x hx
      rw [hblk x q2] at hc
      obtain ⟨p, hpx⟩ := (p1.M.row x (vis_all x)).some q3
      unfold blk at hc
      rw [hpx] at hc
      simp only [Option.map_some, Option.some.injEq] at hc
      have := p1.M.size x p hpx
      omega
    · obtain ⟨q1, q2, q3⟩ := liveD x hx
      rw [hblk x q2] at hc
      refine p1.M.apart r x (Ne.symm q1) (vis_all _) (vis_all _) (by simp only []; rw [e4]; trivial) q3 ?_
      rw [hc]; unfold blk; rw [hm]; rfl
  have hl0 : leftM es' #[] = es'.toList := by
    unfold leftM
    rw [List.filter_eq_self]
    intro x _; simp
  have hs2p : s2.pn = pn := by subst hs2; rfl
  have hq : ∀ q, q.Perm es2 → ∃ s', pickE c (envN c n f) j.p hp.size q s2 = some s' := fun q hq => by
    obtain ⟨y, _, hy⟩ := allM_mem hr q (mem_perms (hq.trans hperm))
    unfold joinQ at hy
    cases e : pickE c (envN c n f) j.p hp.size q s2 with
    | none => rw [e] at hy; cases hy
    | some s' => exact ⟨s', rfl⟩
  have le1 := Gn.le
  obtain ⟨q, s3, μ2, a2, w2, cs2, seen', z1, z2, I3, z4, z5, z6⟩ := pick_loop X O2 Mk hbn hnd [.code j.tail] es2.length es2 #[] s2 _ _ _ cs1 rfl I (by rw [hl0]; exact v1.mono le1) (by rw [hl0]; exact v2.mono le1) (by rw [hs2p]; exact p4.mono le1) hq
  obtain ⟨y, hyl, hy⟩ := allM_mem hr q (mem_perms (z1.trans hperm))
  unfold joinQ at hy
  rw [z2] at hy; simp only [] at hy
  unfold joinB at hy
  obtain ⟨M4, G4⟩ := p1.M.revive e4 trivial I3.S.M I3.G
  cases e5 : (comp c j.tail).run (envN c n f) ⟨s3.tm, s3.hp.at r (.map kt es), s3.df, s3.pn⟩ with
  | none => rw [e5] at hy; cases hy
  | some pq =>
  obtain ⟨ex, s5⟩ := pq
  rw [e5] at hy; simp only [] at hy
  have S4 : StR c P b.fn μ2 ⟨s3.tm, s3.hp.at r (.map kt es), s3.df, s3.pn⟩ a2 w2 := ⟨M4, I3.S.G, I3.S.tm, I3.S.df⟩
  obtain ⟨μ3, a3, w3, cs3, t1, t2, t3, t4, t5⟩ := comp_sound X j.tail bl la hkT hg2.2 _ s5 ex a2 w2 μ2 [] cs2 e5 S4 z5
  have hst : Steps P (lone (Frame.enter P f args'.toArray .normal) cs w) (lone (b.atR a2 [.code j.tail]) cs2 w2) := by
    rw [henter]
    refine Steps.trans p5 (Steps.head stepR_seq (Steps.head stepR_seq (Steps.head stepR_region ?_)))
    have hr2 : List.range j.ops13.size = [0, 1] := by rw [O.sz]; rfl
    rw [hr2]
    refine Steps.trans (spec_step1 a01 a02 rfl a04 (by simp) hx0) (Steps.trans (spec_step1 b01 b02 rfl b04 (by simp) hx1) (Steps.head stepR_region_end (Steps.head stepR_block (Steps.head stepR_loop z6))))
  have hend : mOf ex = some none → ∃ todo, Steps P (lone (b.atR a2 [.code j.tail]) cs2 w2) (lone { b.atR a3 todo with mode := .returning } cs3 w3) := by
    intro hm
    cases ex with
    | normal => exact ⟨[], Steps.trans t5 (.one (stepR_end rfl))⟩
    | ret => exact t5.1 rfl
    | panic v => cases hm
    | exit i => cases hm
  cases e6 : mOf ex with
  | none => rw [e6] at hy; cases hy
  | some mo =>
  cases mo with
  | some v => rw [e6] at hy; cases hy
  | none =>
  rw [e6] at hy; simp only [] at hy
  obtain ⟨todo, hst2⟩ := hend e6
  cases e7 : defs (exec c n) s5.df none s5.hp with
  | none => rw [e7] at hy; cases hy
  | some pd =>
  obtain ⟨m', h2⟩ := pd
  rw [e7] at hy
  cases m' with
  | some v => cases hy
  | none =>
  simp only [] at hy
  cases e8 : resE c s5.tm h2 fn.results.toList with
  | none => rw [e8] at hy; cases hy
  | some vs =>
  rw [e8] at hy; simp only [Option.some.injEq] at hy; subst hy
  have hcs : cs3 = cs := by
    have key : ∀ {x y : List Frame}, CsR b x y → y = x := fun hc => by
      rcases hc with q | ⟨q, _⟩
      · exact q
      · cases q
    rw [key t3, key z4, key p3]
  subst hcs
  obtain ⟨μ4, w4, u4, d1, d2, d3, d4⟩ := defs_sound N.D s5.df none s5.hp none h2 e7 μ3 w3 { b.atR a3 todo with mode := .returning } cs3 t1.M t1.G t1.df rfl
  have Gt : Goes μ h w μ4 h2 w4 := (p2.trans M (G4.trans p1.M (t2.trans M4 d3)))
  obtain ⟨v', r1, r2⟩ := results_sound K.T d2 (t1.tm.mono d3.le) e8
  exact ⟨.returned v', w4, _, ⟨_, hyl, μ4, r2, d2, Gt⟩, Steps.trans hst (Steps.trans hst2 d1), rfl, d4, rfl, rfl, fn, hf, r1⟩
end Go.E
/-! E, part J7: an oracle of what was run once, whatever the order of a map's entries. -/
namespace Go.E
variable {c c' : Cfg} {P : Program} {μ μs : Mu} {w w' : World}

theorem memo_of (hcc : ∀ t k, keyOk c' t k = keyOk c t k) {f : FuncId} {m : Memo} {nglob : Nat} (hg : P.globals.size ≤ nglob) (hw : memoWf m = true)
    (hf : Callable P f ∧ ∀ μ w args', Models c P All μ m.K w → GlobR P μ → VL μ m.args args' → Calls P f args'.toArray w (fun e w' => ∃ v hf, memoOut m (some (.ret v, hf)) = true ∧ OutR c P μ m.K w (.ret v) hf e w')) : FunR c' P f (memoRun m nglob) := by
  intro args h o h' hr
  have W := memoWf_spec hw
  obtain ⟨hc1, hc2⟩ := hf
  refine ⟨hc1, fun μ w args' M G ha => ?_⟩
  unfold memoRun at hr
  cases e1 : seek m.K h 1000000 (pairsL m.args args (globs nglob)) .nil [] with
  | none => rw [e1] at hr; cases hr
  | some prs =>
    rw [e1] at hr; simp only [] at hr
    generalize hρ : (fun r => T.get none (setAll1 none .nil (somes prs)) r) = ρ at hr
    generalize hσ : (fun r => T.get none (setAll1 none .nil (backs prs)) r) = σ at hr
    unfold memoMid at hr
    cases e2 : memoIn m nglob ρ σ prs args h with
    | false => rw [e2] at hr; cases hr
    | true =>
      rw [e2] at hr; simp only [cond_true] at hr
      unfold memoIn at e2
      simp only [Bool.and_eq_true, List.all_eq_true] at e2
      obtain ⟨⟨⟨i1, i2⟩, i3⟩, i4⟩ := e2
      have inprs : ∀ r R, ρ r = some R → (r, R) ∈ prs := fun r R hR => by
        rw [← hρ] at hR; simp only [] at hR
        rcases setAll1_get none (somes prs) .nil r with ⟨q, _⟩ | q
        · rw [q, T.get_nil] at hR; cases hR
        · rw [hR] at q
          obtain ⟨R', q1, q2⟩ := mem_somes q
          cases q1; exact q2
      have Q : Part ρ m.K h := by
        refine ⟨fun r R hR => ?_, fun r r' R h1 h2 => ?_, fun r hl => ?_, fun r hr => Memo.K_dead W hr, rfl, rfl⟩
        · have := i1 _ (inprs r R hR)
          exact ⟨blt_iff.1 this.1.1, blt_iff.1 this.1.2⟩
        · have a1 := at1_eq (i1 _ (inprs r R h1)).2
          have a2 := at1_eq (i1 _ (inprs r' R h2)).2
          simp only [] at a1 a2
          rw [a1] at a2; cases a2; rfl
        · rcases m.K_get r with q | q
          · rw [q] at hl; exact hl.elim
          · have := i2 _ q
            simp only [] at this
            cases e : ρ r with
            | none => rw [e] at this; cases this
            | some R => rw [e] at this; exact ⟨R, rfl, this⟩
      have Ms : Models c P All (μ.via ρ) m.K w := Q.models (M.cfg fun t k => (hcc t k).symm)
      have Gs : GlobR P (μ.via ρ) := fun g hgl => by
        obtain ⟨N, e⟩ := G g hgl
        exact ⟨N, via_some (globsOk_spec i4 g (Nat.lt_of_lt_of_le hgl hg)) e⟩
      have hargs : VL (μ.via ρ) m.args args' := same_smallL _ i3 ha
      have hC := hc2 _ w args' Ms Gs hargs
      have haft : aft ρ m.size m.size1 h.size = after1 ρ m.K h m.K1 := aft_eq ρ m.K h m.K1
      rw [haft] at hr
      unfold memoEnd at hr
      cases e3 : outA (after1 ρ m.K h m.K1) m.v with
      | none => rw [e3] at hr; cases hr
      | some v2 =>
        cases e4 : outsOf (after1 ρ m.K h m.K1) m.chg with
        | none => rw [e3, e4] at hr; cases hr
        | some outs =>
          rw [e3, e4] at hr; simp only [Option.some.injEq, Prod.mk.injEq] at hr
          obtain ⟨rfl, rfl⟩ := hr
          refine hC.mono fun e w' H => ?_
          obtain ⟨v, hf, hout, H⟩ := H
          cases e with
          | panicked ch => exact H.elim
          | outgrown => exact H.elim
          | returned u =>
            obtain ⟨μs, hv, M', Gg⟩ := H
            obtain ⟨M1, G1⟩ := memo_small W hout M' Gg
            have Mc : Models c P All μ h w := M.cfg fun t k => (hcc t k).symm
            have B := back_of W Q Mc e4
            obtain ⟨f1, f2, f3⟩ := frameR Q Mc B M1 G1
            refine ⟨_, ?_, f1.cfg hcc, f2⟩
            unfold memoOut at hout
            simp only [Bool.and_eq_true] at hout
            have hv1 : VR μs m.v u := same_small (ρ := some) m.v hout.1.1.1 hv
            exact out_big f3 m.v e3 hv1

/-- the results of a function with one loop over a map, all alike -/
theorem memo_join (K : CfgOK c P) (hcc : ∀ t k, keyOk c' t k = keyOk c t k) {n : Nat} {f : FuncId} {fn : Func} {j : JoinT} {m : Memo} {nglob : Nat} (c1 : c.fn f = some fn) (c2 : fn.body = some j.code) (O : JoinOK j) (hg : P.globals.size ≤ nglob) (hw : memoWf m = true)
    (ho : (match joinRun c n f j fn.results.toList m.args m.K with | some l => l.all fun p => memoOut m (some (.ret p.1, p.2)) | none => false) = true) : FunR c' P f (memoRun m nglob) := by
  cases e : joinRun c n f j fn.results.toList m.args m.K with
  | none => rw [e] at ho; cases ho
  | some l =>
    rw [e] at ho; simp only [] at ho
    obtain ⟨h1, h2⟩ := join_sound K c1 c2 O e
    refine memo_of hcc hg hw ⟨h1, fun μ w args' M G ha => (h2 μ w args' M G ha).mono fun e w' H => ?_⟩
    obtain ⟨p, hp, H⟩ := H
    exact ⟨p.1, p.2, List.all_eq_true.1 ho p hp, H⟩
/-- the first oracle that answers -/
def orF (F F' : Fun) : Fun := fun args h => match F args h with | some r => some r | none => F' args h
theorem orF_R {f : FuncId} {F F' : Fun} (H : CallR c P f F) (H' : CallR c P f F') : CallR c P f (orF F F') := by
  intro args h o h' hr
  unfold orF at hr
  cases e : F args h with
  | none => rw [e] at hr; exact H' _ _ _ _ hr
  | some r => rw [e] at hr; simp only [Option.some.injEq] at hr; subst hr; exact H _ _ _ _ e
def noF : Fun := fun _ _ => none
theorem noF_R {f : FuncId} : CallR c P f noF := fun _ _ _ _ h => by cases h
end Go.E
/-! E, part J8: lists of oracles; the parts of a function's code. -/
namespace Go.E
variable {c : Cfg} {P : Program}
def extOf : List (Nat × Fun) → FuncId → Option Fun
  | [], _ => none
  | (g, F) :: l, f => bif Nat.beq f g then some F else extOf l f
theorem extOf_R : ∀ {l : List (Nat × Fun)}, (∀ p ∈ l, CallR c P p.1 p.2) → ∀ f F, extOf l f = some F → CallR c P f F
  | [], _, f, F, h => by cases h
  | (g, G) :: l, H, f, F, h => by
    simp only [extOf] at h
    cases e : Nat.beq f g with
    | true =>
      rw [e] at h; simp only [cond_true, Option.some.injEq] at h; subst h
      rw [Nat.eq_of_beq_eq_true e]; exact H (g, G) (by simp)
    | false =>
      rw [e] at h; simp only [cond_false] at h
      exact extOf_R (fun p hp => H p (by simp [hp])) f F h
def sq1 : Code → Code
  | .seq a _ => a
  | c => c
def sq2 : Code → Code
  | .seq _ b => b
  | c => c
def inner : Code → Code
  | .block _ c => c
  | .loop c => c
  | c => c
def opsOf : Code → Array Oper
  | .region _ ops _ => ops
  | _ => #[]
/-- keys do not see the oracles -/
theorem scalarT_ext (x : FuncId → Option Fun) (t : TypeId) (v : AV) : scalarT { c with ext := x } t v = scalarT c t v := rfl
theorem fieldsT_ext (x : FuncId → Option Fun) : ∀ (fs : List Field) (i : Nat) (vs : List AV), fieldsT { c with ext := x } fs i vs = fieldsT c fs i vs
  | [], i, [] => rfl
  | [], i, _ :: _ => rfl
  | f :: fs, i, [] => rfl
  | f :: fs, i, v :: vs => by simp only [fieldsT, scalarT_ext, fieldsT_ext x fs]
theorem flatT_ext (x : FuncId → Option Fun) (t : TypeId) (cs : List AV) : flatT { c with ext := x } t cs = flatT c t cs := by
  have hu : und { c with ext := x } t = und c t := rfl
  have hs : sizeIs { c with ext := x } t = sizeIs c t := rfl
  unfold flatT
  rw [hu, hs]
  cases und c t with
  | none => rfl
  | some d => cases d <;> first | rfl | simp only [fieldsT_ext]
theorem keyOk_ext (x : FuncId → Option Fun) (t : TypeId) (k : AV) : keyOk { c with ext := x } t k = keyOk c t k := by
  cases k <;> first | rfl | skip
  rename_i l
  simp only [keyOk, flatT_ext]
end Go.E
/-! E, part R1: strings.Replace, by the library's contract, whatever MaxLen holds. -/
namespace Go.E
open Go.Shelf Go.Proofs Go.RowKit
variable {c : Cfg} {P : Program} {μ : Mu} {h : Heap} {w w' : World}

theorem below_goes (M : Models c P All μ h w) (B : Below w.heap.size w w') : Models c P All μ h w' ∧ Goes μ h w μ h w' := by
  refine ⟨⟨fun r hv => (M.row r hv).keep (Mu.le_refl _) fun b hb => ?_, M.apart, M.dom, M.dead, fun r p hp => Nat.lt_of_lt_of_le (M.size r p hp) B.size, M.hid, M.mark⟩,
    ⟨Mu.le_refl _, B.size, B.os, B.output, B.tape, fun b hb _ => B.block b hb, fun r b hn hb => by simp [blk, hn] at hb, fun _ _ h => h, Nat.le_refl _, rfl, rfl, fun _ _ h => h, fun _ _ => rfl, Told.refl _, fun _ _ h => h, fun _ _ h => h⟩⟩
  unfold blk at hb
  cases e : μ r with
  | none => rw [e] at hb; cases hb
  | some p => rw [e] at hb; cases hb; exact B.block _ (M.size r p e)
/-- g: the variable internal/bytealg.MaxLen -/
def xRepl (g : Nat) : Fun := fun args h => match args with
  | [.str s, .str old, .str new, .int .i64 n] => match h.get g with
    | .cells _ (.int .i64 _ :: _) => bif Nat.blt s.length 4294967281 && Nat.ble 1 old.length && Nat.ble (s.length + Lib.count s old * new.length) 140737488355328 then some (.ret (.str (Lib.replace s old new n)), h) else none
    | _ => none
  | _ => none
theorem cell_of_row (M : Models c P All μ h w) (G : GlobR P μ) {g : Nat} (hg : g < P.globals.size) {ro : Bool} {k : IntKind} {m : Int} {cs : List AV} (e : h.get g = .cells ro (.int k m :: cs)) : w.cell? ⟨g, 0, none⟩ = some (.int k m) := by
  have hr := M.row g (vis_all _)
  rw [e] at hr
  obtain ⟨b, base, N, cc, t, fr, hm, hb, _, _, hc, _⟩ := hr
  obtain ⟨N', hg'⟩ := G g hg
  rw [hg'] at hm
  simp only [Option.some.injEq, Prod.mk.injEq] at hm
  obtain ⟨rfl, rfl, rfl⟩ := hm
  obtain ⟨v, h1, h2, _⟩ := hc 0 (.int k m) rfl trivial
  cases h2
  simp only [World.cell?, hb]
  simpa using h1
theorem replace_call {f : FuncId} {fn : Func} {body : Code} (hfn : P.funcs[f]? = some fn) (hbd : fn.body = some body) (hnm : (fn.name == "runtime.NumGoroutine") = false) {ρ : Ren} (L : Lays.n154 P ρ) (X : Builder.Extra P ρ) {g : Nat} (hf : ρ.f 154 = f) (hg : ρ.g 1 = g) (hgl : g < P.globals.size) : CallR c P f (xRepl g) := by
  subst hf; subst hg
  refine FunR.call fun args h o h' hr => ⟨⟨fn, body, hfn, hbd, hnm⟩, fun μ w args' M G ha => ?_⟩
  unfold xRepl at hr
  split at hr
  · rename_i s old new n
    split at hr
    · rename_i ro k m cs e
      cases q : (Nat.blt s.length 4294967281 && Nat.ble 1 old.length && Nat.ble (s.length + Lib.count s old * new.length) 140737488355328) with
      | false => rw [q] at hr; cases hr
      | true =>
        rw [q] at hr; simp only [cond_true, Option.some.injEq, Prod.mk.injEq] at hr
        obtain ⟨rfl, rfl⟩ := hr
        simp only [Bool.and_eq_true] at q
        obtain ⟨⟨q1, q2⟩, q3⟩ := q
        have hcell := cell_of_row M G hgl e
        cases ha with
        | cons a1 ha =>
        cases ha with
        | cons a2 ha =>
        cases ha with
        | cons a3 ha =>
        cases ha with
        | cons a4 ha =>
        cases ha
        cases a1 with
        | str _ b1 h1 =>
        cases a2 with
        | str _ b2 h2 =>
        cases a3 with
        | str _ b3 h3 =>
        cases a4
        subst h1; subst h2; subst h3
        have s1 : b1.size = b1.data.toList.length := rfl
        have s2 : b2.size = b2.data.toList.length := rfl
        have s3 : b3.size = b3.data.toList.length := rfl
        have := Any.strings_Replace L X b1 b2 b3 n m w (by rw [s1]; exact blt_iff.1 q1) hcell (by rw [s2]; exact Nat.le_of_ble_eq_true q2) (by rw [s1, s3]; exact Nat.le_of_ble_eq_true q3)
        refine this.mono fun e w' ⟨he, hb⟩ => ?_
        subst he
        obtain ⟨M', Gs⟩ := below_goes M hb
        exact ⟨μ, .str _ _ (by simp), M', Gs⟩
    · cases hr
  · cases hr
end Go.E
/- The closure of a function of a program, reckoned with a bit mask: it is the given one. -/
namespace Go.E
open Go

def cloF (lead : Nat → List Nat) : Nat → List Nat → Nat → List Nat → Option (List Nat)
  | 0, _, _, _ => none
  | n + 1, todo, mask, acc => match todo with
    | [] => some acc
    | f :: todo => cond (Nat.testBit mask f) (cloF lead n todo mask acc) (cloF lead n (lead f ++ todo) (mask ||| (1 <<< f)) (f :: acc))

theorem bit_one (f i : Nat) : (1 <<< f).testBit i = (i == f) := by
  rw [Nat.shiftLeft_eq, Nat.one_mul, Nat.testBit_two_pow]
  by_cases h : f = i
  · subst h; simp
  · have : ¬ i = f := fun e => h e.symm
    simp [h, this]

theorem cloF_eq {P : Program} {lead : Nat → List Nat} (hl : ∀ g : Nat, (P.funcs[g]?).elim [] P.leadsTo = lead g) :
    ∀ (n : Nat) (todo : List Nat) (mask : Nat) (acc L : List Nat), (∀ i, mask.testBit i = acc.contains i) → cloF lead n todo mask acc = some L → ∀ m, n ≤ m + 1 → P.closureVia m todo acc = L.reverse
  | 0, _, _, _, _, _, h, _, _ => by simp [cloF] at h
  | n + 1, todo, mask, acc, L, hm, h, m, hmn => by
    match todo, h with
    | [], h =>
      simp only [cloF, Option.some.injEq] at h
      subst h
      cases m <;> rfl
    | f :: todo, h =>
      cases m with
      | zero =>
        have : n = 0 := by omega
        subst this
        simp only [cloF] at h
        cases hb : mask.testBit f <;> rw [hb] at h <;> simp at h
      | succ m =>
        simp only [cloF] at h
        simp only [Program.closureVia]
        cases hb : mask.testBit f with
        | true =>
          rw [hb] at h
          rw [if_pos (by rw [← hm f]; exact hb)]
          exact cloF_eq hl n todo mask acc L hm h m (by omega)
        | false =>
          rw [hb] at h
          rw [if_neg (by rw [← hm f, hb]; simp), hl f]
          refine cloF_eq hl n (lead f ++ todo) _ (f :: acc) L (fun i => ?_) h m (by omega)
          rw [Nat.testBit_or, hm i, bit_one, List.contains_cons]
          cases acc.contains i <;> cases (i == f) <;> rfl

/-- what the functions lead to, as a list -/
def leads (t : T (Option (List Nat))) (g : Nat) : List Nat := match T.get none t g with | some l => l | none => []

theorem leads_ok {P : Program} {L : List (List Nat)} {t : T (Option (List Nat))} (ht : t = treeOf L) (hL : P.funcs.toList.map P.leadsTo = L) (g : Nat) : (P.funcs[g]?).elim [] P.leadsTo = leads t g := by
  subst ht; subst hL
  unfold leads
  cases h : T.get none (treeOf (P.funcs.toList.map P.leadsTo)) g with
  | some l =>
    have := treeOf_get h
    rw [List.getElem?_map] at this
    rw [← Array.getElem?_toList]
    cases hf : P.funcs.toList[g]? with
    | none => rw [hf] at this; simp at this
    | some fn => rw [hf] at this; simpa using this
  | none =>
    rw [← Array.getElem?_toList]
    cases hf : P.funcs.toList[g]? with
    | none => rfl
    | some fn =>
      have hlt : g < (P.funcs.toList.map P.leadsTo).length := by
        rw [List.length_map]
        exact (List.getElem?_eq_some_iff.1 hf).1
      obtain ⟨a, ha⟩ := treeOf_some hlt
      rw [ha] at h; cases h

theorem closure_eq {P : Program} {L : List (List Nat)} {t : T (Option (List Nat))} (ht : t = treeOf L) (hL : P.funcs.toList.map P.leadsTo = L) {f n : Nat} {C : List Nat}
    (h : cloF (leads t) n [f] 0 [] = some C) (hn : Nat.ble n ((L.map fun l => l.length + 1).sum) = true) : P.closure f = C.reverse := by
  unfold Program.closure
  refine cloF_eq (leads_ok ht hL) n [f] 0 [] C (fun i => by simp) h _ ?_
  have : (P.funcs.toList.map fun g => (P.leadsTo g).length + 1) = L.map fun l => l.length + 1 := by
    rw [← hL, List.map_map]; rfl
  rw [this]
  have := Nat.le_of_ble_eq_true hn
  omega

theorem map_cut {α β : Type} {f : α → β} {l : List α} {A B : List β} (n : Nat) (h1 : (l.take n).map f = A) (h2 : (l.drop n).map f = B) : l.map f = A ++ B := by
  rw [← h1, ← h2, ← List.map_append, List.take_append_drop]
end Go.E
/- Oracles that look at their arguments first. -/
namespace Go.E
variable {c : Cfg} {P : Program}
def preA : AV → AV → Bool
  | .str s, .str s' => strEq s s'
  | .int _ n, .int _ n' => eqF n n'
  | _, _ => true
def preL : List AV → List AV → Bool
  | a :: l, b :: m => preA a b && preL l m
  | _, _ => true
def ifF (p : List AV → Bool) (F : Fun) : Fun := fun args h => bif p args then F args h else none
theorem ifF_R {f : FuncId} {p : List AV → Bool} {F : Fun} (H : CallR c P f F) : CallR c P f (ifF p F) := by
  intro args h o h' hr
  unfold ifF at hr
  cases e : p args with
  | false => rw [e] at hr; cases hr
  | true => rw [e] at hr; exact H args h o h' hr
/-- a memo that is tried only where the numbers and strings among the arguments fit -/
def memoQ (m : Memo) : Fun := ifF (preL m.args) (memoRun m 10)
end Go.E
/- From a world at a call's start to an abstract heap: variables that hold arrays of integers. -/
namespace Go.E
open Go
theorem mapM_get {α β : Type} {f : α → Option β} : ∀ {l : List α} {xs : List β}, l.mapM f = some xs → xs.length = l.length ∧ ∀ (i : Nat) (a : α), l[i]? = some a → ∃ b, xs[i]? = some b ∧ f a = some b
  | [], xs, h => by
    simp only [List.mapM_nil, pure, Option.some.injEq] at h
    subst h
    exact ⟨rfl, fun i a h => by simp at h⟩
  | a :: l, xs, h => by
    rw [List.mapM_cons] at h
    cases e1 : f a with
    | none => rw [e1] at h; simp at h
    | some b =>
      cases e2 : l.mapM f with
      | none => rw [e1, e2] at h; simp at h
      | some ys =>
        rw [e1, e2] at h
        simp only [bind, Option.bind_some, pure, Option.some.injEq] at h
        subst h
        obtain ⟨h1, h2⟩ := mapM_get e2
        refine ⟨by simp [h1], fun i x hx => ?_⟩
        cases i with
        | zero => simp only [List.getElem?_cons_zero, Option.some.injEq] at hx; subst hx; exact ⟨b, rfl, e1⟩
        | succ i => simpa using h2 i x (by simpa using hx)
theorem int_of_trod {H : Type} {enc : TypeId × Value → H} {P : Program} {w : World} {base : Nat} {sp : Nat → Bool} {held : Bool} {fuel : Nat} {t : TypeId} {k : IntKind} {cs : List Value} {d : DataW H} {p : List MemPlace}
    (ht : P.underlying t = some (.int k)) (h : DataW.trod enc P w base sp held fuel t cs = some (d, p)) : ∃ n, cs = [.int k n] ∧ d = .lit (.int k n) := by
  cases fuel with
  | zero => simp [DataW.trod] at h
  | succ fuel =>
    match cs with
    | [] => simp [DataW.trod, ht] at h
    | _ :: _ :: _ => simp [DataW.trod, ht] at h
    | [c] =>
      cases c <;> simp [DataW.trod, ht] at h
      rename_i k' n
      obtain ⟨⟨rfl, _⟩, rfl, _⟩ := h
      exact ⟨n, rfl, rfl⟩
theorem ints_of_trod {H : Type} {enc : TypeId × Value → H} {P : Program} {w : World} {base : Nat} {sp : Nat → Bool} {held : Bool} {fuel n : Nat} {t e : TypeId} {k : IntKind} {cs : List Value} {ds : List (DataW H)} {p : List MemPlace}
    (ht : P.underlying t = some (.array n e)) (he : P.underlying e = some (.int k)) (hc : P.cellsOf e = 1) (hn : P.cellsOf t = n) (h : DataW.trod enc P w base sp held fuel t cs = some (.agg ds, p)) :
    cs.length = n ∧ ∀ i, i < n → ∃ m, cs[i]? = some (.int k m) ∧ ds[i]? = some (.lit (.int k m)) := by
  cases fuel with
  | zero => simp [DataW.trod] at h
  | succ fuel =>
    have h' : (if cs.length = P.cellsOf t then ((List.range n).mapM fun i => DataW.trod enc P w base sp held fuel e ((cs.drop (i * P.cellsOf e)).take (P.cellsOf e))).map fun xs => (DataW.agg (xs.map (·.1)), xs.flatMap (·.2)) else none) = some (.agg ds, p) := by
      rw [← h]; simp only [DataW.trod, ht]
    clear h
    by_cases hl : cs.length = P.cellsOf t
    · rw [if_pos hl, Option.map_eq_some_iff] at h'
      obtain ⟨xs, hx, hy⟩ := h'
      simp only [Prod.mk.injEq, DataW.agg.injEq] at hy
      obtain ⟨h1, h2⟩ := mapM_get hx
      refine ⟨hl.trans hn, fun i hi => ?_⟩
      obtain ⟨b, hb, hf⟩ := h2 i i (by simp [hi])
      obtain ⟨d, q⟩ := b
      obtain ⟨m, hm, hd⟩ := int_of_trod he hf
      refine ⟨m, ?_, ?_⟩
      · rw [hc, Nat.mul_one] at hm
        have : (List.take 1 (List.drop i cs))[0]? = some (.int k m) := by rw [hm]; rfl
        rw [List.getElem?_take] at this
        simpa using this
      · rw [← hy.1, List.getElem?_map, hb]; simp [hd]
    · rw [if_neg hl] at h'; cases h'
/-- one listed variable -/
theorem laid_get {P : Program} {w : World} {n : String} {d : DataW Unit} : ∀ {l : List (String × DataW Unit)} {ps : List MemPlace}, DataW.LaidVars P w l ps → (n, d) ∈ l →
    ∃ g t cs fuel p, P.globalNamed n = some g ∧ (P.globals[g]?).map (·.type) = some t ∧ w.var? P n = some cs ∧ DataW.trod (fun _ => ()) P w 0 (fun _ => true) false fuel t cs.toList = some (d, p)
  | [], _, _, h => by simp at h
  | (m, e) :: l, ps, H, h => by
    obtain ⟨g, t, cs, fuel, p, q, h1, h2, h3, h4, h5, _⟩ := H
    rcases List.mem_cons.1 h with h | h
    · cases h; exact ⟨g, t, cs, fuel, p, h1, h2, h3, h4⟩
    · exact laid_get h5 h
theorem var_heap {P : Program} {w : World} {n : String} {g : Nat} {cs : Array Value} (hg : P.globalNamed n = some g) (h : w.var? P n = some cs) : ∃ t fr, w.heap[g]? = some (.cells cs t fr) := by
  simp only [World.var?, hg, Option.bind_some] at h
  split at h
  · rename_i c t fr e
    simp only [Option.some.injEq] at h; subst h
    exact ⟨t, fr, e⟩
  · cases h
end Go.E
namespace Go.E
theorem ints_of_struct {H : Type} {enc : TypeId × Value → H} {P : Program} {w : World} {base : Nat} {sp : Nat → Bool} {held : Bool} {fuel : Nat} {fs : Array Field} {t e : TypeId} {k : IntKind} {cs : List Value} {ds : List (DataW H)} {p : List MemPlace}
    (ht : P.underlying t = some (.struct fs)) (he : P.underlying e = some (.int k)) (hc : P.cellsOf e = 1) (hn : P.cellsOf t = fs.toList.length) (hf : ∀ (i : Nat) (f : Field), fs.toList[i]? = some f → f.offset = i ∧ f.type = e)
    (h : DataW.trod enc P w base sp held fuel t cs = some (.agg ds, p)) :
    cs.length = fs.toList.length ∧ ∀ i, i < fs.toList.length → ∃ m, cs[i]? = some (.int k m) ∧ ds[i]? = some (.lit (.int k m)) := by
  cases fuel with
  | zero => simp [DataW.trod] at h
  | succ fuel =>
    have h' : (if cs.length = P.cellsOf t then (fs.toList.mapM fun f => DataW.trod enc P w base sp held fuel f.type ((cs.drop f.offset).take (P.cellsOf f.type))).map fun xs => (DataW.agg (xs.map (·.1)), xs.flatMap (·.2)) else none) = some (.agg ds, p) := by
      rw [← h]; simp only [DataW.trod, ht]
    clear h
    by_cases hl : cs.length = P.cellsOf t
    · rw [if_pos hl, Option.map_eq_some_iff] at h'
      obtain ⟨xs, hx, hy⟩ := h'
      simp only [Prod.mk.injEq, DataW.agg.injEq] at hy
      obtain ⟨h1, h2⟩ := mapM_get hx
      refine ⟨hl.trans hn, fun i hi => ?_⟩
      obtain ⟨b, hb, hg⟩ := h2 i fs.toList[i] (List.getElem?_eq_getElem hi)
      obtain ⟨o1, o2⟩ := hf i fs.toList[i] (List.getElem?_eq_getElem hi)
      rw [o1, o2] at hg
      obtain ⟨d, q⟩ := b
      obtain ⟨m, hm, hd⟩ := int_of_trod he hg
      refine ⟨m, ?_, ?_⟩
      · rw [hc] at hm
        have : (List.take 1 (List.drop i cs))[0]? = some (.int k m) := by rw [hm]; rfl
        rw [List.getElem?_take] at this
        simpa using this
      · rw [← hy.1, List.getElem?_map, hb]; simp [hd]
    · rw [if_neg hl] at h'; cases h'
end Go.E
/- The heap at a call's start: variables that are read and not written. -/
namespace Go.E
open Go
def len0 (w : World) (r : Nat) : Nat := match w.heap[r]? with | some (.cells c _ _) => c.size | _ => 0
def mu0 (G : Nat) (w : World) : Mu := fun r => if r < G then some (r, 0, len0 w r) else none
def heap0 (G : Nat) (rows : List (Nat × Row)) : Heap := ⟨G, setAll1 .dead .nil rows, 0, [], []⟩
theorem start_get {G : Nat} {rows : List (Nat × Row)} (r : Nat) : ((heap0 G rows).get r = .dead) ∨ (r, (heap0 G rows).get r) ∈ rows := by
  have e : (heap0 G rows).get r = T.get .dead (setAll1 .dead .nil rows) r := by rw [Heap.get_eq, if_neg (by simp [heap0, hidden])]; rfl
  rw [e]
  rcases setAll1_get Row.dead rows .nil r with ⟨h, _⟩ | h
  · left; rw [h, T.get_nil]
  · right; exact h
theorem models_start {c : Cfg} {P : Program} {G : Nat} {w : World} {rows : List (Nat × Row)} (hG : G ≤ w.heap.size)
    (hr : ∀ p ∈ rows, p.1 < G ∧ (∃ cs, p.2 = .cells true cs) ∧ RowR c P All (mu0 G w) w p.1 p.2) : Models c P All (mu0 G w) (heap0 G rows) w := by
  have hro : ∀ r, ¬ ((heap0 G rows).get r).own := fun r ho => by
    rcases start_get (G := G) (rows := rows) r with h | h
    · rw [h] at ho; exact ho
    · obtain ⟨_, ⟨cs, e⟩, _⟩ := hr _ h
      simp only [] at e
      rw [e] at ho
      cases ho
  refine ⟨fun r _ => ?_, fun r s _ _ _ ho _ => absurd ho (hro r), fun r h => ?_, fun r h => ?_, fun r p e => ?_, fun r h => ?_, Nat.zero_le _⟩
  · rcases start_get (G := G) (rows := rows) r with h | h
    · rw [h]; trivial
    · exact (hr _ h).2.2
  · unfold mu0; exact if_neg (Nat.not_lt.2 h)
  · rcases start_get (G := G) (rows := rows) r with h' | h'
    · exact h'
    · have := (hr _ h').1
      exact absurd this (Nat.not_lt.2 h)
  · unfold mu0 at e
    by_cases q : r < G
    · rw [if_pos q] at e; cases e; exact Nat.lt_of_lt_of_le q hG
    · rw [if_neg q] at e; cases e
  · simp [heap0, hidden] at h
theorem kept_start {G : Nat} {rows : List (Nat × Row)} {w w' : World} {μ μ' : Mu} {h' : Heap} (hr : ∀ p ∈ rows, ∃ cs, p.2 = .cells true cs) (g : Goes μ (heap0 G rows) w μ' h' w') : w.keptBut w' (fun _ => False) := by
  refine ⟨g.os, g.output, fun i hi => ?_⟩
  have e := g.same i hi fun r ho => by
    rcases start_get (G := G) (rows := rows) r with h | h
    · rw [h] at ho; exact ho.elim
    · obtain ⟨cs, e⟩ := hr _ h
      simp only [] at e
      rw [e] at ho
      cases ho
  rw [e]
  cases w.heap[i]? with
  | none => rfl
  | some o => cases o <;> first | rfl | exact ⟨rfl, rfl, rfl, fun _ _ => rfl⟩ | exact .inr ⟨rfl, rfl⟩
/-- a variable that holds integers -/
theorem row_ints {c : Cfg} {P : Program} {G g : Nat} {w : World} {k : IntKind} {L : List Int} {a : Array Value} {t : TypeId} {fr : Nat × Nat} (hg : g < G) (hh : w.heap[g]? = some (.cells a t fr)) (hl : a.toList.length = L.length)
    (hc : ∀ i, i < L.length → ∃ m, a.toList[i]? = some (.int k m) ∧ L[i]? = some m) : RowR c P All (mu0 G w) w g (.cells true (L.map (AV.int k))) := by
  refine ⟨g, 0, a.size, a, t, fr, by unfold mu0 len0; rw [if_pos hg, hh], hh, rfl, by rw [List.length_map, ← hl]; simp, fun i x hx _ => ?_, fun h => by cases h⟩
  have hi : i < L.length := by
    have := (List.getElem?_eq_some_iff.1 hx).1
    simpa using this
  obtain ⟨m, h1, h2⟩ := hc i hi
  rw [List.getElem?_map, h2] at hx
  simp only [Option.map_some, Option.some.injEq] at hx
  subst hx
  refine ⟨.int k m, ?_, .int k m, rfl⟩
  rw [Nat.zero_add, ← Array.getElem?_toList]; exact h1
/-- a listed array of integers, in the world -/
theorem row_laid {c : Cfg} {P : Program} {G g n : Nat} {w : World} {k : IntKind} {L : List Int} {name : String} {t e : TypeId} {l : List (String × DataW Unit)} {ps : List MemPlace}
    (h : DataW.LaidVars P w l ps) (hm : (name, DataW.agg (L.map fun x => .lit (.int k x))) ∈ l) (hn : P.globalNamed name = some g) (hg : g < G) (htg : (P.globals[g]?).map (·.type) = some t)
    (ht : P.underlying t = some (.array n e)) (he : P.underlying e = some (.int k)) (hc : P.cellsOf e = 1) (ht' : P.cellsOf t = n) (hL : L.length = n) : RowR c P All (mu0 G w) w g (.cells true (L.map (AV.int k))) := by
  obtain ⟨g', t', cs, fuel, p, h1, h2, h3, h4⟩ := laid_get h hm
  rw [hn] at h1; cases h1
  rw [htg] at h2; cases h2
  obtain ⟨t2, fr, hh⟩ := var_heap hn h3
  obtain ⟨k1, k2⟩ := ints_of_trod ht he hc ht' h4
  refine row_ints hg hh (by rw [k1, hL]) fun i hi => ?_
  obtain ⟨m, m1, m2⟩ := k2 i (by rw [← hL]; exact hi)
  refine ⟨m, m1, ?_⟩
  rw [List.getElem?_map] at m2
  cases e : L[i]? with
  | none => rw [e] at m2; cases m2
  | some x =>
    rw [e] at m2
    simp only [Option.map_some, Option.some.injEq, DataW.lit.injEq, Lit.int.injEq] at m2
    rw [m2.2]
end Go.E
namespace Go.E
/-- a listed struct of integers, in the world -/
theorem row_struct {c : Cfg} {P : Program} {G g : Nat} {w : World} {k : IntKind} {L : List Int} {name : String} {t e : TypeId} {fs : Array Field} {l : List (String × DataW Unit)} {ps : List MemPlace}
    (h : DataW.LaidVars P w l ps) (hm : (name, DataW.agg (L.map fun x => .lit (.int k x))) ∈ l) (hn : P.globalNamed name = some g) (hg : g < G) (htg : (P.globals[g]?).map (·.type) = some t)
    (ht : P.underlying t = some (.struct fs)) (he : P.underlying e = some (.int k)) (hc : P.cellsOf e = 1) (ht' : P.cellsOf t = fs.toList.length) (hf : ∀ (i : Nat) (f : Field), fs.toList[i]? = some f → f.offset = i ∧ f.type = e) (hL : L.length = fs.toList.length) : RowR c P All (mu0 G w) w g (.cells true (L.map (AV.int k))) := by
  obtain ⟨g', t', cs, fuel, p, h1, h2, h3, h4⟩ := laid_get h hm
  rw [hn] at h1; cases h1
  rw [htg] at h2; cases h2
  obtain ⟨t2, fr, hh⟩ := var_heap hn h3
  obtain ⟨k1, k2⟩ := ints_of_struct ht he hc ht' hf h4
  refine row_ints hg hh (by rw [k1, hL]) fun i hi => ?_
  obtain ⟨m, m1, m2⟩ := k2 i (by rw [← hL]; exact hi)
  refine ⟨m, m1, ?_⟩
  rw [List.getElem?_map] at m2
  cases e : L[i]? with
  | none => rw [e] at m2; cases m2
  | some x =>
    rw [e] at m2
    simp only [Option.map_some, Option.some.injEq, DataW.lit.injEq, Lit.int.injEq] at m2
    rw [m2.2]
end Go.E
