/- E is sound, part 2: maps, append, copy, every operation that looks or allocates -/
import Derived.Test.YtmpbgfeidflbeaaGreatDoorEb
import GoSem.Dispatch
import Derived.Laws.AppendOwn
import Derived.AtR
import GoSem.Core.CheckCode
/-! E, soundness, part 13: operations on maps. -/
namespace Go.E
open Go.Maps Go.MapKept
variable {c : Cfg} {P : Program} {V : View} {μ : Mu} {h : Heap} {w : World}

theorem mapKey_spec (T : TyOK c P) {t kt : TypeId} (hk : E.mapKey c t = some kt) : ∃ e, P.underlying t = some (.map kt e) := by
  unfold E.mapKey at hk
  cases e : und c t with
  | none => rw [e] at hk; cases hk
  | some d =>
    rw [e] at hk
    cases d <;> simp only [reduceCtorEq, Option.some.injEq] at hk
    subst hk; exact ⟨_, T.und e⟩
theorem row_map {r : Nat} {kt : TypeId} {es : List (AV × AV)} (M : Models c P V μ h w) (hv : Vis V r) (e : h.get r = .map kt es) :
    ∃ b base N es' clock, μ r = some (b, base, N) ∧ w.heap[b]? = some (.map es' clock) ∧ MapR c kt μ es es'.toList clock := by
  have := M.row r hv
  rw [e] at this
  exact this

theorem lookup_sound (T : TyOK c P) (M : Models c P V μ h w) {t : TypeId} {m k r : AV} {m' k' : Value} {ok : Bool} (he : lookupE c t h m k ok = some r) (hm : VR μ m m') (hk : VR μ k k')
    (hV : ∀ a ∈ rowOf m, ∀ i, inR a a.1 i → V a.1 i) : ∃ u, (Instr.lookup t m' k' ok).run P w = .ok u w ∧ VR μ r u := by
  unfold lookupE at he
  cases e1 : und c t with
  | none => rw [e1] at he; cases he
  | some d =>
    rw [e1] at he
    have hu := T.und e1
    cases d <;> first | (cases he; done) | skip
    rename_i kt el
    simp only [] at he
    cases e2 : keyOk c kt k with
    | false => rw [e2] at he; cases he
    | true =>
      rw [e2] at he; simp only [Bool.not_true, cond_false] at he
      obtain ⟨K, l, hl⟩ := keyOk_keyed T e2 hk
      have zero : ∀ z, zeroE c el = some z → ∃ v, (zeroValue el).run P w = .ok v w ∧ VR μ z v := fun z hz => zeroE_spec T μ hz w
      have res : ∀ (a : AV) (v : Value) (b : Bool), VR μ a v → VR μ (bif ok then .tup [a, .bool b] else a) (if ok then .tuple #[v, .bool b] else v) := by
        intro a v b hv
        cases ok with
        | true => exact .tup _ _ (.cons hv (.cons (.bool b) .nil))
        | false => exact hv
      cases m <;> first | (simp only [] at he; cases he; done) | skip
      case nilm =>
        cases hm
        simp only [] at he
        cases e3 : zeroE c el with
        | none => rw [e3] at he; cases he
        | some z =>
          rw [e3] at he; simp only [Option.some.injEq] at he; subst he
          obtain ⟨v, z1, z2⟩ := zero z e3
          refine ⟨_, ?_, res z v false z2⟩
          rcases K.find w hl [] (by simp) with ⟨q1, _⟩ | ⟨j, e, _, q2, _⟩
          · simp only [Instr.lookup, Sem.run_bind, run_underlying' w hu, Result.andThen_ok, Sem.run_pure, K.check w _ hl, q1, z1]
          · simp at q2
      case map rr =>
        cases hm with
        | map _ b base N hmu =>
        simp only [] at he
        cases e3 : h.get rr with
        | map kt' es =>
          rw [e3] at he; simp only [] at he
          cases e4 : Nat.beq kt kt' with
          | false => rw [e4] at he; cases he
          | true =>
            rw [e4] at he; simp only [cond_true] at he
            have := Nat.eq_of_beq_eq_true e4; subst this
            have hvis : Vis V rr := ⟨0, hV (rr, 0, whole) (by simp [rowOf]) 0 ⟨rfl, Nat.zero_le _, .inl (Nat.le_refl _)⟩⟩
            obtain ⟨b', base', N', es', clock, hmu', hb, hr⟩ := row_map M hvis e3
            rw [hmu] at hmu'; simp only [Option.some.injEq, Prod.mk.injEq] at hmu'
            obtain ⟨rfl, rfl, rfl⟩ := hmu'
            obtain ⟨es2, p1, p2, p3, hf⟩ := findKey_run T hr e2 hk w
            cases e5 : find k es with
            | none => rw [e5] at he; cases he
            | some o =>
              rw [e5] at he
              cases o with
              | none =>
                simp only [] at he
                cases e6 : zeroE c el with
                | none => rw [e6] at he; cases he
                | some z =>
                  rw [e6] at he; simp only [Option.some.injEq] at he; subst he
                  obtain ⟨v, z1, z2⟩ := zero z e6
                  refine ⟨_, ?_, res z v false z2⟩
                  rcases hf with ⟨q1, _⟩ | ⟨j, e, u, q1, q2, q3, q4, q5⟩
                  · simp [Instr.lookup, run_underlying' w hu, MapKept.run_getObj_map hb, K.check w _ hl, q1, z1]
                  · exact absurd rfl (find_none e5 _ (p1.mem_iff.1 (List.mem_of_getElem? q4)))
              | some v =>
                simp only [Option.some.injEq] at he; subst he
                obtain ⟨A, B, hAB⟩ := find_some e5
                rcases hf with ⟨q1, q2⟩ | ⟨j, e, u, q1, q2, q3, q4, q5⟩
                · exact absurd rfl (q2 (k, v) (by rw [hAB]; simp))
                · have huv : u = v := dist_val hr.dist (p1.mem_iff.1 (List.mem_of_getElem? q4)) (by rw [hAB]; simp)
                  subst huv
                  refine ⟨_, ?_, res u e.val true q5⟩
                  simp [Instr.lookup, run_underlying' w hu, MapKept.run_getObj_map hb, K.check w _ hl, q1]
        | _ => rw [e3] at he; cases he

theorem split_at {α : Type} {l : List α} {j : Nat} {x : α} (h : l[j]? = some x) : ∃ A B, l = A ++ x :: B ∧ A.length = j := by
  obtain ⟨hj, he⟩ := List.getElem?_eq_some_iff.1 h
  refine ⟨l.take j, l.drop (j + 1), ?_, by simp; omega⟩
  rw [← he]
  have := List.take_append_drop j l
  rw [List.drop_eq_getElem_cons hj] at this
  exact this.symm
theorem VL.split : ∀ {A : List AV} {a : AV} {B : List AV} {vs : List Value} {j : Nat} {v : Value}, VL μ (A ++ a :: B) vs → A.length = j → vs[j]? = some v →
    ∃ C D, vs = C ++ v :: D ∧ C.length = j ∧ VL μ A C ∧ VL μ B D := by
  intro A
  induction A with
  | nil =>
    intro a B vs j v hv hj he
    simp at hj; subst hj
    cases hv with
    | cons q1 q2 => simp at he; subst he; exact ⟨[], _, rfl, rfl, .nil, q2⟩
  | cons x A ih =>
    intro a B vs j v hv hj he
    cases hv with
    | @cons _ y _ ys q1 q2 =>
      obtain ⟨j, rfl⟩ : ∃ k, j = k + 1 := ⟨A.length, by simp at hj; omega⟩
      obtain ⟨C, D, r1, r2, r3, r4⟩ := ih q2 (by simpa using hj) (by simpa using he)
      exact ⟨y :: C, D, by rw [r1]; rfl, by simp [r2], .cons q1 r3, r4⟩

theorem set_same {α : Type} : ∀ {l : List α} {j : Nat} {x : α}, l[j]? = some x → l.set j x = l
  | [], _, _, h => rfl
  | a :: l, 0, x, h => by simp at h; subst h; rfl
  | a :: l, j + 1, x, h => by rw [List.set_cons_succ, set_same (by simpa using h)]
theorem put_map (M : Models c P All μ h w) {r : Nat} {kt : TypeId} {es es1 : List (AV × AV)} {b base N : Nat} {es' es1' : Array MapEntry} {clock clock' : Nat} (e : h.get r = .map kt es) (hm : μ r = some (b, base, N))
    (hb : w.heap[b]? = some (.map es' clock)) (hr : MapR c kt μ es1 es1'.toList clock') :
    Models c P All μ (h.put r 0 whole (.map kt es1)) { w with heap := w.heap.setIfInBounds b (.map es1' clock') } ∧ Goes μ h w μ (h.put r 0 whole (.map kt es1)) { w with heap := w.heap.setIfInBounds b (.map es1' clock') } := by
  have hlt : b < w.heap.size := (Array.getElem?_eq_some_iff.1 hb).1
  refine M.put r 0 whole _ b base N hm (by rw [e]; trivial) (.map es1' clock') (by simp) rfl rfl rfl (fun x hx => ?_) (by simp [hlt]) ⟨b, base, N, es1', clock', hm, by simp [hlt], hr⟩ ?_
  · simp [Ne.symm hx]
  · intro i hi; exact absurd ⟨rfl, Nat.zero_le _, .inl (Nat.le_refl _)⟩ hi

/-- 'm[k] = v' -/
theorem mapUpdate_sound (T : TyOK c P) (M : Models c P All μ h w) {t kt : TypeId} {r : Nat} {k v : AV} {k' v' : Value} {es es1 : List (AV × AV)} {b base N : Nat} (ht : E.mapKey c t = some kt) (hm : μ r = some (b, base, N))
    (e : h.get r = .map kt es) (hk : keyOk c kt k = true) (hkv : VR μ k k') (hvv : VR μ v v') (hu : (∃ A u B, es = A ++ (k, u) :: B ∧ es1 = A ++ (k, v) :: B) ∨ ((∀ p ∈ es, p.1 ≠ k) ∧ es1 = es ++ [(k, v)])) :
    GivesU c P μ h w (Instr.mapUpdate t (.map (some b)) k' v') (h.put r 0 whole (.map kt es1)) := by
  obtain ⟨el, hud⟩ := mapKey_spec T ht
  obtain ⟨K, l, hl⟩ := keyOk_keyed T hk hkv
  obtain ⟨b', base', N', es', clock, hm', hb, hr⟩ := row_map M (vis_all r) e
  rw [hm] at hm'; simp only [Option.some.injEq, Prod.mk.injEq] at hm'
  obtain ⟨rfl, rfl, rfl⟩ := hm'
  obtain ⟨es2, p1, p2, p3, hf⟩ := findKey_run T hr hk hkv w
  rcases hf with ⟨q1, q2⟩ | ⟨j, en, u, q1, q2, q3, q4, q5⟩
  · rcases hu with ⟨A, u, B, h1, h2⟩ | ⟨h1, h2⟩
    · exact absurd rfl (q2 (k, u) (by rw [h1]; simp))
    · subst h2
      obtain ⟨r1, r2⟩ := put_map M e hm hb (es1 := es ++ [(k, v)]) (es1' := es'.push ⟨k', v', clock⟩) (clock' := clock + 1) (by
        refine ⟨⟨es2 ++ [(k, v)], p1.append_right _, ?_, ?_⟩, ?_, ?_, ?_⟩
        · simp only [List.map_append, Array.toList_push]; exact p2.append (.cons hkv .nil)
        · simp only [List.map_append, Array.toList_push]; exact p3.append (.cons hvv .nil)
        · intro p hp
          rcases List.mem_append.1 hp with hp | hp
          · exact hr.keys p hp
          · simp at hp; subst hp; exact hk
        · rw [List.pairwise_append]
          refine ⟨hr.dist, by simp, fun p hp q hq => ?_⟩
          simp at hq; subst hq; exact h1 p hp
        · obtain ⟨b1, b2⟩ := hr.born
          simp only [Array.toList_push, List.map_append, List.map_cons, List.map_nil]
          refine ⟨fun n hn => ?_, ?_⟩
          · rcases List.mem_append.1 hn with hn | hn
            · exact Nat.lt_succ_of_lt (b1 n hn)
            · simp at hn; subst hn; exact Nat.lt_succ_self _
          · rw [List.nodup_append]
            refine ⟨b2, by simp, fun x hx y hy => ?_⟩
            simp at hy; subst hy; exact Nat.ne_of_lt (b1 x hx))
      exact ⟨μ, _, by simp [Instr.mapUpdate, run_underlying' w hud, MapKept.run_getObj_map hb, K.check w _ hl, q1, MapKept.run_setObj_map _ hb], r1, r2⟩
  · rcases hu with ⟨A, u', B, h1, h2⟩ | ⟨h1, h2⟩
    · subst h2
      obtain ⟨C, D, s1, s2⟩ := split_at q4
      have hpAB : (A ++ B).Perm (C ++ D) := by
        have a1 : ((k, u) :: (C ++ D)).Perm ((k, u') :: (A ++ B)) := by
          refine List.perm_middle.symm.trans (List.Perm.trans ?_ List.perm_middle)
          rw [← s1, ← h1]; exact p1
        have huu : u = u' := dist_val hr.dist (p1.mem_iff.1 (List.mem_of_getElem? q4)) (by rw [h1]; simp)
        subst huu
        exact (List.Perm.cons_inv a1).symm
      have hj : j < es'.size := by
        have := (List.getElem?_eq_some_iff.1 q2).1; simpa using this
      have hmod : (es'.modify j fun x => { x with key := k', val := v' }).toList = es'.toList.set j { en with key := k', val := v' } := by
        apply List.ext_getElem?
        intro i
        have hq2 : es'[j]? = some en := by simpa using q2
        simp only [Array.getElem?_toList, Array.getElem?_modify, List.getElem?_set]
        by_cases hji : j = i
        · subst hji
          have h3 : es'[j] = en := by
            have := Array.getElem?_eq_getElem hj
            rw [hq2] at this; exact (Option.some.inj this).symm
          simp [hj, h3]
        · simp [hji]
      have hset : ∀ (l : List (AV × AV)) (x : AV × AV), C.length = j → (C ++ (k, u) :: D).set j x = C ++ x :: D := by
        intro l x hl; subst hl; simp
      obtain ⟨r1, r2⟩ := put_map M e hm hb (es1 := A ++ (k, v) :: B) (es1' := es'.modify j fun x => { x with key := k', val := v' }) (clock' := clock) (by
        refine ⟨⟨C ++ (k, v) :: D, ?_, ?_, ?_⟩, ?_, ?_, ?_⟩
        · exact (List.perm_middle.trans (List.Perm.cons _ hpAB.symm)).trans List.perm_middle.symm
        · rw [hmod]
          rw [s1] at p2
          simp only [List.map_append, List.map_cons] at p2 ⊢
          obtain ⟨X, Y, t1, t2, t3, t4⟩ := VL.split p2 (by simpa using s2) (by rw [List.getElem?_map, q2]; rfl)
          have : (es'.toList.set j { en with key := k', val := v' }).map (·.key) = X ++ k' :: Y := by
            rw [List.map_set, t1, ← t2]; simp
          rw [this]; exact t3.append (.cons hkv t4)
        · rw [hmod]
          rw [s1] at p3
          simp only [List.map_append, List.map_cons] at p3 ⊢
          obtain ⟨X, Y, t1, t2, t3, t4⟩ := VL.split p3 (by simpa using s2) (by rw [List.getElem?_map, q2]; rfl)
          have : (es'.toList.set j { en with key := k', val := v' }).map (·.val) = X ++ v' :: Y := by
            rw [List.map_set, t1, ← t2]; simp
          rw [this]; exact t3.append (.cons hvv t4)
        · intro p hp
          rcases List.mem_append.1 hp with hp | hp
          · exact hr.keys p (by rw [h1]; simp [hp])
          · rcases List.mem_cons.1 hp with rfl | hp
            · exact hk
            · exact hr.keys p (by rw [h1]; simp [hp])
        · have hd := hr.dist
          rw [h1] at hd
          rw [List.pairwise_append] at hd ⊢
          obtain ⟨d1, d2, d3⟩ := hd
          rw [List.pairwise_cons] at d2 ⊢
          refine ⟨d1, ⟨fun q hq => d2.1 q hq, d2.2⟩, fun p hp q hq => ?_⟩
          rcases List.mem_cons.1 hq with rfl | hq
          · exact d3 p hp (k, u') (by simp)
          · exact d3 p hp q (by simp [hq])
        · have hb' : (es'.modify j fun x => { x with key := k', val := v' }).toList.map (·.born) = es'.toList.map (·.born) := by
            rw [hmod, List.map_set]
            have : (es'.toList.map (·.born))[j]? = some en.born := by rw [List.getElem?_map, q2]; rfl
            exact set_same this
          rw [hb']; exact hr.born)
      refine ⟨μ, _, ?_, r1, r2⟩
      have hq2 : es'[j]? = some en := by simpa using q2
      simp [Instr.mapUpdate, run_underlying' w hud, MapKept.run_getObj_map hb, K.check w _ hl, q1, hq2, q3, K.stays w hl, MapKept.run_setObj_map _ hb]
    · exact absurd rfl (h1 _ (p1.mem_iff.1 (List.mem_of_getElem? q4)))
end Go.E
/-! E, soundness, part 14: deletions, conversions, ranges over strings, assertions, methods. -/
namespace Go.E
open Go.Maps Go.MapKept
variable {c : Cfg} {P : Program} {V : View} {μ : Mu} {h : Heap} {w : World}

theorem delete_sound (T : TyOK c P) (M : Models c P All μ h w) {ts : Array TypeId} {ty : TypeId} {m k : AV} {m' k' : Value} {h' : Heap} (he : deleteE c ts h m k = some h') (hm : VR μ m m') (hk : VR μ k k') :
    Gives c P μ h w (Builtin.delete_ ts ty #[m', k']) undef h' := by
  unfold deleteE at he
  cases e0 : ts[0]? with
  | none => rw [e0] at he; cases he
  | some t =>
    rw [e0] at he; simp only [] at he
    cases e1 : E.mapKey c t with
    | none => rw [e1] at he; cases he
    | some kt =>
      rw [e1] at he
      cases m <;> first | (simp only [] at he; cases he; done) | skip
      rename_i r
      cases hm with
      | map _ b base N hm =>
      simp only [] at he
      cases e2 : h.get r with
      | map kt' es =>
        rw [e2] at he; simp only [] at he
        cases e3 : (keyOk c kt k && Nat.beq kt kt') with
        | false => rw [e3] at he; cases he
        | true =>
          rw [e3] at he; simp only [cond_true] at he
          rw [Bool.and_eq_true] at e3
          have hkt := Nat.eq_of_beq_eq_true e3.2; subst hkt
          cases e4 : del k es with
          | none => rw [e4] at he; cases he
          | some es1 =>
            rw [e4] at he; simp only [Option.some.injEq] at he; subst he
            obtain ⟨el, hud⟩ := mapKey_spec T e1
            obtain ⟨K, l, hl⟩ := keyOk_keyed T e3.1 hk
            obtain ⟨b', base', N', es', clock, hm', hb, hr⟩ := row_map M (vis_all r) e2
            rw [hm] at hm'; simp only [Option.some.injEq, Prod.mk.injEq] at hm'
            obtain ⟨rfl, rfl, rfl⟩ := hm'
            obtain ⟨es2, p1, p2, p3, hf⟩ := findKey_run T hr e3.1 hk w
            have hud' : VR μ undef (.tuple #[]) := .tup _ _ .nil
            rcases hf with ⟨q1, q2⟩ | ⟨j, en, u, q1, q2, q3, q4, q5⟩
            · rcases del_spec e4 with ⟨A, u, B, h1, h2⟩ | ⟨h1, h2⟩
              · exact absurd rfl (q2 (k, u) (by rw [h1]; simp))
              · subst h2
                obtain ⟨r1, r2⟩ := put_map M e2 hm hb (es1 := es1) (es1' := es') (clock' := clock) hr
                exact ⟨μ, _, .tuple #[], by simp [Builtin.delete_, e0, run_underlying' w hud, MapKept.run_getObj_map hb, K.check w _ hl, q1, MapKept.run_setObj_map _ hb], hud', r1, r2⟩
            · rcases del_spec e4 with ⟨A, u', B, h1, h2⟩ | ⟨h1, h2⟩
              · subst h2
                obtain ⟨C, D, s1, s2⟩ := split_at q4
                have hpAB : (C ++ D).Perm (A ++ B) := by
                  have a1 : ((k, u) :: (C ++ D)).Perm ((k, u') :: (A ++ B)) := by
                    refine List.perm_middle.symm.trans (List.Perm.trans ?_ List.perm_middle)
                    rw [← s1, ← h1]; exact p1
                  have huu : u = u' := dist_val hr.dist (p1.mem_iff.1 (List.mem_of_getElem? q4)) (by rw [h1]; simp)
                  subst huu
                  exact List.Perm.cons_inv a1
                obtain ⟨r1, r2⟩ := put_map M e2 hm hb (es1 := A ++ B) (es1' := es'.eraseIdxIfInBounds j) (clock' := clock) (by
                  refine ⟨⟨C ++ D, hpAB, ?_, ?_⟩, ?_, ?_, ?_⟩
                  · rw [Array.toList_eraseIdxIfInBounds]
                    rw [s1] at p2
                    simp only [List.map_append, List.map_cons] at p2 ⊢
                    obtain ⟨X, Y, t1, t2, t3, t4⟩ := VL.split p2 (by simpa using s2) (by rw [List.getElem?_map, q2]; rfl)
                    have : (es'.toList.eraseIdx j).map (·.key) = X ++ Y := by
                      rw [Go.ChangeMaps.map_eraseIdx, t1, ← t2, List.eraseIdx_append_of_length_le (Nat.le_refl _)]; simp
                    rw [this]; exact t3.append t4
                  · rw [Array.toList_eraseIdxIfInBounds]
                    rw [s1] at p3
                    simp only [List.map_append, List.map_cons] at p3 ⊢
                    obtain ⟨X, Y, t1, t2, t3, t4⟩ := VL.split p3 (by simpa using s2) (by rw [List.getElem?_map, q2]; rfl)
                    have : (es'.toList.eraseIdx j).map (·.val) = X ++ Y := by
                      rw [Go.ChangeMaps.map_eraseIdx, t1, ← t2, List.eraseIdx_append_of_length_le (Nat.le_refl _)]; simp
                    rw [this]; exact t3.append t4
                  · intro p hp
                    refine hr.keys p ?_
                    rw [h1]; rcases List.mem_append.1 hp with hp | hp <;> simp [hp]
                  · have hd := hr.dist
                    rw [h1] at hd
                    rw [List.pairwise_append] at hd ⊢
                    obtain ⟨d1, d2, d3⟩ := hd
                    rw [List.pairwise_cons] at d2
                    exact ⟨d1, d2.2, fun p hp q hq => d3 p hp q (by simp [hq])⟩
                  · have hs : ((es'.eraseIdxIfInBounds j).toList.map (·.born)).Sublist (es'.toList.map (·.born)) := by
                      rw [Array.toList_eraseIdxIfInBounds]; exact (List.eraseIdx_sublist _ _).map _
                    exact ⟨fun n hn => hr.born.1 n (hs.subset hn), hr.born.2.sublist hs⟩)
                exact ⟨μ, _, .tuple #[], by simp [Builtin.delete_, e0, run_underlying' w hud, MapKept.run_getObj_map hb, K.check w _ hl, q1, MapKept.run_setObj_map _ hb], hud', r1, r2⟩
              · exact absurd rfl (h1 _ (p1.mem_iff.1 (List.mem_of_getElem? q4)))
      | _ => rw [e2] at he; cases he

/-! ### conversions -/
theorem isByteT_spec (T : TyOK c P) {e : TypeId} (h : isByteT c e = true) : P.underlying e = some (.int .u8) := by
  unfold isByteT at h
  split at h
  · rename_i q; exact T.und q
  · cases h
theorem bytes_back {cs : List AV} {bs : List UInt8} : ∀ {vs : List Value}, allM toByte cs = some bs → VL μ cs vs → ∃ ns : List Int, vs = ns.map (Value.int .u8) ∧ ns.map (fun n => UInt8.ofNat n.toNat) = bs := by
  induction cs generalizing bs with
  | nil => intro vs h hv; cases hv; simp [allM] at h; subst h; exact ⟨[], rfl, rfl⟩
  | cons a cs ih =>
    intro vs h hv
    cases hv with
    | cons q1 q2 =>
    simp only [allM] at h
    cases e : toByte a with
    | none => rw [e] at h; cases h
    | some b =>
      rw [e] at h; simp only [] at h
      cases e2 : allM toByte cs with
      | none => rw [e2] at h; cases h
      | some r =>
        rw [e2] at h; simp only [Option.some.injEq] at h; subst h
        obtain ⟨ns, n1, n2⟩ := ih e2 q2
        unfold toByte at e
        split at e
        · rename_i n
          simp only [Option.some.injEq] at e; subst e
          cases q1
          exact ⟨n :: ns, by rw [n1]; rfl, by simp [n2]⟩
        · cases e
theorem foldl_push (ns : List Int) : ∀ s : ByteArray, (ns.foldl (fun r n => r.push (UInt8.ofNat n.toNat)) s).data.toList = s.data.toList ++ ns.map (fun n => UInt8.ofNat n.toNat) := by
  induction ns with
  | nil => intro s; simp
  | cons n ns ih => intro s; simp only [List.foldl_cons, ih, List.map_cons]; simp [ByteArray.push]

theorem run_choose_cap (need : Nat) (e : TypeId) (w : World) : ∃ cap, need ≤ cap ∧ (choose (.appendCap need 0 e)).run P w = .ok cap { w with drawn := w.drawn + 1 } := by
  refine ⟨_, ?_, by simp [choose, Sem.run, Question.forced]; rfl⟩
  simp [Question.cut]
theorem frozen_new (w : World) (arr : Array Value) (e : TypeId) (n : Nat) :
    (({ w with heap := w.heap.push (.cells arr e) } : World).freeze { block := w.heap.size, off := n } 1).heap = w.heap.push (.cells arr e (n, n + 1)) := by
  simp only [World.freeze]
  rw [if_neg (by omega)]
  apply Array.ext_getElem?
  intro i
  simp only [Array.getElem?_modify, Array.getElem?_push]
  by_cases hi : i = w.heap.size
  · subst hi; simp
  · rw [if_neg hi, if_neg hi, if_neg (Ne.symm hi)]
theorem stringToBytes_run (b : ByteArray) (e : TypeId) (w : World) : ∃ cap w', b.size ≤ cap ∧
    (Conv.stringToBytes e b).run P w = .ok (.slice (some ⟨w.heap.size, 0, none⟩) b.size cap) w' ∧
    Alike (wnew w (.cells ((b.data.map fun x => Value.int .u8 x.toNat) ++ Array.replicate (cap - b.size) (.int .u8 0)) e (cap, cap + 1))) w' := by
  obtain ⟨cap, hcap, hrun⟩ := run_choose_cap (P := P) b.size e w
  have hsz : ((b.data.map fun x : UInt8 => Value.int IntKind.u8 x.toNat) ++ Array.replicate (cap - b.size) (Value.int .u8 0)).size = cap := by
    rw [Array.size_append, Array.size_map, Array.size_replicate]
    have : b.data.size = b.size := rfl
    omega
  have hshape : ∀ arr : Array Value, (({ w with drawn := w.drawn + 1, heap := w.heap.push (.cells arr e) } : World).shape? w.heap.size) = some (e, arr.size) := by
    intro arr; simp [World.shape?]
  refine ⟨cap, ({ w with drawn := w.drawn + 1, heap := w.heap.push (.cells ((b.data.map fun x => Value.int IntKind.u8 x.toNat) ++ Array.replicate (cap - b.size) (.int .u8 0)) e) } : World).freeze { block := w.heap.size, off := cap } 1, hcap, ?_, ?_⟩
  · simp only [Conv.stringToBytes, Sem.run_bind, hrun, Result.andThen_ok, newRow, run_newObj, Sem.run_pure, markStringish, run_shape, hshape, hsz, run_freeze]
  · refine ⟨?_, ?_, ?_, ?_⟩
    · rw [show ({ w with drawn := w.drawn + 1, heap := w.heap.push (.cells ((b.data.map fun x => Value.int IntKind.u8 x.toNat) ++ Array.replicate (cap - b.size) (.int .u8 0)) e) } : World) =
        ({ ({ w with drawn := w.drawn + 1 } : World) with heap := ({ w with drawn := w.drawn + 1 } : World).heap.push (.cells ((b.data.map fun x => Value.int IntKind.u8 x.toNat) ++ Array.replicate (cap - b.size) (.int .u8 0)) e) } : World) from rfl]
      exact frozen_new ({ w with drawn := w.drawn + 1 } : World) _ e cap
    all_goals (simp only [World.freeze]; rfl)
theorem conv_gives (T : TyOK c P) (M : Models c P V μ h w) {src dst : TypeId} {x r : AV} {v : Value} {h' : Heap} (he : convE c src dst h x = some (r, h')) (hv : VR μ x v) (hV : ∀ a ∈ rowOf x, ∀ i, inR a a.1 i → V a.1 i) :
    GivesR c P μ h w (convert src dst v) r h' := by
  unfold convE at he
  cases e1 : und c src with
  | none => rw [e1] at he; simp at he
  | some d1 =>
    cases e2 : und c dst with
    | none => rw [e1, e2] at he; simp at he
    | some d2 =>
      rw [e1, e2] at he
      have u1 := T.und e1
      have u2 := T.und e2
      split at he
      · rename_i k k' n _ h1 h2
        simp only [Option.some.injEq] at h1 h2; subst h1; subst h2
        simp only [Option.some.injEq, Prod.mk.injEq] at he
        obtain ⟨rfl, rfl⟩ := he
        cases hv
        refine .pure _ w (by simp [convert, run_underlying' w u1, run_underlying' w u2, Conv.intToInt]; rfl) ?_ (Alike.refl _)
        rw [wrapF_eq]; exact .int _ _
      · rename_i s _ h1 h2
        simp only [Option.some.injEq] at h1 h2; subst h1; subst h2
        simp only [Option.some.injEq, Prod.mk.injEq] at he
        obtain ⟨rfl, rfl⟩ := he
        cases hv with
        | str _ b hb =>
        exact .pure (.string b) w (by simp [convert, run_underlying' w u1, run_underlying' w u2]) (.str _ _ hb) (Alike.refl _)
      · rename_i d0 e s h1 h2
        simp only [Option.some.injEq] at h1 h2; subst h1; subst h2
        cases e3 : (isByteT c e && Nat.ble (len s 0) lim) with
        | false => rw [e3] at he; cases he
        | true =>
          rw [e3] at he; simp only [cond_true, Heap.next_eq, Option.some.injEq, Prod.mk.injEq] at he
          obtain ⟨rfl, rfl⟩ := he
          rw [Bool.and_eq_true] at e3
          have ub := isByteT_spec T e3.1
          cases hv with
          | str _ b hb =>
          have hlen : len s 0 = b.size := by rw [len_eq, ← hb, Array.length_toList]; rfl
          obtain ⟨cap, w', hcap, hrun, hal⟩ := stringToBytes_run (P := P) b e w
          rw [hlen]
          have hsz : ((b.data.map fun x : UInt8 => Value.int IntKind.u8 x.toNat) ++ Array.replicate (cap - b.size) (Value.int .u8 0)).size = cap := by
            rw [Array.size_append, Array.size_map, Array.size_replicate]
            have : b.data.size = b.size := rfl
            omega
          refine .made _ w' _ _ cap ?_ (.opn _ _ _ _ _ 0 cap cap 0 (Mu.add_same _ _ _) (by omega) (by omega) hcap (.inl rfl)) hal fun hn => ?_
          · have hconv : (convert src dst (.string b)).run P w = (Conv.stringToBytes e b).run P w := by
              simp only [convert, Sem.run_bind, run_underlying' w u1, run_underlying' w u2, Result.andThen_ok]
              cases d1 <;> simp [run_underlying' w ub]
            rw [hconv]; exact hrun
          · refine ⟨w.heap.size, 0, cap, _, e, (cap, cap + 1), Mu.add_same _ _ _, by rw [hal.heap]; exact wnew_new _ _, hsz, ?_, fun i a hi _ => ?_, fun _ i _ q1 q2 => by simp only at q2; omega⟩
            · rw [List.length_map, ← hb, Array.length_toList]; have : b.data.size = b.size := rfl; omega
            · rw [← hb, List.getElem?_map] at hi
              cases hq : b.data.toList[i]? with
              | none => rw [hq] at hi; cases hi
              | some y =>
                rw [hq] at hi; simp only [Option.map_some, Option.some.injEq] at hi; subst hi
                refine ⟨.int .u8 y.toNat, ?_, .int _ _, rfl⟩
                have hi' : i < b.data.size := by have := (List.getElem?_eq_some_iff.1 hq).1; simpa using this
                rw [Nat.zero_add, Array.getElem?_append_left (by simpa using hi'), Array.getElem?_map]
                rw [Array.getElem?_toList] at hq; rw [hq]; rfl
      · rename_i x _ _ _ e h1 h2 hne
        simp only [Option.some.injEq] at h1 h2; subst h1; subst h2
        cases e3 : isByteT c e with
        | false => rw [e3] at he; cases he
        | true =>
          rw [e3] at he; simp only [cond_true] at he
          have ub := isByteT_spec T e3
          cases e4 : lenE x with
          | none => rw [e4] at he; cases he
          | some n =>
            rw [e4] at he; simp only [] at he
            cases e5 : firstE h 1 n x with
            | none => rw [e5] at he; cases he
            | some cs =>
              rw [e5] at he; simp only [] at he
              cases e6 : allM toByte cs with
              | none => rw [e6] at he; cases he
              | some bs =>
                rw [e6] at he; simp only [Option.some.injEq, Prod.mk.injEq] at he
                obtain ⟨rfl, rfl⟩ := he
                obtain ⟨vs, f1, f2, f3, f4⟩ := first_sound M e5 hv hV ⟨n, e4, Nat.le_refl _⟩
                replace f1 := f1 w rfl
                obtain ⟨ns, n1, n2⟩ := bytes_back e6 f2
                have hconv : (convert src dst v).run P w = (Conv.bytesToString v).run P w := by
                  simp only [convert, Sem.run_bind, run_underlying' w u1, run_underlying' w u2, Result.andThen_ok]
                  cases hv <;> first | (simp [lenE] at e4; done) | (exact absurd rfl (hne _)) | simp [run_underlying' w ub]
                have hl := lenE_run (P := P) e4 hv w
                cases hv <;> first | (simp [lenE] at e4; done) | (exact absurd rfl (hne _)) | skip
                · simp only [Builtin.lenOf, Sem.run_pure, Result.ok.injEq, and_true] at hl
                  subst hl
                  simp only [Builtin.firstCells, Nat.mul_one] at f1
                  refine .pure (.string _) w (by rw [hconv]; exact run_bytesToString w _ _ _ ns (by rw [f1, n1])) (.str _ _ (by rw [foldl_push, n2]; rfl)) (Alike.refl _)
                · simp only [Builtin.lenOf, Sem.run_pure, Result.ok.injEq, and_true] at hl
                  subst hl
                  simp only [Builtin.firstCells, Nat.mul_one] at f1
                  refine .pure (.string _) w (by rw [hconv]; exact run_bytesToString w _ _ _ ns (by rw [f1, n1])) (.str _ _ (by rw [foldl_push, n2]; rfl)) (Alike.refl _)
                · simp only [lenE, Option.some.injEq] at e4; subst e4
                  simp only [firstE, Option.some.injEq] at e5; subst e5
                  simp only [allM, Option.some.injEq] at e6; subst e6
                  exact .pure (.string .empty) w (by rw [hconv]; simp [Conv.bytesToString]) (.str _ _ rfl) (Alike.refl _)
      · cases he
end Go.E
/-! E, soundness, part 15: ranges over strings, assertions, lengths, methods, checks for nil. -/
namespace Go.E
open Go.Maps Go.MapKept
variable {c : Cfg} {P : Program} {V : View} {μ : Mu} {h : Heap} {w : World}

theorem range_gives (T : TyOK c P) {t : TypeId} {b : List UInt8} {v : Value} (hu : und c t = some .string) (hv : VR μ (.str b) v) : GivesR c P μ h w (Instr.range t v) (.ptr h.size 0) (h.new (.iter b 0)) := by
  cases hv with
  | str _ s hb =>
  refine .made (.pointer (some ⟨w.heap.size, 0, none⟩)) (wnew w (.stringIter s 0)) _ (.stringIter s 0) 0 ?_ ?_ (Alike.refl _) fun hn => ⟨w.heap.size, 0, s, Mu.add_same _ _ _, wnew_new _ _, hb⟩
  · simp [Instr.range, run_underlying' w (T.und hu), wnew]
  · have := VR.ptr (μ := μ.add h.size (w.heap.size, 0, 0)) h.size 0 w.heap.size 0 0 (Mu.add_same _ _ _)
    simpa using this

theorem run_getObj_iter {w : World} {r : Nat} {s : ByteArray} {pos : Nat} (hb : w.heap[r]? = some (.stringIter s pos)) : (getObj r).run P w = .ok (.stringIter s pos) w := by
  simp [getObj, Sem.run, hb]
theorem run_setObj_iter {w : World} {r : Nat} {s : ByteArray} {pos : Nat} (o : Obj) (hb : w.heap[r]? = some (.stringIter s pos)) : (setObj r o).run P w = .ok () { w with heap := w.heap.setIfInBounds r o } := by
  simp [setObj, Sem.run, hb]
theorem next_sound (M : Models c P All μ h w) {r : Nat} {b : List UInt8} {pos : Nat} {v : Value} (ty : TypeId) (e : h.get r = .iter b pos) (hv : VR μ (.ptr r 0) v) :
    (nth pos b = none → Gives c P μ h w (Instr.next v true ty) (.tup [.bool false]) h) ∧
    (∀ x, nth pos b = some x → x.toNat < 128 → Gives c P μ h w (Instr.next v true ty) (.tup [.bool true, .int .i64 pos, .int .i32 x.toNat]) (h.put r 0 whole (.iter b (pos + 1)))) := by
  cases hv with
  | ptr _ _ bl base N hm =>
  have hrow := M.row r (vis_all r)
  rw [e] at hrow
  obtain ⟨bl', N', s, hm', hb, hs⟩ := hrow
  rw [hm] at hm'; simp only [Option.some.injEq, Prod.mk.injEq] at hm'
  obtain ⟨rfl, rfl, rfl⟩ := hm'
  have hsz : s.size = b.length := by rw [← hs, Array.length_toList]; rfl
  constructor
  · intro hn
    rw [nth_eq] at hn
    have hp : ¬ pos < s.size := by rw [hsz]; have := List.getElem?_eq_none_iff.1 hn; omega
    refine ⟨μ, w, .tuple #[.bool false], ?_, .tup _ _ (.cons (.bool _) .nil), M, Goes.refl _ _ _⟩
    simp [Instr.next, run_getObj_iter hb, hp]
  · intro x hx hlt
    rw [nth_eq] at hx
    have hpos : pos < s.size := by rw [hsz]; exact (List.getElem?_eq_some_iff.1 hx).1
    have hlt' : bl < w.heap.size := (Array.getElem?_eq_some_iff.1 hb).1
    have hget : s.get! pos = x := by
      rw [← hs, Array.getElem?_toList] at hx
      have h1 : pos < s.data.size := hpos
      rw [Array.getElem?_eq_getElem h1] at hx
      simp only [Option.some.injEq] at hx
      show s.data[pos]! = x
      rw [getElem!_pos s.data pos h1]; exact hx
    have hdec : Utf8.decode s pos = (x.toNat, 1) := by
      unfold Utf8.decode
      simp only [Nat.add_zero, hget]
      rw [if_pos (by omega)]
    obtain ⟨r1, r2⟩ := M.put (w' := { w with heap := w.heap.setIfInBounds bl (.stringIter s (pos + 1)) }) r 0 whole (.iter b (pos + 1)) bl 0 N hm (by rw [e]; trivial) (.stringIter s (pos + 1)) (by simp) rfl rfl rfl
      (fun y hy => by simp [Ne.symm hy]) (by simp [hlt']) ⟨bl, N, s, hm, by simp [hlt'], hs⟩ (fun i hi => absurd ⟨rfl, Nat.zero_le _, .inl (Nat.le_refl _)⟩ hi)
    refine ⟨μ, _, .tuple #[.bool true, goInt pos, .int .i32 x.toNat], ?_, .tup _ _ (.cons (.bool _) (.cons (.int _ _) (.cons (.int _ _) .nil))), r1, r2⟩
    simp [Instr.next, run_getObj_iter hb, hpos, hdec, run_setObj_iter _ hb]

theorem assert_sound (T : TyOK c P) {as xt : TypeId} {ok : Bool} {x r : AV} {v : Value} (he : assertE c as ok x = some r) (hv : VR μ x v) (w : World) : ∃ u, (Instr.typeAssert v xt as ok).run P w = .ok u w ∧ VR μ r u := by
  unfold assertE at he
  cases e : und c as with
  | none => rw [e] at he; cases he
  | some d =>
    rw [e] at he
    have hu := T.und e
    by_cases hi : ∃ ms, d = .interface ms
    · obtain ⟨ms, rfl⟩ := hi; cases he
    · have fails : (zeroE c as).map (fun z => AV.tup [z, .bool false]) = some r → ok = true → ∃ u, (do pure (.tuple #[← zeroValue as, .bool false]) : Sem Value).run P w = .ok u w ∧ VR μ r u := by
        intro hz hok
        cases e2 : zeroE c as with
        | none => rw [e2] at hz; cases hz
        | some z =>
          rw [e2] at hz; simp only [Option.map_some, Option.some.injEq] at hz; subst hz
          obtain ⟨u, u1, u2⟩ := zeroE_spec T μ e2 w
          exact ⟨.tuple #[u, .bool false], by simp [u1], .tup _ _ (.cons u2 (.cons (.bool _) .nil))⟩
      cases x <;> first | (cases d <;> (cases he; done)) | skip
      case nili =>
        cases hv
        have he' : (bif ok then (zeroE c as).map (fun z => AV.tup [z, .bool false]) else none) = some r := by
          cases d <;> first | exact he | exact absurd ⟨_, rfl⟩ hi
        cases ok with
        | false => cases he'
        | true =>
          obtain ⟨u, u1, u2⟩ := fails he' rfl
          refine ⟨u, ?_, u2⟩
          simp only [Instr.typeAssert, Sem.run_bind, run_underlying' w hu, Result.andThen_ok]
          cases d <;> first | exact absurd ⟨_, rfl⟩ hi | simpa using u1
      case iface t a =>
        cases hv with
        | iface _ _ va hva =>
        have he' : (bif Nat.beq t as then some (bif ok then .tup [a, .bool true] else a) else bif ok then (zeroE c as).map (fun z => AV.tup [z, .bool false]) else none) = some r := by
          cases d <;> first | exact he | exact absurd ⟨_, rfl⟩ hi
        cases e3 : Nat.beq t as with
        | true =>
          have := Nat.eq_of_beq_eq_true e3; subst this
          rw [e3] at he'; simp only [cond_true, Option.some.injEq] at he'; subst he'
          refine ⟨if ok then .tuple #[va, .bool true] else va, ?_, ?_⟩
          · simp only [Instr.typeAssert, Sem.run_bind, run_underlying' w hu, Result.andThen_ok]
            cases d <;> first | exact absurd ⟨_, rfl⟩ hi | simp
          · cases ok with
            | true => exact .tup _ _ (.cons hva (.cons (.bool _) .nil))
            | false => exact hva
        | false =>
          have hne : t ≠ as := fun q => by subst q; rw [Nat.beq_refl] at e3; cases e3
          rw [e3] at he'; simp only [cond_false] at he'
          cases ok with
          | false => cases he'
          | true =>
            obtain ⟨u, u1, u2⟩ := fails he' rfl
            refine ⟨u, ?_, u2⟩
            simp only [Instr.typeAssert, Sem.run_bind, run_underlying' w hu, Result.andThen_ok]
            cases d <;> first | exact absurd ⟨_, rfl⟩ hi | simpa [hne] using u1

theorem min2_sound {a b r : AV} {x y : Value} (he : E.min2 a b = some r) (h1 : VR μ a x) (h2 : VR μ b y) (w : World) : ∃ u, (Builtin.min2 x y).run P w = .ok u w ∧ VR μ r u := by
  unfold E.min2 at he
  split at he
  · cases h1; cases h2
    rename_i k m k' n
    cases e : kindEq k k' with
    | false => rw [e] at he; cases he
    | true =>
      rw [e] at he; simp only [cond_true, Option.some.injEq] at he; subst he
      refine ⟨_, rfl, ?_⟩
      have : (bif ltF n m then n else m) = if n < m then n else m := by
        by_cases hh : n < m
        · rw [if_pos hh, (ltF_iff _ _).2 hh]; rfl
        · rw [if_neg hh]
          cases hb : ltF n m with
          | false => rfl
          | true => exact absurd ((ltF_iff _ _).1 hb) hh
      rw [this]; exact .int _ _
  · cases he
theorem max2_sound {a b r : AV} {x y : Value} (he : E.max2 a b = some r) (h1 : VR μ a x) (h2 : VR μ b y) (w : World) : ∃ u, (Builtin.max2 x y).run P w = .ok u w ∧ VR μ r u := by
  unfold E.max2 at he
  split at he
  · cases h1; cases h2
    rename_i k m k' n
    cases e : kindEq k k' with
    | false => rw [e] at he; cases he
    | true =>
      rw [e] at he; simp only [cond_true, Option.some.injEq] at he; subst he
      refine ⟨_, rfl, ?_⟩
      have : (bif ltF m n then n else m) = if n > m then n else m := by
        by_cases hh : m < n
        · rw [if_pos hh, (ltF_iff _ _).2 hh]; rfl
        · rw [if_neg hh]
          cases hb : ltF m n with
          | false => rfl
          | true => exact absurd ((ltF_iff _ _).1 hb) hh
      rw [this]; exact .int _ _
  · cases he
theorem fold_sound {f : AV → AV → Option AV} {g : Value → Value → Sem Value} (hf : ∀ {a b r : AV} {x y : Value}, f a b = some r → VR μ a x → VR μ b y → ∃ u, (g x y).run P w = .ok u w ∧ VR μ r u) :
    ∀ {l : List AV} {vs : List Value} {a r : AV} {v : Value}, foldE f a l = some r → VR μ a v → VL μ l vs → ∃ u, (vs.foldlM g v).run P w = .ok u w ∧ VR μ r u := by
  intro l
  induction l with
  | nil => intro vs a r v he hv hl; cases hl; simp [foldE] at he; subst he; exact ⟨v, by simp, hv⟩
  | cons b l ih =>
    intro vs a r v he hv hl
    cases hl with
    | cons q1 q2 =>
    simp only [foldE] at he
    cases e : f a b with
    | none => rw [e] at he; cases he
    | some x =>
      rw [e] at he
      obtain ⟨u, u1, u2⟩ := hf e hv q1
      obtain ⟨u', p1, p2⟩ := ih he u2 q2
      exact ⟨u', by simp [List.foldlM_cons, u1, p1], p2⟩

/-! ### methods -/
theorem wrap_run (w : World) (ts : Array TypeId) (t : TypeId) (a : Addr) (s s' : ByteArray) : (Builtin.ssaWrapNilChk_ ts t #[.pointer (some a), .string s, .string s']).run P w = .ok (.pointer (some a)) w := rfl
theorem methodRow_spec (T : TyOK c P) {t : TypeId} {name : String} {f : FuncId} {p : Bool} (h : methodRow c t name = some (f, p)) :
    ∃ i m, P.info? t = some i ∧ i.methods.find? (·.name == name) = some m ∧ m.path.toList = [] ∧ m.path.isEmpty = true ∧ m.func = some (f, p) := by
  unfold methodRow at h
  cases e : c.info t with
  | none => rw [e] at h; cases h
  | some i =>
    rw [e] at h; simp only [] at h
    cases e2 : i.methods.find? (·.name == name) with
    | none => rw [e2] at h; cases h
    | some m =>
      rw [e2] at h; simp only [] at h
      cases e3 : m.path.isEmpty with
      | false => rw [e3] at h; cases h
      | true =>
        rw [e3] at h; simp only [cond_true] at h
        exact ⟨i, m, T.info _ _ e, e2, by simpa using e3, e3, h⟩
theorem method_sound (T : TyOK c P) (M : Models c P All μ h w) {t : TypeId} {a : AV} {v : Value} {name : String} {f : FuncId} {r : AV} (he : methodE c t a name h = some (f, r)) (hv : VR μ a v) (n : Nat) :
    ∃ u, (method (n + 1) t v name).run P w = .ok (f, u) w ∧ VR μ r u := by
  unfold methodE at he
  cases e1 : methodRow c t name with
  | none => rw [e1] at he; simp at he
  | some p =>
    obtain ⟨g, pr⟩ := p
    obtain ⟨i, m, m1, m2, m3, m4, m5⟩ := methodRow_spec T e1
    cases e2 : und c t with
    | none => rw [e1, e2] at he; cases pr <;> simp at he
    | some d =>
      rw [e1, e2] at he
      have hu := T.und e2
      have start : (method (n + 1) t v name).run P w = ((receiverAt t (.val v) pr (some ((name.splitOn ".").getLastD name))).run P w).andThen fun x w => .ok (g, x) w := by
        simp only [method, Sem.run_bind, run_typeInfo' w m1, Result.andThen_ok, m2, m3, follow, Sem.run_pure, m5, m4, if_true]
      rw [start]
      cases pr with
      | true =>
        cases d <;> first | (simp at he; done) | skip
        simp only [Option.some.injEq, Prod.mk.injEq] at he
        obtain ⟨rfl, rfl⟩ := he
        exact ⟨v, by simp [receiverAt, run_underlying' w hu, Place.get], hv⟩
      | false =>
        by_cases hp : ∃ el, d = .pointer el
        · obtain ⟨el, rfl⟩ := hp
          simp only [] at he
          cases a <;> first | (simp only [] at he; cases he; done) | skip
          rename_i rr off
          simp only [] at he
          cases e3 : loadE c el h rr off with
          | none => rw [e3] at he; cases he
          | some x =>
            rw [e3] at he; simp only [Option.some.injEq, Prod.mk.injEq] at he
            obtain ⟨rfl, rfl⟩ := he
            cases hv with
            | ptr _ _ b base N hm =>
            obtain ⟨u, u1, u2⟩ := load_sound T M e3 (fun n _ => Seen.all _ _ _) hm
            exact ⟨u, by simp [receiverAt, run_underlying' w hu, Place.get, wrap_run, strVal, asAddr, u1], u2⟩
        · have he' : some (g, a) = some (f, r) := by
            cases d <;> first | exact he | exact absurd ⟨_, rfl⟩ hp
          simp only [Option.some.injEq, Prod.mk.injEq] at he'
          obtain ⟨rfl, rfl⟩ := he'
          refine ⟨v, ?_, hv⟩
          cases d <;> first | exact absurd ⟨_, rfl⟩ hp | simp [receiverAt, run_underlying' w hu, Place.get]
theorem nilAhead_sound (T : TyOK c P) {t : TypeId} {a : AV} {v : Value} {name : String} {f : FuncId} {p : Bool} (h1 : methodRow c t name = some (f, p)) (h2 : p = true ∨ ∃ d, und c t = some d ∧ ((∀ el, d ≠ .pointer el) ∨ ∃ r o, a = .ptr r o)) (hv : VR μ a v) (n : Nat) (w : World) :
    (nilAhead (n + 1) t v name).run P w = .ok (some false) w := by
  obtain ⟨i, m, m1, m2, m3, m4, m5⟩ := methodRow_spec T h1
  cases p with
  | true => simp [nilAhead, run_typeInfo' w m1, m2, m3, followBlind, m5]
  | false =>
    rcases h2 with h2 | ⟨d, h2, h3⟩
    · cases h2
    · have hu := T.und h2
      simp only [nilAhead, Sem.run_bind, run_typeInfo' w m1, Result.andThen_ok, m2, m3, followBlind, Sem.run_pure, m5, run_underlying' w hu]
      rcases h3 with h3 | ⟨r, o, rfl⟩
      · cases d <;> first | exact absurd rfl (h3 _) | simp
      · cases hv; cases d <;> simp
end Go.E
/-! E, soundness, part 16: append, copy, clear. -/
namespace Go.E
variable {c : Cfg} {P : Program} {V : View} {μ : Mu} {h : Heap} {w : World}

/-- what is appended -/
def appendedS (elem : TypeId) (size n : Nat) (zeros : Bool) (x : Value) : Sem (Array Value) :=
  if !zeros then Builtin.firstCells size n x
  else if n * size = 0 then pure #[]
  else do pure (Builtin.zeroCells (← zeroValue elem).cells n)
/-- what append does once it knows how much it appends -/
def appCore (elem : TypeId) (size sLen sCap n : Nat) (base : Option Addr) (zeros : Bool) (s x : Value) : Sem Value := do
  let need := sLen + n
  if need ≤ sCap then
    let new ← appendedS elem size n zeros x
    if let some a := base then storeCells (a.add (sLen * size)) new.toList
    pure (.slice base need sCap)
  else
    if (need : Int) > IntKind.i64.max ∧ (zeros ∨ (← typeInfo elem).bytes = 0) then runtimePanic (.error "growslice: len out of range")
    if Builtin.nextslicecap need sCap * (← typeInfo elem).bytes > 2 ^ 48 then (if zeros then runtimePanic (.error "growslice: len out of range") else do
      if !(← Builtin.mayShare size sLen n base x) then mark .noRoom
      unsupported (.resourceLimit "append: a slice or a string whose bytes no memory bears"))
    let newCap ← choose (.appendCap need sCap elem)
    askRoom (newCap * (← typeInfo elem).bytes)
    let old ← Builtin.firstCells size sLen s
    let new ← appendedS elem size n zeros x
    let rest := Builtin.zeroCells (← zeroValue elem).cells (newCap - need)
    pure (.slice (some (← newRow elem (old ++ new ++ rest))) need newCap)

theorem two_get (a b : Value) : (#[a, b] : Array Value)[0]? = some a ∧ (#[a, b] : Array Value)[1]? = some b := ⟨rfl, rfl⟩
theorem append_plain {ts : Array TypeId} {ty t t' e : TypeId} {d : TypeDesc} {i : TypeInfo} (h0 : ts[0]? = some t) (h1 : ts[1]? = some t') (hu : P.underlying t = some (.slice e)) (hd : P.underlying t' = some d) (hnd : ∀ k, d ≠ .int k)
    (hi : P.info? e = some i) (base : Option Addr) (sLen sCap n : Nat) (x : Value) (w : World) (hl : (Builtin.lenOf x).run P w = .ok n w) :
    (Builtin.append_ ts ty #[.slice base sLen sCap, x]).run P w = (appCore e i.size sLen sCap n base false (.slice base sLen sCap) x).run P w := by
  simp only [Builtin.append_, h0, h1, Sem.run_bind, run_underlying' w hu, run_underlying' w hd, Result.andThen_ok, run_sizeOf' w hi, Sem.run_pure, (two_get _ _).1, (two_get _ _).2]
  cases d <;> first
    | exact absurd rfl (hnd _)
    | (rw [if_neg (by decide : ¬ (false = true))]; simp only [Sem.run_bind, hl, Result.andThen_ok]; rfl)
theorem append_zeros {ts : Array TypeId} {ty t t' e : TypeId} {d : TypeDesc} {k : IntKind} {i : TypeInfo} (h0 : ts[0]? = some t) (h1 : ts[1]? = some t') (hu : P.underlying t = some (.slice e)) (hd : P.underlying t' = some d) (hdk : d = .int k)
    (hi : P.info? e = some i) (base : Option Addr) (sLen sCap n : Nat) (j : IntKind) (w : World) (hn : n ≤ lim) (hb : n * (i.bytes + 1) ≤ lim) :
    (Builtin.append_ ts ty #[.slice base sLen sCap, .int j n]).run P w = (appCore e i.size sLen sCap n base true (.slice base sLen sCap) (.int j n)).run P w := by
  have hw := wrap_small hn
  have h1' : ¬ ((n : Int) < 0) := by omega
  have h2' : ¬ ((n : Int) * (i.bytes : Int) > 2 ^ 48) := by
    have e1 : ((n : Int) * (i.bytes : Int)) = ((n * i.bytes : Nat) : Int) := by simp
    rw [e1]; rw [Nat.mul_succ] at hb; simp only [lim] at hb; omega
  simp only [Builtin.append_, h0, h1, Sem.run_bind, run_underlying' w hu, run_underlying' w hd, Result.andThen_ok, run_sizeOf' w hi, Sem.run_pure, (two_get _ _).1, (two_get _ _).2]
  subst hdk
  rw [if_pos (by decide : true = true)]
  have ha : (asInt (.int j (n : Int))).run P w = .ok (n : Int) w := by simp [asInt, asIntOf]
  rw [Sem.run_bind, ha, Result.andThen_ok, hw, if_neg h1', Sem.run_bind, run_typeInfo' w hi, Result.andThen_ok, if_neg h2', Sem.run_bind, Sem.run_pure, Result.andThen_ok, Int.toNat_natCast]
  rfl

theorem appCore_in {e : TypeId} {size sLen sCap n : Nat} {base : Option Addr} {zeros : Bool} {s x : Value} {w w' : World} {vs : List Value} (hr : sLen + n ≤ sCap) (hA : (appendedS e size n zeros x).run P w = .ok vs.toArray w)
    (hs : (match base with | some a => storeCells (a.add (sLen * size)) vs | none => (pure () : Sem Unit)).run P w = .ok () w') : (appCore e size sLen sCap n base zeros s x).run P w = .ok (.slice base (sLen + n) sCap) w' := by
  unfold appCore
  simp only []
  rw [if_pos hr, Sem.run_bind, hA, Result.andThen_ok]
  cases base with
  | none => simp only [Sem.run_pure, Result.ok.injEq, true_and] at hs; subst hs; rfl
  | some a => simp only [] at hs; simp only [Sem.run_bind, hs, Result.andThen_ok, Sem.run_pure]
theorem appCore_grow {e : TypeId} {i : TypeInfo} {sLen sCap n : Nat} {base : Option Addr} {zeros : Bool} {s x : Value} {w : World} {vs os : List Value} {z : Value} (hi : P.info? e = some i) (hr : sCap < sLen + n)
    (hb : (sLen + n) * (i.bytes + 1) ≤ lim) (hz : ∀ w : World, (zeroValue e).run P w = .ok z w) (hzs : z.cells.size = i.size)
    (hA : ∀ w1 : World, w1.heap = w.heap → (appendedS e i.size n zeros x).run P w1 = .ok vs.toArray w1) (hO : ∀ w1 : World, w1.heap = w.heap → (Builtin.firstCells i.size sLen s).run P w1 = .ok os.toArray w1) :
    ∃ cap w' rest, (appCore e i.size sLen sCap n base zeros s x).run P w = .ok (.slice (some ⟨w.heap.size, 0, none⟩) (sLen + n) cap) w' ∧ sLen + n ≤ cap ∧
      Alike (wnew w (.cells ((os ++ vs) ++ rest).toArray e)) w' ∧ rest.length = (cap - (sLen + n)) * i.size := by
  have hn : ¬ (sLen + n ≤ sCap) := by omega
  have hle : sLen + n ≤ lim := by
    have : (sLen + n) * 1 ≤ (sLen + n) * (i.bytes + 1) := Nat.mul_le_mul_left _ (by omega)
    omega
  have h63 : ¬ (((sLen + n : Nat) : Int) > IntKind.i64.max ∧ (zeros = true ∨ i.bytes = 0)) := by
    intro hh
    have := hh.1
    simp only [lim] at hle
    have hmx : IntKind.i64.max = 9223372036854775807 := by decide
    omega
  have hfit : ¬ (Builtin.nextslicecap (sLen + n) sCap * i.bytes > 2 ^ 48) := by
    have := growslice_fits (need := sLen + n) (old := sCap) (bytes := i.bytes) (by omega) (by rw [Nat.mul_succ] at hb; simp only [lim] at hb; omega)
    omega
  refine ⟨(Question.appendCap (sLen + n) sCap e).cut (w.tape w.drawn (.appendCap (sLen + n) sCap e)), { ({ w with drawn := w.drawn + 1 } : World) with heap := w.heap.push (.cells (os.toArray ++ vs.toArray ++ Builtin.zeroCells z.cells ((Question.appendCap (sLen + n) sCap e).cut (w.tape w.drawn (.appendCap (sLen + n) sCap e)) - (sLen + n))) e) }, (Builtin.zeroCells z.cells ((Question.appendCap (sLen + n) sCap e).cut (w.tape w.drawn (.appendCap (sLen + n) sCap e)) - (sLen + n))).toList, ?_, ?_, ?_, ?_⟩
  · unfold appCore
    simp only []
    have hch : (choose (.appendCap (sLen + n) sCap e)).run P w = .ok ((Question.appendCap (sLen + n) sCap e).cut (w.tape w.drawn (.appendCap (sLen + n) sCap e))) { w with drawn := w.drawn + 1 } := by
      simp [choose, Sem.run, Question.forced]
    rw [if_neg hn, Sem.run_bind, run_typeInfo' w hi, Result.andThen_ok, if_neg h63, Sem.run_bind, run_typeInfo' w hi, Result.andThen_ok, if_neg hfit, Sem.run_bind, hch, Result.andThen_ok, Sem.run_bind, run_typeInfo' _ hi, Result.andThen_ok,
      Sem.run_bind, run_askRoom, Result.andThen_ok, Sem.run_bind, hO { w with drawn := w.drawn + 1 } rfl, Result.andThen_ok, Sem.run_bind, hA { w with drawn := w.drawn + 1 } rfl, Result.andThen_ok, Sem.run_bind, hz, Result.andThen_ok]
    simp only [newRow, Sem.run_bind, run_newObj, Sem.run_pure, Result.andThen_ok]
  · simp [Question.cut]
  · have ha : ∀ q : Array Value, os.toArray ++ vs.toArray ++ q = ((os ++ vs) ++ q.toList).toArray := fun q => by apply Array.ext'; simp
    rw [ha]
    exact ⟨rfl, rfl, rfl, rfl⟩
  · rw [Array.length_toList, Builtin.zeroCells, Array.size_map, Array.size_range, hzs]
theorem zeroValue_any {e : TypeId} {v : Value} {w : World} (h : (zeroValue e).run P w = .ok v w) (w1 : World) : (zeroValue e).run P w1 = .ok v w1 := by
  unfold zeroValue at h ⊢
  simp only [Sem.run_bind, typeInfo, run_program, Result.andThen_ok] at h ⊢
  cases hi : P.info? e with
  | none => rw [hi] at h; simp [stuck, Result.andThen] at h
  | some i =>
    rw [hi] at h
    simp only [Sem.run_pure, Result.andThen_ok] at h
    simp only [Sem.run_pure, Result.andThen_ok]
    cases hz : i.zero with
    | none => rw [hz] at h; simp [unsupported] at h
    | some z => rw [hz] at h; simp only [Sem.run_pure, Result.ok.injEq, and_true] at h ⊢; exact h
/-- what is appended, and how much -/
theorem newsE_spec (T : TyOK c P) (M : Models c P All μ h w) {ts : Array TypeId} {ty t t' e : TypeId} {i : TypeInfo} {x : AV} {v : Value} {n : Nat} {new : List AV} (h0 : ts[0]? = some t) (h1 : ts[1]? = some t') (hu : P.underlying t = some (.slice e)) (hi : P.info? e = some i)
    (hn : newsE c t' e i.size i.bytes h x = some (n, new)) (hv : VR μ x v) :
    ∃ zeros vs, new.length = n * i.size ∧ VL μ new vs ∧ (∀ y ∈ vs, flatV y = true) ∧ (∀ w1 : World, w1.heap = w.heap → (appendedS e i.size n zeros v).run P w1 = .ok vs.toArray w1) ∧
      (∀ base sLen sCap, (Builtin.append_ ts ty #[.slice base sLen sCap, v]).run P w = (appCore e i.size sLen sCap n base zeros (.slice base sLen sCap) v).run P w) := by
  unfold newsE at hn
  split at hn
  · rename_i k m
    cases hv
    cases e1 : und c t' with
    | none => rw [e1] at hn; cases hn
    | some d =>
      rw [e1] at hn
      cases d <;> first | (cases hn; done) | skip
      rename_i kd
      cases e2 : natF m with
      | none => rw [e2] at hn; cases hn
      | some n' =>
        rw [e2] at hn; simp only [] at hn
        cases e3 : Nat.ble (n' * (i.bytes + 1)) lim with
        | false => rw [e3] at hn; cases hn
        | true =>
          rw [e3] at hn; simp only [cond_true] at hn
          cases e4 : zerosE c e n' with
          | none => rw [e4] at hn; cases hn
          | some zs =>
            rw [e4] at hn; simp only [Option.map_some, Option.some.injEq, Prod.mk.injEq] at hn
            obtain ⟨rfl, rfl⟩ := hn
            have q2 := natF_eq e2; subst q2
            have spec : ∀ w1 : World, ∃ z : Array Value, (if n' * i.size = 0 then (Pure.pure #[] : Sem (Array Value)) else do pure (← zeroValue e).cells).run P w1 = .ok z w1 ∧
                VL μ zs ((Array.range (n' * i.size)).map fun j => z[j % z.size]!).toList ∧ (∀ v ∈ ((Array.range (n' * i.size)).map fun j => z[j % z.size]!).toList, flatV v = true) ∧ zs.length = n' * i.size := fun w1 => zerosE_spec T μ e4 hi w1
            obtain ⟨z, z1, z2, z3, z4⟩ := spec w
            refine ⟨true, _, z4, z2, z3, fun w1 _ => ?_, fun base sLen sCap => append_zeros h0 h1 hu (T.und e1) rfl hi base sLen sCap n' k w ?_ (Nat.le_of_ble_eq_true e3)⟩
            · simp only [appendedS, Bool.not_true, Bool.false_eq_true, if_false]
              by_cases hz : n' * i.size = 0
              · rw [if_pos hz] at z1 ⊢
                simp [hz]
              · rw [if_neg hz] at z1 ⊢
                simp only [Sem.run_bind] at z1 ⊢
                cases hq : (zeroValue e).run P w with
                | halt q w' => rw [hq] at z1; simp [Result.andThen] at z1
                | ok q w' =>
                  rw [hq] at z1
                  simp only [Result.andThen_ok, Sem.run_pure, Result.ok.injEq] at z1
                  obtain ⟨rfl, hw'⟩ := z1
                  rw [hw'] at hq
                  rw [zeroValue_any hq w1, Result.andThen_ok, Sem.run_pure]
                  have hqs : q.cells.size = i.size := by
                    unfold zerosE at e4
                    split at e4
                    · simp at hz
                    · cases e5 : zeroCells c e with
                      | none => rw [e5] at e4; cases e4
                      | some zl =>
                        obtain ⟨v2, i2, r1, r2, r3, r4, r5, _⟩ := zeroCells_spec T μ e5 w
                        rw [hq] at r1; simp only [Result.ok.injEq, and_true] at r1; subst r1
                        rw [hi] at r4; simp only [Option.some.injEq] at r4; subst r4
                        have := r2.length; simp at this; omega
                  simp only [Builtin.zeroCells, hqs]
            · have := Nat.le_of_ble_eq_true e3
              have h2 : n' * 1 ≤ n' * (i.bytes + 1) := Nat.mul_le_mul_left _ (by omega)
              omega
  · cases e1 : und c t' with
    | none => rw [e1] at hn; cases hn
    | some d =>
      rw [e1] at hn
      by_cases hd : ∃ k, d = .int k
      · obtain ⟨k, rfl⟩ := hd; cases hn
      · have hn' : (match lenE x with | some n => (match firstE h i.size n x with | some l => bif Nat.beq (len l 0) (n * i.size) then some (n, l) else none | none => none) | none => none) = some (n, new) := by
          cases d <;> first | exact hn | exact absurd ⟨_, rfl⟩ hd
        cases e2 : lenE x with
        | none => rw [e2] at hn'; cases hn'
        | some n' =>
          rw [e2] at hn'; simp only [] at hn'
          cases e3 : firstE h i.size n' x with
          | none => rw [e3] at hn'; cases hn'
          | some l =>
            rw [e3] at hn'; simp only [] at hn'
            cases e4 : Nat.beq (len l 0) (n' * i.size) with
            | false => rw [e4] at hn'; cases hn'
            | true =>
              rw [e4] at hn'; simp only [cond_true, Option.some.injEq, Prod.mk.injEq] at hn'
              obtain ⟨rfl, rfl⟩ := hn'
              have hl := Nat.eq_of_beq_eq_true e4
              rw [len_eq] at hl
              obtain ⟨vs, f1, f2, f3, f4⟩ := first_sound M e3 hv (fun _ _ _ _ => trivial) ⟨n', e2, Nat.le_refl _⟩
              refine ⟨false, vs, by omega, f2, f3, fun w1 hw => ?_, fun base sLen sCap => append_plain h0 h1 hu (T.und e1) (fun k q => hd ⟨k, q⟩) hi base sLen sCap n' v w (lenE_run e2 hv w)⟩
              simp only [appendedS, Bool.not_false, if_true]
              exact f1 w1 hw
end Go.E
/-! E, soundness, part 17: append, copy, clear. -/
namespace Go.E
variable {c : Cfg} {P : Program} {V : View} {μ : Mu} {h : Heap} {w : World}

theorem fresh_spec {e : TypeId} {size bytes n : Nat} {cs : List AV} {r : AV} {h' : Heap} (hf : fresh c e size bytes n cs h = some (r, h')) :
    n * (bytes + 1) ≤ lim ∧ 0 < size ∧ (∃ z, zeroCells c e = some z) ∧ r = .opn h.size 0 n size ∧ h' = h.new (.cells false cs) := by
  unfold fresh at hf
  cases e1 : (Nat.ble (n * (bytes + 1)) lim && Nat.blt 0 size) with
  | false => rw [e1] at hf; cases hf
  | true =>
    rw [e1] at hf; simp only [cond_true] at hf
    rw [Bool.and_eq_true] at e1
    cases e2 : zeroCells c e with
    | none => rw [e2] at hf; cases hf
    | some z =>
      rw [e2] at hf; simp only [Heap.next_eq, Option.some.injEq, Prod.mk.injEq] at hf
      exact ⟨Nat.le_of_ble_eq_true e1.1, Nat.le_of_ble_eq_true e1.2, ⟨z, rfl⟩, hf.1.symm, hf.2.symm⟩

theorem grow_gives (T : TyOK c P) {e : TypeId} {i : TypeInfo} {k cap n : Nat} {base : Option Addr} {zeros : Bool} {sv xv : Value} {os vs : List Value} {old new : List AV} {r : AV} {h' : Heap} (hi : P.info? e = some i)
    (hf : fresh c e i.size i.bytes (k + n) (old ++ new) h = some (r, h')) (hr : cap < k + n) (ho : VL μ old os) (hv : VL μ new vs) (fo : ∀ v ∈ os, flatV v = true) (fv : ∀ v ∈ vs, flatV v = true)
    (lo : old.length = k * i.size) (ln : new.length = n * i.size)
    (hA : ∀ w1 : World, w1.heap = w.heap → (appendedS e i.size n zeros xv).run P w1 = .ok vs.toArray w1) (hO : ∀ w1 : World, w1.heap = w.heap → (Builtin.firstCells i.size k sv).run P w1 = .ok os.toArray w1)
    {S : Sem Value} (hS : S.run P w = (appCore e i.size k cap n base zeros sv xv).run P w) : GivesR c P μ h w S r h' := by
  obtain ⟨f1, f2, ⟨z, f3⟩, rfl, rfl⟩ := fresh_spec hf
  obtain ⟨zv, i', z1, z2, z3, z4, z5, _⟩ := zeroCells_spec T μ f3 w
  rw [hi] at z4; simp only [Option.some.injEq] at z4; subst z4
  have hzs : zv.cells.size = i.size := by have := z2.length; simp at this; omega
  obtain ⟨kap, w', rest, r1, r2, r3, r4⟩ := appCore_grow (P := P) (base := base) (zeros := zeros) (s := sv) (x := xv) (w := w) hi hr f1 (fun w1 => zeroValue_any z1 w1) hzs hA hO
  have l1 := ho.length
  have l2 := hv.length
  have hN : (os ++ vs).length + rest.length = kap * i.size := by
    rw [List.length_append, ← l1, ← l2, lo, ln, r4, ← Nat.add_mul, ← Nat.add_mul]
    congr 1; omega
  refine newRow_gives rest e (ho.append hv) (fun v hq => ?_) (hS.trans r1) r3 ?_
  · rcases List.mem_append.1 hq with hq | hq
    · exact fo v hq
    · exact fv v hq
  · exact .opn _ _ _ _ _ 0 _ kap 0 (Mu.add_same _ _ _) f2 (by rw [hN]; omega) r2 (.inl rfl)

theorem own_of_cells {r : Nat} {cs : List AV} (e : h.get r = .cells false cs) : (h.get r).own := by rw [e]; rfl
/-- a row is forgotten -/
theorem Models.kill (M : Models c P All μ h w) {r b base N : Nat} (hm : μ r = some (b, base, N)) (ho : (h.get r).own) : Models c P All μ (h.put r 0 whole .dead) w ∧ Goes μ h w μ (h.put r 0 whole .dead) w := by
  obtain ⟨o, hob⟩ : ∃ o, w.heap[b]? = some o := by
    have := M.size r _ hm
    exact ⟨w.heap[b]'this, Array.getElem?_eq_getElem this⟩
  exact M.put r 0 whole .dead b base N hm ho o rfl rfl rfl rfl (fun _ _ => rfl) hob trivial fun i hi => absurd ⟨rfl, Nat.zero_le _, .inl (Nat.le_refl _)⟩ hi
theorem Gives.trans {s : Sem Value} {a : AV} {h1 h2 : Heap} (M : Models c P All μ h w) (G : Gives c P μ h w s a h1) (k : ∀ μ' w', Models c P All μ' h1 w' → μ.le μ' → Models c P All μ' h2 w' ∧ Goes μ' h1 w' μ' h2 w') : Gives c P μ h w s a h2 := by
  obtain ⟨μ', w', v, g1, g2, g3, g4⟩ := G
  obtain ⟨k1, k2⟩ := k μ' w' g3 g4.le
  exact ⟨μ', w', v, g1, g2, k1, g4.trans M k2⟩

/-- a row goes on under another name -/
theorem rename_row (M : Models c P All μ h w) {w' : World} {r b base N d : Nat} {cs : List AV} (hm : μ r = some (b, base, N)) (ho : (h.get r).own)
    (hsz : w'.heap.size = w.heap.size) (hos : w'.os = w.os) (hou : w'.output = w.output) (hta : w'.tape = w.tape) (hw : ∀ x, x ≠ b → w'.heap[x]? = w.heap[x]?)
    (hx : RowR c P All (μ.add h.size (b, base + d, N)) w' h.size (.cells false cs)) :
    Models c P All (μ.add h.size (b, base + d, N)) ((h.new (.cells false cs)).put r 0 whole .dead) w' ∧
    Goes μ h w (μ.add h.size (b, base + d, N)) ((h.new (.cells false cs)).put r 0 whole .dead) w' := by
  have hnone := M.dom h.size (Nat.le_refl _)
  have hle : μ.le (μ.add h.size (b, base + d, N)) := Mu.le_add hnone
  have hne : ∀ s, s ≠ h.size → (μ.add h.size (b, base + d, N)) s = μ s := fun s hs => by simp [Mu.add, hs]
  have hlt : r < h.size := by
    rcases Nat.lt_or_ge r h.size with hl | hl
    · exact hl
    · rw [M.dead r hl] at ho; exact ho.elim
  have hbl : b < w.heap.size := M.size r _ hm
  have hnh : hidden r h.hide = false := by
    cases hh : hidden r h.hide with
    | false => rfl
    | true => rw [Heap.get_eq, if_pos hh] at ho; exact ho.elim
  have hg : ∀ s, ((h.new (.cells false cs)).put r 0 whole .dead).get s = if s = r then .dead else if s = h.size then .cells false cs else h.get s := by
    intro s
    rw [Heap.get_put, Heap.get_new, Heap.new_hide]
    by_cases hh : hidden s h.hide = true
    · have h1 := M.hid s hh
      rw [if_pos hh, if_neg (by intro e; rw [e, hnh] at hh; cases hh), if_neg (by omega), Heap.get_eq, if_pos hh]
    · rw [if_neg hh, if_neg hh]
      by_cases e1 : r = s
      · rw [if_pos e1, if_pos e1.symm]
      · rw [if_neg e1, if_neg (show ¬ s = r from fun q => e1 q.symm)]
        by_cases e2 : h.size = s
        · rw [if_pos e2, if_pos e2.symm]
        · rw [if_neg e2, if_neg (show ¬ s = h.size from fun q => e2 q.symm)]
  have hrow : ∀ s, s ≠ r → s ≠ h.size → RowR c P All (μ.add h.size (b, base + d, N)) w' s (h.get s) := by
    intro s h1 h2
    by_cases hl : (h.get s).live
    · refine (M.row s (vis_all s)).keep hle fun x hx => hw x fun ex => ?_
      refine M.apart r s (fun k => h1 k.symm) (vis_all _) (vis_all _) ho hl ?_
      rw [hx, ex]; simp [blk, hm]
    · have : h.get s = .dead := by cases hs : h.get s <;> first | rfl | (rw [hs] at hl; exact absurd trivial hl)
      rw [this]; trivial
  have hb1 : blk (μ.add h.size (b, base + d, N)) h.size = some b := by simp [blk, Mu.add_same]
  have hbs : ∀ s, s ≠ h.size → blk (μ.add h.size (b, base + d, N)) s = blk μ s := fun s hs => by unfold blk; rw [hne s hs]
  constructor
  · refine ⟨fun s _ => ?_, fun s t hst _ _ hso htl => ?_, fun s hs => ?_, fun s hs => ?_, fun s p hp => ?_, fun s hs => ?_, by simp; have := M.mark; omega⟩
    · rw [hg]
      by_cases e1 : s = r
      · rw [if_pos e1]; trivial
      · rw [if_neg e1]
        by_cases e2 : s = h.size
        · rw [if_pos e2, e2]; exact hx
        · rw [if_neg e2]; exact hrow s e1 e2
    · rw [hg] at hso htl
      by_cases es : s = r
      · rw [if_pos es] at hso; exact hso.elim
      · rw [if_neg es] at hso
        by_cases et : t = r
        · rw [if_pos et] at htl; exact htl.elim
        · rw [if_neg et] at htl
          by_cases es2 : s = h.size
          · have et2 : t ≠ h.size := fun q => hst (es2.trans q.symm)
            rw [if_neg et2] at htl
            rw [es2, hb1, hbs t et2]
            have := M.apart r t (fun q => et q.symm) (vis_all _) (vis_all _) ho htl
            rw [show blk μ r = some b from by simp [blk, hm]] at this; exact this
          · rw [if_neg es2] at hso
            by_cases et2 : t = h.size
            · rw [et2, hb1, hbs s es2]
              have := M.apart s r es (vis_all _) (vis_all _) hso (Row.own_live ho)
              rw [show blk μ r = some b from by simp [blk, hm]] at this; exact this
            · rw [if_neg et2] at htl
              rw [hbs s es2, hbs t et2]
              exact M.apart s t hst (vis_all _) (vis_all _) hso htl
    · simp at hs; rw [hne s (by omega)]; exact M.dom s (by omega)
    · simp at hs; rw [hg, if_neg (by omega), if_neg (by omega)]; exact M.dead s (by omega)
    · rw [hsz]
      by_cases e : s = h.size
      · subst e; rw [Mu.add_same] at hp; cases hp; exact hbl
      · rw [hne s e] at hp; exact M.size s p hp
    · simp at hs ⊢; have := M.hid s hs; omega
  · refine ⟨hle, by omega, hos, hou, hta, fun x hxl hn => hw x fun e => ?_, fun s x hn hx' => ?_, fun s hs hso => ?_, by simp, by simp, by simp, fun s ds hs => ?_, fun s hs => ?_, ?_, fun s hs hso => ?_, fun s hs hn => by rw [hne s (by omega)]; exact hn⟩
    · subst e; exact hn r ho (by simp [blk, hm])
    · by_cases e : s = h.size
      · subst e; rw [hb1] at hx'; simp only [Option.some.injEq] at hx'; subst hx'
        exact .inr ⟨r, ho, by simp [blk, hm]⟩
      · unfold blk at hx'; rw [hne s e, hn] at hx'; cases hx'
    · rw [hg] at hso
      by_cases e : s = r
      · rw [if_pos e] at hso; exact hso.elim
      · rw [if_neg e, if_neg (by omega)] at hso; exact hso
    · rw [hg]
      have h1 : s ≠ r := fun e => by subst e; rw [hs] at ho; simp [Row.own] at ho
      have h2 : s ≠ h.size := fun e => by subst e; rw [M.dead _ (Nat.le_refl _)] at hs; cases hs
      rw [if_neg h1, if_neg h2]; exact hs
    · rw [Heap.put_tr, T.get_set, if_neg (by intro e; rw [e, hs] at hnh; cases hnh), Heap.new_eq]
      simp only []
      rw [T.get_set, if_neg (by have := M.hid s hs; omega)]
    · have hmk : (h.new (.cells false cs)).mark = h.mark := Heap.new_mark _ _
      have htold : Told (h.new (.cells false cs)) ((h.new (.cells false cs)).put r 0 whole .dead) := by
        have hlog : ((h.new (.cells false cs)).put r 0 whole .dead).log = bif Nat.blt r (h.new (.cells false cs)).mark then (r, 0, whole) :: (h.new (.cells false cs)).log else (h.new (.cells false cs)).log := by
          cases (h.new (.cells false cs)); rfl
        cases hq : Nat.blt r (h.new (.cells false cs)).mark with
        | true =>
          refine ⟨[(r, 0, whole)], by rw [hlog, hq]; rfl, fun s hs i hn => ?_⟩
          rw [Heap.put_tr, T.get_set, if_neg]
          · exact .inl rfl
          · intro e; subst e; exact hn (r, 0, whole) (by simp) ⟨rfl, Nat.zero_le _, .inl (Nat.le_refl _)⟩
        | false =>
          refine ⟨[], by rw [hlog, hq]; rfl, fun s hs i hn => ?_⟩
          rw [Heap.put_tr, T.get_set, if_neg]
          · exact .inl rfl
          · intro e; subst e
            have : Nat.blt r (h.new (.cells false cs)).mark = true := Nat.ble_eq_true_of_le hs
            rw [hq] at this; cases this
      have hnew : Told h (h.new (.cells false cs)) := by
        refine ⟨[], by simp, fun s hs i _ => ?_⟩
        rw [Heap.new_eq]; simp only []
        rw [T.get_set, if_neg (by have := M.mark; omega)]; exact .inl rfl
      exact hnew.trans htold hmk
    · rw [hg] at hso
      by_cases e : s = r
      · rw [if_pos e] at hso; exact hso.elim
      · rw [if_neg e, if_neg (by omega)] at hso; exact hso

theorem ble_iff {a b : Nat} : Nat.ble a b = true ↔ a ≤ b := ⟨Nat.le_of_ble_eq_true, Nat.ble_eq_true_of_le⟩
theorem ble_not {a b : Nat} (h : Nat.ble a b = false) : b < a := by
  rcases Nat.lt_or_ge b a with q | q
  · exact q
  · rw [Nat.ble_eq_true_of_le q] at h; cases h
theorem append_sound (T : TyOK c P) (M : Models c P All μ h w) {ts : Array TypeId} {ty : TypeId} {s x r : AV} {s' x' : Value} {h' : Heap} (he : appendE c ts h s x = some (r, h')) (hs : VR μ s s') (hx : VR μ x x') :
    Gives c P μ h w (Builtin.append_ ts ty #[s', x']) r h' := by
  unfold appendE at he
  cases h0 : ts[0]? with
  | none => rw [h0] at he; simp at he
  | some t =>
  cases h1 : ts[1]? with
  | none => rw [h0, h1] at he; simp at he
  | some t' =>
  rw [h0, h1] at he; simp only [] at he
  cases e1 : elemE c t with
  | none => rw [e1] at he; cases he
  | some p =>
  obtain ⟨e, size, bytes⟩ := p
  rw [e1] at he; simp only [] at he
  obtain ⟨hu, i, hi, rfl, rfl⟩ := elemE_spec T e1
  cases e2 : newsE c t' e i.size i.bytes h x with
  | none => rw [e2] at he; cases he
  | some p =>
  obtain ⟨n, new⟩ := p
  rw [e2] at he; simp only [] at he
  obtain ⟨zeros, vs, n1, n2, n3, n4, n5⟩ := newsE_spec (ty := ty) T M h0 h1 hu hi e2 hx
  have lv := n2.length
  have first : ∀ {k : Nat} {m : AV} {cs : List AV} {mv : Value}, firstE h i.size k m = some cs → VR μ m mv → lenE m = some k → ∃ os : List Value, (∀ w1 : World, w1.heap = w.heap → (Builtin.firstCells i.size k mv).run P w1 = .ok os.toArray w1) ∧ VL μ cs os ∧ (∀ v ∈ os, flatV v = true) := by
    intro k m cs mv a1 a2 a3
    obtain ⟨os, o1, o2, o3, _⟩ := first_sound M a1 a2 (fun _ _ _ _ => trivial) ⟨k, a3, Nat.le_refl _⟩
    exact ⟨os, o1, o2, o3⟩
  cases s <;> first | (simp only [] at he; cases he; done) | skip
  case nils =>
    cases hs
    simp only [] at he
    cases n with
    | zero =>
      simp only [Option.some.injEq, Prod.mk.injEq] at he
      obtain ⟨rfl, rfl⟩ := he
      refine ⟨μ, w, .slice none (0 + 0) 0, ?_, .nils, M, Goes.refl _ _ _⟩
      rw [n5]
      exact appCore_in (by omega) (n4 w rfl) (by simp)
    | succ n =>
      simp only [] at he
      have hO : ∀ w1 : World, w1.heap = w.heap → (Builtin.firstCells i.size 0 (.slice none 0 0)).run P w1 = .ok ([] : List Value).toArray w1 := fun w1 _ => by simp [Builtin.firstCells]
      refine (grow_gives T (k := 0) (cap := 0) (n := n + 1) (os := []) (old := []) (zeros := zeros) hi (by rw [Nat.zero_add, List.nil_append]; exact he) (by omega) .nil n2 (by simp) n3 (by simp) n1 n4 hO (n5 none 0 0)).gives M
  case slc rr off k cap =>
    cases hs with
    | slc _ _ _ _ b base N o hm hl ho =>
    simp only [] at he
    cases e3 : Nat.ble (k + n) cap with
    | true =>
      rw [e3] at he; simp only [cond_true] at he
      have hroom := ble_iff.1 e3
      cases e4 : h.get rr with
      | cells ro cs =>
        rw [e4] at he
        cases ro with
        | true =>
          simp only [] at he
          cases n with
          | succ n => cases he
          | zero =>
            simp only [Option.some.injEq, Prod.mk.injEq] at he
            obtain ⟨rfl, rfl⟩ := he
            have hvs : vs = [] := List.eq_nil_of_length_eq_zero (by rw [← lv, n1]; simp)
            subst hvs
            refine ⟨μ, w, _, ?_, .slc _ _ _ _ _ _ _ _ hm hl ho, M, Goes.refl _ _ _⟩
            rw [n5]
            exact appCore_in hroom (n4 w rfl) (by simp [storeCells])
        | false =>
          simp only [] at he
          cases e5 : splice (off + k * i.size) new cs with
          | none => rw [e5] at he; cases he
          | some cs' =>
            rw [e5] at he; simp only [Option.some.injEq, Prod.mk.injEq] at he
            obtain ⟨rfl, rfl⟩ := he
            obtain ⟨w', r1, r2, r3⟩ := write_sound M e4 e5 n2 n3 hm (n * i.size) (.inr n1.symm)
            refine ⟨μ, w', .slice (some ⟨b, o, none⟩) (k + n) cap, ?_, .slc _ _ _ _ _ _ _ _ hm hroom ho, r2, r3⟩
            rw [n5]
            refine appCore_in hroom (n4 w rfl) ?_
            simp only [add_none]
            rcases ho with ho | ho
            · rw [ho, Nat.add_assoc]; exact r1
            · have hvs : vs = [] := List.eq_nil_of_length_eq_zero (by rw [← lv, n1, show n = 0 from by omega]; simp)
              subst hvs
              simpa [storeCells] using r1
      | _ => rw [e4] at he; cases he
    | false =>
      rw [e3] at he; simp only [cond_false] at he
      have hroom := ble_not e3
      cases e4 : h.get rr with
      | cells ro cs =>
        rw [e4] at he; simp only [] at he
        cases e5 : sub off (k * i.size) cs with
        | none => rw [e5] at he; cases he
        | some old =>
          rw [e5] at he; simp only [] at he
          have hv : VR μ (.slc rr off k cap) (.slice (some ⟨b, o, none⟩) k cap) := .slc _ _ _ _ _ _ _ _ hm hl ho
          obtain ⟨os, o1, o2, o3⟩ := first (k := k) (m := .slc rr off k cap) (cs := old) (by simp only [firstE, e4]; exact e5) hv rfl
          exact (grow_gives T hi he hroom o2 n2 o3 n3 (sub_spec _ _ _ _ e5).1 n1 n4 o1 (n5 _ _ _)).gives M
      | _ => rw [e4] at he; cases he
  case opn rr off k z =>
    cases hs with
    | opn _ _ _ _ b base N cc o hm hz hc hl ho =>
    simp only [] at he
    cases e3 : Nat.beq z i.size with
    | false => rw [e3] at he; cases he
    | true =>
      rw [e3] at he; simp only [cond_true] at he
      have hzz := Nat.eq_of_beq_eq_true e3; subst hzz
      cases e4 : h.get rr with
      | cells ro cs =>
        rw [e4] at he
        cases ro with
        | true => cases he
        | false =>
          simp only [] at he
          obtain ⟨b', base', N', a, tt, fr, hm', hb, hN, hle, hcell, hfr⟩ := row_cells M (vis_all rr) e4
          rw [hm] at hm'; simp only [Option.some.injEq, Prod.mk.injEq] at hm'
          obtain ⟨rfl, rfl, rfl⟩ := hm'
          cases e5 : Nat.ble (off + (k + n) * i.size) (len cs 0) with
          | true =>
            rw [e5] at he; simp only [cond_true] at he
            have h5 := ble_iff.1 e5
            rw [len_eq] at h5
            cases e6 : splice (off + k * i.size) new cs with
            | none => rw [e6] at he; cases he
            | some cs' =>
              rw [e6] at he; simp only [Option.some.injEq, Prod.mk.injEq] at he
              obtain ⟨rfl, rfl⟩ := he
              have hroom : k + n ≤ cc := by
                have : (k + n) * i.size ≤ cc * i.size := by omega
                exact Nat.le_of_mul_le_mul_right this hz
              obtain ⟨w', r1, r2, r3⟩ := write_sound M e4 e6 n2 n3 hm (n * i.size) (.inr n1.symm)
              refine ⟨μ, w', .slice (some ⟨b, o, none⟩) (k + n) cc, ?_, .opn _ _ _ _ _ _ _ _ _ hm hz hc hroom ho, r2, r3⟩
              rw [n5]
              refine appCore_in hroom (n4 w rfl) ?_
              simp only [add_none]
              rcases ho with ho | ho
              · rw [ho, Nat.add_assoc]; exact r1
              · have hvs : vs = [] := List.eq_nil_of_length_eq_zero (by rw [← lv, n1, show n = 0 from by omega]; simp)
                subst hvs
                simpa [storeCells] using r1
          | false =>
            rw [e5] at he; simp only [cond_false] at he
            cases e6 : Nat.beq (off + k * i.size) (len cs 0) with
            | false => rw [e6] at he; cases he
            | true =>
              rw [e6] at he; simp only [cond_true] at he
              have h6 := Nat.eq_of_beq_eq_true e6
              rw [len_eq] at h6
              have h5 := ble_not e5
              rw [len_eq] at h5
              cases e7 : sub off (k * i.size) cs with
              | none => rw [e7] at he; cases he
              | some old =>
                rw [e7] at he; simp only [] at he
                cases e8 : fresh c e i.size i.bytes (k + n) (old ++ new) h with
                | none => rw [e8] at he; cases he
                | some q =>
                  obtain ⟨rv, hv'⟩ := q
                  rw [e8] at he; simp only [Option.some.injEq, Prod.mk.injEq] at he
                  obtain ⟨rfl, rfl⟩ := he
                  have hvr : VR μ (.opn rr off k i.size) (.slice (some ⟨b, o, none⟩) k cc) := .opn _ _ _ _ _ _ _ _ _ hm hz hc hl ho
                  obtain ⟨os, o1, o2, o3⟩ := first (k := k) (m := .opn rr off k i.size) (cs := old) (by simp only [firstE, e4]; exact e7) hvr rfl
                  obtain ⟨s1, s2, s3⟩ := sub_spec _ _ _ _ e7
                  have hlt : rr < h.size := by
                    rcases Nat.lt_or_ge rr h.size with q | q
                    · exact q
                    · rw [M.dead _ q] at e4; cases e4
                  by_cases hroom : k + n ≤ cc
                  · -- the row goes on
                    obtain ⟨f1, f2, f3, rfl, rfl⟩ := fresh_spec e8
                    have hnone := M.dom h.size (Nat.le_refl _)
                    have ho' : o = base + off := by
                      rcases ho with ho | ho
                      · exact ho
                      · exfalso; rw [show k = 0 from by omega, show n = 0 from by omega] at h5; simp at h5; omega
                    have hsz : (k + n) * i.size ≤ cc * i.size := Nat.mul_le_mul_right _ hroom
                    rw [Nat.add_mul] at hsz
                    have hblt : b < w.heap.size := (Array.getElem?_eq_some_iff.1 hb).1
                    have hst := run_storeCells P b (base + off + k * i.size) vs 0 w a hb (by omega) n3 fun j q1 q2 => hfr rfl j (by omega) (by omega)
                    simp only [Nat.add_zero] at hst
                    have lo := o2.length
                    obtain ⟨r1, r2⟩ := rename_row M (w' := wset w b (setAt a (base + off + k * i.size) vs) tt fr) (d := off) (cs := old ++ new) hm (own_of_cells e4) (wset_size _ _ _ _ _) rfl rfl rfl (fun x hx => wset_other _ _ _ _ _ _ hx) (by
                      refine ⟨b, base + off, N, _, tt, fr, Mu.add_same _ _ _, wset_same _ _ _ _ _ hblt, by rw [setAt_size]; exact hN, by rw [List.length_append, s1, n1]; omega, fun j y hy _ => ?_, fun _ j q1 q2 => hfr rfl j (by omega) q2⟩
                      rw [setAt_get vs a _ _ (by omega)]
                      by_cases hj : j < old.length
                      · rw [List.getElem?_append_left hj] at hy
                        rw [if_neg (by omega)]
                        rw [s3 j (by omega)] at hy
                        obtain ⟨v, v1, v2, v3⟩ := hcell _ _ hy trivial
                        exact ⟨v, by rw [show base + off + j = base + (off + j) from by omega]; exact v1, v2.mono (Mu.le_add hnone), v3⟩
                      · rw [List.getElem?_append_right (by omega)] at hy
                        have hjn : j - old.length < new.length := (List.getElem?_eq_some_iff.1 hy).1
                        rw [if_pos (by omega), show base + off + j - (base + off + k * i.size) = j - old.length from by omega]
                        obtain ⟨v, v1, v2⟩ := n2.get _ _ hy
                        exact ⟨v, v1, v2.mono (Mu.le_add hnone), n3 v (List.mem_of_getElem? v1)⟩)
                    refine ⟨_, _, .slice (some ⟨b, o, none⟩) (k + n) cc, ?_, .opn _ _ _ _ b (base + off) N cc o (Mu.add_same _ _ _) hz (by omega) hroom (.inl (by omega)), r1, r2⟩
                    rw [n5]
                    refine appCore_in hroom (n4 w rfl) ?_
                    simp only [add_none]
                    rw [ho']; exact hst
                  · have G := (grow_gives T hi e8 (by omega) o2 n2 o3 n3 s1 n1 n4 o1 (n5 _ _ _)).gives M
                    obtain ⟨f1, f2, f3, rfl, rfl⟩ := fresh_spec e8
                    refine G.trans M fun μ' w' M' hle' => ?_
                    have hgr : (h.new (.cells false (old ++ new))).get rr = h.get rr := by
                      rw [Heap.get_new]
                      by_cases hh : hidden rr h.hide = true
                      · rw [if_pos hh, Heap.get_eq, if_pos hh]
                      · rw [if_neg hh, if_neg (by omega)]
                    exact M'.kill (hle' _ _ hm) (by rw [hgr]; exact own_of_cells e4)
      | _ => rw [e4] at he; cases he
end Go.E
/-! E, soundness, part 18: copy, clear. -/
namespace Go.E
variable {c : Cfg} {P : Program} {V : View} {μ : Mu} {h : Heap} {w : World}

theorem copy_sound (T : TyOK c P) (M : Models c P All μ h w) {ts : Array TypeId} {ty : TypeId} {d s r : AV} {d' s' : Value} {h' : Heap} (he : copyE c ts h d s = some (r, h')) (hd : VR μ d d') (hs : VR μ s s') :
    Gives c P μ h w (Builtin.copy_ ts ty #[d', s']) r h' := by
  unfold copyE at he
  cases h0 : ts[0]? with
  | none => rw [h0] at he; cases he
  | some t =>
  rw [h0] at he; simp only [] at he
  cases e1 : elemE c t with
  | none => rw [e1] at he; cases he
  | some p =>
  obtain ⟨e, size, bytes⟩ := p
  obtain ⟨hu, i, hi, rfl, rfl⟩ := elemE_spec T e1
  cases e2 : lenE s with
  | none => rw [e1, e2] at he; cases he
  | some ns =>
  cases e3 : lenE d with
  | none => rw [e1, e2, e3] at he; cases he
  | some nd =>
  rw [e1, e2, e3] at he; simp only [] at he
  have hmin : (bif Nat.ble ns nd then ns else nd) = Nat.min ns nd := by
    cases q : Nat.ble ns nd with
    | true => have := ble_iff.1 q; simp only [cond_true]; show ns = min ns nd; omega
    | false => have := ble_not q; simp only [cond_false]; show nd = min ns nd; omega
  rw [hmin] at he
  cases e4 : firstE h i.size (Nat.min ns nd) s with
  | none => rw [e4] at he; cases he
  | some new =>
  rw [e4] at he; simp only [] at he
  cases e4' : Nat.beq (len new 0) (Nat.min ns nd * i.size) with
  | false => rw [e4'] at he; cases he
  | true =>
  rw [e4'] at he; simp only [Bool.not_true, cond_false] at he
  have hl := Nat.eq_of_beq_eq_true e4'
  rw [len_eq] at hl; simp only [Nat.add_zero] at hl
  obtain ⟨vs, f1, f2, f3, f4⟩ := first_sound M e4 hs (fun _ _ _ _ => trivial) ⟨ns, e2, Nat.min_le_left _ _⟩
  have core : ∀ base dl dc w', d' = .slice base dl dc → dl = nd → (match base with | some a => storeCells a vs | none => (pure () : Sem Unit)).run P w = .ok () w' →
      (Builtin.copy_ ts ty #[d', s']).run P w = .ok (goInt (Nat.min ns nd)) w' := by
    intro base dl dc w' q1 q2 q3
    subst q1; subst q2
    simp only [Builtin.copy_, h0, (two_get _ _).1, (two_get _ _).2, Sem.run_bind, run_underlying' w hu, Result.andThen_ok, lenE_run e2 hs w, run_sizeOf' w hi, f1 w rfl]
    cases base with
    | none => simp only [Sem.run_pure, Result.ok.injEq, true_and] at q3; subst q3; simp
    | some a => simp only [] at q3; simp [q3]
  have wr : ∀ rr off k o b base N, d' = .slice (some ⟨b, o, none⟩) nd k → (o = base + off ∨ nd = 0) → μ rr = some (b, base, N) →
      (match h.get rr with | .cells false cs => (match splice off new cs with | some cs' => some (AV.int .i64 (Nat.min ns nd), h.put rr off (Nat.min ns nd * i.size) (.cells false cs')) | none => none) | _ => none) = some (r, h') →
      Gives c P μ h w (Builtin.copy_ ts ty #[d', s']) r h' := by
    intro rr off k o b base N hd' ho hm hq
    cases e5 : h.get rr with
    | cells ro cs =>
      rw [e5] at hq
      cases ro with
      | true => cases hq
      | false =>
        simp only [] at hq
        cases e6 : splice off new cs with
        | none => rw [e6] at hq; cases hq
        | some cs' =>
          rw [e6] at hq; simp only [Option.some.injEq, Prod.mk.injEq] at hq
          obtain ⟨rfl, rfl⟩ := hq
          obtain ⟨w', r1, r2, r3⟩ := write_sound M e5 e6 f2 f3 hm (Nat.min ns nd * i.size) (.inr hl.symm)
          refine ⟨μ, w', goInt (Nat.min ns nd), core _ _ _ w' hd' rfl ?_, .int _ _, r2, r3⟩
          simp only []
          rcases ho with ho | ho
          · rw [ho]; exact r1
          · have hvs : vs = [] := by
              refine List.eq_nil_of_length_eq_zero ?_
              rw [f4, hl, ho]; simp
            subst hvs; simpa [storeCells] using r1
    | _ => rw [e5] at hq; cases hq
  cases d <;> first | (simp only [] at he; cases he; done) | skip
  case nils =>
    cases hd
    simp only [Option.some.injEq, Prod.mk.injEq] at he
    obtain ⟨rfl, rfl⟩ := he
    simp only [lenE, Option.some.injEq] at e3
    refine ⟨μ, w, goInt (Nat.min ns nd), core none 0 0 w rfl e3 (by simp), .int _ _, M, Goes.refl _ _ _⟩
  case slc rr off n k =>
    simp only [lenE, Option.some.injEq] at e3
    subst e3
    simp only [] at he
    cases hd with
    | slc _ _ _ _ b base N o hm hle ho =>
      exact wr rr off k o b base N rfl (by rcases ho with ho | ho; exact .inl ho; right; omega) hm he
  case opn rr off n z =>
    simp only [lenE, Option.some.injEq] at e3
    subst e3
    simp only [] at he
    cases e5 : Nat.beq z i.size with
    | false => rw [e5] at he; cases he
    | true =>
    rw [e5] at he; simp only [cond_true] at he
    cases hd with
    | opn _ _ _ _ b base N cc o hm hz hc hle ho =>
      exact wr rr off cc o b base N rfl (by rcases ho with ho | ho; exact .inl ho; right; omega) hm he

theorem clear_sound (T : TyOK c P) (M : Models c P All μ h w) {ts : Array TypeId} {ty : TypeId} {x : AV} {x' : Value} {h' : Heap} (he : clearE c ts h x = some h') (hx : VR μ x x') :
    Gives c P μ h w (Builtin.clear_ ts ty #[x']) undef h' := by
  unfold clearE at he
  cases h0 : ts[0]? with
  | none => rw [h0] at he; cases he
  | some t =>
  rw [h0] at he; simp only [] at he
  cases e1 : elemE c t with
  | none => rw [e1] at he; cases he
  | some p =>
  obtain ⟨e, size, bytes⟩ := p
  obtain ⟨hu, i, hi, rfl, rfl⟩ := elemE_spec T e1
  rw [e1] at he; simp only [] at he
  have g0 : (#[x'] : Array Value)[0]? = some x' := rfl
  have done : ∀ w', (match x' with | .map none | .slice none _ _ | .slice _ 0 _ => (pure () : Sem Unit) | .slice (some a) n _ => do storeCells a (Builtin.zeroCells (← zeroValue e).cells n).toList | _ => stuck "").run P w = .ok () w' →
      (∃ b l k, x' = .slice b l k) → (Builtin.clear_ ts ty #[x']).run P w = .ok (.tuple #[]) w' := by
    intro w' q ⟨b, l, k, hx'⟩
    subst hx'
    simp only [Builtin.clear_, h0, g0, Sem.run_bind, run_underlying' w hu, Result.andThen_ok]
    cases b with
    | none => simp only [Sem.run_pure, Result.ok.injEq, true_and] at q ⊢; subst q; rfl
    | some a =>
      cases l with
      | zero => simp only [Sem.run_pure, Result.ok.injEq, true_and] at q ⊢; subst q; rfl
      | succ l =>
        simp only [Sem.run_bind] at q ⊢
        cases hz : (zeroValue e).run P w with
        | halt q1 q2 => rw [hz] at q; simp [Result.andThen] at q
        | ok zv q2 => rw [hz] at q; simp only [Result.andThen_ok] at q ⊢; rw [q]; rfl
  have wr : ∀ rr off n k o b base N, x' = .slice (some ⟨b, o, none⟩) (n + 1) k → o = base + off → μ rr = some (b, base, N) →
      (match zerosE c e (n + 1), h.get rr with | some zs, .cells false cs => (splice off zs cs).map fun cs' => h.put rr off ((n + 1) * i.size) (.cells false cs') | _, _ => none) = some h' →
      Gives c P μ h w (Builtin.clear_ ts ty #[x']) undef h' := by
    intro rr off n k o b base N hx' ho hm hq
    cases e5 : zerosE c e (n + 1) with
    | none => rw [e5] at hq; simp at hq
    | some zs =>
      cases e6 : h.get rr with
      | cells ro cs =>
        rw [e5, e6] at hq
        cases ro with
        | true => simp at hq
        | false =>
          simp only [] at hq
          cases e7 : splice off zs cs with
          | none => rw [e7] at hq; cases hq
          | some cs' =>
            rw [e7] at hq; simp only [Option.map_some, Option.some.injEq] at hq; subst hq
            have hzc : ∃ zl, zeroCells c e = some zl := by
              unfold zerosE at e5; simp only [] at e5
              cases hz : zeroCells c e with
              | none => rw [hz] at e5; cases e5
              | some zl => exact ⟨zl, rfl⟩
            obtain ⟨zl, hzl⟩ := hzc
            obtain ⟨zv, i', z1, z2, z3, z4, z5, _⟩ := zeroCells_spec T μ hzl w
            rw [hi] at z4; simp only [Option.some.injEq] at z4; subst z4
            have hzs : zv.cells.size = i.size := by have := z2.length; simp at this; omega
            have hrep : zs = repl zl (n + 1) := by unfold zerosE at e5; simp only [hzl, Option.some.injEq] at e5; exact e5.symm
            have hmodel : (Builtin.zeroCells zv.cells (n + 1)).toList = repl zv.cells.toList (n + 1) := rangeMap_repl zv.cells (n + 1)
            have hv2 : VL μ zs (repl zv.cells.toList (n + 1)) := by rw [hrep]; exact replVL z2 _
            obtain ⟨w', r1, r2, r3⟩ := write_sound M e6 e7 hv2 (repl_flat z3 _) hm ((n + 1) * i.size) (.inr (by rw [hrep, repl_length, z5]))
            refine ⟨μ, w', .tuple #[], done w' ?_ ⟨_, _, _, hx'⟩, .tup _ _ .nil, r2, r3⟩
            subst hx'; subst ho
            simp only [Sem.run_bind, z1, Result.andThen_ok, hmodel]; exact r1
      | _ => rw [e5, e6] at hq; simp at hq
  have same : h' = h → (∃ b l k, x' = .slice b l k ∧ (b = none ∨ l = 0)) → Gives c P μ h w (Builtin.clear_ ts ty #[x']) undef h' := by
    intro hh ⟨b, l, k, hx', hb⟩
    subst hh
    refine ⟨μ, w, .tuple #[], done w ?_ ⟨_, _, _, hx'⟩, .tup _ _ .nil, M, Goes.refl _ _ _⟩
    subst hx'
    rcases hb with rfl | rfl
    · simp
    · cases b <;> simp
  cases x <;> first | (simp only [] at he; cases he; done) | skip
  case nils => cases hx; simp only [Option.some.injEq] at he; exact same he.symm ⟨_, _, _, rfl, .inl rfl⟩
  case slc rr off n k =>
    cases hx with
    | slc _ _ _ _ b base N o hm hle ho =>
    cases n with
    | zero => simp only [Option.some.injEq] at he; exact same he.symm ⟨_, _, _, rfl, .inr rfl⟩
    | succ n => exact wr rr off n k o b base N rfl (by rcases ho with ho | ho; exact ho; omega) hm he
  case opn rr off n z =>
    cases hx with
    | opn _ _ _ _ b base N cc o hm hz hc hle ho =>
    cases n with
    | zero => simp only [Option.some.injEq] at he; exact same he.symm ⟨_, _, _, rfl, .inr rfl⟩
    | succ n =>
      simp only [] at he
      cases e5 : Nat.beq z i.size with
      | false => rw [e5] at he; cases he
      | true =>
        rw [e5] at he; simp only [cond_true] at he
        exact wr rr off n cc o b base N rfl (by rcases ho with ho | ho; exact ho; omega) hm he
end Go.E
/-! E, soundness, part 19: what the loader has looked over; operands. -/
namespace Go.E
variable {c : Cfg} {P : Program} {V : View} {μ : Mu} {h : Heap} {w : World}

theorem bind_ok {α β : Type} {x : Except String α} {f : α → Except String β} {b : β} (h : (x >>= f) = .ok b) : ∃ a, x = .ok a ∧ f a = .ok b := by
  cases x with
  | error e => cases h
  | ok a => exact ⟨a, rfl, h⟩
theorem require_ok {b : Bool} {m : String} (h : CheckCode.require b m = .ok ()) : b = true := by
  unfold CheckCode.require at h
  cases b with
  | true => rfl
  | false => cases h
theorem forM_ok {α : Type} {f : α → Except String Unit} : ∀ {l : List α}, l.forM f = .ok () → ∀ x ∈ l, f x = .ok ()
  | [], _, x, hx => by simp at hx
  | y :: l, h, x, hx => by
    simp only [List.forM_eq_forM, List.forM_cons] at h
    obtain ⟨u, h1, h2⟩ := bind_ok h
    rcases List.mem_cons.1 hx with rfl | hx
    · exact h1
    · exact forM_ok (by simpa using h2) x hx
theorem mapError_ok {α : Type} {x : Except String α} {f : String → String} {a : α} (h : x.mapError f = .ok a) : x = .ok a := by
  cases x with
  | error e => cases h
  | ok b => exact h
theorem operand_tmp {fn : Func} {x : Operand} (h : CheckCode.operand P fn x = .ok ()) : (∀ t, x = .tmp t → t < fn.ntmps) ∧ (∀ g, x = .global g → g < P.globals.size) := by
  constructor
  · intro t ht; subst ht; simpa using require_ok h
  · intro g hg; subst hg; simpa using require_ok h
/-- an operation that the loader has looked over -/
structure OkOper (P : Program) (fn : Func) (o : Oper) : Prop where
  dst : ∀ d, o.dst = some d → d < fn.ntmps
  opnd : ∀ x ∈ o.op.operands.toList, CheckCode.operand P fn x = .ok ()
theorem region_ok {fn : Func} {id : Nat} {ops : Array Oper} {draw : Bool} (h : CheckCode.region P fn id ops draw = .ok ()) :
    (∀ (i : Nat) (o : Oper), ops[i]? = some o → OkOper P fn o) ∧ Region.ok P.types ops draw = true := by
  unfold CheckCode.region at h
  obtain ⟨_, h1, h2⟩ := bind_ok h
  obtain ⟨_, _, h3⟩ := bind_ok h2
  refine ⟨fun i o hi => ?_, require_ok h3⟩
  have hm : (o, i) ∈ ops.toList.zipIdx := by
    rw [List.mem_zipIdx_iff_getElem?]
    simpa using hi
  have := forM_ok h1 _ hm
  simp only [] at this
  constructor
  · intro d hd
    rw [hd] at this
    obtain ⟨_, q1, _⟩ := bind_ok this
    simpa using require_ok q1
  · intro x hx
    split at this
    · obtain ⟨_, _, this⟩ := bind_ok this
      split at this
      · obtain ⟨_, _, this⟩ := bind_ok this
        split at this
        · obtain ⟨_, _, this⟩ := bind_ok this
          split at this
          · split at this
            · obtain ⟨_, _, this⟩ := bind_ok this
              obtain ⟨_, q1, _⟩ := bind_ok this
              exact mapError_ok (forM_ok q1 x hx)
            · obtain ⟨_, _, this⟩ := bind_ok this
              obtain ⟨_, q1, _⟩ := bind_ok this
              exact mapError_ok (forM_ok q1 x hx)
            · obtain ⟨_, q1, _⟩ := bind_ok this
              exact mapError_ok (forM_ok q1 x hx)
          · obtain ⟨_, q1, _⟩ := bind_ok this
            exact mapError_ok (forM_ok q1 x hx)
        · skip
          split at this
          · split at this
            · obtain ⟨_, _, this⟩ := bind_ok this
              obtain ⟨_, q1, _⟩ := bind_ok this
              exact mapError_ok (forM_ok q1 x hx)
            · obtain ⟨_, _, this⟩ := bind_ok this
              obtain ⟨_, q1, _⟩ := bind_ok this
              exact mapError_ok (forM_ok q1 x hx)
            · obtain ⟨_, q1, _⟩ := bind_ok this
              exact mapError_ok (forM_ok q1 x hx)
          · obtain ⟨_, q1, _⟩ := bind_ok this
            exact mapError_ok (forM_ok q1 x hx)
      · skip
        split at this
        · obtain ⟨_, _, this⟩ := bind_ok this
          split at this
          · split at this
            · obtain ⟨_, _, this⟩ := bind_ok this
              obtain ⟨_, q1, _⟩ := bind_ok this
              exact mapError_ok (forM_ok q1 x hx)
            · obtain ⟨_, _, this⟩ := bind_ok this
              obtain ⟨_, q1, _⟩ := bind_ok this
              exact mapError_ok (forM_ok q1 x hx)
            · obtain ⟨_, q1, _⟩ := bind_ok this
              exact mapError_ok (forM_ok q1 x hx)
          · obtain ⟨_, q1, _⟩ := bind_ok this
            exact mapError_ok (forM_ok q1 x hx)
        · skip
          split at this
          · split at this
            · obtain ⟨_, _, this⟩ := bind_ok this
              obtain ⟨_, q1, _⟩ := bind_ok this
              exact mapError_ok (forM_ok q1 x hx)
            · obtain ⟨_, _, this⟩ := bind_ok this
              obtain ⟨_, q1, _⟩ := bind_ok this
              exact mapError_ok (forM_ok q1 x hx)
            · obtain ⟨_, q1, _⟩ := bind_ok this
              exact mapError_ok (forM_ok q1 x hx)
          · obtain ⟨_, q1, _⟩ := bind_ok this
            exact mapError_ok (forM_ok q1 x hx)
    · skip
      split at this
      · obtain ⟨_, _, this⟩ := bind_ok this
        split at this
        · obtain ⟨_, _, this⟩ := bind_ok this
          split at this
          · split at this
            · obtain ⟨_, _, this⟩ := bind_ok this
              obtain ⟨_, q1, _⟩ := bind_ok this
              exact mapError_ok (forM_ok q1 x hx)
            · obtain ⟨_, _, this⟩ := bind_ok this
              obtain ⟨_, q1, _⟩ := bind_ok this
              exact mapError_ok (forM_ok q1 x hx)
            · obtain ⟨_, q1, _⟩ := bind_ok this
              exact mapError_ok (forM_ok q1 x hx)
          · obtain ⟨_, q1, _⟩ := bind_ok this
            exact mapError_ok (forM_ok q1 x hx)
        · skip
          split at this
          · split at this
            · obtain ⟨_, _, this⟩ := bind_ok this
              obtain ⟨_, q1, _⟩ := bind_ok this
              exact mapError_ok (forM_ok q1 x hx)
            · obtain ⟨_, _, this⟩ := bind_ok this
              obtain ⟨_, q1, _⟩ := bind_ok this
              exact mapError_ok (forM_ok q1 x hx)
            · obtain ⟨_, q1, _⟩ := bind_ok this
              exact mapError_ok (forM_ok q1 x hx)
          · obtain ⟨_, q1, _⟩ := bind_ok this
            exact mapError_ok (forM_ok q1 x hx)
      · skip
        split at this
        · obtain ⟨_, _, this⟩ := bind_ok this
          split at this
          · split at this
            · obtain ⟨_, _, this⟩ := bind_ok this
              obtain ⟨_, q1, _⟩ := bind_ok this
              exact mapError_ok (forM_ok q1 x hx)
            · obtain ⟨_, _, this⟩ := bind_ok this
              obtain ⟨_, q1, _⟩ := bind_ok this
              exact mapError_ok (forM_ok q1 x hx)
            · obtain ⟨_, q1, _⟩ := bind_ok this
              exact mapError_ok (forM_ok q1 x hx)
          · obtain ⟨_, q1, _⟩ := bind_ok this
            exact mapError_ok (forM_ok q1 x hx)
        · skip
          split at this
          · split at this
            · obtain ⟨_, _, this⟩ := bind_ok this
              obtain ⟨_, q1, _⟩ := bind_ok this
              exact mapError_ok (forM_ok q1 x hx)
            · obtain ⟨_, _, this⟩ := bind_ok this
              obtain ⟨_, q1, _⟩ := bind_ok this
              exact mapError_ok (forM_ok q1 x hx)
            · obtain ⟨_, q1, _⟩ := bind_ok this
              exact mapError_ok (forM_ok q1 x hx)
          · obtain ⟨_, q1, _⟩ := bind_ok this
            exact mapError_ok (forM_ok q1 x hx)

/-! ### operands -/
def GlobR (P : Program) (μ : Mu) : Prop := ∀ g, g < P.globals.size → ∃ N, μ g = some (g, 0, N)
theorem GlobR.mono {μ μ' : Mu} (hm : μ.le μ') (H : GlobR P μ) : GlobR P μ' := fun g hg => let ⟨N, e⟩ := H g hg; ⟨N, hm _ _ e⟩
theorem TmR.mono {f : FuncId} {μ μ' : Mu} {tm : T AV} {tmps : Array Value} (hm : μ.le μ') (H : TmR P f μ tm tmps) : TmR P f μ' tm tmps := ⟨H.1, fun i => (H.2 i).mono hm⟩
theorem ev_R {f : FuncId} {fn : Func} {a : Act} {tm : T AV} (H : TmR P f μ tm a.tmps) (G : GlobR P μ) {x : Operand} (hx : CheckCode.operand P fn x = .ok ()) : VR μ (ev tm x) (a.eval x) := by
  cases x with
  | tmp t => exact H.2 t
  | const v => exact ofVal_R μ v
  | global g =>
    obtain ⟨N, e⟩ := G g ((operand_tmp hx).2 g rfl)
    have := VR.ptr (μ := μ) g 0 g 0 N e
    exact this
  | func g => exact .fn (.func g) [] [] #[] #[] (fun l => by simp) .nil .nil
theorem evL_R {f : FuncId} {fn : Func} {a : Act} {tm : T AV} (H : TmR P f μ tm a.tmps) (G : GlobR P μ) : ∀ {l : List Operand}, (∀ x ∈ l, CheckCode.operand P fn x = .ok ()) → VL μ (evL tm l) (l.map a.eval)
  | [], _ => .nil
  | x :: l, h => .cons (ev_R H G (h x (by simp))) (evL_R H G fun y hy => h y (by simp [hy]))
theorem evP_R {f : FuncId} {fn : Func} {a : Act} {tm : T AV} (H : TmR P f μ tm a.tmps) (G : GlobR P μ) : ∀ {l : List (Nat × Operand)}, (∀ x ∈ l, CheckCode.operand P fn x.2 = .ok ()) → PL μ (evP tm l) (l.map fun (i, x) => (i, a.eval x))
  | [], _ => .nil
  | (i, x) :: l, h => .cons (ev_R H G (h (i, x) (by simp))) (evP_R H G fun y hy => h y (by simp [hy]))
theorem TmR.put {f : FuncId} {fn : Func} {a : Act} {tm : T AV} (H : TmR P f μ tm a.tmps) (hf : P.funcs[f]? = some fn) {d : Option Tmp} (hd : ∀ t, d = some t → t < fn.ntmps) {x : AV} {v : Value} (hv : VR μ x v) :
    TmR P f μ ((setOf d).run tm x) (a.put d v).tmps := by
  cases d with
  | none => exact H
  | some t =>
    have hlt : t < a.tmps.size := Nat.lt_of_lt_of_le (hd t rfl) (H.1 fn hf)
    refine ⟨fun g hg => by simpa [Act.put] using H.1 g hg, fun i => ?_⟩
    show VR μ (T.get undef (T.set undef tm t x) i) _
    rw [T.get_set]
    by_cases e : t = i
    · subst e; rw [if_pos rfl]; simp [Act.put, Array.getD, hlt]; exact hv
    · rw [if_neg e]
      have : (a.put (some t) v).tmps.getD i Go.undef = a.tmps.getD i Go.undef := by
        simp only [Act.put, Array.getD_eq_getD_getElem?, Array.getElem?_setIfInBounds, if_neg e]
      rw [this]; exact H.2 i
theorem put_defers (a : Act) (d : Option Tmp) (v : Value) : (a.put d v).defers = a.defers := by cases d <;> rfl
end Go.E
/-! E, soundness, part 20: operations that change nothing that is there. -/
namespace Go.E
variable {c : Cfg} {P : Program} {V : View} {μ : Mu} {h : Heap} {w : World}

/-- an operation is a computation of a value -/
def Pures (P : Program) (ρ : Operand → Value) (o : Oper) (S : Sem Value) : Prop := ∀ w, (execOp ρ o).run P w = (S.run P w).andThen fun v w => .ok (.value v) w
theorem val_some {h h' : Heap} {o : Option AV} {r : AV} (he : E.val h o = .val r h') : o = some r ∧ h' = h := by
  cases o with
  | none => cases he
  | some v => simp only [E.val, OR.val.injEq] at he; exact ⟨by rw [he.1], he.2.symm⟩
theorem val2_some {h' : Heap} {o : Option (AV × Heap)} {r : AV} (he : E.val2 o = .val r h') : o = some (r, h') := by
  cases o with
  | none => cases he
  | some p => obtain ⟨v, k⟩ := p; simp only [E.val2, OR.val.injEq] at he; rw [he.1, he.2]
theorem GivesR.of_run {S : Sem Value} {a : AV} (hr : ∃ u, S.run P w = .ok u w ∧ VR μ a u) : GivesR c P μ h w S a h := by
  obtain ⟨u, h1, h2⟩ := hr
  exact .pure u w h1 h2 (Alike.refl _)

section
variable {f : FuncId} {fn : Func} {a : Act} {tm : T AV} {env : Env}

theorem optR (H : TmR P f μ tm a.tmps) (G : GlobR P μ) {x : Option Operand} (hx : ∀ y, x = some y → CheckCode.operand P fn y = .ok ()) : OV μ (x.map (ev tm)) (x.map a.eval) := by
  cases x with
  | none => exact .none
  | some y => exact .some (ev_R H G (hx y rfl))

theorem nilCheck_sound (T : TyOK c P) {x : Operand} {r : AV} {o : Oper} (ho : o.op = .nilCheck x) (he : nilCheckE c (ev tm x) = some r) (hv : VR μ (ev tm x) (a.eval x)) (hp : Made.depth ≠ 0) :
    ∃ u, (∀ w, (execOp a.eval o).run P w = .ok (.value u) w) ∧ VR μ r u := by
  have hex : ∀ w : World, (execOp a.eval o).run P w = (match a.eval x with
    | .pointer none | .nilIface | .nilFunc => (runtimePanic .nilDeref : Sem Next)
    | .func (.method name) first captured =>
      (match (first[0]? : Option Value) with
      | some .nilIface => runtimePanic .nilDeref
      | some (.iface t w) => do
        if (← nilAhead ((← program).types.size + Made.depth) t w name) != some false then
          unsupported (.noEntry "op/nilCheck.the method's receiver behind this interface value is a nil pointer, or cannot be seen to be none, and the arguments act or may panic (ledger 612)")
        pure (.value (.func (.method name) first captured))
      | _ => pure (.value (.func (.method name) first captured)))
    | x => pure (.value x)).run P w := by
    intro w
    simp only [execOp, ho]
    rfl
  simp only [hex]
  generalize ev tm x = A at he hv
  generalize a.eval x = v at hv
  clear hex
  cases hv <;> simp only [nilCheckE, reduceCtorEq, Option.some.injEq] at he
  case fn fv first cap first' cap' hf h1 h2 =>
    cases fv
    case func g => simp only [Option.some.injEq] at he; subst he; exact ⟨_, fun _ => rfl, .fn _ _ _ _ _ hf h1 h2⟩
    case yield g => exact absurd rfl (hf _)
    case methodOf => simp only [Option.some.injEq] at he; subst he; exact ⟨_, fun _ => rfl, .fn _ _ _ _ _ hf h1 h2⟩
    case via => simp only [Option.some.injEq] at he; subst he; exact ⟨_, fun _ => rfl, .fn _ _ _ _ _ hf h1 h2⟩
    case method name =>
      cases first with
      | nil => cases he
      | cons fa l =>
        cases fa <;> first | (simp only [reduceCtorEq] at he; done) | skip
        case iface t va =>
        simp only [] at he
        have hv0 : VR μ (.fn (.method name) (.iface t va :: l) cap) (.func (.method name) first' cap') := .fn _ _ _ _ _ hf h1 h2
        have hfirst : ∃ v0 vs, first'.toList = .iface t v0 :: vs ∧ VR μ va v0 := by
          generalize hq : first'.toList = L at h1
          cases h1 with
          | cons q1 q2 =>
            cases q1 with
            | iface _ _ v0 q => exact ⟨v0, _, rfl, q⟩
        obtain ⟨v0, vs, hl, hva⟩ := hfirst
        have hget : (first'[0]? : Option Value) = some (.iface t v0) := by
          rw [← Array.getElem?_toList, hl]; rfl
        have hd : ∃ n, P.types.size + Made.depth = n + 1 := ⟨P.types.size + Made.depth - 1, by omega⟩
        obtain ⟨n, hn⟩ := hd
        have fin : ∀ {g : FuncId} {p : Bool}, methodRow c t name = some (g, p) → (p = true ∨ ∃ d, und c t = some d ∧ ((∀ el, d ≠ .pointer el) ∨ ∃ r o, va = .ptr r o)) → r = .fn (.method name) (.iface t va :: l) cap →
            ∃ u, (∀ w : World, (match (first'[0]? : Option Value) with
              | some .nilIface => (runtimePanic .nilDeref : Sem Next)
              | some (.iface t w) => do
                if (← nilAhead ((← program).types.size + Made.depth) t w name) != some false then
                  unsupported (.noEntry "op/nilCheck.the method's receiver behind this interface value is a nil pointer, or cannot be seen to be none, and the arguments act or may panic (ledger 612)")
                pure (.value (.func (.method name) first' cap'))
              | _ => pure (.value (.func (.method name) first' cap'))).run P w = .ok (.value u) w) ∧ VR μ r u := by
          intro g p q1 q2 q3
          subst q3
          refine ⟨_, fun w => ?_, hv0⟩
          simp only [hget, Sem.run_bind, run_program, Result.andThen_ok, hn, nilAhead_sound T q1 q2 hva n w]
          simp
        cases e1 : methodRow c t name with
        | none => rw [e1] at he; simp at he
        | some p =>
          obtain ⟨g, pr⟩ := p
          rw [e1] at he
          cases e2 : und c t with
          | none => rw [e2] at he; cases pr <;> simp at he
          | some d =>
            rw [e2] at he
            cases pr with
            | true => simp only [Option.some.injEq] at he; exact fin e1 (.inl rfl) he.symm
            | false =>
              by_cases hpt : ∃ el, d = .pointer el
              · obtain ⟨el, rfl⟩ := hpt
                cases va <;> first | (simp only [reduceCtorEq] at he; done) | skip
                case ptr rr oo =>
                  simp only [Option.some.injEq] at he
                  exact fin e1 (.inr ⟨_, e2, .inr ⟨_, _, rfl⟩⟩) he.symm
              · have he' : r = .fn (.method name) (.iface t va :: l) cap := by
                  cases d <;> first | exact absurd ⟨_, rfl⟩ hpt | (simp only [Option.some.injEq] at he; exact he.symm)
                exact fin e1 (.inr ⟨_, e2, .inl fun el q => hpt ⟨el, q⟩⟩) he'
  all_goals subst he
  all_goals exact ⟨_, fun _ => rfl, by constructor <;> assumption⟩
/-- the operations that look at places, and change nothing that is there -/
theorem opR_sound (T : TyOK c P) (M : Models c P V μ h w) (H : TmR P f μ tm a.tmps) (G : GlobR P μ) {o : Oper} (hok : ∀ x ∈ o.op.operands.toList, CheckCode.operand P fn x = .ok ()) {l : List Rng} (hk : readsOf c o.op tm = .looks l)
    (hV : ∀ p ∈ l, ∀ i, inR p p.1 i → V p.1 i) {r : AV} {h' : Heap} (he : (compOp c o.op).run env tm h = .val r h') : ∃ S, Pures P a.eval o S ∧ GivesR c P μ h w S r h' := by
  have e1 : ∀ {x : Operand}, x ∈ o.op.operands.toList → VR μ (ev tm x) (a.eval x) := fun hx => ev_R H G (hok _ hx)
  cases ho : o.op with
  | move x =>
    rw [ho] at he e1; simp only [compOp, oMove, OR.val.injEq] at he
    obtain ⟨rfl, rfl⟩ := he
    exact ⟨pure (a.eval x), fun w => by simp [execOp, ho], .of_run ⟨_, by simp, e1 (by simp [Op.operands])⟩⟩
  | assign x =>
    rw [ho] at he e1; simp only [compOp, oMove, OR.val.injEq] at he
    obtain ⟨rfl, rfl⟩ := he
    exact ⟨pure (a.eval x), fun w => by simp [execOp, ho], .of_run ⟨_, by simp, e1 (by simp [Op.operands])⟩⟩
  | pick k x y =>
    rw [ho] at he e1; simp only [compOp, oPick] at he
    have hk := e1 (x := k) (by simp [Op.operands])
    refine ⟨do pure (if ← asBool (a.eval k) then a.eval x else a.eval y), fun w => by simp only [execOp, ho, Sem.run_bind, Sem.run_pure]; cases (asBool (a.eval k)).run P w <;> rfl, ?_⟩
    generalize hq : ev tm k = kv at he hk
    generalize hq2 : a.eval k = kv' at hk
    cases hk <;> first | (cases he; done) | skip
    rename_i b
    cases b with
    | true => simp only [OR.val.injEq] at he; obtain ⟨rfl, rfl⟩ := he; exact .of_run ⟨_, by simp [asBool], e1 (by simp [Op.operands])⟩
    | false => simp only [OR.val.injEq] at he; obtain ⟨rfl, rfl⟩ := he; exact .of_run ⟨_, by simp [asBool], e1 (by simp [Op.operands])⟩
  | alloc e =>
    rw [ho] at he; simp only [compOp, oAlloc] at he
    cases hz : zeroCells c e with
    | none => rw [hz] at he; cases he
    | some z =>
      rw [hz] at he; simp only [Heap.next_eq, OR.val.injEq] at he
      obtain ⟨rfl, rfl⟩ := he
      exact ⟨Instr.alloc e true (.tuple #[]), fun w => by simp only [execOp, ho, Sem.run_bind, Sem.run_pure], alloc_gives T hz⟩
  | box e x =>
    rw [ho] at he e1; simp only [compOp, oBox] at he
    cases hz : cellsOf (ev tm x) with
    | none => rw [hz] at he; cases he
    | some z =>
      rw [hz] at he; simp only [Heap.next_eq, OR.val.injEq] at he
      obtain ⟨rfl, rfl⟩ := he
      exact ⟨Instr.box e (a.eval x), fun w => by simp only [execOp, ho, Sem.run_bind, Sem.run_pure], box_gives (e1 (by simp [Op.operands])) hz⟩
  | build t ps =>
    rw [ho] at he; simp only [compOp, oBuild] at he
    obtain ⟨hq, rfl⟩ := val_some he; clear he
    have hps : PL μ (evP tm ps.toList) (ps.map fun (i, x) => (i, a.eval x)).toList := by
      rw [Array.toList_map]
      exact evP_R (fn := fn) H G fun x hx => hok x.2 (by rw [ho]; simp only [Op.operands, List.mem_map]; exact ⟨x, hx, rfl⟩)
    exact ⟨Instr.build t (ps.map fun (i, x) => (i, a.eval x)), fun w => by simp only [execOp, ho, Sem.run_bind, Sem.run_pure], .of_run (build_sound T hps hq w)⟩
  | buildSlice t n ps =>
    rw [ho] at he; simp only [compOp, oBuildSlice] at he
    have hps : PL μ (evP tm ps.toList) (ps.map fun (i, x) => (i, a.eval x)).toList := by
      rw [Array.toList_map]
      exact evP_R (fn := fn) H G fun x hx => hok x.2 (by rw [ho]; simp only [Op.operands, List.mem_map]; exact ⟨x, hx, rfl⟩)
    cases q1 : elemE c t with
    | none => rw [q1] at he; cases he
    | some p =>
      obtain ⟨e, s, b⟩ := p
      rw [q1] at he; simp only [] at he
      cases q2 : Nat.ble (n * s) 65536 with
      | false => rw [q2] at he; cases he
      | true =>
        rw [q2] at he; simp only [cond_true] at he
        cases q3 : zerosE c e n with
        | none => rw [q3] at he; cases he
        | some zs =>
          rw [q3] at he; simp only [] at he
          cases q4 : fillE (placeA s) (evP tm ps.toList) zs with
          | none => rw [q4] at he; cases he
          | some cs =>
            rw [q4] at he; simp only [Heap.next_eq, OR.val.injEq] at he
            obtain ⟨rfl, rfl⟩ := he
            exact ⟨Instr.buildSlice t n (ps.map fun (i, x) => (i, a.eval x)), fun w => by simp only [execOp, ho, Sem.run_bind, Sem.run_pure], buildSlice_gives T hps q1 (ble_iff.1 q2) q3 q4⟩
  | load t x =>
    rw [ho] at he e1 hk; simp only [compOp, oLoad] at he
    simp only [readsOf, Kind.looks.injEq] at hk
    have hx := e1 (x := x) (by simp [Op.operands])
    refine ⟨Instr.loadAt t (a.eval x), fun w => by simp only [execOp, ho, Sem.run_bind, Sem.run_pure], ?_⟩
    generalize ev tm x = xv at he hx hk
    generalize a.eval x = xv' at hx
    cases hx <;> first | (cases he; done) | skip
    rename_i rr off b base N hm
    obtain ⟨hq, rfl⟩ := val_some he; clear he
    refine .of_run ?_
    have hl := load_sound T M hq (fun n hn => by
      simp only [placeOf, hn] at hk
      cases n with
      | zero =>
        simp only [] at hk; subst hk
        exact ⟨hV (rr, off, 1) (by simp) off ⟨rfl, Nat.le_refl _, .inr (by simp)⟩, fun i q1 q2 => by omega⟩
      | succ n =>
        simp only [] at hk; subst hk
        exact ⟨hV (rr, off, n + 1) (by simp) off ⟨rfl, Nat.le_refl _, .inr (by simp only; omega)⟩, fun i q1 q2 => hV (rr, off, n + 1) (by simp) i ⟨rfl, q1, .inr q2⟩⟩) hm
    obtain ⟨v, v1, v2⟩ := hl
    exact ⟨v, by simp [Instr.loadAt, Instr.sureAddr, v1], v2⟩
  | nilCheck x =>
    rw [ho] at he e1; simp only [compOp, oNilCheck] at he
    obtain ⟨hq, rfl⟩ := val_some he; clear he
    obtain ⟨u, u1, u2⟩ := nilCheck_sound T ho hq (e1 (by simp [Op.operands])) (by decide)
    exact ⟨pure u, fun w => by rw [u1]; simp, .of_run ⟨u, by simp, u2⟩⟩
  | binOp op t x y yt =>
    rw [ho] at he e1; simp only [compOp, oBin] at he
    obtain ⟨hq, rfl⟩ := val_some he; clear he
    exact ⟨do eqGuard op t x y (a.eval x) (a.eval y); binOp op t (a.eval x) (a.eval y), fun w => by simp only [execOp, ho, Sem.run_bind, Sem.run_pure], .of_run (bin_sound T hq (e1 (by simp [Op.operands])) (e1 (by simp [Op.operands])) w)⟩
  | unOp op t x =>
    rw [ho] at he e1; simp only [compOp, oUn] at he
    obtain ⟨hq, rfl⟩ := val_some he; clear he
    exact ⟨Op.unary op (a.eval x), fun w => by simp only [execOp, ho, Sem.run_bind, Sem.run_pure], .of_run (un_sound hq (e1 (by simp [Op.operands])) w)⟩
  | convert s d x =>
    rw [ho] at he e1 hk; simp only [compOp, oConv] at he
    simp only [readsOf, Kind.looks.injEq] at hk; subst hk
    exact ⟨convert s d (a.eval x), fun w => by simp only [execOp, ho, Sem.run_bind, Sem.run_pure], conv_gives T M (val2_some he) (e1 (by simp [Op.operands])) hV⟩
  | makeInterface t x =>
    rw [ho] at he e1; simp only [compOp, oIface] at he
    have hx := e1 (x := x) (by simp [Op.operands])
    cases q : und c t with
    | none => rw [q] at he; cases he
    | some d =>
      have hu := T.und q
      by_cases hi : ∃ ms, d = .interface ms
      · obtain ⟨ms, rfl⟩ := hi; rw [q] at he; cases he
      · have he' : r = .iface t (ev tm x) ∧ h' = h := by
          rw [q] at he
          cases d <;> first | exact absurd ⟨_, rfl⟩ hi | (simp only [OR.val.injEq] at he; exact ⟨he.1.symm, he.2.symm⟩)
        obtain ⟨rfl, rfl⟩ := he'
        refine ⟨Instr.makeInterface t (a.eval x), fun w => by simp only [execOp, ho, Sem.run_bind, Sem.run_pure], .of_run ⟨.iface t (a.eval x), ?_, .iface _ _ _ hx⟩⟩
        simp only [Instr.makeInterface, Sem.run_bind, run_underlying' _ hu, Result.andThen_ok]
        cases d <;> first | exact absurd ⟨_, rfl⟩ hi | simp
  | makeFunc fv xs ys =>
    rw [ho] at he; simp only [compOp, oFunc] at he
    have h1 : VL μ (evL tm xs.toList) (xs.map a.eval).toList := by
      rw [Array.toList_map]; exact evL_R (fn := fn) H G fun x hx => hok x (by rw [ho]; simp only [Op.operands, Array.toList_append, List.mem_append]; exact .inl hx)
    have h2 : VL μ (evL tm ys.toList) (ys.map a.eval).toList := by
      rw [Array.toList_map]; exact evL_R (fn := fn) H G fun x hx => hok x (by rw [ho]; simp only [Op.operands, Array.toList_append, List.mem_append]; exact .inr hx)
    have he' : r = .fn fv (evL tm xs.toList) (evL tm ys.toList) ∧ h' = h ∧ ∀ l, fv ≠ .yield l := by
      cases fv <;> first | (cases he; done) | (simp only [OR.val.injEq] at he; exact ⟨he.1.symm, he.2.symm, fun l => by simp⟩)
    obtain ⟨rfl, rfl, hy⟩ := he'
    exact ⟨Instr.makeFunc fv (xs.map a.eval) (ys.map a.eval), fun w => by simp only [execOp, ho, Sem.run_bind, Sem.run_pure], .of_run ⟨_, by simp [Instr.makeFunc], .fn _ _ _ _ _ hy h1 h2⟩⟩
  | makeMap t rv =>
    rw [ho] at he e1; simp only [compOp, oMap] at he
    cases q : E.mapKey c t with
    | none => rw [q] at he; cases he
    | some kt =>
      obtain ⟨el, hu⟩ := mapKey_spec T q
      rw [q] at he; simp only [] at he
      have key : r = .map h.size ∧ h' = h.new (.map kt []) ∧ ∀ w : World, (Instr.makeMap t (rv.map a.eval)).run P w = .ok (.map (some w.heap.size)) (wnew w (.map #[] 0)) := by
        cases rv with
        | none =>
          simp only [Heap.next_eq, OR.val.injEq] at he
          exact ⟨he.1.symm, he.2.symm, fun w => by simp [Instr.makeMap, wnew]⟩
        | some x =>
          simp only [] at he
          have hx := e1 (x := x) (by simp [Op.operands])
          generalize ev tm x = xv at he hx
          simp only [Option.map_some]
          generalize a.eval x = xv' at hx
          cases hx <;> first | (cases he; done) | skip
          simp only [Heap.next_eq, OR.val.injEq] at he
          exact ⟨he.1.symm, he.2.symm, fun w => by simp [Instr.makeMap, run_underlying' w hu, asInt, asIntOf, wnew]⟩
      obtain ⟨rfl, rfl, hrun⟩ := key
      refine ⟨Instr.makeMap t (rv.map a.eval), fun w => by simp only [execOp, ho, Sem.run_bind, Sem.run_pure], .made _ _ _ (.map #[] 0) 0 (hrun w) (.map _ _ 0 0 (Mu.add_same _ _ _)) (Alike.refl _) fun hn => ⟨w.heap.size, 0, 0, #[], 0, Mu.add_same _ _ _, wnew_new _ _, ⟨⟨[], .refl _, .nil, .nil⟩, by simp, by simp, by simp, by simp⟩⟩⟩
  | makeSlice t x y =>
    rw [ho] at he e1; simp only [compOp, oMakeSlice] at he
    exact ⟨Instr.makeSlice t (a.eval x) (a.eval y), fun w => by simp only [execOp, ho, Sem.run_bind, Sem.run_pure], makeSlice_gives T (e1 (by simp [Op.operands])) (e1 (by simp [Op.operands])) (val2_some he)⟩
  | slice t x lo hi mx =>
    rw [ho] at he e1; simp only [compOp, oSlice] at he
    cases hc : (mx.isNone || hi.isSome) with
    | false => rw [hc] at he; cases he
    | true =>
      rw [hc] at he; simp only [Bool.not_true, cond_false] at he
      obtain ⟨hq, rfl⟩ := val_some he; clear he
      have hx : mx.map (ev tm) = none ∨ hi.map (ev tm) ≠ none := by
        cases mx with
        | none => exact .inl rfl
        | some m => cases hi with
          | none => simp at hc
          | some y => exact .inr (by simp)
      have op : ∀ z : Option Operand, (∀ y, z = some y → y ∈ (Op.slice t x lo hi mx).operands.toList) → OV μ (z.map (ev tm)) (z.map a.eval) := fun z hz => optR (fn := fn) H G fun y hy => hok y (by rw [ho]; exact hz y hy)
      refine ⟨Instr.sliceAt t (a.eval x) (lo.map a.eval) (hi.map a.eval) (mx.map a.eval), fun w => by simp only [execOp, ho, Sem.run_bind, Sem.run_pure],
        .of_run (slice_sound T hq (e1 (by simp [Op.operands])) (op lo ?_) (op hi ?_) (op mx ?_) hx w)⟩
      · intro y hy; subst hy; simp [Op.operands]
      · intro y hy; subst hy; simp [Op.operands]
      · intro y hy; subst hy; simp [Op.operands]
  | fieldAddr t x i =>
    rw [ho] at he e1; simp only [compOp, oFieldAddr] at he
    have hx := e1 (x := x) (by simp [Op.operands])
    refine ⟨Instr.fieldAt t (a.eval x) i, fun w => by simp only [execOp, ho, Sem.run_bind, Sem.run_pure], ?_⟩
    generalize ev tm x = xv at he hx
    generalize a.eval x = xv' at hx
    cases q : fieldE c t i with
    | none => rw [q] at he; simp at he
    | some p =>
      obtain ⟨o1, ag, s⟩ := p
      rw [q] at he
      cases xv <;> first | (simp at he; done) | skip
      simp only [] at he
      cases q2 : Nat.blt 0 s with
      | false => rw [q2] at he; cases he
      | true =>
        rw [q2] at he; simp only [cond_true, OR.val.injEq] at he
        obtain ⟨rfl, rfl⟩ := he
        exact .of_run (fieldAddr_sound T q (Nat.le_of_ble_eq_true q2) hx w)
  | field t x i =>
    rw [ho] at he e1; simp only [compOp, oField] at he
    have hx := e1 (x := x) (by simp [Op.operands])
    refine ⟨Instr.field t (a.eval x) i, fun w => by simp only [execOp, ho, Sem.run_bind, Sem.run_pure], ?_⟩
    generalize ev tm x = xv at he hx
    generalize a.eval x = xv' at hx
    cases q : fieldE c t i with
    | none => rw [q] at he; simp at he
    | some p =>
      obtain ⟨o1, ag, s⟩ := p
      rw [q] at he
      cases xv <;> first | (simp at he; done) | skip
      simp only [] at he
      obtain ⟨hq, rfl⟩ := val_some he; clear he
      exact .of_run (field_sound T q hx hq w)
  | indexAddr t x i =>
    rw [ho] at he e1; simp only [compOp, oIndexAddr] at he
    obtain ⟨hq, rfl⟩ := val_some he; clear he
    exact ⟨Instr.indexAt t (a.eval x) (a.eval i), fun w => by simp only [execOp, ho, Sem.run_bind, Sem.run_pure], .of_run (indexAddr_sound T hq (e1 (by simp [Op.operands])) (e1 (by simp [Op.operands])) w)⟩
  | index t x i =>
    rw [ho] at he e1; simp only [compOp, oIndex] at he
    obtain ⟨hq, rfl⟩ := val_some he; clear he
    exact ⟨Instr.index t (a.eval x) (a.eval i), fun w => by simp only [execOp, ho, Sem.run_bind, Sem.run_pure], .of_run (index_sound T hq (e1 (by simp [Op.operands])) (e1 (by simp [Op.operands])) w)⟩
  | lookup t m k ok =>
    rw [ho] at he e1 hk; simp only [compOp, oLookup] at he
    simp only [readsOf, Kind.looks.injEq] at hk; subst hk
    obtain ⟨hq, rfl⟩ := val_some he; clear he
    exact ⟨Instr.lookup t (a.eval m) (a.eval k) ok, fun w => by simp only [execOp, ho, Sem.run_bind, Sem.run_pure], .of_run (lookup_sound T M hq (e1 (by simp [Op.operands])) (e1 (by simp [Op.operands])) hV)⟩
  | range t x =>
    rw [ho] at he e1; simp only [compOp, oRange] at he
    have hx := e1 (x := x) (by simp [Op.operands])
    refine ⟨Instr.range t (a.eval x), fun w => by simp only [execOp, ho, Sem.run_bind, Sem.run_pure], ?_⟩
    generalize ev tm x = xv at he hx
    generalize a.eval x = xv' at hx
    cases q : und c t with
    | none => rw [q] at he; simp at he
    | some d =>
      rw [q] at he
      cases d <;> first | (simp at he; done) | skip
      cases xv <;> first | (simp at he; done) | skip
      simp only [Heap.next_eq, OR.val.injEq] at he
      obtain ⟨rfl, rfl⟩ := he
      exact range_gives T q hx
  | typeAssert x xt as ok =>
    rw [ho] at he e1; simp only [compOp, oAssert] at he
    have hx := e1 (x := x) (by simp [Op.operands])
    obtain ⟨hq, rfl⟩ := val_some he; clear he
    exact ⟨Instr.typeAssert (a.eval x) xt as ok, fun w => by simp only [execOp, ho, Sem.run_bind, Sem.run_pure], .of_run (assert_sound T hq hx w)⟩
  | extract x i =>
    rw [ho] at he e1; simp only [compOp, oExtract] at he
    have hx := e1 (x := x) (by simp [Op.operands])
    refine ⟨Instr.extract (a.eval x) i, fun w => by simp only [execOp, ho, Sem.run_bind, Sem.run_pure], ?_⟩
    generalize ev tm x = xv at he hx
    generalize a.eval x = xv' at hx
    cases hx <;> first | (simp at he; done) | skip
    rename_i cs vs hl
    simp only [] at he
    obtain ⟨hq, rfl⟩ := val_some he; clear he
    rw [nth_eq] at hq
    obtain ⟨v, v1, v2⟩ := hl.get _ _ hq
    refine .of_run ⟨v, ?_, v2⟩
    rw [Array.getElem?_toList] at v1
    simp [Instr.extract, v1]
  | call k =>
    rw [ho] at he hk; simp only [compOp] at he
    simp only [readsOf] at hk
    obtain ⟨callee, args, ts⟩ := k
    have hargs : VL μ (evL tm args.toList) (args.map a.eval).toList := by
      rw [Array.toList_map]; exact evL_R (fn := fn) H G fun x hx => hok x (by rw [ho]; simp only [Op.operands, Call.operands]; cases callee <;> simp [hx])
    cases callee <;> first | (simp [callReads] at hk; done) | skip
    rename_i b
    have hcall : (execOp a.eval o) = (do let d ← resolve a.eval ⟨.builtin b, args, ts⟩ o.type; invoke d.target d.args) := by simp only [execOp, ho]
    simp only [oCall, oBuiltin] at he
    generalize hA : evL tm args.toList = A at he hargs hk
    generalize hB : args.map a.eval = B at hargs
    cases b <;> first | (simp [callReads] at hk; done) | skip
    case len =>
      refine ⟨Builtin.len_ ts o.type B, fun w => by rw [hcall, ← hB]; simp [resolve, invoke, builtin], ?_⟩
      cases A with
      | nil => simp [builtinE] at he
      | cons x A =>
      cases A with
      | cons => simp [builtinE] at he
      | nil =>
      obtain ⟨v, hL, hxv⟩ : ∃ v, B.toList = [v] ∧ VR μ x v := by
        generalize B.toList = L at hargs
        cases hargs with
        | cons q1 q2 => cases q2; exact ⟨_, rfl, q1⟩
      have hB0 : B[0]? = some v := by rw [← Array.getElem?_toList, hL]; rfl
      simp only [builtinE] at he
      cases q0 : ts[0]? with
      | none => rw [q0] at he; simp at he
      | some t =>
        rw [q0] at he; simp only [] at he
        cases q1 : und c t with
        | none => rw [q1] at he; simp at he
        | some d =>
          rw [q1] at he
          have hu := T.und q1
          have run : ∀ w : World, (Builtin.len_ ts o.type B).run P w = (match d, v with
              | .string, .string s => (pure (goInt s.size) : Sem Value)
              | .array n _, _ => pure (goInt n)
              | .pointer arr, _ => do
                let .array n _ ← underlying arr | stuck "len: pointer to array expected"
                pure (goInt n)
              | .slice _, .slice _ n _ => pure (goInt n)
              | .map _ _, .map none | .chan _ _, .chan none => pure (goInt 0)
              | .map _ _, .map (some r) => do
                let .map entries _ ← getObj r | stuck "len: map expected"
                pure (goInt entries.size)
              | .chan _ _, .chan (some r) => do
                let .chan _ buf _ _ _ timer ← getObj r | stuck "len: channel expected"
                pure (goInt (if timer then 0 else buf.size))
              | _, _ => stuck "len: string, array, pointer to array, slice, map or channel expected").run P w := by
            intro w
            simp only [Builtin.len_, q0, hB0, Sem.run_bind, run_underlying' w hu, Result.andThen_ok]
            rfl
          cases d <;> first | (simp at he; done) | skip
          case string =>
            cases x <;> first | (simp at he; done) | skip
            cases hxv with
            | str s b hb =>
            simp only [OR.val.injEq] at he
            obtain ⟨rfl, rfl⟩ := he
            refine .of_run ⟨goInt b.size, by rw [run]; simp, ?_⟩
            rw [len_eq, ← hb, Array.length_toList]; exact .int _ _
          case slice el =>
            cases hxv <;> first | (simp at he; done) | skip
            all_goals
              simp only [OR.val.injEq] at he
              obtain ⟨rfl, rfl⟩ := he
              exact .of_run ⟨_, by rw [run]; simp; rfl, .int _ _⟩
          case map kt el =>
            cases x <;> first | (simp at he; done) | skip
            case nilm =>
              cases hxv
              simp only [OR.val.injEq] at he
              obtain ⟨rfl, rfl⟩ := he
              exact .of_run ⟨_, by rw [run]; simp; rfl, .int _ _⟩
            case map rr =>
              cases hxv with
              | map _ b base N hm =>
              simp only [] at he
              have hkl : l = [(rr, 0, whole)] := by
                simp only [callReads, hA] at hk
                simpa using hk.symm
              subst hkl
              cases q3 : h.get rr with
              | map kt' es =>
                rw [q3] at he; simp only [OR.val.injEq] at he
                obtain ⟨rfl, rfl⟩ := he
                obtain ⟨b', base', N', es', clock, hm', hb, hr⟩ := row_map M ⟨0, hV (rr, 0, whole) (by simp) 0 ⟨rfl, Nat.le_refl _, .inl (Nat.le_refl _)⟩⟩ q3
                rw [hm] at hm'; simp only [Option.some.injEq, Prod.mk.injEq] at hm'
                obtain ⟨rfl, rfl, rfl⟩ := hm'
                obtain ⟨es2, p1, p2, p3⟩ := hr.as
                have hlen : len es 0 = es'.size := by
                  have l1 := p2.length
                  simp only [List.length_map, Array.length_toList] at l1
                  rw [len_eq, ← p1.length_eq, l1]; rfl
                refine .of_run ⟨goInt es'.size, by rw [run]; simp [MapKept.run_getObj_map hb], ?_⟩
                rw [hlen]; exact .int _ _
              | _ => rw [q3] at he; simp at he
    case min =>
      refine ⟨Builtin.min_ ts o.type B, fun w => by rw [hcall, ← hB]; simp [resolve, invoke, builtin], ?_⟩
      cases A with
      | nil => simp [builtinE] at he
      | cons x A =>
        simp only [builtinE] at he
        obtain ⟨hq, rfl⟩ := val_some he; clear he
        generalize hL : B.toList = L at hargs
        cases hargs with
        | cons q1 q2 =>
        obtain ⟨u, u1, u2⟩ := fold_sound (P := P) (w := w) (fun h a b => min2_sound h a b w) hq q1 q2
        exact .of_run ⟨u, by simp only [Builtin.min_, hL]; exact u1, u2⟩
    case max =>
      refine ⟨Builtin.max_ ts o.type B, fun w => by rw [hcall, ← hB]; simp [resolve, invoke, builtin], ?_⟩
      cases A with
      | nil => simp [builtinE] at he
      | cons x A =>
        simp only [builtinE] at he
        obtain ⟨hq, rfl⟩ := val_some he; clear he
        generalize hL : B.toList = L at hargs
        cases hargs with
        | cons q1 q2 =>
        obtain ⟨u, u1, u2⟩ := fold_sound (P := P) (w := w) (fun h a b => max2_sound h a b w) hq q1 q2
        exact .of_run ⟨u, by simp only [Builtin.max_, hL]; exact u1, u2⟩
  | _ => rw [ho] at hk; simp [readsOf] at hk
end
end Go.E
