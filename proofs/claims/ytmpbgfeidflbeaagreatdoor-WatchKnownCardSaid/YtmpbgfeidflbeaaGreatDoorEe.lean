/- E is sound, part 4: regions that draw their order -/
import Derived.Test.YtmpbgfeidflbeaaGreatDoorEd
/-! E, soundness, part 30: regions that draw: what the loader has looked over; the run in the order of the text. -/
namespace Go.E
variable {c : Cfg} {P : Program}

/-! ### what the loader has looked over -/
theorem ahead_of_getD {b : Array Nat} {i j : Nat} (h : (b.getD j 0).testBit i = true) : ahead b i j = true := by
  unfold ahead
  rw [Array.getD_eq_getD_getElem?] at h
  cases e : b[j]? with
  | none => rw [e] at h; simp at h
  | some m => rw [e] at h; simpa using h
def putW (n : Nat) (w : Array (List (Tmp × Nat))) (p : Oper × Nat) : Array (List (Tmp × Nat)) :=
  match p.1.dst with
  | some d => w.modify (d % n) ((d, p.2) :: ·)
  | none => w
theorem putW_size (n : Nat) (w : Array (List (Tmp × Nat))) (p : Oper × Nat) : (putW n w p).size = w.size := by unfold putW; split <;> simp
theorem putW_keep (n : Nat) (w : Array (List (Tmp × Nat))) (p : Oper × Nat) (k : Nat) (x : Tmp × Nat) (h : x ∈ w.getD k []) : x ∈ (putW n w p).getD k [] := by
  unfold putW
  split
  · rename_i d _
    rw [Array.getD_eq_getD_getElem?, Array.getElem?_modify]
    rw [Array.getD_eq_getD_getElem?] at h
    by_cases e : d % n = k
    · subst e; rw [if_pos rfl]
      cases q : w[d % n]? with
      | none => rw [q] at h; simp at h
      | some l => rw [q] at h; simp at h ⊢; exact .inr h
    · rw [if_neg e]; exact h
  · exact h
theorem foldW_keep (n : Nat) : ∀ (l : List (Oper × Nat)) (w : Array (List (Tmp × Nat))) (k : Nat) (x : Tmp × Nat), x ∈ w.getD k [] → x ∈ (l.foldl (putW n) w).getD k []
  | [], _, _, _, h => h
  | p :: l, w, k, x, h => foldW_keep n l _ k x (putW_keep n w p k x h)
theorem foldW_mem (n : Nat) (hn : 0 < n) : ∀ (l : List (Oper × Nat)) (w : Array (List (Tmp × Nat))), w.size = n → ∀ (o : Oper) (i : Nat) (d : Tmp), (o, i) ∈ l → o.dst = some d → (d, i) ∈ (l.foldl (putW n) w).getD (d % n) []
  | [], _, _, _, _, _, h, _ => by simp at h
  | p :: l, w, hs, o, i, d, h, hd => by
    rcases List.mem_cons.1 h with rfl | h
    · refine foldW_keep n l _ _ _ ?_
      unfold putW; simp only [hd]
      rw [Array.getD_eq_getD_getElem?, Array.getElem?_modify, if_pos rfl]
      have : d % n < w.size := by rw [hs]; exact Nat.mod_lt _ hn
      simp [this]
    · exact foldW_mem n hn l _ (by rw [putW_size, hs]) o i d h hd
theorem temporaries {ops : Array Oper} {b : Array Nat} (h : Region.temporariesOk ops b = true) {i j : Nat} {oi oj : Oper} {t : Tmp} (hi : ops[i]? = some oi) (hd : oi.dst = some t) (hj : ops[j]? = some oj)
    (hn : oj.dst = some t ∨ Operand.tmp t ∈ oj.op.operands.toList) (hne : i ≠ j) : ahead b (min i j) (max i j) = true := by
  have hpos : 0 < ops.size := by have := (Array.getElem?_eq_some_iff.1 hi).1; omega
  have mem : ∀ {k : Nat} {o : Oper}, ops[k]? = some o → (o, k) ∈ ops.toList.zipIdx := fun {k o} hk => by
    rw [List.mem_zipIdx_iff_getElem?]; simpa using hk
  unfold Region.temporariesOk at h
  simp only [] at h
  have h1 := List.all_eq_true.1 h (oj, j) (mem hj)
  simp only [] at h1
  have h2 := List.all_eq_true.1 h1 t (by
    rcases hn with hn | hn
    · simp [hn]
    · refine List.mem_append_right _ (List.mem_filterMap.2 ⟨_, hn, rfl⟩))
  have hw : (t, i) ∈ (ops.toList.zipIdx.foldl (putW ops.size) (Array.replicate ops.size [])).getD (t % ops.size) [] := foldW_mem ops.size hpos _ _ (by simp) oi i t (mem hi) hd
  have h3 := List.all_eq_true.1 h2 (t, i) hw
  simp only [bne_self_eq_false, Bool.false_or, Bool.or_eq_true, beq_iff_eq] at h3
  rcases h3 with h3 | h3
  · exact absurd h3 hne
  · exact ahead_of_getD h3
structure RegOK (ops : Array Oper) : Prop where
  edge : ∀ (i : Nat) (o : Oper), ops[i]? = some o → ∀ e ∈ o.after.toList, Region.binds .any e = true → e.on < i
  guard : ∀ (i : Nat) (o : Oper) (j : Nat) (b : Bool), ops[i]? = some o → o.guard = some (j, b) → ∃ e ∈ o.after.toList, Region.binds .any e = true ∧ e.on = j
  temps : ∀ {i j : Nat} {oi oj : Oper} {t : Tmp}, ops[i]? = some oi → oi.dst = some t → ops[j]? = some oj → (oj.dst = some t ∨ Operand.tmp t ∈ oj.op.operands.toList) → i ≠ j → ahead (Region.before ops) (min i j) (max i j) = true
theorem RegOK.of {types : Array TypeInfo} {ops : Array Oper} {d : Bool} (h : Region.ok types ops d = true) : RegOK ops := by
  unfold Region.ok at h
  simp only [Bool.and_eq_true] at h
  obtain ⟨⟨⟨⟨h1, h2⟩, _⟩, _⟩, _⟩ := h
  have mem : ∀ {k : Nat} {o : Oper}, ops[k]? = some o → (o, k) ∈ ops.zipIdx.toList := fun {k o} hk => by
    rw [Array.toList_zipIdx, List.mem_zipIdx_iff_getElem?]; simpa using hk
  have g : ∀ {k : Nat} {o : Oper}, ops[k]? = some o → _ := fun {k o} hk => List.all_eq_true.1 (by rw [← Array.all_toList] at h1; exact h1) (o, k) (mem hk)
  refine ⟨fun i o hi e he hb => ?_, fun i o j b hi hg => ?_, fun hi hd hj hn hne => temporaries h2 hi hd hj hn hne⟩
  · have := g hi
    simp only [Bool.and_eq_true] at this
    have q := List.all_eq_true.1 (by have := this.1; rw [← Array.all_toList] at this; exact this) e he
    simp only [Bool.or_eq_true, decide_eq_true_eq] at q
    rcases q with q | q
    · exact q
    · exfalso
      cases hgr : e.ground <;> rw [hgr] at q <;> simp at q
      simp [Region.binds, hgr] at hb
  · have := g hi
    simp only [Bool.and_eq_true, hg] at this
    have q := this.2.1
    rw [← Array.any_toList] at q
    obtain ⟨e, he, q2⟩ := List.any_eq_true.1 q
    simp only [Bool.and_eq_true, beq_iff_eq] at q2
    exact ⟨e, he, q2.2, q2.1⟩
theorem ahead_lt {ops : Array Oper} (R : RegOK ops) : ∀ (j i : Nat), ahead (Region.before ops) i j = true → i < j := by
  intro j
  induction j using Nat.strongRecOn with
  | _ j ih =>
    intro i h
    obtain ⟨o, ho, e, e1, e2, e3⟩ := before_bit h
    have hlt := R.edge j o ho e e1 e2
    rcases e3 with e3 | ⟨_, e4⟩
    · omega
    · have := ih e.on hlt i e4; omega

/-! ### the run in the order of the text -/
def kindD (c : Cfg) (ls : Bool) (o : Op) (tm : T AV) : Kind :=
  match o with
  | .insert .. => bif ls then .ins else .any
  | o => readsOf c o tm
structure Rec where
  o : Oper
  tm : T AV
  size : Nat
  tr : T Row
  hide : List (Nat × Nat)
  ran : Bool
  k : Kind
  x : AV
  h' : Heap
def Rec.hp (r : Rec) : Heap := ⟨r.size, r.tr, r.size, [], r.hide⟩
def Rec.tm' (r : Rec) : T AV := (setOf r.o.dst).run r.tm r.x
/-- what an operation does at its place -/
structure RecOK (c : Cfg) (env : Env) (ops : Array Oper) (ls : Bool) (j : Nat) (r : Rec) : Prop where
  op : ops[j]? = some r.o
  ran : r.ran = wants ops r.o r.tm
  run : r.ran = true → (compOp c r.o.op).run env r.tm r.hp = .val r.x r.h'
  kd : r.ran = true → r.k = kindD c ls r.o.op r.tm
  skip : r.ran = false → r.x = undef ∧ r.h' = r.hp ∧ r.k = .looks []
  ins : r.ran = true → ls = true → ∀ t m y x, r.o.op = .insert t m y x → (oInsert c t m y x).run env r.tm r.hp = .val r.x r.h'
structure PairOK (bf : Array Nat) (i : Nat) (a : Rec) (j : Nat) (b : Rec) : Prop where
  cmp : ahead bf i j = false → compat ⟨a.k, a.h'.log⟩ ⟨b.k, b.h'.log⟩ = true
  hide : ahead bf i j = false → ∀ r, a.size ≤ r → r < a.h'.size → hidden r b.hide = true
structure HideOK (bf : Array Nat) (hide0 : List (Nat × Nat)) (Ts : List Rec) (hide : List (Nat × Nat)) : Prop where
  sub : ∀ r, hidden r hide0 = true → hidden r hide = true
  only : ∀ r, hidden r hide = true → hidden r hide0 = true ∨ ∃ (i : Nat) (a : Rec), Ts[i]? = some a ∧ ahead bf i Ts.length = false ∧ a.size ≤ r ∧ r < a.h'.size
inductive Dry (c : Cfg) (env : Env) (ops : Array Oper) (ls : Bool) (hide0 : List (Nat × Nat)) (tm0 : T AV) (size0 : Nat) (tr0 : T Row) : List Rec → T AV → Nat → T Row → Prop
  | nil : Dry c env ops ls hide0 tm0 size0 tr0 [] tm0 size0 tr0
  | snoc {Ts : List Rec} {r : Rec} (h : Dry c env ops ls hide0 tm0 size0 tr0 Ts r.tm r.size r.tr) (ok : RecOK c env ops ls Ts.length r) (pr : ∀ (i : Nat) (a : Rec), Ts[i]? = some a → PairOK (Region.before ops) i a Ts.length r)
      (hd : HideOK (Region.before ops) hide0 Ts r.hide) : Dry c env ops ls hide0 tm0 size0 tr0 (Ts ++ [r]) r.tm' r.h'.size r.h'.tr
def logs (mark : Nat) (log0 : List Rng) (Ts : List Rec) : List Rng := Ts.foldl (fun l r => below mark r.h'.log l) log0
theorem logs_snoc (mark : Nat) (log0 : List Rng) (Ts : List Rec) (r : Rec) : logs mark log0 (Ts ++ [r]) = below mark r.h'.log (logs mark log0 Ts) := by simp [logs]

def DsOK (Ts : List Rec) (ds : List Did) : Prop :=
  (∀ (i : Nat) (a : Rec), Ts[i]? = some a → (a.k = .looks [] ∧ a.h'.size ≤ a.size) ∨ ⟨i, ⟨a.k, a.h'.log⟩, a.size, a.h'.size⟩ ∈ ds) ∧
  (∀ d ∈ ds, ∃ a, Ts[d.i]? = some a ∧ d = ⟨d.i, ⟨a.k, a.h'.log⟩, a.size, a.h'.size⟩)
theorem hidden_hides {bf : Array Nat} {j r : Nat} : ∀ (ds : List Did) (l : List (Nat × Nat)), hidden r (hides bf j ds l) = true ↔ hidden r l = true ∨ ∃ d ∈ ds, ahead bf d.i j = false ∧ d.lo ≤ r ∧ r < d.hi
  | [], l => by simp [hides]
  | d :: ds, l => by
    rw [hides, hidden_hides ds]
    cases ha : ahead bf d.i j with
    | true => simp [ha]
    | false =>
      by_cases hl : d.hi ≤ d.lo
      · have : Nat.ble d.hi d.lo = true := Nat.ble_eq_true_of_le hl
        simp only [this, Bool.or_true, cond_true, List.mem_cons, exists_eq_or_imp]
        constructor
        · rintro (h | h)
          · exact .inl h
          · exact .inr (.inr h)
        · rintro (h | ⟨_, h1, h2⟩ | h)
          · exact .inl h
          · omega
          · exact .inr h
      · have : Nat.ble d.hi d.lo = false := by
          cases q : Nat.ble d.hi d.lo with
          | false => rfl
          | true => exact absurd (Nat.le_of_ble_eq_true q) hl
        simp only [this, Bool.or_false, cond_false, hidden, Bool.or_eq_true, Bool.and_eq_true, List.mem_cons, exists_eq_or_imp, ha, true_and]
        have e1 : Nat.ble d.lo r = true ↔ d.lo ≤ r := ⟨Nat.le_of_ble_eq_true, Nat.ble_eq_true_of_le⟩
        have e2 : Nat.blt r d.hi = true ↔ r < d.hi := ⟨Nat.le_of_ble_eq_true, Nat.ble_eq_true_of_le⟩
        rw [e1, e2]
        constructor
        · rintro ((h | h) | h)
          · exact .inr (.inl h)
          · exact .inl h
          · exact .inr (.inr h)
        · rintro (h | h | h)
          · exact .inl (.inr h)
          · exact .inl (.inl h)
          · exact .inr h
theorem fits_all {bf : Array Nat} {j : Nat} {fp : FP} : ∀ {ds : List Did}, fits bf j fp ds = true → ∀ d ∈ ds, ahead bf d.i j = true ∨ compat d.fp fp = true
  | [], _, d, hd => by simp at hd
  | x :: ds, h, d, hd => by
    rw [fits] at h
    cases e : (ahead bf x.i j || compat x.fp fp) with
    | false => rw [e] at h; cases h
    | true =>
      rw [e] at h; simp only [cond_true] at h
      rcases List.mem_cons.1 hd with rfl | hd
      · simpa using e
      · exact fits_all h d hd
theorem meets_nil : ∀ l : List Rng, meets l [] = false
  | [] => rfl
  | a :: l => by simp [meets, meets_nil l]
theorem compat_nil_left (w : List Rng) (b : FP) : compat ⟨.looks [], w⟩ b = true := by
  obtain ⟨k, w'⟩ := b
  cases k <;> simp [compat, meets_nil]
theorem compat_nil_right (a : FP) (w : List Rng) : compat a ⟨.looks [], w⟩ = true := by
  obtain ⟨k, w'⟩ := a
  cases k <;> simp [compat, meets_nil]
theorem mem_keep {d : Did} {ds : List Did} : (keep d ds = d :: ds) ∨ (keep d ds = ds ∧ d.fp.k = .looks [] ∧ d.hi ≤ d.lo) := by
  unfold keep
  split
  · rename_i e
    cases q : Nat.ble d.hi d.lo with
    | true => exact .inr ⟨rfl, e, Nat.le_of_ble_eq_true q⟩
    | false => exact .inl rfl
  · exact .inl rfl
theorem DsOK.snoc {Ts : List Rec} {ds : List Did} (D : DsOK Ts ds) (r : Rec) {ds' : List Did} (h : (ds' = ⟨Ts.length, ⟨r.k, r.h'.log⟩, r.size, r.h'.size⟩ :: ds) ∨ (ds' = ds ∧ r.k = .looks [] ∧ r.h'.size ≤ r.size)) : DsOK (Ts ++ [r]) ds' := by
  constructor
  · intro i a hi
    rw [List.getElem?_append] at hi
    by_cases hlt : i < Ts.length
    · rw [if_pos hlt] at hi
      rcases D.1 i a hi with q | q
      · exact .inl q
      · rcases h with h | ⟨h, _⟩ <;> rw [h]
        · exact .inr (List.mem_cons_of_mem _ q)
        · exact .inr q
    · rw [if_neg hlt] at hi
      have hi0 : i = Ts.length := by
        have := (List.getElem?_eq_some_iff.1 hi).1; simp at this; omega
      subst hi0; simp at hi; subst hi
      rcases h with h | ⟨_, h1, h2⟩
      · rw [h]; exact .inr (by simp)
      · exact .inl ⟨h1, h2⟩
  · intro d hd
    have old : d ∈ ds → ∃ a, (Ts ++ [r])[d.i]? = some a ∧ d = ⟨d.i, ⟨a.k, a.h'.log⟩, a.size, a.h'.size⟩ := fun hd => by
      obtain ⟨a, h1, h2⟩ := D.2 d hd
      exact ⟨a, by rw [List.getElem?_append_left (List.getElem?_eq_some_iff.1 h1).1]; exact h1, h2⟩
    rcases h with h | ⟨h, _⟩ <;> rw [h] at hd
    · rcases List.mem_cons.1 hd with rfl | hd
      · exact ⟨r, by simp, rfl⟩
      · exact old hd
    · exact old hd

theorem drawRun_inv {bf : Array Nat} {j n : Nat} {kd : T AV → Kind} {g : SO} {d : Setter AV} {k : SD} {tm : T AV} {size mark : Nat} {tr : T Row} {log : List Rng} {hide : List (Nat × Nat)} {df : List ADef} {pn : Option (AV × Bool)} {ds : List Did} {env : Env} {res : Ex × St}
    (h : drawRun bf j n kd g d k ⟨tm, ⟨size, tr, mark, log, hide⟩, df, pn⟩ ds env = some res) :
    (∃ x h', g.run env tm ⟨size, tr, size, [], hides bf j ds hide⟩ = .val x h' ∧ fits bf j ⟨kd tm, h'.log⟩ ds = true ∧
      k.run ⟨d.run tm x, ⟨h'.size, h'.tr, mark, below mark h'.log log, hide⟩, df, pn⟩ (keep ⟨j, ⟨kd tm, h'.log⟩, size, h'.size⟩ ds) env = some res) ∨
    (∃ v h', g.run env tm ⟨size, tr, size, [], hides bf j ds hide⟩ = .pan v h' ∧ single bf n j = true ∧ res = (.panic v, ⟨tm, ⟨h'.size, h'.tr, mark, below mark h'.log log, hide⟩, df, pn⟩)) := by
  simp only [drawRun] at h
  cases hg : g.run env tm ⟨size, tr, size, [], hides bf j ds hide⟩ with
  | val x h' =>
    obtain ⟨s', t', m', l', hd'⟩ := h'
    rw [hg] at h; simp only [drawVal] at h
    cases hf : fits bf j ⟨kd tm, l'⟩ ds with
    | false => rw [hf] at h; cases h
    | true => rw [hf] at h; exact .inl ⟨x, _, rfl, hf, h⟩
  | pan v h' =>
    obtain ⟨s', t', m', l', hd'⟩ := h'
    rw [hg] at h; simp only [] at h
    cases hf : single bf n j with
    | false => rw [hf] at h; cases h
    | true =>
      rw [hf] at h; simp only [cond_true, Option.some.injEq] at h
      exact .inr ⟨v, _, rfl, rfl, h.symm⟩
  | dfr d => rw [hg] at h; cases h
  | recov => rw [hg] at h; cases h
  | bad => rw [hg] at h; cases h
theorem find_upd {k v : AV} : ∀ {es : List (AV × AV)}, find k es = some none → upd k v es = some (es ++ [(k, v)])
  | [], _ => rfl
  | (a, u) :: es, h => by
    rw [find] at h
    rw [upd]
    cases e : keyEq k a with
    | none => rw [e] at h; cases h
    | some b =>
      rw [e] at h
      cases b with
      | true => simp at h
      | false => simp only [] at h ⊢; rw [find_upd h]; rfl
theorem oInsert_val {t : TypeId} {m y x : Operand} {env : Env} {tm : T AV} {h h' : Heap} {v : AV} (H : (oInsert c t m y x).run env tm h = .val v h') :
    ∃ kt r es, mapKey c t = some kt ∧ ev tm m = .map r ∧ h.get r = .map kt es ∧ keyOk c kt (ev tm y) = true ∧ find (ev tm y) es = some none ∧ v = undef ∧ h' = h.put r 0 whole (.map kt (es ++ [(ev tm y, ev tm x)])) := by
  simp only [oInsert] at H
  cases e1 : mapKey c t with
  | none => rw [e1] at H; cases H
  | some kt =>
    rw [e1] at H
    cases e2 : ev tm m <;> rw [e2] at H <;> (try simp only [] at H) <;> first | (cases H; done) | skip
    rename_i r
    cases e3 : h.get r <;> rw [e3] at H <;> (try simp only [] at H) <;> first | (cases H; done) | skip
    rename_i kt' es
    cases e4 : keyOk c kt (ev tm y) with
    | false => rw [e4] at H; simp at H
    | true =>
      cases e5 : Nat.beq kt kt' with
      | false => rw [e4, e5] at H; simp at H
      | true =>
        have := Nat.eq_of_beq_eq_true e5; subst this
        rw [e4, e5] at H; simp only [Bool.and_self, cond_true] at H
        cases e6 : find (ev tm y) es with
        | none => rw [e6] at H; cases H
        | some q =>
          cases q with
          | some _ => rw [e6] at H; cases H
          | none =>
            rw [e6] at H; simp only [OR.val.injEq] at H
            exact ⟨kt, r, es, rfl, rfl, e3, e4, e6, H.1.symm, H.2.symm⟩
theorem oUpdate_new {t : TypeId} {m y x : Operand} {env : Env} {tm : T AV} {h : Heap} {kt : TypeId} {r : Nat} {es : List (AV × AV)} (e1 : mapKey c t = some kt) (e2 : ev tm m = .map r) (e3 : h.get r = .map kt es) (e4 : keyOk c kt (ev tm y) = true) (e5 : find (ev tm y) es = some none) :
    (oUpdate c t m y x).run env tm h = .val undef (h.put r 0 whole (.map kt (es ++ [(ev tm y, ev tm x)]))) := by
  simp only [oUpdate, updateE, e1, e2, e3, e4, Nat.beq_refl, Bool.and_self, cond_true, find_upd e5, valH]
theorem oInsert_not_pan {t : TypeId} {m y x : Operand} {env : Env} {tm : T AV} {h h' : Heap} {v : AV} (H : (oInsert c t m y x).run env tm h = .pan v h') : False := by
  simp only [oInsert] at H
  split at H
  · split at H
    · rename_i kt' es _
      cases e : (keyOk c _ (ev tm y) && Nat.beq _ kt') with
      | false => rw [e] at H; cases H
      | true => rw [e] at H; simp only [cond_true] at H; split at H <;> cases H
    · cases H
  · cases H

/-- what an operation of a region is, when it is wanted -/
theorem drawK_inv {bf : Array Nat} {j n : Nat} {ls : Bool} {o : Oper} {k : SD} {tm : T AV} {size mark : Nat} {tr : T Row} {log : List Rng} {hide : List (Nat × Nat)} {df : List ADef} {pn : Option (AV × Bool)} {ds : List Did} {env : Env} {res : Ex × St}
    (h : (drawK c bf j n ls o k).run ⟨tm, ⟨size, tr, mark, log, hide⟩, df, pn⟩ ds env = some res) :
    (∃ x h' ds', (compOp c o.op).run env tm ⟨size, tr, size, [], hides bf j ds hide⟩ = .val x h' ∧ (ls = true → ∀ t m y z, o.op = .insert t m y z → (oInsert c t m y z).run env tm ⟨size, tr, size, [], hides bf j ds hide⟩ = .val x h') ∧
      (∀ d ∈ ds, ahead bf d.i j = true ∨ compat d.fp ⟨kindD c ls o.op tm, h'.log⟩ = true) ∧
      ((ds' = ⟨j, ⟨kindD c ls o.op tm, h'.log⟩, size, h'.size⟩ :: ds) ∨ (ds' = ds ∧ kindD c ls o.op tm = .looks [] ∧ h'.size ≤ size)) ∧
      k.run ⟨(setOf o.dst).run tm x, ⟨h'.size, h'.tr, mark, below mark h'.log log, hide⟩, df, pn⟩ ds' env = some res) ∨
    (∃ v h', (compOp c o.op).run env tm ⟨size, tr, size, [], hides bf j ds hide⟩ = .pan v h' ∧ single bf n j = true ∧ res = (.panic v, ⟨tm, ⟨h'.size, h'.tr, mark, below mark h'.log log, hide⟩, df, pn⟩) ∧ (ls = true → ∀ t m y z, o.op ≠ .insert t m y z)) := by
  refine @id ?G ?_
  have gen : ∀ (kd : T AV → Kind) (g : SO), kd tm = kindD c ls o.op tm → drawRun bf j n kd g (setOf o.dst) k ⟨tm, ⟨size, tr, mark, log, hide⟩, df, pn⟩ ds env = some res →
      (∀ x h', g.run env tm ⟨size, tr, size, [], hides bf j ds hide⟩ = .val x h' → (compOp c o.op).run env tm ⟨size, tr, size, [], hides bf j ds hide⟩ = .val x h' ∧ (ls = true → ∀ t m y z, o.op = .insert t m y z → (oInsert c t m y z).run env tm ⟨size, tr, size, [], hides bf j ds hide⟩ = .val x h')) →
      (∀ x h', g.run env tm ⟨size, tr, size, [], hides bf j ds hide⟩ = .pan x h' → (compOp c o.op).run env tm ⟨size, tr, size, [], hides bf j ds hide⟩ = .pan x h' ∧ (ls = true → ∀ t m y z, o.op ≠ .insert t m y z)) → ?G := by
    intro kd g hk hr h1 h2
    rcases drawRun_inv hr with ⟨x, h', q1, q2, q3⟩ | ⟨v, h', q1, q2, q3⟩
    · obtain ⟨r1, r2⟩ := h1 x h' q1
      rw [hk] at q2 q3
      refine .inl ⟨x, h', _, r1, r2, fits_all q2, ?_, q3⟩
      rcases mem_keep (d := ⟨j, ⟨kindD c ls o.op tm, h'.log⟩, size, h'.size⟩) (ds := ds) with q | ⟨q, qa, qb⟩
      · exact .inl q
      · exact .inr ⟨q, qa, qb⟩
    · obtain ⟨r1, r2⟩ := h2 v h' q1
      exact .inr ⟨v, h', r1, q2, q3, r2⟩
  have pure : ∀ (y : Operand), kindD c ls o.op tm = .looks [] → compOp c o.op = oMove y → (∀ t m u z, o.op ≠ .insert t m u z) → drawPure (compV y) (setOf o.dst) k ⟨tm, ⟨size, tr, mark, log, hide⟩, df, pn⟩ ds env = some res → ?G := by
    intro y hk hc hi hr
    refine .inl ⟨ev tm y, ⟨size, tr, size, [], hides bf j ds hide⟩, ds, by rw [hc]; rfl, fun _ t m u z e => absurd e (hi t m u z), fun d _ => .inr (by rw [hk]; exact compat_nil_right _ _), .inr ⟨rfl, hk, Nat.le_refl _⟩, hr⟩
  cases hop : o.op with
  | move y => rw [← hop]; exact pure y (by rw [hop]; rfl) (by rw [hop]; rfl) (by rw [hop]; intros; simp) (by rw [drawK, hop] at h; exact h)
  | assign y => rw [← hop]; exact pure y (by rw [hop]; rfl) (by rw [hop]; rfl) (by rw [hop]; intros; simp) (by rw [drawK, hop] at h; exact h)
  | insert t m y z =>
    rw [← hop]
    cases ls with
    | true =>
      refine gen (fun _ => .ins) (oInsert c t m y z) (by rw [hop]; rfl) (by rw [drawK, hop] at h; exact h) (fun x h' q => ?_) (fun x h' q => (oInsert_not_pan q).elim)
      obtain ⟨kt, r, es, a1, a2, a3, a4, a5, rfl, rfl⟩ := oInsert_val q
      refine ⟨by rw [hop]; exact oUpdate_new a1 a2 a3 a4 a5, fun _ t' m' y' z' e => ?_⟩
      rw [hop] at e; cases e; exact q
    | false =>
      refine gen (fun _ => .any) (oUpdate c t m y z) (by rw [hop]; rfl) (by rw [drawK, hop] at h; exact h) (fun x h' q => ⟨by rw [hop]; exact q, fun e => (by cases e)⟩) (fun x h' q => ⟨by rw [hop]; exact q, fun e => (by cases e)⟩)
  | _ =>
    rw [← hop]
    refine gen (readsOf c o.op) (compOp c o.op) (by rw [hop]; rfl) (by rw [drawK, hop] at h; rw [hop]; exact h) (fun x h' q => ⟨q, fun _ t m y z e => by rw [hop] at e; cases e⟩) (fun x h' q => ⟨q, fun _ t m y z e => by rw [hop] at e; cases e⟩)

/-- the operation with which a region is left -/
structure PanOK (c : Cfg) (env : Env) (ops : Array Oper) (ls : Bool) (hide0 : List (Nat × Nat)) (Ts : List Rec) (tm : T AV) (size : Nat) (tr : T Row) (o : Oper) (hide : List (Nat × Nat)) (v : AV) (h' : Heap) : Prop where
  op : ops[Ts.length]? = some o
  ran : wants ops o tm = true
  run : (compOp c o.op).run env tm ⟨size, tr, size, [], hide⟩ = .pan v h'
  hd : HideOK (Region.before ops) hide0 Ts hide
  one : single (Region.before ops) ops.size Ts.length = true
  ins : ls = true → ∀ t m y z, o.op ≠ .insert t m y z
theorem HideOK.hides {bf : Array Nat} {hide0 : List (Nat × Nat)} {Ts : List Rec} {ds : List Did} (D : DsOK Ts ds) : HideOK bf hide0 Ts (hides bf Ts.length ds hide0) := by
  constructor
  · intro r hr; exact (hidden_hides ds hide0).2 (.inl hr)
  · intro r hr
    rcases (hidden_hides ds hide0).1 hr with h | ⟨d, hd, h1, h2, h3⟩
    · exact .inl h
    · obtain ⟨a, a1, a2⟩ := D.2 d hd
      rw [a2] at h2 h3
      exact .inr ⟨d.i, a, a1, h1, h2, h3⟩
theorem draw_inv {ops : Array Oper} {ls : Bool} {env : Env} {mark : Nat} {hide0 : List (Nat × Nat)} {df : List ADef} {pn : Option (AV × Bool)} {tm0 : T AV} {size0 : Nat} {tr0 : T Row} {log0 : List Rng} {res : Ex × St} :
    ∀ (l : List Oper) (ds : List Did) (Ts : List Rec) (tm : T AV) (size : Nat) (tr : T Row), ops.toList.drop Ts.length = l → Dry c env ops ls hide0 tm0 size0 tr0 Ts tm size tr → DsOK Ts ds →
      (compDraw c ops (Region.before ops) ops.size ls l Ts.length).run ⟨tm, ⟨size, tr, mark, logs mark log0 Ts, hide0⟩, df, pn⟩ ds env = some res →
      (∃ Ts' tm' size' tr', Dry c env ops ls hide0 tm0 size0 tr0 Ts' tm' size' tr' ∧ Ts'.length = ops.size ∧ res = (.normal, ⟨tm', ⟨size', tr', mark, logs mark log0 Ts', hide0⟩, df, pn⟩)) ∨
      (∃ Ts' tm' size' tr' o hide v h', Dry c env ops ls hide0 tm0 size0 tr0 Ts' tm' size' tr' ∧ PanOK c env ops ls hide0 Ts' tm' size' tr' o hide v h' ∧ res = (.panic v, ⟨tm', ⟨h'.size, h'.tr, mark, below mark h'.log (logs mark log0 Ts'), hide0⟩, df, pn⟩)) := by
  intro l
  induction l with
  | nil =>
    intro ds Ts tm size tr hl D _ hr
    simp only [compDraw, Option.some.injEq] at hr
    refine .inl ⟨Ts, tm, size, tr, D, ?_, hr.symm⟩
    have hle : Ts.length ≤ ops.size := by
      clear hr hl
      generalize hT : Ts = Ts' at D
      cases D with
      | nil => simp
      | snoc h ok pr hd => have := (Array.getElem?_eq_some_iff.1 ok.op).1; simp; omega
    have := congrArg List.length hl; simp at this; omega
  | cons o rest ih =>
    intro ds Ts tm size tr hl D Ds hr
    obtain ⟨h1, h2, h3⟩ := region_cons hl
    have hide_eq := HideOK.hides (bf := Region.before ops) (hide0 := hide0) Ds
    refine @id ?G ?_
    -- the next state
    have go : ∀ (r : Rec) (ds' : List Did), r.o = o → r.tm = tm → r.size = size → r.tr = tr → r.hide = hides (Region.before ops) Ts.length ds hide0 → RecOK c env ops ls Ts.length r →
        (∀ d ∈ ds, ahead (Region.before ops) d.i Ts.length = true ∨ compat d.fp ⟨r.k, r.h'.log⟩ = true) →
        ((ds' = ⟨Ts.length, ⟨r.k, r.h'.log⟩, r.size, r.h'.size⟩ :: ds) ∨ (ds' = ds ∧ r.k = .looks [] ∧ r.h'.size ≤ r.size)) →
        (compDraw c ops (Region.before ops) ops.size ls rest (Ts.length + 1)).run ⟨r.tm', ⟨r.h'.size, r.h'.tr, mark, below mark r.h'.log (logs mark log0 Ts), hide0⟩, df, pn⟩ ds' env = some res → ?G := by
      intro r ds' ho ht hs htr hh ok hfit hds hrun
      subst ht; subst hs; subst htr
      have D' : Dry c env ops ls hide0 tm0 size0 tr0 (Ts ++ [r]) r.tm' r.h'.size r.h'.tr := by
        refine .snoc D ok (fun i a hi => ⟨fun ha => ?_, fun ha x hx hx' => ?_⟩) (by rw [hh]; exact hide_eq)
        · rcases Ds.1 i a hi with ⟨q, _⟩ | q
          · rw [q]; exact compat_nil_left _ _
          · rcases hfit _ q with q' | q'
            · simp only [] at q'; rw [ha] at q'; cases q'
            · exact q'
        · rcases Ds.1 i a hi with ⟨_, q⟩ | q
          · omega
          · rw [hh]; exact (hidden_hides ds hide0).2 (.inr ⟨_, q, ha, hx, hx'⟩)
      have := ih ds' (Ts ++ [r]) r.tm' r.h'.size r.h'.tr (by rw [List.length_append]; exact h2) D' (Ds.snoc r hds) (by rw [logs_snoc, List.length_append]; exact hrun)
      exact this
    have main : wants ops o tm = true → (drawK c (Region.before ops) Ts.length ops.size ls o (compDraw c ops (Region.before ops) ops.size ls rest (Ts.length + 1))).run ⟨tm, ⟨size, tr, mark, logs mark log0 Ts, hide0⟩, df, pn⟩ ds env = some res → ?G := by
      intro hw hk
      rcases drawK_inv hk with ⟨x, h', ds', q1, q2, q3, q4, q5⟩ | ⟨v, h', q1, q2, q3, q4⟩
      · exact go ⟨o, tm, size, tr, hides (Region.before ops) Ts.length ds hide0, true, kindD c ls o.op tm, x, h'⟩ ds' rfl rfl rfl rfl rfl
          ⟨h1, hw.symm, fun _ => q1, fun _ => rfl, fun e => (by cases e), fun _ => q2⟩ q3 q4 q5
      · exact .inr ⟨Ts, tm, size, tr, o, _, v, h', D, ⟨h1, hw, q1, hide_eq, q2, q4⟩, q3⟩
    simp only [compDraw, drawO] at hr
    cases hgd : o.guard with
    | none => rw [hgd] at hr; simp only [] at hr; exact main (by simp [wants, hgd]) hr
    | some g =>
      rw [hgd] at hr; simp only [drawGuard] at hr
      cases hw : wants ops o tm with
      | true => rw [hw] at hr; simp only [] at hr; exact main hw hr
      | false =>
        rw [hw] at hr; simp only [] at hr
        exact go ⟨o, tm, size, tr, hides (Region.before ops) Ts.length ds hide0, false, .looks [], undef, ⟨size, tr, size, [], hides (Region.before ops) Ts.length ds hide0⟩⟩ ds rfl rfl rfl rfl rfl
          ⟨h1, hw.symm, fun e => (by cases e), fun e => (by cases e), fun _ => ⟨rfl, rfl, rfl⟩, fun e => (by cases e)⟩ (fun d _ => .inr (compat_nil_right _ _)) (.inr ⟨rfl, rfl, Nat.le_refl _⟩) hr
end Go.E
/-! E, soundness, part 31: regions that draw: the run in the order of the text is sound. -/
namespace Go.E
variable {c : Cfg} {P : Program} {μ μ' : Mu} {h h' : Heap} {w w' : World}

theorem below_spec (mark : Nat) : ∀ (l L : List Rng), ∃ n, below mark l L = n ++ L ∧ ∀ a ∈ l, a.1 < mark → a ∈ n
  | [], L => ⟨[], rfl, by simp⟩
  | r :: rs, L => by
    rw [below]
    obtain ⟨n, h1, h2⟩ := below_spec mark rs (bif Nat.blt r.1 mark then r :: L else L)
    cases e : Nat.blt r.1 mark with
    | true =>
      rw [e] at h1
      refine ⟨n ++ [r], by rw [h1]; simp, fun a ha hm => ?_⟩
      rcases List.mem_cons.1 ha with rfl | ha
      · simp
      · simp [h2 a ha hm]
    | false =>
      rw [e] at h1
      refine ⟨n, by rw [h1]; rfl, fun a ha hm => ?_⟩
      rcases List.mem_cons.1 ha with rfl | ha
      · have : Nat.blt a.1 mark = true := Nat.ble_eq_true_of_le hm
        rw [this] at e; cases e
      · exact h2 a ha hm
theorem hget (s m : Nat) (t : T Row) (l : List Rng) (hd : List (Nat × Nat)) (r : Nat) : (⟨s, t, m, l, hd⟩ : Heap).get r = if hidden r hd = true then .dead else T.get .dead t r := Heap.get_eq _ _
theorem HG.lift {size mark : Nat} {tr : T Row} {hide hide0 : List (Nat × Nat)} {L : List Rng} (H : HG ⟨size, tr, size, [], hide⟩ h') (hsub : ∀ r, hidden r hide0 = true → hidden r hide = true) (hm : mark ≤ size) :
    HG ⟨size, tr, mark, L, hide0⟩ ⟨h'.size, h'.tr, mark, below mark h'.log L, hide0⟩ := by
  have e' : ∀ r, hidden r hide = false → h'.get r = T.get .dead h'.tr r := fun r hr => by rw [Heap.get_eq, if_neg]; rw [H.hide]; simp [hr]
  have e0 : ∀ r, hidden r hide = false → (⟨size, tr, size, [], hide⟩ : Heap).get r = T.get .dead tr r := fun r hr => by rw [hget, if_neg]; simp [hr]
  have cases' : ∀ (p : Row → Prop), (∀ r, r < size → p (h'.get r) → p ((⟨size, tr, size, [], hide⟩ : Heap).get r)) → ∀ r, r < size → ¬ hidden r hide0 = true → p (T.get .dead h'.tr r) → p (T.get .dead tr r) := by
    intro p hp r hr hh ho
    cases q : hidden r hide with
    | true => rw [H.hid r q] at ho; exact ho
    | false =>
      rw [← e' r q] at ho
      have := hp r hr ho
      rwa [e0 r q] at this
  refine ⟨fun r hr ho => ?_, H.rows, rfl, rfl, fun r cs e => ?_, fun r hr => H.hid r (hsub r hr), ?_, fun r hr ho => ?_⟩
  · rw [hget] at ho ⊢
    by_cases q : hidden r hide0 = true
    · rw [if_pos q] at ho; exact ho.elim
    · rw [if_neg q] at ho ⊢; exact cases' Row.own H.own r hr q ho
  · rw [hget] at e ⊢
    by_cases q : hidden r hide0 = true
    · rw [if_pos q] at e; cases e
    · rw [if_neg q] at e ⊢
      cases q2 : hidden r hide with
      | true => rw [H.hid r q2]; exact e
      | false => rw [← e' r q2]; exact H.ro r cs (by rw [e0 r q2]; exact e)
  · obtain ⟨new, n1, n2⟩ := H.told
    obtain ⟨n, b1, b2⟩ := below_spec mark h'.log L
    refine ⟨n, b1, fun r hr i hn => ?_⟩
    refine n2 r (Nat.lt_of_lt_of_le hr hm) i fun a ha hin => hn a (b2 a ?_ ?_) hin
    · rw [n1]; simp [ha]
    · rw [hin.1]; exact hr
  · rw [hget] at ho ⊢
    by_cases q : hidden r hide0 = true
    · rw [if_pos q] at ho; exact ho.elim
    · rw [if_neg q] at ho ⊢; exact cases' Row.live H.live r hr q ho

/-- what is known of an operation's run -/
structure RecSem (c : Cfg) (P : Program) (f : FuncId) (r : Rec) : Prop where
  M : ∃ μ w tmps, Models c P All μ r.hp w ∧ TmR P f μ r.tm tmps
  hg : HG r.hp r.h'
  looks : ∀ l, r.k = .looks l → r.h' = r.hp ∨ ∃ x, r.h' = r.hp.new x

theorem TmR.low {f : FuncId} {tm : T AV} {tmps : Array Value} (H : TmR P f μ tm tmps) {n : Nat} (hd : ∀ r, n ≤ r → μ r = none) : TmR P f (μ.below n) tm tmps := ⟨H.1, fun i => (H.2 i).cut hd (H.2 i)⟩
theorem GlobR.low (G : GlobR P μ) {n : Nat} (hd : ∀ r, n ≤ r → μ r = none) : GlobR P (μ.below n) := fun g hg => let ⟨N, e⟩ := G g hg; ⟨N, Mu.below_some hd e e⟩

theorem kind_looks {ls : Bool} {o : Op} {tm : T AV} {l : List Rng} (h : kindD c ls o tm = .looks l) : readsOf c o tm = .looks l := by
  cases o <;> first | exact h | skip
  cases ls <;> cases h

section
variable {env : Env} {b : Frame} {fn : Func} {ops : Array Oper} {ls : Bool} {hide0 : List (Nat × Nat)} {tm0 : T AV} {size0 : Nat} {tr0 : T Row} {mark : Nat} {log0 : List Rng} {μ0 : Mu} {w0 : World} {a0 : Act}

theorem dry_sound (X : CtxR c P env b fn) (hop : ∀ (j : Nat) (o : Oper), ops[j]? = some o → OkOper P fn o) (M0 : Models c P All μ0 ⟨size0, tr0, mark, log0, hide0⟩ w0) (H0 : TmR P b.fn μ0 tm0 a0.tmps) (G0 : GlobR P μ0)
    {Ts : List Rec} {tm : T AV} {size : Nat} {tr : T Row} (D : Dry c env ops ls hide0 tm0 size0 tr0 Ts tm size tr) :
    (∃ μ w a, Models c P All μ ⟨size, tr, mark, logs mark log0 Ts, hide0⟩ w ∧ TmR P b.fn μ tm (Act.tmps a) ∧ GlobR P μ) ∧ HG ⟨size0, tr0, mark, log0, hide0⟩ ⟨size, tr, mark, logs mark log0 Ts, hide0⟩ ∧
    ∀ (i : Nat) (r : Rec), Ts[i]? = some r → RecSem c P b.fn r ∧ size0 ≤ r.size ∧ r.h'.size ≤ size := by
  induction D with
  | nil => exact ⟨⟨μ0, w0, a0, M0, H0, G0⟩, HG.refl _, by simp⟩
  | @snoc Ts r D ok pr hd ih =>
    obtain ⟨⟨μ, w, a, M, H, G⟩, HGs, sem⟩ := ih
    have hrows : size0 ≤ r.size := HGs.rows
    have hmark : mark ≤ r.size := M.mark
    have hhid : ∀ x, hidden x r.hp.hide = true → x < r.size := fun x hx => by
      rcases hd.only x hx with q | ⟨i, a, q1, _, _, q2⟩
      · exact M.hid x q
      · have := (sem i a q1).2.2; omega
    have hsubF : ∀ x, hidden x r.hide = false → ¬ hidden x hide0 = true := fun x hx q => by have := hd.sub x q; rw [hx] at this; cases this
    have eH : ∀ x, hidden x r.hide = false → (⟨r.size, r.tr, mark, logs mark log0 Ts, hide0⟩ : Heap).get x = T.get .dead r.tr x := fun x hx => by rw [hget, if_neg (hsubF x hx)]
    have ehp : ∀ x, hidden x r.hide = false → r.hp.get x = T.get .dead r.tr x := fun x hx => by unfold Rec.hp; rw [hget, if_neg (by simp [hx])]
    have Mh : Models c P All (μ.below r.hp.size) r.hp w := by
      refine M.part (fun x hl => ?_) rfl hhid (Nat.le_refl _)
      cases q : hidden x r.hide with
      | true => rw [get_hidden (h := r.hp) q] at hl; exact hl.elim
      | false => rw [ehp x q, eH x q]
    have Ht : TmR P b.fn (μ.below r.hp.size) r.tm a.tmps := H.low M.dom
    have Gl : GlobR P (μ.below r.hp.size) := G.low M.dom
    have hok := hop _ _ ok.op
    refine @id ?G ?_
    have fin : ∀ (SEM : RecSem c P b.fn r) (μ2 : Mu) (w2 : World) (a2 : Act), Models c P All μ2 ⟨r.h'.size, r.h'.tr, mark, logs mark log0 (Ts ++ [r]), hide0⟩ w2 → TmR P b.fn μ2 r.tm' a2.tmps → GlobR P μ2 → ?G := by
      intro SEM μ2 w2 a2 m1 m2 m3
      refine ⟨⟨μ2, w2, a2, m1, m2, m3⟩, ?_, fun i x hi => ?_⟩
      · rw [logs_snoc]
        exact HGs.trans (HG.lift SEM.hg hd.sub hmark)
      · rw [List.getElem?_append] at hi
        have hrs : r.size ≤ r.h'.size := SEM.hg.rows
        by_cases hlt : i < Ts.length
        · rw [if_pos hlt] at hi
          obtain ⟨q1, q2, q3⟩ := sem i x hi
          exact ⟨q1, q2, by omega⟩
        · rw [if_neg hlt] at hi
          have hi0 : i - Ts.length = 0 := by
            have := (List.getElem?_eq_some_iff.1 hi).1; simp at this; omega
          rw [hi0] at hi; simp at hi; subst hi
          exact ⟨SEM, hrows, Nat.le_refl _⟩
    cases hran : r.ran with
    | false =>
      obtain ⟨k1, k2, k3⟩ := ok.skip hran
      have SEM : RecSem c P b.fn r := ⟨⟨_, w, _, Mh, Ht⟩, by rw [k2]; exact HG.refl _, fun l _ => .inl k2⟩
      refine fin SEM μ w (a.put r.o.dst Go.undef) ?_ ?_ G
      · rw [logs_snoc, k2]; exact M
      · unfold Rec.tm'; rw [k1]; exact H.put X.fn hok.dst (undef_R _)
    | true =>
      have hrun := ok.run hran
      have OP := op_sound (o := r.o) X.K X.En Mh Ht Gl hok.opnd
      rw [hrun] at OP
      obtain ⟨v, w', μ', hv, M', Gs⟩ := OpRes.some OP
      have SEM : RecSem c P b.fn r := by
        refine ⟨⟨_, w, _, Mh, Ht⟩, Gs.hg, fun l hl => ?_⟩
        have hk : readsOf c r.o.op r.tm = .looks l := kind_looks (by rw [← ok.kd hran]; exact hl)
        obtain ⟨S, _, s2⟩ := opR_sound X.K.T Mh Ht Gl hok.opnd hk (fun _ _ _ _ => trivial) hrun
        generalize r.h' = h2 at s2
        cases s2 with
        | pure v w' hr hv hw => exact .inl rfl
        | made v w' x o N hr hv hw hx => exact .inr ⟨x, rfl⟩
      have gh' : ∀ x, hidden x r.hide = false → r.h'.get x = T.get .dead r.h'.tr x := fun x hx => by
        rw [Heap.get_eq, if_neg]; rw [Gs.hide]; show ¬ hidden x r.hide = true; simp [hx]
      have F := frame (H := ⟨r.size, r.tr, mark, logs mark log0 Ts, hide0⟩) (H' := ⟨r.h'.size, r.h'.tr, mark, logs mark log0 (Ts ++ [r]), hide0⟩) M Mh
        (fun x hx => by rw [ehp x hx.2, eH x hx.2])
        (fun x h1 _ => ⟨M.dom x h1, M.dead x h1⟩) M' Gs
        (fun x hx => by
          have q : hidden x r.hide = false := hx.2
          rw [gh' x q, hget, if_neg (hsubF x q)])
        (fun x hx => by
          by_cases q0 : hidden x hide0 = true
          · rw [hget, hget, if_pos q0, if_pos q0]
          · rw [hget, hget, if_neg q0, if_neg q0]
            cases q : hidden x r.hide with
            | true => exact Gs.hid x q
            | false =>
              have hge : r.h'.size ≤ x := by
                rcases Nat.lt_or_ge x r.h'.size with q2 | q2
                · exact absurd ⟨q2, q⟩ hx
                · exact q2
              have d1 := M'.dead x hge
              rw [gh' x q] at d1
              have d2 := M.dead x (Nat.le_trans Gs.rows hge)
              rw [eH x q] at d2
              rw [d1, d2])
        Gs.rows (Nat.le_refl _) rfl (Nat.le_trans hmark Gs.rows)
      obtain ⟨f1, f2, f3⟩ := F
      refine fin SEM _ w' (a.put r.o.dst v) f1 ?_ (G.mono f2.le)
      exact (H.mono f2.le).put X.fn hok.dst (hv.mono f3)
end
end Go.E
/-! E, soundness, part 32: regions that draw: any order. -/
namespace Go.E
variable {c : Cfg} {P : Program} {μ μ' : Mu} {h h' : Heap} {w w' : World}

/-! ### places in the run -/
def tmAt (Ts : List Rec) (e : T AV) (q : Nat) : T AV := match Ts[q]? with | some r => r.tm | none => e
def sizeAt (Ts : List Rec) (e : Nat) (q : Nat) : Nat := match Ts[q]? with | some r => r.size | none => e
def trAt (Ts : List Rec) (e : T Row) (q : Nat) : T Row := match Ts[q]? with | some r => r.tr | none => e
theorem tmAt_some {Ts : List Rec} {e : T AV} {q : Nat} {r : Rec} (h : Ts[q]? = some r) : tmAt Ts e q = r.tm := by unfold tmAt; rw [h]
theorem sizeAt_some {Ts : List Rec} {e : Nat} {q : Nat} {r : Rec} (h : Ts[q]? = some r) : sizeAt Ts e q = r.size := by unfold sizeAt; rw [h]
theorem trAt_some {Ts : List Rec} {e : T Row} {q : Nat} {r : Rec} (h : Ts[q]? = some r) : trAt Ts e q = r.tr := by unfold trAt; rw [h]
theorem tmAt_end {Ts : List Rec} {e : T AV} : tmAt Ts e Ts.length = e := by unfold tmAt; simp
theorem sizeAt_end {Ts : List Rec} {e : Nat} : sizeAt Ts e Ts.length = e := by unfold sizeAt; simp
theorem trAt_end {Ts : List Rec} {e : T Row} : trAt Ts e Ts.length = e := by unfold trAt; simp

/-- what is known of the run as a whole -/
structure Run (c : Cfg) (P : Program) (env : Env) (f : FuncId) (fn : Func) (ops : Array Oper) (ls : Bool) (hide0 : List (Nat × Nat)) (tm0 : T AV) (size0 : Nat) (tr0 : T Row) (Ts : List Rec) (tmE : T AV) (sizeE : Nat) (trE : T Row) : Prop where
  z1 : tmAt Ts tmE 0 = tm0
  z2 : sizeAt Ts sizeE 0 = size0
  z3 : trAt Ts trE 0 = tr0
  n1 : ∀ (i : Nat) (r : Rec), Ts[i]? = some r → tmAt Ts tmE (i + 1) = r.tm'
  n2 : ∀ (i : Nat) (r : Rec), Ts[i]? = some r → sizeAt Ts sizeE (i + 1) = r.h'.size
  n3 : ∀ (i : Nat) (r : Rec), Ts[i]? = some r → trAt Ts trE (i + 1) = r.h'.tr
  ok : ∀ (i : Nat) (r : Rec), Ts[i]? = some r → RecOK c env ops ls i r
  pr : ∀ (i j : Nat) (a r : Rec), Ts[i]? = some a → Ts[j]? = some r → i < j → PairOK (Region.before ops) i a j r
  hs : ∀ (j : Nat) (r : Rec), Ts[j]? = some r → ∀ x, hidden x hide0 = true → hidden x r.hide = true
  ho : ∀ (j : Nat) (r : Rec), Ts[j]? = some r → ∀ x, hidden x r.hide = true → hidden x hide0 = true ∨ ∃ (i : Nat) (a : Rec), Ts[i]? = some a ∧ i < j ∧ ahead (Region.before ops) i j = false ∧ a.size ≤ x ∧ x < a.h'.size
  sem : ∀ (i : Nat) (r : Rec), Ts[i]? = some r → RecSem c P f r
  le : Ts.length ≤ ops.size

section
variable {env : Env} {f : FuncId} {fn : Func} {ops : Array Oper} {ls : Bool} {hide0 : List (Nat × Nat)} {tm0 : T AV} {size0 : Nat} {tr0 : T Row} {Ts : List Rec} {tmE : T AV} {sizeE : Nat} {trE : T Row}
theorem at_snoc {α : Type} {Ts : List Rec} {r : Rec} {i : Nat} (g : Rec → α) (e e' : α) (he : e = g r) (hi : i ≤ Ts.length) : (match (Ts ++ [r])[i]? with | some r => g r | none => e') = (match Ts[i]? with | some r => g r | none => e) := by
  rcases Nat.lt_or_ge i Ts.length with h | h
  · rw [List.getElem?_append_left h, List.getElem?_eq_getElem h]
  · have : i = Ts.length := by omega
    subst this; simp [he]
theorem Run.of (D : Dry c env ops ls hide0 tm0 size0 tr0 Ts tmE sizeE trE) (sem : ∀ (i : Nat) (r : Rec), Ts[i]? = some r → RecSem c P f r) : Run c P env f fn ops ls hide0 tm0 size0 tr0 Ts tmE sizeE trE := by
  induction D with
  | nil => exact ⟨by simp [tmAt], by simp [sizeAt], by simp [trAt], by simp, by simp, by simp, by simp, by simp, by simp, by simp, by simp, by simp⟩
  | @snoc Ts r D ok pr hd ih =>
    have sem' : ∀ (i : Nat) (x : Rec), Ts[i]? = some x → RecSem c P f x := fun i x hi => sem i x (by rw [List.getElem?_append_left (List.getElem?_eq_some_iff.1 hi).1]; exact hi)
    have R := ih sem'
    have last : (Ts ++ [r])[Ts.length]? = some r := by simp
    have split : ∀ {i : Nat} {x : Rec}, (Ts ++ [r])[i]? = some x → (Ts[i]? = some x ∧ i < Ts.length) ∨ (i = Ts.length ∧ x = r) := fun {i x} hi => by
      rcases Nat.lt_or_ge i Ts.length with q | q
      · rw [List.getElem?_append_left q] at hi; exact .inl ⟨hi, q⟩
      · have h1 := (List.getElem?_eq_some_iff.1 hi).1
        simp at h1
        have : i = Ts.length := by omega
        subst this; rw [last] at hi; exact .inr ⟨rfl, by simpa using hi.symm⟩
    refine ⟨?_, ?_, ?_, fun i x hi => ?_, fun i x hi => ?_, fun i x hi => ?_, fun i x hi => ?_, fun i j a x hi hj hij => ?_, fun j x hj => ?_, fun j x hj y hy => ?_, sem, ?_⟩
    · exact (at_snoc Rec.tm r.tm r.tm' rfl (Nat.zero_le _)).trans R.z1
    · exact (at_snoc Rec.size r.size r.h'.size rfl (Nat.zero_le _)).trans R.z2
    · exact (at_snoc Rec.tr r.tr r.h'.tr rfl (Nat.zero_le _)).trans R.z3
    · rcases split hi with ⟨q, ql⟩ | ⟨rfl, rfl⟩
      · exact (at_snoc Rec.tm r.tm r.tm' rfl ql).trans (R.n1 i x q)
      · simp [tmAt]
    · rcases split hi with ⟨q, ql⟩ | ⟨rfl, rfl⟩
      · exact (at_snoc Rec.size r.size r.h'.size rfl ql).trans (R.n2 i x q)
      · simp [sizeAt]
    · rcases split hi with ⟨q, ql⟩ | ⟨rfl, rfl⟩
      · exact (at_snoc Rec.tr r.tr r.h'.tr rfl ql).trans (R.n3 i x q)
      · simp [trAt]
    · rcases split hi with ⟨q, ql⟩ | ⟨rfl, rfl⟩
      · exact R.ok i x q
      · exact ok
    · rcases split hj with ⟨q, ql⟩ | ⟨rfl, rfl⟩
      · rcases split hi with ⟨q', _⟩ | ⟨rfl, _⟩
        · exact R.pr i j a x q' q hij
        · omega
      · rcases split hi with ⟨q', _⟩ | ⟨rfl, _⟩
        · exact pr i a q'
        · omega
    · rcases split hj with ⟨q, ql⟩ | ⟨rfl, rfl⟩
      · exact R.hs j x q
      · exact hd.sub
    · rcases split hj with ⟨q, ql⟩ | ⟨rfl, rfl⟩
      · rcases R.ho j x q y hy with r1 | ⟨i, a, r1, r2⟩
        · exact .inl r1
        · exact .inr ⟨i, a, by rw [List.getElem?_append_left (List.getElem?_eq_some_iff.1 r1).1]; exact r1, r2⟩
      · rcases hd.only y hy with r1 | ⟨i, a, r1, r2⟩
        · exact .inl r1
        · exact .inr ⟨i, a, by rw [List.getElem?_append_left (List.getElem?_eq_some_iff.1 r1).1]; exact r1, (List.getElem?_eq_some_iff.1 r1).1, r2⟩
    · have := (Array.getElem?_eq_some_iff.1 ok.op).1
      simp; omega

variable (R : Run c P env f fn ops ls hide0 tm0 size0 tr0 Ts tmE sizeE trE)
include R
theorem Run.get {i : Nat} (h : i < Ts.length) : ∃ r, Ts[i]? = some r := by
  have _ := R
  exact ⟨_, List.getElem?_eq_getElem h⟩
theorem Run.size_succ {i : Nat} {r : Rec} (h : Ts[i]? = some r) : r.size ≤ r.h'.size := (R.sem i r h).hg.rows
theorem Run.size_mono : ∀ (d a : Nat), a + d ≤ Ts.length → sizeAt Ts sizeE a ≤ sizeAt Ts sizeE (a + d)
  | 0, a, _ => Nat.le_refl _
  | d + 1, a, h => by
    obtain ⟨r, hr⟩ := R.get (i := a + d) (by omega)
    have h1 := Run.size_mono d a (by omega)
    have h2 := R.size_succ hr
    have h3 := R.n2 _ _ hr
    rw [sizeAt_some hr] at h1
    rw [← Nat.add_assoc, h3]; omega
theorem Run.size_le {a b : Nat} (hab : a ≤ b) (hb : b ≤ Ts.length) : sizeAt Ts sizeE a ≤ sizeAt Ts sizeE b := by
  have := R.size_mono (b - a) a (by omega)
  rwa [show a + (b - a) = b from by omega] at this
theorem Run.size0_le {i : Nat} {r : Rec} (h : Ts[i]? = some r) : size0 ≤ r.size := by
  have := R.size_le (Nat.zero_le i) (Nat.le_of_lt (List.getElem?_eq_some_iff.1 h).1)
  rwa [R.z2, sizeAt_some h] at this
theorem Run.sizeE_ge {i : Nat} {r : Rec} (h : Ts[i]? = some r) : r.h'.size ≤ sizeE := by
  have hl := (List.getElem?_eq_some_iff.1 h).1
  have := R.size_le (a := i + 1) (b := Ts.length) (by omega) (Nat.le_refl _)
  rwa [R.n2 i r h, sizeAt_end] at this
theorem Run.size_lt {i j : Nat} {a r : Rec} (h : Ts[i]? = some a) (h' : Ts[j]? = some r) (hij : i < j) : a.h'.size ≤ r.size := by
  have hl := (List.getElem?_eq_some_iff.1 h').1
  have := R.size_le (a := i + 1) (b := j) (by omega) (by omega)
  rwa [R.n2 i a h, sizeAt_some h'] at this
theorem Run.rows_le (Rl : Row → Row → Prop) (h0 : ∀ x, Rl x x) (ht : ∀ x y z, Rl x y → Rl y z → Rl x z) {x : Nat} : ∀ (d a : Nat), a + d ≤ Ts.length → (∀ (i : Nat) (r : Rec), a ≤ i → i < a + d → Ts[i]? = some r → Rl (T.get .dead r.tr x) (T.get .dead r.h'.tr x)) →
    Rl (T.get .dead (trAt Ts trE a) x) (T.get .dead (trAt Ts trE (a + d)) x)
  | 0, a, _, _ => h0 _
  | d + 1, a, h, hh => by
    obtain ⟨r, hr⟩ := R.get (i := a + d) (by omega)
    have h1 := Run.rows_le Rl h0 ht d a (by omega) fun i r h1 h2 => hh i r h1 (by omega)
    have h2 := hh _ _ (by omega) (by omega) hr
    rw [trAt_some hr] at h1
    rw [← Nat.add_assoc, R.n3 _ _ hr]
    exact ht _ _ _ h1 h2
theorem Run.rows_between (Rl : Row → Row → Prop) (h0 : ∀ x, Rl x x) (hsy : ∀ x y, Rl x y → Rl y x) (ht : ∀ x y z, Rl x y → Rl y z → Rl x z) {x a b : Nat} (ha : a ≤ Ts.length) (hb : b ≤ Ts.length)
    (hh : ∀ (i : Nat) (r : Rec), (a ≤ i ∧ i < b ∨ b ≤ i ∧ i < a) → Ts[i]? = some r → Rl (T.get .dead r.tr x) (T.get .dead r.h'.tr x)) : Rl (T.get .dead (trAt Ts trE a) x) (T.get .dead (trAt Ts trE b) x) := by
  rcases Nat.le_total a b with q | q
  · have := R.rows_le Rl h0 ht (x := x) (b - a) a (by omega) fun i r h1 h2 hr => hh i r (.inl ⟨h1, by omega⟩) hr
    rwa [show a + (b - a) = b from by omega] at this
  · have := R.rows_le Rl h0 ht (x := x) (a - b) b (by omega) fun i r h1 h2 hr => hh i r (.inr ⟨h1, by omega⟩) hr
    rw [show b + (a - b) = a from by omega] at this
    exact hsy _ _ this
theorem Run.tm_le {t : Nat} : ∀ (d a : Nat), a + d ≤ Ts.length → (∀ (i : Nat) (r : Rec), a ≤ i → i < a + d → Ts[i]? = some r → r.o.dst ≠ some t) → T.get undef (tmAt Ts tmE a) t = T.get undef (tmAt Ts tmE (a + d)) t
  | 0, a, _, _ => rfl
  | d + 1, a, h, hh => by
    obtain ⟨r, hr⟩ := R.get (i := a + d) (by omega)
    have h1 := Run.tm_le d a (by omega) fun i r h1 h2 => hh i r h1 (by omega)
    have h2 := hh _ _ (by omega) (by omega) hr
    rw [tmAt_some hr] at h1
    rw [← Nat.add_assoc, R.n1 _ _ hr, h1]
    unfold Rec.tm'
    cases hd : r.o.dst with
    | none => rfl
    | some d => show _ = T.get undef (T.set undef r.tm d r.x) t; rw [T.get_set, if_neg]; intro e; exact h2 (by rw [hd, e])
theorem Run.tm_between {t a b : Nat} (ha : a ≤ Ts.length) (hb : b ≤ Ts.length) (hh : ∀ (i : Nat) (r : Rec), (a ≤ i ∧ i < b ∨ b ≤ i ∧ i < a) → Ts[i]? = some r → r.o.dst ≠ some t) : T.get undef (tmAt Ts tmE a) t = T.get undef (tmAt Ts tmE b) t := by
  rcases Nat.le_total a b with q | q
  · have := R.tm_le (t := t) (b - a) a (by omega) fun i r h1 h2 hr => hh i r (.inl ⟨h1, by omega⟩) hr
    rwa [show a + (b - a) = b from by omega] at this
  · have := R.tm_le (t := t) (a - b) b (by omega) fun i r h1 h2 hr => hh i r (.inr ⟨h1, by omega⟩) hr
    rw [show b + (a - b) = a from by omega] at this
    exact this.symm
/-- an operation that only looks leaves the rows that there are -/
theorem Run.looks_row {i : Nat} {r : Rec} (h : Ts[i]? = some r) {l : List Rng} (hk : r.k = .looks l) {x : Nat} (hx : x < r.size) : T.get .dead r.h'.tr x = T.get .dead r.tr x := by
  rcases (R.sem i r h).looks l hk with e | ⟨y, e⟩
  · rw [e]; rfl
  · rw [e, Heap.new_eq]
    show T.get .dead (T.set .dead r.tr r.size y) x = T.get .dead r.tr x
    rw [T.get_set, if_neg (by omega)]
end

/-! ### the guards of a region -/
theorem guards_spec {ops : Array Oper} {bf : Array Nat} (h : guardsOk ops bf = true) {i j g : Nat} {o oi og : Oper} {b : Bool} {d : Tmp} (hj : ops[j]? = some o) (hg : o.guard = some (g, b)) (hog : ops[g]? = some og) (hd : og.dst = some d)
    (hi : ops[i]? = some oi) (hdi : oi.dst = some d) (hne : i ≠ j) : ahead bf (min i j) (max i j) = true := by
  have mem : ∀ {k : Nat} {o : Oper}, ops[k]? = some o → (o, k) ∈ ops.toList.zipIdx := fun {k o} hk => by rw [List.mem_zipIdx_iff_getElem?]; simpa using hk
  have h1 := List.all_eq_true.1 h (o, j) (mem hj)
  simp only [hg, hog, Option.bind_some, hd] at h1
  have h2 := List.all_eq_true.1 h1 (oi, i) (mem hi)
  simp only [hdi, Nat.beq_refl, Bool.not_true, Bool.false_or, Bool.or_eq_true] at h2
  rcases h2 with h2 | h2
  · exact absurd (Nat.eq_of_beq_eq_true h2) hne
  · exact h2

/-! ### any order -/
/-- what holds when some operations are done -/
structure SInv (c : Cfg) (P : Program) (f : FuncId) (ops : Array Oper) (hide0 : List (Nat × Nat)) (size0 : Nat) (Ts : List Rec) (tmE : T AV) (sizeE : Nat) (RI : (Nat → Bool) → (Nat → Row) → Prop) (μ0 : Mu) (H0 : Heap) (w0 : World) (dfs : List Deferred)
    (S : Nat → Bool) (HS : Heap) (μ : Mu) (w : World) (tm : T AV) (a : Act) : Prop where
  M : Models c P All μ HS w
  G : GoesW μ0 H0 w0 μ HS w
  gl : GlobR P μ
  size : HS.size = sizeE
  hide : HS.hide = hide0
  tmR : TmR P f μ tm a.tmps
  tmq : ∀ t, ∃ q, q ≤ Ts.length ∧ (∀ (i : Nat) (r : Rec), Ts[i]? = some r → r.o.dst = some t → (S i = true ↔ i < q)) ∧ T.get undef tm t = T.get undef (tmAt Ts tmE q) t
  new : ∀ (i : Nat) (r : Rec), Ts[i]? = some r → S i = false → ∀ x, r.size ≤ x → x < r.h'.size → μ x = none ∧ HS.get x = .dead
  dom0 : ∀ x, x < size0 → μ0 x = none → μ x = none
  rows : RI S HS.get
  df : a.defers = dfs
  cl : Closed ops (fun i => S i = true)
  lt : ∀ i, S i = true → i < Ts.length
def addS (S : Nat → Bool) (j : Nat) : Nat → Bool := fun k => Nat.beq k j || S k
theorem addS_self (S : Nat → Bool) (j : Nat) : addS S j j = true := by simp [addS]
theorem addS_ne {S : Nat → Bool} {j k : Nat} (h : k ≠ j) : addS S j k = S k := by
  have : Nat.beq k j = false := by
    cases q : Nat.beq k j with
    | false => rfl
    | true => exact absurd (Nat.eq_of_beq_eq_true q) h
  simp [addS, this]
def Ready (ops : Array Oper) (S : Nat → Bool) (j : Nat) : Prop := S j = false ∧ ∀ o, ops[j]? = some o → ∀ e ∈ o.after.toList, Region.binds .any e = true → S e.on = true

section
variable {env : Env} {f : FuncId} {fn : Func} {ops : Array Oper} {ls : Bool} {hide0 : List (Nat × Nat)} {tm0 : T AV} {size0 : Nat} {tr0 : T Row} {Ts : List Rec} {tmE : T AV} {sizeE : Nat} {trE : T Row} {RI : (Nat → Bool) → (Nat → Row) → Prop}
  {μ0 : Mu} {H0 : Heap} {w0 : World} {dfs : List Deferred} {S : Nat → Bool} {HS : Heap} {tm : T AV} {a : Act}
theorem ahead_in (cl : Closed ops (fun i => S i = true)) {j : Nat} (rd : Ready ops S j) {i : Nat} (h : ahead (Region.before ops) i j = true) : S i = true := ahead_done cl j i (fun o ho e he hb => rd.2 o ho e he hb) h
theorem not_ahead (cl : Closed ops (fun i => S i = true)) {j : Nat} (rd : Ready ops S j) {i : Nat} (hi : S i = true) : ahead (Region.before ops) j i = false := by
  cases q : ahead (Region.before ops) j i with
  | false => rfl
  | true =>
    have := ahead_done cl i j (fun o ho e he hb => cl i o hi ho e he hb) q
    rw [rd.1] at this; cases this
/-- operations that are ordered with j are done if and only if they come ahead of it -/
theorem ordered_done (_G : RegOK ops) (cl : Closed ops (fun i => S i = true)) {i j : Nat} (rd : Ready ops S j) (_hne : i ≠ j) (h : ahead (Region.before ops) (min i j) (max i j) = true) : S i = true ↔ i < j := by
  rcases Nat.lt_or_ge i j with q | q
  · rw [Nat.min_eq_left (by omega), Nat.max_eq_right (by omega)] at h
    exact ⟨fun _ => q, fun _ => ahead_in cl rd h⟩
  · rw [Nat.min_eq_right (by omega), Nat.max_eq_left (by omega)] at h
    refine ⟨fun hs => ?_, fun hlt => by omega⟩
    have := not_ahead cl rd hs
    rw [h] at this; cases this

variable (R : Run c P env f fn ops ls hide0 tm0 size0 tr0 Ts tmE sizeE trE) (G : RegOK ops)
include R
theorem SInv.agree (I : SInv c P f ops hide0 size0 Ts tmE sizeE RI μ0 H0 w0 dfs S HS μ w tm a) {j t : Nat} (hj : j ≤ Ts.length) (ho : ∀ (i : Nat) (r : Rec), Ts[i]? = some r → r.o.dst = some t → (S i = true ↔ i < j)) : T.get undef tm t = T.get undef (tmAt Ts tmE j) t := by
  obtain ⟨q, q1, q2, q3⟩ := I.tmq t
  rw [q3]
  refine R.tm_between q1 hj fun i r hi hr hd => ?_
  have h1 := q2 i r hr hd
  have h2 := ho i r hr hd
  rw [h1] at h2
  omega
include G
theorem SInv.agree_op (I : SInv c P f ops hide0 size0 Ts tmE sizeE RI μ0 H0 w0 dfs S HS μ w tm a) {j : Nat} {o : Oper} (hj : j ≤ Ts.length) (hop : ops[j]? = some o) (rd : Ready ops S j) : ∀ x ∈ o.op.operands.toList, ev tm x = ev (tmAt Ts tmE j) x := by
  intro x hx
  cases x with
  | tmp t =>
    refine SInv.agree R I hj fun i r hr hd => ?_
    by_cases hne : i = j
    · subst hne; rw [rd.1]; simp
    · exact ordered_done G I.cl rd hne (G.temps (R.ok i r hr).op hd hop (.inr hx) hne)
  | _ => rfl
theorem SInv.agree_guard (I : SInv c P f ops hide0 size0 Ts tmE sizeE RI μ0 H0 w0 dfs S HS μ w tm a) (gd : guardsOk ops (Region.before ops) = true) {j : Nat} {o : Oper} (hj : j ≤ Ts.length) (hop : ops[j]? = some o) (rd : Ready ops S j) : wants ops o tm = wants ops o (tmAt Ts tmE j) := by
  unfold wants
  cases hg : o.guard with
  | none => rfl
  | some p =>
    obtain ⟨g, b⟩ := p
    simp only []
    cases hog : ops[g]? with
    | none => rfl
    | some og =>
      simp only []
      cases hd : og.dst with
      | none => rfl
      | some d =>
        simp only []
        rw [SInv.agree R I hj (t := d) fun i r hr hdi => ?_]
        by_cases hne : i = j
        · subst hne; rw [rd.1]; simp
        · exact ordered_done G I.cl rd hne (guards_spec gd hop hg hog hd (R.ok i r hr).op hdi hne)

/-- an operation more -/
theorem SInv.next (I : SInv c P f ops hide0 size0 Ts tmE sizeE RI μ0 H0 w0 dfs S HS μ w tm a) (M0 : Models c P All μ0 H0 w0) {j : Nat} {r : Rec} (hr : Ts[j]? = some r) (rd : Ready ops S j) (hfn : P.funcs[f]? = some fn) (hdst : ∀ d, r.o.dst = some d → d < fn.ntmps) {v : Value} {HS' : Heap}
    (M' : Models c P All μ' HS' w') (Gs : GoesW μ HS w μ' HS' w') (hs : HS'.size = sizeE) (hh : HS'.hide = hide0) (hv : VR μ' r.x v) (hn : ∀ x, (x < r.size ∨ r.h'.size ≤ x) → μ x = none → μ' x = none)
    (hd : ∀ x, ¬ (r.size ≤ x ∧ x < r.h'.size) → HS.get x = .dead → HS'.get x = .dead) (hRI : RI (addS S j) HS'.get) :
    SInv c P f ops hide0 size0 Ts tmE sizeE RI μ0 H0 w0 dfs (addS S j) HS' μ' w' ((setOf r.o.dst).run tm r.x) (a.put r.o.dst v) := by
  have hlt := (List.getElem?_eq_some_iff.1 hr).1
  refine ⟨M', I.G.trans M0 Gs, I.gl.mono Gs.le, hs, hh, (I.tmR.mono Gs.le).put hfn hdst hv, fun t => ?_, fun i y hy hS x h1 h2 => ?_, fun x hx h0 => ?_, hRI, by rw [put_defers]; exact I.df, fun k o hk ho e he hb => ?_, fun i hi => ?_⟩
  · by_cases ht : r.o.dst = some t
    · refine ⟨j + 1, hlt, fun i y hy hyd => ?_, ?_⟩
      · by_cases hne : i = j
        · subst hne; rw [addS_self]; simp
        · rw [addS_ne hne, ordered_done G I.cl rd hne (G.temps (R.ok i y hy).op hyd (R.ok j r hr).op (.inl ht) hne)]
          omega
      · rw [R.n1 j r hr]; unfold Rec.tm'; rw [ht]
        show T.get undef (T.set undef tm t r.x) t = T.get undef (T.set undef r.tm t r.x) t
        rw [T.get_set, T.get_set, if_pos rfl, if_pos rfl]
    · obtain ⟨q, q1, q2, q3⟩ := I.tmq t
      refine ⟨q, q1, fun i y hy hyd => ?_, ?_⟩
      · have hne : i ≠ j := fun e => by subst e; rw [hr] at hy; cases hy; exact ht hyd
        rw [addS_ne hne]; exact q2 i y hy hyd
      · rw [← q3]
        cases e : r.o.dst with
        | none => rfl
        | some d => show T.get undef (T.set undef tm d r.x) t = _; rw [T.get_set, if_neg]; intro k; exact ht (by rw [e, k])
  · have hne : i ≠ j := fun e => by subst e; rw [addS_self] at hS; cases hS
    rw [addS_ne hne] at hS
    obtain ⟨n1, n2⟩ := I.new i y hy hS x h1 h2
    have hout : x < r.size ∨ r.h'.size ≤ x := by
      rcases Nat.lt_or_ge i j with q | q
      · have := R.size_lt hy hr q; omega
      · have := R.size_lt hr hy (by omega); omega
    exact ⟨hn x hout n1, hd x (by omega) n2⟩
  · exact hn x (.inl (by have := R.size0_le hr; omega)) (I.dom0 x hx h0)
  · by_cases hne : k = j
    · subst hne
      have := rd.2 o ho e he hb
      by_cases h2 : e.on = k
      · rw [h2]; exact addS_self _ _
      · show addS S k e.on = true; rw [addS_ne h2]; exact this
    · have := I.cl k o (by simpa [addS_ne hne] using hk) ho e he hb
      by_cases h2 : e.on = j
      · rw [h2]; exact addS_self _ _
      · show addS S j e.on = true; rw [addS_ne h2]; exact this
  · by_cases hne : i = j
    · subst hne; exact hlt
    · exact I.lt i (by simpa [addS_ne hne] using hi)
end
end Go.E
/-! E, soundness, part 33: regions that draw: the schedule. -/
namespace Go.E
variable {c : Cfg} {P : Program} {μ μ' : Mu} {h h' : Heap} {w w' : World}

theorem countP_lt {α : Type} (p p' : α → Bool) (x0 : α) : ∀ (l : List α), (∀ x ∈ l, p' x = true → p x = true) → x0 ∈ l → p x0 = true → p' x0 = false → l.countP p' < l.countP p
  | [], _, h, _, _ => by simp at h
  | x :: l, hs, h, h1, h2 => by
    have hle : l.countP p' ≤ l.countP p := List.countP_mono_left fun y hy => hs y (by simp [hy])
    simp only [List.countP_cons]
    rcases List.mem_cons.1 h with e | h
    · subst e; rw [h1, h2]; simp; omega
    · have := countP_lt p p' x0 l (fun y hy => hs y (by simp [hy])) h h1 h2
      cases q : p' x with
      | false => simp; cases p x <;> simp <;> omega
      | true => rw [hs x (by simp) q]; simp; omega
def left (n : Nat) (S : Nat → Bool) : Nat := (List.range n).countP fun i => !S i
theorem left_add {n j : Nat} {S : Nat → Bool} (hj : j < n) (h : S j = false) : left n (addS S j) < left n S := by
  refine countP_lt _ _ j _ (fun x _ q => ?_) (by simp [hj]) (by simp [h]) (by simp [addS_self])
  by_cases e : x = j
  · subst e; rw [addS_self] at q; cases q
  · rw [addS_ne e] at q; exact q

section
variable {env : Env} {b : Frame} {fn : Func} {ops : Array Oper} {ls : Bool} {hide0 : List (Nat × Nat)} {tm0 : T AV} {size0 : Nat} {tr0 : T Row} {Ts : List Rec} {tmE : T AV} {sizeE : Nat} {trE : T Row} {RI : (Nat → Bool) → (Nat → Row) → Prop}
  {μ0 : Mu} {H0 : Heap} {w0 : World} {dfs : List Deferred} {S : Nat → Bool} {HS : Heap} {tm : T AV} {a : Act}

theorem single_ahead {ops : Array Oper} (G : RegOK ops) {j i : Nat} (h : single (Region.before ops) ops.size j = true) (hi : i < ops.size) (hne : i ≠ j) : (i < j → ahead (Region.before ops) i j = true) ∧ (j < i → ahead (Region.before ops) j i = true) := by
  unfold single at h
  have := List.all_eq_true.1 h i (by simp [hi])
  simp only [Bool.or_eq_true] at this
  rcases this with (q | q) | q
  · exact absurd (Nat.eq_of_beq_eq_true q) hne
  · have := ahead_lt G j i q; exact ⟨fun _ => q, fun _ => by omega⟩
  · have := ahead_lt G i j q; exact ⟨fun _ => by omega, fun _ => q⟩

/-- every operation, whatever the order -/
theorem sim (R : Run c P env b.fn fn ops ls hide0 tm0 size0 tr0 Ts tmE sizeE trE) (G : RegOK ops) (_hfn : P.funcs[b.fn]? = some fn)
    (hone : Ts.length < ops.size → single (Region.before ops) ops.size Ts.length = true) {k : List Item} {cs : List Frame}
    (hwant : ∀ {S : Nat → Bool} {HS : Heap} {μ : Mu} {w : World} {tm : T AV} {a : Act} {j : Nat} {r : Rec}, SInv c P b.fn ops hide0 size0 Ts tmE sizeE RI μ0 H0 w0 dfs S HS μ w tm a → Ts[j]? = some r → Ready ops S j → Region.wanted r.o (yielded ops a.tmps) = r.ran)
    (hstep : ∀ {S : Nat → Bool} {HS : Heap} {μ : Mu} {w : World} {tm : T AV} {a : Act} {j : Nat} {r : Rec}, SInv c P b.fn ops hide0 size0 Ts tmE sizeE RI μ0 H0 w0 dfs S HS μ w tm a → Ts[j]? = some r → Ready ops S j → r.ran = true →
      OpRes P (execOp a.eval r.o) w (fun v w' => ∃ HS' μ', SInv c P b.fn ops hide0 size0 Ts tmE sizeE RI μ0 H0 w0 dfs (addS S j) HS' μ' w' ((setOf r.o.dst).run tm r.x) (a.put r.o.dst v)) (fun _ _ => False))
    (hskip : ∀ {S : Nat → Bool} {HS : Heap} {μ : Mu} {w : World} {tm : T AV} {a : Act} {j : Nat} {r : Rec}, SInv c P b.fn ops hide0 size0 Ts tmE sizeE RI μ0 H0 w0 dfs S HS μ w tm a → Ts[j]? = some r → Ready ops S j → r.ran = false →
      SInv c P b.fn ops hide0 size0 Ts tmE sizeE RI μ0 H0 w0 dfs (addS S j) HS μ w ((setOf r.o.dst).run tm r.x) (a.put r.o.dst Go.undef))
    (hnd : ∀ (j : Nat) (r : Rec), Ts[j]? = some r → r.ran = true → ∀ k, r.o.op ≠ .defer k) :
    ∀ (fuel t : Nat) (listed : Array Bool) (S : Nat → Bool) (HS : Heap) (μ : Mu) (w : World) (tm : T AV) (a : Act), listed.size = ops.size → (∀ i, S i = listed.getD i false) → left ops.size S ≤ fuel →
      SInv c P b.fn ops hide0 size0 Ts tmE sizeE RI μ0 H0 w0 dfs S HS μ w tm a →
      ∃ S' HS' μ' w' tm' a' todo, Steps P (lone (b.atR a (.inRegion ops (Region.linearise.go .any ops fuel t listed []) :: k)) cs w) (lone (b.atR a' (.inRegion ops todo :: k)) cs w') ∧
        SInv c P b.fn ops hide0 size0 Ts tmE sizeE RI μ0 H0 w0 dfs S' HS' μ' w' tm' a' ∧ (∀ i, i < Ts.length → S' i = true) ∧ ((Ts.length = ops.size ∧ todo = []) ∨ (Ts.length < ops.size ∧ ∃ rest, todo = Ts.length :: rest)) := by
  have fin : ∀ {S : Nat → Bool} {HS : Heap} {μ : Mu} {w : World} {tm : T AV} {a : Act}, SInv c P b.fn ops hide0 size0 Ts tmE sizeE RI μ0 H0 w0 dfs S HS μ w tm a → (∀ i, i < ops.size → S i = true) → (∀ i, i < Ts.length → S i = true) ∧ Ts.length = ops.size := by
    intro S HS μ w tm a I hall
    have hle := R.le
    have : ops.size ≤ Ts.length := by
      rcases Nat.lt_or_ge Ts.length ops.size with q | q
      · have := I.lt _ (hall _ q); omega
      · exact q
    exact ⟨fun i hi => hall i (by omega), by omega⟩
  intro fuel
  induction fuel with
  | zero =>
    intro t listed S HS μ w tm a hls hS hfuel I
    have hall : ∀ i, i < ops.size → S i = true := by
      intro i hi
      have h0 : (List.range ops.size).countP (fun i => !S i) = 0 := by unfold left at hfuel; omega
      rw [List.countP_eq_zero] at h0
      simpa using h0 i (by simp [hi])
    obtain ⟨f1, f2⟩ := fin I hall
    exact ⟨S, HS, μ, w, tm, a, [], by simpa [Region.linearise.go] using Steps.refl P _, I, f1, .inl ⟨f2, rfl⟩⟩
  | succ fuel ih =>
    intro t listed S HS μ w tm a hls hS hfuel I
    have hgo : Region.linearise.go .any ops (fuel + 1) t listed [] = (match (Region.ready .any ops listed)[t % (Region.ready .any ops listed).length]? with
      | some i => Region.linearise.go .any ops fuel (t / (Region.ready .any ops listed).length) (listed.setIfInBounds i true) [i]
      | none => [].reverse) := rfl
    rw [hgo]
    cases hi : (Region.ready .any ops listed)[t % (Region.ready .any ops listed).length]? with
    | none =>
      have hnil : Region.ready .any ops listed = [] := by
        cases hr : Region.ready .any ops listed with
        | nil => rfl
        | cons x xs =>
          rw [hr] at hi
          have hlt : t % (x :: xs).length < (x :: xs).length := Nat.mod_lt _ (by simp)
          simp at hi
          simp at hlt
          omega
      have hall : ∀ i, i < ops.size → S i = true := by
        intro i
        induction i using Nat.strongRecOn with
        | _ i ihi =>
          intro hlt
          cases hSi : S i with
          | true => rfl
          | false =>
            exfalso
            have hoi : ops[i]? = some (ops[i]'hlt) := Array.getElem?_eq_getElem hlt
            have : i ∈ Region.ready .any ops listed := by
              rw [mem_ready]
              refine ⟨?_, _, hoi, fun e he hb => ?_⟩
              · have := hS i; rw [hSi] at this
                rw [Array.getD_eq_getD_getElem?] at this ⊢
                have hl : i < listed.size := by omega
                rw [Array.getElem?_eq_getElem hl] at this ⊢
                simpa using this.symm
              · have hlt' := G.edge i _ hoi e (by simpa using he) hb
                rw [← hS]; exact ihi e.on hlt' (by omega)
            rw [hnil] at this; cases this
      obtain ⟨f1, f2⟩ := fin I hall
      exact ⟨S, HS, μ, w, tm, a, [], by simpa using Steps.refl P _, I, f1, .inl ⟨f2, rfl⟩⟩
    | some i =>
      simp only []
      rw [linearise_go_acc, List.reverse_singleton, List.singleton_append]
      obtain ⟨hjun, oj, hoj, hall⟩ := mem_ready.1 (List.mem_of_getElem? hi)
      have hisz : i < ops.size := (Array.getElem?_eq_some_iff.1 hoj).1
      have rd : Ready ops S i := by
        refine ⟨?_, fun o ho e he hb => ?_⟩
        · rw [hS]
          rw [Array.getD_eq_getD_getElem?] at hjun ⊢
          have hl : i < listed.size := by omega
          rw [Array.getElem?_eq_getElem hl] at hjun ⊢
          simpa using hjun
        · rw [hoj] at ho; cases ho
          rw [hS]; exact hall e (by simpa using he) hb
      rcases Nat.lt_or_ge i Ts.length with hlt | hge
      · -- an operation of the run
        obtain ⟨r, hr⟩ := R.get hlt
        have hor : ops[i]? = some r.o := (R.ok i r hr).op
        have hls' : (listed.setIfInBounds i true).size = ops.size := by simpa using hls
        have hS' : ∀ k, addS S i k = (listed.setIfInBounds i true).getD k false := by
          intro k
          by_cases e : k = i
          · subst e
            rw [addS_self, Array.getD_eq_getD_getElem?]
            have hl : k < listed.size := by omega
            simp [hl]
          · rw [addS_ne e, hS k, getD_set_ne false (fun q => e q.symm)]
        have hf' : left ops.size (addS S i) ≤ fuel := by have := left_add hisz rd.1; omega
        have hw := hwant I hr rd
        cases hran : r.ran with
        | false =>
          rw [hran] at hw
          have hs := stepR_op_skip (P := P) (b := b) (a := a) (k := k) (cs := cs) (w := w) (ops := ops) (i := i) (rest := Region.linearise.go .any ops fuel (t / (Region.ready .any ops listed).length) (listed.setIfInBounds i true) []) (by simp [hor, hw])
          simp only [hor, Option.bind_some] at hs
          obtain ⟨S', HS', μ', w', tm', a', todo, s1, s2⟩ := ih (t / (Region.ready .any ops listed).length) (listed.setIfInBounds i true) (addS S i) HS μ w _ _ hls' hS' hf' (hskip I hr rd hran)
          exact ⟨S', HS', μ', w', tm', a', todo, .head hs s1, s2⟩
        | true =>
          rw [hran] at hw
          rcases op_steps (b := b) (k := k) (cs := cs) (rest := Region.linearise.go .any ops fuel (t / (Region.ready .any ops listed).length) (listed.setIfInBounds i true) []) hor hw (.inr (hnd i r hr hran)) (hstep I hr rd hran) with ⟨v, w', ⟨HS', μ', I'⟩, st⟩ | ⟨v, w', hF, _⟩
          · obtain ⟨S', HS'', μ'', w'', tm'', a', todo, s1, s2⟩ := ih (t / (Region.ready .any ops listed).length) (listed.setIfInBounds i true) (addS S i) HS' μ' w' _ _ hls' hS' hf' I'
            exact ⟨S', HS'', μ'', w'', tm'', a', todo, st.trans s1, s2⟩
          · exact hF.elim
      · -- the operation with which it is left
        have hTlt : Ts.length < ops.size := by omega
        have h1 := hone hTlt
        have hiT : i = Ts.length := by
          by_cases e : i = Ts.length
          · exact e
          · exfalso
            have := (single_ahead G h1 hisz e).2 (by omega)
            have := ahead_in I.cl rd this
            have := I.lt _ this; omega
        subst hiT
        refine ⟨S, HS, μ, w, tm, a, _, Steps.refl P _, I, fun i hi => ?_, .inr ⟨hTlt, _, rfl⟩⟩
        exact ahead_in I.cl rd ((single_ahead G h1 (by omega) (by omega)).1 hi)

/-! ### operations of the two kinds -/
variable {f : FuncId}
theorem add_mono {n r : Nat} {p : Nat × Nat × Nat} : (Mu.add (μ.below n) r p).le (μ.add r p) := by
  intro s q e
  unfold Mu.add at *
  by_cases h : s = r
  · rw [if_pos h] at e ⊢; exact e
  · rw [if_neg h] at e ⊢; exact Mu.below_le _ _ _ _ e
theorem looks_step (X : CfgOK c P) (R : Run c P env f fn ops ls hide0 tm0 size0 tr0 Ts tmE sizeE trE) (G : RegOK ops) (M0 : Models c P All μ0 H0 w0) (hh0 : ∀ x, hidden x hide0 = true → x < size0) (hgl : P.globals.size ≤ size0) (hfn : P.funcs[f]? = some fn) (hop : ∀ (j : Nat) (o : Oper), ops[j]? = some o → OkOper P fn o)
    (I : SInv c P f ops hide0 size0 Ts tmE sizeE RI μ0 H0 w0 dfs S HS μ w tm a) {j : Nat} {r : Rec} (hr : Ts[j]? = some r) (rd : Ready ops S j) (hran : r.ran = true) {l : List Rng} (hk : r.k = .looks l)
    (hs : ∀ x, (r.hp.get x).live → ∀ i, (∃ p ∈ l, inR p x i) → sameAt (HS.get x) (r.hp.get x) i)
    (hRI : ∀ g : Nat → Row, (∀ x, g x = if r.size ≤ x ∧ x < r.h'.size then r.h'.get x else HS.get x) → RI (addS S j) g) :
    OpRes P (execOp a.eval r.o) w (fun v w' => ∃ HS' μ', SInv c P f ops hide0 size0 Ts tmE sizeE RI μ0 H0 w0 dfs (addS S j) HS' μ' w' ((setOf r.o.dst).run tm r.x) (a.put r.o.dst v)) (fun _ _ => False) := by
  have hlt := (List.getElem?_eq_some_iff.1 hr).1
  have rok := R.ok j r hr
  have ook := hop j r.o rok.op
  have hag := SInv.agree_op R G I (Nat.le_of_lt hlt) rok.op rd
  rw [tmAt_some hr] at hag
  obtain ⟨μd, wd, tmps, Md, Hd⟩ := (R.sem j r hr).M
  have hkr : readsOf c r.o.op r.tm = .looks l := kind_looks (by rw [← rok.kd hran]; exact hk)
  have hrun := rok.run hran
  -- the operands alone
  have hagk : ∀ x ∈ r.o.op.operands.toList, ev (keepT tm (tmpsOf r.o.op.operands.toList)) x = ev r.tm x := fun x hx => (ev_keepT hx).trans (hag x hx)
  have Hk : TmR P f (μ.below r.hp.size) (keepT tm (tmpsOf r.o.op.operands.toList)) (keepA a (tmpsOf r.o.op.operands.toList)).tmps :=
    I.tmR.keep Md.dom fun t ht => by
      have := hag _ (mem_tmpsOf.1 ht)
      have e : T.get undef tm t = T.get undef r.tm t := this
      rw [e]; exact ⟨_, Hd.2 t⟩
  have Gk : GlobR P (μ.below r.hp.size) := fun g hg => by
    obtain ⟨N, e⟩ := I.gl g hg
    have := R.size0_le hr
    exact ⟨N, by rw [Mu.below_lt (by show g < r.size; omega)]; exact e⟩
  have Mk : Models c P (fun x i => ∃ p ∈ l, inR p x i) (μ.below r.hp.size) r.hp w := I.M.small Md hs
  rw [← readsOf_congr hagk] at hkr
  rw [← compOp_congr hagk] at hrun
  obtain ⟨Sm, s1, s2⟩ := opR_sound (a := keepA a (tmpsOf r.o.op.operands.toList)) X.T Mk Hk Gk ook.opnd hkr (fun p hp i hi => ⟨p, hp, hi⟩) hrun
  have hex : execOp (keepA a (tmpsOf r.o.op.operands.toList)).eval r.o = execOp a.eval r.o := by
    refine execOp_congr r.o (fun cs b e => ?_) fun x hx => keepA_eval (by simpa using hx)
    rw [e] at hkr; simp [readsOf] at hkr
  unfold Pures at s1
  rw [hex] at s1
  have hsizeE := R.sizeE_ge hr
  have hs0 := R.size0_le hr
  have hnew := I.new j r hr rd.1
  have hhid : ∀ x, size0 ≤ x → hidden x hide0 = false := fun x hx => by
    cases q : hidden x hide0 with
    | false => rfl
    | true => have := hh0 x q; omega
  generalize hh' : r.h' = h2 at s2
  cases s2 with
  | pure v w' hrn hv hw =>
    refine .value v w' (by rw [s1, hrn, Result.andThen_ok]) ⟨HS, μ, ?_⟩
    refine I.next R G M0 hr rd hfn ook.dst (I.M.alike hw) ((GoesW.refl μ HS w).alike hw) I.size I.hide (hv.mono (Mu.below_le _ _)) (fun _ _ h => h) (fun _ _ h => h) (hRI _ fun x => ?_)
    have : ¬ (r.size ≤ x ∧ x < r.h'.size) := by rw [hh']; intro ⟨h1, h2⟩; exact absurd h2 (Nat.not_lt.2 h1)
    rw [if_neg this]
  | made v w' x o N hrn hv hw hx =>
    have hsz' : r.h'.size = r.size + 1 := by rw [hh', Heap.new_size]; rfl
    have h0 : μ r.size = none ∧ HS.get r.size = .dead := hnew r.size (Nat.le_refl _) (by omega)
    have hx1 := hx (Mu.below_ge (Nat.le_refl _))
    have hx2 : RowR c P All (μ.add r.size (w.heap.size, 0, N)) (wnew w o) r.size x := by
      have q : RowR c P All (μ.add r.size (w.heap.size, 0, N)) w' r.size x := hx1.keep add_mono fun _ _ => rfl
      exact q.alike ⟨hw.heap.symm, hw.os.symm, hw.output.symm, hw.tape.symm⟩
    have hget : ∀ y, (mkHeap (fun y => if y = r.size then x else HS.get y) sizeE hide0).get y = if y = r.size then x else HS.get y := by
      intro y
      rw [mkHeap_get]
      by_cases e : y = r.size
      · subst e; rw [if_neg (by rw [hhid _ hs0]; simp), if_pos (by omega)]
      · rw [if_neg e]
        by_cases q : hidden y hide0 = true
        · rw [if_pos q]; rw [← I.hide] at q; exact (get_hidden q).symm
        · rw [if_neg q]
          by_cases q2 : y < sizeE
          · rw [if_pos q2]
          · rw [if_neg q2]; exact (I.M.dead y (by rw [I.size]; omega)).symm
    obtain ⟨n1, n2⟩ := I.M.newAt (H' := mkHeap (fun y => if y = r.size then x else HS.get y) sizeE hide0) (r0 := r.size) (by rw [I.size]; omega) h0.1 (by rw [I.hide]; exact hhid _ hs0) o x N hx2 hget I.size.symm I.hide.symm (Nat.zero_le _)
    refine .value v w' (by rw [s1, hrn, Result.andThen_ok]) ⟨mkHeap (fun y => if y = r.size then x else HS.get y) sizeE hide0, μ.add r.size (w.heap.size, 0, N), ?_⟩
    refine I.next R G M0 hr rd hfn ook.dst (n1.alike hw) (n2.alike hw) rfl rfl (hv.mono (add_mono (n := r.hp.size) (r := r.size) (p := (w.heap.size, 0, N)))) (fun y hy h => ?_) (fun y hy h => ?_) (hRI _ fun y => ?_)
    · have : y ≠ r.size := by omega
      unfold Mu.add; rw [if_neg this]; exact h
    · rw [hget, if_neg (by omega)]; exact h
    · rw [hget]
      have hn : (r.hp.new x).get r.size = x := by
        rw [Heap.get_new]
        have : ¬ hidden r.size r.hp.hide = true := fun q => by have := Md.hid _ q; exact absurd this (Nat.lt_irrefl _)
        rw [if_neg this]; exact if_pos rfl
      by_cases e : y = r.size
      · subst e; rw [if_pos rfl, if_pos ⟨Nat.le_refl _, by omega⟩, hh', hn]
      · rw [if_neg e, if_neg (by omega)]

/-- an operation that may do anything, on the rows that it is shown -/
theorem lift_res {hp h2 : Heap} {x : AV} (I : SInv c P f ops hide0 size0 Ts tmE sizeE RI μ0 H0 w0 dfs S HS μ w tm a) (hh0 : ∀ x, hidden x hide0 = true → hidden x hp.hide = true) (_hhp : ∀ x, hidden x hp.hide = true → x < hp.size) (Mh : Models c P All (μ.below hp.size) hp w)
    (hsame : ∀ x, Shows hp hp.size x → hp.get x = HS.get x) (hnew : ∀ x, hp.size ≤ x → x < h2.size → μ x = none ∧ HS.get x = .dead) {N : Nat} (hN1 : sizeE ≤ N) (hN2 : h2.size ≤ N) {v : Value} {w' : World} (H : RetR c P (μ.below hp.size) hp w x h2 v w') :
    ∃ HS' μ', Models c P All μ' HS' w' ∧ GoesW μ HS w μ' HS' w' ∧ VR μ' x v ∧ HS'.size = N ∧ HS'.hide = hide0 ∧ (∀ y, Shows hp h2.size y → HS'.get y = h2.get y) ∧ (∀ y, ¬ Shows hp h2.size y → HS'.get y = HS.get y) ∧ (∀ y, (y < hp.size ∨ h2.size ≤ y) → μ y = none → μ' y = none) := by
  obtain ⟨μs, hv, M', Gs⟩ := H
  let g : Nat → Row := fun y => if y < h2.size ∧ hidden y hp.hide = false then h2.get y else HS.get y
  have hg1 : ∀ y, Shows hp h2.size y → (mkHeap g N hide0).get y = h2.get y := fun y hy => by
    have h0 : ¬ hidden y hide0 = true := fun q => by have := hh0 y q; rw [hy.2] at this; cases this
    have hyN : y < N := Nat.lt_of_lt_of_le hy.1 hN2
    rw [mkHeap_get, if_neg h0, if_pos hyN]
    exact if_pos hy
  have hg2 : ∀ y, ¬ Shows hp h2.size y → (mkHeap g N hide0).get y = HS.get y := fun y hy => by
    rw [mkHeap_get]
    by_cases q : hidden y hide0 = true
    · rw [if_pos q]; rw [← I.hide] at q; exact (get_hidden q).symm
    · rw [if_neg q]
      by_cases q2 : y < N
      · rw [if_pos q2]; exact if_neg hy
      · rw [if_neg q2]; exact (I.M.dead y (by rw [I.size]; omega)).symm
  obtain ⟨f1, f2, f3⟩ := frame (H' := mkHeap g N hide0) I.M Mh hsame hnew M' Gs hg1 hg2 (by rw [I.size]; exact hN1) hN2 I.hide.symm (Nat.zero_le _)
  refine ⟨_, _, f1, f2, hv.mono f3, rfl, rfl, hg1, hg2, fun y hy hn => ?_⟩
  rw [Mu.join_none hn]
  rcases hy with hy | hy
  · exact Gs.dom y hy (by rw [Mu.below_lt hy]; exact hn)
  · exact M'.dom y hy
end
end Go.E
/-! E, soundness, part 34: regions that draw: rows, where the writes are in order. -/
namespace Go.E
variable {c : Cfg} {P : Program} {μ μ' : Mu} {h h' : Heap} {w w' : World}

/-- where a row was made -/
def Cr (Ts : List Rec) (size0 x cr : Nat) : Prop := (cr = 0 ∧ x < size0) ∨ ∃ (i : Nat) (r : Rec), cr = i + 1 ∧ Ts[i]? = some r ∧ r.size ≤ x ∧ x < r.h'.size
def RIA (hide0 : List (Nat × Nat)) (size0 : Nat) (Ts : List Rec) (trE : T Row) (S : Nat → Bool) (g : Nat → Row) : Prop :=
  ∃ q, q ≤ Ts.length ∧ (∀ (k : Nat) (r : Rec), Ts[k]? = some r → (∀ l, r.k ≠ .looks l) → (S k = true ↔ k < q)) ∧
    ∀ x, hidden x hide0 = false → ∀ cr, Cr Ts size0 x cr → (cr = 0 ∨ S (cr - 1) = true) → g x = T.get .dead (trAt Ts trE (max cr q)) x

theorem meet_not {a b : Rng} {r i : Nat} (h : meet1 a b = false) (hb : inR b r i) : ¬ inR a r i := by
  intro ha
  obtain ⟨a1, a2, a3⟩ := ha
  obtain ⟨b1, b2, b3⟩ := hb
  have e1 : Nat.beq a.1 b.1 = true := by rw [a1, b1]; exact Nat.beq_refl _
  have en : ∀ {a b : Rng}, a.2.1 ≤ i → (whole ≤ a.2.2 ∨ i < a.2.1 + a.2.2) → b.2.1 ≤ i → ends a b.2.1 = true := by
    intro a b _ h3 h2
    unfold ends
    rcases h3 with h3 | h3
    · have : Nat.ble whole a.2.2 = true := Nat.ble_eq_true_of_le h3
      simp [this]
    · have : Nat.blt b.2.1 (a.2.1 + a.2.2) = true := Nat.ble_eq_true_of_le (by show b.2.1 + 1 ≤ _; omega)
      simp [this]
  have : meet1 a b = true := by unfold meet1; rw [e1, en a2 a3 b2, en b2 b3 a2]; rfl
  rw [this] at h; cases h
theorem meets_not {ws l : List Rng} {r i : Nat} (h : meets ws l = false) (hl : ∃ p ∈ l, inR p r i) : ∀ a ∈ ws, ¬ inR a r i := by
  induction ws with
  | nil => simp
  | cons a ws ih =>
    rw [meets] at h
    simp only [Bool.or_eq_false_iff] at h
    intro y hy
    rcases List.mem_cons.1 hy with rfl | hy
    · obtain ⟨p, hp, hi⟩ := hl
      refine meet_not ?_ hi
      have := h.1
      rw [List.any_eq_false] at this
      simpa using this p hp
    · exact ih h.2 y hy
theorem reads_not_ins (o : Op) (tm : T AV) : readsOf c o tm ≠ .ins := by
  cases o <;> simp [readsOf]
  rename_i k
  obtain ⟨callee, args, ts⟩ := k
  unfold callReads
  simp only []
  cases callee with
  | builtin b => cases b <;> simp only [] <;> first | (intro h; cases h; done) | skip
                 split <;> (intro h; cases h)
  | _ => intro h; cases h

section
variable {env : Env} {b : Frame} {f : FuncId} {fn : Func} {ops : Array Oper} {ls : Bool} {hide0 : List (Nat × Nat)} {tm0 : T AV} {size0 : Nat} {tr0 : T Row} {Ts : List Rec} {tmE : T AV} {sizeE : Nat} {trE : T Row} {RI : (Nat → Bool) → (Nat → Row) → Prop}
  {μ0 : Mu} {H0 : Heap} {w0 : World} {dfs : List Deferred} {S : Nat → Bool} {HS : Heap} {tm : T AV} {a : Act}

theorem kind_any (R : Run c P env f fn ops false hide0 tm0 size0 tr0 Ts tmE sizeE trE) {i : Nat} {r : Rec} (h : Ts[i]? = some r) : r.k = .any ∨ ∃ l, r.k = .looks l := by
  have ok := R.ok i r h
  cases e : r.ran with
  | false => exact .inr ⟨_, (ok.skip e).2.2⟩
  | true =>
    have hk := ok.kd e
    cases q : r.k with
    | any => exact .inl rfl
    | looks l => exact .inr ⟨l, rfl⟩
    | ins =>
      rw [q] at hk
      exfalso
      have := reads_not_ins (c := c) r.o.op r.tm
      cases ho : r.o.op <;> rw [ho] at hk this <;> first | exact this hk.symm | (cases hk; done)
variable (R : Run c P env f fn ops ls hide0 tm0 size0 tr0 Ts tmE sizeE trE)
include R
theorem Run.cr : ∀ (j x : Nat), j ≤ Ts.length → x < sizeAt Ts sizeE j → ∃ cr, cr ≤ j ∧ Cr Ts size0 x cr
  | 0, x, _, hx => ⟨0, Nat.le_refl _, .inl ⟨rfl, by rwa [R.z2] at hx⟩⟩
  | j + 1, x, hj, hx => by
    obtain ⟨r, hr⟩ := R.get (i := j) (by omega)
    rw [R.n2 j r hr] at hx
    rcases Nat.lt_or_ge x r.size with q | q
    · obtain ⟨cr, h1, h2⟩ := Run.cr j x (by omega) (by rw [sizeAt_some hr]; exact q)
      exact ⟨cr, by omega, h2⟩
    · exact ⟨j + 1, Nat.le_refl _, .inr ⟨j, r, rfl, hr, q, hx⟩⟩
theorem Run.cr_lt {x cr q : Nat} (h : Cr Ts size0 x cr) (hq : cr ≤ q) (hq2 : q ≤ Ts.length) : x < sizeAt Ts sizeE q := by
  rcases h with ⟨rfl, h⟩ | ⟨i, r, rfl, hr, _, h⟩
  · have := R.size_le (Nat.zero_le q) hq2
    rw [R.z2] at this; omega
  · have := R.size_le hq hq2
    rw [R.n2 i r hr] at this; omega
theorem Run.cr_len {x cr : Nat} (h : Cr Ts size0 x cr) : cr ≤ Ts.length := by
  have _ := R
  rcases h with ⟨rfl, _⟩ | ⟨i, r, rfl, hr, _⟩
  · omega
  · have := (List.getElem?_eq_some_iff.1 hr).1; omega
/-- where a row of the heap at j was made, seen from j -/
theorem Run.cr_le {j x cr : Nat} {r : Rec} (hr : Ts[j]? = some r) (h : Cr Ts size0 x cr) (hx : x < r.size) : cr ≤ j := by
  rcases h with ⟨rfl, _⟩ | ⟨i, y, rfl, hy, h1, _⟩
  · omega
  · rcases Nat.lt_or_ge i j with q | q
    · omega
    · exfalso
      rcases Nat.lt_or_ge j i with q2 | q2
      · have := R.size_lt hr hy q2; have := R.size_succ hr; omega
      · have : i = j := by omega
        subst this; rw [hr] at hy; cases hy; omega
/-- rows that are shown have been made -/
theorem shown_made (cl : Closed ops (fun i => S i = true)) {j x cr : Nat} {r : Rec} (hr : Ts[j]? = some r) (rd : Ready ops S j) (h : Cr Ts size0 x cr) (hcj : cr ≤ j) (hh : hidden x r.hide = false) : cr = 0 ∨ S (cr - 1) = true := by
  rcases h with ⟨rfl, _⟩ | ⟨i, y, rfl, hy, h1, h2⟩
  · exact .inl rfl
  · right
    show S i = true
    cases q : ahead (Region.before ops) i j with
    | true => exact ahead_in cl rd q
    | false =>
      have := (R.pr i j y r hy hr (by omega)).hide q x h1 h2
      rw [hh] at this; cases this
end

section
variable {env : Env} {b : Frame} {f : FuncId} {fn : Func} {ops : Array Oper} {hide0 : List (Nat × Nat)} {tm0 : T AV} {size0 : Nat} {tr0 : T Row} {Ts : List Rec} {tmE : T AV} {sizeE : Nat} {trE : T Row}
  {μ0 : Mu} {H0 : Heap} {w0 : World} {dfs : List Deferred} {S : Nat → Bool} {HS : Heap} {tm : T AV} {a : Act}
variable (R : Run c P env f fn ops false hide0 tm0 size0 tr0 Ts tmE sizeE trE)
include R
/-- the rows that j sees -/
theorem rowsA (cl : Closed ops (fun i => S i = true)) {g : Nat → Row} (I : RIA hide0 size0 Ts trE S g) (Rl : Row → Row → Prop) (h0 : ∀ x, Rl x x) (hsy : ∀ x y, Rl x y → Rl y x) (ht : ∀ x y z, Rl x y → Rl y z → Rl x z)
    {j x cr : Nat} (hj : j ≤ Ts.length) (rd : Ready ops S j) (hx : hidden x hide0 = false) (hc : Cr Ts size0 x cr) (hcj : cr ≤ j) (hS : cr = 0 ∨ S (cr - 1) = true)
    (h1 : ∀ (k : Nat) (r : Rec), Ts[k]? = some r → r.k = .any → k < j → ahead (Region.before ops) k j = false → x < r.size → Rl (T.get .dead r.tr x) (T.get .dead r.h'.tr x))
    (h2 : ∀ (k : Nat) (r : Rec), Ts[k]? = some r → r.k = .any → j < k → ahead (Region.before ops) j k = false → x < r.size → Rl (T.get .dead r.tr x) (T.get .dead r.h'.tr x)) : Rl (g x) (T.get .dead (trAt Ts trE j) x) := by
  obtain ⟨q, q1, q2, q3⟩ := I
  have hcl := R.cr_len hc
  rw [q3 x hx cr hc hS]
  refine R.rows_between Rl h0 hsy ht (by omega) hj fun k r hk hr => ?_
  have hkl := (List.getElem?_eq_some_iff.1 hr).1
  have hxs : x < r.size := by
    have := R.cr_lt hc (q := k) (by omega) (by omega)
    rwa [sizeAt_some hr] at this
  rcases kind_any R hr with ka | ⟨l, kl⟩
  · have hiff := q2 k r hr (fun l => by rw [ka]; simp)
    rcases hk with ⟨k1, k2⟩ | ⟨k1, k2⟩
    · refine h1 k r hr ka k2 ?_ hxs
      cases e : ahead (Region.before ops) k j with
      | false => rfl
      | true => have := hiff.1 (ahead_in cl rd e); omega
    · have hkq : k < q := by omega
      have hSk := hiff.2 hkq
      have hne : j ≠ k := fun e => by rw [← e, rd.1] at hSk; cases hSk
      exact h2 k r hr ka (by omega) (not_ahead cl rd hSk) hxs
  · rw [R.looks_row hr kl hxs]; exact h0 _
theorem riA_looks (_G : RegOK ops) (cl : Closed ops (fun i => S i = true)) {j : Nat} {r : Rec} (hr : Ts[j]? = some r) (rd : Ready ops S j) {l : List Rng} (hk : r.k = .looks l) {gs g : Nat → Row} (I : RIA hide0 size0 Ts trE S gs)
    (hg : ∀ x, g x = if r.size ≤ x ∧ x < r.h'.size then r.h'.get x else gs x) : RIA hide0 size0 Ts trE (addS S j) g := by
  obtain ⟨q, q1, q2, q3⟩ := I
  have hjl := (List.getElem?_eq_some_iff.1 hr).1
  refine ⟨q, q1, fun k y hy hky => ?_, fun x hx cr hc hS => ?_⟩
  · have hne : k ≠ j := fun e => by subst e; rw [hr] at hy; cases hy; exact hky l hk
    rw [addS_ne hne]; exact q2 k y hy hky
  · by_cases hcj : cr = j + 1
    · subst hcj
      rcases hc with ⟨h0, _⟩ | ⟨i, y, hi, hy, h1, h2⟩
      · cases h0
      · have : i = j := by omega
        subst this; rw [hr] at hy; cases hy
        rw [hg, if_pos ⟨h1, h2⟩]
        have hnh : ¬ hidden x r.h'.hide = true := fun e => by
          rw [(R.sem i r hr).hg.hide] at e
          obtain ⟨μd, wd, tmps, Md, _⟩ := (R.sem i r hr).M
          have := Md.hid x e
          exact absurd this (Nat.not_lt.2 h1)
        rw [Heap.get_eq, if_neg hnh, ← R.n3 i r hr]
        rcases Nat.le_total q (i + 1) with h | h
        · rw [Nat.max_eq_left h]
        · rw [Nat.max_eq_right h]
          have := R.rows_le (fun x y => x = y) (fun _ => rfl) (fun _ _ _ h1 h2 => h1.trans h2) (x := x) (q - (i + 1)) (i + 1) (by omega) fun k y k1 k2 hy => by
            have hlt := R.size_lt hr hy (by omega)
            rcases kind_any R hy with ka | ⟨l', kl⟩
            · have hSk := (q2 k y hy (fun l => by rw [ka]; simp)).2 (by omega)
              have hna := not_ahead cl rd hSk
              have hh := (R.pr i k r y hr hy (by omega)).hide hna x h1 h2
              exact ((R.sem k y hy).hg.hid x hh).symm
            · exact (R.looks_row hy kl (by omega)).symm
          rwa [show i + 1 + (q - (i + 1)) = q from by omega] at this
    · have hout : ¬ (r.size ≤ x ∧ x < r.h'.size) := by
        rcases hc with ⟨h0, h1⟩ | ⟨i, y, hi, hy, h1, h2⟩
        · have := R.size0_le hr; omega
        · have hne : i ≠ j := by omega
          rcases Nat.lt_or_ge i j with h | h
          · have := R.size_lt hy hr h; omega
          · have := R.size_lt hr hy (by omega); omega
      rw [hg, if_neg hout]
      refine q3 x hx cr hc ?_
      rcases hS with h | h
      · exact .inl h
      · rcases hc with ⟨h0, h1⟩ | ⟨i, y, hi, hy, h1, h2⟩
        · exact .inl h0
        · right; rw [addS_ne (by omega)] at h; exact h

theorem anyA {j k : Nat} {r y : Rec} (hr : Ts[j]? = some r) (hy : Ts[k]? = some y) (hk : r.k = .any) (hky : y.k = .any) : (j < k → ahead (Region.before ops) j k = true) ∧ (k < j → ahead (Region.before ops) k j = true) := by
  constructor
  · intro h
    cases e : ahead (Region.before ops) j k with
    | true => rfl
    | false => have := (R.pr j k r y hr hy h).cmp e; rw [hk, hky] at this; cases this
  · intro h
    cases e : ahead (Region.before ops) k j with
    | true => rfl
    | false => have := (R.pr k j y r hy hr h).cmp e; rw [hk, hky] at this; cases this
theorem shownA (cl : Closed ops (fun i => S i = true)) {g : Nat → Row} (I : RIA hide0 size0 Ts trE S g) {j : Nat} {r : Rec} (hr : Ts[j]? = some r) (rd : Ready ops S j) (hk : r.k = .any) {x cr : Nat} (hx : hidden x hide0 = false) (hc : Cr Ts size0 x cr) (hcj : cr ≤ j) (hS : cr = 0 ∨ S (cr - 1) = true) :
    g x = T.get .dead r.tr x := by
  have := rowsA R cl I (fun x y => x = y) (fun _ => rfl) (fun _ _ h => h.symm) (fun _ _ _ h1 h2 => h1.trans h2) (Nat.le_of_lt (List.getElem?_eq_some_iff.1 hr).1) rd hx hc hcj hS
    (fun k y hy ky hlt hna _ => by have := (anyA R hr hy hk ky).2 hlt; rw [hna] at this; cases this)
    (fun k y hy ky hlt hna _ => by have := (anyA R hr hy hk ky).1 hlt; rw [hna] at this; cases this)
  rwa [trAt_some hr] at this
theorem riA_any (_G : RegOK ops) (cl : Closed ops (fun i => S i = true)) {j : Nat} {r : Rec} (hr : Ts[j]? = some r) (rd : Ready ops S j) (hk : r.k = .any) {gs g : Nat → Row} (I : RIA hide0 size0 Ts trE S gs)
    (hg1 : ∀ x, Shows r.hp r.h'.size x → g x = r.h'.get x) (hg2 : ∀ x, ¬ Shows r.hp r.h'.size x → g x = gs x) : RIA hide0 size0 Ts trE (addS S j) g := by
  have I0 := I
  obtain ⟨q, q1, q2, q3⟩ := I
  have hjl := (List.getElem?_eq_some_iff.1 hr).1
  refine ⟨j + 1, hjl, fun k y hy hky => ?_, fun x hx cr hc hS => ?_⟩
  · have ky : y.k = .any := by
      rcases kind_any R hy with h | ⟨l, h⟩
      · exact h
      · exact absurd h (hky l)
    by_cases hne : k = j
    · subst hne; rw [addS_self]; simp
    · rw [addS_ne hne]
      rcases Nat.lt_or_ge k j with h | h
      · have := ahead_in cl rd ((anyA R hr hy hk ky).2 h)
        rw [this]; simp; omega
      · have hs : S k = false := by
          cases e : S k with
          | false => rfl
          | true => have := not_ahead cl rd e; rw [(anyA R hr hy hk ky).1 (by omega)] at this; cases this
        rw [hs]; simp; omega
  · have hS' : cr = j + 1 ∨ (cr = 0 ∨ S (cr - 1) = true) := by
      rcases hS with h | h
      · exact .inr (.inl h)
      · by_cases e : cr - 1 = j
        · rcases Nat.eq_zero_or_pos cr with z | z
          · exact .inr (.inl z)
          · exact .inl (by omega)
        · rw [addS_ne e] at h; exact .inr (.inr h)
    have hmh : ∀ y, hidden y r.hide = true → y < r.size := fun y hy => by
      obtain ⟨μd, wd, tmps, Md, _⟩ := (R.sem j r hr).M
      exact Md.hid y hy
    by_cases hsh : Shows r.hp r.h'.size x
    · rw [hg1 x hsh]
      have hcj : cr ≤ j + 1 := by
        rcases hc with ⟨rfl, _⟩ | ⟨i, y, rfl, hy, h1, h2⟩
        · omega
        · rcases Nat.lt_or_ge j i with e | e
          · have := R.size_lt hr hy e; have := hsh.1; omega
          · omega
      rw [Nat.max_eq_right hcj, R.n3 j r hr, Heap.get_eq, if_neg]
      rw [(R.sem j r hr).hg.hide]
      have : hidden x r.hide = false := hsh.2
      show ¬ hidden x r.hide = true
      simp [this]
    · rw [hg2 x hsh]
      rcases Nat.lt_or_ge x r.h'.size with hlt | hge
      · have hh : hidden x r.hide = true := by
          cases e : hidden x r.hide with
          | true => rfl
          | false => exact absurd ⟨hlt, e⟩ hsh
        have hxs := hmh x hh
        have hcj := R.cr_le hr hc hxs
        have hS2 : cr = 0 ∨ S (cr - 1) = true := by rcases hS' with e | e; omega; exact e
        rw [shownA R cl I0 hr rd hk hx hc hcj hS2, Nat.max_eq_right (by omega), R.n3 j r hr]
        exact ((R.sem j r hr).hg.hid x hh).symm
      · have hcj : j + 1 < cr := by
          rcases hc with ⟨rfl, h⟩ | ⟨i, y, rfl, hy, h1, h2⟩
          · have := R.size0_le hr; have := R.size_succ hr; omega
          · rcases Nat.lt_or_ge j i with e | e
            · omega
            · exfalso
              rcases Nat.lt_or_ge i j with e2 | e2
              · have := R.size_lt hy hr e2; have := R.size_succ hr; omega
              · have : i = j := by omega
                subst this; rw [hr] at hy; cases hy; omega
        have hS2 : cr = 0 ∨ S (cr - 1) = true := by rcases hS' with e | e; omega; exact e
        rw [q3 x hx cr hc hS2, Nat.max_eq_left (by omega : j + 1 ≤ cr)]
        have hcl := R.cr_len hc
        rcases Nat.le_total q cr with h | h
        · rw [Nat.max_eq_left h]
        · rw [Nat.max_eq_right h]
          have := R.rows_le (fun x y => x = y) (fun _ => rfl) (fun _ _ _ h1 h2 => h1.trans h2) (x := x) (q - cr) cr (by omega) fun k y k1 k2 hy => by
            have hxs : x < y.size := by
              have := R.cr_lt hc (q := k) k1 (by omega)
              rwa [sizeAt_some hy] at this
            rcases kind_any R hy with ka | ⟨l', kl⟩
            · exfalso
              have hSk := (q2 k y hy (fun l => by rw [ka]; simp)).2 (by omega)
              have hna := not_ahead cl rd hSk
              rw [(anyA R hr hy hk ka).1 (by omega)] at hna; cases hna
            · exact (R.looks_row hy kl hxs).symm
          rw [show cr + (q - cr) = q from by omega] at this
          exact this.symm
theorem riA_end {g : Nat → Row} (I : RIA hide0 size0 Ts trE S g) (hall : ∀ i, i < Ts.length → S i = true) {x : Nat} (hx : hidden x hide0 = false) (hlt : x < sizeE) : g x = T.get .dead trE x := by
  obtain ⟨q, q1, q2, q3⟩ := I
  obtain ⟨cr, c1, c2⟩ := R.cr Ts.length x (Nat.le_refl _) (by rw [sizeAt_end]; exact hlt)
  have hS : cr = 0 ∨ S (cr - 1) = true := by
    rcases Nat.eq_zero_or_pos cr with z | z
    · exact .inl z
    · exact .inr (hall _ (by omega))
  rw [q3 x hx cr c2 hS]
  have := R.rows_le (fun x y => x = y) (fun _ => rfl) (fun _ _ _ h1 h2 => h1.trans h2) (x := x) (Ts.length - max cr q) (max cr q) (by omega) fun k y k1 k2 hy => by
    have hxs : x < y.size := by
      have := R.cr_lt c2 (q := k) (by omega) (by omega)
      rwa [sizeAt_some hy] at this
    rcases kind_any R hy with ka | ⟨l', kl⟩
    · exfalso
      have := (q2 k y hy (fun l => by rw [ka]; simp)).1 (hall k (by omega))
      omega
    · exact (R.looks_row hy kl hxs).symm
  rw [show max cr q + (Ts.length - max cr q) = Ts.length from by omega, trAt_end] at this
  exact this
theorem riA_sees (cl : Closed ops (fun i => S i = true)) {g : Nat → Row} (I : RIA hide0 size0 Ts trE S g) {j : Nat} {r : Rec} (hr : Ts[j]? = some r) (rd : Ready ops S j) {l : List Rng} (hk : r.k = .looks l) {x i : Nat} (hx : hidden x hide0 = false) (hh : hidden x r.hide = false) (hxs : x < r.size)
    (hl : ∃ p ∈ l, inR p x i) : sameAt (g x) (T.get .dead r.tr x) i := by
  have hjl := (List.getElem?_eq_some_iff.1 hr).1
  obtain ⟨cr, c1, c2⟩ := R.cr j x (Nat.le_of_lt hjl) (by rw [sizeAt_some hr]; exact hxs)
  have told : ∀ (k : Nat) (y : Rec), Ts[k]? = some y → meets y.h'.log l = false → x < y.size → sameAt (T.get .dead y.tr x) (T.get .dead y.h'.tr x) i := by
    intro k y hy hm hlt
    obtain ⟨new, n1, n2⟩ := (R.sem k y hy).hg.told
    have hnew : new = y.h'.log := by rw [n1]; simp [Rec.hp]
    exact n2 x hlt i fun a ha => meets_not hm hl a (by rw [← hnew]; exact ha)
  have := rowsA R cl I (fun x y => sameAt x y i) (fun x => sameAt.refl x i) (fun _ _ h => h.symm) (fun _ _ _ h1 h2 => h1.trans h2) (Nat.le_of_lt hjl) rd hx c2 c1 (shown_made R cl hr rd c2 c1 hh)
    (fun k y hy ky hlt hna hxk => told k y hy (by
      have := (R.pr k j y r hy hr hlt).cmp hna
      rw [ky, hk] at this
      simpa [compat] using this) hxk)
    (fun k y hy ky hlt hna hxk => told k y hy (by
      have := (R.pr j k r y hr hy hlt).cmp hna
      rw [ky, hk] at this
      simpa [compat] using this) hxk)
  rwa [trAt_some hr] at this

theorem stepA (X : CfgOK c P) (En : EnvR c P env) (G : RegOK ops) (M0 : Models c P All μ0 H0 w0) (hh0 : ∀ x, hidden x hide0 = true → x < size0) (hgl : P.globals.size ≤ size0) (hfn : P.funcs[f]? = some fn) (hop : ∀ (j : Nat) (o : Oper), ops[j]? = some o → OkOper P fn o)
    (I : SInv c P f ops hide0 size0 Ts tmE sizeE (RIA hide0 size0 Ts trE) μ0 H0 w0 dfs S HS μ w tm a) {j : Nat} {r : Rec} (hr : Ts[j]? = some r) (rd : Ready ops S j) (hran : r.ran = true) :
    OpRes P (execOp a.eval r.o) w (fun v w' => ∃ HS' μ', SInv c P f ops hide0 size0 Ts tmE sizeE (RIA hide0 size0 Ts trE) μ0 H0 w0 dfs (addS S j) HS' μ' w' ((setOf r.o.dst).run tm r.x) (a.put r.o.dst v)) (fun _ _ => False) := by
  have hjl := (List.getElem?_eq_some_iff.1 hr).1
  obtain ⟨μd, wd, tmps, Md, Hd⟩ := (R.sem j r hr).M
  have hsub : ∀ x, hidden x r.hide = false → hidden x hide0 = false := fun x hx => by
    cases q : hidden x hide0 with
    | false => rfl
    | true => have := R.hs j r hr x q; rw [hx] at this; cases this
  have ehp : ∀ x, hidden x r.hide = false → r.hp.get x = T.get .dead r.tr x := fun x hx => by unfold Rec.hp; rw [hget, if_neg (by simp [hx])]
  rcases kind_any R hr with hk | ⟨l, hk⟩
  · have rok := R.ok j r hr
    have ook := hop j r.o rok.op
    have hag := SInv.agree_op R G I (Nat.le_of_lt hjl) rok.op rd
    rw [tmAt_some hr] at hag
    have hrun := rok.run hran
    have hagk : ∀ x ∈ r.o.op.operands.toList, ev (keepT tm (tmpsOf r.o.op.operands.toList)) x = ev r.tm x := fun x hx => (ev_keepT hx).trans (hag x hx)
    have Hk : TmR P f (μ.below r.hp.size) (keepT tm (tmpsOf r.o.op.operands.toList)) (keepA a (tmpsOf r.o.op.operands.toList)).tmps :=
      I.tmR.keep Md.dom fun t ht => by
        have := hag _ (mem_tmpsOf.1 ht)
        have e : T.get undef tm t = T.get undef r.tm t := this
        rw [e]; exact ⟨_, Hd.2 t⟩
    have Gk : GlobR P (μ.below r.hp.size) := fun g hg => by
      obtain ⟨N, e⟩ := I.gl g hg
      have := R.size0_le hr
      exact ⟨N, by rw [Mu.below_lt (by show g < r.size; omega)]; exact e⟩
    have hsame : ∀ x, Shows r.hp r.hp.size x → r.hp.get x = HS.get x := fun x hx => by
      obtain ⟨cr, c1, c2⟩ := R.cr j x (Nat.le_of_lt hjl) (by rw [sizeAt_some hr]; exact hx.1)
      rw [ehp x hx.2, shownA R I.cl I.rows hr rd hk (hsub x hx.2) c2 c1 (shown_made R I.cl hr rd c2 c1 hx.2)]
    have Mh : Models c P All (μ.below r.hp.size) r.hp w := I.M.small Md fun x hl i _ => .inl (hsame x (live_shows Md hl)).symm
    rw [← compOp_congr hagk] at hrun
    have OP := op_sound (o := r.o) (a := keepA a (tmpsOf r.o.op.operands.toList)) X En Mh Hk Gk ook.opnd
    have hex : execOp (keepA a (tmpsOf r.o.op.operands.toList)).eval r.o = execOp a.eval r.o := by
      refine execOp_congr r.o (fun cs b e => ?_) fun x hx => keepA_eval (by simpa using hx)
      rw [e] at hrun; cases hrun
    rw [hrun, hex] at OP
    refine OpRes.mono (fun v w' H => ?_) (fun _ _ h => h) OP
    obtain ⟨HS', μ', f1, f2, f3, f4, f5, f6, f7, f8⟩ := lift_res I (fun x hx => R.hs j r hr x hx) Md.hid Mh hsame (I.new j r hr rd.1) (Nat.le_refl _) (R.sizeE_ge hr) H
    refine ⟨HS', μ', I.next R G M0 hr rd hfn ook.dst f1 f2 f4 f5 f3 f8 (fun x hx hd => ?_) (riA_any R G I.cl hr rd hk I.rows f6 f7)⟩
    by_cases hsh : Shows r.hp r.h'.size x
    · have hlt : x < r.size := by have := hsh.1; omega
      have h0 := hsame x ⟨hlt, hsh.2⟩
      rw [hd] at h0
      rw [f6 x hsh]
      exact not_live fun hl => by
        have := (R.sem j r hr).hg.live x hlt hl
        rw [h0] at this; exact this
    · rw [f7 x hsh]; exact hd
  · refine looks_step X R G M0 hh0 hgl hfn hop I hr rd hran hk (fun x hl i hi => ?_) fun g hg => riA_looks R G I.cl hr rd hk I.rows hg
    have hs := live_shows Md hl
    rw [ehp x hs.2]
    exact riA_sees R I.cl I.rows hr rd hk (hsub x hs.2) hs.2 hs.1 hi
theorem skipA (G : RegOK ops) (M0 : Models c P All μ0 H0 w0) (hfn : P.funcs[f]? = some fn) (hop : ∀ (j : Nat) (o : Oper), ops[j]? = some o → OkOper P fn o)
    (I : SInv c P f ops hide0 size0 Ts tmE sizeE (RIA hide0 size0 Ts trE) μ0 H0 w0 dfs S HS μ w tm a) {j : Nat} {r : Rec} (hr : Ts[j]? = some r) (rd : Ready ops S j) (hran : r.ran = false) :
    SInv c P f ops hide0 size0 Ts tmE sizeE (RIA hide0 size0 Ts trE) μ0 H0 w0 dfs (addS S j) HS μ w ((setOf r.o.dst).run tm r.x) (a.put r.o.dst Go.undef) := by
  have rok := R.ok j r hr
  obtain ⟨k1, k2, k3⟩ := rok.skip hran
  refine I.next R G M0 hr rd hfn (hop j r.o rok.op).dst I.M (GoesW.refl _ _ _) I.size I.hide (by rw [k1]; exact undef_R _) (fun _ _ h => h) (fun _ _ h => h) (riA_looks R G I.cl hr rd k3 I.rows fun x => ?_)
  have : ¬ (r.size ≤ x ∧ x < r.h'.size) := by rw [k2]; show ¬ (r.size ≤ x ∧ x < r.size); omega
  rw [if_neg this]
end
end Go.E
/-! E, soundness, part 35: regions that draw: rows, where entries are put into a map that is made. -/
namespace Go.E
variable {c : Cfg} {P : Program} {μ μ' : Mu} {h h' : Heap} {w w' : World}

/-! ### keys -/
theorem beq_comm' (a b : Nat) : Nat.beq a b = Nat.beq b a := by
  cases h : Nat.beq a b with
  | true => have := Nat.eq_of_beq_eq_true h; subst this; exact (Nat.beq_refl _).symm
  | false =>
    cases k : Nat.beq b a with
    | false => rfl
    | true => have := Nat.eq_of_beq_eq_true k; subst this; rw [Nat.beq_refl] at h; cases h
theorem eqF_comm (a b : Int) : eqF a b = eqF b a := by cases a <;> cases b <;> simp only [eqF, beq_comm']
theorem strEq_comm : ∀ a b : List UInt8, strEq a b = strEq b a
  | [], [] => rfl
  | [], _ :: _ => rfl
  | _ :: _, [] => rfl
  | a :: x, b :: y => by rw [strEq, strEq, strEq_comm x y, beq_comm']
theorem kindEq_comm (a b : IntKind) : kindEq a b = kindEq b a := by
  unfold kindEq
  by_cases h : a = b
  · subst h; rfl
  · have : ¬ b = a := fun e => h e.symm
    simp [h, this]
theorem kindEq_eq {a b : IntKind} (h : kindEq a b = true) : a = b := by unfold kindEq at h; simpa using h
theorem scalarEq_comm (a b : AV) : scalarEq a b = scalarEq b a := by
  cases a <;> cases b <;> first | rfl | skip
  · rename_i x y; simp only [scalarEq]; cases x <;> cases y <;> rfl
  · simp only [scalarEq]; rw [kindEq_comm, eqF_comm]
  · simp only [scalarEq]; rw [strEq_comm]
theorem cellsEq_comm : ∀ a b : List AV, cellsEq a b = cellsEq b a
  | [], [] => rfl
  | [], _ :: _ => rfl
  | _ :: _, [] => rfl
  | a :: x, b :: y => by rw [cellsEq, cellsEq, cellsEq_comm x y, scalarEq_comm]
theorem keyEq_comm (a b : AV) : keyEq a b = keyEq b a := by
  cases a <;> cases b <;> simp only [keyEq] <;> first | exact cellsEq_comm _ _ | exact scalarEq_comm _ _
theorem findE_none {k : AV} : ∀ {es : List (AV × AV)}, find k es = some none ↔ ∀ p ∈ es, keyEq k p.1 = some false
  | [] => by simp [find]
  | (a, v) :: es => by
    rw [find]
    cases e : keyEq k a with
    | none => simp [e]
    | some b =>
      cases b with
      | true => simp [e]
      | false => simp only []; rw [findE_none]; simp [e]

/-! ### entries -/
def insOf (r : Rec) (x : Nat) : List (AV × AV) :=
  match r.ran, r.o.op with
  | true, .insert _ m k v => match ev r.tm m with
    | .map y => if y = x then [(ev r.tm k, ev r.tm v)] else []
    | _ => []
  | _, _ => []
def part1 (Ts : List Rec) (S : Nat → Bool) (x lo n : Nat) : List (AV × AV) :=
  if lo ≤ n ∧ S n = true then (match Ts[n]? with | some r => insOf r x | none => []) else []
def entsN (Ts : List Rec) (S : Nat → Bool) (x lo : Nat) : Nat → List (AV × AV)
  | 0 => []
  | n + 1 => entsN Ts S x lo n ++ part1 Ts S x lo n
def withE (row : Row) (l : List (AV × AV)) : Row :=
  match row with
  | .map kt es => .map kt (es ++ l)
  | r => r
theorem withE_nil (row : Row) : withE row [] = row := by cases row <;> simp [withE]
theorem withE_map {row : Row} {l es : List (AV × AV)} {kt : TypeId} (h : withE row l = .map kt es) : ∃ es0, row = .map kt es0 ∧ es = es0 ++ l := by
  cases row <;> simp [withE] at h
  obtain ⟨rfl, rfl⟩ := h
  exact ⟨_, rfl, rfl⟩
theorem entsN_congr {Ts : List Rec} {S S' : Nat → Bool} {x lo : Nat} : ∀ (n : Nat), (∀ (i : Nat) (r : Rec), i < n → lo ≤ i → Ts[i]? = some r → insOf r x ≠ [] → S i = S' i) → entsN Ts S x lo n = entsN Ts S' x lo n
  | 0, _ => rfl
  | n + 1, h => by
    rw [entsN, entsN, entsN_congr n fun i r hi => h i r (by omega)]
    congr 1
    unfold part1
    by_cases hl : lo ≤ n
    · cases hr : Ts[n]? with
      | none => simp
      | some r =>
        by_cases hne : insOf r x = []
        · simp [hne]
        · rw [h n r (by omega) hl hr hne]
    · rw [if_neg (fun q => hl q.1), if_neg (fun q => hl q.1)]
theorem entsN_mem {Ts : List Rec} {S : Nat → Bool} {x lo : Nat} {p : AV × AV} : ∀ {n : Nat}, p ∈ entsN Ts S x lo n ↔ ∃ i r, i < n ∧ lo ≤ i ∧ S i = true ∧ Ts[i]? = some r ∧ p ∈ insOf r x
  | 0 => by simp [entsN]
  | n + 1 => by
    rw [entsN, List.mem_append, entsN_mem]
    constructor
    · rintro (⟨i, r, h1, h2⟩ | h)
      · exact ⟨i, r, by omega, h2⟩
      · unfold part1 at h
        by_cases q : lo ≤ n ∧ S n = true
        · rw [if_pos q] at h
          cases hr : Ts[n]? with
          | none => rw [hr] at h; cases h
          | some r => rw [hr] at h; exact ⟨n, r, by omega, q.1, q.2, hr, h⟩
        · rw [if_neg q] at h; cases h
    · rintro ⟨i, r, h1, h2, h3, h4, h5⟩
      by_cases e : i = n
      · subst e; right; unfold part1; rw [if_pos ⟨h2, h3⟩, h4]; exact h5
      · exact .inl ⟨i, r, by omega, h2, h3, h4, h5⟩
theorem entsN_upto {Ts : List Rec} {x lo j : Nat} : ∀ (n : Nat), j ≤ n → entsN Ts (fun i => decide (i < j)) x lo n = entsN Ts (fun _ => true) x lo j
  | 0, h => by have : j = 0 := by omega
               subst this; rfl
  | n + 1, h => by
    by_cases e : j = n + 1
    · subst e
      refine entsN_congr _ fun i r hi _ _ _ => by simp [hi]
    · rw [entsN, entsN_upto n (by omega)]
      unfold part1
      have : ¬ (lo ≤ n ∧ decide (n < j) = true) := by simp; omega
      rw [if_neg this]; simp
theorem entsN_add {Ts : List Rec} {S : Nat → Bool} {x lo j : Nat} {r : Rec} (hr : Ts[j]? = some r) (hS : S j = false) (hl : lo ≤ j) : ∀ (n : Nat), j < n → (entsN Ts (addS S j) x lo n).Perm (entsN Ts S x lo n ++ insOf r x)
  | 0, h => by omega
  | n + 1, h => by
    rw [entsN, entsN]
    by_cases e : j = n
    · subst e
      have h1 : entsN Ts (addS S j) x lo j = entsN Ts S x lo j := entsN_congr j fun i r hi _ _ _ => addS_ne (by omega)
      have h2 : part1 Ts (addS S j) x lo j = insOf r x := by unfold part1; rw [if_pos ⟨hl, addS_self _ _⟩, hr]
      have h3 : part1 Ts S x lo j = [] := by unfold part1; rw [if_neg]; rw [hS]; simp
      rw [h1, h2, h3]; simp
    · have h1 := entsN_add hr hS hl (S := S) (x := x) n (by omega)
      have h2 : part1 Ts (addS S j) x lo n = part1 Ts S x lo n := by unfold part1; rw [addS_ne (fun q => e q.symm)]
      rw [h2]
      refine (h1.append_right _).trans ?_
      rw [List.append_assoc, List.append_assoc]
      exact List.Perm.append_left _ List.perm_append_comm
def RIB (hide0 : List (Nat × Nat)) (size0 : Nat) (Ts : List Rec) (trE : T Row) (S : Nat → Bool) (g : Nat → Row) : Prop :=
  ∀ x, hidden x hide0 = false → ∀ cr, Cr Ts size0 x cr → (cr = 0 ∨ S (cr - 1) = true) → g x = withE (T.get .dead (trAt Ts trE cr) x) (entsN Ts S x cr Ts.length)

theorem loose_kind {o : Op} {tm : T AV} (h : isAny o = false) : kindD c true o tm = .ins ∧ (∃ t m y z, o = .insert t m y z) ∨ ∃ l, kindD c true o tm = .looks l := by
  cases o <;> first | exact .inr ⟨_, rfl⟩ | (simp [isAny] at h; done) | skip
  · exact .inl ⟨rfl, _, _, _, _, rfl⟩
  · rename_i k
    obtain ⟨callee, args, ts⟩ := k
    right
    cases callee with
    | value f => simp [isAny] at h
    | invoke r m => simp [isAny] at h
    | builtin b =>
      cases b <;> first | (simp [isAny] at h; done) | exact ⟨_, rfl⟩ | skip
      show ∃ l, callReads ⟨.builtin .len, args, ts⟩ tm = .looks l
      unfold callReads
      simp only []
      split <;> exact ⟨_, rfl⟩

section
variable {env : Env} {b : Frame} {f : FuncId} {fn : Func} {ops : Array Oper} {hide0 : List (Nat × Nat)} {tm0 : T AV} {size0 : Nat} {tr0 : T Row} {Ts : List Rec} {tmE : T AV} {sizeE : Nat} {trE : T Row}
  {μ0 : Mu} {H0 : Heap} {w0 : World} {dfs : List Deferred} {S : Nat → Bool} {HS : Heap} {tm : T AV} {a : Act}
variable (R : Run c P env f fn ops true hide0 tm0 size0 tr0 Ts tmE sizeE trE) (Lo : loose ops = true)
include R
/-- an entry that is put -/
theorem ins_rec {j : Nat} {r : Rec} (hr : Ts[j]? = some r) (hran : r.ran = true) {t : TypeId} {m y z : Operand} (ho : r.o.op = .insert t m y z) :
    ∃ kt x es, mapKey c t = some kt ∧ ev r.tm m = .map x ∧ r.hp.get x = .map kt es ∧ keyOk c kt (ev r.tm y) = true ∧ find (ev r.tm y) es = some none ∧ r.x = undef ∧ r.h' = r.hp.put x 0 whole (.map kt (es ++ [(ev r.tm y, ev r.tm z)])) ∧
      x < r.size ∧ hidden x r.hide = false ∧ insOf r x = [(ev r.tm y, ev r.tm z)] ∧ r.h'.log = [(x, 0, whole)] := by
  obtain ⟨kt, x, es, a1, a2, a3, a4, a5, a6, a7⟩ := oInsert_val ((R.ok j r hr).ins hran rfl t m y z ho)
  obtain ⟨μd, wd, tmps, Md, _⟩ := (R.sem j r hr).M
  have hs := live_shows Md (r := x) (by rw [a3]; trivial)
  refine ⟨kt, x, es, a1, a2, a3, a4, a5, a6, a7, hs.1, hs.2, ?_, ?_⟩
  · unfold insOf; rw [hran, ho]; simp only [a2, if_true]
  · have hb : Nat.blt x r.size = true := Nat.ble_eq_true_of_le hs.1
    rw [a7]; unfold Rec.hp Heap.put; simp only [hb]; rfl
theorem insOf_ins {j x : Nat} {r : Rec} (_hr : Ts[j]? = some r) (hne : insOf r x ≠ []) : r.ran = true ∧ ∃ t m y z, r.o.op = .insert t m y z ∧ ev r.tm m = .map x := by
  have _ := R
  unfold insOf at hne
  cases hran : r.ran with
  | false => rw [hran] at hne; exact absurd rfl hne
  | true =>
    refine ⟨rfl, ?_⟩
    rw [hran] at hne
    cases ho : r.o.op <;> rw [ho] at hne <;> first | exact absurd rfl hne | skip
    rename_i t m k v
    simp only [] at hne
    cases he : ev r.tm m <;> rw [he] at hne <;> first | exact absurd rfl hne | skip
    rename_i y
    simp only [] at hne
    by_cases e : y = x
    · subst e; exact ⟨t, m, k, v, rfl, he⟩
    · rw [if_neg e] at hne; exact absurd rfl hne
theorem insOf_rec {j x : Nat} {r : Rec} (hr : Ts[j]? = some r) (hne : insOf r x ≠ []) : r.k = .ins ∧ x < r.size ∧ hidden x r.hide = false ∧ r.h'.log = [(x, 0, whole)] := by
  obtain ⟨hran, t, m, y, z, ho, he⟩ := insOf_ins R hr hne
  obtain ⟨kt, x', es, _, a2, _, _, _, _, _, a8, a9, _, a11⟩ := ins_rec R hr hran ho
  rw [he] at a2; cases a2
  refine ⟨?_, a8, a9, a11⟩
  rw [(R.ok j r hr).kd hran, ho]; rfl
theorem insOf_looks {j x : Nat} {r : Rec} (hr : Ts[j]? = some r) {l : List Rng} (hk : r.k = .looks l) : insOf r x = [] := by
  by_cases h : insOf r x = []
  · exact h
  · have := (insOf_rec R hr h).1; rw [hk] at this; cases this
include Lo
theorem kindB {i : Nat} {r : Rec} (h : Ts[i]? = some r) : (r.ran = true ∧ r.k = .ins ∧ ∃ t m y z, r.o.op = .insert t m y z) ∨ ∃ l, r.k = .looks l := by
  have ok := R.ok i r h
  cases e : r.ran with
  | false => exact .inr ⟨_, (ok.skip e).2.2⟩
  | true =>
    have hm : r.o ∈ ops.toList := by have := ok.op; rw [← Array.getElem?_toList] at this; exact List.mem_of_getElem? this
    have ha : isAny r.o.op = false := by
      have := List.all_eq_true.1 Lo r.o hm
      simpa using this
    rcases loose_kind (c := c) (tm := r.tm) ha with ⟨h1, h2⟩ | ⟨l, h1⟩
    · exact .inl ⟨rfl, by rw [ok.kd e, h1], h2⟩
    · exact .inr ⟨l, by rw [ok.kd e, h1]⟩
/-- the rows of the run in the order of the text -/
theorem rowsB {x cr : Nat} (hc : Cr Ts size0 x cr) : ∀ (d : Nat), cr + d ≤ Ts.length → T.get .dead (trAt Ts trE (cr + d)) x = withE (T.get .dead (trAt Ts trE cr) x) (entsN Ts (fun _ => true) x cr (cr + d))
  | 0, _ => by
    have : ∀ n, n ≤ cr → entsN Ts (fun _ => true) x cr n = [] := by
      intro n
      induction n with
      | zero => intro _; rfl
      | succ n ih =>
        intro hn
        rw [entsN, ih (by omega)]
        unfold part1
        rw [if_neg (by omega)]; rfl
    rw [Nat.add_zero, this cr (Nat.le_refl _), withE_nil]
  | d + 1, hd => by
    have ih := rowsB hc d (by omega)
    obtain ⟨r, hr⟩ := R.get (i := cr + d) (by omega)
    have hxs : x < r.size := by
      have := R.cr_lt hc (q := cr + d) (by omega) (by omega)
      rwa [sizeAt_some hr] at this
    rw [← Nat.add_assoc, R.n3 _ _ hr, entsN]
    have hp : part1 Ts (fun _ => true) x cr (cr + d) = insOf r x := by unfold part1; rw [if_pos ⟨by omega, rfl⟩, hr]
    rw [hp]
    rw [trAt_some hr] at ih
    rcases kindB R Lo hr with ⟨hran, hk, t, m, y, z, ho⟩ | ⟨l, hk⟩
    · obtain ⟨kt, x', es, a1, a2, a3, a4, a5, a6, a7, a8, a9, a10, a11⟩ := ins_rec R hr hran ho
      rw [a7, Heap.put_tr, T.get_set]
      by_cases e : x' = x
      · subst e
        rw [if_pos rfl, a10]
        have : r.hp.get x' = T.get .dead r.tr x' := by unfold Rec.hp; rw [hget, if_neg (by simp [a9])]
        rw [a3, ih] at this
        obtain ⟨es0, b1, b2⟩ := withE_map this.symm
        rw [b1, b2]; simp [withE]
      · rw [if_neg e]
        have : insOf r x = [] := by
          unfold insOf; rw [hran, ho]; simp only [a2, if_neg e]
        rw [this, List.append_nil]; exact ih
    · rw [insOf_looks R hr hk, List.append_nil, R.looks_row hr hk hxs]; exact ih
theorem rowsB' {x cr j : Nat} (hc : Cr Ts size0 x cr) (hcj : cr ≤ j) (hj : j ≤ Ts.length) : T.get .dead (trAt Ts trE j) x = withE (T.get .dead (trAt Ts trE cr) x) (entsN Ts (fun i => decide (i < j)) x cr Ts.length) := by
  rw [entsN_upto _ hj]
  have := rowsB R Lo hc (j - cr) (by omega)
  rwa [show cr + (j - cr) = j from by omega] at this
theorem riB_sees (cl : Closed ops (fun i => S i = true)) {g : Nat → Row} (I : RIB hide0 size0 Ts trE S g) {j : Nat} {r : Rec} (hr : Ts[j]? = some r) (rd : Ready ops S j) {l : List Rng} (hk : r.k = .looks l) {x i : Nat} (hx : hidden x hide0 = false) (hh : hidden x r.hide = false) (hxs : x < r.size)
    (hl : ∃ p ∈ l, inR p x i) : g x = T.get .dead r.tr x := by
  have hjl := (List.getElem?_eq_some_iff.1 hr).1
  obtain ⟨cr, c1, c2⟩ := R.cr j x (Nat.le_of_lt hjl) (by rw [sizeAt_some hr]; exact hxs)
  rw [I x hx cr c2 (shown_made R cl hr rd c2 c1 hh)]
  have := rowsB' R Lo c2 c1 (Nat.le_of_lt hjl)
  rw [trAt_some hr] at this
  rw [this]
  congr 1
  refine entsN_congr _ fun k y hk1 hk2 hy hne => ?_
  obtain ⟨i1, i2, i3, i4⟩ := insOf_rec R hy hne
  have bad : meets y.h'.log l = false → False := fun hm => by
    have := meets_not hm hl (x, 0, whole) (by rw [i4]; simp)
    exact this ⟨rfl, Nat.zero_le _, .inl (Nat.le_refl _)⟩
  rcases Nat.lt_or_ge k j with q | q
  · rw [show decide (k < j) = true from by simp [q]]
    cases e : ahead (Region.before ops) k j with
    | true => exact ahead_in cl rd e
    | false =>
      exfalso
      have := (R.pr k j y r hy hr q).cmp e
      rw [i1, hk] at this
      exact bad (by simpa [compat] using this)
  · rw [show decide (k < j) = false from by simp; omega]
    cases e : S k with
    | false => rfl
    | true =>
      exfalso
      have hne' : k ≠ j := fun h => by subst h; rw [rd.1] at e; cases e
      have := (R.pr j k r y hr hy (by omega)).cmp (not_ahead cl rd e)
      rw [i1, hk] at this
      exact bad (by simpa [compat] using this)
theorem riB_looks (cl : Closed ops (fun i => S i = true)) {j : Nat} {r : Rec} (hr : Ts[j]? = some r) (rd : Ready ops S j) {l : List Rng} (hk : r.k = .looks l) {gs g : Nat → Row} (I : RIB hide0 size0 Ts trE S gs)
    (hg : ∀ x, g x = if r.size ≤ x ∧ x < r.h'.size then r.h'.get x else gs x) : RIB hide0 size0 Ts trE (addS S j) g := by
  have _ := Lo
  intro x hx cr hc hS
  by_cases hcj : cr = j + 1
  · subst hcj
    rcases hc with ⟨h0, _⟩ | ⟨i, y, hi, hy, h1, h2⟩
    · cases h0
    · have : i = j := by omega
      subst this; rw [hr] at hy; cases hy
      rw [hg, if_pos ⟨h1, h2⟩]
      have hnh : ¬ hidden x r.h'.hide = true := fun e => by
        rw [(R.sem i r hr).hg.hide] at e
        obtain ⟨μd, wd, tmps, Md, _⟩ := (R.sem i r hr).M
        have := Md.hid x e
        exact absurd this (Nat.not_lt.2 h1)
      rw [Heap.get_eq, if_neg hnh, ← R.n3 i r hr]
      have : entsN Ts (addS S i) x (i + 1) Ts.length = [] := by
        have h0 : ∀ p, p ∉ entsN Ts (addS S i) x (i + 1) Ts.length := by
          intro p hp
          obtain ⟨k, y, k1, k2, k3, k4, k5⟩ := entsN_mem.1 hp
          have hne : insOf y x ≠ [] := fun e => by rw [e] at k5; cases k5
          obtain ⟨_, _, i3, _⟩ := insOf_rec R k4 hne
          rw [addS_ne (by omega)] at k3
          have := (R.pr i k r y hr k4 (by omega)).hide (not_ahead cl rd k3) x h1 h2
          rw [i3] at this; cases this
        cases e : entsN Ts (addS S i) x (i + 1) Ts.length with
        | nil => rfl
        | cons p _ => exact absurd (by rw [e]; simp) (h0 p)
      rw [this, withE_nil]
  · have hout : ¬ (r.size ≤ x ∧ x < r.h'.size) := by
      rcases hc with ⟨h0, h1⟩ | ⟨i, y, hi, hy, h1, h2⟩
      · have := R.size0_le hr; omega
      · have hne : i ≠ j := by omega
        rcases Nat.lt_or_ge i j with h | h
        · have := R.size_lt hy hr h; omega
        · have := R.size_lt hr hy (by omega); omega
    rw [hg, if_neg hout, I x hx cr hc ?_]
    · congr 1
      refine entsN_congr _ fun k y _ _ hy hne => ?_
      have : k ≠ j := fun e => by subst e; rw [hr] at hy; cases hy; exact hne (insOf_looks R hr hk)
      rw [addS_ne this]
    · rcases hS with h | h
      · exact .inl h
      · rcases hc with ⟨h0, h1⟩ | ⟨i, y, hi, hy, h1, h2⟩
        · exact .inl h0
        · right; rw [addS_ne (by omega)] at h; exact h
theorem riB_end {g : Nat → Row} (I : RIB hide0 size0 Ts trE S g) (hall : ∀ i, i < Ts.length → S i = true) {x : Nat} (hx : hidden x hide0 = false) (hlt : x < sizeE) : g x = T.get .dead trE x := by
  obtain ⟨cr, c1, c2⟩ := R.cr Ts.length x (Nat.le_refl _) (by rw [sizeAt_end]; exact hlt)
  have hS : cr = 0 ∨ S (cr - 1) = true := by
    rcases Nat.eq_zero_or_pos cr with z | z
    · exact .inl z
    · exact .inr (hall _ (by omega))
  rw [I x hx cr c2 hS]
  have := rowsB' R Lo c2 c1 (Nat.le_refl _)
  rw [trAt_end] at this
  rw [this]; congr 1
  exact entsN_congr _ fun k y hk _ _ _ => by rw [hall k hk]; simp [hk]
omit Lo in
theorem Cr.uniq {x cr cr' : Nat} (h : Cr Ts size0 x cr) (h' : Cr Ts size0 x cr') : cr = cr' := by
  rcases h with ⟨rfl, h⟩ | ⟨i, r, rfl, hr, h1, h2⟩ <;> rcases h' with ⟨rfl, h'⟩ | ⟨k, y, rfl, hy, k1, k2⟩
  · rfl
  · have := R.size0_le hy; omega
  · have := R.size0_le hr; omega
  · rcases Nat.lt_trichotomy i k with q | q | q
    · have := R.size_lt hr hy q; omega
    · rw [q]
    · have := R.size_lt hy hr q; omega

omit R Lo in
theorem Models.permuted {H H' : Heap} (M : Models c P All μ H w) {x : Nat} {kt : TypeId} {es es' : List (AV × AV)} (hx : H.get x = .map kt es) (hp : es'.Perm es) (h1 : H'.get x = .map kt es') (h2 : ∀ y, y ≠ x → H'.get y = H.get y) (hs : H'.size = H.size) (hh : H'.hide = H.hide) (hm : H'.mark ≤ H'.size) :
    Models c P All μ H' w := by
  have ho : ∀ y, (H'.get y).own ↔ (H.get y).own := fun y => by
    by_cases e : y = x
    · subst e; rw [h1, hx]; exact Iff.rfl
    · rw [h2 y e]
  have hl : ∀ y, (H'.get y).live ↔ (H.get y).live := fun y => by
    by_cases e : y = x
    · subst e; rw [h1, hx]; exact Iff.rfl
    · rw [h2 y e]
  refine ⟨fun y hv => ?_, fun r s hrs a b o l => M.apart r s hrs a b ((ho r).1 o) ((hl s).1 l), fun r hr => M.dom r (by rw [← hs]; exact hr), fun r hr => ?_, M.size, fun r hr => by rw [hs]; exact M.hid r (by rw [← hh]; exact hr), hm⟩
  · by_cases e : y = x
    · subst e
      have := M.row y hv
      rw [hx] at this
      rw [h1]
      obtain ⟨b, base, N, es2, clock, e1, e2, ⟨es3, p, k1, k2⟩, hk, hd, hbn⟩ := this
      refine ⟨b, base, N, es2, clock, e1, e2, ⟨es3, p.trans hp.symm, k1, k2⟩, fun q hq => hk q (hp.subset hq), ?_, hbn⟩
      exact (List.Perm.pairwise_iff (fun hne => fun e => hne e.symm) hp).2 hd
    · rw [h2 y e]; exact M.row y hv
  · have hd := M.dead r (by rw [← hs]; exact hr)
    refine not_live fun l => ?_
    rw [hl, hd] at l; exact l

theorem stepB (X : CfgOK c P) (En : EnvR c P env) (G : RegOK ops) (M0 : Models c P All μ0 H0 w0) (hh0 : ∀ x, hidden x hide0 = true → x < size0) (hgl : P.globals.size ≤ size0) (hfn : P.funcs[f]? = some fn) (hop : ∀ (j : Nat) (o : Oper), ops[j]? = some o → OkOper P fn o)
    (I : SInv c P f ops hide0 size0 Ts tmE sizeE (RIB hide0 size0 Ts trE) μ0 H0 w0 dfs S HS μ w tm a) {j : Nat} {r : Rec} (hr : Ts[j]? = some r) (rd : Ready ops S j) (hran : r.ran = true) :
    OpRes P (execOp a.eval r.o) w (fun v w' => ∃ HS' μ', SInv c P f ops hide0 size0 Ts tmE sizeE (RIB hide0 size0 Ts trE) μ0 H0 w0 dfs (addS S j) HS' μ' w' ((setOf r.o.dst).run tm r.x) (a.put r.o.dst v)) (fun _ _ => False) := by
  have hjl := (List.getElem?_eq_some_iff.1 hr).1
  obtain ⟨μd, wd, tmps, Md, Hd⟩ := (R.sem j r hr).M
  have hsub : ∀ x, hidden x r.hide = false → hidden x hide0 = false := fun x hx => by
    cases q : hidden x hide0 with
    | false => rfl
    | true => have := R.hs j r hr x q; rw [hx] at this; cases this
  have ehp : ∀ x, hidden x r.hide = false → r.hp.get x = T.get .dead r.tr x := fun x hx => by unfold Rec.hp; rw [hget, if_neg (by simp [hx])]
  rcases kindB R Lo hr with ⟨_, hk, t, m, y, z, ho⟩ | ⟨l, hk⟩
  · have rok := R.ok j r hr
    have ook := hop j r.o rok.op
    have hag := SInv.agree_op R G I (Nat.le_of_lt hjl) rok.op rd
    rw [tmAt_some hr, ho] at hag
    have gm := hag m (by simp [Op.operands])
    have gy := hag y (by simp [Op.operands])
    have gz := hag z (by simp [Op.operands])
    obtain ⟨kt, x, es, a1, a2, a3, a4, a5, a6, a7, a8, a9, a10, a11⟩ := ins_rec R hr hran ho
    obtain ⟨cr, c1, c2⟩ := R.cr j x (Nat.le_of_lt hjl) (by rw [sizeAt_some hr]; exact a8)
    have hS := shown_made R I.cl hr rd c2 c1 a9
    have hx0 := hsub x a9
    have hrow := I.rows x hx0 cr c2 hS
    have hdry := rowsB' R Lo c2 c1 (Nat.le_of_lt hjl)
    rw [trAt_some hr, ← ehp x a9, a3] at hdry
    obtain ⟨es0, b1, b2⟩ := withE_map hdry.symm
    rw [b1] at hrow
    simp only [withE] at hrow
    -- no entry has this key
    have hfind : find (ev tm y) (es0 ++ entsN Ts S x cr Ts.length) = some none := by
      rw [gy, findE_none]
      rw [findE_none] at a5
      intro p hp
      rcases List.mem_append.1 hp with hp | hp
      · exact a5 p (by rw [b2]; exact List.mem_append_left _ hp)
      · obtain ⟨k, q, k1, k2, k3, k4, k5⟩ := entsN_mem.1 hp
        rcases Nat.lt_or_ge k j with hlt | hge
        · exact a5 p (by rw [b2]; exact List.mem_append_right _ (entsN_mem.2 ⟨k, q, k1, k2, by simp [hlt], k4, k5⟩))
        · have hne : k ≠ j := fun e => by subst e; rw [rd.1] at k3; cases k3
          have hins : insOf q x ≠ [] := fun e => by rw [e] at k5; cases k5
          obtain ⟨qran, t', m', y', z', qo, qm⟩ := insOf_ins R k4 hins
          obtain ⟨kt', x', es', d1, d2, d3, d4, d5, d6, d7, d8, d9, d10, d11⟩ := ins_rec R k4 qran qo
          rw [qm] at d2; cases d2
          rw [d10] at k5
          simp only [List.mem_singleton] at k5
          rw [k5, keyEq_comm]
          rw [findE_none] at d5
          have hdry' := rowsB' R Lo c2 (j := k) (by omega) (by have := (List.getElem?_eq_some_iff.1 k4).1; omega)
          have ehq : q.hp.get x = T.get .dead q.tr x := by unfold Rec.hp; rw [hget, if_neg (by simp [d9])]
          rw [trAt_some k4, ← ehq, d3, b1] at hdry'
          simp only [withE, Row.map.injEq] at hdry'
          have := d5 (ev r.tm y, ev r.tm z) (by
            rw [hdry'.2]
            exact List.mem_append_right _ (entsN_mem.2 ⟨j, r, hjl, c1, by simp; omega, hr, by rw [a10]; simp⟩))
          exact this
    have hrun : (compOp c r.o.op).run env tm HS = .val undef (HS.put x 0 whole (.map kt ((es0 ++ entsN Ts S x cr Ts.length) ++ [(ev tm y, ev tm z)]))) := by
      rw [ho]; exact oUpdate_new a1 (gm.trans a2) hrow (by rw [gy]; exact a4) hfind
    have OP := op_sound (o := r.o) X En I.M I.tmR I.gl ook.opnd
    rw [hrun] at OP
    refine OpRes.mono (fun v w' H => ?_) (fun _ _ h => h) OP
    obtain ⟨μ', hv, M', Gs⟩ := H
    have hput : ∀ q, (HS.put x 0 whole (.map kt ((es0 ++ entsN Ts S x cr Ts.length) ++ [(ev tm y, ev tm z)]))).get q = if q = x then .map kt ((es0 ++ entsN Ts S x cr Ts.length) ++ [(ev tm y, ev tm z)]) else HS.get q := by
      intro q
      rw [Heap.get_put]
      by_cases e : q = x
      · subst e
        have hnh : ¬ hidden q HS.hide = true := by rw [I.hide, hx0]; simp
        rw [if_neg hnh, if_pos rfl]
        try simp
      · rw [if_neg e]
        by_cases qh : hidden q HS.hide = true
        · rw [if_pos qh, get_hidden qh]
        · rw [if_neg qh, if_neg (fun k => e k.symm)]
    have hxN : x < sizeE := by have := R.sizeE_ge hr; have := R.size_succ hr; omega
    have hget' : ∀ q, (mkHeap (fun q => if q = x then .map kt (es0 ++ entsN Ts (addS S j) x cr Ts.length) else HS.get q) sizeE hide0).get q = if q = x then .map kt (es0 ++ entsN Ts (addS S j) x cr Ts.length) else HS.get q := by
      intro q
      rw [mkHeap_get]
      by_cases e : q = x
      · subst e; rw [if_neg (by rw [hx0]; simp), if_pos hxN]
      · rw [if_neg e]
        by_cases qh : hidden q hide0 = true
        · rw [if_pos qh]; rw [← I.hide] at qh; exact (get_hidden qh).symm
        · rw [if_neg qh]
          by_cases q2 : q < sizeE
          · rw [if_pos q2]
          · rw [if_neg q2]; exact (I.M.dead q (by rw [I.size]; omega)).symm
    have hperm : (es0 ++ entsN Ts (addS S j) x cr Ts.length).Perm ((es0 ++ entsN Ts S x cr Ts.length) ++ [(ev tm y, ev tm z)]) := by
      have := entsN_add hr rd.1 c1 (x := x) Ts.length hjl
      rw [a10, ← gy, ← gz] at this
      rw [List.append_assoc]
      exact this.append_left es0
    have M2 : Models c P All μ' (mkHeap (fun q => if q = x then .map kt (es0 ++ entsN Ts (addS S j) x cr Ts.length) else HS.get q) sizeE hide0) w' :=
      M'.permuted (x := x) (by rw [hput, if_pos rfl]) hperm (by rw [hget', if_pos rfl]) (fun q hq => by rw [hget', hput, if_neg hq, if_neg hq]) (by rw [Heap.put_size, I.size]; rfl) (by rw [Heap.put_hide, I.hide]; rfl) (Nat.zero_le _)
    have G2 : GoesW μ HS w μ' (mkHeap (fun q => if q = x then .map kt (es0 ++ entsN Ts (addS S j) x cr Ts.length) else HS.get q) sizeE hide0) w' := by
      have g := Gs.gw I.M
      refine ⟨g.le, g.size, g.os, g.output, g.tape, g.same, g.fresh, fun q p hp ho => ?_⟩
      rw [hget'] at ho
      by_cases e : q = x
      · subst e; rw [hrow]; trivial
      · rw [if_neg e] at ho; exact ho
    refine ⟨_, μ', I.next R G M0 hr rd hfn ook.dst M2 G2 rfl rfl (by rw [a6]; exact hv) (fun q _ hn => ?_) (fun q _ hd => ?_) ?_⟩
    · rcases Nat.lt_or_ge q HS.size with h1 | h1
      · exact Gs.dom q h1 hn
      · exact M'.dom q (by rw [Heap.put_size]; exact h1)
    · rw [hget', if_neg]; exact hd
      intro e; subst e; rw [hrow] at hd; cases hd
    · intro q hq cr' hc' hS'
      rw [hget']
      have hS2 : cr' = 0 ∨ S (cr' - 1) = true := by
        rcases hS' with h | h
        · exact .inl h
        · rcases hc' with ⟨h0, h1⟩ | ⟨i, u, hi, hu, h1, h2⟩
          · exact .inl h0
          · right
            have : i ≠ j := fun e => by
              subst e; rw [hr] at hu; cases hu
              have : r.h'.size = r.size := by rw [a7, Heap.put_size]; rfl
              omega
            rw [addS_ne (by omega)] at h; exact h
      by_cases e : q = x
      · subst e
        have := Cr.uniq R c2 hc'
        subst this
        rw [if_pos rfl, b1]; rfl
      · rw [if_neg e, I.rows q hq cr' hc' hS2]
        congr 1
        refine entsN_congr _ fun k u _ _ hu hne => ?_
        have : k ≠ j := fun e2 => by
          subst e2; rw [hr] at hu; cases hu
          obtain ⟨_, t', m', y', z', qo, qm⟩ := insOf_ins R hr hne
          rw [ho] at qo; cases qo
          rw [a2] at qm; cases qm; exact e rfl
        rw [addS_ne this]
  · refine looks_step X R G M0 hh0 hgl hfn hop I hr rd hran hk (fun x hl i hi => ?_) fun g hg => riB_looks R Lo I.cl hr rd hk I.rows hg
    have hs := live_shows Md hl
    rw [ehp x hs.2]
    exact .inl (riB_sees R Lo I.cl I.rows hr rd hk (hsub x hs.2) hs.2 hs.1 hi)
theorem skipB (G : RegOK ops) (M0 : Models c P All μ0 H0 w0) (hfn : P.funcs[f]? = some fn) (hop : ∀ (j : Nat) (o : Oper), ops[j]? = some o → OkOper P fn o)
    (I : SInv c P f ops hide0 size0 Ts tmE sizeE (RIB hide0 size0 Ts trE) μ0 H0 w0 dfs S HS μ w tm a) {j : Nat} {r : Rec} (hr : Ts[j]? = some r) (rd : Ready ops S j) (hran : r.ran = false) :
    SInv c P f ops hide0 size0 Ts tmE sizeE (RIB hide0 size0 Ts trE) μ0 H0 w0 dfs (addS S j) HS μ w ((setOf r.o.dst).run tm r.x) (a.put r.o.dst Go.undef) := by
  have rok := R.ok j r hr
  obtain ⟨k1, k2, k3⟩ := rok.skip hran
  refine I.next R G M0 hr rd hfn (hop j r.o rok.op).dst I.M (GoesW.refl _ _ _) I.size I.hide (by rw [k1]; exact undef_R _) (fun _ _ h => h) (fun _ _ h => h) (riB_looks R Lo I.cl hr rd k3 I.rows fun x => ?_)
  have : ¬ (r.size ≤ x ∧ x < r.h'.size) := by rw [k2]; show ¬ (r.size ≤ x ∧ x < r.size); omega
  rw [if_neg this]
end
end Go.E
