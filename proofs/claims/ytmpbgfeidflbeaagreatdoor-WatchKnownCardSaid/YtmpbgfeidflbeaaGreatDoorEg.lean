/- memos of calls; tables of a program -/
import Derived.Test.YtmpbgfeidflbeaaGreatDoorEf
import Derived.KernelRfl
import Derived.DeepKeys4
/-! E, part M1: a part of a heap under other names of its rows. -/
namespace Go.E
variable {c : Cfg} {P : Program}

def at1 (ρ : Nat → Option Nat) (r R : Nat) : Bool := match ρ r with | some x => Nat.beq x R | none => false
def natEqB (a b : Nat) : Bool := Nat.beq a b
mutual
/-- the first value, its rows renamed, is the second -/
def sameA (ρ : Nat → Option Nat) : AV → AV → Bool
  | .bool a, .bool b => (a && b) || (!a && !b)
  | .int k n, .int k' n' => kindEq k k' && eqF n n'
  | .str s, .str s' => strEq s s'
  | .ptr r o, .ptr r' o' => at1 ρ r r' && natEqB o o'
  | .nilp, .nilp => true
  | .slc r o l k, .slc r' o' l' k' => at1 ρ r r' && natEqB o o' && natEqB l l' && natEqB k k'
  | .opn r o l k, .opn r' o' l' k' => at1 ρ r r' && natEqB o o' && natEqB l l' && natEqB k k'
  | .nils, .nils => true
  | .map r, .map r' => at1 ρ r r'
  | .nilm, .nilm => true
  | .fn f a b, .fn f' a' b' => (match f, f' with | .func g, .func g' => natEqB g g' | _, _ => false) && sameL ρ a a' && sameL ρ b b'
  | .nilf, .nilf => true
  | .iface t a, .iface t' a' => natEqB t t' && sameA ρ a a'
  | .nili, .nili => true
  | .agg a, .agg b => sameL ρ a b
  | .tup a, .tup b => sameL ρ a b
  | _, _ => false
def sameL (ρ : Nat → Option Nat) : List AV → List AV → Bool
  | [], [] => true
  | a :: l, b :: m => sameA ρ a b && sameL ρ l m
  | _, _ => false
end
mutual
/-- a value with its rows renamed -/
def outA (ρ : Nat → Option Nat) : AV → Option AV
  | .bool b => some (.bool b)
  | .int k n => some (.int k n)
  | .str s => some (.str s)
  | .ptr r o => (match ρ r with | some R => some (.ptr R o) | none => none)
  | .nilp => some .nilp
  | .slc r o l k => (match ρ r with | some R => some (.slc R o l k) | none => none)
  | .opn r o l k => (match ρ r with | some R => some (.opn R o l k) | none => none)
  | .nils => some .nils
  | .map r => (match ρ r with | some R => some (.map R) | none => none)
  | .nilm => some .nilm
  | .fn f a b => (match f, outL ρ a, outL ρ b with | .func g, some a', some b' => some (.fn (.func g) a' b') | _, _, _ => none)
  | .nilf => some .nilf
  | .iface t a => (match outA ρ a with | some a' => some (.iface t a') | none => none)
  | .nili => some .nili
  | .agg l => (match outL ρ l with | some l' => some (.agg l') | none => none)
  | .tup l => (match outL ρ l with | some l' => some (.tup l') | none => none)
  | _ => none
def outL (ρ : Nat → Option Nat) : List AV → Option (List AV)
  | [] => some []
  | a :: l => (match outA ρ a, outL ρ l with | some a', some l' => some (a' :: l') | _, _ => none)
end
theorem at1_eq {ρ : Nat → Option Nat} {r R : Nat} (h : at1 ρ r R = true) : ρ r = some R := by
  unfold at1 at h
  cases e : ρ r with
  | none => rw [e] at h; cases h
  | some x => rw [e] at h; simp only [] at h; rw [Nat.eq_of_beq_eq_true h]
theorem natEqB_eq {a b : Nat} (h : natEqB a b = true) : a = b := Nat.eq_of_beq_eq_true h
theorem eqF_true {a b : Int} (h : eqF a b = true) : a = b := by
  cases a <;> cases b <;> simp only [eqF] at h <;> first | (rw [Nat.eq_of_beq_eq_true h]; done) | cases h
theorem strEq_true : ∀ {a b : List UInt8}, strEq a b = true → a = b
  | [], [], _ => rfl
  | [], _ :: _, h => by cases h
  | _ :: _, [], h => by cases h
  | a :: x, b :: y, h => by
    rw [strEq, Bool.and_eq_true] at h
    rw [strEq_true h.2, UInt8.toNat_inj.1 (Nat.eq_of_beq_eq_true h.1)]
/-- the rows of a small heap, where the large one's lie -/
def Mu.via (μ : Mu) (ρ : Nat → Option Nat) : Mu := fun r => (ρ r).bind μ
theorem via_some {μ : Mu} {ρ : Nat → Option Nat} {r R : Nat} {p : Nat × Nat × Nat} (h : ρ r = some R) (e : μ R = some p) : μ.via ρ r = some p := by unfold Mu.via; rw [h]; exact e
mutual
theorem same_small {ρ : Nat → Option Nat} {μ : Mu} : ∀ (a : AV) {b : AV} {v : Value}, sameA ρ a b = true → VR μ b v → VR (μ.via ρ) a v
  | .bool a, b, v, h, hv => by
    cases b <;> simp only [sameA] at h <;> first | (cases h; done) | skip
    cases hv
    rename_i x; cases a <;> cases x <;> simp at h <;> exact .bool _
  | .int k n, b, v, h, hv => by
    cases b <;> simp only [sameA] at h <;> first | (cases h; done) | skip
    rw [Bool.and_eq_true] at h
    cases hv
    rename_i k' n'
    have h1 : k = k' := by have := h.1; unfold kindEq at this; exact of_decide_eq_true this
    rw [h1, eqF_true h.2]; exact .int _ _
  | .str s, b, v, h, hv => by
    cases b <;> simp only [sameA] at h <;> first | (cases h; done) | skip
    rw [strEq_true h]; cases hv with
    | str _ b q => exact .str _ b q
  | .ptr r o, b, v, h, hv => by
    cases b <;> simp only [sameA, Bool.and_eq_true] at h <;> first | (cases h; done) | skip
    have e := natEqB_eq h.2; subst e
    cases hv with
    | ptr _ _ b base N q => exact .ptr _ _ b base N (via_some (at1_eq h.1) q)
  | .nilp, b, v, h, hv => by
    cases b <;> simp only [sameA] at h <;> first | (cases h; done) | skip
    cases hv; exact .nilp
  | .slc r o l k, b, v, h, hv => by
    cases b <;> simp only [sameA, Bool.and_eq_true] at h <;> first | (cases h; done) | skip
    obtain ⟨⟨⟨h1, h2⟩, h3⟩, h4⟩ := h
    have e := natEqB_eq h2; have e' := natEqB_eq h3; have e'' := natEqB_eq h4; subst e; subst e'; subst e''
    cases hv with
    | slc _ _ _ _ b base N o q hl ho => exact .slc _ _ _ _ b base N o (via_some (at1_eq h1) q) hl ho
  | .opn r o l k, b, v, h, hv => by
    cases b <;> simp only [sameA, Bool.and_eq_true] at h <;> first | (cases h; done) | skip
    obtain ⟨⟨⟨h1, h2⟩, h3⟩, h4⟩ := h
    have e := natEqB_eq h2; have e' := natEqB_eq h3; have e'' := natEqB_eq h4; subst e; subst e'; subst e''
    cases hv with
    | opn _ _ _ _ b base N c o q hz hc hl ho => exact .opn _ _ _ _ b base N c o (via_some (at1_eq h1) q) hz hc hl ho
  | .nils, b, v, h, hv => by
    cases b <;> simp only [sameA] at h <;> first | (cases h; done) | skip
    cases hv; exact .nils
  | .map r, b, v, h, hv => by
    cases b <;> simp only [sameA] at h <;> first | (cases h; done) | skip
    cases hv with
    | map _ b base N q => exact .map _ b base N (via_some (at1_eq h) q)
  | .nilm, b, v, h, hv => by
    cases b <;> simp only [sameA] at h <;> first | (cases h; done) | skip
    cases hv; exact .nilm
  | .fn f a c, b, v, h, hv => by
    cases b <;> simp only [sameA, Bool.and_eq_true] at h <;> first | (cases h; done) | skip
    rename_i f' a' c'
    obtain ⟨⟨h1, h2⟩, h3⟩ := h
    cases f <;> cases f' <;> (try simp only [] at h1) <;> first | (cases h1; done) | skip
    have e := natEqB_eq h1; subst e
    cases hv with
    | fn _ _ _ x y hf q1 q2 => exact .fn _ _ _ x y hf (same_smallL a h2 q1) (same_smallL c h3 q2)
  | .yld l, b, v, h, hv => by cases b <;> simp only [sameA] at h <;> cases h
  | .nilf, b, v, h, hv => by
    cases b <;> simp only [sameA] at h <;> first | (cases h; done) | skip
    cases hv; exact .nilf
  | .iface t a, b, v, h, hv => by
    cases b <;> simp only [sameA, Bool.and_eq_true] at h <;> first | (cases h; done) | skip
    have e := natEqB_eq h.1; subst e
    cases hv with
    | iface _ _ x q => exact .iface _ _ x (same_small a h.2 q)
  | .nili, b, v, h, hv => by
    cases b <;> simp only [sameA] at h <;> first | (cases h; done) | skip
    cases hv; exact .nili
  | .agg a, b, v, h, hv => by
    cases b <;> simp only [sameA] at h <;> first | (cases h; done) | skip
    cases hv with
    | agg _ vs q hf => exact .agg _ vs (same_smallL a h q) hf
  | .tup a, b, v, h, hv => by
    cases b <;> simp only [sameA] at h <;> first | (cases h; done) | skip
    cases hv with
    | tup _ vs q => exact .tup _ vs (same_smallL a h q)
  | .raw x, b, v, h, hv => by cases b <;> simp only [sameA] at h <;> cases h
theorem same_smallL {ρ : Nat → Option Nat} {μ : Mu} : ∀ (l : List AV) {m : List AV} {vs : List Value}, sameL ρ l m = true → VL μ m vs → VL (μ.via ρ) l vs
  | [], [], _, _, hv => by cases hv; exact .nil
  | [], _ :: _, _, h, _ => by simp only [sameL] at h; cases h
  | _ :: _, [], _, h, _ => by simp only [sameL] at h; cases h
  | a :: l, b :: m, _, h, hv => by
    simp only [sameL, Bool.and_eq_true] at h
    cases hv with
    | cons q t => exact .cons (same_small a h.1 q) (same_smallL l h.2 t)
end
mutual
theorem out_big {ρ : Nat → Option Nat} {μ μ2 : Mu} (hm : ∀ r R p, ρ r = some R → μ r = some p → μ2 R = some p) : ∀ (a : AV) {b : AV} {v : Value}, outA ρ a = some b → VR μ a v → VR μ2 b v
  | .bool a, b, v, h, hv => by simp only [outA, Option.some.injEq] at h; subst h; cases hv; exact .bool _
  | .int k n, b, v, h, hv => by simp only [outA, Option.some.injEq] at h; subst h; cases hv; exact .int _ _
  | .str s, b, v, h, hv => by simp only [outA, Option.some.injEq] at h; subst h; cases hv with | str _ b q => exact .str _ b q
  | .ptr r o, b, v, h, hv => by
    simp only [outA] at h
    cases e : ρ r with
    | none => rw [e] at h; cases h
    | some R => rw [e] at h; simp only [Option.some.injEq] at h; subst h; cases hv with | ptr _ _ b base N q => exact .ptr _ _ b base N (hm _ _ _ e q)
  | .nilp, b, v, h, hv => by simp only [outA, Option.some.injEq] at h; subst h; cases hv; exact .nilp
  | .slc r o l k, b, v, h, hv => by
    simp only [outA] at h
    cases e : ρ r with
    | none => rw [e] at h; cases h
    | some R => rw [e] at h; simp only [Option.some.injEq] at h; subst h; cases hv with | slc _ _ _ _ b base N o q hl ho => exact .slc _ _ _ _ b base N o (hm _ _ _ e q) hl ho
  | .opn r o l k, b, v, h, hv => by
    simp only [outA] at h
    cases e : ρ r with
    | none => rw [e] at h; cases h
    | some R => rw [e] at h; simp only [Option.some.injEq] at h; subst h; cases hv with | opn _ _ _ _ b base N c o q hz hc hl ho => exact .opn _ _ _ _ b base N c o (hm _ _ _ e q) hz hc hl ho
  | .nils, b, v, h, hv => by simp only [outA, Option.some.injEq] at h; subst h; cases hv; exact .nils
  | .map r, b, v, h, hv => by
    simp only [outA] at h
    cases e : ρ r with
    | none => rw [e] at h; cases h
    | some R => rw [e] at h; simp only [Option.some.injEq] at h; subst h; cases hv with | map _ b base N q => exact .map _ b base N (hm _ _ _ e q)
  | .nilm, b, v, h, hv => by simp only [outA, Option.some.injEq] at h; subst h; cases hv; exact .nilm
  | .fn f a c, b, v, h, hv => by
    simp only [outA] at h
    cases f <;> (try simp only [] at h) <;> first | (cases h; done) | skip
    cases e1 : outL ρ a with
    | none => rw [e1] at h; cases h
    | some a' =>
      cases e2 : outL ρ c with
      | none => rw [e1, e2] at h; cases h
      | some c' =>
        rw [e1, e2] at h; simp only [Option.some.injEq] at h; subst h
        cases hv with
        | fn _ _ _ x y hf q1 q2 => exact .fn _ _ _ x y hf (out_bigL hm a e1 q1) (out_bigL hm c e2 q2)
  | .yld l, b, v, h, hv => by simp only [outA] at h; cases h
  | .nilf, b, v, h, hv => by simp only [outA, Option.some.injEq] at h; subst h; cases hv; exact .nilf
  | .iface t a, b, v, h, hv => by
    simp only [outA] at h
    cases e : outA ρ a with
    | none => rw [e] at h; cases h
    | some a' => rw [e] at h; simp only [Option.some.injEq] at h; subst h; cases hv with | iface _ _ x q => exact .iface _ _ x (out_big hm a e q)
  | .nili, b, v, h, hv => by simp only [outA, Option.some.injEq] at h; subst h; cases hv; exact .nili
  | .agg a, b, v, h, hv => by
    simp only [outA] at h
    cases e : outL ρ a with
    | none => rw [e] at h; cases h
    | some a' => rw [e] at h; simp only [Option.some.injEq] at h; subst h; cases hv with | agg _ vs q hf => exact .agg _ vs (out_bigL hm a e q) hf
  | .tup a, b, v, h, hv => by
    simp only [outA] at h
    cases e : outL ρ a with
    | none => rw [e] at h; cases h
    | some a' => rw [e] at h; simp only [Option.some.injEq] at h; subst h; cases hv with | tup _ vs q => exact .tup _ vs (out_bigL hm a e q)
  | .raw x, b, v, h, hv => by simp only [outA] at h; cases h
theorem out_bigL {ρ : Nat → Option Nat} {μ μ2 : Mu} (hm : ∀ r R p, ρ r = some R → μ r = some p → μ2 R = some p) : ∀ (l : List AV) {m : List AV} {vs : List Value}, outL ρ l = some m → VL μ l vs → VL μ2 m vs
  | [], m, _, h, hv => by simp only [outL, Option.some.injEq] at h; subst h; cases hv; exact .nil
  | a :: l, m, _, h, hv => by
    simp only [outL] at h
    cases e1 : outA ρ a with
    | none => rw [e1] at h; cases h
    | some a' =>
      cases e2 : outL ρ l with
      | none => rw [e1, e2] at h; cases h
      | some l' =>
        rw [e1, e2] at h; simp only [Option.some.injEq] at h; subst h
        cases hv with
        | cons q t => exact .cons (out_big hm a e1 q) (out_bigL hm l e2 t)
end
end Go.E
/-! E, part M2: a part of a heap, run under other names. -/
namespace Go.E
variable {c : Cfg} {P : Program} {μ μs : Mu} {w w' : World}

def eqB (a b : Bool) : Bool := (a && b) || (!a && !b)
theorem eqB_true {a b : Bool} (h : eqB a b = true) : a = b := by cases a <;> cases b <;> first | rfl | cases h
def eqS : AV → AV → Bool
  | .bool a, .bool b => eqB a b
  | .int k n, .int k' n' => kindEq k k' && eqF n n'
  | .str s, .str s' => strEq s s'
  | _, _ => false
def eqSL : List AV → List AV → Bool
  | [], [] => true
  | a :: l, b :: m => eqS a b && eqSL l m
  | _, _ => false
def eqK : AV → AV → Bool
  | .agg a, .agg b => eqSL a b
  | a, b => eqS a b
theorem eqS_true {a b : AV} (h : eqS a b = true) : a = b := by
  cases a <;> cases b <;> simp only [eqS] at h <;> first | (cases h; done) | skip
  · rw [eqB_true h]
  · rw [Bool.and_eq_true] at h
    rename_i k n k' n'
    have h1 : k = k' := by have := h.1; unfold kindEq at this; exact of_decide_eq_true this
    rw [h1, eqF_true h.2]
  · rw [strEq_true h]
theorem eqSL_true : ∀ {a b : List AV}, eqSL a b = true → a = b
  | [], [], _ => rfl
  | [], _ :: _, h => by cases h
  | _ :: _, [], h => by cases h
  | a :: l, b :: m, h => by
    simp only [eqSL, Bool.and_eq_true] at h
    rw [eqS_true h.1, eqSL_true h.2]
theorem eqK_true {a b : AV} (h : eqK a b = true) : a = b := by
  cases a <;> cases b <;> simp only [eqK] at h <;> first | exact eqS_true h | (rw [eqSL_true h]; done)
def sameE (ρ : Nat → Option Nat) : List (AV × AV) → List (AV × AV) → Bool
  | [], [] => true
  | (k, v) :: l, (k', v') :: m => eqK k k' && sameA ρ v v' && sameE ρ l m
  | _, _ => false
def sameRow (ρ : Nat → Option Nat) : Row → Row → Bool
  | .cells ro cs, .cells ro' cs' => eqB ro ro' && sameL ρ cs cs'
  | .map kt es, .map kt' es' => natEqB kt kt' && sameE ρ es es'
  | _, _ => false
def outE (ρ : Nat → Option Nat) : List (AV × AV) → Option (List (AV × AV))
  | [] => some []
  | (k, v) :: l => (match outA ρ v, outE ρ l with | some v', some l' => bif eqK k k then some ((k, v') :: l') else none | _, _ => none)
def outRow (ρ : Nat → Option Nat) : Row → Option Row
  | .cells ro cs => (match outL ρ cs with | some cs' => some (.cells ro cs') | none => none)
  | .map kt es => (match outE ρ es with | some es' => some (.map kt es') | none => none)
  | _ => none

theorem sameL_get {ρ : Nat → Option Nat} : ∀ {l m : List AV}, sameL ρ l m = true → l.length = m.length ∧ ∀ (i : Nat) (a : AV), l[i]? = some a → ∃ b, m[i]? = some b ∧ sameA ρ a b = true
  | [], [], _ => ⟨rfl, by simp⟩
  | [], _ :: _, h => by simp only [sameL] at h; cases h
  | _ :: _, [], h => by simp only [sameL] at h; cases h
  | a :: l, b :: m, h => by
    simp only [sameL, Bool.and_eq_true] at h
    obtain ⟨h1, h2⟩ := sameL_get h.2
    refine ⟨by simp [h1], fun i x hx => ?_⟩
    cases i with
    | zero => simp at hx; subst hx; exact ⟨b, rfl, h.1⟩
    | succ i => simpa using h2 i x (by simpa using hx)
theorem outL_get {ρ : Nat → Option Nat} : ∀ {l m : List AV}, outL ρ l = some m → l.length = m.length ∧ ∀ (i : Nat) (b : AV), m[i]? = some b → ∃ a, l[i]? = some a ∧ outA ρ a = some b
  | [], m, h => by simp only [outL, Option.some.injEq] at h; subst h; exact ⟨rfl, by simp⟩
  | a :: l, m, h => by
    simp only [outL] at h
    cases e1 : outA ρ a with
    | none => rw [e1] at h; cases h
    | some a' =>
      cases e2 : outL ρ l with
      | none => rw [e1, e2] at h; cases h
      | some l' =>
        rw [e1, e2] at h; simp only [Option.some.injEq] at h; subst h
        obtain ⟨h1, h2⟩ := outL_get e2
        refine ⟨by simp [h1], fun i x hx => ?_⟩
        cases i with
        | zero => simp at hx; subst hx; exact ⟨a, rfl, e1⟩
        | succ i => simpa using h2 i x (by simpa using hx)
theorem sameE_perm {ρ : Nat → Option Nat} {es' es2' : List (AV × AV)} (hp : es'.Perm es2') : ∀ {es : List (AV × AV)}, sameE ρ es es' = true → ∃ es2, es.Perm es2 ∧ sameE ρ es2 es2' = true := by
  induction hp with
  | nil => intro es h; exact ⟨es, .refl _, h⟩
  | cons x hp ih =>
    intro es h
    obtain ⟨k', v'⟩ := x
    cases es with
    | nil => simp only [sameE] at h; cases h
    | cons y es =>
      obtain ⟨k, v⟩ := y
      simp only [sameE, Bool.and_eq_true] at h
      obtain ⟨es2, p, q⟩ := ih h.2
      exact ⟨(k, v) :: es2, p.cons _, by simp only [sameE, Bool.and_eq_true]; exact ⟨h.1, q⟩⟩
  | swap x y l =>
    intro es h
    obtain ⟨k1, v1⟩ := x
    obtain ⟨k2, v2⟩ := y
    cases es with
    | nil => simp only [sameE] at h; cases h
    | cons a es =>
      cases es with
      | nil => obtain ⟨_, _⟩ := a; simp only [sameE, Bool.and_eq_true] at h; exact absurd h.2 (by simp)
      | cons b es =>
        obtain ⟨a1, a2⟩ := a
        obtain ⟨b1, b2⟩ := b
        simp only [sameE, Bool.and_eq_true] at h
        exact ⟨(b1, b2) :: (a1, a2) :: es, .swap _ _ _, by simp only [sameE, Bool.and_eq_true]; exact ⟨h.2.1, h.1, h.2.2⟩⟩
  | trans p q ih1 ih2 =>
    intro es h
    obtain ⟨es2, p1, q1⟩ := ih1 h
    obtain ⟨es3, p2, q2⟩ := ih2 q1
    exact ⟨es3, p1.trans p2, q2⟩
theorem sameE_keys {ρ : Nat → Option Nat} : ∀ {l m : List (AV × AV)}, sameE ρ l m = true → l.map (·.1) = m.map (·.1)
  | [], [], _ => rfl
  | [], _ :: _, h => by simp only [sameE] at h; cases h
  | _ :: _, [], h => by simp only [sameE] at h; cases h
  | (k, v) :: l, (k', v') :: m, h => by
    simp only [sameE, Bool.and_eq_true] at h
    simp only [List.map_cons]
    rw [eqK_true h.1.1, sameE_keys h.2]
theorem sameE_vals {ρ : Nat → Option Nat} : ∀ {l m : List (AV × AV)}, sameE ρ l m = true → sameL ρ (l.map (·.2)) (m.map (·.2)) = true
  | [], [], _ => rfl
  | [], _ :: _, h => by simp only [sameE] at h; cases h
  | _ :: _, [], h => by simp only [sameE] at h; cases h
  | (k, v) :: l, (k', v') :: m, h => by
    simp only [sameE, Bool.and_eq_true] at h
    simp only [List.map_cons, sameL, Bool.and_eq_true]
    exact ⟨h.1.2, sameE_vals h.2⟩
theorem eqS_VR {x : AV} {u : Value} {μ μ' : Mu} (hx : eqS x x = true) (hu : VR μ x u) : VR μ' x u := by
  cases x <;> simp only [eqS] at hx <;> first | (cases hx; done) | skip
  · cases hu; exact .bool _
  · cases hu; exact .int _ _
  · cases hu with | str _ b q => exact .str _ b q
theorem eqSL_VL {μ μ' : Mu} : ∀ {l : List AV} {vs : List Value}, eqSL l l = true → VL μ l vs → VL μ' l vs
  | _, _, _, .nil => .nil
  | _, _, h, .cons q1 q2 => by
    simp only [eqSL, Bool.and_eq_true] at h
    exact .cons (eqS_VR h.1 q1) (eqSL_VL h.2 q2)
/-- keys: no rows in them -/
theorem eqK_VR {a : AV} {v : Value} {μ μ' : Mu} (h : eqK a a = true) (hv : VR μ a v) : VR μ' a v := by
  cases a <;> simp only [eqK] at h <;> first | exact eqS_VR h hv | skip
  cases hv with
  | agg cs vs q hf => exact .agg _ vs (eqSL_VL h q) hf
theorem eqK_refl_of {a b : AV} (h : eqK a b = true) : eqK a a = true := by have := eqK_true h; subst this; exact h
theorem keysVL {μ μ' : Mu} : ∀ {l : List AV} {vs : List Value}, (∀ a ∈ l, eqK a a = true) → VL μ l vs → VL μ' l vs
  | _, _, _, .nil => .nil
  | _, _, h, .cons q t => .cons (eqK_VR (h _ (by simp)) q) (keysVL (fun a ha => h a (by simp [ha])) t)
theorem sameE_eqK {ρ : Nat → Option Nat} : ∀ {l m : List (AV × AV)}, sameE ρ l m = true → ∀ a ∈ l.map (·.1), eqK a a = true
  | [], [], _, a, ha => by simp at ha
  | [], _ :: _, h, _, _ => by simp only [sameE] at h; cases h
  | _ :: _, [], h, _, _ => by simp only [sameE] at h; cases h
  | (k, v) :: l, (k', v') :: m, h, a, ha => by
    simp only [sameE, Bool.and_eq_true] at h
    simp only [List.map_cons, List.mem_cons] at ha
    rcases ha with rfl | ha
    · exact eqK_refl_of h.1.1
    · exact sameE_eqK h.2 a ha
theorem pairwise_keys {l m : List (AV × AV)} (h : l.map (·.1) = m.map (·.1)) (hd : m.Pairwise (fun p q => p.1 ≠ q.1)) : l.Pairwise (fun p q => p.1 ≠ q.1) := by
  have h1 : (m.map (·.1)).Pairwise (· ≠ ·) := List.pairwise_map.2 hd
  rw [← h] at h1
  exact List.pairwise_map.1 h1
/-- a row that is seen under another name -/
theorem row_small {ρ : Nat → Option Nat} {r R : Nat} {x y : Row} (h : sameRow ρ x y = true) (hr : ρ r = some R) (H : RowR c P All μ w R y) : RowR c P All (μ.via ρ) w r x := by
  cases x <;> cases y <;> simp only [sameRow] at h <;> first | (cases h; done) | skip
  · rename_i ro cs ro' cs'
    rw [Bool.and_eq_true] at h
    obtain ⟨h1, h2⟩ := sameL_get h.2
    have := eqB_true h.1; subst this
    obtain ⟨b, base, N, cc, t, fr, e, hb, hN, hl, hc, hf⟩ := H
    refine ⟨b, base, N, cc, t, fr, via_some hr e, hb, hN, by omega, fun i a hi _ => ?_, hf⟩
    obtain ⟨a', q1, q2⟩ := h2 i a hi
    obtain ⟨v, p1, p2, p3⟩ := hc i a' q1 trivial
    exact ⟨v, p1, same_small a q2 p2, p3⟩
  · rename_i kt es kt' es'
    rw [Bool.and_eq_true] at h
    have := natEqB_eq h.1; subst this
    obtain ⟨b, base, N, ms, clock, e, hb, ⟨es2', p, k1, k2⟩, hk, hd, hbn⟩ := H
    obtain ⟨es2, p2, q2⟩ := sameE_perm p.symm h.2
    have hkk := sameE_keys h.2
    refine ⟨b, base, N, ms, clock, via_some hr e, hb, ⟨es2, p2.symm, ?_, same_smallL _ (sameE_vals q2) k2⟩, fun q hq => ?_, pairwise_keys hkk hd, hbn⟩
    · rw [sameE_keys q2]
      refine keysVL (fun a ha => ?_) k1
      rw [← sameE_keys q2] at ha
      exact sameE_eqK q2 a ha
    · have : q.1 ∈ es.map (·.1) := List.mem_map.2 ⟨q, hq, rfl⟩
      rw [hkk] at this
      obtain ⟨q', hq', e'⟩ := List.mem_map.1 this
      have := hk q' hq'
      rw [e'] at this; exact this
theorem outE_spec {ρ : Nat → Option Nat} : ∀ {l m : List (AV × AV)}, outE ρ l = some m → l.map (·.1) = m.map (·.1) ∧ outL ρ (l.map (·.2)) = some (m.map (·.2)) ∧ ∀ a ∈ l.map (·.1), eqK a a = true
  | [], m, h => by simp only [outE, Option.some.injEq] at h; subst h; exact ⟨rfl, rfl, by simp⟩
  | (k, v) :: l, m, h => by
    simp only [outE] at h
    cases e1 : outA ρ v with
    | none => rw [e1] at h; cases h
    | some v' =>
      cases e2 : outE ρ l with
      | none => rw [e1, e2] at h; cases h
      | some l' =>
        rw [e1, e2] at h; simp only [] at h
        cases e3 : eqK k k with
        | false => rw [e3] at h; cases h
        | true =>
          rw [e3] at h; simp only [cond_true, Option.some.injEq] at h; subst h
          obtain ⟨h1, h2, h3⟩ := outE_spec e2
          refine ⟨by simp [h1], by simp only [List.map_cons, outL, e1, h2], fun a ha => ?_⟩
          simp only [List.map_cons, List.mem_cons] at ha
          rcases ha with rfl | ha
          · exact e3
          · exact h3 a ha
theorem outE_perm {ρ : Nat → Option Nat} {es es2 : List (AV × AV)} (hp : es.Perm es2) : ∀ {es' : List (AV × AV)}, outE ρ es = some es' → ∃ es2', es'.Perm es2' ∧ outE ρ es2 = some es2' := by
  have cons1 : ∀ {k v : AV} {l : List (AV × AV)} {m : List (AV × AV)}, outE ρ ((k, v) :: l) = some m → ∃ v' l', outA ρ v = some v' ∧ outE ρ l = some l' ∧ eqK k k = true ∧ m = (k, v') :: l' := by
    intro k v l m h
    simp only [outE] at h
    cases e1 : outA ρ v with
    | none => rw [e1] at h; cases h
    | some v' =>
      cases e2 : outE ρ l with
      | none => rw [e1, e2] at h; cases h
      | some l' =>
        rw [e1, e2] at h; simp only [] at h
        cases e3 : eqK k k with
        | false => rw [e3] at h; cases h
        | true => rw [e3] at h; simp only [cond_true, Option.some.injEq] at h; exact ⟨v', l', rfl, rfl, rfl, h.symm⟩
  have mk : ∀ {k v v' : AV} {l l' : List (AV × AV)}, outA ρ v = some v' → outE ρ l = some l' → eqK k k = true → outE ρ ((k, v) :: l) = some ((k, v') :: l') := by
    intro k v v' l l' h1 h2 h3; simp only [outE, h1, h2, h3, cond_true]
  induction hp with
  | nil => intro es' h; exact ⟨es', .refl _, h⟩
  | cons x hp ih =>
    intro es' h
    obtain ⟨k, v⟩ := x
    obtain ⟨v', l', a1, a2, a3, rfl⟩ := cons1 h
    obtain ⟨es2', p, q⟩ := ih a2
    exact ⟨(k, v') :: es2', p.cons _, mk a1 q a3⟩
  | swap x y l =>
    intro es' h
    obtain ⟨k1, v1⟩ := x
    obtain ⟨k2, v2⟩ := y
    obtain ⟨v', l', a1, a2, a3, rfl⟩ := cons1 h
    obtain ⟨v'', l'', b1, b2, b3, rfl⟩ := cons1 a2
    exact ⟨(k1, v'') :: (k2, v') :: l'', .swap _ _ _, mk b1 (mk a1 b2 a3) b3⟩
  | trans p q ih1 ih2 =>
    intro es' h
    obtain ⟨x1, p1, q1⟩ := ih1 h
    obtain ⟨x2, p2, q2⟩ := ih2 q1
    exact ⟨x2, p1.trans p2, q2⟩
/-- a row that goes back to its name -/
theorem row_big {ρ : Nat → Option Nat} {μ2 : Mu} (hm : ∀ r R p, ρ r = some R → μ r = some p → μ2 R = some p) {r R : Nat} {x y : Row} (h : outRow ρ x = some y) (hr : ρ r = some R) (H : RowR c P All μ w r x) : RowR c P All μ2 w R y := by
  cases x <;> simp only [outRow] at h <;> first | (cases h; done) | skip
  · rename_i ro cs
    cases e0 : outL ρ cs with
    | none => rw [e0] at h; cases h
    | some cs' =>
      rw [e0] at h; simp only [Option.some.injEq] at h; subst h
      obtain ⟨h1, h2⟩ := outL_get e0
      obtain ⟨b, base, N, cc, t, fr, e, hb, hN, hl, hc, hf⟩ := H
      refine ⟨b, base, N, cc, t, fr, hm _ _ _ hr e, hb, hN, by omega, fun i a hi _ => ?_, hf⟩
      obtain ⟨a', q1, q2⟩ := h2 i a hi
      obtain ⟨v, p1, p2, p3⟩ := hc i a' q1 trivial
      exact ⟨v, p1, out_big hm a' q2 p2, p3⟩
  · rename_i kt es
    cases e0 : outE ρ es with
    | none => rw [e0] at h; cases h
    | some es' =>
      rw [e0] at h; simp only [Option.some.injEq] at h; subst h
      obtain ⟨b, base, N, ms, clock, e, hb, ⟨es2, p, k1, k2⟩, hk, hd, hbn⟩ := H
      obtain ⟨es2', p2, q2⟩ := outE_perm p.symm e0
      obtain ⟨a1, a2, a3⟩ := outE_spec e0
      obtain ⟨b1, b2, b3⟩ := outE_spec q2
      refine ⟨b, base, N, ms, clock, hm _ _ _ hr e, hb, ⟨es2', p2.symm, ?_, out_bigL hm _ b2 k2⟩, fun q hq => ?_, pairwise_keys a1.symm hd, hbn⟩
      · rw [← b1]; exact keysVL b3 k1
      · have : q.1 ∈ es'.map (·.1) := List.mem_map.2 ⟨q, hq, rfl⟩
        rw [← a1] at this
        obtain ⟨q', hq', e'⟩ := List.mem_map.1 this
        have := hk q' hq'
        rw [e'] at this; exact this
theorem sameRow_own {ρ : Nat → Option Nat} {x y : Row} (h : sameRow ρ x y = true) : (x.own ↔ y.own) ∧ x.live ∧ y.live := by
  cases x <;> cases y <;> simp only [sameRow] at h <;> first | (cases h; done) | skip
  · rw [Bool.and_eq_true] at h
    have := eqB_true h.1; subst this
    exact ⟨Iff.rfl, trivial, trivial⟩
  · exact ⟨Iff.rfl, trivial, trivial⟩
theorem outRow_own {ρ : Nat → Option Nat} {x y : Row} (h : outRow ρ x = some y) : (x.own ↔ y.own) ∧ x.live ∧ y.live := by
  cases x <;> simp only [outRow] at h <;> first | (cases h; done) | skip
  · rename_i ro cs
    cases e0 : outL ρ cs with
    | none => rw [e0] at h; cases h
    | some cs' => rw [e0] at h; simp only [Option.some.injEq] at h; subst h; exact ⟨Iff.rfl, trivial, trivial⟩
  · rename_i kt es
    cases e0 : outE ρ es with
    | none => rw [e0] at h; cases h
    | some cs' => rw [e0] at h; simp only [Option.some.injEq] at h; subst h; exact ⟨Iff.rfl, trivial, trivial⟩
end Go.E
/-! E, part M3: what is run on a part of a heap, under other names, is run on the heap. -/
namespace Go.E
variable {c : Cfg} {P : Program} {μ μs : Mu} {w w' : World}

/-- a small heap that is a part of a large one -/
structure Part (ρ : Nat → Option Nat) (K H : Heap) : Prop where
  lt : ∀ r R, ρ r = some R → r < K.size ∧ R < H.size
  inj : ∀ r r' R, ρ r = some R → ρ r' = some R → r = r'
  rows : ∀ r, (K.get r).live → ∃ R, ρ r = some R ∧ sameRow ρ (K.get r) (H.get R) = true
  dead : ∀ r, K.size ≤ r → K.get r = .dead
  hide : K.hide = []
  mark : K.mark = 0
theorem via_blk {ρ : Nat → Option Nat} {r R : Nat} (h : ρ r = some R) : blk (μ.via ρ) r = blk μ R := by unfold blk Mu.via; rw [h]; rfl
theorem Part.models {ρ : Nat → Option Nat} {K H : Heap} (Q : Part ρ K H) (M : Models c P All μ H w) : Models c P All (μ.via ρ) K w := by
  refine ⟨fun r _ => ?_, fun r s hrs _ _ ho hl => ?_, fun r hr => ?_, Q.dead, fun r p hp => ?_, fun r hr => ?_, by rw [Q.mark]; omega⟩
  · by_cases hl : (K.get r).live
    · obtain ⟨R, h1, h2⟩ := Q.rows r hl
      exact row_small h2 h1 (M.row R (vis_all R))
    · rw [not_live hl]; trivial
  · obtain ⟨R, h1, h2⟩ := Q.rows r (Row.own_live ho)
    obtain ⟨S, k1, k2⟩ := Q.rows s hl
    rw [via_blk h1, via_blk k1]
    refine M.apart R S (fun e => ?_) (vis_all _) (vis_all _) ((sameRow_own h2).1.1 ho) (sameRow_own k2).2.2
    subst e; exact hrs (Q.inj r s R h1 k1)
  · unfold Mu.via
    cases e : ρ r with
    | none => rfl
    | some R => have := (Q.lt r R e).1; omega
  · unfold Mu.via at hp
    cases e : ρ r with
    | none => rw [e] at hp; cases hp
    | some R => rw [e] at hp; exact M.size R p hp
  · rw [Q.hide] at hr; cases hr

/-- where the rows lie afterwards -/
def after1 (ρ : Nat → Option Nat) (K H K1 : Heap) : Nat → Option Nat := fun r => if r < K.size then ρ r else if r < K1.size then some (H.size + (r - K.size)) else none
def join1 (μ μs : Mu) (K H : Heap) : Mu := fun R => match μ R with | some p => some p | none => if H.size ≤ R then μs (K.size + (R - H.size)) else none
/-- the large heap afterwards -/
structure Back (ρ : Nat → Option Nat) (K H K1 H1 : Heap) : Prop where
  size : H1.size = H.size + (K1.size - K.size)
  le : K.size ≤ K1.size
  hide : H1.hide = H.hide
  mark : H1.mark = H.mark
  old : ∀ r R, ρ r = some R → (K.get r).own → (K1.get r).live → outRow (after1 ρ K H K1) (K1.get r) = some (H1.get R)
  killed : ∀ r R, ρ r = some R → (K.get r).own → ¬ (K1.get r).live → H1.get R = .dead
  rest : ∀ R, R < H.size → (∀ r, ρ r = some R → ¬ (K.get r).own) → H1.get R = H.get R
  new : ∀ r, K.size ≤ r → r < K1.size → (K1.get r).live → outRow (after1 ρ K H K1) (K1.get r) = some (H1.get (H.size + (r - K.size)))
  newd : ∀ r, K.size ≤ r → r < K1.size → ¬ (K1.get r).live → H1.get (H.size + (r - K.size)) = .dead
  dead : ∀ R, H1.size ≤ R → H1.get R = .dead
  hid : ∀ r, hidden r H.hide = true → T.get .dead H1.tr r = T.get .dead H.tr r
  told : Told H H1
theorem frameR {ρ : Nat → Option Nat} {K H K1 H1 : Heap} (Q : Part ρ K H) (M : Models c P All μ H w) (B : Back ρ K H K1 H1) (M' : Models c P All μs K1 w') (G : Goes (μ.via ρ) K w μs K1 w') :
    Models c P All (join1 μ μs K H) H1 w' ∧ Goes μ H w (join1 μ μs K H) H1 w' ∧ (∀ r R p, after1 ρ K H K1 r = some R → μs r = some p → join1 μ μs K H R = some p) := by
  have le1 : μ.le (join1 μ μs K H) := fun r p h => by unfold join1; rw [h]
  have jnew : ∀ r, K.size ≤ r → join1 μ μs K H (H.size + (r - K.size)) = μs r := fun r hr => by
    unfold join1
    rw [M.dom _ (by omega)]
    simp only []
    rw [if_pos (by omega)]
    congr 1; omega
  have hm : ∀ r R p, after1 ρ K H K1 r = some R → μs r = some p → join1 μ μs K H R = some p := by
    intro r R p h hp
    unfold after1 at h
    by_cases h1 : r < K.size
    · rw [if_pos h1] at h
      cases q : μ R with
      | none =>
        have := G.dom r h1 (by unfold Mu.via; rw [h]; exact q)
        rw [this] at hp; cases hp
      | some x =>
        have := G.le r x (via_some h q)
        rw [hp] at this; cases this
        exact le1 R _ q
    · rw [if_neg h1] at h
      by_cases h2 : r < K1.size
      · rw [if_pos h2] at h; simp only [Option.some.injEq] at h; subst h
        rw [jnew r (by omega)]; exact hp
      · rw [if_neg h2] at h; cases h
  have lift : ∀ {r R}, after1 ρ K H K1 r = some R → (K1.get r).live → blk (join1 μ μs K H) R = blk μs r := fun {r R} h hl => by
    obtain ⟨p, hp⟩ := (M'.row r (vis_all r)).some hl
    unfold blk; rw [hm r R p h hp, hp]
  have aft_old : ∀ {r R}, ρ r = some R → after1 ρ K H K1 r = some R := fun {r R} h => by unfold after1; rw [if_pos (Q.lt r R h).1]; exact h
  have aft_new : ∀ {r}, K.size ≤ r → r < K1.size → after1 ρ K H K1 r = some (H.size + (r - K.size)) := fun {r} h1 h2 => by unfold after1; rw [if_neg (by omega), if_pos h2]
  have aft_inj : ∀ {r r' R}, after1 ρ K H K1 r = some R → after1 ρ K H K1 r' = some R → r = r' := by
    intro r r' R h h'
    unfold after1 at h h'
    by_cases h1 : r < K.size <;> by_cases h2 : r' < K.size
    · rw [if_pos h1] at h; rw [if_pos h2] at h'; exact Q.inj r r' R h h'
    · rw [if_pos h1] at h; rw [if_neg h2] at h'
      have := (Q.lt r R h).2
      by_cases h3 : r' < K1.size
      · rw [if_pos h3] at h'; simp only [Option.some.injEq] at h'; omega
      · rw [if_neg h3] at h'; cases h'
    · rw [if_neg h1] at h; rw [if_pos h2] at h'
      have := (Q.lt r' R h').2
      by_cases h3 : r < K1.size
      · rw [if_pos h3] at h; simp only [Option.some.injEq] at h; omega
      · rw [if_neg h3] at h; cases h
    · rw [if_neg h1] at h; rw [if_neg h2] at h'
      by_cases h3 : r < K1.size <;> by_cases h4 : r' < K1.size
      · rw [if_pos h3] at h; rw [if_pos h4] at h'; simp only [Option.some.injEq] at h h'; omega
      · rw [if_neg h4] at h'; cases h'
      · rw [if_neg h3] at h; cases h
      · rw [if_neg h3] at h; cases h
  -- what a row of the large heap is
  have kinds : ∀ R, (H1.get R).live → (∃ r, after1 ρ K H K1 r = some R ∧ outRow (after1 ρ K H K1) (K1.get r) = some (H1.get R)) ∨ (R < H.size ∧ (∀ r, ρ r = some R → ¬ (K.get r).own) ∧ H1.get R = H.get R) := by
    intro R hl
    rcases Nat.lt_or_ge R H.size with hlt | hge
    · by_cases ht : ∃ r, ρ r = some R ∧ (K.get r).own
      · obtain ⟨r, h1, h2⟩ := ht
        by_cases hk : (K1.get r).live
        · exact .inl ⟨r, aft_old h1, B.old r R h1 h2 hk⟩
        · rw [B.killed r R h1 h2 hk] at hl; exact hl.elim
      · have hn : ∀ r, ρ r = some R → ¬ (K.get r).own := fun r h1 h2 => ht ⟨r, h1, h2⟩
        exact .inr ⟨hlt, hn, B.rest R hlt hn⟩
    · have hR : R < H1.size := by
        rcases Nat.lt_or_ge R H1.size with q | q
        · exact q
        · rw [B.dead R q] at hl; exact hl.elim
      have hs := B.size
      have hle := B.le
      have e : R = H.size + ((K.size + (R - H.size)) - K.size) := by omega
      by_cases hk : (K1.get (K.size + (R - H.size))).live
      · refine .inl ⟨K.size + (R - H.size), ?_, ?_⟩
        · rw [aft_new (by omega) (by omega), ← e]
        · have := B.new (K.size + (R - H.size)) (by omega) (by omega) hk
          rwa [← e] at this
      · have := B.newd (K.size + (R - H.size)) (by omega) (by omega) hk
        rw [← e] at this; rw [this] at hl; exact hl.elim
  have ownK : ∀ {r}, (K.get r).own → ∃ R, ρ r = some R ∧ (H.get R).own := fun {r} ho => by
    obtain ⟨R, h1, h2⟩ := Q.rows r (Row.own_live ho)
    exact ⟨R, h1, (sameRow_own h2).1.1 ho⟩
  have same : ∀ b, b < w.heap.size → (∀ R, (H.get R).own → blk μ R ≠ some b) → w'.heap[b]? = w.heap[b]? := fun b hb hn => G.same b hb fun r ho e => by
    obtain ⟨R, h1, h2⟩ := ownK ho
    rw [via_blk h1] at e; exact hn R h2 e
  have restblk : ∀ {R}, R < H.size → (∀ r, ρ r = some R → ¬ (K.get r).own) → (H.get R).live → ∃ p, μ R = some p ∧ blk (join1 μ μs K H) R = some p.1 ∧ blk μ R = some p.1 ∧ w'.heap[p.1]? = w.heap[p.1]? := fun {R} hlt hn hl => by
    obtain ⟨p, hp⟩ := (M.row R (vis_all R)).some hl
    refine ⟨p, hp, by unfold blk; rw [le1 R p hp]; rfl, by unfold blk; rw [hp]; rfl, G.same _ (M.size R p hp) fun r ho e => ?_⟩
    obtain ⟨S, h1, h2⟩ := ownK ho
    rw [via_blk h1] at e
    exact M.apart S R (fun q => by subst q; exact hn r h1 ho) (vis_all _) (vis_all _) h2 hl (by rw [e]; unfold blk; rw [hp]; rfl)
  -- an owned row of the small heap afterwards, and one that rests
  have ap : ∀ {r R S}, after1 ρ K H K1 r = some R → (K1.get r).live → S < H.size → (∀ r, ρ r = some S → ¬ (K.get r).own) → (H.get S).live → ((K1.get r).own ∨ (H.get S).own) → blk (join1 μ μs K H) R ≠ blk (join1 μ μs K H) S := by
    intro r R S h hl hS hn hlS ho hbb
    obtain ⟨p, hp, b1, b2, _⟩ := restblk hS hn hlS
    rw [lift h hl, b1] at hbb
    by_cases hr : r < K.size
    · have hlK := G.live r hr hl
      obtain ⟨R', h1, h2⟩ := Q.rows r hlK
      have hRR : R' = R := by have := aft_old h1; rw [h] at this; exact (Option.some.inj this).symm
      subst hRR
      obtain ⟨x, hx⟩ := (M.row R' (vis_all _)).some (sameRow_own h2).2.2
      have hb : blk μs r = some x.1 := by unfold blk; rw [G.le r x (via_some h1 hx)]; rfl
      have hbR : blk μ R' = some x.1 := by unfold blk; rw [hx]; rfl
      have hne : R' ≠ S := fun q => by
        subst q
        rcases ho with ho | ho
        · exact hn r h1 (G.own r hr ho)
        · exact hn r h1 ((sameRow_own h2).1.2 ho)
      rw [hb] at hbb
      rcases ho with ho | ho
      · exact M.apart R' S hne (vis_all _) (vis_all _) ((sameRow_own h2).1.1 (G.own r hr ho)) hlS (by rw [hbR, b2, hbb])
      · exact M.apart S R' (fun q => hne q.symm) (vis_all _) (vis_all _) ho (sameRow_own h2).2.2 (by rw [hbR, b2, hbb])
    · have hv : (μ.via ρ) r = none := by
        unfold Mu.via
        cases e : ρ r with
        | none => rfl
        | some X => exact absurd (Q.lt r X e).1 hr
      rcases G.fresh r p.1 hv hbb with hle | ⟨s, hs, hbs⟩
      · have := M.size S p hp; omega
      · obtain ⟨X, h1, h2⟩ := ownK hs
        rw [via_blk h1] at hbs
        exact M.apart X S (fun q => by subst q; exact hn s h1 hs) (vis_all _) (vis_all _) h2 hlS (by rw [hbs, b2])
  have HGo : ∀ R, R < H.size → (H1.get R).own → (H.get R).own := fun R hlt ho => by
    rcases kinds R (Row.own_live ho) with ⟨r, h1, h2⟩ | ⟨_, _, h⟩
    · have hr : r < K.size := by
        rcases Nat.lt_or_ge r K.size with q | q
        · exact q
        · exfalso
          unfold after1 at h1
          rw [if_neg (by omega)] at h1
          by_cases h3 : r < K1.size
          · rw [if_pos h3] at h1; simp only [Option.some.injEq] at h1; omega
          · rw [if_neg h3] at h1; cases h1
      have hok := G.own r hr ((outRow_own h2).1.2 ho)
      obtain ⟨R', k1, k2⟩ := ownK hok
      have := aft_old k1; rw [h1] at this; cases this; exact k2
    · rw [h] at ho; exact ho
  refine ⟨⟨fun R _ => ?_, fun R S hRS _ _ ho hl => ?_, fun R hR => ?_, B.dead, fun R p hp => ?_, fun R hR => ?_, ?_⟩, ⟨le1, G.size, G.os, G.output, G.tape, same, fun R b hn hb => ?_, HGo, ?_, B.hide, B.mark, fun R cs e => ?_, B.hid, B.told, fun R hlt hl => ?_, fun R hlt hn => ?_⟩, hm⟩
  · by_cases hl : (H1.get R).live
    · rcases kinds R hl with ⟨r, h1, h2⟩ | ⟨hlt, hn, h⟩
      · exact row_big hm h2 h1 (M'.row r (vis_all r))
      · rw [h] at hl ⊢
        obtain ⟨p, hp, _, b2, hs⟩ := restblk hlt hn hl
        refine (M.row R (vis_all R)).keep le1 fun b hb => ?_
        rw [b2] at hb; cases hb; exact hs
    · rw [not_live hl]; trivial
  · rcases kinds R (Row.own_live ho) with ⟨r, h1, h2⟩ | ⟨hlt, hn, h⟩ <;> rcases kinds S hl with ⟨s, k1, k2⟩ | ⟨klt, kn, k⟩
    · rw [lift h1 (outRow_own h2).2.1, lift k1 (outRow_own k2).2.1]
      refine M'.apart r s (fun q => ?_) (vis_all _) (vis_all _) ((outRow_own h2).1.2 ho) (outRow_own k2).2.1
      subst q; rw [h1] at k1; cases k1; exact hRS rfl
    · rw [k] at hl
      exact ap h1 (outRow_own h2).2.1 klt kn hl (.inl ((outRow_own h2).1.2 ho))
    · rw [h] at ho
      exact fun q => ap k1 (outRow_own k2).2.1 hlt hn (Row.own_live ho) (.inr ho) q.symm
    · rw [h] at ho; rw [k] at hl
      obtain ⟨_, _, a1, a2, _⟩ := restblk hlt hn (Row.own_live ho)
      obtain ⟨_, _, b1, b2, _⟩ := restblk klt kn hl
      have := M.apart R S hRS (vis_all _) (vis_all _) ho hl
      rw [a1, b1, ← a2, ← b2]; exact this
  · unfold join1
    have hs := B.size
    rw [M.dom R (by omega)]
    simp only []
    rw [if_pos (by omega)]
    exact M'.dom _ (by have := B.le; omega)
  · unfold join1 at hp
    cases q : μ R with
    | some x => rw [q] at hp; simp only [Option.some.injEq] at hp; subst hp; exact Nat.lt_of_lt_of_le (M.size R _ q) G.size
    | none =>
      rw [q] at hp; simp only [] at hp
      by_cases h : H.size ≤ R
      · rw [if_pos h] at hp; exact M'.size _ p hp
      · rw [if_neg h] at hp; cases hp
  · rw [B.hide] at hR
    have := M.hid R hR
    have hs := B.size
    omega
  · rw [B.mark, B.size]; have := M.mark; omega
  · by_cases h : H.size ≤ R
    · have e : blk (join1 μ μs K H) R = blk μs (K.size + (R - H.size)) := by unfold blk join1; rw [hn]; simp only []; rw [if_pos h]
      rw [e] at hb
      have hv : (μ.via ρ) (K.size + (R - H.size)) = none := by
        unfold Mu.via
        cases e : ρ (K.size + (R - H.size)) with
        | none => rfl
        | some X => have := (Q.lt _ X e).1; omega
      rcases G.fresh _ b hv hb with hle | ⟨s, hs, hbs⟩
      · exact .inl hle
      · obtain ⟨X, h1, h2⟩ := ownK hs
        rw [via_blk h1] at hbs
        exact .inr ⟨X, h2, hbs⟩
    · unfold blk join1 at hb; rw [hn] at hb; simp only [] at hb; rw [if_neg h] at hb; cases hb
  · rw [B.size]; omega
  · have hlt : R < H.size := by
      rcases Nat.lt_or_ge R H.size with q | q
      · exact q
      · rw [M.dead R q] at e; cases e
    rw [B.rest R hlt fun r h1 h2 => ?_]
    · exact e
    · obtain ⟨R', k1, k2⟩ := ownK h2
      rw [h1] at k1; cases k1; rw [e] at k2; simp [Row.own] at k2
  · rcases kinds R hl with ⟨r, h1, h2⟩ | ⟨_, _, h⟩
    · have hr : r < K.size := by
        rcases Nat.lt_or_ge r K.size with q | q
        · exact q
        · exfalso
          unfold after1 at h1
          rw [if_neg (by omega)] at h1
          by_cases h3 : r < K1.size
          · rw [if_pos h3] at h1; simp only [Option.some.injEq] at h1; omega
          · rw [if_neg h3] at h1; cases h1
      have hlK := G.live r hr (outRow_own h2).2.1
      obtain ⟨R', k1, k2⟩ := Q.rows r hlK
      have := aft_old k1; rw [h1] at this; cases this; exact (sameRow_own k2).2.2
    · rw [h] at hl; exact hl
  · unfold join1; rw [hn]; simp only []; rw [if_neg (by omega)]
end Go.E
/-! E, part M4: what was run once is known wherever it is met. -/
namespace Go.E
variable {c c' : Cfg} {P : Program} {μ μs : Mu} {w w' : World}

mutual
theorem same_out {ρ ρ1 : Nat → Option Nat} (he : ∀ r R, ρ r = some R → ρ1 r = some R) : ∀ (a : AV) {b : AV}, sameA ρ a b = true → outA ρ1 a = some b
  | .bool a, b, h => by
    cases b <;> simp only [sameA] at h <;> first | (cases h; done) | skip
    rename_i x; cases a <;> cases x <;> simp at h <;> rfl
  | .int k n, b, h => by
    cases b <;> simp only [sameA] at h <;> first | (cases h; done) | skip
    rw [Bool.and_eq_true] at h
    rename_i k' n'
    have h1 : k = k' := by have := h.1; unfold kindEq at this; exact of_decide_eq_true this
    rw [h1, eqF_true h.2]; rfl
  | .str s, b, h => by
    cases b <;> simp only [sameA] at h <;> first | (cases h; done) | skip
    rw [strEq_true h]; rfl
  | .ptr r o, b, h => by
    cases b <;> simp only [sameA, Bool.and_eq_true] at h <;> first | (cases h; done) | skip
    simp only [outA, he _ _ (at1_eq h.1), natEqB_eq h.2]
  | .nilp, b, h => by
    cases b <;> simp only [sameA] at h <;> first | (cases h; done) | skip
    rfl
  | .slc r o l k, b, h => by
    cases b <;> simp only [sameA, Bool.and_eq_true] at h <;> first | (cases h; done) | skip
    obtain ⟨⟨⟨h1, h2⟩, h3⟩, h4⟩ := h
    simp only [outA, he _ _ (at1_eq h1), natEqB_eq h2, natEqB_eq h3, natEqB_eq h4]
  | .opn r o l k, b, h => by
    cases b <;> simp only [sameA, Bool.and_eq_true] at h <;> first | (cases h; done) | skip
    obtain ⟨⟨⟨h1, h2⟩, h3⟩, h4⟩ := h
    simp only [outA, he _ _ (at1_eq h1), natEqB_eq h2, natEqB_eq h3, natEqB_eq h4]
  | .nils, b, h => by
    cases b <;> simp only [sameA] at h <;> first | (cases h; done) | skip
    rfl
  | .map r, b, h => by
    cases b <;> simp only [sameA] at h <;> first | (cases h; done) | skip
    simp only [outA, he _ _ (at1_eq h)]
  | .nilm, b, h => by
    cases b <;> simp only [sameA] at h <;> first | (cases h; done) | skip
    rfl
  | .fn f a d, b, h => by
    cases b <;> simp only [sameA, Bool.and_eq_true] at h <;> first | (cases h; done) | skip
    rename_i f' a' d'
    obtain ⟨⟨h1, h2⟩, h3⟩ := h
    cases f <;> cases f' <;> (try simp only [] at h1) <;> first | (cases h1; done) | skip
    have e := natEqB_eq h1; subst e
    simp only [outA, same_outL he a h2, same_outL he d h3]
  | .yld l, b, h => by cases b <;> simp only [sameA] at h <;> cases h
  | .nilf, b, h => by
    cases b <;> simp only [sameA] at h <;> first | (cases h; done) | skip
    rfl
  | .iface t a, b, h => by
    cases b <;> simp only [sameA, Bool.and_eq_true] at h <;> first | (cases h; done) | skip
    simp only [outA, same_out he a h.2, natEqB_eq h.1]
  | .nili, b, h => by
    cases b <;> simp only [sameA] at h <;> first | (cases h; done) | skip
    rfl
  | .agg a, b, h => by
    cases b <;> simp only [sameA] at h <;> first | (cases h; done) | skip
    simp only [outA, same_outL he a h]
  | .tup a, b, h => by
    cases b <;> simp only [sameA] at h <;> first | (cases h; done) | skip
    simp only [outA, same_outL he a h]
  | .raw x, b, h => by cases b <;> simp only [sameA] at h <;> cases h
theorem same_outL {ρ ρ1 : Nat → Option Nat} (he : ∀ r R, ρ r = some R → ρ1 r = some R) : ∀ (l : List AV) {m : List AV}, sameL ρ l m = true → outL ρ1 l = some m
  | [], [], _ => rfl
  | [], _ :: _, h => by simp only [sameL] at h; cases h
  | _ :: _, [], h => by simp only [sameL] at h; cases h
  | a :: l, b :: m, h => by
    simp only [sameL, Bool.and_eq_true] at h
    simp only [outL, same_out he a h.1, same_outL he l h.2]
end
theorem same_outE {ρ ρ1 : Nat → Option Nat} (he : ∀ r R, ρ r = some R → ρ1 r = some R) : ∀ {l m : List (AV × AV)}, sameE ρ l m = true → outE ρ1 l = some m
  | [], [], _ => rfl
  | [], _ :: _, h => by simp only [sameE] at h; cases h
  | _ :: _, [], h => by simp only [sameE] at h; cases h
  | (k, v) :: l, (k', v') :: m, h => by
    simp only [sameE, Bool.and_eq_true] at h
    have e := eqK_true h.1.1; subst e
    simp only [outE, same_out he v h.1.2, same_outE he h.2, h.1.1, cond_true]
theorem same_outRow {ρ ρ1 : Nat → Option Nat} (he : ∀ r R, ρ r = some R → ρ1 r = some R) {x y : Row} (h : sameRow ρ x y = true) : outRow ρ1 x = some y := by
  cases x <;> cases y <;> simp only [sameRow] at h <;> first | (cases h; done) | skip
  · rw [Bool.and_eq_true] at h
    simp only [outRow, same_outL he _ h.2, eqB_true h.1]
  · rw [Bool.and_eq_true] at h
    simp only [outRow, same_outE he h.2, natEqB_eq h.1]

/-! ### memos -/
def setAll1 {α : Type} (d : α) (t : E.T α) : List (Nat × α) → E.T α
  | [] => t
  | (r, x) :: l => setAll1 d (T.set d t r x) l
theorem setAll1_get {α : Type} (d : α) : ∀ (l : List (Nat × α)) (t : E.T α) (r : Nat), (T.get d (setAll1 d t l) r = T.get d t r ∧ ∀ p ∈ l, p.1 ≠ r) ∨ (r, T.get d (setAll1 d t l) r) ∈ l
  | [], t, r => .inl ⟨rfl, by simp⟩
  | (s, x) :: l, t, r => by
    rw [setAll1]
    rcases setAll1_get d l (T.set d t s x) r with ⟨h1, h2⟩ | h
    · rw [T.get_set] at h1
      by_cases e : s = r
      · subst e; rw [if_pos rfl] at h1; right; rw [h1]; simp
      · rw [if_neg e] at h1
        refine .inl ⟨h1, fun p hp => ?_⟩
        rcases List.mem_cons.1 hp with rfl | hp
        · exact e
        · exact h2 p hp
    · exact .inr (List.mem_cons_of_mem _ h)
/-- the keys rise -/
def rises {α : Type} : List (Nat × α) → Bool
  | [] => true
  | [_] => true
  | a :: b :: l => Nat.blt a.1 b.1 && rises (b :: l)
theorem rises_lt {α : Type} : ∀ {l : List (Nat × α)} {a : Nat × α}, rises (a :: l) = true → ∀ p ∈ l, a.1 < p.1
  | [], _, _, p, hp => by simp at hp
  | b :: l, a, h, p, hp => by
    simp only [rises, Bool.and_eq_true] at h
    have h1 : a.1 < b.1 := Nat.le_of_ble_eq_true h.1
    rcases List.mem_cons.1 hp with rfl | hp
    · exact h1
    · exact Nat.lt_trans h1 (rises_lt h.2 p hp)
theorem rises_tail {α : Type} {l : List (Nat × α)} {a : Nat × α} (h : rises (a :: l) = true) : rises l = true := by
  cases l with
  | nil => rfl
  | cons b l => simp only [rises, Bool.and_eq_true] at h; exact h.2
theorem rises_uniq {α : Type} : ∀ {l : List (Nat × α)}, rises l = true → ∀ {r : Nat} {x y : α}, (r, x) ∈ l → (r, y) ∈ l → x = y
  | [], _, _, _, _, h, _ => by simp at h
  | a :: l, hr, r, x, y, h1, h2 => by
    rcases List.mem_cons.1 h1 with e1 | h1 <;> rcases List.mem_cons.1 h2 with e2 | h2
    · rw [← e1] at e2; cases e2; rfl
    · have := rises_lt hr _ h2; rw [← e1] at this; simp at this
    · have := rises_lt hr _ h1; rw [← e2] at this; simp at this
    · exact rises_uniq (rises_tail hr) h1 h2

structure Memo where
  args : List AV
  size : Nat
  rows : List (Nat × Row)       -- what lies there
  v : AV
  size1 : Nat
  chg : List (Nat × Row)        -- rows that are others afterwards (dead: gone), and new ones
def Memo.K (m : Memo) : Heap := ⟨m.size, setAll1 .dead .nil m.rows, 0, [], []⟩
def look1 : List (Nat × Row) → Nat → Option Row
  | [], _ => none
  | (s, x) :: l, r => bif Nat.beq s r then some x else look1 l r
theorem look1_some : ∀ {l : List (Nat × Row)} {r : Nat} {x : Row}, look1 l r = some x → (r, x) ∈ l
  | [], _, _, h => by cases h
  | (s, y) :: l, r, x, h => by
    rw [look1] at h
    cases e : Nat.beq s r with
    | true => rw [e] at h; simp only [cond_true, Option.some.injEq] at h; have := Nat.eq_of_beq_eq_true e; subst this; subst h; simp
    | false => rw [e] at h; exact List.mem_cons_of_mem _ (look1_some h)
theorem look1_none : ∀ {l : List (Nat × Row)} {r : Nat}, look1 l r = none → ∀ p ∈ l, p.1 ≠ r
  | [], _, _, p, hp => by simp at hp
  | (s, y) :: l, r, h, p, hp => by
    rw [look1] at h
    cases e : Nat.beq s r with
    | true => rw [e] at h; cases h
    | false =>
      rw [e] at h
      rcases List.mem_cons.1 hp with rfl | hp
      · intro q; rw [show s = r from q, Nat.beq_refl] at e; cases e
      · exact look1_none h p hp
def deadB : Row → Bool
  | .dead => true
  | _ => false
theorem deadB_eq {x : Row} : deadB x = true ↔ x = .dead := by cases x <;> simp [deadB]
def ownB : Row → Bool
  | .cells ro _ => !ro
  | .map .. => true
  | _ => false
theorem ownB_own {x : Row} (h : ownB x = true) : x.own := by
  cases x <;> simp only [ownB] at h <;> first | (cases h; done) | trivial | skip
  simpa [Row.own] using h
/-- what the run must show -/
def memoOut (m : Memo) (o : Option (Out × Heap)) : Bool :=
  match o with
  | some (.ret v, h) => sameA some m.v v && Nat.beq h.size m.size1 && m.rows.all (fun p => (look1 m.chg p.1).isSome || !ownB p.2 || sameRow some p.2 (h.get p.1)) && m.chg.all (fun p => deadB p.2 || sameRow some p.2 (h.get p.1))
  | _ => false
def plainRow : Row → Bool
  | .cells .. => true
  | .map .. => true
  | _ => false
/-- the memo is in order -/
def memoWf (m : Memo) : Bool :=
  rises m.rows && rises m.chg && m.rows.all (fun p => Nat.blt p.1 m.size && plainRow p.2) && Nat.ble m.size m.size1 && m.chg.all (fun p => Nat.blt p.1 m.size1 && (Nat.ble m.size p.1 || m.rows.any (fun q => Nat.beq q.1 p.1 && ownB q.2)))
def Memo.K1 (m : Memo) : Heap := mkHeap (fun r => match look1 m.chg r with | some x => x | none => if r < m.size then m.K.get r else .dead) m.size1 []
structure MemoWf (m : Memo) : Prop where
  r1 : rises m.rows = true
  r2 : rises m.chg = true
  lt : ∀ p ∈ m.rows, p.1 < m.size ∧ plainRow p.2 = true
  le : m.size ≤ m.size1
  chg : ∀ p ∈ m.chg, p.1 < m.size1 ∧ (m.size ≤ p.1 ∨ ∃ q ∈ m.rows, q.1 = p.1 ∧ q.2.own)
theorem memoWf_spec {m : Memo} (h : memoWf m = true) : MemoWf m := by
  unfold memoWf at h
  simp only [Bool.and_eq_true, List.all_eq_true, Bool.or_eq_true, List.any_eq_true] at h
  obtain ⟨⟨⟨⟨h1, h2⟩, h3⟩, h4⟩, h5⟩ := h
  refine ⟨h1, h2, fun p hp => ⟨Nat.le_of_ble_eq_true (h3 p hp).1, (h3 p hp).2⟩, Nat.le_of_ble_eq_true h4, fun p hp => ⟨Nat.le_of_ble_eq_true (h5 p hp).1, ?_⟩⟩
  rcases (h5 p hp).2 with q | ⟨q, hq, q1, q2⟩
  · exact .inl (Nat.le_of_ble_eq_true q)
  · exact .inr ⟨q, hq, Nat.eq_of_beq_eq_true q1, ownB_own q2⟩
theorem Memo.K_get (m : Memo) (r : Nat) : m.K.get r = .dead ∨ (r, m.K.get r) ∈ m.rows := by
  have e : m.K.get r = T.get .dead (setAll1 .dead .nil m.rows) r := rfl
  rw [e]
  rcases setAll1_get Row.dead m.rows .nil r with ⟨h, _⟩ | h
  · left; rw [h, T.get_nil]
  · exact .inr h
theorem Memo.K_row {m : Memo} (W : MemoWf m) {r : Nat} {x : Row} (h : (r, x) ∈ m.rows) : m.K.get r = x := by
  have e : m.K.get r = T.get .dead (setAll1 .dead .nil m.rows) r := rfl
  rw [e]
  rcases setAll1_get Row.dead m.rows .nil r with ⟨_, h2⟩ | h2
  · exact absurd rfl (h2 _ h)
  · exact rises_uniq W.r1 h2 h
theorem Memo.K_dead {m : Memo} (W : MemoWf m) {r : Nat} (h : m.size ≤ r) : m.K.get r = .dead := by
  rcases m.K_get r with q | q
  · exact q
  · have := (W.lt _ q).1; simp only [] at this; omega
theorem Memo.K1_get (m : Memo) (r : Nat) : m.K1.get r = if r < m.size1 then (match look1 m.chg r with | some x => x | none => if r < m.size then m.K.get r else .dead) else .dead := by
  unfold Memo.K1; rw [mkHeap_get]; simp [hidden]
/-- the run, with what is of no use left out -/
theorem memo_small {m : Memo} {v : AV} {h : Heap} (W : MemoWf m) (ho : memoOut m (some (.ret v, h)) = true) {μ0 : Mu} (M' : Models c P All μs h w') (G : Goes μ0 m.K w μs h w') :
    Models c P All μs m.K1 w' ∧ Goes μ0 m.K w μs m.K1 w' := by
  unfold memoOut at ho
  simp only [Bool.and_eq_true, List.all_eq_true, Bool.or_eq_true] at ho
  obtain ⟨⟨⟨_, h2⟩, h3⟩, h4⟩ := ho
  have hsz := Nat.eq_of_beq_eq_true h2
  have key : ∀ r, (m.K1.get r).live → sameRow some (m.K1.get r) (h.get r) = true ∨ m.K1.get r = h.get r := by
    intro r hl
    rw [Memo.K1_get] at hl ⊢
    by_cases hr : r < m.size1
    · rw [if_pos hr] at hl ⊢
      cases e : look1 m.chg r with
      | some x =>
        rw [e] at hl; simp only [] at hl ⊢
        rcases h4 _ (look1_some e) with q | q
        · simp only [] at q; rw [deadB_eq.1 q] at hl; exact hl.elim
        · exact .inl q
      | none =>
        rw [e] at hl; simp only [] at hl ⊢
        by_cases hrs : r < m.size
        · rw [if_pos hrs] at hl ⊢
          rcases m.K_get r with q | q
          · rw [q] at hl; exact hl.elim
          · rcases h3 _ q with (q1 | q1) | q1
            · simp only [] at q1; rw [e] at q1; cases q1
            · right
              have hk := (W.lt _ q).2
              simp only [] at q1 hk
              generalize hx : m.K.get r = x at q1 hk
              cases x <;> simp [plainRow] at hk
              · rename_i ro cs
                simp [ownB] at q1; subst q1
                exact (G.ro r cs hx).symm
              · simp [ownB] at q1
            · exact .inl q1
        · rw [if_neg hrs] at hl; exact hl.elim
    · rw [if_neg hr] at hl; exact hl.elim
  have own1 : ∀ {r}, (m.K1.get r).own → (h.get r).own := fun {r} ho => by
    rcases key r (Row.own_live ho) with q | q
    · exact (sameRow_own q).1.1 ho
    · rw [← q]; exact ho
  have live1 : ∀ {r}, (m.K1.get r).live → (h.get r).live := fun {r} hl => by
    rcases key r hl with q | q
    · exact (sameRow_own q).2.2
    · rw [← q]; exact hl
  constructor
  · refine ⟨fun r _ => ?_, fun r s hrs a b ho hl => M'.apart r s hrs a b (own1 ho) (live1 hl), fun r hr => M'.dom r (by rw [hsz]; exact hr), fun r hr => ?_, M'.size, fun r hr => (by cases hr), Nat.zero_le _⟩
    · by_cases hl : (m.K1.get r).live
      · rcases key r hl with q | q
        · have := row_small (r := r) q rfl (M'.row r (vis_all r))
          exact this
        · rw [q]; exact M'.row r (vis_all r)
      · rw [not_live hl]; trivial
    · rw [Memo.K1_get, if_neg]; exact Nat.not_lt.2 hr
  · refine ⟨G.le, G.size, G.os, G.output, G.tape, G.same, G.fresh, fun r hr ho => G.own r hr (own1 ho), W.le, rfl, rfl, fun r cs e => ?_, fun r hr => (by cases hr), ⟨[], rfl, fun r hr => (by cases hr)⟩, fun r hr hl => G.live r hr (live1 hl), G.dom⟩
    have hr : r < m.size := by
      rcases Nat.lt_or_ge r m.size with q | q
      · exact q
      · rw [Memo.K_dead W q] at e; cases e
    rw [Memo.K1_get, if_pos (Nat.lt_of_lt_of_le hr W.le)]
    cases q : look1 m.chg r with
    | none => simp only []; rw [if_pos hr]; exact e
    | some x =>
      exfalso
      rcases (W.chg _ (look1_some q)).2 with q1 | ⟨y, hy, y1, y2⟩
      · simp only [] at q1; omega
      · simp only [] at y1
        obtain ⟨y0, yr⟩ := y
        simp only [] at y1 y2; subst y1
        rw [Memo.K_row W hy] at e; rw [e] at y2; simp [Row.own] at y2
end Go.E
/-! E, part M5: an oracle of what was run once. -/
namespace Go.E
variable {c c' : Cfg} {P : Program} {μ μs : Mu} {w w' : World}

mutual
def pairsA : AV → AV → List (Nat × Nat) → List (Nat × Nat)
  | .ptr r _, .ptr R _, acc => (r, R) :: acc
  | .slc r _ _ _, .slc R _ _ _, acc => (r, R) :: acc
  | .opn r _ _ _, .opn R _ _ _, acc => (r, R) :: acc
  | .map r, .map R, acc => (r, R) :: acc
  | .fn _ a b, .fn _ a' b', acc => pairsL a a' (pairsL b b' acc)
  | .iface _ a, .iface _ b, acc => pairsA a b acc
  | .agg a, .agg b, acc => pairsL a b acc
  | .tup a, .tup b, acc => pairsL a b acc
  | _, _, acc => acc
def pairsL : List AV → List AV → List (Nat × Nat) → List (Nat × Nat)
  | a :: l, b :: m, acc => pairsA a b (pairsL l m acc)
  | _, _, acc => acc
end
def pairsE : List (AV × AV) → List (AV × AV) → List (Nat × Nat) → List (Nat × Nat)
  | (_, a) :: l, (_, b) :: m, acc => pairsA a b (pairsE l m acc)
  | _, _, acc => acc
def pairsRow : Row → Row → List (Nat × Nat) → List (Nat × Nat)
  | .cells _ a, .cells _ b, acc => pairsL a b acc
  | .map _ a, .map _ b, acc => pairsE a b acc
  | _, _, acc => acc
def seek (K h : Heap) : Nat → List (Nat × Nat) → E.T (Option Nat) → List (Nat × Nat) → Option (List (Nat × Nat))
  | 0, _, _, _ => none
  | _ + 1, [], _, prs => some prs
  | n + 1, p :: work, rt, prs => match p with
    | (r, R) => match T.get none rt r with
      | some _ => seek K h n work rt prs
      | none => seek K h n (pairsRow (K.get r) (h.get R) work) (T.set none rt r (some R)) ((r, R) :: prs)
def somes : List (Nat × Nat) → List (Nat × Option Nat)
  | [] => []
  | (r, R) :: l => (r, some R) :: somes l
def backs : List (Nat × Nat) → List (Nat × Option Nat)
  | [] => []
  | (r, R) :: l => (R, some r) :: backs l
def globs : Nat → List (Nat × Nat)
  | 0 => []
  | n + 1 => (n, n) :: globs n
def globsOk (ρ : Nat → Option Nat) : Nat → Bool
  | 0 => true
  | n + 1 => at1 ρ n n && globsOk ρ n
def memoIn (m : Memo) (nglob : Nat) (ρ σ : Nat → Option Nat) (prs : List (Nat × Nat)) (args : List AV) (h : Heap) : Bool :=
  prs.all (fun p => Nat.blt p.1 m.size && Nat.blt p.2 h.size && at1 σ p.2 p.1) && m.rows.all (fun p => match ρ p.1 with | some R => sameRow ρ p.2 (h.get R) | none => false) && sameL ρ m.args args && globsOk ρ nglob
def aft (ρ : Nat → Option Nat) (ks k1 hs : Nat) : Nat → Option Nat := fun r => bif Nat.blt r ks then ρ r else bif Nat.blt r k1 then some (hs + (r - ks)) else none
def outRow' (ρ : Nat → Option Nat) (x : Row) : Option Row := bif deadB x then some .dead else outRow ρ x
def outsOf (ρ : Nat → Option Nat) : List (Nat × Row) → Option (List (Nat × Row))
  | [] => some []
  | (r, x) :: l => match ρ r, outRow' ρ x, outsOf ρ l with
    | some R, some y, some l' => some ((R, y) :: l')
    | _, _, _ => none
/-- two cells that are plainly alike -/
def sameC : AV → AV → Bool
  | .bool a, .bool b => eqB a b
  | .int k n, .int k' n' => kindEq k k' && eqF n n'
  | .str s, .str s' => strEq s s'
  | .ptr r o, .ptr r' o' => natEqB r r' && natEqB o o'
  | .nilp, .nilp => true
  | .slc r o l k, .slc r' o' l' k' => natEqB r r' && natEqB o o' && natEqB l l' && natEqB k k'
  | .opn r o l k, .opn r' o' l' k' => natEqB r r' && natEqB o o' && natEqB l l' && natEqB k k'
  | .nils, .nils => true
  | .map r, .map r' => natEqB r r'
  | .nilm, .nilm => true
  | .nilf, .nilf => true
  | .nili, .nili => true
  | _, _ => false
theorem sameC_eq {a b : AV} (h : sameC a b = true) : a = b := by
  cases a <;> cases b <;> simp only [sameC, Bool.and_eq_true] at h <;> first | rfl | (cases h; done) | skip
  · rw [eqB_true h]
  · rw [eqF_true h.2]; have := h.1; unfold kindEq at this; rw [of_decide_eq_true this]
  · rw [strEq_true h]
  · rw [natEqB_eq h.1, natEqB_eq h.2]
  · obtain ⟨⟨⟨h1, h2⟩, h3⟩, h4⟩ := h; rw [natEqB_eq h1, natEqB_eq h2, natEqB_eq h3, natEqB_eq h4]
  · obtain ⟨⟨⟨h1, h2⟩, h3⟩, h4⟩ := h; rw [natEqB_eq h1, natEqB_eq h2, natEqB_eq h3, natEqB_eq h4]
  · rw [natEqB_eq h]
/-- the places at which two lists of cells differ, if they are of one length -/
def diffs (R : Nat) : Nat → List AV → List AV → Option (List Rng)
  | _, [], [] => some []
  | i, a :: l, b :: m => force (i + 1) fun j => match diffs R j l m with
    | some d => some (bif sameC a b then d else (R, i, 1) :: d)
    | none => none
  | _, _, _ => none
def rowDiffs (R : Nat) (x y : Row) : List Rng := match x, y with
  | .cells ro cs, .cells ro' cs' => (match bif eqB ro ro' then diffs R 0 cs cs' else none with | some d => d | none => [(R, 0, whole)])
  | _, _ => [(R, 0, whole)]
theorem diffs_spec {R : Nat} : ∀ {i : Nat} {l m : List AV} {d : List Rng}, diffs R i l m = some d → m.length = l.length ∧ ∀ k, (∀ a ∈ d, ¬ inR a R (i + k)) → m[k]? = l[k]?
  | _, [], [], _, _ => ⟨rfl, fun _ _ => rfl⟩
  | i, a :: l, b :: m, d, h => by
    simp only [diffs, force_eq] at h
    cases e : diffs R (i + 1) l m with
    | none => rw [e] at h; cases h
    | some d' =>
      rw [e] at h; simp only [Option.some.injEq] at h
      obtain ⟨h1, h2⟩ := diffs_spec e
      refine ⟨by simp [h1], fun k hk => ?_⟩
      cases es : sameC a b with
      | true =>
        rw [es] at h; simp only [cond_true] at h; subst h
        cases k with
        | zero => rw [sameC_eq es]; rfl
        | succ k => simpa using h2 k fun x hx => by have := hk x hx; rwa [show i + (k + 1) = i + 1 + k by omega] at this
      | false =>
        rw [es] at h; simp only [cond_false] at h; subst h
        cases k with
        | zero => exact absurd ⟨rfl, Nat.le_refl _, .inr (Nat.lt_succ_self _)⟩ (hk (R, i, 1) (by simp))
        | succ k => simpa using h2 k fun x hx => by have := hk x (by simp [hx]); rwa [show i + (k + 1) = i + 1 + k by omega] at this
  | _, [], _ :: _, _, h => by simp [diffs] at h
  | _, _ :: _, [], _, h => by simp [diffs] at h
theorem rowDiffs_spec {R : Nat} {x y : Row} {i : Nat} (h : ∀ a ∈ rowDiffs R x y, ¬ inR a R i) : sameAt x y i := by
  have big : ∀ {a : Rng}, a = (R, 0, whole) → inR a R i := fun {a} e => by subst e; exact ⟨rfl, Nat.zero_le _, .inl (Nat.le_refl _)⟩
  unfold rowDiffs at h
  split at h
  · rename_i ro cs ro' cs'
    cases er : eqB ro ro' with
    | false => rw [er] at h; simp only [cond_false] at h; exact absurd (big rfl) (h _ (by simp))
    | true =>
      rw [er] at h; simp only [cond_true] at h
      cases ed : diffs R 0 cs cs' with
      | none => rw [ed] at h; exact absurd (big rfl) (h _ (by simp))
      | some d =>
        rw [ed] at h; simp only [] at h
        obtain ⟨h1, h2⟩ := diffs_spec ed
        have := eqB_true er; subst this
        exact .inr ⟨ro, cs, cs', rfl, rfl, h1, h2 i (by simpa using h)⟩
  · exact absurd (big rfl) (h _ (by simp))
def logsOf (mark : Nat) (tr : T Row) : List (Nat × Row) → List Rng → List Rng
  | [], acc => acc
  | (R, y) :: l, acc => bif Nat.blt R mark then rowDiffs R (T.get .dead tr R) y ++ logsOf mark tr l acc else logsOf mark tr l acc
def backHeap (h : Heap) (m : Memo) (outs : List (Nat × Row)) : Heap :=
  match h with
  | ⟨size, tr, mark, log, hide⟩ => ⟨size + (m.size1 - m.size), setAll1 .dead tr outs, mark, logsOf mark tr outs log, hide⟩
def memoEnd (m : Memo) (h : Heap) (v : Option AV) (outs : Option (List (Nat × Row))) : Option (Out × Heap) :=
  match v, outs with
  | some v, some outs => some (.ret v, backHeap h m outs)
  | _, _ => none
def memoMid (m : Memo) (nglob : Nat) (ρ σ : Nat → Option Nat) (prs : List (Nat × Nat)) (args : List AV) (h : Heap) : Option (Out × Heap) :=
  bif memoIn m nglob ρ σ prs args h then memoEnd m h (outA (aft ρ m.size m.size1 h.size) m.v) (outsOf (aft ρ m.size m.size1 h.size) m.chg) else none
def memoRun (m : Memo) (nglob : Nat) : Fun := fun args h =>
  match seek m.K h 1000000 (pairsL m.args args (globs nglob)) .nil [] with
  | some prs => memoMid m nglob (fun r => T.get none (setAll1 none .nil (somes prs)) r) (fun r => T.get none (setAll1 none .nil (backs prs)) r) prs args h
  | none => none

theorem mem_somes : ∀ {l : List (Nat × Nat)} {r : Nat} {x : Option Nat}, (r, x) ∈ somes l → ∃ R, x = some R ∧ (r, R) ∈ l
  | [], _, _, h => by simp [somes] at h
  | (a, b) :: l, r, x, h => by
    simp only [somes, List.mem_cons] at h
    rcases h with h | h
    · cases h; exact ⟨b, rfl, by simp⟩
    · obtain ⟨R, h1, h2⟩ := mem_somes h; exact ⟨R, h1, List.mem_cons_of_mem _ h2⟩
theorem globsOk_spec {ρ : Nat → Option Nat} : ∀ {n : Nat}, globsOk ρ n = true → ∀ g, g < n → ρ g = some g
  | 0, _, g, hg => by omega
  | n + 1, h, g, hg => by
    simp only [globsOk, Bool.and_eq_true] at h
    by_cases e : g = n
    · subst e; exact at1_eq h.1
    · exact globsOk_spec h.2 g (by omega)
theorem blt_iff {a b : Nat} : Nat.blt a b = true ↔ a < b := ⟨Nat.le_of_ble_eq_true, Nat.ble_eq_true_of_le⟩
theorem aft_eq (ρ : Nat → Option Nat) (K H K1 : Heap) : aft ρ K.size K1.size H.size = after1 ρ K H K1 := by
  funext r
  unfold aft after1
  by_cases h1 : r < K.size
  · rw [if_pos h1, blt_iff.2 h1]; rfl
  · have e1 : Nat.blt r K.size = false := by cases q : Nat.blt r K.size <;> first | rfl | exact absurd (blt_iff.1 q) h1
    rw [if_neg h1, e1]
    by_cases h2 : r < K1.size
    · rw [if_pos h2, blt_iff.2 h2]; rfl
    · have e2 : Nat.blt r K1.size = false := by cases q : Nat.blt r K1.size <;> first | rfl | exact absurd (blt_iff.1 q) h2
      rw [if_neg h2, e2]; rfl
theorem outsOf_mem {ρ : Nat → Option Nat} : ∀ {l l' : List (Nat × Row)}, outsOf ρ l = some l' → (∀ p ∈ l, ∃ R y, ρ p.1 = some R ∧ outRow' ρ p.2 = some y ∧ (R, y) ∈ l') ∧ (∀ q ∈ l', ∃ p ∈ l, ρ p.1 = some q.1 ∧ outRow' ρ p.2 = some q.2)
  | [], l', h => by simp only [outsOf, Option.some.injEq] at h; subst h; simp
  | (r, x) :: l, l', h => by
    simp only [outsOf] at h
    cases e1 : ρ r with
    | none => rw [e1] at h; cases h
    | some R =>
      cases e2 : outRow' ρ x with
      | none => rw [e1, e2] at h; cases h
      | some y =>
        cases e3 : outsOf ρ l with
        | none => rw [e1, e2, e3] at h; cases h
        | some l'' =>
          rw [e1, e2, e3] at h; simp only [Option.some.injEq] at h; subst h
          obtain ⟨h1, h2⟩ := outsOf_mem e3
          refine ⟨fun p hp => ?_, fun q hq => ?_⟩
          · rcases List.mem_cons.1 hp with rfl | hp
            · exact ⟨R, y, e1, e2, by simp⟩
            · obtain ⟨R', y', a1, a2, a3⟩ := h1 p hp; exact ⟨R', y', a1, a2, List.mem_cons_of_mem _ a3⟩
          · rcases List.mem_cons.1 hq with rfl | hq
            · exact ⟨(r, x), by simp, e1, e2⟩
            · obtain ⟨p, a1, a2⟩ := h2 q hq; exact ⟨p, List.mem_cons_of_mem _ a1, a2⟩
theorem logsOf_spec (mark : Nat) (tr : T Row) : ∀ (l : List (Nat × Row)) (acc : List Rng), ∃ n, logsOf mark tr l acc = n ++ acc ∧ ∀ p ∈ l, p.1 < mark → ∀ a ∈ rowDiffs p.1 (T.get .dead tr p.1) p.2, a ∈ n
  | [], acc => ⟨[], rfl, by simp⟩
  | (R, x) :: l, acc => by
    obtain ⟨n, h1, h2⟩ := logsOf_spec mark tr l acc
    rw [logsOf]
    cases e : Nat.blt R mark with
    | true =>
      refine ⟨rowDiffs R (T.get .dead tr R) x ++ n, by rw [h1]; simp, fun p hp hl a ha => ?_⟩
      rcases List.mem_cons.1 hp with rfl | hp
      · simp [ha]
      · simp [h2 p hp hl a ha]
    | false =>
      refine ⟨n, h1, fun p hp hl a ha => ?_⟩
      rcases List.mem_cons.1 hp with rfl | hp
      · rw [blt_iff.2 hl] at e; cases e
      · exact h2 p hp hl a ha
theorem back_of {m : Memo} {ρ : Nat → Option Nat} {H : Heap} {outs : List (Nat × Row)} (W : MemoWf m) (Q : Part ρ m.K H) (M : Models c P All μ H w) (ho : outsOf (after1 ρ m.K H m.K1) m.chg = some outs) : Back ρ m.K H m.K1 (backHeap H m outs) := by
  obtain ⟨o1, o2⟩ := outsOf_mem ho
  have hKs : m.K.size = m.size := rfl
  have hK1s : m.K1.size = m.size1 := rfl
  have hsize : (backHeap H m outs).size = H.size + (m.size1 - m.size) := by cases H; rfl
  have hhide : (backHeap H m outs).hide = H.hide := by cases H; rfl
  have hmark : (backHeap H m outs).mark = H.mark := by cases H; rfl
  have htr : (backHeap H m outs).tr = setAll1 .dead H.tr outs := by cases H; rfl
  have hlog : (backHeap H m outs).log = logsOf H.mark H.tr outs H.log := by cases H; rfl
  have inj : ∀ {r r' R}, after1 ρ m.K H m.K1 r = some R → after1 ρ m.K H m.K1 r' = some R → r = r' := by
    intro r r' R h h'
    unfold after1 at h h'
    by_cases h1 : r < m.K.size <;> by_cases h2 : r' < m.K.size
    · rw [if_pos h1] at h; rw [if_pos h2] at h'; exact Q.inj r r' R h h'
    · rw [if_pos h1] at h; rw [if_neg h2] at h'
      have := (Q.lt r R h).2
      by_cases h3 : r' < m.K1.size
      · rw [if_pos h3] at h'; simp only [Option.some.injEq] at h'; omega
      · rw [if_neg h3] at h'; cases h'
    · rw [if_neg h1] at h; rw [if_pos h2] at h'
      have := (Q.lt r' R h').2
      by_cases h3 : r < m.K1.size
      · rw [if_pos h3] at h; simp only [Option.some.injEq] at h; omega
      · rw [if_neg h3] at h; cases h
    · rw [if_neg h1] at h; rw [if_neg h2] at h'
      by_cases h3 : r < m.K1.size <;> by_cases h4 : r' < m.K1.size
      · rw [if_pos h3] at h; rw [if_pos h4] at h'; simp only [Option.some.injEq] at h h'; omega
      · rw [if_neg h4] at h'; cases h'
      · rw [if_neg h3] at h; cases h
      · rw [if_neg h3] at h; cases h
  -- what lies at a place afterwards
  have at_chg : ∀ {r R x}, (r, x) ∈ m.chg → after1 ρ m.K H m.K1 r = some R → outRow' (after1 ρ m.K H m.K1) x = some (T.get .dead (setAll1 .dead H.tr outs) R) := by
    intro r R x hx hR
    obtain ⟨R', y, a1, a2, a3⟩ := o1 _ hx
    simp only [] at a1 a2
    rw [hR] at a1; cases a1
    rcases setAll1_get Row.dead outs H.tr R with ⟨_, h2⟩ | h2
    · exact absurd rfl (h2 _ a3)
    · obtain ⟨p, p1, p2, p3⟩ := o2 _ h2
      obtain ⟨r', x'⟩ := p
      simp only [] at p2 p3
      have := inj hR p2; subst this
      rw [rises_uniq W.r2 hx p1]; exact p3
  have at_rest : ∀ {R}, (∀ r x, (r, x) ∈ m.chg → after1 ρ m.K H m.K1 r ≠ some R) → T.get .dead (setAll1 .dead H.tr outs) R = T.get .dead H.tr R := by
    intro R hn
    rcases setAll1_get Row.dead outs H.tr R with ⟨h1, _⟩ | h2
    · exact h1
    · obtain ⟨p, p1, p2, _⟩ := o2 _ h2
      exact absurd p2 (hn p.1 p.2 p1)
  have aft_old : ∀ {r R}, ρ r = some R → after1 ρ m.K H m.K1 r = some R := fun {r R} h => by unfold after1; rw [if_pos (Q.lt r R h).1]; exact h
  have aft_new : ∀ {r}, m.size ≤ r → r < m.size1 → after1 ρ m.K H m.K1 r = some (H.size + (r - m.size)) := fun {r} h1 h2 => by unfold after1; rw [if_neg (by rw [hKs]; omega), if_pos (by rw [hK1s]; exact h2)]; rfl
  have own_chg : ∀ {r x}, (r, x) ∈ m.chg → r < m.size → (m.K.get r).own := fun {r x} h hr => by
    rcases (W.chg _ h).2 with q | ⟨y, hy, y1, y2⟩
    · simp only [] at q; omega
    · obtain ⟨y0, yr⟩ := y
      simp only [] at y1 y2; subst y1
      rw [Memo.K_row W hy]; exact y2
  have aft_lt : ∀ {r R}, after1 ρ m.K H m.K1 r = some R → R < H.size → r < m.size ∧ ρ r = some R := fun {r R} h hR => by
    unfold after1 at h
    by_cases h1 : r < m.K.size
    · rw [if_pos h1] at h; exact ⟨h1, h⟩
    · rw [if_neg h1] at h
      by_cases h2 : r < m.K1.size
      · rw [if_pos h2] at h; simp only [Option.some.injEq] at h; omega
      · rw [if_neg h2] at h; cases h
  have aft_ge : ∀ {r R}, after1 ρ m.K H m.K1 r = some R → H.size ≤ R → m.size ≤ r ∧ r < m.size1 ∧ R = H.size + (r - m.size) := fun {r R} h hR => by
    unfold after1 at h
    by_cases h1 : r < m.K.size
    · rw [if_pos h1] at h; have := (Q.lt r R h).2; omega
    · rw [if_neg h1] at h
      by_cases h2 : r < m.K1.size
      · rw [if_pos h2] at h; simp only [Option.some.injEq] at h; exact ⟨by rw [hKs] at h1; omega, by rw [hK1s] at h2; exact h2, h.symm⟩
      · rw [if_neg h2] at h; cases h
  have gH1 : ∀ R, hidden R H.hide = false → (backHeap H m outs).get R = T.get .dead (setAll1 .dead H.tr outs) R := fun R hR => by
    rw [Heap.get_eq, hhide, if_neg (by simp [hR]), htr]
  have gH : ∀ R, hidden R H.hide = false → H.get R = T.get .dead H.tr R := fun R hR => by rw [Heap.get_eq, if_neg (by simp [hR])]
  have vis : ∀ R, H.size ≤ R → hidden R H.hide = false := fun R hR => by
    cases q : hidden R H.hide with
    | false => rfl
    | true => have := M.hid R q; omega
  have visl : ∀ R, (H.get R).live → hidden R H.hide = false := fun R hl => by
    cases q : hidden R H.hide with
    | false => rfl
    | true => rw [get_hidden q] at hl; exact hl.elim
  have K1r : ∀ r, r < m.size1 → m.K1.get r = (match look1 m.chg r with | some x => x | none => if r < m.size then m.K.get r else .dead) := fun r hr => by rw [Memo.K1_get, if_pos hr] <;> rfl
  have nochg : ∀ {r R}, look1 m.chg r = none → after1 ρ m.K H m.K1 r = some R → ∀ r' x, (r', x) ∈ m.chg → after1 ρ m.K H m.K1 r' ≠ some R := by
    intro r R hn hR r' x hx h'
    have := inj hR h'; subst this
    exact look1_none hn _ hx rfl
  refine ⟨by rw [hsize]; rfl, W.le, hhide, hmark, fun r R hR ho hl => ?_, fun r R hR ho hl => ?_, fun R hlt hn => ?_, fun r h1 h2 hl => ?_, fun r h1 h2 hl => ?_, fun R hR => ?_, fun R hR => ?_, ?_⟩
  · have hrs : r < m.size := (Q.lt r R hR).1
    obtain ⟨R', q1, q2⟩ := Q.rows r (Row.own_live ho)
    rw [hR] at q1; cases q1
    have hv := visl R (sameRow_own q2).2.2
    rw [gH1 R hv]
    rw [K1r r (Nat.lt_of_lt_of_le hrs W.le)] at hl ⊢
    cases e : look1 m.chg r with
    | some x =>
      rw [e] at hl; simp only [] at hl ⊢
      have := at_chg (look1_some e) (aft_old hR)
      unfold outRow' at this
      have hd : deadB x = false := by
        cases q : deadB x with
        | false => rfl
        | true => rw [deadB_eq.1 q] at hl; exact hl.elim
      rw [hd] at this; exact this
    | none =>
      simp only []
      rw [if_pos hrs, at_rest (nochg e (aft_old hR)), ← gH R hv]
      exact same_outRow (fun r R h => aft_old h) q2
  · have hrs : r < m.size := (Q.lt r R hR).1
    obtain ⟨R', q1, q2⟩ := Q.rows r (Row.own_live ho)
    rw [hR] at q1; cases q1
    have hv := visl R (sameRow_own q2).2.2
    rw [gH1 R hv]
    rw [K1r r (Nat.lt_of_lt_of_le hrs W.le)] at hl
    cases e : look1 m.chg r with
    | some x =>
      rw [e] at hl; simp only [] at hl
      have := at_chg (look1_some e) (aft_old hR)
      have hx := not_live hl
      unfold outRow' at this
      rw [hx] at this
      simp only [deadB, cond_true, Option.some.injEq] at this
      exact this.symm
    | none =>
      rw [e] at hl; simp only [] at hl
      rw [if_pos hrs] at hl
      exact absurd (Row.own_live ho) hl
  · have hno : ∀ r x, (r, x) ∈ m.chg → after1 ρ m.K H m.K1 r ≠ some R := fun r x hx h => by
      obtain ⟨a1, a2⟩ := aft_lt h hlt
      exact hn r a2 (own_chg hx a1)
    cases q : hidden R H.hide with
    | true => rw [get_hidden q]; rw [← hhide] at q; exact get_hidden q
    | false => rw [gH1 R q, gH R q, at_rest hno]
  · rw [hKs] at h1; rw [hK1s] at h2
    have ha := aft_new h1 h2
    have hv := vis (H.size + (r - m.size)) (by omega)
    have e0 : H.size + (r - m.K.size) = H.size + (r - m.size) := rfl
    rw [e0, gH1 _ hv]
    rw [K1r r h2] at hl ⊢
    cases e : look1 m.chg r with
    | some x =>
      rw [e] at hl; simp only [] at hl ⊢
      have := at_chg (look1_some e) ha
      unfold outRow' at this
      have hd : deadB x = false := by
        cases q : deadB x with
        | false => rfl
        | true => rw [deadB_eq.1 q] at hl; exact hl.elim
      rw [hd] at this; exact this
    | none => rw [e] at hl; simp only [] at hl; rw [if_neg (by omega)] at hl; exact hl.elim
  · rw [hKs] at h1; rw [hK1s] at h2
    have ha := aft_new h1 h2
    have hv := vis (H.size + (r - m.size)) (by omega)
    have e0 : H.size + (r - m.K.size) = H.size + (r - m.size) := rfl
    rw [e0, gH1 _ hv]
    rw [K1r r h2] at hl
    cases e : look1 m.chg r with
    | some x =>
      rw [e] at hl; simp only [] at hl
      have := at_chg (look1_some e) ha
      have hx := not_live hl
      unfold outRow' at this
      rw [hx] at this
      simp only [deadB, cond_true, Option.some.injEq] at this
      exact this.symm
    | none => rw [at_rest (nochg e ha), ← gH _ hv]; exact M.dead _ (by omega)
  · rw [hsize] at hR
    have hv := vis R (by omega)
    rw [gH1 R hv, at_rest fun r x hx h => ?_, ← gH R hv]
    · exact M.dead R (by omega)
    · obtain ⟨a1, a2, a3⟩ := aft_ge h (by omega)
      have := W.le; omega
  · rw [htr]
    refine at_rest fun r x hx h => ?_
    obtain ⟨a1, a2⟩ := aft_lt h (M.hid R hR)
    obtain ⟨R', q1, q2⟩ := Q.rows r (Row.own_live (own_chg hx a1))
    rw [a2] at q1; cases q1
    have := visl R (sameRow_own q2).2.2
    rw [hR] at this; cases this
  · obtain ⟨n, n1, n2⟩ := logsOf_spec H.mark H.tr outs H.log
    refine ⟨n, by rw [hlog, n1], fun r hr i hn => ?_⟩
    rw [htr]
    rcases setAll1_get Row.dead outs H.tr r with ⟨h1, _⟩ | h2
    · rw [h1]; exact .inl rfl
    · exact rowDiffs_spec fun a ha => hn a (n2 _ h2 hr a ha)

theorem MapR.cfg (hcc : ∀ t k, keyOk c' t k = keyOk c t k) {kt : TypeId} {es : List (AV × AV)} {es' : List MapEntry} {clock : Nat} (H : MapR c kt μ es es' clock) : MapR c' kt μ es es' clock := ⟨H.as, fun p hp => by rw [hcc]; exact H.keys p hp, H.dist, H.born⟩
theorem RowR.cfg (hcc : ∀ t k, keyOk c' t k = keyOk c t k) {V : View} {r : Nat} {x : Row} (H : RowR c P V μ w r x) : RowR c' P V μ w r x := by
  cases x with
  | map kt es => obtain ⟨b, base, N, es', clock, e, hb, hr⟩ := H; exact ⟨b, base, N, es', clock, e, hb, hr.cfg hcc⟩
  | _ => exact H
theorem Models.cfg (hcc : ∀ t k, keyOk c' t k = keyOk c t k) {V : View} {h : Heap} (M : Models c P V μ h w) : Models c' P V μ h w :=
  ⟨fun r hv => (M.row r hv).cfg hcc, M.apart, M.dom, M.dead, M.size, M.hid, M.mark⟩
/-- what was run once -/
theorem memo_fun (K : CfgOK c P) (hcc : ∀ t k, keyOk c' t k = keyOk c t k) {n : Nat} {f : FuncId} {m : Memo} {nglob : Nat} (hg : P.globals.size ≤ nglob) (hw : memoWf m = true) (ho : memoOut m (call c n f m.args m.K) = true) : FunR c' P f (memoRun m nglob) := by
  intro args h o h' hr
  have W := memoWf_spec hw
  have hcall : ∃ v hf, FnF c n f m.args m.K = some (.ret v, hf) ∧ memoOut m (some (.ret v, hf)) = true := by
    unfold memoOut at ho
    cases e : call c n f m.args m.K with
    | none => rw [e] at ho; cases ho
    | some p =>
      obtain ⟨o, hf⟩ := p
      cases o with
      | pan v => rw [e] at ho; cases ho
      | ret v => exact ⟨v, hf, e, by rw [e] at ho; exact ho⟩
  obtain ⟨v, hf, hcall, hout⟩ := hcall
  obtain ⟨hc1, hc2⟩ := (depth_sound K n).F f _ _ _ _ hcall
  refine ⟨hc1, fun μ w args' M G ha => ?_⟩
  unfold memoRun at hr
  cases e1 : seek m.K h 1000000 (pairsL m.args args (globs nglob)) .nil [] with
  | none => rw [e1] at hr; cases hr
  | some prs =>
    rw [e1] at hr; simp only [] at hr
    generalize hρ : (fun r => T.get none (setAll1 none .nil (somes prs)) r) = ρ at hr
    generalize hσ : (fun r => T.get none (setAll1 none .nil (backs prs)) r) = σ at hr
    unfold memoMid at hr
    cases e2 : memoIn m nglob ρ σ prs args h with
    | false => rw [e2] at hr; cases hr
    | true =>
      rw [e2] at hr; simp only [cond_true] at hr
      unfold memoIn at e2
      simp only [Bool.and_eq_true, List.all_eq_true] at e2
      obtain ⟨⟨⟨i1, i2⟩, i3⟩, i4⟩ := e2
      have inprs : ∀ r R, ρ r = some R → (r, R) ∈ prs := fun r R hR => by
        rw [← hρ] at hR; simp only [] at hR
        rcases setAll1_get none (somes prs) .nil r with ⟨q, _⟩ | q
        · rw [q, T.get_nil] at hR; cases hR
        · rw [hR] at q
          obtain ⟨R', q1, q2⟩ := mem_somes q
          cases q1; exact q2
      have Q : Part ρ m.K h := by
        refine ⟨fun r R hR => ?_, fun r r' R h1 h2 => ?_, fun r hl => ?_, fun r hr => Memo.K_dead W hr, rfl, rfl⟩
        · have := i1 _ (inprs r R hR)
          exact ⟨blt_iff.1 this.1.1, blt_iff.1 this.1.2⟩
        · have a1 := at1_eq (i1 _ (inprs r R h1)).2
          have a2 := at1_eq (i1 _ (inprs r' R h2)).2
          simp only [] at a1 a2
          rw [a1] at a2; cases a2; rfl
        · rcases m.K_get r with q | q
          · rw [q] at hl; exact hl.elim
          · have := i2 _ q
            simp only [] at this
            cases e : ρ r with
            | none => rw [e] at this; cases this
            | some R => rw [e] at this; exact ⟨R, rfl, this⟩
      have Ms : Models c P All (μ.via ρ) m.K w := Q.models (M.cfg fun t k => (hcc t k).symm)
      have Gs : GlobR P (μ.via ρ) := fun g hgl => by
        obtain ⟨N, e⟩ := G g hgl
        exact ⟨N, via_some (globsOk_spec i4 g (Nat.lt_of_lt_of_le hgl hg)) e⟩
      have hargs : VL (μ.via ρ) m.args args' := same_smallL _ i3 ha
      have hC := hc2 _ w args' Ms Gs hargs
      have haft : aft ρ m.size m.size1 h.size = after1 ρ m.K h m.K1 := aft_eq ρ m.K h m.K1
      rw [haft] at hr
      unfold memoEnd at hr
      cases e3 : outA (after1 ρ m.K h m.K1) m.v with
      | none => rw [e3] at hr; cases hr
      | some v2 =>
        cases e4 : outsOf (after1 ρ m.K h m.K1) m.chg with
        | none => rw [e3, e4] at hr; cases hr
        | some outs =>
          rw [e3, e4] at hr; simp only [Option.some.injEq, Prod.mk.injEq] at hr
          obtain ⟨rfl, rfl⟩ := hr
          refine hC.mono fun e w' H => ?_
          cases e with
          | panicked ch => exact H.elim
          | outgrown => exact H.elim
          | returned u =>
            obtain ⟨μs, hv, M', Gg⟩ := H
            obtain ⟨M1, G1⟩ := memo_small W hout M' Gg
            have Mc : Models c P All μ h w := M.cfg fun t k => (hcc t k).symm
            have B := back_of W Q Mc e4
            obtain ⟨f1, f2, f3⟩ := frameR Q Mc B M1 G1
            refine ⟨_, ?_, f1.cfg hcc, f2⟩
            unfold memoOut at hout
            simp only [Bool.and_eq_true] at hout
            have hv1 : VR μs m.v u := same_small (ρ := some) m.v hout.1.1.1 hv
            exact out_big f3 m.v e3 hv1
end Go.E
/-! E, part C: the tables of a program as literal trees; when a Cfg is one of the program. -/
namespace Go.E
def numbered {α : Type} : List α → Nat → List (Nat × Option α)
  | [], _ => []
  | a :: l, i => (i, some a) :: force (i + 1) (numbered l)
theorem mem_numbered {α : Type} : ∀ (l : List α) (i r : Nat) (x : Option α), (r, x) ∈ numbered l i → i ≤ r ∧ ∃ a, x = some a ∧ l[r - i]? = some a
  | [], i, r, x, h => by cases h
  | a :: l, i, r, x, h => by
    simp only [numbered, force_eq, List.mem_cons, Prod.mk.injEq] at h
    rcases h with ⟨rfl, rfl⟩ | h
    · exact ⟨Nat.le_refl _, a, rfl, by simp⟩
    · obtain ⟨h1, b, h2, h3⟩ := mem_numbered l (i + 1) r x h
      refine ⟨by omega, b, h2, ?_⟩
      have : r - i = (r - (i + 1)) + 1 := by omega
      rw [this, List.getElem?_cons_succ]; exact h3
def treeOf {α : Type} (l : List α) : T (Option α) := setAll1 none .nil (numbered l 0)
theorem treeOf_get {α : Type} {l : List α} {i : Nat} {a : α} (h : T.get none (treeOf l) i = some a) : l[i]? = some a := by
  unfold treeOf at h
  rcases setAll1_get none (numbered l 0) .nil i with ⟨q, _⟩ | q
  · rw [q, T.get_nil] at h; cases h
  · rw [h] at q
    obtain ⟨_, b, e, h3⟩ := mem_numbered l 0 i _ q
    cases e; simpa using h3
theorem numbered_mem {α : Type} : ∀ (l : List α) (i r : Nat) (a : α), l[r]? = some a → (i + r, some a) ∈ numbered l i
  | [], i, r, a, h => by simp at h
  | b :: l, i, 0, a, h => by simp at h; subst h; simp [numbered]
  | b :: l, i, r + 1, a, h => by
    simp only [numbered, force_eq, List.mem_cons]
    right
    have := numbered_mem l (i + 1) r a (by simpa using h)
    have e : i + (r + 1) = i + 1 + r := by omega
    rw [e]; exact this
theorem treeOf_some {α : Type} {l : List α} {i : Nat} (h : i < l.length) : ∃ a, T.get none (treeOf l) i = some a := by
  have hm := numbered_mem l 0 i l[i] (by simp)
  rw [Nat.zero_add] at hm
  unfold treeOf
  rcases setAll1_get none (numbered l 0) .nil i with ⟨_, q⟩ | q
  · exact absurd rfl (q _ hm)
  · obtain ⟨_, b, e, _⟩ := mem_numbered l 0 i _ q
    exact ⟨b, e⟩
theorem forM_mem {α : Type} {f : α → Except String Unit} : ∀ {l : List α}, l.forM f = .ok () → ∀ a ∈ l, f a = .ok ()
  | [], _, a, ha => by cases ha
  | b :: l, h, a, ha => by
    have h' : (do f b; l.forM f) = .ok () := h
    cases e : f b with
    | error s => rw [e] at h'; cases h'
    | ok u =>
      cases u
      rw [e] at h'
      rcases List.mem_cons.1 ha with rfl | ha
      · exact e
      · exact forM_mem h' a ha
theorem ok_of_bind {α : Type} {a : Except String α} {k : α → Except String Unit} (h : (a >>= k) = .ok ()) : ∃ x, a = .ok x ∧ k x = .ok () := by
  cases a with
  | error e => cases h
  | ok x => exact ⟨x, rfl, h⟩
theorem code_of_check {P : Program} (h : P.check = .ok ()) {f : FuncId} {fn : Func} {b : Code} (hf : P.funcs[f]? = some fn) (hb : fn.body = some b) :
    ∃ blocks labels, CheckCode.code P fn blocks labels b = .ok () := by
  unfold Program.check at h
  obtain ⟨_, h1, _⟩ := ok_of_bind h
  have hlt : f < P.funcs.size := by
    rcases Nat.lt_or_ge f P.funcs.size with q | q
    · exact q
    · rw [Array.getElem?_eq_none q] at hf; cases hf
  have h2 := forM_mem h1 f (List.mem_range.2 hlt)
  unfold CheckCode.funcAt at h2
  rw [hf] at h2
  simp only [] at h2
  have h3 : CheckCode.func P fn = .ok () := by
    cases e : CheckCode.func P fn with
    | error s => rw [e] at h2; cases h2
    | ok u => rfl
  unfold CheckCode.func at h3
  obtain ⟨_, _, h3⟩ := ok_of_bind h3
  obtain ⟨_, _, h3⟩ := ok_of_bind h3
  obtain ⟨_, _, h3⟩ := ok_of_bind h3
  rw [hb] at h3
  simp only [] at h3
  obtain ⟨_, _, h3⟩ := ok_of_bind h3
  obtain ⟨_, h4, _⟩ := ok_of_bind h3
  exact ⟨[], [], h4⟩

def upto (f : Nat → Bool) (a : Nat) : Nat → Bool
  | 0 => true
  | n + 1 => f a && force (a + 1) fun b => upto f b n
theorem upto_get {f : Nat → Bool} : ∀ {n a : Nat}, upto f a n = true → ∀ i, a ≤ i → i < a + n → f i = true
  | 0, a, _, i, h1, h2 => by omega
  | n + 1, a, h, i, h1, h2 => by
    simp only [upto, force_eq, Bool.and_eq_true] at h
    rcases Nat.eq_or_lt_of_le h1 with rfl | h3
    · exact h.1
    · exact upto_get h.2 i h3 (by omega)
theorem laid_of {P : Program} {n : Nat} (hn : P.types.size = n) (h1 : ∀ i, i < n → rowFine P i = true) (h2 : P.globals.toList.all (fun g => Nat.blt g.type n) = true) (h3 : P.funcs.toList.all (fun f => f.params.toList.all fun t => Nat.blt t n) = true) : laidOutB P = true := by
  unfold laidOutB
  rw [hn]
  simp only [Bool.and_eq_true, List.all_eq_true, List.mem_range, Array.all_eq_true_iff_forall_mem, decide_eq_true_eq]
  refine ⟨⟨h1, fun g hg => ?_⟩, fun f hf t ht => ?_⟩
  · exact blt_iff.1 (List.all_eq_true.1 h2 g (Array.mem_toList_iff.2 hg))
  · exact blt_iff.1 (List.all_eq_true.1 (List.all_eq_true.1 h3 f (Array.mem_toList_iff.2 hf)) t (Array.mem_toList_iff.2 ht))
def natIn (l : List Nat) (t : Nat) : Bool := l.any (Nat.beq t)
theorem natIn_mem {l : List Nat} {t : Nat} (h : natIn l t = true) : t ∈ l := by
  unfold natIn at h
  obtain ⟨x, h1, h2⟩ := List.any_eq_true.1 h
  rw [Nat.eq_of_beq_eq_true h2]; exact h1
/-- whether a struct's or an array's type can be a key -/
def wideT (P : Program) (t : TypeId) : Bool := match P.underlying t with | some (.array _ _) => true | some (.struct _) => true | _ => false
def keyB (P : Program) (t : TypeId) : Bool := Nat.blt t P.types.size && P.keyTypeAt 100 t && wideT P t && P.keyType t
def eqTB (P : Program) (t : TypeId) : Bool := P.keyTypeAt 100 t && !P.eqGuardType P.depth t
/-- a program's tables -/
structure Tab where
  info : T (Option TypeInfo)
  fn : T (Option Func)
  eqs : List Nat
  keys : List Nat
  ext : FuncId → Option Fun
def Tab.cfg (t : Tab) : Cfg := { info := fun i => T.get none t.info i, fn := fun f => T.get none t.fn f, ext := t.ext, eqOk := natIn t.eqs, keyT := natIn t.keys, fuel := 1000000 }
def goodF (fn : Func) : Bool := !(fn.name == "runtime.NumGoroutine") && (match fn.body with | some b => goodDraws b | none => true)
def fieldsIn (l : List TypeInfo) (n : Nat) : Bool := l.all fun i => match i.desc with
  | .struct fs => fs.toList.all fun f => Nat.blt f.type n
  | _ => true
structure TabOK (t : Tab) (P : Program) (ts : List TypeInfo) (fs : List Func) : Prop where
  check : P.check = .ok ()
  types : P.types.toList = ts
  info : t.info = treeOf ts
  funcs : P.funcs.toList = fs
  fn : ∀ f fn, T.get none t.fn f = some fn → fs[f]? = some fn
  eqs : t.eqs.all (eqTB P) = true
  keys : t.keys.all (keyB P) = true
  laid : laidOutB P = true
  good : fs.all goodF = true
  fields : fieldsIn ts ts.length = true
  ne : 1 ≤ P.types.size
  mixed : P.follows .mixedOrders = true
theorem TabOK.ty {t : Tab} {P : Program} {ts : List TypeInfo} {fs : List Func} (H : TabOK t P ts fs) : TyOK t.cfg P := by
  refine ⟨fun k i h => ?_, fun k h => ?_, fun k h => ?_, H.laid, H.ne, fun k fs' h f hf => ?_⟩
  · have h1 : ts[k]? = some i := by
      have h0 : T.get none t.info k = some i := h
      rw [H.info] at h0
      exact treeOf_get h0
    rw [← H.types, Array.getElem?_toList] at h1
    have hlt : k < P.types.size := by
      rcases Nat.lt_or_ge k P.types.size with q | q
      · exact q
      · rw [Array.getElem?_eq_none q] at h1; cases h1
    unfold Tables.info?
    rw [if_pos hlt]; exact h1
  · have := List.all_eq_true.1 H.eqs k (natIn_mem h)
    unfold eqTB at this
    simpa using this
  · have := List.all_eq_true.1 H.keys k (natIn_mem h)
    unfold keyB wideT at this
    simp only [Bool.and_eq_true] at this
    obtain ⟨⟨⟨h1, h2⟩, h3⟩, h4⟩ := this
    refine ⟨Maps.Keyed.of_law (deep_law_laid H.laid (m := 100) (by omega) (blt_iff.1 h1) h2 ?_), h4⟩
    cases e : P.underlying k with
    | none => rw [e] at h3; cases h3
    | some d => rw [e] at h3; cases d <;> first | rfl | (cases h3; done)
  · have key : ∀ k i, t.cfg.info k = some i → i.desc = .struct fs' → ∃ i, t.cfg.info f.type = some i := fun k i h0 h1 => by
      have h0 : T.get none t.info k = some i := h0
      rw [H.info] at h0
      have := List.all_eq_true.1 H.fields i (List.mem_of_getElem? (treeOf_get h0))
      rw [h1] at this
      have := List.all_eq_true.1 this f hf
      obtain ⟨a, ha⟩ := treeOf_some (blt_iff.1 this)
      exact ⟨a, by show T.get none t.info f.type = some a; rw [H.info]; exact ha⟩
    unfold E.und at h
    cases e : t.cfg.info k with
    | none => rw [e] at h; cases h
    | some i =>
      rw [e] at h
      cases hd : i.desc <;> simp only [hd] at h
      case named u =>
        cases e2 : t.cfg.info u with
        | none => rw [e2] at h; cases h
        | some j => rw [e2] at h; simp only [Option.some.injEq] at h; exact key u j e2 h
      all_goals first | (cases h; done) | (simp only [Option.some.injEq] at h; exact key k i e (hd.trans h)) | skip
theorem TabOK.cfg {t : Tab} {P : Program} {ts : List TypeInfo} {fs : List Func} (H : TabOK t P ts fs) (X : ∀ f F, t.ext f = some F → CallR t.cfg P f F) : CfgOK t.cfg P := by
  have hfn : ∀ f fn, t.cfg.fn f = some fn → P.funcs[f]? = some fn := fun f fn h => by
    have := H.fn f fn h
    rw [← H.funcs, Array.getElem?_toList] at this; exact this
  have hmem : ∀ f fn, t.cfg.fn f = some fn → fn ∈ fs := fun f fn h => List.mem_of_getElem? (H.fn f fn h)
  refine ⟨H.ty, hfn, fun f fn h => ?_, fun f fn b hf hb => code_of_check H.check hf hb, fun f fn b h hb => ?_, X, H.mixed⟩
  · have := List.all_eq_true.1 H.good fn (hmem f fn h)
    unfold goodF at this
    simp only [Bool.and_eq_true, Bool.not_eq_true'] at this
    exact this.1
  · have := List.all_eq_true.1 H.good fn (hmem f fn h)
    unfold goodF at this
    simp only [Bool.and_eq_true] at this
    have := this.2
    rw [hb] at this; exact this
end Go.E
