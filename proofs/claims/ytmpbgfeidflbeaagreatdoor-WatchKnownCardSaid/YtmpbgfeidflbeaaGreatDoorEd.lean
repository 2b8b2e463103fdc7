/- E is sound, part 3: operations, code, regions -/
import Derived.Test.YtmpbgfeidflbeaaGreatDoorEc
import Derived.RangeFuncIn
import Derived.Defers
import Derived.Recover
import Derived.Orders
/-! E, soundness, part 21: what calls are; operations, whatever they do. -/
namespace Go.E
variable {c : Cfg} {P : Program} {V : View} {μ : Mu} {h : Heap} {w : World}

/-! ### calls -/
/-- what a computation leaves -/
def RetR (c : Cfg) (P : Program) (μ : Mu) (h : Heap) (w : World) (a : AV) (h' : Heap) (v : Value) (w' : World) : Prop :=
  ∃ μ', VR μ' a v ∧ Models c P All μ' h' w' ∧ Goes μ h w μ' h' w'
def OutR (c : Cfg) (P : Program) (μ : Mu) (h : Heap) (w : World) (o : Out) (h' : Heap) (e : Ending) (w' : World) : Prop :=
  match o, e with
  | .ret a, .returned v => RetR c P μ h w a h' v w'
  | .pan a, .panicked ch => ∃ v, ch = [{ v, recovered := false }] ∧ RetR c P μ h w a h' v w'
  | _, _ => False
/-- a function that can be called -/
def Callable (P : Program) (f : FuncId) : Prop := ∃ fn b, P.funcs[f]? = some fn ∧ fn.body = some b ∧ (fn.name == "runtime.NumGoroutine") = false
theorem callFunc_run {f : FuncId} (hc : Callable P f) (args : Array Value) (w : World) : (callFunc f args).run P w = .ok (.enter f args) w := by
  obtain ⟨fn, b, h1, h2, h3⟩ := hc
  simp only [callFunc, Sem.run_bind, run_program, Result.andThen_ok, h1]
  rw [h3, h2]
  simp
def FunR (c : Cfg) (P : Program) (f : FuncId) (F : Fun) : Prop :=
  ∀ args h o h', F args h = some (o, h') → Callable P f ∧ ∀ μ w args', Models c P All μ h w → GlobR P μ → VL μ args args' → Calls P f args'.toArray w (OutR c P μ h w o h')
/-- a function that can be called, or that is computed at once -/
def CallR (c : Cfg) (P : Program) (f : FuncId) (F : Fun) : Prop :=
  ∀ args h o h', F args h = some (o, h') → (Callable P f ∧ ∀ μ w args', Models c P All μ h w → GlobR P μ → VL μ args args' → Calls P f args'.toArray w (OutR c P μ h w o h')) ∨
    (∀ μ w args', Models c P All μ h w → GlobR P μ → VL μ args args' → ∃ a v' w', o = .ret a ∧ (callFunc f args'.toArray).run P w = .ok (.value v') w' ∧ RetR c P μ h w a h' v' w')
theorem FunR.call {c : Cfg} {P : Program} {f : FuncId} {F : Fun} (H : FunR c P f F) : CallR c P f F := fun args h o h' e => .inl (H args h o h' e)
/-- a round of a loop over a function -/
def RoundC (P : Program) (l : Nat) (f : FuncId) (tmps : Array Value) (assign body : Code) (w : World) (R : Ending → World → Prop) : Prop :=
  ∀ (c : Frame) (cs : List Frame), ∃ e w', R e w' ∧ e ≠ .outgrown ∧ Comes P (lone (Frame.round l f tmps assign body .normal) (c :: cs) w)
    (match e with
     | .returned v => lone (c.finish v) cs w'
     | .panicked chain => lone (c.raise chain) cs w'
     | .outgrown => lone c cs w') e
def YldR (c : Cfg) (P : Program) (F : Nat → Fun) : Prop :=
  ∀ l args h o h', F l args h = some (o, h') → ∀ μ w args' lb base N, Models c P All μ h w → GlobR P μ → VL μ args args' → μ l = some (lb, base, N) →
    ∃ f tmps assign body w1, (Instr.yield lb args'.toArray).run P w = .ok (.round lb f tmps assign body) w1 ∧ RoundC P lb f tmps assign body w1 (OutR c P μ h w o h')
structure EnvR (c : Cfg) (P : Program) (env : Env) : Prop where
  C : ∀ f, FunR c P f (env.C f)
  Y : YldR c P env.Y
structure CfgOK (c : Cfg) (P : Program) : Prop where
  T : TyOK c P
  fn : ∀ f fn, c.fn f = some fn → P.funcs[f]? = some fn
  names : ∀ f fn, c.fn f = some fn → (fn.name == "runtime.NumGoroutine") = false
  code : ∀ (f : FuncId) (fn : Func) (b : Code), P.funcs[f]? = some fn → fn.body = some b → ∃ blocks labels, CheckCode.code P fn blocks labels b = .ok ()
  good : ∀ (f : FuncId) (fn : Func) (b : Code), c.fn f = some fn → fn.body = some b → goodDraws b = true
  ext : ∀ f F, c.ext f = some F → CallR c P f F
  mixed : P.follows .mixedOrders = true

def Ends (R Q : Value → World → Prop) : Ending → World → Prop
  | .returned v, w' => R v w'
  | .panicked ch, w' => ∃ v, ch = [{ v, recovered := false }] ∧ Q v w'
  | .outgrown, _ => False
/-- what an operation comes to -/
inductive OpRes (P : Program) (s : Sem Next) (w : World) (R Q : Value → World → Prop) : Prop
  | value (v : Value) (w' : World) (hr : s.run P w = .ok (.value v) w') (h : R v w')
  | skip (w' : World) (hr : s.run P w = .ok .skip w') (h : R Go.undef w')
  | panic (v : Value) (w' : World) (hr : s.run P w = .halt (.panic v) w') (h : Q v w')
  | enter (f : FuncId) (args : Array Value) (w1 : World) (hr : s.run P w = .ok (.enter f args) w1) (h : Calls P f args w1 (Ends R Q))
  | round (l : Nat) (f : FuncId) (tmps : Array Value) (assign body : Code) (w1 : World) (hr : s.run P w = .ok (.round l f tmps assign body) w1)
      (h : RoundC P l f tmps assign body w1 (Ends R Q))
def orPost (c : Cfg) (P : Program) (μ : Mu) (h : Heap) (w : World) (s : Sem Next) (r : Option (Out × Heap)) : Prop :=
  match r with
  | some (.ret a, h') => OpRes P s w (RetR c P μ h w a h') (fun _ _ => False)
  | some (.pan a, h') => OpRes P s w (fun _ _ => False) (RetR c P μ h w a h')
  | none => True

theorem callFn_sound (K : CfgOK c P) {env : Env} (E : EnvR c P env) {f : FuncId} : CallR c P f (callFn c env f) := by
  unfold callFn
  cases e : c.ext f with
  | none => exact (E.C f).call
  | some F => exact K.ext f F e
theorem outR_ret {a : AV} {h' : Heap} {e : Ending} {w' : World} (H : OutR c P μ h w (.ret a) h' e w') : Ends (RetR c P μ h w a h') (fun _ _ => False) e w' := by
  cases e <;> first | exact H | exact H.elim
theorem outR_pan {a : AV} {h' : Heap} {e : Ending} {w' : World} (H : OutR c P μ h w (.pan a) h' e w') : Ends (fun _ _ => False) (RetR c P μ h w a h') e w' := by
  cases e <;> first | exact H | exact H.elim
theorem enter_post (M : Models c P All μ h w) (G : GlobR P μ) {f : FuncId} {F : Fun} (hF : CallR c P f F) {args : List AV} {args' : List Value} (ha : VL μ args args') {s : Sem Next}
    (hs : s.run P w = (callFunc f args'.toArray).run P w) : orPost c P μ h w s (F args h) := by
  cases e : F args h with
  | none => trivial
  | some p =>
    obtain ⟨o, h'⟩ := p
    rcases hF _ _ _ _ e with ⟨h1, h2⟩ | h2
    · have hc := h2 μ w args' M G ha
      cases o with
      | ret a => exact .enter f _ w (hs.trans (callFunc_run h1 _ _)) (hc.mono fun e w' H => outR_ret H)
      | pan a => exact .enter f _ w (hs.trans (callFunc_run h1 _ _)) (hc.mono fun e w' H => outR_pan H)
    · obtain ⟨a, v', w', rfl, q1, q2⟩ := h2 μ w args' M G ha
      exact .value v' w' (hs.trans q1) q2
theorem VL.arr {l : List AV} {B : Array Value} (h : VL μ l B.toList) : VL μ l B.toList := h

/-- a call of a value -/
theorem callV_sound (K : CfgOK c P) {env : Env} (E : EnvR c P env) (M : Models c P All μ h w) (G : GlobR P μ) {fv : AV} {fv' : Value} (hf : VR μ fv fv') {args : List AV} {B : Array Value} (ha : VL μ args B.toList) :
    orPost c P μ h w (do let d ← Deferred.ofValue fv' B; invoke d.target d.args) (callV c env fv args h) := by
  cases hf <;> simp only [callV, orPost]
  case yld l b base N hm =>
    cases e : env.Y l args h with
    | none => trivial
    | some p =>
      obtain ⟨o, h'⟩ := p
      obtain ⟨f, tmps, as, bd, w1, r1, r2⟩ := E.Y l args h o h' e μ w B.toList b base N M G ha hm
      have hs : (do let d ← Deferred.ofValue (.func (.yield b) #[] #[]) B; invoke d.target d.args : Sem Next).run P w = .ok (.round b f tmps as bd) w1 := by
        simp only [Deferred.ofValue, Sem.run_bind, Sem.run_pure, Result.andThen_ok, invoke]
        simpa using r1
      cases o with
      | ret a => exact .round _ _ _ _ _ _ hs fun c cs => let ⟨e, w', h1, h2, h3⟩ := r2 c cs; ⟨e, w', outR_ret h1, h2, h3⟩
      | pan a => exact .round _ _ _ _ _ _ hs fun c cs => let ⟨e, w', h1, h2, h3⟩ := r2 c cs; ⟨e, w', outR_pan h1, h2, h3⟩
  case fn fv first cap first' cap' hy h1 h2 =>
    cases fv with
    | func g =>
      simp only []
      have := enter_post M G (callFn_sound K E (f := g)) (args := first ++ (args ++ cap)) (args' := first'.toList ++ (B.toList ++ cap'.toList)) (h1.append (ha.append h2)) (s := do let d ← Deferred.ofValue (.func (.func g) first' cap') B; invoke d.target d.args) (by
        simp only [Deferred.ofValue, Sem.run_bind, Sem.run_pure, Result.andThen_ok, invoke]
        congr 2
        apply Array.ext'; simp)
      exact this
    | method name =>
      simp only []
      have hl : VL μ (first ++ args) (first' ++ B).toList := by rw [Array.toList_append]; exact h1.append ha
      generalize hA : first ++ args = A at hl ⊢
      generalize hL : (first' ++ B).toList = L at hl
      cases hl with
      | nil => trivial
      | cons q1 q2 =>
        rename_i x v A' L'
        cases q1 <;> first | trivial | skip
        rename_i t av v hav
        simp only []
        cases e2 : methodE c t av name h with
        | none => trivial
        | some p =>
          obtain ⟨g, r⟩ := p
          obtain ⟨u, u1, u2⟩ := method_sound K.T M e2 hav (P.types.size + Made.depth - 1)
          have hp : 0 < Made.depth := by decide
          have hd : P.types.size + Made.depth - 1 + 1 = P.types.size + Made.depth := by omega
          rw [hd] at u1
          have := enter_post M G (callFn_sound K E (f := g)) (args := r :: A') (args' := u :: L') (.cons u2 q2) (s := do let d ← Deferred.ofValue (.func (.method name) first' cap') B; invoke d.target d.args) (by
            have g0 : (first' ++ B)[0]? = some (.iface t v) := by rw [← Array.getElem?_toList, hL]; rfl
            have g1 : ((first' ++ B).extract 1 (first' ++ B).size) = L'.toArray := by
              apply Array.ext'
              rw [Array.toList_extract, hL, List.extract_eq_take_drop]
              have : (first' ++ B).size = L'.length + 1 := by rw [← Array.length_toList, hL]; rfl
              rw [this]; simp
            have i1 : (do let d ← Deferred.ofValue (.func (.method name) first' cap') B; invoke d.target d.args : Sem Next).run P w = (callMethod (.iface t v) name ((first' ++ B).extract 1 (first' ++ B).size)).run P w := by
              simp only [Deferred.ofValue, Sem.run_bind, Sem.run_pure, Result.andThen_ok, invoke, g0]
            rw [i1, g1]
            simp only [callMethod, Sem.run_bind, run_program, Result.andThen_ok, u1]
            congr 2
            apply Array.ext'; simp)
          exact this
    | _ => trivial
end Go.E
/-! E, soundness, part 22: every operation. -/
namespace Go.E
variable {c : Cfg} {P : Program} {V : View} {μ : Mu} {h : Heap} {w : World}

/-- a deferred call -/
def DefR1 (μ : Mu) (d : ADef) (d' : Deferred) : Prop :=
  match d.fn with
  | some fv => ∃ fn first cap args', VR μ fv (.func fn first cap) ∧ VL μ d.args args' ∧ d' = { target := .fn fn cap, args := first ++ args'.toArray }
  | none => ∃ b base N, μ d.blk = some (b, base, N) ∧ d' = { target := .collected b, args := #[] }
def ORPost (c : Cfg) (P : Program) (μ : Mu) (h : Heap) (w : World) (s : Sem Next) : OR → Prop
  | .val a h' => OpRes P s w (RetR c P μ h w a h') (fun _ _ => False)
  | .pan a h' => OpRes P s w (fun _ _ => False) (RetR c P μ h w a h')
  | .dfr d => ∃ d', s.run P w = .ok (.defer d') w ∧ DefR1 μ d d'
  | .recov => s.run P w = .ok .recover w
  | .bad => True
theorem orOf_post {s : Sem Next} {r : Option (Out × Heap)} (H : orPost c P μ h w s r) : ORPost c P μ h w s (orOf r) := by
  cases r with
  | none => trivial
  | some p => obtain ⟨o, h'⟩ := p; cases o <;> exact H
theorem gives_post {s : Sem Next} {S : Sem Value} {a : AV} {h' : Heap} (hs : s.run P w = (S.run P w).andThen fun v w => .ok (.value v) w) (Gv : Gives c P μ h w S a h') : OpRes P s w (RetR c P μ h w a h') (fun _ _ => False) := by
  obtain ⟨μ', w', v, g1, g2, g3, g4⟩ := Gv
  exact .value v w' (by rw [hs, g1, Result.andThen_ok]) ⟨μ', g2, g3, g4⟩
theorem undef_R (μ : Mu) : VR μ undef Go.undef := .tup _ _ .nil
theorem givesU_post {s : Sem Next} {S : Sem Unit} {h' : Heap} (hs : s.run P w = (S.run P w).andThen fun _ w => .ok .skip w) (Gv : GivesU c P μ h w S h') : OpRes P s w (RetR c P μ h w undef h') (fun _ _ => False) := by
  obtain ⟨μ', w', g1, g3, g4⟩ := Gv
  exact .skip w' (by rw [hs, g1, Result.andThen_ok]) ⟨μ', undef_R _, g3, g4⟩
theorem val_post {s : Sem Next} {o : Option AV} (H : ∀ r, o = some r → ORPost c P μ h w s (.val r h)) : ORPost c P μ h w s (E.val h o) := by
  cases o with
  | none => trivial
  | some r => exact H r rfl
theorem val2_post {s : Sem Next} {o : Option (AV × Heap)} (H : ∀ r h', o = some (r, h') → ORPost c P μ h w s (.val r h')) : ORPost c P μ h w s (E.val2 o) := by
  cases o with
  | none => trivial
  | some p => obtain ⟨r, h'⟩ := p; exact H r h' rfl
theorem valH_post {s : Sem Next} {o : Option Heap} (H : ∀ h', o = some h' → ORPost c P μ h w s (.val undef h')) : ORPost c P μ h w s (E.valH o) := by
  cases o with
  | none => trivial
  | some h' => exact H h' rfl

/-- an operation that only looks gives a value, or E does not know -/
theorem looks_val {o : Op} {tm : T AV} {env : Env} {l : List Rng} (hk : readsOf c o tm = .looks l) : (compOp c o).run env tm h = .bad ∨ ∃ v h', (compOp c o).run env tm h = .val v h' := by
  have V1 : ∀ (x : Option AV), E.val h x = .bad ∨ ∃ v h', E.val h x = .val v h' := fun x => by cases x <;> simp [E.val]
  have V2 : ∀ (x : Option (AV × Heap)), E.val2 x = .bad ∨ ∃ v h', E.val2 x = .val v h' := fun x => by rcases x with _ | ⟨v, k⟩ <;> simp [E.val2]
  cases o <;> first | (simp [readsOf] at hk; done) | skip
  case move => simp [compOp, oMove]
  case assign => simp [compOp, oMove]
  case pick => simp only [compOp, oPick]; split <;> simp
  case alloc => simp only [compOp, oAlloc]; split <;> simp [Heap.next_eq]
  case box => simp only [compOp, oBox]; split <;> simp [Heap.next_eq]
  case build => simp only [compOp, oBuild]; exact V1 _
  case buildSlice t n ps =>
    simp only [compOp, oBuildSlice]
    cases elemE c t with
    | none => simp
    | some p =>
      obtain ⟨e, s, b⟩ := p
      simp only []
      cases Nat.ble (n * s) 65536 with
      | false => simp
      | true => simp only [cond_true]; split <;> (try split) <;> simp [Heap.next_eq]
  case load => simp only [compOp, oLoad]; split; exact V1 _; simp
  case nilCheck => simp only [compOp, oNilCheck]; exact V1 _
  case binOp => simp only [compOp, oBin]; exact V1 _
  case unOp => simp only [compOp, oUn]; exact V1 _
  case convert => simp only [compOp, oConv]; exact V2 _
  case makeInterface => simp only [compOp, oIface]; split <;> simp
  case makeFunc => simp only [compOp, oFunc]; split <;> simp
  case makeMap =>
    simp only [compOp, oMap]
    split
    · split
      · simp [Heap.next_eq]
      · split <;> simp [Heap.next_eq]
    · simp
  case makeSlice => simp only [compOp, oMakeSlice]; exact V2 _
  case slice t x lo hi mx =>
    simp only [compOp, oSlice]
    cases (mx.isNone || hi.isSome) with
    | false => simp
    | true => simp only [Bool.not_true, cond_false]; exact V1 _
  case fieldAddr =>
    simp only [compOp, oFieldAddr]
    split
    · rename_i s _ _ _ _
      cases Nat.blt 0 s <;> simp
    · simp
  case field => simp only [compOp, oField]; split; exact V1 _; simp
  case indexAddr => simp only [compOp, oIndexAddr]; exact V1 _
  case index => simp only [compOp, oIndex]; exact V1 _
  case lookup => simp only [compOp, oLookup]; exact V1 _
  case range => simp only [compOp, oRange]; split <;> simp [Heap.next_eq]
  case typeAssert => simp only [compOp, oAssert]; exact V1 _
  case extract => simp only [compOp, oExtract]; split; exact V1 _; simp
  case call k =>
    obtain ⟨callee, args, ts⟩ := k
    simp only [readsOf] at hk
    cases callee <;> first | (simp [callReads] at hk; done) | skip
    rename_i b
    simp only [compOp, oCall, oBuiltin]
    generalize evL tm args.toList = A
    cases b <;> first | (simp [callReads] at hk; done) | skip
    case len =>
      rcases A with _ | ⟨x, _ | ⟨y, A⟩⟩
      · simp [builtinE]
      · simp only [builtinE]
        repeat' split
        all_goals simp
      · simp [builtinE]
    case min =>
      rcases A with _ | ⟨x, A⟩
      · simp [builtinE]
      · simp only [builtinE]; exact V1 _
    case max =>
      rcases A with _ | ⟨x, A⟩
      · simp [builtinE]
      · simp only [builtinE]; exact V1 _

section
variable {f : FuncId} {fn : Func} {a : Act} {tm : T AV} {env : Env}

theorem op_sound (K : CfgOK c P) (En : EnvR c P env) (M : Models c P All μ h w) (H : TmR P f μ tm a.tmps) (G : GlobR P μ) {o : Oper} (hok : ∀ x ∈ o.op.operands.toList, CheckCode.operand P fn x = .ok ()) :
    ORPost c P μ h w (execOp a.eval o) ((compOp c o.op).run env tm h) := by
  by_cases hl : ∃ l, readsOf c o.op tm = .looks l
  · obtain ⟨l, hk⟩ := hl
    rcases looks_val (h := h) (env := env) hk with hb | ⟨v, h', hb⟩
    · rw [hb]; trivial
    · rw [hb]
      obtain ⟨S, s1, s2⟩ := opR_sound K.T M H G hok hk (fun _ _ _ _ => trivial) hb
      exact gives_post (s1 w) (s2.gives M)
  · have e1 : ∀ {x : Operand}, x ∈ o.op.operands.toList → VR μ (ev tm x) (a.eval x) := fun hx => ev_R H G (hok _ hx)
    have updP : ∀ t m k x, x ∈ o.op.operands.toList → k ∈ o.op.operands.toList → m ∈ o.op.operands.toList → (execOp a.eval o).run P w = ((Instr.mapUpdate t (a.eval m) (a.eval k) (a.eval x)).run P w).andThen (fun _ w => .ok .skip w) →
        ORPost c P μ h w (execOp a.eval o) ((oUpdate c t m k x).run env tm h) := by
      intro t m k x h1 h2 h3 hs
      have hx := e1 h1
      have hk := e1 h2
      have hm := e1 h3
      simp only [oUpdate]
      generalize ev tm x = xv at hx
      generalize a.eval x = xv' at hx hs
      generalize ev tm k = kv at hk
      generalize a.eval k = kv' at hk hs
      generalize ev tm m = mv at hm
      generalize a.eval m = mv' at hm hs
      refine valH_post fun h' hq => ?_
      unfold updateE at hq
      cases q1 : E.mapKey c t with
      | none => rw [q1] at hq; cases hq
      | some kt =>
        rw [q1] at hq
        cases hm <;> first | (cases hq; done) | skip
        rename_i rr b base N hm
        simp only [] at hq
        cases q2 : h.get rr with
        | map kt' es =>
          rw [q2] at hq; simp only [] at hq
          cases q3 : (keyOk c kt kv && Nat.beq kt kt') with
          | false => rw [q3] at hq; cases hq
          | true =>
            rw [q3] at hq; simp only [cond_true] at hq
            rw [Bool.and_eq_true] at q3
            have hkt := Nat.eq_of_beq_eq_true q3.2; subst hkt
            cases q4 : Go.E.upd kv xv es with
            | none => rw [q4] at hq; cases hq
            | some es1 =>
              rw [q4] at hq; simp only [Option.some.injEq] at hq; subst hq
              exact givesU_post hs (mapUpdate_sound K.T M q1 hm q2 q3.1 hk hx (upd_spec q4))
        | _ => rw [q2] at hq; cases hq
    cases ho : o.op <;> first | (simp [compOp, oBad, ORPost]; done) | (exact absurd ⟨_, by rw [ho]; rfl⟩ hl) | skip
    case store t x y =>
      rw [ho] at e1
      have hx := e1 (x := x) (by simp [Op.operands])
      have hy := e1 (x := y) (by simp [Op.operands])
      have hs : (execOp a.eval o).run P w = ((Instr.storeAt t (a.eval x) (a.eval y)).run P w).andThen fun _ w => .ok .skip w := by simp only [execOp, ho, Sem.run_bind, Sem.run_pure]
      simp only [compOp, oStore]
      generalize ev tm x = xv at hx
      generalize a.eval x = xv' at hx hs
      cases hx <;> first | trivial | skip
      rename_i rr off b base N hm
      refine valH_post fun h' hq => ?_
      obtain ⟨w', r1, r2, r3⟩ := store_sound K.T M hq hy hm
      exact givesU_post hs ⟨μ, w', by simp [Instr.storeAt, Instr.sureAddr, r1], r2, r3⟩
    case mapUpdate t m k x =>
      exact updP t m k x (by rw [ho]; simp [Op.operands]) (by rw [ho]; simp [Op.operands]) (by rw [ho]; simp [Op.operands]) (by simp only [execOp, ho, Sem.run_bind, Sem.run_pure])
    case insert t m k x =>
      exact updP t m k x (by rw [ho]; simp [Op.operands]) (by rw [ho]; simp [Op.operands]) (by rw [ho]; simp [Op.operands]) (by simp only [execOp, ho, Sem.run_bind, Sem.run_pure])
    case next it s =>
      cases s with
      | false => simp [compOp, oBad, ORPost]
      | true =>
        rw [ho] at e1
        have hx := e1 (x := it) (by simp [Op.operands])
        have hs : (execOp a.eval o).run P w = ((Instr.next (a.eval it) true o.type).run P w).andThen fun v w => .ok (.value v) w := by simp only [execOp, ho, Sem.run_bind, Sem.run_pure]
        simp only [compOp, cond_true, oNext]
        generalize ev tm it = xv at hx
        generalize a.eval it = xv' at hx hs
        cases xv <;> first | trivial | skip
        rename_i rr off
        cases off with
        | succ => trivial
        | zero =>
          simp only []
          cases q : h.get rr <;> first | trivial | skip
          rename_i b pos
          simp only []
          obtain ⟨n1, n2⟩ := next_sound M o.type q hx
          cases q2 : nth pos b with
          | none => exact gives_post hs (n1 q2)
          | some x =>
            simp only []
            cases q3 : Nat.blt x.toNat 128 with
            | false => trivial
            | true => exact gives_post hs (n2 x q2 (Nat.le_of_ble_eq_true q3))
    case panic x =>
      rw [ho] at e1
      have hx := e1 (x := x) (by simp [Op.operands])
      have hs : (execOp a.eval o).run P w = ((Instr.panic (a.eval x)).run P w).andThen fun v w => .ok (.value v) w := by simp only [execOp, ho, Sem.run_bind, Sem.run_pure]
      simp only [compOp, oPanic]
      generalize ev tm x = xv at hx
      generalize a.eval x = xv' at hx hs
      cases hx <;> first | trivial | skip
      rename_i t av v hv
      refine .panic (.iface t v) w (by rw [hs]; simp [Instr.panic, goPanic, Result.andThen]) ⟨μ, .iface _ _ _ hv, M, Goes.refl _ _ _⟩
    case «defer» k =>
      obtain ⟨callee, args, ts⟩ := k
      cases callee <;> first | (simp [compOp, oDefer, ORPost]; done) | skip
      rename_i fv
      have hargs : VL μ (evL tm args.toList) (args.map a.eval).toList := by
        rw [Array.toList_map]; exact evL_R (fn := fn) H G fun x hx => hok x (by rw [ho]; simp only [Op.operands, Call.operands]; simp [hx])
      have hf := e1 (x := fv) (by rw [ho]; simp [Op.operands, Call.operands])
      have hs : (execOp a.eval o) = (do pure (.defer (← resolve a.eval ⟨.value fv, args, ts⟩ o.type))) := by simp only [execOp, ho]
      simp only [compOp, oDefer]
      generalize ev tm fv = xv at hf
      generalize hfr : a.eval fv = xv' at hf
      cases hf <;> first | trivial | skip
      rename_i fnv first cap first' cap' hy h1 h2
      cases fnv <;> first | trivial | skip
      rename_i g
      refine ⟨{ target := .fn (.func g) cap', args := first' ++ args.map a.eval }, by rw [hs]; simp [resolve, hfr, Deferred.ofValue], .func g, first', cap', (args.map a.eval).toList, .fn _ _ _ _ _ hy h1 h2, hargs, by rw [Array.toArray_toList]⟩
    case call k =>
      obtain ⟨callee, args, ts⟩ := k
      have hargs : VL μ (evL tm args.toList) (args.map a.eval).toList := by
        rw [Array.toList_map]; exact evL_R (fn := fn) H G fun x hx => hok x (by rw [ho]; simp only [Op.operands, Call.operands]; cases callee <;> simp [hx])
      have hcall : (execOp a.eval o) = (do let d ← resolve a.eval ⟨callee, args, ts⟩ o.type; invoke d.target d.args) := by simp only [execOp, ho]
      rw [hcall]
      cases callee with
      | value fv =>
        have hf := e1 (x := fv) (by rw [ho]; simp [Op.operands, Call.operands])
        simp only [compOp, oCall]
        have hr : (do let d ← resolve a.eval ⟨.value fv, args, ts⟩ o.type; invoke d.target d.args : Sem Next) = (do let d ← Deferred.ofValue (a.eval fv) (args.map a.eval); invoke d.target d.args) := rfl
        rw [hr]
        have gen : ORPost c P μ h w (do let d ← Deferred.ofValue (a.eval fv) (args.map a.eval); invoke d.target d.args) (orOf (callV c env (ev tm fv) (evL tm args.toList) h)) := orOf_post (callV_sound K En M G hf hargs)
        cases fv with
        | func g =>
          have : callV c env (ev tm (.func g)) (evL tm args.toList) h = callFn c env g (evL tm args.toList) h := by
            show callFn c env g ([] ++ (evL tm args.toList ++ [])) h = _
            rw [List.nil_append, List.append_nil]
          rw [this] at gen
          exact gen
        | tmp t => exact gen
        | const v => exact gen
        | global g => exact gen
      | invoke rv name =>
        have hf := e1 (x := rv) (by rw [ho]; simp [Op.operands, Call.operands])
        simp only [compOp, oCall, oInvoke]
        have hr : (do let d ← resolve a.eval ⟨.invoke rv name, args, ts⟩ o.type; invoke d.target d.args : Sem Next).run P w = (callMethod (a.eval rv) name (args.map a.eval)).run P w := by
          have g0 : (#[a.eval rv] ++ args.map a.eval)[0]? = some (a.eval rv) := by rw [← Array.getElem?_toList, Array.toList_append]; rfl
          have g1 : (#[a.eval rv] ++ args.map a.eval).extract 1 (#[a.eval rv] ++ args.map a.eval).size = args.map a.eval := by
            apply Array.ext'
            rw [Array.toList_extract, Array.toList_append, List.extract_eq_take_drop]
            have : (#[a.eval rv] ++ args.map a.eval).size = (args.map a.eval).toList.length + 1 := by rw [Array.size_append, Array.length_toList]; simp; omega
            rw [this]
            show (List.drop 1 (a.eval rv :: (args.map a.eval).toList)).take _ = _
            simp only [List.drop_succ_cons, List.drop_zero]
            exact List.take_of_length_le (by omega)
          simp only [resolve, Sem.run_bind, Sem.run_pure, Result.andThen_ok, invoke, g0, g1]
        generalize ev tm rv = xv at hf
        generalize hB : args.map a.eval = B at hargs hr
        generalize a.eval rv = xv' at hf hr
        cases hf <;> first | trivial | skip
        rename_i t av v hav
        simp only []
        cases e2 : methodE c t av name h with
        | none => trivial
        | some p =>
          obtain ⟨g, r⟩ := p
          obtain ⟨u, u1, u2⟩ := method_sound K.T M e2 hav (P.types.size + Made.depth - 1)
          have hp : 0 < Made.depth := by decide
          have hd : P.types.size + Made.depth - 1 + 1 = P.types.size + Made.depth := by omega
          rw [hd] at u1
          refine orOf_post (enter_post M G (callFn_sound K En (f := g)) (args := r :: evL tm args.toList) (args' := u :: B.toList) (.cons u2 hargs) ?_)
          rw [hr]
          simp only [callMethod, Sem.run_bind, run_program, Result.andThen_ok, u1]
          congr 2
          apply Array.ext'; simp
      | builtin b =>
        simp only [compOp, oCall, oBuiltin]
        obtain ⟨kc, hr⟩ : ∃ kc, (do let d ← resolve a.eval ⟨.builtin b, args, ts⟩ o.type; invoke d.target d.args : Sem Next).run P w = (builtin b ts o.type kc (args.map a.eval)).run P w := by
          refine ⟨args.map fun | .const _ => true | _ => false, ?_⟩
          simp only [resolve, Sem.run_bind, Sem.run_pure, Result.andThen_ok, invoke]
          rfl
        generalize evL tm args.toList = A at hargs
        generalize hB : args.map a.eval = B at hargs hr
        have two : ∀ {x y : AV}, A = [x, y] → ∃ v u, B = #[v, u] ∧ VR μ x v ∧ VR μ y u := by
          intro x y hA
          subst hA
          obtain ⟨L⟩ := B
          simp only at hargs
          cases hargs with
          | cons q1 q2 => cases q2 with
            | cons q2 q3 => cases q3; exact ⟨_, _, rfl, q1, q2⟩
        have one : ∀ {x : AV}, A = [x] → ∃ v, B = #[v] ∧ VR μ x v := by
          intro x hA
          subst hA
          obtain ⟨L⟩ := B
          simp only at hargs
          cases hargs with
          | cons q1 q2 => cases q2; exact ⟨_, rfl, q1⟩
        cases b <;> first | trivial | skip
        case append =>
          rcases A with _ | ⟨x, _ | ⟨y, _ | ⟨z, A⟩⟩⟩ <;> first | trivial | skip
          obtain ⟨v, u, rfl, hv, hu⟩ := two rfl
          exact val2_post fun r h' hq => gives_post (S := Builtin.append_ ts o.type #[v, u]) (by rw [hr]; simp only [builtin, Sem.run_bind, Sem.run_pure]) (append_sound K.T M hq hv hu)
        case copy =>
          rcases A with _ | ⟨x, _ | ⟨y, _ | ⟨z, A⟩⟩⟩ <;> first | trivial | skip
          obtain ⟨v, u, rfl, hv, hu⟩ := two rfl
          exact val2_post fun r h' hq => gives_post (S := Builtin.copy_ ts o.type #[v, u]) (by rw [hr]; simp only [builtin, Sem.run_bind, Sem.run_pure]) (copy_sound K.T M hq hv hu)
        case delete =>
          rcases A with _ | ⟨x, _ | ⟨y, _ | ⟨z, A⟩⟩⟩ <;> first | trivial | skip
          obtain ⟨v, u, rfl, hv, hu⟩ := two rfl
          exact valH_post fun h' hq => gives_post (S := Builtin.delete_ ts o.type #[v, u]) (by rw [hr]; simp only [builtin, Sem.run_bind, Sem.run_pure]) (delete_sound K.T M hq hv hu)
        case clear =>
          rcases A with _ | ⟨x, _ | ⟨y, A⟩⟩ <;> first | trivial | skip
          obtain ⟨v, rfl, hv⟩ := one rfl
          exact valH_post fun h' hq => gives_post (S := Builtin.clear_ ts o.type #[v]) (by rw [hr]; simp only [builtin, Sem.run_bind, Sem.run_pure]) (clear_sound K.T M hq hv)
        case recover => rcases A with _ | ⟨x, A⟩ <;> trivial
        case len => exact absurd (by rw [ho]; simp only [readsOf, callReads]; split <;> exact ⟨_, rfl⟩) hl
        case min => exact absurd ⟨_, by rw [ho]; rfl⟩ hl
        case max => exact absurd ⟨_, by rw [ho]; rfl⟩ hl
        case cap =>
          rcases A with _ | ⟨x, _ | ⟨y, A⟩⟩ <;> first | trivial | skip
          obtain ⟨v, rfl, hv⟩ := one rfl
          simp only [builtinE]
          cases q0 : ts[0]? with
          | none => simp [ORPost]
          | some t =>
            simp only []
            cases q1 : und c t with
            | none => simp [ORPost]
            | some d =>
              have hu := K.T.und q1
              cases d <;> first | trivial | skip
              rename_i el
              have run : ∀ bs l k, v = .slice bs l k → (builtin .cap ts o.type kc #[v]).run P w = .ok (.value (goInt k)) w := by
                intro bs l k hvv; subst hvv
                simp [builtin, Builtin.cap_, q0, run_underlying' w hu]
              cases hv <;> first | trivial | skip
              all_goals exact .value _ w (by rw [hr]; exact run _ _ _ rfl) ⟨μ, .int _ _, M, Goes.refl _ _ _⟩
end
end Go.E
/-! E, soundness, part 23: regions that do not draw. -/
namespace Go.E
variable {c : Cfg} {P : Program} {V : View} {μ : Mu} {h : Heap} {w : World}

inductive DfR (μ : Mu) : List ADef → List Deferred → Prop
  | nil : DfR μ [] []
  | cons {d : ADef} {d' : Deferred} {l : List ADef} {l' : List Deferred} (h : DefR1 μ d d') (t : DfR μ l l') : DfR μ (d :: l) (d' :: l')
theorem DefR1.mono {μ μ' : Mu} (hm : μ.le μ') {d : ADef} {d' : Deferred} (H : DefR1 μ d d') : DefR1 μ' d d' := by
  unfold DefR1 at *
  split at H
  · obtain ⟨fn, a, b, l, h1, h2, h3⟩ := H; exact ⟨fn, a, b, l, h1.mono hm, h2.mono hm, h3⟩
  · obtain ⟨b, base, N, h1, h2⟩ := H; exact ⟨b, base, N, hm _ _ h1, h2⟩
theorem DfR.mono {μ μ' : Mu} (hm : μ.le μ') {l : List ADef} {l' : List Deferred} (H : DfR μ l l') : DfR μ' l l' := by
  induction H with
  | nil => exact .nil
  | cons h _ ih => exact .cons (h.mono hm) ih

/-- what is said of an activation -/
structure StR (c : Cfg) (P : Program) (f : FuncId) (μ : Mu) (s : St) (a : Act) (w : World) : Prop where
  M : Models c P All μ s.hp w
  G : GlobR P μ
  tm : TmR P f μ s.tm a.tmps
  df : DfR μ s.df a.defers
/-- what can be recovered -/
def PnR (μ : Mu) (b : Frame) (cs : List Frame) : Option (AV × Bool) → Prop
  | none => b.kind = .normal ∨ (b.kind = .deferred ∧ ∃ d rest, cs = d :: rest ∧ d.mode = .returning)
  | some (v, r) => b.kind = .deferred ∧ ∃ d rest v', cs = d :: rest ∧ d.mode = .panicking [{ v := v', recovered := r }] ∧ VR μ v v'
theorem PnR.rec_none {μ : Mu} {b fr : Frame} {cs : List Frame} (H : PnR μ b cs none) (hk : fr.kind = b.kind) : tryRecover fr cs = none := by
  rcases H with h | ⟨h, d, rest, h1, h2⟩
  · rw [h] at hk; simp [tryRecover, hk]
  · rw [h] at hk; subst h1; simp [tryRecover, hk, h2]
/-- the callers: what was recovered is told -/
def CsR (b : Frame) (cs cs' : List Frame) : Prop := cs' = cs ∨ (b.kind = .deferred ∧ ∃ d rest v, cs = d :: rest ∧ d.mode = .panicking [{ v, recovered := false }] ∧ cs' = { d with mode := .panicking [{ v, recovered := true }] } :: rest)
theorem CsR.refl {b : Frame} (cs : List Frame) : CsR b cs cs := .inl rfl
theorem CsR.trans {b : Frame} {x y z : List Frame} (h : CsR b x y) (k : CsR b y z) : CsR b x z := by
  rcases h with h | ⟨hb, d, r, v, h1, h2, h3⟩
  · rw [← h]; exact k
  · rcases k with k | ⟨_, d', r', v', k1, k2, k3⟩
    · exact .inr ⟨hb, d, r, v, h1, h2, k.trans h3⟩
    · rw [h3] at k1
      simp only [List.cons.injEq] at k1
      obtain ⟨rfl, rfl⟩ := k1
      simp at k2
theorem PnR.mono {μ μ' : Mu} (hm : μ.le μ') {b : Frame} {cs : List Frame} {p : Option (AV × Bool)} (H : PnR μ b cs p) : PnR μ' b cs p := by
  cases p with
  | none => exact H
  | some p => obtain ⟨v, r⟩ := p; obtain ⟨h1, d, rest, v', h2, h3, h4⟩ := H; exact ⟨h1, d, rest, v', h2, h3, h4.mono hm⟩

/-- where code comes to -/
def ArrE (P : Program) (m : Machine) (b : Frame) (k : List Item) (cs : List Frame) (μ : Mu) : Ex → Act → World → Prop
  | .normal, a, w => Steps P m (lone (b.atR a k) cs w)
  | .exit id, a, w => (∀ k', exitTo id k = some k' → Steps P m (lone (b.atR a k') cs w)) ∧
      (b.roundOf.isSome = true → exitTo id k = none → ∃ k₁, exitTo id k₁ = none ∧ Steps P m (lone (b.atR a (.code (.exit id) :: k₁)) cs w))
  | .ret, a, w => (b.roundOf = none → ∃ todo, Steps P m (lone { b.atR a todo with mode := .returning } cs w)) ∧
      (b.roundOf.isSome = true → ∃ k₁, Steps P m (lone (b.atR a (.code .ret :: k₁)) cs w))
  | .panic v, a, w => ∃ v' todo, VR μ v v' ∧ Steps P m (lone { b.atR a todo with mode := .panicking [{ v := v', recovered := false }] } cs w)
theorem ArrE.of_steps {m m₁ : Machine} {b : Frame} {k : List Item} {cs : List Frame} {e : Ex} {a : Act} (h : Steps P m m₁) (h' : ArrE P m₁ b k cs μ e a w) : ArrE P m b k cs μ e a w := by
  cases e with
  | normal => exact h.trans h'
  | exit id => exact ⟨fun k' hk => h.trans (h'.1 k' hk), fun hr hk => let ⟨k₁, h1, h2⟩ := h'.2 hr hk; ⟨k₁, h1, h.trans h2⟩⟩
  | ret => exact ⟨fun hr => let ⟨todo, hs⟩ := h'.1 hr; ⟨todo, h.trans hs⟩, fun hr => let ⟨k₁, hs⟩ := h'.2 hr; ⟨k₁, h.trans hs⟩⟩
  | panic v => obtain ⟨v', todo, hv, hs⟩ := h'; exact ⟨v', todo, hv, h.trans hs⟩
/-- what code leaves -/
def CodeR (c : Cfg) (P : Program) (m : Machine) (b : Frame) (k : List Item) (cs0 : List Frame) (μ0 : Mu) (h0 : Heap) (w0 : World) (ex : Ex) (s' : St) : Prop :=
  ∃ μ a w cs, StR c P b.fn μ s' a w ∧ Goes μ0 h0 w0 μ s'.hp w ∧ CsR b cs0 cs ∧ PnR μ b cs s'.pn ∧ ArrE P m b k cs μ ex a w
theorem CodeR.of_steps {m m₁ : Machine} {b : Frame} {k : List Item} {cs : List Frame} {ex : Ex} {s' : St} (hst : Steps P m m₁) (H : CodeR c P m₁ b k cs μ h w ex s') : CodeR c P m b k cs μ h w ex s' := by
  obtain ⟨μ', a, w', cs', h1, h2, h3, h4, h5⟩ := H
  exact ⟨μ', a, w', cs', h1, h2, h3, h4, h5.of_steps hst⟩
theorem CodeR.after {m : Machine} {b : Frame} {k : List Item} {cs cs' : List Frame} {ex : Ex} {s' : St} {μ' : Mu} {h' : Heap} {w' : World} (M : Models c P All μ h w) (Gs : Goes μ h w μ' h' w') (hc : CsR b cs cs')
    (H : CodeR c P m b k cs' μ' h' w' ex s') : CodeR c P m b k cs μ h w ex s' := by
  obtain ⟨μ2, a, w2, cs2, h1, h2, h3, h4, h5⟩ := H
  exact ⟨μ2, a, w2, cs2, h1, Gs.trans M h2, hc.trans h3, h4, h5⟩

theorem wants_eq {f : FuncId} {tm : T AV} {tmps : Array Value} (H : TmR P f μ tm tmps) (ops : Array Oper) (o : Oper) : wants ops o tm = Region.wanted o (yielded ops tmps) := by
  unfold wants Region.wanted
  cases hg : o.guard with
  | none => rfl
  | some p =>
    obtain ⟨j, want⟩ := p
    simp only []
    unfold yielded
    cases ho : ops[j]? with
    | none => simp
    | some p =>
      simp only [Option.bind_some]
      cases hd : p.dst with
      | none => simp
      | some d =>
        simp only [Option.bind_some]
        have hv := H.2 d
        have hget : tmps.getD d Go.undef = (tmps[d]?).getD Go.undef := by simp [Array.getD_eq_getD_getElem?]
        rw [hget] at hv
        generalize T.get undef tm d = A at hv
        cases hq : tmps[d]? with
        | none => rw [hq] at hv; simp only [Option.getD_none] at hv; cases hv <;> first | rfl | simp [plainV, Go.undef]
        | some v =>
          rw [hq] at hv; simp only [Option.getD_some] at hv
          cases hv with
          | bool b => cases b <;> cases want <;> rfl
          | raw _ hp => cases v <;> first | rfl | (simp [plainV] at hp)
          | _ => rfl

/-- an operation, on the machine -/
theorem op_steps {b : Frame} {a : Act} {k : List Item} {cs : List Frame} {ops : Array Oper} {i : Nat} {rest : List Nat} {o : Oper} {R Q : Value → World → Prop} (ho : ops[i]? = some o) (hw : Region.wanted o (yielded ops a.tmps) = true)
    (hd : b.roundOf = none ∨ ∀ k, o.op ≠ .defer k) (H : OpRes P (execOp a.eval o) w R Q) :
    (∃ v w', R v w' ∧ Steps P (lone (b.atR a (.inRegion ops (i :: rest) :: k)) cs w) (lone (b.atR (a.put o.dst v) (.inRegion ops rest :: k)) cs w')) ∨
    (∃ v w', Q v w' ∧ Steps P (lone (b.atR a (.inRegion ops (i :: rest) :: k)) cs w) (lone { b.atR a (.inRegion ops (i :: rest) :: k) with mode := .panicking [{ v, recovered := false }] } cs w')) := by
  have hsem : o.semAt b.roundOf a.eval = execOp a.eval o := by
    rcases hd with hd | hd
    · rw [hd]; rfl
    · exact Oper.semAt_eq _ _ _ hd
  have hg := stepGR_op (P := P) (b := b) (k := k) (cs := cs) (w := w) (rest := rest) ho hw
  rw [hsem] at hg
  have hfin : ∀ v, (b.atR a (.inRegion ops (i :: rest) :: k)).finish v = b.atR (a.put o.dst v) (.inRegion ops rest :: k) := by
    intro v; rw [Frame.finish_atR, ho]; rfl
  cases H with
  | value v w' hr hR =>
    refine .inl ⟨v, w', hR, .one (step_lone_go ?_)⟩
    rw [hg, ← hfin]; simp [stepG.apply, hr]
  | skip w' hr hR =>
    refine .inl ⟨Go.undef, w', hR, .one (step_lone_go ?_)⟩
    rw [hg, ← hfin]; simp [stepG.apply, hr]
  | panic v w' hr hQ =>
    refine .inr ⟨v, w', hQ, .one (step_lone_go ?_)⟩
    rw [hg, ← Frame.raise_atR]; simp [stepG.apply, hr]
  | enter f args w1 hr hc =>
    have henter : step P (lone (b.atR a (.inRegion ops (i :: rest) :: k)) cs w) = .next (lone (Frame.enter P f args .normal) (b.atR a (.inRegion ops (i :: rest) :: k) :: cs) w1) :=
      step_lone_go (by rw [hg]; simp [stepG.apply, hr, Frame.atR])
    obtain ⟨e, w'', fr, hR, hsteps, _, hleave⟩ := hc (b.atR a (.inRegion ops (i :: rest) :: k) :: cs)
    cases e with
    | returned v => exact .inl ⟨v, w'', hR, .head henter (Steps.trans hsteps (.one (by rw [← hfin]; exact step_leave_returned hleave)))⟩
    | panicked ch =>
      obtain ⟨v, rfl, hQ⟩ := hR
      exact .inr ⟨v, w'', hQ, .head henter (Steps.trans hsteps (.one (by rw [← Frame.raise_atR]; exact step_leave_panicked hleave)))⟩
    | outgrown => exact hR.elim
  | round l f tmps as bd w1 hr hc =>
    have henter : step P (lone (b.atR a (.inRegion ops (i :: rest) :: k)) cs w) = .next (lone (Frame.round l f tmps as bd .normal) (b.atR a (.inRegion ops (i :: rest) :: k) :: cs) w1) :=
      step_lone_go (by rw [hg]; simp [stepG.apply, hr, Frame.atR])
    obtain ⟨e, w'', hR, hne, hsteps⟩ := hc (b.atR a (.inRegion ops (i :: rest) :: k)) cs
    cases e with
    | returned v => exact .inl ⟨v, w'', hR, .head henter (by rw [← hfin]; exact hsteps)⟩
    | panicked ch =>
      obtain ⟨v, rfl, hQ⟩ := hR
      exact .inr ⟨v, w'', hQ, .head henter (by rw [← Frame.raise_atR]; exact hsteps)⟩
    | outgrown => exact absurd rfl hne
end Go.E
/-! E, soundness, part 24: regions that do not draw. -/
namespace Go.E
variable {c : Cfg} {P : Program} {V : View} {μ : Mu} {h : Heap} {w : World}

/-- what an activation stands on -/
structure CtxR (c : Cfg) (P : Program) (env : Env) (b : Frame) (fn : Func) : Prop where
  K : CfgOK c P
  En : EnvR c P env
  fn : P.funcs[b.fn]? = some fn
  rnd : env.rnd = none → b.roundOf = none
  fid : env.fid = b.fn

/-- what is left of a region -/
theorem region_cons {ops : Array Oper} {i : Nat} {o : Oper} {rest : List Oper} (h : ops.toList.drop i = o :: rest) : ops[i]? = some o ∧ ops.toList.drop (i + 1) = rest ∧ i < ops.size := by
  have h1 : ops.toList[i]? = some o := by
    have := List.getElem?_drop (xs := ops.toList) (i := i) (j := 0)
    rw [h] at this; simpa using this.symm
  refine ⟨by simpa using h1, ?_, ?_⟩
  · rw [← List.drop_drop, h]; rfl
  · have := (List.getElem?_eq_some_iff.1 h1).1; simpa using this

theorem StR.put {f : FuncId} {fn : Func} {tm : T AV} {hp : Heap} {df : List ADef} {pn pn' : Option (AV × Bool)} {a : Act} {μ' : Mu} {h' : Heap} {w' : World} (S : StR c P f μ ⟨tm, hp, df, pn⟩ a w) (hf : P.funcs[f]? = some fn) {d : Option Tmp} (hd : ∀ t, d = some t → t < fn.ntmps)
    {x : AV} {v : Value} (hv : VR μ' x v) (M : Models c P All μ' h' w') (hle : μ.le μ') : StR c P f μ' ⟨(setOf d).run tm x, h', df, pn'⟩ (a.put d v) w' :=
  ⟨M, S.G.mono hle, (S.tm.mono hle).put hf hd hv, by rw [put_defers]; exact S.df.mono hle⟩

theorem goGen_val (d : Setter AV) (k : SC) (env : Env) (tm : T AV) (hp : Heap) (df : List ADef) (pn : Option (AV × Bool)) (x : Option AV) : goGen d k env tm hp df pn (E.val hp x) = goOn d k env tm hp df pn x := by
  cases x <;> rfl
theorem stepK_eq (o : Op) (d : Setter AV) (k : SC) (env : Env) (tm : T AV) (hp : Heap) (df : List ADef) (pn : Option (AV × Bool)) :
    (stepK (compK c o) d k).run env ⟨tm, hp, df, pn⟩ = goGen d k env tm hp df pn ((compOp c o).run env tm hp) := by
  cases o <;> first | rfl | skip
  case binOp => simp only [compK, stepK, stepRd, kBin, compOp, oBin, goGen_val]
  case load t a =>
    simp only [compK, stepK, stepRd, kLoad, compOp, oLoad]
    cases ev tm a <;> first | rfl | (simp only [goGen_val])
  case nilCheck => simp only [compK, stepK, stepRd, kNil, compOp, oNilCheck, goGen_val]
  case indexAddr => simp only [compK, stepK, stepRd, kIndexAddr, compOp, oIndexAddr, goGen_val]
  case extract t i =>
    simp only [compK, stepK, stepRd, kExtract, compOp, oExtract]
    cases ev tm t <;> first | rfl | (simp only [goGen_val])
  case pick k a b =>
    simp only [compK, stepK, stepRd, kPick, compOp, oPick]
    cases ev tm k <;> first | rfl | skip
    rename_i b; cases b <;> rfl
  case fieldAddr t x f =>
    simp only [compK, stepK, stepRd, kFieldAddr, compOp, oFieldAddr]
    cases fieldE c t f with
    | none => rfl
    | some p =>
      obtain ⟨o, a, s⟩ := p
      simp only []
      cases hs : Nat.blt 0 s with
      | true => simp only [cond_true]; cases ev tm x <;> first | rfl | (simp only [hs, cond_true]; rfl)
      | false => simp only [cond_false]; cases ev tm x <;> first | rfl | (simp only [hs, cond_false]; rfl)

theorem val_not_defer {o : Op} {env : Env} {tm : T AV} {hp h' : Heap} {x : AV} (h : (compOp c o).run env tm hp = .val x h' ∨ (compOp c o).run env tm hp = .pan x h') : ∀ k, o ≠ .defer k := by
  intro k hk
  subst hk
  simp only [compOp, oDefer] at h
  split at h
  · split at h <;> simp at h
  · simp at h

theorem compOps_sound {env : Env} {b : Frame} {fn : Func} {ops : Array Oper} (X : CtxR c P env b fn) (hop : ∀ (j : Nat) (o : Oper), ops[j]? = some o → OkOper P fn o) :
    ∀ (l : List Oper) (i : Nat), ops.toList.drop i = l → ∀ (s s' : St) (ex : Ex) (a : Act) (w : World) (μ : Mu) (k : List Item) (cs : List Frame), (compOps c ops l).run env s = some (ex, s') → StR c P b.fn μ s a w → PnR μ b cs s.pn →
      CodeR c P (lone (b.atR a (.inRegion ops (List.range' i (ops.size - i)) :: k)) cs w) b k cs μ s.hp w ex s' := by
  intro l
  induction l with
  | nil =>
    intro i hl s s' ex a w μ k cs hr S hp
    simp only [compOps, Option.some.injEq, Prod.mk.injEq] at hr
    obtain ⟨rfl, rfl⟩ := hr
    have : ops.size - i = 0 := by have := congrArg List.length hl; simp at this; omega
    rw [this]
    exact ⟨μ, a, w, cs, S, Goes.refl _ _ _, CsR.refl _, hp, .one stepR_region_end⟩
  | cons o rest ih =>
    intro i hl s s' ex a w μ k cs hr S hp
    obtain ⟨h1, h2, h3⟩ := region_cons hl
    have hrange : List.range' i (ops.size - i) = i :: List.range' (i + 1) (ops.size - (i + 1)) := by
      rw [show ops.size - i = (ops.size - (i + 1)) + 1 from by omega, List.range'_succ]
    rw [hrange]
    obtain ⟨tm, hp0, df, pn⟩ := s
    have hok := hop i o h1
    have hwant := wants_eq S.tm ops o
    -- when the operation runs
    have main : Region.wanted o (yielded ops a.tmps) = true → goGen (setOf o.dst) (compOps c ops rest) env tm hp0 df pn ((compOp c o.op).run env tm hp0) = some (ex, s') →
        CodeR c P (lone (b.atR a (.inRegion ops (i :: List.range' (i + 1) (ops.size - (i + 1))) :: k)) cs w) b k cs μ hp0 w ex s' := by
      intro hw hg
      have OP := op_sound (o := o) X.K X.En S.M S.tm S.G hok.opnd
      cases hres : (compOp c o.op).run env tm hp0 with
      | val x h' =>
        rw [hres] at hg OP
        rcases op_steps (b := b) (k := k) (cs := cs) (rest := List.range' (i + 1) (ops.size - (i + 1))) h1 hw (.inr (val_not_defer (.inl hres))) OP with ⟨v, w', ⟨μ', r1, r2, r3⟩, st⟩ | ⟨v, w', hF, _⟩
        · have S' := S.put (pn' := pn) X.fn hok.dst r1 r2 r3.le
          have := ih (i + 1) h2 _ s' ex _ w' μ' k cs hg S' (hp.mono r3.le)
          exact (this.after S.M r3 (CsR.refl _)).of_steps st
        · exact hF.elim
      | pan x h' =>
        rw [hres] at hg OP
        simp only [goGen, Option.some.injEq, Prod.mk.injEq] at hg
        obtain ⟨rfl, rfl⟩ := hg
        rcases op_steps (b := b) (k := k) (cs := cs) (rest := List.range' (i + 1) (ops.size - (i + 1))) h1 hw (.inr (val_not_defer (.inr hres))) OP with ⟨v, w', hF, _⟩ | ⟨v, w', ⟨μ', r1, r2, r3⟩, st⟩
        · exact hF.elim
        · exact ⟨μ', a, w', cs, ⟨r2, S.G.mono r3.le, S.tm.mono r3.le, S.df.mono r3.le⟩, r3, CsR.refl _, hp.mono r3.le, v, _, r1, st⟩
      | dfr d =>
        rw [hres] at hg OP
        simp only [goGen] at hg
        cases hro : env.rnd with
        | some l => rw [hro] at hg; cases hg
        | none =>
          rw [hro] at hg; simp only [] at hg
          have hb := X.rnd hro
          obtain ⟨d', d1, d2⟩ := OP
          have hgs := stepGR_op (P := P) (b := b) (k := k) (cs := cs) (w := w) (rest := List.range' (i + 1) (ops.size - (i + 1))) h1 hw
          rw [hb, Oper.semAt_none] at hgs
          have hfin : ({ b.atR a (.inRegion ops (i :: List.range' (i + 1) (ops.size - (i + 1))) :: k) with defers := d' :: a.defers } : Frame).finish Go.undef =
              b.atR ({ a with defers := d' :: a.defers }.put o.dst Go.undef) (.inRegion ops (List.range' (i + 1) (ops.size - (i + 1))) :: k) := by
            have := Frame.finish_atR b { a with defers := d' :: a.defers } ops i (List.range' (i + 1) (ops.size - (i + 1))) k Go.undef
            rw [h1] at this; exact this
          have st : step P (lone (b.atR a (.inRegion ops (i :: List.range' (i + 1) (ops.size - (i + 1))) :: k)) cs w) =
              .next (lone (b.atR ({ a with defers := d' :: a.defers }.put o.dst Go.undef) (.inRegion ops (List.range' (i + 1) (ops.size - (i + 1))) :: k)) cs w) := by
            refine step_lone_go ?_
            rw [hgs, ← hfin]; simp [stepG.apply, d1, Frame.atR]
          have S1 : StR c P b.fn μ ⟨tm, hp0, d :: df, pn⟩ { a with defers := d' :: a.defers } w := ⟨S.M, S.G, S.tm, .cons d2 S.df⟩
          have S' := S1.put (pn' := pn) X.fn hok.dst (undef_R μ) S.M (Mu.le_refl _)
          exact (ih (i + 1) h2 _ s' ex _ w μ k cs hg S' hp).of_steps (.one st)
      | recov =>
        rw [hres] at hg OP
        simp only [goGen, recovE] at hg
        cases hro : env.rnd with
        | some l => rw [hro] at hg; cases hg
        | none =>
          rw [hro] at hg; simp only [] at hg
          have hb := X.rnd hro
          have hgs := stepGR_op (P := P) (b := b) (k := k) (cs := cs) (w := w) (rest := List.range' (i + 1) (ops.size - (i + 1))) h1 hw
          rw [hb, Oper.semAt_none] at hgs
          have hfin : ∀ v, (b.atR a (.inRegion ops (i :: List.range' (i + 1) (ops.size - (i + 1))) :: k)).finish v = b.atR (a.put o.dst v) (.inRegion ops (List.range' (i + 1) (ops.size - (i + 1))) :: k) := by
            intro v; rw [Frame.finish_atR, h1]; rfl
          have OP' : (execOp a.eval o).run P w = .ok .recover w := OP
          have none_case : tryRecover (b.atR a (.inRegion ops (i :: List.range' (i + 1) (ops.size - (i + 1))) :: k)) cs = none → (compOps c ops rest).run env ⟨(setOf o.dst).run tm .nili, hp0, df, pn⟩ = some (ex, s') →
              CodeR c P (lone (b.atR a (.inRegion ops (i :: List.range' (i + 1) (ops.size - (i + 1))) :: k)) cs w) b k cs μ hp0 w ex s' := by
            intro htr hg
            have st : step P (lone (b.atR a (.inRegion ops (i :: List.range' (i + 1) (ops.size - (i + 1))) :: k)) cs w) =
                .next (lone (b.atR (a.put o.dst .nilIface) (.inRegion ops (List.range' (i + 1) (ops.size - (i + 1))) :: k)) cs w) := by
              refine step_lone_go ?_
              rw [hgs, ← hfin]
              simp only [Frame.atR, hb] at htr ⊢
              simp [stepG.apply, OP', htr]
            have S' := S.put (pn' := pn) X.fn hok.dst (VR.nili (μ := μ)) S.M (Mu.le_refl _)
            exact (ih (i + 1) h2 _ s' ex _ w μ k cs hg S' hp).of_steps (.one st)
          cases pn with
          | none => exact none_case (PnR.rec_none hp rfl) hg
          | some p =>
            obtain ⟨v, r⟩ := p
            obtain ⟨hk, d, rst, v', hcs, hm, hv⟩ := hp
            cases r with
            | true =>
              refine none_case ?_ hg
              subst hcs
              have : (b.atR a (.inRegion ops (i :: List.range' (i + 1) (ops.size - (i + 1))) :: k)).kind = .deferred := hk
              simp [tryRecover, this, hm]
            | false =>
              simp only [] at hg
              subst hcs
              have htr : tryRecover (b.atR a (.inRegion ops (i :: List.range' (i + 1) (ops.size - (i + 1))) :: k)) (d :: rst) = some (v', { d with mode := .panicking [{ v := v', recovered := true }] } :: rst) := by
                have : (b.atR a (.inRegion ops (i :: List.range' (i + 1) (ops.size - (i + 1))) :: k)).kind = .deferred := hk
                simp [tryRecover, this, hm]
              have st : step P (lone (b.atR a (.inRegion ops (i :: List.range' (i + 1) (ops.size - (i + 1))) :: k)) (d :: rst) w) =
                  .next (lone (b.atR (a.put o.dst v') (.inRegion ops (List.range' (i + 1) (ops.size - (i + 1))) :: k)) ({ d with mode := .panicking [{ v := v', recovered := true }] } :: rst) w) := by
                refine step_lone_go ?_
                rw [hgs, ← hfin]
                simp only [Frame.atR, hb] at htr ⊢
                simp [stepG.apply, OP', htr]
              have S' := S.put (pn' := some (v, true)) X.fn hok.dst hv S.M (Mu.le_refl _)
              have := ih (i + 1) h2 _ s' ex _ w μ k ({ d with mode := .panicking [{ v := v', recovered := true }] } :: rst) hg S' ⟨hk, _, rst, v', rfl, rfl, hv⟩
              exact (this.after S.M (Goes.refl _ _ _) (.inr ⟨hk, d, rst, v', rfl, hm, rfl⟩)).of_steps (.one st)
      | bad => rw [hres] at hg; cases hg
    have skip : Region.wanted o (yielded ops a.tmps) = false → (compOps c ops rest).run env ⟨(setOf o.dst).run tm undef, hp0, df, pn⟩ = some (ex, s') →
        CodeR c P (lone (b.atR a (.inRegion ops (i :: List.range' (i + 1) (ops.size - (i + 1))) :: k)) cs w) b k cs μ hp0 w ex s' := by
      intro hw hg
      have hs := stepR_op_skip (P := P) (b := b) (a := a) (k := k) (cs := cs) (w := w) (ops := ops) (i := i) (rest := List.range' (i + 1) (ops.size - (i + 1))) (by simp [h1, hw])
      simp only [h1, Option.bind_some] at hs
      have S' := S.put (pn' := pn) X.fn hok.dst (undef_R μ) S.M (Mu.le_refl _)
      exact (ih (i + 1) h2 _ s' ex _ w μ k cs hg S' hp).of_steps (.one hs)
    simp only [compOps, stepO] at hr
    cases hgd : o.guard with
    | none =>
      rw [hgd] at hr; simp only [] at hr
      rw [stepK_eq] at hr
      exact main (by simp [Region.wanted, hgd]) hr
    | some g =>
      rw [hgd] at hr; simp only [guarded] at hr
      cases hw : wants ops o tm with
      | true =>
        rw [hw] at hr; simp only [] at hr
        rw [stepK_eq] at hr
        exact main (by rw [← hwant]; exact hw) hr
      | false =>
        rw [hw] at hr; simp only [] at hr
        exact skip (by rw [← hwant]; exact hw) hr
end Go.E
/-! E, soundness, part 25: the orders of a region. -/
namespace Go.E

def maskOf (acc : Array Nat) (o : Oper) : Nat := o.after.foldl (fun s e => if Region.binds .any e then s ||| 2 ^ e.on ||| acc.getD e.on 0 else s) 0
theorem before_eq (ops : Array Oper) : Region.before ops = ops.foldl (init := #[]) fun acc o => acc.push (maskOf acc o) := rfl
theorem mask_bit (acc : Array Nat) (i : Nat) : ∀ (l : List Edge) (s : Nat), (l.foldl (fun s e => if Region.binds .any e then s ||| 2 ^ e.on ||| acc.getD e.on 0 else s) s).testBit i = true →
    s.testBit i = true ∨ ∃ e ∈ l, Region.binds .any e = true ∧ (e.on = i ∨ (acc.getD e.on 0).testBit i = true) := by
  intro l
  induction l with
  | nil => intro s h; exact .inl h
  | cons e l ih =>
    intro s h
    simp only [List.foldl_cons] at h
    rcases ih _ h with h1 | ⟨e', h1, h2, h3⟩
    · by_cases hb : Region.binds .any e = true
      · rw [if_pos hb] at h1
        simp only [Nat.testBit_or, Bool.or_eq_true, Nat.testBit_two_pow, decide_eq_true_eq] at h1
        rcases h1 with (h1 | h1) | h1
        · exact .inl h1
        · exact .inr ⟨e, by simp, hb, .inl h1⟩
        · exact .inr ⟨e, by simp, hb, .inr h1⟩
      · rw [if_neg hb] at h1; exact .inl h1
    · exact .inr ⟨e', by simp [h1], h2, h3⟩
theorem maskOf_bit {acc : Array Nat} {o : Oper} {i : Nat} (h : (maskOf acc o).testBit i = true) : ∃ e ∈ o.after.toList, Region.binds .any e = true ∧ (e.on = i ∨ (acc.getD e.on 0).testBit i = true) := by
  unfold maskOf at h
  rw [← Array.foldl_toList] at h
  rcases mask_bit acc i _ 0 h with h1 | h1
  · simp at h1
  · exact h1
/-- the masks, one after the other -/
theorem before_go : ∀ (l : List Oper) (acc : Array Nat), ∃ r : List Nat, (l.foldl (fun acc o => acc.push (maskOf acc o)) acc).toList = acc.toList ++ r ∧ r.length = l.length ∧
    ∀ (j : Nat) (o : Oper), l[j]? = some o → ∃ acc' : Array Nat, acc'.toList = acc.toList ++ r.take j ∧ r[j]? = some (maskOf acc' o)
  | [], acc => ⟨[], by simp, rfl, by simp⟩
  | o :: l, acc => by
    obtain ⟨r, h1, h2, h3⟩ := before_go l (acc.push (maskOf acc o))
    refine ⟨maskOf acc o :: r, by simp only [List.foldl_cons]; rw [h1]; simp, by simp [h2], fun j p hj => ?_⟩
    cases j with
    | zero => simp at hj; subst hj; exact ⟨acc, by simp, rfl⟩
    | succ j =>
      obtain ⟨acc', a1, a2⟩ := h3 j p (by simpa using hj)
      exact ⟨acc', by rw [a1]; simp, by simpa using a2⟩
theorem before_bit {ops : Array Oper} {i j : Nat} (h : ahead (Region.before ops) i j = true) : ∃ o, ops[j]? = some o ∧ ∃ e ∈ o.after.toList, Region.binds .any e = true ∧ (e.on = i ∨ (e.on < j ∧ ahead (Region.before ops) i e.on = true)) := by
  obtain ⟨r, h1, h2, h3⟩ := before_go ops.toList #[]
  have hb : (Region.before ops).toList = r := by
    rw [before_eq, ← Array.foldl_toList, h1]; simp
  have hget : ∀ k, (Region.before ops)[k]? = r[k]? := fun k => by rw [← Array.getElem?_toList, hb]
  unfold ahead at h
  rw [hget] at h
  cases hr : r[j]? with
  | none => rw [hr] at h; cases h
  | some m =>
    rw [hr] at h; simp only [] at h
    have hj : j < ops.toList.length := by rw [← h2]; exact (List.getElem?_eq_some_iff.1 hr).1
    have ho : ops.toList[j]? = some (ops.toList[j]'hj) := List.getElem?_eq_getElem hj
    obtain ⟨acc', a1, a2⟩ := h3 j _ ho
    rw [hr] at a2; simp only [Option.some.injEq] at a2; subst a2
    obtain ⟨e, e1, e2, e3⟩ := maskOf_bit h
    refine ⟨_, by rw [← Array.getElem?_toList]; exact ho, e, e1, e2, ?_⟩
    rcases e3 with e3 | e3
    · exact .inl e3
    · have hlt : e.on < j ∧ r[e.on]? = acc'[e.on]? := by
        have hs : (acc'.getD e.on 0).testBit i = true := e3
        rw [Array.getD_eq_getD_getElem?] at hs
        cases hq : acc'[e.on]? with
        | none => rw [hq] at hs; simp at hs
        | some v =>
          have : (r.take j)[e.on]? = some v := by
            have := hq
            rw [← Array.getElem?_toList, a1] at this
            simpa using this
          rw [List.getElem?_take] at this
          by_cases hlt : e.on < j
          · rw [if_pos hlt] at this; exact ⟨hlt, this⟩
          · rw [if_neg hlt] at this; cases this
      refine .inr ⟨hlt.1, ?_⟩
      unfold ahead
      rw [hget, hlt.2]
      rw [Array.getD_eq_getD_getElem?] at e3
      cases hq : acc'[e.on]? with
      | none => rw [hq] at e3; simp at e3
      | some v => rw [hq] at e3; simpa using e3
/-- what is done is closed -/
def Closed (ops : Array Oper) (S : Nat → Prop) : Prop := ∀ (j : Nat) (o : Oper), S j → ops[j]? = some o → ∀ e ∈ o.after.toList, Region.binds .any e = true → S e.on
theorem ahead_done {ops : Array Oper} {S : Nat → Prop} (hS : Closed ops S) : ∀ (j i : Nat), (∀ o, ops[j]? = some o → ∀ e ∈ o.after.toList, Region.binds .any e = true → S e.on) → ahead (Region.before ops) i j = true → S i := by
  intro j
  induction j using Nat.strongRecOn with
  | _ j ih =>
    intro i hr h
    obtain ⟨o, ho, e, e1, e2, e3⟩ := before_bit h
    have hs := hr o ho e e1 e2
    rcases e3 with e3 | ⟨e3, e4⟩
    · rw [← e3]; exact hs
    · exact ih e.on e3 i (fun p hp => hS e.on p hs hp) e4
end Go.E
/-! E, soundness, part 26: code in sequence, choices, blocks, loops. -/
namespace Go.E
variable {c : Cfg} {P : Program} {V : View} {μ : Mu} {h : Heap} {w : World}

/-- a piece of code that is run as E says -/
def SoundC (c : Cfg) (P : Program) (env : Env) (b : Frame) (sc : SC) (code : Code) : Prop :=
  ∀ (s s' : St) (ex : Ex) (a : Act) (w : World) (μ : Mu) (k : List Item) (cs : List Frame), sc.run env s = some (ex, s') → StR c P b.fn μ s a w → PnR μ b cs s.pn →
    CodeR c P (lone (b.atR a (.code code :: k)) cs w) b k cs μ s.hp w ex s'

theorem ArrE.pass {m : Machine} {b : Frame} {x : Item} {k : List Item} {cs : List Frame} {e : Ex} {a : Act} (hx : x.plain = true) (he : e ≠ .normal) (h : ArrE P m b (x :: k) cs μ e a w) : ArrE P m b k cs μ e a w := by
  cases e with
  | normal => exact absurd rfl he
  | exit id => exact ⟨fun k' hk => h.1 k' (by rw [exitTo_plain hx]; exact hk), fun hr hk => h.2 hr (by rw [exitTo_plain hx]; exact hk)⟩
  | ret => exact h
  | panic v => exact h
theorem CodeR.pass {m : Machine} {b : Frame} {x : Item} {k : List Item} {cs : List Frame} {e : Ex} {s' : St} (hx : x.plain = true) (he : e ≠ .normal) (H : CodeR c P m b (x :: k) cs μ h w e s') : CodeR c P m b k cs μ h w e s' := by
  obtain ⟨μ', a, w', cs', h1, h2, h3, h4, h5⟩ := H
  exact ⟨μ', a, w', cs', h1, h2, h3, h4, h5.pass hx he⟩

section
variable {env : Env} {b : Frame}
theorem seq_sound {x y : Code} {a' b' : SC} (h1 : SoundC c P env b a' x) (h2 : SoundC c P env b b' y) : SoundC c P env b ⟨thenC a' b'⟩ (.seq x y) := by
  intro s s' ex a w μ k cs hr S hp
  simp only [thenC] at hr
  cases e1 : a'.run env s with
  | none => rw [e1] at hr; cases hr
  | some p =>
    obtain ⟨e, s1⟩ := p
    rw [e1] at hr; simp only [] at hr
    have H := h1 s s1 e a w μ (.code y :: k) cs e1 S hp
    refine CodeR.of_steps (.one stepR_seq) ?_
    cases e with
    | normal =>
      simp only [] at hr
      obtain ⟨μ1, a1, w1, cs1, q1, q2, q3, q4, q5⟩ := H
      exact ((h2 s1 s' ex a1 w1 μ1 k cs1 hr q1 q4).after S.M q2 q3).of_steps q5
    | exit id => simp only [Option.some.injEq, Prod.mk.injEq] at hr; obtain ⟨rfl, rfl⟩ := hr; exact H.pass rfl (by simp)
    | ret => simp only [Option.some.injEq, Prod.mk.injEq] at hr; obtain ⟨rfl, rfl⟩ := hr; exact H.pass rfl (by simp)
    | panic v => simp only [Option.some.injEq, Prod.mk.injEq] at hr; obtain ⟨rfl, rfl⟩ := hr; exact H.pass rfl (by simp)
theorem cond_sound {fn : Func} {x y : Code} {g : Operand} {a' b' : SC} (hg : CheckCode.operand P fn g = .ok ()) (h1 : SoundC c P env b a' x) (h2 : SoundC c P env b b' y) : SoundC c P env b ⟨condC (compV g) a' b'⟩ (.cond g x y) := by
  intro s s' ex a w μ k cs hr S hp
  have hv : VR μ ((compV g).get s.tm) (a.eval g) := ev_R S.tm S.G hg
  simp only [condC] at hr
  generalize (compV g).get s.tm = A at hr hv
  cases A <;> first | (cases hr; done) | skip
  rename_i t
  generalize hq : a.eval g = v at hv
  cases hv
  refine CodeR.of_steps (.one (stepR_cond hq)) ?_
  cases t with
  | true => exact h1 s s' ex a w μ k cs hr S hp
  | false => exact h2 s s' ex a w μ k cs hr S hp
theorem block_sound {id : Nat} {x : Code} {a' : SC} (h1 : SoundC c P env b a' x) : SoundC c P env b ⟨blockC id a'⟩ (.block id x) := by
  intro s s' ex a w μ k cs hr S hp
  simp only [blockC] at hr
  cases e1 : a'.run env s with
  | none => rw [e1] at hr; cases hr
  | some p =>
    obtain ⟨e, s1⟩ := p
    rw [e1] at hr; simp only [] at hr
    obtain ⟨μ1, a1, w1, cs1, q1, q2, q3, q4, q5⟩ := h1 s s1 e a w μ (.inBlock id :: k) cs e1 S hp
    refine CodeR.of_steps (.one stepR_block) ?_
    cases e with
    | normal =>
      simp only [Option.some.injEq, Prod.mk.injEq] at hr; obtain ⟨rfl, rfl⟩ := hr
      exact ⟨μ1, a1, w1, cs1, q1, q2, q3, q4, q5.trans (.one stepR_inBlock)⟩
    | exit i =>
      simp only [] at hr
      cases e2 : Nat.beq i id with
      | true =>
        rw [e2] at hr; simp only [cond_true, Option.some.injEq, Prod.mk.injEq] at hr; obtain ⟨rfl, rfl⟩ := hr
        have := Nat.eq_of_beq_eq_true e2; subst this
        exact ⟨μ1, a1, w1, cs1, q1, q2, q3, q4, q5.1 k (by simp [exitTo])⟩
      | false =>
        rw [e2] at hr; simp only [cond_false, Option.some.injEq, Prod.mk.injEq] at hr; obtain ⟨rfl, rfl⟩ := hr
        have hne : (id == i) = false := by
          have : i ≠ id := fun q => by subst q; rw [Nat.beq_refl] at e2; cases e2
          simp; exact fun q => this q.symm
        have hx : exitTo i (.inBlock id :: k) = exitTo i k := by simp [exitTo, hne]
        exact ⟨μ1, a1, w1, cs1, q1, q2, q3, q4, fun k' hk => q5.1 k' (by rw [hx]; exact hk), fun hro hk => q5.2 hro (by rw [hx]; exact hk)⟩
    | ret => simp only [Option.some.injEq, Prod.mk.injEq] at hr; obtain ⟨rfl, rfl⟩ := hr; exact ⟨μ1, a1, w1, cs1, q1, q2, q3, q4, q5⟩
    | panic v => simp only [Option.some.injEq, Prod.mk.injEq] at hr; obtain ⟨rfl, rfl⟩ := hr; exact ⟨μ1, a1, w1, cs1, q1, q2, q3, q4, q5⟩
theorem loop_sound {x : Code} {a' : SC} (h1 : SoundC c P env b a' x) (n : Nat) : SoundC c P env b ⟨fun env s => loopN a'.run n env s⟩ (.loop x) := by
  have key : ∀ (n : Nat) (s s' : St) (ex : Ex) (a : Act) (w : World) (μ : Mu) (k : List Item) (cs : List Frame), loopN a'.run n env s = some (ex, s') → StR c P b.fn μ s a w → PnR μ b cs s.pn →
      CodeR c P (lone (b.atR a (.code x :: .inLoop x :: k)) cs w) b k cs μ s.hp w ex s' := by
    intro n
    induction n with
    | zero => intro s s' ex a w μ k cs hr; cases hr
    | succ n ih =>
      intro s s' ex a w μ k cs hr S hp
      simp only [loopN] at hr
      cases e1 : a'.run env s with
      | none => rw [e1] at hr; cases hr
      | some p =>
        obtain ⟨e, s1⟩ := p
        rw [e1] at hr
        have H := h1 s s1 e a w μ (.inLoop x :: k) cs e1 S hp
        cases e with
        | normal =>
          simp only [] at hr
          obtain ⟨μ1, a1, w1, cs1, q1, q2, q3, q4, q5⟩ := H
          exact ((ih s1 s' ex a1 w1 μ1 k cs1 hr q1 q4).after S.M q2 q3).of_steps (q5.trans (.one stepR_inLoop))
        | exit id => simp only [Option.some.injEq, Prod.mk.injEq] at hr; obtain ⟨rfl, rfl⟩ := hr; exact H.pass rfl (by simp)
        | ret => simp only [Option.some.injEq, Prod.mk.injEq] at hr; obtain ⟨rfl, rfl⟩ := hr; exact H.pass rfl (by simp)
        | panic v => simp only [Option.some.injEq, Prod.mk.injEq] at hr; obtain ⟨rfl, rfl⟩ := hr; exact H.pass rfl (by simp)
  intro s s' ex a w μ k cs hr S hp
  exact (key n s s' ex a w μ k cs hr S hp).of_steps (.one stepR_loop)
theorem region_sound {fn : Func} {id : Nat} {ops : Array Oper} (X : CtxR c P env b fn) (hok : CheckCode.region P fn id ops false = .ok ()) : SoundC c P env b (compOps c ops ops.toList) (.region id ops false) := by
  intro s s' ex a w μ k cs hr S hp
  have H := compOps_sound X (region_ok hok).1 ops.toList 0 (by simp) s s' ex a w μ k cs hr S hp
  rw [Nat.sub_zero, ← List.range_eq_range'] at H
  exact H.of_steps (.one stepR_region)
end
end Go.E
/-! E, soundness, part 27: operations see their operands alone; rows below a mark. -/
namespace Go.E
variable {c : Cfg} {P : Program} {V : View} {μ μ' : Mu} {h : Heap} {w : World}

theorem evL_congr {tm tm' : T AV} : ∀ {l : List Operand}, (∀ x ∈ l, ev tm x = ev tm' x) → evL tm l = evL tm' l
  | [], _ => rfl
  | x :: l, H => by simp only [evL]; rw [H x (by simp), evL_congr fun y hy => H y (by simp [hy])]
theorem evP_congr {tm tm' : T AV} : ∀ {l : List (Nat × Operand)}, (∀ x ∈ l.map (·.2), ev tm x = ev tm' x) → evP tm l = evP tm' l
  | [], _ => rfl
  | (i, x) :: l, H => by simp only [evP]; rw [H x (by simp), evP_congr fun y hy => H y (by rw [List.map_cons]; exact List.mem_cons_of_mem _ hy)]

theorem compOp_congr {tm tm' : T AV} {env : Env} {o : Op} (H : ∀ x ∈ o.operands.toList, ev tm x = ev tm' x) : (compOp c o).run env tm h = (compOp c o).run env tm' h := by
  have h1 : ∀ {x : Operand}, x ∈ o.operands.toList → ev tm x = ev tm' x := fun hx => H _ hx
  cases o with
  | move x => simp only [compOp, oMove, h1 (x := x) (by simp [Op.operands])]
  | assign x => simp only [compOp, oMove, h1 (x := x) (by simp [Op.operands])]
  | pick k a b => simp only [compOp, oPick, h1 (x := k) (by simp [Op.operands]), h1 (x := a) (by simp [Op.operands]), h1 (x := b) (by simp [Op.operands])]
  | alloc e => rfl
  | box e x => simp only [compOp, oBox, h1 (x := x) (by simp [Op.operands])]
  | build t ps => simp only [compOp, oBuild]; rw [evP_congr (l := ps.toList) fun x hx => h1 (by simpa [Op.operands] using hx)]
  | buildSlice t n ps => simp only [compOp, oBuildSlice]; rw [evP_congr (l := ps.toList) fun x hx => h1 (by simpa [Op.operands] using hx)]
  | load t a => simp only [compOp, oLoad, h1 (x := a) (by simp [Op.operands])]
  | store t a x => simp only [compOp, oStore, h1 (x := a) (by simp [Op.operands]), h1 (x := x) (by simp [Op.operands])]
  | nilCheck x => simp only [compOp, oNilCheck, h1 (x := x) (by simp [Op.operands])]
  | binOp op t x y u => simp only [compOp, oBin, h1 (x := x) (by simp [Op.operands]), h1 (x := y) (by simp [Op.operands])]
  | unOp op t x => simp only [compOp, oUn, h1 (x := x) (by simp [Op.operands])]
  | convert a b x => simp only [compOp, oConv, h1 (x := x) (by simp [Op.operands])]
  | makeInterface t x => simp only [compOp, oIface, h1 (x := x) (by simp [Op.operands])]
  | makeFunc f a b =>
    simp only [compOp, oFunc]
    rw [evL_congr (l := a.toList) fun x hx => h1 (by simp only [Op.operands, Array.toList_append, List.mem_append]; exact .inl hx), evL_congr (l := b.toList) fun x hx => h1 (by simp only [Op.operands, Array.toList_append, List.mem_append]; exact .inr hx)]
  | makeMap t r =>
    cases r with
    | none => rfl
    | some x => simp only [compOp, oMap, h1 (x := x) (by simp [Op.operands])]
  | makeSlice t l k => simp only [compOp, oMakeSlice, h1 (x := l) (by simp [Op.operands]), h1 (x := k) (by simp [Op.operands])]
  | slice t x lo hi mx =>
    have e1 : lo.map (ev tm) = lo.map (ev tm') := by cases lo with | none => rfl | some y => simp only [Option.map_some, h1 (x := y) (by simp [Op.operands])]
    have e2 : hi.map (ev tm) = hi.map (ev tm') := by cases hi with | none => rfl | some y => simp only [Option.map_some, h1 (x := y) (by simp [Op.operands])]
    have e3 : mx.map (ev tm) = mx.map (ev tm') := by cases mx with | none => rfl | some y => simp only [Option.map_some, h1 (x := y) (by simp [Op.operands])]
    simp only [compOp, oSlice, h1 (x := x) (by simp [Op.operands]), e1, e2, e3]
  | fieldAddr t x f => simp only [compOp, oFieldAddr, h1 (x := x) (by simp [Op.operands])]
  | field t x f => simp only [compOp, oField, h1 (x := x) (by simp [Op.operands])]
  | indexAddr t x i => simp only [compOp, oIndexAddr, h1 (x := x) (by simp [Op.operands]), h1 (x := i) (by simp [Op.operands])]
  | index t x i => simp only [compOp, oIndex, h1 (x := x) (by simp [Op.operands]), h1 (x := i) (by simp [Op.operands])]
  | lookup t x k ok => simp only [compOp, oLookup, h1 (x := x) (by simp [Op.operands]), h1 (x := k) (by simp [Op.operands])]
  | mapUpdate t m k x => simp only [compOp, oUpdate, h1 (x := m) (by simp [Op.operands]), h1 (x := k) (by simp [Op.operands]), h1 (x := x) (by simp [Op.operands])]
  | insert t m k x => simp only [compOp, oUpdate, h1 (x := m) (by simp [Op.operands]), h1 (x := k) (by simp [Op.operands]), h1 (x := x) (by simp [Op.operands])]
  | range t x => simp only [compOp, oRange, h1 (x := x) (by simp [Op.operands])]
  | next it s => cases s <;> simp only [compOp, oNext, oBad, cond_true, cond_false, h1 (x := it) (by simp [Op.operands])]
  | typeAssert x t as ok => simp only [compOp, oAssert, h1 (x := x) (by simp [Op.operands])]
  | extract t i => simp only [compOp, oExtract, h1 (x := t) (by simp [Op.operands])]
  | panic x => simp only [compOp, oPanic, h1 (x := x) (by simp [Op.operands])]
  | defer k =>
    obtain ⟨callee, args, ts⟩ := k
    have ea : evL tm args.toList = evL tm' args.toList := evL_congr fun x hx => h1 (by simp only [Op.operands, Call.operands, Array.toList_append, List.mem_append]; exact .inr hx)
    cases callee with
    | value f => simp only [compOp, oDefer, ea, h1 (x := f) (by simp [Op.operands, Call.operands])]
    | invoke r m => rfl
    | builtin b => rfl
  | call k =>
    obtain ⟨callee, args, ts⟩ := k
    have ea : evL tm args.toList = evL tm' args.toList := evL_congr fun x hx => h1 (by simp only [Op.operands, Call.operands, Array.toList_append, List.mem_append]; exact .inr hx)
    cases callee with
    | value f =>
      have ef := h1 (x := f) (by simp [Op.operands, Call.operands])
      cases f <;> simp only [compOp, oCall, oCallO, oCallF, oCallV, ea, ef]
    | invoke r m => simp only [compOp, oCall, oInvoke, ea, h1 (x := r) (by simp [Op.operands, Call.operands])]
    | builtin b => simp only [compOp, oCall, oBuiltin, ea]
  | _ => rfl
theorem readsOf_congr {tm tm' : T AV} {o : Op} (H : ∀ x ∈ o.operands.toList, ev tm x = ev tm' x) : readsOf c o tm = readsOf c o tm' := by
  have h1 : ∀ {x : Operand}, x ∈ o.operands.toList → ev tm x = ev tm' x := fun hx => H _ hx
  cases o with
  | load t a => simp only [readsOf, h1 (x := a) (by simp [Op.operands])]
  | lookup t x k ok => simp only [readsOf, h1 (x := x) (by simp [Op.operands])]
  | convert a b x => simp only [readsOf, h1 (x := x) (by simp [Op.operands])]
  | call k =>
    obtain ⟨callee, args, ts⟩ := k
    have ea : evL tm args.toList = evL tm' args.toList := evL_congr fun x hx => h1 (by simp only [Op.operands, Call.operands, Array.toList_append, List.mem_append]; exact .inr hx)
    simp only [readsOf, callReads, ea]
  | _ => rfl

/-! ### rows below a mark -/
def Mu.below (μ : Mu) (n : Nat) : Mu := fun r => if r < n then μ r else none
theorem Mu.below_le (μ : Mu) (n : Nat) : (μ.below n).le μ := by
  intro r p h
  unfold Mu.below at h
  by_cases hr : r < n
  · rwa [if_pos hr] at h
  · rw [if_neg hr] at h; cases h
theorem Mu.below_lt {μ : Mu} {n r : Nat} (hr : r < n) : μ.below n r = μ r := by unfold Mu.below; rw [if_pos hr]
theorem Mu.below_ge {μ : Mu} {n r : Nat} (hr : n ≤ r) : μ.below n r = none := by unfold Mu.below; rw [if_neg (by omega)]
theorem lt_of_dom {μ : Mu} {n r : Nat} {p : Nat × Nat × Nat} (hd : ∀ r, n ≤ r → μ r = none) (h : μ r = some p) : r < n := by
  rcases Nat.lt_or_ge r n with hl | hl
  · exact hl
  · rw [hd r hl] at h; cases h
theorem Mu.below_some {μ μ' : Mu} {n r : Nat} {p q : Nat × Nat × Nat} (hd : ∀ r, n ≤ r → μ' r = none) (h : μ r = some p) (h' : μ' r = some q) : μ.below n r = some p := by
  rw [Mu.below_lt (lt_of_dom hd h')]; exact h
mutual
theorem VR.cut {μ μ' : Mu} {m : Nat} (hd : ∀ r, m ≤ r → μ' r = none) : ∀ {a : AV} {v v' : Value}, VR μ a v → VR μ' a v' → VR (μ.below m) a v
  | _, _, _, .bool b, _ => .bool b
  | _, _, _, .int k n, _ => .int k n
  | _, _, _, .str s b h, _ => .str s b h
  | _, _, _, .ptr r off b base N h, .ptr _ _ _ _ _ h' => .ptr r off b base N (Mu.below_some hd h h')
  | _, _, _, .nilp, _ => .nilp
  | _, _, _, .slc r off n cap b base N o h hl ho, .slc _ _ _ _ _ _ _ _ h' _ _ => .slc r off n cap b base N o (Mu.below_some hd h h') hl ho
  | _, _, _, .opn r off n sz b base N c o h hz hc hl ho, .opn _ _ _ _ _ _ _ _ _ h' _ _ _ _ => .opn r off n sz b base N c o (Mu.below_some hd h h') hz hc hl ho
  | _, _, _, .nils, _ => .nils
  | _, _, _, .map r b base N h, .map _ _ _ _ h' => .map r b base N (Mu.below_some hd h h')
  | _, _, _, .nilm, _ => .nilm
  | _, _, _, .fn f a b a' b' hf h1 h2, .fn _ _ _ _ _ _ k1 k2 => .fn f a b a' b' hf (VL.cut hd h1 k1) (VL.cut hd h2 k2)
  | _, _, _, .yld l b base N h, .yld _ _ _ _ h' => .yld l b base N (Mu.below_some hd h h')
  | _, _, _, .nilf, _ => .nilf
  | _, _, _, .iface t a v h, .iface _ _ _ h' => .iface t a v (VR.cut hd h h')
  | _, _, _, .nili, _ => .nili
  | _, _, _, .agg cs vs h hf, .agg _ _ h' _ => .agg cs vs (VL.cut hd h h') hf
  | _, _, _, .tup cs vs h, .tup _ _ h' => .tup cs vs (VL.cut hd h h')
  | _, _, _, .raw v hp, _ => .raw v hp
theorem VL.cut {μ μ' : Mu} {m : Nat} (hd : ∀ r, m ≤ r → μ' r = none) : ∀ {l : List AV} {vs vs' : List Value}, VL μ l vs → VL μ' l vs' → VL (μ.below m) l vs
  | _, _, _, .nil, _ => .nil
  | _, _, _, .cons h t, .cons h' t' => .cons (VR.cut hd h h') (VL.cut hd t t')
end
theorem VL.cut_mem {m : Nat} (hd : ∀ r, m ≤ r → μ' r = none) : ∀ {l : List AV} {vs : List Value}, VL μ l vs → (∀ a ∈ l, ∃ v', VR μ' a v') → VL (μ.below m) l vs
  | _, _, .nil, _ => .nil
  | _, _, .cons h t, H => let ⟨_, q⟩ := H _ (by simp); .cons (h.cut hd q) (VL.cut_mem hd t fun a ha => H a (by simp [ha]))
theorem VL.mem : ∀ {l : List AV} {vs : List Value}, VL μ l vs → ∀ a ∈ l, ∃ v, VR μ a v
  | _, _, .nil, a, ha => by simp at ha
  | _, _, .cons h t, a, ha => by
    rcases List.mem_cons.1 ha with rfl | ha
    · exact ⟨_, h⟩
    · exact VL.mem t a ha

theorem RowR.weaken {r : Nat} {x : Row} (H : RowR c P All μ w r x) : RowR c P V μ w r x := by
  cases x with
  | cells ro cs =>
    obtain ⟨b, base, N, cc, t, fr, e, hb, hN, hl, hc, hf⟩ := H
    exact ⟨b, base, N, cc, t, fr, e, hb, hN, hl, fun i a hi _ => hc i a hi trivial, hf⟩
  | _ => exact H
theorem RowR.cut {m : Nat} {w' : World} (hd : ∀ r, m ≤ r → μ' r = none) {r : Nat} {x : Row} (H : RowR c P All μ w r x) (H' : RowR c P All μ' w' r x) : RowR c P All (μ.below m) w r x := by
  cases x with
  | dead => trivial
  | cells ro cs =>
    obtain ⟨b, base, N, cc, t, fr, e, hb, hN, hl, hc, hf⟩ := H
    obtain ⟨_, _, _, _, _, _, e', _, _, _, hc', _⟩ := H'
    refine ⟨b, base, N, cc, t, fr, Mu.below_some hd e e', hb, hN, hl, fun i a hi hv => ?_, hf⟩
    obtain ⟨v, q1, q2, q3⟩ := hc i a hi hv
    obtain ⟨v', _, q2', _⟩ := hc' i a hi trivial
    exact ⟨v, q1, q2.cut hd q2', q3⟩
  | map kt es =>
    obtain ⟨b, base, N, es', clock, e, hb, ⟨e2, p, k1, k2⟩, hk, hdist, hbn⟩ := H
    obtain ⟨_, _, _, _, _, e', _, ⟨e2', p', k1', k2'⟩, _, _, _⟩ := H'
    refine ⟨b, base, N, es', clock, Mu.below_some hd e e', hb, ⟨e2, p, k1.cut_mem hd fun a ha => ?_, k2.cut_mem hd fun a ha => ?_⟩, hk, hdist, hbn⟩
    · obtain ⟨q, hq, rfl⟩ := List.mem_map.1 ha
      exact k1'.mem _ (List.mem_map.2 ⟨q, p'.symm.subset (p.subset hq), rfl⟩)
    · obtain ⟨q, hq, rfl⟩ := List.mem_map.1 ha
      exact k2'.mem _ (List.mem_map.2 ⟨q, p'.symm.subset (p.subset hq), rfl⟩)
  | iter s pos =>
    obtain ⟨b, N, s', e, hb, hr⟩ := H
    obtain ⟨_, _, _, e', _, _⟩ := H'
    exact ⟨b, N, s', Mu.below_some hd e e', hb, hr⟩
  | loop l =>
    obtain ⟨b, base, N, l', e, hb, hr⟩ := H
    obtain ⟨_, _, _, _, e', _, hr'⟩ := H'
    refine ⟨b, base, N, l', Mu.below_some hd e e', hb, ⟨hr.state, hr.pending, hr.fn, ⟨hr.tm.1, fun i => (hr.tm.2 i).cut hd (hr'.tm.2 i)⟩, hr.params, hr.assign, hr.body, ?_, hr.wfa, hr.wfb, hr.par⟩⟩
    obtain ⟨x, y, q⟩ := hr.defers
    obtain ⟨_, _, q'⟩ := hr'.defers
    exact ⟨x, y, Mu.below_some hd q q'⟩
  | dfr t =>
    obtain ⟨b, base, N, e, hb⟩ := H
    obtain ⟨_, _, _, e', _⟩ := H'
    exact ⟨b, base, N, Mu.below_some hd e e', hb⟩
theorem RowR.view {m : Nat} {w' : World} (hd : ∀ r, m ≤ r → μ' r = none) {r : Nat} {x y : Row} (hv : Vis V r) (hs : ∀ i, V r i → sameAt x y i) (H : RowR c P All μ w r x) (H' : RowR c P All μ' w' r y) : RowR c P V (μ.below m) w r y := by
  obtain ⟨i0, hi0⟩ := hv
  rcases hs i0 hi0 with e | ⟨ro, cs, cs', e1, e2, e3, e4⟩
  · subst e; exact (H.cut hd H').weaken
  · subst e1; subst e2
    obtain ⟨b, base, N, cc, t, fr, e, hb, hN, hl, hc, hf⟩ := H
    obtain ⟨_, _, _, _, _, _, e', _, _, _, hc', _⟩ := H'
    refine ⟨b, base, N, cc, t, fr, Mu.below_some hd e e', hb, hN, by omega, fun i a hi hv => ?_, hf⟩
    have hia : cs[i]? = Option.some a := by
      rcases hs i hv with q | ⟨_, _, _, q1, q2, _, q4⟩
      · simp only [Row.cells.injEq, true_and] at q; rw [q]; exact hi
      · simp only [Row.cells.injEq] at q1 q2; rw [q1.2, ← q4, ← q2.2]; exact hi
    obtain ⟨v, q1, q2, q3⟩ := hc i a hia trivial
    obtain ⟨v', _, q2', _⟩ := hc' i a hi trivial
    exact ⟨v, q1, q2.cut hd q2', q3⟩
theorem sameAt.own {x y : Row} {i : Nat} (h : sameAt x y i) : x.own ↔ y.own := by
  rcases h with rfl | ⟨ro, cs, cs', rfl, rfl, _⟩
  · rfl
  · rfl
theorem sameAt.live {x y : Row} {i : Nat} (h : sameAt x y i) : x.live ↔ y.live := by
  rcases h with rfl | ⟨ro, cs, cs', rfl, rfl, _⟩
  · rfl
  · simp [Row.live]
theorem not_live {x : Row} (h : ¬ x.live) : x = .dead := by cases x <;> first | rfl | exact absurd trivial h

/-- a heap that is seen of a larger one -/
theorem Models.small {H : Heap} {w' : World} (M : Models c P All μ H w) (D : Models c P All μ' h w') (hs : ∀ r, (h.get r).live → ∀ i, V r i → sameAt (H.get r) (h.get r) i) : Models c P V (μ.below h.size) h w := by
  have hlt : ∀ r, (h.get r).live → r < h.size := fun r hl => by
    rcases Nat.lt_or_ge r h.size with q | q
    · exact q
    · rw [D.dead r q] at hl; exact hl.elim
  refine ⟨fun r hv => ?_, fun r s hrs hr hv ho hl => ?_, fun r hr => Mu.below_ge hr, D.dead, fun r p hp => M.size r p (Mu.below_le _ _ _ _ hp), D.hid, D.mark⟩
  · by_cases hl : (h.get r).live
    · exact RowR.view D.dom hv (hs r hl) (M.row r (vis_all r)) (D.row r (vis_all r))
    · rw [not_live hl]; trivial
  · obtain ⟨i, hi⟩ := hr
    obtain ⟨k, hk⟩ := hv
    have h1 := (hs r (Row.own_live ho) i hi).own.2 ho
    have h2 := (hs s hl k hk).live.2 hl
    have := M.apart r s hrs (vis_all r) (vis_all s) h1 h2
    unfold blk at *
    rw [Mu.below_lt (hlt r (Row.own_live ho)), Mu.below_lt (hlt s hl)]; exact this
end Go.E
/-! E, soundness, part 28: a part of a heap is run. -/
namespace Go.E
variable {c : Cfg} {P : Program} {V : View} {μ μ' μ'' : Mu} {h h' h'' : Heap} {w w' w'' : World}

/-- how a world comes of another one, without the rows -/
structure GoesW (μ : Mu) (h : Heap) (w : World) (μ' : Mu) (h' : Heap) (w' : World) : Prop where
  le : μ.le μ'
  size : w.heap.size ≤ w'.heap.size
  os : w'.os = w.os
  output : w'.output = w.output
  tape : w'.tape = w.tape
  same : ∀ b, b < w.heap.size → (∀ r, (h.get r).own → blk μ r ≠ some b) → w'.heap[b]? = w.heap[b]?
  fresh : ∀ r b, μ r = none → blk μ' r = some b → w.heap.size ≤ b ∨ ∃ s, (h.get s).own ∧ blk μ s = some b
  own : ∀ r p, μ r = some p → (h'.get r).own → (h.get r).own
/-- how the rows come of others -/
structure HG (h h' : Heap) : Prop where
  own : ∀ r, r < h.size → (h'.get r).own → (h.get r).own
  rows : h.size ≤ h'.size
  hide : h'.hide = h.hide
  mark : h'.mark = h.mark
  ro : ∀ r cs, h.get r = .cells true cs → h'.get r = .cells true cs
  hid : ∀ r, hidden r h.hide = true → T.get .dead h'.tr r = T.get .dead h.tr r
  told : Told h h'
  live : ∀ r, r < h.size → (h'.get r).live → (h.get r).live
theorem Goes.hg (G : Goes μ h w μ' h' w') : HG h h' := ⟨G.own, G.rows, G.hide, G.mark, G.ro, G.hid, G.told, G.live⟩
theorem HG.refl (h : Heap) : HG h h := ⟨fun _ _ h => h, Nat.le_refl _, rfl, rfl, fun _ _ h => h, fun _ _ => rfl, Told.refl _, fun _ _ h => h⟩
theorem HG.trans (a : HG h h') (k : HG h' h'') : HG h h'' where
  own := fun r hr ho => a.own r hr (k.own r (Nat.lt_of_lt_of_le hr a.rows) ho)
  rows := Nat.le_trans a.rows k.rows
  hide := k.hide.trans a.hide
  mark := k.mark.trans a.mark
  ro := fun r cs e => k.ro r cs (a.ro r cs e)
  hid := fun r hr => (k.hid r (by rw [a.hide]; exact hr)).trans (a.hid r hr)
  told := a.told.trans k.told a.mark
  live := fun r hr ho => a.live r hr (k.live r (Nat.lt_of_lt_of_le hr a.rows) ho)
theorem GoesW.refl (μ : Mu) (h : Heap) (w : World) : GoesW μ h w μ h w :=
  ⟨Mu.le_refl _, Nat.le_refl _, rfl, rfl, rfl, fun _ _ _ => rfl, fun r b hn hb => by simp [blk, hn] at hb, fun _ _ _ h => h⟩
theorem Goes.gw (M : Models c P All μ h w) (G : Goes μ h w μ' h' w') : GoesW μ h w μ' h' w' :=
  ⟨G.le, G.size, G.os, G.output, G.tape, G.same, G.fresh, fun r _ hp ho => G.own r (lt_of_dom M.dom hp) ho⟩
theorem GoesW.with (G : GoesW μ h w μ' h' w') (H : HG h h') (hd : ∀ r, r < h.size → μ r = none → μ' r = none) : Goes μ h w μ' h' w' :=
  ⟨G.le, G.size, G.os, G.output, G.tape, G.same, G.fresh, H.own, H.rows, H.hide, H.mark, H.ro, H.hid, H.told, H.live, hd⟩
theorem GoesW.trans (_M : Models c P All μ h w) (a : GoesW μ h w μ' h' w') (k : GoesW μ' h' w' μ'' h'' w'') : GoesW μ h w μ'' h'' w'' where
  le := Mu.le_trans a.le k.le
  size := Nat.le_trans a.size k.size
  os := k.os.trans a.os
  output := k.output.trans a.output
  tape := k.tape.trans a.tape
  own := fun r p hp ho => a.own r p hp (k.own r p (a.le r p hp) ho)
  same := fun b hb hn => by
    rw [k.same b (Nat.lt_of_lt_of_le hb a.size) ?_]
    · exact a.same b hb hn
    · intro r ho hbr
      cases hr : μ r with
      | some p => exact hn r (a.own r p hr ho) (blk_of_le a.le hr hbr)
      | none =>
        rcases a.fresh r b hr hbr with hle | ⟨s, hs, hbs⟩
        · omega
        · exact hn s hs hbs
  fresh := fun r b hn hb => by
    cases hr : μ' r with
    | some p => exact a.fresh r b hn (blk_of_le k.le hr hb)
    | none =>
      rcases k.fresh r b hr hb with hle | ⟨s, hs, hbs⟩
      · exact .inl (Nat.le_trans a.size hle)
      · cases hs0 : μ s with
        | some p => exact .inr ⟨s, a.own s p hs0 hs, blk_of_le a.le hs0 hbs⟩
        | none => exact a.fresh s b hs0 hbs
theorem Models.congr {h' : Heap} (M : Models c P All μ h w) (hg : ∀ r, h'.get r = h.get r) (hs : h'.size = h.size) (hh : h'.hide = h.hide) (hm : h'.mark ≤ h'.size) : Models c P All μ h' w :=
  ⟨fun r hv => by rw [hg]; exact M.row r hv, fun r s hrs a b => by rw [hg, hg]; exact M.apart r s hrs a b, fun r hr => M.dom r (by rw [← hs]; exact hr), fun r hr => by rw [hg]; exact M.dead r (by rw [← hs]; exact hr),
    M.size, fun r hr => by rw [hs]; exact M.hid r (by rw [← hh]; exact hr), hm⟩

def Mu.join (μ μ' : Mu) : Mu := fun r => match μ r with | some p => some p | none => μ' r
theorem Mu.join_some {r : Nat} {p : Nat × Nat × Nat} (h : μ r = some p) : μ.join μ' r = some p := by unfold Mu.join; rw [h]
theorem Mu.join_none {r : Nat} (h : μ r = none) : μ.join μ' r = μ' r := by unfold Mu.join; rw [h]
theorem Mu.le_join : μ.le (μ.join μ') := fun _ _ h => Mu.join_some h
/-- what a heap shows -/
def Shows (h : Heap) (n r : Nat) : Prop := r < n ∧ hidden r h.hide = false
theorem get_hidden {r : Nat} (e : hidden r h.hide = true) : h.get r = .dead := by rw [Heap.get_eq, if_pos e]
theorem live_shows (M : Models c P V μ h w) {r : Nat} (hl : (h.get r).live) : Shows h h.size r := by
  constructor
  · rcases Nat.lt_or_ge r h.size with q | q
    · exact q
    · rw [M.dead r q] at hl; exact hl.elim
  · cases e : hidden r h.hide with
    | false => rfl
    | true => rw [get_hidden e] at hl; exact hl.elim

theorem frame {H H' : Heap} {μs : Mu} (M : Models c P All μ H w) (Mh : Models c P All (μ.below h.size) h w)
    (hsame : ∀ r, Shows h h.size r → h.get r = H.get r)
    (hnew : ∀ r, h.size ≤ r → r < h'.size → μ r = none ∧ H.get r = .dead)
    (M' : Models c P All μs h' w') (G : Goes (μ.below h.size) h w μs h' w')
    (hg1 : ∀ r, Shows h h'.size r → H'.get r = h'.get r) (hg2 : ∀ r, ¬ Shows h h'.size r → H'.get r = H.get r)
    (s1 : H.size ≤ H'.size) (s2 : h'.size ≤ H'.size) (hhd : H'.hide = H.hide) (hmk : H'.mark ≤ H'.size) :
    Models c P All (μ.join μs) H' w' ∧ GoesW μ H w (μ.join μs) H' w' ∧ μs.le (μ.join μs) := by
  have le2 : μs.le (μ.join μs) := by
    intro r p hp
    cases hq : μ r with
    | none => rw [Mu.join_none hq]; exact hp
    | some q =>
      rw [Mu.join_some hq]
      have hr := lt_of_dom M'.dom hp
      rcases Nat.lt_or_ge r h.size with hl | hl
      · have := G.le r q (by rw [Mu.below_lt hl]; exact hq)
        rw [hp] at this; exact this.symm
      · rw [(hnew r hl hr).1] at hq; cases hq
  have shown : ∀ {r}, Shows h h.size r → Shows h h'.size r := fun hs => ⟨Nat.lt_of_lt_of_le hs.1 G.rows, hs.2⟩
  have own0 : ∀ {r}, (h.get r).own → Shows h h.size r ∧ (H.get r).own ∧ blk (μ.below h.size) r = blk μ r := fun {r} ho => by
    have hs := live_shows Mh (Row.own_live ho)
    exact ⟨hs, by rw [← hsame r hs]; exact ho, by unfold blk; rw [Mu.below_lt hs.1]⟩
  have liveH : ∀ {r}, (H.get r).live → ∃ p, μ r = some p ∧ blk (μ.join μs) r = some p.1 ∧ blk μ r = some p.1 := fun {r} hl => by
    obtain ⟨p, hp⟩ := (M.row r (vis_all r)).some hl
    exact ⟨p, hp, by unfold blk; rw [Mu.join_some hp]; rfl, by unfold blk; rw [hp]; rfl⟩
  have liveh' : ∀ {r}, (h'.get r).live → blk (μ.join μs) r = blk μs r := fun {r} hl => by
    obtain ⟨p, hp⟩ := (M'.row r (vis_all r)).some hl
    unfold blk; rw [le2 r p hp, hp]
  -- a row that is shown and one that is not
  have apart1 : ∀ r s, Shows h h'.size r → ¬ Shows h h'.size s → (h'.get r).own → (H.get s).live → blk (μ.join μs) r ≠ blk (μ.join μs) s := by
    intro r s hr hs ho hl hbb
    obtain ⟨p, hp, b1, b2⟩ := liveH hl
    rw [b1, liveh' (Row.own_live ho)] at hbb
    rcases Nat.lt_or_ge r h.size with q | q
    · have ho' := G.own r q ho
      obtain ⟨k1, k2, k3⟩ := own0 ho'
      obtain ⟨p', hp', _, b2'⟩ := liveH (Row.own_live k2)
      have := G.le r p' (by rw [Mu.below_lt q]; exact hp')
      have hb : blk μs r = some p'.1 := by unfold blk; rw [this]; rfl
      exact M.apart r s (fun e => hs (e ▸ hr)) (vis_all r) (vis_all s) k2 hl (by rw [b2', b2, ← hb, hbb])
    · rcases G.fresh r p.1 (Mh.dom r q) hbb with hle | ⟨s0, h0, hb0⟩
      · have := M.size s p hp; omega
      · obtain ⟨k1, k2, k3⟩ := own0 h0
        exact M.apart s0 s (fun e => hs (e ▸ shown k1)) (vis_all _) (vis_all s) k2 hl (by rw [← k3, hb0, b2])
  have apart2 : ∀ r s, ¬ Shows h h'.size r → Shows h h'.size s → (H.get r).own → (h'.get s).live → blk (μ.join μs) r ≠ blk (μ.join μs) s := by
    intro r s hr hs ho hl hbb
    obtain ⟨p, hp, b1, b2⟩ := liveH (Row.own_live ho)
    rw [b1, liveh' hl] at hbb
    rcases Nat.lt_or_ge s h.size with q | q
    · have hl' := G.live s q hl
      have k1 := live_shows Mh hl'
      have k2 : (H.get s).live := by rw [← hsame s k1]; exact hl'
      obtain ⟨p', hp', _, b2'⟩ := liveH k2
      have := G.le s p' (by rw [Mu.below_lt q]; exact hp')
      have hb : blk μs s = some p'.1 := by unfold blk; rw [this]; rfl
      exact M.apart r s (fun e => hr (e ▸ hs)) (vis_all r) (vis_all s) ho k2 (by rw [b2', b2, ← hb, hbb])
    · rcases G.fresh s p.1 (Mh.dom s q) hbb.symm with hle | ⟨s0, h0, hb0⟩
      · have := M.size r p hp; omega
      · obtain ⟨k1, k2, k3⟩ := own0 h0
        exact M.apart s0 r (fun e => hr (e ▸ shown k1)) (vis_all _) (vis_all r) k2 (Row.own_live ho) (by rw [← k3, hb0, b2])
  refine ⟨⟨fun r _ => ?_, fun r s hrs _ _ ho hl => ?_, fun r hr => ?_, fun r hr => ?_, fun r p hp => ?_, fun r hr => ?_, hmk⟩, ⟨Mu.le_join, G.size, G.os, G.output, G.tape, fun b hb hn => ?_, fun r b hn hb => ?_, fun r p hp ho => ?_⟩, le2⟩
  · by_cases hs : Shows h h'.size r
    · rw [hg1 r hs]; exact (M'.row r (vis_all r)).keep le2 fun _ _ => rfl
    · rw [hg2 r hs]
      by_cases hl : (H.get r).live
      · refine (M.row r (vis_all r)).keep Mu.le_join fun b hb => G.same b ?_ fun s ho e => ?_
        · obtain ⟨p, hp, _, b2⟩ := liveH hl
          rw [hb] at b2; simp only [Option.some.injEq] at b2; rw [b2]; exact M.size r p hp
        · obtain ⟨k1, k2, k3⟩ := own0 ho
          exact M.apart s r (fun e => hs (e ▸ shown k1)) (vis_all _) (vis_all r) k2 hl (by rw [← k3, e, hb])
      · rw [not_live hl]; trivial
  · by_cases h1 : Shows h h'.size r <;> by_cases h2 : Shows h h'.size s
    · rw [hg1 r h1] at ho; rw [hg1 s h2] at hl
      rw [liveh' (Row.own_live ho), liveh' hl]; exact M'.apart r s hrs (vis_all r) (vis_all s) ho hl
    · rw [hg1 r h1] at ho; rw [hg2 s h2] at hl; exact apart1 r s h1 h2 ho hl
    · rw [hg2 r h1] at ho; rw [hg1 s h2] at hl; exact apart2 r s h1 h2 ho hl
    · rw [hg2 r h1] at ho; rw [hg2 s h2] at hl
      obtain ⟨_, _, a1, a2⟩ := liveH (Row.own_live ho)
      obtain ⟨_, _, b1, b2⟩ := liveH hl
      have := M.apart r s hrs (vis_all r) (vis_all s) ho hl
      rw [a1, b1, ← a2, ← b2]; exact this
  · rw [Mu.join_none (M.dom r (by omega))]; exact M'.dom r (by omega)
  · rw [hg2 r fun hs => by have := hs.1; omega]; exact M.dead r (by omega)
  · cases hq : μ r with
    | some q => rw [Mu.join_some hq] at hp; cases hp; exact Nat.lt_of_lt_of_le (M.size r _ hq) G.size
    | none => rw [Mu.join_none hq] at hp; exact M'.size r p hp
  · rw [hhd] at hr; exact Nat.lt_of_lt_of_le (M.hid r hr) s1
  · exact G.same b hb fun r ho e => let ⟨_, k2, k3⟩ := own0 ho; hn r k2 (by rw [← k3]; exact e)
  · have hb' : blk μs r = some b := by unfold blk at hb ⊢; rw [Mu.join_none hn] at hb; exact hb
    have hn' : μ.below h.size r = none := by
      unfold Mu.below; by_cases q : r < h.size
      · rw [if_pos q]; exact hn
      · rw [if_neg q]
    rcases G.fresh r b hn' hb' with hle | ⟨s, hs, hbs⟩
    · exact .inl hle
    · obtain ⟨_, k2, k3⟩ := own0 hs
      exact .inr ⟨s, k2, by rw [← k3]; exact hbs⟩
  · by_cases hs : Shows h h'.size r
    · rw [hg1 r hs] at ho
      rcases Nat.lt_or_ge r h.size with q | q
      · have ho' := G.own r q ho
        exact (own0 ho').2.1
      · rw [(hnew r q hs.1).1] at hp; cases hp
    · rw [hg2 r hs] at ho; exact ho
end Go.E
/-! E, soundness, part 29: new rows at a place; some temporaries; heaps of functions. -/
namespace Go.E
variable {c : Cfg} {P : Program} {V : View} {μ μ' μ'' : Mu} {h h' h'' : Heap} {w w' w'' : World}

theorem Models.newAt {H H' : Heap} (M : Models c P All μ H w) {r0 : Nat} (hlt : r0 < H.size) (hn : μ r0 = none) (hh : hidden r0 H.hide = false) (o : Obj) (x : Row) (N : Nat)
    (hx : RowR c P All (μ.add r0 (w.heap.size, 0, N)) (wnew w o) r0 x) (hg : ∀ r, H'.get r = if r = r0 then x else H.get r) (hs : H'.size = H.size) (hhd : H'.hide = H.hide) (hmk : H'.mark ≤ H'.size) :
    Models c P All (μ.add r0 (w.heap.size, 0, N)) H' (wnew w o) ∧ GoesW μ H w (μ.add r0 (w.heap.size, 0, N)) H' (wnew w o) := by
  have hle : μ.le (μ.add r0 (w.heap.size, 0, N)) := Mu.le_add hn
  have hne : ∀ r, r ≠ r0 → (μ.add r0 (w.heap.size, 0, N)) r = μ r := fun r hr => by simp [Mu.add, hr]
  have hbl : ∀ r b, blk μ r = some b → b < w.heap.size := fun r b hb => by
    unfold blk at hb
    cases hr : μ r with
    | none => rw [hr] at hb; cases hb
    | some p => rw [hr] at hb; simp at hb; have := M.size r p hr; omega
  have live0 : ∀ r, (H.get r).live → r ≠ r0 := fun r hl e => by
    obtain ⟨p, hp⟩ := (M.row r (vis_all r)).some hl
    rw [e, hn] at hp; cases hp
  refine ⟨⟨fun r _ => ?_, fun r s hrs _ _ ho hl => ?_, fun r hr => ?_, fun r hr => ?_, fun r p hp => ?_, fun r hr => ?_, hmk⟩, ⟨hle, by rw [wnew_size]; omega, rfl, rfl, rfl, fun b hb _ => wnew_old w o hb, fun r b hn' hb => ?_, fun r p hp ho => ?_⟩⟩
  · rw [hg]
    by_cases e : r = r0
    · rw [if_pos e]; subst e; exact hx
    · rw [if_neg e]; exact (M.row r (vis_all r)).keep hle fun b hb => wnew_old w o (hbl r b hb)
  · rw [hg] at ho hl
    by_cases er : r = r0
    · have es : s ≠ r0 := fun e => hrs (er.trans e.symm)
      rw [if_neg es] at hl
      obtain ⟨p, hp⟩ := (M.row s (vis_all s)).some hl
      have h1 : blk (μ.add r0 (w.heap.size, 0, N)) r = some w.heap.size := by rw [er]; simp [blk, Mu.add_same]
      have h2 : blk (μ.add r0 (w.heap.size, 0, N)) s = some p.1 := by simp [blk, hne s es, hp]
      rw [h1, h2]; have := M.size s p hp; intro e; simp at e; omega
    · by_cases es : s = r0
      · rw [if_neg er] at ho
        obtain ⟨p, hp⟩ := (M.row r (vis_all r)).some (Row.own_live ho)
        have h1 : blk (μ.add r0 (w.heap.size, 0, N)) s = some w.heap.size := by rw [es]; simp [blk, Mu.add_same]
        have h2 : blk (μ.add r0 (w.heap.size, 0, N)) r = some p.1 := by simp [blk, hne r er, hp]
        rw [h1, h2]; have := M.size r p hp; intro e; simp at e; omega
      · rw [if_neg er] at ho; rw [if_neg es] at hl
        have := M.apart r s hrs (vis_all r) (vis_all s) ho hl
        unfold blk at *; rw [hne r er, hne s es]; exact this
  · rw [hne r (by omega)]; exact M.dom r (by omega)
  · rw [hg, if_neg (by omega)]; exact M.dead r (by omega)
  · rw [wnew_size]
    by_cases e : r = r0
    · subst e; rw [Mu.add_same] at hp; cases hp; simp
    · rw [hne r e] at hp; have := M.size r p hp; omega
  · rw [hs]; exact M.hid r (by rw [← hhd]; exact hr)
  · by_cases e : r = r0
    · subst e; left
      simp [blk, Mu.add_same] at hb; omega
    · unfold blk at hb; rw [hne r e, hn'] at hb; cases hb
  · have : r ≠ r0 := fun e => by rw [e, hn] at hp; cases hp
    rw [hg, if_neg this] at ho; exact ho

theorem GoesW.alike {μ' : Mu} {h' : Heap} {w' w'' : World} (a : Alike w' w'') (G : GoesW μ h w μ' h' w') : GoesW μ h w μ' h' w'' :=
  ⟨G.le, by rw [a.heap]; exact G.size, a.os.trans G.os, a.output.trans G.output, a.tape.trans G.tape, fun b hb hn => by rw [a.heap]; exact G.same b hb hn, G.fresh, G.own⟩
theorem Models.part {H : Heap} (M : Models c P All μ H w) (hg : ∀ r, (h.get r).live → h.get r = H.get r) (hs : h.size = H.size) (hid : ∀ r, hidden r h.hide = true → r < h.size) (hm : h.mark ≤ h.size) : Models c P All (μ.below h.size) h w := by
  have lt : ∀ r, (h.get r).live → r < h.size := fun r hl => by
    rcases Nat.lt_or_ge r h.size with q | q
    · exact q
    · rw [hg r hl, M.dead r (by omega)] at hl; exact hl.elim
  refine ⟨fun r _ => ?_, fun r s hrs _ _ ho hl => ?_, fun r hr => Mu.below_ge hr, fun r hr => ?_, fun r p hp => M.size r p (Mu.below_le _ _ _ _ hp), hid, hm⟩
  · by_cases hl : (h.get r).live
    · rw [hg r hl]; exact RowR.cut (fun r hr => M.dom r (by omega)) (M.row r (vis_all r)) (M.row r (vis_all r))
    · rw [not_live hl]; trivial
  · have h1 := lt r (Row.own_live ho)
    have h2 := lt s hl
    rw [hg r (Row.own_live ho)] at ho; rw [hg s hl] at hl
    have := M.apart r s hrs (vis_all r) (vis_all s) ho hl
    unfold blk at *; rw [Mu.below_lt h1, Mu.below_lt h2]; exact this
  · exact not_live fun hl => by have := lt r hl; omega

/-- a heap of a function -/
def mkT (g : Nat → Row) : Nat → T Row
  | 0 => .nil
  | n + 1 => T.set .dead (mkT g n) n (g n)
theorem mkT_get (g : Nat → Row) : ∀ (n r : Nat), T.get .dead (mkT g n) r = if r < n then g r else .dead
  | 0, r => by simp [mkT, T.get_nil]
  | n + 1, r => by
    rw [mkT, T.get_set]
    by_cases e : n = r
    · subst e; simp
    · rw [if_neg e, mkT_get g n r]
      by_cases q : r < n
      · rw [if_pos q, if_pos (by omega)]
      · rw [if_neg q, if_neg (by omega)]
def mkHeap (g : Nat → Row) (n : Nat) (hide : List (Nat × Nat)) : Heap := ⟨n, mkT g n, 0, [], hide⟩
theorem mkHeap_get (g : Nat → Row) (n : Nat) (hide : List (Nat × Nat)) (r : Nat) : (mkHeap g n hide).get r = if hidden r hide then .dead else if r < n then g r else .dead := by
  rw [Heap.get_eq]; simp only [mkHeap, mkT_get]

/-! ### some temporaries alone -/
def keepT (tm : T AV) : List Tmp → T AV
  | [] => .nil
  | t :: l => T.set undef (keepT tm l) t (T.get undef tm t)
theorem keepT_get (tm : T AV) (l : List Tmp) (i : Nat) : T.get undef (keepT tm l) i = if i ∈ l then T.get undef tm i else undef := by
  induction l with
  | nil => simp [keepT, T.get_nil]
  | cons t l ih =>
    rw [keepT, T.get_set]
    by_cases e : t = i
    · subst e; simp
    · rw [if_neg e, ih]
      have : ¬ i = t := fun q => e q.symm
      simp [this]
def tmpsOf (l : List Operand) : List Tmp := l.filterMap fun | .tmp t => some t | _ => none
theorem mem_tmpsOf {l : List Operand} {t : Tmp} : t ∈ tmpsOf l ↔ Operand.tmp t ∈ l := by
  unfold tmpsOf
  rw [List.mem_filterMap]
  constructor
  · rintro ⟨x, hx, e⟩
    cases x <;> simp at e
    subst e; exact hx
  · intro h; exact ⟨_, h, rfl⟩
theorem ev_keepT {tm : T AV} {l : List Operand} {x : Operand} (hx : x ∈ l) : ev (keepT tm (tmpsOf l)) x = ev tm x := by
  cases x with
  | tmp t => show T.get undef (keepT tm (tmpsOf l)) t = T.get undef tm t; rw [keepT_get, if_pos (mem_tmpsOf.2 hx)]
  | _ => rfl
def keepA (a : Act) (l : List Tmp) : Act := { a with tmps := (Array.range a.tmps.size).map fun i => if i ∈ l then a.tmps.getD i Go.undef else Go.undef }
theorem keepA_get (a : Act) (l : List Tmp) (i : Nat) : (keepA a l).tmps.getD i Go.undef = if i ∈ l then a.tmps.getD i Go.undef else Go.undef := by
  unfold keepA
  simp only [Array.getD_eq_getD_getElem?, Array.getElem?_map, Array.getElem?_range]
  by_cases hi : i < a.tmps.size
  · simp [hi]
  · have : a.tmps[i]? = none := by simp; omega
    simp [hi]
theorem keepA_eval {a : Act} {l : List Operand} {x : Operand} (hx : x ∈ l) : (keepA a (tmpsOf l)).eval x = a.eval x := by
  cases x with
  | tmp t => show (keepA a (tmpsOf l)).tmps.getD t Go.undef = a.tmps.getD t Go.undef; rw [keepA_get, if_pos (mem_tmpsOf.2 hx)]
  | _ => rfl
theorem TmR.keep {f : FuncId} {a : Act} {tm : T AV} (H : TmR P f μ tm a.tmps) {n : Nat} {l : List Tmp} (hd : ∀ r, n ≤ r → μ' r = none) (hl : ∀ t ∈ l, ∃ v', VR μ' (T.get undef tm t) v') : TmR P f (μ.below n) (keepT tm l) (keepA a l).tmps := by
  refine ⟨fun fn hf => by simpa [keepA] using H.1 fn hf, fun i => ?_⟩
  rw [keepT_get, keepA_get]
  by_cases hi : i ∈ l
  · rw [if_pos hi, if_pos hi]
    obtain ⟨v', q⟩ := hl i hi
    exact (H.2 i).cut hd q
  · rw [if_neg hi, if_neg hi]; exact undef_R _

theorem OpRes.some {s : Sem Next} {R : Value → World → Prop} (H : OpRes P s w R (fun _ _ => False)) : ∃ v w', R v w' := by
  cases H with
  | value v w' _ h => exact ⟨v, w', h⟩
  | skip w' _ h => exact ⟨_, w', h⟩
  | panic v w' _ h => exact h.elim
  | enter f args w1 _ h =>
    obtain ⟨e, w', fr, hR, _⟩ := h []
    cases e with
    | returned v => exact ⟨v, w', hR⟩
    | panicked ch => obtain ⟨v, _, hF⟩ := hR; exact hF.elim
    | outgrown => exact hR.elim
  | round l f tmps as bd w1 _ h =>
    obtain ⟨e, w', hR, _⟩ := h default []
    cases e with
    | returned v => exact ⟨v, w', hR⟩
    | panicked ch => obtain ⟨v, _, hF⟩ := hR; exact hF.elim
    | outgrown => exact hR.elim
theorem Ends.mono {R R' Q Q' : Value → World → Prop} (hR : ∀ v w, R v w → R' v w) (hQ : ∀ v w, Q v w → Q' v w) {e : Ending} {w : World} (H : Ends R Q e w) : Ends R' Q' e w := by
  cases e with
  | returned v => exact hR _ _ H
  | panicked ch => obtain ⟨v, e, h⟩ := H; exact ⟨v, e, hQ _ _ h⟩
  | outgrown => exact H
theorem OpRes.mono {s : Sem Next} {R R' Q Q' : Value → World → Prop} (hR : ∀ v w, R v w → R' v w) (hQ : ∀ v w, Q v w → Q' v w) (H : OpRes P s w R Q) : OpRes P s w R' Q' := by
  cases H with
  | value v w' hr h => exact .value v w' hr (hR _ _ h)
  | skip w' hr h => exact .skip w' hr (hR _ _ h)
  | panic v w' hr h => exact .panic v w' hr (hQ _ _ h)
  | enter f args w1 hr h => exact .enter f args w1 hr (h.mono fun e w' q => Ends.mono hR hQ q)
  | round l f tmps as bd w1 hr h => exact .round l f tmps as bd w1 hr fun c cs => let ⟨e, w', q1, q2, q3⟩ := h c cs; ⟨e, w', Ends.mono hR hQ q1, q2, q3⟩
end Go.E
