/- E is sound, part 5: loops over functions, calls -/
import Derived.Test.YtmpbgfeidflbeaaGreatDoorEe
import Derived.RangeFuncRecord
import Derived.Test.YtmpbgfeidflbeaaGreatDoorEa
import Derived.Lib.Bytealg
/-! E, soundness, part 36: regions that draw. -/
namespace Go.E
variable {c : Cfg} {P : Program} {μ μ' : Mu} {h h' : Heap} {w w' : World}

theorem Models.congr' {h' : Heap} (M : Models c P All μ h w) (hg : ∀ r, h'.get r = h.get r) (hs : h'.size = h.size) (hh : ∀ r, hidden r h'.hide = true → r < h'.size) (hm : h'.mark ≤ h'.size) : Models c P All μ h' w :=
  ⟨fun r hv => by rw [hg]; exact M.row r hv, fun r s hrs a b => by rw [hg, hg]; exact M.apart r s hrs a b, fun r hr => M.dom r (by rw [← hs]; exact hr), fun r hr => by rw [hg]; exact M.dead r (by rw [← hs]; exact hr), M.size, hh, hm⟩
theorem GoesW.heaps {h1 h2 h1' h2' : Heap} (G : GoesW μ h1 w μ' h2 w') (e1 : ∀ r, h1'.get r = h1.get r) (e2 : ∀ r, h2'.get r = h2.get r) : GoesW μ h1' w μ' h2' w' :=
  ⟨G.le, G.size, G.os, G.output, G.tape, fun b hb hn => G.same b hb fun r ho => hn r (by rw [e1]; exact ho), fun r b hn hb => (G.fresh r b hn hb).imp id fun ⟨s, q1, q2⟩ => ⟨s, by rw [e1]; exact q1, q2⟩,
    fun r p hp ho => by rw [e1]; rw [e2] at ho; exact G.own r p hp ho⟩

section
variable {env : Env} {b : Frame} {fn : Func} {ops : Array Oper} {ls : Bool} {hide0 : List (Nat × Nat)} {tm0 : T AV} {size0 mark : Nat} {tr0 : T Row} {log0 : List Rng} {Ts : List Rec} {tmE : T AV} {sizeE : Nat} {trE : T Row}
  {μ0 : Mu} {w0 : World} {a0 : Act}

theorem drive (X : CtxR c P env b fn) (hop : ∀ (j : Nat) (o : Oper), ops[j]? = some o → OkOper P fn o) (G : RegOK ops) (gd : guardsOk ops (Region.before ops) = true) (M0 : Models c P All μ0 ⟨size0, tr0, mark, log0, hide0⟩ w0) (H0 : TmR P b.fn μ0 tm0 a0.tmps) (G0 : GlobR P μ0)
    (D : Dry c env ops (loose ops) hide0 tm0 size0 tr0 Ts tmE sizeE trE) (hone : Ts.length < ops.size → single (Region.before ops) ops.size Ts.length = true) (t : Nat) (k : List Item) (cs : List Frame) :
    ∃ μ' w' a' todo, Steps P (lone (b.atR a0 (.inRegion ops (Region.linearise .any ops t) :: k)) cs w0) (lone (b.atR a' (.inRegion ops todo :: k)) cs w') ∧ ((Ts.length = ops.size ∧ todo = []) ∨ (Ts.length < ops.size ∧ ∃ rest, todo = Ts.length :: rest)) ∧
      Models c P All μ' ⟨sizeE, trE, mark, logs mark log0 Ts, hide0⟩ w' ∧ Goes μ0 ⟨size0, tr0, mark, log0, hide0⟩ w0 μ' ⟨sizeE, trE, mark, logs mark log0 Ts, hide0⟩ w' ∧ TmR P b.fn μ' tmE a'.tmps ∧ a'.defers = a0.defers := by
  obtain ⟨⟨μd, wd, ad, Md, Hd, Gd⟩, HGd, sem⟩ := dry_sound X hop M0 H0 G0 D
  have hh0 : ∀ x, hidden x hide0 = true → x < size0 := M0.hid
  have hgl : P.globals.size ≤ size0 := by
    refine Nat.le_of_not_lt fun hlt => ?_
    obtain ⟨N, e⟩ := G0 size0 hlt
    rw [M0.dom size0 (Nat.le_refl _)] at e; cases e
  have h0E : size0 ≤ sizeE := HGd.rows
  have hnd0 : ∀ {Ts : List Rec} {ls : Bool}, Run c P env b.fn fn ops ls hide0 tm0 size0 tr0 Ts tmE sizeE trE → ∀ (j : Nat) (r : Rec), Ts[j]? = some r → r.ran = true → ∀ k, r.o.op ≠ .defer k := fun R j r hr hran => val_not_defer (.inl ((R.ok j r hr).run hran))
  let g0 : Heap := mkHeap (fun x => (⟨size0, tr0, mark, log0, hide0⟩ : Heap).get x) sizeE hide0
  have hget0 : ∀ x, g0.get x = (⟨size0, tr0, mark, log0, hide0⟩ : Heap).get x := fun x => by
    show (mkHeap _ sizeE hide0).get x = _
    rw [mkHeap_get]
    by_cases q : hidden x hide0 = true
    · rw [if_pos q]; exact (get_hidden (h := ⟨size0, tr0, mark, log0, hide0⟩) q).symm
    · rw [if_neg q]
      by_cases q2 : x < sizeE
      · rw [if_pos q2]
      · rw [if_neg q2]; exact (M0.dead x (by show size0 ≤ x; omega)).symm
  have Mg : Models c P All μ0 g0 w0 :=
    ⟨fun r hv => by rw [hget0]; exact M0.row r hv, fun r s hrs a b => by rw [hget0, hget0]; exact M0.apart r s hrs a b, fun r hr => M0.dom r (Nat.le_trans h0E hr), fun r hr => by rw [hget0]; exact M0.dead r (Nat.le_trans h0E hr), M0.size,
      fun r hr => Nat.lt_of_lt_of_le (hh0 r hr) h0E, Nat.zero_le _⟩
  have GW : GoesW μ0 ⟨size0, tr0, mark, log0, hide0⟩ w0 μ0 g0 w0 := (GoesW.refl μ0 _ w0).heaps (fun _ => rfl) hget0
  have hfuel : left ops.size (fun _ => false) ≤ ops.size := by
    unfold left
    simp
  have hl0 : ∀ i, (fun _ => false : Nat → Bool) i = (Array.replicate ops.size false).getD i false := fun i => by
    rw [Array.getD_eq_getD_getElem?, Array.getElem?_replicate]
    by_cases q : i < ops.size <;> simp [q]
  have hE : ∀ x, ¬ hidden x hide0 = true → (⟨sizeE, trE, mark, logs mark log0 Ts, hide0⟩ : Heap).get x = T.get .dead trE x := fun x hx => by rw [hget, if_neg hx]
  refine @id ?G ?_
  have fin : ∀ {RI : (Nat → Bool) → (Nat → Row) → Prop} {ls : Bool} (R : Run c P env b.fn fn ops ls hide0 tm0 size0 tr0 Ts tmE sizeE trE) {S' : Nat → Bool} {HS' : Heap} {μ' : Mu} {w' : World} {tm' : T AV} {a' : Act} {todo : List Nat},
      Steps P (lone (b.atR a0 (.inRegion ops (Region.linearise .any ops t) :: k)) cs w0) (lone (b.atR a' (.inRegion ops todo :: k)) cs w') → SInv c P b.fn ops hide0 size0 Ts tmE sizeE RI μ0 ⟨size0, tr0, mark, log0, hide0⟩ w0 a0.defers S' HS' μ' w' tm' a' →
      (∀ i, i < Ts.length → S' i = true) → ((Ts.length = ops.size ∧ todo = []) ∨ (Ts.length < ops.size ∧ ∃ rest, todo = Ts.length :: rest)) → (∀ x, hidden x hide0 = false → x < sizeE → HS'.get x = T.get .dead trE x) → ?G := by
    intro RI ls R S' HS' μ' w' tm' a' todo hst I hall htodo hrows
    have hget' : ∀ x, (⟨sizeE, trE, mark, logs mark log0 Ts, hide0⟩ : Heap).get x = HS'.get x := fun x => by
      by_cases q : hidden x hide0 = true
      · rw [get_hidden (h := ⟨sizeE, trE, mark, logs mark log0 Ts, hide0⟩) q]
        rw [← I.hide] at q; exact (get_hidden q).symm
      · rcases Nat.lt_or_ge x sizeE with q2 | q2
        · rw [hE x q, hrows x (by simpa using q) q2]
        · rw [Md.dead x q2]; exact (I.M.dead x (by rw [I.size]; exact q2)).symm
    refine ⟨μ', w', a', todo, hst, htodo, I.M.congr' hget' I.size.symm (fun r hr => Nat.lt_of_lt_of_le (hh0 r hr) h0E) (Nat.le_trans M0.mark h0E), ?_, ⟨I.tmR.1, fun i => ?_⟩, I.df⟩
    · exact GoesW.with (I.G.heaps (fun _ => rfl) hget') HGd I.dom0
    · have := SInv.agree R I (t := i) (Nat.le_refl _) fun k r hk _ => ⟨fun _ => (List.getElem?_eq_some_iff.1 hk).1, fun h => hall k h⟩
      rw [tmAt_end] at this
      rw [← this]; exact I.tmR.2 i
  have start : ∀ {RI : (Nat → Bool) → (Nat → Row) → Prop} {ls : Bool} (R : Run c P env b.fn fn ops ls hide0 tm0 size0 tr0 Ts tmE sizeE trE), RI (fun _ => false) g0.get →
      SInv c P b.fn ops hide0 size0 Ts tmE sizeE RI μ0 ⟨size0, tr0, mark, log0, hide0⟩ w0 a0.defers (fun _ => false) g0 μ0 w0 tm0 a0 := by
    intro RI ls R hRI
    refine ⟨Mg, GW, G0, rfl, rfl, H0, fun t => ⟨0, Nat.zero_le _, fun i r _ _ => by simp, by rw [R.z1]⟩, fun i r hr _ x hx _ => ?_, fun _ _ h => h, hRI, rfl, fun j o hj => (by cases hj), fun i hi => (by cases hi)⟩
    have := R.size0_le hr
    exact ⟨M0.dom x (by show size0 ≤ x; omega), by rw [hget0]; exact M0.dead x (by show size0 ≤ x; omega)⟩
  have want : ∀ {RI : (Nat → Bool) → (Nat → Row) → Prop} {ls : Bool} (R : Run c P env b.fn fn ops ls hide0 tm0 size0 tr0 Ts tmE sizeE trE) {S : Nat → Bool} {HS : Heap} {μ : Mu} {w : World} {tm : T AV} {a : Act} {j : Nat} {r : Rec},
      SInv c P b.fn ops hide0 size0 Ts tmE sizeE RI μ0 ⟨size0, tr0, mark, log0, hide0⟩ w0 a0.defers S HS μ w tm a → Ts[j]? = some r → Ready ops S j → Region.wanted r.o (yielded ops a.tmps) = r.ran := by
    intro RI ls R S HS μ w tm a j r I hr rd
    rw [← wants_eq I.tmR ops r.o, SInv.agree_guard R G I gd (Nat.le_of_lt (List.getElem?_eq_some_iff.1 hr).1) (R.ok j r hr).op rd, tmAt_some hr, ← (R.ok j r hr).ran]
  have R := Run.of (P := P) (f := b.fn) (fn := fn) D fun i r h => (sem i r h).1
  cases hlo : loose ops with
  | false =>
    rw [hlo] at R
    have hRI : RIA hide0 size0 Ts trE (fun _ => false) g0.get := by
      refine ⟨0, Nat.zero_le _, fun k r _ _ => by simp, fun x hx cr hc hS => ?_⟩
      have h0 : cr = 0 := by rcases hS with e | e; exact e; cases e
      subst h0
      rw [hget0, hget, if_neg (by simp [hx])]
      show _ = T.get .dead (trAt Ts trE 0) x
      rw [R.z3]
    obtain ⟨S', HS', μ', w', tm', a', todo, s1, s2, s3, s4⟩ := sim (k := k) (cs := cs) R G X.fn hone (want R) (fun I hr rd hran => stepA R X.K X.En G M0 hh0 hgl X.fn hop I hr rd hran) (fun I hr rd hran => skipA R G M0 X.fn hop I hr rd hran) (hnd0 R)
      ops.size t (Array.replicate ops.size false) (fun _ => false) g0 μ0 w0 tm0 a0 (by simp) hl0 hfuel (start R hRI)
    exact fin R s1 s2 s3 s4 fun x hx hlt => riA_end R s2.rows s3 hx hlt
  | true =>
    rw [hlo] at R
    have hRI : RIB hide0 size0 Ts trE (fun _ => false) g0.get := by
      intro x hx cr hc hS
      have h0 : cr = 0 := by rcases hS with e | e; exact e; cases e
      subst h0
      have : entsN Ts (fun _ => false) x 0 Ts.length = [] := by
        cases e : entsN Ts (fun _ => false) x 0 Ts.length with
        | nil => rfl
        | cons p l =>
          have : p ∈ entsN Ts (fun _ => false) x 0 Ts.length := by rw [e]; simp
          obtain ⟨_, _, _, _, h3, _⟩ := entsN_mem.1 this
          cases h3
      rw [this, withE_nil, R.z3, hget0, hget, if_neg (by simp [hx])]
    obtain ⟨S', HS', μ', w', tm', a', todo, s1, s2, s3, s4⟩ := sim (k := k) (cs := cs) R G X.fn hone (want R) (fun I hr rd hran => stepB R hlo X.K X.En G M0 hh0 hgl X.fn hop I hr rd hran) (fun I hr rd hran => skipB R hlo G M0 X.fn hop I hr rd hran) (hnd0 R)
      ops.size t (Array.replicate ops.size false) (fun _ => false) g0 μ0 w0 tm0 a0 (by simp) hl0 hfuel (start R hRI)
    exact fin R s1 s2 s3 s4 fun x hx hlt => riB_end R hlo s2.rows s3 hx hlt

theorem draw_sound {id : Nat} (X : CtxR c P env b fn) (hok : CheckCode.region P fn id ops true = .ok ()) (gd : guardsOk ops (Region.before ops) = true) : SoundC c P env b ⟨drawC c ops⟩ (.region id ops true) := by
  intro s s' ex a w μ k cs hr S hp
  obtain ⟨tm, ⟨size, tr, mark, log, hide⟩, df, pn⟩ := s
  obtain ⟨hop, hreg⟩ := region_ok hok
  have G := RegOK.of hreg
  obtain ⟨M0, D0⟩ := S.M.drawn (w.drawn + 1)
  have hst : step P (lone (b.atR a (.code (.region id ops true) :: k)) cs w) = .next (lone (b.atR a (.inRegion ops (Region.linearise .any ops (w.tape w.drawn (.order b.fn id))) :: k)) cs { w with drawn := w.drawn + 1 }) := by
    have := stepR_region_draw (P := P) (b := b) (a := a) (k := k) (cs := cs) (w := w) (ops := ops) (id := id)
    simpa only [Region.schedule, X.K.mixed, Bool.true_or, if_true] using this
  refine CodeR.of_steps (.one hst) ?_
  simp only [drawC] at hr
  rcases draw_inv (log0 := log) ops.toList [] [] tm size tr (by simp) .nil ⟨by simp, by simp⟩ hr with ⟨Ts, tmE, sizeE, trE, D, hlen, hres⟩ | ⟨Ts, tmE, sizeE, trE, o, hide1, v, h', D, PO, hres⟩
  · obtain ⟨rfl, rfl⟩ := Prod.mk.inj hres
    obtain ⟨μ', w', a', todo, s1, s2, s3, s4, s5, s6⟩ := drive X hop G gd M0 S.tm S.G D (by omega) (w.tape w.drawn (.order b.fn id)) k cs
    have htodo : todo = [] := by rcases s2 with ⟨_, h⟩ | ⟨h, _⟩; exact h; omega
    subst htodo
    refine ⟨μ', a', w', cs, ⟨s3, S.G.mono s4.le, s5, by rw [s6]; exact S.df.mono s4.le⟩, D0.trans S.M s4, CsR.refl _, hp.mono s4.le, s1.trans (.one stepR_region_end)⟩
  · obtain ⟨rfl, rfl⟩ := Prod.mk.inj hres
    obtain ⟨μ', w', a', todo, s1, s2, s3, s4, s5, s6⟩ := drive X hop G gd M0 S.tm S.G D (fun _ => PO.one) (w.tape w.drawn (.order b.fn id)) k cs
    have hTlt : Ts.length < ops.size := (Array.getElem?_eq_some_iff.1 PO.op).1
    obtain ⟨rest, rfl⟩ : ∃ rest, todo = Ts.length :: rest := by rcases s2 with ⟨h, _⟩ | ⟨_, h⟩; omega; exact h
    have ook := hop _ _ PO.op
    have hheq : ∀ x, hidden x hide1 = hidden x hide := fun x => by
      cases e : hidden x hide with
      | true => exact PO.hd.sub x e
      | false =>
        cases e1 : hidden x hide1 with
        | false => rfl
        | true =>
          exfalso
          rcases PO.hd.only x e1 with q | ⟨i, y, hy, hna, _⟩
          · rw [e] at q; cases q
          · have hi := (List.getElem?_eq_some_iff.1 hy).1
            rw [(single_ahead G PO.one (by omega) (by omega)).1 hi] at hna; cases hna
    have hge : ∀ x, (⟨sizeE, trE, sizeE, [], hide1⟩ : Heap).get x = (⟨sizeE, trE, mark, logs mark log Ts, hide⟩ : Heap).get x := fun x => by rw [hget, hget, hheq]
    have Mp : Models c P All μ' ⟨sizeE, trE, sizeE, [], hide1⟩ w' := s3.congr' hge rfl (fun r hr => s3.hid r (by show hidden r hide = true; rw [← hheq]; exact hr)) (Nat.le_refl _)
    have OP := op_sound (o := o) X.K X.En Mp s5 (S.G.mono s4.le) ook.opnd
    rw [PO.run] at OP
    rcases op_steps (b := b) (k := k) (cs := cs) (rest := rest) PO.op (by rw [← wants_eq s5]; exact PO.ran) (.inr (val_not_defer (.inr PO.run))) OP with ⟨v', w'', hF, _⟩ | ⟨v', w'', ⟨μ2, hv, M2, G2⟩, st⟩
    · exact hF.elim
    · have hget2 : ∀ x, (⟨h'.size, h'.tr, mark, below mark h'.log (logs mark log Ts), hide⟩ : Heap).get x = h'.get x := fun x => by
        rw [hget, Heap.get_eq, G2.hide]; show _ = if hidden x hide1 = true then _ else _; rw [hheq]
      have hm1 : mark ≤ sizeE := s3.mark
      have Gf : Goes μ' ⟨sizeE, trE, mark, logs mark log Ts, hide⟩ w' μ2 ⟨h'.size, h'.tr, mark, below mark h'.log (logs mark log Ts), hide⟩ w'' :=
        GoesW.with ((G2.gw Mp).heaps (fun x => (hge x).symm) hget2) (HG.lift G2.hg (fun x hx => by rw [hheq]; exact hx) hm1) G2.dom
      have M3 : Models c P All μ2 ⟨h'.size, h'.tr, mark, below mark h'.log (logs mark log Ts), hide⟩ w'' :=
        M2.congr' hget2 rfl (fun r hr => Nat.lt_of_lt_of_le (s3.hid r hr) G2.rows) (Nat.le_trans hm1 G2.rows)
      have Gt := (D0.trans S.M s4).trans S.M Gf
      exact ⟨μ2, a', w'', cs, ⟨M3, S.G.mono Gt.le, s5.mono Gf.le, by rw [s6]; exact S.df.mono Gt.le⟩, Gt, CsR.refl _, hp.mono Gt.le, v', _, hv, s1.trans st⟩
end
end Go.E
/-! E, soundness, part 37: ranges over functions; all code. -/
namespace Go.E
variable {c : Cfg} {P : Program} {μ μ' : Mu} {h h' : Heap} {w w' : World}

theorem Models.putObj (M : Models c P All μ h w) {r : Nat} {off n : Nat} {x : Row} {b base N : Nat} (hr : μ r = some (b, base, N)) (ho : (h.get r).own) (o : Obj)
    (hx : ∀ w', w'.heap[b]? = some o → RowR c P All μ w' r x) (hlg : ∀ i, ¬ inR (r, off, n) r i → sameAt (h.get r) x i) :
    Models c P All μ (h.put r off n x) (w.putObj b o) ∧ Goes μ h w μ (h.put r off n x) (w.putObj b o) := by
  have hb : b < w.heap.size := M.size r _ hr
  have e1 := World.putObj_heap_same (w := w) (o := o) hb
  exact M.put r off n x b base N hr ho o (by simp) rfl rfl rfl (fun c hc => World.putObj_heap_other hc) e1 (hx _ e1) hlg
theorem whole_log {r : Nat} {x y : Row} : ∀ i, ¬ inR (r, 0, whole) r i → sameAt x y i := fun _i hn => absurd ⟨rfl, Nat.zero_le _, .inl (Nat.le_refl _)⟩ hn
/-- a loop's record -/
theorem loop_row (M : Models c P All μ h w) {l : Nat} {r : ELoop} (e : h.get l = .loop r) : ∃ b base N l', μ l = some (b, base, N) ∧ w.heap[b]? = some (.loop l') ∧ LoopR P μ r l' := by
  have := M.row l (vis_all l)
  rw [e] at this
  exact this

section
variable {env : Env} {b : Frame} {fn : Func}

theorem jump_arr {m : Machine} {b : Frame} {k : List Item} {cs : List Frame} {a : Act} {p : Option Code} {e : Ex} (hb : b.roundOf = none) (hj : jumpOf p = some e) (hs : Steps P m (lone (b.atR a ((p.map Item.code).toList ++ k)) cs w)) : ArrE P m b k cs μ e a w := by
  cases p with
  | none => simp only [jumpOf, Option.some.injEq] at hj; subst hj; exact hs
  | some q =>
    cases q <;> simp only [jumpOf, Option.some.injEq] at hj <;> first | (cases hj; done) | skip
    · subst hj
      exact ⟨fun k' hk => hs.trans (.one (stepR_exit hk)), fun hr _ => by rw [hb] at hr; cases hr⟩
    · subst hj
      exact ⟨fun _ => ⟨_, hs.trans (.one (stepR_ret hb))⟩, fun hr => by rw [hb] at hr; cases hr⟩

theorem range_sound {f : Operand} {params : Array Tmp} {assign body : Code} (X : CtxR c P env b fn) (hg : CheckCode.operand P fn f = .ok ()) (hpar : ∀ p ∈ params.toList, p < fn.ntmps) (hwa : WfC P b.fn assign) (hwb : WfC P b.fn body) :
    SoundC c P env b ⟨rangeC f params assign body⟩ (.rangeFunc f params assign body) := by
  intro s s' ex a w μ k cs hr S hp
  obtain ⟨tm, h0, df, pn⟩ := s
  simp only [rangeC] at hr
  cases hro : env.rnd with
  | some l => rw [hro] at hr; cases hr
  | none =>
    rw [hro] at hr; simp only [] at hr
    have hb := X.rnd hro
    have hv : VR μ (ev tm f) (a.eval f) := ev_R S.tm S.G hg
    generalize ev tm f = A at hr hv
    cases A <;> (try simp only [] at hr) <;> first | (cases hr; done) | skip
    rename_i fv first cap
    cases fv <;> (try simp only [] at hr) <;> first | (cases hr; done) | skip
    rename_i g
    rw [Heap.next_eq] at hr
    simp only [rangeD, Heap.next_eq] at hr
    -- the two blocks
    have hm0 : μ h0.size = none := S.M.dom _ (Nat.le_refl _)
    obtain ⟨M1, G1⟩ := S.M.new (.deferred (some [])) (.dfr false) 0 ⟨w.heap.size, 0, 0, Mu.add_same _ _ _, by rw [wnew_new]; rfl⟩
    generalize hμ1 : μ.add h0.size (w.heap.size, 0, 0) = μ1 at M1 G1
    generalize hh1 : h0.new (.dfr false) = h1 at M1 G1 hr
    have hs1 : h1.size = h0.size + 1 := by rw [← hh1]; simp
    have hr1 : μ1 h0.size = some (w.heap.size, 0, 0) := by rw [← hμ1]; exact Mu.add_same _ _ _
    have hw1 : (wnew w (.deferred (some []))).heap.size = w.heap.size + 1 := wnew_size _ _
    let el : ELoop := { state := .ready, pending := none, fn := env.fid, tm := tm, params := params.toList, assign, body, defers := h0.size }
    let lp : Loop := { state := .ready, pending := none, fn := b.fn, tmps := a.tmps, params, assign, body, defers := w.heap.size }
    have hLR : ∀ μ', μ1.le μ' → LoopR P μ' el lp := fun μ' hle =>
      ⟨rfl, rfl, X.fid.symm, by show TmR P env.fid μ' tm a.tmps; rw [X.fid]; exact S.tm.mono (Mu.le_trans G1.le hle), rfl, rfl, rfl, ⟨0, 0, hle _ _ hr1⟩, by show WfC P env.fid assign; rw [X.fid]; exact hwa, by show WfC P env.fid body; rw [X.fid]; exact hwb,
        fun p hp fn' hf => by
          have hf' : P.funcs[b.fn]? = some fn' := by rw [← X.fid]; exact hf
          rw [X.fn] at hf'; cases hf'; exact hpar p hp⟩
    obtain ⟨M2, G2⟩ := M1.new (.loop lp) (.loop el) 0 ⟨_, 0, 0, lp, Mu.add_same _ _ _, wnew_new _ _, hLR _ (Mu.le_add (M1.dom _ (Nat.le_refl _)))⟩
    generalize hμ2 : μ1.add h1.size ((wnew w (.deferred (some []))).heap.size, 0, 0) = μ2 at M2 G2
    have hl2 : μ2 h1.size = some ((wnew w (.deferred (some []))).heap.size, 0, 0) := by rw [← hμ2]; exact Mu.add_same _ _ _
    have G12 := G1.trans S.M G2
    -- the call
    generalize hav : a.eval f = av at hv
    cases hv with
    | fn _ _ _ first' cap' _ h1v h2v =>
    cases hcall : env.C g (first ++ (.yld h1.size :: cap)) (h1.new (.loop el)) with
    | none => rw [hcall] at hr; cases hr
    | some p =>
      obtain ⟨o, h3⟩ := p
      rw [hcall] at hr
      obtain ⟨hc1, hc2⟩ := X.En.C g _ _ _ _ hcall
      have hargs : VL μ2 (first ++ (.yld h1.size :: cap)) (first'.toList ++ (Value.func (.yield (wnew w (.deferred (some []))).heap.size) #[] #[] :: cap'.toList)) :=
        (h1v.mono G12.le).append (.cons (.yld _ _ _ _ hl2) (h2v.mono G12.le))
      have hC := hc2 μ2 _ _ M2 (S.G.mono G12.le) hargs
      have he : (Instr.enterLoop b.fn a.tmps params assign body b.roundOf).run P w = .ok ((wnew w (.deferred (some []))).heap.size, [{ target := .collected w.heap.size, args := #[] }]) (wnew (wnew w (.deferred (some []))) (.loop lp)) := by
        rw [hb, run_enterLoop_outer, hw1]; rfl
      have hres : (resolve a.eval (rangeCall f (wnew w (.deferred (some []))).heap.size) 0).run P (wnew (wnew w (.deferred (some []))) (.loop lp)) =
          .ok { target := .fn (.func g) cap', args := first' ++ #[Value.func (.yield (wnew w (.deferred (some []))).heap.size) #[] #[]] } (wnew (wnew w (.deferred (some []))) (.loop lp)) := by
        simp only [resolve, hav, Deferred.ofValue, Sem.run_pure, List.map_toArray, List.map_cons, List.map_nil]
        rfl
      have hinv : (invoke (.fn (.func g) cap') (first' ++ #[Value.func (.yield (wnew w (.deferred (some []))).heap.size) #[] #[]])).run P (wnew (wnew w (.deferred (some []))) (.loop lp)) =
          .ok (.enter g (first'.toList ++ (Value.func (.yield (wnew w (.deferred (some []))).heap.size) #[] #[] :: cap'.toList)).toArray) (wnew (wnew w (.deferred (some []))) (.loop lp)) := by
        simp only [invoke, callFunc_run hc1]
        congr 2
        apply Array.ext'; simp
      have henter := stepR_rangeFunc (P := P) (b := b) (a := a) (k := k) (cs := cs) (w := w) he hres hinv
      generalize hmk : ([{ target := .collected w.heap.size, args := #[] }] : List Deferred) = mark at henter
      obtain ⟨en, w3, fr, hR, hsteps, _, hleave⟩ := hC (b.atR { a with defers := mark ++ a.defers } (.inRangeFunc (wnew w (.deferred (some []))).heap.size :: k) :: cs)
      have hdf : ∀ μ3, μ2.le μ3 → DfR μ3 ({ fn := none, blk := h0.size, args := [] } :: df) (mark ++ a.defers) := fun μ3 hle => by
        rw [← hmk]
        refine .cons ?_ (S.df.mono (Mu.le_trans G12.le hle))
        exact ⟨w.heap.size, 0, 0, hle _ _ (G2.le _ _ hr1), rfl⟩
      cases o with
      | ret v =>
        cases en with
        | panicked ch => exact hR.elim
        | outgrown => exact hR.elim
        | returned v' =>
          obtain ⟨μ3, _, M3, G3⟩ := hR
          simp only [rangeE] at hr
          cases hl3 : h3.get h1.size <;> rw [hl3] at hr <;> (try simp only [] at hr) <;> first | (cases hr; done) | skip
          rename_i r3
          obtain ⟨lb, base, N, l3, e1, e2, LR⟩ := loop_row M3 hl3
          have hlb : lb = (wnew w (.deferred (some []))).heap.size := by
            have := G3.le _ _ hl2
            rw [e1] at this; simp only [Option.some.injEq, Prod.mk.injEq] at this; exact this.1
          have hnb : l3.state ≠ .busy := fun q => by
            rw [LR.state] at q; rw [q] at hr; cases hr
          have hr2 : (match jumpOf r3.pending with
              | some e => some (e, ⟨tm, h3.put h1.size 0 whole (.loop { r3 with state := .exhausted }), { fn := none, blk := h0.size, args := [] } :: df, pn⟩)
              | none => none) = some (ex, s') := by
            cases hst : r3.state <;> rw [hst] at hr <;> first | exact hr | (exact absurd (LR.state.trans hst) hnb)
          cases hj : jumpOf r3.pending with
          | none => rw [hj] at hr2; cases hr2
          | some e =>
            rw [hj] at hr2; simp only [Option.some.injEq, Prod.mk.injEq] at hr2
            obtain ⟨rfl, rfl⟩ := hr2
            have hend := run_endLoop (P := P) e2 hnb
            obtain ⟨M4, G4⟩ := M3.putObj (off := 0) (n := whole) (x := .loop { r3 with state := .exhausted }) e1 (by rw [hl3]; trivial) (.loop { l3 with state := .exhausted })
              (fun w' hw => ⟨lb, base, N, _, e1, hw, ⟨rfl, LR.pending, LR.fn, LR.tm, LR.params, LR.assign, LR.body, LR.defers, LR.wfa, LR.wfb, LR.par⟩⟩) whole_log
            have Gt := (G12.trans S.M G3).trans S.M G4
            refine ⟨μ3, { a with defers := mark ++ a.defers }, _, cs, ⟨M4, S.G.mono Gt.le, S.tm.mono Gt.le, hdf _ G3.le⟩, Gt, CsR.refl _, hp.mono Gt.le, ?_⟩
            refine jump_arr hb (p := l3.pending) (by rw [LR.pending]; exact hj) ?_
            refine .head henter (Steps.trans hsteps (.head (step_leave_returned hleave) ?_))
            rw [finish_atR_inRangeFunc]
            exact .one (stepR_endRangeFunc (by rw [← hlb]; exact hend))
      | pan v =>
        cases en with
        | returned v' => exact hR.elim
        | outgrown => exact hR.elim
        | panicked ch =>
          obtain ⟨v', rfl, μ3, hv3, M3, G3⟩ := hR
          simp only [rangeE, Option.some.injEq, Prod.mk.injEq] at hr
          obtain ⟨rfl, rfl⟩ := hr
          have Gt := G12.trans S.M G3
          refine ⟨μ3, { a with defers := mark ++ a.defers }, _, cs, ⟨M3, S.G.mono Gt.le, S.tm.mono Gt.le, hdf _ G3.le⟩, Gt, CsR.refl _, hp.mono Gt.le, v', .inRangeFunc (wnew w (.deferred (some []))).heap.size :: k, hv3, ?_⟩
          refine .head henter (Steps.trans hsteps (.one ?_))
          rw [← Frame.raise_atR]; exact step_leave_panicked hleave

theorem foldM_ok {α : Type} {f : α → Except String PUnit} : ∀ {l : List α} {u v : PUnit}, l.foldlM (fun _ a => f a) u = .ok v → ∀ x ∈ l, f x = .ok ()
  | [], _, _, _, x, hx => by simp at hx
  | y :: l, u, v, h, x, hx => by
    rw [List.foldlM_cons] at h
    obtain ⟨_, h1, h2⟩ := bind_ok h
    rcases List.mem_cons.1 hx with rfl | hx
    · exact h1
    · exact foldM_ok h2 x hx
theorem arr_forM_ok {α : Type} {f : α → Except String PUnit} {ps : Array α} (h : ps.forM f = .ok ()) : ∀ x ∈ ps.toList, f x = .ok () := by
  unfold Array.forM at h
  rw [← Array.foldlM_toList] at h
  exact foldM_ok h
theorem stepR_scope {x : Code} {a : Act} {k : List Item} {cs : List Frame} : step P (lone (b.atR a (.code (.scope x) :: k)) cs w) = .next (lone (b.atR a (.code x :: .inScope x :: k)) cs w) :=
  step_lone_go (by simp [stepG, stepG.exec, Frame.atR])
theorem stepR_inScope {x : Code} {a : Act} {k : List Item} {cs : List Frame} : step P (lone (b.atR a (.inScope x :: k)) cs w) = .next (lone (b.atR a k) cs w) :=
  step_lone_go (by simp [stepG, stepG.exec, Frame.atR])
theorem comp_sound (X : CtxR c P env b fn) : ∀ (code : Code) (blocks labels : List Nat), CheckCode.code P fn blocks labels code = .ok () → goodDraws code = true → SoundC c P env b (comp c code) code := by
  intro code
  induction code with
  | skip =>
    intro bl la _ _ s s' ex a w μ k cs hr S hp
    simp only [comp, Option.some.injEq, Prod.mk.injEq] at hr; obtain ⟨rfl, rfl⟩ := hr
    exact ⟨μ, a, w, cs, S, Goes.refl _ _ _, CsR.refl _, hp, .one stepR_skip⟩
  | label l =>
    intro bl la _ _ s s' ex a w μ k cs hr S hp
    simp only [comp, Option.some.injEq, Prod.mk.injEq] at hr; obtain ⟨rfl, rfl⟩ := hr
    exact ⟨μ, a, w, cs, S, Goes.refl _ _ _, CsR.refl _, hp, .one stepR_label⟩
  | region id ops draw =>
    intro bl la hk hg
    rw [CheckCode.code] at hk
    cases draw with
    | false => exact region_sound X hk
    | true => exact draw_sound X hk hg
  | seq x y ih1 ih2 =>
    intro bl la hk hg
    rw [CheckCode.code] at hk
    obtain ⟨_, h1, h2⟩ := bind_ok hk
    simp only [goodDraws, Bool.and_eq_true] at hg
    exact seq_sound (ih1 bl la h1 hg.1) (ih2 bl la h2 hg.2)
  | cond g x y ih1 ih2 =>
    intro bl la hk hg
    rw [CheckCode.code] at hk
    obtain ⟨_, h0, hk⟩ := bind_ok hk
    obtain ⟨_, h1, h2⟩ := bind_ok hk
    simp only [goodDraws, Bool.and_eq_true] at hg
    exact cond_sound (mapError_ok h0) (ih1 bl la h1 hg.1) (ih2 bl la h2 hg.2)
  | block id x ih =>
    intro bl la hk hg
    rw [CheckCode.code] at hk
    exact block_sound (ih _ la hk hg)
  | loop x ih =>
    intro bl la hk hg
    rw [CheckCode.code] at hk
    exact loop_sound (ih bl la hk hg) c.fuel
  | scope x ih =>
    intro bl la hk hg s s' ex a w μ k cs hr S hp
    rw [CheckCode.code] at hk
    have H := ih bl _ hk hg s s' ex a w μ (.inScope x :: k) cs hr S hp
    refine CodeR.of_steps (.one stepR_scope) ?_
    obtain ⟨μ1, a1, w1, cs1, q1, q2, q3, q4, q5⟩ := H
    refine ⟨μ1, a1, w1, cs1, q1, q2, q3, q4, ?_⟩
    have hx : ∀ i, exitTo i (.inScope x :: k) = exitTo i k := fun i => by simp [exitTo]
    cases ex with
    | normal => exact Steps.trans q5 (.one stepR_inScope)
    | exit id => exact ⟨fun k' hk => q5.1 k' (by rw [hx]; exact hk), fun hr hk => q5.2 hr (by rw [hx]; exact hk)⟩
    | ret => exact q5
    | panic v => exact q5
  | exit id =>
    intro bl la _ _ s s' ex a w μ k cs hr S hp
    simp only [comp, Option.some.injEq, Prod.mk.injEq] at hr; obtain ⟨rfl, rfl⟩ := hr
    exact ⟨μ, a, w, cs, S, Goes.refl _ _ _, CsR.refl _, hp, fun k' hk => .one (stepR_exit hk), fun _ hk => ⟨k, hk, Steps.refl P _⟩⟩
  | ret =>
    intro bl la _ _ s s' ex a w μ k cs hr S hp
    simp only [comp, Option.some.injEq, Prod.mk.injEq] at hr; obtain ⟨rfl, rfl⟩ := hr
    exact ⟨μ, a, w, cs, S, Goes.refl _ _ _, CsR.refl _, hp, fun hb => ⟨_, .one (stepR_ret hb)⟩, fun _ => ⟨k, Steps.refl P _⟩⟩
  | rangeFunc f params x y ih1 ih2 =>
    intro bl la hk hg
    rw [CheckCode.code] at hk
    obtain ⟨_, h0, hk⟩ := bind_ok hk
    obtain ⟨_, h1, hk⟩ := bind_ok hk
    obtain ⟨_, _, hk⟩ := bind_ok hk
    obtain ⟨_, h2, h3⟩ := bind_ok hk
    simp only [goodDraws, Bool.and_eq_true] at hg
    refine range_sound X (mapError_ok h0) (fun p hp => ?_) ⟨hg.1, fn, _, _, X.fn, h2⟩ ⟨hg.2, fn, _, _, X.fn, h3⟩
    simpa using require_ok (arr_forM_ok h1 p hp)
  | goto l => intro bl la _ _ s s' ex a w μ k cs hr; simp only [comp] at hr; cases hr
  | refuse y => intro bl la _ _ s s' ex a w μ k cs hr; simp only [comp] at hr; cases hr
end
end Go.E
/-! E, soundness, part 38: functions, rounds, deferred calls. -/
namespace Go.E
variable {c : Cfg} {P : Program} {μ μ' : Mu} {h h' : Heap} {w w' : World}

/-! ### results -/
def resF (tmps : Array Value) : ResultVar → Sem Value
  | .tmp t => pure (tmps.getD t Go.undef)
  | .cell a t => do loadVar t (← asAddr (tmps.getD a Go.undef))
theorem results_eq (fn : Func) (tmps : Array Value) : results fn tmps = (do let vs ← fn.results.mapM (resF tmps); pure (if h : vs.size = 1 then vs[0] else .tuple vs)) := rfl
def resOne (c : Cfg) (tm : E.T AV) (h : Heap) : ResultVar → Option AV
  | .tmp t => some (T.get undef tm t)
  | .cell a t => match T.get undef tm a with | .ptr r off => loadE c t h r off | _ => none
theorem resE_cons (tm : E.T AV) (r : ResultVar) (l : List ResultVar) : resE c tm h (r :: l) = (match resOne c tm h r with | some v => (match resE c tm h l with | some vs => some (v :: vs) | none => none) | none => none) := by
  cases r <;> rfl
theorem res_sound (TO : TyOK c P) (M : Models c P All μ h w) {f : FuncId} {tm : E.T AV} {tmps : Array Value} (H : TmR P f μ tm tmps) : ∀ {l : List ResultVar} {vs : List AV}, resE c tm h l = some vs →
    ∃ vs', (l.mapM (resF tmps)).run P w = .ok vs' w ∧ VL μ vs vs'
  | [], vs, hr => by
    simp only [resE, Option.some.injEq] at hr; subst hr
    exact ⟨[], by simp, .nil⟩
  | r :: l, vs, hr => by
    rw [resE_cons] at hr
    have key : ∀ v, resOne c tm h r = some v → ∃ v', (resF tmps r).run P w = .ok v' w ∧ VR μ v v' := by
      intro v hv
      cases r with
      | tmp t =>
        simp only [resOne, Option.some.injEq] at hv; subst hv
        exact ⟨_, by simp [resF], H.2 t⟩
      | cell a t =>
        simp only [resOne] at hv
        have hR := H.2 a
        generalize T.get undef tm a = A at hv hR
        cases A <;> first | (cases hv; done) | skip
        rename_i r off
        generalize hq : tmps.getD a Go.undef = q at hR
        cases hR with
        | ptr _ _ b base N hm =>
          simp only [] at hv
          obtain ⟨v', q1, q2⟩ := load_sound TO M hv (fun n _ => Seen.all _ _ _) hm
          refine ⟨v', ?_, q2⟩
          simp only [resF, hq, asAddr, Sem.run_bind, Sem.run_pure, Result.andThen_ok]
          exact q1
    cases hv : resOne c tm h r with
    | none => rw [hv] at hr; cases hr
    | some v =>
      rw [hv] at hr; simp only [] at hr
      cases hl : resE c tm h l with
      | none => rw [hl] at hr; cases hr
      | some vs0 =>
        rw [hl] at hr; simp only [Option.some.injEq] at hr; subst hr
        obtain ⟨v', q1, q2⟩ := key v hv
        obtain ⟨vs', p1, p2⟩ := res_sound TO M H hl
        refine ⟨v' :: vs', ?_, .cons q2 p2⟩
        rw [List.mapM_cons]
        simp only [Sem.run_bind, q1, Result.andThen_ok, p1, Sem.run_pure]
theorem results_sound (TO : TyOK c P) (M : Models c P All μ h w) {f : FuncId} {fn : Func} {tm : E.T AV} {tmps : Array Value} (H : TmR P f μ tm tmps) {vs : List AV} (hr : resE c tm h fn.results.toList = some vs) :
    ∃ v', (results fn tmps).run P w = .ok v' w ∧ VR μ (tupOf vs) v' := by
  obtain ⟨vs', q1, q2⟩ := res_sound TO M H hr
  refine ⟨if hs : vs'.toArray.size = 1 then vs'.toArray[0] else .tuple vs'.toArray, ?_, ?_⟩
  · rw [results_eq, Array.mapM_eq_mapM_toList]
    simp only [Sem.run_bind, Sem.run_map]
    rw [q1]
    simp
  · cases q2 with
    | nil => exact .tup _ _ .nil
    | cons a t =>
      cases t with
      | nil => simpa [tupOf] using a
      | cons a' t' =>
        have hne : ∀ x y l, tupOf (x :: y :: l) = .tup (x :: y :: l) := fun _ _ _ => rfl
        rw [hne, dif_neg (by simp)]
        exact .tup _ _ (.cons a (.cons a' t'))

/-! ### the start of a function -/
theorem setAll_get : ∀ (l : List AV) (i : Nat) (tm : T AV) (j : Nat), T.get undef (setAll l i tm) j = if i ≤ j ∧ j < i + l.length then (l[j - i]?).getD undef else T.get undef tm j
  | [], i, tm, j => by
    rw [setAll, if_neg]
    simp
  | a :: l, i, tm, j => by
    rw [setAll, setAll_get l (i + 1), T.get_set]
    by_cases e : i = j
    · subst e
      rw [if_neg (by omega), if_pos rfl, if_pos (by simp)]
      simp
    · rw [if_neg e]
      by_cases q : i + 1 ≤ j ∧ j < i + 1 + l.length
      · rw [if_pos q, if_pos (by simp; omega)]
        rw [show j - i = (j - (i + 1)) + 1 from by omega, List.getElem?_cons_succ]
      · rw [if_neg q, if_neg (by simp at q ⊢; omega)]
theorem start_tmps {f : FuncId} {fn : Func} (hf : P.funcs[f]? = some fn) {args : List AV} {args' : List Value} (ha : VL μ args args') :
    TmR P f μ (setAll args 0 .nil) (args'.toArray ++ Array.replicate (fn.ntmps - args'.toArray.size) Go.undef) := by
  refine ⟨fun fn' hf' => ?_, fun i => ?_⟩
  · rw [hf] at hf'; cases hf'; simp; omega
  · rw [setAll_get]
    have hlen := ha.length
    rw [Array.getD_eq_getD_getElem?, Array.getElem?_append]
    by_cases hi : i < args.length
    · rw [if_pos (by omega), if_pos (by simpa [← hlen] using hi)]
      obtain ⟨v, q1, q2⟩ := ha.get i _ (List.getElem?_eq_getElem hi)
      simp only [Nat.sub_zero, List.getElem?_eq_getElem hi, Option.getD_some, List.getElem?_toArray, q1]
      exact q2
    · rw [if_neg (by omega), if_neg (by simp [← hlen]; omega), T.get_nil]
      have : ((Array.replicate (fn.ntmps - args'.toArray.size) Go.undef)[i - args'.toArray.size]?).getD Go.undef = Go.undef := by
        rw [Array.getElem?_replicate]; split <;> rfl
      rw [this]; exact undef_R _

/-- what a function is about to do -/
def UR (μ : Mu) : Option AV → FrameMode → Prop
  | none, u => u = .returning
  | some v, u => ∃ v', u = .panicking [{ v := v', recovered := false }] ∧ VR μ v v'
theorem UR.mono (hm : μ.le μ') {m : Option AV} {u : FrameMode} (H : UR μ m u) : UR μ' m u := by
  cases m with
  | none => exact H
  | some v => obtain ⟨v', h1, h2⟩ := H; exact ⟨v', h1, h2.mono hm⟩
theorem UR.not_run {m : Option AV} {u : FrameMode} (H : UR μ m u) : u ≠ .run := by
  cases m with
  | none => rw [show u = .returning from H]; simp
  | some v => obtain ⟨v', h1, h2⟩ := H; rw [h1]; simp
theorem UR.settled {m : Option AV} {u : FrameMode} (H : UR μ m u) : settle u = u := by
  cases m with
  | none => rw [show u = .returning from H]; rfl
  | some v => obtain ⟨v', h1, h2⟩ := H; rw [h1]; rfl
def mOf : Ex → Option (Option AV)
  | .normal => some none
  | .ret => some none
  | .panic v => some (some v)
  | .exit _ => none

theorem body_run (K : CfgOK c P) {env : Env} (En : EnvR c P env) {f : FuncId} (_hro : env.rnd = none) (hfid : env.fid = f) {fn : Func} {body : Code} (h1 : c.fn f = some fn) (h2 : fn.body = some body) {kd : CallKind} {args : List AV} {args' : List Value} {rc : Option (AV × Bool)} {e : Ex} {s' : St} {m : Option AV}
    (hr : (comp c body).run env ⟨setAll args 0 .nil, h, [], rc⟩ = some (e, s')) (hm : mOf e = some m) (M : Models c P All μ h w) (G : GlobR P μ) (ha : VL μ args args') {cs : List Frame}
    (hp : PnR μ { (default : Frame) with fn := f, kind := kd } cs rc) :
    ∃ μ' w' a todo cs' u, Steps P (lone (Frame.enter P f args'.toArray kd) cs w) (lone { ({ (default : Frame) with fn := f, kind := kd } : Frame).atR a todo with mode := u } cs' w') ∧ StR c P f μ' s' a w' ∧ Goes μ h w μ' s'.hp w' ∧
      CsR { (default : Frame) with fn := f, kind := kd } cs cs' ∧ PnR μ' { (default : Frame) with fn := f, kind := kd } cs' s'.pn ∧ UR μ' m u := by
  have hf := K.fn f fn h1
  obtain ⟨bl, la, hk⟩ := K.code f fn body hf h2
  have hg := K.good f fn body h1 h2
  let b : Frame := { (default : Frame) with fn := f, kind := kd }
  have X : CtxR c P env b fn := ⟨K, En, hf, fun _ => rfl, hfid⟩
  have henter : Frame.enter P f args'.toArray kd = b.atR { tmps := args'.toArray ++ Array.replicate (fn.ntmps - args'.toArray.size) Go.undef, defers := [] } [.code body] := by
    simp [Frame.enter, Frame.atR, hf, h2, b]; rfl
  rw [henter]
  obtain ⟨μ1, a1, w1, cs1, q1, q2, q3, q4, q5⟩ := comp_sound X body bl la hk hg _ s' e { tmps := args'.toArray ++ Array.replicate (fn.ntmps - args'.toArray.size) Go.undef, defers := [] } w μ [] cs hr ⟨M, G, start_tmps hf ha, .nil⟩ hp
  cases e with
  | normal =>
    simp only [mOf, Option.some.injEq] at hm; subst hm
    exact ⟨μ1, w1, a1, [], cs1, .returning, Steps.trans q5 (.one (stepR_end rfl)), q1, q2, q3, q4, rfl⟩
  | ret =>
    simp only [mOf, Option.some.injEq] at hm; subst hm
    obtain ⟨todo, hs⟩ := q5.1 rfl
    exact ⟨μ1, w1, a1, todo, cs1, .returning, hs, q1, q2, q3, q4, rfl⟩
  | panic v =>
    simp only [mOf, Option.some.injEq] at hm; subst hm
    obtain ⟨v', todo, hv, hs⟩ := q5
    exact ⟨μ1, w1, a1, todo, cs1, _, hs, q1, q2, q3, q4, v', rfl, hv⟩
  | exit id => cases hm

/-! ### deferred calls -/
def FunD (c : Cfg) (P : Program) (D : Task → Heap → Option (Out × Bool × Heap)) : Prop :=
  ∀ g args m h v rcd h', D (.fn g args m) h = some (.ret v, rcd, h') → Callable P g ∧ ∀ μ w args', Models c P All μ h w → GlobR P μ → VL μ args args' → ∀ (c0 : Frame) (cs : List Frame), UR μ m c0.mode →
    ∃ μ' w' fr v' u', Steps P (lone (Frame.enter P g args'.toArray .deferred) (c0 :: cs) w) (lone fr ({ c0 with mode := u' } :: cs) w') ∧ fr.kind = .deferred ∧ fr.going P w' (.returned v') ∧ Models c P All μ' h' w' ∧ Goes μ h w μ' h' w' ∧
      UR μ' (bif rcd then none else m) (settle u')
theorem defs_sound {D : Task → Heap → Option (Out × Bool × Heap)} (hD : FunD c P D) : ∀ (ds : List ADef) (m : Option AV) (h : Heap) (m' : Option AV) (h' : Heap), defs D ds m h = some (m', h') → ∀ (μ : Mu) (w : World) (fr : Frame) (cs : List Frame),
    Models c P All μ h w → GlobR P μ → DfR μ ds fr.defers → UR μ m fr.mode → ∃ μ' w' u', Steps P (lone fr cs w) (lone { fr with defers := [], mode := u' } cs w') ∧ Models c P All μ' h' w' ∧ Goes μ h w μ' h' w' ∧ UR μ' m' u' := by
  intro ds
  induction ds with
  | nil =>
    intro m h m' h' hr μ w fr cs M G hd hu
    simp only [defs, Option.some.injEq, Prod.mk.injEq] at hr; obtain ⟨rfl, rfl⟩ := hr
    obtain ⟨fn', tmps', todo', defers', mode', kind', ro'⟩ := fr
    cases hd
    exact ⟨μ, w, mode', Steps.refl P _, M, Goes.refl _ _ _, hu⟩
  | cons d ds ih =>
    intro m h m' h' hr μ w fr cs M G hd hu
    rw [defs] at hr
    generalize hdl : fr.defers = dl at hd
    cases hd with
    | cons hd1 hd2 =>
    rename_i d' dl'
    cases hfn : d.fn with
    | none =>
      rw [hfn] at hr; simp only [] at hr
      cases hg : h.get d.blk <;> rw [hg] at hr <;> first | (cases hr; done) | skip
      rename_i t
      cases t <;> first | (cases hr; done) | skip
      simp only [] at hr
      simp only [DefR1, hfn] at hd1
      obtain ⟨b, base, N, hb, rfl⟩ := hd1
      have hrow := M.row d.blk (vis_all _)
      rw [hg] at hrow
      obtain ⟨b', base', N', e1, e2⟩ := hrow
      rw [hb] at e1; cases e1
      simp only [Bool.false_eq_true, if_false] at e2
      have htake := run_takeDeferred (P := P) e2
      have hst := step_collected (cs := cs) hu.not_run hdl rfl htake
      obtain ⟨M1, G1⟩ := M.putObj (off := 0) (n := whole) (x := .dfr true) hb (by rw [hg]; trivial) (.deferred none) (fun w' hw => ⟨b, base, N, hb, hw⟩) whole_log
      obtain ⟨μ', w', u', s1, s2, s3, s4⟩ := ih m _ m' h' hr μ _ { fr with defers := [] ++ dl' } cs M1 (G.mono G1.le) hd2 hu
      exact ⟨μ', w', u', .head hst s1, s2, G1.trans M s3, s4⟩
    | some fv =>
      rw [hfn] at hr
      cases fv <;> (try simp only [] at hr) <;> first | (cases hr; done) | skip
      rename_i ff first cap
      cases ff <;> (try simp only [] at hr) <;> first | (cases hr; done) | skip
      rename_i g
      simp only [DefR1, hfn] at hd1
      obtain ⟨fn', first', cap', args', hv, hargs, rfl⟩ := hd1
      cases hv with
      | fn _ _ _ _ _ _ v1 v2 =>
      cases hcall : D (.fn g (first ++ (d.args ++ cap)) m) h with
      | none => rw [hcall] at hr; cases hr
      | some p =>
        obtain ⟨o, rcd, h1⟩ := p
        rw [hcall] at hr
        cases o with
        | pan v => cases hr
        | ret v =>
          simp only [] at hr
          obtain ⟨hc1, hc2⟩ := hD _ _ _ _ _ _ _ hcall
          have hvl : VL μ (first ++ (d.args ++ cap)) (first'.toList ++ (args' ++ cap'.toList)) := v1.append (hargs.append v2)
          have hinv : (invoke (.fn (.func g) cap') (first' ++ args'.toArray)).run P w = .ok (.enter g (first'.toList ++ (args' ++ cap'.toList)).toArray) w := by
            simp only [invoke, callFunc_run hc1]
            congr 2
            apply Array.ext'; simp
          have hst := step_defer (cs := cs) hu.not_run hdl rfl hinv
          obtain ⟨μ1, w1, frX, v', u1, s1, s2, s3, s4, s5, s6⟩ := hc2 μ w _ M G hvl { fr with defers := dl' } cs hu
          have hback := step_going_returned (c := { { fr with defers := dl' } with mode := u1 }) (cs := cs) s2 s3
          obtain ⟨μ', w', u', t1, t2, t3, t4⟩ := ih _ _ m' h' hr μ1 w1 { { { fr with defers := dl' } with mode := u1 } with mode := settle u1 } cs s4 (G.mono s5.le) (hd2.mono s5.le) s6
          exact ⟨μ', w', u', .head hst (Steps.trans s1 (.head hback t1)), t2, s5.trans M t3, t4⟩

/-! ### by the depth of calls -/
def FnF (c : Cfg) (n : Nat) (f : FuncId) : Fun := fun args h => match exec c n (.fn f args none) h with | some (o, _, h') => some (o, h') | none => none
def YlF (c : Cfg) (n : Nat) (l : Nat) : Fun := fun args h => match exec c n (.yld l args) h with | some (o, _, h') => some (o, h') | none => none
structure DepthR (c : Cfg) (P : Program) (n : Nat) : Prop where
  F : ∀ f, FunR c P f (FnF c n f)
  Y : YldR c P (YlF c n)
  D : FunD c P (exec c n)
theorem bodyOf_some {f : FuncId} {sb : SB} (h : bodyOf c f = some sb) : ∃ fn body, c.fn f = some fn ∧ fn.body = some body ∧ sb = ⟨comp c body, fn.ntmps, fn.results.toList⟩ := by
  unfold bodyOf at h
  cases h1 : c.fn f with
  | none => rw [h1] at h; cases h
  | some fn =>
    rw [h1] at h; simp only [] at h
    cases h2 : fn.body with
    | none => rw [h2] at h; cases h
    | some body => rw [h2] at h; simp only [Option.some.injEq] at h; exact ⟨fn, body, rfl, h2, h.symm⟩
def rcOf : Option AV → Option (AV × Bool)
  | some v => some (v, false)
  | none => none
def rcdOf : Option (AV × Bool) → Bool
  | some (_, b) => b
  | none => false
theorem exec_succ_fn (n : Nat) (f : FuncId) (args : List AV) (rc : Option AV) (h : Heap) : exec c (n + 1) (.fn f args rc) h = (match bodyOf c f with
    | some ⟨code, _, res⟩ => (match code.run ⟨FnF c n, YlF c n, none, f⟩ ⟨setAll args 0 .nil, h, [], rcOf rc⟩ with
      | some (e, ⟨tm, h1, df, pn⟩) => (match mOf e with
        | some m => (match defs (exec c n) df m h1 with
          | some (none, h2) => (match resE c tm h2 res with
            | some vs => some (.ret (tupOf vs), rcdOf pn, h2)
            | none => none)
          | some (some v, h2) => some (.pan v, rcdOf pn, h2)
          | none => none)
        | none => none)
      | none => none)
    | none => none) := rfl
/-- a call, taken apart -/
theorem exec_fn {n : Nat} {f : FuncId} {args : List AV} {rc : Option AV} {o : Out} {rcd : Bool} (hr : exec c (n + 1) (.fn f args rc) h = some (o, rcd, h')) :
    ∃ fn body e tm h1 df pn m m', c.fn f = some fn ∧ fn.body = some body ∧
      (comp c body).run ⟨FnF c n, YlF c n, none, f⟩ ⟨setAll args 0 .nil, h, [], rcOf rc⟩ = some (e, ⟨tm, h1, df, pn⟩) ∧ mOf e = some m ∧ defs (exec c n) df m h1 = some (m', h') ∧
      rcd = rcdOf pn ∧ (match m' with | none => ∃ vs, resE c tm h' fn.results.toList = some vs ∧ o = .ret (tupOf vs) | some v => o = .pan v) := by
  rw [exec_succ_fn] at hr
  cases hb : bodyOf c f with
  | none => rw [hb] at hr; cases hr
  | some sb =>
    obtain ⟨fn, body, h1, h2, rfl⟩ := bodyOf_some hb
    rw [hb] at hr; simp only [] at hr
    cases hrun : (comp c body).run ⟨FnF c n, YlF c n, none, f⟩ ⟨setAll args 0 .nil, h, [], rcOf rc⟩ with
    | none => rw [hrun] at hr; cases hr
    | some p =>
      obtain ⟨e, tm, h1', df, pn⟩ := p
      rw [hrun] at hr; simp only [] at hr
      cases hm : mOf e with
      | none => rw [hm] at hr; cases hr
      | some m =>
        rw [hm] at hr; simp only [] at hr
        cases hd : defs (exec c n) df m h1' with
        | none => rw [hd] at hr; cases hr
        | some q =>
          obtain ⟨m', h2'⟩ := q
          rw [hd] at hr
          cases m' with
          | none =>
            simp only [] at hr
            cases hre : resE c tm h2' fn.results.toList with
            | none => rw [hre] at hr; cases hr
            | some vs =>
              rw [hre] at hr; simp only [Option.some.injEq, Prod.mk.injEq] at hr
              obtain ⟨rfl, rfl, rfl⟩ := hr
              exact ⟨fn, body, e, tm, h1', df, pn, m, none, h1, h2, hrun, hm, hd, rfl, vs, hre, rfl⟩
          | some v =>
            simp only [Option.some.injEq, Prod.mk.injEq] at hr
            obtain ⟨rfl, rfl, rfl⟩ := hr
            exact ⟨fn, body, e, tm, h1', df, pn, m, some v, h1, h2, hrun, hm, hd, rfl, rfl⟩
theorem callable_of (K : CfgOK c P) {f : FuncId} {fn : Func} {body : Code} (h1 : c.fn f = some fn) (h2 : fn.body = some body) : Callable P f := ⟨fn, body, K.fn f fn h1, h2, K.names f fn h1⟩

theorem fun_step (K : CfgOK c P) {n : Nat} (N : DepthR c P n) (f : FuncId) : FunR c P f (FnF c (n + 1) f) := by
  intro args h o h' hr
  unfold FnF at hr
  cases he : exec c (n + 1) (.fn f args none) h with
  | none => rw [he] at hr; cases hr
  | some p =>
    obtain ⟨o', rcd, h''⟩ := p
    rw [he] at hr; simp only [Option.some.injEq, Prod.mk.injEq] at hr
    obtain ⟨rfl, rfl⟩ := hr
    obtain ⟨fn, body, e, tm, h1, df, pn, m, m', c1, c2, hrun, hm, hd, _, hout⟩ := exec_fn he
    refine ⟨callable_of K c1 c2, fun μ w args' M G ha cs => ?_⟩
    have En : EnvR c P ⟨FnF c n, YlF c n, none, f⟩ := ⟨N.F, N.Y⟩
    obtain ⟨μ1, w1, a1, todo, cs1, u, s1, s2, s3, s4, s5, s6⟩ := body_run (kd := .normal) K En rfl rfl c1 c2 hrun hm M G ha (cs := cs) (.inl rfl)
    have hcs : cs1 = cs := by
      rcases s4 with h | ⟨hk, _⟩
      · exact h
      · cases hk
    subst hcs
    obtain ⟨μ2, w2, u2, t1, t2, t3, t4⟩ := defs_sound N.D df m h1 m' h'' hd μ1 w1 { ({ (default : Frame) with fn := f, kind := .normal } : Frame).atR a1 todo with mode := u } cs1 s2.M s2.G s2.df s6
    have hf := K.fn f fn c1
    have Gt := s3.trans M t3
    cases m' with
    | none =>
      obtain ⟨vs, hre, rfl⟩ := hout
      obtain ⟨v', r1, r2⟩ := results_sound K.T t2 (s2.tm.mono t3.le) hre
      refine ⟨.returned v', w2, _, ⟨μ2, r2, t2, Gt⟩, Steps.trans s1 t1, rfl, ?_⟩
      exact ⟨t4, rfl, rfl, fn, hf, r1⟩
    | some v =>
      subst hout
      obtain ⟨v', hu, hv⟩ := t4
      refine ⟨.panicked [{ v := v', recovered := false }], w2, _, ⟨v', rfl, μ2, hv, t2, Gt⟩, Steps.trans s1 t1, rfl, ?_⟩
      exact ⟨hu, rfl, fn, hf⟩
theorem dfr_step (K : CfgOK c P) {n : Nat} (N : DepthR c P n) : FunD c P (exec c (n + 1)) := by
  intro g args m0 h v rcd h' hr
  obtain ⟨fn, body, e, tm, h1, df, pn, m, m', c1, c2, hrun, hm, hd, hrcd, hout⟩ := exec_fn hr
  refine ⟨callable_of K c1 c2, fun μ w args' M G ha c0 cs hu => ?_⟩
  have En : EnvR c P ⟨FnF c n, YlF c n, none, g⟩ := ⟨N.F, N.Y⟩
  have hp : PnR μ { (default : Frame) with fn := g, kind := .deferred } (c0 :: cs) (rcOf m0) := by
    cases m0 with
    | none => exact .inr ⟨rfl, c0, cs, rfl, hu⟩
    | some v => obtain ⟨v', hu1, hu2⟩ := hu; exact ⟨rfl, c0, cs, v', rfl, hu1, hu2⟩
  obtain ⟨μ1, w1, a1, todo, cs1, u, s1, s2, s3, s4, s5, s6⟩ := body_run (kd := .deferred) K En rfl rfl c1 c2 hrun hm M G ha (cs := c0 :: cs) hp
  obtain ⟨μ2, w2, u2, t1, t2, t3, t4⟩ := defs_sound N.D df m h1 m' h' hd μ1 w1 { ({ (default : Frame) with fn := g, kind := .deferred } : Frame).atR a1 todo with mode := u } cs1 s2.M s2.G s2.df s6
  have hf := K.fn g fn c1
  have Gt := s3.trans M t3
  cases m' with
  | some v => exact absurd hout (by simp)
  | none =>
    obtain ⟨vs, hre, _⟩ := hout
    obtain ⟨v', r1, r2⟩ := results_sound K.T t2 (s2.tm.mono t3.le) hre
    -- what became of the caller
    have hcs : ∃ u', cs1 = { c0 with mode := u' } :: cs ∧ UR μ2 (bif rcd then none else m0) (settle u') := by
      have same : ∀ {q : Option AV}, UR μ2 q c0.mode → ({ c0 with mode := c0.mode } : Frame) = c0 := fun _ => rfl
      rcases s4 with h | ⟨_, d, rest, x, k1, k2, k3⟩
      · refine ⟨c0.mode, h, ?_⟩
        rw [hu.settled]
        have hrf : rcd = false := by
          rw [hrcd]
          cases pn with
          | none => rfl
          | some p =>
            obtain ⟨y, r⟩ := p
            obtain ⟨_, d, rest, y', p1, p2, _⟩ := s5
            rw [h] at p1; cases p1
            cases m0 with
            | none => rw [show c0.mode = .returning from hu] at p2; cases p2
            | some z =>
              obtain ⟨z', hz, _⟩ := hu
              rw [hz] at p2
              simp only [FrameMode.panicking.injEq, List.cons.injEq, PanicEntry.mk.injEq, and_true] at p2
              exact p2.2.symm
        rw [hrf]; exact hu.mono Gt.le
      · cases k1
        refine ⟨_, k3, ?_⟩
        have hrt : rcd = true := by
          rw [hrcd]
          cases pn with
          | none =>
            rcases s5 with q | ⟨_, d', rest', q1, q2⟩
            · cases q
            · rw [k3] at q1; cases q1; cases q2
          | some p =>
            obtain ⟨y, r⟩ := p
            obtain ⟨_, d', rest', y', p1, p2, _⟩ := s5
            rw [k3] at p1; cases p1
            simp only [FrameMode.panicking.injEq, List.cons.injEq, PanicEntry.mk.injEq, and_true] at p2
            exact p2.2.symm
        rw [hrt]; rfl
    obtain ⟨u', e1, e2⟩ := hcs
    refine ⟨μ2, w2, _, v', u', Steps.trans s1 (by rw [← e1]; exact t1), rfl, ?_, t2, Gt, e2⟩
    exact ⟨t4, rfl, fn, hf, r1⟩

/-! ### rounds -/
theorem setPar_sound {f : FuncId} : ∀ {ps : List Tmp} {args : List AV} {args' : List Value} {tm tm' : T AV} {tmps : Array Value}, setPar ps args tm = some tm' → VL μ args args' → TmR P f μ tm tmps → (∀ p ∈ ps, ∀ fn, P.funcs[f]? = some fn → p < fn.ntmps) → (∃ fn, P.funcs[f]? = some fn) →
    args.length = ps.length ∧ TmR P f μ tm' ((ps.zip args').foldl (fun tmps (p : Tmp × Value) => tmps.setIfInBounds p.1 p.2) tmps)
  | [], [], _, tm, tm', tmps, hs, .nil, H, _, _ => by simp only [setPar, Option.some.injEq] at hs; subst hs; exact ⟨rfl, H⟩
  | [], _ :: _, _, _, _, _, hs, _, _, _, _ => by cases hs
  | _ :: _, [], _, _, _, _, hs, _, _, _, _ => by cases hs
  | p :: ps, a :: args, _, tm, tm', tmps, hs, .cons (v := v) h t, H, hp, ⟨fn, hf⟩ => by
    rw [setPar] at hs
    have H1 : TmR P f μ (T.set undef tm p a) (tmps.setIfInBounds p v) := by
      have := TmR.put (a := { tmps := tmps, defers := [] }) H hf (d := some p) (fun t ht => by cases ht; exact hp p (by simp) fn hf) h
      exact this
    obtain ⟨q1, q2⟩ := setPar_sound hs t H1 (fun q hq => hp q (by simp [hq])) ⟨fn, hf⟩
    exact ⟨by simp [q1], q2⟩
theorem exec_succ_yld (n l : Nat) (args : List AV) (h : Heap) : exec c (n + 1) (.yld l args) h = (match h.get l with
    | .loop r => (match setPar r.params args r.tm with
      | some tm => (match (comp c r.assign).run ⟨FnF c n, YlF c n, some l, r.fn⟩ ⟨tm, h, [], none⟩ with
        | some (.normal, ⟨tm1, h1, [], pn1⟩) => (match h1.get l with
          | .loop r1 => (match r1.state with
            | .ready => (match (comp c r.body).run ⟨FnF c n, YlF c n, some l, r.fn⟩ ⟨tm1, h1.put l 0 whole (.loop { r1 with state := .busy }), [], pn1⟩ with
              | some (e, ⟨_, h2, [], _⟩) => (match h2.get l with
                | .loop r2 => (match e with
                  | .normal => some (.ret (.bool true), false, h2.put l 0 whole (.loop { r2 with state := .ready, pending := none }))
                  | .ret => some (.ret (.bool false), false, h2.put l 0 whole (.loop { r2 with state := .done, pending := some .ret }))
                  | .exit i => some (.ret (.bool false), false, h2.put l 0 whole (.loop { r2 with state := .done, pending := some (.exit i) }))
                  | .panic v => some (.pan v, false, h2))
                | _ => none)
              | _ => none)
            | _ => none)
          | _ => none)
        | _ => none)
      | none => none)
    | _ => none) := rfl
theorem round_step (K : CfgOK c P) {n : Nat} (N : DepthR c P n) : YldR c P (YlF c (n + 1)) := by
  intro l args h o h' hr μ w args' lb base N0 M G ha hml
  unfold YlF at hr
  cases he : exec c (n + 1) (.yld l args) h with
  | none => rw [he] at hr; cases hr
  | some p =>
    obtain ⟨o', rcd, h''⟩ := p
    rw [he] at hr; simp only [Option.some.injEq, Prod.mk.injEq] at hr
    obtain ⟨rfl, rfl⟩ := hr
    rw [exec_succ_yld] at he
    cases hl : h.get l <;> rw [hl] at he <;> (try simp only [] at he) <;> first | (cases he; done) | skip
    rename_i r
    cases hsp : setPar r.params args r.tm with
    | none => rw [hsp] at he; cases he
    | some tm =>
      rw [hsp] at he; simp only [] at he
      obtain ⟨lb', base', N', lp, e1, e2, LR⟩ := loop_row M hl
      rw [hml] at e1; cases e1
      obtain ⟨hga, fn, bla, laa, hf, hka⟩ := LR.wfa
      obtain ⟨hgb, fn', blb, lab, hf', hkb⟩ := LR.wfb
      rw [hf] at hf'; cases hf'
      obtain ⟨hlen, Htm⟩ := setPar_sound hsp ha LR.tm LR.par ⟨fn, hf⟩
      have hsz : args'.toArray.size = lp.params.size := by
        have := ha.length
        have h2 : lp.params.size = r.params.length := by rw [← LR.params]; simp
        simp; omega
      have hy := run_yield (P := P) (args := args'.toArray) e2 hsz
      refine ⟨_, _, _, _, _, hy, fun cf cs => ?_⟩
      let b : Frame := { (default : Frame) with fn := lp.fn, kind := .normal, roundOf := some lb }
      have hbfn : b.fn = r.fn := LR.fn
      have En : EnvR c P ⟨FnF c n, YlF c n, some l, r.fn⟩ := ⟨N.F, N.Y⟩
      have X : CtxR c P ⟨FnF c n, YlF c n, some l, r.fn⟩ b fn := ⟨K, En, by rw [hbfn]; exact hf, fun q => (by cases q), hbfn.symm⟩
      have htm0 : (lp.params.zip args'.toArray).foldl (fun tmps (x : Tmp × Value) => tmps.setIfInBounds x.1 x.2) lp.tmps = (r.params.zip args').foldl (fun tmps (p : Tmp × Value) => tmps.setIfInBounds p.1 p.2) lp.tmps := by
        rw [← Array.foldl_toList, Array.toList_zip, LR.params]
      have hb0 : Frame.round lb lp.fn ((lp.params.zip args'.toArray).foldl (fun tmps (x : Tmp × Value) => tmps.setIfInBounds x.1 x.2) lp.tmps) lp.assign lp.body .normal =
          b.atR { tmps := (r.params.zip args').foldl (fun tmps (p : Tmp × Value) => tmps.setIfInBounds p.1 p.2) lp.tmps, defers := [] } [.code lp.assign, .beginRound, .code lp.body] := by
        rw [htm0]; simp [Frame.round, Frame.atR, b]
      have hb0' : lone (Frame.round lb lp.fn ((lp.params.zip args'.toArray).foldl (fun tmps (x : Tmp × Value) => match x with | (t, a) => tmps.setIfInBounds t a) lp.tmps) lp.assign lp.body .normal) (cf :: cs) w =
          lone (b.atR { tmps := (r.params.zip args').foldl (fun tmps (p : Tmp × Value) => tmps.setIfInBounds p.1 p.2) lp.tmps, defers := [] } [.code lp.assign, .beginRound, .code lp.body]) (cf :: cs) w := congrArg (fun fr => lone fr (cf :: cs) w) hb0
      rw [hb0']
      -- the assignments
      cases hra : (comp c r.assign).run ⟨FnF c n, YlF c n, some l, r.fn⟩ ⟨tm, h, [], none⟩ with
      | none => rw [hra] at he; cases he
      | some p1 =>
        obtain ⟨ea, tm1, h1, df1, pn1⟩ := p1
        rw [hra] at he
        cases ea <;> (try simp only [] at he) <;> first | (cases he; done) | skip
        cases df1 <;> (try simp only [] at he) <;> first | (cases he; done) | skip
        cases hl1 : h1.get l <;> rw [hl1] at he <;> (try simp only [] at he) <;> first | (cases he; done) | skip
        rename_i r1
        cases hst1 : r1.state <;> rw [hst1] at he <;> (try simp only [] at he) <;> first | (cases he; done) | skip
        have hassign : lp.assign = r.assign := LR.assign
        have hbody : lp.body = r.body := LR.body
        rw [hassign, hbody]
        have SA := comp_sound X r.assign bla laa hka hga ⟨tm, h, [], none⟩ _ _ { tmps := (r.params.zip args').foldl (fun tmps (p : Tmp × Value) => tmps.setIfInBounds p.1 p.2) lp.tmps, defers := [] } w μ [.beginRound, .code r.body] (cf :: cs) hra ⟨M, G, by rw [hbfn]; exact Htm, .nil⟩ (.inl rfl)
        obtain ⟨μ1, a1, w1, cs1, q1, q2, q3, q4, q5⟩ := SA
        have hcs1 : cs1 = cf :: cs := by
          rcases q3 with h | ⟨hk, _⟩
          · exact h
          · cases hk
        subst hcs1
        -- the record is busy
        obtain ⟨lb1, base1, N1, lp1, f1, f2, LR1⟩ := loop_row q1.M hl1
        have hlb1 : lb1 = lb := by
          have := q2.le _ _ hml
          rw [f1] at this; simp only [Option.some.injEq, Prod.mk.injEq] at this; exact this.1
        subst hlb1
        have hbr := run_beginRound (P := P) f2 (LR1.state.trans hst1)
        obtain ⟨M2, G2⟩ := q1.M.putObj (off := 0) (n := whole) (x := .loop { r1 with state := .busy }) f1 (by rw [hl1]; trivial) (.loop { lp1 with state := .busy })
          (fun w' hw => ⟨lb1, base1, N1, _, f1, hw, ⟨rfl, LR1.pending, LR1.fn, LR1.tm, LR1.params, LR1.assign, LR1.body, LR1.defers, LR1.wfa, LR1.wfb, LR1.par⟩⟩) whole_log
        have hst2 : step P (lone (b.atR a1 (.beginRound :: [.code r.body])) (cf :: cs) w1) = .next (lone (b.atR a1 [.code r.body]) (cf :: cs) (w1.putObj lb1 (.loop { lp1 with state := .busy }))) := stepR_beginRound (b := b) rfl hbr
        -- the body
        cases hrb : (comp c r.body).run ⟨FnF c n, YlF c n, some l, r.fn⟩ ⟨tm1, h1.put l 0 whole (.loop { r1 with state := .busy }), [], pn1⟩ with
        | none => rw [hrb] at he; cases he
        | some p2 =>
          obtain ⟨eb, tm2, h2, df2, pn2⟩ := p2
          rw [hrb] at he
          cases df2 <;> (try simp only [] at he) <;> first | (cases he; done) | skip
          have SB := comp_sound X r.body blb lab hkb hgb _ _ _ a1 _ μ1 [] (cf :: cs) hrb ⟨M2, q1.G.mono G2.le, q1.tm, q1.df⟩ q4
          obtain ⟨μ2, a2, w2, cs2, t1, t2, t3, t4, t5⟩ := SB
          have hcs2 : cs2 = cf :: cs := by
            rcases t3 with h | ⟨hk, _⟩
            · exact h
            · cases hk
          subst hcs2
          have hpre : Steps P (lone (b.atR { tmps := (r.params.zip args').foldl (fun tmps (p : Tmp × Value) => tmps.setIfInBounds p.1 p.2) lp.tmps, defers := [] } [.code r.assign, .beginRound, .code r.body]) (cf :: cs) w)
              (lone (b.atR a1 [.code r.body]) (cf :: cs) (w1.putObj lb1 (.loop { lp1 with state := .busy }))) := Steps.trans q5 (.one hst2)
          have G02 : Goes μ h w μ2 h2 w2 := (q2.trans M G2).trans M t2
          cases hl2 : h2.get l <;> rw [hl2] at he <;> (try simp only [] at he) <;> first | (cases he; done) | skip
          rename_i r2
          obtain ⟨lb2, base2, N2, lp2, g1, g2, LR2⟩ := loop_row t1.M hl2
          have hlb2 : lb2 = lb1 := by
            have := t2.le _ _ f1
            rw [g1] at this; simp only [Option.some.injEq, Prod.mk.injEq] at this; exact this.1
          subst hlb2
          -- the end of the round
          have fin : ∀ (jump : Option Code) (st : LoopState), st = (if jump.isNone then .ready else .done) →
              Models c P All μ2 (h2.put l 0 whole (.loop { r2 with state := st, pending := jump })) (w2.putObj lb2 (.loop { lp2 with state := if jump.isNone then .ready else .done, pending := jump })) ∧
              Goes μ2 h2 w2 μ2 (h2.put l 0 whole (.loop { r2 with state := st, pending := jump })) (w2.putObj lb2 (.loop { lp2 with state := if jump.isNone then .ready else .done, pending := jump })) := by
            intro jump st hst
            exact t1.M.putObj (off := 0) (n := whole) (x := .loop { r2 with state := st, pending := jump }) g1 (by rw [hl2]; trivial) (.loop { lp2 with state := if jump.isNone then .ready else .done, pending := jump })
              (fun w' hw => ⟨lb2, base2, N2, _, g1, hw, ⟨hst.symm, rfl, LR2.fn, LR2.tm, LR2.params, LR2.assign, LR2.body, LR2.defers, LR2.wfa, LR2.wfb, LR2.par⟩⟩) whole_log
          cases eb with
          | normal =>
            simp only [Option.some.injEq, Prod.mk.injEq] at he
            obtain ⟨rfl, _, rfl⟩ := he
            obtain ⟨M3, G3⟩ := fin none .ready rfl
            refine ⟨.returned (.bool true), _, ⟨μ2, .bool true, M3, G02.trans M G3⟩, by simp, ?_⟩
            exact Steps.trans hpre (Steps.trans t5 (.one (stepR_round_end (b := b) rfl rfl (run_endRound (P := P) none g2))))
          | ret =>
            simp only [Option.some.injEq, Prod.mk.injEq] at he
            obtain ⟨rfl, _, rfl⟩ := he
            obtain ⟨M3, G3⟩ := fin (some .ret) .done rfl
            obtain ⟨k₁, hs⟩ := t5.2 rfl
            refine ⟨.returned (.bool false), _, ⟨μ2, .bool false, M3, G02.trans M G3⟩, by simp, ?_⟩
            exact Steps.trans hpre (Steps.trans hs (.one (stepR_round_ret (b := b) rfl rfl (run_endRound (P := P) (some .ret) g2))))
          | exit i =>
            simp only [Option.some.injEq, Prod.mk.injEq] at he
            obtain ⟨rfl, _, rfl⟩ := he
            obtain ⟨M3, G3⟩ := fin (some (.exit i)) .done rfl
            obtain ⟨k₁, hk, hs⟩ := t5.2 rfl rfl
            refine ⟨.returned (.bool false), _, ⟨μ2, .bool false, M3, G02.trans M G3⟩, by simp, ?_⟩
            exact Steps.trans hpre (Steps.trans hs (.one (stepR_round_exit (b := b) rfl rfl hk (run_endRound (P := P) (some (.exit i)) g2))))
          | panic v =>
            simp only [Option.some.injEq, Prod.mk.injEq] at he
            obtain ⟨rfl, _, rfl⟩ := he
            obtain ⟨v', todo, hv, hs⟩ := t5
            refine ⟨.panicked [{ v := v', recovered := false }], w2, ⟨v', rfl, μ2, hv, t1.M, G02⟩, by simp, ?_⟩
            refine Steps.trans hpre (Steps.trans hs (.one ?_))
            have hdef : a2.defers = [] := by
              have := t1.df
              generalize a2.defers = dd at this
              cases this; rfl
            exact step_leave_panicked (fr := { b.atR a2 todo with mode := .panicking [{ v := v', recovered := false }] }) ⟨rfl, hdef, fn, by show P.funcs[b.fn]? = some fn; rw [hbfn]; exact hf⟩
theorem depth_sound (K : CfgOK c P) : ∀ n, DepthR c P n
  | 0 => ⟨fun f args h o h' hr => by simp [FnF, exec] at hr, fun l args h o h' hr => by simp [YlF, exec] at hr, fun g args m h v rcd h' hr => by simp [exec] at hr⟩
  | n + 1 => let N := depth_sound K n; ⟨fun_step K N, round_step K N, dfr_step K N⟩
/-- a call that E knows -/
theorem call_sound (K : CfgOK c P) {n : Nat} {f : FuncId} {args : List AV} {v : AV} (hr : call c n f args h = some (.ret v, h')) (M : Models c P All μ h w) (G : GlobR P μ) {args' : List Value} (ha : VL μ args args') :
    Calls P f args'.toArray w fun e w' => ∃ v' μ', e = .returned v' ∧ VR μ' v v' ∧ Models c P All μ' h' w' ∧ Goes μ h w μ' h' w' := by
  have := ((depth_sound K n).F f args h (.ret v) h' hr).2 μ w args' M G ha
  refine this.mono fun e w' H => ?_
  cases e with
  | returned v' => obtain ⟨μ', h1, h2, h3⟩ := H; exact ⟨v', μ', rfl, h1, h2, h3⟩
  | panicked ch => exact H.elim
  | outgrown => exact H.elim
end Go.E
/-! E, soundness, part 39: functions without a body. -/
namespace Go.E
variable {c : Cfg} {P : Program} {μ μ' : Mu} {h h' : Heap} {w w' : World}

theorem ext_run {f : FuncId} {fn : Func} {e : Array Value → Sem Value} {args : Array Value} (hf : P.funcs[f]? = some fn) (hb : fn.body = none) (hn : (fn.name == "runtime.NumGoroutine") = false) (h1 : Extern.findNext fn = none) (h2 : Extern.find fn = some e) :
    (callFunc f args).run P w = ((e args).run P w).andThen fun v w => .ok (.value v) w := by
  simp only [callFunc, Sem.run_bind, run_program, Result.andThen_ok, hf, hn, hb, Option.isNone_none, if_true, Bool.false_eq_true, if_false, run_mark, h1, h2, Sem.run_pure]
theorem byteAt_eq (b : UInt8) (n : Int) : byteAt b n = (b == n.toNat.toUInt8) := by
  have hc : n.toNat.toUInt8.toNat = n.toNat % 256 := by simp
  unfold byteAt
  cases h : Nat.beq b.toNat (n.toNat % 256) with
  | true =>
    have := Nat.eq_of_beq_eq_true h
    have : b = n.toNat.toUInt8 := UInt8.toNat_inj.1 (by rw [hc]; exact this)
    simp [this]
  | false =>
    have : ¬ b = n.toNat.toUInt8 := fun e => by
      have : b.toNat = n.toNat % 256 := by rw [e]; exact hc
      rw [this, Nat.beq_refl] at h; cases h
    simp [this]
theorem indexByteL_eq (n : Int) : ∀ (s : List UInt8) (i : Nat), indexByteL n s i = if Lib.indexByte s n.toNat.toUInt8 = -1 then -1 else (i : Int) + Lib.indexByte s n.toNat.toUInt8
  | [], i => by simp [indexByteL, Lib.indexByte]
  | b :: l, i => by
    rw [indexByteL, byteAt_eq, Lib.indexByte, indexByteL_eq n l (i + 1)]
    have hge := Lib.indexByte_ge l n.toNat.toUInt8
    cases hb : b == n.toNat.toUInt8 with
    | true => simp
    | false =>
      simp only [cond_false, Bool.false_eq_true, if_false, beq_iff_eq]
      by_cases q : Lib.indexByte l n.toNat.toUInt8 = -1
      · rw [if_pos q, if_pos q]; simp
      · rw [if_neg q, if_neg q, if_neg (by omega)]; omega
theorem countL_eq (n : Int) : ∀ (s : List UInt8) (k : Nat), countL n s k = k + Lib.countByte s n.toNat.toUInt8
  | [], k => by simp [countL, Lib.countByte]
  | b :: l, k => by
    rw [countL, byteAt_eq]
    unfold Lib.countByte
    rw [List.count_cons]
    cases hb : b == n.toNat.toUInt8 with
    | true => simp only [cond_true, if_true]; rw [countL_eq n l]; unfold Lib.countByte; omega
    | false => simp only [cond_false, Bool.false_eq_true, if_false]; rw [countL_eq n l]; unfold Lib.countByte; omega
theorem two_args {a b : AV} {args' : List Value} (ha : VL μ [a, b] args') : ∃ x y, args' = [x, y] ∧ VR μ a x ∧ VR μ b y := by
  cases ha with
  | cons h1 t => cases t with
    | cons h2 t => cases t; exact ⟨_, _, rfl, h1, h2⟩
theorem indexByte_call {f : FuncId} {fn : Func} (hf : P.funcs[f]? = some fn) (hb : fn.body = none) (hn : (fn.name == "runtime.NumGoroutine") = false) (h1 : Extern.findNext fn = none) (h2 : Extern.find fn = some Extern.BytealgIndexByte.indexByte) : CallR c P f xIndexByte := by
  intro args h o h' hr
  right
  intro μ w args' M G ha
  unfold xIndexByte at hr
  split at hr
  · rename_i s n
    simp only [Option.some.injEq, Prod.mk.injEq] at hr
    obtain ⟨rfl, rfl⟩ := hr
    obtain ⟨x, y, rfl, hx, hy⟩ := two_args ha
    cases hx with
    | str _ b hs =>
    cases hy with
    | int _ _ =>
    refine ⟨_, .int .i64 (Lib.indexByte b.data.toList n.toNat.toUInt8), w, rfl, ?_, μ, ?_, M, Goes.refl _ _ _⟩
    · rw [ext_run hf hb hn h1 h2, Lib.run_indexByteString]; rfl
    · rw [indexByteL_eq, hs]
      have : (if Lib.indexByte s n.toNat.toUInt8 = -1 then -1 else ((0 : Nat) : Int) + Lib.indexByte s n.toNat.toUInt8) = Lib.indexByte s n.toNat.toUInt8 := by
        by_cases q : Lib.indexByte s n.toNat.toUInt8 = -1
        · rw [if_pos q, q]
        · rw [if_neg q]; omega
      rw [this]; exact .int _ _
  · cases hr
theorem count_call {f : FuncId} {fn : Func} (hf : P.funcs[f]? = some fn) (hb : fn.body = none) (hn : (fn.name == "runtime.NumGoroutine") = false) (h1 : Extern.findNext fn = none) (h2 : Extern.find fn = some Extern.BytealgCount.count) : CallR c P f xCount := by
  intro args h o h' hr
  right
  intro μ w args' M G ha
  unfold xCount at hr
  split at hr
  · rename_i s n
    simp only [Option.some.injEq, Prod.mk.injEq] at hr
    obtain ⟨rfl, rfl⟩ := hr
    obtain ⟨x, y, rfl, hx, hy⟩ := two_args ha
    cases hx with
    | str _ b hs =>
    cases hy with
    | int _ _ =>
    refine ⟨_, .int .i64 (Lib.countByte b.data.toList n.toNat.toUInt8), w, rfl, ?_, μ, ?_, M, Goes.refl _ _ _⟩
    · rw [ext_run hf hb hn h1 h2, Lib.run_countString]; rfl
    · rw [countL_eq, hs, Nat.zero_add]; exact .int _ _
  · cases hr
end Go.E
