/-
  The value layer, part 16: what a point of a text promises to the machine. (Own work.)
-/
import Derived.Test.YteaiflgcgpaclaaGreatDoorWB
import Derived.AtR
set_option linter.unusedVariables false
set_option linter.unusedSimpArgs false
namespace Go.VL

variable {P : Program} {C : Codes} {S : Sigs} {E : Entry} {w : World} {K : Nat → Prop} {m : Nat → Option (Option Nat)} {free : Nat → Prop}

/-- An activation: of which function; of which round; which calls are deferred; where it must come to. -/
structure Fm where
  f : FuncId
  ro : Option Nat
  ds : List Deferred
  G : List Frame → Machine → Prop

/-- From a point of its text, an activation comes where it must. -/
def Runs (P : Program) (F : Fm) (a : Act) (w : World) (todo : List Item) : Prop :=
  ∀ (b : Frame) (cs : List Frame), b.fn = F.f → b.kind = .normal → b.roundOf = F.ro → ∃ M, Steps P (lone (b.atR { tmps := a.tmps, defers := F.ds } todo) cs w) M ∧ F.G cs M

/-- The end of a function. -/
def endG (P : Program) (f : FuncId) (R : Ending → World → Prop) (cs : List Frame) (M : Machine) : Prop :=
  ∃ v w' fr, R (.returned v) w' ∧ M = lone fr cs w' ∧ fr.fn = f ∧ fr.leaving P w' (.returned v)
abbrev Fm.fn (P : Program) (f : FuncId) (R : Ending → World → Prop) : Fm := ⟨f, none, [], endG P f R⟩

variable {F : Fm} {f : FuncId} {R : Ending → World → Prop} {a : Act} {k : List Item}

theorem Runs.next {a' : Act} {w' : World} {todo todo' : List Item} (hs : ∀ (b : Frame) (cs : List Frame), step P (lone (b.atR { tmps := a.tmps, defers := F.ds } todo) cs w) = .next (lone (b.atR { tmps := a'.tmps, defers := F.ds } todo') cs w'))
    (h : Runs P F a' w' todo') : Runs P F a w todo :=
  fun b cs hb hk hr => let ⟨M, h1, h2⟩ := h b cs hb hk hr; ⟨M, Steps.trans (.one (hs b cs)) h1, h2⟩

theorem stepR_scope' {b : Frame} {cs : List Frame} {c : Code} : step P (lone (b.atR a (.code (.scope c) :: k)) cs w) = .next (lone (b.atR a (.code c :: .inScope c :: k)) cs w) :=
  step_lone_go (by simp [stepG, stepG.exec, Frame.atR])
theorem stepR_inScope' {b : Frame} {cs : List Frame} {c : Code} : step P (lone (b.atR a (.inScope c :: k)) cs w) = .next (lone (b.atR a k) cs w) :=
  step_lone_go (by simp [stepG, stepG.exec, Frame.atR])

theorem Runs.ret {fn : Func} {v : Value} (hf : P.funcs[f]? = some fn) (hr : (results fn a.tmps).run P w = .ok v w) (hR : R (.returned v) w) {todo : List Item} (ht : todo = [] ∨ ∃ k, todo = .code .ret :: k) :
    Runs P (.fn P f R) a w todo := by
  intro b cs hb hk hro
  have hf' : P.funcs[(Fm.fn P f R).f]? = some fn := hf
  have hs : step P (lone (b.atR { tmps := a.tmps, defers := [] } todo) cs w) = .next (lone { b.atR { tmps := a.tmps, defers := [] } todo with mode := .returning } cs w) := by
    rcases ht with rfl | ⟨k, rfl⟩
    · exact stepR_end hro
    · exact stepR_ret hro
  exact ⟨_, Steps.one hs, v, w, _, hR, rfl, hb, rfl, rfl, hk, fn, by rw [← hb] at hf'; exact hf', hr⟩

theorem calls_false {f : FuncId} {args : Array Value} {R : Ending → World → Prop} (h : Calls P f args w R) (hR : ∀ e w', ¬ R e w') : False := by
  obtain ⟨e, w', _, h, _⟩ := h []
  exact hR e w' h
theorem rows_false {row : String} {args : Array Value} {R : Value → World → Prop} (h : Rows P row args w R) (hR : ∀ e w', ¬ R e w') : False := by
  obtain ⟨e, w', h, _⟩ := h default []
  exact hR e w' h

/-- Nothing is deferred here. -/
theorem wp_noDefer {o : Oper} {Q : Act → World → Prop} (h : o.wp P a w (fun a' w' => a'.defers = [] ∧ Q a' w') (fun _ _ _ => False)) : ∀ c, o.op ≠ .defer c := by
  intro c hc
  unfold Oper.wp at h
  simp only [execOp, hc] at h
  rw [Sem.run_bind] at h
  cases hr : (resolve a.eval c o.type).run P w with
  | ok d w' =>
    rw [hr] at h
    simp only [Result.andThen_ok, Sem.run_pure, Oper.upon] at h
    have h := h.1
    cases hd : o.dst <;> simp [Act.put, hd] at h
  | halt x w' =>
    rw [hr] at h
    cases x <;> simp [Result.andThen, Oper.upon] at h

theorem Runs.op {ops : Array Oper} {i : Nat} {rest : List Nat} {o : Oper} (ho : ops[i]? = some o) (hw : Region.wanted o (yielded ops a.tmps) = true)
    (h : o.wp P a w (fun a' w' => a'.defers = [] ∧ Runs P F a' w' (.inRegion ops rest :: k)) (fun _ _ _ => False)) : Runs P F a w (.inRegion ops (i :: rest) :: k) := by
  intro b cs hb hk hro
  have hnd := wp_noDefer h
  have hg := stepGR_op (P := P) (b := b) (a := { tmps := a.tmps, defers := F.ds }) (k := k) (cs := cs) (w := w) (rest := rest) ho hw
  rw [Oper.semAt_eq _ _ _ hnd] at hg
  have hev : ({ tmps := a.tmps, defers := F.ds } : Act).eval = a.eval := by funext x; cases x <;> rfl
  rw [hev] at hg
  have hput : ∀ v, (({ tmps := a.tmps, defers := F.ds } : Act).put o.dst v) = { tmps := (a.put o.dst v).tmps, defers := F.ds } := by
    intro v; cases hd : o.dst <;> simp [Act.put]
  have hfin : ∀ v, (b.atR { tmps := a.tmps, defers := F.ds } (.inRegion ops (i :: rest) :: k)).finish v = b.atR { tmps := (a.put o.dst v).tmps, defers := F.ds } (.inRegion ops rest :: k) := by
    intro v; rw [Frame.finish_atR, ho, ← hput]; rfl
  simp only [Oper.wp, Oper.upon] at h
  split at h
  · rename_i v w' hr
    obtain ⟨M, h1, h2⟩ := h.2 b cs hb hk hro
    refine ⟨M, Steps.trans (.one (step_lone_go ?_)) h1, h2⟩
    rw [hg, ← hfin]; simp [stepG.apply, hr]
  · rename_i w' hr
    obtain ⟨M, h1, h2⟩ := h.2 b cs hb hk hro
    refine ⟨M, Steps.trans (.one (step_lone_go ?_)) h1, h2⟩
    rw [hg, ← hfin]; simp [stepG.apply, hr]
  · rename_i d w' hr
    exfalso
    have h := h.1
    cases hd : o.dst <;> simp [Act.put, hd] at h
  · rename_i g args w' hr
    obtain ⟨e, w'', fr, hR, hsteps, _, hleave⟩ := h (b.atR { tmps := a.tmps, defers := F.ds } (.inRegion ops (i :: rest) :: k) :: cs)
    have henter : step P (lone (b.atR { tmps := a.tmps, defers := F.ds } (.inRegion ops (i :: rest) :: k)) cs w) =
        .next (lone (Frame.enter P g args .normal) (b.atR { tmps := a.tmps, defers := F.ds } (.inRegion ops (i :: rest) :: k) :: cs) w') :=
      step_lone_go (by rw [hg]; simp [stepG.apply, hr, Frame.atR])
    cases e with
    | returned v =>
      obtain ⟨M, h1, h2⟩ := hR.2 b cs hb hk hro
      refine ⟨M, Steps.trans (.head henter (Steps.trans hsteps (.one ?_))) h1, h2⟩
      rw [← hfin]; exact step_leave_returned hleave
    | panicked chain => exact hR.elim
    | outgrown => obtain ⟨_, _, hq⟩ := hR; exact hq.elim
  · rename_i row args w' hr
    obtain ⟨v, w'', hR, hsteps⟩ := h (b.atR { tmps := a.tmps, defers := F.ds } (.inRegion ops (i :: rest) :: k)) cs
    have henter : step P (lone (b.atR { tmps := a.tmps, defers := F.ds } (.inRegion ops (i :: rest) :: k)) cs w) =
        .next (lone (Frame.ofRow P row args .normal) (b.atR { tmps := a.tmps, defers := F.ds } (.inRegion ops (i :: rest) :: k) :: cs) w') :=
      step_lone_go (by rw [hg]; simp [stepG.apply, hr, Frame.atR])
    obtain ⟨M, h1, h2⟩ := hR.2 b cs hb hk hro
    refine ⟨M, Steps.trans (.head henter ?_) h1, h2⟩
    rw [← hfin]; exact hsteps
  · exact h.elim
  · exact h.elim

theorem Runs.opSkip {ops : Array Oper} {i : Nat} {rest : List Nat} {o : Oper} (ho : ops[i]? = some o) (hw : Region.wanted o (yielded ops a.tmps) = false)
    (h : Runs P F (a.put o.dst undef) w (.inRegion ops rest :: k)) : Runs P F a w (.inRegion ops (i :: rest) :: k) := by
  refine Runs.next (fun b cs => ?_) h
  have hs := stepR_op_skip (P := P) (b := b) (a := { tmps := a.tmps, defers := F.ds }) (k := k) (cs := cs) (w := w) (ops := ops) (i := i) (rest := rest) (by simp [ho]; simpa using hw)
  simp only [ho, Option.bind_some] at hs
  rw [hs]
  cases hd : o.dst <;> simp [Act.put]

theorem upon_false {o : Oper} {r : Result Next} {Q : Exit → Act → World → Prop} (hQ : ∀ e a w, e ≠ .normal → ¬ Q e a w) {next : Act → World → Prop} (hn : ∀ a w, a.defers ≠ [] → ¬ next a w) (ha : a.defers ≠ []) (h : o.upon P a next Q r) : False := by
  have hput : ∀ v, (a.put o.dst v).defers ≠ [] := fun v => by cases hd : o.dst <;> simp [Act.put] <;> exact ha
  unfold Oper.upon at h
  split at h
  · exact hn _ _ (hput _) h
  · exact hn _ _ (hput _) h
  · rename_i d w'
    refine hn _ _ ?_ h
    cases hd : o.dst <;> simp [Act.put]
  · refine calls_false h (fun e w' he => ?_)
    cases e with
    | returned v => exact hn _ _ (hput _) he
    | panicked c => exact hQ _ _ _ (by simp) he
    | outgrown => obtain ⟨_, _, he⟩ := he; exact hQ _ _ _ (by simp) he
  · exact rows_false h (fun v w' he => hn _ _ (hput _) he)
  · exact hQ _ _ _ (by simp) h
  · exact h

theorem wpOps_false {ops : Array Oper} {Q : Exit → Act → World → Prop} (hQ : ∀ e a w, e ≠ .normal → ¬ Q e a w) (hQ0 : ∀ a w, a.defers ≠ [] → ¬ Q .normal a w) : ∀ (l : List Nat) (a : Act) (w : World), a.defers ≠ [] → ¬ wpOps P ops Q l a w
  | [], a, w, ha, h => hQ0 a w ha h
  | i :: l, a, w, ha, h => by
    have ih := wpOps_false (ops := ops) hQ hQ0 l
    unfold wpOps at h
    split at h
    · exact ih a w ha h
    · rename_i o ho
      split at h
      · rcases h with h | ⟨_, _, _, h⟩
        · exact upon_false hQ (fun a w ha => ih a w ha) ha h
        · exact hQ _ _ _ (by simp) h
      · refine ih _ w ?_ h
        cases hd : o.dst <;> simp [Act.put] <;> exact ha

theorem Runs.ops {ops : Array Oper} : ∀ (l : List Nat) (a : Act) (w : World), a.defers = [] → wpOps P ops (fun e a' w' => e = .normal ∧ a'.defers = [] ∧ Runs P F a' w' k) l a w → Runs P F a w (.inRegion ops l :: k)
  | [], a, w, _, h => Runs.next (fun b cs => stepR_region_end) h.2.2
  | i :: l, a, w, ha, h => by
    unfold wpOps at h
    split at h
    · rename_i ho
      refine Runs.next (fun b cs => ?_) (Runs.ops l a w ha h)
      have hs := stepR_op_skip (P := P) (b := b) (a := { tmps := a.tmps, defers := F.ds }) (k := k) (cs := cs) (w := w) (ops := ops) (i := i) (rest := l) (by simp [ho])
      simp only [ho] at hs
      exact hs
    · rename_i o ho
      split at h
      · rename_i hw
        rcases h with h | ⟨_, _, _, h⟩
        · refine Runs.op ho hw ?_
          have key : o.wp P a w (fun a' w' => a'.defers = [] ∧ Runs P F a' w' (.inRegion ops l :: k)) (fun e a' w' => e = Exit.normal ∧ a'.defers = [] ∧ Runs P F a' w' k) :=
            Oper.wp_mono (fun a' w' h' => by
              have hd : a'.defers = [] := by
                cases hq : a'.defers with
                | nil => rfl
                | cons x xs => exact (wpOps_false (fun e a w he h => he h.1) (fun a w ha h => ha h.2.1) l a' w' (by rw [hq]; simp) h').elim
              exact ⟨hd, Runs.ops l a' w' hd h'⟩) h
          unfold Oper.wp at key ⊢
          generalize (execOp a.eval o).run P w = r at key ⊢
          unfold Oper.upon at key ⊢
          split at key
          · exact key
          · exact key
          · exact key
          · refine Calls.mono key (fun e w' he => ?_)
            cases e with
            | returned v => exact he
            | panicked c => cases he.1
            | outgrown => obtain ⟨_, _, he⟩ := he; cases he.1
          · exact key
          · cases key.1
          · exact key.elim
        · cases h.1
      · rename_i hw
        refine Runs.opSkip ho (by simpa using hw) (Runs.ops l _ w ?_ h)
        cases hd : o.dst <;> simp [Act.put] <;> exact ha

theorem Runs.draw {id : Nat} {ops : Array Oper} (ha : a.defers = [])
    (h : ∀ t, wpOps P ops (fun e a' w' => e = .normal ∧ a'.defers = [] ∧ Runs P F a' w' k) (Region.schedule (P.follows .mixedOrders) ops t) a { w with drawn := w.drawn + 1 }) : Runs P F a w (.code (.region id ops true) :: k) := by
  intro b cs hb hk hro
  obtain ⟨M, h1, h2⟩ := Runs.ops _ a _ ha (h (w.tape w.drawn (.order b.fn id))) b cs hb hk hro
  exact ⟨M, Steps.trans (.one stepR_region_draw) h1, h2⟩

theorem Runs.drawAny {id : Nat} {ops : Array Oper} (hm : P.follows .mixedOrders = true) (ha : a.defers = [])
    (h : wpAny P .any ops (fun e a' w' => e = .normal ∧ a'.defers = [] ∧ Runs P F a' w' k) ops.size (Array.replicate ops.size false) a { w with drawn := w.drawn + 1 }) : Runs P F a w (.code (.region id ops true) :: k) :=
  Runs.draw ha fun t => by
    simp only [Region.schedule, hm, Bool.true_or, if_true]
    exact wpAny_sound ops.size t _ a _ h

theorem calls_of_runs {fn : Func} {c : Code} {args : Array Value} (hf : P.funcs[f]? = some fn) (hb : fn.body = some c)
    (h : Runs P (.fn P f R) { tmps := args ++ Array.replicate (fn.ntmps - args.size) undef, defers := [] } w [.code c]) : Calls P f args w R := by
  intro cs
  have henter : Frame.enter P f args .normal = ({ (default : Frame) with fn := f, kind := .normal, roundOf := none } : Frame).atR { tmps := args ++ Array.replicate (fn.ntmps - args.size) undef, defers := [] } [.code c] := by
    simp [Frame.enter, Frame.atR, hf, hb]
  obtain ⟨M, h1, v, w', fr, hR, rfl, h2, h3⟩ := h { (default : Frame) with fn := f, kind := .normal, roundOf := none } cs rfl rfl rfl
  exact ⟨.returned v, w', fr, hR, by rw [henter]; exact h1, h2, h3⟩

end Go.VL

/-
  The value layer, part 17: the abstract machine is right, step by step. (Own work.)
-/
namespace Go.VL

variable {P : Program} {C : Codes} {S : Sigs} {E : Entry} {w : World} {K : Nat → Prop} {m : Nat → Option (Option Nat)} {free : Nat → Prop} {H : Heap}
  {f : FuncId} {R : Ending → World → Prop} {a : Act} {k : List Item} {s : AS} {α : Type}

/-- An abstract state, and the state of the machine. -/
structure St (E : Entry) (s : AS) (a : Act) (w : World) (K : Nat → Prop) (m : Nat → Option (Option Nat)) (free : Nat → Prop) : Prop where
  len : a.tmps.size = s.tmps.length
  tmps : ∀ (i : Nat) (x : AV) (v : Value), s.tmps[i]? = some x → a.tmps[i]? = some v → Rel w K m s.H x v
  defers : a.defers = []
  mem : Mem E w K m s.H free

theorem St.tmp (h : St E s a w K m free) (t : Nat) : Rel w K m s.H (s.tmps.getD t .dead) (a.tmps.getD t undef) := by
  by_cases hl : t < s.tmps.length
  · have h1 : s.tmps[t]? = some s.tmps[t] := List.getElem?_eq_getElem hl
    have h2 : a.tmps[t]? = some (a.tmps[t]'(by rw [h.len]; exact hl)) := by simp [h.len, hl]
    have := h.tmps t _ _ h1 h2
    simpa [List.getD, Array.getD, h1, h.len, hl] using this
  · have h1 : s.tmps[t]? = none := List.getElem?_eq_none (by omega)
    simp only [List.getD, h1, Option.getD_none]
    exact .dead _

theorem globA_rel (h : GOk w K) (g : Nat) : Rel w K m H (globA g) (.pointer (some ⟨g, 0, none⟩)) := by
  unfold globA
  split
  · rename_i p hp
    have hm := List.mem_of_find?_eq_some hp
    have hg : p.1 = g := by have := List.find?_some hp; simpa using this
    obtain ⟨h1, T, h2⟩ := h p hm
    rw [hg] at h1 h2
    refine .ip _ g 0 (fun j => p.2.getD j undef) h1 (fun j d hd => ?_) (fun j d hd => ?_)
    · rw [List.getElem?_map, Option.map_eq_some_iff] at hd
      obtain ⟨v, hv, rfl⟩ := hd
      have hv' : p.2[j]? = some v := by simpa using hv
      have hlt := (Array.getElem?_eq_some_iff.1 hv').1
      simp [World.cell?, h2, Array.getD, hlt]
    · rw [List.getElem?_map, Option.map_eq_some_iff] at hd
      obtain ⟨v, hv, rfl⟩ := hd
      have hv' : p.2[j]? = some v := by simpa using hv
      obtain ⟨hlt, he⟩ := Array.getElem?_eq_some_iff.1 hv'
      have : p.2.getD j undef = v := by simp [Array.getD, hlt, he]
      rw [this]
      exact .v v
  · exact .dead _
theorem St.ev (h : St E s a w K m free) (x : Operand) : Rel w K m s.H (s.ev x) (a.eval x) := by
  cases x with
  | tmp t => exact h.tmp t
  | const v => exact .d _ _ (.v v)
  | global g => exact globA_rel h.mem.gok g
  | func g => exact .clo _ _ _ _ _ rfl rfl (fun i a v h => by simp at h) (fun i a v h => by simp at h)

theorem St.put (h : St E s a w K m free) {w' : World} {K' : Nat → Prop} {m' : Nat → Option (Option Nat)} {H' : Heap} {free' : Nat → Prop} (dst : Option Tmp) {v : AV} {u : Value}
    (hr : Rel w' K' m' H' v u) (hM : Mem E w' K' m' H' free') (hE : Ext w K m s.H w' K' m' H') : St E ⟨putT s.tmps dst v, H', s.next⟩ (a.put dst u) w' K' m' free' := by
  cases dst with
  | none => exact ⟨h.len, fun i x v hx hv => (h.tmps i x v hx hv).ext hE, h.defers, hM⟩
  | some d =>
    refine ⟨by simp [putT, Act.put, h.len], fun i x v' hx hv => ?_, h.defers, hM⟩
    simp only [putT, List.getElem?_set] at hx
    simp only [Act.put, Array.getElem?_setIfInBounds] at hv
    by_cases hdi : d = i
    · subst hdi
      by_cases hlt : d < s.tmps.length
      · simp [hlt] at hx
        simp [h.len, hlt] at hv
        subst hx; subst hv; exact hr
      · simp [hlt] at hx
    · rw [if_neg hdi] at hx hv
      exact (h.tmps i x v' hx hv).ext hE

theorem St.weaken (h : St E s a w K m free) {free' : Nat → Prop} (hf : ∀ l, free' l → free l) : St E s a w K m free' := ⟨h.len, h.tmps, h.defers, h.mem.weaken hf⟩

/-- Another name for the count of names. -/
theorem St.next_ (h : St E s a w K m free) (n : Nat) : St E { s with next := n } a w K m free := ⟨h.len, h.tmps, h.defers, h.mem⟩

/-! ### calls of functions that only compute -/

theorem relT_of {t : Ty} {x : t.ty} {v : Value} {w : World} {K : Nat → Prop} {m : Nat → Option (Option Nat)} {H : Heap} (h : RelT w K (AV.ofTy t x) v) : Rel w K m H (AV.ofTy t x) v :=
  h.ext ⟨fun _ h => h, fun _ _ => rfl, fun l x hx => by simp at hx, fun _ _ h => h, fun l T t xs hm => absurd rfl hm⟩

theorem relT_res {ts : List Ty} {x : TyTup ts} {v : Value} (h : RelT w K (ofRes ts x) v) : Rel w K m H (ofRes ts x) v :=
  h.ext ⟨fun _ h => h, fun _ _ => rfl, fun l x hx => by simp at hx, fun _ _ h => h, fun l T t xs hm => absurd rfl hm⟩

theorem toArgs_rel (hM : Mem E w K m H free) : ∀ {ts : List Ty} {as : List AV} {xs : List Arg} {p : Prop} {fz : List Nat}, toArgs H ts as = some (xs, p, fz) → p → ∀ {vs : Array Value}, vs.size = as.length →
    (∀ (i : Nat) (a : AV) (v : Value), as[i]? = some a → vs[i]? = some v → Rel w K m H a v) →
    xs.length = as.length ∧ (∀ (i : Nat) (x : Arg) (v : Value), xs[i]? = some x → vs[i]? = some v → RelT w (KF K m fz) (AV.ofTy x.1 x.2) v) ∧ ∀ l ∈ fz, ∃ blk, H.get l = some blk
  | [], [], xs, p, fz, h, hp, vs, hs, hr => by
    simp only [toArgs, Option.some.injEq, Prod.mk.injEq] at h
    obtain ⟨rfl, _, rfl⟩ := h
    exact ⟨rfl, fun i d v h => by simp at h, fun l hl => by simp at hl⟩
  | [], _ :: _, xs, p, fz, h, hp, vs, hs, hr => by simp [toArgs] at h
  | _ :: _, [], xs, p, fz, h, hp, vs, hs, hr => by simp [toArgs] at h
  | t :: ts, a :: as, xs, p, fz, h, hp, vs, hs, hr => by
    simp only [toArgs, Option.bind_eq_some_iff, Option.map_eq_some_iff, Prod.exists] at h
    obtain ⟨x, p1, l1, h1, xs', p2, l2, h2, h3⟩ := h
    simp only [Prod.mk.injEq] at h3
    obtain ⟨rfl, rfl, rfl⟩ := h3
    have hv0 : vs[0]? = some (vs[0]'(by simp at hs; omega)) := by simp at hs; simp [show 0 < vs.size by omega]
    obtain ⟨hd, hl1⟩ := toTy_rel hM h1 hp.1 (hr 0 a _ (by simp) hv0)
    obtain ⟨hlen, hrest, hl2⟩ := toArgs_rel hM h2 hp.2 (vs := vs.extract 1 vs.size) (by simp at hs ⊢; omega) (fun i b v hb hv => by
      refine hr (i + 1) b v (by simpa using hb) ?_
      rw [Array.getElem?_extract] at hv
      split at hv
      · rw [← hv]; congr 1; omega
      · cases hv)
    have mono : ∀ {K1 K2 : Nat → Prop} {b : AV} {v : Value}, (∀ b, K1 b → K2 b) → RelT w K1 b v → RelT w K2 b v := fun hK h => h.ext ⟨hK, fun _ _ => rfl, fun _ _ h => h, fun _ _ h => h, fun l T t xs hm => absurd rfl hm⟩
    refine ⟨by simp [hlen], fun i d' v hd' hv => ?_, fun l hl => ?_⟩
    · cases i with
      | zero =>
        simp only [List.getElem?_cons_zero, Option.some.injEq] at hd'
        subst hd'
        rw [hv0] at hv; simp only [Option.some.injEq] at hv; subst hv
        refine mono (fun b hb => ?_) hd
        rcases hb with hb | ⟨l, hl, hm⟩
        · exact .inl hb
        · exact .inr ⟨l, by simp [hl], hm⟩
      | succ i =>
        refine mono (fun b hb => ?_) (hrest i d' v (by simpa using hd') ?_)
        · rcases hb with hb | ⟨l, hl, hm⟩
          · exact .inl hb
          · exact .inr ⟨l, by simp [hl], hm⟩
        · rw [Array.getElem?_extract]
          have : i + 1 < vs.size := (Array.getElem?_eq_some_iff.1 hv).1
          rw [if_pos (by omega), ← hv]; congr 1; omega
    · rcases List.mem_append.1 hl with hl | hl
      · exact hl1 l hl
      · exact hl2 l hl

/-- The memory behind a call that only computes. -/
theorem Mem.after (h : Mem E w K m H free) {w' : World} {K2 : Nat → Prop} (hb : RowKit.Below w.heap.size w w') (h1 : ∀ b, K2 b → K b ∨ w.heap.size ≤ b) (h2 : ∀ b, K2 b → b < w'.heap.size) :
    Mem E w' (fun b => K b ∨ K2 b) m H free ∧ Ext w K m H w' (fun b => K b ∨ K2 b) m H := by
  have hshape : ∀ b s, w.shape? b = some s → w'.shape? b = some s := by
    intro b s hs
    have hlt : b < w.heap.size := by
      rcases Nat.lt_or_ge b w.heap.size with h1 | h1
      · exact h1
      · simp [World.shape?, Array.getElem?_eq_none h1] at hs
    unfold World.shape? at hs ⊢
    rw [hb.block b hlt]; exact hs
  have e : Ext w K m H w' (fun b => K b ∨ K2 b) m H :=
    ⟨fun _ h => .inl h, fun b hk => hb.block b (h.Klt b hk), fun _ _ h => h, hshape, fun _ _ _ xs _ h => ⟨xs, h, rfl⟩⟩
  refine ⟨?_, e⟩
  exact
    { os := hb.os.trans h.os, tape := hb.tape.trans h.tape, output := hb.output.trans h.output
      size := Nat.le_trans h.size hb.size
      keep := fun b hb1 hb2 => by rw [hb.block b (by have := h.size; omega)]; exact h.keep b hb1 hb2
      Kmono := fun b hk => .inl (h.Kmono b hk)
      Klt := fun b hk => by
        rcases hk with hk | hk
        · have := h.Klt b hk; have := hb.size; omega
        · exact h2 b hk
      Knew := fun b hk => by
        rcases hk with hk | hk
        · exact h.Knew b hk
        · rcases h1 b hk with hk | hk
          · exact h.Knew b hk
          · exact .inr (.inl (by have := h.size; omega))
      mold := h.mold, mnew := h.mnew
      mlt := fun l b hm => by have := h.mlt l b hm; have := hb.size; omega
      mfree := h.mfree, fnew := h.fnew
      heap := fun l blk hl => (h.heap l blk hl).ext e (fun b hm => hb.block b (h.mlt l b hm))
      own := fun l blk b hl hm hk => by
        rcases hk with hk | hk
        · exact h.own l blk b hl hm hk
        · rcases h1 b hk with hk | hk
          · exact h.own l blk b hl hm hk
          · have := h.mlt l b hm; omega
      inj := h.inj
      shape := fun b s hs => hshape b s (h.shape b s hs)
      frozen := fun b hb => (e.keep b (h.Kmono b hb)).trans (h.frozen b hb), gok := h.gok.ext e.hK e.keep }

theorem bare_relD {d : D} (hd : ∀ t xs, d ≠ .sl t xs) {v : Value} {w' : World} {K' : Nat → Prop} (h : RelD w K d v) : RelD w' K' d v := by
  cases h with
  | v => exact .v _
  | f o b h => exact .f o b h
  | sl0 t a cap => exact absurd rfl (hd t [])
  | sl t xs => exact absurd rfl (hd t xs)

theorem bare_enc {t : Ty} (ht : t.bare = true) {x : t.ty} {d : D} (hd : d ∈ enc t x) : ∀ t' xs, d ≠ .sl t' xs := by
  intro t' xs e
  subst e
  cases t <;> simp [Ty.bare] at ht <;> simp [enc] at hd

theorem bare_ofTy {t : Ty} (ht : t.bare = true) {x : t.ty} {v : Value} {w' : World} {K' : Nat → Prop} (h : RelT w K (AV.ofTy t x) v) : RelT w' K' (AV.ofTy t x) v := by
  unfold RelT AV.ofTy at h ⊢
  cases hf : t.flat
  · simp only [hf, cond_false] at h ⊢
    cases h with
    | agg _ vs hl hc =>
      refine .agg _ _ hl (fun i a u ha hu => ?_)
      have := hc i a u ha hu
      simp only [List.getElem?_map, Option.map_eq_some_iff] at ha
      obtain ⟨d, hd, rfl⟩ := ha
      cases this with | d _ _ h => exact .d _ _ (bare_relD (bare_enc ht (List.mem_of_getElem? hd)) h)
  · simp only [hf, cond_true] at h ⊢
    obtain ⟨d, hd⟩ := flat_enc hf x
    rw [hd] at h ⊢
    cases h with | d _ _ h => exact .d _ _ (bare_relD (bare_enc ht (by rw [hd]; simp)) h)

theorem bare_avs : ∀ {ts : List Ty}, ts.all Ty.bare = true → ∀ {x : TyTup ts} {vs : Array Value} {w' : World} {K' : Nat → Prop}, (∀ (i : Nat) (a : AV) (v : Value), (avsOf ts x)[i]? = some a → vs[i]? = some v → RelT w K a v) →
    ∀ (i : Nat) (a : AV) (v : Value), (avsOf ts x)[i]? = some a → vs[i]? = some v → RelT w' K' a v
  | [], _, x, vs, w', K', h, i, a, v, ha, hv => by simp [avsOf] at ha
  | [t], ht, x, vs, w', K', h, i, a, v, ha, hv => by
    have := h i a v ha hv
    simp only [avsOf] at ha
    cases i with
    | zero => simp at ha; subst ha; exact bare_ofTy (by simpa using ht) this
    | succ i => simp at ha
  | t :: t' :: ts, ht, x, vs, w', K', h, i, a, v, ha, hv => by
    simp only [List.all_cons, Bool.and_eq_true] at ht
    have h0 := h i a v ha hv
    cases i with
    | zero => simp [avsOf] at ha; subst ha; exact bare_ofTy ht.1 h0
    | succ i =>
      simp only [avsOf, List.getElem?_cons_succ] at ha
      refine bare_avs (ts := t' :: ts) (by simpa using ht.2) (x := x.2) (vs := vs.extract 1 vs.size) (fun j b u hb hu => ?_) i a v ha ?_
      · rw [Array.getElem?_extract] at hu
        split at hu
        · refine h (j + 1) b u (by simpa [avsOf] using hb) (by rw [← hu]; congr 1; omega)
        · cases hu
      · rw [Array.getElem?_extract]
        have : i + 1 < vs.size := (Array.getElem?_eq_some_iff.1 hv).1
        rw [if_pos (by omega), ← hv]; congr 1; omega

theorem bare_res {ts : List Ty} (ht : ts.all Ty.bare = true) {x : TyTup ts} {v : Value} {w' : World} {K' : Nat → Prop} (h : RelT w K (ofRes ts x) v) : RelT w' K' (ofRes ts x) v := by
  match ts, x, h, ht with
  | [], _, h, _ =>
    unfold RelT at h ⊢
    cases h with
    | tup _ vs hl hc => exact .tup _ _ hl (fun i a v ha => by simp at ha)
  | [t], x, h, ht => exact bare_ofTy (by simpa using ht) h
  | t :: t' :: ts, x, h, ht =>
    unfold RelT ofRes at h ⊢
    cases h with
    | tup _ vs hl hc => exact .tup _ _ hl (bare_avs ht hc)

end Go.VL

/-
  The value layer, part 18: names counted anew. (Own work.)
-/
namespace Go.VL

/-! ### that it is right -/

theorem nodupB_spec : ∀ {l : List Nat}, nodupB l = true → l.Nodup
  | [], _ => .nil
  | x :: l, h => by
    simp only [nodupB, Bool.and_eq_true] at h
    refine List.nodup_cons.2 ⟨by simpa using h.1, nodupB_spec h.2⟩
theorem startB_spec : ∀ {n : Nat} {l : List Nat}, startB n l = true → ∀ i, i < n → l[i]? = some i
  | 0, _, _, i, hi => absurd hi (Nat.not_lt_zero _)
  | n + 1, l, h, i, hi => by
    simp only [startB, Bool.and_eq_true] at h
    rcases Nat.lt_or_ge i n with h1 | h1
    · exact startB_spec h.2 i h1
    · have : i = n := by omega
      subst this
      have := h.1
      split at this
      · rename_i x hx
        rw [hx]; congr; simpa using this
      · cases this
theorem idxN_spec : ∀ {ns : List Nat} {l i : Nat}, idxN ns l = some i → ns[i]? = some l
  | [], l, i, h => by cases h
  | y :: ns, l, i, h => by
    simp only [idxN] at h
    cases hy : (y == l)
    · rw [hy] at h
      obtain ⟨j, hj, rfl⟩ := Option.map_eq_some_iff.1 h
      simpa using idxN_spec hj
    · rw [hy] at h
      cases h
      have : y = l := by simpa using hy
      simp [this]

theorem renL_get {g : Nat → Option Nat} : ∀ (cs : List AV) (i : Nat), (renL g cs)[i]? = (cs[i]?).map (AV.ren g)
  | [], i => by simp [renL]
  | a :: cs, 0 => by simp [renL]
  | a :: cs, i + 1 => by simpa [renL] using renL_get cs i
theorem renL_length {g : Nat → Option Nat} : ∀ (cs : List AV), (renL g cs).length = cs.length
  | [] => rfl
  | a :: cs => by simp [renL, renL_length cs]

theorem renH_get {g : Nat → Option Nat} {H : Heap} : ∀ (ls : List Nat) (k i : Nat) (b : ABlk), (renH g H ls k).get i = some b → ∃ l b', ls[i - k]? = some l ∧ k ≤ i ∧ H.get l = some b' ∧ b = b'.ren g
  | [], k, i, b, h => by cases h
  | l :: ls, k, i, b, h => by
    have step : (renH g H ls (k + 1)).get i = some b → ∃ l' b', (l :: ls)[i - k]? = some l' ∧ k ≤ i ∧ H.get l' = some b' ∧ b = b'.ren g := by
      intro h
      obtain ⟨l', b', h1, h2, h3⟩ := renH_get ls (k + 1) i b h
      have e : i - k = (i - (k + 1)) + 1 := by omega
      exact ⟨l', b', by rw [e]; simpa using h1, by omega, h3⟩
    simp only [renH] at h
    split at h
    · rename_i b0 hb0
      simp only [Heap.get] at h
      cases hk : (k == i)
      · rw [hk] at h; exact step h
      · rw [hk] at h
        have e : k = i := by simpa using hk
        subst e
        cases h
        exact ⟨l, b0, by simp, Nat.le_refl _, hb0, rfl⟩
    · exact step h

variable {P : Program} {C : Codes} {S : Sigs} {E : Entry} {w : World} {K : Nat → Prop} {m : Nat → Option (Option Nat)} {free : Nat → Prop} {H : Heap}
  {f : FuncId} {R : Ending → World → Prop} {a : Act} {k : List Item} {s t s' : AS} {α : Type}

/-- The names counted anew. -/
def mOf (m : Nat → Option (Option Nat)) (ns : List Nat) : Nat → Option (Option Nat) := fun i => (ns[i]?).bind m

theorem rel_renG {g : Nat → Option Nat} {m2 : Nat → Option (Option Nat)} {H2 : Heap} (hmg : ∀ l i y, g l = some i → m l = some y → m2 i = some y) (hrg : ∀ l i T t xs, g l = some i → H2.get i = some (.row T t xs) → H.get l = some (.row T t xs))
    {x : AV} {v : Value} (h : Rel w K m H x v) : Rel w K m2 H2 (x.ren g) v := by
  induction h with
  | dead v => simp only [AV.ren]; exact .dead v
  | d x v h => simp only [AV.ren]; exact .d x v h
  | fl t xs a n h => simp only [AV.ren]; exact .fl t xs a n h
  | own0 l t a h =>
    simp only [AV.ren]
    split
    · rename_i i hi; exact .own0 i t a (hmg _ _ _ hi h)
    · exact .dead _
  | own l t b n cap h hn hcap hs =>
    simp only [AV.ren]
    split
    · rename_i i hi
      refine .own i t b n cap (hmg _ _ _ hi h) (fun T xs hx => ?_) hcap hs
      exact hn T xs (hrg _ _ _ _ _ hi hx)
    · exact .dead _
  | view0 l t off a =>
    simp only [AV.ren]
    split
    · exact .view0 _ t off a
    · exact .dead _
  | view l t b off len cap h hcap hs =>
    simp only [AV.ren]
    split
    · rename_i i hi; exact .view i t b off len cap (hmg _ _ _ hi h) hcap hs
    · exact .dead _
  | ptr l f b h =>
    simp only [AV.ren]
    split
    · rename_i i hi; exact .ptr i f b (hmg _ _ _ hi h)
    · exact .dead _
  | eptr l t i f b h =>
    simp only [AV.ren]
    split
    · rename_i k hi; exact .eptr k t i f b (hmg _ _ _ hi h)
    · exact .dead _
  | ip ds b off u hb hc hr => simp only [AV.ren]; exact .ip ds b off u hb hc hr
  | agg cs vs hl h ih =>
    simp only [AV.ren]
    refine .agg _ vs (by rw [renL_length]; exact hl) fun i x v hx hv => ?_
    rw [renL_get] at hx
    obtain ⟨y, hy, rfl⟩ := Option.map_eq_some_iff.1 hx
    exact ih i y v hy hv
  | tup cs vs hl h ih =>
    simp only [AV.ren]
    refine .tup _ vs (by rw [renL_length]; exact hl) fun i x v hx hv => ?_
    rw [renL_get] at hx
    obtain ⟨y, hy, rfl⟩ := Option.map_eq_some_iff.1 hx
    exact ih i y v hy hv
  | clo fn fs cs us vs hf hl h1 h2 ih1 ih2 =>
    simp only [AV.ren]
    refine .clo fn _ _ us vs (by rw [renL_length]; exact hf) (by rw [renL_length]; exact hl) (fun i x v hx hv => ?_) (fun i x v hx hv => ?_)
    · rw [renL_get] at hx
      obtain ⟨y, hy, rfl⟩ := Option.map_eq_some_iff.1 hx
      exact ih1 i y v hy hv
    · rw [renL_get] at hx
      obtain ⟨y, hy, rfl⟩ := Option.map_eq_some_iff.1 hx
      exact ih2 i y v hy hv
  | mp l b h =>
    simp only [AV.ren]
    split
    · rename_i i hi; exact .mp i b (hmg _ _ _ hi h)
    · exact .dead _

theorem rel_ren {ns : List Nat} {x : AV} {v : Value} (h : Rel w K m H x v) : Rel w K (mOf m ns) (renH (idxN ns) H ns 0) (x.ren (idxN ns)) v :=
  rel_renG (fun l i y hi hy => by unfold mOf; rw [idxN_spec hi]; exact hy) (fun l i T t xs hi hx => by
    obtain ⟨l', b', h1, _, h2, h3⟩ := renH_get _ _ _ _ hx
    have h4 := idxN_spec hi
    rw [Nat.sub_zero, h4] at h1
    cases h1
    cases b' with
    | box cells => cases h3
    | row T' t' xs' => cases h3; exact h2
    | mp => cases h3) h

theorem blk_ren {ns : List Nat} {l i : Nat} {b : ABlk} (hi : ns[i]? = some l) (h : BlkRel w K m H l b) : BlkRel w K (mOf m ns) (renH (idxN ns) H ns 0) i (b.ren (idxN ns)) := by
  have hm : mOf m ns i = m l := by unfold mOf; rw [hi]; rfl
  cases b with
  | box cells =>
    obtain ⟨b, cs, T, h1, h2, h3, h4⟩ := h
    refine ⟨b, cs, T, by rw [hm]; exact h1, h2, by rw [renL_length]; exact h3, fun j x v hx hv => ?_⟩
    rw [renL_get] at hx
    obtain ⟨y, hy, rfl⟩ := Option.map_eq_some_iff.1 hx
    exact rel_ren (h4 j y v hy hv)
  | row T t xs =>
    rcases h with ⟨h1, h2⟩ | ⟨b, cs, h1, h2, h3, h4⟩
    · exact .inl ⟨by rw [hm]; exact h1, h2⟩
    · exact .inr ⟨b, cs, by rw [hm]; exact h1, h2, h3, h4⟩
  | mp tk tv kvs =>
    obtain ⟨b, es, c, h1, h2, h3, h4⟩ := h
    exact ⟨b, es, c, by rw [hm]; exact h1, h2, h3, h4⟩

theorem Mem.ren (h : Mem E w K m H free) {ns : List Nat} (hnd : ns.Nodup) (h0 : ∀ i, i < E.n → ns[i]? = some i) : Mem E w K (mOf m ns) (renH (idxN ns) H ns 0) (fun l => ns.length ≤ l) := by
  have hin : ∀ {i x}, mOf m ns i = some x → ∃ l, ns[i]? = some l ∧ m l = some x := fun hx => Option.bind_eq_some_iff.1 hx
  exact
  { os := h.os, tape := h.tape, output := h.output, size := h.size, keep := h.keep, Kmono := h.Kmono, Klt := h.Klt, Knew := h.Knew
    mold := fun l hl => by unfold mOf; rw [h0 l hl]; exact h.mold l hl
    mnew := fun l b hl hm => by
      obtain ⟨l', hl', hm'⟩ := hin hm
      by_cases hc : l' < E.n
      · refine .inr ⟨l', hc, ?_⟩
        rw [← h.mold l' hc]; exact hm'
      · exact h.mnew l' b (by omega) hm'
    mlt := fun l b hm => by obtain ⟨l', _, hm'⟩ := hin hm; exact h.mlt l' b hm'
    mfree := fun l hl => by unfold mOf; rw [List.getElem?_eq_none hl]; rfl
    fnew := fun l hl => by
      rcases Nat.lt_or_ge l E.n with h1 | h1
      · have := h0 l h1
        rw [List.getElem?_eq_none hl] at this; cases this
      · exact h1
    heap := fun l blk hb => by
      obtain ⟨l', b', h1, _, h2, rfl⟩ := renH_get _ _ _ _ hb
      exact blk_ren (by simpa using h1) (h.heap l' b' h2)
    own := fun l blk b hb hm => by
      obtain ⟨l', b', h1, _, h2, rfl⟩ := renH_get _ _ _ _ hb
      obtain ⟨l2, hl2, hm2⟩ := hin hm
      rw [Nat.sub_zero, hl2] at h1; cases h1
      exact h.own _ b' b h2 hm2
    inj := fun l l' blk blk' b hb hb' hm hm' => by
      obtain ⟨x, b1, h1, _, h2, rfl⟩ := renH_get _ _ _ _ hb
      obtain ⟨y, b2, h3, _, h4, rfl⟩ := renH_get _ _ _ _ hb'
      obtain ⟨x', hx', hmx⟩ := hin hm
      obtain ⟨y', hy', hmy⟩ := hin hm'
      rw [Nat.sub_zero, hx'] at h1; cases h1
      rw [Nat.sub_zero, hy'] at h3; cases h3
      have e := h.inj _ _ b1 b2 b h2 h4 hmx hmy
      rw [e] at hx'
      have hl : l < ns.length := by
        rcases Nat.lt_or_ge l ns.length with h | h
        · exact h
        · rw [List.getElem?_eq_none h] at hx'; cases hx'
      exact (List.getElem?_inj hl hnd).1 (hx'.trans hy'.symm)
    shape := h.shape, frozen := h.frozen, gok := h.gok }

end Go.VL

/-
  The value layer, part 19: into a call that changes memory, and back. (Own work.)
-/
namespace Go.VL

variable {P : Program} {E : Entry} {w w' : World} {K K' : Nat → Prop} {m m' : Nat → Option (Option Nat)} {free : Nat → Prop} {H : Heap} {ns : List Nat} {nm : Nat} {r : GRes}

theorem Mem.enter (h : Mem E w K m H free) (hnd : ns.Nodup) : Mem ⟨w, K, mOf m ns, ns.length⟩ w K (mOf m ns) (renH (idxN ns) H ns 0) (fun l => ns.length ≤ l) := by
  have hin : ∀ {i x}, mOf m ns i = some x → ∃ l, ns[i]? = some l ∧ m l = some x := fun hx => Option.bind_eq_some_iff.1 hx
  exact
  { os := rfl, tape := rfl, output := rfl, size := Nat.le_refl _, keep := fun _ _ _ => rfl, Kmono := fun _ h => h, Klt := h.Klt, Knew := fun _ h => .inl h, mold := fun _ _ => rfl
    mnew := fun l b hl hm => by
      obtain ⟨l', hl', _⟩ := hin hm
      rw [List.getElem?_eq_none hl] at hl'; cases hl'
    mlt := fun l b hm => by obtain ⟨l', _, hm'⟩ := hin hm; exact h.mlt l' b hm'
    mfree := fun l hl => by unfold mOf; rw [List.getElem?_eq_none hl]; rfl
    fnew := fun l hl => hl
    heap := fun l blk hb => by
      obtain ⟨l', b', h1, _, h2, rfl⟩ := renH_get _ _ _ _ hb
      exact blk_ren (by simpa using h1) (h.heap l' b' h2)
    own := fun l blk b hb hm => by
      obtain ⟨l', b', h1, _, h2, rfl⟩ := renH_get _ _ _ _ hb
      obtain ⟨l2, hl2, hm2⟩ := hin hm
      rw [Nat.sub_zero, hl2] at h1; cases h1
      exact h.own _ b' b h2 hm2
    inj := fun l l' blk blk' b hb hb' hm hm' => by
      obtain ⟨x, b1, h1, _, h2, rfl⟩ := renH_get _ _ _ _ hb
      obtain ⟨y, b2, h3, _, h4, rfl⟩ := renH_get _ _ _ _ hb'
      obtain ⟨x', hx', hmx⟩ := hin hm
      obtain ⟨y', hy', hmy⟩ := hin hm'
      rw [Nat.sub_zero, hx'] at h1; cases h1
      rw [Nat.sub_zero, hy'] at h3; cases h3
      have e := h.inj _ _ b1 b2 b h2 h4 hmx hmy
      rw [e] at hx'
      have hl : l < ns.length := by
        rcases Nat.lt_or_ge l ns.length with h | h
        · exact h
        · rw [List.getElem?_eq_none h] at hx'; cases hx'
      exact (List.getElem?_inj hl hnd).1 (hx'.trans hy'.symm)
    shape := fun _ _ h => h, frozen := fun _ _ => rfl, gok := h.gok }

theorem get_app {wr : List (Nat × Option ABlk)} {l : Nat} : ∀ {H : Heap}, (∀ p ∈ wr, p.1 ≠ l) → (H.app wr).get l = H.get l := by
  induction wr with
  | nil => intro H _; rfl
  | cons p wr ih =>
    intro H h
    show ((H.put p.1 p.2).app wr).get l = _
    rw [ih (fun q hq => h q (by simp [hq])), Heap.get_put H (fun e => h p (by simp) e.symm)]

theorem app_mem {wr : List (Nat × Option ABlk)} {l : Nat} {b : Option ABlk} : ∀ {H : Heap}, (wr.map (·.1)).Nodup → (l, b) ∈ wr → (H.app wr).get l = b := by
  induction wr with
  | nil => intro H _ h; cases h
  | cons p wr ih =>
    intro H hnd h
    have hnd' := List.nodup_cons.1 hnd
    show ((H.put p.1 p.2).app wr).get l = b
    rcases List.mem_cons.1 h with rfl | h
    · have hno : ∀ q ∈ wr, q.1 ≠ l := fun q hq e => hnd'.1 (List.mem_map.2 ⟨q, hq, e⟩)
      rw [get_app hno, Heap.get_put_self]
    · exact ih hnd'.2 h

/-- The callee's names, as the caller has them from now on. -/
def mBack (m m' : Nat → Option (Option Nat)) (n0 nm n : Nat) (l : Nat) : Option (Option Nat) := if nm ≤ l ∧ l < nm + (n - n0) then m' (n0 + (l - nm)) else m l

theorem Mem.back (h : Mem E w K m H free) (hfr : ∀ k, k < 8 → free (nm + k)) (hnd : ns.Nodup) (hall : ∀ l ∈ ns, ∃ b, H.get l = some b)
    (hrow : ∀ i T t xs, i < ns.length → r.H.get i = some (.row T t xs) → ∃ ys, (renH (idxN ns) H ns 0).get i = some (.row T t ys) ∧ ys.length = xs.length)
    (hc : Mem ⟨w, K, mOf m ns, ns.length⟩ w' K' m' r.H (fun l => r.n ≤ l)) (hn : r.n ≤ ns.length + 8) :
    Mem E w' K' (mBack m m' ns.length nm r.n) (H.app (wrG ns nm r)) (fun l => free l ∧ ¬ (nm ≤ l ∧ l < nm + 8)) ∧
    Ext w K m H w' K' (mBack m m' ns.length nm r.n) (H.app (wrG ns nm r)) ∧
    ∀ x v, Rel w' K' m' r.H x v → Rel w' K' (mBack m m' ns.length nm r.n) (H.app (wrG ns nm r)) (x.ren (backN ns nm r.n)) v := by
  have hn0 : ns.length ≤ r.n := hc.fnew r.n (Nat.le_refl _)
  have hin : ∀ {i x}, mOf m ns i = some x → ∃ l, ns[i]? = some l ∧ m l = some x := fun hx => Option.bind_eq_some_iff.1 hx
  -- names of the caller's and fresh ones
  have hmne : ∀ l ∈ ns, m l ≠ none := fun l hl e => by
    obtain ⟨b, hb⟩ := hall l hl
    have := h.heap l b hb
    cases b with
    | box cells => obtain ⟨b, cs, T, h1, _⟩ := this; rw [e] at h1; cases h1
    | row T t xs => rcases this with ⟨h1, _⟩ | ⟨b, cs, h1, _⟩ <;> rw [e] at h1 <;> cases h1
    | mp tk tv kvs => obtain ⟨b, es, c, h1, _⟩ := this; rw [e] at h1; cases h1
  have hfresh : ∀ l, nm ≤ l → l < nm + 8 → m l = none := fun l h1 h2 => by
    have := h.mfree _ (hfr (l - nm) (by omega))
    rwa [show nm + (l - nm) = l by omega] at this
  have hdis : ∀ l ∈ ns, ¬ (nm ≤ l ∧ l < nm + 8) := fun l hl e => hmne l hl (hfresh l e.1 e.2)
  -- the writes
  have hkeys : ((wrG ns nm r).map (·.1)).Nodup := by
    have e1 : (wrG ns nm r).map (·.1) = ns ++ (List.range (r.n - ns.length)).map (nm + ·) := by
      unfold wrG
      rw [List.map_append, List.map_map, List.map_map]
      congr 1
      refine List.ext_getElem? fun i => ?_
      rw [List.getElem?_map]
      by_cases hi : i < ns.length
      · rw [List.getElem?_eq_getElem (by simpa using hi), List.getElem?_eq_getElem hi]
        simp [hi]
      · rw [List.getElem?_eq_none (by simpa using hi), List.getElem?_eq_none (by omega)]; rfl
    rw [e1]
    refine List.nodup_append.2 ⟨hnd, ?_, fun x hx y hy e => ?_⟩
    · exact List.Pairwise.map _ (fun a b hab => by omega) List.nodup_range
    · obtain ⟨j, hj, rfl⟩ := List.mem_map.1 hy
      have := List.mem_range.1 hj
      subst e
      exact hdis _ hx ⟨by omega, by omega⟩
  have hgo : ∀ i l, ns[i]? = some l → (H.app (wrG ns nm r)).get l = (r.H.get i).map (ABlk.ren (backN ns nm r.n)) := fun i l hi => by
    have hlt : i < ns.length := by
      rcases Nat.lt_or_ge i ns.length with h | h
      · exact h
      · rw [List.getElem?_eq_none h] at hi; cases hi
    refine app_mem hkeys ?_
    unfold wrG
    refine List.mem_append.2 (.inl (List.mem_map.2 ⟨i, List.mem_range.2 hlt, ?_⟩))
    simp [List.getD, hi]
  have hgf : ∀ j, j < r.n - ns.length → (H.app (wrG ns nm r)).get (nm + j) = (r.H.get (ns.length + j)).map (ABlk.ren (backN ns nm r.n)) := fun j hj => by
    refine app_mem hkeys ?_
    unfold wrG
    exact List.mem_append.2 (.inr (List.mem_map.2 ⟨j, List.mem_range.2 hj, rfl⟩))
  have hgn : ∀ l, l ∉ ns → ¬ (nm ≤ l ∧ l < nm + (r.n - ns.length)) → (H.app (wrG ns nm r)).get l = H.get l := fun l hl hl2 => by
    refine get_app fun p hp e => ?_
    unfold wrG at hp
    rcases List.mem_append.1 hp with hp | hp
    · obtain ⟨i, hi, rfl⟩ := List.mem_map.1 hp
      have hi := List.mem_range.1 hi
      refine hl ?_
      rw [← e]
      simp only [List.getD, List.getElem?_eq_getElem hi, Option.getD_some]
      exact List.getElem_mem hi
    · obtain ⟨j, hj, rfl⟩ := List.mem_map.1 hp
      have hj := List.mem_range.1 hj
      exact hl2 ⟨by simp only at e; omega, by simp only at e; omega⟩
  -- the names' blocks
  have hmo : ∀ i l, ns[i]? = some l → m' i = m l := fun i l hi => by
    have hlt : i < ns.length := by
      rcases Nat.lt_or_ge i ns.length with h | h
      · exact h
      · rw [List.getElem?_eq_none h] at hi; cases hi
    have := hc.mold i hlt
    rw [this]
    show mOf m ns i = m l
    unfold mOf; rw [hi]; rfl
  have hm2o : ∀ l, ¬ (nm ≤ l ∧ l < nm + (r.n - ns.length)) → mBack m m' ns.length nm r.n l = m l := fun l hl => if_neg hl
  have hm2f : ∀ j, j < r.n - ns.length → mBack m m' ns.length nm r.n (nm + j) = m' (ns.length + j) := fun j hj => by
    unfold mBack
    rw [if_pos ⟨by omega, by omega⟩]
    congr 1; omega
  have hsub : ∀ l, nm ≤ l ∧ l < nm + (r.n - ns.length) → nm ≤ l ∧ l < nm + 8 := fun l hl => ⟨hl.1, by omega⟩
  have hbk : ∀ j i, backN ns nm r.n j = some i → (ns[j]? = some i ∧ j < ns.length) ∨ (ns.length ≤ j ∧ j < r.n ∧ i = nm + (j - ns.length)) := by
    intro j i hj
    unfold backN at hj
    cases h1 : Nat.blt j ns.length
    · rw [h1] at hj
      simp only [cond_false] at hj
      have h1' : ¬ j < ns.length := fun e => by
        have : Nat.blt j ns.length = true := Nat.ble_eq_true_of_le e
        rw [this] at h1; cases h1
      cases h2 : Nat.blt j r.n
      · rw [h2] at hj; cases hj
      · rw [h2] at hj
        have h2' : j < r.n := Nat.le_of_ble_eq_true h2
        exact .inr ⟨by omega, h2', (Option.some.inj hj).symm⟩
    · rw [h1] at hj
      exact .inl ⟨hj, Nat.le_of_ble_eq_true h1⟩
  -- the relation, back
  have hrel : ∀ x v, Rel w' K' m' r.H x v → Rel w' K' (mBack m m' ns.length nm r.n) (H.app (wrG ns nm r)) (x.ren (backN ns nm r.n)) v := by
    intro x v hx
    refine rel_renG (fun j i y hj hy => ?_) (fun j i T t xs hj hx => ?_) hx
    · rcases hbk j i hj with ⟨h1, h2⟩ | ⟨h1, h2, rfl⟩
      · rw [hm2o i (fun e => hdis i (List.mem_of_getElem? h1) (hsub i e)), ← hmo j i h1]; exact hy
      · rw [hm2f (j - ns.length) (by omega), show ns.length + (j - ns.length) = j by omega]; exact hy
    · have hb : ((r.H.get j).map (ABlk.ren (backN ns nm r.n))) = some (.row T t xs) := by
        rcases hbk j i hj with ⟨h1, h2⟩ | ⟨h1, h2, rfl⟩
        · rw [← hgo j i h1]; exact hx
        · have := hgf (j - ns.length) (by omega)
          rw [show ns.length + (j - ns.length) = j by omega] at this
          rw [← this]; exact hx
      obtain ⟨b, hb1, hb2⟩ := Option.map_eq_some_iff.1 hb
      cases b with
      | box cells => cases hb2
      | row T' t' xs' => cases hb2; exact hb1
      | mp => cases hb2
  have hblk : ∀ j i b, backN ns nm r.n j = some i → mBack m m' ns.length nm r.n i = m' j → BlkRel w' K' m' r.H j b → BlkRel w' K' (mBack m m' ns.length nm r.n) (H.app (wrG ns nm r)) i (b.ren (backN ns nm r.n)) := by
    intro j i b hj hm hb
    cases b with
    | box cells =>
      obtain ⟨b, cs, T, h1, h2, h3, h4⟩ := hb
      refine ⟨b, cs, T, by rw [hm]; exact h1, h2, by rw [renL_length]; exact h3, fun q x v hx hv => ?_⟩
      rw [renL_get] at hx
      obtain ⟨y, hy, rfl⟩ := Option.map_eq_some_iff.1 hx
      exact hrel _ _ (h4 q y v hy hv)
    | row T t xs =>
      rcases hb with ⟨h1, h2⟩ | ⟨b, cs, h1, h2, h3, h4⟩
      · exact .inl ⟨by rw [hm]; exact h1, h2⟩
      · exact .inr ⟨b, cs, by rw [hm]; exact h1, h2, h3, h4⟩
    | mp tk tv kvs =>
      obtain ⟨b, es, c, h1, h2, h3, h4⟩ := hb
      exact ⟨b, es, c, by rw [hm]; exact h1, h2, h3, h4⟩
  -- which blocks are whose
  have hnsb : ∀ i b, mOf m ns i = some (some b) → ∃ l blk, ns[i]? = some l ∧ l ∈ ns ∧ m l = some (some b) ∧ H.get l = some blk := fun i b hi => by
    obtain ⟨l, hl, hm⟩ := hin hi
    obtain ⟨blk, hb⟩ := hall l (List.mem_of_getElem? hl)
    exact ⟨l, blk, hl, List.mem_of_getElem? hl, hm, hb⟩
  have hkeepK : ∀ b, K b → w'.heap[b]? = w.heap[b]? := fun b hb =>
    hc.keep b (h.Klt b hb) fun i _ hi => by
      obtain ⟨l, blk, _, _, hm, hg⟩ := hnsb i b hi
      exact h.own l blk b hg hm hb
  have hkeepB : ∀ l blk b, l ∉ ns → H.get l = some blk → m l = some (some b) → w'.heap[b]? = w.heap[b]? := fun l blk b hl hg hm =>
    hc.keep b (h.mlt l b hm) fun i _ hi => by
      obtain ⟨l', blk', _, hl', hm', hg'⟩ := hnsb i b hi
      exact hl (by rw [h.inj l l' blk blk' b hg hg' hm hm']; exact hl')
  have hcase : ∀ l blk, (H.app (wrG ns nm r)).get l = some blk → (∃ i b, ns[i]? = some l ∧ i < ns.length ∧ r.H.get i = some b ∧ blk = b.ren (backN ns nm r.n)) ∨
      (∃ j b, j < r.n - ns.length ∧ l = nm + j ∧ r.H.get (ns.length + j) = some b ∧ blk = b.ren (backN ns nm r.n)) ∨ (l ∉ ns ∧ ¬ (nm ≤ l ∧ l < nm + (r.n - ns.length)) ∧ H.get l = some blk) := by
    intro l blk hb
    by_cases h1 : l ∈ ns
    · obtain ⟨i, hi, rfl⟩ := List.getElem_of_mem h1
      have hi' : ns[i]? = some ns[i] := List.getElem?_eq_getElem hi
      rw [hgo i _ hi'] at hb
      obtain ⟨b, hb1, hb2⟩ := Option.map_eq_some_iff.1 hb
      exact .inl ⟨i, b, hi', hi, hb1, hb2.symm⟩
    · by_cases h2 : nm ≤ l ∧ l < nm + (r.n - ns.length)
      · have e : l = nm + (l - nm) := by omega
        rw [e, hgf (l - nm) (by omega)] at hb
        obtain ⟨b, hb1, hb2⟩ := Option.map_eq_some_iff.1 hb
        exact .inr (.inl ⟨l - nm, b, by omega, e, hb1, hb2.symm⟩)
      · rw [hgn l h1 h2] at hb
        exact .inr (.inr ⟨h1, h2, hb⟩)
  have hbo : ∀ i l, ns[i]? = some l → i < ns.length → backN ns nm r.n i = some l := fun i l hi hlt => by
    unfold backN
    have : Nat.blt i ns.length = true := Nat.ble_eq_true_of_le hlt
    rw [this]; exact hi
  have hbf : ∀ j, j < r.n - ns.length → backN ns nm r.n (ns.length + j) = some (nm + j) := fun j hj => by
    unfold backN
    have e1 : Nat.blt (ns.length + j) ns.length = false := by
      cases hq : Nat.blt (ns.length + j) ns.length
      · rfl
      · have := Nat.le_of_ble_eq_true hq; omega
    have e2 : Nat.blt (ns.length + j) r.n = true := Nat.ble_eq_true_of_le (by omega)
    rw [e1, e2]
    simp
  have hext : Ext w K m H w' K' (mBack m m' ns.length nm r.n) (H.app (wrG ns nm r)) := by
    refine ⟨hc.Kmono, hkeepK, fun l x hx => ?_, hc.shape, fun l T t xs hl hx => ?_⟩
    · rw [hm2o l (fun e => by have := hfresh l (hsub l e).1 (hsub l e).2; rw [this] at hx; cases hx)]; exact hx
    · rcases hcase l _ hx with ⟨i, b, hi, hlt, hb, e⟩ | ⟨j, b, hj, rfl, hb, e⟩ | ⟨_, _, hb⟩
      · cases b with
        | box cells => cases e
        | row T' t' xs' =>
          cases e
          obtain ⟨ys, hy, hlen⟩ := hrow i T t xs hlt hb
          obtain ⟨l', b', h1, _, h2, h3⟩ := renH_get _ _ _ _ hy
          rw [Nat.sub_zero, hi] at h1
          cases h1
          cases b' with
          | box cells => cases h3
          | row T2 t2 ys2 => cases h3; exact ⟨ys, h2, hlen⟩
          | mp => cases h3
        | mp => cases e
      · exact absurd (hfresh _ (by omega) (by omega)) hl
      · exact ⟨xs, hb, rfl⟩
  refine ⟨?_, hext, hrel⟩
  -- a block under a name that the callee knows
  have hmk : ∀ i l, ns[i]? = some l → mBack m m' ns.length nm r.n l = m' i := fun i l hi => by
    rw [hm2o l (fun e => hdis l (List.mem_of_getElem? hi) (hsub l e)), hmo i l hi]
  have hKnot : ∀ l blk b, l ∉ ns → H.get l = some blk → m l = some (some b) → ¬ K' b := fun l blk b hl hg hm hk => by
    rcases hc.Knew b hk with h1 | h1 | ⟨i, _, hi⟩
    · exact h.own l blk b hg hm h1
    · have := h.mlt l b hm
      have h1 : w.heap.size ≤ b := h1
      omega
    · obtain ⟨l', blk', _, hl', hm', hg'⟩ := hnsb i b hi
      exact hl (by rw [h.inj l l' blk blk' b hg hg' hm hm']; exact hl')
  -- a name of the callee's, and one that it does not know: never the same block
  have hcross : ∀ j blk1 b l' blk', r.H.get j = some blk1 → m' j = some (some b) → l' ∉ ns → H.get l' = some blk' → m l' = some (some b) → False := by
    intro j blk1 b l' blk' hj hmj hl' hg' hm'
    have hlt := h.mlt l' b hm'
    have : ∃ i, i < ns.length ∧ mOf m ns i = some (some b) := by
      rcases Nat.lt_or_ge j ns.length with h1 | h1
      · refine ⟨j, h1, ?_⟩
        have := hc.mold j h1
        rw [hmj] at this; exact this.symm
      · rcases hc.mnew j b h1 hmj with h2 | ⟨i, hi, hmi⟩
        · have h2 : w.heap.size ≤ b := h2
          omega
        · exact ⟨i, hi, hmi⟩
    obtain ⟨i, _, hi⟩ := this
    obtain ⟨l, blk, _, hl, hm, hg⟩ := hnsb i b hi
    exact hl' (by rw [h.inj l' l blk' blk b hg' hg hm' hm]; exact hl)
  exact
  { os := hc.os.trans h.os, tape := hc.tape.trans h.tape, output := hc.output.trans h.output, size := Nat.le_trans h.size hc.size
    keep := fun b hb hb2 => by
      rw [← h.keep b hb hb2]
      refine hc.keep b (Nat.lt_of_lt_of_le hb h.size) fun i _ hi => ?_
      obtain ⟨l, blk, _, _, hm, _⟩ := hnsb i b hi
      rcases Nat.lt_or_ge l E.n with h1 | h1
      · exact hb2 l h1 (by rw [← h.mold l h1]; exact hm)
      · rcases h.mnew l b h1 hm with h2 | ⟨k, hk, hmk⟩
        · omega
        · exact hb2 k hk hmk
    Kmono := fun b hb => hc.Kmono b (h.Kmono b hb)
    Klt := hc.Klt
    Knew := fun b hb => by
      rcases hc.Knew b hb with h1 | h1 | ⟨i, _, hi⟩
      · exact h.Knew b h1
      · exact .inr (.inl (Nat.le_trans h.size h1))
      · obtain ⟨l, blk, _, _, hm, _⟩ := hnsb i b hi
        rcases Nat.lt_or_ge l E.n with h1 | h1
        · exact .inr (.inr ⟨l, h1, by rw [← h.mold l h1]; exact hm⟩)
        · rcases h.mnew l b h1 hm with h2 | h2
          · exact .inr (.inl h2)
          · exact .inr (.inr h2)
    mold := fun l hl => by
      rw [hm2o l (fun e => ?_)]
      · exact h.mold l hl
      · have := h.fnew _ (hfr (l - nm) (by omega))
        omega
    mnew := fun l b hl hm => by
      by_cases hq : nm ≤ l ∧ l < nm + (r.n - ns.length)
      · have e : l = nm + (l - nm) := by omega
        rw [e, hm2f (l - nm) (by omega)] at hm
        rcases hc.mnew _ b (by show ns.length ≤ _; omega) hm with h1 | ⟨i, _, hi⟩
        · exact .inl (Nat.le_trans h.size h1)
        · obtain ⟨l', blk, _, _, hm', _⟩ := hnsb i b hi
          rcases Nat.lt_or_ge l' E.n with h1 | h1
          · exact .inr ⟨l', h1, by rw [← h.mold l' h1]; exact hm'⟩
          · exact h.mnew l' b h1 hm'
      · rw [hm2o l hq] at hm; exact h.mnew l b hl hm
    mlt := fun l b hm => by
      by_cases hq : nm ≤ l ∧ l < nm + (r.n - ns.length)
      · have e : l = nm + (l - nm) := by omega
        rw [e, hm2f (l - nm) (by omega)] at hm
        exact hc.mlt _ b hm
      · rw [hm2o l hq] at hm; exact Nat.lt_of_lt_of_le (h.mlt l b hm) hc.size
    mfree := fun l hl => by
      rw [hm2o l (fun e => hl.2 (hsub l e))]; exact h.mfree l hl.1
    fnew := fun l hl => h.fnew l hl.1
    heap := fun l blk hb => by
      rcases hcase l _ hb with ⟨i, b, hi, hlt, hbb, rfl⟩ | ⟨j, b, hj, rfl, hbb, rfl⟩ | ⟨hl, hl2, hbb⟩
      · exact hblk i l b (hbo i l hi hlt) (hmk i l hi) (hc.heap i b hbb)
      · exact hblk _ _ b (hbf j hj) (hm2f j hj) (hc.heap _ b hbb)
      · exact BlkRel.ext hext (h.heap l blk hbb) (fun b hm => hkeepB l blk b hl hbb hm)
    own := fun l blk b hb hm => by
      rcases hcase l _ hb with ⟨i, b1, hi, hlt, hbb, rfl⟩ | ⟨j, b1, hj, rfl, hbb, rfl⟩ | ⟨hl, hl2, hbb⟩
      · rw [hmk i l hi] at hm; exact hc.own i b1 b hbb hm
      · rw [hm2f j hj] at hm; exact hc.own _ b1 b hbb hm
      · rw [hm2o l hl2] at hm; exact hKnot l blk b hl hbb hm
    inj := fun l l' blk blk' b hb hb' hm hm' => by
      have key : ∀ l blk, (H.app (wrG ns nm r)).get l = some blk → mBack m m' ns.length nm r.n l = some (some b) → (∃ j b1, backN ns nm r.n j = some l ∧ r.H.get j = some b1 ∧ m' j = some (some b)) ∨ (l ∉ ns ∧ H.get l = some blk ∧ m l = some (some b)) := by
        intro l blk hb hm
        rcases hcase l _ hb with ⟨i, b1, hi, hlt, hbb, rfl⟩ | ⟨j, b1, hj, rfl, hbb, rfl⟩ | ⟨hl, hl2, hbb⟩
        · rw [hmk i l hi] at hm; exact .inl ⟨i, b1, hbo i l hi hlt, hbb, hm⟩
        · rw [hm2f j hj] at hm; exact .inl ⟨_, b1, hbf j hj, hbb, hm⟩
        · rw [hm2o l hl2] at hm; exact .inr ⟨hl, hbb, hm⟩
      rcases key l blk hb hm with ⟨j, b1, hj, hb1, hm1⟩ | ⟨hl, hb1, hm1⟩ <;> rcases key l' blk' hb' hm' with ⟨j', b2, hj', hb2, hm2⟩ | ⟨hl', hb2, hm2⟩
      · have e := hc.inj j j' b1 b2 b hb1 hb2 hm1 hm2
        rw [e, hj'] at hj
        exact (Option.some.inj hj).symm
      · exact (hcross j b1 b l' blk' hb1 hm1 hl' hb2 hm2).elim
      · exact (hcross j' b2 b l blk hb2 hm2 hl hb1 hm1).elim
      · exact h.inj l l' blk blk' b hb1 hb2 hm1 hm2
    shape := fun b s hs => hc.shape b s (h.shape b s hs)
    frozen := fun b hb => (hc.frozen b (h.Kmono b hb)).trans (h.frozen b hb), gok := hc.gok }

end Go.VL

/-
  The value layer, part 18: whatever the abstract machine tells holds of the function. (Own work.)
-/
namespace Go.VL

variable {P : Program} {C : Codes} {S : Sigs} {E : Entry} {w : World} {K : Nat → Prop} {m : Nat → Option (Option Nat)} {free : Nat → Prop} {H : Heap}
  {F : Fm} {f : FuncId} {R : Ending → World → Prop} {a : Act} {k : List Item} {s : AS} {α : Type}

/-- The names that are free at a point of the text. -/
def freeOf (todo : List Item) (next : Nat) : Nat → Prop := match todo with
  | .inRegion ops rest :: _ => fun l => next + 8 * ops.size ≤ l ∨ ∃ i, i ∈ rest ∧ i < ops.size ∧ next + 8 * i ≤ l ∧ l < next + 8 * i + 8
  | _ => fun l => next ≤ l
def noReg (k : List Item) : Prop := ∀ ops l, Item.inRegion ops l ∉ k
def okTodo : List Item → Prop
  | .inRegion ops rest :: k => (rest.Nodup ∧ ∀ i ∈ rest, i < ops.size) ∧ noReg k
  | k => noReg k
theorem okTodo_of {k : List Item} (h : noReg k) : okTodo k := by
  unfold okTodo
  split
  · exact absurd List.mem_cons_self (h _ _)
  · exact h
theorem freeOf_of {k : List Item} (h : noReg k) (next l : Nat) : freeOf k next l ↔ next ≤ l := by
  unfold freeOf
  split
  · exact absurd List.mem_cons_self (h _ _)
  · exact Iff.rfl
theorem noReg.tail {x : Item} {k : List Item} (h : noReg (x :: k)) : noReg k := fun ops l hm => h ops l (by simp [hm])
theorem noReg.cons {x : Item} {k : List Item} (h : noReg k) (hx : ∀ ops l, x ≠ .inRegion ops l) : noReg (x :: k) := by
  intro ops l hm
  rcases List.mem_cons.1 hm with hm | hm
  · exact hx ops l hm.symm
  · exact h ops l hm
theorem noReg_exit {id : Nat} : ∀ {k k' : List Item}, exitTo id k = some k' → noReg k → noReg k'
  | [], k', h, _ => by simp [exitTo] at h
  | x :: k, k', h, hn => by
    cases x with
    | inBlock id' =>
      simp only [exitTo] at h
      split at h
      · simp only [Option.some.injEq] at h; subst h; exact hn.tail
      · exact noReg_exit h hn.tail
    | _ => exact noReg_exit (k := k) (by simpa [exitTo] using h) hn.tail

/-- WHAT AN ABSTRACT STATE PROMISES: from there the function comes to its end, and R holds. -/
def ASat (P : Program) (F : Fm) (E : Entry) (todo : List Item) (s : AS) : Prop :=
  okTodo todo → ∀ a w K m, St E s a w K m (freeOf todo s.next) → Runs P F a w todo

def Sat (P : Program) (A : List Item → AS → Prop) (R0 : α → Prop) : Out α → Prop
  | .fail => False
  | .ret x => R0 x
  | .need p k => p ∧ Sat P A R0 k
  | .callP f args ts k => ∃ x, Pure P f args ts x ∧ Sat P A R0 (k x)
  | .ask p k => ∀ b, p b → Sat P A R0 (k b)
  | .callG f as H0 n0 _ out k => ∃ x, Gc P f as H0 n0 (out x) ∧ Sat P A R0 (k x)
  | .callX f as x k => ExtC P f as x ∧ Sat P A R0 k
  | .stop todo s => A todo s

/-- What the results come to. -/
def FinR (P : Program) (fn : Func) (E : Entry) (fin : Fin α) (R0 : α → Prop) (F : Fm) : Prop :=
  ∀ s a w K m free vs x p todo, St E s a w K m free → resA P s fn.results.toList = some vs → fin vs s.H = some (x, p) → p → R0 x → (todo = [] ∨ ∃ k, todo = .code .ret :: k) → Runs P F a w todo
def FinOK (P : Program) (fn : Func) (E : Entry) (fin : Fin α) (R0 : α → Prop) (R : Ending → World → Prop) : Prop :=
  ∀ s a w K m free vs x p, St E s a w K m free → resA P s fn.results.toList = some vs → fin vs s.H = some (x, p) → p → R0 x → ∃ v, (results fn a.tmps).run P w = .ok v w ∧ R (.returned v) w

theorem sls_need {a : AV} {te : Ty} {s : Sls te} (hs : a.sls H te = some s) (h2 : ∀ l t off len, a ≠ .view l t off len) : s.need := by
  cases a with
  | d x => simp only [AV.sls, Option.map_eq_some_iff] at hs; obtain ⟨_, _, rfl⟩ := hs; trivial
  | fl t xs =>
    simp only [AV.sls] at hs
    split at hs
    · cases hs; trivial
    · cases hs
  | own l t =>
    simp only [AV.sls] at hs
    split at hs
    · split at hs
      · split at hs
        · cases hs; trivial
        · cases hs
      · cases hs
    · cases hs
  | view l t off n => exact absurd rfl (h2 l t off n)
  | _ => simp [AV.sls] at hs

theorem triv_need {ρ : Operand → AV} {o : Oper} {nm : Nat} {e : Eff} (ht : trivB ρ o = true) (he : opE P C ρ H nm o = some e) : e.need := by
  have fin : ∀ {v : AV} {e : Eff}, eff v = some e → e.need := fun h => by simp only [eff, Option.some.injEq] at h; subst h; trivial
  cases ho : o.op with
  | move x => simp only [opE, ho] at he; exact fin he
  | assign x => simp only [opE, ho] at he; exact fin he
  | pick c a b =>
    simp only [opE, ho, Option.bind_eq_some_iff] at he
    obtain ⟨cb, _, he⟩ := he
    split at he
    · exact fin he
    · cases cb
      · cases he
      · exact fin he
    · cases cb
      · exact fin he
      · cases he
    · cases he
  | alloc t => simp only [opE, ho, Option.map_eq_some_iff] at he; obtain ⟨_, _, rfl⟩ := he; trivial
  | box t x =>
    simp only [opE, ho] at he
    cases hk : (ρ x).known
    · simp [hk] at he
    · simp only [hk, cond_true, Option.some.injEq] at he; subst he; trivial
  | build t ps =>
    simp only [opE, ho] at he
    split at he
    · rename_i fs _
      cases hk : (fs.toList.all fun f => (szOf P f.type).isSome)
      · simp [hk] at he
      · simp only [hk, cond_true, Option.bind_eq_some_iff] at he; obtain ⟨_, _, _, _, he⟩ := he; exact fin he
    · simp only [Option.bind_eq_some_iff] at he; obtain ⟨_, _, _, _, _, _, he⟩ := he; exact fin he
    · cases he
  | nilCheck x =>
    simp only [opE, ho] at he
    split at he <;> first | exact fin he | cases he
  | unOp op t x =>
    simp only [opE, ho] at he
    split at he
    · simp only [Option.bind_eq_some_iff] at he; obtain ⟨_, _, he⟩ := he; exact fin he
    · cases he
  | convert s t x =>
    simp only [trivB, ho] at ht
    simp only [opE, ho] at he
    split at he
    · exact fin he
    · exact fin he
    · exact fin he
    · simp only [Option.bind_eq_some_iff] at he; obtain ⟨_, _, he⟩ := he; exact fin he
    · split at he
      · rename_i _ _ _ el _ _ _ _
        cases hsz : (szOf P el == some 1)
        · rw [hsz] at he; cases he
        rw [hsz] at he
        simp only [cond_true, Option.map_eq_some_iff] at he
        obtain ⟨q, hq, rfl⟩ := he
        exact sls_need hq (fun l t off n e => by rw [e] at ht; cases ht)
      · cases he
    · cases he
  | makeFunc fn fs cs => simp only [opE, ho] at he; exact fin he
  | fieldAddr t x f =>
    simp only [opE, ho, Option.bind_eq_some_iff] at he
    obtain ⟨fd, _, he⟩ := he
    cases hk : posSz P fd.type
    · simp [hk] at he
    · simp only [hk, cond_true] at he
      split at he <;> first | exact fin he | cases he
  | field t x f =>
    simp only [opE, ho, Option.bind_eq_some_iff] at he
    obtain ⟨fd, _, he⟩ := he
    split at he
    · simp only [Option.bind_eq_some_iff] at he; obtain ⟨_, _, he⟩ := he; exact fin he
    · cases he
  | extract x i =>
    simp only [opE, ho] at he
    split at he
    · simp only [Option.bind_eq_some_iff] at he; obtain ⟨_, _, he⟩ := he; exact fin he
    · cases he
  | load t a =>
    simp only [trivB, ho] at ht
    simp only [opE, ho] at he
    split at ht
    · rename_i ha
      rw [ha] at he
      simp only at he
      split at he
      · simp only [Option.map_eq_some_iff] at he; obtain ⟨_, _, rfl⟩ := he; trivial
      · cases he
    · rename_i ha
      rw [ha] at he
      simp only [Option.bind_eq_some_iff] at he; obtain ⟨_, _, he⟩ := he; exact fin he
    · cases ht
  | store t a x =>
    simp only [trivB, ho] at ht
    simp only [opE, ho] at he
    split at ht
    · rename_i l f ha
      rw [ha] at he
      cases hs : szOf P t with
      | none => rw [hs] at he; simp at he
      | some n =>
        rw [hs] at he
        simp only at he
        split at he
        · rename_i cells _
          cases hk : ((ρ x).cells.length == n && Nat.ble (f + n) cells.length && (ρ x).cells.all AV.one)
          · simp [hk] at he
          · simp only [hk, cond_true, Option.some.injEq] at he; subst he; trivial
        · cases he
    · rename_i ha
      rw [ha] at he
      cases hs : szOf P t <;> (rw [hs] at he; simp at he)
    · cases ht
  | binOp op t x y yt =>
    simp only [trivB, ho] at ht
    simp only [opE, ho] at he
    split at he
    · rename_i xs ys _ _
      cases hk : eqOk P t xs
      · simp [hk] at he
      · simp only [hk, cond_true] at he
        split at he
        · simp only [Option.bind_eq_some_iff] at he; obtain ⟨_, _, he⟩ := he; exact fin he
        · simp only [Option.bind_eq_some_iff] at he; obtain ⟨_, _, he⟩ := he; exact fin he
        · cases he
    · cases hp : ptrNil P t (ρ x) (ρ y)
      case true =>
        rw [hp] at he
        simp only [cond_true] at he
        split at he <;> first | exact fin he | cases he
      rw [hp] at he
      simp only [cond_false] at he
      unfold binE at he
      split at he
      · split at he <;> first | exact fin he | (simp only [Option.bind_eq_some_iff] at he; obtain ⟨_, _, he⟩ := he; exact fin he)
      · split at he
        · split at he
          · cases ht
          · cases ht
          · cases ht
          · cases ht
          · simp only [Option.bind_eq_some_iff] at he; obtain ⟨_, _, he⟩ := he; exact fin he
        · split at he
          · simp only [Option.bind_eq_some_iff] at he; obtain ⟨_, _, he⟩ := he; exact fin he
          · simp only [Option.bind_eq_some_iff] at he; obtain ⟨_, _, he⟩ := he; exact fin he
          · simp only [Option.bind_eq_some_iff] at he; obtain ⟨_, _, he⟩ := he; exact fin he
          · cases he
        · cases he
  | call c =>
    obtain ⟨callee, args, ts⟩ := c
    cases callee with
    | builtin b =>
      cases b with
      | min => simp only [opE, ho, Option.bind_eq_some_iff] at he; obtain ⟨_, _, he⟩ := he; exact fin he
      | max => simp only [opE, ho, Option.bind_eq_some_iff] at he; obtain ⟨_, _, he⟩ := he; exact fin he
      | len =>
        simp only [opE, ho] at he
        split at he
        · split at he
          · split at he
            · exact fin he
            · cases he
          · split at he
            · simp only [Option.map_eq_some_iff, Prod.exists] at he
              obtain ⟨n, p, r, hl, rfl⟩ := he
              unfold AV.len? at hl
              split at hl <;> first | (simp only [Option.some.injEq, Prod.mk.injEq] at hl; obtain ⟨_, rfl, _⟩ := hl; trivial) | (split at hl <;> first | (split at hl <;> first | (simp only [Option.some.injEq, Prod.mk.injEq] at hl; obtain ⟨_, rfl, _⟩ := hl; trivial) | cases hl) | cases hl) | cases hl
            · cases he
        · cases he
      | _ => simp [trivB, ho] at ht
    | _ => simp [trivB, ho] at ht
  | makeMap t r =>
    cases r with
    | none => simp only [opE, ho, makeMapE, Option.map_eq_some_iff] at he; obtain ⟨_, _, rfl⟩ := he; trivial
    | some r => simp [opE, ho] at he
  | lookup t x ix ok =>
    simp only [opE, ho, lookE, Option.bind_eq_some_iff] at he
    obtain ⟨_, _, he⟩ := he
    split at he
    · split at he
      · split at he
        · cases he; trivial
        · cases he
      · cases he
    · cases he
  | _ => simp [trivB, ho] at ht

/-- What an operation comes to, as a fact. -/
inductive OpOK (P : Program) (C : Codes) (S : Sigs) (ρ : Operand → AV) (H : Heap) (nm : Nat) (o : Oper) : Ef → Prop
  | op (e : Eff) (hc : callOf ρ o = none) (he : opE P C ρ H nm o = some e) (hn : e.need) : OpOK P C S ρ H nm o ⟨e.v, e.rd, e.wr⟩
  | call (g : FuncId) (as : List AV) (ps ts : List Ty) (xs : List Arg) (p : Prop) (fz : List Nat) (x : TyTup ts) (hcall : callOf ρ o = some (g, as)) (hsig : S g = some (.pure ps ts)) (hent : entersB P g = true)
      (hargs : toArgs H ps as = some (xs, p, fz)) (hp : p) (hpure : Pure P g xs ts x) : OpOK P C S ρ H nm o ⟨ofRes ts x, fz, bif ts.all Ty.bare then [] else fz.map fun l => (l, none)⟩
  | callG (g : FuncId) (as : List AV) (ts : List Ty) (out : List AV → Heap → TyTup ts → GRes) (x : TyTup ts) (ns : List Nat) (r : GRes) (hcall : callOf ρ o = some (g, as)) (hsig : S g = some (.heap ts out)) (hent : entersB P g = true)
      (hns : reachA H as = ns) (hnd : nodupB ns = true) (hall : ns.all (fun l => (H.get l).isSome) = true) (hr : out (renL (idxN ns) as) (renH (idxN ns) H ns 0) x = r) (hn : Nat.ble r.n (ns.length + 8) = true)
      (hc : Gc P g (renL (idxN ns) as) (renH (idxN ns) H ns 0) ns.length r) : OpOK P C S ρ H nm o (efG ns nm r)
  | ext (g : FuncId) (as : List AV) (out : List AV → Option AV) (x : AV) (hcall : callOf ρ o = some (g, as)) (hsig : S g = some (.ext out)) (hout : out as = some x) (hx : ExtC P g as x) : OpOK P C S ρ H nm o ⟨x, [], []⟩

theorem sat_splitK {A : List Item → AS → Prop} {R0 : α → Prop} {k : Int} {g : Nat → Out α} : ∀ {n : Nat}, Sat P A R0 (splitK k n g) → ∃ i, i < n ∧ k = (i : Int) ∧ Sat P A R0 (g i)
  | 0, h => by simp [splitK, Sat] at h
  | n + 1, h => by
    unfold splitK at h
    cases hk : k == (n : Int)
    · rw [hk] at h
      obtain ⟨i, hi, he, h⟩ := sat_splitK (n := n) h
      exact ⟨i, by omega, he, h⟩
    · rw [hk] at h
      exact ⟨n, by omega, by simpa using hk, h⟩
theorem arr_opE {ρ : Operand → AV} {o : Oper} {nm n : Nat} {k : Int} {i : Nat} {e : Eff} (harr : arrOf P ρ o = some (n, k)) (hk : k = (i : Int)) (he : arrAt P ρ o i = some e) (hi : i < n) :
    opE P C ρ H nm o = some e ∧ e.need := by
  have need1 : ∀ {x : AV} {t : TypeId} {el : TypeId}, P.underlying t = some (.array n el) → arrEA P x t (i : Int) = some e → e.need := fun {x t el} hu h => by
    unfold arrEA elemOfArr at h
    rw [hu] at h
    simp only [Option.bind_some] at h
    obtain ⟨sz, _, h⟩ := Option.bind_eq_some_iff.1 h
    split at h
    · simp only [Option.some.injEq] at h; subst h
      exact ⟨by omega, by omega⟩
    · split at h
      · rename_i q _
        cases hc : (sz == 1 && q.2.length == n)
        · rw [hc] at h; cases h
        · rw [hc] at h; cases h
          exact ⟨by omega, by omega⟩
      · simp only [Option.some.injEq] at h; subst h
        exact ⟨by omega, by omega⟩
    · cases h
  have need2 : ∀ {x : AV} {t : TypeId} {el : TypeId}, P.underlying t = some (.array n el) → arrEI P x t (i : Int) = some e → e.need := fun {x t el} hu h => by
    unfold arrEI elemOfArr at h
    rw [hu] at h
    simp only [Option.bind_some] at h
    obtain ⟨sz, _, h⟩ := Option.bind_eq_some_iff.1 h
    split at h
    · simp only [Option.map_eq_some_iff] at h
      obtain ⟨v, _, rfl⟩ := h
      exact ⟨by omega, by omega⟩
    · cases h
  unfold arrOf at harr
  split at harr
  · rename_i t x ix ho
    cases htb : (ρ x).tabB
    case true => rw [htb] at harr; cases harr
    rw [htb, cond_false] at harr
    obtain ⟨el, hu, _⟩ := arrK_cases harr
    simp only [arrAt, ho] at he
    refine ⟨?_, need1 hu he⟩
    simp only [opE, ho, harr, hk]
    exact he
  · rename_i t x ix ho
    obtain ⟨el, hu, _⟩ := arrK_cases harr
    simp only [arrAt, ho] at he
    refine ⟨?_, need2 hu he⟩
    simp only [opE, ho, harr, hk]
    exact he
  · cases harr

theorem opD_ok {o : Oper} {nm : Nat} {A : List Item → AS → Prop} {R0 : α → Prop} {kk : Ef → AS → Out α} (h : Sat P A R0 (opD P C S nm o s kk)) :
    ∃ ef, OpOK P C S s.ev s.H nm o ef ∧ Sat P A R0 (kk ef (s.aft o (some ef))) := by
  unfold opD at h
  split at h
  · rename_i g as hcall
    split at h
    · rename_i ts out hsig
      cases hb : (entersB P g && nodupB (reachA s.H as) && (reachA s.H as).all (fun l => (s.H.get l).isSome))
      · rw [hb] at h; simp [Sat] at h
      rw [hb] at h
      simp only [Bool.and_eq_true] at hb
      obtain ⟨x, hc, h⟩ := h
      simp only at h
      cases hn : Nat.ble (out (renL (idxN (reachA s.H as)) as) (renH (idxN (reachA s.H as)) s.H (reachA s.H as) 0) x).n ((reachA s.H as).length + 8)
      · rw [hn] at h; simp [Sat] at h
      rw [hn] at h
      exact ⟨_, .callG g as ts out x _ _ hcall hsig hb.1.1 rfl hb.1.2 hb.2 rfl hn hc, h⟩
    · rename_i ps ts hsig
      cases hent : entersB P g
      · simp [hent, Sat] at h
      simp only [hent, cond_true] at h
      split at h
      · rename_i xs p fz hargs
        obtain ⟨hp, x, hpure, h⟩ := h
        exact ⟨_, .call g as ps ts xs p fz x hcall hsig hent hargs hp hpure, h⟩
      · simp [Sat] at h
    · rename_i out hsig
      split at h
      · rename_i v hout
        exact ⟨_, .ext g as out v hcall hsig hout h.1, h.2⟩
      · simp [Sat] at h
    · simp [Sat] at h
  · rename_i hcall
    split at h
    · rename_i p harr
      obtain ⟨n, k⟩ := p
      obtain ⟨i, hi, hk, h⟩ := sat_splitK h
      split at h
      · rename_i e he
        obtain ⟨h1, h2⟩ := arr_opE (C := C) (H := s.H) (nm := nm) harr hk he hi
        exact ⟨_, .op e hcall h1 h2, h⟩
      · simp [Sat] at h
    split at h
    · rename_i e he
      cases ht : trivB s.ev o
      · rw [ht] at h
        exact ⟨_, .op e hcall he h.1, h.2⟩
      · rw [ht] at h
        exact ⟨_, .op e hcall he (triv_need ht he), h⟩
    · simp [Sat] at h

/-- The operands of a call. -/
theorem callOf_args {o : Oper} {g : FuncId} {as : List AV} (hst : St E s a w K m free) (hcall : callOf s.ev o = some (g, as)) :
    ∃ us : Array Value, (execOp a.eval o).run P w = (callFunc g us).run P w ∧ us.size = as.length ∧ ∀ (j : Nat) (b : AV) (v : Value), as[j]? = some b → us[j]? = some v → Rel w K m s.H b v := by
  -- the call's own operands
  obtain ⟨fo, args, ats, ho', us, vs, hfo, hus, hvs⟩ : ∃ (fo : Operand) (args : Array Operand) (ats : Array TypeId), o.op = .call { callee := .value fo, args := args, argTypes := ats } ∧
      ∃ (us vs : Array Value), a.eval fo = .func (.func g) us vs ∧ (us ++ args.map a.eval ++ vs).size = as.length ∧
        ∀ (j : Nat) (b : AV) (v : Value), as[j]? = some b → (us ++ args.map a.eval ++ vs)[j]? = some v → Rel w K m s.H b v := by
    unfold callOf at hcall
    split at hcall
    · rename_i fo args ats hop
      split at hcall
      · rename_i g' fs cs hclo
        simp only [Option.some.injEq, Prod.mk.injEq] at hcall
        obtain ⟨rfl, rfl⟩ := hcall
        have hr := hst.ev fo
        rw [hclo] at hr
        generalize hgv : a.eval fo = fv at hr
        cases hr with
        | clo _ _ _ us vs hf hl h1 h2 =>
          refine ⟨fo, args, ats, hop, us, vs, hgv, by simp [hf, hl], fun j b v hb hv => ?_⟩
          obtain ⟨hal, har⟩ := list_rel (w := w) (K := K) (m := m) (H := s.H) (fun x => hst.ev x) args
          rw [List.append_assoc, List.getElem?_append] at hb
          rw [Array.append_assoc, Array.getElem?_append] at hv
          rw [hf] at hv
          split at hb
          · rename_i hj; rw [if_pos hj] at hv; exact h1 j b v hb hv
          · rename_i hj
            rw [if_neg hj] at hv
            rw [List.getElem?_append] at hb
            rw [Array.getElem?_append, hal] at hv
            split at hb
            · rename_i hj2; rw [if_pos hj2] at hv; exact har _ b v hb hv
            · rename_i hj2; rw [if_neg hj2] at hv; exact h2 _ b v hb hv
      · cases hcall
    · cases hcall
  refine ⟨us ++ args.map a.eval ++ vs, ?_, hus, hvs⟩
  simp only [execOp, ho', resolve, Sem.run_bind, hfo, Deferred.ofValue, Sem.run_pure, Result.andThen_ok, invoke]
theorem callOf_rel {o : Oper} {g : FuncId} {as : List AV} (hst : St E s a w K m free) (hcall : callOf s.ev o = some (g, as)) (hent : entersB P g = true) :
    ∃ us : Array Value, (execOp a.eval o).run P w = .ok (.enter g us) w ∧ us.size = as.length ∧ ∀ (j : Nat) (b : AV) (v : Value), as[j]? = some b → us[j]? = some v → Rel w K m s.H b v := by
  obtain ⟨us, h1, h2, h3⟩ := callOf_args hst hcall
  refine ⟨us, ?_, h2, h3⟩
  rw [h1]
  unfold entersB at hent
  split at hent
  · rename_i fn' hfn'
    simp only [Bool.and_eq_true, bne_iff_ne, ne_eq] at hent
    obtain ⟨hn, hb⟩ := hent
    obtain ⟨c, hc⟩ := Option.isSome_iff_exists.1 hb
    simp [callFunc, hfn', hn, hc]
  · cases hent

theorem opOK_wp {o : Oper} {nm : Nat} {ef : Ef} (hst : St E s a w K m free) (hfr : ∀ k, k < 8 → free (nm + k)) (h : OpOK P C S s.ev s.H nm o ef) :
    o.wp P a w (fun a' w' => ∃ K' m', St E (s.aft o (some ef)) a' w' K' m' (fun l => free l ∧ ¬ (nm ≤ l ∧ l < nm + 8))) (fun _ _ _ => False) := by
  cases h with
  | call g as ps ts xs p fz x hcall hsig hent hargs hp hpure =>
      obtain ⟨us, hexec, hus, hvs⟩ := callOf_rel hst hcall hent
      obtain ⟨hxl, hxr, hxf⟩ := toArgs_rel hst.mem hargs hp hus hvs
      unfold Oper.wp
      rw [hexec]
      simp only [Oper.upon]
      have hK : ∀ b, KF K m fz b → b < w.heap.size := by
        rintro b (hb | ⟨l, _, hm⟩)
        · exact hst.mem.Klt b hb
        · exact hst.mem.mlt l b hm
      refine (hpure w (KF K m fz) _ hK (hst.mem.gok.ext (fun _ h => .inl h) (fun _ _ => rfl)) (by rw [hus, hxl]) hxr).mono ?_
      rintro e w' ⟨v, K', rfl, hrel, hK1, hK2, hK3, hbel⟩
      simp only
      cases hbare : ts.all Ty.bare
      · -- what may lead to memory: the arguments are given up
        obtain ⟨K1, g1, e1, hk1⟩ := Mem.gives fz hst.mem
        have hKF := KF_gives e1.hK hxf hk1
        obtain ⟨g2, e2⟩ := g1.after hbel (K2 := K') (fun b hb => (hK2 b hb).imp (hKF b) id) hK3
        have hres : Rel w' (fun b => K1 b ∨ K' b) m (s.H.app (fz.map fun l => (l, none))) (ofRes ts x) v :=
          (relT_res (m := m) (H := s.H.app (fz.map fun l => (l, none))) hrel).ext ⟨fun _ h => .inr h, fun _ _ => rfl, fun _ _ h => h, fun _ _ h => h, fun _ _ _ xs _ h => ⟨xs, h, rfl⟩⟩
        exact ⟨_, _, (hst.put o.dst hres g2 (e1.trans e2)).weaken (fun _ hl => hl.1)⟩
      · obtain ⟨g2, e2⟩ := hst.mem.after hbel (K2 := fun _ => False) (fun b hb => hb.elim) (fun b hb => hb.elim)
        have hres : Rel w' (fun b => K b ∨ False) m s.H (ofRes ts x) v := relT_res (bare_res hbare hrel)
        exact ⟨_, _, (hst.put o.dst hres g2 e2).weaken (fun _ hl => hl.1)⟩
  | ext g as out x hcall hsig hout hx =>
      obtain ⟨us, hexec, hus, hvs⟩ := callOf_args hst hcall
      obtain ⟨u, hu, hr⟩ := hx w K m s.H us hus hvs
      unfold Oper.wp
      rw [hexec, hu]
      simp only [Oper.upon]
      exact ⟨K, m, (hst.put o.dst hr hst.mem (Ext.refl w K m s.H)).weaken (fun _ hl => hl.1)⟩
  | callG g as ts out x ns r hcall hsig hent hns hnd hall hr hn hc =>
      obtain ⟨us, hexec, hus, hvs⟩ := callOf_rel hst hcall hent
      unfold Oper.wp
      rw [hexec]
      simp only [Oper.upon]
      have hnd' := nodupB_spec hnd
      have hall' : ∀ l ∈ ns, ∃ b, s.H.get l = some b := fun l hl => Option.isSome_iff_exists.1 (List.all_eq_true.1 hall l hl)
      refine (hc.2 w K (mOf m ns) us (hst.mem.enter hnd') (by rw [renL_length]; exact hus) (fun i y v hy hv => ?_)).mono ?_
      · rw [renL_get] at hy
        obtain ⟨z, hz, rfl⟩ := Option.map_eq_some_iff.1 hy
        exact rel_ren (hvs i z v hz hv)
      · rintro e w' ⟨v, K', m', rfl, hrel, hmem⟩
        simp only
        obtain ⟨g1, g2, g3⟩ := hst.mem.back hfr hnd' hall' hc.1 hmem (Nat.le_of_ble_eq_true hn)
        exact ⟨K', _, hst.put o.dst (g3 _ _ hrel) g1 g2⟩
  | op e hcall he hn =>
    obtain ⟨nx, u, w', K', m', hrun, hnx, hrel, hM, hE⟩ := opE_ran hst.mem (hfr 0 (by omega)) (ρ := a.eval) hst.ev he hn
    unfold Oper.wp
    rw [hrun]
    rcases hnx with rfl | ⟨rfl, rfl⟩
    · exact ⟨_, _, (hst.put o.dst hrel hM hE).weaken (fun l hl => ⟨hl.1, fun e => hl.2 ⟨by omega, by omega⟩⟩)⟩
    · exact ⟨_, _, (hst.put o.dst hrel hM hE).weaken (fun l hl => ⟨hl.1, fun e => hl.2 ⟨by omega, by omega⟩⟩)⟩

theorem Runs.op' {ops : Array Oper} {i : Nat} {rest : List Nat} {o : Oper} (ho : ops[i]? = some o) (hw : Region.wanted o (yielded ops a.tmps) = true) {Q : Act → World → Prop}
    (h : o.wp P a w Q (fun _ _ _ => False)) (hk : ∀ a' w', Q a' w' → a'.defers = [] ∧ Runs P F a' w' (.inRegion ops rest :: k)) : Runs P F a w (.inRegion ops (i :: rest) :: k) :=
  Runs.op ho hw (Oper.wp_mono hk h)

/-- A slice held against nil. -/
theorem nil_run {t e' : TypeId} {r : Option Addr} {n c : Nat} (hu : P.underlying t = some (.slice e')) : (Op.equal t (.slice r n c) (.slice none 0 0)).run P w = .ok r.isNone w := by
  have key : ∀ d, (Op.equalIn (d + 1) t (.slice r n c) (.slice none 0 0)).run P w = .ok r.isNone w := fun d => by
    cases r <;> simp [Op.equalIn, run_underlying hu]
  exact key 9999

theorem nilA_rel {x : AV} {v : Value} {p : Prop} (hM : Mem E w K m H free) (h : Rel w K m H x v) (hp : nilA H x = some p) : ∃ r n c, v = .slice r n c ∧ (r.isNone = true → p) := by
  cases h with
  | d y v h =>
    cases h with
    | v => simp [nilA] at hp
    | f => simp [nilA] at hp
    | sl0 t a cap => simp only [nilA, Option.some.injEq] at hp; subst hp; exact ⟨_, _, _, rfl, fun _ => rfl⟩
    | sl t xs b off cap u hb hcap hc hr => simp only [nilA, Option.some.injEq] at hp; subst hp; exact ⟨_, _, _, rfl, fun h => by simp at h⟩
  | fl t xs a n h =>
    simp only [nilA, Option.some.injEq] at hp; subst hp
    refine ⟨_, _, _, rfl, fun hn => ?_⟩
    cases h with
    | sl0 => rfl
    | sl => simp at hn
  | own0 l t a hm =>
    simp only [nilA] at hp
    split at hp
    · rename_i T t2 xs hg
      split at hp
      · simp only [Option.some.injEq] at hp; subst hp
        rcases hM.heap l _ hg with ⟨_, hx⟩ | ⟨b', cs, hm', _⟩
        · exact ⟨_, _, _, rfl, fun _ => by rw [hx]; rfl⟩
        · rw [hm] at hm'; cases hm'
      · cases hp
    · cases hp
  | own l t b n cap hm hl hcap hs =>
    simp only [nilA] at hp
    split at hp
    · split at hp
      · simp only [Option.some.injEq] at hp; subst hp; exact ⟨_, _, _, rfl, fun h => by simp at h⟩
      · cases hp
    · cases hp
  | _ => simp [nilA] at hp

theorem askOf_run {o : Oper} {p : Bool → Prop} (hst : St E s a w K m free) (hp : askOf P s.ev s.H o = some p) : ∃ b, p b ∧ (execOp a.eval o).run P w = .ok (.value (.bool b)) w := by
  unfold askOf at hp
  split at hp
  · rename_i op t x y yt ho
    split at hp
    · rename_i hy
      cases hc : ((elemOfSl P t).isSome && !P.eqGuardType P.depth t)
      · rw [hc] at hp; cases hp
      rw [hc] at hp
      simp only [cond_true] at hp
      simp only [Bool.and_eq_true, Bool.not_eq_true'] at hc
      obtain ⟨el, hel⟩ := Option.isSome_iff_exists.1 hc.1
      have hu := elemOf_run hel
      obtain ⟨q, hq, hp⟩ := Option.bind_eq_some_iff.1 hp
      obtain ⟨r, n, c, hv, hr⟩ := nilA_rel hst.mem (hst.ev x) hq
      have hyv : a.eval y = .slice none 0 0 := by
        have h0 := hst.ev y
        rw [hy] at h0
        exact val_rel h0
      have hg : ∀ op', (eqGuard op' t x y (.slice r n c) (.slice none 0 0)).run P w = .ok () w := by
        intro op'
        unfold eqGuard
        cases op' <;> first | rfl | simp [hc.2]
      split at hp
      · cases hp
        refine ⟨r.isNone, hr, ?_⟩
        simp only [execOp, ho, hv, hyv, Sem.run_bind, hg, Result.andThen_ok, binOp, nil_run hu, Sem.run_pure]
      · cases hp
        refine ⟨!r.isNone, fun h => hr (by simpa using h), ?_⟩
        simp only [execOp, ho, hv, hyv, Sem.run_bind, hg, Result.andThen_ok, binOp, nil_run hu, Sem.run_pure]
      · cases hp
    · cases hp
  · cases hp

/-- One operation, and what comes behind it. -/
theorem opK_sound {ops : Array Oper} {i : Nat} {rest : List Nat} {o : Oper} (ho : ops[i]? = some o) (hw : Region.wanted o (yielded ops a.tmps) = true) {A : List Item → AS → Prop} {R0 : α → Prop} {kk : AS → Out α}
    (hst : St E s a w K m free) (hfr : ∀ k, k < 8 → free (s.next + 8 * i + k))
    (hk : ∀ (s' : AS), s'.next = s.next → Sat P A R0 (kk s') → ∀ a' w' K' m', St E s' a' w' K' m' (fun l => free l ∧ ¬ (s.next + 8 * i ≤ l ∧ l < s.next + 8 * i + 8)) → Runs P F a' w' (.inRegion ops rest :: k))
    (h : Sat P A R0 (opK P C S (s.next + 8 * i) o s kk)) : Runs P F a w (.inRegion ops (i :: rest) :: k) := by
  unfold opK at h
  split at h
  · rename_i p hp
    obtain ⟨b, hb, hrun⟩ := askOf_run (w := w) (P := P) hst hp
    refine Runs.op' ho hw (Q := fun a' w' => w' = w ∧ a' = a.put o.dst (.bool b)) ?_ ?_
    · unfold Oper.wp
      rw [hrun]
      exact ⟨rfl, rfl⟩
    · rintro a' w' ⟨rfl, rfl⟩
      have hst' : St E (s.aft o (some ⟨.ofV (.bool b), [], []⟩)) (a.put o.dst (.bool b)) w' K m (fun l => free l ∧ ¬ (s.next + 8 * i ≤ l ∧ l < s.next + 8 * i + 8)) := ?_
      refine ⟨hst'.defers, hk (s.aft o (some ⟨.ofV (.bool b), [], []⟩)) rfl (h b hb) _ _ K m hst'⟩
      exact (hst.put o.dst (v := .ofV (.bool b)) (u := .bool b) (.d _ _ (.v _)) hst.mem (Ext.refl _ _ _ _)).weaken (fun l hl => hl.1)
  obtain ⟨ef, hok, h⟩ := opD_ok h
  refine Runs.op' ho hw (opOK_wp hst hfr hok) ?_
  rintro a' w' ⟨K', m', hst'⟩
  exact ⟨hst'.defers, hk (s.aft o (some ef)) rfl h a' w' K' m' hst'⟩

theorem put_bool {t : Nat} {b : Bool} (hst : St E s a w K m free) (hb : (s.tmps.getD t .dead).bool? = some b) : St E { s with tmps := s.tmps.set t (boolA b) } a w K m free := by
  refine ⟨by simp [hst.len], fun i x v hx hv => ?_, hst.defers, hst.mem⟩
  rw [List.getElem?_set] at hx
  by_cases hti : t = i
  · subst hti
    rw [if_pos rfl] at hx
    split at hx
    · rename_i hlt
      simp only [Option.some.injEq] at hx
      subst hx
      have hr := hst.tmp t
      have hva : a.tmps.getD t undef = v := by
        simp [hst.len, hlt] at hv
        simp [Array.getD, hst.len, hlt, hv]
      rw [hva] at hr
      have := bool?_rel hb hr
      subst this
      exact .d _ _ (.v _)
    · cases hx
  · rw [if_neg hti] at hx
    exact hst.tmps i x v hx hv

/-- A guard. -/
theorem gone_wanted {ops : Array Oper} {o : Oper} {j t : Nat} {want : Bool} (hst : St E s a w K m free) (ht : (ops[j]?).bind (·.dst) = some t) (hg : o.guard = some (j, want)) (hq : (s.tmps.getD t .dead).gone = true) :
    Region.wanted o (yielded ops a.tmps) = false := by
  obtain ⟨q, hq⟩ := AV.gone_eq hq
  have hv := hst.tmp t
  rw [hq] at hv
  have hv := val_rel hv
  have hy : yielded ops a.tmps j = none := by
    unfold yielded
    rw [ht]
    simp only [Option.bind_some]
    cases hc : a.tmps[t]? with
    | none => rfl
    | some v =>
      have e : v = .tuple q := by
        obtain ⟨hlt, hc⟩ := Array.getElem?_eq_some_iff.1 hc
        simp [Array.getD, hlt] at hv
        rw [← hc]; exact hv
      subst e
      rfl
  simp only [Region.wanted, hg, hy]
  rfl
/-- The guard of an operation says: it is wanted. -/
def wantedB (ops : Array Oper) (o : Oper) (s : AS) : Bool := match o.guard with
  | none => true
  | some (j, want) => match (ops[j]?).bind (·.dst) with
    | some t => (match (s.tmps.getD t .dead).bool? with
      | some b => b == want
      | none => false)
    | none => false
theorem wantedB_spec {ops : Array Oper} {o : Oper} (hst : St E s a w K m free) (h : wantedB ops o s = true) : Region.wanted o (yielded ops a.tmps) = true := by
  unfold wantedB at h
  split at h
  · rename_i hg
    simp [Region.wanted, hg]
  · rename_i j want hg
    split at h
    · rename_i t ht
      split at h
      · rename_i b hb
        have hv : a.tmps.getD t undef = .bool b := bool?_rel hb (hst.tmp t)
        have hlt : t < a.tmps.size := by
          rcases Nat.lt_or_ge t a.tmps.size with h1 | h1
          · exact h1
          · simp [Array.getD, Nat.not_lt.2 h1, undef] at hv
        have hy : yielded ops a.tmps j = some b := by
          have : a.tmps[t]? = some (.bool b) := by
            simp [Array.getD, hlt] at hv
            simp [hlt, hv]
          simp [yielded, ht, this]
        have hbw : b = want := by simpa using h
        subst hbw
        simp only [Region.wanted, hg, hy]
        cases b <;> rfl
      · cases h
    · cases h
theorem guardK_sound {ops : Array Oper} {o : Oper} {A : List Item → AS → Prop} {R0 : α → Prop} {yes no : AS → Out α} (hst : St E s a w K m free) (h : Sat P A R0 (guardK ops o s yes no)) :
    ∃ s', s'.next = s.next ∧ St E s' a w K m free ∧ ((Region.wanted o (yielded ops a.tmps) = true ∧ Sat P A R0 (yes s')) ∨ (Region.wanted o (yielded ops a.tmps) = false ∧ Sat P A R0 (no s'))) := by
  unfold guardK at h
  split at h
  · rename_i hg
    exact ⟨s, rfl, hst, .inl ⟨by simp [Region.wanted, hg], h⟩⟩
  · rename_i j want hg
    split at h
    · rename_i t ht
      split at h
      · rename_i b hb
        have hv : a.tmps.getD t undef = .bool b := bool?_rel hb (hst.tmp t)
        have hlt : t < a.tmps.size := by
          rcases Nat.lt_or_ge t a.tmps.size with h1 | h1
          · exact h1
          · simp [Array.getD, Nat.not_lt.2 h1, undef] at hv
        have hy : yielded ops a.tmps j = some b := by
          have : a.tmps[t]? = some (.bool b) := by
            simp [Array.getD, hlt] at hv
            simp [hlt, hv]
          simp [yielded, ht, this]
        refine ⟨{ s with tmps := s.tmps.set t (boolA b) }, rfl, put_bool hst hb, ?_⟩
        have hwan : Region.wanted o (yielded ops a.tmps) = (b == want) := by
          simp only [Region.wanted, hg, hy]
          cases b <;> cases want <;> rfl
        rw [hwan]
        cases b <;> cases want <;> simp only [cond_true, cond_false] at h <;> first | exact .inl ⟨rfl, h⟩ | exact .inr ⟨rfl, h⟩
      · cases hq : (s.tmps.getD t .dead).gone
        · rw [hq] at h; simp [Sat] at h
        · rw [hq, cond_true] at h
          exact ⟨s, rfl, hst, .inr ⟨gone_wanted hst ht hg hq, h⟩⟩
    · simp [Sat] at h

end Go.VL

/-
  The value layer, part 20: what an operation looks at, and nothing else counts. (Own work.)
-/
namespace Go.VL

variable {P : Program} {C : Codes} {H H' : Heap} {ρ ρ' : Operand → AV} {nm : Nat} {o : Oper}

theorem sls_local {t : Ty} {a : AV} {s : Sls t} (h : a.sls H t = some s) (hr : ∀ l ∈ s.rd, H'.get l = H.get l) : a.sls H' t = some s := by
  cases a with
  | own l t' =>
    simp only [AV.sls] at h ⊢
    split at h
    · rename_i ht
      rw [if_pos ht]
      split at h
      · rename_i T t2 xs hg
        split at h
        · rename_i h2
          have hl : l ∈ s.rd := by rw [← Option.some.inj h]; exact List.mem_singleton.2 rfl
          rw [hr l hl, hg]
          simp only
          rw [dif_pos h2]; exact h
        · cases h
      · cases h
    · cases h
  | view l t' off len =>
    simp only [AV.sls] at h ⊢
    split at h
    · rename_i ht
      rw [if_pos ht]
      split at h
      · rename_i T t2 xs hg
        split at h
        · rename_i h2
          have hl : l ∈ s.rd := by rw [← Option.some.inj h]; exact List.mem_singleton.2 rfl
          rw [hr l hl, hg]
          simp only
          rw [dif_pos h2]; exact h
        · cases h
      · cases h
    · cases h
  | _ => exact h

theorem len_local {a : AV} {n : Nat} {p : Prop} {r : List Nat} (h : a.len? H = some (n, p, r)) (hr : ∀ l ∈ r, H'.get l = H.get l) : a.len? H' = some (n, p, r) := by
  cases a with
  | own l t' =>
    simp only [AV.len?] at h ⊢
    split at h
    · rename_i T t2 xs hg
      split at h
      · rename_i h2
        have e : r = [l] := (congrArg (fun q => q.2.2) (Option.some.inj h)).symm
        have hl : l ∈ r := by rw [e]; exact List.mem_singleton.2 rfl
        rw [hr l hl, hg]
        simp only
        rw [if_pos h2]; exact h
      · cases h
    · cases h
  | d x => cases x with
    | sl t xs => exact h
    | f x => cases h
    | v v => cases v with
      | slice a n c => cases a with
        | none => cases n with
          | zero => cases c with
            | zero => exact h
            | succ c => cases h
          | succ n => cases h
        | some a => cases h
      | _ => cases h
  | _ => exact h

theorem toD_local {a : AV} {x : D} {p : Prop} {r : List Nat} (h : a.toD H = some (x, p, r)) (hr : ∀ l ∈ r, H'.get l = H.get l) : a.toD H' = some (x, p, r) := by
  cases a with
  | own l t' =>
    simp only [AV.toD] at h ⊢
    split at h
    · rename_i T t2 xs hg
      split at h
      · rename_i h2
        have e : r = [l] := (congrArg (fun q => q.2.2) (Option.some.inj h)).symm
        have hl : l ∈ r := by rw [e]; exact List.mem_singleton.2 rfl
        rw [hr l hl, hg]
        simp only
        rw [if_pos h2]; exact h
      · cases h
    · cases h
  | view l t' off len =>
    simp only [AV.toD] at h ⊢
    split at h
    · rename_i T t2 xs hg
      split at h
      · rename_i h2
        have e : r = [l] := (congrArg (fun q => q.2.2) (Option.some.inj h)).symm
        have hl : l ∈ r := by rw [e]; exact List.mem_singleton.2 rfl
        rw [hr l hl, hg]
        simp only
        rw [if_pos h2]; exact h
      · cases h
    · cases h
  | _ => exact h

theorem toDs_local : ∀ {as : List AV} {xs : List D} {p : Prop} {r : List Nat}, toDs H as = some (xs, p, r) → (∀ l ∈ r, H'.get l = H.get l) → toDs H' as = some (xs, p, r)
  | [], _, _, _, h, _ => h
  | a :: as, xs, p, r, h, hr => by
    unfold toDs at h ⊢
    obtain ⟨⟨d, p1, l1⟩, h1, h⟩ := Option.bind_eq_some_iff.1 h
    obtain ⟨⟨ds, p2, l2⟩, h2, h3⟩ := Option.map_eq_some_iff.1 h
    have e3 : r = l1 ++ l2 := (congrArg (fun q => q.2.2) h3).symm
    have g1 := toD_local h1 (H' := H') (fun l hl => hr l (by rw [e3]; exact List.mem_append.2 (.inl hl)))
    have g2 := toDs_local h2 (fun l hl => hr l (by rw [e3]; exact List.mem_append.2 (.inr hl)))
    rw [g1]
    simp only [Option.bind_some]
    rw [g2]
    simp only [Option.map_some]
    rw [← h3]

theorem toTy_local {t : Ty} {a : AV} {x : t.ty} {p : Prop} {r : List Nat} (h : a.toTy H t = some (x, p, r)) (hr : ∀ l ∈ r, H'.get l = H.get l) : a.toTy H' t = some (x, p, r) := by
  unfold AV.toTy at h ⊢
  cases hc : (a.isAgg == !t.flat)
  · rw [hc] at h; cases h
  · rw [hc] at h
    simp only [cond_true] at h ⊢
    obtain ⟨⟨ds, p1, l1⟩, h1, h⟩ := Option.bind_eq_some_iff.1 h
    obtain ⟨y, hy, h3⟩ := Option.map_eq_some_iff.1 h
    have e3 : r = l1 := (congrArg (fun q => q.2.2) h3).symm
    have g1 := toDs_local h1 (H' := H') (fun l hl => hr l (by rw [e3]; exact hl))
    rw [g1]
    simp only [Option.bind_some]
    exact Option.map_eq_some_iff.2 ⟨y, hy, h3⟩

theorem toArgs_local : ∀ {ts : List Ty} {as : List AV} {xs : List Arg} {p : Prop} {r : List Nat}, toArgs H ts as = some (xs, p, r) → (∀ l ∈ r, H'.get l = H.get l) → toArgs H' ts as = some (xs, p, r)
  | [], [], _, _, _, h, _ => h
  | [], _ :: _, _, _, _, h, _ => by cases h
  | _ :: _, [], _, _, _, h, _ => by cases h
  | t :: ts, a :: as, xs, p, r, h, hr => by
    unfold toArgs at h ⊢
    obtain ⟨⟨d, p1, l1⟩, h1, h⟩ := Option.bind_eq_some_iff.1 h
    obtain ⟨⟨ds, p2, l2⟩, h2, h3⟩ := Option.map_eq_some_iff.1 h
    have e3 : r = l1 ++ l2 := (congrArg (fun q => q.2.2) h3).symm
    have g1 := toTy_local h1 (H' := H') (fun l hl => hr l (by rw [e3]; exact List.mem_append.2 (.inl hl)))
    have g2 := toArgs_local h2 (fun l hl => hr l (by rw [e3]; exact List.mem_append.2 (.inr hl)))
    rw [g1]
    simp only [Option.bind_some]
    rw [g2]
    simp only [Option.map_some]
    rw [← h3]

theorem build_local {te : Ty} : ∀ {ps : List (Nat × AV)} {k : Nat} {xs : List te.ty} {p : Prop} {r : List Nat}, opE.build H te k ps = some (xs, p, r) → (∀ l ∈ r, H'.get l = H.get l) → opE.build H' te k ps = some (xs, p, r)
  | [], _, _, _, _, h, _ => h
  | (i, a) :: ps, k, xs, p, r, h, hr => by
    unfold opE.build at h ⊢
    cases hc : (i == k)
    · rw [hc] at h; cases h
    · rw [hc] at h
      simp only [cond_true] at h ⊢
      obtain ⟨⟨ds, p1, l1⟩, h1, h⟩ := Option.bind_eq_some_iff.1 h
      obtain ⟨y, hy, h⟩ := Option.bind_eq_some_iff.1 h
      obtain ⟨⟨ys, p2, l2⟩, h2, h3⟩ := Option.map_eq_some_iff.1 h
      have e3 : r = l1 ++ l2 := (congrArg (fun q => q.2.2) h3).symm
      have g1 := toDs_local h1 (H' := H') (fun l hl => hr l (by rw [e3]; exact List.mem_append.2 (.inl hl)))
      have g2 := build_local h2 (fun l hl => hr l (by rw [e3]; exact List.mem_append.2 (.inr hl)))
      rw [g1]
      simp only [Option.bind_some]
      rw [hy]
      simp only [Option.bind_some]
      rw [g2]
      simp only [Option.map_some]
      rw [← h3]

theorem ops_map (f : Array (Nat × Operand)) (h : ∀ x ∈ (f.toList.map (·.2)).toArray, ρ' x = ρ x) : (f.toList.map fun p => (p.1, ρ' p.2)) = f.toList.map fun p => (p.1, ρ p.2) :=
  List.map_congr_left fun p hp => by rw [h p.2 (by simpa using ⟨p.1, by simpa using hp⟩)]
theorem arr_map (f : Array Operand) (h : ∀ x ∈ f, ρ' x = ρ x) : f.toList.map ρ' = f.toList.map ρ :=
  List.map_congr_left fun p hp => h p (by simpa using hp)

/-- An operation looks at its operands alone. -/
theorem opE_ops (h : ∀ x ∈ o.op.operands, ρ' x = ρ x) : opE P C ρ' H nm o = opE P C ρ H nm o := by
  cases ho : o.op with
  | move x => simp only [opE, ho]; rw [h x (by simp [ho, Op.operands])]
  | assign x => simp only [opE, ho]; rw [h x (by simp [ho, Op.operands])]
  | pick c a b => simp only [opE, ho]; rw [h c (by simp [ho, Op.operands]), h a (by simp [ho, Op.operands]), h b (by simp [ho, Op.operands])]
  | box t x => simp only [opE, ho]; rw [h x (by simp [ho, Op.operands])]
  | build t ps => simp only [opE, ho]; rw [ops_map ps (fun x hx => h x (by rw [ho]; exact hx))]
  | buildSlice t l ps => simp only [opE, ho]; rw [ops_map ps (fun x hx => h x (by rw [ho]; exact hx))]
  | load t a => simp only [opE, ho]; rw [h a (by simp [ho, Op.operands])]
  | store t a x => simp only [opE, ho]; rw [h a (by simp [ho, Op.operands]), h x (by simp [ho, Op.operands])]
  | nilCheck x => simp only [opE, ho]; rw [h x (by simp [ho, Op.operands])]
  | binOp op t x y t2 => simp only [opE, ho]; rw [h x (by simp [ho, Op.operands]), h y (by simp [ho, Op.operands])]
  | unOp op t x => simp only [opE, ho]; rw [h x (by simp [ho, Op.operands])]
  | convert s t x => simp only [opE, ho]; rw [h x (by simp [ho, Op.operands])]
  | makeFunc fn fs cs => simp only [opE, ho]; rw [arr_map fs (fun x hx => h x (by rw [ho]; exact Array.mem_append.2 (.inl hx))), arr_map cs (fun x hx => h x (by rw [ho]; exact Array.mem_append.2 (.inr hx)))]
  | fieldAddr t x f => simp only [opE, ho]; rw [h x (by simp [ho, Op.operands])]
  | field t x f => simp only [opE, ho]; rw [h x (by simp [ho, Op.operands])]
  | indexAddr t x y => simp only [opE, ho]; rw [h x (by simp [ho, Op.operands]), h y (by simp [ho, Op.operands])]
  | index t x y => simp only [opE, ho]; rw [h x (by simp [ho, Op.operands]), h y (by simp [ho, Op.operands])]
  | extract x i => simp only [opE, ho]; rw [h x (by simp [ho, Op.operands])]
  | slice t x lo hi mx =>
    have hx : ρ' x = ρ x := h x (by simp [ho, Op.operands])
    have hlo : ∀ v, lo = some v → ρ' v = ρ v := fun v hv => h v (by simp [ho, Op.operands, hv])
    have hhi : ∀ v, hi = some v → ρ' v = ρ v := fun v hv => h v (by simp [ho, Op.operands, hv])
    have hmx : ∀ v, mx = some v → ρ' v = ρ v := fun v hv => h v (by simp [ho, Op.operands, hv])
    simp only [opE, ho]
    rw [hx]
    cases lo with
    | none => cases hi with
      | none => cases mx with
        | none => rfl
        | some u => rfl
      | some v =>
        have e1 := hhi v rfl
        cases mx with
        | none => simp only [e1]
        | some u => have e2 := hmx u rfl; simp only [e1, e2]
    | some z =>
      have e0 := hlo z rfl
      cases hi with
      | none => cases mx with
        | none => simp only [e0]
        | some u => simp only [e0]
      | some v =>
        have e1 := hhi v rfl
        cases mx with
        | none => simp only [e0, e1]
        | some u => have e2 := hmx u rfl; simp only [e0, e1, e2]
  | call c =>
    have hc : ∀ x ∈ c.operands, ρ' x = ρ x := fun x hx => h x (by rw [ho]; exact hx)
    obtain ⟨callee, args, ats⟩ := c
    have ha : ∀ x ∈ args, ρ' x = ρ x := fun x hx => hc x (by simp [Call.operands, hx])
    cases callee with
    | builtin b =>
      cases b with
      | len =>
        simp only [opE, ho]
        split
        · rename_i t x h1 h2
          rw [ha x (by rw [← Array.mem_toList_iff, h2]; simp)]
        · rfl
      | min => simp only [opE, ho]; rw [arr_map args ha]
      | max => simp only [opE, ho]; rw [arr_map args ha]
      | clear =>
        simp only [opE, ho]
        split
        · rename_i t x h1 h2
          rw [ha x (by rw [← Array.mem_toList_iff, h2]; simp)]
        · rfl
      | append =>
        simp only [opE, ho]
        split
        · rename_i t t2 x y h1 h2
          rw [ha x (by rw [← Array.mem_toList_iff, h2]; simp), ha y (by rw [← Array.mem_toList_iff, h2]; simp)]
        · rfl
      | _ => simp only [opE, ho]
    | _ => simp only [opE, ho]
  | makeMap t r => cases r <;> simp only [opE, ho]
  | lookup t x y ok => simp only [opE, ho]; rw [h x (by simp [ho, Op.operands]), h y (by simp [ho, Op.operands])]
  | mapUpdate t x y z => simp only [opE, ho]; rw [h x (by simp [ho, Op.operands]), h y (by simp [ho, Op.operands]), h z (by simp [ho, Op.operands])]
  | insert t x y z => simp only [opE, ho]; rw [h x (by simp [ho, Op.operands]), h y (by simp [ho, Op.operands]), h z (by simp [ho, Op.operands])]
  | _ => simp only [opE, ho]

theorem callOf_ops (h : ∀ x ∈ o.op.operands, ρ' x = ρ x) : callOf ρ' o = callOf ρ o := by
  unfold callOf
  split
  · rename_i f args ats ho
    have hf : ρ' f = ρ f := h f (by simp [ho, Op.operands, Call.operands])
    have ha : ∀ x ∈ args, ρ' x = ρ x := fun x hx => h x (by simp [ho, Op.operands, Call.operands, hx])
    rw [hf, arr_map args ha]
  · rfl

theorem mem_addN {l : List Nat} {x y : Nat} (h : y ∈ l) : y ∈ addN l x := by
  unfold addN
  cases l.contains x
  · exact List.mem_append.2 (.inl h)
  · exact h
theorem mem_addsN {y : Nat} : ∀ (xs l : List Nat), y ∈ l → y ∈ addsN l xs
  | [], l, h => h
  | x :: xs, l, h => mem_addsN xs (addN l x) (mem_addN h)
theorem mem_reachN {y : Nat} : ∀ (n i : Nat) (l : List Nat), y ∈ l → y ∈ reachN H n i l
  | 0, i, l, h => h
  | n + 1, i, l, h => by
    unfold reachN
    split
    · split
      · exact mem_reachN n _ _ (mem_addsN _ _ h)
      · exact mem_reachN n _ _ h
    · exact h
theorem reachN_local : ∀ (n i : Nat) (l : List Nat), (∀ x ∈ reachN H n i l, H'.get x = H.get x) → reachN H' n i l = reachN H n i l
  | 0, i, l, h => rfl
  | n + 1, i, l, h => by
    cases hx : l[i]? with
    | none => simp only [reachN, hx]
    | some x =>
      have hl : x ∈ l := List.mem_of_getElem? hx
      have e : H'.get x = H.get x := h x (mem_reachN (n + 1) i l hl)
      simp only [reachN, hx] at h ⊢
      rw [e]
      cases hg : H.get x with
      | none => rw [hg] at h; exact reachN_local n _ _ h
      | some b => rw [hg] at h; exact reachN_local n _ _ h
theorem reachA_local {as : List AV} (h : ∀ x ∈ reachA H as, H'.get x = H.get x) : reachA H' as = reachA H as := reachN_local _ _ _ h
theorem renH_local {g : Nat → Option Nat} : ∀ (ls : List Nat) (i : Nat), (∀ x ∈ ls, H'.get x = H.get x) → renH g H' ls i = renH g H ls i
  | [], i, h => rfl
  | l :: ls, i, h => by
    simp only [renH, h l (by simp), renH_local ls (i + 1) (fun x hx => h x (by simp [hx]))]

end Go.VL

/-
  The value layer, part 21: an operation looks at the names that it tells, and at no other. (Own work.)
-/
namespace Go.VL

variable {P : Program} {C : Codes} {H H' : Heap} {ρ ρ' : Operand → AV} {nm : Nat} {o : Oper}

theorem sls_map_local {te : Ty} {a : AV} {g : Sls te → Eff} {e : Eff} (hg : ∀ s l, l ∈ s.rd → l ∈ (g s).rd) (h : (a.sls H te).map g = some e) (hr : ∀ l ∈ e.rd, H'.get l = H.get l) :
    (a.sls H' te).map g = some e := by
  obtain ⟨s, hs, rfl⟩ := Option.map_eq_some_iff.1 h
  rw [sls_local hs (fun l hl => hr l (hg s l hl))]
  rfl

theorem opE_local_load {t : TypeId} {x : Operand} (ho : o.op = .load t x) {e : Eff} (h : opE P C ρ H nm o = some e) (hr : ∀ l ∈ e.rd, H'.get l = H.get l) : opE P C ρ H' nm o = some e := by
  simp only [opE, ho] at h ⊢
  split at h
  · rename_i l f ha
    split at h
    · rename_i cells hg
      obtain ⟨v, hv, rfl⟩ := Option.map_eq_some_iff.1 h
      rw [hr l (by simp), hg]
      exact h
    · cases h
  · rename_i l t' i f ha
    split at h
    · rename_i T t2 xs hg
      split at h
      · rename_i h2
        obtain ⟨v, hv, rfl⟩ := Option.map_eq_some_iff.1 h
        rw [hr l (by simp), hg]
        simp only
        rw [if_pos h2]
        exact h
      · cases h
    · cases h
  · exact h
  · cases h

theorem opE_local_store {t : TypeId} {a x : Operand} (ho : o.op = .store t a x) {e : Eff} (h : opE P C ρ H nm o = some e) (hr : ∀ l ∈ e.rd, H'.get l = H.get l) : opE P C ρ H' nm o = some e := by
  simp only [opE, ho] at h ⊢
  split at h
  · rename_i n l f hn ha
    split at h
    · rename_i cells hg
      cases hc : ((ρ x).cells.length == n && Nat.ble (f + n) cells.length && (ρ x).cells.all AV.one)
      · rw [hc] at h; cases h
      · rw [hc] at h
        have he := Option.some.inj h
        rw [hr l (by rw [← he]; simp), hg]
        simp only
        rw [hc]; exact h
    · cases h
  · rename_i n l t' i f hn ha
    split at h
    · rename_i T t2 xs hg
      split at h
      · rename_i h2
        obtain ⟨⟨ds, p, fz⟩, h1, h⟩ := Option.bind_eq_some_iff.1 h
        simp only at h
        cases hc : (ds.length == n && Nat.ble (f + n) t2.size && (ρ x).cells.all AV.one && fz.all (· != l))
        · rw [hc] at h; cases h
        · rw [hc] at h
          obtain ⟨y, hy, he⟩ := Option.map_eq_some_iff.1 h
          rw [hr l (by rw [← he]; simp), hg]
          simp only
          rw [if_pos h2, toDs_local h1 (fun k hk => hr k (by rw [← he]; simp [hk]))]
          simp only [Option.bind_some]
          rw [hc]; exact h
      · cases h
    · cases h
  · cases h

theorem opE_local_ix {t : TypeId} {a x : Operand} (ho : o.op = .indexAddr t a x) {e : Eff} (h : opE P C ρ H nm o = some e) (hr : ∀ l ∈ e.rd, H'.get l = H.get l) : opE P C ρ H' nm o = some e := by
  simp only [opE, ho] at h ⊢
  cases hk : arrK P (ρ x) t with
  | some p => simp only [hk] at h ⊢; exact h
  | none =>
  simp only [hk] at h ⊢
  obtain ⟨ee, h1, h⟩ := Option.bind_eq_some_iff.1 h
  obtain ⟨te, h2, h⟩ := Option.bind_eq_some_iff.1 h
  rw [h1]; simp only [Option.bind_some]
  rw [h2]; simp only [Option.bind_some]
  cases hc : (szOf P ee == some te.size)
  · rw [hc] at h; cases h
  rw [hc] at h
  simp only [cond_true] at h ⊢
  obtain ⟨n, h3, h⟩ := Option.bind_eq_some_iff.1 h
  rw [h3]; simp only [Option.bind_some]
  split at h
  · rename_i l t' ha
    split at h
    · rename_i ht
      rw [if_pos ht]
      split at h
      · rename_i T t2 xs hg
        split at h
        · rename_i h4
          have he := Option.some.inj h
          rw [hr l (by rw [← he]; simp), hg]
          simp only
          rw [if_pos h4]; exact h
        · cases h
      · cases h
    · cases h
  · exact h
  · refine sls_map_local (fun s l hl => hl) h hr

theorem opE_local_slice {t : TypeId} {x : Operand} {lo hi mx : Option Operand} (ho : o.op = .slice t x lo hi mx) {e : Eff} (h : opE P C ρ H nm o = some e) (hr : ∀ l ∈ e.rd, H'.get l = H.get l) : opE P C ρ H' nm o = some e := by
  simp only [opE, ho] at h ⊢
  obtain ⟨ee, h1, h⟩ := Option.bind_eq_some_iff.1 h
  obtain ⟨te, h2, h⟩ := Option.bind_eq_some_iff.1 h
  rw [h1]; simp only [Option.bind_some]
  rw [h2]; simp only [Option.bind_some]
  cases hc : (szOf P ee == some te.size)
  · rw [hc] at h; cases h
  rw [hc] at h
  simp only [cond_true] at h ⊢
  obtain ⟨n, h3, h⟩ := Option.bind_eq_some_iff.1 h
  rw [h3]; simp only [Option.bind_some]
  split at h
  · split at h
    · rename_i l t' ha
      split at h
      · rename_i ht
        rw [if_pos ht]
        split at h
        · rename_i T t2 xs hg
          split at h
          · rename_i h4
            have he := Option.some.inj h
            rw [hr l (by rw [← he]; simp), hg]
            simp only
            rw [if_pos h4]; exact h
          · cases h
        · cases h
      · cases h
    · exact h
    · exact sls_map_local (fun s l hl => hl) h hr
  · cases h
  · obtain ⟨n, h3, h⟩ := Option.bind_eq_some_iff.1 h
    rw [h3]; simp only [Option.bind_some]
    split at h
    · rename_i l t' ha
      split at h
      · rename_i ht
        rw [if_pos ht]
        split at h
        · rename_i T t2 xs hg
          split at h
          · rename_i h4
            have he := Option.some.inj h
            rw [hr l (by rw [← he]; simp), hg]
            simp only
            rw [if_pos h4]; exact h
          · cases h
        · cases h
      · cases h
    · exact h
    · exact sls_map_local (fun s l hl => hl) h hr
  · obtain ⟨n, h3, h⟩ := Option.bind_eq_some_iff.1 h
    rw [h3]; simp only [Option.bind_some]
    obtain ⟨n, h3, h⟩ := Option.bind_eq_some_iff.1 h
    rw [h3]; simp only [Option.bind_some]
    split at h
    · rename_i l t' ha
      split at h
      · rename_i ht
        rw [if_pos ht]
        split at h
        · rename_i T t2 xs hg
          split at h
          · rename_i h4
            have he := Option.some.inj h
            rw [hr l (by rw [← he]; simp), hg]
            simp only
            rw [if_pos h4]; exact h
          · cases h
        · cases h
      · cases h
    · exact h
    · exact sls_map_local (fun s l hl => hl) h hr

theorem opE_local_bs {t : TypeId} {n : Nat} {ps : Array (Nat × Operand)} (ho : o.op = .buildSlice t n ps) {e : Eff} (h : opE P C ρ H nm o = some e) (hr : ∀ l ∈ e.rd, H'.get l = H.get l) : opE P C ρ H' nm o = some e := by
  simp only [opE, ho] at h ⊢
  obtain ⟨ee, h1, h⟩ := Option.bind_eq_some_iff.1 h
  obtain ⟨te, h2, h⟩ := Option.bind_eq_some_iff.1 h
  rw [h1]; simp only [Option.bind_some]
  rw [h2]; simp only [Option.bind_some]
  cases hc : (szOf P ee == some te.size && ps.size == n && Nat.ble (n * te.size) 1000 && hasZero P ee te)
  · rw [hc] at h; cases h
  rw [hc] at h
  simp only [cond_true] at h ⊢
  obtain ⟨⟨xs, p, fz⟩, h3, he⟩ := Option.map_eq_some_iff.1 h
  rw [build_local h3 (fun k hk => hr k (by rw [← he]; simp [hk]))]
  exact congrArg some he

theorem opE_local_append {ts : Array TypeId} {args : Array Operand} (ho : o.op = .call ⟨.builtin .append, args, ts⟩) {e : Eff} (h : opE P C ρ H nm o = some e) (hr : ∀ l ∈ e.rd, H'.get l = H.get l) : opE P C ρ H' nm o = some e := by
  simp only [opE, ho] at h ⊢
  split at h
  · rename_i t t2 x y g1 g2
    cases hc : (t == t2)
    · rw [hc] at h; cases h
    rw [hc] at h
    simp only [cond_true] at h ⊢
    obtain ⟨ee, h1, h⟩ := Option.bind_eq_some_iff.1 h
    obtain ⟨te, h2, h⟩ := Option.bind_eq_some_iff.1 h
    obtain ⟨i, h3, h⟩ := Option.bind_eq_some_iff.1 h
    rw [h1]; simp only [Option.bind_some]
    rw [h2]; simp only [Option.bind_some]
    rw [h3]; simp only [Option.bind_some]
    cases hc : (i.size == te.size && hasZero P ee te)
    · rw [hc] at h; cases h
    rw [hc] at h
    simp only [cond_true] at h ⊢
    obtain ⟨s, h4, h⟩ := Option.bind_eq_some_iff.1 h
    have key : ∀ l ∈ s.rd, l ∈ e.rd := by
      intro l hl
      split at h
      · rw [← Option.some.inj h]; simp [hl]
      · split at h
        · split at h
          · split at h
            · rename_i T _ _ _ _
              cases hb : (T == ee) <;> rw [hb] at h
              · cases h
              · rw [← Option.some.inj h]; simp [hl]
            · cases h
          · cases h
        · cases h
      · split at h
        · split at h
          · split at h
            · rename_i T _ _ _ _
              cases hb : (T == ee) <;> rw [hb] at h
              · cases h
              · rw [← Option.some.inj h]; simp [hl]
            · cases h
          · cases h
        · cases h
      · split at h
        · rw [← Option.some.inj h]; simp [hl]
        · cases h
      · cases h
    rw [sls_local h4 (fun l hl => hr l (key l hl))]
    simp only [Option.bind_some]
    split at h
    · exact h
    · rename_i l t' ha
      split at h
      · rename_i ht
        rw [if_pos ht]
        split at h
        · rename_i T t2 xs hg
          split at h
          · rename_i h5
            cases hb : (T == ee)
            · rw [hb] at h; cases h
            · rw [hb] at h
              have he := Option.some.inj h
              rw [hr l (by rw [← he]; simp), hg]
              simp only
              rw [dif_pos h5, hb]; exact h
          · cases h
        · cases h
      · cases h
    · rename_i l t' off len ha
      split at h
      · rename_i ht
        rw [if_pos ht]
        split at h
        · rename_i T t2 xs hg
          split at h
          · rename_i h5
            cases hb : (T == ee)
            · rw [hb] at h; cases h
            · rw [hb] at h
              have he := Option.some.inj h
              rw [hr l (by rw [← he]; simp), hg]
              simp only
              rw [dif_pos h5, hb]; exact h
          · cases h
        · cases h
      · cases h
    · exact h
    · cases h
  · cases h

theorem clr_local {te : Ty} {a : AV} {e : Eff} (h : clrE H te a = some e) (hr : ∀ l ∈ e.rd, H'.get l = H.get l) : clrE H' te a = some e := by
  cases a with
  | view l t' off len =>
    simp only [clrE] at h ⊢
    split at h
    · rename_i ht
      rw [if_pos ht]
      split at h
      · rename_i T t2 xs hg
        split at h
        · rename_i h5
          have he := Option.some.inj h
          rw [hr l (by rw [← he]; simp), hg]
          simp only
          rw [dif_pos h5]; exact h
        · cases h
      · cases h
    · cases h
  | _ => exact h

theorem opE_local_clear {ts : Array TypeId} {args : Array Operand} (ho : o.op = .call ⟨.builtin .clear, args, ts⟩) {e : Eff} (h : opE P C ρ H nm o = some e) (hr : ∀ l ∈ e.rd, H'.get l = H.get l) : opE P C ρ H' nm o = some e := by
  simp only [opE, ho] at h ⊢
  split at h
  · rename_i t x g1 g2
    obtain ⟨ee, h1, h⟩ := Option.bind_eq_some_iff.1 h
    obtain ⟨te, h2, h⟩ := Option.bind_eq_some_iff.1 h
    rw [h1]; simp only [Option.bind_some]
    rw [h2]; simp only [Option.bind_some]
    cases hc : zeroIs P ee te
    · rw [hc] at h; cases h
    rw [hc] at h
    simp only [cond_true] at h ⊢
    exact clr_local h hr
  · cases h

/-- AN OPERATION LOOKS AT THE NAMES THAT IT TELLS. -/
theorem look_local {t : TypeId} {x y : AV} {ok : Bool} {e : Eff} (h : lookE P C H t x y ok = some e) (hr : ∀ l ∈ e.rd, H'.get l = H.get l) : lookE P C H' t x y ok = some e := by
  unfold lookE at h ⊢
  replace h := Option.bind_eq_some_iff.1 h
  obtain ⟨p, hp, h⟩ := h
  rw [hp, Option.bind_some]
  split at h
  · rename_i l n
    split at h
    · rename_i tv kvs hg
      split at h
      · rename_i ht
        cases h
        have hl : H'.get l = H.get l := hr l (by simp)
        simp only [hl, hg, ht, if_true]
      · cases h
    · cases h
  · cases h
theorem mapSet_local {t : TypeId} {x y z : AV} {e : Eff} (h : mapSetE P C H t x y z = some e) (hr : ∀ l ∈ e.rd, H'.get l = H.get l) : mapSetE P C H' t x y z = some e := by
  unfold mapSetE at h ⊢
  replace h := Option.bind_eq_some_iff.1 h
  obtain ⟨p, hp, h⟩ := h
  rw [hp, Option.bind_some]
  split at h
  · rename_i l n
    split at h
    · rename_i tv kvs hg
      split at h
      · rename_i ht
        obtain ⟨⟨q1, q2, q3⟩, hq, h⟩ := Option.bind_eq_some_iff.1 h
        simp only at h
        cases hf : q3.isEmpty
        · rw [hf] at h; cases h
        rw [hf] at h
        cases h
        have hl : H'.get l = H.get l := hr l (by simp)
        have hfz : q3 = [] := by simpa using hf
        subst hfz
        have hq' := toTy_local (H' := H') hq (fun k hk => by simp at hk)
        subst ht
        simp only [hl, hg, if_true, hq', Option.bind_some, List.isEmpty_nil, cond_true]
      · cases h
    · cases h
  · cases h

theorem opE_local {e : Eff} (h : opE P C ρ H nm o = some e) (hr : ∀ l ∈ e.rd, H'.get l = H.get l) : opE P C ρ H' nm o = some e := by
  cases ho : o.op with
  | load t a => exact opE_local_load ho h hr
  | store t a x => exact opE_local_store ho h hr
  | indexAddr t x y => exact opE_local_ix ho h hr
  | slice t x lo hi mx => exact opE_local_slice ho h hr
  | buildSlice t l ps => exact opE_local_bs ho h hr
  | convert s t x =>
    simp only [opE, ho] at h ⊢
    split at h
    · exact h
    · exact h
    · exact h
    · exact h
    · rename_i el hs ht
      split at h
      · rename_i hel
        cases hsz : (szOf P el == some 1)
        · rw [hsz] at h; cases h
        rw [hsz] at h
        simp only [cond_true, Option.map_eq_some_iff] at h
        obtain ⟨q, hq, rfl⟩ := h
        have := sls_local hq hr
        rw [cond_true, this]
        rfl
      · cases h
    · cases h
  | lookup t x y ok => simp only [opE, ho] at h ⊢; exact look_local h hr
  | mapUpdate t x y z => simp only [opE, ho] at h ⊢; exact mapSet_local h hr
  | insert t x y z => simp only [opE, ho] at h ⊢; exact mapSet_local h hr
  | makeMap t r => cases r <;> (simp only [opE, ho] at h ⊢; first | exact h | cases h)
  | call c =>
    obtain ⟨callee, args, ats⟩ := c
    cases callee with
    | builtin b =>
      cases b with
      | append => exact opE_local_append ho h hr
      | clear => exact opE_local_clear ho h hr
      | len =>
        simp only [opE, ho] at h ⊢
        split at h
        · rename_i t x h1 h2
          split at h
          · exact h
          · split at h
            · obtain ⟨⟨n, p, r⟩, h3, he⟩ := Option.map_eq_some_iff.1 h
              rw [len_local h3 (fun l hl => hr l (by rw [← he]; exact hl))]
              exact congrArg some he
            · cases h
        · cases h
      | min => simp only [opE, ho] at h ⊢; exact h
      | max => simp only [opE, ho] at h ⊢; exact h
      | _ => simp only [opE, ho] at h ⊢; first | exact h | cases h
    | _ => simp only [opE, ho] at h; cases h
  | _ => simp only [opE, ho] at h ⊢; first | exact h | cases h

end Go.VL

/-
  The value layer, part 22: a region whose order is drawn, in any order. (Own work.)
-/
namespace Go.VL

variable {P : Program} {C : Codes} {S : Sigs} {E : Entry} {w : World} {K : Nat → Prop} {m : Nat → Option (Option Nat)} {free : Nat → Prop}
  {f : FuncId} {R : Ending → World → Prop} {a : Act} {k : List Item} {s t s' : AS} {α : Type} {ops : Array Oper} {o o1 o2 : Oper} {i j : Nat}

/-- The same state, but for how the memory is written down. -/
structure Same (s t : AS) : Prop where
  tmps : s.tmps = t.tmps
  next : s.next = t.next
  H : ∀ l, s.H.get l = t.H.get l
theorem Same.refl (s : AS) : Same s s := ⟨rfl, rfl, fun _ => rfl⟩
theorem Same.symm (h : Same s t) : Same t s := ⟨h.tmps.symm, h.next.symm, fun l => (h.H l).symm⟩
theorem Same.trans {u : AS} (h : Same s t) (g : Same t u) : Same s u := ⟨h.tmps.trans g.tmps, h.next.trans g.next, fun l => (h.H l).trans (g.H l)⟩

theorem rel_heap {H H' : Heap} (hH : ∀ l, H.get l = H'.get l) {x : AV} {v : Value} (h : Rel w K m H x v) : Rel w K m H' x v :=
  h.ext ⟨fun _ h => h, fun _ _ => rfl, fun _ _ h => h, fun _ _ h => h, fun l T t xs _ h => ⟨xs, by rw [hH]; exact h, rfl⟩⟩
theorem blk_heap {H H' : Heap} (hH : ∀ l, H.get l = H'.get l) {l : Nat} {b : ABlk} (h : BlkRel w K m H l b) : BlkRel w K m H' l b :=
  h.ext ⟨fun _ h => h, fun _ _ => rfl, fun _ _ h => h, fun _ _ h => h, fun l T t xs _ h => ⟨xs, by rw [hH]; exact h, rfl⟩⟩ (fun _ _ => rfl)

theorem Same.st (h : Same s t) (hs : St E s a w K m free) : St E t a w K m free :=
  ⟨by rw [← h.tmps]; exact hs.len, fun i x v hx hv => rel_heap h.H (hs.tmps i x v (by rw [h.tmps]; exact hx) hv), hs.defers,
   { hs.mem with
      heap := fun l b hb => blk_heap h.H (hs.mem.heap l b (by rw [h.H]; exact hb))
      own := fun l b c hb => hs.mem.own l b c (by rw [h.H]; exact hb)
      inj := fun l l' b b' c hb hb' => hs.mem.inj l l' b b' c (by rw [h.H]; exact hb) (by rw [h.H]; exact hb') }⟩

/-- What a list of writes leaves at a name does not hang on what was there. -/
theorem get_app_in {wr : List (Nat × Option ABlk)} {l : Nat} : ∀ {H H' : Heap}, (∃ p ∈ wr, p.1 = l) → (H.app wr).get l = (H'.app wr).get l := by
  induction wr with
  | nil => rintro H H' ⟨p, hp, _⟩; simp at hp
  | cons p wr ih =>
    rintro H H' h
    show ((H.put p.1 p.2).app wr).get l = ((H'.put p.1 p.2).app wr).get l
    by_cases hw : ∃ q ∈ wr, q.1 = l
    · exact ih hw
    · have h1 : ∀ q ∈ wr, q.1 ≠ l := fun q hq e => hw ⟨q, hq, e⟩
      rw [get_app h1, get_app h1]
      obtain ⟨q, hq, hql⟩ := h
      rcases List.mem_cons.1 hq with rfl | hq
      · rw [← hql, Heap.get_put_self, Heap.get_put_self]
      · exact absurd hql (h1 q hq)
theorem app_same {H H' : Heap} (hH : ∀ l, H.get l = H'.get l) (wr : List (Nat × Option ABlk)) (l : Nat) : (H.app wr).get l = (H'.app wr).get l := by
  by_cases hw : ∃ q ∈ wr, q.1 = l
  · exact get_app_in hw
  · have h1 : ∀ q ∈ wr, q.1 ≠ l := fun q hq e => hw ⟨q, hq, e⟩
    rw [get_app h1, get_app h1, hH]

theorem Same.aft (h : Same s t) (o : Oper) (ef : Option Ef) : Same (s.aft o ef) (t.aft o ef) := by
  cases ef with
  | none => exact ⟨by simp only [AS.aft, h.tmps], h.next, h.H⟩
  | some e => exact ⟨by simp only [AS.aft, h.tmps], h.next, app_same h.H e.wr⟩

/-- A guard, as a fact. -/
def Gd (ops : Array Oper) (o : Oper) (s : AS) (b : Bool) : Prop := match o.guard with
  | none => b = true
  | some (j, want) => ∃ t, (ops[j]?).bind (·.dst) = some t ∧ (s.tmps.getD t .dead = boolA (b == want) ∨ (b = false ∧ (s.tmps.getD t .dead).gone = true))

/-- One step, as a fact. -/
structure OK1 (P : Program) (C : Codes) (S : Sigs) (ops : Array Oper) (s : AS) (i : Nat) (o : Oper) (ef : Option Ef) : Prop where
  gd : Gd ops o s ef.isSome
  ok : ∀ e, ef = some e → OpOK P C S s.ev s.H (s.next + 8 * i) o e

def rdOf : Option Ef → List Nat
  | some e => e.rd
  | none => []
def wrOf : Option Ef → List (Nat × Option ABlk)
  | some e => e.wr
  | none => []

theorem OpOK.local {ρ ρ' : Operand → AV} {H H' : Heap} {nm : Nat} {e : Ef} (h : OpOK P C S ρ H nm o e) (hρ : ∀ x ∈ o.op.operands, ρ' x = ρ x) (hH : ∀ l ∈ e.rd, H'.get l = H.get l) : OpOK P C S ρ' H' nm o e := by
  cases h with
  | op e hc he hn => exact .op e (by rw [callOf_ops hρ]; exact hc) (opE_local (by rw [opE_ops hρ]; exact he) hH) hn
  | call g as ps ts xs p fz x hcall hsig hent hargs hp hpure => exact .call g as ps ts xs p fz x (by rw [callOf_ops hρ]; exact hcall) hsig hent (toArgs_local hargs hH) hp hpure
  | ext g as out x hcall hsig hout hx => exact .ext g as out x (by rw [callOf_ops hρ]; exact hcall) hsig hout hx
  | callG g as ts out x ns r hcall hsig hent hns hnd hall hr hn hc =>
    have hH : ∀ l ∈ ns, H'.get l = H.get l := hH
    have e1 : reachA H' as = ns := by rw [reachA_local (by rw [hns]; exact hH)]; exact hns
    have e2 : renH (idxN ns) H' ns 0 = renH (idxN ns) H ns 0 := renH_local ns 0 hH
    refine .callG g as ts out x ns r (by rw [callOf_ops hρ]; exact hcall) hsig hent e1 hnd ?_ (by rw [e2]; exact hr) hn (by rw [e2]; exact hc)
    exact List.all_eq_true.2 fun l hl => by rw [hH l hl]; exact List.all_eq_true.1 hall l hl

theorem OK1.local {ef : Option Ef} (h : OK1 P C S ops s i o ef) (hn : t.next = s.next) (ht : ∀ d ∈ o.looksAt ops, t.tmps.getD d .dead = s.tmps.getD d .dead) (hH : ∀ l ∈ rdOf ef, t.H.get l = s.H.get l) : OK1 P C S ops t i o ef := by
  refine ⟨?_, fun e he => ?_⟩
  · have hg := h.gd
    unfold Gd at hg ⊢
    split
    · rename_i hq; simpa [hq] using hg
    · rename_i j want hq
      rw [hq] at hg
      obtain ⟨d, hd, hb⟩ := hg
      refine ⟨d, hd, ?_⟩
      rw [ht d (by simp [Oper.looksAt, hq, hd])]; exact hb
  · subst he
    rw [hn]
    refine (h.ok e rfl).local (fun x hx => ?_) hH
    cases x with
    | tmp d => exact ht d (by simp only [Oper.looksAt, List.mem_append, List.mem_filterMap]; exact .inl ⟨.tmp d, by simpa using hx, rfl⟩)
    | _ => rfl

theorem OK1.same {ef : Option Ef} (h : OK1 P C S ops s i o ef) (hs : Same s t) : OK1 P C S ops t i o ef :=
  h.local hs.next.symm (fun d _ => by rw [hs.tmps]) (fun l _ => (hs.H l).symm)

/-- A run of a region's operations, in the order of a list. -/
inductive Tr (P : Program) (C : Codes) (S : Sigs) (ops : Array Oper) : List (Nat × Option Ef) → AS → AS → Prop
  | nil (s : AS) : Tr P C S ops [] s s
  | cons {i : Nat} {ef : Option Ef} {o : Oper} {L : List (Nat × Option Ef)} {s s' : AS} (ho : ops[i]? = some o) (h : OK1 P C S ops s i o ef) (hr : Tr P C S ops L (s.aft o ef) s') : Tr P C S ops ((i, ef) :: L) s s'

theorem Tr.same {L : List (Nat × Option Ef)} (h : Tr P C S ops L s s') : ∀ {t : AS}, Same s t → ∃ t', Tr P C S ops L t t' ∧ Same s' t' := by
  induction h with
  | nil s => exact fun hs => ⟨_, .nil _, hs⟩
  | cons ho h hr ih =>
    intro t hs
    obtain ⟨t', h1, h2⟩ := ih (hs.aft _ _)
    exact ⟨t', .cons ho (h.same hs) h1, h2⟩

theorem putT_get {tmps : List AV} {dst : Option Tmp} {v : AV} {d : Nat} (h : dst ≠ some d) : (putT tmps dst v).getD d .dead = tmps.getD d .dead := by
  cases dst with
  | none => rfl
  | some e =>
    have hne : e ≠ d := fun q => h (by rw [q])
    simp [putT, List.getD, hne]
theorem putT_comm {tmps : List AV} {d e : Option Tmp} {v u : AV} (h : ∀ x, d = some x → e ≠ some x) : putT (putT tmps d v) e u = putT (putT tmps e u) d v := by
  cases d with
  | none => rfl
  | some x => cases e with
    | none => rfl
    | some y =>
      have hne : x ≠ y := fun q => h x rfl (by rw [q])
      exact List.set_comm _ _ hne

theorem aft_tmps (s : AS) (o : Oper) (ef : Option Ef) : ∃ v, (s.aft o ef).tmps = putT s.tmps o.dst v := by
  cases ef <;> exact ⟨_, rfl⟩
theorem aft_next (s : AS) (o : Oper) (ef : Option Ef) : (s.aft o ef).next = s.next := by cases ef <;> rfl
theorem aft_H (s : AS) (o : Oper) (ef : Option Ef) : (s.aft o ef).H = s.H.app (wrOf ef) := by cases ef <;> rfl
def valOf : Option Ef → AV
  | some e => e.v
  | none => .d (.v undef)
theorem aft_tmps' (s : AS) (o : Oper) (ef : Option Ef) : (s.aft o ef).tmps = putT s.tmps o.dst (valOf ef) := by cases ef <;> rfl

/-- Two steps that do not meet. -/
structure Ind (ops : Array Oper) (o1 o2 : Oper) (e1 e2 : Option Ef) : Prop where
  ap : o1.apart ops o2 = true
  w1 : ∀ p ∈ wrOf e1, p.1 ∉ rdOf e2 ∧ ∀ q ∈ wrOf e2, q.1 ≠ p.1
  w2 : ∀ p ∈ wrOf e2, p.1 ∉ rdOf e1

theorem swap {e1 e2 : Option Ef} (hi : Ind ops o1 o2 e1 e2) (h1 : OK1 P C S ops s i o1 e1) (h2 : OK1 P C S ops (s.aft o1 e1) j o2 e2) :
    OK1 P C S ops s j o2 e2 ∧ OK1 P C S ops (s.aft o2 e2) i o1 e1 ∧ Same ((s.aft o1 e1).aft o2 e2) ((s.aft o2 e2).aft o1 e1) := by
  obtain ⟨a1, a2, a3⟩ := Oper.apart_spec hi.ap
  have g2 : OK1 P C S ops s j o2 e2 := h2.local (aft_next s o1 e1).symm (fun d hd => by
      rw [aft_tmps', putT_get]; exact fun e => a1 d e hd) (fun l hl => by
      rw [aft_H, get_app]; exact fun p hp e => (hi.w1 p hp).1 (by rw [e]; exact hl))
  refine ⟨g2, h1.local (aft_next s o2 e2) (fun d hd => ?_) (fun l hl => ?_), ?_, ?_, fun l => ?_⟩
  · rw [aft_tmps', putT_get]; exact fun e => a3 d e hd
  · rw [aft_H, get_app]; exact fun p hp e => hi.w2 p hp (by rw [e]; exact hl)
  · rw [aft_tmps', aft_tmps', aft_tmps', aft_tmps']
    exact putT_comm a2
  · rw [aft_next, aft_next, aft_next, aft_next]
  · rw [aft_H, aft_H, aft_H, aft_H]
    by_cases hw : ∃ p ∈ wrOf e1, p.1 = l
    · obtain ⟨p, hp, hpl⟩ := hw
      rw [get_app (wr := wrOf e2) (fun q hq e => (hi.w1 p hp).2 q hq (by rw [e, hpl])), get_app_in (H' := s.H.app (wrOf e2)) ⟨p, hp, hpl⟩]
    · have h1 : ∀ q ∈ wrOf e1, q.1 ≠ l := fun q hq e => hw ⟨q, hq, e⟩
      rw [get_app (wr := wrOf e1) (H := s.H.app (wrOf e2)) h1]
      by_cases hw2 : ∃ p ∈ wrOf e2, p.1 = l
      · exact get_app_in hw2
      · have h2 : ∀ q ∈ wrOf e2, q.1 ≠ l := fun q hq e => hw2 ⟨q, hq, e⟩
        rw [get_app h2, get_app h2, get_app h1]

/-- What pairs of a text may be turned round. -/
def Free2 (ops : Array Oper) (x y : Nat × Option Ef) : Prop := ∀ o1 o2, ops[x.1]? = some o1 → ops[y.1]? = some o2 → Ind ops o1 o2 x.2 y.2

theorem Tr.bubble {x : Nat × Option Ef} {L2 : List (Nat × Option Ef)} : ∀ {L1 : List (Nat × Option Ef)} {s s' : AS}, Tr P C S ops (L1 ++ x :: L2) s s' → (∀ y ∈ L1, Free2 ops y x) →
    ∃ s'', Tr P C S ops (x :: (L1 ++ L2)) s s'' ∧ Same s' s''
  | [], s, s', h, _ => ⟨s', h, Same.refl _⟩
  | y :: L1, s, s', h, hi => by
    cases h with
    | @cons jy efy oy _ _ _ hoy hy hr =>
      obtain ⟨s'', h2, h3⟩ := Tr.bubble hr (fun z hz => hi z (by simp [hz]))
      cases h2 with
      | @cons jx efx ox _ _ _ hox hx hr2 =>
        obtain ⟨g1, g2, g3⟩ := swap (hi _ List.mem_cons_self oy ox hoy hox) hy hx
        obtain ⟨t', g4, g5⟩ := hr2.same g3
        exact ⟨t', .cons hox g1 (.cons hoy g2 g4), h3.trans g5⟩

/-! ### what comes ahead of what -/

inductive Pre (ops : Array Oper) : Nat → Nat → Prop
  | edge {i : Nat} {o : Oper} {e : Edge} (ho : ops[i]? = some o) (he : e ∈ o.after) (hb : Region.binds .any e = true) : Pre ops e.on i
  | step {i j : Nat} {o : Oper} {e : Edge} (ho : ops[i]? = some o) (he : e ∈ o.after) (hb : Region.binds .any e = true) (h : Pre ops j e.on) : Pre ops j i

def MaskOK (ops : Array Oper) (ms : List Nat) : Prop := ∀ i j, (ms.getD i 0).testBit j = true → Pre ops j i

theorem fold_mask {ms : List Nat} (hm : MaskOK ops ms) {i j : Nat} {o : Oper} (ho : ops[i]? = some o) : ∀ (es : List Edge) (m0 : Nat), (∀ e ∈ es, e ∈ o.after) → (m0.testBit j = true → Pre ops j i) →
    (es.foldl (fun m e => bif Region.binds .any e then (m ||| (1 <<< e.on)) ||| ms.getD e.on 0 else m) m0).testBit j = true → Pre ops j i
  | [], m0, _, h0, h => h0 h
  | e :: es, m0, he, h0, h => by
    refine fold_mask hm ho es _ (fun x hx => he x (by simp [hx])) (fun h1 => ?_) h
    cases hb : Region.binds .any e
    · simp only [hb, cond_false] at h1; exact h0 h1
    · simp only [hb, cond_true, Nat.testBit_or, Bool.or_eq_true] at h1
      rcases h1 with (h1 | h1) | h1
      · exact h0 h1
      · rw [Nat.one_shiftLeft] at h1
        have := Nat.testBit_two_pow (n := e.on) (m := j)
        rw [this] at h1
        have e1 : e.on = j := by simpa using h1
        rw [← e1]
        exact .edge ho (he e (by simp)) hb
      · exact .step ho (he e (by simp)) hb (hm _ _ h1)

theorem masksGo_ok : ∀ (os : List Oper) (ms : List Nat), MaskOK ops ms → (∀ k o, os[k]? = some o → ops[ms.length + k]? = some o) → MaskOK ops (masksGo os ms)
  | [], ms, hm, _ => hm
  | o :: os, ms, hm, ho => by
    unfold masksGo
    refine masksGo_ok os _ (fun i j h => ?_) (fun k o' hk => ?_)
    · rw [List.getD, List.getElem?_append] at h
      split at h
      · exact hm i j h
      · rename_i hlt
        by_cases hi : i = ms.length
        · subst hi
          simp only [Nat.sub_self, List.getElem?_cons_zero, Option.getD_some] at h
          exact fold_mask hm (ho 0 o rfl) o.after.toList 0 (fun e he => by simpa using he) (fun h => by simp at h) h
        · have : i - ms.length ≠ 0 := by omega
          rw [List.getElem?_cons, if_neg this] at h
          simp at h
    · have := ho (k + 1) o' (by simpa using hk)
      rw [List.length_append]
      have e1 : (ms.length + 1) + k = ms.length + (k + 1) := by omega
      simpa [e1] using this

theorem masks_ok (ops : Array Oper) : MaskOK ops (masks ops) :=
  masksGo_ok ops.toList [] (fun i j h => by simp at h) (fun k o hk => by simpa using hk)

theorem text_spec (h : textB ops = true) {i : Nat} {o : Oper} {e : Edge} (ho : ops[i]? = some o) (he : e ∈ o.after) (hb : Region.binds .any e = true) : e.on < i := by
  have hlt : i < ops.size := by
    rcases Nat.lt_or_ge i ops.size with h1 | h1
    · exact h1
    · rw [Array.getElem?_eq_none h1] at ho; cases ho
  have h1 := List.all_eq_true.1 h i (List.mem_range.2 hlt)
  rw [ho] at h1
  simp only at h1
  have h2 := Array.all_eq_true'.1 h1 e he
  rw [hb] at h2
  exact Nat.le_of_ble_eq_true (by simpa [Nat.blt] using h2)

end Go.VL

/-
  The value layer, part 23: a region whose order is drawn, as the abstract machine runs it. (Own work.)
-/
namespace Go.VL

variable {P : Program} {C : Codes} {S : Sigs} {E : Entry} {w : World} {K : Nat → Prop} {m : Nat → Option (Option Nat)} {free : Nat → Prop}
  {f : FuncId} {R : Ending → World → Prop} {a : Act} {k : List Item} {s t s' : AS} {α : Type} {ops : Array Oper} {o o1 o2 : Oper} {i j : Nat}

/-- In the text's order, or free to be turned round. -/
def Okp (ops : Array Oper) (x y : Nat × Option Ef) : Prop := Pre ops x.1 y.1 ∨ Free2 ops x y

theorem foot_spec {e e' : Ef} (h : footB e e' = true) : (∀ p ∈ e.wr, p.1 ∉ e'.rd ∧ ∀ q ∈ e'.wr, q.1 ≠ p.1) ∧ ∀ p ∈ e'.wr, p.1 ∉ e.rd := by
  unfold footB at h
  obtain ⟨h1, h2⟩ := Bool.and_eq_true_iff.1 h
  refine ⟨fun p hp => ?_, fun p hp => ?_⟩
  · obtain ⟨h3, h4⟩ := Bool.and_eq_true_iff.1 (List.all_eq_true.1 h1 p hp)
    refine ⟨by simpa using h3, fun q hq e => ?_⟩
    have : (e'.wr.any fun q => q.1 == p.1) = true := List.any_eq_true.2 ⟨q, hq, by simpa using e⟩
    rw [this] at h4; cases h4
  · simpa using List.all_eq_true.1 h2 p hp

theorem meet_ok {x y : Nat × Option Ef} (h : meetB ops (masks ops) x y = true) : Okp ops x y := by
  unfold meetB at h
  rcases Bool.or_eq_true_iff.1 h with h | h
  · exact .inl (masks_ok ops _ _ h)
  · refine .inr fun o1 o2 h1 h2 => ?_
    unfold indepB at h
    rw [h1, h2] at h
    obtain ⟨h3, h4⟩ := Bool.and_eq_true_iff.1 h
    obtain ⟨i, e1⟩ := x
    obtain ⟨j, e2⟩ := y
    cases e1 with
    | none => exact ⟨h3, fun p hp => by simp [wrOf] at hp, fun p hp => by simp [rdOf]⟩
    | some e1 => cases e2 with
      | none => exact ⟨h3, fun p hp => ⟨by simp [rdOf], fun q hq => by simp [wrOf] at hq⟩, fun p hp => by simp [wrOf] at hp⟩
      | some e2 => exact ⟨h3, (foot_spec h4).1, (foot_spec h4).2⟩

theorem guardK_ok {A : List Item → AS → Prop} {R0 : α → Prop} {yes no : AS → Out α} (h : Sat P A R0 (guardK ops o s yes no)) :
    (Gd ops o s true ∧ Sat P A R0 (yes s)) ∨ (Gd ops o s false ∧ Sat P A R0 (no s)) := by
  unfold guardK at h
  split at h
  · rename_i hg
    exact .inl ⟨by simp [Gd, hg], h⟩
  · rename_i j want hg
    split at h
    · rename_i t ht
      split at h
      · rename_i b hb
        have hv : s.tmps.getD t .dead = boolA b := by
          unfold AV.bool? at hb
          split at hb
          · rename_i c hc; rw [hc]; cases hb; rfl
          · cases hb
        have hset : s.tmps.set t (boolA b) = s.tmps := by
          refine List.ext_getElem? fun n => ?_
          rw [List.getElem?_set]
          by_cases hn : t = n
          · subst hn
            rw [if_pos rfl]
            by_cases hl : t < s.tmps.length
            · rw [if_pos hl, ← hv]; simp [List.getD, hl]
            · rw [if_neg hl]; exact (List.getElem?_eq_none (Nat.not_lt.1 hl)).symm
          · rw [if_neg hn]
        have hs : ({ s with tmps := s.tmps.set t (boolA b) } : AS) = s := by rw [hset]
        cases b <;> cases want <;> simp only [cond_true, cond_false, hs] at h
        · exact .inl ⟨by simp only [Gd, hg]; exact ⟨t, ht, .inl hv⟩, h⟩
        · exact .inr ⟨by simp only [Gd, hg]; exact ⟨t, ht, .inl hv⟩, h⟩
        · exact .inr ⟨by simp only [Gd, hg]; exact ⟨t, ht, .inl hv⟩, h⟩
        · exact .inl ⟨by simp only [Gd, hg]; exact ⟨t, ht, .inl hv⟩, h⟩
      · cases hq : (s.tmps.getD t .dead).gone
        · rw [hq] at h; simp [Sat] at h
        · rw [hq, cond_true] at h
          exact .inr ⟨by simp only [Gd, hg]; exact ⟨t, ht, .inr ⟨trivial, hq⟩⟩, h⟩
    · simp [Sat] at h

theorem drawK_ok {A : List Item → AS → Prop} {R0 : α → Prop} {kk : AS → Out α} : ∀ (rest : List Nat) (acc : List (Nat × Option Ef)) (s : AS), Sat P A R0 (drawK P C S ops (masks ops) kk rest acc s) →
    ∃ L s', L.map (·.1) = rest ∧ Tr P C S ops L s s' ∧ (∀ x ∈ L, ∀ y ∈ acc, Okp ops y x) ∧ L.Pairwise (Okp ops) ∧ Sat P A R0 (kk s')
  | [], acc, s, h => ⟨[], s, rfl, .nil s, fun x hx => by simp at hx, .nil, h⟩
  | i :: rest, acc, s, h => by
    unfold drawK at h
    split at h
    · rename_i o ho
      have fin : ∀ (ef : Option Ef), OK1 P C S ops s i o ef → acc.all (fun x => meetB ops (masks ops) x (i, ef)) = true → Sat P A R0 (drawK P C S ops (masks ops) kk rest ((i, ef) :: acc) (s.aft o ef)) →
          ∃ L s', L.map (·.1) = i :: rest ∧ Tr P C S ops L s s' ∧ (∀ x ∈ L, ∀ y ∈ acc, Okp ops y x) ∧ L.Pairwise (Okp ops) ∧ Sat P A R0 (kk s') := by
        intro ef h1 h2 h3
        obtain ⟨L, s', g1, g2, g3, g4, g5⟩ := drawK_ok rest _ _ h3
        refine ⟨(i, ef) :: L, s', by simp [g1], .cons ho h1 g2, fun x hx y hy => ?_, List.pairwise_cons.2 ⟨fun x hx => g3 x hx _ (by simp), g4⟩, g5⟩
        rcases List.mem_cons.1 hx with rfl | hx
        · exact meet_ok (List.all_eq_true.1 h2 y hy)
        · exact g3 x hx y (by simp [hy])
      rcases guardK_ok h with ⟨hg, h⟩ | ⟨hg, h⟩
      · obtain ⟨ef, hok, h⟩ := opD_ok h
        cases hc : acc.all (fun x => meetB ops (masks ops) x (i, some ef))
        · rw [hc] at h; simp [Sat] at h
        · rw [hc] at h
          exact fin (some ef) ⟨hg, fun e he => by cases he; exact hok⟩ hc h
      · cases hc : acc.all (fun x => meetB ops (masks ops) x (i, none))
        · rw [hc] at h; simp [Sat] at h
        · rw [hc] at h
          exact fin none ⟨hg, fun e he => by cases he⟩ hc h
    · simp [Sat] at h

theorem gd_wanted {b : Bool} (hst : St E s a w K m free) (h : Gd ops o s b) : Region.wanted o (yielded ops a.tmps) = b := by
  unfold Gd at h
  split at h
  · rename_i hg; subst h; simp [Region.wanted, hg]
  · rename_i j want hg
    obtain ⟨t, ht, hb⟩ := h
    rcases hb with hb | ⟨hb, hq⟩
    case inr => subst hb; exact gone_wanted hst ht hg hq
    have hv : a.tmps.getD t undef = .bool (b == want) := bool?_rel (by rw [hb]; rfl) (hst.tmp t)
    have hlt : t < a.tmps.size := by
      rcases Nat.lt_or_ge t a.tmps.size with h1 | h1
      · exact h1
      · simp [Array.getD, Nat.not_lt.2 h1, undef] at hv
    have hy : yielded ops a.tmps j = some (b == want) := by
      have : a.tmps[t]? = some (.bool (b == want)) := by
        simp [Array.getD, hlt] at hv
        simp [hlt, hv]
      simp [yielded, ht, this]
    simp only [Region.wanted, hg, hy]
    cases b <;> cases want <;> rfl

theorem wp_weaken {o : Oper} {Kc : Act → World → Prop} {Q : Exit → Act → World → Prop} (hh : o.wp P a w Kc (fun _ _ _ => False)) : o.wp P a w Kc Q := by
  unfold Oper.wp at *
  generalize (execOp a.eval o).run P w = r at *
  cases r with
  | ok n w' =>
    cases n <;> simp only [Oper.upon] at hh ⊢ <;>
      first
        | exact hh
        | exact Calls.mono hh (fun e w'' he => by
            cases e with
            | returned v => exact he
            | panicked c => exact he.elim
            | outgrown => obtain ⟨_, _, hq⟩ := he; exact hq.elim)
  | halt x w' => cases x <;> simp only [Oper.upon] at hh ⊢ <;> exact hh.elim

/-- Where the names are free: those of the operations still to come, and those beyond. -/
def freeL (next size : Nat) (L : List (Nat × Option Ef)) : Nat → Prop := fun l => next + 8 * size ≤ l ∨ ∃ x ∈ L, next + 8 * x.1 ≤ l ∧ l < next + 8 * x.1 + 8

theorem ready_spec {listed : Array Bool} {i : Nat} (h : i ∈ Region.ready .any ops listed) :
    i < ops.size ∧ listed.getD i true = false ∧ ∀ o e, ops[i]? = some o → e ∈ o.after → Region.binds .any e = true → listed.getD e.on false = true := by
  unfold Region.ready at h
  obtain ⟨h1, h2⟩ := List.mem_filter.1 h
  have hlt := List.mem_range.1 h1
  obtain ⟨h3, h4⟩ := Bool.and_eq_true_iff.1 h2
  refine ⟨hlt, by simpa using h3, fun o e ho he hb => ?_⟩
  rw [ho] at h4
  simp only [Option.map_some, Option.getD_some] at h4
  have := Array.all_eq_true'.1 h4 e he
  rw [hb] at this
  simpa using this

theorem ready_mem {listed : Array Bool} {i : Nat} {o : Oper} (hi : i < ops.size) (ho : ops[i]? = some o) (hl : listed.getD i true = false) (h : ∀ e, e ∈ o.after → Region.binds .any e = true → listed.getD e.on false = true) :
    i ∈ Region.ready .any ops listed := by
  unfold Region.ready
  refine List.mem_filter.2 ⟨List.mem_range.2 hi, ?_⟩
  rw [hl, ho]
  simp only [Bool.not_false, Option.map_some, Option.getD_some, Bool.true_and]
  refine Array.all_eq_true'.2 fun e he => ?_
  cases hb : Region.binds .any e
  · rfl
  · rw [h e he hb]; rfl

/-- ANY ORDER. -/
theorem any_order {Q : Exit → Act → World → Prop} (htext : textB ops = true) {sEnd : AS} :
    ∀ (fuel : Nat) (listed : Array Bool) (L : List (Nat × Option Ef)) (s : AS) (s' : AS), Same sEnd s' → Tr P C S ops L s s' → L.length ≤ fuel → listed.size = ops.size →
      (∀ i, i ∈ L.map (·.1) ↔ i < ops.size ∧ listed.getD i true = false) → L.Pairwise (fun x y => x.1 < y.1) → L.Pairwise (Okp ops) →
      (∀ i o e, ops[i]? = some o → listed.getD i false = true → e ∈ o.after → Region.binds .any e = true → listed.getD e.on false = true) →
      (∀ a w K m, St E sEnd a w K m (fun l => s.next + 8 * ops.size ≤ l) → Q .normal a w) →
      ∀ a w K m, St E s a w K m (freeL s.next ops.size L) → wpAny P .any ops Q fuel listed a w := by
  intro fuel
  have empty : ∀ (listed : Array Bool) (L : List (Nat × Option Ef)) (s s' : AS), Same sEnd s' → Tr P C S ops L s s' → L = [] → (∀ a w K m, St E sEnd a w K m (fun l => s.next + 8 * ops.size ≤ l) → Q .normal a w) →
      ∀ a w K m, St E s a w K m (freeL s.next ops.size L) → Q .normal a w := by
    intro listed L s s' hsame htr hL hfin a w K m hst
    subst hL
    cases htr
    exact hfin a w K m ((hsame.symm.st hst).weaken (fun l hl => .inl hl))
  have first : ∀ (listed : Array Bool) (L : List (Nat × Option Ef)), (∀ i, i ∈ L.map (·.1) ↔ i < ops.size ∧ listed.getD i true = false) → listed.size = ops.size → L.Pairwise (fun x y => x.1 < y.1) → Region.ready .any ops listed = [] → L = [] := by
    intro listed L hmem hsz hsort hr
    cases L with
    | nil => rfl
    | cons x L =>
      exfalso
      have hx := (hmem x.1).1 (by simp)
      obtain ⟨o, ho⟩ : ∃ o, ops[x.1]? = some o := ⟨ops[x.1]'hx.1, Array.getElem?_eq_getElem hx.1⟩
      have : x.1 ∈ Region.ready .any ops listed := by
        refine ready_mem hx.1 ho hx.2 fun e he hb => ?_
        have hlt := text_spec htext ho he hb
        have hno : e.on ∉ (x :: L).map (·.1) := by
          intro hm
          simp only [List.map_cons, List.mem_cons, List.mem_map] at hm
          rcases hm with hm | ⟨y, hy, hm⟩
          · omega
          · have := (List.pairwise_cons.1 hsort).1 y hy
            omega
        have h1 : e.on < ops.size := by omega
        have h2 : listed.getD e.on true ≠ false := fun q => hno ((hmem e.on).2 ⟨h1, q⟩)
        have h3 : e.on < listed.size := by omega
        simp only [Array.getD, h3, dif_pos] at h2 ⊢
        simpa using h2
      rw [hr] at this
      cases this
  induction fuel with
  | zero =>
    intro listed L s s' hsame htr hlen hsz hmem hsort hok hcl hfin a w K m hst
    have hL : L = [] := List.eq_nil_of_length_eq_zero (by omega)
    refine ⟨?_, empty listed L s s' hsame htr hL hfin a w K m hst⟩
    subst hL
    rw [List.eq_nil_iff_forall_not_mem]
    intro i hi
    obtain ⟨h1, h2, _⟩ := ready_spec hi
    have := (hmem i).2 ⟨h1, h2⟩
    cases this
  | succ fuel ih =>
    intro listed L s s' hsame htr hlen hsz hmem hsort hok hcl hfin a w K m hst
    refine ⟨fun hr => empty listed L s s' hsame htr (first listed L hmem hsz hsort hr) hfin a w K m hst, fun i hi => ?_⟩
    obtain ⟨hlt, hun, hrdy⟩ := ready_spec hi
    have him := (hmem i).2 ⟨hlt, hun⟩
    obtain ⟨x, hx, rfl⟩ := List.mem_map.1 him
    obtain ⟨L1, L2, rfl⟩ := List.append_of_mem hx
    obtain ⟨o, ho⟩ : ∃ o, ops[x.1]? = some o := ⟨ops[x.1]'hlt, Array.getElem?_eq_getElem hlt⟩
    -- nothing that must come ahead of it is left
    have hpre : ∀ j, Pre ops j x.1 → listed.getD j false = true := by
      have hgen : ∀ j i, Pre ops j i → (∀ o e, ops[i]? = some o → e ∈ o.after → Region.binds .any e = true → listed.getD e.on false = true) → listed.getD j false = true := by
        intro j i hp
        induction hp with
        | edge ho he hb => exact fun h => h _ _ ho he hb
        | step ho he hb hp ih => exact fun h => ih (fun o' e' ho' he' hb' => hcl _ _ _ ho' (h _ _ ho he hb) he' hb')
      exact fun j hp => hgen j _ hp hrdy
    have hfree : ∀ y ∈ L1, Free2 ops y x := by
      intro y hy
      have h1 : Okp ops y x := (List.pairwise_append.1 hok).2.2 y hy x (by simp)
      rcases h1 with h1 | h1
      · exfalso
        have h2 := hpre _ h1
        have h3 := ((hmem y.1).1 (List.mem_map.2 ⟨y, by simp [hy], rfl⟩)).2
        have h4 : y.1 < listed.size := by
          have := ((hmem y.1).1 (List.mem_map.2 ⟨y, by simp [hy], rfl⟩)).1
          omega
        simp only [Array.getD, h4, dif_pos] at h2 h3
        rw [h2] at h3; cases h3
      · exact h1
    obtain ⟨s'', htr', hs''⟩ := htr.bubble hfree
    have hsort' : (L1 ++ L2).Pairwise (fun x y => x.1 < y.1) := hsort.sublist (by simp)
    have hok' : (L1 ++ L2).Pairwise (Okp ops) := hok.sublist (by simp)
    have hnot : x.1 ∉ (L1 ++ L2).map (·.1) := by
      intro hm
      obtain ⟨y, hy, he⟩ := List.mem_map.1 hm
      rcases List.mem_append.1 hy with hy | hy
      · have := (List.pairwise_append.1 hsort).2.2 y hy x (by simp)
        omega
      · have := (List.pairwise_cons.1 (List.pairwise_append.1 hsort).2.1).1 y hy
        omega
    have hszx : x.1 < listed.size := by omega
    have hget : ∀ (b : Bool) (n : Nat), (listed.setIfInBounds x.1 true).getD n b = if n = x.1 then true else listed.getD n b := by
      intro b n
      by_cases hn : n = x.1
      · subst hn; simp [Array.getD, hszx]
      · rw [if_neg hn]
        have hn' : x.1 ≠ n := fun e => hn e.symm
        by_cases hl : n < listed.size
        · simp [Array.getD, hl, hn']
        · simp [Array.getD, hl]
    have hmem' : ∀ i, i ∈ (L1 ++ L2).map (·.1) ↔ i < ops.size ∧ (listed.setIfInBounds x.1 true).getD i true = false := by
      intro i
      rw [hget]
      constructor
      · intro h
        have hne : i ≠ x.1 := fun e => hnot (by rw [← e]; exact h)
        rw [if_neg hne]
        refine (hmem i).1 ?_
        simp only [List.map_append, List.map_cons, List.mem_append, List.mem_cons] at h ⊢
        rcases h with h | h
        · exact .inl h
        · exact .inr (.inr h)
      · rintro ⟨h1, h2⟩
        by_cases hne : i = x.1
        · rw [if_pos hne] at h2; cases h2
        · rw [if_neg hne] at h2
          have := (hmem i).2 ⟨h1, h2⟩
          simp only [List.map_append, List.map_cons, List.mem_append, List.mem_cons] at this ⊢
          rcases this with h | h | h
          · exact .inl h
          · exact absurd h hne
          · exact .inr h
    have hcl' : ∀ i o e, ops[i]? = some o → (listed.setIfInBounds x.1 true).getD i false = true → e ∈ o.after → Region.binds .any e = true → (listed.setIfInBounds x.1 true).getD e.on false = true := by
      intro i' o' e' ho' hl' he' hb'
      rw [hget] at hl' ⊢
      by_cases hq : e'.on = x.1
      · rw [if_pos hq]
      · rw [if_neg hq]
        by_cases hi' : i' = x.1
        · subst hi'; exact hrdy _ _ ho' he' hb'
        · rw [if_neg hi'] at hl'; exact hcl _ _ _ ho' hl' he' hb'
    have hrest : ∀ (ef : Option Ef), x.2 = ef → ∀ t, Tr P C S ops (L1 ++ L2) t s'' → t.next = s.next → ∀ a' w' K' m', St E t a' w' K' m' (freeL s.next ops.size (L1 ++ L2)) →
        wpAny P .any ops Q fuel (listed.setIfInBounds x.1 true) a' w' := by
      intro ef hef t ht hn a' w' K' m' hst'
      refine ih _ (L1 ++ L2) t s'' (hsame.trans hs'') ht ?_ (by simpa using hsz) hmem' hsort' hok' hcl' (by rw [hn]; exact hfin) a' w' K' m' (by rw [hn]; exact hst')
      simp only [List.length_append, List.length_cons] at hlen ⊢
      omega
    have hfr : ∀ l, freeL s.next ops.size (L1 ++ L2) l → freeL s.next ops.size (L1 ++ x :: L2) l ∧ ¬ (s.next + 8 * x.1 ≤ l ∧ l < s.next + 8 * x.1 + 8) := by
      rintro l (h | ⟨y, hy, hl1, hl2⟩)
      · exact ⟨.inl h, by omega⟩
      · refine ⟨.inr ⟨y, ?_, hl1, hl2⟩, fun e => hnot (List.mem_map.2 ⟨y, hy, by omega⟩)⟩
        rcases List.mem_append.1 hy with hy | hy <;> simp [hy]
    obtain ⟨xi, xe⟩ := x
    cases htr' with
    | @cons _ _ o' _ _ _ ho' hok1 hr' =>
      rw [ho] at ho'
      cases ho'
      unfold wpOp
      rw [ho]
      simp only
      have hwan := gd_wanted hst hok1.gd
      cases xe with
      | none =>
        have hwan : Region.wanted o (yielded ops a.tmps) = false := hwan
        rw [hwan]
        refine hrest none rfl _ hr' rfl _ _ K m ?_
        exact (hst.put o.dst (v := .d (.v undef)) (u := undef) (.d _ _ (.v _)) hst.mem (Ext.refl _ _ _ _)).weaken (fun l hl => (hfr l hl).1)
      | some e =>
        have hwan : Region.wanted o (yielded ops a.tmps) = true := hwan
        rw [hwan]
        simp only [if_true]
        refine .inl ?_
        have h1 := opOK_wp (o := o) (nm := s.next + 8 * xi) hst (fun k hk => .inr ⟨(xi, some e), by simp, by simp only; omega, by simp only; omega⟩) (hok1.ok e rfl)
        have h2 : o.wp P a w (fun a' w' => wpAny P .any ops Q fuel (listed.setIfInBounds xi true) a' w') (fun _ _ _ => False) :=
          Oper.wp_mono (by
            rintro a' w' ⟨K', m', hst'⟩
            exact hrest (some e) rfl _ hr' rfl a' w' K' m' (hst'.weaken hfr)) h1
        exact wp_weaken h2
end Go.VL
