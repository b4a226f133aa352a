/-
  The value layer, part 25: a state at a loop's head, with what is dead left out and its names counted anew. (Own work.)
-/
import Derived.Test.YteaiflgcgpaclaaGreatDoorWC
import Derived.RangeFuncRecord
import Derived.ChangeArms
import Derived.ChangeOld
import Derived.WideShapes
import Derived.OpenShut
set_option linter.unusedVariables false
set_option linter.unusedSimpArgs false
namespace Go.VL

variable {P : Program} {C : Codes} {S : Sigs} {E : Entry} {w : World} {K : Nat → Prop} {m : Nat → Option (Option Nat)} {free : Nat → Prop} {H : Heap}
  {F : Fm} {f : FuncId} {R : Ending → World → Prop} {a : Act} {k : List Item} {s t s' : AS} {α : Type}

theorem maskT_get {m : Nat} : ∀ (l : List AV) (k i : Nat), (maskT m k l)[i]? = (l[i]?).map fun x => bif m.testBit (k + i) then x else .dead
  | [], k, i => by simp [maskT]
  | a :: l, k, 0 => by simp [maskT]
  | a :: l, k, i + 1 => by
    have := maskT_get (m := m) l (k + 1) i
    have e : k + 1 + i = k + (i + 1) := by omega
    rw [e] at this
    simpa [maskT] using this
theorem maskT_length {m : Nat} : ∀ (l : List AV) (k : Nat), (maskT m k l).length = l.length
  | [], k => rfl
  | a :: l, k => by simp [maskT, maskT_length l]

theorem St.canon (hst : St E s a w K m free) {n0 live : Nat} (hn0 : E.n ≤ n0) (hf : ∀ l, s.next ≤ l → free l) : ∃ m', St E (s.canon n0 live) a w K m' (fun l => (s.canon n0 live).next ≤ l) := by
  unfold AS.canon
  simp only
  cases hc : (nodupB (reachN s.H 200 0 (addsN (List.range n0) (namesL (maskT live 0 s.tmps)))) && startB n0 (reachN s.H 200 0 (addsN (List.range n0) (namesL (maskT live 0 s.tmps)))))
  · exact ⟨m, hst.weaken hf⟩
  · obtain ⟨h1, h2⟩ := Bool.and_eq_true_iff.1 hc
    simp only [cond_true]
    generalize reachN s.H 200 0 (addsN (List.range n0) (namesL (maskT live 0 s.tmps))) = ns at h1 h2
    refine ⟨mOf m ns, by rw [renL_length, maskT_length]; exact hst.len, fun i x v hx hv => ?_, hst.defers, hst.mem.ren (nodupB_spec h1) (fun i hi => startB_spec h2 i (by omega))⟩
    simp only at hx
    rw [renL_get] at hx
    obtain ⟨y, hy, rfl⟩ := Option.map_eq_some_iff.1 hx
    rw [maskT_get] at hy
    obtain ⟨z, hz, rfl⟩ := Option.map_eq_some_iff.1 hy
    cases live.testBit (0 + i)
    · simp only [cond_false, AV.ren]; exact .dead _
    · simp only [cond_true]; exact rel_ren (hst.tmps i z v hz hv)

theorem noReg_of_head {k : List Item} (h : isHead k = true) (hk : okTodo k) : noReg k := by
  unfold okTodo at hk
  split at hk
  · cases h
  · exact hk

theorem ASat.canon {todo : List Item} (hh : isHead todo = true) {n0 live : Nat} (hn0 : E.n ≤ n0) (h : ASat P F E todo (s.canon n0 live)) : ASat P F E todo s := by
  intro hok a w K m hst
  have hn := noReg_of_head hh hok
  obtain ⟨m', hst'⟩ := hst.canon (live := live) hn0 (fun l hl => (freeOf_of hn _ _).2 hl)
  exact h hok a w K m' (hst'.weaken (fun l hl => (freeOf_of hn _ _).1 hl))

end Go.VL

/-
  The value layer, part 19: whatever the abstract machine tells holds of the function. (Own work.)
-/
namespace Go.VL

variable {P : Program} {C : Codes} {S : Sigs} {E : Entry} {w : World} {K : Nat → Prop} {m : Nat → Option (Option Nat)} {free : Nat → Prop} {H : Heap}
  {F : Fm} {f : FuncId} {R : Ending → World → Prop} {a : Act} {k : List Item} {s : AS} {α : Type}

theorem tr_next {ops : Array Oper} {L : List (Nat × Option Ef)} {s s' : AS} (h : Tr P C S ops L s s') : s'.next = s.next := by
  induction h with
  | nil s => rfl
  | cons ho h hr ih => rw [ih, aft_next]

theorem Ext.drawn (w : World) (K : Nat → Prop) (m : Nat → Option (Option Nat)) (H : Heap) : Ext w K m H { w with drawn := w.drawn + 1 } K m H :=
  ⟨fun _ h => h, fun _ _ => rfl, fun _ _ h => h, fun _ _ h => h, fun _ _ _ xs _ h => ⟨xs, h, rfl⟩⟩
theorem Mem.drawn (h : Mem E w K m H free) : Mem E { w with drawn := w.drawn + 1 } K m H free :=
  { os := h.os, tape := h.tape, output := h.output, size := h.size, keep := h.keep, Kmono := h.Kmono, Klt := h.Klt, Knew := h.Knew, mold := h.mold, mnew := h.mnew, mlt := h.mlt, mfree := h.mfree, fnew := h.fnew,
    heap := fun l b hb => BlkRel.ext (Ext.drawn w K m H) (h.heap l b hb) (fun _ _ => rfl)
    own := h.own, inj := h.inj, shape := h.shape, frozen := h.frozen, gok := h.gok.ext (fun _ h => h) (fun _ _ => rfl) }
theorem St.drawn (h : St E s a w K m free) : St E s a { w with drawn := w.drawn + 1 } K m free :=
  ⟨h.len, fun i x v hx hv => Rel.ext (Ext.drawn w K m s.H) (h.tmps i x v hx hv), h.defers, h.mem.drawn⟩

theorem finR_of {fn : Func} {fin : Fin α} {R0 : α → Prop} (hf : P.funcs[f]? = some fn) (h : FinOK P fn E fin R0 R) : FinR P fn E fin R0 (.fn P f R) := by
  intro s a w K m free vs x p todo hst hvs hx hp h0 ht
  obtain ⟨v, hr, hR⟩ := h s a w K m free vs x p hst hvs hx hp h0
  exact Runs.ret hf hr hR ht

/-- THE ABSTRACT MACHINE IS RIGHT. -/
theorem aexec_sound {fn : Func} {fin : Fin α} {R0 : α → Prop} (hmx : P.follows .mixedOrders = true) (hfin : FinR P fn E fin R0 F) {n0 : Nat} {cu : Cuts} (hn0 : E.n ≤ n0) :
    ∀ (n : Nat) (fst : Bool) (todo : List Item) (s : AS), Sat P (ASat P F E) R0 (aexec P C S fn fin n0 cu n fst todo s) → ASat P F E todo s
  | 0, _, todo, s, h => by simp [aexec, Sat] at h
  | n + 1, fst, todo, s, h => by
    intro hok a w K m hst
    have IH := fun todo s h => aexec_sound (cu := cu) hmx hfin hn0 n false todo s h
    have hret : Sat P (ASat P F E) R0 (retK P fn fin s) → (todo = [] ∨ ∃ k, todo = .code .ret :: k) → Runs P F a w todo := by
      intro h ht
      unfold retK at h
      split at h
      · rename_i vs hvs
        split at h
        · rename_i x p hx
          obtain ⟨hp, h⟩ := h
          exact hfin s a w K m _ vs x p todo hst hvs hx hp h ht
        · simp [Sat] at h
      · simp [Sat] at h
    -- from a todo without a region to another one
    have go : ∀ {todo' : List Item} {s' : AS} {a' : Act}, noReg todo → noReg todo' → s'.next = s.next → (∀ {fr : Nat → Prop}, St E s a w K m fr → St E s' a' w K m fr) →
        Sat P (ASat P F E) R0 (aexec P C S fn fin n0 cu n false todo' s') → Runs P F a' w todo' := by
      intro todo' s' a' h1 h2 h3 h4 h5
      refine IH _ _ h5 (okTodo_of h2) _ w K m ((h4 hst).weaken (fun l hl => ?_))
      rw [freeOf_of h2, h3] at hl
      rw [freeOf_of h1]; exact hl
    unfold aexec at h
    split at h
    · cases hcu : (cu.ret && !fst)
      · rw [hcu] at h; exact hret h (.inl rfl)
      · rw [hcu] at h; exact ASat.canon rfl hn0 h hok a w K m hst
    · rename_i k
      cases hcu : (cu.ret && !fst)
      · rw [hcu] at h; exact hret h (.inr ⟨_, rfl⟩)
      · rw [hcu] at h; exact ASat.canon rfl hn0 h hok a w K m hst
    · exact Runs.next (fun b cs => stepR_skip) (go hok (noReg.tail hok) rfl id h)
    · exact Runs.next (fun b cs => stepR_label) (go hok (noReg.tail hok) rfl id h)
    · exact Runs.next (fun b cs => stepR_inBlock) (go hok (noReg.tail hok) rfl id h)
    · exact Runs.next (fun b cs => stepR_inScope') (go hok (noReg.tail hok) rfl id h)
    · exact Runs.next (fun b cs => stepR_seq) (go hok (((noReg.tail hok).cons (by simp)).cons (by simp)) rfl id h)
    · rename_i c t e k
      split at h
      · rename_i b hb
        have hv := bool?_rel hb (hst.ev c)
        cases b
        · simp only [cond_false] at h
          exact Runs.next (fun b cs => stepR_cond hv) (go hok ((noReg.tail hok).cons (by simp)) rfl id h)
        · simp only [cond_true] at h
          exact Runs.next (fun b cs => stepR_cond hv) (go hok ((noReg.tail hok).cons (by simp)) rfl id h)
      · simp [Sat] at h
    · exact Runs.next (fun b cs => stepR_block) (go hok (((noReg.tail hok).cons (by simp)).cons (by simp)) rfl id h)
    · rename_i b k
      have h2 : noReg (.code b :: .inLoop b :: k) := ((noReg.tail hok).cons (by simp)).cons (by simp)
      exact Runs.next (fun b cs => stepR_loop) (ASat.canon rfl hn0 h (okTodo_of h2) a w K m (hst.weaken (fun l hl => by rw [freeOf_of h2] at hl; rw [freeOf_of hok]; exact hl)))
    · rename_i b k
      have h2 : noReg (.code b :: .inLoop b :: k) := ((noReg.tail hok).cons (by simp)).cons (by simp)
      exact Runs.next (fun b cs => stepR_inLoop) (ASat.canon rfl hn0 h (okTodo_of h2) a w K m (hst.weaken (fun l hl => by rw [freeOf_of h2] at hl; rw [freeOf_of hok]; exact hl)))
    · exact Runs.next (fun b cs => stepR_scope') (go hok (((noReg.tail hok).cons (by simp)).cons (by simp)) rfl id h)
    · rename_i id k
      split at h
      · rename_i k' hk'
        exact Runs.next (fun b cs => stepR_exit hk') (go hok (noReg_exit hk' (noReg.tail hok)) rfl (fun x => x) h)
      · exact ASat.canon rfl hn0 h hok a w K m hst
    · exact ASat.canon rfl hn0 h hok a w K m hst
    · exact ASat.canon rfl hn0 h hok a w K m hst
    · rename_i id ops draw k
      cases hcu : (cu.reg.contains id && !fst)
      case true => rw [hcu] at h; exact ASat.canon rfl hn0 h hok a w K m hst
      rw [hcu] at h
      simp only [cond_false] at h
      cases draw
      · simp only [cond_false] at h
        refine Runs.next (fun b cs => stepR_region) (IH _ _ h ⟨⟨List.nodup_range, fun i hi => by simpa using hi⟩, noReg.tail hok⟩ a w K m (hst.weaken (fun l hl => ?_)))
        rw [freeOf_of hok]
        simp only [freeOf] at hl
        rcases hl with hl | ⟨i, _, _, hl, _⟩ <;> omega
      · simp only [cond_true] at h
        cases htext : textB ops
        · rw [htext] at h; simp [Sat] at h
        rw [htext] at h
        simp only [cond_true] at h
        obtain ⟨L, s', hL, htr, _, hok2, hsat⟩ := drawK_ok _ _ _ h
        refine Runs.drawAny hmx hst.defers ?_
        have hnk := noReg.tail hok
        have hst' : St E s a { w with drawn := w.drawn + 1 } K m (freeL s.next ops.size L) := by
          have h0 := hst.drawn
          refine h0.weaken (fun l hl => ?_)
          rw [freeOf_of hok]
          rcases hl with hl | ⟨x, _, hl, _⟩ <;> omega
        refine any_order htext _ _ L s s' (Same.refl _) htr ?_ (by simp) (fun i => ?_) ?_ hok2 (fun i o e _ hl => ?_) (fun a w K m hst => ⟨rfl, hst.defers, ?_⟩) _ _ _ _ hst'
        · have := congrArg List.length hL
          simp only [List.length_map, List.length_range] at this
          omega
        · rw [hL, List.mem_range]
          constructor
          · intro hi
            exact ⟨hi, by simp [Array.getD, hi]⟩
          · exact fun h => h.1
        · have h1 : (L.map (·.1)).Pairwise (· < ·) := by rw [hL]; exact List.pairwise_lt_range
          exact List.pairwise_map.1 h1
        · exfalso
          by_cases hi : i < ops.size <;> simp [Array.getD, hi] at hl
        · refine IH _ _ hsat (okTodo_of hnk) _ _ _ _ ((hst.next_ (s'.next + 8 * ops.size)).weaken (fun l hl => ?_))
          rw [freeOf_of hnk] at hl
          have hl : s'.next + 8 * ops.size ≤ l := hl
          rw [← tr_next htr]; exact hl
    · rename_i ops k
      obtain ⟨_, hnk⟩ := hok
      refine Runs.next (fun b cs => stepR_region_end) (IH _ _ h (okTodo_of hnk) a w K m ((hst.next_ (s.next + 8 * ops.size)).weaken (fun l hl => ?_)))
      rw [freeOf_of hnk] at hl
      exact .inl hl
    · rename_i ops i rest k
      split at h
      · rename_i o ho
        obtain ⟨⟨hnd, hlt⟩, hnk⟩ := hok
        obtain ⟨s', hn', hst', hcase⟩ := guardK_sound hst h
        have hok' : okTodo (Item.inRegion ops rest :: k) := ⟨⟨(List.nodup_cons.1 hnd).2, fun j hj => hlt j (by simp [hj])⟩, hnk⟩
        have hback : ∀ l, freeOf (Item.inRegion ops rest :: k) s.next l → freeOf (Item.inRegion ops (i :: rest) :: k) s.next l ∧ ¬ (s.next + 8 * i ≤ l ∧ l < s.next + 8 * i + 8) := by
          intro l hl
          simp only [freeOf] at hl ⊢
          have hi := hlt i (by simp)
          rcases hl with hl | ⟨j, hj, hjs, hl1, hl2⟩
          · exact ⟨.inl hl, by omega⟩
          · refine ⟨.inr ⟨j, by simp [hj], hjs, hl1, hl2⟩, fun e => ?_⟩
            have : j = i := by omega
            subst this
            exact (List.nodup_cons.1 hnd).1 hj
        rcases hcase with ⟨hw, h⟩ | ⟨hw, h⟩
        · cases hy : yieldB s'.ev o
          case true =>
            rw [hy] at h
            exact h ⟨⟨hnd, hlt⟩, hnk⟩ a w K m (by rw [hn']; exact hst')
          rw [hy] at h
          simp only [cond_false] at h
          refine opK_sound ho hw (s := s') hst' ?_ (fun s2 hn2 h2 a' w' K' m' hst2 => IH _ _ h2 hok' a' w' K' m' (hst2.weaken (fun l hl => ?_))) h
          · intro q hq; rw [hn']; exact .inr ⟨i, by simp, hlt i (by simp), by omega, by omega⟩
          · rw [hn2, hn'] at hl; rw [hn']; exact hback l hl
        · refine Runs.opSkip ho hw (IH _ _ h hok' _ w K m ((hst'.put o.dst (v := .d (.v undef)) (u := undef) (.d _ _ (.v _)) hst'.mem (Ext.refl _ _ _ _)).weaken (fun l hl => ?_)))
          simp only [hn'] at hl
          exact (hback l hl).1
      · simp [Sat] at h
    · simp [Sat] at h

end Go.VL

/-
  The value layer, part 19: a contract out of a run of the abstract machine. (Own work.)
-/
namespace Go.VL

variable {P : Program} {C : Codes} {S : Sigs} {E : Entry} {w : World} {K : Nat → Prop} {m : Nat → Option (Option Nat)} {free : Nat → Prop} {H : Heap}
  {f : FuncId} {R : Ending → World → Prop} {a : Act} {k : List Item} {s : AS} {α : Type}

/-- The results of a function, read. -/
theorem resA_run (hst : St E s a w K m free) : ∀ {rs : List ResultVar} {as : List AV}, resA P s rs = some as →
    ∃ vs : List Value, (rs.mapM fun r => (match r with | .tmp t => pure (a.tmps.getD t undef) | .cell c t => do loadVar t (← asAddr (a.tmps.getD c undef)) : Sem Value)).run P w = .ok vs w ∧ vs.length = as.length ∧
      ∀ (i : Nat) (x : AV) (v : Value), as[i]? = some x → vs[i]? = some v → Rel w K m s.H x v
  | [], as, h => by
    simp only [resA, Option.some.injEq] at h
    subst h
    exact ⟨[], rfl, rfl, fun i x v h => by simp at h⟩
  | .tmp t :: rs, as, h => by
    simp only [resA, Option.map_eq_some_iff] at h
    obtain ⟨as', h, rfl⟩ := h
    obtain ⟨vs, h1, h2, h3⟩ := resA_run hst h
    refine ⟨a.tmps.getD t undef :: vs, ?_, by simp [h2], fun i x v hx hv => ?_⟩
    · rw [List.mapM_cons]
      simp only [Sem.run_bind, Sem.run_pure, Result.andThen_ok, h1]
    · cases i with
      | zero => simp only [List.getElem?_cons_zero, Option.some.injEq] at hx hv; subst hx; subst hv; exact hst.tmp t
      | succ i => exact h3 i x v (by simpa using hx) (by simpa using hv)
  | .cell c t :: rs, as, h => by
    simp only [resA] at h
    split at h
    · rename_i l fo hc
      split at h
      · rename_i cells hg
        simp only [Option.bind_eq_some_iff, Option.map_eq_some_iff] at h
        obtain ⟨x0, hx0, as', h, rfl⟩ := h
        obtain ⟨vs, h1, h2, h3⟩ := resA_run hst h
        have hr := hst.tmp c
        rw [hc] at hr
        generalize hgv : a.tmps.getD c undef = cv at hr
        cases hr with
        | ptr _ _ b hm =>
          obtain ⟨u, hu, hur⟩ := loadVar_rel (P := P) hx0 (blk_box hst.mem hg hm)
          rw [Nat.zero_add] at hu
          refine ⟨u :: vs, ?_, by simp [h2], fun i x v hx hv => ?_⟩
          · have hasA : (asAddr (a.tmps.getD c undef)).run P w = .ok ⟨b, fo, none⟩ w := by rw [hgv]; rfl
            rw [List.mapM_cons]
            simp only [Sem.run_bind, hasA, Sem.run_pure, Result.andThen_ok, hu, h1]
          · cases i with
            | zero => simp only [List.getElem?_cons_zero, Option.some.injEq] at hx hv; subst hx; subst hv; exact hur
            | succ i => exact h3 i x v (by simpa using hx) (by simpa using hv)
      · cases h
    · cases h

theorem results_run (hst : St E s a w K m free) {fn : Func} {as : List AV} (h : resA P s fn.results.toList = some as) :
    ∃ vs : List Value, (results fn a.tmps).run P w = .ok (if h : vs.toArray.size = 1 then vs.toArray[0] else .tuple vs.toArray) w ∧ vs.length = as.length ∧
      ∀ (i : Nat) (x : AV) (v : Value), as[i]? = some x → vs[i]? = some v → Rel w K m s.H x v := by
  obtain ⟨vs, h1, h2, h3⟩ := resA_run hst h
  refine ⟨vs, ?_, h2, h3⟩
  have hm : (fn.results.mapM fun r => (match r with | .tmp t => pure (a.tmps.getD t undef) | .cell c t => do loadVar t (← asAddr (a.tmps.getD c undef)) : Sem Value)).run P w = .ok vs.toArray w := by
    rw [Array.mapM_eq_mapM_toList]
    show (List.toArray <$> _ : Sem _).run P w = _
    rw [map_eq_pure_bind]
    simp only [Sem.run_bind, h1, Result.andThen_ok, Sem.run_pure]
  unfold results
  rw [Sem.run_bind]
  exact (congrArg (fun r => Result.andThen r _) hm).trans rfl

/-- What the caller learns. -/
def PureEnd (E : Entry) (ts : List Ty) (x : TyTup ts) (e : Ending) (w' : World) : Prop :=
  ∃ v K', e = .returned v ∧ RelT w' K' (ofRes ts x) v ∧ (∀ b, E.K b → K' b) ∧ (∀ b, K' b → E.K b ∨ E.w.heap.size ≤ b) ∧ (∀ b, K' b → b < w'.heap.size) ∧ RowKit.Below E.w.heap.size E.w w'

def pureFin (ts : List Ty) : Fin (TyTup ts) := fun vs H => (toRes H ts vs).map fun q => (q.1, q.2.1)

theorem relT_mono {K1 K2 : Nat → Prop} {b : AV} {v : Value} (hK : ∀ b, K1 b → K2 b) (h : RelT w K1 b v) : RelT w K2 b v :=
  h.ext ⟨hK, fun _ _ => rfl, fun _ _ h => h, fun _ _ h => h, fun l T t xs hm => absurd rfl hm⟩

/-- What 'toRes' promises. -/
def ToResOK (E : Entry) (w : World) (K : Nat → Prop) (m : Nat → Option (Option Nat)) (H : Heap) (ts : List Ty) : Prop :=
  ∀ (as : List AV) (x : TyTup ts) (p : Prop) (fz : List Nat), toRes H ts as = some (x, p, fz) → p → ∀ (vs : List Value), vs.length = as.length →
    (∀ (i : Nat) (y : AV) (v : Value), as[i]? = some y → vs[i]? = some v → Rel w K m H y v) →
    (avsOf ts x).length = vs.length ∧ (∀ (i : Nat) (y : AV) (v : Value), (avsOf ts x)[i]? = some y → vs[i]? = some v → RelT w (KF K m fz) y v) ∧ ∀ l ∈ fz, ∃ blk, H.get l = some blk

theorem nil1_some {β : Type} {as : List AV} {r x : β} (h : nil1 as r = some x) : as = [] ∧ r = x := by
  cases as with
  | nil => exact ⟨rfl, Option.some.inj h⟩
  | cons => cases h

theorem one1_some {β : Type} {as : List AV} {k : AV → Option β} {x : β} (h : one1 as k = some x) : ∃ a, as = [a] ∧ k a = some x := by
  match as, h with
  | [a], h => exact ⟨a, rfl, h⟩

theorem cons1_some {β : Type} {as : List AV} {k : AV → List AV → Option β} {x : β} (h : cons1 as k = some x) : ∃ a as', as = a :: as' ∧ k a as' = some x := by
  match as, h with
  | a :: as, h => exact ⟨a, as, rfl, h⟩

theorem get_nil {α : Type} (i : Nat) (y : α) (h : ([] : List α)[i]? = some y) : False := by simp at h

theorem toRes_nil (E : Entry) (w : World) (K : Nat → Prop) (m : Nat → Option (Option Nat)) (H : Heap) : ToResOK E w K m H [] := by
  intro as x p fz h hp vs hl hr
  obtain ⟨rfl, h2⟩ := nil1_some h
  have h3 : [] = fz := congrArg (fun q => q.2.2) h2
  subst h3
  refine ⟨hl.symm, fun i y v h => (get_nil i y h).elim, fun l hl => ?_⟩
  cases hl

theorem toRes_one (hM : Mem E w K m H free) (t : Ty) : ToResOK E w K m H [t] := by
  intro as x p fz h hp vs hl hr
  obtain ⟨y, rfl, h⟩ := one1_some h
  match vs, hl with
  | [v], hl =>
    obtain ⟨h1, h2⟩ := toTy_rel hM h hp (hr 0 y v rfl rfl)
    refine ⟨rfl, fun i z u hz hu => ?_, h2⟩
    cases i with
    | zero =>
      have hz : AV.ofTy t x = z := Option.some.inj hz
      have hu : v = u := Option.some.inj hu
      subst hz; subst hu; exact h1
    | succ i => exact (get_nil i z hz).elim

theorem toRes_cons (hM : Mem E w K m H free) (t t' : Ty) (ts : List Ty) (ih : ToResOK E w K m H (t' :: ts)) : ToResOK E w K m H (t :: t' :: ts) := by
  intro as x p fz h hp vs hl hr
  obtain ⟨y, as', rfl, h⟩ := cons1_some h
  match vs, hl, hr with
  | v :: vs, hl, hr =>
    obtain ⟨⟨x1, p1, l1⟩, h1, h⟩ := Option.bind_eq_some_iff.1 h
    obtain ⟨⟨xs, p2, l2⟩, h2, h3⟩ := Option.map_eq_some_iff.1 h
    have e1 : x = (x1, xs) := (congrArg (fun q => q.1) h3).symm
    have e2 : p = (p1 ∧ p2) := (congrArg (fun q => q.2.1) h3).symm
    have e3 : fz = l1 ++ l2 := (congrArg (fun q => q.2.2) h3).symm
    subst e1; subst e2; subst e3
    obtain ⟨g1, g2⟩ := toTy_rel hM h1 hp.1 (hr 0 y v rfl rfl)
    obtain ⟨g3, g4, g5⟩ := ih as' xs p2 l2 h2 hp.2 vs (Nat.succ.inj hl) (fun i z u hz hu => hr (i + 1) z u hz hu)
    refine ⟨congrArg Nat.succ g3, fun i z u hz hu => ?_, fun l hl => ?_⟩
    · cases i with
      | zero =>
        have hz : AV.ofTy t x1 = z := Option.some.inj hz
        have hu : v = u := Option.some.inj hu
        subst hz; subst hu
        refine relT_mono (fun b hb => ?_) g1
        rcases hb with hb | ⟨l, hl, hm⟩
        · exact .inl hb
        · exact .inr ⟨l, List.mem_append.2 (.inl hl), hm⟩
      | succ i =>
        refine relT_mono (fun b hb => ?_) (g4 i z u hz hu)
        rcases hb with hb | ⟨l, hl, hm⟩
        · exact .inl hb
        · exact .inr ⟨l, List.mem_append.2 (.inr hl), hm⟩
    · rcases List.mem_append.1 hl with hl | hl
      · exact g2 l hl
      · exact g5 l hl

theorem toRes_avs (hM : Mem E w K m H free) : ∀ ts : List Ty, ToResOK E w K m H ts
  | [] => toRes_nil E w K m H
  | [t] => toRes_one hM t
  | t :: t' :: ts => toRes_cons hM t t' ts (toRes_avs hM (t' :: ts))

theorem toRes_rel {ts : List Ty} {x : TyTup ts} {vs : List Value} {K' : Nat → Prop} (hl : (avsOf ts x).length = vs.length) (h : ∀ (i : Nat) (y : AV) (v : Value), (avsOf ts x)[i]? = some y → vs[i]? = some v → RelT w K' y v) :
    RelT w K' (ofRes ts x) (if h : vs.toArray.size = 1 then vs.toArray[0] else .tuple vs.toArray) := by
  match ts, x, hl, h with
  | [], _, hl, h =>
    have : vs = [] := List.eq_nil_of_length_eq_zero (by simpa [avsOf] using hl.symm)
    subst this
    exact .tup [] _ rfl (fun i a v h => by simp at h)
  | [t], x, hl, h =>
    match vs, hl with
    | [v], _ => exact h 0 _ v rfl rfl
  | t :: t' :: ts, x, hl, h =>
    match vs, hl with
    | [v], hl =>
      exfalso
      have hl : (AV.ofTy t x.1 :: avsOf (t' :: ts) x.2).length = 1 := hl
      have : 0 < (avsOf (t' :: ts) x.2).length := by cases ts <;> simp [avsOf]
      simp only [List.length_cons] at hl
      omega
    | [], hl => simp [avsOf] at hl
    | v :: v' :: vs, hl =>
      have hn : ¬ (v :: v' :: vs).toArray.size = 1 := by simp
      rw [dif_neg hn]
      exact .tup _ _ (by simpa using hl.symm) (fun i y u hy hu => h i y u hy (by simpa using hu))

theorem pure_fin (w0 : World) (K0 : Nat → Prop) (hK0 : ∀ b, K0 b → b < w0.heap.size) {fn : Func} (ts : List Ty) (x0 : TyTup ts) :
    FinOK P fn ⟨w0, K0, fun _ => none, 0⟩ (pureFin ts) (· = x0) (PureEnd ⟨w0, K0, fun _ => none, 0⟩ ts x0) := by
  intro s a w K m free avs x p hst hres hfin hp hx
  simp only [pureFin, Option.map_eq_some_iff, Prod.exists, Prod.mk.injEq] at hfin
  obtain ⟨x', p', fz, hto, rfl, rfl⟩ := hfin
  subst hx
  obtain ⟨vs, hrun, hlen, hrel⟩ := results_run (P := P) hst hres
  obtain ⟨h1, h2, h3⟩ := toRes_avs hst.mem ts _ _ _ _ hto hp vs hlen hrel
  obtain ⟨K1, g1, e1, hk1⟩ := Mem.gives fz hst.mem
  have hKF := KF_gives e1.hK h3 hk1
  refine ⟨_, hrun, _, K1, rfl, relT_mono hKF (toRes_rel h1 h2), g1.Kmono, fun b hb => ?_, g1.Klt, ?_⟩
  · rcases g1.Knew b hb with h | h | ⟨l, hl, _⟩
    · exact .inl h
    · exact .inr h
    · exact absurd hl (Nat.not_lt_zero _)
  · exact ⟨g1.os, g1.tape, g1.output, g1.size, fun b hb => g1.keep b hb (fun l hl => absurd hl (Nat.not_lt_zero _))⟩

/-- A function's first state. -/
def startS (fn : Func) (args : List Arg) : AS := ⟨args.map (fun x => AV.ofTy x.1 x.2) ++ List.replicate (fn.ntmps - args.length) (.d (.v undef)), [], 0⟩
def bodyOf (fn : Func) : List Item := match fn.body with | some c => [.code c] | none => []

/-- A CONTRACT, OUT OF THE ABSTRACT RUN. -/
theorem Pure.of_sat {fn : Func} (hf : P.funcs[f]? = some fn) (hb : fn.body.isSome = true) {args : List Arg} {ts : List Ty} {x : TyTup ts} (hnt : args.length ≤ fn.ntmps)
    (h : ∀ E, E.n = 0 → (∀ b, E.K b → b < E.w.heap.size) → FinOK P fn E (pureFin ts) (· = x) (PureEnd E ts x) → ASat P (.fn P f (PureEnd E ts x)) E (bodyOf fn) (startS fn args)) : Pure P f args ts x := by
  intro w K vs hK hgk hvs hrel
  obtain ⟨c, hc⟩ := Option.isSome_iff_exists.1 hb
  have hbody : bodyOf fn = [.code c] := by simp [bodyOf, hc]
  refine calls_of_runs hf hc ?_
  have h1 := h ⟨w, K, fun _ => none, 0⟩ rfl hK (pure_fin w K hK ts x)
  rw [hbody] at h1
  refine h1 (fun ops l hm => by simp at hm) _ w K (fun _ => none) ⟨by simp [startS, hvs], fun i y v hy hv => ?_, rfl, ?_⟩
  · simp only [startS] at hy ⊢
    rw [List.getElem?_append] at hy
    rw [Array.getElem?_append] at hv
    simp only [List.length_map] at hy
    rw [hvs] at hv
    split at hy
    · rename_i hi
      rw [if_pos hi] at hv
      simp only [List.getElem?_map, Option.map_eq_some_iff] at hy
      obtain ⟨x, hx, rfl⟩ := hy
      exact hrel i x v hx hv
    · rename_i hi
      rw [if_neg hi] at hv
      rw [List.getElem?_replicate] at hy
      rw [Array.getElem?_replicate] at hv
      by_cases hc2 : i - args.length < fn.ntmps - args.length
      · rw [if_pos hc2] at hy hv
        simp only [Option.some.injEq] at hy hv; subst hy; subst hv; exact .d _ _ (.v _)
      · rw [if_neg hc2] at hy; cases hy
  · exact
      { os := rfl, tape := rfl, output := rfl, size := Nat.le_refl _, keep := fun _ _ _ => rfl, Kmono := fun _ h => h, Klt := hK, Knew := fun _ h => .inl h, mold := fun _ _ => rfl,
        mnew := fun l b _ hm => by simp at hm, mlt := fun l b hm => by simp at hm, mfree := fun _ _ => rfl, fnew := fun _ _ => Nat.zero_le _, heap := fun l blk hl => by simp [startS, Heap.get] at hl,
        own := fun l blk b hl => by simp [startS, Heap.get] at hl, inj := fun l l' b1 b2 b hl => by simp [startS, Heap.get] at hl, shape := fun _ _ h => h, frozen := fun _ _ => rfl, gok := hgk }

end Go.VL

/-
  The value layer, part 26: contracts out of trees; loops. (Own work.)
-/
namespace Go.VL

variable {P : Program} {C : Codes} {S : Sigs} {E : Entry} {w : World} {K : Nat → Prop} {m : Nat → Option (Option Nat)} {free : Nat → Prop} {H : Heap}
  {F : Fm} {f : FuncId} {R : Ending → World → Prop} {a : Act} {k : List Item} {s t s' : AS} {α : Type}

/-! ### a nil slice is an empty row that is owned -/
def AS.ghost (i : Nat) (T : TypeId) (t : Ty) (s : AS) : AS := match s.tmps[i]? with
  | some (.d (.v (.slice none 0 0))) => ⟨s.tmps.set i (.own s.next t), (s.next, .row T t []) :: s.H, s.next + 1⟩
  | _ => s

theorem St.ghost (hst : St E s a w K m free) (i : Nat) (T : TypeId) (t : Ty) (hf : ∀ l, s.next ≤ l → free l) : ∃ m', St E (s.ghost i T t) a w K m' (fun l => (s.ghost i T t).next ≤ l) := by
  unfold AS.ghost
  split
  · rename_i hi
    have hfr : free s.next := hf _ (Nat.le_refl _)
    have hmn := hst.mem.mfree _ hfr
    have hH : s.H.get s.next = none := by
      cases hg : s.H.get s.next with
      | none => rfl
      | some blk =>
        have := hst.mem.heap _ _ hg
        cases blk with
        | box cells => obtain ⟨b, cs, T, h1, _⟩ := this; rw [hmn] at h1; cases h1
        | row T t xs => rcases this with ⟨h1, _⟩ | ⟨b, cs, h1, _⟩ <;> rw [hmn] at h1 <;> cases h1
        | mp tk tv kvs => obtain ⟨b, es, c, h1, _⟩ := this; rw [hmn] at h1; cases h1
    have hget : ∀ l, l ≠ s.next → Heap.get ((s.next, .row T t []) :: s.H) l = s.H.get l := fun l hl => by
      have : (s.next == l) = false := by simpa using fun e => hl e.symm
      simp only [Heap.get, this, cond_false]
    have hself : Heap.get ((s.next, .row T t []) :: s.H) s.next = some (.row T t []) := by simp [Heap.get]
    have e : Ext w K m s.H w K (upd m s.next none) ((s.next, .row T t []) :: s.H) :=
      ⟨fun _ h => h, fun _ _ => rfl, fun l x hx => by
        have : l ≠ s.next := fun e => by rw [e, hmn] at hx; cases hx
        rw [upd_ne _ _ this]; exact hx, fun _ _ h => h, fun l T' t' xs hl hx => by
        have : l ≠ s.next := fun e => hl (by rw [e]; exact hmn)
        rw [hget l this] at hx; exact ⟨xs, hx, rfl⟩⟩
    have hE : E.n ≤ s.next := hst.mem.fnew _ hfr
    refine ⟨upd m s.next none, by simp [hst.len], fun j x v hx hv => ?_, hst.defers, ?_⟩
    · rw [List.getElem?_set] at hx
      by_cases hij : i = j
      · subst hij
        rw [if_pos rfl] at hx
        split at hx
        · cases hx
          have := hst.tmps i _ v hi hv
          cases this with
          | d _ _ h => cases h; exact .own0 _ _ none (upd_self _ _ _)
        · cases hx
      · rw [if_neg hij] at hx
        exact (hst.tmps j x v hx hv).ext e
    · exact
      { os := hst.mem.os, tape := hst.mem.tape, output := hst.mem.output, size := hst.mem.size, keep := hst.mem.keep, Kmono := hst.mem.Kmono, Klt := hst.mem.Klt, Knew := hst.mem.Knew
        mold := fun l hl => by rw [upd_ne _ _ (by omega)]; exact hst.mem.mold l hl
        mnew := fun l b hl hm => by
          by_cases h : l = s.next
          · rw [h, upd_self] at hm; cases hm
          · rw [upd_ne _ _ h] at hm; exact hst.mem.mnew l b hl hm
        mlt := fun l b hm => by
          by_cases h : l = s.next
          · rw [h, upd_self] at hm; cases hm
          · rw [upd_ne _ _ h] at hm; exact hst.mem.mlt l b hm
        mfree := fun l hl => by
          have hl : s.next + 1 ≤ l := hl
          rw [upd_ne _ _ (by omega)]; exact hst.mem.mfree l (hf l (by omega))
        fnew := fun l hl => by
          have hl : s.next + 1 ≤ l := hl
          omega
        heap := fun l blk hb => by
          by_cases h : l = s.next
          · subst h; rw [hself] at hb; cases hb; exact .inl ⟨upd_self _ _ _, rfl⟩
          · rw [hget l h] at hb; exact BlkRel.ext e (hst.mem.heap l blk hb) (fun _ _ => rfl)
        own := fun l blk b hb hm => by
          by_cases h : l = s.next
          · rw [h, upd_self] at hm; cases hm
          · rw [hget l h] at hb; rw [upd_ne _ _ h] at hm; exact hst.mem.own l blk b hb hm
        inj := fun l l' blk blk' b hb hb' hm hm' => by
          by_cases h : l = s.next
          · rw [h, upd_self] at hm; cases hm
          by_cases h' : l' = s.next
          · rw [h', upd_self] at hm'; cases hm'
          rw [hget l h] at hb; rw [hget l' h'] at hb'; rw [upd_ne _ _ h] at hm; rw [upd_ne _ _ h'] at hm'
          exact hst.mem.inj l l' blk blk' b hb hb' hm hm'
        shape := hst.mem.shape, frozen := hst.mem.frozen, gok := hst.mem.gok }
  · exact ⟨m, hst.weaken hf⟩

theorem ASat.ghost {todo : List Item} (hh : isHead todo = true) (i : Nat) (T : TypeId) (t : Ty) (h : ASat P F E todo (s.ghost i T t)) : ASat P F E todo s := by
  intro hok a w K m hst
  have hn := noReg_of_head hh hok
  obtain ⟨m', hst'⟩ := hst.ghost i T t (fun l hl => (freeOf_of hn _ _).2 hl)
  exact h hok a w K m' (hst'.weaken (fun l hl => (freeOf_of hn _ _).1 hl))

/-- .. and where the nil slice lies in a block. -/
def AS.ghostB (l j : Nat) (T : TypeId) (t : Ty) (s : AS) : AS := match s.H.get l with
  | some (.box cells) => match cells[j]? with
    | some (.d (.v (.slice none 0 0))) => ⟨s.tmps, (s.H.put s.next (some (.row T t []))).put l (some (.box (cells.set j (.own s.next t)))), s.next + 1⟩
    | _ => s
  | _ => s

theorem St.ghostB (hst : St E s a w K m free) (l j : Nat) (T : TypeId) (t : Ty) (hf : ∀ l, s.next ≤ l → free l) : ∃ m', St E (s.ghostB l j T t) a w K m' (fun q => (s.ghostB l j T t).next ≤ q) := by
  unfold AS.ghostB
  split
  · rename_i cells hg
    split
    · rename_i hc
      have hfr : free s.next := hf _ (Nat.le_refl _)
      have hmn := hst.mem.mfree _ hfr
      obtain ⟨M1, e1⟩ := hst.mem.nil hfr T t
      have hln : l ≠ s.next := fun e => by
        have := hst.mem.heap l _ hg
        obtain ⟨b, cs, T', h1, _⟩ := this
        rw [e, hmn] at h1; cases h1
      have hg1 : (s.H.put s.next (some (.row T t []))).get l = some (.box cells) := by rw [Heap.get_put _ hln]; exact hg
      obtain ⟨b, cs, T', h1, h2, h3, h4⟩ := M1.heap l _ hg1
      obtain ⟨M2, e2⟩ := M1.write (w' := w) (cs' := cs) (blk := .box (cells.set j (.own s.next t))) hg1 h1 h2 h2 rfl (fun _ _ => rfl) ⟨rfl, rfl, rfl, rfl⟩ (fun T t xs h => by cases h) (fun H' e => by
        refine ⟨b, cs, T', h1, h2, by rw [h3]; simp, fun i x v hx hv => ?_⟩
        rw [List.getElem?_set] at hx
        by_cases hij : j = i
        · subst hij
          rw [if_pos rfl] at hx
          split at hx
          · cases hx
            have h5 := h4 j _ v hc hv
            cases h5 with
            | d _ _ h5 => cases h5; exact .own0 _ _ none (upd_self _ _ _)
          · cases hx
        · rw [if_neg hij] at hx
          exact (h4 i x v hx hv).ext e)
      refine ⟨upd m s.next none, hst.len, fun i x v hx hv => ((hst.tmps i x v hx hv).ext e1).ext e2, hst.defers, M2.weaken (fun q hq => ⟨hf q (by have : s.next + 1 ≤ q := hq; omega), by have : s.next + 1 ≤ q := hq; omega⟩)⟩
    · exact ⟨m, hst.weaken hf⟩
  · exact ⟨m, hst.weaken hf⟩

theorem ASat.ghostB {todo : List Item} (hh : isHead todo = true) (l j : Nat) (T : TypeId) (t : Ty) (h : ASat P F E todo (s.ghostB l j T t)) : ASat P F E todo s := by
  intro hok a w K m hst
  have hn := noReg_of_head hh hok
  obtain ⟨m', hst'⟩ := hst.ghostB l j T t (fun q hq => (freeOf_of hn _ _).2 hq)
  exact h hok a w K m' (hst'.weaken (fun q hq => (freeOf_of hn _ _).1 hq))

/-! ### to know less -/
/-- All that is owned is as the memory says. -/
def Good (w : World) (K : Nat → Prop) (m : Nat → Option (Option Nat)) (H : Heap) : Prop := ∀ l blk, H.get l = some blk → BlkRel w K m H l blk
def AVle (H : Heap) (a b : AV) : Prop := ∀ w K m v, Good w K m H → Rel w K m H a v → Rel w K m H b v
def BLe (H : Heap) : ABlk → ABlk → Prop
  | .box cs, .box ds => cs.length = ds.length ∧ ∀ (i : Nat) x y, cs[i]? = some x → ds[i]? = some y → AVle H x y
  | a, b => a = b
structure AS.Le (s s' : AS) : Prop where
  len : s.tmps.length = s'.tmps.length
  tmps : ∀ (i : Nat) x y, s.tmps[i]? = some x → s'.tmps[i]? = some y → AVle s.H x y
  H : ∀ l b', s'.H.get l = some b' → ∃ b, s.H.get l = some b ∧ BLe s.H b b'
  next : s.next ≤ s'.next

theorem AVle.refl (H : Heap) (a : AV) : AVle H a a := fun _ _ _ _ _ h => h
theorem AVle.dead (H : Heap) (a : AV) : AVle H a .dead := fun _ _ _ v _ _ => .dead v
theorem AVle.nil (H : Heap) (t : Ty) (n : Nat) : AVle H (.d (.v (.slice none 0 n))) (.d (.sl t [])) := fun _ _ _ _ _ h => by
  cases h with
  | d _ _ h => cases h; exact .d _ _ (.sl0 t none n)
theorem AVle.fl (H : Heap) (t : Ty) (xs : List t.ty) : AVle H (.fl t xs) (.d (.sl t xs)) := fun _ _ _ _ _ h => by
  cases h with
  | fl _ _ a n h => exact .d _ _ h
theorem AVle.flt (H : Heap) (b : Nat) : AVle H (.d (.v (.float .f64 b))) (.d (.f (some b))) := fun _ _ _ _ _ h => by
  cases h with
  | d _ _ h => cases h; exact .d _ _ (.f _ _ rfl)
theorem AVle.view {H : Heap} {l : Nat} {T : TypeId} {t : Ty} {xs : List t.ty} (hg : H.get l = some (.row T t xs)) : AVle H (.own l t) (.view l t 0 xs.length) := fun w K m v hG h => by
  cases h with
  | own0 _ _ a hm =>
    rcases hG l _ hg with ⟨_, hx⟩ | ⟨b', cs, hm', _⟩
    · subst hx; exact .view0 l t 0 a
    · rw [hm] at hm'; cases hm'
  | own _ _ b n cap hm hl hcap hs =>
    have hn := hl T xs hg
    subst hn
    have := Rel.view (w := w) (K := K) (m := m) (H := H) l t b 0 xs.length cap hm hcap (by simpa using hs)
    simpa using this
theorem BLe.refl (H : Heap) (b : ABlk) : BLe H b b := by
  cases b with
  | box cs => exact ⟨rfl, fun i x y hx hy => by rw [hx] at hy; cases hy; exact .refl H _⟩
  | row => exact rfl
  | mp => exact rfl

theorem St.le (hst : St E s a w K m free) (h : AS.Le s s') (hf : ∀ l, s.next ≤ l → free l) : St E s' a w K m (fun l => s'.next ≤ l) := by
  have e : Ext w K m s.H w K m s'.H := ⟨fun _ h => h, fun _ _ => rfl, fun _ _ h => h, fun _ _ h => h, fun l T t xs _ hx => by
    obtain ⟨b, hb, hle⟩ := h.H l _ hx
    cases b with
    | box cs => cases hle
    | row T' t' xs' => cases hle; exact ⟨xs, hb, rfl⟩
    | mp => cases hle⟩
  have hG : Good w K m s.H := hst.mem.heap
  refine ⟨hst.len.trans h.len, fun i x v hx hv => ?_, hst.defers, ?_⟩
  · have hlt : i < s.tmps.length := by
      rw [h.len]
      rcases Nat.lt_or_ge i s'.tmps.length with h1 | h1
      · exact h1
      · rw [List.getElem?_eq_none h1] at hx; cases hx
    have h1 : s.tmps[i]? = some s.tmps[i] := List.getElem?_eq_getElem hlt
    exact (h.tmps i _ x h1 hx _ _ _ _ hG (hst.tmps i _ v h1 hv)).ext e
  · exact
    { hst.mem.weaken (free' := fun l => s'.next ≤ l) (fun l hl => hf l (Nat.le_trans h.next hl)) with
      heap := fun l b' hb' => by
        obtain ⟨b, hb, hle⟩ := h.H l b' hb'
        have h0 := hst.mem.heap l b hb
        have h1 := BlkRel.ext e h0 (fun _ _ => rfl)
        cases b with
        | row T t xs => cases b' with
          | row T' t' xs' => cases hle; exact h1
          | box cs => cases hle
          | mp => cases hle
        | mp tk tv kvs => cases b' with
          | row T' t' xs' => cases hle
          | box cs => cases hle
          | mp => cases hle; exact h1
        | box cs => cases b' with
          | row T' t' xs' => cases hle
          | mp => cases hle
          | box ds =>
            obtain ⟨b, vs, T, g1, g2, g3, g4⟩ := h0
            refine ⟨b, vs, T, g1, g2, g3.trans hle.1, fun i x v hx hv => ?_⟩
            have hlt : i < cs.length := by
              rw [hle.1]
              rcases Nat.lt_or_ge i ds.length with h1 | h1
              · exact h1
              · rw [List.getElem?_eq_none h1] at hx; cases hx
            have h1 : cs[i]? = some cs[i] := List.getElem?_eq_getElem hlt
            exact (hle.2 i _ x h1 hx _ _ _ _ hG (g4 i _ v h1 hv)).ext e
      own := fun l b' c hb' hm => by
        obtain ⟨b, hb, _⟩ := h.H l b' hb'
        exact hst.mem.own l b c hb hm
      inj := fun l l' b b' c hb hb' hm hm' => by
        obtain ⟨b1, hb1, _⟩ := h.H l b hb
        obtain ⟨b2, hb2, _⟩ := h.H l' b' hb'
        exact hst.mem.inj l l' b1 b2 c hb1 hb2 hm hm' }

theorem ASat.le {todo : List Item} (hh : isHead todo = true) (hle : AS.Le s s') (h : ASat P F E todo s') : ASat P F E todo s := by
  intro hok a w K m hst
  have hn := noReg_of_head hh hok
  exact h hok a w K m ((hst.le hle (fun l hl => (freeOf_of hn _ _).2 hl)).weaken (fun l hl => (freeOf_of hn _ _).1 hl))

/-! ### a row that is written no more -/
def AV.thaw (H : Heap) (l : Nat) : AV → AV
  | .own l' t => bif l' == l then (match (AV.own l' t).toD H with | some r => .d r.1 | none => .own l' t) else .own l' t
  | a => a
def ABlk.thaw (H : Heap) (l : Nat) : ABlk → ABlk
  | .box cs => .box (cs.map (AV.thaw H l))
  | b => b
def thawH (H0 : Heap) (l : Nat) : Heap → Heap
  | [] => []
  | (k, b) :: h => (k, b.thaw H0 l) :: thawH H0 l h
theorem get_thaw (H0 : Heap) (l : Nat) : ∀ (h : Heap) (k : Nat), (thawH H0 l h).get k = (h.get k).map (ABlk.thaw H0 l)
  | [], k => rfl
  | (j, b) :: h, k => by
    show (bif j == k then some (b.thaw H0 l) else Heap.get (thawH H0 l h) k) = Option.map _ (bif j == k then some b else Heap.get h k)
    cases (j == k)
    · exact get_thaw H0 l h k
    · rfl
def AS.freeze (l : Nat) (s : AS) : AS := ⟨s.tmps.map (AV.thaw s.H l), thawH s.H l (s.H.put l none), s.next⟩

theorem own_toD {l : Nat} {t : Ty} {r : D × Prop × List Nat} (h : (AV.own l t).toD H = some r) : r.2.1 ∧ r.2.2 = [l] := by
  simp only [AV.toD] at h
  split at h
  · split at h
    · cases h; exact ⟨trivial, rfl⟩
    · cases h
  · cases h
theorem Rel.thaw {K' : Nat → Prop} {l : Nat} (hM : Mem E w K m H free) {H1 : Heap} (e : Ext w K m H w K' m H1) (hk : ∀ b blk, H.get l = some blk → m l = some (some b) → K' b) {a : AV} {v : Value} (h : Rel w K m H a v) : Rel w K' m H1 (a.thaw H l) v := by
  unfold AV.thaw
  split
  · rename_i l' t
    by_cases hl : l' = l
    · subst hl
      rw [show (l' == l') = true by simp, cond_true]
      split
      · rename_i r hr
        obtain ⟨hp, hfz⟩ := own_toD hr
        obtain ⟨d, p, fz⟩ := r
        have hfz : fz = [l'] := hfz
        subst hfz
        obtain ⟨hR, hg⟩ := toD_rel hM hr hp h
        refine .d _ _ (hR.ext (fun b hb => ?_) (fun _ _ => rfl))
        exact KF_gives e.hK hg (fun k hkm b2 blk hb2 hm2 => by
          have : k = l' := by simpa using hkm
          subst this; exact hk b2 blk hb2 hm2) b hb
      · exact h.ext e
    · rw [show (l' == l) = false by simpa using hl, cond_false]
      exact h.ext e
  · exact h.ext e

theorem St.freeze (hst : St E s a w K m free) (l : Nat) : ∃ K', St E (s.freeze l) a w K' m free := by
  obtain ⟨K', M, e, hk⟩ := hst.mem.give l
  have e2 : Ext w K' m (s.H.put l none) w K' m (thawH s.H l (s.H.put l none)) := ⟨fun _ h => h, fun _ _ => rfl, fun _ _ h => h, fun _ _ h => h, fun j T t xs _ hx => by
    rw [get_thaw] at hx
    cases hg : (s.H.put l none).get j with
    | none => rw [hg] at hx; cases hx
    | some b =>
      rw [hg] at hx
      cases b with
      | box cs => cases hx
      | row T' t' xs' => cases hx; exact ⟨_, rfl, rfl⟩
      | mp => cases hx⟩
  have gg : ∀ k blk, (thawH s.H l (s.H.put l none)).get k = some blk → ∃ b1, (s.H.put l none).get k = some b1 ∧ blk = b1.thaw s.H l := by
    intro k blk h
    rw [get_thaw] at h
    cases hg : (s.H.put l none).get k with
    | none => rw [hg] at h; cases h
    | some b => rw [hg] at h; cases h; exact ⟨b, rfl, rfl⟩
  refine ⟨K', by rw [hst.len]; simp [AS.freeze], fun i x v hx hv => ?_, hst.defers, ?_⟩
  · have hx : (s.tmps.map (AV.thaw s.H l))[i]? = some x := hx
    rw [List.getElem?_map, Option.map_eq_some_iff] at hx
    obtain ⟨y, hy, rfl⟩ := hx
    exact (Rel.thaw hst.mem e hk (hst.tmps i y v hy hv)).ext e2
  · exact { M with
      heap := fun k blk hb => by
        obtain ⟨b1, h1, rfl⟩ := gg k blk hb
        cases b1 with
        | row T t xs => exact BlkRel.ext e2 (M.heap k _ h1) (fun _ _ => rfl)
        | mp tk tv kvs => exact BlkRel.ext e2 (M.heap k _ h1) (fun _ _ => rfl)
        | box cs =>
          have hkl : k ≠ l := fun e => by subst e; rw [Heap.get_put_self] at h1; cases h1
          rw [Heap.get_put _ hkl] at h1
          obtain ⟨b, vs, T, g1, g2, g3, g4⟩ := hst.mem.heap k _ h1
          refine ⟨b, vs, T, g1, g2, by simp [g3], fun i x v hx hv => ?_⟩
          rw [List.getElem?_map, Option.map_eq_some_iff] at hx
          obtain ⟨y, hy, rfl⟩ := hx
          exact (Rel.thaw hst.mem e hk (g4 i y v hy hv)).ext e2
      own := fun k blk b hb hm => by
        obtain ⟨b1, h1, rfl⟩ := gg k blk hb
        exact M.own k b1 b h1 hm
      inj := fun k k' b1 b2 b hb hb' hm hm' => by
        obtain ⟨c1, h1, _⟩ := gg k b1 hb
        obtain ⟨c2, h2, _⟩ := gg k' b2 hb'
        exact M.inj k k' c1 c2 b h1 h2 hm hm' }

theorem ASat.freeze {todo : List Item} (hh : isHead todo = true) (l : Nat) (h : ASat P F E todo (s.freeze l)) : ASat P F E todo s := by
  intro hok a w K m hst
  obtain ⟨K', hst'⟩ := hst.freeze l
  exact h hok a w K' m hst'

/-! ### some no-number, with its bits -/
def AS.nanB (i b : Nat) (s : AS) : AS := match s.tmps[i]? with
  | some (.d (.f none)) => { s with tmps := s.tmps.set i (.d (.f (some b))) }
  | _ => s
theorem ASat.nan {todo : List Item} (i : Nat) (h : ∀ b, nanBits b → ASat P F E todo (s.nanB i b)) : ASat P F E todo s := by
  intro hok a w K m hst
  unfold AS.nanB at h
  split at h
  · rename_i hi
    have hlt : i < s.tmps.length := (List.getElem?_eq_some_iff.1 hi).1
    have hla : i < a.tmps.size := by rw [hst.len]; exact hlt
    have hv : a.tmps[i]? = some a.tmps[i] := Array.getElem?_eq_getElem hla
    have hr := hst.tmps i _ _ hi hv
    obtain ⟨b, hb, hvb⟩ : ∃ b, nanBits b ∧ a.tmps[i] = .float .f64 b := by
      generalize a.tmps[i] = v at hr
      cases hr with
      | d _ _ h => cases h with
        | f _ b hb => exact ⟨b, hb, rfl⟩
    refine h b hb hok a w K m ⟨by simpa using hst.len, fun j x v hx hv' => ?_, hst.defers, hst.mem⟩
    simp only at hx
    rw [List.getElem?_set] at hx
    split at hx
    · rename_i hij
      subst hij
      (try rw [if_pos hlt] at hx)
      simp only [Option.some.injEq] at hx
      subst hx
      rw [hv] at hv'
      simp only [Option.some.injEq] at hv'
      subst hv'
      rw [hvb]
      exact .d _ _ (.f _ _ rfl)
    · exact hst.tmps j x v hx hv'
  · exact h 9221120237041090561 (by unfold nanBits; decide +kernel) hok a w K m hst

/-! ### what the abstract machine carries back -/
structure Closed {α : Type} (P : Program) (C : Codes) (S : Sigs) (fn : Func) (fin : Fin α) (R0 : α → Prop) (n0 : Nat) (A : List Item → AS → Prop) : Prop where
  run : ∀ cu n fst todo s, Sat P A R0 (aexec P C S fn fin n0 cu n fst todo s) → A todo s
  canon : ∀ todo s live, isHead todo = true → A todo (s.canon n0 live) → A todo s
  ghost : ∀ todo s i T t, isHead todo = true → A todo (s.ghost i T t) → A todo s
  ghostB : ∀ todo s l j T t, isHead todo = true → A todo (s.ghostB l j T t) → A todo s
  le : ∀ todo s s', isHead todo = true → AS.Le s s' → A todo s' → A todo s
  freeze : ∀ todo s l, isHead todo = true → A todo (s.freeze l) → A todo s
  nan : ∀ todo s i, (∀ b, nanBits b → A todo (s.nanB i b)) → A todo s

/-- From a point of the text on. -/
theorem Closed.go {fn : Func} {fin : Fin α} {R0 : α → Prop} {n0 : Nat} {A : List Item → AS → Prop} (hA : Closed P C S fn fin R0 n0 A) {cu : Cuts} {n : Nat} {fst : Bool} {todo : List Item} {s : AS} {T : Out α}
    (he : aexec P C S fn fin n0 cu n fst todo s = T) (h : Sat P A R0 T) : A todo s := by
  refine hA.run cu n fst todo s ?_
  rw [he]; exact h

/-- A nil slice, taken as an empty row. -/
theorem Closed.row {fn : Func} {fin : Fin α} {R0 : α → Prop} {n0 : Nat} {A : List Item → AS → Prop} (hA : Closed P C S fn fin R0 n0 A) (i : Nat) (T : TypeId) (t : Ty) {todo : List Item} {s s' : AS}
    (hh : isHead todo = true) (he : (s.ghost i T t).canon n0 (liveT (liveR fn) todo).1 = s') (h : A todo s') : A todo s :=
  hA.ghost todo s i T t hh (hA.canon todo _ _ hh (by rw [he]; exact h))

theorem Closed.boxrow {fn : Func} {fin : Fin α} {R0 : α → Prop} {n0 : Nat} {A : List Item → AS → Prop} (hA : Closed P C S fn fin R0 n0 A) (l j : Nat) (T : TypeId) (t : Ty) {todo : List Item} {s s' : AS}
    (hh : isHead todo = true) (he : (s.ghostB l j T t).canon n0 (liveT (liveR fn) todo).1 = s') (h : A todo s') : A todo s :=
  hA.ghostB todo s l j T t hh (hA.canon todo _ _ hh (by rw [he]; exact h))

/-- A row that is written no more, taken as plain data. -/
theorem Closed.frz {fn : Func} {fin : Fin α} {R0 : α → Prop} {n0 : Nat} {A : List Item → AS → Prop} (hA : Closed P C S fn fin R0 n0 A) (l : Nat) {todo : List Item} {s s' : AS}
    (hh : isHead todo = true) (he : (s.freeze l).canon n0 (liveT (liveR fn) todo).1 = s') (h : A todo s') : A todo s :=
  hA.freeze todo s l hh (hA.canon todo _ _ hh (by rw [he]; exact h))

theorem asat_closed {fn : Func} {fin : Fin α} {R0 : α → Prop} {n0 : Nat} (hmx : P.follows .mixedOrders = true) (hfin : FinR P fn E fin R0 F) (hn : E.n ≤ n0) :
    Closed P C S fn fin R0 n0 (ASat P F E) :=
  ⟨fun cu n fst todo s hs => aexec_sound (cu := cu) hmx hfin hn n fst todo s hs, fun todo s live hh h => ASat.canon hh hn h, fun todo s i T t hh h => ASat.ghost hh i T t h, fun todo s l j T t hh h => ASat.ghostB hh l j T t h, fun todo s s' hh hle h => ASat.le hh hle h, fun todo s l hh h => ASat.freeze hh l h, fun todo s i h => ASat.nan i h⟩

theorem Pure.of_closed {fn : Func} (hmx : P.follows .mixedOrders = true) (hf : P.funcs[f]? = some fn) (hb : fn.body.isSome = true) {args : List Arg} {ts : List Ty} {x : TyTup ts} (hnt : args.length ≤ fn.ntmps)
    (h : ∀ A, Closed P C S fn (pureFin ts) (· = x) 0 A → A (bodyOf fn) (startS fn args)) : Pure P f args ts x :=
  Pure.of_sat hf hb hnt fun E hE _ hfin => h _ (asat_closed hmx (finR_of hf hfin) (by omega))

theorem Pure.of_tree {fn : Func} (hmx : P.follows .mixedOrders = true) (hf : P.funcs[f]? = some fn) (hb : fn.body.isSome = true) {args : List Arg} {ts : List Ty} {x : TyTup ts} (hnt : args.length ≤ fn.ntmps) {cu : Cuts} {n : Nat} {fst : Bool} {T : Out (TyTup ts)}
    (he : aexec P C S fn (pureFin ts) 0 cu n fst (bodyOf fn) (startS fn args) = T) (h : ∀ A, Sat P A (· = x) T) : Pure P f args ts x :=
  Pure.of_closed (C := C) (S := S) hmx hf hb hnt fun A hA => hA.go he (h A)

/-! ### contracts of functions that change memory -/
structure GRes.Le (r' r : GRes) : Prop where
  len : r'.res.length = r.res.length
  res : ∀ (i : Nat) x y, r'.res[i]? = some x → r.res[i]? = some y → AVle r'.H x y
  H : ∀ l b', r.H.get l = some b' → ∃ b, r'.H.get l = some b ∧ BLe r'.H b b'
  n : r'.n ≤ r.n
theorem GRes.Le.refl (r : GRes) : GRes.Le r r := ⟨rfl, fun i x y hx hy => by rw [hx] at hy; cases hy; exact .refl _ _, fun l b hb => ⟨b, hb, .refl _ b⟩, Nat.le_refl _⟩
theorem GRes.Le.of_eq {r' r : GRes} (h : r' = r) : GRes.Le r' r := h ▸ .refl r'

def gFin (n0 : Nat) : Fin GRes := fun vs H =>
  bif nodupB (reachN H 200 0 (addsN (List.range n0) (namesL vs))) && startB n0 (reachN H 200 0 (addsN (List.range n0) (namesL vs))) then
    some (⟨renL (idxN (reachN H 200 0 (addsN (List.range n0) (namesL vs)))) vs, renH (idxN (reachN H 200 0 (addsN (List.range n0) (namesL vs)))) H (reachN H 200 0 (addsN (List.range n0) (namesL vs))) 0, (reachN H 200 0 (addsN (List.range n0) (namesL vs))).length⟩, True)
  else none

def GEnd (E : Entry) (r : GRes) (e : Ending) (w' : World) : Prop := ∃ v K' m', e = .returned v ∧ Rel w' K' m' r.H (tupA r.res) v ∧ Mem E w' K' m' r.H (fun l => r.n ≤ l)

theorem tup_rel {H : Heap} {as : List AV} {vs : List Value} (hl : vs.length = as.length) (h : ∀ (i : Nat) (y : AV) (v : Value), as[i]? = some y → vs[i]? = some v → Rel w K m H y v) :
    Rel w K m H (tupA as) (if h : vs.toArray.size = 1 then vs.toArray[0] else .tuple vs.toArray) := by
  match as, vs, hl, h with
  | [], [], _, _ => exact .tup [] _ rfl (fun i a v h => by simp at h)
  | [a], [v], _, h => exact h 0 a v rfl rfl
  | a :: a' :: as, v :: v' :: vs, hl, h =>
    have hn : ¬ (v :: v' :: vs).toArray.size = 1 := by simp
    rw [dif_neg hn]
    exact .tup _ _ (by simpa using hl) (fun i y u hy hu => h i y u hy (by simpa using hu))

theorem g_fin {fn : Func} (r : GRes) : FinOK P fn E (gFin E.n) (fun r' => GRes.Le r' r) (GEnd E r) := by
  intro s a w K m free avs r' p hst hres hfin hp hle
  obtain ⟨vs, hrun, hlen, hrel⟩ := results_run (P := P) hst hres
  refine ⟨_, hrun, ?_⟩
  unfold gFin at hfin
  cases hc : (nodupB (reachN s.H 200 0 (addsN (List.range E.n) (namesL avs))) && startB E.n (reachN s.H 200 0 (addsN (List.range E.n) (namesL avs))))
  · rw [hc] at hfin; cases hfin
  rw [hc] at hfin
  simp only [cond_true, Option.some.injEq, Prod.mk.injEq] at hfin
  obtain ⟨hr, _⟩ := hfin
  obtain ⟨h1, h2⟩ := Bool.and_eq_true_iff.1 hc
  generalize reachN s.H 200 0 (addsN (List.range E.n) (namesL avs)) = ns at h1 h2 hr
  subst hr
  have hM := hst.mem.ren (nodupB_spec h1) (fun i hi => startB_spec h2 i hi)
  have e : Ext w K (mOf m ns) (renH (idxN ns) s.H ns 0) w K (mOf m ns) r.H := ⟨fun _ h => h, fun _ _ => rfl, fun _ _ h => h, fun _ _ h => h, fun l T t xs _ hx => by
    obtain ⟨b, hb, hb2⟩ := hle.H l _ hx
    cases b with
    | box cs => cases hb2
    | row T' t' xs' => cases hb2; exact ⟨xs, hb, rfl⟩
    | mp => cases hb2⟩
  have hMle : Mem E w K (mOf m ns) r.H (fun l => r.n ≤ l) :=
    (St.le (s := ⟨[], renH (idxN ns) s.H ns 0, ns.length⟩) (s' := ⟨[], r.H, r.n⟩) (a := { tmps := #[], defers := [] }) ⟨rfl, fun i x v hx => by simp at hx, rfl, hM⟩
      ⟨rfl, fun i x y hx => by simp at hx, hle.H, hle.n⟩ (fun l hl => hl)).mem
  refine ⟨_, K, mOf m ns, rfl, tup_rel (hlen.trans ?_) (fun i y v hy hv => ?_), hMle⟩
  · have := hle.len; simp only [renL_length] at this; exact this
  · have hlt : i < avs.length := by
      have h3 := hle.len
      simp only [renL_length] at h3
      rw [h3]
      rcases Nat.lt_or_ge i r.res.length with h | h
      · exact h
      · rw [List.getElem?_eq_none h] at hy; cases hy
    have hx : avs[i]? = some avs[i] := List.getElem?_eq_getElem hlt
    have hx' : (renL (idxN ns) avs)[i]? = some (avs[i].ren (idxN ns)) := by rw [renL_get, hx]; rfl
    exact (hle.res i _ y hx' hy _ _ _ _ hM.heap (rel_ren (hrel i _ v hx hv))).ext e

def startG (fn : Func) (as : List AV) (H0 : Heap) (n0 : Nat) : AS := ⟨as ++ List.replicate (fn.ntmps - as.length) (.d (.v undef)), H0, n0⟩

theorem Gc.of_closed {fn : Func} (hmx : P.follows .mixedOrders = true) (hf : P.funcs[f]? = some fn) (hb : fn.body.isSome = true) {as : List AV} {H0 : Heap} {n0 : Nat} {r : GRes}
    (hrow : ∀ i T t xs, i < n0 → r.H.get i = some (.row T t xs) → ∃ ys, H0.get i = some (.row T t ys) ∧ ys.length = xs.length)
    (h : ∀ A, Closed P C S fn (gFin n0) (fun r' => GRes.Le r' r) n0 A → A (bodyOf fn) (startG fn as H0 n0)) : Gc P f as H0 n0 r := by
  refine ⟨hrow, fun w K m vs hM hvs hrel => ?_⟩
  obtain ⟨c, hc⟩ := Option.isSome_iff_exists.1 hb
  have hbody : bodyOf fn = [.code c] := by simp [bodyOf, hc]
  refine calls_of_runs hf hc ?_
  have h1 := h _ (asat_closed (E := ⟨w, K, m, n0⟩) hmx (finR_of hf (g_fin (E := ⟨w, K, m, n0⟩) r)) (Nat.le_refl n0))
  rw [hbody] at h1
  refine h1 (fun ops l hm => by simp at hm) _ w K m ⟨by simp [startG, hvs], fun i y v hy hv => ?_, rfl, hM⟩
  simp only [startG] at hy ⊢
  rw [List.getElem?_append] at hy
  rw [Array.getElem?_append, hvs] at hv
  split at hy
  · rename_i hi
    rw [if_pos hi] at hv
    exact hrel i y v hy hv
  · rename_i hi
    rw [if_neg hi] at hv
    rw [List.getElem?_replicate] at hy
    rw [Array.getElem?_replicate] at hv
    by_cases hc2 : i - as.length < fn.ntmps - as.length
    · rw [if_pos hc2] at hy hv
      simp only [Option.some.injEq] at hy hv; subst hy; subst hv; exact .d _ _ (.v _)
    · rw [if_neg hc2] at hy; cases hy

/-! ### the heads of the loops, by number -/
def headsC : Code → List Item → List (List Item)
  | .loop b, k => (.code b :: .inLoop b :: k) :: headsC b (.inLoop b :: k)
  | .seq a b, k => headsC a (.code b :: k) ++ headsC b k
  | .cond _ t e, k => headsC t k ++ headsC e k
  | .block id b, k => headsC b (.inBlock id :: k)
  | .scope b, k => headsC b (.inScope b :: k)
  | _, _ => []
def hd (fn : Func) (i : Nat) : List Item := match fn.body with
  | some c => (headsC c []).getD i []
  | none => []

/-- All points of a text: heads of loops, regions, returns. -/
def ptsC : Code → List Item → List (List Item)
  | .loop b, k => ptsC b (.inLoop b :: k)
  | .seq a b, k => ptsC a (.code b :: k) ++ ptsC b k
  | .cond _ t e, k => ptsC t k ++ ptsC e k
  | .block id b, k => ptsC b (.inBlock id :: k)
  | .scope b, k => ptsC b (.inScope b :: k)
  | .region id ops d, k => [.code (.region id ops d) :: k]
  | .ret, k => [.code .ret :: k]
  | _, _ => []
def isRg (id : Nat) : List Item → Bool
  | .code (.region j _ _) :: _ => j == id
  | _ => false
def isRet : List Item → Bool
  | .code .ret :: _ => true
  | _ => false
/-- The point ahead of a region; the point ahead of a return. -/
def rg (fn : Func) (id : Nat) : List Item := match fn.body with
  | some c => ((ptsC c []).filter (isRg id)).headD []
  | none => []
def rt (fn : Func) (i : Nat) : List Item := match fn.body with
  | some c => ((ptsC c []).filter isRet).getD i []
  | none => []

/-- The ranges over functions. -/
def rfsC : Code → List Item → List (List Item)
  | .loop b, k => rfsC b (.inLoop b :: k)
  | .seq a b, k => rfsC a (.code b :: k) ++ rfsC b k
  | .cond _ t e, k => rfsC t k ++ rfsC e k
  | .block id b, k => rfsC b (.inBlock id :: k)
  | .scope b, k => rfsC b (.inScope b :: k)
  | .rangeFunc g ps x b, k => [.code (.rangeFunc g ps x b) :: k]
  | _, _ => []
def rf (fn : Func) (i : Nat) : List Item := match fn.body with
  | some c => (rfsC c []).getD i []
  | none => []
def rfG : List Item → Operand | .code (.rangeFunc g _ _ _) :: _ => g | _ => .tmp 0
def rfP : List Item → Array Tmp | .code (.rangeFunc _ p _ _) :: _ => p | _ => #[]
def rfA : List Item → Code | .code (.rangeFunc _ _ x _) :: _ => x | _ => .skip
def rfB : List Item → Code | .code (.rangeFunc _ _ _ b) :: _ => b | _ => .skip
def rfK : List Item → List Item := List.tail
def isRf : List Item → Bool | .code (.rangeFunc _ _ _ _) :: _ => true | _ => false
/-- A round, ahead of its beginning; behind it. -/
def rd (fn : Func) (i : Nat) : List Item := [.code (rfA (rf fn i)), .beginRound, .code (rfB (rf fn i))]
def rb (fn : Func) (i : Nat) : List Item := [.beginRound, .code (rfB (rf fn i))]
/-- The point in a region ahead of its operation i. -/
def inR (fn : Func) (id i : Nat) : List Item := match rg fn id with
  | .code (.region _ ops _) :: k => .inRegion ops ((List.range ops.size).drop i) :: k
  | _ => []

def noCut : Cuts := ⟨[], false⟩

/-- A state, by its slots. -/
def mkS (n : Nat) (l : List (Nat × AV)) (H : Heap) (next : Nat) : AS := ⟨l.foldl (fun ts p => ts.set p.1 p.2) (List.replicate n .dead), H, next⟩

end Go.VL

/-
  The value layer, part 28: ranges over functions: memory and its small changes beside. (Own work.)
-/
namespace Go.VL

variable {P : Program} {C : Codes} {S : Sigs} {E : Entry} {w w' : World} {K K' : Nat → Prop} {m m' : Nat → Option (Option Nat)} {free free' : Nat → Prop} {H H' : Heap}
  {F : Fm} {f : FuncId} {R : Ending → World → Prop} {a : Act} {k : List Item} {s t s' : AS} {α : Type}

/-- One block that holds no cells becomes another one. -/
structure Soft (D : Nat) (w w' : World) : Prop where
  os : w'.os = w.os
  tape : w'.tape = w.tape
  output : w'.output = w.output
  size : w'.heap.size = w.heap.size
  other : ∀ b, b ≠ D → w'.heap[b]? = w.heap[b]?
  no : ∀ c T z, w.heap[D]? ≠ some (.cells c T z)
  no' : ∀ c T z, w'.heap[D]? ≠ some (.cells c T z)
  nomap : ∀ es c, w.heap[D]? ≠ some (.map es c)
  nomap' : ∀ es c, w'.heap[D]? ≠ some (.map es c)

theorem Soft.put {D : Nat} {o : Obj} (h : ∀ c T z, w.heap[D]? ≠ some (.cells c T z)) (h2 : ∀ es c, w.heap[D]? ≠ some (.map es c)) (ho : ∀ c T z, o ≠ .cells c T z) (ho2 : ∀ es c, o ≠ .map es c) (hD : D < w.heap.size) : Soft D w (w.putObj D o) :=
  ⟨rfl, rfl, rfl, World.putObj_size, fun b hb => World.putObj_heap_other hb, h, fun c T z e => by rw [World.putObj_heap_same hD] at e; exact ho c T z (Option.some.inj e), h2, fun es c e => by rw [World.putObj_heap_same hD] at e; exact ho2 es c (Option.some.inj e)⟩
theorem Soft.symm {D : Nat} (h : Soft D w w') : Soft D w' w := ⟨h.os.symm, h.tape.symm, h.output.symm, h.size.symm, fun b hb => (h.other b hb).symm, h.no', h.no, h.nomap', h.nomap⟩
theorem Soft.trans {D : Nat} {w2 : World} (h : Soft D w w') (g : Soft D w' w2) : Soft D w w2 :=
  ⟨g.os.trans h.os, g.tape.trans h.tape, g.output.trans h.output, g.size.trans h.size, fun b hb => (g.other b hb).trans (h.other b hb), h.no, g.no', h.nomap, g.nomap'⟩

theorem Soft.cell {D : Nat} (h : Soft D w w') (x : Addr) : w'.cell? x = w.cell? x := by
  by_cases hb : x.block = D
  · have h1 : w'.cell? x = none := by
      unfold World.cell?
      rw [hb]
      split
      · rename_i e; exact absurd e (h.no' _ _ _)
      · rfl
    have h2 : w.cell? x = none := by
      unfold World.cell?
      rw [hb]
      split
      · rename_i e; exact absurd e (h.no _ _ _)
      · rfl
    rw [h1, h2]
  · unfold World.cell?
    rw [h.other _ hb]
theorem Soft.shape {D : Nat} (h : Soft D w w') (b : Nat) : w'.shape? b = w.shape? b := by
  by_cases hb : b = D
  · subst hb
    have h1 : w'.shape? b = none := by
      unfold World.shape?
      split
      · rename_i e; exact absurd e (h.no' _ _ _)
      · rfl
    have h2 : w.shape? b = none := by
      unfold World.shape?
      split
      · rename_i e; exact absurd e (h.no _ _ _)
      · rfl
    rw [h1, h2]
  · unfold World.shape?
    rw [h.other _ hb]

theorem RelD.soft {B : Nat} (hs : Soft B w w') {d : D} {v : Value} (h : RelD w K d v) : RelD w' K d v := by
  induction h with
  | v x => exact .v x
  | f o b h => exact .f o b h
  | sl0 t a cap => exact .sl0 t a cap
  | sl t xs b off cap u hb hcap hc hr ih =>
    refine .sl t xs b off cap u hb hcap (fun i x j d hx hd => ?_) (fun i x j d hx hd => ih i x j d hx hd)
    rw [hs.cell]
    exact hc i x j d hx hd

theorem Rel.soft {D : Nat} (hs : Soft D w w') {x : AV} {v : Value} (h : Rel w K m H x v) : Rel w' K m H x v := by
  induction h with
  | dead v => exact .dead v
  | d x v h => exact .d x v (h.soft hs)
  | fl t xs a n h => exact .fl t xs a n (h.soft hs)
  | own0 l t a h => exact .own0 l t a h
  | own l t b n cap h hn hcap hsh =>
    obtain ⟨T, sz, hsh, hle⟩ := hsh
    exact .own l t b n cap h hn hcap ⟨T, sz, by rw [hs.shape]; exact hsh, hle⟩
  | view0 l t off a => exact .view0 l t off a
  | view l t b off len cap h hcap hsh =>
    obtain ⟨T, sz, hsh, hle⟩ := hsh
    exact .view l t b off len cap h hcap ⟨T, sz, by rw [hs.shape]; exact hsh, hle⟩
  | ptr l f b h => exact .ptr l f b h
  | eptr l t i f b h => exact .eptr l t i f b h
  | ip ds b off u hb hc hr =>
    refine .ip ds b off u hb (fun j d hd => ?_) (fun j d hd => (hr j d hd).soft hs)
    rw [hs.cell]
    exact hc j d hd
  | agg cs vs hl h ih => exact .agg cs vs hl ih
  | tup cs vs hl h ih => exact .tup cs vs hl ih
  | clo fn fs cs us vs hf hl h1 h2 ih1 ih2 => exact .clo fn fs cs us vs hf hl ih1 ih2
  | mp l b h => exact .mp l b h

theorem BlkRel.soft {D : Nat} (hs : Soft D w w') {l : Nat} {blk : ABlk} (h : BlkRel w K m H l blk) : BlkRel w' K m H l blk := by
  have nb : ∀ (b : Nat) cs T z, w.heap[b]? = some (Obj.cells cs T z) → w'.heap[b]? = some (Obj.cells cs T z) := fun b cs T z hb => by
    by_cases e : b = D
    · subst e; exact absurd hb (hs.no _ _ _)
    · rw [hs.other b e]; exact hb
  cases blk with
  | box cells =>
    obtain ⟨b, cs, T, h1, h2, h3, h4⟩ := h
    exact ⟨b, cs, T, h1, nb _ _ _ _ h2, h3, fun i x v hx hv => (h4 i x v hx hv).soft hs⟩
  | row T t xs =>
    rcases h with h | ⟨b, cs, h1, h2, h3, h4⟩
    · exact .inl h
    · exact .inr ⟨b, cs, h1, nb _ _ _ _ h2, h3, fun i x j d hx hd => by
        obtain ⟨v, hv, hr⟩ := h4 i x j d hx hd
        exact ⟨v, hv, hr.soft hs⟩⟩
  | mp tk tv kvs =>
    obtain ⟨b, es, c, h1, h2, h3, h4⟩ := h
    have nm : ∀ (b : Nat) es c, w.heap[b]? = some (Obj.map es c) → w'.heap[b]? = some (Obj.map es c) := fun b es c hb => by
      by_cases e : b = D
      · subst e; exact absurd hb (hs.nomap _ _)
      · rw [hs.other b e]; exact hb
    exact ⟨b, es, c, h1, nm _ _ _ h2, h3, fun i kv x hx hv => ⟨(h4 i kv x hx hv).1.soft hs, (h4 i kv x hx hv).2.soft hs⟩⟩

theorem GOk.soft {D : Nat} (hs : Soft D w w') (h : GOk w K) : GOk w' K := fun p hp => by
  obtain ⟨h1, T, h2⟩ := h p hp
  refine ⟨h1, T, ?_⟩
  by_cases e : p.1 = D
  · rw [e] at h2; exact absurd h2 (hs.no _ _ _)
  · rw [hs.other _ e]; exact h2

/-- A block that came later turns. -/
theorem Mem.soft {D : Nat} (hM : Mem E w K m H free) (hs : Soft D w w') (hD : E.w.heap.size ≤ D) (hK : ¬ E.K D) : Mem E w' K m H free where
  os := hs.os.trans hM.os
  tape := hs.tape.trans hM.tape
  output := hs.output.trans hM.output
  size := by rw [hs.size]; exact hM.size
  keep b h1 h2 := by rw [hs.other b (by omega)]; exact hM.keep b h1 h2
  Kmono := hM.Kmono
  Klt b hb := by rw [hs.size]; exact hM.Klt b hb
  Knew := hM.Knew
  mold := hM.mold
  mnew := hM.mnew
  mlt l b h := by rw [hs.size]; exact hM.mlt l b h
  mfree := hM.mfree
  fnew := hM.fnew
  heap l blk h := (hM.heap l blk h).soft hs
  own := hM.own
  inj := hM.inj
  shape b x h := by rw [hs.shape]; exact hM.shape b x h
  frozen b hb := by rw [hs.other b (fun e => hK (e ▸ hb))]; exact hM.frozen b hb
  gok := hM.gok.soft hs

/-- A block turns, here and where it is told how all began. -/
theorem Mem.soft2 {D : Nat} {we : World} (hM : Mem E w K m H free) (hs : Soft D w w') (he : Soft D E.w we) (hD : w'.heap[D]? = we.heap[D]?) : Mem { E with w := we } w' K m H free where
  os := hs.os.trans (hM.os.trans he.os.symm)
  tape := hs.tape.trans (hM.tape.trans he.tape.symm)
  output := hs.output.trans (hM.output.trans he.output.symm)
  size := by rw [hs.size, he.size]; exact hM.size
  keep b h1 h2 := by
    by_cases e : b = D
    · subst e; exact hD
    · rw [hs.other b e, he.other b e]; exact hM.keep b (by rw [← he.size]; exact h1) h2
  Kmono := hM.Kmono
  Klt b hb := by rw [hs.size]; exact hM.Klt b hb
  Knew b hb := by rw [he.size]; exact hM.Knew b hb
  mold := hM.mold
  mnew l b h1 h2 := by rw [he.size]; exact hM.mnew l b h1 h2
  mlt l b h := by rw [hs.size]; exact hM.mlt l b h
  mfree := hM.mfree
  fnew := hM.fnew
  heap l blk h := (hM.heap l blk h).soft hs
  own := hM.own
  inj := hM.inj
  shape b x h := by rw [hs.shape]; exact hM.shape b x (by rw [← he.shape]; exact h)
  frozen b hb := by
    by_cases e : b = D
    · subst e; exact hD
    · rw [hs.other b e, he.other b e]; exact hM.frozen b hb
  gok := hM.gok.soft hs

/-- From here on. -/
theorem Mem.start (hM : Mem E w K m H free) {n : Nat} (hn : ∀ l, n ≤ l → free l) : Mem ⟨w, K, m, n⟩ w K m H (fun l => n ≤ l) where
  os := rfl
  tape := rfl
  output := rfl
  size := Nat.le_refl _
  keep _ _ _ := rfl
  Kmono _ h := h
  Klt := hM.Klt
  Knew _ h := .inl h
  mold _ _ := rfl
  mnew l b h1 h2 := by rw [hM.mfree l (hn l h1)] at h2; cases h2
  mlt := hM.mlt
  mfree l h := hM.mfree l (hn l h)
  fnew _ h := h
  heap := hM.heap
  own := hM.own
  inj := hM.inj
  shape _ _ h := h
  frozen _ _ := rfl
  gok := hM.gok

/-- Two ways, one behind the other. -/
theorem Mem.trans {n : Nat} (hM : Mem E w K m H free) (h2 : Mem ⟨w, K, m, n⟩ w' K' m' H' free') (hn : E.n ≤ n) : Mem E w' K' m' H' free' where
  os := h2.os.trans hM.os
  tape := h2.tape.trans hM.tape
  output := h2.output.trans hM.output
  size := Nat.le_trans hM.size h2.size
  keep b g1 g2 := by
    refine (h2.keep b (Nat.lt_of_lt_of_le g1 hM.size) (fun l _ hm => ?_)).trans (hM.keep b g1 g2)
    rcases Nat.lt_or_ge l E.n with h | h
    · exact g2 l h (by rw [← hM.mold l h]; exact hm)
    · rcases hM.mnew l b h hm with h3 | ⟨j, hj, hjm⟩
      · omega
      · exact g2 j hj hjm
  Kmono b hb := h2.Kmono b (hM.Kmono b hb)
  Klt := h2.Klt
  Knew b hb := by
    rcases h2.Knew b hb with h | h | ⟨l, _, hm⟩
    · exact hM.Knew b h
    · exact .inr (.inl (Nat.le_trans hM.size h))
    · rcases Nat.lt_or_ge l E.n with h | h
      · exact .inr (.inr ⟨l, h, by rw [← hM.mold l h]; exact hm⟩)
      · rcases hM.mnew l b h hm with h3 | h3
        · exact .inr (.inl h3)
        · exact .inr (.inr h3)
  mold l hl := (h2.mold l (Nat.lt_of_lt_of_le hl hn)).trans (hM.mold l hl)
  mnew l b hl hm := by
    have back : ∀ l, E.n ≤ l → m l = some (some b) → E.w.heap.size ≤ b ∨ ∃ k, k < E.n ∧ E.m k = some (some b) := fun l hl hm => hM.mnew l b hl hm
    rcases Nat.lt_or_ge l n with h | h
    · exact back l hl (by have e : m' l = m l := h2.mold l h; rw [← e]; exact hm)
    · rcases h2.mnew l b h hm with h3 | ⟨j, _, hjm⟩
      · exact .inl (Nat.le_trans hM.size h3)
      · rcases Nat.lt_or_ge j E.n with h4 | h4
        · exact .inr ⟨j, h4, by rw [← hM.mold j h4]; exact hjm⟩
        · exact back j h4 hjm
  mlt := h2.mlt
  mfree := h2.mfree
  fnew l hl := Nat.le_trans hn (h2.fnew l hl)
  heap := h2.heap
  own := h2.own
  inj := h2.inj
  shape b x h := h2.shape b x (hM.shape b x h)
  frozen b hb := (h2.frozen b (hM.Kmono b hb)).trans (hM.frozen b hb)
  gok := h2.gok

/-- Rows keep their lengths. -/
def RowsLe (n : Nat) (H H' : Heap) : Prop := ∀ i T t xs, i < n → H'.get i = some (.row T t xs) → ∃ ys, H.get i = some (.row T t ys) ∧ ys.length = xs.length
theorem RowsLe.refl (n : Nat) (H : Heap) : RowsLe n H H := fun _ _ _ xs _ h => ⟨xs, h, rfl⟩
theorem RowsLe.trans {n : Nat} {H2 : Heap} (h : RowsLe n H H') (g : RowsLe n H' H2) : RowsLe n H H2 := fun i T t xs hi hx => by
  obtain ⟨ys, hy, hl⟩ := g i T t xs hi hx
  obtain ⟨zs, hz, hl'⟩ := h i T t ys hi hy
  exact ⟨zs, hz, hl'.trans hl⟩

theorem Ext.of_mem {n : Nat} (h0 : Mem ⟨w, K, m, n⟩ w K m H (fun l => n ≤ l)) (h : Mem ⟨w, K, m, n⟩ w' K' m' H' free') (hr : RowsLe n H H') : Ext w K m H w' K' m' H' where
  hK := h.Kmono
  keep := h.frozen
  hm l x hx := by
    rcases Nat.lt_or_ge l n with hl | hl
    · have e : m' l = m l := h.mold l hl
      rw [e]; exact hx
    · rw [h0.mfree l hl] at hx; cases hx
  shape := h.shape
  row l T t xs hm hx := by
    rcases Nat.lt_or_ge l n with hl | hl
    · exact hr l T t xs hl hx
    · exact absurd (h0.mfree l hl) hm

end Go.VL

/-
  The value layer, part 29: ranges over functions. (Own work.)
-/
namespace Go.VL

variable {P : Program} {C : Codes} {S : Sigs} {E : Entry} {w w' : World} {K K' : Nat → Prop} {m m' : Nat → Option (Option Nat)} {free free' : Nat → Prop} {H H' : Heap}
  {F : Fm} {f : FuncId} {R : Ending → World → Prop} {a : Act} {k : List Item} {s t s' : AS} {α : Type}

/-- What carries back over the steps of a text whose end is not looked at here. -/
abbrev Cl (P : Program) (C : Codes) (S : Sigs) (fn : Func) (n0 : Nat) (A : List Item → AS → Prop) : Prop := Closed (α := Unit) P C S fn (fun _ _ => none) (fun _ => False) n0 A
theorem cl_of {fn : Func} {n0 : Nat} (hmx : P.follows .mixedOrders = true) (hn : E.n ≤ n0) : Cl P C S fn n0 (ASat P F E) :=
  asat_closed hmx (fun s a w K m free vs x p todo _ _ h => by cases h) hn

def isEnd (todo : List Item) : Prop := todo = [] ∨ ∃ k, todo = .code .ret :: k

/-- A round, behind its beginning. -/
structure ClR (P : Program) (C : Codes) (S : Sigs) (fn : Func) (n0 : Nat) (fine : AS → Prop) (jump : Code → AS → Prop) (A : List Item → AS → Prop) : Prop where
  cl : Cl P C S fn n0 A
  fine : ∀ s, fine s → A [] s
  ret : ∀ k s, jump .ret s → A (.code .ret :: k) s
  exit : ∀ id k s, exitTo id k = none → jump (.exit id) s → A (.code (.exit id) :: k) s
/-- A round, ahead of its beginning. -/
structure ClB (P : Program) (C : Codes) (S : Sigs) (fn : Func) (n0 : Nat) (fine : AS → Prop) (jump : Code → AS → Prop) (A : List Item → AS → Prop) : Prop where
  cl : Cl P C S fn n0 A
  begin' : ∀ k s, (∀ A', ClR P C S fn n0 fine jump A' → A' k s) → A (.beginRound :: k) s
/-- The function that is ranged over, where a round has said: no more. -/
structure ClD (P : Program) (C : Codes) (S : Sigs) (gfn : Func) (n1 : Nat) (done : Heap → Nat → Prop) (A : List Item → AS → Prop) : Prop where
  cl : Cl P C S gfn n1 A
  ret : ∀ todo s, isEnd todo → done s.H s.next → A todo s

def putTs : List AV → List Tmp → List AV → List AV
  | ts, p :: ps, x :: xs => putTs (ts.set p x) ps xs
  | ts, _, _ => ts

/-- The function that is ranged over. H0: the memory as it was; l: the loop. -/
structure ClG (P : Program) (C : Codes) (S : Sigs) (gfn fn : Func) (n1 l : Nat) (H0 : Heap) (ps : Array Tmp) (x b : Code) (tmps : List AV) (done : Heap → Nat → Prop) (doneJ : Code → Heap → Nat → Prop) (A : List Item → AS → Prop) : Prop where
  cl : Cl P C S gfn n1 A
  ret : ∀ todo s, isEnd todo → done s.H s.next → A todo s
  yield : ∀ (ops : Array Oper) (i : Nat) (rest : List Nat) (kk : List Item) (s : AS) (o : Oper) (c : Call) (y : Operand), ops[i]? = some o → wantedB ops o s = true → o.op = .call c → c.callee = .value y →
    s.ev y = .clo (.yield l) [] [] → c.args.size = ps.size → RowsLe n1 H0 s.H → n1 ≤ s.next →
    (∀ Ar, ClB P C S fn (s.next + 8 * ops.size) (fun s2 => RowsLe (s.next + 8 * ops.size) s.H s2.H ∧ A (.inRegion ops rest :: kk) ⟨putT s.tmps o.dst (boolA true), s2.H, s2.next⟩)
      (fun j s2 => RowsLe (s.next + 8 * ops.size) s.H s2.H ∧ ∀ Ad, ClD P C S gfn n1 (doneJ j) Ad → Ad (.inRegion ops rest :: kk) ⟨putT s.tmps o.dst (boolA false), s2.H, s2.next⟩) Ar →
      Ar [.code x, .beginRound, .code b] ⟨putTs tmps ps.toList (c.args.toList.map s.ev), s.H, s.next + 8 * ops.size⟩) →
    A (.inRegion ops (i :: rest) :: kk) s

/-- A function with a range over a function in it. -/
structure ClosedR {α : Type} (P : Program) (C : Codes) (S : Sigs) (fn : Func) (fin : Fin α) (R0 : α → Prop) (n0 : Nat) (A : List Item → AS → Prop) : Prop where
  cl : Closed P C S fn fin R0 n0 A
  range : ∀ (g : Operand) (ps : Array Tmp) (x b : Code) (k : List Item) (s : AS) (gf : FuncId) (gfn : Func) (gc : Code) (fs cs : List AV), s.ev g = .clo (.func gf) fs cs → P.funcs[gf]? = some gfn → gfn.body = some gc → entersB P gf = true →
    gfn.results = #[] → n0 ≤ s.next →
    (∀ l A', ClG P C S gfn fn s.next l s.H ps x b s.tmps (fun H n => RowsLe s.next s.H H ∧ ∀ A2, Closed P C S fn fin R0 s.next A2 → A2 k ⟨s.tmps, H, n⟩)
      (fun j H n => RowsLe s.next s.H H ∧ ∀ A2, Closed P C S fn fin R0 s.next A2 → A2 (.code j :: k) ⟨s.tmps, H, n⟩) A' →
      A' [.code gc] ⟨fs ++ .clo (.yield l) [] [] :: cs ++ List.replicate (gfn.ntmps - (fs.length + 1 + cs.length)) (.d (.v undef)), s.H, s.next⟩) →
    A (.code (.rangeFunc g ps x b) :: k) s

/-! ### the end of a function with a mark among its deferred calls -/
abbrev mark (D : Nat) : Deferred := { target := .collected D, args := #[] }

theorem finR_mark {fn : Func} {fin : Fin α} {R0 : α → Prop} (hf : P.funcs[f]? = some fn) (hfin : FinOK P fn E fin R0 R) {E2 : Entry} {D : Nat}
    (hM2 : ∀ w K m H free, Mem E2 w K m H free → Mem E w K m H free) (hD : E.w.heap.size ≤ D) (hK : ¬ E.K D) (hD2 : D < E2.w.heap.size) (hob : E2.w.heap[D]? = some (.deferred (some []))) (hm : ∀ l, l < E2.n → E2.m l ≠ some (some D)) :
    FinR P fn E2 fin R0 ⟨f, none, [mark D], endG P f R⟩ := by
  intro s a w K m free vs x p todo hst hres hx hp h0 ht b cs hb hk hro
  have hob' : w.heap[D]? = some (.deferred (some [])) := by rw [hst.mem.keep D hD2 hm]; exact hob
  have hlt : D < w.heap.size := by
    rcases Nat.lt_or_ge D w.heap.size with h | h
    · exact h
    · rw [Array.getElem?_eq_none h] at hob'; cases hob'
  have hs : Soft D w (w.putObj D (.deferred none)) := Soft.put (fun c T z e => by rw [hob'] at e; cases e) (fun es c e => by rw [hob'] at e; cases e) (fun c T z e => by cases e) (fun es c e => by cases e) hlt
  have hst5 : St E s a (w.putObj D (.deferred none)) K m free := ⟨hst.len, fun i y v hy hv => (hst.tmps i y v hy hv).soft hs, hst.defers, (hM2 _ _ _ _ _ hst.mem).soft hs hD hK⟩
  obtain ⟨v, hr, hR⟩ := hfin s a _ K m free vs x p hst5 hres hx hp h0
  have h1 : step P (lone (b.atR { tmps := a.tmps, defers := [mark D] } todo) cs w) = .next (lone { b.atR { tmps := a.tmps, defers := [mark D] } todo with mode := .returning } cs w) := by
    rcases ht with rfl | ⟨k, rfl⟩
    · exact stepR_end hro
    · exact stepR_ret hro
  have h2 := step_collected (P := P) (fr := { b.atR { tmps := a.tmps, defers := [mark D] } todo with mode := .returning }) (cs := cs) (w := w) (d := mark D) (r := D) (ds := []) (by simp) rfl rfl (run_takeDeferred hob')
  have hb : b.fn = f := hb
  refine ⟨_, Steps.trans (.one h1) (.one h2), v, _, _, hR, rfl, hb, rfl, rfl, hk, fn, ?_, hr⟩
  show P.funcs[b.fn]? = some fn
  rw [hb]; exact hf

/-! ### values of closures -/
theorem clo_rel {x : AV} {fnv : Fn} {fs cs : List AV} {v : Value} (h : Rel w K m H x v) (hx : x = .clo fnv fs cs) : ∃ us vs : Array Value, v = .func fnv us vs ∧ us.size = fs.length ∧ vs.size = cs.length ∧
    (∀ (i : Nat) (a : AV) (v : Value), fs[i]? = some a → us[i]? = some v → Rel w K m H a v) ∧ ∀ (i : Nat) (a : AV) (v : Value), cs[i]? = some a → vs[i]? = some v → Rel w K m H a v := by
  subst hx
  cases h with
  | clo _ _ _ us vs hf hl h1 h2 => exact ⟨us, vs, rfl, hf, hl, h1, h2⟩

theorem yield_rel {l : Nat} {v : Value} (h : Rel w K m H (.clo (.yield l) [] []) v) : v = .func (.yield l) #[] #[] := by
  obtain ⟨us, vs, rfl, h1, h2, _⟩ := clo_rel h rfl
  have e1 : us = #[] := Array.eq_empty_of_size_eq_zero (by simpa using h1)
  have e2 : vs = #[] := Array.eq_empty_of_size_eq_zero (by simpa using h2)
  rw [e1, e2]

theorem call_enters {g : FuncId} (h : entersB P g = true) (q : Array Value) (w : World) : (callFunc g q).run P w = .ok (.enter g q) w := by
  unfold entersB at h
  split at h
  · rename_i fn' hfn'
    simp only [Bool.and_eq_true, bne_iff_ne, ne_eq] at h
    obtain ⟨hn, hb⟩ := h
    obtain ⟨c, hc⟩ := Option.isSome_iff_exists.1 hb
    simp [callFunc, hfn', hn, hc]
  · cases h

theorem putTs_get : ∀ (ps : List Tmp) (ts : List AV) (xs : List AV) (T : Array Value) (vs : List Value), T.size = ts.length → vs.length = xs.length →
    (∀ (i : Nat) (x : AV) (v : Value), ts[i]? = some x → T[i]? = some v → Rel w K m H x v) → (∀ (i : Nat) (x : AV) (v : Value), xs[i]? = some x → vs[i]? = some v → Rel w K m H x v) →
    ((ps.zip vs).foldl (fun t (p : Tmp × Value) => t.setIfInBounds p.1 p.2) T).size = (putTs ts ps xs).length ∧
      ∀ (i : Nat) (x : AV) (v : Value), (putTs ts ps xs)[i]? = some x → ((ps.zip vs).foldl (fun t (p : Tmp × Value) => t.setIfInBounds p.1 p.2) T)[i]? = some v → Rel w K m H x v
  | [], ts, xs, T, vs, hl, _, h, _ => by simpa [putTs] using ⟨hl, h⟩
  | p :: ps, ts, [], T, vs, hl, hv, h, _ => by
    have : vs = [] := List.eq_nil_of_length_eq_zero (by simpa using hv)
    subst this
    simpa [putTs] using ⟨hl, h⟩
  | p :: ps, ts, x :: xs, T, [], hl, hv, _, _ => by simp at hv
  | p :: ps, ts, x :: xs, T, v :: vs, hl, hv, h, h2 => by
    have ih := putTs_get ps (ts.set p x) xs (T.setIfInBounds p v) vs (by simpa using hl) (by simpa using hv) (fun i y u hy hu => ?_) (fun i y u hy hu => h2 (i + 1) y u (by simpa using hy) (by simpa using hu))
    · simpa [putTs] using ih
    · rw [List.getElem?_set] at hy
      rw [Array.getElem?_setIfInBounds] at hu
      by_cases hpi : p = i
      · subst hpi
        rw [if_pos rfl] at hy hu
        split at hy
        · rename_i hlt
          rw [if_pos (by omega)] at hu
          cases hy; cases hu
          exact h2 0 x v rfl rfl
        · cases hy
      · rw [if_neg hpi] at hy hu
        exact h i y u hy hu

end Go.VL

/-
  The value layer, part 30: ranges over functions: the law. (Own work.)
-/
namespace Go.VL

variable {P : Program} {C : Codes} {S : Sigs} {E : Entry} {w w' : World} {K K' : Nat → Prop} {m m' : Nat → Option (Option Nat)} {free free' : Nat → Prop} {H H' : Heap}
  {F : Fm} {f : FuncId} {R : Ending → World → Prop} {a : Act} {k : List Item} {s t s' : AS} {α : Type}

/-- The loop's record. -/
abbrev recOf (st : LoopState) (pd : Option Code) (f : FuncId) (tmps : Array Value) (ps : Array Tmp) (x b : Code) (D : Nat) : Loop := { state := st, pending := pd, fn := f, tmps := tmps, params := ps, assign := x, body := b, defers := D }

theorem okTodo_tail {ops : Array Oper} {i : Nat} {rest : List Nat} {kk : List Item} (h : okTodo (.inRegion ops (i :: rest) :: kk)) : okTodo (.inRegion ops rest :: kk) :=
  ⟨⟨(List.nodup_cons.1 h.1.1).2, fun j hj => h.1.2 j (by simp [hj])⟩, h.2⟩

/-- The loop has been left, or the function that it ranges over goes on to its end: all that the activation outside needs. -/
def Outer (P : Program) (f : FuncId) (R : Ending → World → Prop) (D : Nat) (l : Nat) (a : Act) (k : List Item) (w' : World) : Prop :=
  ∃ jump w4, (Instr.endLoop l).run P w' = .ok jump w4 ∧ Runs P ⟨f, none, [mark D], endG P f R⟩ a w4 ((jump.map Item.code).toList ++ k)

theorem rel_app {as bs : List AV} {us vs : Array Value} (h1 : us.size = as.length) (h2 : ∀ (i : Nat) (a : AV) (v : Value), as[i]? = some a → us[i]? = some v → Rel w K m H a v)
    (h4 : ∀ (i : Nat) (a : AV) (v : Value), bs[i]? = some a → vs[i]? = some v → Rel w K m H a v) : ∀ (i : Nat) (a : AV) (v : Value), (as ++ bs)[i]? = some a → (us ++ vs)[i]? = some v → Rel w K m H a v := by
  intro i a v ha hv
  rw [List.getElem?_append] at ha
  rw [Array.getElem?_append, h1] at hv
  split at ha
  · rename_i hi; rw [if_pos hi] at hv; exact h2 i a v ha hv
  · rename_i hi; rw [if_neg hi] at hv; exact h4 _ a v ha hv

theorem closedR {fn : Func} {fin : Fin α} {R0 : α → Prop} {n0 : Nat} (hmx : P.follows .mixedOrders = true) (hf : P.funcs[f]? = some fn) (hfin : FinOK P fn E fin R0 R) (hn : E.n ≤ n0) (hEK : ∀ b, E.K b → b < E.w.heap.size) :
    ClosedR P C S fn fin R0 n0 (ASat P (.fn P f R) E) := by
  refine ⟨asat_closed hmx (finR_of hf hfin) hn, ?_⟩
  intro g ps x b k s gf gfn gc fs cs hev hgf hgc hent hres hn0 h hok a w K m hst
  have hnk : noReg (.code (.rangeFunc g ps x b) :: k) := hok
  have hfree : ∀ l, s.next ≤ l → freeOf (.code (.rangeFunc g ps x b) :: k) s.next l := fun l hl => (freeOf_of hnk _ _).2 hl
  obtain ⟨us, vs, hgv, hus, hvs, hur, hvr⟩ := clo_rel (hst.ev g) hev
  -- the two new blocks
  let D := w.heap.size
  let l := w.heap.size + 1
  let rec_ := fun (st : LoopState) (pd : Option Code) => Obj.loop (recOf st pd f a.tmps ps x b D)
  let w1 := (w.alloc (.deferred (some []))).alloc (rec_ .ready none)
  have hb1 : RowKit.Below w.heap.size w w1 := ((RowKit.Below.refl _ w).alloc (Nat.le_refl _) _).alloc (by rw [World.size_alloc]; exact Nat.le_succ _) _
  obtain ⟨M1, e1⟩ := hst.mem.after hb1 (K2 := fun _ => False) (fun b hb => hb.elim) (fun b hb => hb.elim)
  generalize hK1 : (fun b => K b ∨ False) = K1 at M1 e1
  have hsz1 : w1.heap.size = l + 1 := by show ((w.alloc _).alloc _).heap.size = _; rw [World.size_alloc, World.size_alloc]
  have hl1 : w1.heap[l]? = some (rec_ .ready none) := by
    have := World.alloc_heap_new (w.alloc (.deferred (some []))) (rec_ .ready none)
    rw [World.size_alloc] at this; exact this
  have hD1 : w1.heap[D]? = some (.deferred (some [])) := by
    have h2 : w1.heap[D]? = (w.alloc (.deferred (some []))).heap[D]? := RowKit.Below.heap_alloc _ _ _ (by rw [World.size_alloc]; exact Nat.lt_succ_self _)
    rw [h2]; exact World.alloc_heap_new w _
  have hnl : ∀ j q, D ≤ q → m j ≠ some (some q) := fun j q hq hm => by have := hst.mem.mlt j q hm; have : D = w.heap.size := rfl; omega
  have hKD : ∀ q, D ≤ q → ¬ E.K q := fun q hq hk => by have := hEK q hk; have := hst.mem.size; have : D = w.heap.size := rfl; omega
  have hED : E.w.heap.size ≤ D := hst.mem.size
  have hEn : E.n ≤ s.next := Nat.le_trans hn hn0
  -- where the inner activations begin
  have M1s : Mem ⟨w1, K1, m, s.next⟩ w1 K1 m s.H (fun q => s.next ≤ q) := M1.start hfree
  -- soft changes of the record
  have putS : ∀ (w' : World) (st : LoopState) (pd : Option Code), (∃ r, w'.heap[l]? = some (.loop r)) → True → Soft l w' (w'.putObj l (rec_ st pd)) := fun w' st pd ⟨r, hr⟩ _ =>
    Soft.put (fun c T z e => by rw [hr] at e; cases e) (fun es c e => by rw [hr] at e; cases e) (fun c T z e => by cases e) (fun es c e => by cases e) (by
      rcases Nat.lt_or_ge l w'.heap.size with h | h
      · exact h
      · rw [Array.getElem?_eq_none h] at hr; cases hr)
  have recNo : ∀ st pd, ∀ c T z, rec_ st pd ≠ .cells c T z := fun st pd c T z e => by cases e
  have putG : ∀ (w' : World) (o : Obj), (∃ r, w'.heap[l]? = some (.loop r)) → (w'.putObj l o).heap[l]? = some o := fun w' o ⟨r, hr⟩ => World.putObj_heap_same (by
    rcases Nat.lt_or_ge l w'.heap.size with h | h
    · exact h
    · rw [Array.getElem?_eq_none h] at hr; cases hr)
  -- the machine's first step
  let afr : Act := { tmps := (us ++ #[Value.func (.yield l) #[] #[]] ++ vs) ++ Array.replicate (gfn.ntmps - (us ++ #[Value.func (.yield l) #[] #[]] ++ vs).size) undef, defers := [] }
  let Fg : Fm := .fn P gf (fun e w' => (∃ v, e = .returned v) ∧ Outer P f R D l a k w')
  have hinner : Runs P Fg afr w1 [.code gc] := by
    -- behind the loop
    have outer : ∀ (st : LoopState) (pd : Option Code) (we : World) (s3 : AS) (w3 : World) (K3 : Nat → Prop) (m3 : Nat → Option (Option Nat)), st ≠ .busy → Soft l w1 we → we.heap[l]? = some (rec_ st pd) →
        Mem ⟨we, K1, m, s.next⟩ w3 K3 m3 s3.H (fun q => s3.next ≤ q) → RowsLe s.next s.H s3.H → noReg ((pd.map Item.code).toList ++ k) →
        (∀ A2, Closed P C S fn fin R0 s.next A2 → A2 ((pd.map Item.code).toList ++ k) ⟨s.tmps, s3.H, s3.next⟩) → Outer P f R D l a k w3 := by
      intro st pd we s3 w3 K3 m3 hst0 hsoft hrec hM3 hrows hnr hA2
      have hszE : we.heap.size = l + 1 := by rw [hsoft.size]; exact hsz1
      have hrec3 : w3.heap[l]? = some (rec_ st pd) := by
        rw [hM3.keep l (by show l < we.heap.size; omega) (fun j _ => hnl j l (Nat.le_succ _))]; exact hrec
      refine ⟨pd, _, run_endLoop hrec3 hst0, ?_⟩
      have s3s := putS w3 .exhausted pd ⟨_, hrec3⟩ trivial
      have seS := putS we .exhausted pd ⟨_, hrec⟩ trivial
      have hM4 := hM3.soft2 s3s seS ((putG _ _ ⟨_, hrec3⟩).trans (putG _ _ ⟨_, hrec⟩).symm)
      have ME1 : Mem E (we.putObj l (rec_ .exhausted pd)) K1 m s.H (fun q => s.next ≤ q) := (M1.soft (hsoft.trans seS) (by have : D < l := Nat.lt_succ_self _; omega) (hKD l (Nat.le_succ _))).weaken hfree
      have Ms : Mem ⟨we.putObj l (rec_ .exhausted pd), K1, m, s.next⟩ (we.putObj l (rec_ .exhausted pd)) K1 m s.H (fun q => s.next ≤ q) := ME1.start (fun q hq => hq)
      have ex : Ext (we.putObj l (rec_ .exhausted pd)) K1 m s.H (w3.putObj l (rec_ .exhausted pd)) K3 m3 s3.H := Ext.of_mem Ms hM4 hrows
      have hfR : FinR P fn ⟨we.putObj l (rec_ .exhausted pd), K1, m, s.next⟩ fin R0 ⟨f, none, [mark D], endG P f R⟩ := by
        refine finR_mark hf hfin (D := D) (fun w K m' H free hM => ME1.trans hM hEn) hED (hKD D (Nat.le_refl _)) ?_ ?_ (fun j _ => hnl j D (Nat.le_refl _))
        · show D < (we.putObj l _).heap.size
          rw [World.putObj_size, hszE]; show w.heap.size < w.heap.size + 1 + 1; omega
        · show (we.putObj l _).heap[D]? = _
          have hne : D ≠ l := by show w.heap.size ≠ w.heap.size + 1; omega
          rw [World.putObj_heap_other hne, hsoft.other D hne]; exact hD1
      refine hA2 (ASat P ⟨f, none, [mark D], endG P f R⟩ ⟨we.putObj l (rec_ .exhausted pd), K1, m, s.next⟩) (asat_closed hmx hfR (Nat.le_refl _)) (okTodo_of hnr) a _ K3 m3 ?_
      refine ⟨hst.len, fun i y v hy hv => ?_, hst.defers, hM4.weaken (fun q hq => (freeOf_of hnr _ _).1 hq)⟩
      exact (((hst.tmps i y v hy hv).ext e1).soft (hsoft.trans seS)).ext ex
    have hnk' : ∀ pd : Option Code, noReg ((pd.map Item.code).toList ++ k) := fun pd => by
      have hk := noReg.tail hnk
      cases pd with
      | none => exact hk
      | some c => exact hk.cons (by simp)
    -- a return of the function that is ranged over
    have retG : ∀ (st : LoopState) (pd : Option Code) (we : World) (todo : List Item) (s3 : AS), st ≠ .busy → Soft l w1 we → we.heap[l]? = some (rec_ st pd) → isEnd todo → RowsLe s.next s.H s3.H →
        (∀ A2, Closed P C S fn fin R0 s.next A2 → A2 ((pd.map Item.code).toList ++ k) ⟨s.tmps, s3.H, s3.next⟩) →
        ASat P Fg ⟨we, K1, m, s.next⟩ todo s3 := by
      intro st pd we todo s3 hst0 hsoft hrec hend hrows hA2 hok3 a3 w3 K3 m3 hst3
      have hr : (results gfn a3.tmps).run P w3 = .ok (.tuple #[]) w3 := by
        unfold results
        rw [hres]
        simp
      have hnr3 : noReg todo := by
        rcases hend with rfl | ⟨kk, rfl⟩
        · exact fun ops l hm => by cases hm
        · exact hok3
      exact Runs.ret hgf hr ⟨⟨_, rfl⟩, outer st pd we s3 w3 K3 m3 hst0 hsoft hrec (hst3.mem.weaken (fun q hq => (freeOf_of hnr3 _ _).2 hq)) hrows (hnk' pd) hA2⟩ hend
    have softR : ∀ we : World, (∃ r, we.heap[l]? = some (.loop r)) → Soft l we we := fun we ⟨r, hr⟩ => ⟨rfl, rfl, rfl, rfl, fun _ _ => rfl, fun c T z e => (by rw [hr] at e; cases e), fun c T z e => (by rw [hr] at e; cases e), fun c T e => (by rw [hr] at e; cases e), fun c T e => (by rw [hr] at e; cases e)⟩
    refine h l _ (?_ : ClG P C S gfn fn s.next l s.H ps x b s.tmps _ _ (ASat P Fg ⟨w1, K1, m, s.next⟩)) (fun ops q hm => by simp at hm) afr w1 K1 m ?_
    · refine ⟨cl_of hmx (Nat.le_refl _), fun todo s3 hend hd => retG .ready none w1 todo s3 (by simp) (softR w1 ⟨_, hl1⟩) hl1 hend hd.1 hd.2, ?_⟩
      -- the loop's own body is called
      intro ops i rest kk s' o c y hops hg hop hcal hev' hsz hrows hn' hround hok' a' w' K' m' hst' bg csg hbg hbk hbro
      have hlE : w'.heap[l]? = some (rec_ .ready none) := by
        rw [hst'.mem.keep l (by show l < w1.heap.size; omega) (fun j _ => hnl j l (Nat.le_succ _))]; exact hl1
      have hyv : a'.eval y = .func (.yield l) #[] #[] := yield_rel (by have := hst'.ev y; rw [hev'] at this; exact this)
      let tm := ((ps.zip (c.args.map a'.eval)).foldl (fun tmps (t, a) => tmps.setIfInBounds t a) a.tmps)
      have hexec : (execOp a'.eval o).run P w' = .ok (.round l f tm x b) w' := by
        have hy := run_yield (P := P) (args := c.args.map a'.eval) hlE (by simpa using hsz)
        have : execOp a'.eval o = (do let d ← resolve a'.eval c o.type; invoke d.target d.args) := by simp only [execOp, hop]
        rw [this]
        simp only [resolve, hcal, Sem.run_bind, hyv, Deferred.ofValue, Sem.run_pure, Result.andThen_ok, invoke]
        have e : (#[] : Array Value) ++ c.args.map a'.eval = c.args.map a'.eval := by simp
        rw [e]; exact hy
      have hnd : ∀ c', o.op ≠ .defer c' := fun c' e => by rw [hop] at e; cases e
      have hwant : Region.wanted o (yielded ops a'.tmps) = true := wantedB_spec hst' hg
      let fr := bg.atR { tmps := a'.tmps, defers := [] } (.inRegion ops (i :: rest) :: kk)
      have hstep : step P (lone fr csg w') = .next (lone (Frame.round l f tm x b .normal) (fr :: csg) w') := by
        refine step_lone_go ?_
        have hg' := stepGR_op (P := P) (b := bg) (a := { tmps := a'.tmps, defers := [] }) (k := kk) (cs := csg) (w := w') (rest := rest) hops hwant
        rw [Oper.semAt_eq _ _ _ hnd] at hg'
        have hev2 : ({ tmps := a'.tmps, defers := [] } : Act).eval = a'.eval := by funext z; cases z <;> rfl
        rw [hev2] at hg'
        show (stepG P true { frame := bg.atR { tmps := a'.tmps, defers := [] } (.inRegion ops (i :: rest) :: kk), callers := csg, status := .running, dying := none } w').bare = _
        rw [hg']
        simp [stepG.apply, hexec, fr, Frame.atR]
      have hfin : ∀ v, fr.finish v = bg.atR { tmps := (a'.put o.dst v).tmps, defers := [] } (.inRegion ops rest :: kk) := by
        intro v
        show (bg.atR { tmps := a'.tmps, defers := [] } (.inRegion ops (i :: rest) :: kk)).finish v = _
        rw [Frame.finish_atR, hops]
        cases hd : o.dst <;> simp [Act.put, hd]
      -- the round
      let N2 := s'.next + 8 * ops.size
      have hstart : Mem ⟨w', K', m', N2⟩ w' K' m' s'.H (fun q => N2 ≤ q) := hst'.mem.start (fun q hq => .inl hq)
      let Fr : Fm := ⟨f, some l, [], fun cs M => ∀ csg', cs = fr :: csg' → Fg.G csg' M⟩
      have back : ∀ (b3 : Frame) (cs3 : List Frame) (a3 : Act) (w3 : World) (todo : List Item), (∀ csg', cs3 = fr :: csg' → ∃ M, Steps P (lone (b3.atR { tmps := a3.tmps, defers := [] } todo) cs3 w3) M ∧ Fg.G csg' M) →
          ∃ M, Steps P (lone (b3.atR { tmps := a3.tmps, defers := [] } todo) cs3 w3) M ∧ Fr.G cs3 M := by
        intro b3 cs3 a3 w3 todo hq
        by_cases hc : ∃ csg', cs3 = fr :: csg'
        · obtain ⟨csg', rfl⟩ := hc
          obtain ⟨M, h1, h2⟩ := hq csg' rfl
          exact ⟨M, h1, fun q e => by cases e; exact h2⟩
        · exact ⟨_, Steps.refl _ _, fun q e => absurd ⟨q, e⟩ hc⟩
      have hExt : Ext w1 K1 m s.H w' K' m' s'.H := Ext.of_mem M1s (hst'.mem.weaken (fun q hq => hq)) hrows
      have hm'l : ∀ j, m' j ≠ some (some l) := fun j hj => by
        rcases Nat.lt_or_ge j s.next with hjn | hjn
        · have e : m' j = m j := hst'.mem.mold j hjn
          rw [e] at hj
          exact hnl j l (Nat.le_succ _) hj
        · rcases hst'.mem.mnew j l hjn hj with h3 | ⟨q, _, hq⟩
          · have h3 : w1.heap.size ≤ l := h3
            omega
          · exact hnl q l (Nat.le_succ _) hq
      have hlw' : l < w'.heap.size := by
        rcases Nat.lt_or_ge l w'.heap.size with h | h
        · exact h
        · rw [Array.getElem?_eq_none h] at hlE; cases hlE
      have hround' := hround (ASat P Fr ⟨w', K', m', N2⟩) ⟨cl_of hmx (Nat.le_refl _), ?_⟩
      · obtain ⟨hT1, hT2⟩ := putTs_get (w := w') (K := K') (m := m') (H := s'.H) ps.toList s.tmps (c.args.toList.map s'.ev) a.tmps (c.args.toList.map a'.eval) hst.len (by simp)
          (fun i y v hy hv => ((hst.tmps i y v hy hv).ext e1).ext hExt) (fun i y v hy hv => by
            simp only [List.getElem?_map, Option.map_eq_some_iff] at hy hv
            obtain ⟨z, hz, rfl⟩ := hy
            obtain ⟨z', hz', rfl⟩ := hv
            rw [hz] at hz'; cases hz'
            exact hst'.ev z)
        have htm : (ps.toList.zip (c.args.toList.map a'.eval)).foldl (fun t (p : Tmp × Value) => t.setIfInBounds p.1 p.2) a.tmps = tm := by
          show _ = (ps.zip (c.args.map a'.eval)).foldl _ a.tmps
          rw [← Array.foldl_toList]
          simp
        rw [htm] at hT1 hT2
        obtain ⟨M, h1, h2⟩ := hround' (fun ops q hm => by simp at hm) { tmps := tm, defers := [] } w' K' m' ⟨hT1, hT2, rfl, hstart⟩ { (default : Frame) with fn := f, kind := .normal, roundOf := some l } (fr :: csg) rfl rfl rfl
        refine ⟨M, Steps.trans (.one hstep) ?_, h2 csg rfl⟩
        have hb0 : Frame.round l f tm x b .normal = ({ (default : Frame) with fn := f, kind := .normal, roundOf := some l } : Frame).atR { tmps := tm, defers := [] } [.code x, .beginRound, .code b] := by
          simp [Frame.round, Frame.atR]
        rw [hb0]; exact h1
      · -- the round begins
        intro k2 s2 h2 hok2 a2 w2 K2 m2 hst2 b2 cs2 hb2 hk2 hro2
        have hnr2 : noReg k2 := noReg.tail (show noReg (.beginRound :: k2) from hok2)
        have hl2 : w2.heap[l]? = some (rec_ .ready none) := by
          rw [hst2.mem.keep l hlw' (fun j _ => hm'l j)]; exact hlE
        have sW := putS w' .busy none ⟨_, hlE⟩ trivial
        have sW2 := putS w2 .busy none ⟨_, hl2⟩ trivial
        have hlB : (w'.putObj l (rec_ .busy none)).heap[l]? = some (rec_ .busy none) := putG _ _ ⟨_, hlE⟩
        have hM2 := hst2.mem.soft2 sW2 sW ((putG _ _ ⟨_, hl2⟩).trans hlB.symm)
        have hs1 := stepR_beginRound (a := { tmps := a2.tmps, defers := [] }) (k := k2) (cs := cs2) hro2 (run_beginRound (P := P) hl2 rfl)
        -- the record at the round's end
        have hl3 : ∀ (E3 : Entry) (w3 : World) (K3 : Nat → Prop) (m3 : Nat → Option (Option Nat)) (H3 : Heap) (fr3 : Nat → Prop), E3 = ⟨w'.putObj l (rec_ .busy none), K', m', N2⟩ → Mem E3 w3 K3 m3 H3 fr3 → w3.heap[l]? = some (rec_ .busy none) := by
          intro E3 w3 K3 m3 H3 fr3 hE3 hM3
          subst hE3
          rw [hM3.keep l (by show l < (w'.putObj l _).heap.size; rw [World.putObj_size]; exact hlw') (fun j _ => hm'l j)]; exact hlB
        -- a jump out of the loop
        have jumpL : ∀ (j : Code) (s3 : AS) (a3 : Act) (w3 : World) (K3 : Nat → Prop) (m3 : Nat → Option (Option Nat)) (csg' : List Frame), Mem ⟨w'.putObj l (rec_ .busy none), K', m', N2⟩ w3 K3 m3 s3.H (fun q => s3.next ≤ q) →
            (RowsLe N2 s'.H s3.H ∧ ∀ Ad, ClD P C S gfn s.next (fun H n => RowsLe s.next s.H H ∧ ∀ A2, Closed P C S fn fin R0 s.next A2 → A2 (.code j :: k) ⟨s.tmps, H, n⟩) Ad → Ad (.inRegion ops rest :: kk) ⟨putT s'.tmps o.dst (boolA false), s3.H, s3.next⟩) →
            ∃ M, Steps P (lone (fr.finish (.bool false)) csg' (w3.putObj l (rec_ .done (some j)))) M ∧ Fg.G csg' M := by
          rintro j s3 a3 w3 K3 m3 csg' hM3 ⟨hr3, hAd⟩
          have hlw3 := hl3 _ _ _ _ _ _ rfl hM3
          have sD1 := putS w1 .done (some j) ⟨_, hl1⟩ trivial
          have sD' := putS w' .done (some j) ⟨_, hlE⟩ trivial
          have sD3 := putS w3 .done (some j) ⟨_, hlw3⟩ trivial
          have hg1 := putG w1 (rec_ .done (some j)) ⟨_, hl1⟩
          have hg' := putG w' (rec_ .done (some j)) ⟨_, hlE⟩
          have hg3 := putG w3 (rec_ .done (some j)) ⟨_, hlw3⟩
          have Ma := hst'.mem.soft2 sD' sD1 (hg'.trans hg1.symm)
          have Mb := hM3.soft2 sD3 (sW.symm.trans sD') (hg3.trans hg'.symm)
          have Mb0 : Mem ⟨w'.putObj l (rec_ .done (some j)), K', m', N2⟩ (w'.putObj l (rec_ .done (some j))) K' m' s'.H (fun q => N2 ≤ q) := Ma.start (fun q hq => .inl hq)
          have ex : Ext (w'.putObj l (rec_ .done (some j))) K' m' s'.H (w3.putObj l (rec_ .done (some j))) K3 m3 s3.H := Ext.of_mem Mb0 Mb hr3
          have Mc := Ma.trans Mb (Nat.le_trans hn' (Nat.le_add_right _ _))
          have hst3 : St ⟨w', K', m', 0⟩ s' a' w' K' m' (fun _ => False) → True := fun _ => trivial
          have hS : St ⟨w1.putObj l (rec_ .done (some j)), K1, m, s.next⟩ ⟨putT s'.tmps o.dst (boolA false), s3.H, s3.next⟩ (a'.put o.dst (.bool false)) (w3.putObj l (rec_ .done (some j))) K3 m3 (freeOf (.inRegion ops rest :: kk) s3.next) := by
            have h0 : St ⟨w1.putObj l (rec_ .done (some j)), K1, m, s.next⟩ s' a' (w'.putObj l (rec_ .done (some j))) K' m' (freeOf (.inRegion ops (i :: rest) :: kk) s'.next) := ⟨hst'.len, fun i y v hy hv => (hst'.tmps i y v hy hv).soft sD', hst'.defers, Ma⟩
            refine ((h0.put o.dst (v := boolA false) (u := .bool false) (.d _ _ (.v _)) Mc ex).next_ s3.next).weaken (fun q hq => ?_)
            rcases hq with hq | ⟨_, _, _, hq, _⟩
            · show s3.next ≤ q; omega
            · show s3.next ≤ q; omega
          have hA := hAd (ASat P Fg ⟨w1.putObj l (rec_ .done (some j)), K1, m, s.next⟩) ⟨cl_of hmx (Nat.le_refl _), fun todo s5 hend hd => retG .done (some j) _ todo s5 (by simp) sD1 hg1 hend hd.1 hd.2⟩
          obtain ⟨M, g1, g2⟩ := hA (okTodo_tail hok') _ _ _ _ hS bg csg' hbg hbk hbro
          exact ⟨M, by rw [hfin]; exact g1, g2⟩
        have hfinal : ∀ _ : ClR P C S fn N2 (fun s2 => RowsLe N2 s'.H s2.H ∧ ASat P Fg ⟨w1, K1, m, s.next⟩ (.inRegion ops rest :: kk) ⟨putT s'.tmps o.dst (boolA true), s2.H, s2.next⟩)
            (fun j s2 => RowsLe N2 s'.H s2.H ∧ ∀ Ad, ClD P C S gfn s.next (fun H n => RowsLe s.next s.H H ∧ ∀ A2, Closed P C S fn fin R0 s.next A2 → A2 (.code j :: k) ⟨s.tmps, H, n⟩) Ad → Ad (.inRegion ops rest :: kk) ⟨putT s'.tmps o.dst (boolA false), s2.H, s2.next⟩)
            (ASat P Fr ⟨w'.putObj l (rec_ .busy none), K', m', N2⟩), ∃ M, Steps P (lone (b2.atR { tmps := a2.tmps, defers := [] } (.beginRound :: k2)) cs2 w2) M ∧ Fr.G cs2 M := fun hcl => by
          obtain ⟨M, g1, g2⟩ := h2 (ASat P Fr ⟨w'.putObj l (rec_ .busy none), K', m', N2⟩) hcl (okTodo_of hnr2) a2 (w2.putObj l (rec_ .busy none)) K2 m2
            ⟨hst2.len, fun i y v hy hv => (hst2.tmps i y v hy hv).soft sW2, hst2.defers, hM2.weaken (fun q hq => (freeOf_of (show noReg (.beginRound :: k2) from hok2) _ _).2 ((freeOf_of hnr2 _ _).1 hq))⟩ b2 cs2 hb2 hk2 hro2
          exact ⟨M, Steps.trans (.one hs1) g1, g2⟩
        refine hfinal ⟨cl_of hmx (Nat.le_refl _), ?_, ?_, ?_⟩
        · rintro s3 ⟨hr3, hA3⟩ _ a3 w3 K3 m3 hst3 b3 cs3 hb3 hk3 hro3
          refine back b3 cs3 a3 w3 [] (fun csg' e => ?_)
          subst e
          have hM3 : Mem ⟨w'.putObj l (rec_ .busy none), K', m', N2⟩ w3 K3 m3 s3.H (fun q => s3.next ≤ q) := hst3.mem.weaken (fun q hq => hq)
          have hlw3 := hl3 _ _ _ _ _ _ rfl hM3
          have hs3 := stepR_round_end (P := P) (a := { tmps := a3.tmps, defers := [] }) (c := fr) (cs := csg') hro3 hk3 (run_endRound none hlw3)
          have s3s := putS w3 .ready none ⟨_, hlw3⟩ trivial
          have hg3 := putG w3 (rec_ .ready none) ⟨_, hlw3⟩
          have Mb := hM3.soft2 s3s sW.symm (hg3.trans hlE.symm)
          have ex : Ext w' K' m' s'.H (w3.putObj l (rec_ .ready none)) K3 m3 s3.H := Ext.of_mem hstart Mb hr3
          have Mc := hst'.mem.trans Mb (Nat.le_trans hn' (Nat.le_add_right _ _))
          have hS : St ⟨w1, K1, m, s.next⟩ ⟨putT s'.tmps o.dst (boolA true), s3.H, s3.next⟩ (a'.put o.dst (.bool true)) (w3.putObj l (rec_ .ready none)) K3 m3 (freeOf (.inRegion ops rest :: kk) s3.next) := by
            refine ((hst'.put o.dst (v := boolA true) (u := .bool true) (.d _ _ (.v _)) Mc ex).next_ s3.next).weaken (fun q hq => ?_)
            rcases hq with hq | ⟨_, _, _, hq, _⟩
            · show s3.next ≤ q; omega
            · show s3.next ≤ q; omega
          obtain ⟨M, g1, g2⟩ := hA3 (okTodo_tail hok') _ _ _ _ hS bg csg' hbg hbk hbro
          exact ⟨M, Steps.trans (.one hs3) (by show Steps P (lone (fr.finish (.bool true)) csg' _) M; rw [hfin]; exact g1), g2⟩
        · rintro kr s3 hj hok3 a3 w3 K3 m3 hst3 b3 cs3 hb3 hk3 hro3
          refine back b3 cs3 a3 w3 _ (fun csg' e => ?_)
          subst e
          have hM3 : Mem ⟨w'.putObj l (rec_ .busy none), K', m', N2⟩ w3 K3 m3 s3.H (fun q => s3.next ≤ q) := hst3.mem.weaken (fun q hq => (freeOf_of (show noReg _ from hok3) _ _).2 hq)
          have hs3 := stepR_round_ret (P := P) (a := { tmps := a3.tmps, defers := [] }) (k := kr) (c := fr) (cs := csg') hro3 hk3 (run_endRound (some .ret) (hl3 _ _ _ _ _ _ rfl hM3))
          obtain ⟨M, g1, g2⟩ := jumpL .ret s3 a3 w3 K3 m3 csg' hM3 hj
          exact ⟨M, Steps.trans (.one hs3) g1, g2⟩
        · rintro id kr s3 hx hj hok3 a3 w3 K3 m3 hst3 b3 cs3 hb3 hk3 hro3
          refine back b3 cs3 a3 w3 _ (fun csg' e => ?_)
          subst e
          have hM3 : Mem ⟨w'.putObj l (rec_ .busy none), K', m', N2⟩ w3 K3 m3 s3.H (fun q => s3.next ≤ q) := hst3.mem.weaken (fun q hq => (freeOf_of (show noReg _ from hok3) _ _).2 hq)
          have hs3 := stepR_round_exit (P := P) (a := { tmps := a3.tmps, defers := [] }) (k := kr) (c := fr) (cs := csg') hro3 hk3 hx (run_endRound (some (.exit id)) (hl3 _ _ _ _ _ _ rfl hM3))
          obtain ⟨M, g1, g2⟩ := jumpL (.exit id) s3 a3 w3 K3 m3 csg' hM3 hj
          exact ⟨M, Steps.trans (.one hs3) g1, g2⟩
    · -- the first state of the function that is ranged over
      have r1 : ∀ (i : Nat) (z : AV) (v : Value), (fs ++ .clo (.yield l) [] [] :: cs)[i]? = some z → (us ++ #[Value.func (.yield l) #[] #[]] ++ vs)[i]? = some v → Rel w1 K1 m s.H z v := by
        have h2 : ∀ (i : Nat) (z : AV) (v : Value), ([AV.clo (.yield l) [] []] ++ cs)[i]? = some z → (#[Value.func (.yield l) #[] #[]] ++ vs)[i]? = some v → Rel w1 K1 m s.H z v :=
          rel_app rfl (fun i z v hz hv => by
            cases i with
            | zero =>
              have hz : AV.clo (.yield l) [] [] = z := Option.some.inj hz
              have hv : Value.func (.yield l) #[] #[] = v := by simpa using hv
              subst hz; subst hv
              exact .clo _ _ _ _ _ rfl rfl (fun i z v h => by cases h) (fun i z v h => by cases h)
            | succ i => cases hz) (fun i z v hz hv => (hvr i z v hz hv).ext e1)
        rw [Array.append_assoc]
        exact rel_app hus (fun i z v hz hv => (hur i z v hz hv).ext e1) h2
      have hlen : (us ++ #[Value.func (.yield l) #[] #[]] ++ vs).size = (fs ++ .clo (.yield l) [] [] :: cs).length := by
        simp [hus, hvs]; omega
      refine ⟨?_, rel_app hlen r1 (fun i z v hz hv => ?_), rfl, M1s.weaken (fun q hq => (freeOf_of (fun ops q hm => by simp at hm) _ _).1 hq)⟩
      · show ((us ++ #[Value.func (.yield l) #[] #[]] ++ vs) ++ Array.replicate (gfn.ntmps - (us ++ #[Value.func (.yield l) #[] #[]] ++ vs).size) undef).size = _
        simp [hus, hvs]; omega
      · rw [List.getElem?_replicate] at hz
        rw [Array.getElem?_replicate] at hv
        split at hz
        · split at hv
          · cases hz; cases hv; exact .d _ _ (.v _)
          · cases hv
        · cases hz
  -- the machine
  intro bfr csr hbf hbk hbro
  have hbf : bfr.fn = f := hbf
  have hro : bfr.roundOf = none := hbro
  have he := run_enterLoop_outer (P := P) (w := w) bfr.fn a.tmps ps x b
  rw [hbf] at he
  have he' : (Instr.enterLoop bfr.fn a.tmps ps x b bfr.roundOf).run P w = .ok (l, [mark D]) w1 := by rw [hbf, hro]; exact he
  have hev0 : ({ tmps := a.tmps, defers := [] } : Act).eval = a.eval := by funext z; cases z <;> rfl
  have hrs : (resolve ({ tmps := a.tmps, defers := [] } : Act).eval (rangeCall g l) 0).run P w1 = .ok { target := .fn (.func gf) vs, args := us ++ #[.func (.yield l) #[] #[]] } w1 := by
    rw [hev0]
    show (Deferred.ofValue (a.eval g) (#[Operand.const (.func (.yield l) #[] #[])].map a.eval)).run P w1 = _
    have e : (#[Operand.const (.func (.yield l) #[] #[])].map a.eval) = #[Value.func (.yield l) #[] #[]] := by simp [Act.eval]
    rw [hgv, e]
    rfl
  have hinv : (invoke (.fn (.func gf) vs) (us ++ #[.func (.yield l) #[] #[]])).run P w1 = .ok (.enter gf (us ++ #[Value.func (.yield l) #[] #[]] ++ vs)) w1 := by
    simp only [invoke]
    exact call_enters hent _ _
  have hs1 := stepR_rangeFunc (P := P) (b := bfr) (a := { tmps := a.tmps, defers := [] }) (k := k) (cs := csr) he' hrs hinv
  have henter : Frame.enter P gf (us ++ #[Value.func (.yield l) #[] #[]] ++ vs) .normal = ({ (default : Frame) with fn := gf, kind := .normal, roundOf := none } : Frame).atR afr [.code gc] := by
    simp [Frame.enter, Frame.atR, hgf, hgc, afr]
  obtain ⟨M, h1, v, w3, fr3, ⟨_, jump, w4, hend, hruns⟩, rfl, hfn3, hleave⟩ := hinner { (default : Frame) with fn := gf, kind := .normal, roundOf := none } (bfr.atR { tmps := a.tmps, defers := [mark D] ++ [] } (.inRangeFunc l :: k) :: csr) rfl rfl rfl
  obtain ⟨M2, h2, h3⟩ := hruns bfr csr hbf hbk hro
  refine ⟨M2, ?_, h3⟩
  have t1 := step_leave_returned (c := bfr.atR { tmps := a.tmps, defers := [mark D] ++ [] } (.inRangeFunc l :: k)) (cs := csr) hleave
  rw [finish_atR_inRangeFunc] at t1
  have t2 := stepR_endRangeFunc (P := P) (b := bfr) (a := { tmps := a.tmps, defers := [mark D] ++ [] }) (k := k) (cs := csr) hend
  rw [henter] at hs1
  exact Steps.trans (.one hs1) (Steps.trans h1 (Steps.trans (.one t1) (Steps.trans (.one t2) h2)))

theorem Pure.of_closedR {fn : Func} (hmx : P.follows .mixedOrders = true) (hf : P.funcs[f]? = some fn) (hb : fn.body.isSome = true) {args : List Arg} {ts : List Ty} {x : TyTup ts} (hnt : args.length ≤ fn.ntmps)
    (h : ∀ A, ClosedR P C S fn (pureFin ts) (· = x) 0 A → A (bodyOf fn) (startS fn args)) : Pure P f args ts x :=
  Pure.of_sat hf hb hnt fun E hE hEK hfin => h _ (closedR hmx hf hfin (by omega) hEK)

theorem Gc.of_closedR {fn : Func} (hmx : P.follows .mixedOrders = true) (hf : P.funcs[f]? = some fn) (hb : fn.body.isSome = true) {as : List AV} {H0 : Heap} {n0 : Nat} {r : GRes}
    (hrow : ∀ i T t xs, i < n0 → r.H.get i = some (.row T t xs) → ∃ ys, H0.get i = some (.row T t ys) ∧ ys.length = xs.length)
    (h : ∀ A, ClosedR P C S fn (gFin n0) (fun r' => GRes.Le r' r) n0 A → A (bodyOf fn) (startG fn as H0 n0)) : Gc P f as H0 n0 r := by
  refine ⟨hrow, fun w K m vs hM hvs hrel => ?_⟩
  obtain ⟨c, hc⟩ := Option.isSome_iff_exists.1 hb
  have hbody : bodyOf fn = [.code c] := by simp [bodyOf, hc]
  refine calls_of_runs hf hc ?_
  have h1 := h _ (closedR (E := ⟨w, K, m, n0⟩) hmx hf (g_fin (E := ⟨w, K, m, n0⟩) r) (Nat.le_refl n0) hM.Klt)
  rw [hbody] at h1
  refine h1 (fun ops l hm => by simp at hm) _ w K m ⟨by simp [startG, hvs], fun i y v hy hv => ?_, rfl, hM⟩
  simp only [startG] at hy ⊢
  rw [List.getElem?_append] at hy
  rw [Array.getElem?_append, hvs] at hv
  split at hy
  · rename_i hi
    rw [if_pos hi] at hv
    exact hrel i y v hy hv
  · rename_i hi
    rw [if_neg hi] at hv
    rw [List.getElem?_replicate] at hy
    rw [Array.getElem?_replicate] at hv
    by_cases hc2 : i - as.length < fn.ntmps - as.length
    · rw [if_pos hc2] at hy hv
      simp only [Option.some.injEq] at hy hv; subst hy; subst hv; exact .d _ _ (.v _)
    · rw [if_neg hc2] at hy; cases hy

end Go.VL

/-
  The value layer, part 27: arguments that come from outside, read as data. (Own work.)
-/
namespace Go.VL
open Go.ChangeShapes Go.WideShapes

/-- The kind of a cell. -/
inductive Kd where
  | i (k : IntKind)
  | b
  | s
  | f
  | sl (t : Ty)
  deriving DecidableEq

def D.kd : D → Option Kd
  | .v (.int k _) => some (.i k)
  | .v (.bool _) => some .b
  | .v (.string _) => some .s
  | .f _ => some .f
  | .sl t _ => some (.sl t)
  | _ => none
def Ty.kd (t : Ty) : List (Option Kd) := (enc t t.dflt).map D.kd

/-- What came from outside is within its bounds. -/
inductive D.Wf : D → Prop
  | int (k : IntKind) (n : Int) (h : (Lit.int k n).wf = true) : D.Wf (.v (.int k n))
  | bool (b : Bool) : D.Wf (.v (.bool b))
  | str (b : ByteArray) (h : b.size ≤ maxLen) : D.Wf (.v (.string b))
  | flt (b : Nat) (h : (Lit.float .f64 b).wf = true) : D.Wf (.f (some b))
  | sl (t : Ty) (xs : List t.ty) (hl : xs.length ≤ maxLen) (h : ∀ x ∈ xs, ∀ d ∈ enc t x, D.Wf d) : D.Wf (.sl t xs)
def wfT (t : Ty) (x : t.ty) : Prop := ∀ d ∈ enc t x, D.Wf d

theorem kd_int {d : D} {k : IntKind} (h : d.kd = some (.i k)) : ∃ n, d = .v (.int k n) := by
  unfold D.kd at h; split at h <;> simp at h; subst h; exact ⟨_, rfl⟩
theorem kd_bool {d : D} (h : d.kd = some .b) : ∃ n, d = .v (.bool n) := by
  unfold D.kd at h; split at h <;> simp at h; exact ⟨_, rfl⟩
theorem kd_str {d : D} (h : d.kd = some .s) : ∃ n, d = .v (.string n) := by
  unfold D.kd at h; split at h <;> simp at h; exact ⟨_, rfl⟩
theorem kd_flt {d : D} (h : d.kd = some .f) : ∃ n, d = .f n := by
  unfold D.kd at h; split at h <;> simp at h; exact ⟨_, rfl⟩
theorem kd_sl {d : D} {t : Ty} (h : d.kd = some (.sl t)) : ∃ xs, d = .sl t xs := by
  unfold D.kd at h; split at h <;> simp at h; subst h; exact ⟨_, rfl⟩

theorem enc_of_kd {t : Ty} {ds : List D} (h : ds.map D.kd = t.kd) : ∃ x : t.ty, enc t x = ds := by
  cases t <;> simp only [Ty.kd, enc, Ty.dflt, List.map_cons, List.map_nil, List.map_eq_cons_iff, List.map_eq_nil_iff, D.kd] at h <;>
    repeat' (first
      | (obtain ⟨_, _, rfl, hk, h⟩ := h; obtain ⟨_, rfl⟩ := kd_int hk; clear hk)
      | (obtain ⟨_, _, rfl, hk, h⟩ := h; obtain ⟨_, rfl⟩ := kd_flt hk; clear hk)
      | (obtain ⟨_, _, rfl, hk, h⟩ := h; obtain ⟨_, rfl⟩ := kd_sl hk; clear hk)
      | (obtain ⟨_, _, rfl, hk, h⟩ := h; obtain ⟨_, rfl⟩ := kd_bool hk; clear hk)
      | (obtain ⟨_, _, rfl, hk, h⟩ := h; obtain ⟨_, rfl⟩ := kd_str hk; clear hk)
      | (subst h))
  all_goals first
    | exact ⟨_, rfl⟩
    | exact ⟨⟨_, _⟩, rfl⟩
    | exact ⟨⟨_, _, _⟩, rfl⟩
    | exact ⟨⟨_, _, _, _⟩, rfl⟩
    | exact ⟨⟨_, _, _, _, _⟩, rfl⟩
    | exact ⟨⟨_, _, _, _, _, _⟩, rfl⟩
    | exact ⟨⟨_, _, _, _, _, _, _⟩, rfl⟩
    | exact ⟨⟨⟨_, _, _, _⟩, ⟨_, _, _, _, _, _⟩, _⟩, rfl⟩
    | exact ⟨⟨_, ⟨_, _, _, _, _, _⟩⟩, rfl⟩
    | exact ⟨⟨_, ⟨_, _, _, _, _, _⟩, ⟨_, _, _, _, _⟩, _, _⟩, rfl⟩
    | exact ⟨⟨_, _, _, ⟨_, _, _, _, _, _⟩, _, _, ⟨_, _, _, _, _⟩, _, _⟩, rfl⟩
    | exact ⟨⟨⟨⟨_, _, _, _⟩, ⟨_, _, _, _, _, _⟩, _⟩, _, _, _, _⟩, rfl⟩

def goK (P : Program) (k : TypeId → Option (List (Option Kd))) : List Field → Nat → Option (List (Option Kd))
  | [], _ => some []
  | f :: fs, off => (k f.type).bind fun ks => bif f.offset == off && ks.length == P.cellsOf f.type then (goK P k fs (off + ks.length)).map fun r => ks ++ r else none
/-- The kinds of the cells of a type. -/
def kindsOf (P : Program) (C : Codes) : Nat → TypeId → Option (List (Option Kd))
  | 0, _ => none
  | n + 1, t => match P.underlying t with
    | some .bool => some [some .b]
    | some (.int k) => some [some (.i k)]
    | some (.float .f64) => some [some .f]
    | some .string => some [some .s]
    | some (.slice e) => (C e).bind fun te => bif P.cellsOf e == te.size && (kindsOf P C n e == some te.kd) then some [some (.sl te)] else none
    | some (.struct fs) => (goK P (kindsOf P C n) fs.toList 0).bind fun ks => bif ks.length == P.cellsOf t then some ks else none
    | _ => none

section
variable {H : Type} {en : TypeId × Value → H} {P : Program} {C : Codes} {w : World} {base : Nat} {spare : Nat → Bool} {held : Bool}

/-- Cells read as data. -/
structure RdC (w : World) (cs : List Value) (ks : List (Option Kd)) (ds : List D) : Prop where
  kd : ds.map D.kd = ks
  len : cs.length = ds.length
  rel : ∀ (j : Nat) (d : D) (v : Value), ds[j]? = some d → cs[j]? = some v → RelD w (fun b => b < w.heap.size) d v
  wf : ∀ d ∈ ds, D.Wf d

theorem RdC.app {cs cs' : List Value} {ks ks' : List (Option Kd)} {ds ds' : List D} (h : RdC w cs ks ds) (h' : RdC w cs' ks' ds') : RdC w (cs ++ cs') (ks ++ ks') (ds ++ ds') where
  kd := by rw [List.map_append, h.kd, h'.kd]
  len := by simp [h.len, h'.len]
  rel j d v hd hv := by
    rw [List.getElem?_append] at hd hv
    rw [h.len] at hv
    split at hd
    · rename_i hj; rw [if_pos hj] at hv; exact h.rel j d v hd hv
    · rename_i hj; rw [if_neg hj] at hv; exact h'.rel _ d v hd hv
  wf d hd := by
    rcases List.mem_append.1 hd with hd | hd
    · exact h.wf d hd
    · exact h'.wf d hd

theorem RdC.one {v : Value} {d : D} {k : Option Kd} (hk : d.kd = k) (hr : RelD w (fun b => b < w.heap.size) d v) (hw : D.Wf d) : RdC w [v] [k] [d] where
  kd := by simp [hk]
  len := rfl
  rel j d' v' hd hv := by
    cases j with
    | zero => simp at hd hv; subst hd; subst hv; exact hr
    | succ j => simp at hd
  wf d' hd := by simp at hd; subst hd; exact hw

theorem cellsOf_pos_cell {a : Addr} {n : Nat} {cs : List Value} (h : w.cells? base a n = some cs) (hn : 0 < n) : a.spot = none ∧ a.block < w.heap.size := by
  obtain ⟨_, hl, hc⟩ := World.cells?_some h
  have h0 := hc 0 hn
  have h1 : cs[0]? = some cs[0] := List.getElem?_eq_getElem (by omega)
  rw [h1] at h0
  have h0 : w.cell? a = some cs[0] := by simpa [Addr.add] using h0
  refine ⟨World.cell?_spot h0, ?_⟩
  unfold World.cell? at h0
  split at h0
  · rename_i hb
    rcases Nat.lt_or_ge a.block w.heap.size with h2 | h2
    · exact h2
    · rw [Array.getElem?_eq_none h2] at hb; cases hb
  · cases h0

theorem trod_f64 {fuel : Nat} {t : TypeId} {cs : List Value} {x : DataW H × List MemPlace} (ht : P.underlying t = some (.float .f64)) (h : DataW.trod en P w base spare held fuel t cs = some x) :
    ∃ b, cs = [.float .f64 b] ∧ x = (.lit (.float .f64 b), []) ∧ (Lit.float .f64 b).wf = true := by
  cases fuel with
  | zero => simp [DataW.trod] at h
  | succ n =>
    unfold DataW.trod at h
    rw [ht] at h
    split at h <;> simp_all

/-- Cells that came from outside, read. -/
theorem read : ∀ (fuel n : Nat) (t : TypeId) (cs : List Value) (x : DataW H × List MemPlace) (ks : List (Option Kd)),
    DataW.trod en P w base spare held fuel t cs = some x → kindsOf P C n t = some ks → ∃ ds, RdC w cs ks ds
  | fuel, 0, t, cs, x, ks, _, hk => by simp [kindsOf] at hk
  | fuel, n + 1, t, cs, x, ks, h, hk => by
    unfold kindsOf at hk
    split at hk
    · rename_i ht
      simp only [Option.some.injEq] at hk; subst hk
      obtain ⟨b, rfl, _⟩ := DataW.trod_bool ht h
      exact ⟨[.v (.bool b)], .one rfl (.v _) (.bool b)⟩
    · rename_i k ht
      simp only [Option.some.injEq] at hk; subst hk
      obtain ⟨b, rfl, _, hw⟩ := DataW.trod_int ht h
      exact ⟨[.v (.int k b)], .one rfl (.v _) (.int k b hw)⟩
    · rename_i ht
      simp only [Option.some.injEq] at hk; subst hk
      obtain ⟨b, rfl, _, hw⟩ := trod_f64 ht h
      exact ⟨[.f (some b)], .one rfl (.f _ _ rfl) (.flt b hw)⟩
    · rename_i ht
      simp only [Option.some.injEq] at hk; subst hk
      obtain ⟨b, rfl, _, hw⟩ := DataW.trod_string ht h
      exact ⟨[.v (.string b)], .one rfl (.v _) (.str b hw)⟩
    · rename_i e ht
      simp only [Option.bind_eq_some_iff] at hk
      obtain ⟨te, hC, hk⟩ := hk
      cases hc : (P.cellsOf e == te.size && (kindsOf P C n e == some te.kd)) with
      | false => rw [hc] at hk; cases hk
      | true =>
        rw [hc] at hk
        simp only [cond_true, Option.some.injEq] at hk; subst hk
        obtain ⟨hsz, hke⟩ := Bool.and_eq_true_iff.1 hc
        have hsz : P.cellsOf e = te.size := by simpa using hsz
        have hke : kindsOf P C n e = some te.kd := by simpa using hke
        rcases DataW.trod_slice ht h with ⟨rfl, _⟩ | ⟨a, len, cap, elems, rest, m, _, rfl, _, hb, hl, hm, hlen, hel, _, _⟩
        · exact ⟨[.sl te []], .one rfl (.sl0 te none 0) (.sl te [] (Nat.zero_le _) (fun x hx => by cases hx))⟩
        · have pos := size_pos te
          have each : ∀ i, i < len → ∃ (y : te.ty) (c : List Value), w.cells? base (a.add (i * te.size)) te.size = some c ∧ RdC w c te.kd (enc te y) := by
            intro i hi
            have h1 := hel i hi
            rw [List.getElem?_eq_getElem (by omega : i < elems.length)] at h1
            simp only [hsz, Option.bind_eq_some_iff] at h1
            obtain ⟨c, h1, h2⟩ := h1
            obtain ⟨ds, h3⟩ := read m n e c _ _ h2 hke
            obtain ⟨y, rfl⟩ := enc_of_kd h3.kd
            exact ⟨y, c, h1, h3⟩
          by_cases h0 : len = 0
          · subst h0
            exact ⟨[.sl te []], .one rfl (.sl0 te (some a) cap) (.sl te [] (Nat.zero_le _) (fun x hx => by cases hx))⟩
          · have hch : ∃ f : Nat → te.ty, ∀ i, i < len → ∃ c : List Value, w.cells? base (a.add (i * te.size)) te.size = some c ∧ RdC w c te.kd (enc te (f i)) := by
              refine ⟨fun i => if hi : i < len then (each i hi).choose else te.dflt, fun i hi => ?_⟩
              simp only [dif_pos hi]
              exact (each i hi).choose_spec
            obtain ⟨f, hf⟩ := hch
            obtain ⟨c0, hc0, _⟩ := hf 0 (by omega)
            obtain ⟨hs, hbl⟩ := cellsOf_pos_cell hc0 pos
            have e0 : a.add (0 * te.size) = a := by simp [Addr.add]
            rw [e0] at hs hbl
            obtain ⟨ab, ao, asp⟩ := a
            simp only at hs hbl; subst hs
            have add_pl : ∀ k : Nat, (⟨ab, ao, none⟩ : Addr).add k = ⟨ab, ao + k, none⟩ := fun k => by
              unfold Addr.add; split <;> simp_all
            have cell : ∀ i j, i < len → j < te.size → ∀ d, (enc te (f i))[j]? = some d → ∃ v, w.cell? ⟨ab, ao + (i * te.size + j), none⟩ = some v ∧ RelD w (fun b => b < w.heap.size) d v := by
              intro i j hi hj d hd
              obtain ⟨c, h1, h2⟩ := hf i hi
              obtain ⟨_, h3, h4⟩ := World.cells?_some h1
              have h5 := h4 j hj
              have hjc : c[j]? = some (c[j]'(by omega)) := List.getElem?_eq_getElem (by omega)
              rw [hjc, add_pl] at h5
              have : (⟨ab, ao + i * te.size, none⟩ : Addr).add j = ⟨ab, ao + (i * te.size + j), none⟩ := by
                unfold Addr.add; split <;> simp_all [Nat.add_assoc]
              rw [this] at h5
              exact ⟨_, h5, h2.rel j d _ hd hjc⟩
            have hget : ∀ i x, ((List.range len).map f)[i]? = some x → i < len ∧ x = f i := by
              intro i x hx
              simp only [List.getElem?_map, Option.map_eq_some_iff] at hx
              obtain ⟨k, hk, rfl⟩ := hx
              have : i < len := by
                rcases Nat.lt_or_ge i len with h | h
                · exact h
                · rw [List.getElem?_eq_none (by simpa using h)] at hk; cases hk
              rw [List.getElem?_range this] at hk
              cases hk
              exact ⟨this, rfl⟩
            have hxl : ((List.range len).map f).length = len := by simp
            have hjs : ∀ (y : te.ty) (j : Nat) (d : D), (enc te y)[j]? = some d → j < te.size := by
              intro y j d hd
              rcases Nat.lt_or_ge j (enc te y).length with h | h
              · rwa [enc_length] at h
              · rw [List.getElem?_eq_none h] at hd; cases hd
            refine ⟨[.sl te ((List.range len).map f)], .one rfl ?_ (.sl te _ (by rw [hxl]; omega) ?_)⟩
            · have hrel : RelD w (fun b => b < w.heap.size) (.sl te ((List.range len).map f)) (.slice (some ⟨ab, ao, none⟩) ((List.range len).map f).length cap) := by
                refine .sl te _ ab ao cap (fun i j => if h : i < len then ((enc te (f i))[j]?).elim (.bool true) (fun d => ((w.cell? ⟨ab, ao + (i * te.size + j), none⟩).getD (.bool true))) else .bool true) hbl (by rw [hxl]; exact hl) ?_ ?_
                · intro i x j d hx hd
                  obtain ⟨hi, rfl⟩ := hget i x hx
                  obtain ⟨v, h1, _⟩ := cell i j hi (hjs _ _ _ hd) d hd
                  rw [dif_pos hi, hd, h1]; rfl
                · intro i x j d hx hd
                  obtain ⟨hi, rfl⟩ := hget i x hx
                  obtain ⟨v, h1, h2⟩ := cell i j hi (hjs _ _ _ hd) d hd
                  rw [dif_pos hi, hd, h1]; exact h2
              rw [hxl] at hrel
              exact hrel
            · intro x hx d hd
              obtain ⟨i, hi0⟩ := List.getElem?_of_mem hx
              obtain ⟨hi, rfl⟩ := hget i x hi0
              obtain ⟨_, _, h2⟩ := hf i hi
              exact h2.wf d hd
    · rename_i fs ht
      simp only [Option.bind_eq_some_iff] at hk
      obtain ⟨kk, hgo, hk⟩ := hk
      cases hc : (kk.length == P.cellsOf t) with
      | false => rw [hc] at hk; cases hk
      | true =>
        rw [hc] at hk
        simp only [cond_true, Option.some.injEq] at hk; subst hk
        have hc : kk.length = P.cellsOf t := by simpa using hc
        obtain ⟨xs, m, _, _, hcl, _, hfs⟩ := DataW.trod_struct ht h
        have fields : ∀ (l : List Field) (off : Nat) (ks : List (Option Kd)), goK P (kindsOf P C n) l off = some ks → (∀ f ∈ l, ∃ y, DataW.trod en P w base spare held m f.type ((cs.drop f.offset).take (P.cellsOf f.type)) = some y) →
            off + ks.length ≤ cs.length → ∃ ds, RdC w ((cs.drop off).take ks.length) ks ds := by
          intro l
          induction l with
          | nil =>
            intro off ks hg _ _
            simp only [goK, Option.some.injEq] at hg; subst hg
            exact ⟨[], ⟨rfl, by simp, fun j d v hd => by simp at hd, fun d hd => by cases hd⟩⟩
          | cons f l ih =>
            intro off ks hg hall hle
            simp only [goK, Option.bind_eq_some_iff] at hg
            obtain ⟨k1, hk1, hg⟩ := hg
            cases hq : (f.offset == off && k1.length == P.cellsOf f.type) with
            | false => rw [hq] at hg; cases hg
            | true =>
              rw [hq] at hg
              simp only [cond_true, Option.map_eq_some_iff] at hg
              obtain ⟨r, hr, rfl⟩ := hg
              obtain ⟨q1, q2⟩ := Bool.and_eq_true_iff.1 hq
              have q1 : f.offset = off := by simpa using q1
              have q2 : k1.length = P.cellsOf f.type := by simpa using q2
              obtain ⟨y, hy⟩ := hall f (by simp)
              rw [q1, ← q2] at hy
              obtain ⟨d1, h1⟩ := read m n f.type _ _ _ hy hk1
              obtain ⟨d2, h2⟩ := ih (off + k1.length) r hr (fun f hf => hall f (by simp [hf])) (by simp only [List.length_append] at hle; omega)
              refine ⟨d1 ++ d2, ?_⟩
              have := h1.app h2
              have e : (cs.drop off).take (k1 ++ r).length = (cs.drop off).take k1.length ++ (cs.drop (off + k1.length)).take r.length := by
                rw [List.length_append, List.take_add, List.drop_drop]
              rw [e]; exact this
        obtain ⟨ds, hds⟩ := fields fs.toList 0 kk hgo (fun f hf => by
          obtain ⟨i, hi⟩ := List.getElem?_of_mem hf
          have h1 := hfs i f (by simpa using hi)
          rcases hx : xs[i]? with _ | y
          · have : i < fs.size := by
              rcases Nat.lt_or_ge i fs.toList.length with h | h
              · simpa using h
              · rw [List.getElem?_eq_none h] at hi; cases hi
            rw [List.getElem?_eq_none_iff] at hx; omega
          · exact ⟨y, by rw [h1, hx]⟩) (by omega)
        refine ⟨ds, ?_⟩
        rw [hc, ← hcl] at hds
        simpa using hds
    · cases hk

/-- An argument, read. -/
theorem readArg {n : Nat} {te : Ty} {t : TypeId} {v : Value} {d : DataW H} {ps : List MemPlace} {r : Reach} {b0 : Nat} (hk : kindsOf P C n t = some te.kd)
    (hs : te.flat = !(match P.underlying t with | some (.struct _) => true | _ => false)) (hv : Value.okWide P w r b0 t v) (h : DataW.Trod en P w base spare held t v d ps) :
    ∃ x : te.ty, RelT w (fun b => b < w.heap.size) (AV.ofTy te x) v ∧ wfT te x := by
  obtain ⟨fuel, h⟩ := h
  obtain ⟨ds, hr⟩ := read fuel n t _ _ _ h hk
  obtain ⟨x, rfl⟩ := enc_of_kd hr.kd
  refine ⟨x, ?_, hr.wf⟩
  unfold AV.ofTy
  cases hf : te.flat with
  | false =>
    rw [hf] at hs
    have : ∃ fs, P.underlying t = some (.struct fs) := by
      split at hs
      · rename_i fs h; exact ⟨fs, h⟩
      · cases hs
    obtain ⟨fs, hu⟩ := this
    obtain ⟨cs, rfl, hcs⟩ := okWide_struct hu hv
    have hlen := hr.len
    simp only [Value.cells, Array.length_toList] at hlen
    refine .agg _ _ (by simpa using hlen) (fun i a u ha hu' => ?_)
    simp only [List.getElem?_map, Option.map_eq_some_iff] at ha
    obtain ⟨d0, hd0, rfl⟩ := ha
    exact .d _ _ (hr.rel i d0 u hd0 (by simpa [Value.cells] using hu'))
  | true =>
    have hlen : (enc te x).length = 1 := by rw [enc_length]; cases te <;> first | rfl | cases hf
    obtain ⟨d0, hd0⟩ : ∃ d0, enc te x = [d0] := by
      match hq : enc te x, hlen with
      | [d0], _ => exact ⟨d0, rfl⟩
    rw [hd0]
    rw [hf] at hs
    have hcv : v.cells = #[v] := by
      have : ∀ cs, v ≠ .agg cs := by
        intro cs hcs
        subst hcs
        unfold kindsOf at hk
        cases n with
        | zero => simp at hk
        | succ n =>
          simp only at hk
          split at hk
          · rename_i hu; obtain ⟨b, hb⟩ := okWide_bool hu hv; cases hb
          · rename_i hu; obtain ⟨b, hb⟩ := okWide_int hu hv; cases hb
          · rename_i hu
            simp only [Value.okWide, hu, Cell.okWide] at hv
            simp_all [Cell.ok]
          · rename_i hu; obtain ⟨b, hb⟩ := okWide_string hu hv; cases hb
          · rename_i hu; obtain ⟨_, _, _, hb⟩ := okWide_slice hu hv; cases hb
          · rename_i hu; rw [hu] at hs; cases hs
          · cases hk
      unfold Value.cells
      split
      · rename_i cs; exact absurd rfl (this cs)
      · rfl
    refine .d _ _ (hr.rel 0 d0 v (by rw [hd0]; rfl) (by rw [hcv]; rfl))

/-- A law, called with arguments from outside. -/
theorem law_calls {f : FuncId} {args : List Arg} (h : Pure P f args [.bool] true) {W : World} {vs : Array Value} (hg : GOk W fun b => b < W.heap.size) (hn : vs.size = args.length)
    (hr : ∀ (i : Nat) (a : Arg) (v : Value), args[i]? = some a → vs[i]? = some v → RelT W (fun b => b < W.heap.size) (AV.ofTy a.1 a.2) v) :
    Calls P f vs W fun e w' => e = .returned (.bool true) ∧ Go.RowKit.Below W.heap.size W w' := by
  refine (h W (fun b => b < W.heap.size) vs (fun b hb => hb) hg hn hr).mono ?_
  rintro e w' ⟨v, K', rfl, hrel, _, _, _, hb⟩
  refine ⟨?_, hb⟩
  cases hrel with
  | d _ _ h => cases h; rfl
end
end Go.VL

/-
  The value layer, part 31: small things that all proofs use. (Own work.)
-/
namespace Go.VL

theorem sat_bif {α : Type} {P : Program} {A : List Item → AS → Prop} {R0 : α → Prop} {b : Bool} {S T : Out α} (h1 : b = true → Sat P A R0 S) (h0 : b = false → Sat P A R0 T) : Sat P A R0 (bif b then S else T) := by
  cases b
  · exact h0 rfl
  · exact h1 rfl
/-- .. where the result is told by the same question. -/
theorem sat_if {α : Type} {P : Program} {A : List Item → AS → Prop} {x y : α} {b : Bool} {S T : Out α} (h1 : b = true → Sat P A (fun z => z = x) S) (h0 : b = false → Sat P A (fun z => z = y) T) : Sat P A (fun z => z = bif b then x else y) (bif b then S else T) := by
  cases b
  · exact h0 rfl
  · exact h1 rfl

/-- A range over a function, named by its place. -/
theorem ClosedR.at {α : Type} {P : Program} {C : Codes} {S : Sigs} {fn : Func} {fin : Fin α} {R0 : α → Prop} {n0 : Nat} {A : List Item → AS → Prop} (hA : ClosedR P C S fn fin R0 n0 A) (todo : List Item) (s : AS) (gf : FuncId) (gfn : Func) (gc : Code) (fs cs : List AV)
    (hrf : isRf todo = true) (hev : s.ev (rfG todo) = .clo (.func gf) fs cs) (hgf : P.funcs[gf]? = some gfn) (hgc : gfn.body = some gc) (hent : entersB P gf = true) (hres : gfn.results = #[]) (hn : n0 ≤ s.next)
    (h : ∀ l A', ClG P C S gfn fn s.next l s.H (rfP todo) (rfA todo) (rfB todo) s.tmps (fun H n => RowsLe s.next s.H H ∧ ∀ A2, Closed P C S fn fin R0 s.next A2 → A2 (rfK todo) ⟨s.tmps, H, n⟩)
      (fun j H n => RowsLe s.next s.H H ∧ ∀ A2, Closed P C S fn fin R0 s.next A2 → A2 (.code j :: rfK todo) ⟨s.tmps, H, n⟩) A' →
      A' (bodyOf gfn) ⟨fs ++ .clo (.yield l) [] [] :: cs ++ List.replicate (gfn.ntmps - (fs.length + 1 + cs.length)) (.d (.v undef)), s.H, s.next⟩) : A todo s := by
  unfold isRf at hrf
  split at hrf
  · rename_i g ps x b k
    have hb : bodyOf gfn = [.code gc] := by simp [bodyOf, hgc]
    rw [hb] at h
    exact hA.range g ps x b k s gf gfn gc fs cs hev hgf hgc hent hres hn h
  · cases hrf

/-- The call of a loop's own body, named by its place. -/
def inOps : List Item → Array Oper | .inRegion ops _ :: _ => ops | _ => #[]
def inIx : List Item → Nat | .inRegion _ (i :: _) :: _ => i | _ => 0
def inNext : List Item → List Item | .inRegion ops (_ :: r) :: k => .inRegion ops r :: k | _ => []
def inOk : List Item → Bool | .inRegion _ (_ :: _) :: _ => true | _ => false
def opOf (t : List Item) : Option Oper := (inOps t)[inIx t]?
def callIn (o : Oper) : Option (Operand × Array Operand) := match o.op with
  | .call { callee := .value y, args, .. } => some (y, args)
  | _ => none
theorem ClG.at {P : Program} {C : Codes} {S : Sigs} {gfn fn : Func} {n1 l : Nat} {H0 : Heap} {ps : Array Tmp} {x b : Code} {tmps : List AV} {done : Heap → Nat → Prop} {doneJ : Code → Heap → Nat → Prop} {A : List Item → AS → Prop}
    (hA : ClG P C S gfn fn n1 l H0 ps x b tmps done doneJ A) (todo : List Item) (s : AS) (o : Oper) (y : Operand) (args : Array Operand) (hin : inOk todo = true) (ho : opOf todo = some o) (hg : wantedB (inOps todo) o s = true) (hc : callIn o = some (y, args))
    (hev : s.ev y = .clo (.yield l) [] []) (hsz : args.size = ps.size) (hr : RowsLe n1 H0 s.H) (hn : n1 ≤ s.next)
    (h : ∀ Ar, ClB P C S fn (s.next + 8 * (inOps todo).size) (fun s2 => RowsLe (s.next + 8 * (inOps todo).size) s.H s2.H ∧ A (inNext todo) ⟨putT s.tmps o.dst (boolA true), s2.H, s2.next⟩)
      (fun j s2 => RowsLe (s.next + 8 * (inOps todo).size) s.H s2.H ∧ ∀ Ad, ClD P C S gfn n1 (doneJ j) Ad → Ad (inNext todo) ⟨putT s.tmps o.dst (boolA false), s2.H, s2.next⟩) Ar →
      Ar [.code x, .beginRound, .code b] ⟨putTs tmps ps.toList (args.toList.map s.ev), s.H, s.next + 8 * (inOps todo).size⟩) : A todo s := by
  unfold inOk at hin
  split at hin
  · rename_i ops i rest kk
    unfold callIn at hc
    split at hc
    · rename_i y' args' ats hop
      cases hc
      exact hA.yield ops i rest kk s o _ y ho hg hop rfl hev hsz hr hn h
    · cases hc
  · cases hin

theorem nt {b : Bool} (h : (!b) = true) : b = false := by cases b <;> simp_all
theorem nf {b : Bool} (h : (!b) = false) : b = true := by cases b <;> simp_all
theorem Pure.eq {P : Program} {f : FuncId} {args : List Arg} {ts : List Ty} {x y : TyTup ts} (h : Pure P f args ts x) (e : x = y) : Pure P f args ts y := e ▸ h

theorem wrap_i64 {n : Int} (h1 : -9223372036854775808 ≤ n) (h2 : n < 9223372036854775808) : IntKind.i64.wrap n = n := by
  unfold IntKind.wrap
  have e : (2 ^ IntKind.i64.bits : Int) = 18446744073709551616 := rfl
  have e2 : (2 ^ (IntKind.i64.bits - 1) : Int) = 9223372036854775808 := rfl
  have e3 : IntKind.i64.signed = true := rfl
  simp only [e, e2, e3, Bool.true_and]
  rcases Int.lt_or_le n 0 with h | h
  · have : n % 18446744073709551616 = n + 18446744073709551616 := by omega
    rw [this, if_pos (by simpa using by omega)]; omega
  · have : n % 18446744073709551616 = n := Int.emod_eq_of_lt h (by omega)
    rw [this, if_neg (by simpa using by omega)]
theorem wrap_u64 (n : Int) : IntKind.u64.wrap n = n % 18446744073709551616 := by
  unfold IntKind.wrap
  have e : (2 ^ IntKind.u64.bits : Int) = 18446744073709551616 := rfl
  have e3 : IntKind.u64.signed = false := rfl
  simp only [e, e3, Bool.false_and]; rfl
theorem wrap_u8 (n : Int) : IntKind.u8.wrap n = n % 256 := by
  unfold IntKind.wrap
  have e : (2 ^ IntKind.u8.bits : Int) = 256 := rfl
  have e3 : IntKind.u8.signed = false := rfl
  simp only [e, e3, Bool.false_and]; rfl
/-- A number goes on by one. -/
theorem wrap_succ {n : Nat} (h : n < 9223372036854775807) : IntKind.i64.wrap ((n : Int) + 1) = ((n + 1 : Nat) : Int) := by
  rw [wrap_i64 (by omega) (by omega)]; rfl

abbrev T3' : True ∧ True ∧ True := ⟨trivial, trivial, trivial⟩
theorem getD_at' {α : Type} {l : List α} {k : Nat} {d : α} (h : k < l.length) : l.getD k d = l[k] := by simp [List.getD, h]
theorem getD_int {α : Type} {l : List α} {k : Nat} {d : α} (h : k < l.length) : l.getD ((k : Int).toNat) d = l[k] := by rw [Int.toNat_natCast]; exact getD_at' h

abbrev i64 (n : Int) : AV := .d (.v (.int .i64 n))
abbrev u64 (n : Int) : AV := .d (.v (.int .u64 n))

abbrev FitI (n : Int) : Prop := -9223372036854775808 ≤ n ∧ n < 9223372036854775808
theorem wfI {d : D} {n : Int} (h : D.Wf d) (e : d = .i n) : FitI n := by
  subst e
  cases h with
  | int _ _ h =>
    have e1 : IntKind.min .i64 = -9223372036854775808 := by rfl
    have e2 : IntKind.max .i64 = 9223372036854775807 := by rfl
    simp only [Lit.wf, Bool.and_eq_true, decide_eq_true_eq, e1, e2] at h
    unfold FitI; omega
theorem wfU {d : D} {n : Int} (h : D.Wf d) (e : d = .u n) : 0 ≤ n ∧ n < 18446744073709551616 := by
  subst e
  cases h with
  | int _ _ h =>
    have e1 : IntKind.min .u64 = 0 := by rfl
    have e2 : IntKind.max .u64 = 18446744073709551615 := by rfl
    simp only [Lit.wf, Bool.and_eq_true, decide_eq_true_eq, e1, e2] at h
    omega
theorem wfB {d : D} {n : Int} (h : D.Wf d) (e : d = .v (.int .u8 n)) : 0 ≤ n ∧ n < 256 := by
  subst e
  cases h with
  | int _ _ h =>
    have e1 : IntKind.min .u8 = 0 := by rfl
    have e2 : IntKind.max .u8 = 255 := by rfl
    simp only [Lit.wf, Bool.and_eq_true, decide_eq_true_eq, e1, e2] at h
    omega
theorem wfL {d : D} {t : Ty} {xs : List t.ty} (h : D.Wf d) (e : d = .sl t xs) : ∀ x ∈ xs, wfT t x := by
  subst e
  cases h with
  | sl _ _ _ h => exact fun x hx d hd => h x hx d hd

theorem AVle.nilview (H : Heap) (l : Nat) (t : Ty) (off : Nat) : AVle H (.d (.v (.slice none 0 0))) (.view l t off 0) := fun _ _ _ _ _ h => by
  cases h with
  | d _ _ h =>
    cases h
    exact .view0 l t off none

end Go.VL

/- One slot that says less. (Own work.) -/
namespace Go.VL
theorem AS.Le.slot {s : AS} {i : Nat} {x y : AV} (hx : s.tmps[i]? = some x) (h : AVle s.H x y) : AS.Le s ⟨s.tmps.set i y, s.H, s.next⟩ :=
  ⟨by simp, fun j a b ha hb => by
    have hb : (s.tmps.set i y)[j]? = some b := hb
    rw [List.getElem?_set] at hb
    by_cases hij : i = j
    · subst hij
      rw [if_pos rfl] at hb
      split at hb
      · cases hb; rw [hx] at ha; cases ha; exact h
      · cases hb
    · rw [if_neg hij] at hb
      rw [ha] at hb; cases hb; exact .refl _ _, fun l b hb => ⟨b, hb, .refl _ b⟩, Nat.le_refl _⟩
theorem Closed.slot {α : Type} {P : Program} {C : Codes} {S : Sigs} {fn : Func} {fin : Fin α} {R0 : α → Prop} {n0 : Nat} {A : List Item → AS → Prop} (hA : Closed P C S fn fin R0 n0 A) (i : Nat) (x y : AV) {todo : List Item} {s s' : AS}
    (hh : isHead todo = true) (hx : s.tmps[i]? = some x) (hle : AVle s.H x y) (he : (⟨s.tmps.set i y, s.H, s.next⟩ : AS) = s') (h : A todo s') : A todo s :=
  hA.le todo s _ hh (AS.Le.slot hx hle) (by rw [he]; exact h)
end Go.VL
