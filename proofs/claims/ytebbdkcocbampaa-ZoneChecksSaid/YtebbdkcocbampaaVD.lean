/-
  The value layer, part 22: a region whose order is drawn, in any order. (Own work.)
-/
import Derived.Test.YtebbdkcocbampaaVC
import Derived.ChangeArms
import Derived.ChangeOld
import Derived.WideShapes
import Derived.OpenShut
set_option linter.unusedVariables false
set_option linter.unusedSimpArgs false
namespace Go.VL

variable {P : Program} {C : Codes} {S : Sigs} {E : Entry} {w : World} {K : Nat → Prop} {m : Nat → Option (Option Nat)} {free : Nat → Prop}
  {f : FuncId} {R : Ending → World → Prop} {a : Act} {k : List Item} {s t s' : AS} {α : Type} {ops : Array Oper} {o o1 o2 : Oper} {i j : Nat}

/-- The same state, but for how the memory is written down. -/
structure Same (s t : AS) : Prop where
  tmps : s.tmps = t.tmps
  next : s.next = t.next
  H : ∀ l, s.H.get l = t.H.get l
theorem Same.refl (s : AS) : Same s s := ⟨rfl, rfl, fun _ => rfl⟩
theorem Same.symm (h : Same s t) : Same t s := ⟨h.tmps.symm, h.next.symm, fun l => (h.H l).symm⟩
theorem Same.trans {u : AS} (h : Same s t) (g : Same t u) : Same s u := ⟨h.tmps.trans g.tmps, h.next.trans g.next, fun l => (h.H l).trans (g.H l)⟩

theorem rel_heap {H H' : Heap} (hH : ∀ l, H.get l = H'.get l) {x : AV} {v : Value} (h : Rel w K m H x v) : Rel w K m H' x v :=
  h.ext ⟨fun _ h => h, fun _ _ => rfl, fun _ _ h => h, fun _ _ h => h, fun l T t xs _ h => ⟨xs, by rw [hH]; exact h, rfl⟩⟩
theorem blk_heap {H H' : Heap} (hH : ∀ l, H.get l = H'.get l) {l : Nat} {b : ABlk} (h : BlkRel w K m H l b) : BlkRel w K m H' l b :=
  h.ext ⟨fun _ h => h, fun _ _ => rfl, fun _ _ h => h, fun _ _ h => h, fun l T t xs _ h => ⟨xs, by rw [hH]; exact h, rfl⟩⟩ (fun _ _ => rfl)

theorem Same.st (h : Same s t) (hs : St E s a w K m free) : St E t a w K m free :=
  ⟨by rw [← h.tmps]; exact hs.len, fun i x v hx hv => rel_heap h.H (hs.tmps i x v (by rw [h.tmps]; exact hx) hv), hs.defers,
   { hs.mem with
      heap := fun l b hb => blk_heap h.H (hs.mem.heap l b (by rw [h.H]; exact hb))
      own := fun l b c hb => hs.mem.own l b c (by rw [h.H]; exact hb)
      inj := fun l l' b b' c hb hb' => hs.mem.inj l l' b b' c (by rw [h.H]; exact hb) (by rw [h.H]; exact hb') }⟩

/-- What a list of writes leaves at a name does not hang on what was there. -/
theorem get_app_in {wr : List (Nat × Option ABlk)} {l : Nat} : ∀ {H H' : Heap}, (∃ p ∈ wr, p.1 = l) → (H.app wr).get l = (H'.app wr).get l := by
  induction wr with
  | nil => rintro H H' ⟨p, hp, _⟩; simp at hp
  | cons p wr ih =>
    rintro H H' h
    show ((H.put p.1 p.2).app wr).get l = ((H'.put p.1 p.2).app wr).get l
    by_cases hw : ∃ q ∈ wr, q.1 = l
    · exact ih hw
    · have h1 : ∀ q ∈ wr, q.1 ≠ l := fun q hq e => hw ⟨q, hq, e⟩
      rw [get_app h1, get_app h1]
      obtain ⟨q, hq, hql⟩ := h
      rcases List.mem_cons.1 hq with rfl | hq
      · rw [← hql, Heap.get_put_self, Heap.get_put_self]
      · exact absurd hql (h1 q hq)
theorem app_same {H H' : Heap} (hH : ∀ l, H.get l = H'.get l) (wr : List (Nat × Option ABlk)) (l : Nat) : (H.app wr).get l = (H'.app wr).get l := by
  by_cases hw : ∃ q ∈ wr, q.1 = l
  · exact get_app_in hw
  · have h1 : ∀ q ∈ wr, q.1 ≠ l := fun q hq e => hw ⟨q, hq, e⟩
    rw [get_app h1, get_app h1, hH]

theorem Same.aft (h : Same s t) (o : Oper) (ef : Option Ef) : Same (s.aft o ef) (t.aft o ef) := by
  cases ef with
  | none => exact ⟨by simp only [AS.aft, h.tmps], h.next, h.H⟩
  | some e => exact ⟨by simp only [AS.aft, h.tmps], h.next, app_same h.H e.wr⟩

/-- A guard, as a fact. -/
def Gd (ops : Array Oper) (o : Oper) (s : AS) (b : Bool) : Prop := match o.guard with
  | none => b = true
  | some (j, want) => ∃ t, (ops[j]?).bind (·.dst) = some t ∧ (s.tmps.getD t .dead = boolA (b == want) ∨ (b = false ∧ (s.tmps.getD t .dead).gone = true))

/-- One step, as a fact. -/
structure OK1 (P : Program) (C : Codes) (S : Sigs) (ops : Array Oper) (s : AS) (i : Nat) (o : Oper) (ef : Option Ef) : Prop where
  gd : Gd ops o s ef.isSome
  ok : ∀ e, ef = some e → OpOK P C S s.ev s.H (s.next + 8 * i) o e

def rdOf : Option Ef → List Nat
  | some e => e.rd
  | none => []
def wrOf : Option Ef → List (Nat × Option ABlk)
  | some e => e.wr
  | none => []

theorem OpOK.local {ρ ρ' : Operand → AV} {H H' : Heap} {nm : Nat} {e : Ef} (h : OpOK P C S ρ H nm o e) (hρ : ∀ x ∈ o.op.operands, ρ' x = ρ x) (hH : ∀ l ∈ e.rd, H'.get l = H.get l) : OpOK P C S ρ' H' nm o e := by
  cases h with
  | op e hc he hn => exact .op e (by rw [callOf_ops hρ]; exact hc) (opE_local (by rw [opE_ops hρ]; exact he) hH) hn
  | call g as ps ts xs p fz x hcall hsig hent hargs hp hpure => exact .call g as ps ts xs p fz x (by rw [callOf_ops hρ]; exact hcall) hsig hent (toArgs_local hargs hH) hp hpure
  | callG g as ts out x ns r hcall hsig hent hns hnd hall hr hn hc =>
    have hH : ∀ l ∈ ns, H'.get l = H.get l := hH
    have e1 : reachA H' as = ns := by rw [reachA_local (by rw [hns]; exact hH)]; exact hns
    have e2 : renH (idxN ns) H' ns 0 = renH (idxN ns) H ns 0 := renH_local ns 0 hH
    refine .callG g as ts out x ns r (by rw [callOf_ops hρ]; exact hcall) hsig hent e1 hnd ?_ (by rw [e2]; exact hr) hn (by rw [e2]; exact hc)
    exact List.all_eq_true.2 fun l hl => by rw [hH l hl]; exact List.all_eq_true.1 hall l hl

theorem OK1.local {ef : Option Ef} (h : OK1 P C S ops s i o ef) (hn : t.next = s.next) (ht : ∀ d ∈ o.looksAt ops, t.tmps.getD d .dead = s.tmps.getD d .dead) (hH : ∀ l ∈ rdOf ef, t.H.get l = s.H.get l) : OK1 P C S ops t i o ef := by
  refine ⟨?_, fun e he => ?_⟩
  · have hg := h.gd
    unfold Gd at hg ⊢
    split
    · rename_i hq; simpa [hq] using hg
    · rename_i j want hq
      rw [hq] at hg
      obtain ⟨d, hd, hb⟩ := hg
      refine ⟨d, hd, ?_⟩
      rw [ht d (by simp [Oper.looksAt, hq, hd])]; exact hb
  · subst he
    rw [hn]
    refine (h.ok e rfl).local (fun x hx => ?_) hH
    cases x with
    | tmp d => exact ht d (by simp only [Oper.looksAt, List.mem_append, List.mem_filterMap]; exact .inl ⟨.tmp d, by simpa using hx, rfl⟩)
    | _ => rfl

theorem OK1.same {ef : Option Ef} (h : OK1 P C S ops s i o ef) (hs : Same s t) : OK1 P C S ops t i o ef :=
  h.local hs.next.symm (fun d _ => by rw [hs.tmps]) (fun l _ => (hs.H l).symm)

/-- A run of a region's operations, in the order of a list. -/
inductive Tr (P : Program) (C : Codes) (S : Sigs) (ops : Array Oper) : List (Nat × Option Ef) → AS → AS → Prop
  | nil (s : AS) : Tr P C S ops [] s s
  | cons {i : Nat} {ef : Option Ef} {o : Oper} {L : List (Nat × Option Ef)} {s s' : AS} (ho : ops[i]? = some o) (h : OK1 P C S ops s i o ef) (hr : Tr P C S ops L (s.aft o ef) s') : Tr P C S ops ((i, ef) :: L) s s'

theorem Tr.same {L : List (Nat × Option Ef)} (h : Tr P C S ops L s s') : ∀ {t : AS}, Same s t → ∃ t', Tr P C S ops L t t' ∧ Same s' t' := by
  induction h with
  | nil s => exact fun hs => ⟨_, .nil _, hs⟩
  | cons ho h hr ih =>
    intro t hs
    obtain ⟨t', h1, h2⟩ := ih (hs.aft _ _)
    exact ⟨t', .cons ho (h.same hs) h1, h2⟩

theorem putT_get {tmps : List AV} {dst : Option Tmp} {v : AV} {d : Nat} (h : dst ≠ some d) : (putT tmps dst v).getD d .dead = tmps.getD d .dead := by
  cases dst with
  | none => rfl
  | some e =>
    have hne : e ≠ d := fun q => h (by rw [q])
    simp [putT, List.getD, hne]
theorem putT_comm {tmps : List AV} {d e : Option Tmp} {v u : AV} (h : ∀ x, d = some x → e ≠ some x) : putT (putT tmps d v) e u = putT (putT tmps e u) d v := by
  cases d with
  | none => rfl
  | some x => cases e with
    | none => rfl
    | some y =>
      have hne : x ≠ y := fun q => h x rfl (by rw [q])
      exact List.set_comm _ _ hne

theorem aft_tmps (s : AS) (o : Oper) (ef : Option Ef) : ∃ v, (s.aft o ef).tmps = putT s.tmps o.dst v := by
  cases ef <;> exact ⟨_, rfl⟩
theorem aft_next (s : AS) (o : Oper) (ef : Option Ef) : (s.aft o ef).next = s.next := by cases ef <;> rfl
theorem aft_H (s : AS) (o : Oper) (ef : Option Ef) : (s.aft o ef).H = s.H.app (wrOf ef) := by cases ef <;> rfl
def valOf : Option Ef → AV
  | some e => e.v
  | none => .d (.v undef)
theorem aft_tmps' (s : AS) (o : Oper) (ef : Option Ef) : (s.aft o ef).tmps = putT s.tmps o.dst (valOf ef) := by cases ef <;> rfl

/-- Two steps that do not meet. -/
structure Ind (ops : Array Oper) (o1 o2 : Oper) (e1 e2 : Option Ef) : Prop where
  ap : o1.apart ops o2 = true
  w1 : ∀ p ∈ wrOf e1, p.1 ∉ rdOf e2 ∧ ∀ q ∈ wrOf e2, q.1 ≠ p.1
  w2 : ∀ p ∈ wrOf e2, p.1 ∉ rdOf e1

theorem swap {e1 e2 : Option Ef} (hi : Ind ops o1 o2 e1 e2) (h1 : OK1 P C S ops s i o1 e1) (h2 : OK1 P C S ops (s.aft o1 e1) j o2 e2) :
    OK1 P C S ops s j o2 e2 ∧ OK1 P C S ops (s.aft o2 e2) i o1 e1 ∧ Same ((s.aft o1 e1).aft o2 e2) ((s.aft o2 e2).aft o1 e1) := by
  obtain ⟨a1, a2, a3⟩ := Oper.apart_spec hi.ap
  have g2 : OK1 P C S ops s j o2 e2 := h2.local (aft_next s o1 e1).symm (fun d hd => by
      rw [aft_tmps', putT_get]; exact fun e => a1 d e hd) (fun l hl => by
      rw [aft_H, get_app]; exact fun p hp e => (hi.w1 p hp).1 (by rw [e]; exact hl))
  refine ⟨g2, h1.local (aft_next s o2 e2) (fun d hd => ?_) (fun l hl => ?_), ?_, ?_, fun l => ?_⟩
  · rw [aft_tmps', putT_get]; exact fun e => a3 d e hd
  · rw [aft_H, get_app]; exact fun p hp e => hi.w2 p hp (by rw [e]; exact hl)
  · rw [aft_tmps', aft_tmps', aft_tmps', aft_tmps']
    exact putT_comm a2
  · rw [aft_next, aft_next, aft_next, aft_next]
  · rw [aft_H, aft_H, aft_H, aft_H]
    by_cases hw : ∃ p ∈ wrOf e1, p.1 = l
    · obtain ⟨p, hp, hpl⟩ := hw
      rw [get_app (wr := wrOf e2) (fun q hq e => (hi.w1 p hp).2 q hq (by rw [e, hpl])), get_app_in (H' := s.H.app (wrOf e2)) ⟨p, hp, hpl⟩]
    · have h1 : ∀ q ∈ wrOf e1, q.1 ≠ l := fun q hq e => hw ⟨q, hq, e⟩
      rw [get_app (wr := wrOf e1) (H := s.H.app (wrOf e2)) h1]
      by_cases hw2 : ∃ p ∈ wrOf e2, p.1 = l
      · exact get_app_in hw2
      · have h2 : ∀ q ∈ wrOf e2, q.1 ≠ l := fun q hq e => hw2 ⟨q, hq, e⟩
        rw [get_app h2, get_app h2, get_app h1]

/-- What pairs of a text may be turned round. -/
def Free2 (ops : Array Oper) (x y : Nat × Option Ef) : Prop := ∀ o1 o2, ops[x.1]? = some o1 → ops[y.1]? = some o2 → Ind ops o1 o2 x.2 y.2

theorem Tr.bubble {x : Nat × Option Ef} {L2 : List (Nat × Option Ef)} : ∀ {L1 : List (Nat × Option Ef)} {s s' : AS}, Tr P C S ops (L1 ++ x :: L2) s s' → (∀ y ∈ L1, Free2 ops y x) →
    ∃ s'', Tr P C S ops (x :: (L1 ++ L2)) s s'' ∧ Same s' s''
  | [], s, s', h, _ => ⟨s', h, Same.refl _⟩
  | y :: L1, s, s', h, hi => by
    cases h with
    | @cons jy efy oy _ _ _ hoy hy hr =>
      obtain ⟨s'', h2, h3⟩ := Tr.bubble hr (fun z hz => hi z (by simp [hz]))
      cases h2 with
      | @cons jx efx ox _ _ _ hox hx hr2 =>
        obtain ⟨g1, g2, g3⟩ := swap (hi _ List.mem_cons_self oy ox hoy hox) hy hx
        obtain ⟨t', g4, g5⟩ := hr2.same g3
        exact ⟨t', .cons hox g1 (.cons hoy g2 g4), h3.trans g5⟩

/-! ### what comes ahead of what -/

inductive Pre (ops : Array Oper) : Nat → Nat → Prop
  | edge {i : Nat} {o : Oper} {e : Edge} (ho : ops[i]? = some o) (he : e ∈ o.after) (hb : Region.binds .any e = true) : Pre ops e.on i
  | step {i j : Nat} {o : Oper} {e : Edge} (ho : ops[i]? = some o) (he : e ∈ o.after) (hb : Region.binds .any e = true) (h : Pre ops j e.on) : Pre ops j i

def MaskOK (ops : Array Oper) (ms : List Nat) : Prop := ∀ i j, (ms.getD i 0).testBit j = true → Pre ops j i

theorem fold_mask {ms : List Nat} (hm : MaskOK ops ms) {i j : Nat} {o : Oper} (ho : ops[i]? = some o) : ∀ (es : List Edge) (m0 : Nat), (∀ e ∈ es, e ∈ o.after) → (m0.testBit j = true → Pre ops j i) →
    (es.foldl (fun m e => bif Region.binds .any e then (m ||| (1 <<< e.on)) ||| ms.getD e.on 0 else m) m0).testBit j = true → Pre ops j i
  | [], m0, _, h0, h => h0 h
  | e :: es, m0, he, h0, h => by
    refine fold_mask hm ho es _ (fun x hx => he x (by simp [hx])) (fun h1 => ?_) h
    cases hb : Region.binds .any e
    · simp only [hb, cond_false] at h1; exact h0 h1
    · simp only [hb, cond_true, Nat.testBit_or, Bool.or_eq_true] at h1
      rcases h1 with (h1 | h1) | h1
      · exact h0 h1
      · rw [Nat.one_shiftLeft] at h1
        have := Nat.testBit_two_pow (n := e.on) (m := j)
        rw [this] at h1
        have e1 : e.on = j := by simpa using h1
        rw [← e1]
        exact .edge ho (he e (by simp)) hb
      · exact .step ho (he e (by simp)) hb (hm _ _ h1)

theorem masksGo_ok : ∀ (os : List Oper) (ms : List Nat), MaskOK ops ms → (∀ k o, os[k]? = some o → ops[ms.length + k]? = some o) → MaskOK ops (masksGo os ms)
  | [], ms, hm, _ => hm
  | o :: os, ms, hm, ho => by
    unfold masksGo
    refine masksGo_ok os _ (fun i j h => ?_) (fun k o' hk => ?_)
    · rw [List.getD, List.getElem?_append] at h
      split at h
      · exact hm i j h
      · rename_i hlt
        by_cases hi : i = ms.length
        · subst hi
          simp only [Nat.sub_self, List.getElem?_cons_zero, Option.getD_some] at h
          exact fold_mask hm (ho 0 o rfl) o.after.toList 0 (fun e he => by simpa using he) (fun h => by simp at h) h
        · have : i - ms.length ≠ 0 := by omega
          rw [List.getElem?_cons, if_neg this] at h
          simp at h
    · have := ho (k + 1) o' (by simpa using hk)
      rw [List.length_append]
      have e1 : (ms.length + 1) + k = ms.length + (k + 1) := by omega
      simpa [e1] using this

theorem masks_ok (ops : Array Oper) : MaskOK ops (masks ops) :=
  masksGo_ok ops.toList [] (fun i j h => by simp at h) (fun k o hk => by simpa using hk)

theorem text_spec (h : textB ops = true) {i : Nat} {o : Oper} {e : Edge} (ho : ops[i]? = some o) (he : e ∈ o.after) (hb : Region.binds .any e = true) : e.on < i := by
  have hlt : i < ops.size := by
    rcases Nat.lt_or_ge i ops.size with h1 | h1
    · exact h1
    · rw [Array.getElem?_eq_none h1] at ho; cases ho
  have h1 := List.all_eq_true.1 h i (List.mem_range.2 hlt)
  rw [ho] at h1
  simp only at h1
  have h2 := Array.all_eq_true'.1 h1 e he
  rw [hb] at h2
  exact Nat.le_of_ble_eq_true (by simpa [Nat.blt] using h2)

end Go.VL

/-
  The value layer, part 23: a region whose order is drawn, as the abstract machine runs it. (Own work.)
-/
namespace Go.VL

variable {P : Program} {C : Codes} {S : Sigs} {E : Entry} {w : World} {K : Nat → Prop} {m : Nat → Option (Option Nat)} {free : Nat → Prop}
  {f : FuncId} {R : Ending → World → Prop} {a : Act} {k : List Item} {s t s' : AS} {α : Type} {ops : Array Oper} {o o1 o2 : Oper} {i j : Nat}

/-- In the text's order, or free to be turned round. -/
def Okp (ops : Array Oper) (x y : Nat × Option Ef) : Prop := Pre ops x.1 y.1 ∨ Free2 ops x y

theorem foot_spec {e e' : Ef} (h : footB e e' = true) : (∀ p ∈ e.wr, p.1 ∉ e'.rd ∧ ∀ q ∈ e'.wr, q.1 ≠ p.1) ∧ ∀ p ∈ e'.wr, p.1 ∉ e.rd := by
  unfold footB at h
  obtain ⟨h1, h2⟩ := Bool.and_eq_true_iff.1 h
  refine ⟨fun p hp => ?_, fun p hp => ?_⟩
  · obtain ⟨h3, h4⟩ := Bool.and_eq_true_iff.1 (List.all_eq_true.1 h1 p hp)
    refine ⟨by simpa using h3, fun q hq e => ?_⟩
    have : (e'.wr.any fun q => q.1 == p.1) = true := List.any_eq_true.2 ⟨q, hq, by simpa using e⟩
    rw [this] at h4; cases h4
  · simpa using List.all_eq_true.1 h2 p hp

theorem meet_ok {x y : Nat × Option Ef} (h : meetB ops (masks ops) x y = true) : Okp ops x y := by
  unfold meetB at h
  rcases Bool.or_eq_true_iff.1 h with h | h
  · exact .inl (masks_ok ops _ _ h)
  · refine .inr fun o1 o2 h1 h2 => ?_
    unfold indepB at h
    rw [h1, h2] at h
    obtain ⟨h3, h4⟩ := Bool.and_eq_true_iff.1 h
    obtain ⟨i, e1⟩ := x
    obtain ⟨j, e2⟩ := y
    cases e1 with
    | none => exact ⟨h3, fun p hp => by simp [wrOf] at hp, fun p hp => by simp [rdOf]⟩
    | some e1 => cases e2 with
      | none => exact ⟨h3, fun p hp => ⟨by simp [rdOf], fun q hq => by simp [wrOf] at hq⟩, fun p hp => by simp [wrOf] at hp⟩
      | some e2 => exact ⟨h3, (foot_spec h4).1, (foot_spec h4).2⟩

theorem guardK_ok {A : List Item → AS → Prop} {R0 : α → Prop} {yes no : AS → Out α} (h : Sat P A R0 (guardK ops o s yes no)) :
    (Gd ops o s true ∧ Sat P A R0 (yes s)) ∨ (Gd ops o s false ∧ Sat P A R0 (no s)) := by
  unfold guardK at h
  split at h
  · rename_i hg
    exact .inl ⟨by simp [Gd, hg], h⟩
  · rename_i j want hg
    split at h
    · rename_i t ht
      split at h
      · rename_i b hb
        have hv : s.tmps.getD t .dead = boolA b := by
          unfold AV.bool? at hb
          split at hb
          · rename_i c hc; rw [hc]; cases hb; rfl
          · cases hb
        have hset : s.tmps.set t (boolA b) = s.tmps := by
          refine List.ext_getElem? fun n => ?_
          rw [List.getElem?_set]
          by_cases hn : t = n
          · subst hn
            rw [if_pos rfl]
            by_cases hl : t < s.tmps.length
            · rw [if_pos hl, ← hv]; simp [List.getD, hl]
            · rw [if_neg hl]; exact (List.getElem?_eq_none (Nat.not_lt.1 hl)).symm
          · rw [if_neg hn]
        have hs : ({ s with tmps := s.tmps.set t (boolA b) } : AS) = s := by rw [hset]
        cases b <;> cases want <;> simp only [cond_true, cond_false, hs] at h
        · exact .inl ⟨by simp only [Gd, hg]; exact ⟨t, ht, .inl hv⟩, h⟩
        · exact .inr ⟨by simp only [Gd, hg]; exact ⟨t, ht, .inl hv⟩, h⟩
        · exact .inr ⟨by simp only [Gd, hg]; exact ⟨t, ht, .inl hv⟩, h⟩
        · exact .inl ⟨by simp only [Gd, hg]; exact ⟨t, ht, .inl hv⟩, h⟩
      · cases hq : (s.tmps.getD t .dead).gone
        · rw [hq] at h; simp [Sat] at h
        · rw [hq, cond_true] at h
          exact .inr ⟨by simp only [Gd, hg]; exact ⟨t, ht, .inr ⟨trivial, hq⟩⟩, h⟩
    · simp [Sat] at h

theorem drawK_ok {A : List Item → AS → Prop} {R0 : α → Prop} {kk : AS → Out α} : ∀ (rest : List Nat) (acc : List (Nat × Option Ef)) (s : AS), Sat P A R0 (drawK P C S ops (masks ops) kk rest acc s) →
    ∃ L s', L.map (·.1) = rest ∧ Tr P C S ops L s s' ∧ (∀ x ∈ L, ∀ y ∈ acc, Okp ops y x) ∧ L.Pairwise (Okp ops) ∧ Sat P A R0 (kk s')
  | [], acc, s, h => ⟨[], s, rfl, .nil s, fun x hx => by simp at hx, .nil, h⟩
  | i :: rest, acc, s, h => by
    unfold drawK at h
    split at h
    · rename_i o ho
      have fin : ∀ (ef : Option Ef), OK1 P C S ops s i o ef → acc.all (fun x => meetB ops (masks ops) x (i, ef)) = true → Sat P A R0 (drawK P C S ops (masks ops) kk rest ((i, ef) :: acc) (s.aft o ef)) →
          ∃ L s', L.map (·.1) = i :: rest ∧ Tr P C S ops L s s' ∧ (∀ x ∈ L, ∀ y ∈ acc, Okp ops y x) ∧ L.Pairwise (Okp ops) ∧ Sat P A R0 (kk s') := by
        intro ef h1 h2 h3
        obtain ⟨L, s', g1, g2, g3, g4, g5⟩ := drawK_ok rest _ _ h3
        refine ⟨(i, ef) :: L, s', by simp [g1], .cons ho h1 g2, fun x hx y hy => ?_, List.pairwise_cons.2 ⟨fun x hx => g3 x hx _ (by simp), g4⟩, g5⟩
        rcases List.mem_cons.1 hx with rfl | hx
        · exact meet_ok (List.all_eq_true.1 h2 y hy)
        · exact g3 x hx y (by simp [hy])
      rcases guardK_ok h with ⟨hg, h⟩ | ⟨hg, h⟩
      · obtain ⟨ef, hok, h⟩ := opD_ok h
        cases hc : acc.all (fun x => meetB ops (masks ops) x (i, some ef))
        · rw [hc] at h; simp [Sat] at h
        · rw [hc] at h
          exact fin (some ef) ⟨hg, fun e he => by cases he; exact hok⟩ hc h
      · cases hc : acc.all (fun x => meetB ops (masks ops) x (i, none))
        · rw [hc] at h; simp [Sat] at h
        · rw [hc] at h
          exact fin none ⟨hg, fun e he => by cases he⟩ hc h
    · simp [Sat] at h

theorem gd_wanted {b : Bool} (hst : St E s a w K m free) (h : Gd ops o s b) : Region.wanted o (yielded ops a.tmps) = b := by
  unfold Gd at h
  split at h
  · rename_i hg; subst h; simp [Region.wanted, hg]
  · rename_i j want hg
    obtain ⟨t, ht, hb⟩ := h
    rcases hb with hb | ⟨hb, hq⟩
    case inr => subst hb; exact gone_wanted hst ht hg hq
    have hv : a.tmps.getD t undef = .bool (b == want) := bool?_rel (by rw [hb]; rfl) (hst.tmp t)
    have hlt : t < a.tmps.size := by
      rcases Nat.lt_or_ge t a.tmps.size with h1 | h1
      · exact h1
      · simp [Array.getD, Nat.not_lt.2 h1, undef] at hv
    have hy : yielded ops a.tmps j = some (b == want) := by
      have : a.tmps[t]? = some (.bool (b == want)) := by
        simp [Array.getD, hlt] at hv
        simp [hlt, hv]
      simp [yielded, ht, this]
    simp only [Region.wanted, hg, hy]
    cases b <;> cases want <;> rfl

theorem wp_weaken {o : Oper} {Kc : Act → World → Prop} {Q : Exit → Act → World → Prop} (hh : o.wp P a w Kc (fun _ _ _ => False)) : o.wp P a w Kc Q := by
  unfold Oper.wp at *
  generalize (execOp a.eval o).run P w = r at *
  cases r with
  | ok n w' =>
    cases n <;> simp only [Oper.upon] at hh ⊢ <;>
      first
        | exact hh
        | exact Calls.mono hh (fun e w'' he => by
            cases e with
            | returned v => exact he
            | panicked c => exact he.elim
            | outgrown => obtain ⟨_, _, hq⟩ := he; exact hq.elim)
  | halt x w' => cases x <;> simp only [Oper.upon] at hh ⊢ <;> exact hh.elim

/-- Where the names are free: those of the operations still to come, and those beyond. -/
def freeL (next size : Nat) (L : List (Nat × Option Ef)) : Nat → Prop := fun l => next + 8 * size ≤ l ∨ ∃ x ∈ L, next + 8 * x.1 ≤ l ∧ l < next + 8 * x.1 + 8

theorem ready_spec {listed : Array Bool} {i : Nat} (h : i ∈ Region.ready .any ops listed) :
    i < ops.size ∧ listed.getD i true = false ∧ ∀ o e, ops[i]? = some o → e ∈ o.after → Region.binds .any e = true → listed.getD e.on false = true := by
  unfold Region.ready at h
  obtain ⟨h1, h2⟩ := List.mem_filter.1 h
  have hlt := List.mem_range.1 h1
  obtain ⟨h3, h4⟩ := Bool.and_eq_true_iff.1 h2
  refine ⟨hlt, by simpa using h3, fun o e ho he hb => ?_⟩
  rw [ho] at h4
  simp only [Option.map_some, Option.getD_some] at h4
  have := Array.all_eq_true'.1 h4 e he
  rw [hb] at this
  simpa using this

theorem ready_mem {listed : Array Bool} {i : Nat} {o : Oper} (hi : i < ops.size) (ho : ops[i]? = some o) (hl : listed.getD i true = false) (h : ∀ e, e ∈ o.after → Region.binds .any e = true → listed.getD e.on false = true) :
    i ∈ Region.ready .any ops listed := by
  unfold Region.ready
  refine List.mem_filter.2 ⟨List.mem_range.2 hi, ?_⟩
  rw [hl, ho]
  simp only [Bool.not_false, Option.map_some, Option.getD_some, Bool.true_and]
  refine Array.all_eq_true'.2 fun e he => ?_
  cases hb : Region.binds .any e
  · rfl
  · rw [h e he hb]; rfl

/-- ANY ORDER. -/
theorem any_order {Q : Exit → Act → World → Prop} (htext : textB ops = true) {sEnd : AS} :
    ∀ (fuel : Nat) (listed : Array Bool) (L : List (Nat × Option Ef)) (s : AS) (s' : AS), Same sEnd s' → Tr P C S ops L s s' → L.length ≤ fuel → listed.size = ops.size →
      (∀ i, i ∈ L.map (·.1) ↔ i < ops.size ∧ listed.getD i true = false) → L.Pairwise (fun x y => x.1 < y.1) → L.Pairwise (Okp ops) →
      (∀ i o e, ops[i]? = some o → listed.getD i false = true → e ∈ o.after → Region.binds .any e = true → listed.getD e.on false = true) →
      (∀ a w K m, St E sEnd a w K m (fun l => s.next + 8 * ops.size ≤ l) → Q .normal a w) →
      ∀ a w K m, St E s a w K m (freeL s.next ops.size L) → wpAny P .any ops Q fuel listed a w := by
  intro fuel
  have empty : ∀ (listed : Array Bool) (L : List (Nat × Option Ef)) (s s' : AS), Same sEnd s' → Tr P C S ops L s s' → L = [] → (∀ a w K m, St E sEnd a w K m (fun l => s.next + 8 * ops.size ≤ l) → Q .normal a w) →
      ∀ a w K m, St E s a w K m (freeL s.next ops.size L) → Q .normal a w := by
    intro listed L s s' hsame htr hL hfin a w K m hst
    subst hL
    cases htr
    exact hfin a w K m ((hsame.symm.st hst).weaken (fun l hl => .inl hl))
  have first : ∀ (listed : Array Bool) (L : List (Nat × Option Ef)), (∀ i, i ∈ L.map (·.1) ↔ i < ops.size ∧ listed.getD i true = false) → listed.size = ops.size → L.Pairwise (fun x y => x.1 < y.1) → Region.ready .any ops listed = [] → L = [] := by
    intro listed L hmem hsz hsort hr
    cases L with
    | nil => rfl
    | cons x L =>
      exfalso
      have hx := (hmem x.1).1 (by simp)
      obtain ⟨o, ho⟩ : ∃ o, ops[x.1]? = some o := ⟨ops[x.1]'hx.1, Array.getElem?_eq_getElem hx.1⟩
      have : x.1 ∈ Region.ready .any ops listed := by
        refine ready_mem hx.1 ho hx.2 fun e he hb => ?_
        have hlt := text_spec htext ho he hb
        have hno : e.on ∉ (x :: L).map (·.1) := by
          intro hm
          simp only [List.map_cons, List.mem_cons, List.mem_map] at hm
          rcases hm with hm | ⟨y, hy, hm⟩
          · omega
          · have := (List.pairwise_cons.1 hsort).1 y hy
            omega
        have h1 : e.on < ops.size := by omega
        have h2 : listed.getD e.on true ≠ false := fun q => hno ((hmem e.on).2 ⟨h1, q⟩)
        have h3 : e.on < listed.size := by omega
        simp only [Array.getD, h3, dif_pos] at h2 ⊢
        simpa using h2
      rw [hr] at this
      cases this
  induction fuel with
  | zero =>
    intro listed L s s' hsame htr hlen hsz hmem hsort hok hcl hfin a w K m hst
    have hL : L = [] := List.eq_nil_of_length_eq_zero (by omega)
    refine ⟨?_, empty listed L s s' hsame htr hL hfin a w K m hst⟩
    subst hL
    rw [List.eq_nil_iff_forall_not_mem]
    intro i hi
    obtain ⟨h1, h2, _⟩ := ready_spec hi
    have := (hmem i).2 ⟨h1, h2⟩
    cases this
  | succ fuel ih =>
    intro listed L s s' hsame htr hlen hsz hmem hsort hok hcl hfin a w K m hst
    refine ⟨fun hr => empty listed L s s' hsame htr (first listed L hmem hsz hsort hr) hfin a w K m hst, fun i hi => ?_⟩
    obtain ⟨hlt, hun, hrdy⟩ := ready_spec hi
    have him := (hmem i).2 ⟨hlt, hun⟩
    obtain ⟨x, hx, rfl⟩ := List.mem_map.1 him
    obtain ⟨L1, L2, rfl⟩ := List.append_of_mem hx
    obtain ⟨o, ho⟩ : ∃ o, ops[x.1]? = some o := ⟨ops[x.1]'hlt, Array.getElem?_eq_getElem hlt⟩
    -- nothing that must come ahead of it is left
    have hpre : ∀ j, Pre ops j x.1 → listed.getD j false = true := by
      have hgen : ∀ j i, Pre ops j i → (∀ o e, ops[i]? = some o → e ∈ o.after → Region.binds .any e = true → listed.getD e.on false = true) → listed.getD j false = true := by
        intro j i hp
        induction hp with
        | edge ho he hb => exact fun h => h _ _ ho he hb
        | step ho he hb hp ih => exact fun h => ih (fun o' e' ho' he' hb' => hcl _ _ _ ho' (h _ _ ho he hb) he' hb')
      exact fun j hp => hgen j _ hp hrdy
    have hfree : ∀ y ∈ L1, Free2 ops y x := by
      intro y hy
      have h1 : Okp ops y x := (List.pairwise_append.1 hok).2.2 y hy x (by simp)
      rcases h1 with h1 | h1
      · exfalso
        have h2 := hpre _ h1
        have h3 := ((hmem y.1).1 (List.mem_map.2 ⟨y, by simp [hy], rfl⟩)).2
        have h4 : y.1 < listed.size := by
          have := ((hmem y.1).1 (List.mem_map.2 ⟨y, by simp [hy], rfl⟩)).1
          omega
        simp only [Array.getD, h4, dif_pos] at h2 h3
        rw [h2] at h3; cases h3
      · exact h1
    obtain ⟨s'', htr', hs''⟩ := htr.bubble hfree
    have hsort' : (L1 ++ L2).Pairwise (fun x y => x.1 < y.1) := hsort.sublist (by simp)
    have hok' : (L1 ++ L2).Pairwise (Okp ops) := hok.sublist (by simp)
    have hnot : x.1 ∉ (L1 ++ L2).map (·.1) := by
      intro hm
      obtain ⟨y, hy, he⟩ := List.mem_map.1 hm
      rcases List.mem_append.1 hy with hy | hy
      · have := (List.pairwise_append.1 hsort).2.2 y hy x (by simp)
        omega
      · have := (List.pairwise_cons.1 (List.pairwise_append.1 hsort).2.1).1 y hy
        omega
    have hszx : x.1 < listed.size := by omega
    have hget : ∀ (b : Bool) (n : Nat), (listed.setIfInBounds x.1 true).getD n b = if n = x.1 then true else listed.getD n b := by
      intro b n
      by_cases hn : n = x.1
      · subst hn; simp [Array.getD, hszx]
      · rw [if_neg hn]
        have hn' : x.1 ≠ n := fun e => hn e.symm
        by_cases hl : n < listed.size
        · simp [Array.getD, hl, hn']
        · simp [Array.getD, hl]
    have hmem' : ∀ i, i ∈ (L1 ++ L2).map (·.1) ↔ i < ops.size ∧ (listed.setIfInBounds x.1 true).getD i true = false := by
      intro i
      rw [hget]
      constructor
      · intro h
        have hne : i ≠ x.1 := fun e => hnot (by rw [← e]; exact h)
        rw [if_neg hne]
        refine (hmem i).1 ?_
        simp only [List.map_append, List.map_cons, List.mem_append, List.mem_cons] at h ⊢
        rcases h with h | h
        · exact .inl h
        · exact .inr (.inr h)
      · rintro ⟨h1, h2⟩
        by_cases hne : i = x.1
        · rw [if_pos hne] at h2; cases h2
        · rw [if_neg hne] at h2
          have := (hmem i).2 ⟨h1, h2⟩
          simp only [List.map_append, List.map_cons, List.mem_append, List.mem_cons] at this ⊢
          rcases this with h | h | h
          · exact .inl h
          · exact absurd h hne
          · exact .inr h
    have hcl' : ∀ i o e, ops[i]? = some o → (listed.setIfInBounds x.1 true).getD i false = true → e ∈ o.after → Region.binds .any e = true → (listed.setIfInBounds x.1 true).getD e.on false = true := by
      intro i' o' e' ho' hl' he' hb'
      rw [hget] at hl' ⊢
      by_cases hq : e'.on = x.1
      · rw [if_pos hq]
      · rw [if_neg hq]
        by_cases hi' : i' = x.1
        · subst hi'; exact hrdy _ _ ho' he' hb'
        · rw [if_neg hi'] at hl'; exact hcl _ _ _ ho' hl' he' hb'
    have hrest : ∀ (ef : Option Ef), x.2 = ef → ∀ t, Tr P C S ops (L1 ++ L2) t s'' → t.next = s.next → ∀ a' w' K' m', St E t a' w' K' m' (freeL s.next ops.size (L1 ++ L2)) →
        wpAny P .any ops Q fuel (listed.setIfInBounds x.1 true) a' w' := by
      intro ef hef t ht hn a' w' K' m' hst'
      refine ih _ (L1 ++ L2) t s'' (hsame.trans hs'') ht ?_ (by simpa using hsz) hmem' hsort' hok' hcl' (by rw [hn]; exact hfin) a' w' K' m' (by rw [hn]; exact hst')
      simp only [List.length_append, List.length_cons] at hlen ⊢
      omega
    have hfr : ∀ l, freeL s.next ops.size (L1 ++ L2) l → freeL s.next ops.size (L1 ++ x :: L2) l ∧ ¬ (s.next + 8 * x.1 ≤ l ∧ l < s.next + 8 * x.1 + 8) := by
      rintro l (h | ⟨y, hy, hl1, hl2⟩)
      · exact ⟨.inl h, by omega⟩
      · refine ⟨.inr ⟨y, ?_, hl1, hl2⟩, fun e => hnot (List.mem_map.2 ⟨y, hy, by omega⟩)⟩
        rcases List.mem_append.1 hy with hy | hy <;> simp [hy]
    obtain ⟨xi, xe⟩ := x
    cases htr' with
    | @cons _ _ o' _ _ _ ho' hok1 hr' =>
      rw [ho] at ho'
      cases ho'
      unfold wpOp
      rw [ho]
      simp only
      have hwan := gd_wanted hst hok1.gd
      cases xe with
      | none =>
        have hwan : Region.wanted o (yielded ops a.tmps) = false := hwan
        rw [hwan]
        refine hrest none rfl _ hr' rfl _ _ K m ?_
        exact (hst.put o.dst (v := .d (.v undef)) (u := undef) (.d _ _ (.v _)) hst.mem (Ext.refl _ _ _ _)).weaken (fun l hl => (hfr l hl).1)
      | some e =>
        have hwan : Region.wanted o (yielded ops a.tmps) = true := hwan
        rw [hwan]
        simp only [if_true]
        refine .inl ?_
        have h1 := opOK_wp (o := o) (nm := s.next + 8 * xi) hst (fun k hk => .inr ⟨(xi, some e), by simp, by simp only; omega, by simp only; omega⟩) (hok1.ok e rfl)
        have h2 : o.wp P a w (fun a' w' => wpAny P .any ops Q fuel (listed.setIfInBounds xi true) a' w') (fun _ _ _ => False) :=
          Oper.wp_mono (by
            rintro a' w' ⟨K', m', hst'⟩
            exact hrest (some e) rfl _ hr' rfl a' w' K' m' (hst'.weaken hfr)) h1
        exact wp_weaken h2
end Go.VL

/-
  The value layer, part 25: a state at a loop's head, with what is dead left out and its names counted anew. (Own work.)
-/
namespace Go.VL

variable {P : Program} {C : Codes} {S : Sigs} {E : Entry} {w : World} {K : Nat → Prop} {m : Nat → Option (Option Nat)} {free : Nat → Prop} {H : Heap}
  {F : Fm} {f : FuncId} {R : Ending → World → Prop} {a : Act} {k : List Item} {s t s' : AS} {α : Type}

theorem maskT_get {m : Nat} : ∀ (l : List AV) (k i : Nat), (maskT m k l)[i]? = (l[i]?).map fun x => bif m.testBit (k + i) then x else .dead
  | [], k, i => by simp [maskT]
  | a :: l, k, 0 => by simp [maskT]
  | a :: l, k, i + 1 => by
    have := maskT_get (m := m) l (k + 1) i
    have e : k + 1 + i = k + (i + 1) := by omega
    rw [e] at this
    simpa [maskT] using this
theorem maskT_length {m : Nat} : ∀ (l : List AV) (k : Nat), (maskT m k l).length = l.length
  | [], k => rfl
  | a :: l, k => by simp [maskT, maskT_length l]

theorem St.canon (hst : St E s a w K m free) {n0 live : Nat} (hn0 : E.n ≤ n0) (hf : ∀ l, s.next ≤ l → free l) : ∃ m', St E (s.canon n0 live) a w K m' (fun l => (s.canon n0 live).next ≤ l) := by
  unfold AS.canon
  simp only
  cases hc : (nodupB (reachN s.H 200 0 (addsN (List.range n0) (namesL (maskT live 0 s.tmps)))) && startB n0 (reachN s.H 200 0 (addsN (List.range n0) (namesL (maskT live 0 s.tmps)))))
  · exact ⟨m, hst.weaken hf⟩
  · obtain ⟨h1, h2⟩ := Bool.and_eq_true_iff.1 hc
    simp only [cond_true]
    generalize reachN s.H 200 0 (addsN (List.range n0) (namesL (maskT live 0 s.tmps))) = ns at h1 h2
    refine ⟨mOf m ns, by rw [renL_length, maskT_length]; exact hst.len, fun i x v hx hv => ?_, hst.defers, hst.mem.ren (nodupB_spec h1) (fun i hi => startB_spec h2 i (by omega))⟩
    simp only at hx
    rw [renL_get] at hx
    obtain ⟨y, hy, rfl⟩ := Option.map_eq_some_iff.1 hx
    rw [maskT_get] at hy
    obtain ⟨z, hz, rfl⟩ := Option.map_eq_some_iff.1 hy
    cases live.testBit (0 + i)
    · simp only [cond_false, AV.ren]; exact .dead _
    · simp only [cond_true]; exact rel_ren (hst.tmps i z v hz hv)

theorem noReg_of_head {k : List Item} (h : isHead k = true) (hk : okTodo k) : noReg k := by
  unfold okTodo at hk
  split at hk
  · cases h
  · exact hk

theorem ASat.canon {todo : List Item} (hh : isHead todo = true) {n0 live : Nat} (hn0 : E.n ≤ n0) (h : ASat P F E todo (s.canon n0 live)) : ASat P F E todo s := by
  intro hok a w K m hst
  have hn := noReg_of_head hh hok
  obtain ⟨m', hst'⟩ := hst.canon (live := live) hn0 (fun l hl => (freeOf_of hn _ _).2 hl)
  exact h hok a w K m' (hst'.weaken (fun l hl => (freeOf_of hn _ _).1 hl))

end Go.VL

/-
  The value layer, part 19: whatever the abstract machine tells holds of the function. (Own work.)
-/
namespace Go.VL

variable {P : Program} {C : Codes} {S : Sigs} {E : Entry} {w : World} {K : Nat → Prop} {m : Nat → Option (Option Nat)} {free : Nat → Prop} {H : Heap}
  {F : Fm} {f : FuncId} {R : Ending → World → Prop} {a : Act} {k : List Item} {s : AS} {α : Type}

theorem tr_next {ops : Array Oper} {L : List (Nat × Option Ef)} {s s' : AS} (h : Tr P C S ops L s s') : s'.next = s.next := by
  induction h with
  | nil s => rfl
  | cons ho h hr ih => rw [ih, aft_next]

theorem Ext.drawn (w : World) (K : Nat → Prop) (m : Nat → Option (Option Nat)) (H : Heap) : Ext w K m H { w with drawn := w.drawn + 1 } K m H :=
  ⟨fun _ h => h, fun _ _ => rfl, fun _ _ h => h, fun _ _ h => h, fun _ _ _ xs _ h => ⟨xs, h, rfl⟩⟩
theorem Mem.drawn (h : Mem E w K m H free) : Mem E { w with drawn := w.drawn + 1 } K m H free :=
  { os := h.os, tape := h.tape, output := h.output, size := h.size, keep := h.keep, Kmono := h.Kmono, Klt := h.Klt, Knew := h.Knew, mold := h.mold, mnew := h.mnew, mlt := h.mlt, mfree := h.mfree, fnew := h.fnew,
    heap := fun l b hb => BlkRel.ext (Ext.drawn w K m H) (h.heap l b hb) (fun _ _ => rfl)
    own := h.own, inj := h.inj, shape := h.shape, frozen := h.frozen, gok := h.gok.ext (fun _ h => h) (fun _ _ => rfl) }
theorem St.drawn (h : St E s a w K m free) : St E s a { w with drawn := w.drawn + 1 } K m free :=
  ⟨h.len, fun i x v hx hv => Rel.ext (Ext.drawn w K m s.H) (h.tmps i x v hx hv), h.defers, h.mem.drawn⟩

theorem finR_of {fn : Func} {fin : Fin α} {R0 : α → Prop} (hf : P.funcs[f]? = some fn) (h : FinOK P fn E fin R0 R) : FinR P fn E fin R0 (.fn P f R) := by
  intro s a w K m free vs x p todo hst hvs hx hp h0 ht
  obtain ⟨v, hr, hR⟩ := h s a w K m free vs x p hst hvs hx hp h0
  exact Runs.ret hf hr hR ht

/-- THE ABSTRACT MACHINE IS RIGHT. -/
theorem aexec_sound {fn : Func} {fin : Fin α} {R0 : α → Prop} (hmx : P.follows .mixedOrders = true) (hfin : FinR P fn E fin R0 F) {n0 : Nat} {cu : Cuts} (hn0 : E.n ≤ n0) :
    ∀ (n : Nat) (fst : Bool) (todo : List Item) (s : AS), Sat P (ASat P F E) R0 (aexec P C S fn fin n0 cu n fst todo s) → ASat P F E todo s
  | 0, _, todo, s, h => by simp [aexec, Sat] at h
  | n + 1, fst, todo, s, h => by
    intro hok a w K m hst
    have IH := fun todo s h => aexec_sound (cu := cu) hmx hfin hn0 n false todo s h
    have hret : Sat P (ASat P F E) R0 (retK P fn fin s) → (todo = [] ∨ ∃ k, todo = .code .ret :: k) → Runs P F a w todo := by
      intro h ht
      unfold retK at h
      split at h
      · rename_i vs hvs
        split at h
        · rename_i x p hx
          obtain ⟨hp, h⟩ := h
          exact hfin s a w K m _ vs x p todo hst hvs hx hp h ht
        · simp [Sat] at h
      · simp [Sat] at h
    -- from a todo without a region to another one
    have go : ∀ {todo' : List Item} {s' : AS} {a' : Act}, noReg todo → noReg todo' → s'.next = s.next → (∀ {fr : Nat → Prop}, St E s a w K m fr → St E s' a' w K m fr) →
        Sat P (ASat P F E) R0 (aexec P C S fn fin n0 cu n false todo' s') → Runs P F a' w todo' := by
      intro todo' s' a' h1 h2 h3 h4 h5
      refine IH _ _ h5 (okTodo_of h2) _ w K m ((h4 hst).weaken (fun l hl => ?_))
      rw [freeOf_of h2, h3] at hl
      rw [freeOf_of h1]; exact hl
    unfold aexec at h
    split at h
    · cases hcu : (cu.ret && !fst)
      · rw [hcu] at h; exact hret h (.inl rfl)
      · rw [hcu] at h; exact ASat.canon rfl hn0 h hok a w K m hst
    · rename_i k
      cases hcu : (cu.ret && !fst)
      · rw [hcu] at h; exact hret h (.inr ⟨_, rfl⟩)
      · rw [hcu] at h; exact ASat.canon rfl hn0 h hok a w K m hst
    · exact Runs.next (fun b cs => stepR_skip) (go hok (noReg.tail hok) rfl id h)
    · exact Runs.next (fun b cs => stepR_label) (go hok (noReg.tail hok) rfl id h)
    · exact Runs.next (fun b cs => stepR_inBlock) (go hok (noReg.tail hok) rfl id h)
    · exact Runs.next (fun b cs => stepR_inScope') (go hok (noReg.tail hok) rfl id h)
    · exact Runs.next (fun b cs => stepR_seq) (go hok (((noReg.tail hok).cons (by simp)).cons (by simp)) rfl id h)
    · rename_i c t e k
      split at h
      · rename_i b hb
        have hv := bool?_rel hb (hst.ev c)
        cases b
        · simp only [cond_false] at h
          exact Runs.next (fun b cs => stepR_cond hv) (go hok ((noReg.tail hok).cons (by simp)) rfl id h)
        · simp only [cond_true] at h
          exact Runs.next (fun b cs => stepR_cond hv) (go hok ((noReg.tail hok).cons (by simp)) rfl id h)
      · simp [Sat] at h
    · exact Runs.next (fun b cs => stepR_block) (go hok (((noReg.tail hok).cons (by simp)).cons (by simp)) rfl id h)
    · rename_i b k
      have h2 : noReg (.code b :: .inLoop b :: k) := ((noReg.tail hok).cons (by simp)).cons (by simp)
      exact Runs.next (fun b cs => stepR_loop) (ASat.canon rfl hn0 h (okTodo_of h2) a w K m (hst.weaken (fun l hl => by rw [freeOf_of h2] at hl; rw [freeOf_of hok]; exact hl)))
    · rename_i b k
      have h2 : noReg (.code b :: .inLoop b :: k) := ((noReg.tail hok).cons (by simp)).cons (by simp)
      exact Runs.next (fun b cs => stepR_inLoop) (ASat.canon rfl hn0 h (okTodo_of h2) a w K m (hst.weaken (fun l hl => by rw [freeOf_of h2] at hl; rw [freeOf_of hok]; exact hl)))
    · exact Runs.next (fun b cs => stepR_scope') (go hok (((noReg.tail hok).cons (by simp)).cons (by simp)) rfl id h)
    · rename_i id k
      split at h
      · rename_i k' hk'
        exact Runs.next (fun b cs => stepR_exit hk') (go hok (noReg_exit hk' (noReg.tail hok)) rfl (fun x => x) h)
      · exact ASat.canon rfl hn0 h hok a w K m hst
    · exact ASat.canon rfl hn0 h hok a w K m hst
    · exact ASat.canon rfl hn0 h hok a w K m hst
    · rename_i id ops draw k
      cases hcu : (cu.reg.contains id && !fst)
      case true => rw [hcu] at h; exact ASat.canon rfl hn0 h hok a w K m hst
      rw [hcu] at h
      simp only [cond_false] at h
      cases draw
      · simp only [cond_false] at h
        refine Runs.next (fun b cs => stepR_region) (IH _ _ h ⟨⟨List.nodup_range, fun i hi => by simpa using hi⟩, noReg.tail hok⟩ a w K m (hst.weaken (fun l hl => ?_)))
        rw [freeOf_of hok]
        simp only [freeOf] at hl
        rcases hl with hl | ⟨i, _, _, hl, _⟩ <;> omega
      · simp only [cond_true] at h
        cases htext : textB ops
        · rw [htext] at h; simp [Sat] at h
        rw [htext] at h
        simp only [cond_true] at h
        obtain ⟨L, s', hL, htr, _, hok2, hsat⟩ := drawK_ok _ _ _ h
        refine Runs.drawAny hmx hst.defers ?_
        have hnk := noReg.tail hok
        have hst' : St E s a { w with drawn := w.drawn + 1 } K m (freeL s.next ops.size L) := by
          have h0 := hst.drawn
          refine h0.weaken (fun l hl => ?_)
          rw [freeOf_of hok]
          rcases hl with hl | ⟨x, _, hl, _⟩ <;> omega
        refine any_order htext _ _ L s s' (Same.refl _) htr ?_ (by simp) (fun i => ?_) ?_ hok2 (fun i o e _ hl => ?_) (fun a w K m hst => ⟨rfl, hst.defers, ?_⟩) _ _ _ _ hst'
        · have := congrArg List.length hL
          simp only [List.length_map, List.length_range] at this
          omega
        · rw [hL, List.mem_range]
          constructor
          · intro hi
            exact ⟨hi, by simp [Array.getD, hi]⟩
          · exact fun h => h.1
        · have h1 : (L.map (·.1)).Pairwise (· < ·) := by rw [hL]; exact List.pairwise_lt_range
          exact List.pairwise_map.1 h1
        · exfalso
          by_cases hi : i < ops.size <;> simp [Array.getD, hi] at hl
        · refine IH _ _ hsat (okTodo_of hnk) _ _ _ _ ((hst.next_ (s'.next + 8 * ops.size)).weaken (fun l hl => ?_))
          rw [freeOf_of hnk] at hl
          have hl : s'.next + 8 * ops.size ≤ l := hl
          rw [← tr_next htr]; exact hl
    · rename_i ops k
      obtain ⟨_, hnk⟩ := hok
      refine Runs.next (fun b cs => stepR_region_end) (IH _ _ h (okTodo_of hnk) a w K m ((hst.next_ (s.next + 8 * ops.size)).weaken (fun l hl => ?_)))
      rw [freeOf_of hnk] at hl
      exact .inl hl
    · rename_i ops i rest k
      split at h
      · rename_i o ho
        obtain ⟨⟨hnd, hlt⟩, hnk⟩ := hok
        obtain ⟨s', hn', hst', hcase⟩ := guardK_sound hst h
        have hok' : okTodo (Item.inRegion ops rest :: k) := ⟨⟨(List.nodup_cons.1 hnd).2, fun j hj => hlt j (by simp [hj])⟩, hnk⟩
        have hback : ∀ l, freeOf (Item.inRegion ops rest :: k) s.next l → freeOf (Item.inRegion ops (i :: rest) :: k) s.next l ∧ ¬ (s.next + 8 * i ≤ l ∧ l < s.next + 8 * i + 8) := by
          intro l hl
          simp only [freeOf] at hl ⊢
          have hi := hlt i (by simp)
          rcases hl with hl | ⟨j, hj, hjs, hl1, hl2⟩
          · exact ⟨.inl hl, by omega⟩
          · refine ⟨.inr ⟨j, by simp [hj], hjs, hl1, hl2⟩, fun e => ?_⟩
            have : j = i := by omega
            subst this
            exact (List.nodup_cons.1 hnd).1 hj
        rcases hcase with ⟨hw, h⟩ | ⟨hw, h⟩
        · cases hy : yieldB s'.ev o
          case true =>
            rw [hy] at h
            exact h ⟨⟨hnd, hlt⟩, hnk⟩ a w K m (by rw [hn']; exact hst')
          rw [hy] at h
          simp only [cond_false] at h
          refine opK_sound ho hw (s := s') hst' ?_ (fun s2 hn2 h2 a' w' K' m' hst2 => IH _ _ h2 hok' a' w' K' m' (hst2.weaken (fun l hl => ?_))) h
          · intro q hq; rw [hn']; exact .inr ⟨i, by simp, hlt i (by simp), by omega, by omega⟩
          · rw [hn2, hn'] at hl; rw [hn']; exact hback l hl
        · refine Runs.opSkip ho hw (IH _ _ h hok' _ w K m ((hst'.put o.dst (v := .d (.v undef)) (u := undef) (.d _ _ (.v _)) hst'.mem (Ext.refl _ _ _ _)).weaken (fun l hl => ?_)))
          simp only [hn'] at hl
          exact (hback l hl).1
      · simp [Sat] at h
    · simp [Sat] at h

end Go.VL

/-
  The value layer, part 19: a contract out of a run of the abstract machine. (Own work.)
-/
namespace Go.VL

variable {P : Program} {C : Codes} {S : Sigs} {E : Entry} {w : World} {K : Nat → Prop} {m : Nat → Option (Option Nat)} {free : Nat → Prop} {H : Heap}
  {f : FuncId} {R : Ending → World → Prop} {a : Act} {k : List Item} {s : AS} {α : Type}

/-- The results of a function, read. -/
theorem resA_run (hst : St E s a w K m free) : ∀ {rs : List ResultVar} {as : List AV}, resA P s rs = some as →
    ∃ vs : List Value, (rs.mapM fun r => (match r with | .tmp t => pure (a.tmps.getD t undef) | .cell c t => do loadVar t (← asAddr (a.tmps.getD c undef)) : Sem Value)).run P w = .ok vs w ∧ vs.length = as.length ∧
      ∀ (i : Nat) (x : AV) (v : Value), as[i]? = some x → vs[i]? = some v → Rel w K m s.H x v
  | [], as, h => by
    simp only [resA, Option.some.injEq] at h
    subst h
    exact ⟨[], rfl, rfl, fun i x v h => by simp at h⟩
  | .tmp t :: rs, as, h => by
    simp only [resA, Option.map_eq_some_iff] at h
    obtain ⟨as', h, rfl⟩ := h
    obtain ⟨vs, h1, h2, h3⟩ := resA_run hst h
    refine ⟨a.tmps.getD t undef :: vs, ?_, by simp [h2], fun i x v hx hv => ?_⟩
    · rw [List.mapM_cons]
      simp only [Sem.run_bind, Sem.run_pure, Result.andThen_ok, h1]
    · cases i with
      | zero => simp only [List.getElem?_cons_zero, Option.some.injEq] at hx hv; subst hx; subst hv; exact hst.tmp t
      | succ i => exact h3 i x v (by simpa using hx) (by simpa using hv)
  | .cell c t :: rs, as, h => by
    simp only [resA] at h
    split at h
    · rename_i l fo hc
      split at h
      · rename_i cells hg
        simp only [Option.bind_eq_some_iff, Option.map_eq_some_iff] at h
        obtain ⟨x0, hx0, as', h, rfl⟩ := h
        obtain ⟨vs, h1, h2, h3⟩ := resA_run hst h
        have hr := hst.tmp c
        rw [hc] at hr
        generalize hgv : a.tmps.getD c undef = cv at hr
        cases hr with
        | ptr _ _ b hm =>
          obtain ⟨u, hu, hur⟩ := loadVar_rel (P := P) hx0 (blk_box hst.mem hg hm)
          rw [Nat.zero_add] at hu
          refine ⟨u :: vs, ?_, by simp [h2], fun i x v hx hv => ?_⟩
          · have hasA : (asAddr (a.tmps.getD c undef)).run P w = .ok ⟨b, fo, none⟩ w := by rw [hgv]; rfl
            rw [List.mapM_cons]
            simp only [Sem.run_bind, hasA, Sem.run_pure, Result.andThen_ok, hu, h1]
          · cases i with
            | zero => simp only [List.getElem?_cons_zero, Option.some.injEq] at hx hv; subst hx; subst hv; exact hur
            | succ i => exact h3 i x v (by simpa using hx) (by simpa using hv)
      · cases h
    · cases h

theorem results_run (hst : St E s a w K m free) {fn : Func} {as : List AV} (h : resA P s fn.results.toList = some as) :
    ∃ vs : List Value, (results fn a.tmps).run P w = .ok (if h : vs.toArray.size = 1 then vs.toArray[0] else .tuple vs.toArray) w ∧ vs.length = as.length ∧
      ∀ (i : Nat) (x : AV) (v : Value), as[i]? = some x → vs[i]? = some v → Rel w K m s.H x v := by
  obtain ⟨vs, h1, h2, h3⟩ := resA_run hst h
  refine ⟨vs, ?_, h2, h3⟩
  have hm : (fn.results.mapM fun r => (match r with | .tmp t => pure (a.tmps.getD t undef) | .cell c t => do loadVar t (← asAddr (a.tmps.getD c undef)) : Sem Value)).run P w = .ok vs.toArray w := by
    rw [Array.mapM_eq_mapM_toList]
    show (List.toArray <$> _ : Sem _).run P w = _
    rw [map_eq_pure_bind]
    simp only [Sem.run_bind, h1, Result.andThen_ok, Sem.run_pure]
  unfold results
  rw [Sem.run_bind]
  exact (congrArg (fun r => Result.andThen r _) hm).trans rfl

/-- What the caller learns. -/
def PureEnd (E : Entry) (ts : List Ty) (x : TyTup ts) (e : Ending) (w' : World) : Prop :=
  ∃ v K', e = .returned v ∧ RelT w' K' (ofRes ts x) v ∧ (∀ b, E.K b → K' b) ∧ (∀ b, K' b → E.K b ∨ E.w.heap.size ≤ b) ∧ (∀ b, K' b → b < w'.heap.size) ∧ RowKit.Below E.w.heap.size E.w w'

def pureFin (ts : List Ty) : Fin (TyTup ts) := fun vs H => (toRes H ts vs).map fun q => (q.1, q.2.1)

theorem relT_mono {K1 K2 : Nat → Prop} {b : AV} {v : Value} (hK : ∀ b, K1 b → K2 b) (h : RelT w K1 b v) : RelT w K2 b v :=
  h.ext ⟨hK, fun _ _ => rfl, fun _ _ h => h, fun _ _ h => h, fun l T t xs hm => absurd rfl hm⟩

/-- What 'toRes' promises. -/
def ToResOK (E : Entry) (w : World) (K : Nat → Prop) (m : Nat → Option (Option Nat)) (H : Heap) (ts : List Ty) : Prop :=
  ∀ (as : List AV) (x : TyTup ts) (p : Prop) (fz : List Nat), toRes H ts as = some (x, p, fz) → p → ∀ (vs : List Value), vs.length = as.length →
    (∀ (i : Nat) (y : AV) (v : Value), as[i]? = some y → vs[i]? = some v → Rel w K m H y v) →
    (avsOf ts x).length = vs.length ∧ (∀ (i : Nat) (y : AV) (v : Value), (avsOf ts x)[i]? = some y → vs[i]? = some v → RelT w (KF K m fz) y v) ∧ ∀ l ∈ fz, ∃ blk, H.get l = some blk

theorem nil1_some {β : Type} {as : List AV} {r x : β} (h : nil1 as r = some x) : as = [] ∧ r = x := by
  cases as with
  | nil => exact ⟨rfl, Option.some.inj h⟩
  | cons => cases h

theorem one1_some {β : Type} {as : List AV} {k : AV → Option β} {x : β} (h : one1 as k = some x) : ∃ a, as = [a] ∧ k a = some x := by
  match as, h with
  | [a], h => exact ⟨a, rfl, h⟩

theorem cons1_some {β : Type} {as : List AV} {k : AV → List AV → Option β} {x : β} (h : cons1 as k = some x) : ∃ a as', as = a :: as' ∧ k a as' = some x := by
  match as, h with
  | a :: as, h => exact ⟨a, as, rfl, h⟩

theorem get_nil {α : Type} (i : Nat) (y : α) (h : ([] : List α)[i]? = some y) : False := by simp at h

theorem toRes_nil (E : Entry) (w : World) (K : Nat → Prop) (m : Nat → Option (Option Nat)) (H : Heap) : ToResOK E w K m H [] := by
  intro as x p fz h hp vs hl hr
  obtain ⟨rfl, h2⟩ := nil1_some h
  have h3 : [] = fz := congrArg (fun q => q.2.2) h2
  subst h3
  refine ⟨hl.symm, fun i y v h => (get_nil i y h).elim, fun l hl => ?_⟩
  cases hl

theorem toRes_one (hM : Mem E w K m H free) (t : Ty) : ToResOK E w K m H [t] := by
  intro as x p fz h hp vs hl hr
  obtain ⟨y, rfl, h⟩ := one1_some h
  match vs, hl with
  | [v], hl =>
    obtain ⟨h1, h2⟩ := toTy_rel hM h hp (hr 0 y v rfl rfl)
    refine ⟨rfl, fun i z u hz hu => ?_, h2⟩
    cases i with
    | zero =>
      have hz : AV.ofTy t x = z := Option.some.inj hz
      have hu : v = u := Option.some.inj hu
      subst hz; subst hu; exact h1
    | succ i => exact (get_nil i z hz).elim

theorem toRes_cons (hM : Mem E w K m H free) (t t' : Ty) (ts : List Ty) (ih : ToResOK E w K m H (t' :: ts)) : ToResOK E w K m H (t :: t' :: ts) := by
  intro as x p fz h hp vs hl hr
  obtain ⟨y, as', rfl, h⟩ := cons1_some h
  match vs, hl, hr with
  | v :: vs, hl, hr =>
    obtain ⟨⟨x1, p1, l1⟩, h1, h⟩ := Option.bind_eq_some_iff.1 h
    obtain ⟨⟨xs, p2, l2⟩, h2, h3⟩ := Option.map_eq_some_iff.1 h
    have e1 : x = (x1, xs) := (congrArg (fun q => q.1) h3).symm
    have e2 : p = (p1 ∧ p2) := (congrArg (fun q => q.2.1) h3).symm
    have e3 : fz = l1 ++ l2 := (congrArg (fun q => q.2.2) h3).symm
    subst e1; subst e2; subst e3
    obtain ⟨g1, g2⟩ := toTy_rel hM h1 hp.1 (hr 0 y v rfl rfl)
    obtain ⟨g3, g4, g5⟩ := ih as' xs p2 l2 h2 hp.2 vs (Nat.succ.inj hl) (fun i z u hz hu => hr (i + 1) z u hz hu)
    refine ⟨congrArg Nat.succ g3, fun i z u hz hu => ?_, fun l hl => ?_⟩
    · cases i with
      | zero =>
        have hz : AV.ofTy t x1 = z := Option.some.inj hz
        have hu : v = u := Option.some.inj hu
        subst hz; subst hu
        refine relT_mono (fun b hb => ?_) g1
        rcases hb with hb | ⟨l, hl, hm⟩
        · exact .inl hb
        · exact .inr ⟨l, List.mem_append.2 (.inl hl), hm⟩
      | succ i =>
        refine relT_mono (fun b hb => ?_) (g4 i z u hz hu)
        rcases hb with hb | ⟨l, hl, hm⟩
        · exact .inl hb
        · exact .inr ⟨l, List.mem_append.2 (.inr hl), hm⟩
    · rcases List.mem_append.1 hl with hl | hl
      · exact g2 l hl
      · exact g5 l hl

theorem toRes_avs (hM : Mem E w K m H free) : ∀ ts : List Ty, ToResOK E w K m H ts
  | [] => toRes_nil E w K m H
  | [t] => toRes_one hM t
  | t :: t' :: ts => toRes_cons hM t t' ts (toRes_avs hM (t' :: ts))

theorem toRes_rel {ts : List Ty} {x : TyTup ts} {vs : List Value} {K' : Nat → Prop} (hl : (avsOf ts x).length = vs.length) (h : ∀ (i : Nat) (y : AV) (v : Value), (avsOf ts x)[i]? = some y → vs[i]? = some v → RelT w K' y v) :
    RelT w K' (ofRes ts x) (if h : vs.toArray.size = 1 then vs.toArray[0] else .tuple vs.toArray) := by
  match ts, x, hl, h with
  | [], _, hl, h =>
    have : vs = [] := List.eq_nil_of_length_eq_zero (by simpa [avsOf] using hl.symm)
    subst this
    exact .tup [] _ rfl (fun i a v h => by simp at h)
  | [t], x, hl, h =>
    match vs, hl with
    | [v], _ => exact h 0 _ v rfl rfl
  | t :: t' :: ts, x, hl, h =>
    match vs, hl with
    | [v], hl =>
      exfalso
      have hl : (AV.ofTy t x.1 :: avsOf (t' :: ts) x.2).length = 1 := hl
      have : 0 < (avsOf (t' :: ts) x.2).length := by cases ts <;> simp [avsOf]
      simp only [List.length_cons] at hl
      omega
    | [], hl => simp [avsOf] at hl
    | v :: v' :: vs, hl =>
      have hn : ¬ (v :: v' :: vs).toArray.size = 1 := by simp
      rw [dif_neg hn]
      exact .tup _ _ (by simpa using hl.symm) (fun i y u hy hu => h i y u hy (by simpa using hu))

theorem pure_fin (w0 : World) (K0 : Nat → Prop) (hK0 : ∀ b, K0 b → b < w0.heap.size) {fn : Func} (ts : List Ty) (x0 : TyTup ts) :
    FinOK P fn ⟨w0, K0, fun _ => none, 0⟩ (pureFin ts) (· = x0) (PureEnd ⟨w0, K0, fun _ => none, 0⟩ ts x0) := by
  intro s a w K m free avs x p hst hres hfin hp hx
  simp only [pureFin, Option.map_eq_some_iff, Prod.exists, Prod.mk.injEq] at hfin
  obtain ⟨x', p', fz, hto, rfl, rfl⟩ := hfin
  subst hx
  obtain ⟨vs, hrun, hlen, hrel⟩ := results_run (P := P) hst hres
  obtain ⟨h1, h2, h3⟩ := toRes_avs hst.mem ts _ _ _ _ hto hp vs hlen hrel
  obtain ⟨K1, g1, e1, hk1⟩ := Mem.gives fz hst.mem
  have hKF := KF_gives e1.hK h3 hk1
  refine ⟨_, hrun, _, K1, rfl, relT_mono hKF (toRes_rel h1 h2), g1.Kmono, fun b hb => ?_, g1.Klt, ?_⟩
  · rcases g1.Knew b hb with h | h | ⟨l, hl, _⟩
    · exact .inl h
    · exact .inr h
    · exact absurd hl (Nat.not_lt_zero _)
  · exact ⟨g1.os, g1.tape, g1.output, g1.size, fun b hb => g1.keep b hb (fun l hl => absurd hl (Nat.not_lt_zero _))⟩

/-- A function's first state. -/
def startS (fn : Func) (args : List Arg) : AS := ⟨args.map (fun x => AV.ofTy x.1 x.2) ++ List.replicate (fn.ntmps - args.length) (.d (.v undef)), [], 0⟩
def bodyOf (fn : Func) : List Item := match fn.body with | some c => [.code c] | none => []

/-- A CONTRACT, OUT OF THE ABSTRACT RUN. -/
theorem Pure.of_sat {fn : Func} (hf : P.funcs[f]? = some fn) (hb : fn.body.isSome = true) {args : List Arg} {ts : List Ty} {x : TyTup ts} (hnt : args.length ≤ fn.ntmps)
    (h : ∀ E, E.n = 0 → (∀ b, E.K b → b < E.w.heap.size) → FinOK P fn E (pureFin ts) (· = x) (PureEnd E ts x) → ASat P (.fn P f (PureEnd E ts x)) E (bodyOf fn) (startS fn args)) : Pure P f args ts x := by
  intro w K vs hK hgk hvs hrel
  obtain ⟨c, hc⟩ := Option.isSome_iff_exists.1 hb
  have hbody : bodyOf fn = [.code c] := by simp [bodyOf, hc]
  refine calls_of_runs hf hc ?_
  have h1 := h ⟨w, K, fun _ => none, 0⟩ rfl hK (pure_fin w K hK ts x)
  rw [hbody] at h1
  refine h1 (fun ops l hm => by simp at hm) _ w K (fun _ => none) ⟨by simp [startS, hvs], fun i y v hy hv => ?_, rfl, ?_⟩
  · simp only [startS] at hy ⊢
    rw [List.getElem?_append] at hy
    rw [Array.getElem?_append] at hv
    simp only [List.length_map] at hy
    rw [hvs] at hv
    split at hy
    · rename_i hi
      rw [if_pos hi] at hv
      simp only [List.getElem?_map, Option.map_eq_some_iff] at hy
      obtain ⟨x, hx, rfl⟩ := hy
      exact hrel i x v hx hv
    · rename_i hi
      rw [if_neg hi] at hv
      rw [List.getElem?_replicate] at hy
      rw [Array.getElem?_replicate] at hv
      by_cases hc2 : i - args.length < fn.ntmps - args.length
      · rw [if_pos hc2] at hy hv
        simp only [Option.some.injEq] at hy hv; subst hy; subst hv; exact .d _ _ (.v _)
      · rw [if_neg hc2] at hy; cases hy
  · exact
      { os := rfl, tape := rfl, output := rfl, size := Nat.le_refl _, keep := fun _ _ _ => rfl, Kmono := fun _ h => h, Klt := hK, Knew := fun _ h => .inl h, mold := fun _ _ => rfl,
        mnew := fun l b _ hm => by simp at hm, mlt := fun l b hm => by simp at hm, mfree := fun _ _ => rfl, fnew := fun _ _ => Nat.zero_le _, heap := fun l blk hl => by simp [startS, Heap.get] at hl,
        own := fun l blk b hl => by simp [startS, Heap.get] at hl, inj := fun l l' b1 b2 b hl => by simp [startS, Heap.get] at hl, shape := fun _ _ h => h, frozen := fun _ _ => rfl, gok := hgk }

end Go.VL

/-
  The value layer, part 26: contracts out of trees; loops. (Own work.)
-/
namespace Go.VL

variable {P : Program} {C : Codes} {S : Sigs} {E : Entry} {w : World} {K : Nat → Prop} {m : Nat → Option (Option Nat)} {free : Nat → Prop} {H : Heap}
  {F : Fm} {f : FuncId} {R : Ending → World → Prop} {a : Act} {k : List Item} {s t s' : AS} {α : Type}

/-! ### a nil slice is an empty row that is owned -/
def AS.ghost (i : Nat) (T : TypeId) (t : Ty) (s : AS) : AS := match s.tmps[i]? with
  | some (.d (.v (.slice none 0 0))) => ⟨s.tmps.set i (.own s.next t), (s.next, .row T t []) :: s.H, s.next + 1⟩
  | _ => s

theorem St.ghost (hst : St E s a w K m free) (i : Nat) (T : TypeId) (t : Ty) (hf : ∀ l, s.next ≤ l → free l) : ∃ m', St E (s.ghost i T t) a w K m' (fun l => (s.ghost i T t).next ≤ l) := by
  unfold AS.ghost
  split
  · rename_i hi
    have hfr : free s.next := hf _ (Nat.le_refl _)
    have hmn := hst.mem.mfree _ hfr
    have hH : s.H.get s.next = none := by
      cases hg : s.H.get s.next with
      | none => rfl
      | some blk =>
        have := hst.mem.heap _ _ hg
        cases blk with
        | box cells => obtain ⟨b, cs, T, h1, _⟩ := this; rw [hmn] at h1; cases h1
        | row T t xs => rcases this with ⟨h1, _⟩ | ⟨b, cs, h1, _⟩ <;> rw [hmn] at h1 <;> cases h1
    have hget : ∀ l, l ≠ s.next → Heap.get ((s.next, .row T t []) :: s.H) l = s.H.get l := fun l hl => by
      have : (s.next == l) = false := by simpa using fun e => hl e.symm
      simp only [Heap.get, this, cond_false]
    have hself : Heap.get ((s.next, .row T t []) :: s.H) s.next = some (.row T t []) := by simp [Heap.get]
    have e : Ext w K m s.H w K (upd m s.next none) ((s.next, .row T t []) :: s.H) :=
      ⟨fun _ h => h, fun _ _ => rfl, fun l x hx => by
        have : l ≠ s.next := fun e => by rw [e, hmn] at hx; cases hx
        rw [upd_ne _ _ this]; exact hx, fun _ _ h => h, fun l T' t' xs hl hx => by
        have : l ≠ s.next := fun e => hl (by rw [e]; exact hmn)
        rw [hget l this] at hx; exact ⟨xs, hx, rfl⟩⟩
    have hE : E.n ≤ s.next := hst.mem.fnew _ hfr
    refine ⟨upd m s.next none, by simp [hst.len], fun j x v hx hv => ?_, hst.defers, ?_⟩
    · rw [List.getElem?_set] at hx
      by_cases hij : i = j
      · subst hij
        rw [if_pos rfl] at hx
        split at hx
        · cases hx
          have := hst.tmps i _ v hi hv
          cases this with
          | d _ _ h => cases h; exact .own0 _ _ none (upd_self _ _ _)
        · cases hx
      · rw [if_neg hij] at hx
        exact (hst.tmps j x v hx hv).ext e
    · exact
      { os := hst.mem.os, tape := hst.mem.tape, output := hst.mem.output, size := hst.mem.size, keep := hst.mem.keep, Kmono := hst.mem.Kmono, Klt := hst.mem.Klt, Knew := hst.mem.Knew
        mold := fun l hl => by rw [upd_ne _ _ (by omega)]; exact hst.mem.mold l hl
        mnew := fun l b hl hm => by
          by_cases h : l = s.next
          · rw [h, upd_self] at hm; cases hm
          · rw [upd_ne _ _ h] at hm; exact hst.mem.mnew l b hl hm
        mlt := fun l b hm => by
          by_cases h : l = s.next
          · rw [h, upd_self] at hm; cases hm
          · rw [upd_ne _ _ h] at hm; exact hst.mem.mlt l b hm
        mfree := fun l hl => by
          have hl : s.next + 1 ≤ l := hl
          rw [upd_ne _ _ (by omega)]; exact hst.mem.mfree l (hf l (by omega))
        fnew := fun l hl => by
          have hl : s.next + 1 ≤ l := hl
          omega
        heap := fun l blk hb => by
          by_cases h : l = s.next
          · subst h; rw [hself] at hb; cases hb; exact .inl ⟨upd_self _ _ _, rfl⟩
          · rw [hget l h] at hb; exact BlkRel.ext e (hst.mem.heap l blk hb) (fun _ _ => rfl)
        own := fun l blk b hb hm => by
          by_cases h : l = s.next
          · rw [h, upd_self] at hm; cases hm
          · rw [hget l h] at hb; rw [upd_ne _ _ h] at hm; exact hst.mem.own l blk b hb hm
        inj := fun l l' blk blk' b hb hb' hm hm' => by
          by_cases h : l = s.next
          · rw [h, upd_self] at hm; cases hm
          by_cases h' : l' = s.next
          · rw [h', upd_self] at hm'; cases hm'
          rw [hget l h] at hb; rw [hget l' h'] at hb'; rw [upd_ne _ _ h] at hm; rw [upd_ne _ _ h'] at hm'
          exact hst.mem.inj l l' blk blk' b hb hb' hm hm'
        shape := hst.mem.shape, frozen := hst.mem.frozen, gok := hst.mem.gok }
  · exact ⟨m, hst.weaken hf⟩

theorem ASat.ghost {todo : List Item} (hh : isHead todo = true) (i : Nat) (T : TypeId) (t : Ty) (h : ASat P F E todo (s.ghost i T t)) : ASat P F E todo s := by
  intro hok a w K m hst
  have hn := noReg_of_head hh hok
  obtain ⟨m', hst'⟩ := hst.ghost i T t (fun l hl => (freeOf_of hn _ _).2 hl)
  exact h hok a w K m' (hst'.weaken (fun l hl => (freeOf_of hn _ _).1 hl))

/-- .. and where the nil slice lies in a block. -/
def AS.ghostB (l j : Nat) (T : TypeId) (t : Ty) (s : AS) : AS := match s.H.get l with
  | some (.box cells) => match cells[j]? with
    | some (.d (.v (.slice none 0 0))) => ⟨s.tmps, (s.H.put s.next (some (.row T t []))).put l (some (.box (cells.set j (.own s.next t)))), s.next + 1⟩
    | _ => s
  | _ => s

theorem St.ghostB (hst : St E s a w K m free) (l j : Nat) (T : TypeId) (t : Ty) (hf : ∀ l, s.next ≤ l → free l) : ∃ m', St E (s.ghostB l j T t) a w K m' (fun q => (s.ghostB l j T t).next ≤ q) := by
  unfold AS.ghostB
  split
  · rename_i cells hg
    split
    · rename_i hc
      have hfr : free s.next := hf _ (Nat.le_refl _)
      have hmn := hst.mem.mfree _ hfr
      obtain ⟨M1, e1⟩ := hst.mem.nil hfr T t
      have hln : l ≠ s.next := fun e => by
        have := hst.mem.heap l _ hg
        obtain ⟨b, cs, T', h1, _⟩ := this
        rw [e, hmn] at h1; cases h1
      have hg1 : (s.H.put s.next (some (.row T t []))).get l = some (.box cells) := by rw [Heap.get_put _ hln]; exact hg
      obtain ⟨b, cs, T', h1, h2, h3, h4⟩ := M1.heap l _ hg1
      obtain ⟨M2, e2⟩ := M1.write (w' := w) (cs' := cs) (blk := .box (cells.set j (.own s.next t))) hg1 h1 h2 h2 rfl (fun _ _ => rfl) ⟨rfl, rfl, rfl, rfl⟩ (fun T t xs h => by cases h) (fun H' e => by
        refine ⟨b, cs, T', h1, h2, by rw [h3]; simp, fun i x v hx hv => ?_⟩
        rw [List.getElem?_set] at hx
        by_cases hij : j = i
        · subst hij
          rw [if_pos rfl] at hx
          split at hx
          · cases hx
            have h5 := h4 j _ v hc hv
            cases h5 with
            | d _ _ h5 => cases h5; exact .own0 _ _ none (upd_self _ _ _)
          · cases hx
        · rw [if_neg hij] at hx
          exact (h4 i x v hx hv).ext e)
      refine ⟨upd m s.next none, hst.len, fun i x v hx hv => ((hst.tmps i x v hx hv).ext e1).ext e2, hst.defers, M2.weaken (fun q hq => ⟨hf q (by have : s.next + 1 ≤ q := hq; omega), by have : s.next + 1 ≤ q := hq; omega⟩)⟩
    · exact ⟨m, hst.weaken hf⟩
  · exact ⟨m, hst.weaken hf⟩

theorem ASat.ghostB {todo : List Item} (hh : isHead todo = true) (l j : Nat) (T : TypeId) (t : Ty) (h : ASat P F E todo (s.ghostB l j T t)) : ASat P F E todo s := by
  intro hok a w K m hst
  have hn := noReg_of_head hh hok
  obtain ⟨m', hst'⟩ := hst.ghostB l j T t (fun q hq => (freeOf_of hn _ _).2 hq)
  exact h hok a w K m' (hst'.weaken (fun q hq => (freeOf_of hn _ _).1 hq))

/-! ### to know less -/
/-- All that is owned is as the memory says. -/
def Good (w : World) (K : Nat → Prop) (m : Nat → Option (Option Nat)) (H : Heap) : Prop := ∀ l blk, H.get l = some blk → BlkRel w K m H l blk
def AVle (H : Heap) (a b : AV) : Prop := ∀ w K m v, Good w K m H → Rel w K m H a v → Rel w K m H b v
def BLe (H : Heap) : ABlk → ABlk → Prop
  | .box cs, .box ds => cs.length = ds.length ∧ ∀ (i : Nat) x y, cs[i]? = some x → ds[i]? = some y → AVle H x y
  | a, b => a = b
structure AS.Le (s s' : AS) : Prop where
  len : s.tmps.length = s'.tmps.length
  tmps : ∀ (i : Nat) x y, s.tmps[i]? = some x → s'.tmps[i]? = some y → AVle s.H x y
  H : ∀ l b', s'.H.get l = some b' → ∃ b, s.H.get l = some b ∧ BLe s.H b b'
  next : s.next ≤ s'.next

theorem AVle.refl (H : Heap) (a : AV) : AVle H a a := fun _ _ _ _ _ h => h
theorem AVle.dead (H : Heap) (a : AV) : AVle H a .dead := fun _ _ _ v _ _ => .dead v
theorem AVle.nil (H : Heap) (t : Ty) (n : Nat) : AVle H (.d (.v (.slice none 0 n))) (.d (.sl t [])) := fun _ _ _ _ _ h => by
  cases h with
  | d _ _ h => cases h; exact .d _ _ (.sl0 t none n)
theorem AVle.fl (H : Heap) (t : Ty) (xs : List t.ty) : AVle H (.fl t xs) (.d (.sl t xs)) := fun _ _ _ _ _ h => by
  cases h with
  | fl _ _ a n h => exact .d _ _ h
theorem AVle.flt (H : Heap) (b : Nat) : AVle H (.d (.v (.float .f64 b))) (.d (.f (some b))) := fun _ _ _ _ _ h => by
  cases h with
  | d _ _ h => cases h; exact .d _ _ (.f _ _ rfl)
theorem AVle.view {H : Heap} {l : Nat} {T : TypeId} {t : Ty} {xs : List t.ty} (hg : H.get l = some (.row T t xs)) : AVle H (.own l t) (.view l t 0 xs.length) := fun w K m v hG h => by
  cases h with
  | own0 _ _ a hm =>
    rcases hG l _ hg with ⟨_, hx⟩ | ⟨b', cs, hm', _⟩
    · subst hx; exact .view0 l t 0 a
    · rw [hm] at hm'; cases hm'
  | own _ _ b n cap hm hl hcap hs =>
    have hn := hl T xs hg
    subst hn
    have := Rel.view (w := w) (K := K) (m := m) (H := H) l t b 0 xs.length cap hm hcap (by simpa using hs)
    simpa using this
theorem BLe.refl (H : Heap) (b : ABlk) : BLe H b b := by
  cases b with
  | box cs => exact ⟨rfl, fun i x y hx hy => by rw [hx] at hy; cases hy; exact .refl H _⟩
  | row => exact rfl

theorem St.le (hst : St E s a w K m free) (h : AS.Le s s') (hf : ∀ l, s.next ≤ l → free l) : St E s' a w K m (fun l => s'.next ≤ l) := by
  have e : Ext w K m s.H w K m s'.H := ⟨fun _ h => h, fun _ _ => rfl, fun _ _ h => h, fun _ _ h => h, fun l T t xs _ hx => by
    obtain ⟨b, hb, hle⟩ := h.H l _ hx
    cases b with
    | box cs => cases hle
    | row T' t' xs' => cases hle; exact ⟨xs, hb, rfl⟩⟩
  have hG : Good w K m s.H := hst.mem.heap
  refine ⟨hst.len.trans h.len, fun i x v hx hv => ?_, hst.defers, ?_⟩
  · have hlt : i < s.tmps.length := by
      rw [h.len]
      rcases Nat.lt_or_ge i s'.tmps.length with h1 | h1
      · exact h1
      · rw [List.getElem?_eq_none h1] at hx; cases hx
    have h1 : s.tmps[i]? = some s.tmps[i] := List.getElem?_eq_getElem hlt
    exact (h.tmps i _ x h1 hx _ _ _ _ hG (hst.tmps i _ v h1 hv)).ext e
  · exact
    { hst.mem.weaken (free' := fun l => s'.next ≤ l) (fun l hl => hf l (Nat.le_trans h.next hl)) with
      heap := fun l b' hb' => by
        obtain ⟨b, hb, hle⟩ := h.H l b' hb'
        have h0 := hst.mem.heap l b hb
        have h1 := BlkRel.ext e h0 (fun _ _ => rfl)
        cases b with
        | row T t xs => cases b' with
          | row T' t' xs' => cases hle; exact h1
          | box cs => cases hle
        | box cs => cases b' with
          | row T' t' xs' => cases hle
          | box ds =>
            obtain ⟨b, vs, T, g1, g2, g3, g4⟩ := h0
            refine ⟨b, vs, T, g1, g2, g3.trans hle.1, fun i x v hx hv => ?_⟩
            have hlt : i < cs.length := by
              rw [hle.1]
              rcases Nat.lt_or_ge i ds.length with h1 | h1
              · exact h1
              · rw [List.getElem?_eq_none h1] at hx; cases hx
            have h1 : cs[i]? = some cs[i] := List.getElem?_eq_getElem hlt
            exact (hle.2 i _ x h1 hx _ _ _ _ hG (g4 i _ v h1 hv)).ext e
      own := fun l b' c hb' hm => by
        obtain ⟨b, hb, _⟩ := h.H l b' hb'
        exact hst.mem.own l b c hb hm
      inj := fun l l' b b' c hb hb' hm hm' => by
        obtain ⟨b1, hb1, _⟩ := h.H l b hb
        obtain ⟨b2, hb2, _⟩ := h.H l' b' hb'
        exact hst.mem.inj l l' b1 b2 c hb1 hb2 hm hm' }

theorem ASat.le {todo : List Item} (hh : isHead todo = true) (hle : AS.Le s s') (h : ASat P F E todo s') : ASat P F E todo s := by
  intro hok a w K m hst
  have hn := noReg_of_head hh hok
  exact h hok a w K m ((hst.le hle (fun l hl => (freeOf_of hn _ _).2 hl)).weaken (fun l hl => (freeOf_of hn _ _).1 hl))

/-! ### a row that is written no more -/
def AV.thaw (H : Heap) (l : Nat) : AV → AV
  | .own l' t => bif l' == l then (match (AV.own l' t).toD H with | some r => .d r.1 | none => .own l' t) else .own l' t
  | a => a
def ABlk.thaw (H : Heap) (l : Nat) : ABlk → ABlk
  | .box cs => .box (cs.map (AV.thaw H l))
  | b => b
def thawH (H0 : Heap) (l : Nat) : Heap → Heap
  | [] => []
  | (k, b) :: h => (k, b.thaw H0 l) :: thawH H0 l h
theorem get_thaw (H0 : Heap) (l : Nat) : ∀ (h : Heap) (k : Nat), (thawH H0 l h).get k = (h.get k).map (ABlk.thaw H0 l)
  | [], k => rfl
  | (j, b) :: h, k => by
    show (bif j == k then some (b.thaw H0 l) else Heap.get (thawH H0 l h) k) = Option.map _ (bif j == k then some b else Heap.get h k)
    cases (j == k)
    · exact get_thaw H0 l h k
    · rfl
def AS.freeze (l : Nat) (s : AS) : AS := ⟨s.tmps.map (AV.thaw s.H l), thawH s.H l (s.H.put l none), s.next⟩

theorem own_toD {l : Nat} {t : Ty} {r : D × Prop × List Nat} (h : (AV.own l t).toD H = some r) : r.2.1 ∧ r.2.2 = [l] := by
  simp only [AV.toD] at h
  split at h
  · split at h
    · cases h; exact ⟨trivial, rfl⟩
    · cases h
  · cases h
theorem Rel.thaw {K' : Nat → Prop} {l : Nat} (hM : Mem E w K m H free) {H1 : Heap} (e : Ext w K m H w K' m H1) (hk : ∀ b blk, H.get l = some blk → m l = some (some b) → K' b) {a : AV} {v : Value} (h : Rel w K m H a v) : Rel w K' m H1 (a.thaw H l) v := by
  unfold AV.thaw
  split
  · rename_i l' t
    by_cases hl : l' = l
    · subst hl
      rw [show (l' == l') = true by simp, cond_true]
      split
      · rename_i r hr
        obtain ⟨hp, hfz⟩ := own_toD hr
        obtain ⟨d, p, fz⟩ := r
        have hfz : fz = [l'] := hfz
        subst hfz
        obtain ⟨hR, hg⟩ := toD_rel hM hr hp h
        refine .d _ _ (hR.ext (fun b hb => ?_) (fun _ _ => rfl))
        exact KF_gives e.hK hg (fun k hkm b2 blk hb2 hm2 => by
          have : k = l' := by simpa using hkm
          subst this; exact hk b2 blk hb2 hm2) b hb
      · exact h.ext e
    · rw [show (l' == l) = false by simpa using hl, cond_false]
      exact h.ext e
  · exact h.ext e

theorem St.freeze (hst : St E s a w K m free) (l : Nat) : ∃ K', St E (s.freeze l) a w K' m free := by
  obtain ⟨K', M, e, hk⟩ := hst.mem.give l
  have e2 : Ext w K' m (s.H.put l none) w K' m (thawH s.H l (s.H.put l none)) := ⟨fun _ h => h, fun _ _ => rfl, fun _ _ h => h, fun _ _ h => h, fun j T t xs _ hx => by
    rw [get_thaw] at hx
    cases hg : (s.H.put l none).get j with
    | none => rw [hg] at hx; cases hx
    | some b =>
      rw [hg] at hx
      cases b with
      | box cs => cases hx
      | row T' t' xs' => cases hx; exact ⟨_, rfl, rfl⟩⟩
  have gg : ∀ k blk, (thawH s.H l (s.H.put l none)).get k = some blk → ∃ b1, (s.H.put l none).get k = some b1 ∧ blk = b1.thaw s.H l := by
    intro k blk h
    rw [get_thaw] at h
    cases hg : (s.H.put l none).get k with
    | none => rw [hg] at h; cases h
    | some b => rw [hg] at h; cases h; exact ⟨b, rfl, rfl⟩
  refine ⟨K', by rw [hst.len]; simp [AS.freeze], fun i x v hx hv => ?_, hst.defers, ?_⟩
  · have hx : (s.tmps.map (AV.thaw s.H l))[i]? = some x := hx
    rw [List.getElem?_map, Option.map_eq_some_iff] at hx
    obtain ⟨y, hy, rfl⟩ := hx
    exact (Rel.thaw hst.mem e hk (hst.tmps i y v hy hv)).ext e2
  · exact { M with
      heap := fun k blk hb => by
        obtain ⟨b1, h1, rfl⟩ := gg k blk hb
        cases b1 with
        | row T t xs => exact BlkRel.ext e2 (M.heap k _ h1) (fun _ _ => rfl)
        | box cs =>
          have hkl : k ≠ l := fun e => by subst e; rw [Heap.get_put_self] at h1; cases h1
          rw [Heap.get_put _ hkl] at h1
          obtain ⟨b, vs, T, g1, g2, g3, g4⟩ := hst.mem.heap k _ h1
          refine ⟨b, vs, T, g1, g2, by simp [g3], fun i x v hx hv => ?_⟩
          rw [List.getElem?_map, Option.map_eq_some_iff] at hx
          obtain ⟨y, hy, rfl⟩ := hx
          exact (Rel.thaw hst.mem e hk (g4 i y v hy hv)).ext e2
      own := fun k blk b hb hm => by
        obtain ⟨b1, h1, rfl⟩ := gg k blk hb
        exact M.own k b1 b h1 hm
      inj := fun k k' b1 b2 b hb hb' hm hm' => by
        obtain ⟨c1, h1, _⟩ := gg k b1 hb
        obtain ⟨c2, h2, _⟩ := gg k' b2 hb'
        exact M.inj k k' c1 c2 b h1 h2 hm hm' }

theorem ASat.freeze {todo : List Item} (hh : isHead todo = true) (l : Nat) (h : ASat P F E todo (s.freeze l)) : ASat P F E todo s := by
  intro hok a w K m hst
  obtain ⟨K', hst'⟩ := hst.freeze l
  exact h hok a w K' m hst'

/-! ### some no-number, with its bits -/
def AS.nanB (i b : Nat) (s : AS) : AS := match s.tmps[i]? with
  | some (.d (.f none)) => { s with tmps := s.tmps.set i (.d (.f (some b))) }
  | _ => s
theorem ASat.nan {todo : List Item} (i : Nat) (h : ∀ b, nanBits b → ASat P F E todo (s.nanB i b)) : ASat P F E todo s := by
  intro hok a w K m hst
  unfold AS.nanB at h
  split at h
  · rename_i hi
    have hlt : i < s.tmps.length := (List.getElem?_eq_some_iff.1 hi).1
    have hla : i < a.tmps.size := by rw [hst.len]; exact hlt
    have hv : a.tmps[i]? = some a.tmps[i] := Array.getElem?_eq_getElem hla
    have hr := hst.tmps i _ _ hi hv
    obtain ⟨b, hb, hvb⟩ : ∃ b, nanBits b ∧ a.tmps[i] = .float .f64 b := by
      generalize a.tmps[i] = v at hr
      cases hr with
      | d _ _ h => cases h with
        | f _ b hb => exact ⟨b, hb, rfl⟩
    refine h b hb hok a w K m ⟨by simpa using hst.len, fun j x v hx hv' => ?_, hst.defers, hst.mem⟩
    simp only at hx
    rw [List.getElem?_set] at hx
    split at hx
    · rename_i hij
      subst hij
      (try rw [if_pos hlt] at hx)
      simp only [Option.some.injEq] at hx
      subst hx
      rw [hv] at hv'
      simp only [Option.some.injEq] at hv'
      subst hv'
      rw [hvb]
      exact .d _ _ (.f _ _ rfl)
    · exact hst.tmps j x v hx hv'
  · exact h 9221120237041090561 (by unfold nanBits; decide +kernel) hok a w K m hst

/-! ### what the abstract machine carries back -/
structure Closed {α : Type} (P : Program) (C : Codes) (S : Sigs) (fn : Func) (fin : Fin α) (R0 : α → Prop) (n0 : Nat) (A : List Item → AS → Prop) : Prop where
  run : ∀ cu n fst todo s, Sat P A R0 (aexec P C S fn fin n0 cu n fst todo s) → A todo s
  canon : ∀ todo s live, isHead todo = true → A todo (s.canon n0 live) → A todo s
  ghost : ∀ todo s i T t, isHead todo = true → A todo (s.ghost i T t) → A todo s
  ghostB : ∀ todo s l j T t, isHead todo = true → A todo (s.ghostB l j T t) → A todo s
  le : ∀ todo s s', isHead todo = true → AS.Le s s' → A todo s' → A todo s
  freeze : ∀ todo s l, isHead todo = true → A todo (s.freeze l) → A todo s
  nan : ∀ todo s i, (∀ b, nanBits b → A todo (s.nanB i b)) → A todo s

/-- From a point of the text on. -/
theorem Closed.go {fn : Func} {fin : Fin α} {R0 : α → Prop} {n0 : Nat} {A : List Item → AS → Prop} (hA : Closed P C S fn fin R0 n0 A) {cu : Cuts} {n : Nat} {fst : Bool} {todo : List Item} {s : AS} {T : Out α}
    (he : aexec P C S fn fin n0 cu n fst todo s = T) (h : Sat P A R0 T) : A todo s := by
  refine hA.run cu n fst todo s ?_
  rw [he]; exact h

/-- A nil slice, taken as an empty row. -/
theorem Closed.row {fn : Func} {fin : Fin α} {R0 : α → Prop} {n0 : Nat} {A : List Item → AS → Prop} (hA : Closed P C S fn fin R0 n0 A) (i : Nat) (T : TypeId) (t : Ty) {todo : List Item} {s s' : AS}
    (hh : isHead todo = true) (he : (s.ghost i T t).canon n0 (liveT (liveR fn) todo).1 = s') (h : A todo s') : A todo s :=
  hA.ghost todo s i T t hh (hA.canon todo _ _ hh (by rw [he]; exact h))

theorem Closed.boxrow {fn : Func} {fin : Fin α} {R0 : α → Prop} {n0 : Nat} {A : List Item → AS → Prop} (hA : Closed P C S fn fin R0 n0 A) (l j : Nat) (T : TypeId) (t : Ty) {todo : List Item} {s s' : AS}
    (hh : isHead todo = true) (he : (s.ghostB l j T t).canon n0 (liveT (liveR fn) todo).1 = s') (h : A todo s') : A todo s :=
  hA.ghostB todo s l j T t hh (hA.canon todo _ _ hh (by rw [he]; exact h))

/-- A row that is written no more, taken as plain data. -/
theorem Closed.frz {fn : Func} {fin : Fin α} {R0 : α → Prop} {n0 : Nat} {A : List Item → AS → Prop} (hA : Closed P C S fn fin R0 n0 A) (l : Nat) {todo : List Item} {s s' : AS}
    (hh : isHead todo = true) (he : (s.freeze l).canon n0 (liveT (liveR fn) todo).1 = s') (h : A todo s') : A todo s :=
  hA.freeze todo s l hh (hA.canon todo _ _ hh (by rw [he]; exact h))

theorem asat_closed {fn : Func} {fin : Fin α} {R0 : α → Prop} {n0 : Nat} (hmx : P.follows .mixedOrders = true) (hfin : FinR P fn E fin R0 F) (hn : E.n ≤ n0) :
    Closed P C S fn fin R0 n0 (ASat P F E) :=
  ⟨fun cu n fst todo s hs => aexec_sound (cu := cu) hmx hfin hn n fst todo s hs, fun todo s live hh h => ASat.canon hh hn h, fun todo s i T t hh h => ASat.ghost hh i T t h, fun todo s l j T t hh h => ASat.ghostB hh l j T t h, fun todo s s' hh hle h => ASat.le hh hle h, fun todo s l hh h => ASat.freeze hh l h, fun todo s i h => ASat.nan i h⟩

theorem Pure.of_closed {fn : Func} (hmx : P.follows .mixedOrders = true) (hf : P.funcs[f]? = some fn) (hb : fn.body.isSome = true) {args : List Arg} {ts : List Ty} {x : TyTup ts} (hnt : args.length ≤ fn.ntmps)
    (h : ∀ A, Closed P C S fn (pureFin ts) (· = x) 0 A → A (bodyOf fn) (startS fn args)) : Pure P f args ts x :=
  Pure.of_sat hf hb hnt fun E hE _ hfin => h _ (asat_closed hmx (finR_of hf hfin) (by omega))

theorem Pure.of_tree {fn : Func} (hmx : P.follows .mixedOrders = true) (hf : P.funcs[f]? = some fn) (hb : fn.body.isSome = true) {args : List Arg} {ts : List Ty} {x : TyTup ts} (hnt : args.length ≤ fn.ntmps) {cu : Cuts} {n : Nat} {fst : Bool} {T : Out (TyTup ts)}
    (he : aexec P C S fn (pureFin ts) 0 cu n fst (bodyOf fn) (startS fn args) = T) (h : ∀ A, Sat P A (· = x) T) : Pure P f args ts x :=
  Pure.of_closed (C := C) (S := S) hmx hf hb hnt fun A hA => hA.go he (h A)

/-! ### contracts of functions that change memory -/
structure GRes.Le (r' r : GRes) : Prop where
  len : r'.res.length = r.res.length
  res : ∀ (i : Nat) x y, r'.res[i]? = some x → r.res[i]? = some y → AVle r'.H x y
  H : ∀ l b', r.H.get l = some b' → ∃ b, r'.H.get l = some b ∧ BLe r'.H b b'
  n : r'.n ≤ r.n
theorem GRes.Le.refl (r : GRes) : GRes.Le r r := ⟨rfl, fun i x y hx hy => by rw [hx] at hy; cases hy; exact .refl _ _, fun l b hb => ⟨b, hb, .refl _ b⟩, Nat.le_refl _⟩
theorem GRes.Le.of_eq {r' r : GRes} (h : r' = r) : GRes.Le r' r := h ▸ .refl r'

def gFin (n0 : Nat) : Fin GRes := fun vs H =>
  bif nodupB (reachN H 200 0 (addsN (List.range n0) (namesL vs))) && startB n0 (reachN H 200 0 (addsN (List.range n0) (namesL vs))) then
    some (⟨renL (idxN (reachN H 200 0 (addsN (List.range n0) (namesL vs)))) vs, renH (idxN (reachN H 200 0 (addsN (List.range n0) (namesL vs)))) H (reachN H 200 0 (addsN (List.range n0) (namesL vs))) 0, (reachN H 200 0 (addsN (List.range n0) (namesL vs))).length⟩, True)
  else none

def GEnd (E : Entry) (r : GRes) (e : Ending) (w' : World) : Prop := ∃ v K' m', e = .returned v ∧ Rel w' K' m' r.H (tupA r.res) v ∧ Mem E w' K' m' r.H (fun l => r.n ≤ l)

theorem tup_rel {H : Heap} {as : List AV} {vs : List Value} (hl : vs.length = as.length) (h : ∀ (i : Nat) (y : AV) (v : Value), as[i]? = some y → vs[i]? = some v → Rel w K m H y v) :
    Rel w K m H (tupA as) (if h : vs.toArray.size = 1 then vs.toArray[0] else .tuple vs.toArray) := by
  match as, vs, hl, h with
  | [], [], _, _ => exact .tup [] _ rfl (fun i a v h => by simp at h)
  | [a], [v], _, h => exact h 0 a v rfl rfl
  | a :: a' :: as, v :: v' :: vs, hl, h =>
    have hn : ¬ (v :: v' :: vs).toArray.size = 1 := by simp
    rw [dif_neg hn]
    exact .tup _ _ (by simpa using hl) (fun i y u hy hu => h i y u hy (by simpa using hu))

theorem g_fin {fn : Func} (r : GRes) : FinOK P fn E (gFin E.n) (fun r' => GRes.Le r' r) (GEnd E r) := by
  intro s a w K m free avs r' p hst hres hfin hp hle
  obtain ⟨vs, hrun, hlen, hrel⟩ := results_run (P := P) hst hres
  refine ⟨_, hrun, ?_⟩
  unfold gFin at hfin
  cases hc : (nodupB (reachN s.H 200 0 (addsN (List.range E.n) (namesL avs))) && startB E.n (reachN s.H 200 0 (addsN (List.range E.n) (namesL avs))))
  · rw [hc] at hfin; cases hfin
  rw [hc] at hfin
  simp only [cond_true, Option.some.injEq, Prod.mk.injEq] at hfin
  obtain ⟨hr, _⟩ := hfin
  obtain ⟨h1, h2⟩ := Bool.and_eq_true_iff.1 hc
  generalize reachN s.H 200 0 (addsN (List.range E.n) (namesL avs)) = ns at h1 h2 hr
  subst hr
  have hM := hst.mem.ren (nodupB_spec h1) (fun i hi => startB_spec h2 i hi)
  have e : Ext w K (mOf m ns) (renH (idxN ns) s.H ns 0) w K (mOf m ns) r.H := ⟨fun _ h => h, fun _ _ => rfl, fun _ _ h => h, fun _ _ h => h, fun l T t xs _ hx => by
    obtain ⟨b, hb, hb2⟩ := hle.H l _ hx
    cases b with
    | box cs => cases hb2
    | row T' t' xs' => cases hb2; exact ⟨xs, hb, rfl⟩⟩
  have hMle : Mem E w K (mOf m ns) r.H (fun l => r.n ≤ l) :=
    (St.le (s := ⟨[], renH (idxN ns) s.H ns 0, ns.length⟩) (s' := ⟨[], r.H, r.n⟩) (a := { tmps := #[], defers := [] }) ⟨rfl, fun i x v hx => by simp at hx, rfl, hM⟩
      ⟨rfl, fun i x y hx => by simp at hx, hle.H, hle.n⟩ (fun l hl => hl)).mem
  refine ⟨_, K, mOf m ns, rfl, tup_rel (hlen.trans ?_) (fun i y v hy hv => ?_), hMle⟩
  · have := hle.len; simp only [renL_length] at this; exact this
  · have hlt : i < avs.length := by
      have h3 := hle.len
      simp only [renL_length] at h3
      rw [h3]
      rcases Nat.lt_or_ge i r.res.length with h | h
      · exact h
      · rw [List.getElem?_eq_none h] at hy; cases hy
    have hx : avs[i]? = some avs[i] := List.getElem?_eq_getElem hlt
    have hx' : (renL (idxN ns) avs)[i]? = some (avs[i].ren (idxN ns)) := by rw [renL_get, hx]; rfl
    exact (hle.res i _ y hx' hy _ _ _ _ hM.heap (rel_ren (hrel i _ v hx hv))).ext e

def startG (fn : Func) (as : List AV) (H0 : Heap) (n0 : Nat) : AS := ⟨as ++ List.replicate (fn.ntmps - as.length) (.d (.v undef)), H0, n0⟩

theorem Gc.of_closed {fn : Func} (hmx : P.follows .mixedOrders = true) (hf : P.funcs[f]? = some fn) (hb : fn.body.isSome = true) {as : List AV} {H0 : Heap} {n0 : Nat} {r : GRes}
    (hrow : ∀ i T t xs, i < n0 → r.H.get i = some (.row T t xs) → ∃ ys, H0.get i = some (.row T t ys) ∧ ys.length = xs.length)
    (h : ∀ A, Closed P C S fn (gFin n0) (fun r' => GRes.Le r' r) n0 A → A (bodyOf fn) (startG fn as H0 n0)) : Gc P f as H0 n0 r := by
  refine ⟨hrow, fun w K m vs hM hvs hrel => ?_⟩
  obtain ⟨c, hc⟩ := Option.isSome_iff_exists.1 hb
  have hbody : bodyOf fn = [.code c] := by simp [bodyOf, hc]
  refine calls_of_runs hf hc ?_
  have h1 := h _ (asat_closed (E := ⟨w, K, m, n0⟩) hmx (finR_of hf (g_fin (E := ⟨w, K, m, n0⟩) r)) (Nat.le_refl n0))
  rw [hbody] at h1
  refine h1 (fun ops l hm => by simp at hm) _ w K m ⟨by simp [startG, hvs], fun i y v hy hv => ?_, rfl, hM⟩
  simp only [startG] at hy ⊢
  rw [List.getElem?_append] at hy
  rw [Array.getElem?_append, hvs] at hv
  split at hy
  · rename_i hi
    rw [if_pos hi] at hv
    exact hrel i y v hy hv
  · rename_i hi
    rw [if_neg hi] at hv
    rw [List.getElem?_replicate] at hy
    rw [Array.getElem?_replicate] at hv
    by_cases hc2 : i - as.length < fn.ntmps - as.length
    · rw [if_pos hc2] at hy hv
      simp only [Option.some.injEq] at hy hv; subst hy; subst hv; exact .d _ _ (.v _)
    · rw [if_neg hc2] at hy; cases hy

/-! ### the heads of the loops, by number -/
def headsC : Code → List Item → List (List Item)
  | .loop b, k => (.code b :: .inLoop b :: k) :: headsC b (.inLoop b :: k)
  | .seq a b, k => headsC a (.code b :: k) ++ headsC b k
  | .cond _ t e, k => headsC t k ++ headsC e k
  | .block id b, k => headsC b (.inBlock id :: k)
  | .scope b, k => headsC b (.inScope b :: k)
  | _, _ => []
def hd (fn : Func) (i : Nat) : List Item := match fn.body with
  | some c => (headsC c []).getD i []
  | none => []

/-- All points of a text: heads of loops, regions, returns. -/
def ptsC : Code → List Item → List (List Item)
  | .loop b, k => ptsC b (.inLoop b :: k)
  | .seq a b, k => ptsC a (.code b :: k) ++ ptsC b k
  | .cond _ t e, k => ptsC t k ++ ptsC e k
  | .block id b, k => ptsC b (.inBlock id :: k)
  | .scope b, k => ptsC b (.inScope b :: k)
  | .region id ops d, k => [.code (.region id ops d) :: k]
  | .ret, k => [.code .ret :: k]
  | _, _ => []
def isRg (id : Nat) : List Item → Bool
  | .code (.region j _ _) :: _ => j == id
  | _ => false
def isRet : List Item → Bool
  | .code .ret :: _ => true
  | _ => false
/-- The point ahead of a region; the point ahead of a return. -/
def rg (fn : Func) (id : Nat) : List Item := match fn.body with
  | some c => ((ptsC c []).filter (isRg id)).headD []
  | none => []
def rt (fn : Func) (i : Nat) : List Item := match fn.body with
  | some c => ((ptsC c []).filter isRet).getD i []
  | none => []

/-- The ranges over functions. -/
def rfsC : Code → List Item → List (List Item)
  | .loop b, k => rfsC b (.inLoop b :: k)
  | .seq a b, k => rfsC a (.code b :: k) ++ rfsC b k
  | .cond _ t e, k => rfsC t k ++ rfsC e k
  | .block id b, k => rfsC b (.inBlock id :: k)
  | .scope b, k => rfsC b (.inScope b :: k)
  | .rangeFunc g ps x b, k => [.code (.rangeFunc g ps x b) :: k]
  | _, _ => []
def rf (fn : Func) (i : Nat) : List Item := match fn.body with
  | some c => (rfsC c []).getD i []
  | none => []
def rfG : List Item → Operand | .code (.rangeFunc g _ _ _) :: _ => g | _ => .tmp 0
def rfP : List Item → Array Tmp | .code (.rangeFunc _ p _ _) :: _ => p | _ => #[]
def rfA : List Item → Code | .code (.rangeFunc _ _ x _) :: _ => x | _ => .skip
def rfB : List Item → Code | .code (.rangeFunc _ _ _ b) :: _ => b | _ => .skip
def rfK : List Item → List Item := List.tail
def isRf : List Item → Bool | .code (.rangeFunc _ _ _ _) :: _ => true | _ => false
/-- A round, ahead of its beginning; behind it. -/
def rd (fn : Func) (i : Nat) : List Item := [.code (rfA (rf fn i)), .beginRound, .code (rfB (rf fn i))]
def rb (fn : Func) (i : Nat) : List Item := [.beginRound, .code (rfB (rf fn i))]
/-- The point in a region ahead of its operation i. -/
def inR (fn : Func) (id i : Nat) : List Item := match rg fn id with
  | .code (.region _ ops _) :: k => .inRegion ops ((List.range ops.size).drop i) :: k
  | _ => []

def noCut : Cuts := ⟨[], false⟩

/-- A state, by its slots. -/
def mkS (n : Nat) (l : List (Nat × AV)) (H : Heap) (next : Nat) : AS := ⟨l.foldl (fun ts p => ts.set p.1 p.2) (List.replicate n .dead), H, next⟩

end Go.VL

/-
  The value layer, part 27: arguments that come from outside, read as data. (Own work.)
-/
namespace Go.VL
open Go.ChangeShapes Go.WideShapes

/-- The kind of a cell. -/
inductive Kd where
  | i (k : IntKind)
  | b
  | s
  | f
  | sl (t : Ty)
  deriving DecidableEq

def D.kd : D → Option Kd
  | .v (.int k _) => some (.i k)
  | .v (.bool _) => some .b
  | .v (.string _) => some .s
  | .f _ => some .f
  | .sl t _ => some (.sl t)
  | _ => none
def Ty.kd (t : Ty) : List (Option Kd) := (enc t t.dflt).map D.kd

/-- What came from outside is within its bounds. -/
inductive D.Wf : D → Prop
  | int (k : IntKind) (n : Int) (h : (Lit.int k n).wf = true) : D.Wf (.v (.int k n))
  | bool (b : Bool) : D.Wf (.v (.bool b))
  | str (b : ByteArray) (h : b.size ≤ maxLen) : D.Wf (.v (.string b))
  | flt (b : Nat) (h : (Lit.float .f64 b).wf = true) : D.Wf (.f (some b))
  | sl (t : Ty) (xs : List t.ty) (hl : xs.length ≤ maxLen) (h : ∀ x ∈ xs, ∀ d ∈ enc t x, D.Wf d) : D.Wf (.sl t xs)
def wfT (t : Ty) (x : t.ty) : Prop := ∀ d ∈ enc t x, D.Wf d

theorem kd_int {d : D} {k : IntKind} (h : d.kd = some (.i k)) : ∃ n, d = .v (.int k n) := by
  unfold D.kd at h; split at h <;> simp at h; subst h; exact ⟨_, rfl⟩
theorem kd_bool {d : D} (h : d.kd = some .b) : ∃ n, d = .v (.bool n) := by
  unfold D.kd at h; split at h <;> simp at h; exact ⟨_, rfl⟩
theorem kd_str {d : D} (h : d.kd = some .s) : ∃ n, d = .v (.string n) := by
  unfold D.kd at h; split at h <;> simp at h; exact ⟨_, rfl⟩
theorem kd_flt {d : D} (h : d.kd = some .f) : ∃ n, d = .f n := by
  unfold D.kd at h; split at h <;> simp at h; exact ⟨_, rfl⟩
theorem kd_sl {d : D} {t : Ty} (h : d.kd = some (.sl t)) : ∃ xs, d = .sl t xs := by
  unfold D.kd at h; split at h <;> simp at h; subst h; exact ⟨_, rfl⟩

theorem enc_of_kd {t : Ty} {ds : List D} (h : ds.map D.kd = t.kd) : ∃ x : t.ty, enc t x = ds := by
  cases t <;> simp only [Ty.kd, enc, Ty.dflt, List.map_cons, List.map_nil, List.map_eq_cons_iff, List.map_eq_nil_iff, D.kd] at h <;>
    repeat' (first
      | (obtain ⟨_, _, rfl, hk, h⟩ := h; obtain ⟨_, rfl⟩ := kd_int hk; clear hk)
      | (obtain ⟨_, _, rfl, hk, h⟩ := h; obtain ⟨_, rfl⟩ := kd_flt hk; clear hk)
      | (obtain ⟨_, _, rfl, hk, h⟩ := h; obtain ⟨_, rfl⟩ := kd_sl hk; clear hk)
      | (obtain ⟨_, _, rfl, hk, h⟩ := h; obtain ⟨_, rfl⟩ := kd_bool hk; clear hk)
      | (obtain ⟨_, _, rfl, hk, h⟩ := h; obtain ⟨_, rfl⟩ := kd_str hk; clear hk)
      | (subst h))
  all_goals first
    | exact ⟨_, rfl⟩
    | exact ⟨⟨_, _⟩, rfl⟩
    | exact ⟨⟨_, _, _⟩, rfl⟩
    | exact ⟨⟨_, _, _, _⟩, rfl⟩
    | exact ⟨⟨_, _, _, _, _⟩, rfl⟩
    | exact ⟨⟨_, _, _, _, _, _⟩, rfl⟩
    | exact ⟨⟨_, _, _, _, _, _, _⟩, rfl⟩
    | exact ⟨⟨⟨_, _, _, _⟩, ⟨_, _, _, _, _, _⟩, _⟩, rfl⟩
    | exact ⟨⟨_, ⟨_, _, _, _, _, _⟩⟩, rfl⟩

def goK (P : Program) (k : TypeId → Option (List (Option Kd))) : List Field → Nat → Option (List (Option Kd))
  | [], _ => some []
  | f :: fs, off => (k f.type).bind fun ks => bif f.offset == off && ks.length == P.cellsOf f.type then (goK P k fs (off + ks.length)).map fun r => ks ++ r else none
/-- The kinds of the cells of a type. -/
def kindsOf (P : Program) (C : Codes) : Nat → TypeId → Option (List (Option Kd))
  | 0, _ => none
  | n + 1, t => match P.underlying t with
    | some .bool => some [some .b]
    | some (.int k) => some [some (.i k)]
    | some (.float .f64) => some [some .f]
    | some .string => some [some .s]
    | some (.slice e) => (C e).bind fun te => bif P.cellsOf e == te.size && (kindsOf P C n e == some te.kd) then some [some (.sl te)] else none
    | some (.struct fs) => (goK P (kindsOf P C n) fs.toList 0).bind fun ks => bif ks.length == P.cellsOf t then some ks else none
    | _ => none

section
variable {H : Type} {en : TypeId × Value → H} {P : Program} {C : Codes} {w : World} {base : Nat} {spare : Nat → Bool} {held : Bool}

/-- Cells read as data. -/
structure RdC (w : World) (cs : List Value) (ks : List (Option Kd)) (ds : List D) : Prop where
  kd : ds.map D.kd = ks
  len : cs.length = ds.length
  rel : ∀ (j : Nat) (d : D) (v : Value), ds[j]? = some d → cs[j]? = some v → RelD w (fun b => b < w.heap.size) d v
  wf : ∀ d ∈ ds, D.Wf d

theorem RdC.app {cs cs' : List Value} {ks ks' : List (Option Kd)} {ds ds' : List D} (h : RdC w cs ks ds) (h' : RdC w cs' ks' ds') : RdC w (cs ++ cs') (ks ++ ks') (ds ++ ds') where
  kd := by rw [List.map_append, h.kd, h'.kd]
  len := by simp [h.len, h'.len]
  rel j d v hd hv := by
    rw [List.getElem?_append] at hd hv
    rw [h.len] at hv
    split at hd
    · rename_i hj; rw [if_pos hj] at hv; exact h.rel j d v hd hv
    · rename_i hj; rw [if_neg hj] at hv; exact h'.rel _ d v hd hv
  wf d hd := by
    rcases List.mem_append.1 hd with hd | hd
    · exact h.wf d hd
    · exact h'.wf d hd

theorem RdC.one {v : Value} {d : D} {k : Option Kd} (hk : d.kd = k) (hr : RelD w (fun b => b < w.heap.size) d v) (hw : D.Wf d) : RdC w [v] [k] [d] where
  kd := by simp [hk]
  len := rfl
  rel j d' v' hd hv := by
    cases j with
    | zero => simp at hd hv; subst hd; subst hv; exact hr
    | succ j => simp at hd
  wf d' hd := by simp at hd; subst hd; exact hw

theorem cellsOf_pos_cell {a : Addr} {n : Nat} {cs : List Value} (h : w.cells? base a n = some cs) (hn : 0 < n) : a.spot = none ∧ a.block < w.heap.size := by
  obtain ⟨_, hl, hc⟩ := World.cells?_some h
  have h0 := hc 0 hn
  have h1 : cs[0]? = some cs[0] := List.getElem?_eq_getElem (by omega)
  rw [h1] at h0
  have h0 : w.cell? a = some cs[0] := by simpa [Addr.add] using h0
  refine ⟨World.cell?_spot h0, ?_⟩
  unfold World.cell? at h0
  split at h0
  · rename_i hb
    rcases Nat.lt_or_ge a.block w.heap.size with h2 | h2
    · exact h2
    · rw [Array.getElem?_eq_none h2] at hb; cases hb
  · cases h0

theorem trod_f64 {fuel : Nat} {t : TypeId} {cs : List Value} {x : DataW H × List MemPlace} (ht : P.underlying t = some (.float .f64)) (h : DataW.trod en P w base spare held fuel t cs = some x) :
    ∃ b, cs = [.float .f64 b] ∧ x = (.lit (.float .f64 b), []) ∧ (Lit.float .f64 b).wf = true := by
  cases fuel with
  | zero => simp [DataW.trod] at h
  | succ n =>
    unfold DataW.trod at h
    rw [ht] at h
    split at h <;> simp_all

/-- Cells that came from outside, read. -/
theorem read : ∀ (fuel n : Nat) (t : TypeId) (cs : List Value) (x : DataW H × List MemPlace) (ks : List (Option Kd)),
    DataW.trod en P w base spare held fuel t cs = some x → kindsOf P C n t = some ks → ∃ ds, RdC w cs ks ds
  | fuel, 0, t, cs, x, ks, _, hk => by simp [kindsOf] at hk
  | fuel, n + 1, t, cs, x, ks, h, hk => by
    unfold kindsOf at hk
    split at hk
    · rename_i ht
      simp only [Option.some.injEq] at hk; subst hk
      obtain ⟨b, rfl, _⟩ := DataW.trod_bool ht h
      exact ⟨[.v (.bool b)], .one rfl (.v _) (.bool b)⟩
    · rename_i k ht
      simp only [Option.some.injEq] at hk; subst hk
      obtain ⟨b, rfl, _, hw⟩ := DataW.trod_int ht h
      exact ⟨[.v (.int k b)], .one rfl (.v _) (.int k b hw)⟩
    · rename_i ht
      simp only [Option.some.injEq] at hk; subst hk
      obtain ⟨b, rfl, _, hw⟩ := trod_f64 ht h
      exact ⟨[.f (some b)], .one rfl (.f _ _ rfl) (.flt b hw)⟩
    · rename_i ht
      simp only [Option.some.injEq] at hk; subst hk
      obtain ⟨b, rfl, _, hw⟩ := DataW.trod_string ht h
      exact ⟨[.v (.string b)], .one rfl (.v _) (.str b hw)⟩
    · rename_i e ht
      simp only [Option.bind_eq_some_iff] at hk
      obtain ⟨te, hC, hk⟩ := hk
      cases hc : (P.cellsOf e == te.size && (kindsOf P C n e == some te.kd)) with
      | false => rw [hc] at hk; cases hk
      | true =>
        rw [hc] at hk
        simp only [cond_true, Option.some.injEq] at hk; subst hk
        obtain ⟨hsz, hke⟩ := Bool.and_eq_true_iff.1 hc
        have hsz : P.cellsOf e = te.size := by simpa using hsz
        have hke : kindsOf P C n e = some te.kd := by simpa using hke
        rcases DataW.trod_slice ht h with ⟨rfl, _⟩ | ⟨a, len, cap, elems, rest, m, _, rfl, _, hb, hl, hm, hlen, hel, _, _⟩
        · exact ⟨[.sl te []], .one rfl (.sl0 te none 0) (.sl te [] (Nat.zero_le _) (fun x hx => by cases hx))⟩
        · have pos := size_pos te
          have each : ∀ i, i < len → ∃ (y : te.ty) (c : List Value), w.cells? base (a.add (i * te.size)) te.size = some c ∧ RdC w c te.kd (enc te y) := by
            intro i hi
            have h1 := hel i hi
            rw [List.getElem?_eq_getElem (by omega : i < elems.length)] at h1
            simp only [hsz, Option.bind_eq_some_iff] at h1
            obtain ⟨c, h1, h2⟩ := h1
            obtain ⟨ds, h3⟩ := read m n e c _ _ h2 hke
            obtain ⟨y, rfl⟩ := enc_of_kd h3.kd
            exact ⟨y, c, h1, h3⟩
          by_cases h0 : len = 0
          · subst h0
            exact ⟨[.sl te []], .one rfl (.sl0 te (some a) cap) (.sl te [] (Nat.zero_le _) (fun x hx => by cases hx))⟩
          · have hch : ∃ f : Nat → te.ty, ∀ i, i < len → ∃ c : List Value, w.cells? base (a.add (i * te.size)) te.size = some c ∧ RdC w c te.kd (enc te (f i)) := by
              refine ⟨fun i => if hi : i < len then (each i hi).choose else te.dflt, fun i hi => ?_⟩
              simp only [dif_pos hi]
              exact (each i hi).choose_spec
            obtain ⟨f, hf⟩ := hch
            obtain ⟨c0, hc0, _⟩ := hf 0 (by omega)
            obtain ⟨hs, hbl⟩ := cellsOf_pos_cell hc0 pos
            have e0 : a.add (0 * te.size) = a := by simp [Addr.add]
            rw [e0] at hs hbl
            obtain ⟨ab, ao, asp⟩ := a
            simp only at hs hbl; subst hs
            have add_pl : ∀ k : Nat, (⟨ab, ao, none⟩ : Addr).add k = ⟨ab, ao + k, none⟩ := fun k => by
              unfold Addr.add; split <;> simp_all
            have cell : ∀ i j, i < len → j < te.size → ∀ d, (enc te (f i))[j]? = some d → ∃ v, w.cell? ⟨ab, ao + (i * te.size + j), none⟩ = some v ∧ RelD w (fun b => b < w.heap.size) d v := by
              intro i j hi hj d hd
              obtain ⟨c, h1, h2⟩ := hf i hi
              obtain ⟨_, h3, h4⟩ := World.cells?_some h1
              have h5 := h4 j hj
              have hjc : c[j]? = some (c[j]'(by omega)) := List.getElem?_eq_getElem (by omega)
              rw [hjc, add_pl] at h5
              have : (⟨ab, ao + i * te.size, none⟩ : Addr).add j = ⟨ab, ao + (i * te.size + j), none⟩ := by
                unfold Addr.add; split <;> simp_all [Nat.add_assoc]
              rw [this] at h5
              exact ⟨_, h5, h2.rel j d _ hd hjc⟩
            have hget : ∀ i x, ((List.range len).map f)[i]? = some x → i < len ∧ x = f i := by
              intro i x hx
              simp only [List.getElem?_map, Option.map_eq_some_iff] at hx
              obtain ⟨k, hk, rfl⟩ := hx
              have : i < len := by
                rcases Nat.lt_or_ge i len with h | h
                · exact h
                · rw [List.getElem?_eq_none (by simpa using h)] at hk; cases hk
              rw [List.getElem?_range this] at hk
              cases hk
              exact ⟨this, rfl⟩
            have hxl : ((List.range len).map f).length = len := by simp
            have hjs : ∀ (y : te.ty) (j : Nat) (d : D), (enc te y)[j]? = some d → j < te.size := by
              intro y j d hd
              rcases Nat.lt_or_ge j (enc te y).length with h | h
              · rwa [enc_length] at h
              · rw [List.getElem?_eq_none h] at hd; cases hd
            refine ⟨[.sl te ((List.range len).map f)], .one rfl ?_ (.sl te _ (by rw [hxl]; omega) ?_)⟩
            · have hrel : RelD w (fun b => b < w.heap.size) (.sl te ((List.range len).map f)) (.slice (some ⟨ab, ao, none⟩) ((List.range len).map f).length cap) := by
                refine .sl te _ ab ao cap (fun i j => if h : i < len then ((enc te (f i))[j]?).elim (.bool true) (fun d => ((w.cell? ⟨ab, ao + (i * te.size + j), none⟩).getD (.bool true))) else .bool true) hbl (by rw [hxl]; exact hl) ?_ ?_
                · intro i x j d hx hd
                  obtain ⟨hi, rfl⟩ := hget i x hx
                  obtain ⟨v, h1, _⟩ := cell i j hi (hjs _ _ _ hd) d hd
                  rw [dif_pos hi, hd, h1]; rfl
                · intro i x j d hx hd
                  obtain ⟨hi, rfl⟩ := hget i x hx
                  obtain ⟨v, h1, h2⟩ := cell i j hi (hjs _ _ _ hd) d hd
                  rw [dif_pos hi, hd, h1]; exact h2
              rw [hxl] at hrel
              exact hrel
            · intro x hx d hd
              obtain ⟨i, hi0⟩ := List.getElem?_of_mem hx
              obtain ⟨hi, rfl⟩ := hget i x hi0
              obtain ⟨_, _, h2⟩ := hf i hi
              exact h2.wf d hd
    · rename_i fs ht
      simp only [Option.bind_eq_some_iff] at hk
      obtain ⟨kk, hgo, hk⟩ := hk
      cases hc : (kk.length == P.cellsOf t) with
      | false => rw [hc] at hk; cases hk
      | true =>
        rw [hc] at hk
        simp only [cond_true, Option.some.injEq] at hk; subst hk
        have hc : kk.length = P.cellsOf t := by simpa using hc
        obtain ⟨xs, m, _, _, hcl, _, hfs⟩ := DataW.trod_struct ht h
        have fields : ∀ (l : List Field) (off : Nat) (ks : List (Option Kd)), goK P (kindsOf P C n) l off = some ks → (∀ f ∈ l, ∃ y, DataW.trod en P w base spare held m f.type ((cs.drop f.offset).take (P.cellsOf f.type)) = some y) →
            off + ks.length ≤ cs.length → ∃ ds, RdC w ((cs.drop off).take ks.length) ks ds := by
          intro l
          induction l with
          | nil =>
            intro off ks hg _ _
            simp only [goK, Option.some.injEq] at hg; subst hg
            exact ⟨[], ⟨rfl, by simp, fun j d v hd => by simp at hd, fun d hd => by cases hd⟩⟩
          | cons f l ih =>
            intro off ks hg hall hle
            simp only [goK, Option.bind_eq_some_iff] at hg
            obtain ⟨k1, hk1, hg⟩ := hg
            cases hq : (f.offset == off && k1.length == P.cellsOf f.type) with
            | false => rw [hq] at hg; cases hg
            | true =>
              rw [hq] at hg
              simp only [cond_true, Option.map_eq_some_iff] at hg
              obtain ⟨r, hr, rfl⟩ := hg
              obtain ⟨q1, q2⟩ := Bool.and_eq_true_iff.1 hq
              have q1 : f.offset = off := by simpa using q1
              have q2 : k1.length = P.cellsOf f.type := by simpa using q2
              obtain ⟨y, hy⟩ := hall f (by simp)
              rw [q1, ← q2] at hy
              obtain ⟨d1, h1⟩ := read m n f.type _ _ _ hy hk1
              obtain ⟨d2, h2⟩ := ih (off + k1.length) r hr (fun f hf => hall f (by simp [hf])) (by simp only [List.length_append] at hle; omega)
              refine ⟨d1 ++ d2, ?_⟩
              have := h1.app h2
              have e : (cs.drop off).take (k1 ++ r).length = (cs.drop off).take k1.length ++ (cs.drop (off + k1.length)).take r.length := by
                rw [List.length_append, List.take_add, List.drop_drop]
              rw [e]; exact this
        obtain ⟨ds, hds⟩ := fields fs.toList 0 kk hgo (fun f hf => by
          obtain ⟨i, hi⟩ := List.getElem?_of_mem hf
          have h1 := hfs i f (by simpa using hi)
          rcases hx : xs[i]? with _ | y
          · have : i < fs.size := by
              rcases Nat.lt_or_ge i fs.toList.length with h | h
              · simpa using h
              · rw [List.getElem?_eq_none h] at hi; cases hi
            rw [List.getElem?_eq_none_iff] at hx; omega
          · exact ⟨y, by rw [h1, hx]⟩) (by omega)
        refine ⟨ds, ?_⟩
        rw [hc, ← hcl] at hds
        simpa using hds
    · cases hk

/-- An argument, read. -/
theorem readArg {n : Nat} {te : Ty} {t : TypeId} {v : Value} {d : DataW H} {ps : List MemPlace} {r : Reach} {b0 : Nat} (hk : kindsOf P C n t = some te.kd)
    (hs : te.flat = !(match P.underlying t with | some (.struct _) => true | _ => false)) (hv : Value.okWide P w r b0 t v) (h : DataW.Trod en P w base spare held t v d ps) :
    ∃ x : te.ty, RelT w (fun b => b < w.heap.size) (AV.ofTy te x) v ∧ wfT te x := by
  obtain ⟨fuel, h⟩ := h
  obtain ⟨ds, hr⟩ := read fuel n t _ _ _ h hk
  obtain ⟨x, rfl⟩ := enc_of_kd hr.kd
  refine ⟨x, ?_, hr.wf⟩
  unfold AV.ofTy
  cases hf : te.flat with
  | false =>
    rw [hf] at hs
    have : ∃ fs, P.underlying t = some (.struct fs) := by
      split at hs
      · rename_i fs h; exact ⟨fs, h⟩
      · cases hs
    obtain ⟨fs, hu⟩ := this
    obtain ⟨cs, rfl, hcs⟩ := okWide_struct hu hv
    have hlen := hr.len
    simp only [Value.cells, Array.length_toList] at hlen
    refine .agg _ _ (by simpa using hlen) (fun i a u ha hu' => ?_)
    simp only [List.getElem?_map, Option.map_eq_some_iff] at ha
    obtain ⟨d0, hd0, rfl⟩ := ha
    exact .d _ _ (hr.rel i d0 u hd0 (by simpa [Value.cells] using hu'))
  | true =>
    have hlen : (enc te x).length = 1 := by rw [enc_length]; cases te <;> first | rfl | cases hf
    obtain ⟨d0, hd0⟩ : ∃ d0, enc te x = [d0] := by
      match hq : enc te x, hlen with
      | [d0], _ => exact ⟨d0, rfl⟩
    rw [hd0]
    rw [hf] at hs
    have hcv : v.cells = #[v] := by
      have : ∀ cs, v ≠ .agg cs := by
        intro cs hcs
        subst hcs
        unfold kindsOf at hk
        cases n with
        | zero => simp at hk
        | succ n =>
          simp only at hk
          split at hk
          · rename_i hu; obtain ⟨b, hb⟩ := okWide_bool hu hv; cases hb
          · rename_i hu; obtain ⟨b, hb⟩ := okWide_int hu hv; cases hb
          · rename_i hu
            simp only [Value.okWide, hu, Cell.okWide] at hv
            simp_all [Cell.ok]
          · rename_i hu; obtain ⟨b, hb⟩ := okWide_string hu hv; cases hb
          · rename_i hu; obtain ⟨_, _, _, hb⟩ := okWide_slice hu hv; cases hb
          · rename_i hu; rw [hu] at hs; cases hs
          · cases hk
      unfold Value.cells
      split
      · rename_i cs; exact absurd rfl (this cs)
      · rfl
    refine .d _ _ (hr.rel 0 d0 v (by rw [hd0]; rfl) (by rw [hcv]; rfl))

/-- A law, called with arguments from outside. -/
theorem law_calls {f : FuncId} {args : List Arg} (h : Pure P f args [.bool] true) {W : World} {vs : Array Value} (hg : GOk W fun b => b < W.heap.size) (hn : vs.size = args.length)
    (hr : ∀ (i : Nat) (a : Arg) (v : Value), args[i]? = some a → vs[i]? = some v → RelT W (fun b => b < W.heap.size) (AV.ofTy a.1 a.2) v) :
    Calls P f vs W fun e w' => e = .returned (.bool true) ∧ Go.RowKit.Below W.heap.size W w' := by
  refine (h W (fun b => b < W.heap.size) vs (fun b hb => hb) hg hn hr).mono ?_
  rintro e w' ⟨v, K', rfl, hrel, _, _, _, hb⟩
  refine ⟨?_, hb⟩
  cases hrel with
  | d _ _ h => cases h; rfl
end
end Go.VL
