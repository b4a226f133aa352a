/-
  The value layer, part 28: ranges over functions: memory and its small changes beside. (Own work.)
-/
import Derived.Test.YtebbdkcocbampaaVD
import Derived.RangeFuncRecord
set_option linter.unusedVariables false
set_option linter.unusedSimpArgs false
namespace Go.VL

variable {P : Program} {C : Codes} {S : Sigs} {E : Entry} {w w' : World} {K K' : Nat → Prop} {m m' : Nat → Option (Option Nat)} {free free' : Nat → Prop} {H H' : Heap}
  {F : Fm} {f : FuncId} {R : Ending → World → Prop} {a : Act} {k : List Item} {s t s' : AS} {α : Type}

/-- One block that holds no cells becomes another one. -/
structure Soft (D : Nat) (w w' : World) : Prop where
  os : w'.os = w.os
  tape : w'.tape = w.tape
  output : w'.output = w.output
  size : w'.heap.size = w.heap.size
  other : ∀ b, b ≠ D → w'.heap[b]? = w.heap[b]?
  no : ∀ c T z, w.heap[D]? ≠ some (.cells c T z)
  no' : ∀ c T z, w'.heap[D]? ≠ some (.cells c T z)

theorem Soft.put {D : Nat} {o : Obj} (h : ∀ c T z, w.heap[D]? ≠ some (.cells c T z)) (ho : ∀ c T z, o ≠ .cells c T z) (hD : D < w.heap.size) : Soft D w (w.putObj D o) :=
  ⟨rfl, rfl, rfl, World.putObj_size, fun b hb => World.putObj_heap_other hb, h, fun c T z e => by rw [World.putObj_heap_same hD] at e; exact ho c T z (Option.some.inj e)⟩
theorem Soft.symm {D : Nat} (h : Soft D w w') : Soft D w' w := ⟨h.os.symm, h.tape.symm, h.output.symm, h.size.symm, fun b hb => (h.other b hb).symm, h.no', h.no⟩
theorem Soft.trans {D : Nat} {w2 : World} (h : Soft D w w') (g : Soft D w' w2) : Soft D w w2 :=
  ⟨g.os.trans h.os, g.tape.trans h.tape, g.output.trans h.output, g.size.trans h.size, fun b hb => (g.other b hb).trans (h.other b hb), h.no, g.no'⟩

theorem Soft.cell {D : Nat} (h : Soft D w w') (x : Addr) : w'.cell? x = w.cell? x := by
  by_cases hb : x.block = D
  · have h1 : w'.cell? x = none := by
      unfold World.cell?
      rw [hb]
      split
      · rename_i e; exact absurd e (h.no' _ _ _)
      · rfl
    have h2 : w.cell? x = none := by
      unfold World.cell?
      rw [hb]
      split
      · rename_i e; exact absurd e (h.no _ _ _)
      · rfl
    rw [h1, h2]
  · unfold World.cell?
    rw [h.other _ hb]
theorem Soft.shape {D : Nat} (h : Soft D w w') (b : Nat) : w'.shape? b = w.shape? b := by
  by_cases hb : b = D
  · subst hb
    have h1 : w'.shape? b = none := by
      unfold World.shape?
      split
      · rename_i e; exact absurd e (h.no' _ _ _)
      · rfl
    have h2 : w.shape? b = none := by
      unfold World.shape?
      split
      · rename_i e; exact absurd e (h.no _ _ _)
      · rfl
    rw [h1, h2]
  · unfold World.shape?
    rw [h.other _ hb]

theorem RelD.soft {B : Nat} (hs : Soft B w w') {d : D} {v : Value} (h : RelD w K d v) : RelD w' K d v := by
  induction h with
  | v x => exact .v x
  | f o b h => exact .f o b h
  | sl0 t a cap => exact .sl0 t a cap
  | sl t xs b off cap u hb hcap hc hr ih =>
    refine .sl t xs b off cap u hb hcap (fun i x j d hx hd => ?_) (fun i x j d hx hd => ih i x j d hx hd)
    rw [hs.cell]
    exact hc i x j d hx hd

theorem Rel.soft {D : Nat} (hs : Soft D w w') {x : AV} {v : Value} (h : Rel w K m H x v) : Rel w' K m H x v := by
  induction h with
  | dead v => exact .dead v
  | d x v h => exact .d x v (h.soft hs)
  | fl t xs a n h => exact .fl t xs a n (h.soft hs)
  | own0 l t a h => exact .own0 l t a h
  | own l t b n cap h hn hcap hsh =>
    obtain ⟨T, sz, hsh, hle⟩ := hsh
    exact .own l t b n cap h hn hcap ⟨T, sz, by rw [hs.shape]; exact hsh, hle⟩
  | view0 l t off a => exact .view0 l t off a
  | view l t b off len cap h hcap hsh =>
    obtain ⟨T, sz, hsh, hle⟩ := hsh
    exact .view l t b off len cap h hcap ⟨T, sz, by rw [hs.shape]; exact hsh, hle⟩
  | ptr l f b h => exact .ptr l f b h
  | eptr l t i f b h => exact .eptr l t i f b h
  | ip ds b off u hb hc hr =>
    refine .ip ds b off u hb (fun j d hd => ?_) (fun j d hd => (hr j d hd).soft hs)
    rw [hs.cell]
    exact hc j d hd
  | agg cs vs hl h ih => exact .agg cs vs hl ih
  | tup cs vs hl h ih => exact .tup cs vs hl ih
  | clo fn fs cs us vs hf hl h1 h2 ih1 ih2 => exact .clo fn fs cs us vs hf hl ih1 ih2

theorem BlkRel.soft {D : Nat} (hs : Soft D w w') {l : Nat} {blk : ABlk} (h : BlkRel w K m H l blk) : BlkRel w' K m H l blk := by
  have nb : ∀ (b : Nat) cs T z, w.heap[b]? = some (Obj.cells cs T z) → w'.heap[b]? = some (Obj.cells cs T z) := fun b cs T z hb => by
    by_cases e : b = D
    · subst e; exact absurd hb (hs.no _ _ _)
    · rw [hs.other b e]; exact hb
  cases blk with
  | box cells =>
    obtain ⟨b, cs, T, h1, h2, h3, h4⟩ := h
    exact ⟨b, cs, T, h1, nb _ _ _ _ h2, h3, fun i x v hx hv => (h4 i x v hx hv).soft hs⟩
  | row T t xs =>
    rcases h with h | ⟨b, cs, h1, h2, h3, h4⟩
    · exact .inl h
    · exact .inr ⟨b, cs, h1, nb _ _ _ _ h2, h3, fun i x j d hx hd => by
        obtain ⟨v, hv, hr⟩ := h4 i x j d hx hd
        exact ⟨v, hv, hr.soft hs⟩⟩

theorem GOk.soft {D : Nat} (hs : Soft D w w') (h : GOk w K) : GOk w' K := fun p hp => by
  obtain ⟨h1, T, h2⟩ := h p hp
  refine ⟨h1, T, ?_⟩
  by_cases e : p.1 = D
  · rw [e] at h2; exact absurd h2 (hs.no _ _ _)
  · rw [hs.other _ e]; exact h2

/-- A block that came later turns. -/
theorem Mem.soft {D : Nat} (hM : Mem E w K m H free) (hs : Soft D w w') (hD : E.w.heap.size ≤ D) (hK : ¬ E.K D) : Mem E w' K m H free where
  os := hs.os.trans hM.os
  tape := hs.tape.trans hM.tape
  output := hs.output.trans hM.output
  size := by rw [hs.size]; exact hM.size
  keep b h1 h2 := by rw [hs.other b (by omega)]; exact hM.keep b h1 h2
  Kmono := hM.Kmono
  Klt b hb := by rw [hs.size]; exact hM.Klt b hb
  Knew := hM.Knew
  mold := hM.mold
  mnew := hM.mnew
  mlt l b h := by rw [hs.size]; exact hM.mlt l b h
  mfree := hM.mfree
  fnew := hM.fnew
  heap l blk h := (hM.heap l blk h).soft hs
  own := hM.own
  inj := hM.inj
  shape b x h := by rw [hs.shape]; exact hM.shape b x h
  frozen b hb := by rw [hs.other b (fun e => hK (e ▸ hb))]; exact hM.frozen b hb
  gok := hM.gok.soft hs

/-- A block turns, here and where it is told how all began. -/
theorem Mem.soft2 {D : Nat} {we : World} (hM : Mem E w K m H free) (hs : Soft D w w') (he : Soft D E.w we) (hD : w'.heap[D]? = we.heap[D]?) : Mem { E with w := we } w' K m H free where
  os := hs.os.trans (hM.os.trans he.os.symm)
  tape := hs.tape.trans (hM.tape.trans he.tape.symm)
  output := hs.output.trans (hM.output.trans he.output.symm)
  size := by rw [hs.size, he.size]; exact hM.size
  keep b h1 h2 := by
    by_cases e : b = D
    · subst e; exact hD
    · rw [hs.other b e, he.other b e]; exact hM.keep b (by rw [← he.size]; exact h1) h2
  Kmono := hM.Kmono
  Klt b hb := by rw [hs.size]; exact hM.Klt b hb
  Knew b hb := by rw [he.size]; exact hM.Knew b hb
  mold := hM.mold
  mnew l b h1 h2 := by rw [he.size]; exact hM.mnew l b h1 h2
  mlt l b h := by rw [hs.size]; exact hM.mlt l b h
  mfree := hM.mfree
  fnew := hM.fnew
  heap l blk h := (hM.heap l blk h).soft hs
  own := hM.own
  inj := hM.inj
  shape b x h := by rw [hs.shape]; exact hM.shape b x (by rw [← he.shape]; exact h)
  frozen b hb := by
    by_cases e : b = D
    · subst e; exact hD
    · rw [hs.other b e, he.other b e]; exact hM.frozen b hb
  gok := hM.gok.soft hs

/-- From here on. -/
theorem Mem.start (hM : Mem E w K m H free) {n : Nat} (hn : ∀ l, n ≤ l → free l) : Mem ⟨w, K, m, n⟩ w K m H (fun l => n ≤ l) where
  os := rfl
  tape := rfl
  output := rfl
  size := Nat.le_refl _
  keep _ _ _ := rfl
  Kmono _ h := h
  Klt := hM.Klt
  Knew _ h := .inl h
  mold _ _ := rfl
  mnew l b h1 h2 := by rw [hM.mfree l (hn l h1)] at h2; cases h2
  mlt := hM.mlt
  mfree l h := hM.mfree l (hn l h)
  fnew _ h := h
  heap := hM.heap
  own := hM.own
  inj := hM.inj
  shape _ _ h := h
  frozen _ _ := rfl
  gok := hM.gok

/-- Two ways, one behind the other. -/
theorem Mem.trans {n : Nat} (hM : Mem E w K m H free) (h2 : Mem ⟨w, K, m, n⟩ w' K' m' H' free') (hn : E.n ≤ n) : Mem E w' K' m' H' free' where
  os := h2.os.trans hM.os
  tape := h2.tape.trans hM.tape
  output := h2.output.trans hM.output
  size := Nat.le_trans hM.size h2.size
  keep b g1 g2 := by
    refine (h2.keep b (Nat.lt_of_lt_of_le g1 hM.size) (fun l _ hm => ?_)).trans (hM.keep b g1 g2)
    rcases Nat.lt_or_ge l E.n with h | h
    · exact g2 l h (by rw [← hM.mold l h]; exact hm)
    · rcases hM.mnew l b h hm with h3 | ⟨j, hj, hjm⟩
      · omega
      · exact g2 j hj hjm
  Kmono b hb := h2.Kmono b (hM.Kmono b hb)
  Klt := h2.Klt
  Knew b hb := by
    rcases h2.Knew b hb with h | h | ⟨l, _, hm⟩
    · exact hM.Knew b h
    · exact .inr (.inl (Nat.le_trans hM.size h))
    · rcases Nat.lt_or_ge l E.n with h | h
      · exact .inr (.inr ⟨l, h, by rw [← hM.mold l h]; exact hm⟩)
      · rcases hM.mnew l b h hm with h3 | h3
        · exact .inr (.inl h3)
        · exact .inr (.inr h3)
  mold l hl := (h2.mold l (Nat.lt_of_lt_of_le hl hn)).trans (hM.mold l hl)
  mnew l b hl hm := by
    have back : ∀ l, E.n ≤ l → m l = some (some b) → E.w.heap.size ≤ b ∨ ∃ k, k < E.n ∧ E.m k = some (some b) := fun l hl hm => hM.mnew l b hl hm
    rcases Nat.lt_or_ge l n with h | h
    · exact back l hl (by have e : m' l = m l := h2.mold l h; rw [← e]; exact hm)
    · rcases h2.mnew l b h hm with h3 | ⟨j, _, hjm⟩
      · exact .inl (Nat.le_trans hM.size h3)
      · rcases Nat.lt_or_ge j E.n with h4 | h4
        · exact .inr ⟨j, h4, by rw [← hM.mold j h4]; exact hjm⟩
        · exact back j h4 hjm
  mlt := h2.mlt
  mfree := h2.mfree
  fnew l hl := Nat.le_trans hn (h2.fnew l hl)
  heap := h2.heap
  own := h2.own
  inj := h2.inj
  shape b x h := h2.shape b x (hM.shape b x h)
  frozen b hb := (h2.frozen b (hM.Kmono b hb)).trans (hM.frozen b hb)
  gok := h2.gok

/-- Rows keep their lengths. -/
def RowsLe (n : Nat) (H H' : Heap) : Prop := ∀ i T t xs, i < n → H'.get i = some (.row T t xs) → ∃ ys, H.get i = some (.row T t ys) ∧ ys.length = xs.length
theorem RowsLe.refl (n : Nat) (H : Heap) : RowsLe n H H := fun _ _ _ xs _ h => ⟨xs, h, rfl⟩
theorem RowsLe.trans {n : Nat} {H2 : Heap} (h : RowsLe n H H') (g : RowsLe n H' H2) : RowsLe n H H2 := fun i T t xs hi hx => by
  obtain ⟨ys, hy, hl⟩ := g i T t xs hi hx
  obtain ⟨zs, hz, hl'⟩ := h i T t ys hi hy
  exact ⟨zs, hz, hl'.trans hl⟩

theorem Ext.of_mem {n : Nat} (h0 : Mem ⟨w, K, m, n⟩ w K m H (fun l => n ≤ l)) (h : Mem ⟨w, K, m, n⟩ w' K' m' H' free') (hr : RowsLe n H H') : Ext w K m H w' K' m' H' where
  hK := h.Kmono
  keep := h.frozen
  hm l x hx := by
    rcases Nat.lt_or_ge l n with hl | hl
    · have e : m' l = m l := h.mold l hl
      rw [e]; exact hx
    · rw [h0.mfree l hl] at hx; cases hx
  shape := h.shape
  row l T t xs hm hx := by
    rcases Nat.lt_or_ge l n with hl | hl
    · exact hr l T t xs hl hx
    · exact absurd (h0.mfree l hl) hm

end Go.VL

/-
  The value layer, part 29: ranges over functions. (Own work.)
-/
namespace Go.VL

variable {P : Program} {C : Codes} {S : Sigs} {E : Entry} {w w' : World} {K K' : Nat → Prop} {m m' : Nat → Option (Option Nat)} {free free' : Nat → Prop} {H H' : Heap}
  {F : Fm} {f : FuncId} {R : Ending → World → Prop} {a : Act} {k : List Item} {s t s' : AS} {α : Type}

/-- What carries back over the steps of a text whose end is not looked at here. -/
abbrev Cl (P : Program) (C : Codes) (S : Sigs) (fn : Func) (n0 : Nat) (A : List Item → AS → Prop) : Prop := Closed (α := Unit) P C S fn (fun _ _ => none) (fun _ => False) n0 A
theorem cl_of {fn : Func} {n0 : Nat} (hmx : P.follows .mixedOrders = true) (hn : E.n ≤ n0) : Cl P C S fn n0 (ASat P F E) :=
  asat_closed hmx (fun s a w K m free vs x p todo _ _ h => by cases h) hn

def isEnd (todo : List Item) : Prop := todo = [] ∨ ∃ k, todo = .code .ret :: k

/-- A round, behind its beginning. -/
structure ClR (P : Program) (C : Codes) (S : Sigs) (fn : Func) (n0 : Nat) (fine : AS → Prop) (jump : Code → AS → Prop) (A : List Item → AS → Prop) : Prop where
  cl : Cl P C S fn n0 A
  fine : ∀ s, fine s → A [] s
  ret : ∀ k s, jump .ret s → A (.code .ret :: k) s
  exit : ∀ id k s, exitTo id k = none → jump (.exit id) s → A (.code (.exit id) :: k) s
/-- A round, ahead of its beginning. -/
structure ClB (P : Program) (C : Codes) (S : Sigs) (fn : Func) (n0 : Nat) (fine : AS → Prop) (jump : Code → AS → Prop) (A : List Item → AS → Prop) : Prop where
  cl : Cl P C S fn n0 A
  begin' : ∀ k s, (∀ A', ClR P C S fn n0 fine jump A' → A' k s) → A (.beginRound :: k) s
/-- The function that is ranged over, where a round has said: no more. -/
structure ClD (P : Program) (C : Codes) (S : Sigs) (gfn : Func) (n1 : Nat) (done : Heap → Nat → Prop) (A : List Item → AS → Prop) : Prop where
  cl : Cl P C S gfn n1 A
  ret : ∀ todo s, isEnd todo → done s.H s.next → A todo s

def putTs : List AV → List Tmp → List AV → List AV
  | ts, p :: ps, x :: xs => putTs (ts.set p x) ps xs
  | ts, _, _ => ts

/-- The function that is ranged over. H0: the memory as it was; l: the loop. -/
structure ClG (P : Program) (C : Codes) (S : Sigs) (gfn fn : Func) (n1 l : Nat) (H0 : Heap) (ps : Array Tmp) (x b : Code) (tmps : List AV) (done : Heap → Nat → Prop) (doneJ : Code → Heap → Nat → Prop) (A : List Item → AS → Prop) : Prop where
  cl : Cl P C S gfn n1 A
  ret : ∀ todo s, isEnd todo → done s.H s.next → A todo s
  yield : ∀ (ops : Array Oper) (i : Nat) (rest : List Nat) (kk : List Item) (s : AS) (o : Oper) (c : Call) (y : Operand), ops[i]? = some o → o.guard = none → o.op = .call c → c.callee = .value y →
    s.ev y = .clo (.yield l) [] [] → c.args.size = ps.size → RowsLe n1 H0 s.H → n1 ≤ s.next →
    (∀ Ar, ClB P C S fn (s.next + 8 * ops.size) (fun s2 => RowsLe (s.next + 8 * ops.size) s.H s2.H ∧ A (.inRegion ops rest :: kk) ⟨putT s.tmps o.dst (boolA true), s2.H, s2.next⟩)
      (fun j s2 => RowsLe (s.next + 8 * ops.size) s.H s2.H ∧ ∀ Ad, ClD P C S gfn n1 (doneJ j) Ad → Ad (.inRegion ops rest :: kk) ⟨putT s.tmps o.dst (boolA false), s2.H, s2.next⟩) Ar →
      Ar [.code x, .beginRound, .code b] ⟨putTs tmps ps.toList (c.args.toList.map s.ev), s.H, s.next + 8 * ops.size⟩) →
    A (.inRegion ops (i :: rest) :: kk) s

/-- A function with a range over a function in it. -/
structure ClosedR {α : Type} (P : Program) (C : Codes) (S : Sigs) (fn : Func) (fin : Fin α) (R0 : α → Prop) (n0 : Nat) (A : List Item → AS → Prop) : Prop where
  cl : Closed P C S fn fin R0 n0 A
  range : ∀ (g : Operand) (ps : Array Tmp) (x b : Code) (k : List Item) (s : AS) (gf : FuncId) (gfn : Func) (gc : Code) (fs cs : List AV), s.ev g = .clo (.func gf) fs cs → P.funcs[gf]? = some gfn → gfn.body = some gc → entersB P gf = true →
    gfn.results = #[] → n0 ≤ s.next →
    (∀ l A', ClG P C S gfn fn s.next l s.H ps x b s.tmps (fun H n => RowsLe s.next s.H H ∧ ∀ A2, Closed P C S fn fin R0 s.next A2 → A2 k ⟨s.tmps, H, n⟩)
      (fun j H n => RowsLe s.next s.H H ∧ ∀ A2, Closed P C S fn fin R0 s.next A2 → A2 (.code j :: k) ⟨s.tmps, H, n⟩) A' →
      A' [.code gc] ⟨fs ++ .clo (.yield l) [] [] :: cs ++ List.replicate (gfn.ntmps - (fs.length + 1 + cs.length)) (.d (.v undef)), s.H, s.next⟩) →
    A (.code (.rangeFunc g ps x b) :: k) s

/-! ### the end of a function with a mark among its deferred calls -/
abbrev mark (D : Nat) : Deferred := { target := .collected D, args := #[] }

theorem finR_mark {fn : Func} {fin : Fin α} {R0 : α → Prop} (hf : P.funcs[f]? = some fn) (hfin : FinOK P fn E fin R0 R) {E2 : Entry} {D : Nat}
    (hM2 : ∀ w K m H free, Mem E2 w K m H free → Mem E w K m H free) (hD : E.w.heap.size ≤ D) (hK : ¬ E.K D) (hD2 : D < E2.w.heap.size) (hob : E2.w.heap[D]? = some (.deferred (some []))) (hm : ∀ l, l < E2.n → E2.m l ≠ some (some D)) :
    FinR P fn E2 fin R0 ⟨f, none, [mark D], endG P f R⟩ := by
  intro s a w K m free vs x p todo hst hres hx hp h0 ht b cs hb hk hro
  have hob' : w.heap[D]? = some (.deferred (some [])) := by rw [hst.mem.keep D hD2 hm]; exact hob
  have hlt : D < w.heap.size := by
    rcases Nat.lt_or_ge D w.heap.size with h | h
    · exact h
    · rw [Array.getElem?_eq_none h] at hob'; cases hob'
  have hs : Soft D w (w.putObj D (.deferred none)) := Soft.put (fun c T z e => by rw [hob'] at e; cases e) (fun c T z e => by cases e) hlt
  have hst5 : St E s a (w.putObj D (.deferred none)) K m free := ⟨hst.len, fun i y v hy hv => (hst.tmps i y v hy hv).soft hs, hst.defers, (hM2 _ _ _ _ _ hst.mem).soft hs hD hK⟩
  obtain ⟨v, hr, hR⟩ := hfin s a _ K m free vs x p hst5 hres hx hp h0
  have h1 : step P (lone (b.atR { tmps := a.tmps, defers := [mark D] } todo) cs w) = .next (lone { b.atR { tmps := a.tmps, defers := [mark D] } todo with mode := .returning } cs w) := by
    rcases ht with rfl | ⟨k, rfl⟩
    · exact stepR_end hro
    · exact stepR_ret hro
  have h2 := step_collected (P := P) (fr := { b.atR { tmps := a.tmps, defers := [mark D] } todo with mode := .returning }) (cs := cs) (w := w) (d := mark D) (r := D) (ds := []) (by simp) rfl rfl (run_takeDeferred hob')
  have hb : b.fn = f := hb
  refine ⟨_, Steps.trans (.one h1) (.one h2), v, _, _, hR, rfl, hb, rfl, rfl, hk, fn, ?_, hr⟩
  show P.funcs[b.fn]? = some fn
  rw [hb]; exact hf

/-! ### values of closures -/
theorem clo_rel {x : AV} {fnv : Fn} {fs cs : List AV} {v : Value} (h : Rel w K m H x v) (hx : x = .clo fnv fs cs) : ∃ us vs : Array Value, v = .func fnv us vs ∧ us.size = fs.length ∧ vs.size = cs.length ∧
    (∀ (i : Nat) (a : AV) (v : Value), fs[i]? = some a → us[i]? = some v → Rel w K m H a v) ∧ ∀ (i : Nat) (a : AV) (v : Value), cs[i]? = some a → vs[i]? = some v → Rel w K m H a v := by
  subst hx
  cases h with
  | clo _ _ _ us vs hf hl h1 h2 => exact ⟨us, vs, rfl, hf, hl, h1, h2⟩

theorem yield_rel {l : Nat} {v : Value} (h : Rel w K m H (.clo (.yield l) [] []) v) : v = .func (.yield l) #[] #[] := by
  obtain ⟨us, vs, rfl, h1, h2, _⟩ := clo_rel h rfl
  have e1 : us = #[] := Array.eq_empty_of_size_eq_zero (by simpa using h1)
  have e2 : vs = #[] := Array.eq_empty_of_size_eq_zero (by simpa using h2)
  rw [e1, e2]

theorem call_enters {g : FuncId} (h : entersB P g = true) (q : Array Value) (w : World) : (callFunc g q).run P w = .ok (.enter g q) w := by
  unfold entersB at h
  split at h
  · rename_i fn' hfn'
    simp only [Bool.and_eq_true, bne_iff_ne, ne_eq] at h
    obtain ⟨hn, hb⟩ := h
    obtain ⟨c, hc⟩ := Option.isSome_iff_exists.1 hb
    simp [callFunc, hfn', hn, hc]
  · cases h

theorem putTs_get : ∀ (ps : List Tmp) (ts : List AV) (xs : List AV) (T : Array Value) (vs : List Value), T.size = ts.length → vs.length = xs.length →
    (∀ (i : Nat) (x : AV) (v : Value), ts[i]? = some x → T[i]? = some v → Rel w K m H x v) → (∀ (i : Nat) (x : AV) (v : Value), xs[i]? = some x → vs[i]? = some v → Rel w K m H x v) →
    ((ps.zip vs).foldl (fun t (p : Tmp × Value) => t.setIfInBounds p.1 p.2) T).size = (putTs ts ps xs).length ∧
      ∀ (i : Nat) (x : AV) (v : Value), (putTs ts ps xs)[i]? = some x → ((ps.zip vs).foldl (fun t (p : Tmp × Value) => t.setIfInBounds p.1 p.2) T)[i]? = some v → Rel w K m H x v
  | [], ts, xs, T, vs, hl, _, h, _ => by simpa [putTs] using ⟨hl, h⟩
  | p :: ps, ts, [], T, vs, hl, hv, h, _ => by
    have : vs = [] := List.eq_nil_of_length_eq_zero (by simpa using hv)
    subst this
    simpa [putTs] using ⟨hl, h⟩
  | p :: ps, ts, x :: xs, T, [], hl, hv, _, _ => by simp at hv
  | p :: ps, ts, x :: xs, T, v :: vs, hl, hv, h, h2 => by
    have ih := putTs_get ps (ts.set p x) xs (T.setIfInBounds p v) vs (by simpa using hl) (by simpa using hv) (fun i y u hy hu => ?_) (fun i y u hy hu => h2 (i + 1) y u (by simpa using hy) (by simpa using hu))
    · simpa [putTs] using ih
    · rw [List.getElem?_set] at hy
      rw [Array.getElem?_setIfInBounds] at hu
      by_cases hpi : p = i
      · subst hpi
        rw [if_pos rfl] at hy hu
        split at hy
        · rename_i hlt
          rw [if_pos (by omega)] at hu
          cases hy; cases hu
          exact h2 0 x v rfl rfl
        · cases hy
      · rw [if_neg hpi] at hy hu
        exact h i y u hy hu

end Go.VL

/-
  The value layer, part 30: ranges over functions: the law. (Own work.)
-/
namespace Go.VL

variable {P : Program} {C : Codes} {S : Sigs} {E : Entry} {w w' : World} {K K' : Nat → Prop} {m m' : Nat → Option (Option Nat)} {free free' : Nat → Prop} {H H' : Heap}
  {F : Fm} {f : FuncId} {R : Ending → World → Prop} {a : Act} {k : List Item} {s t s' : AS} {α : Type}

/-- The loop's record. -/
abbrev recOf (st : LoopState) (pd : Option Code) (f : FuncId) (tmps : Array Value) (ps : Array Tmp) (x b : Code) (D : Nat) : Loop := { state := st, pending := pd, fn := f, tmps := tmps, params := ps, assign := x, body := b, defers := D }

theorem okTodo_tail {ops : Array Oper} {i : Nat} {rest : List Nat} {kk : List Item} (h : okTodo (.inRegion ops (i :: rest) :: kk)) : okTodo (.inRegion ops rest :: kk) :=
  ⟨⟨(List.nodup_cons.1 h.1.1).2, fun j hj => h.1.2 j (by simp [hj])⟩, h.2⟩

/-- The loop has been left, or the function that it ranges over goes on to its end: all that the activation outside needs. -/
def Outer (P : Program) (f : FuncId) (R : Ending → World → Prop) (D : Nat) (l : Nat) (a : Act) (k : List Item) (w' : World) : Prop :=
  ∃ jump w4, (Instr.endLoop l).run P w' = .ok jump w4 ∧ Runs P ⟨f, none, [mark D], endG P f R⟩ a w4 ((jump.map Item.code).toList ++ k)

theorem rel_app {as bs : List AV} {us vs : Array Value} (h1 : us.size = as.length) (h2 : ∀ (i : Nat) (a : AV) (v : Value), as[i]? = some a → us[i]? = some v → Rel w K m H a v)
    (h4 : ∀ (i : Nat) (a : AV) (v : Value), bs[i]? = some a → vs[i]? = some v → Rel w K m H a v) : ∀ (i : Nat) (a : AV) (v : Value), (as ++ bs)[i]? = some a → (us ++ vs)[i]? = some v → Rel w K m H a v := by
  intro i a v ha hv
  rw [List.getElem?_append] at ha
  rw [Array.getElem?_append, h1] at hv
  split at ha
  · rename_i hi; rw [if_pos hi] at hv; exact h2 i a v ha hv
  · rename_i hi; rw [if_neg hi] at hv; exact h4 _ a v ha hv

theorem closedR {fn : Func} {fin : Fin α} {R0 : α → Prop} {n0 : Nat} (hmx : P.follows .mixedOrders = true) (hf : P.funcs[f]? = some fn) (hfin : FinOK P fn E fin R0 R) (hn : E.n ≤ n0) (hEK : ∀ b, E.K b → b < E.w.heap.size) :
    ClosedR P C S fn fin R0 n0 (ASat P (.fn P f R) E) := by
  refine ⟨asat_closed hmx (finR_of hf hfin) hn, ?_⟩
  intro g ps x b k s gf gfn gc fs cs hev hgf hgc hent hres hn0 h hok a w K m hst
  have hnk : noReg (.code (.rangeFunc g ps x b) :: k) := hok
  have hfree : ∀ l, s.next ≤ l → freeOf (.code (.rangeFunc g ps x b) :: k) s.next l := fun l hl => (freeOf_of hnk _ _).2 hl
  obtain ⟨us, vs, hgv, hus, hvs, hur, hvr⟩ := clo_rel (hst.ev g) hev
  -- the two new blocks
  let D := w.heap.size
  let l := w.heap.size + 1
  let rec_ := fun (st : LoopState) (pd : Option Code) => Obj.loop (recOf st pd f a.tmps ps x b D)
  let w1 := (w.alloc (.deferred (some []))).alloc (rec_ .ready none)
  have hb1 : RowKit.Below w.heap.size w w1 := ((RowKit.Below.refl _ w).alloc (Nat.le_refl _) _).alloc (by rw [World.size_alloc]; exact Nat.le_succ _) _
  obtain ⟨M1, e1⟩ := hst.mem.after hb1 (K2 := fun _ => False) (fun b hb => hb.elim) (fun b hb => hb.elim)
  generalize hK1 : (fun b => K b ∨ False) = K1 at M1 e1
  have hsz1 : w1.heap.size = l + 1 := by show ((w.alloc _).alloc _).heap.size = _; rw [World.size_alloc, World.size_alloc]
  have hl1 : w1.heap[l]? = some (rec_ .ready none) := by
    have := World.alloc_heap_new (w.alloc (.deferred (some []))) (rec_ .ready none)
    rw [World.size_alloc] at this; exact this
  have hD1 : w1.heap[D]? = some (.deferred (some [])) := by
    have h2 : w1.heap[D]? = (w.alloc (.deferred (some []))).heap[D]? := RowKit.Below.heap_alloc _ _ _ (by rw [World.size_alloc]; exact Nat.lt_succ_self _)
    rw [h2]; exact World.alloc_heap_new w _
  have hnl : ∀ j q, D ≤ q → m j ≠ some (some q) := fun j q hq hm => by have := hst.mem.mlt j q hm; have : D = w.heap.size := rfl; omega
  have hKD : ∀ q, D ≤ q → ¬ E.K q := fun q hq hk => by have := hEK q hk; have := hst.mem.size; have : D = w.heap.size := rfl; omega
  have hED : E.w.heap.size ≤ D := hst.mem.size
  have hEn : E.n ≤ s.next := Nat.le_trans hn hn0
  -- where the inner activations begin
  have M1s : Mem ⟨w1, K1, m, s.next⟩ w1 K1 m s.H (fun q => s.next ≤ q) := M1.start hfree
  -- soft changes of the record
  have putS : ∀ (w' : World) (o : Obj), (∃ r, w'.heap[l]? = some (.loop r)) → (∀ c T z, o ≠ .cells c T z) → Soft l w' (w'.putObj l o) := fun w' o ⟨r, hr⟩ ho =>
    Soft.put (fun c T z e => by rw [hr] at e; cases e) ho (by
      rcases Nat.lt_or_ge l w'.heap.size with h | h
      · exact h
      · rw [Array.getElem?_eq_none h] at hr; cases hr)
  have recNo : ∀ st pd, ∀ c T z, rec_ st pd ≠ .cells c T z := fun st pd c T z e => by cases e
  have putG : ∀ (w' : World) (o : Obj), (∃ r, w'.heap[l]? = some (.loop r)) → (w'.putObj l o).heap[l]? = some o := fun w' o ⟨r, hr⟩ => World.putObj_heap_same (by
    rcases Nat.lt_or_ge l w'.heap.size with h | h
    · exact h
    · rw [Array.getElem?_eq_none h] at hr; cases hr)
  -- the machine's first step
  let afr : Act := { tmps := (us ++ #[Value.func (.yield l) #[] #[]] ++ vs) ++ Array.replicate (gfn.ntmps - (us ++ #[Value.func (.yield l) #[] #[]] ++ vs).size) undef, defers := [] }
  let Fg : Fm := .fn P gf (fun e w' => (∃ v, e = .returned v) ∧ Outer P f R D l a k w')
  have hinner : Runs P Fg afr w1 [.code gc] := by
    -- behind the loop
    have outer : ∀ (st : LoopState) (pd : Option Code) (we : World) (s3 : AS) (w3 : World) (K3 : Nat → Prop) (m3 : Nat → Option (Option Nat)), st ≠ .busy → Soft l w1 we → we.heap[l]? = some (rec_ st pd) →
        Mem ⟨we, K1, m, s.next⟩ w3 K3 m3 s3.H (fun q => s3.next ≤ q) → RowsLe s.next s.H s3.H → noReg ((pd.map Item.code).toList ++ k) →
        (∀ A2, Closed P C S fn fin R0 s.next A2 → A2 ((pd.map Item.code).toList ++ k) ⟨s.tmps, s3.H, s3.next⟩) → Outer P f R D l a k w3 := by
      intro st pd we s3 w3 K3 m3 hst0 hsoft hrec hM3 hrows hnr hA2
      have hszE : we.heap.size = l + 1 := by rw [hsoft.size]; exact hsz1
      have hrec3 : w3.heap[l]? = some (rec_ st pd) := by
        rw [hM3.keep l (by show l < we.heap.size; omega) (fun j _ => hnl j l (Nat.le_succ _))]; exact hrec
      refine ⟨pd, _, run_endLoop hrec3 hst0, ?_⟩
      have s3s := putS w3 (rec_ .exhausted pd) ⟨_, hrec3⟩ (recNo _ _)
      have seS := putS we (rec_ .exhausted pd) ⟨_, hrec⟩ (recNo _ _)
      have hM4 := hM3.soft2 s3s seS ((putG _ _ ⟨_, hrec3⟩).trans (putG _ _ ⟨_, hrec⟩).symm)
      have ME1 : Mem E (we.putObj l (rec_ .exhausted pd)) K1 m s.H (fun q => s.next ≤ q) := (M1.soft (hsoft.trans seS) (by have : D < l := Nat.lt_succ_self _; omega) (hKD l (Nat.le_succ _))).weaken hfree
      have Ms : Mem ⟨we.putObj l (rec_ .exhausted pd), K1, m, s.next⟩ (we.putObj l (rec_ .exhausted pd)) K1 m s.H (fun q => s.next ≤ q) := ME1.start (fun q hq => hq)
      have ex : Ext (we.putObj l (rec_ .exhausted pd)) K1 m s.H (w3.putObj l (rec_ .exhausted pd)) K3 m3 s3.H := Ext.of_mem Ms hM4 hrows
      have hfR : FinR P fn ⟨we.putObj l (rec_ .exhausted pd), K1, m, s.next⟩ fin R0 ⟨f, none, [mark D], endG P f R⟩ := by
        refine finR_mark hf hfin (D := D) (fun w K m' H free hM => ME1.trans hM hEn) hED (hKD D (Nat.le_refl _)) ?_ ?_ (fun j _ => hnl j D (Nat.le_refl _))
        · show D < (we.putObj l _).heap.size
          rw [World.putObj_size, hszE]; show w.heap.size < w.heap.size + 1 + 1; omega
        · show (we.putObj l _).heap[D]? = _
          have hne : D ≠ l := by show w.heap.size ≠ w.heap.size + 1; omega
          rw [World.putObj_heap_other hne, hsoft.other D hne]; exact hD1
      refine hA2 (ASat P ⟨f, none, [mark D], endG P f R⟩ ⟨we.putObj l (rec_ .exhausted pd), K1, m, s.next⟩) (asat_closed hmx hfR (Nat.le_refl _)) (okTodo_of hnr) a _ K3 m3 ?_
      refine ⟨hst.len, fun i y v hy hv => ?_, hst.defers, hM4.weaken (fun q hq => (freeOf_of hnr _ _).1 hq)⟩
      exact (((hst.tmps i y v hy hv).ext e1).soft (hsoft.trans seS)).ext ex
    have hnk' : ∀ pd : Option Code, noReg ((pd.map Item.code).toList ++ k) := fun pd => by
      have hk := noReg.tail hnk
      cases pd with
      | none => exact hk
      | some c => exact hk.cons (by simp)
    -- a return of the function that is ranged over
    have retG : ∀ (st : LoopState) (pd : Option Code) (we : World) (todo : List Item) (s3 : AS), st ≠ .busy → Soft l w1 we → we.heap[l]? = some (rec_ st pd) → isEnd todo → RowsLe s.next s.H s3.H →
        (∀ A2, Closed P C S fn fin R0 s.next A2 → A2 ((pd.map Item.code).toList ++ k) ⟨s.tmps, s3.H, s3.next⟩) →
        ASat P Fg ⟨we, K1, m, s.next⟩ todo s3 := by
      intro st pd we todo s3 hst0 hsoft hrec hend hrows hA2 hok3 a3 w3 K3 m3 hst3
      have hr : (results gfn a3.tmps).run P w3 = .ok (.tuple #[]) w3 := by
        unfold results
        rw [hres]
        simp
      have hnr3 : noReg todo := by
        rcases hend with rfl | ⟨kk, rfl⟩
        · exact fun ops l hm => by cases hm
        · exact hok3
      exact Runs.ret hgf hr ⟨⟨_, rfl⟩, outer st pd we s3 w3 K3 m3 hst0 hsoft hrec (hst3.mem.weaken (fun q hq => (freeOf_of hnr3 _ _).2 hq)) hrows (hnk' pd) hA2⟩ hend
    have softR : ∀ we : World, (∃ r, we.heap[l]? = some (.loop r)) → Soft l we we := fun we ⟨r, hr⟩ => ⟨rfl, rfl, rfl, rfl, fun _ _ => rfl, fun c T z e => (by rw [hr] at e; cases e), fun c T z e => (by rw [hr] at e; cases e)⟩
    refine h l _ (?_ : ClG P C S gfn fn s.next l s.H ps x b s.tmps _ _ (ASat P Fg ⟨w1, K1, m, s.next⟩)) (fun ops q hm => by simp at hm) afr w1 K1 m ?_
    · refine ⟨cl_of hmx (Nat.le_refl _), fun todo s3 hend hd => retG .ready none w1 todo s3 (by simp) (softR w1 ⟨_, hl1⟩) hl1 hend hd.1 hd.2, ?_⟩
      -- the loop's own body is called
      intro ops i rest kk s' o c y hops hg hop hcal hev' hsz hrows hn' hround hok' a' w' K' m' hst' bg csg hbg hbk hbro
      have hlE : w'.heap[l]? = some (rec_ .ready none) := by
        rw [hst'.mem.keep l (by show l < w1.heap.size; omega) (fun j _ => hnl j l (Nat.le_succ _))]; exact hl1
      have hyv : a'.eval y = .func (.yield l) #[] #[] := yield_rel (by have := hst'.ev y; rw [hev'] at this; exact this)
      let tm := ((ps.zip (c.args.map a'.eval)).foldl (fun tmps (t, a) => tmps.setIfInBounds t a) a.tmps)
      have hexec : (execOp a'.eval o).run P w' = .ok (.round l f tm x b) w' := by
        have hy := run_yield (P := P) (args := c.args.map a'.eval) hlE (by simpa using hsz)
        have : execOp a'.eval o = (do let d ← resolve a'.eval c o.type; invoke d.target d.args) := by simp only [execOp, hop]
        rw [this]
        simp only [resolve, hcal, Sem.run_bind, hyv, Deferred.ofValue, Sem.run_pure, Result.andThen_ok, invoke]
        have e : (#[] : Array Value) ++ c.args.map a'.eval = c.args.map a'.eval := by simp
        rw [e]; exact hy
      have hnd : ∀ c', o.op ≠ .defer c' := fun c' e => by rw [hop] at e; cases e
      have hwant : Region.wanted o (yielded ops a'.tmps) = true := by simp [Region.wanted, hg]
      let fr := bg.atR { tmps := a'.tmps, defers := [] } (.inRegion ops (i :: rest) :: kk)
      have hstep : step P (lone fr csg w') = .next (lone (Frame.round l f tm x b .normal) (fr :: csg) w') := by
        refine step_lone_go ?_
        have hg' := stepGR_op (P := P) (b := bg) (a := { tmps := a'.tmps, defers := [] }) (k := kk) (cs := csg) (w := w') (rest := rest) hops hwant
        rw [Oper.semAt_eq _ _ _ hnd] at hg'
        have hev2 : ({ tmps := a'.tmps, defers := [] } : Act).eval = a'.eval := by funext z; cases z <;> rfl
        rw [hev2] at hg'
        show (stepG P true { frame := bg.atR { tmps := a'.tmps, defers := [] } (.inRegion ops (i :: rest) :: kk), callers := csg, status := .running, dying := none } w').bare = _
        rw [hg']
        simp [stepG.apply, hexec, fr, Frame.atR]
      have hfin : ∀ v, fr.finish v = bg.atR { tmps := (a'.put o.dst v).tmps, defers := [] } (.inRegion ops rest :: kk) := by
        intro v
        show (bg.atR { tmps := a'.tmps, defers := [] } (.inRegion ops (i :: rest) :: kk)).finish v = _
        rw [Frame.finish_atR, hops]
        cases hd : o.dst <;> simp [Act.put, hd]
      -- the round
      let N2 := s'.next + 8 * ops.size
      have hstart : Mem ⟨w', K', m', N2⟩ w' K' m' s'.H (fun q => N2 ≤ q) := hst'.mem.start (fun q hq => .inl hq)
      let Fr : Fm := ⟨f, some l, [], fun cs M => ∀ csg', cs = fr :: csg' → Fg.G csg' M⟩
      have back : ∀ (b3 : Frame) (cs3 : List Frame) (a3 : Act) (w3 : World) (todo : List Item), (∀ csg', cs3 = fr :: csg' → ∃ M, Steps P (lone (b3.atR { tmps := a3.tmps, defers := [] } todo) cs3 w3) M ∧ Fg.G csg' M) →
          ∃ M, Steps P (lone (b3.atR { tmps := a3.tmps, defers := [] } todo) cs3 w3) M ∧ Fr.G cs3 M := by
        intro b3 cs3 a3 w3 todo hq
        by_cases hc : ∃ csg', cs3 = fr :: csg'
        · obtain ⟨csg', rfl⟩ := hc
          obtain ⟨M, h1, h2⟩ := hq csg' rfl
          exact ⟨M, h1, fun q e => by cases e; exact h2⟩
        · exact ⟨_, Steps.refl _ _, fun q e => absurd ⟨q, e⟩ hc⟩
      have hExt : Ext w1 K1 m s.H w' K' m' s'.H := Ext.of_mem M1s (hst'.mem.weaken (fun q hq => hq)) hrows
      have hm'l : ∀ j, m' j ≠ some (some l) := fun j hj => by
        rcases Nat.lt_or_ge j s.next with hjn | hjn
        · have e : m' j = m j := hst'.mem.mold j hjn
          rw [e] at hj
          exact hnl j l (Nat.le_succ _) hj
        · rcases hst'.mem.mnew j l hjn hj with h3 | ⟨q, _, hq⟩
          · have h3 : w1.heap.size ≤ l := h3
            omega
          · exact hnl q l (Nat.le_succ _) hq
      have hlw' : l < w'.heap.size := by
        rcases Nat.lt_or_ge l w'.heap.size with h | h
        · exact h
        · rw [Array.getElem?_eq_none h] at hlE; cases hlE
      have hround' := hround (ASat P Fr ⟨w', K', m', N2⟩) ⟨cl_of hmx (Nat.le_refl _), ?_⟩
      · obtain ⟨hT1, hT2⟩ := putTs_get (w := w') (K := K') (m := m') (H := s'.H) ps.toList s.tmps (c.args.toList.map s'.ev) a.tmps (c.args.toList.map a'.eval) hst.len (by simp)
          (fun i y v hy hv => ((hst.tmps i y v hy hv).ext e1).ext hExt) (fun i y v hy hv => by
            simp only [List.getElem?_map, Option.map_eq_some_iff] at hy hv
            obtain ⟨z, hz, rfl⟩ := hy
            obtain ⟨z', hz', rfl⟩ := hv
            rw [hz] at hz'; cases hz'
            exact hst'.ev z)
        have htm : (ps.toList.zip (c.args.toList.map a'.eval)).foldl (fun t (p : Tmp × Value) => t.setIfInBounds p.1 p.2) a.tmps = tm := by
          show _ = (ps.zip (c.args.map a'.eval)).foldl _ a.tmps
          rw [← Array.foldl_toList]
          simp
        rw [htm] at hT1 hT2
        obtain ⟨M, h1, h2⟩ := hround' (fun ops q hm => by simp at hm) { tmps := tm, defers := [] } w' K' m' ⟨hT1, hT2, rfl, hstart⟩ { (default : Frame) with fn := f, kind := .normal, roundOf := some l } (fr :: csg) rfl rfl rfl
        refine ⟨M, Steps.trans (.one hstep) ?_, h2 csg rfl⟩
        have hb0 : Frame.round l f tm x b .normal = ({ (default : Frame) with fn := f, kind := .normal, roundOf := some l } : Frame).atR { tmps := tm, defers := [] } [.code x, .beginRound, .code b] := by
          simp [Frame.round, Frame.atR]
        rw [hb0]; exact h1
      · -- the round begins
        intro k2 s2 h2 hok2 a2 w2 K2 m2 hst2 b2 cs2 hb2 hk2 hro2
        have hnr2 : noReg k2 := noReg.tail (show noReg (.beginRound :: k2) from hok2)
        have hl2 : w2.heap[l]? = some (rec_ .ready none) := by
          rw [hst2.mem.keep l hlw' (fun j _ => hm'l j)]; exact hlE
        have sW := putS w' (rec_ .busy none) ⟨_, hlE⟩ (recNo _ _)
        have sW2 := putS w2 (rec_ .busy none) ⟨_, hl2⟩ (recNo _ _)
        have hlB : (w'.putObj l (rec_ .busy none)).heap[l]? = some (rec_ .busy none) := putG _ _ ⟨_, hlE⟩
        have hM2 := hst2.mem.soft2 sW2 sW ((putG _ _ ⟨_, hl2⟩).trans hlB.symm)
        have hs1 := stepR_beginRound (a := { tmps := a2.tmps, defers := [] }) (k := k2) (cs := cs2) hro2 (run_beginRound (P := P) hl2 rfl)
        -- the record at the round's end
        have hl3 : ∀ (E3 : Entry) (w3 : World) (K3 : Nat → Prop) (m3 : Nat → Option (Option Nat)) (H3 : Heap) (fr3 : Nat → Prop), E3 = ⟨w'.putObj l (rec_ .busy none), K', m', N2⟩ → Mem E3 w3 K3 m3 H3 fr3 → w3.heap[l]? = some (rec_ .busy none) := by
          intro E3 w3 K3 m3 H3 fr3 hE3 hM3
          subst hE3
          rw [hM3.keep l (by show l < (w'.putObj l _).heap.size; rw [World.putObj_size]; exact hlw') (fun j _ => hm'l j)]; exact hlB
        -- a jump out of the loop
        have jumpL : ∀ (j : Code) (s3 : AS) (a3 : Act) (w3 : World) (K3 : Nat → Prop) (m3 : Nat → Option (Option Nat)) (csg' : List Frame), Mem ⟨w'.putObj l (rec_ .busy none), K', m', N2⟩ w3 K3 m3 s3.H (fun q => s3.next ≤ q) →
            (RowsLe N2 s'.H s3.H ∧ ∀ Ad, ClD P C S gfn s.next (fun H n => RowsLe s.next s.H H ∧ ∀ A2, Closed P C S fn fin R0 s.next A2 → A2 (.code j :: k) ⟨s.tmps, H, n⟩) Ad → Ad (.inRegion ops rest :: kk) ⟨putT s'.tmps o.dst (boolA false), s3.H, s3.next⟩) →
            ∃ M, Steps P (lone (fr.finish (.bool false)) csg' (w3.putObj l (rec_ .done (some j)))) M ∧ Fg.G csg' M := by
          rintro j s3 a3 w3 K3 m3 csg' hM3 ⟨hr3, hAd⟩
          have hlw3 := hl3 _ _ _ _ _ _ rfl hM3
          have sD1 := putS w1 (rec_ .done (some j)) ⟨_, hl1⟩ (recNo _ _)
          have sD' := putS w' (rec_ .done (some j)) ⟨_, hlE⟩ (recNo _ _)
          have sD3 := putS w3 (rec_ .done (some j)) ⟨_, hlw3⟩ (recNo _ _)
          have hg1 := putG w1 (rec_ .done (some j)) ⟨_, hl1⟩
          have hg' := putG w' (rec_ .done (some j)) ⟨_, hlE⟩
          have hg3 := putG w3 (rec_ .done (some j)) ⟨_, hlw3⟩
          have Ma := hst'.mem.soft2 sD' sD1 (hg'.trans hg1.symm)
          have Mb := hM3.soft2 sD3 (sW.symm.trans sD') (hg3.trans hg'.symm)
          have Mb0 : Mem ⟨w'.putObj l (rec_ .done (some j)), K', m', N2⟩ (w'.putObj l (rec_ .done (some j))) K' m' s'.H (fun q => N2 ≤ q) := Ma.start (fun q hq => .inl hq)
          have ex : Ext (w'.putObj l (rec_ .done (some j))) K' m' s'.H (w3.putObj l (rec_ .done (some j))) K3 m3 s3.H := Ext.of_mem Mb0 Mb hr3
          have Mc := Ma.trans Mb (Nat.le_trans hn' (Nat.le_add_right _ _))
          have hst3 : St ⟨w', K', m', 0⟩ s' a' w' K' m' (fun _ => False) → True := fun _ => trivial
          have hS : St ⟨w1.putObj l (rec_ .done (some j)), K1, m, s.next⟩ ⟨putT s'.tmps o.dst (boolA false), s3.H, s3.next⟩ (a'.put o.dst (.bool false)) (w3.putObj l (rec_ .done (some j))) K3 m3 (freeOf (.inRegion ops rest :: kk) s3.next) := by
            have h0 : St ⟨w1.putObj l (rec_ .done (some j)), K1, m, s.next⟩ s' a' (w'.putObj l (rec_ .done (some j))) K' m' (freeOf (.inRegion ops (i :: rest) :: kk) s'.next) := ⟨hst'.len, fun i y v hy hv => (hst'.tmps i y v hy hv).soft sD', hst'.defers, Ma⟩
            refine ((h0.put o.dst (v := boolA false) (u := .bool false) (.d _ _ (.v _)) Mc ex).next_ s3.next).weaken (fun q hq => ?_)
            rcases hq with hq | ⟨_, _, _, hq, _⟩
            · show s3.next ≤ q; omega
            · show s3.next ≤ q; omega
          have hA := hAd (ASat P Fg ⟨w1.putObj l (rec_ .done (some j)), K1, m, s.next⟩) ⟨cl_of hmx (Nat.le_refl _), fun todo s5 hend hd => retG .done (some j) _ todo s5 (by simp) sD1 hg1 hend hd.1 hd.2⟩
          obtain ⟨M, g1, g2⟩ := hA (okTodo_tail hok') _ _ _ _ hS bg csg' hbg hbk hbro
          exact ⟨M, by rw [hfin]; exact g1, g2⟩
        have hfinal : ∀ _ : ClR P C S fn N2 (fun s2 => RowsLe N2 s'.H s2.H ∧ ASat P Fg ⟨w1, K1, m, s.next⟩ (.inRegion ops rest :: kk) ⟨putT s'.tmps o.dst (boolA true), s2.H, s2.next⟩)
            (fun j s2 => RowsLe N2 s'.H s2.H ∧ ∀ Ad, ClD P C S gfn s.next (fun H n => RowsLe s.next s.H H ∧ ∀ A2, Closed P C S fn fin R0 s.next A2 → A2 (.code j :: k) ⟨s.tmps, H, n⟩) Ad → Ad (.inRegion ops rest :: kk) ⟨putT s'.tmps o.dst (boolA false), s2.H, s2.next⟩)
            (ASat P Fr ⟨w'.putObj l (rec_ .busy none), K', m', N2⟩), ∃ M, Steps P (lone (b2.atR { tmps := a2.tmps, defers := [] } (.beginRound :: k2)) cs2 w2) M ∧ Fr.G cs2 M := fun hcl => by
          obtain ⟨M, g1, g2⟩ := h2 (ASat P Fr ⟨w'.putObj l (rec_ .busy none), K', m', N2⟩) hcl (okTodo_of hnr2) a2 (w2.putObj l (rec_ .busy none)) K2 m2
            ⟨hst2.len, fun i y v hy hv => (hst2.tmps i y v hy hv).soft sW2, hst2.defers, hM2.weaken (fun q hq => (freeOf_of (show noReg (.beginRound :: k2) from hok2) _ _).2 ((freeOf_of hnr2 _ _).1 hq))⟩ b2 cs2 hb2 hk2 hro2
          exact ⟨M, Steps.trans (.one hs1) g1, g2⟩
        refine hfinal ⟨cl_of hmx (Nat.le_refl _), ?_, ?_, ?_⟩
        · rintro s3 ⟨hr3, hA3⟩ _ a3 w3 K3 m3 hst3 b3 cs3 hb3 hk3 hro3
          refine back b3 cs3 a3 w3 [] (fun csg' e => ?_)
          subst e
          have hM3 : Mem ⟨w'.putObj l (rec_ .busy none), K', m', N2⟩ w3 K3 m3 s3.H (fun q => s3.next ≤ q) := hst3.mem.weaken (fun q hq => hq)
          have hlw3 := hl3 _ _ _ _ _ _ rfl hM3
          have hs3 := stepR_round_end (P := P) (a := { tmps := a3.tmps, defers := [] }) (c := fr) (cs := csg') hro3 hk3 (run_endRound none hlw3)
          have s3s := putS w3 (rec_ .ready none) ⟨_, hlw3⟩ (recNo _ _)
          have hg3 := putG w3 (rec_ .ready none) ⟨_, hlw3⟩
          have Mb := hM3.soft2 s3s sW.symm (hg3.trans hlE.symm)
          have ex : Ext w' K' m' s'.H (w3.putObj l (rec_ .ready none)) K3 m3 s3.H := Ext.of_mem hstart Mb hr3
          have Mc := hst'.mem.trans Mb (Nat.le_trans hn' (Nat.le_add_right _ _))
          have hS : St ⟨w1, K1, m, s.next⟩ ⟨putT s'.tmps o.dst (boolA true), s3.H, s3.next⟩ (a'.put o.dst (.bool true)) (w3.putObj l (rec_ .ready none)) K3 m3 (freeOf (.inRegion ops rest :: kk) s3.next) := by
            refine ((hst'.put o.dst (v := boolA true) (u := .bool true) (.d _ _ (.v _)) Mc ex).next_ s3.next).weaken (fun q hq => ?_)
            rcases hq with hq | ⟨_, _, _, hq, _⟩
            · show s3.next ≤ q; omega
            · show s3.next ≤ q; omega
          obtain ⟨M, g1, g2⟩ := hA3 (okTodo_tail hok') _ _ _ _ hS bg csg' hbg hbk hbro
          exact ⟨M, Steps.trans (.one hs3) (by show Steps P (lone (fr.finish (.bool true)) csg' _) M; rw [hfin]; exact g1), g2⟩
        · rintro kr s3 hj hok3 a3 w3 K3 m3 hst3 b3 cs3 hb3 hk3 hro3
          refine back b3 cs3 a3 w3 _ (fun csg' e => ?_)
          subst e
          have hM3 : Mem ⟨w'.putObj l (rec_ .busy none), K', m', N2⟩ w3 K3 m3 s3.H (fun q => s3.next ≤ q) := hst3.mem.weaken (fun q hq => (freeOf_of (show noReg _ from hok3) _ _).2 hq)
          have hs3 := stepR_round_ret (P := P) (a := { tmps := a3.tmps, defers := [] }) (k := kr) (c := fr) (cs := csg') hro3 hk3 (run_endRound (some .ret) (hl3 _ _ _ _ _ _ rfl hM3))
          obtain ⟨M, g1, g2⟩ := jumpL .ret s3 a3 w3 K3 m3 csg' hM3 hj
          exact ⟨M, Steps.trans (.one hs3) g1, g2⟩
        · rintro id kr s3 hx hj hok3 a3 w3 K3 m3 hst3 b3 cs3 hb3 hk3 hro3
          refine back b3 cs3 a3 w3 _ (fun csg' e => ?_)
          subst e
          have hM3 : Mem ⟨w'.putObj l (rec_ .busy none), K', m', N2⟩ w3 K3 m3 s3.H (fun q => s3.next ≤ q) := hst3.mem.weaken (fun q hq => (freeOf_of (show noReg _ from hok3) _ _).2 hq)
          have hs3 := stepR_round_exit (P := P) (a := { tmps := a3.tmps, defers := [] }) (k := kr) (c := fr) (cs := csg') hro3 hk3 hx (run_endRound (some (.exit id)) (hl3 _ _ _ _ _ _ rfl hM3))
          obtain ⟨M, g1, g2⟩ := jumpL (.exit id) s3 a3 w3 K3 m3 csg' hM3 hj
          exact ⟨M, Steps.trans (.one hs3) g1, g2⟩
    · -- the first state of the function that is ranged over
      have r1 : ∀ (i : Nat) (z : AV) (v : Value), (fs ++ .clo (.yield l) [] [] :: cs)[i]? = some z → (us ++ #[Value.func (.yield l) #[] #[]] ++ vs)[i]? = some v → Rel w1 K1 m s.H z v := by
        have h2 : ∀ (i : Nat) (z : AV) (v : Value), ([AV.clo (.yield l) [] []] ++ cs)[i]? = some z → (#[Value.func (.yield l) #[] #[]] ++ vs)[i]? = some v → Rel w1 K1 m s.H z v :=
          rel_app rfl (fun i z v hz hv => by
            cases i with
            | zero =>
              have hz : AV.clo (.yield l) [] [] = z := Option.some.inj hz
              have hv : Value.func (.yield l) #[] #[] = v := by simpa using hv
              subst hz; subst hv
              exact .clo _ _ _ _ _ rfl rfl (fun i z v h => by cases h) (fun i z v h => by cases h)
            | succ i => cases hz) (fun i z v hz hv => (hvr i z v hz hv).ext e1)
        rw [Array.append_assoc]
        exact rel_app hus (fun i z v hz hv => (hur i z v hz hv).ext e1) h2
      have hlen : (us ++ #[Value.func (.yield l) #[] #[]] ++ vs).size = (fs ++ .clo (.yield l) [] [] :: cs).length := by
        simp [hus, hvs]; omega
      refine ⟨?_, rel_app hlen r1 (fun i z v hz hv => ?_), rfl, M1s.weaken (fun q hq => (freeOf_of (fun ops q hm => by simp at hm) _ _).1 hq)⟩
      · show ((us ++ #[Value.func (.yield l) #[] #[]] ++ vs) ++ Array.replicate (gfn.ntmps - (us ++ #[Value.func (.yield l) #[] #[]] ++ vs).size) undef).size = _
        simp [hus, hvs]; omega
      · rw [List.getElem?_replicate] at hz
        rw [Array.getElem?_replicate] at hv
        split at hz
        · split at hv
          · cases hz; cases hv; exact .d _ _ (.v _)
          · cases hv
        · cases hz
  -- the machine
  intro bfr csr hbf hbk hbro
  have hbf : bfr.fn = f := hbf
  have hro : bfr.roundOf = none := hbro
  have he := run_enterLoop_outer (P := P) (w := w) bfr.fn a.tmps ps x b
  rw [hbf] at he
  have he' : (Instr.enterLoop bfr.fn a.tmps ps x b bfr.roundOf).run P w = .ok (l, [mark D]) w1 := by rw [hbf, hro]; exact he
  have hev0 : ({ tmps := a.tmps, defers := [] } : Act).eval = a.eval := by funext z; cases z <;> rfl
  have hrs : (resolve ({ tmps := a.tmps, defers := [] } : Act).eval (rangeCall g l) 0).run P w1 = .ok { target := .fn (.func gf) vs, args := us ++ #[.func (.yield l) #[] #[]] } w1 := by
    rw [hev0]
    show (Deferred.ofValue (a.eval g) (#[Operand.const (.func (.yield l) #[] #[])].map a.eval)).run P w1 = _
    have e : (#[Operand.const (.func (.yield l) #[] #[])].map a.eval) = #[Value.func (.yield l) #[] #[]] := by simp [Act.eval]
    rw [hgv, e]
    rfl
  have hinv : (invoke (.fn (.func gf) vs) (us ++ #[.func (.yield l) #[] #[]])).run P w1 = .ok (.enter gf (us ++ #[Value.func (.yield l) #[] #[]] ++ vs)) w1 := by
    simp only [invoke]
    exact call_enters hent _ _
  have hs1 := stepR_rangeFunc (P := P) (b := bfr) (a := { tmps := a.tmps, defers := [] }) (k := k) (cs := csr) he' hrs hinv
  have henter : Frame.enter P gf (us ++ #[Value.func (.yield l) #[] #[]] ++ vs) .normal = ({ (default : Frame) with fn := gf, kind := .normal, roundOf := none } : Frame).atR afr [.code gc] := by
    simp [Frame.enter, Frame.atR, hgf, hgc, afr]
  obtain ⟨M, h1, v, w3, fr3, ⟨_, jump, w4, hend, hruns⟩, rfl, hfn3, hleave⟩ := hinner { (default : Frame) with fn := gf, kind := .normal, roundOf := none } (bfr.atR { tmps := a.tmps, defers := [mark D] ++ [] } (.inRangeFunc l :: k) :: csr) rfl rfl rfl
  obtain ⟨M2, h2, h3⟩ := hruns bfr csr hbf hbk hro
  refine ⟨M2, ?_, h3⟩
  have t1 := step_leave_returned (c := bfr.atR { tmps := a.tmps, defers := [mark D] ++ [] } (.inRangeFunc l :: k)) (cs := csr) hleave
  rw [finish_atR_inRangeFunc] at t1
  have t2 := stepR_endRangeFunc (P := P) (b := bfr) (a := { tmps := a.tmps, defers := [mark D] ++ [] }) (k := k) (cs := csr) hend
  rw [henter] at hs1
  exact Steps.trans (.one hs1) (Steps.trans h1 (Steps.trans (.one t1) (Steps.trans (.one t2) h2)))

theorem Pure.of_closedR {fn : Func} (hmx : P.follows .mixedOrders = true) (hf : P.funcs[f]? = some fn) (hb : fn.body.isSome = true) {args : List Arg} {ts : List Ty} {x : TyTup ts} (hnt : args.length ≤ fn.ntmps)
    (h : ∀ A, ClosedR P C S fn (pureFin ts) (· = x) 0 A → A (bodyOf fn) (startS fn args)) : Pure P f args ts x :=
  Pure.of_sat hf hb hnt fun E hE hEK hfin => h _ (closedR hmx hf hfin (by omega) hEK)

theorem Gc.of_closedR {fn : Func} (hmx : P.follows .mixedOrders = true) (hf : P.funcs[f]? = some fn) (hb : fn.body.isSome = true) {as : List AV} {H0 : Heap} {n0 : Nat} {r : GRes}
    (hrow : ∀ i T t xs, i < n0 → r.H.get i = some (.row T t xs) → ∃ ys, H0.get i = some (.row T t ys) ∧ ys.length = xs.length)
    (h : ∀ A, ClosedR P C S fn (gFin n0) (fun r' => GRes.Le r' r) n0 A → A (bodyOf fn) (startG fn as H0 n0)) : Gc P f as H0 n0 r := by
  refine ⟨hrow, fun w K m vs hM hvs hrel => ?_⟩
  obtain ⟨c, hc⟩ := Option.isSome_iff_exists.1 hb
  have hbody : bodyOf fn = [.code c] := by simp [bodyOf, hc]
  refine calls_of_runs hf hc ?_
  have h1 := h _ (closedR (E := ⟨w, K, m, n0⟩) hmx hf (g_fin (E := ⟨w, K, m, n0⟩) r) (Nat.le_refl n0) hM.Klt)
  rw [hbody] at h1
  refine h1 (fun ops l hm => by simp at hm) _ w K m ⟨by simp [startG, hvs], fun i y v hy hv => ?_, rfl, hM⟩
  simp only [startG] at hy ⊢
  rw [List.getElem?_append] at hy
  rw [Array.getElem?_append, hvs] at hv
  split at hy
  · rename_i hi
    rw [if_pos hi] at hv
    exact hrel i y v hy hv
  · rename_i hi
    rw [if_neg hi] at hv
    rw [List.getElem?_replicate] at hy
    rw [Array.getElem?_replicate] at hv
    by_cases hc2 : i - as.length < fn.ntmps - as.length
    · rw [if_pos hc2] at hy hv
      simp only [Option.some.injEq] at hy hv; subst hy; subst hv; exact .d _ _ (.v _)
    · rw [if_neg hc2] at hy; cases hy

end Go.VL

/-
  The value layer, part 31: small things that all proofs use. (Own work.)
-/
namespace Go.VL

theorem sat_bif {α : Type} {P : Program} {A : List Item → AS → Prop} {R0 : α → Prop} {b : Bool} {S T : Out α} (h1 : b = true → Sat P A R0 S) (h0 : b = false → Sat P A R0 T) : Sat P A R0 (bif b then S else T) := by
  cases b
  · exact h0 rfl
  · exact h1 rfl
/-- .. where the result is told by the same question. -/
theorem sat_if {α : Type} {P : Program} {A : List Item → AS → Prop} {x y : α} {b : Bool} {S T : Out α} (h1 : b = true → Sat P A (fun z => z = x) S) (h0 : b = false → Sat P A (fun z => z = y) T) : Sat P A (fun z => z = bif b then x else y) (bif b then S else T) := by
  cases b
  · exact h0 rfl
  · exact h1 rfl

/-- A range over a function, named by its place. -/
theorem ClosedR.at {α : Type} {P : Program} {C : Codes} {S : Sigs} {fn : Func} {fin : Fin α} {R0 : α → Prop} {n0 : Nat} {A : List Item → AS → Prop} (hA : ClosedR P C S fn fin R0 n0 A) (todo : List Item) (s : AS) (gf : FuncId) (gfn : Func) (gc : Code) (fs cs : List AV)
    (hrf : isRf todo = true) (hev : s.ev (rfG todo) = .clo (.func gf) fs cs) (hgf : P.funcs[gf]? = some gfn) (hgc : gfn.body = some gc) (hent : entersB P gf = true) (hres : gfn.results = #[]) (hn : n0 ≤ s.next)
    (h : ∀ l A', ClG P C S gfn fn s.next l s.H (rfP todo) (rfA todo) (rfB todo) s.tmps (fun H n => RowsLe s.next s.H H ∧ ∀ A2, Closed P C S fn fin R0 s.next A2 → A2 (rfK todo) ⟨s.tmps, H, n⟩)
      (fun j H n => RowsLe s.next s.H H ∧ ∀ A2, Closed P C S fn fin R0 s.next A2 → A2 (.code j :: rfK todo) ⟨s.tmps, H, n⟩) A' →
      A' (bodyOf gfn) ⟨fs ++ .clo (.yield l) [] [] :: cs ++ List.replicate (gfn.ntmps - (fs.length + 1 + cs.length)) (.d (.v undef)), s.H, s.next⟩) : A todo s := by
  unfold isRf at hrf
  split at hrf
  · rename_i g ps x b k
    have hb : bodyOf gfn = [.code gc] := by simp [bodyOf, hgc]
    rw [hb] at h
    exact hA.range g ps x b k s gf gfn gc fs cs hev hgf hgc hent hres hn h
  · cases hrf

/-- The call of a loop's own body, named by its place. -/
def inOps : List Item → Array Oper | .inRegion ops _ :: _ => ops | _ => #[]
def inIx : List Item → Nat | .inRegion _ (i :: _) :: _ => i | _ => 0
def inNext : List Item → List Item | .inRegion ops (_ :: r) :: k => .inRegion ops r :: k | _ => []
def inOk : List Item → Bool | .inRegion _ (_ :: _) :: _ => true | _ => false
def opOf (t : List Item) : Option Oper := (inOps t)[inIx t]?
def callIn (o : Oper) : Option (Operand × Array Operand) := match o.op with
  | .call { callee := .value y, args, .. } => some (y, args)
  | _ => none
theorem ClG.at {P : Program} {C : Codes} {S : Sigs} {gfn fn : Func} {n1 l : Nat} {H0 : Heap} {ps : Array Tmp} {x b : Code} {tmps : List AV} {done : Heap → Nat → Prop} {doneJ : Code → Heap → Nat → Prop} {A : List Item → AS → Prop}
    (hA : ClG P C S gfn fn n1 l H0 ps x b tmps done doneJ A) (todo : List Item) (s : AS) (o : Oper) (y : Operand) (args : Array Operand) (hin : inOk todo = true) (ho : opOf todo = some o) (hg : o.guard = none) (hc : callIn o = some (y, args))
    (hev : s.ev y = .clo (.yield l) [] []) (hsz : args.size = ps.size) (hr : RowsLe n1 H0 s.H) (hn : n1 ≤ s.next)
    (h : ∀ Ar, ClB P C S fn (s.next + 8 * (inOps todo).size) (fun s2 => RowsLe (s.next + 8 * (inOps todo).size) s.H s2.H ∧ A (inNext todo) ⟨putT s.tmps o.dst (boolA true), s2.H, s2.next⟩)
      (fun j s2 => RowsLe (s.next + 8 * (inOps todo).size) s.H s2.H ∧ ∀ Ad, ClD P C S gfn n1 (doneJ j) Ad → Ad (inNext todo) ⟨putT s.tmps o.dst (boolA false), s2.H, s2.next⟩) Ar →
      Ar [.code x, .beginRound, .code b] ⟨putTs tmps ps.toList (args.toList.map s.ev), s.H, s.next + 8 * (inOps todo).size⟩) : A todo s := by
  unfold inOk at hin
  split at hin
  · rename_i ops i rest kk
    unfold callIn at hc
    split at hc
    · rename_i y' args' ats hop
      cases hc
      exact hA.yield ops i rest kk s o _ y ho hg hop rfl hev hsz hr hn h
    · cases hc
  · cases hin

theorem nt {b : Bool} (h : (!b) = true) : b = false := by cases b <;> simp_all
theorem nf {b : Bool} (h : (!b) = false) : b = true := by cases b <;> simp_all
theorem Pure.eq {P : Program} {f : FuncId} {args : List Arg} {ts : List Ty} {x y : TyTup ts} (h : Pure P f args ts x) (e : x = y) : Pure P f args ts y := e ▸ h

theorem wrap_i64 {n : Int} (h1 : -9223372036854775808 ≤ n) (h2 : n < 9223372036854775808) : IntKind.i64.wrap n = n := by
  unfold IntKind.wrap
  have e : (2 ^ IntKind.i64.bits : Int) = 18446744073709551616 := rfl
  have e2 : (2 ^ (IntKind.i64.bits - 1) : Int) = 9223372036854775808 := rfl
  have e3 : IntKind.i64.signed = true := rfl
  simp only [e, e2, e3, Bool.true_and]
  rcases Int.lt_or_le n 0 with h | h
  · have : n % 18446744073709551616 = n + 18446744073709551616 := by omega
    rw [this, if_pos (by simpa using by omega)]; omega
  · have : n % 18446744073709551616 = n := Int.emod_eq_of_lt h (by omega)
    rw [this, if_neg (by simpa using by omega)]
theorem wrap_u64 (n : Int) : IntKind.u64.wrap n = n % 18446744073709551616 := by
  unfold IntKind.wrap
  have e : (2 ^ IntKind.u64.bits : Int) = 18446744073709551616 := rfl
  have e3 : IntKind.u64.signed = false := rfl
  simp only [e, e3, Bool.false_and]; rfl
theorem wrap_u8 (n : Int) : IntKind.u8.wrap n = n % 256 := by
  unfold IntKind.wrap
  have e : (2 ^ IntKind.u8.bits : Int) = 256 := rfl
  have e3 : IntKind.u8.signed = false := rfl
  simp only [e, e3, Bool.false_and]; rfl
/-- A number goes on by one. -/
theorem wrap_succ {n : Nat} (h : n < 9223372036854775807) : IntKind.i64.wrap ((n : Int) + 1) = ((n + 1 : Nat) : Int) := by
  rw [wrap_i64 (by omega) (by omega)]; rfl

abbrev T3' : True ∧ True ∧ True := ⟨trivial, trivial, trivial⟩
theorem getD_at' {α : Type} {l : List α} {k : Nat} {d : α} (h : k < l.length) : l.getD k d = l[k] := by simp [List.getD, h]
theorem getD_int {α : Type} {l : List α} {k : Nat} {d : α} (h : k < l.length) : l.getD ((k : Int).toNat) d = l[k] := by rw [Int.toNat_natCast]; exact getD_at' h

abbrev i64 (n : Int) : AV := .d (.v (.int .i64 n))
abbrev u64 (n : Int) : AV := .d (.v (.int .u64 n))

abbrev FitI (n : Int) : Prop := -9223372036854775808 ≤ n ∧ n < 9223372036854775808
theorem wfI {d : D} {n : Int} (h : D.Wf d) (e : d = .i n) : FitI n := by
  subst e
  cases h with
  | int _ _ h =>
    have e1 : IntKind.min .i64 = -9223372036854775808 := by rfl
    have e2 : IntKind.max .i64 = 9223372036854775807 := by rfl
    simp only [Lit.wf, Bool.and_eq_true, decide_eq_true_eq, e1, e2] at h
    unfold FitI; omega
theorem wfU {d : D} {n : Int} (h : D.Wf d) (e : d = .u n) : 0 ≤ n ∧ n < 18446744073709551616 := by
  subst e
  cases h with
  | int _ _ h =>
    have e1 : IntKind.min .u64 = 0 := by rfl
    have e2 : IntKind.max .u64 = 18446744073709551615 := by rfl
    simp only [Lit.wf, Bool.and_eq_true, decide_eq_true_eq, e1, e2] at h
    omega
theorem wfB {d : D} {n : Int} (h : D.Wf d) (e : d = .v (.int .u8 n)) : 0 ≤ n ∧ n < 256 := by
  subst e
  cases h with
  | int _ _ h =>
    have e1 : IntKind.min .u8 = 0 := by rfl
    have e2 : IntKind.max .u8 = 255 := by rfl
    simp only [Lit.wf, Bool.and_eq_true, decide_eq_true_eq, e1, e2] at h
    omega
theorem wfL {d : D} {t : Ty} {xs : List t.ty} (h : D.Wf d) (e : d = .sl t xs) : ∀ x ∈ xs, wfT t x := by
  subst e
  cases h with
  | sl _ _ _ h => exact fun x hx d hd => h x hx d hd

theorem AVle.nilview (H : Heap) (l : Nat) (t : Ty) (off : Nat) : AVle H (.d (.v (.slice none 0 0))) (.view l t off 0) := fun _ _ _ _ _ h => by
  cases h with
  | d _ _ h =>
    cases h
    exact .view0 l t off none

end Go.VL

/- One slot that says less. (Own work.) -/
namespace Go.VL
theorem AS.Le.slot {s : AS} {i : Nat} {x y : AV} (hx : s.tmps[i]? = some x) (h : AVle s.H x y) : AS.Le s ⟨s.tmps.set i y, s.H, s.next⟩ :=
  ⟨by simp, fun j a b ha hb => by
    have hb : (s.tmps.set i y)[j]? = some b := hb
    rw [List.getElem?_set] at hb
    by_cases hij : i = j
    · subst hij
      rw [if_pos rfl] at hb
      split at hb
      · cases hb; rw [hx] at ha; cases ha; exact h
      · cases hb
    · rw [if_neg hij] at hb
      rw [ha] at hb; cases hb; exact .refl _ _, fun l b hb => ⟨b, hb, .refl _ b⟩, Nat.le_refl _⟩
theorem Closed.slot {α : Type} {P : Program} {C : Codes} {S : Sigs} {fn : Func} {fin : Fin α} {R0 : α → Prop} {n0 : Nat} {A : List Item → AS → Prop} (hA : Closed P C S fn fin R0 n0 A) (i : Nat) (x y : AV) {todo : List Item} {s s' : AS}
    (hh : isHead todo = true) (hx : s.tmps[i]? = some x) (hle : AVle s.H x y) (he : (⟨s.tmps.set i y, s.H, s.next⟩ : AS) = s') (h : A todo s') : A todo s :=
  hA.le todo s _ hh (AS.Le.slot hx hle) (by rw [he]; exact h)
end Go.VL
