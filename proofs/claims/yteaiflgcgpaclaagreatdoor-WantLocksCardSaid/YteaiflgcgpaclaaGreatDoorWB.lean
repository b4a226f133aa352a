/-
  The value layer, part 10: operations, one by one: numbers, places, calls of builtins. (Own work.)
-/
import Derived.Test.YteaiflgcgpaclaaGreatDoorWA
import Derived.Deep.Draws
import Derived.MapKept
set_option linter.unusedVariables false
set_option linter.unusedSimpArgs false
namespace Go.VL

variable {P : Program} {C : Codes} {E : Entry} {w : World} {K : Nat → Prop} {m : Nat → Option (Option Nat)} {H : Heap} {free : Nat → Prop} {nm : Nat} {o : Oper}
  {ρ : Operand → Value} {ρA : Operand → AV} {e : Eff}

theorem ran_nilCheck (hM : Mem E w K m H free) (hρ : ∀ x, Rel w K m H (ρA x) (ρ x)) {x : Operand} (ho : o.op = .nilCheck x) (he : opE P C ρA H nm o = some e) : Ran P E ρ o w K m H free nm e := by
  have hr := hρ x
  simp only [opE, ho] at he
  have key : ∀ {u : Value}, ρ x = u → (∃ a, u = .pointer (some a)) ∨ (∃ f us vs, u = .func (.func f) us vs) → (execOp ρ o).run P w = .ok (.value u) w := by
    intro u hu h
    rcases h with ⟨a, rfl⟩ | ⟨f, us, vs, rfl⟩ <;> simp [execOp, ho, hu]
  split at he
  · rename_i ha; rw [ha] at hr he
    generalize hgv : ρ x = ra at hr
    cases hr with | ptr _ _ b hm => exact eff_same he hM (key hgv (.inl ⟨_, rfl⟩)) (.ptr _ _ _ hm)
  · rename_i ha; rw [ha] at hr he
    generalize hgv : ρ x = ra at hr
    cases hr with | eptr _ _ _ _ b hm => exact eff_same he hM (key hgv (.inl ⟨_, rfl⟩)) (.eptr _ _ _ _ _ hm)
  · rename_i ha; rw [ha] at hr he
    generalize hgv : ρ x = ra at hr
    cases hr with | ip _ b off u hb hc hr => exact eff_same he hM (key hgv (.inl ⟨_, rfl⟩)) (.ip _ _ _ _ hb hc hr)
  · rename_i f fs cs ha; rw [ha] at hr
    generalize hgv : ρ x = ra at hr
    cases hr with | clo _ _ _ us vs hf hl h1 h2 => exact eff_same he hM (key hgv (.inr ⟨_, _, _, rfl⟩)) (.clo _ _ _ _ _ hf hl h1 h2)
  · cases he

/-! ### floats -/

theorem order_nan_l {x y : Nat} (h : nanBits x) : FloatKind.f64.format.order x y = none := by
  unfold nanBits at h
  unfold Ieee.Format.order Ieee.Datum.order
  generalize FloatKind.f64.format.read x = a at h
  cases a <;> first | rfl | (simp [Ieee.Datum.isNaN] at h)
theorem order_nan_r {x y : Nat} (h : nanBits y) : FloatKind.f64.format.order x y = none := by
  unfold nanBits at h
  unfold Ieee.Format.order Ieee.Datum.order
  generalize FloatKind.f64.format.read y = a at h
  generalize FloatKind.f64.format.read x = b
  cases a <;> first | (cases b <;> rfl) | (simp [Ieee.Datum.isNaN] at h)

theorem cmp_ok {a b : Fl} {x y : Nat} (ha : flOk a x) (hb : flOk b y) : FloatKind.f64.format.order x y = Fl.cmp a b := by
  cases a with
  | none => simp only [Fl.cmp, Option.bind_none]; exact order_nan_l ha
  | some r =>
    cases b with
    | none => simp only [Fl.cmp, Option.bind_some, Option.bind_none]; exact order_nan_r hb
    | some s => simp only [flOk] at ha hb; subst ha; subst hb; rfl

theorem nan_of_choose (q : Nat) : nanBits ((q % 2) * 2 ^ 63 + 0x7ff0000000000000 + 1 + (q / 2) % (2 ^ 52 - 1)) := by
  unfold nanBits
  have h1 : FloatKind.f64.format.signWeight = 9223372036854775808 := by decide
  have h2 : FloatKind.f64.format.binade = 4503599627370496 := by decide
  have h3 : FloatKind.f64.format.infRung = 9218868437227405312 := by decide
  simp only [Ieee.Format.read, h1, h2, h3]
  generalize hw : (q % 2) * 2 ^ 63 + 0x7ff0000000000000 + 1 + (q / 2) % (2 ^ 52 - 1) = x
  have h4 : 9218868437227405312 < x % 9223372036854775808 := by
    rcases Nat.mod_two_eq_zero_or_one q with h | h <;> rw [h] at hw <;> omega
  rw [if_neg (by omega), if_neg (by omega), if_neg (by omega)]
  rfl

theorem arith_none_l {op : BinOp} {y : Fl} : Fl.arith op none y = none := rfl
theorem sum_nan_l {a b : Ieee.Datum} (h : a.isNaN = true) : a.sum b = none := by cases a <;> first | rfl | (simp [Ieee.Datum.isNaN] at h)
theorem sum_nan_r {a b : Ieee.Datum} (h : b.isNaN = true) : a.sum b = none := by cases b <;> first | (cases a <;> rfl) | (simp [Ieee.Datum.isNaN] at h)
theorem product_nan_l {a b : Ieee.Datum} (h : a.isNaN = true) : a.product b = none := by cases a <;> first | rfl | (simp [Ieee.Datum.isNaN] at h)
theorem product_nan_r {a b : Ieee.Datum} (h : b.isNaN = true) : a.product b = none := by cases b <;> first | (cases a <;> rfl) | (simp [Ieee.Datum.isNaN] at h)
theorem quotient_nan_l {n : Nat} {a b : Ieee.Datum} (h : a.isNaN = true) : a.quotient n b = none := by cases a <;> first | rfl | (simp [Ieee.Datum.isNaN] at h)
theorem quotient_nan_r {n : Nat} {a b : Ieee.Datum} (h : b.isNaN = true) : a.quotient n b = none := by cases b <;> first | (cases a <;> rfl) | (simp [Ieee.Datum.isNaN] at h)
theorem opp_nan {a : Ieee.Datum} (h : a.isNaN = true) : a.opposite.isNaN = true := by cases a <;> first | rfl | (simp [Ieee.Datum.isNaN] at h)

/-- What an operation on two words gives, if it is no no-number. -/
def rawArith (op : BinOp) (x y : Nat) : Option Nat := match op with
  | .add => FloatKind.f64.format.add x y
  | .sub => FloatKind.f64.format.sub x y
  | .mul => FloatKind.f64.format.mul x y
  | .quo => FloatKind.f64.format.div x y
  | _ => none

theorem raw_nan_l {op : BinOp} {x y : Nat} (h : nanBits x) : rawArith op x y = none := by
  unfold nanBits at h
  cases op <;> simp only [rawArith, Ieee.Format.add, Ieee.Format.sub, Ieee.Format.mul, Ieee.Format.div, sum_nan_l h, product_nan_l h, quotient_nan_l h, Option.map_none]
theorem raw_nan_r {op : BinOp} {x y : Nat} (h : nanBits y) : rawArith op x y = none := by
  unfold nanBits at h
  cases op <;> simp only [rawArith, Ieee.Format.add, Ieee.Format.sub, Ieee.Format.mul, Ieee.Format.div, sum_nan_r h, sum_nan_r (opp_nan h), product_nan_r h, quotient_nan_r h, Option.map_none]

theorem arith_ok {op : BinOp} {a b : Fl} {x y : Nat} (ha : flOk a x) (hb : flOk b y) : rawArith op x y = Fl.arith op a b := by
  cases a with
  | none => rw [raw_nan_l ha]; rfl
  | some r =>
    cases b with
    | none => rw [raw_nan_r hb]; rfl
    | some s => simp only [flOk] at ha hb; subst ha; subst hb; cases op <;> rfl

theorem run_floatArith {op : BinOp} (hop : op = .add ∨ op = .sub ∨ op = .mul ∨ op = .quo) (x y : Nat) (w : World) :
    ∃ b n, (Op.floatArith op .f64 x y).run P w = .ok (.float .f64 b) (w.drewN n) ∧ flOk (rawArith op x y) b := by
  have fin : ∀ (r : Option Nat), ∃ b n, ((match r with | some r => (pure (.float .f64 r) : Sem Value) | none => do pure (.float .f64 (← choose (.nanBits .f64 x y)))) : Sem Value).run P w = .ok (.float .f64 b) (w.drewN n) ∧ flOk r b := by
    intro r
    cases r with
    | some r => exact ⟨r, 0, rfl, rfl⟩
    | none => exact ⟨_, 1, rfl, nan_of_choose _⟩
  rcases hop with rfl | rfl | rfl | rfl <;> (simp only [Op.floatArith, Sem.run_bind, Sem.run_pure, Result.andThen_ok, rawArith]; exact fin _)

theorem Ext.drewN (w : World) (K : Nat → Prop) (m : Nat → Option (Option Nat)) (H : Heap) (n : Nat) : Ext w K m H (w.drewN n) K m H :=
  ⟨fun _ h => h, fun _ _ => rfl, fun _ _ h => h, fun _ _ h => h, fun _ _ _ xs _ h => ⟨xs, h, rfl⟩⟩

theorem Mem.drewN (h : Mem E w K m H free) (n : Nat) : Mem E (w.drewN n) K m H free :=
  { os := h.os, tape := h.tape, output := h.output, size := h.size, keep := h.keep, Kmono := h.Kmono, Klt := h.Klt, Knew := h.Knew, mold := h.mold, mnew := h.mnew, mlt := h.mlt,
    mfree := h.mfree, fnew := h.fnew, heap := fun l blk hl => (h.heap l blk hl).ext (Ext.drewN w K m H n) (fun _ _ => rfl),
    own := h.own, inj := h.inj, shape := h.shape, frozen := h.frozen, gok := h.gok.ext (fun _ h => h) (fun _ _ => rfl) }
theorem Ran.sameN {nm : Nat} {v : AV} {p : Prop} {rd : List Nat} (hM : Mem E w K m H free) {u : Value} {n : Nat}
    (hr : (execOp ρ o).run P w = .ok (.value u) (w.drewN n)) (h : Rel (w.drewN n) K m H v u) : Ran P E ρ o w K m H free nm ⟨v, p, rd, []⟩ :=
  ⟨_, u, w.drewN n, K, m, hr, .inl rfl, h, (hM.drewN n).weaken (fun _ hl => hl.1), Ext.drewN w K m H n⟩

theorem guard_plain {op : BinOp} {t : TypeId} {x y : Operand} {a b : Value} (h1 : a ≠ .nilIface) (h2 : ∀ cs, a ≠ .agg cs) (w : World) : (eqGuard op t x y a b).run P w = .ok () w := by
  unfold eqGuard
  cases op <;> first | rfl | (simp only []; cases a <;> first | rfl | (exact absurd rfl h1) | (exact absurd rfl (h2 _)) | (cases b <;> rfl))

theorem run_bin {op : BinOp} {t yt : TypeId} {x y : Operand} {u : Value} {w' : World} (ho : o.op = .binOp op t x y yt) (h1 : ρ x ≠ .nilIface) (h2 : ∀ cs, ρ x ≠ .agg cs)
    (h : (binOp op t (ρ x) (ρ y)).run P w = .ok u w') : (execOp ρ o).run P w = .ok (.value u) w' := by
  simp only [execOp, ho, Sem.run_bind, guard_plain h1 h2, Result.andThen_ok, h, Sem.run_pure]

theorem ran_binE (hM : Mem E w K m H free) (hρ : ∀ x, Rel w K m H (ρA x) (ρ x)) {op : BinOp} {t yt : TypeId} {x y : Operand} (ho : o.op = .binOp op t x y yt) (he : binE P op t (ρA x) (ρA y) = some e) (hn : e.need) :
    Ran P E ρ o w K m H free nm e := by
  have hx := hρ x
  have hy := hρ y
  unfold binE at he
  split at he
  · rename_i a b ha hb
    obtain ⟨xa, ex, hxa⟩ := flt?_rel ha hx
    obtain ⟨xb, ey, hxb⟩ := flt?_rel hb hy
    have hrb := fun (u : Value) (w' : World) (h : (binOp op t (ρ x) (ρ y)).run P w = .ok u w') => run_bin (P := P) (w := w) ho (by rw [ex]; simp) (by rw [ex]; simp) h
    rw [ex, ey] at hrb
    have arith : ∀ (hop : op = .add ∨ op = .sub ∨ op = .mul ∨ op = .quo), eff (.d (.f (Fl.arith op a b))) = some e → Ran P E ρ o w K m H free nm e := by
      intro hop he
      simp only [eff, Option.some.injEq] at he
      subst he
      obtain ⟨b', n, hr, hok⟩ := run_floatArith (P := P) hop xa xb w
      refine Ran.sameN hM (n := n) (hrb _ _ ?_) (.d _ _ (.f _ _ (by rw [← arith_ok hxa hxb]; exact hok)))
      rcases hop with rfl | rfl | rfl | rfl <;> simpa [binOp] using hr
    have test : (Fl.test op a b).bind (fun r => eff (.ofV (.bool r))) = some e → Ran P E ρ o w K m H free nm e := by
      intro he
      simp only [Option.bind_eq_some_iff] at he
      obtain ⟨r, hr, he⟩ := he
      refine eff_same he hM (hrb (.bool r) w ?_) (.d _ _ (.v _))
      have hc := cmp_ok hxa hxb
      cases op <;> simp only [Fl.test, Option.some.injEq, reduceCtorEq] at hr <;> (subst hr; simp [binOp, Op.floatCmp, hc])
    split at he
    · exact arith (by simp) he
    · exact arith (by simp) he
    · exact arith (by simp) he
    · exact arith (by simp) he
    · exact test he
  · split at he
    · rename_i k a k' b ha hb
      rw [ha] at hx; rw [hb] at hy
      have ex := val_rel hx
      have ey := val_rel hy
      have hrb := fun (u : Value) (w' : World) (h : (binOp op t (ρ x) (ρ y)).run P w = .ok u w') => run_bin (P := P) (w := w) ho (by rw [ex]; simp) (by rw [ex]; simp) h
      rw [ex, ey] at hrb
      split at he
      · split at he
        · rename_i hk; subst hk
          simp only [Option.some.injEq] at he; subst he
          exact Ran.same hM (hrb _ _ (by simp only [ne_eq] at hn; simp [binOp, Op.intDiv, hn])) (.d _ _ (.v _))
        · cases he
      · split at he
        · rename_i hk; subst hk
          simp only [Option.some.injEq] at he; subst he
          exact Ran.same hM (hrb _ _ (by simp only [ne_eq] at hn; simp [binOp, Op.intDiv, hn])) (.d _ _ (.v _))
        · cases he
      · simp only [Option.some.injEq] at he; subst he
        exact Ran.same hM (hrb _ _ (by simp only at hn; have : ¬ b < 0 := (by omega); simp [binOp, Op.shift, this])) (.d _ _ (.v _))
      · simp only [Option.some.injEq] at he; subst he
        exact Ran.same hM (hrb _ _ (by simp only at hn; have : ¬ b < 0 := (by omega); simp [binOp, Op.shift, this])) (.d _ _ (.v _))
      · simp only [Option.bind_eq_some_iff] at he
        obtain ⟨r, hr, he⟩ := he
        exact eff_same he hM (hrb _ _ (pur_run hr w)) (.d _ _ (.v _))
    · rename_i a b _ ha hb
      rw [ha] at hx; rw [hb] at hy
      have ex := val_rel hx
      have ey := val_rel hy
      have fin : (pur P (binOp op t a b)).bind (fun r => eff (.ofV r)) = some e → ρ x ≠ .nilIface → (∀ cs, ρ x ≠ .agg cs) → Ran P E ρ o w K m H free nm e := by
        intro he h1 h2
        simp only [Option.bind_eq_some_iff] at he
        obtain ⟨r, hr, he⟩ := he
        exact eff_same he hM (run_bin ho h1 h2 (by rw [ex, ey]; exact pur_run hr w)) (.d _ _ (.v _))
      split at he
      · exact fin he (by rw [ex]; simp) (by rw [ex]; simp)
      · exact fin he (by rw [ex]; simp) (by rw [ex]; simp)
      · exact fin he (by rw [ex]; simp) (by rw [ex]; simp)
      · cases he
    · cases he

end Go.VL

/-
  The value layer, part 11: operations, one by one: equality of structs, places, slices, builtins. (Own work.)
-/
namespace Go.VL

variable {P : Program} {C : Codes} {E : Entry} {w : World} {K : Nat → Prop} {m : Nat → Option (Option Nat)} {H : Heap} {free : Nat → Prop} {nm : Nat} {o : Oper}
  {ρ : Operand → Value} {ρA : Operand → AV} {e : Eff}

theorem eqFields_ok {d : Nat} (w : World) : ∀ (fs : List Field) (i : Nat) (xs ys : List AV) (r : Bool) (us vs : Array Value), eqOk.eqFs P i fs xs = true → eqCells xs ys = some r →
    (∀ (j : Nat) (a : AV) , xs[j]? = some a → ∃ u, us[i + j]? = some u ∧ Rel w K m H a u) → (∀ (j : Nat) (a : AV) , ys[j]? = some a → ∃ u, vs[i + j]? = some u ∧ Rel w K m H a u) →
    (Op.eqFields (d + 1) us vs fs).run P w = .ok r w
  | [], i, xs, ys, r, us, vs, hf, hc, hx, hy => by
    cases xs with
    | cons => simp [eqOk.eqFs] at hf
    | nil =>
    cases ys with
    | nil => simp only [eqCells, Option.some.injEq] at hc; subst hc; rfl
    | cons => simp [eqCells] at hc
  | f :: fs, i, xs, ys, r, us, vs, hf, hc, hx, hy => by
    cases xs with
    | nil => simp [eqOk.eqFs] at hf
    | cons a xs =>
    cases ys with
    | nil => unfold eqCells at hc; split at hc <;> simp_all
    | cons b ys =>
    simp only [eqOk.eqFs, Bool.and_eq_true, beq_iff_eq, bne_iff_ne] at hf
    obtain ⟨⟨⟨hoff, hname⟩, hty⟩, hf⟩ := hf
    obtain ⟨u, hu, hur⟩ := hx 0 a (by simp)
    obtain ⟨v, hv, hvr⟩ := hy 0 b (by simp)
    simp only [Nat.add_zero] at hu hv
    have hx' : ∀ (j : Nat) (a : AV), xs[j]? = some a → ∃ u, us[i + 1 + j]? = some u ∧ Rel w K m H a u := fun j a ha => by
      obtain ⟨u, hu, hr⟩ := hx (j + 1) a (by simpa using ha)
      exact ⟨u, by rw [← hu]; congr 1; omega, hr⟩
    have hy' : ∀ (j : Nat) (a : AV), ys[j]? = some a → ∃ u, vs[i + 1 + j]? = some u ∧ Rel w K m H a u := fun j a ha => by
      obtain ⟨u, hu, hr⟩ := hy (j + 1) a (by simpa using ha)
      exact ⟨u, by rw [← hu]; congr 1; omega, hr⟩
    obtain ⟨D, hD, hDk⟩ : ∃ D, P.underlying f.type = some D ∧ (((∃ k, D = .int k) ∧ ∃ k x, a = .d (.v (.int k x))) ∨ (D = .bool ∧ ∃ x, a = .d (.v (.bool x)))) := by
      split at hty
      · rename_i hD; exact ⟨_, hD, .inl ⟨⟨_, rfl⟩, _, _, rfl⟩⟩
      · rename_i hD; exact ⟨_, hD, .inr ⟨rfl, _, rfl⟩⟩
      · cases hty
    have hna : isAggD D = false := by rcases hDk with ⟨⟨k, rfl⟩, _⟩ | ⟨rfl, _⟩ <;> rfl
    have hpu : (part f.type us f.offset).run P w = .ok u w := by
      unfold part
      simp [Sem.run_bind, run_isAgg_false hD hna, hoff, hu]
    have hpv : (part f.type vs f.offset).run P w = .ok v w := by
      unfold part
      simp [Sem.run_bind, run_isAgg_false hD hna, hoff, hv]
    have step : ∀ (q r' : Bool), (Op.equalIn (d + 1) f.type u v).run P w = .ok q w → eqCells xs ys = some r' → r = (q && r') → (Op.eqFields (d + 1) us vs (f :: fs)).run P w = .ok r w := by
      intro q r' hq hr' hr
      have ih := eqFields_ok (d := d) w fs (i + 1) xs ys r' us vs hf hr' hx' hy'
      simp only [Op.eqFields, ne_eq, hname, not_false_eq_true, if_true, Sem.run_bind, hpu, hpv, hq, Result.andThen_ok]
      cases q
      · simp [hr]
      · simp [hr, ih]
    unfold eqCells at hc
    split at hc
    · rename_i h1 h2; cases h1
    · rename_i k x xs' k' y ys' h1 h2
      cases h1; cases h2
      split at hc
      · rename_i hk; subst hk
        simp only [Option.map_eq_some_iff] at hc
        obtain ⟨r', hr', rfl⟩ := hc
        have e1 := val_rel hur
        have e2 := val_rel hvr
        subst e1; subst e2
        rcases hDk with ⟨⟨k2, rfl⟩, _⟩ | ⟨_, _, h⟩
        · exact step (x == y) r' (by simp [Op.equalIn, run_underlying hD]) hr' rfl
        · cases h
      · cases hc
    · rename_i x xs' y ys' h1 h2
      cases h1; cases h2
      simp only [Option.map_eq_some_iff] at hc
      obtain ⟨r', hr', rfl⟩ := hc
      have e1 := val_rel hur
      have e2 := val_rel hvr
      subst e1; subst e2
      rcases hDk with ⟨_, _, _, h⟩ | ⟨rfl, _⟩
      · cases h
      · exact step (x == y) r' (by simp [Op.equalIn, run_underlying hD]) hr' rfl
    · cases hc


theorem cells_at_of {cs : List AV} {vs : Array Value} (hl : vs.size = cs.length) (h : ∀ (i : Nat) (a : AV) (v : Value), cs[i]? = some a → vs[i]? = some v → Rel w K m H a v) :
    ∀ (j : Nat) (a : AV), cs[j]? = some a → ∃ u, vs[0 + j]? = some u ∧ Rel w K m H a u := by
  intro j a ha
  have hlt : j < vs.size := by rw [hl]; exact (List.getElem?_eq_some_iff.1 ha).1
  exact ⟨vs[j], by simp [hlt], h j a _ ha (by simp [hlt])⟩

theorem ran_binOp (hM : Mem E w K m H free) (hρ : ∀ x, Rel w K m H (ρA x) (ρ x)) {op : BinOp} {t yt : TypeId} {x y : Operand} (ho : o.op = .binOp op t x y yt) (he : opE P C ρA H nm o = some e) (hn : e.need) :
    Ran P E ρ o w K m H free nm e := by
  simp only [opE, ho] at he
  split at he
  · rename_i xs ys ha hb
    cases hk : eqOk P t xs
    · simp [hk] at he
    · simp only [hk, cond_true] at he
      have hx := hρ x
      have hy := hρ y
      rw [ha] at hx; rw [hb] at hy
      generalize hgx : ρ x = rx at hx
      generalize hgy : ρ y = ry at hy
      cases hx with
      | agg _ us hul hu =>
      cases hy with
      | agg _ vs hvl hv =>
      unfold eqOk at hk
      split at hk
      · rename_i fs hfs
        simp only [Bool.and_eq_true, Bool.not_eq_true'] at hk
        obtain ⟨⟨hst, hgt⟩, hfk⟩ := hk
        have heq : ∀ r, eqCells xs ys = some r → (Op.equal t (.agg us) (.agg vs)).run P w = .ok r w := by
          intro r hr
          have hf : P.fieldsOf t = fs := by simp [Program.fieldsOf, hfs]
          have h1 := run_equalIn_struct (P := P) w 9999 t us vs (by rw [hf]; exact hfs) hst
          rw [hf] at h1
          show (Op.equalIn (9999 + 1) t (.agg us) (.agg vs)).run P w = _
          rw [h1]
          exact eqFields_ok (d := 9998) w fs.toList 0 xs ys r us vs hfk hr (cells_at_of hul hu) (cells_at_of hvl hv)
        have hg : ∀ op', (eqGuard op' t x y (.agg us) (.agg vs)).run P w = .ok () w := by
          intro op'
          unfold eqGuard
          cases op' <;> first | rfl | simp [hgt]
        split at he
        · simp only [Option.bind_eq_some_iff] at he
          obtain ⟨r, hr, he⟩ := he
          refine eff_same he hM (u := .bool r) ?_ (.d _ _ (.v _))
          simp only [execOp, ho, hgx, hgy, Sem.run_bind, hg, Result.andThen_ok, binOp, heq r hr, Sem.run_pure]
        · simp only [Option.bind_eq_some_iff] at he
          obtain ⟨r, hr, he⟩ := he
          refine eff_same he hM (u := .bool (!r)) ?_ (.d _ _ (.v _))
          simp only [execOp, ho, hgx, hgy, Sem.run_bind, hg, Result.andThen_ok, binOp, heq r hr, Sem.run_pure]
        · cases he
      · cases hk
  · cases hp : ptrNil P t (ρA x) (ρA y)
    · rw [hp] at he
      exact ran_binE hM hρ ho he hn
    · rw [hp] at he
      simp only [cond_true] at he
      unfold ptrNil at hp
      split at hp
      · rename_i el hu
        obtain ⟨h1, h2⟩ := Bool.and_eq_true_iff.1 hp
        have hx := hρ x
        have hy := hρ y
        have ey : ρ y = .pointer none := by
          split at h2
          · rename_i e; rw [e] at hy; exact val_rel hy
          · cases h2
        have ex : ∃ ad, ρ x = .pointer (some ad) := by
          split at h1
          · rename_i e; rw [e] at hx; generalize ρ x = v at hx; cases hx; exact ⟨_, rfl⟩
          · rename_i e; rw [e] at hx; generalize ρ x = v at hx; cases hx; exact ⟨_, rfl⟩
          · rename_i e; rw [e] at hx; generalize ρ x = v at hx; cases hx; exact ⟨_, rfl⟩
          · cases h1
        obtain ⟨ad, ex⟩ := ex
        have heq : (Op.equal t (.pointer (some ad)) (.pointer none)).run P w = .ok false w := by
          have key : ∀ d, (Op.equalIn (d + 1) t (.pointer (some ad)) (.pointer none)).run P w = .ok false w := fun d => by
            simp [Op.equalIn, run_underlying hu]
          exact key 9999
        have hrb := fun (u : Value) (w' : World) (h : (binOp op t (ρ x) (ρ y)).run P w = .ok u w') => run_bin (P := P) (w := w) ho (by rw [ex]; simp) (by rw [ex]; simp) h
        rw [ex, ey] at hrb
        split at he
        · exact eff_same he hM (hrb (.bool false) w (by simp [binOp, heq])) (.d _ _ (.v _))
        · exact eff_same he hM (hrb (.bool true) w (by simp [binOp, heq])) (.d _ _ (.v _))
        · cases he
      · cases hp

theorem ran_unOp (hM : Mem E w K m H free) (hρ : ∀ x, Rel w K m H (ρA x) (ρ x)) {op : UnOp} {t : TypeId} {x : Operand} (ho : o.op = .unOp op t x) (he : opE P C ρA H nm o = some e) : Ran P E ρ o w K m H free nm e := by
  simp only [opE, ho] at he
  split at he
  · rename_i v hv
    have hx := hρ x
    rw [hv] at hx
    have ex := val_rel hx
    simp only [Option.bind_eq_some_iff] at he
    obtain ⟨r, hr, he⟩ := he
    exact eff_same he hM (u := r) (by simp only [execOp, ho, ex]; exact run_v (pur_run hr w)) (.d _ _ (.v _))
  · cases he

theorem ran_convert (hM : Mem E w K m H free) (hρ : ∀ x, Rel w K m H (ρA x) (ρ x)) {s t : TypeId} {x : Operand} (ho : o.op = .convert s t x) (he : opE P C ρA H nm o = some e) (hn : e.need) : Ran P E ρ o w K m H free nm e := by
  have hx := hρ x
  simp only [opE, ho] at he
  split at he
  · rename_i k1 k kk n hs ht hv
    rw [hv] at hx
    have ex := val_rel hx
    exact eff_same he hM (u := .int k (k.wrap n)) (by simp only [execOp, ho, ex]; exact run_v (by simp [convert, run_underlying hs, run_underlying ht, Conv.intToInt])) (.d _ _ (.v _))
  · rename_i k1 kk n hs ht hv
    rw [hv] at hx
    have ex := val_rel hx
    exact eff_same he hM (u := .float .f64 (FloatKind.f64.nearest n)) (by simp only [execOp, ho, ex]; exact run_v (by simp [convert, run_underlying hs, run_underlying ht, Conv.intToFloat])) (.d _ _ (.f _ _ rfl))
  · rename_i b hs ht hv
    rw [hv] at hx
    have ex := val_rel hx
    exact eff_same he hM (u := .string b) (by simp only [execOp, ho, ex]; exact run_v (by simp [convert, run_underlying hs, run_underlying ht])) (.d _ _ (.v _))
  · rename_i hs ht
    simp only [Option.bind_eq_some_iff] at he
    obtain ⟨q, hq, he⟩ := he
    obtain ⟨b, ex, hb⟩ := flt?_rel hq hx
    refine eff_same he hM (u := ρ x) ?_ hx
    simp only [execOp, ho, ex]
    exact run_v (by simp [convert, run_underlying hs, run_underlying ht, Conv.floatToFloat])
  · rename_i el hs ht
    split at he
    · rename_i hel
      cases hsz : (szOf P el == some 1)
      · rw [hsz] at he; cases he
      rw [hsz] at he
      simp only [cond_true, Option.map_eq_some_iff] at he
      obtain ⟨q, hq, rfl⟩ := he
      obtain ⟨ad, n, cap, ev, hlen, hcap, hc⟩ := sls_rel hM hq hn hx
      have hstr : (Conv.bytesToString (ρ x)).run P w = .ok (.string (strOf q.xs)) w := by
        by_cases hne : q.xs = []
        · have hn0 : n = 0 := by rw [hlen, hne]; rfl
          subst hn0
          rw [ev, hne]
          cases ad with
          | none => simp [Conv.bytesToString, strOf]
          | some a => exact run_bytesToString w a 0 cap [] (run_loadCells_list w a [] (fun j v h => by cases h))
        · obtain ⟨b, off, rfl, _, hcell⟩ := hc hne
          rw [ev]
          refine run_bytesToString w ⟨b, off, none⟩ n cap q.xs ?_
          have hl := run_loadCells_list (P := P) w ⟨b, off, none⟩ (q.xs.map (Value.int .u8)) (fun j v hv => by
            simp only [List.getElem?_map, Option.map_eq_some_iff] at hv
            obtain ⟨z, hz, rfl⟩ := hv
            obtain ⟨v, hv, hr⟩ := hcell j z 0 (.v (.int .u8 z)) hz rfl
            have e : (⟨b, off, none⟩ : Addr).add j = ⟨b, off + (j * Ty.u8.size + 0), none⟩ := by
              unfold Addr.add
              split
              · rename_i h0; subst h0; simp
              · simp [Ty.size]
            rw [e, hv]
            cases hr
            rfl)
          rw [List.length_map, ← hlen] at hl
          exact hl
      refine Ran.same hM (u := .string (strOf q.xs)) ?_ (.d _ _ (.v _))
      simp only [execOp, ho]
      refine run_v ?_
      rw [ev] at hstr ⊢
      simp [convert, run_underlying hs, run_underlying ht, run_underlying hel, hstr]
    · cases he
  · cases he

theorem list_rel (hρ : ∀ x, Rel w K m H (ρA x) (ρ x)) (xs : Array Operand) : (xs.map ρ).size = (xs.toList.map ρA).length ∧
    ∀ (i : Nat) (a : AV) (v : Value), (xs.toList.map ρA)[i]? = some a → (xs.map ρ)[i]? = some v → Rel w K m H a v := by
  refine ⟨by simp, fun i a v ha hv => ?_⟩
  simp only [List.getElem?_map, Array.getElem?_toList, Option.map_eq_some_iff] at ha
  obtain ⟨x, hx, rfl⟩ := ha
  simp only [Array.getElem?_map, hx, Option.map_some, Option.some.injEq] at hv
  subst hv
  exact hρ x

theorem ran_makeFunc (hM : Mem E w K m H free) (hρ : ∀ x, Rel w K m H (ρA x) (ρ x)) {fn : Fn} {fs cs : Array Operand} (ho : o.op = .makeFunc fn fs cs) (he : opE P C ρA H nm o = some e) : Ran P E ρ o w K m H free nm e := by
  simp only [opE, ho] at he
  exact eff_same he hM (u := .func fn (fs.map ρ) (cs.map ρ)) (by simp only [execOp, ho]; exact run_v (by simp [Instr.makeFunc]))
    (.clo _ _ _ _ _ (list_rel hρ fs).1 (list_rel hρ cs).1 (list_rel hρ fs).2 (list_rel hρ cs).2)

theorem fieldOf_run {t : TypeId} {f : Nat} {fd : Field} (h : fieldOf P t f = some fd) : ∃ fs, P.underlying t = some (.struct fs) ∧ fs[f]? = some fd := by
  unfold fieldOf at h
  split at h
  · exact ⟨_, ‹_›, h⟩
  · cases h


theorem run_fieldPlace {fd : Field} {b off : Nat} (h : posSz P fd.type = true) (w : World) : (fieldPlace ⟨b, off, none⟩ fd).run P w = .ok ⟨b, off + fd.offset, none⟩ w := by
  unfold posSz szOf at h
  cases hi : P.info? fd.type with
  | none => simp [hi] at h
  | some i =>
    have hz : i.size ≠ 0 := by simpa [hi] using h
    simp [fieldPlace, Sem.run_bind, run_sizeOf' hi, hz, Addr.add_none]

theorem ran_fieldAddr (hM : Mem E w K m H free) (hρ : ∀ x, Rel w K m H (ρA x) (ρ x)) {t : TypeId} {x : Operand} {f : Nat} (ho : o.op = .fieldAddr t x f) (he : opE P C ρA H nm o = some e) : Ran P E ρ o w K m H free nm e := by
  simp only [opE, ho, Option.bind_eq_some_iff] at he
  obtain ⟨fd, hfd, he⟩ := he
  obtain ⟨fs, hfs, hf⟩ := fieldOf_run hfd
  cases hb : posSz P fd.type
  · simp only [hb, cond_false] at he; cases he
  · simp only [hb, cond_true] at he
    have hr := hρ x
    have key : ∀ {b off : Nat}, ρ x = .pointer (some ⟨b, off, none⟩) → (execOp ρ o).run P w = .ok (.value (.pointer (some ⟨b, off + fd.offset, none⟩))) w := by
      intro b off hp
      simp only [execOp, ho, hp]
      exact run_v (by simp [Instr.fieldAt, run_underlying hfs, hf, Instr.sureAddr, run_fieldPlace hb])
    split at he
    · rename_i l f0 ha
      rw [ha] at hr
      generalize hgv : ρ x = ra at hr
      cases hr with | ptr _ _ b hm => exact eff_same he hM (key hgv) (.ptr _ _ _ hm)
    · rename_i l t' i f0 ha
      rw [ha] at hr
      generalize hgv : ρ x = ra at hr
      cases hr with | eptr _ _ _ _ b hm => exact eff_same he hM (key hgv) (by rw [Nat.add_assoc]; exact .eptr _ _ _ _ _ hm)
    · rename_i ds ha
      rw [ha] at hr
      generalize hgv : ρ x = ra at hr
      cases hr with
      | ip _ b off u hb' hc hr =>
        exact eff_same he hM (key hgv) (.ip _ _ _ (fun j => u (fd.offset + j)) hb' (fun j d hd => by
          rw [List.getElem?_drop] at hd
          rw [← hc _ d hd]; congr 2; omega) (fun j d hd => by
          rw [List.getElem?_drop] at hd
          exact hr _ d hd))
    · cases he

theorem ran_field (hM : Mem E w K m H free) (hρ : ∀ x, Rel w K m H (ρA x) (ρ x)) {t : TypeId} {x : Operand} {f : Nat} (ho : o.op = .field t x f) (he : opE P C ρA H nm o = some e) : Ran P E ρ o w K m H free nm e := by
  simp only [opE, ho, Option.bind_eq_some_iff] at he
  obtain ⟨fd, hfd, he⟩ := he
  obtain ⟨fs, hfs, hf⟩ := fieldOf_run hfd
  have hr := hρ x
  split at he
  · rename_i cs ha
    rw [ha] at hr
    simp only [Option.bind_eq_some_iff] at he
    obtain ⟨v, hv, he⟩ := he
    generalize hgv : ρ x = ra at hr
    cases hr with
    | agg _ vs hl hc =>
      obtain ⟨u, hu, hur⟩ := part_rel (P := P) hv hl hc
      exact eff_same he hM (u := u) (by simp only [execOp, ho, hgv]; exact run_v (by simp [Instr.field, run_underlying hfs, hf, asAgg, hu])) hur
  · cases he

theorem ran_extract (hM : Mem E w K m H free) (hρ : ∀ x, Rel w K m H (ρA x) (ρ x)) {x : Operand} {i : Nat} (ho : o.op = .extract x i) (he : opE P C ρA H nm o = some e) : Ran P E ρ o w K m H free nm e := by
  simp only [opE, ho] at he
  have hr := hρ x
  split at he
  · rename_i cs ha
    rw [ha] at hr
    simp only [Option.bind_eq_some_iff] at he
    obtain ⟨v, hv, he⟩ := he
    generalize hgv : ρ x = ra at hr
    cases hr with
    | tup _ vs hl hc =>
      have hlt : i < vs.size := by rw [hl]; exact (List.getElem?_eq_some_iff.1 hv).1
      exact eff_same he hM (u := vs[i]) (by simp only [execOp, ho, hgv]; exact run_v (by simp [Instr.extract, hlt])) (hc i v _ hv (by simp [hlt]))
  · cases he

theorem elemOf_run {t e' : TypeId} (h : elemOfSl P t = some e') : P.underlying t = some (.slice e') := by
  unfold elemOfSl at h
  split at h
  · simp only [Option.some.injEq] at h; subst h; assumption
  · cases h

theorem arrK_cases {x : AV} {t : TypeId} {p : Nat × Int} (h : arrK P x t = some p) : ∃ el, P.underlying t = some (.array p.1 el) ∧ x.int? = some p.2 := by
  unfold arrK elemOfArr at h
  split at h
  · rename_i n e hu
    simp only [Option.bind_some, Option.map_eq_some_iff] at h
    obtain ⟨k, hk, rfl⟩ := h
    exact ⟨e, hu, hk⟩
  · cases h
theorem ran_arrA (hM : Mem E w K m H free) (hρ : ∀ x, Rel w K m H (ρA x) (ρ x)) {t : TypeId} {x ix : Operand} (ho : o.op = .indexAddr t x ix) {p : Nat × Int} (hp : arrK P (ρA ix) t = some p) (he : arrEA P (ρA x) t p.2 = some e) (hn : e.need) :
    Ran P E ρ o w K m H free nm e := by
  obtain ⟨el, hu, hix⟩ := arrK_cases hp
  obtain ⟨k, hix⟩ := int?_rel hix (hρ ix)
  unfold arrEA elemOfArr at he
  rw [hu] at he
  simp only [Option.bind_some] at he
  obtain ⟨sz, hsz, he⟩ := Option.bind_eq_some_iff.1 he
  simp only [szOf, Option.map_eq_some_iff] at hsz
  obtain ⟨inf, hinf, hsz⟩ := hsz
  have hr := hρ x
  split at he
  · rename_i l f ha
    rw [ha] at hr
    simp only [Option.some.injEq] at he; subst he
    obtain ⟨h0, hl⟩ := hn
    generalize hgv : ρ x = ra at hr
    cases hr with
    | ptr _ _ b hm =>
      refine Ran.same hM (u := .pointer (some ⟨b, f + p.2.toNat * sz, none⟩)) ?_ (.ptr _ _ _ hm)
      simp only [execOp, ho, hgv, hix]
      exact run_v (by simp [Instr.indexAt, Instr.sureAddr, run_underlying hu, asIntOf, h0, hl, run_sizeOf' hinf, hsz, Addr.add_none])
  · rename_i ds ha
    rw [ha] at hr
    split at he
    · rename_i q hq
      cases hsz1 : (sz == 1 && q.2.length == p.1)
      · rw [hsz1] at he; cases he
      rw [hsz1] at he
      simp only [cond_true, Option.some.injEq] at he; subst he
      obtain ⟨h0, hl⟩ := hn
      simp only [Bool.and_eq_true, beq_iff_eq] at hsz1
      obtain ⟨hsz1, hlen⟩ := hsz1
      subst hsz1
      unfold numsD at hq
      obtain ⟨kd, _, hq⟩ := Option.bind_eq_some_iff.1 hq
      obtain ⟨ns, hns, rfl⟩ := Option.map_eq_some_iff.1 hq
      have hds := intsD_spec hns
      simp only at hlen ⊢
      have hlt : p.2.toNat < ns.length := by omega
      generalize hgv : ρ x = ra at hr
      cases hr with
      | ip _ b off u hb' hc hr =>
        have hd0 : ds[p.2.toNat]? = some (D.v (.int kd (ns.getD p.2.toNat 0))) := by
          rw [hds, List.getElem?_map, List.getElem?_eq_getElem hlt]
          simp [List.getD, hlt]
        refine Ran.same hM (u := .pointer (some ⟨b, off + p.2.toNat * 1, none⟩)) ?_ (.ip _ _ _ (fun j => u (p.2.toNat + j)) hb' (fun j d hd => ?_) (fun j d hd => ?_))
        · simp only [execOp, ho, hgv, hix]
          exact run_v (by simp [Instr.indexAt, Instr.sureAddr, run_underlying hu, asIntOf, h0, hl, run_sizeOf' hinf, hsz, Addr.add_none])
        · match j, hd with
          | 0, hd => cases hd; have := hc _ _ hd0; simpa using this
        · match j, hd with
          | 0, hd => cases hd; exact hr _ _ hd0
    · simp only [Option.some.injEq] at he; subst he
      obtain ⟨h0, hl⟩ := hn
      generalize hgv : ρ x = ra at hr
      cases hr with
      | ip _ b off u hb' hc hr =>
        refine Ran.same hM (u := .pointer (some ⟨b, off + p.2.toNat * sz, none⟩)) ?_ (.ip _ _ _ (fun j => u (p.2.toNat * sz + j)) hb' (fun j d hd => by
            rw [List.getElem?_drop] at hd
            rw [← hc _ d hd]; congr 2; omega) (fun j d hd => by
            rw [List.getElem?_drop] at hd
            exact hr _ d hd))
        simp only [execOp, ho, hgv, hix]
        exact run_v (by simp [Instr.indexAt, Instr.sureAddr, run_underlying hu, asIntOf, h0, hl, run_sizeOf' hinf, hsz, Addr.add_none])
  · cases he
theorem ran_arrI (hM : Mem E w K m H free) (hρ : ∀ x, Rel w K m H (ρA x) (ρ x)) {t : TypeId} {x ix : Operand} (ho : o.op = .index t x ix) {p : Nat × Int} (hp : arrK P (ρA ix) t = some p) (he : arrEI P (ρA x) t p.2 = some e) (hn : e.need) :
    Ran P E ρ o w K m H free nm e := by
  obtain ⟨el, hu, hix⟩ := arrK_cases hp
  obtain ⟨k, hix⟩ := int?_rel hix (hρ ix)
  unfold arrEI elemOfArr at he
  rw [hu] at he
  simp only [Option.bind_some] at he
  obtain ⟨sz, hsz, he⟩ := Option.bind_eq_some_iff.1 he
  simp only [szOf, Option.map_eq_some_iff] at hsz
  obtain ⟨inf, hinf, hsz⟩ := hsz
  have hr := hρ x
  split at he
  · rename_i cs ha
    rw [ha] at hr
    simp only [Option.map_eq_some_iff] at he
    obtain ⟨v, hv, rfl⟩ := he
    obtain ⟨h0, hl⟩ := hn
    generalize hgv : ρ x = ra at hr
    cases hr with
    | agg _ vs hlen hc =>
      obtain ⟨u, hu', hur⟩ := part_rel (P := P) hv hlen hc
      refine Ran.same hM (u := u) ?_ hur
      simp only [execOp, ho, hgv, hix]
      exact run_v (by simp [Instr.index, run_underlying hu, asIntOf, h0, hl, run_sizeOf' hinf, hsz, hu'])
  · cases he

theorem ran_indexAddr (hM : Mem E w K m H free) (hρ : ∀ x, Rel w K m H (ρA x) (ρ x)) {t : TypeId} {x ix : Operand} (ho : o.op = .indexAddr t x ix) (he : opE P C ρA H nm o = some e) (hn : e.need) :
    Ran P E ρ o w K m H free nm e := by
  simp only [opE, ho] at he
  split at he
  · rename_i p hp
    exact ran_arrA hM hρ ho hp he hn
  simp only [Option.bind_eq_some_iff] at he
  obtain ⟨el, hel, te, hte, he⟩ := he
  have hu := elemOf_run hel
  cases hb : (szOf P el == some te.size)
  · simp [hb] at he
  · simp only [hb, cond_true, Option.bind_eq_some_iff] at he
    obtain ⟨n, hnx, he⟩ := he
    simp only [beq_iff_eq, szOf, Option.map_eq_some_iff] at hb
    obtain ⟨inf, hinf, hsz⟩ := hb
    obtain ⟨k, hix⟩ := int?_rel hnx (hρ ix)
    have hr := hρ x
    have key : ∀ {b off len cap : Nat}, ρ x = .slice (some ⟨b, off, none⟩) len cap → 0 ≤ n → n < len → (execOp ρ o).run P w = .ok (.value (.pointer (some ⟨b, off + n.toNat * te.size, none⟩))) w := by
      intro b off len cap hs h0 hl
      simp only [execOp, ho, hs, hix]
      exact run_v (by simp [Instr.indexAt, run_underlying hu, asIntOf, h0, hl, run_sizeOf' hinf, hsz, Addr.add_none])
    have bySls : ∀ (a : AV), ρA x = a → (a.sls H te).map (fun (s : Sls te) => (⟨.ip (enc te (s.xs.getD n.toNat te.dflt)), (0 ≤ n ∧ n < s.xs.length) ∧ s.need, s.rd, []⟩ : Eff)) = some e →
        (∀ s, a.sls H te = some s → s.rd = []) → Ran P E ρ o w K m H free nm e := by
      intro a ha he hrd
      simp only [Option.map_eq_some_iff] at he
      obtain ⟨s, hs, rfl⟩ := he
      obtain ⟨⟨h0, hl⟩, hneed⟩ := hn
      rw [ha] at hr
      obtain ⟨ad, len, cap, hv, hsl⟩ := sls_rel hM hs hneed hr
      have hil : n.toNat < s.xs.length := by omega
      obtain ⟨b, off, rfl, hK, hrd'⟩ := hsl.addr (by intro e; rw [e] at hil; simp at hil)
      have hKb : K b := by
        rcases hK with hK | ⟨l, hl, _⟩
        · exact hK
        · rw [hrd s hs] at hl; simp at hl
      have hx : s.xs[n.toNat]? = some (s.xs.getD n.toNat te.dflt) := by simp [List.getD, List.getElem?_eq_getElem hil]
      refine Ran.same hM (key hv h0 (by rw [hsl.len]; exact hl)) (.ip _ _ _ (fun j => (w.cell? ⟨b, off + n.toNat * te.size + j, none⟩).getD undef) hKb (fun j d hd => ?_) (fun j d hd => ?_))
      · obtain ⟨u, hu, _⟩ := hrd' _ _ j d hx hd
        rw [← Nat.add_assoc] at hu
        simp [hu]
      · obtain ⟨u, hu, hr⟩ := hrd' _ _ j d hx hd
        rw [← Nat.add_assoc] at hu
        simpa [hu] using hr
    split at he
    · rename_i l t' ha
      split at he
      · rename_i ht; subst ht
        split at he
        · rename_i T t2 xs hg
          split at he
          · rename_i ht2; subst ht2
            simp only [Option.some.injEq] at he; subst he
            obtain ⟨h0, hl⟩ := hn
            rw [ha] at hr
            generalize hgv : ρ x = ra at hr
            cases hr with
            | own0 _ _ _ hm =>
              rcases hM.heap l _ hg with ⟨_, hx⟩ | ⟨b', cs, hm', _⟩
              · subst hx; simp at hl; omega
              · rw [hm] at hm'; cases hm'
            | own _ _ b len cap hm hlen hcap hs =>
              have hlen := hlen T xs hg
              have := key hgv h0 (by rw [hlen]; exact hl)
              rw [Nat.zero_add] at this
              exact Ran.same hM this (.eptr _ _ _ 0 _ hm)
          · cases he
        · cases he
      · cases he
    · rename_i l t' off len ha
      split at he
      · rename_i ht; subst ht
        simp only [Option.some.injEq] at he; subst he
        obtain ⟨h0, hl⟩ := hn
        rw [ha] at hr
        generalize hgv : ρ x = ra at hr
        cases hr with
        | view0 => omega
        | view _ _ b _ _ cap hm hcap hs =>
          have := key hgv h0 hl
          rw [← Nat.add_mul] at this
          exact Ran.same hM this (.eptr _ _ _ 0 _ hm)
      · cases he
    · rename_i hno1 hno2
      refine bySls _ rfl he (fun s hs => ?_)
      generalize ρA x = a at hs hno1 hno2
      cases a with
      | d y => simp only [AV.sls, Option.map_eq_some_iff] at hs; obtain ⟨_, _, rfl⟩ := hs; rfl
      | fl t' ys => simp only [AV.sls] at hs; split at hs <;> cases hs; rfl
      | own l t' => exact absurd rfl (hno1 l t')
      | view l t' off len => exact absurd rfl (hno2 l t' off len)
      | _ => simp [AV.sls] at hs

theorem ran_index (hM : Mem E w K m H free) (hρ : ∀ x, Rel w K m H (ρA x) (ρ x)) {t : TypeId} {x ix : Operand} (ho : o.op = .index t x ix) (he : opE P C ρA H nm o = some e) (hn : e.need) :
    Ran P E ρ o w K m H free nm e := by
  simp only [opE, ho] at he
  split at he
  · rename_i p hp
    exact ran_arrI hM hρ ho hp he hn
  split at he
  · rename_i s k n ha hb
    split at he
    · rename_i hu
      simp only [Option.some.injEq] at he; subst he
      obtain ⟨h0, hl⟩ := hn
      have hx := hρ x
      have hy := hρ ix
      rw [ha] at hx; rw [hb] at hy
      have ex := val_rel hx
      have ey := val_rel hy
      have hlt : n.toNat < s.size := by omega
      refine Ran.same hM (u := .int .u8 (s[n.toNat]'hlt).toNat) ?_ (by simp [hlt]; exact .d _ _ (.v _))
      simp only [execOp, ho, ex, ey]
      exact run_v (by simp [Instr.index, asIntOf, run_underlying hu, h0, hlt])
    · cases he
  · cases he

end Go.VL

/-
  The value layer, part 12: operations, one by one: cuts of slices, new slices, builtins. (Own work.)
-/
namespace Go.VL

variable {P : Program} {C : Codes} {E : Entry} {w : World} {K : Nat → Prop} {m : Nat → Option (Option Nat)} {H : Heap} {free : Nat → Prop} {nm : Nat} {o : Oper}
  {ρ : Operand → Value} {ρA : Operand → AV} {e : Eff}

/-- Names that a list in a slot looks into: none, if it is nobody's. -/
theorem sls_rd {a : AV} {te : Ty} {s : Sls te} (hs : a.sls H te = some s) (h1 : ∀ l t, a ≠ .own l t) (h2 : ∀ l t off len, a ≠ .view l t off len) : s.rd = [] := by
  cases a with
  | d y => simp only [AV.sls, Option.map_eq_some_iff] at hs; obtain ⟨_, _, rfl⟩ := hs; rfl
  | fl t' ys => simp only [AV.sls] at hs; split at hs <;> cases hs; rfl
  | own l t' => exact absurd rfl (h1 l t')
  | view l t' off len => exact absurd rfl (h2 l t' off len)
  | _ => simp [AV.sls] at hs

/-- The three bounds of a cut. -/
theorem run_bounds {len cap : Nat} {lo hi mx : Option Value} {l h m' : Nat} (hlo : (lo = none ∧ l = 0) ∨ ∃ k, lo = some (.int k (l : Int))) (hhi : (hi = none ∧ mx = none ∧ h = len) ∨ ∃ k, hi = some (.int k (h : Int)))
    (hmx : (mx = none ∧ m' = cap) ∨ ∃ k, mx = some (.int k (m' : Int))) (h1 : l ≤ h) (h2 : h ≤ m') (h3 : m' ≤ cap) (w : World) : (Instr.sliceBounds true len cap lo hi mx).run P w = .ok (l, h, m') w := by
  have hb : ∀ (k : IntKind) (i y : Nat) (c : BoundsCode), i ≤ y → (Instr.sliceBound (.int k (i : Int)) y c).run P w = .ok i w := by
    intro k i y c hi
    have : (i : Int) ≤ (y : Int) := by omega
    simp [Instr.sliceBound, asIntOf, this]
  rcases hlo with ⟨rfl, rfl⟩ | ⟨k1, rfl⟩ <;> rcases hhi with ⟨rfl, rfl, rfl⟩ | ⟨k2, rfl⟩ <;> rcases hmx with ⟨hm, rfl⟩ | ⟨k3, hm⟩ <;> (try cases hm) <;>
    simp [Instr.sliceBounds, hb _ _ _ _ h1, hb _ _ _ _ h2, hb _ _ _ _ h3]

theorem ran_slice (hM : Mem E w K m H free) (hρ : ∀ x, Rel w K m H (ρA x) (ρ x)) {t : TypeId} {x : Operand} {lo hi mx : Option Operand} (ho : o.op = .slice t x lo hi mx) (he : opE P C ρA H nm o = some e) (hn : e.need) :
    Ran P E ρ o w K m H free nm e := by
  simp only [opE, ho, Option.bind_eq_some_iff] at he
  obtain ⟨el, hel, te, hte, he⟩ := he
  have hu := elemOf_run hel
  cases hb : (szOf P el == some te.size)
  · simp [hb] at he
  · simp only [hb, cond_true, Option.bind_eq_some_iff] at he
    obtain ⟨l, hl, he⟩ := he
    simp only [beq_iff_eq, szOf, Option.map_eq_some_iff] at hb
    obtain ⟨inf, hinf, hsz⟩ := hb
    have hr := hρ x
    -- the low bound, as a value
    have hlo : 0 ≤ l → (lo.map ρ = none ∧ l.toNat = 0) ∨ ∃ k, lo.map ρ = some (.int k (l.toNat : Int)) := by
      intro h0
      cases lo with
      | none => simp only [Option.some.injEq] at hl; subst hl; exact .inl ⟨rfl, rfl⟩
      | some v =>
        obtain ⟨k, hk⟩ := int?_rel hl (hρ v)
        exact .inr ⟨k, by simp [hk, Int.toNat_of_nonneg h0]⟩
    -- the run, when the slice and the bounds are known
    have run : ∀ {a : Option Addr} {len cap h m' : Nat}, ρ x = .slice a len cap → 0 ≤ l → ((hi.map ρ = none ∧ mx.map ρ = none ∧ h = len) ∨ ∃ k, hi.map ρ = some (.int k (h : Int))) →
        ((mx.map ρ = none ∧ m' = cap) ∨ ∃ k, mx.map ρ = some (.int k (m' : Int))) → l.toNat ≤ h → h ≤ m' → m' ≤ cap →
        (execOp ρ o).run P w = .ok (.value (.slice (if m' = l.toNat then a else a.map (·.add (l.toNat * te.size))) (h - l.toNat) (m' - l.toNat))) w := by
      intro a len cap h m' hs h0 hh hm h1 h2 h3
      have hbd := run_bounds (P := P) (hlo h0) hh hm h1 h2 h3 w
      simp only [execOp, ho, hs]
      refine run_v ?_
      have hsl : (Instr.slice t (.slice a len cap) (lo.map ρ) (hi.map ρ) (mx.map ρ)).run P w = .ok (.slice (if m' = l.toNat then a else a.map (·.add (l.toNat * te.size))) (h - l.toNat) (m' - l.toNat)) w := by
        simp only [Instr.slice, Sem.run_bind, run_underlying hu, Result.andThen_ok, hbd, run_sizeOf' hinf, hsz, Sem.run_pure]
      simp only [Instr.sliceAt, Sem.run_bind, run_underlying hu, Result.andThen_ok, hsl]
    -- a list that is nobody's
    have imm : ∀ {s : Sls te} {h m' : Nat} {a : Option Addr} {len cap : Nat}, SlRel w K m H [] te s.xs a len cap → l.toNat ≤ h → h ≤ m' → m' ≤ cap → h ≤ s.xs.length →
        RelD w K (.sl te ((s.xs.take h).drop l.toNat)) (.slice (if m' = l.toNat then a else a.map (·.add (l.toNat * te.size))) (h - l.toNat) (m' - l.toNat)) := by
      intro s h m' a len cap hsl h1 h2 h3 h4
      have hlen : ((s.xs.take h).drop l.toNat).length = h - l.toNat := by simp; omega
      refine RelD.slrel (K := K) (m := m) (H := H) (rd := []) ⟨hlen.symm, by omega, fun hne => ?_⟩ (fun b hb => by rcases hb with hb | ⟨_, hl, _⟩; exact hb; simp at hl)
      have hpos : 0 < h - l.toNat := by rw [← hlen]; exact List.length_pos_iff.2 hne
      obtain ⟨b, off, rfl, hK, hrd⟩ := hsl.addr (by intro e; rw [e] at hlen; simp at hlen; omega)
      rw [if_neg (by omega)]
      refine ⟨b, off + l.toNat * te.size, by simp [Addr.add_none], hK, ?_⟩
      exact (hrd.take h).drop l.toNat
    -- a cut of a row that is owned, or of a part of it
    have mine : ∀ {k b off len cap h m' : Nat}, m k = some (some b) → ρ x = .slice (some ⟨b, off * te.size, none⟩) len cap → (∃ T sz, w.shape? b = some (T, sz) ∧ (off + cap) * te.size ≤ sz) →
        0 ≤ l → ((hi.map ρ = none ∧ mx.map ρ = none ∧ h = len) ∨ ∃ k, hi.map ρ = some (.int k (h : Int))) → ((mx.map ρ = none ∧ m' = cap) ∨ ∃ k, mx.map ρ = some (.int k (m' : Int))) →
        l.toNat ≤ h → h ≤ m' → m' ≤ cap → ∀ {p : Prop} {rd : List Nat}, Ran P E ρ o w K m H free nm ⟨.view k te (off + l.toNat) (h - l.toNat), p, rd, []⟩ := by
      intro k b off len cap h m' hm hs hsz' h0 hh hmx h1 h2 h3 p rd
      refine Ran.same hM (run hs h0 hh hmx h1 h2 h3) ?_
      by_cases hml : m' = l.toNat
      · rw [if_pos hml, show h - l.toNat = 0 by omega, show m' - l.toNat = 0 by omega]; exact .view0 _ _ _ _
      · rw [if_neg hml]
        obtain ⟨T, sz, hT, hle⟩ := hsz'
        simp only [Option.map_some, Addr.add_none, ← Nat.add_mul]
        refine .view _ _ _ _ _ _ hm (by omega) ⟨T, sz, hT, Nat.le_trans (Nat.mul_le_mul_right _ (by omega)) hle⟩
    have mine0 : ∀ {k off len cap h m' : Nat} {a : Option Addr}, cap = 0 → ρ x = .slice a len cap → 0 ≤ l → ((hi.map ρ = none ∧ mx.map ρ = none ∧ h = len) ∨ ∃ k, hi.map ρ = some (.int k (h : Int))) →
        ((mx.map ρ = none ∧ m' = cap) ∨ ∃ k, mx.map ρ = some (.int k (m' : Int))) → l.toNat ≤ h → h ≤ m' → m' ≤ cap → ∀ {p : Prop} {rd : List Nat}, Ran P E ρ o w K m H free nm ⟨.view k te off (h - l.toNat), p, rd, []⟩ := by
      intro k off len cap h m' a hz hs h0 hh hmx h1 h2 h3 p rd
      refine Ran.same hM (run hs h0 hh hmx h1 h2 h3) ?_
      rw [show h - l.toNat = 0 by omega, show m' - l.toNat = 0 by omega]; exact .view0 _ _ _ _
    -- the whole of a row
    have whole : ∀ {k : Nat} {T : TypeId} {xs : List te.ty} {h : Nat}, ρA x = .own k te → H.get k = some (.row T te xs) → 0 ≤ l → l.toNat ≤ h → h ≤ xs.length →
        (∀ cap, xs.length ≤ cap → ∃ m', ((hi.map ρ = none ∧ mx.map ρ = none ∧ h = xs.length) ∨ ∃ k, hi.map ρ = some (.int k (h : Int))) ∧ ((mx.map ρ = none ∧ m' = cap) ∨ ∃ k, mx.map ρ = some (.int k (m' : Int))) ∧ h ≤ m' ∧ m' ≤ cap) →
        ∀ {p : Prop} {rd : List Nat}, Ran P E ρ o w K m H free nm ⟨.view k te l.toNat (h - l.toNat), p, rd, []⟩ := by
      intro k T xs h ha hg h0 h1 h2 hbd p rd
      rw [ha] at hr
      generalize hgv : ρ x = ra at hr
      cases hr with
      | own0 _ _ _ hm =>
        rcases hM.heap k _ hg with ⟨_, hx⟩ | ⟨b', cs, hm', _⟩
        · subst hx
          obtain ⟨m', hh, hmx, h3, h4⟩ := hbd 0 (Nat.le_refl _)
          exact mine0 (k := k) (off := l.toNat) rfl hgv h0 hh hmx h1 h3 h4
        · rw [hm] at hm'; cases hm'
      | own _ _ b n cap hm hlen hcap hs =>
        have hlen := hlen T xs hg
        obtain ⟨m', hh, hmx, h3, h4⟩ := hbd cap (by omega)
        have := mine (k := k) (b := b) (off := 0) (len := n) (cap := cap) (h := h) (m' := m') hm (by rw [hgv, Nat.zero_mul]) (by simpa using hs) h0 (by rw [hlen]; exact hh) hmx h1 h3 h4 (p := p) (rd := rd)
        rwa [Nat.zero_add] at this
    have some_ : ∀ {k off len h : Nat}, ρA x = .view k te off len → 0 ≤ l → l.toNat ≤ h → h ≤ len →
        (∀ cap, len ≤ cap → ∃ m', ((hi.map ρ = none ∧ mx.map ρ = none ∧ h = len) ∨ ∃ k, hi.map ρ = some (.int k (h : Int))) ∧ ((mx.map ρ = none ∧ m' = cap) ∨ ∃ k, mx.map ρ = some (.int k (m' : Int))) ∧ h ≤ m' ∧ m' ≤ cap) →
        ∀ {p : Prop} {rd : List Nat}, Ran P E ρ o w K m H free nm ⟨.view k te (off + l.toNat) (h - l.toNat), p, rd, []⟩ := by
      intro k off len h ha h0 h1 h2 hbd p rd
      rw [ha] at hr
      generalize hgv : ρ x = ra at hr
      cases hr with
      | view0 _ _ _ a =>
        obtain ⟨m', hh, hmx, h3, h4⟩ := hbd 0 (Nat.zero_le _)
        exact mine0 (k := k) rfl hgv h0 hh hmx h1 h3 h4
      | view _ _ b _ _ cap hm hcap hs =>
        obtain ⟨m', hh, hmx, h3, h4⟩ := hbd cap hcap
        exact mine hm hgv hs h0 hh hmx h1 h3 h4
    split at he
    · -- no high bound
      have hbd : ∀ len cap : Nat, len ≤ cap → ∃ m', ((Option.map ρ none = none ∧ Option.map ρ none = none ∧ len = len) ∨ ∃ k, Option.map ρ none = some (.int k (len : Int))) ∧ ((Option.map ρ none = none ∧ m' = cap) ∨ ∃ k, Option.map ρ none = some (Value.int k (m' : Int))) ∧ len ≤ m' ∧ m' ≤ cap :=
        fun len cap hc => ⟨cap, .inl ⟨rfl, rfl, rfl⟩, .inl ⟨rfl, rfl⟩, hc, Nat.le_refl _⟩
      split at he
      · rename_i k t' ha
        split at he
        · rename_i ht; subst ht
          split at he
          · rename_i T t2 xs hg
            split at he
            · rename_i ht2; subst ht2
              simp only [Option.some.injEq] at he; subst he
              exact whole ha hg hn.1 (by have := hn.2; omega) (Nat.le_refl _) (hbd xs.length)
            · cases he
          · cases he
        · cases he
      · rename_i k t' off len ha
        split at he
        · rename_i ht; subst ht
          simp only [Option.some.injEq] at he; subst he
          exact some_ ha hn.1 (by have := hn.2; omega) (Nat.le_refl _) (hbd len)
        · cases he
      · rename_i hno1 hno2
        simp only [Option.map_eq_some_iff] at he
        obtain ⟨s, hs, rfl⟩ := he
        obtain ⟨⟨h0, h1⟩, hneed⟩ := hn
        obtain ⟨a, len, cap, hv, hsl⟩ := sls_rel hM hs hneed hr
        rw [sls_rd hs hno1 hno2] at hsl
        have hl' := hsl.len
        have himm := imm (s := s) (h := s.xs.length) (m' := cap) hsl (by omega) (by have := hsl.cap; omega) (Nat.le_refl _) (Nat.le_refl _)
        rw [List.take_length] at himm
        refine Ran.same hM (run (h := len) (m' := cap) hv h0 (.inl ⟨rfl, rfl, rfl⟩) (.inl ⟨rfl, rfl⟩) (by omega) hsl.cap (Nat.le_refl _)) (.d _ _ ?_)
        rw [hl']; exact himm
    · cases he
    · -- a high bound
      rename_i hv
      simp only [Option.bind_eq_some_iff] at he
      obtain ⟨h, hh, he⟩ := he
      obtain ⟨kh, hhv⟩ := int?_rel hh (hρ hv)
      have hbd : 0 ≤ h → ∀ len : Nat, h ≤ len → ∀ cap : Nat, len ≤ cap → ∃ m', ((Option.map ρ (some hv) = none ∧ Option.map ρ none = none ∧ h.toNat = len) ∨ ∃ k, Option.map ρ (some hv) = some (.int k (h.toNat : Int))) ∧ ((Option.map ρ none = none ∧ m' = cap) ∨ ∃ k, Option.map ρ none = some (Value.int k (m' : Int))) ∧ h.toNat ≤ m' ∧ m' ≤ cap :=
        fun h0 len hl cap hc => ⟨cap, .inr ⟨kh, by simp [hhv, Int.toNat_of_nonneg h0]⟩, .inl ⟨rfl, rfl⟩, by omega, Nat.le_refl _⟩
      split at he
      · rename_i k t' ha
        split at he
        · rename_i ht; subst ht
          split at he
          · rename_i T t2 xs hg
            split at he
            · rename_i ht2; subst ht2
              simp only [Option.some.injEq] at he; subst he
              obtain ⟨h0, h1, h2⟩ := hn
              exact whole ha hg h0 (by omega) (by omega) (hbd (by omega) xs.length h2)
            · cases he
          · cases he
        · cases he
      · rename_i k t' off len ha
        split at he
        · rename_i ht; subst ht
          simp only [Option.some.injEq] at he; subst he
          obtain ⟨h0, h1, h2⟩ := hn
          exact some_ ha h0 (by omega) (by omega) (hbd (by omega) len h2)
        · cases he
      · rename_i hno1 hno2
        simp only [Option.map_eq_some_iff] at he
        obtain ⟨s, hs, rfl⟩ := he
        obtain ⟨⟨h0, h1, h2⟩, hneed⟩ := hn
        obtain ⟨a, len, cap, hv', hsl⟩ := sls_rel hM hs hneed hr
        rw [sls_rd hs hno1 hno2] at hsl
        have hl' := hsl.len
        have hc' := hsl.cap
        refine Ran.same hM (run (h := h.toNat) (m' := cap) hv' h0 (.inr ⟨kh, by simp [hhv, Int.toNat_of_nonneg (show 0 ≤ h by omega)]⟩) (.inl ⟨rfl, rfl⟩) (by omega) (by omega) (Nat.le_refl _)) (.d _ _ ?_)
        exact imm (s := s) hsl (by omega) (by omega) (Nat.le_refl _) (by omega)
    · -- a high bound, and how far it may grow
      rename_i hv mv
      simp only [Option.bind_eq_some_iff] at he
      obtain ⟨h, hh, mI, hmI, he⟩ := he
      obtain ⟨kh, hhv⟩ := int?_rel hh (hρ hv)
      obtain ⟨km, hmv⟩ := int?_rel hmI (hρ mv)
      have hbd : 0 ≤ h → h ≤ mI → ∀ len : Nat, mI ≤ len → ∀ cap : Nat, len ≤ cap → ∃ m', ((Option.map ρ (some hv) = none ∧ Option.map ρ (some mv) = none ∧ h.toNat = len) ∨ ∃ k, Option.map ρ (some hv) = some (.int k (h.toNat : Int))) ∧ ((Option.map ρ (some mv) = none ∧ m' = cap) ∨ ∃ k, Option.map ρ (some mv) = some (Value.int k (m' : Int))) ∧ h.toNat ≤ m' ∧ m' ≤ cap :=
        fun h0 hm len hl cap hc => ⟨mI.toNat, .inr ⟨kh, by simp [hhv, Int.toNat_of_nonneg h0]⟩, .inr ⟨km, by simp [hmv, Int.toNat_of_nonneg (show 0 ≤ mI by omega)]⟩, by omega, by omega⟩
      split at he
      · rename_i k t' ha
        split at he
        · rename_i ht; subst ht
          split at he
          · rename_i T t2 xs hg
            split at he
            · rename_i ht2; subst ht2
              simp only [Option.some.injEq] at he; subst he
              obtain ⟨h0, h1, h2, h3⟩ := hn
              exact whole ha hg h0 (by omega) (by omega) (hbd (by omega) h2 xs.length h3)
            · cases he
          · cases he
        · cases he
      · rename_i k t' off len ha
        split at he
        · rename_i ht; subst ht
          simp only [Option.some.injEq] at he; subst he
          obtain ⟨h0, h1, h2, h3⟩ := hn
          exact some_ ha h0 (by omega) (by omega) (hbd (by omega) h2 len h3)
        · cases he
      · rename_i hno1 hno2
        simp only [Option.map_eq_some_iff] at he
        obtain ⟨s, hs, rfl⟩ := he
        obtain ⟨⟨h0, h1, h2, h3⟩, hneed⟩ := hn
        obtain ⟨a, len, cap, hv', hsl⟩ := sls_rel hM hs hneed hr
        rw [sls_rd hs hno1 hno2] at hsl
        have hl' := hsl.len
        have hc' := hsl.cap
        refine Ran.same hM (run (h := h.toNat) (m' := h.toNat) hv' h0 (.inr ⟨kh, by simp [hhv, Int.toNat_of_nonneg (show 0 ≤ h by omega)]⟩) (.inr ⟨km, by simp [hmv, h3, Int.toNat_of_nonneg (show 0 ≤ h by omega)]⟩) (by omega) (Nat.le_refl _) (by omega)) ?_
        exact .fl _ _ _ _ (imm (s := s) hsl (by omega) (Nat.le_refl _) (by omega) (by omega))

end Go.VL

/-
  The value layer, part 13: new slices, builtins; every operation. (Own work.)
-/
namespace Go.VL

variable {P : Program} {C : Codes} {E : Entry} {w : World} {K : Nat → Prop} {m : Nat → Option (Option Nat)} {H : Heap} {free : Nat → Prop} {nm : Nat} {o : Oper}
  {ρ : Operand → Value} {ρA : Operand → AV} {e : Eff}

/-- What a row's cells are, element by element. -/
def RowIs (w : World) (K : Nat → Prop) (t : Ty) (xs : List t.ty) (cs : Array Value) : Prop :=
  ∀ (i : Nat) (x : t.ty) (j : Nat) (d : D), xs[i]? = some x → (enc t x)[j]? = some d → ∃ v, cs[i * t.size + j]? = some v ∧ RelD w K d v

theorem build_rel (hM : Mem E w K m H free) (te : Ty) {places : Nat → Option (Nat × Nat)} (hp : ∀ i, places i = some (i * te.size, te.size)) (hρ : ∀ x, Rel w K m H (ρA x) (ρ x)) :
    ∀ (parts : List (Nat × Operand)) (k n : Nat) (cs : Array Value) (xs : List te.ty) (p : Prop) (fz : List Nat), opE.build H te k (parts.map fun q => (q.1, ρA q.2)) = some (xs, p, fz) → p → cs.size = n * te.size → k + parts.length = n →
      ∃ us, Instr.fill places cs (parts.map fun q => (q.1, ρ q.2)) = some us ∧ us.size = cs.size ∧ (∀ j, j < k * te.size → us[j]? = cs[j]?) ∧ xs.length = parts.length ∧ (∀ l ∈ fz, ∃ blk, H.get l = some blk) ∧
        ∀ (i : Nat) (x : te.ty) (j : Nat) (d : D), xs[i]? = some x → (enc te x)[j]? = some d → ∃ v, us[(k + i) * te.size + j]? = some v ∧ RelD w (KF K m fz) d v
  | [], k, n, cs, xs, p, fz, h, hp', hs, hk => by
    simp only [List.map_nil, opE.build, Option.some.injEq, Prod.mk.injEq] at h
    obtain ⟨rfl, _, rfl⟩ := h
    exact ⟨cs, rfl, rfl, fun _ _ => rfl, rfl, fun l hl => by simp at hl, fun i x j d hx => by simp at hx⟩
  | (i, x) :: rest, k, n, cs, xs, p, fz, h, hp', hs, hk => by
    simp only [List.map_cons, opE.build] at h
    cases hik : (i == k)
    · simp [hik] at h
    · simp only [hik, cond_true, Option.bind_eq_some_iff, Option.map_eq_some_iff, Prod.exists] at h
      obtain ⟨ds, p1, f1, hds, y, hy, ys, p2, f2, hrest, he⟩ := h
      simp only [Prod.mk.injEq] at he
      obtain ⟨rfl, rfl, rfl⟩ := he
      simp only [beq_iff_eq] at hik
      subst hik
      simp only [List.length_cons] at hk
      obtain ⟨hll, hlg⟩ := (dec_le hy).get
      rw [enc_length] at hll
      have hkn : (ρA x).known = true := by
        cases hax : ρA x with
        | dead => rw [hax] at hds; simp [toDs, AV.cells, AV.toD] at hds
        | d z =>
          rw [hax] at hds
          cases z with
          | v z =>
            cases z with
            | agg cs' =>
              simp only [toDs, AV.cells, AV.toD, Option.bind_some, Option.map_some, Option.some.injEq, Prod.mk.injEq] at hds
              obtain ⟨rfl, _⟩ := hds
              exfalso
              have hone := D.one
              have h0 : ([D.v (.agg cs')] : List D)[0]? = some (.v (.agg cs')) := rfl
              have hlt : 0 < (enc te y).length := by rw [enc_length]; simp at hll; omega
              have := hlg 0 _ _ h0 (List.getElem?_eq_getElem hlt)
              have h1 := enc_one' (List.getElem_mem hlt)
              generalize (enc te y)[0] = q at this h1
              cases this
              simp [D.one] at h1
            | _ => rfl
          | _ => rfl
        | _ => rfl
      obtain ⟨hxs, hxc⟩ := cells_rel hkn (hρ x)
      obtain ⟨hdl, hdr, hdf⟩ := toDs_rel hM hds hp'.1 hxs hxc
      have hsz : (ρ x).cells.size = te.size := by rw [hxs, ← hdl, hll]
      have hbound : i * te.size + te.size ≤ cs.size := by
        rw [hs]
        calc i * te.size + te.size = (i + 1) * te.size := by rw [Nat.add_mul, Nat.one_mul]
          _ ≤ n * te.size := Nat.mul_le_mul_right _ (by omega)
      have hfold := foldl_set (i * te.size) (ρ x).cells.toList 0 cs
      have hfe : (ρ x).cells.zipIdx.foldl (fun cs (c, j) => cs.setIfInBounds (i * te.size + j) c) cs = ((ρ x).cells.toList.zipIdx 0).foldl (fun cs (p : Value × Nat) => cs.setIfInBounds (i * te.size + p.2) p.1) cs := by
        rw [← Array.foldl_toList, Array.toList_zipIdx]
      obtain ⟨us, h1, h2, h3, h4, h5, h6⟩ := build_rel hM te hp hρ rest (i + 1) n _ ys p2 f2 hrest hp'.2 (by rw [hfold.1]; exact hs) (by omega)
      have hKF1 : ∀ b, KF K m f1 b → KF K m (f1 ++ f2) b := by
        rintro b (hb | ⟨l, hl, hm⟩)
        · exact .inl hb
        · exact .inr ⟨l, by simp [hl], hm⟩
      have hKF2 : ∀ b, KF K m f2 b → KF K m (f1 ++ f2) b := by
        rintro b (hb | ⟨l, hl, hm⟩)
        · exact .inl hb
        · exact .inr ⟨l, by simp [hl], hm⟩
      refine ⟨us, ?_, by rw [h2, hfold.1], fun j hj => ?_, by simp [h4], fun l hl => ?_, fun a z j d hz hd => ?_⟩
      · simp only [List.map_cons, Instr.fill, hp i, hsz, ne_eq, not_true_eq_false, decide_false, Bool.false_or]
        have : ¬ (i * te.size + te.size > cs.size) := by omega
        simp only [this, decide_false, Bool.false_eq_true, if_false]
        rw [hfe]
        exact h1
      · rw [h3 j (by rw [Nat.add_mul]; omega), hfold.2 j]
        rw [if_neg (by omega)]
      · rcases List.mem_append.1 hl with hl | hl
        · exact hdf l hl
        · exact h5 l hl
      · cases a with
        | zero =>
          simp only [List.getElem?_cons_zero, Option.some.injEq] at hz
          subst hz
          have hj : j < te.size := by have := (List.getElem?_eq_some_iff.1 hd).1; rw [enc_length] at this; exact this
          have hjd : j < ds.length := by omega
          have hv : (ρ x).cells[j]? = some ((ρ x).cells[j]'(by rw [hsz]; exact hj)) := by simp [hsz, hj]
          refine ⟨_, ?_, ((RelD.le (hlg j _ _ (List.getElem?_eq_getElem hjd) hd) (hdr j _ _ (List.getElem?_eq_getElem hjd) hv)).ext hKF1 (fun _ _ => rfl))⟩
          rw [Nat.add_zero, h3 _ (by rw [Nat.add_mul]; omega), hfold.2]
          rw [if_pos (by simp [hsz]; omega)]
          simp only [Nat.add_zero, Nat.add_sub_cancel_left, Array.getElem?_toList]
          exact hv
        | succ a =>
          obtain ⟨v, hv, hr⟩ := h6 a z j d (by simpa using hz) hd
          refine ⟨v, ?_, hr.ext hKF2 (fun _ _ => rfl)⟩
          rw [show i + (a + 1) = i + 1 + a by omega]; exact hv


theorem ran_buildSlice (hM : Mem E w K m H free) (hfr : free nm) (hρ : ∀ x, Rel w K m H (ρA x) (ρ x)) {t : TypeId} {len : Nat} {parts : Array (Nat × Operand)} (ho : o.op = .buildSlice t len parts) (he : opE P C ρA H nm o = some e) (hn : e.need) :
    Ran P E ρ o w K m H free nm e := by
  simp only [opE, ho, Option.bind_eq_some_iff] at he
  obtain ⟨el, hel, te, hte, he⟩ := he
  have hu := elemOf_run hel
  cases hb : (szOf P el == some te.size && parts.size == len && Nat.ble (len * te.size) 1000 && hasZero P el te)
  · simp [hb] at he
  · simp only [hb, cond_true, Option.map_eq_some_iff, Prod.exists] at he
    obtain ⟨xs, p, fz, hbd, rfl⟩ := he
    simp only [Bool.and_eq_true, beq_iff_eq] at hb
    obtain ⟨⟨⟨hsz, hps⟩, hle⟩, hz⟩ := hb
    have hle := Nat.le_of_ble_eq_true hle
    simp only [szOf, Option.map_eq_some_iff] at hsz
    obtain ⟨inf, hinf, hsz⟩ := hsz
    obtain ⟨z, hz1, hz2⟩ : ∃ z, inf.zero = some z ∧ z.cells.size = te.size := by
      unfold hasZero at hz
      rw [hinf] at hz
      simp only at hz
      split at hz
      · exact ⟨_, ‹_›, by simpa using hz⟩
      · cases hz
    -- the cells at first
    obtain ⟨cs0, hcs0, hrun0⟩ : ∃ cs0 : Array Value, cs0.size = len * te.size ∧ ∀ us, Instr.fill (fun i => some (i * te.size, te.size)) cs0 (parts.toList.map fun q => (q.1, ρ q.2)) = some us →
        (Instr.buildSlice t len (parts.map fun (i, x) => (i, ρ x))).run P w = .ok (.slice (some ⟨w.heap.size, 0, none⟩) len len) (w.alloc (.cells us el)) := by
      have hl : (Array.map (fun (x : Nat × Operand) => (match x with | (i, x) => (i, ρ x))) parts).toList = parts.toList.map fun p => (p.1, ρ p.2) := by simp
      have h24 : ¬ (len * te.size > 2 ^ 24) := by omega
      by_cases h0 : len * te.size = 0
      · refine ⟨(Array.range (len * te.size)).map ((#[] : Array Value)[· % (#[] : Array Value).size]!), by simp, fun us hus => ?_⟩
        simp only [Instr.buildSlice, Sem.run_bind, run_underlying hu, Result.andThen_ok, run_sizeOf' hinf, hsz]
        rw [if_neg h24, if_pos h0]
        simp only [Sem.run_bind, Sem.run_pure, Result.andThen_ok, hl]
        rw [hus]
        simp [newRow]
      · refine ⟨(Array.range (len * te.size)).map (z.cells[· % z.cells.size]!), by simp, fun us hus => ?_⟩
        have hzv : (zeroValue el).run P w = .ok z w := by simp [zeroValue, typeInfo, hinf, hz1]
        simp only [Instr.buildSlice, Sem.run_bind, run_underlying hu, Result.andThen_ok, run_sizeOf' hinf, hsz]
        rw [if_neg h24, if_neg h0]
        simp only [Sem.run_bind, Sem.run_pure, Result.andThen_ok, hl, hzv]
        rw [hus]
        simp [newRow]
    obtain ⟨us, h1, h2, _, h4, h5, h6⟩ := build_rel hM te (places := fun i => some (i * te.size, te.size)) (fun i => rfl) hρ parts.toList 0 len cs0 xs p fz hbd hn hcs0 (by simpa using hps)
    have hrun := hrun0 us h1
    obtain ⟨K1, g1, e1, hk1⟩ := Mem.gives fz hM
    have hKF := KF_gives e1.hK h5 hk1
    have hxl : xs.length = len := by rw [h4]; simpa using hps
    obtain ⟨g2, e2⟩ := g1.new hfr us el (.row el te xs) (fun w' m' H' e' hm hw => .inr ⟨w.heap.size, us, hm, hw, by rw [h2, hcs0, hxl]; exact Nat.le_refl _, fun i x j d hx hd => by
      obtain ⟨v, hv, hr⟩ := h6 i x j d hx hd
      rw [Nat.zero_add] at hv
      exact ⟨v, hv, hr.ext (fun b hb => e'.hK b (hKF b hb)) (fun b hb => e'.keep b (hKF b hb))⟩⟩)
    have happ : H.app ((fz.map fun k => (k, none)) ++ [(nm, some (.row el te xs))]) = (H.app (fz.map fun k => (k, none))).put nm (some (.row el te xs)) := by simp [Heap.app]
    refine ⟨_, .slice (some ⟨w.heap.size, 0, none⟩) len len, w.alloc (.cells us el), K1, upd m nm (some w.heap.size), ?_, .inl rfl, ?_, ?_, ?_⟩
    · simp only [execOp, ho]
      exact run_v hrun
    · simp only [happ]
      refine .own _ _ _ _ _ (upd_self _ _ _) (fun T ys hy => ?_) (Nat.le_refl _) ⟨el, us.size, ?_, by rw [h2, hcs0]; exact Nat.le_refl _⟩
      · rw [Heap.get_put_self] at hy; cases hy; exact hxl.symm
      · have hh := heap_new w (.cells us el)
        unfold World.shape?
        rw [hh]
    · simp only [happ]; exact g2
    · simp only [happ]; exact e1.trans e2

theorem ran_len (hM : Mem E w K m H free) (hρ : ∀ x, Rel w K m H (ρA x) (ρ x)) {args : Array Operand} {ts : Array TypeId} (ho : o.op = .call { callee := .builtin .len, args := args, argTypes := ts }) (he : opE P C ρA H nm o = some e) (hn : e.need) :
    Ran P E ρ o w K m H free nm e := by
  simp only [opE, ho] at he
  split at he
  · rename_i t x hts hargs
    have hta : ts = #[t] := by rw [← Array.toArray_toList (xs := ts), hts]
    have haa : args = #[x] := by rw [← Array.toArray_toList (xs := args), hargs]
    subst hta; subst haa
    have hr := hρ x
    have exec : ∀ {u : Value}, (Builtin.len_ #[t] o.type #[ρ x]).run P w = .ok u w → (execOp ρ o).run P w = .ok (.value u) w := by
      intro u h
      simp only [execOp, ho, resolve, Sem.run_bind, Sem.run_pure, Result.andThen_ok, invoke, builtin]
      simp only [List.map_toArray, List.map_cons, List.map_nil, h, Result.andThen_ok]
    split at he
    · rename_i s ha
      rw [ha] at hr
      have ex := val_rel hr
      split at he
      · rename_i hu
        exact eff_same he hM (exec (by simp [Builtin.len_, run_underlying hu, ex, goInt])) (.d _ _ (.v _))
      · cases he
    · split at he
      · rename_i el hu
        simp only [Option.map_eq_some_iff, Prod.exists] at he
        obtain ⟨n, p, r, hlen, rfl⟩ := he
        have hval : ∃ a c, ρ x = .slice a n c := by
          generalize ρA x = av at hr hlen
          generalize ρ x = v at hr
          cases hr with
          | d y v h =>
            cases h with
            | v =>
              unfold AV.len? at hlen
              split at hlen <;> simp_all
            | f => simp [AV.len?] at hlen
            | sl0 => simp [AV.len?] at hlen; exact ⟨_, _, by rw [hlen.1]⟩
            | sl => simp [AV.len?] at hlen; exact ⟨_, _, by rw [hlen.1]⟩
          | fl t' xs a n' h =>
            simp [AV.len?] at hlen
            cases h <;> exact ⟨_, _, by rw [← hlen.1] <;> rfl⟩
          | own0 l t' a hm =>
            simp only [AV.len?] at hlen
            split at hlen
            · rename_i T t2 xs hg
              split at hlen
              · simp only [Option.some.injEq, Prod.mk.injEq] at hlen
                rcases hM.heap l _ hg with ⟨_, hx⟩ | ⟨b', cs, hm', _⟩
                · subst hx; exact ⟨_, _, by rw [← hlen.1]; rfl⟩
                · rw [hm] at hm'; cases hm'
              · cases hlen
            · cases hlen
          | own l t' b n' cap hm hl hcap hs =>
            simp only [AV.len?] at hlen
            split at hlen
            · rename_i T t2 xs hg
              split at hlen
              · rename_i ht; subst ht
                simp only [Option.some.injEq, Prod.mk.injEq] at hlen
                exact ⟨_, _, by rw [hl T xs hg, hlen.1]⟩
              · cases hlen
            · cases hlen
          | view0 => simp [AV.len?] at hlen; exact ⟨_, _, by rw [← hlen.1]⟩
          | view => simp [AV.len?] at hlen; exact ⟨_, _, by rw [← hlen.1]⟩
          | _ => simp [AV.len?] at hlen
        obtain ⟨a, c, hv⟩ := hval
        exact Ran.same hM (exec (by simp [Builtin.len_, run_underlying hu, hv, goInt])) (.d _ _ (.v _))
      · cases he
  · cases he

end Go.VL

/-
  The value layer, part 13: 'clear' of a part of a row that is owned. (Own work.)
-/
namespace Go.VL

variable {P : Program} {C : Codes} {E : Entry} {w : World} {K : Nat → Prop} {m : Nat → Option (Option Nat)} {H : Heap} {free : Nat → Prop}
  {ρA : Operand → AV} {ρ : Operand → Value} {o : Oper} {nm : Nat} {e : Eff}

theorem eqZ_rel {d : D} {v : Value} (h : eqZ d v = true) : RelD w K d v := by
  unfold eqZ at h
  split at h
  · rename_i k a k' b
    simp only [Bool.and_eq_true, decide_eq_true_eq, beq_iff_eq] at h
    obtain ⟨rfl, rfl⟩ := h
    exact .v _
  · rename_i a b
    have : a = b := by simpa using h
    subst this; exact .v _
  · exact .sl0 _ none 0
  · cases h
theorem eqZ_one {d : D} {v : Value} (h : eqZ d v = true) : v.oneCell' = true := by
  unfold eqZ at h
  split at h
  · rfl
  · rfl
  · rfl
  · cases h
theorem eqZs_get : ∀ {ds : List D} {vs : List Value}, eqZs ds vs = true → ds.length = vs.length ∧ ∀ (j : Nat) d v, ds[j]? = some d → vs[j]? = some v → eqZ d v = true
  | [], [], _ => ⟨rfl, fun j d v h => by simp at h⟩
  | [], _ :: _, h => by cases h
  | _ :: _, [], h => by cases h
  | d :: ds, v :: vs, h => by
    simp only [eqZs, Bool.and_eq_true] at h
    obtain ⟨h1, h2⟩ := eqZs_get h.2
    refine ⟨by simp [h1], fun j d' v' hd hv => ?_⟩
    cases j with
    | zero => simp only [List.getElem?_cons_zero, Option.some.injEq] at hd hv; subst hd; subst hv; exact h.1
    | succ j => exact h2 j d' v' (by simpa using hd) (by simpa using hv)

theorem Mem.same (h : Mem E w K m H free) {H' : Heap} (hH : ∀ l, H'.get l = H.get l) : Mem E w K m H' free ∧ Ext w K m H w K m H' := by
  have e : Ext w K m H w K m H' := ⟨fun _ h => h, fun _ _ => rfl, fun _ _ h => h, fun _ _ h => h, fun l T t xs _ hx => ⟨xs, by rw [← hH]; exact hx, rfl⟩⟩
  exact ⟨{ h with
    heap := fun l b hb => BlkRel.ext e (h.heap l b (by rw [← hH]; exact hb)) (fun _ _ => rfl)
    own := fun l b c hb => h.own l b c (by rw [← hH]; exact hb)
    inj := fun l l' b b' c hb hb' => h.inj l l' b b' c (by rw [← hH]; exact hb) (by rw [← hH]; exact hb') }, e⟩

theorem ran_clear (hM : Mem E w K m H free) (hρ : ∀ x, Rel w K m H (ρA x) (ρ x)) {args : Array Operand} {ts : Array TypeId} (ho : o.op = .call { callee := .builtin .clear, args := args, argTypes := ts }) (he : opE P C ρA H nm o = some e) (hn : e.need) :
    Ran P E ρ o w K m H free nm e := by
  simp only [opE, ho] at he
  split at he
  · rename_i t x hts hargs
    have hta : ts = #[t] := by rw [← Array.toArray_toList (xs := ts), hts]
    have haa : args = #[x] := by rw [← Array.toArray_toList (xs := args), hargs]
    subst hta; subst haa
    have hr := hρ x
    have exec : ∀ {u : Value} {w' : World}, (Builtin.clear_ #[t] o.type #[ρ x]).run P w = .ok u w' → (execOp ρ o).run P w = .ok (.value u) w' := by
      intro u w' h
      simp only [execOp, ho, resolve, Sem.run_bind, Sem.run_pure, Result.andThen_ok, invoke, builtin]
      simp only [List.map_toArray, List.map_cons, List.map_nil, h, Result.andThen_ok]
    obtain ⟨el, hel, he⟩ := Option.bind_eq_some_iff.1 he
    obtain ⟨te, hte, he⟩ := Option.bind_eq_some_iff.1 he
    have hu := elemOf_run hel
    cases hz : zeroIs P el te
    · rw [hz] at he; cases he
    rw [hz] at he
    simp only [cond_true] at he
    unfold clrE at he
    split at he
    · rename_i l t' off len hx
      rw [hx] at hr
      split at he
      · rename_i ht
        subst ht
        split at he
        · rename_i T t2 xs hg
          split at he
          · rename_i h2
            subst h2
            cases he
            simp only at hn ⊢
            have hsplx : off + (List.replicate len t2.dflt).length ≤ xs.length := by simpa using hn
            -- nothing to do where there is nothing
            have nothing : len = 0 → (Builtin.clear_ #[t] o.type #[ρ x]).run P w = .ok (.tuple #[]) w → Ran P E ρ o w K m H free nm ⟨.tup [], off + len ≤ xs.length, [l], [(l, some (.row T t2 (splice xs off (List.replicate len t2.dflt))))]⟩ := by
              intro hl hrun
              subst hl
              have e1 : splice xs off (List.replicate 0 t2.dflt) = xs := by simp [splice]
              obtain ⟨g1, g2⟩ := hM.same (H' := H.put l (some (.row T t2 (splice xs off (List.replicate 0 t2.dflt))))) (fun k => by
                by_cases hk : k = l
                · subst hk; rw [Heap.get_put_self, e1, hg]
                · rw [Heap.get_put H hk])
              exact ⟨_, _, w, K, m, exec hrun, .inl rfl, .tup [] #[] rfl (fun i a v h => by simp at h), g1.weaken (fun _ hl => hl.1), g2⟩
            generalize hgv : ρ x = rx at hr
            cases hr with
            | view0 _ _ _ a =>
              refine nothing rfl ?_
              rw [hgv]
              cases a <;> simp [Builtin.clear_, run_underlying hu]
            | view _ _ b _ _ cap hm hcap hsh =>
              by_cases hl0 : len = 0
              · refine nothing hl0 ?_
                rw [hgv]; subst hl0
                simp [Builtin.clear_, run_underlying hu]
              · rcases hM.heap l _ hg with ⟨hm', _⟩ | ⟨b', cs, hm', hw, hs, hrel⟩
                · rw [hm] at hm'; cases hm'
                rw [hm] at hm'; cases hm'
                unfold zeroIs at hz
                split at hz
                · rename_i i hi
                  split at hz
                  · rename_i z hzz
                    obtain ⟨hzl, hzg⟩ := eqZs_get hz
                    rw [enc_length, Array.length_toList] at hzl
                    have hzc : (Builtin.zeroCells z.cells len).toList.length = len * t2.size := by
                      rw [Array.length_toList, size_zeroCells, hzl]
                    have hzget : ∀ q v, (Builtin.zeroCells z.cells len).toList[q]? = some v → 0 < t2.size ∧ q < len * t2.size ∧ z.cells[q % t2.size]? = some v := by
                      intro q v hq
                      have hlt : q < len * t2.size := by
                        rw [← hzc]; exact (List.getElem?_eq_some_iff.1 hq).1
                      have hpos : 0 < t2.size := by
                        rcases Nat.eq_zero_or_pos t2.size with h | h
                        · rw [h] at hlt; omega
                        · exact h
                      refine ⟨hpos, hlt, ?_⟩
                      have hm1 : q % t2.size < z.cells.size := by rw [← hzl]; exact Nat.mod_lt _ hpos
                      simp only [Builtin.zeroCells, Array.getElem?_toList, Array.getElem?_map] at hq
                      rw [Array.getElem?_range, if_pos (by rw [← hzl]; exact hlt)] at hq
                      simp only [Option.map_some, Option.some.injEq] at hq
                      rw [← hzl] at hq
                      rw [← hq, getElem!_pos z.cells (q % t2.size) hm1]
                      exact Array.getElem?_eq_getElem hm1
                    have hone : ∀ u ∈ (Builtin.zeroCells z.cells len).toList, u.oneCell' = true := by
                      intro u hu
                      obtain ⟨q, hq, rfl⟩ := List.getElem_of_mem hu
                      obtain ⟨hpos, _, h3⟩ := hzget q _ (List.getElem?_eq_getElem hq)
                      have hj : q % t2.size < (enc t2 t2.dflt).length := by rw [enc_length]; exact Nat.mod_lt _ hpos
                      exact eqZ_one (hzg _ _ _ (List.getElem?_eq_getElem hj) (by rw [Array.getElem?_toList]; exact h3))
                    have hbound : off * t2.size + len * t2.size ≤ cs.size := by
                      calc off * t2.size + len * t2.size = (off + len) * t2.size := by rw [Nat.add_mul]
                        _ ≤ xs.length * t2.size := Nat.mul_le_mul_right _ hn
                        _ ≤ cs.size := hs
                    have hst := run_storeCells_at P b (off * t2.size) T (Builtin.zeroCells z.cells len).toList 0 cs w hw (by rw [hzc]; omega) hone
                    have hspl : off * t2.size + (Builtin.zeroCells z.cells len).toList.length ≤ cs.toList.length := by rw [hzc]; simpa using hbound
                    let ncs := (splice cs.toList (off * t2.size) (Builtin.zeroCells z.cells len).toList).toArray
                    have hrun : (Builtin.clear_ #[t] o.type #[ρ x]).run P w = .ok (.tuple #[]) (w.setRow b ncs) := by
                      rw [hgv]
                      have hst' : (storeCells ⟨b, off * t2.size, none⟩ (Builtin.zeroCells z.cells len).toList).run P w = .ok () (w.setRow b ncs) := by
                        rw [hst]; simp [ncs, splice, List.append_assoc]
                      obtain ⟨len', rfl⟩ : ∃ q, len = q + 1 := ⟨len - 1, by omega⟩
                      simp [Builtin.clear_, run_underlying hu, zeroValue, typeInfo, hi, hzz, hst']
                    obtain ⟨h2, e2⟩ := hM.write hg hm (blk := .row T t2 (splice xs off (List.replicate len t2.dflt))) (w' := w.setRow b ncs) (cs' := ncs) hw (setRow_heap w b cs ncs T _ hw)
                      (by simp only [ncs]; rw [List.size_toArray, splice_length _ _ _ hspl, Array.length_toList]) (fun k hk => setRow_other w b k _ hk) ⟨rfl, rfl, rfl, by simp⟩
                      (fun T' t2 ys hx => by cases hx; exact ⟨xs, rfl, (splice_length _ _ _ hsplx).symm⟩)
                      (fun H' e' => by
                        refine .inr ⟨b, ncs, hm, setRow_heap w b cs ncs T _ hw, by simp only [ncs]; rw [List.size_toArray, splice_length _ _ _ hspl, splice_length _ _ _ hsplx, Array.length_toList]; exact hs, fun k y j d hy hd => ?_⟩
                        have hjs : j < t2.size := by have := (List.getElem?_eq_some_iff.1 hd).1; rw [enc_length] at this; exact this
                        simp only [ncs, List.getElem?_toArray]
                        rw [splice_get _ _ _ hspl, hzc]
                        rw [splice_get _ _ _ hsplx] at hy
                        simp only [List.length_replicate] at hy
                        by_cases hin : off ≤ k ∧ k < off + len
                        · rw [if_pos hin] at hy
                          have hlo : off * t2.size ≤ k * t2.size := Nat.mul_le_mul_right _ hin.1
                          have hhi : k * t2.size + t2.size ≤ off * t2.size + len * t2.size := by
                            calc k * t2.size + t2.size = (k + 1) * t2.size := by rw [Nat.add_mul, Nat.one_mul]
                              _ ≤ (off + len) * t2.size := Nat.mul_le_mul_right _ (by omega)
                              _ = _ := by rw [Nat.add_mul]
                          rw [if_pos (by omega)]
                          have hyd : y = t2.dflt := by
                            have := List.mem_of_getElem? hy
                            exact List.eq_of_mem_replicate this
                          subst hyd
                          have hq : k * t2.size + j - off * t2.size < (Builtin.zeroCells z.cells len).toList.length := by rw [hzc]; omega
                          refine ⟨_, List.getElem?_eq_getElem hq, ?_⟩
                          obtain ⟨hpos, _, h3⟩ := hzget _ _ (List.getElem?_eq_getElem hq)
                          have hmod : (k * t2.size + j - off * t2.size) % t2.size = j := by
                            have e1 : k * t2.size + j - off * t2.size = j + t2.size * (k - off) := by
                              have : k * t2.size = off * t2.size + (k - off) * t2.size := by rw [← Nat.add_mul]; congr 1; omega
                              rw [this, Nat.mul_comm t2.size]; omega
                            rw [e1, Nat.add_mul_mod_self_left]; exact Nat.mod_eq_of_lt hjs
                          rw [hmod] at h3
                          exact eqZ_rel (hzg j d _ hd (by rw [Array.getElem?_toList]; exact h3))
                        · rw [if_neg hin] at hy
                          obtain ⟨v, hv, hrl⟩ := hrel k y j d hy hd
                          have hout : ¬ (off * t2.size ≤ k * t2.size + j ∧ k * t2.size + j < off * t2.size + len * t2.size) := by
                            rcases Nat.lt_or_ge k off with h | h
                            · have : k * t2.size + t2.size ≤ off * t2.size := by
                                calc k * t2.size + t2.size = (k + 1) * t2.size := by rw [Nat.add_mul, Nat.one_mul]
                                  _ ≤ off * t2.size := Nat.mul_le_mul_right _ h
                              omega
                            · have h5 : off + len ≤ k := by omega
                              have : off * t2.size + len * t2.size ≤ k * t2.size := by
                                rw [← Nat.add_mul]; exact Nat.mul_le_mul_right _ h5
                              omega
                          rw [if_neg hout]
                          exact ⟨v, by simpa using hv, hrl.ext e'.hK e'.keep⟩)
                    exact ⟨_, _, w.setRow b ncs, K, m, exec hrun, .inl rfl, .tup [] #[] rfl (fun i a v h => by simp at h), h2.weaken (fun _ hl => hl.1), e2⟩
                  · cases hz
                · cases hz
          · cases he
        · cases he
      · cases he
    · cases he
  · cases he

end Go.VL

/-
  The value layer: maps. (Own work.)
-/
namespace Go.VL

variable {P : Program} {C : Codes} {E : Entry} {w : World} {K : Nat → Prop} {m : Nat → Option (Option Nat)} {H : Heap} {free : Nat → Prop} {ρA : Operand → AV} {ρ : Operand → Value} {nm : Nat} {o : Oper} {e : Eff}

theorem known_of_toDs {b : AV} {ds es : List D} {p : Prop} {fz : List Nat} (hds : toDs H b.cells = some (ds, p, fz)) (hle : Les ds es) (hone : ∀ d ∈ es, d.one = true) : b.known = true := by
  cases b with
  | dead => simp [toDs, AV.cells, AV.toD] at hds
  | d z =>
    cases z with
    | v z =>
      cases z with
      | agg cs' =>
        simp only [toDs, AV.cells, AV.toD, Option.bind_some, Option.map_some, Option.some.injEq, Prod.mk.injEq] at hds
        obtain ⟨rfl, _⟩ := hds
        cases hle with
        | cons h _ =>
          cases h
          have := hone (.v (.agg cs')) (by simp)
          simp [D.one] at this
      | _ => rfl
    | _ => rfl
  | _ => rfl

theorem flat_enc {t : Ty} (ht : t.flat = true) (x : t.ty) : ∃ d, enc t x = [d] := by
  cases t <;> first | exact ⟨_, rfl⟩ | (simp [Ty.flat] at ht)

/-- Cells read, a datum made of them. -/
theorem toTy_rel (hM : Mem E w K m H free) {b : AV} {t : Ty} {x : t.ty} {p : Prop} {fz : List Nat} (hb : b.toTy H t = some (x, p, fz)) (hp : p) {v : Value} (h : Rel w K m H b v) :
    RelT w (KF K m fz) (AV.ofTy t x) v ∧ ∀ l ∈ fz, ∃ blk, H.get l = some blk := by
  unfold AV.toTy at hb
  cases hag : (b.isAgg == !t.flat)
  · simp [hag] at hb
  simp only [hag, cond_true, Option.bind_eq_some_iff, Option.map_eq_some_iff, Prod.exists] at hb
  obtain ⟨ds, p', fz', hds, y, hy, he⟩ := hb
  simp only [Prod.mk.injEq] at he
  obtain ⟨rfl, rfl, rfl⟩ := he
  have hle := dec_le hy
  obtain ⟨hll, hlg⟩ := hle.get
  rw [enc_length] at hll
  have hkn := known_of_toDs hds hle (fun d hd => enc_one' hd)
  obtain ⟨hxs, hxc⟩ := cells_rel hkn h
  obtain ⟨hdl, hdr, hdf⟩ := toDs_rel hM hds hp hxs hxc
  refine ⟨?_, hdf⟩
  have hcell : ∀ (i : Nat) (d : D) (u : Value), (enc t y)[i]? = some d → v.cells[i]? = some u → RelD w (KF K m fz') d u := by
    intro i d u hd hu
    have hi : i < ds.length := by have := (List.getElem?_eq_some_iff.1 hd).1; rw [enc_length] at this; omega
    exact RelD.le (hlg i _ _ (List.getElem?_eq_getElem hi) hd) (hdr i _ _ (List.getElem?_eq_getElem hi) hu)
  cases hf : t.flat
  · -- a struct
    have : b.isAgg = true := by simpa [hf] using hag
    cases b with
    | agg cs =>
      cases h with
      | agg _ vs hl hc =>
        unfold RelT AV.ofTy
        simp only [hf, cond_false]
        refine .agg _ _ (by simp [enc_length, ← hll, hdl]; exact hxs) (fun i a u ha hu => ?_)
        simp only [List.getElem?_map, Option.map_eq_some_iff] at ha
        obtain ⟨d, hd, rfl⟩ := ha
        exact .d _ _ (hcell i d u hd hu)
    | _ => simp [AV.isAgg] at this
  · have hnag : b.isAgg = false := by simpa [hf] using hag
    obtain ⟨d, hd⟩ := flat_enc hf y
    have hv1 : v.cells = #[v] := by
      have hone : v.cells.size = 1 := by rw [hxs, ← hdl, hll, ← enc_length t y, hd]; rfl
      cases v with
      | agg vs =>
        exfalso
        cases b with
        | agg => simp [AV.isAgg] at hnag
        | dead => simp [AV.known] at hkn
        | d z => cases h with | d _ _ h => cases h; simp [AV.known] at hkn
        | _ => cases h
      | _ => rfl
    unfold RelT AV.ofTy
    simp only [hf, cond_true, hd, List.headD_cons]
    exact .d _ _ (hcell 0 d v (by rw [hd]; rfl) (by rw [hv1]; rfl))


theorem rel_bare {a : AV} {v : Value} (h : RelT w K a v) : Rel w K m H a v :=
  h.ext ⟨fun _ h => h, fun _ _ => rfl, fun l x hx => by simp at hx, fun _ _ h => h, fun l T t xs hm => absurd rfl hm⟩
theorem zeroV_run {el : TypeId} {te : Ty} (h : zeroV P el te = true) (w : World) (K : Nat → Prop) : ∃ z, (zeroValue el).run P w = .ok z w ∧ RelT w K (AV.ofTy te te.dflt) z := by
  unfold zeroV at h
  split at h
  · rename_i i hi
    split at h
    · rename_i z hz
      refine ⟨z, by simp [zeroValue, typeInfo, hi, hz], ?_⟩
      unfold AV.ofTy
      cases hf : te.flat
      · rw [hf] at h
        simp only [cond_false] at h ⊢
        split at h
        · rename_i cs
          obtain ⟨h1, h2⟩ := eqZs_get h
          refine .agg _ _ (by simp [h1]) (fun j a v ha hv => ?_)
          rw [List.getElem?_map, Option.map_eq_some_iff] at ha
          obtain ⟨d, hd, rfl⟩ := ha
          exact .d _ _ (eqZ_rel (h2 j d v hd (by simpa using hv)))
        · cases h
      · rw [hf] at h
        exact .d _ _ (eqZ_rel h)
    · cases h
  · cases h
theorem mapOf_some {t : TypeId} {p : TypeId × Ty} (h : mapOf P C t = some p) : ∃ k, P.underlying t = some (.map k p.1) ∧ P.underlying k = some (.int .i64) ∧ zeroV P p.1 p.2 = true := by
  unfold mapOf at h
  split at h
  · rename_i k e hu
    split at h
    · rename_i hk
      obtain ⟨tv, _, h⟩ := Option.bind_eq_some_iff.1 h
      cases hz : zeroV P e tv
      · rw [hz] at h; cases h
      · rw [hz] at h; cases h
        exact ⟨k, hu, hk, hz⟩
    · cases h
  · cases h

theorem find_spec {α : Type} (n : Int) : ∀ (kvs : List (Int × α)) (l : List MapEntry) (i : Nat), l.length = kvs.length → (∀ (j : Nat) kv e, kvs[j]? = some kv → l[j]? = some e → e.key = .int .i64 kv.1) →
    (Instr.findNow (.int .i64) (.int .i64 n) l i = some none ∧ getM n kvs = none ∧ ∀ x, putM n x kvs = kvs ++ [(n, x)]) ∨
    ∃ j kv e, Instr.findNow (.int .i64) (.int .i64 n) l i = some (some (i + j, e.val)) ∧ l[j]? = some e ∧ kvs[j]? = some kv ∧ kv.1 = n ∧ getM n kvs = some kv.2 ∧ ∀ x, putM n x kvs = kvs.set j (n, x)
  | [], [], i, _, _ => .inl ⟨rfl, rfl, fun _ => rfl⟩
  | [], _ :: _, _, h, _ => by simp at h
  | _ :: _, [], _, h, _ => by simp at h
  | kv :: kvs, e :: l, i, hl, hk => by
    have he : e.key = .int .i64 kv.1 := hk 0 kv e rfl rfl
    have hs : Instr.sameNow (.int .i64) (.int .i64 n) e.key = some (n == kv.1) := by rw [he]; rfl
    by_cases h : kv.1 = n
    · refine .inr ⟨0, kv, e, ?_, rfl, rfl, h, ?_, fun x => ?_⟩
      · have : (n == kv.1) = true := by simpa using h.symm
        simp [Instr.findNow, hs, this]
      · simp [getM, h]
      · simp [putM, h]
    · have h1 : (n == kv.1) = false := by simpa using fun e => h e.symm
      have h2 : (kv.1 == n) = false := by simpa using h
      rcases find_spec n kvs l (i + 1) (by simpa using hl) (fun j kv e a b => hk (j + 1) kv e (by simpa using a) (by simpa using b)) with ⟨a, b, c⟩ | ⟨j, kv', e', a, b, c, d, f, g⟩
      · refine .inl ⟨by simp [Instr.findNow, hs, h1, a], by simp [getM, h2, b], fun x => by simp [putM, h2, c]⟩
      · refine .inr ⟨j + 1, kv', e', ?_, by simpa using b, by simpa using c, d, by simp [getM, h2, f], fun x => by simp [putM, h2, g]⟩
        simp [Instr.findNow, hs, h1, a]; omega

theorem ran_makeMap (hM : Mem E w K m H free) (hn : free nm) {t : TypeId} (ho : o.op = .makeMap t none) (he : opE P C ρA H nm o = some e) : Ran P E ρ o w K m H free nm e := by
  simp only [opE, ho, makeMapE, Option.map_eq_some_iff] at he
  obtain ⟨p, hp, rfl⟩ := he
  obtain ⟨h1, h2⟩ := hM.newO hn (.map #[] 0) (.mp .int p.2 []) (fun w' m' H' e' hm hw => ⟨w.heap.size, #[], 0, hm, hw, rfl, fun i kv x hx _ => by simp at hx⟩)
  refine ⟨_, .map (some w.heap.size), _, _, _, ?_, .inl rfl, ?_, h1, h2⟩
  · simp only [execOp, ho]
    exact run_v (by simp [Instr.makeMap])
  · exact .mp _ _ (upd_self _ _ _)

theorem rel_mp {l : Nat} {v : Value} (h : Rel w K m H (.mp l) v) : ∃ b, v = .map (some b) ∧ m l = some (some b) := by
  cases h with
  | mp _ b h => exact ⟨b, rfl, h⟩
theorem keys_of {tv : Ty} {kvs : List (Int × tv.ty)} {es : Array MapEntry} (hr : ∀ (i : Nat) (kv : Int × tv.ty) e, kvs[i]? = some kv → es[i]? = some e → RelT w K (AV.ofTy .int kv.1) e.key ∧ RelT w K (AV.ofTy tv kv.2) e.val) :
    ∀ (j : Nat) (kv : Int × tv.ty) e, kvs[j]? = some kv → es.toList[j]? = some e → e.key = .int .i64 kv.1 := fun j kv e hk he => by
  have := (hr j kv e hk (by simpa using he)).1
  exact val_rel this

theorem ran_lookup (hM : Mem E w K m H free) (hρ : ∀ x, Rel w K m H (ρA x) (ρ x)) {t : TypeId} {x ix : Operand} {ok : Bool} (ho : o.op = .lookup t x ix ok) (he : opE P C ρA H nm o = some e) : Ran P E ρ o w K m H free nm e := by
  simp only [opE, ho, lookE, Option.bind_eq_some_iff] at he
  obtain ⟨p, hp, he⟩ := he
  obtain ⟨k, hu, hk, hz⟩ := mapOf_some hp
  split at he
  · rename_i l n hx hix
    split at he
    · rename_i tv kvs hg
      split at he
      · rename_i htv
        subst htv
        cases he
        have rx := hρ x
        have ri := hρ ix
        rw [hx] at rx; rw [hix] at ri
        obtain ⟨b, ex, hm⟩ := rel_mp rx
        have ei := val_rel ri
        obtain ⟨b', es, c, hm', hw, hs, hr⟩ := hM.heap l _ hg
        rw [hm] at hm'; cases hm'
        have hck : (Instr.checkKey es.isEmpty 10000 k (.int .i64 n)).run P w = .ok () w := MapKept.run_checkKey (k := .int .i64 n) hk (by simp [MapKept.IsKey]) _ 9999
        have fin : ∀ (y : p.2.ty) (b : Bool) (v : Value), (∀ i : Value, i = .int .i64 n → ∃ u, (Instr.lookup t (ρ x) i ok).run P w = .ok u w ∧ u = if ok then .tuple #[v, .bool b] else v) → RelT w K (AV.ofTy p.2 y) v →
            Ran P E ρ o w K m H free nm ⟨bif ok then .tup [AV.ofTy p.2 y, .ofV (.bool b)] else AV.ofTy p.2 y, True, [l], []⟩ := fun y b v hrun hv => by
          obtain ⟨u, hu1, hu2⟩ := hrun _ ei
          refine Ran.same hM (u := u) ?_ ?_
          · simp only [execOp, ho]
            exact run_v hu1
          · rw [hu2]
            cases ok
            · exact rel_bare hv
            · refine .tup _ _ rfl (fun i a u ha hu => ?_)
              match i with
              | 0 => cases ha; cases hu; exact rel_bare hv
              | 1 => cases ha; cases hu; exact .d _ _ (.v _)
              | i + 2 => simp at ha
        rcases find_spec n kvs es.toList 0 (by simpa using hs) (keys_of hr) with ⟨f1, f2, _⟩ | ⟨j, kv, en, f1, f2, f3, _, f5, _⟩
        · rw [f2]
          obtain ⟨z, z1, z2⟩ := zeroV_run hz w K
          refine fin p.2.dflt false z (fun i hi => ⟨_, ?_, rfl⟩) z2
          subst hi
          simp [Instr.lookup, run_underlying hu, ex, MapKept.run_getObj_map hw, hck, MapKept.run_findKey hk f1, z1, Result.andThen]
        · rw [f5]
          refine fin kv.2 true en.val (fun i hi => ⟨_, ?_, rfl⟩) (hr j kv en f3 (by simpa using f2)).2
          subst hi
          simp [Instr.lookup, run_underlying hu, ex, MapKept.run_getObj_map hw, hck, MapKept.run_findKey hk f1, Result.andThen]
      · cases he
    · cases he
  · cases he

theorem ran_mapSet (hM : Mem E w K m H free) (hρ : ∀ x, Rel w K m H (ρA x) (ρ x)) {t : TypeId} {x ix v : Operand} (ho : o.op = .mapUpdate t x ix v ∨ o.op = .insert t x ix v) (he : mapSetE P C H t (ρA x) (ρA ix) (ρA v) = some e) (hn : e.need) : Ran P E ρ o w K m H free nm e := by
  simp only [mapSetE, Option.bind_eq_some_iff] at he
  obtain ⟨p, hp, he⟩ := he
  obtain ⟨k, hu, hk, hz⟩ := mapOf_some hp
  split at he
  · rename_i l n hx hix
    split at he
    · rename_i tv kvs hg
      split at he
      · rename_i htv
        subst htv
        obtain ⟨⟨y, q, fz⟩, hq, he⟩ := Option.bind_eq_some_iff.1 he
        simp only at he
        cases hf : fz.isEmpty
        · rw [hf] at he; cases he
        rw [hf] at he
        cases he
        have hfz : fz = [] := by simpa using hf
        subst hfz
        have rx := hρ x
        have ri := hρ ix
        rw [hx] at rx; rw [hix] at ri
        obtain ⟨b, ex, hm⟩ := rel_mp rx
        have ei := val_rel ri
        obtain ⟨ry, _⟩ := toTy_rel hM hq hn (hρ v)
        have ry : RelT w K (AV.ofTy p.2 y) (ρ v) := ry.ext ⟨fun b hb => hb.elim id (fun ⟨l, hl, _⟩ => by simp at hl), fun _ _ => rfl, fun _ _ h => h, fun _ _ h => h, fun l T t xs hm => absurd rfl hm⟩
        obtain ⟨b', es, c, hm', hw, hs, hr⟩ := hM.heap l _ hg
        rw [hm] at hm'; cases hm'
        have hck : (Instr.checkKey false 10000 k (.int .i64 n)).run P w = .ok () w := MapKept.run_checkKey (k := .int .i64 n) hk (by simp [MapKept.IsKey]) _ 9999
        have fin : ∀ (es' : Array MapEntry) (c' : Nat), (Instr.mapUpdate t (ρ x) (ρ ix) (ρ v)).run P w = .ok () { w with heap := w.heap.setIfInBounds b (.map es' c') } → es'.size = (putM n y kvs).length →
            (∀ (i : Nat) (kv : Int × p.2.ty) e, (putM n y kvs)[i]? = some kv → es'[i]? = some e → RelT w K (AV.ofTy .int kv.1) e.key ∧ RelT w K (AV.ofTy p.2 kv.2) e.val) →
            Ran P E ρ o w K m H free nm ⟨.dead, q, [l], [(l, some (.mp .int p.2 (putM n y kvs)))]⟩ := fun es' c' hrun hsz hrel => by
          have hlt : b < w.heap.size := by
            rcases Nat.lt_or_ge b w.heap.size with h | h
            · exact h
            · rw [Array.getElem?_eq_none h] at hw; cases hw
          have hnew : ({ w with heap := w.heap.setIfInBounds b (.map es' c') } : World).heap[b]? = some (.map es' c') := by simp [hlt]
          obtain ⟨M, ee⟩ := hM.writeO (w' := { w with heap := w.heap.setIfInBounds b (.map es' c') }) (blk := .mp .int p.2 (putM n y kvs)) hg hm (by unfold World.shape?; rw [hw, hnew]) (fun i hi => by show (w.heap.setIfInBounds b (.map es' c'))[i]? = _; rw [Array.getElem?_setIfInBounds, if_neg (Ne.symm hi)]) ⟨rfl, rfl, rfl, by simp⟩ (fun T t xs h => by cases h)
            (fun H' e' => ⟨b, es', c', hm, hnew, hsz, fun i kv en h1 h2 => ⟨(hrel i kv en h1 h2).1.ext e'.bare, (hrel i kv en h1 h2).2.ext e'.bare⟩⟩)
          refine ⟨.skip, undef, _, K, m, ?_, .inr ⟨rfl, rfl⟩, .dead _, M.weaken (fun _ hl => hl.1), ee⟩
          rcases ho with ho | ho <;> (simp only [execOp, ho]; exact run_u hrun)
        rcases find_spec n kvs es.toList 0 (by simpa using hs) (keys_of hr) with ⟨f1, _, f3⟩ | ⟨j, kv, en, f1, f2, f3, f4, _, f6⟩
        · refine fin (es.push { key := .int .i64 n, val := ρ v, born := c }) (c + 1) ?_ (by rw [f3]; simpa using hs) (fun i kv e hi h2 => ?_)
          · rw [ex, ei]
            simp [Instr.mapUpdate, run_underlying hu, MapKept.run_getObj_map hw, hck, MapKept.run_findKey hk f1, MapKept.run_setObj_map _ hw, Result.andThen]
          · rw [f3] at hi
            rw [List.getElem?_append] at hi
            rw [Array.getElem?_push] at h2
            by_cases hlt : i < kvs.length
            · rw [if_pos hlt] at hi
              rw [if_neg (by omega)] at h2
              exact hr i kv e hi h2
            · rw [if_neg hlt] at hi
              have hi0 : i = es.size := by
                have := (List.getElem?_eq_some_iff.1 hi).1
                simp only [List.length_cons, List.length_nil] at this; omega
              rw [if_pos hi0] at h2
              have hii : i - kvs.length = 0 := by omega
              rw [hii] at hi
              cases hi; cases h2
              exact ⟨.d _ _ (.v _), ry⟩
        · have hen : en.key = .int .i64 n := by rw [keys_of hr j kv en f3 f2, f4]
          have hjl : j < es.size := by have := (List.getElem?_eq_some_iff.1 f2).1; simpa using this
          have hej : es[j]? = some en := by simpa using f2
          refine fin (es.modify (0 + j) fun e => { e with key := .int .i64 n, val := ρ v }) c ?_ (by rw [f6]; simpa using hs) (fun i kv' e hi h2 => ?_)
          · rw [ex, ei]
            have hks : (Instr.keyThatStays (.int .i64 n) (.int .i64 n)).run P w = .ok (.int .i64 n) w := MapKept.run_keyThatStays (d := .int .i64) (by simp [MapKept.IsKey])
            have hkk : ((es[0 + j]?).map (·.key)).getD (.int .i64 n) = .int .i64 n := by rw [Nat.zero_add, hej]; exact hen
            simp only [Instr.mapUpdate, Sem.run_bind, run_underlying hu, Result.andThen_ok, MapKept.run_getObj_map hw, hck, MapKept.run_findKey hk f1, hkk, hks, MapKept.run_setObj_map _ hw]
          · rw [f6, List.getElem?_set] at hi
            rw [Nat.zero_add, Array.getElem?_modify] at h2
            by_cases hij : j = i
            · subst hij
              rw [if_pos rfl] at hi h2
              split at hi
              · cases hi
                rw [hej] at h2
                cases h2
                exact ⟨.d _ _ (.v _), ry⟩
              · cases hi
            · rw [if_neg hij] at hi h2
              exact hr i kv' e hi h2
      · cases he
    · cases he
  · cases he
end Go.VL

/-
  The value layer, part 14: append, the least, the greatest; every operation together. (Own work.)
-/
namespace Go.VL

variable {P : Program} {C : Codes} {E : Entry} {w : World} {K : Nat → Prop} {m : Nat → Option (Option Nat)} {H : Heap} {free : Nat → Prop} {nm : Nat} {o : Oper}
  {ρ : Operand → Value} {ρA : Operand → AV} {e : Eff}

theorem exec_builtin {b : Builtin} {args : Array Operand} {ts : Array TypeId} (ho : o.op = .call { callee := .builtin b, args := args, argTypes := ts }) {nx : Next} {w' : World}
    (h : ∀ cs, (builtin b ts o.type cs (args.map ρ)).run P w = .ok nx w') : (execOp ρ o).run P w = .ok nx w' := by
  simp only [execOp, ho, resolve, Sem.run_bind, Sem.run_pure, Result.andThen_ok, invoke]
  exact h _

theorem ran_min (hM : Mem E w K m H free) (hρ : ∀ x, Rel w K m H (ρA x) (ρ x)) {args : Array Operand} {ts : Array TypeId} (ho : o.op = .call { callee := .builtin .min, args := args, argTypes := ts }) (he : opE P C ρA H nm o = some e) :
    Ran P E ρ o w K m H free nm e := by
  simp only [opE, ho, Option.bind_eq_some_iff] at he
  obtain ⟨v, hv, he⟩ := he
  cases hl : args.toList with
  | nil => rw [hl] at hv; simp [minE] at hv
  | cons x l =>
    cases l with
    | nil => rw [hl] at hv; simp [minE] at hv
    | cons y l =>
      cases l with
      | cons z l => rw [hl] at hv; simp [minE] at hv
      | nil =>
        rw [hl] at hv
        have haa : args = #[x, y] := by rw [← Array.toArray_toList (xs := args), hl]
        subst haa
        simp only [List.map_cons, List.map_nil] at hv
        unfold minE at hv
        split at hv
        · rename_i k a k' b hab
          simp only [List.cons.injEq, and_true] at hab
          simp only [Option.some.injEq] at hv; subst hv
          have hx := hρ x; have hy := hρ y
          rw [hab.1] at hx; rw [hab.2] at hy
          have ex := val_rel hx; have ey := val_rel hy
          refine eff_same he hM (u := .int k (if b < a then b else a)) (exec_builtin ho fun cs => ?_) (.d _ _ (.v _))
          simp [builtin, Builtin.min_, Builtin.min2, ex, ey]
        · cases hv

theorem ran_max (hM : Mem E w K m H free) (hρ : ∀ x, Rel w K m H (ρA x) (ρ x)) {args : Array Operand} {ts : Array TypeId} (ho : o.op = .call { callee := .builtin .max, args := args, argTypes := ts }) (he : opE P C ρA H nm o = some e) :
    Ran P E ρ o w K m H free nm e := by
  simp only [opE, ho, Option.bind_eq_some_iff] at he
  obtain ⟨v, hv, he⟩ := he
  cases hl : args.toList with
  | nil => rw [hl] at hv; simp [maxE] at hv
  | cons x l =>
    cases l with
    | nil => rw [hl] at hv; simp [maxE] at hv
    | cons y l =>
      cases l with
      | cons z l => rw [hl] at hv; simp [maxE] at hv
      | nil =>
        rw [hl] at hv
        have haa : args = #[x, y] := by rw [← Array.toArray_toList (xs := args), hl]
        subst haa
        simp only [List.map_cons, List.map_nil] at hv
        unfold maxE at hv
        split at hv
        · rename_i k a k' b hab
          simp only [List.cons.injEq, and_true] at hab
          simp only [Option.some.injEq] at hv; subst hv
          have hx := hρ x; have hy := hρ y
          rw [hab.1] at hx; rw [hab.2] at hy
          have ex := val_rel hx; have ey := val_rel hy
          refine eff_same he hM (u := .int k (if b > a then b else a)) (exec_builtin ho fun cs => ?_) (.d _ _ (.v _))
          simp [builtin, Builtin.max_, Builtin.max2, ex, ey]
        · cases hv

theorem appOut_cells {t : Ty} {xs ys : List t.ty} {olds news : List Value} {cs : Array Value} {n m' : Nat} (hn : n = xs.length) (hm : m' = ys.length) (hol : olds.length = n * t.size) (hnl : news.length = m' * t.size)
    (ho : ∀ i x j d, xs[i]? = some x → (enc t x)[j]? = some d → ∃ v, olds[i * t.size + j]? = some v ∧ RelD w K d v) (hnw : ∀ i x j d, ys[i]? = some x → (enc t x)[j]? = some d → ∃ v, news[i * t.size + j]? = some v ∧ RelD w K d v)
    (hv : ∀ k, k < (n + m') * t.size → cs[k]? = (olds ++ news)[k]?) : RowIs w K t (xs ++ ys) cs := by
  intro i x j d hx hd
  have hj : j < t.size := by have := (List.getElem?_eq_some_iff.1 hd).1; rw [enc_length] at this; exact this
  have hi : i < n + m' := by have := (List.getElem?_eq_some_iff.1 hx).1; simp at this; omega
  have hlt : i * t.size + j < (n + m') * t.size := by
    calc i * t.size + j < i * t.size + t.size := by omega
      _ = (i + 1) * t.size := by rw [Nat.add_mul, Nat.one_mul]
      _ ≤ (n + m') * t.size := Nat.mul_le_mul_right _ hi
  rw [hv _ hlt]
  rw [List.getElem?_append] at hx
  split at hx
  · rename_i hlt'
    obtain ⟨v, hv', hr⟩ := ho i x j d hx hd
    refine ⟨v, ?_, hr⟩
    rw [List.getElem?_append_left (List.getElem?_eq_some_iff.1 hv').1]
    exact hv'
  · rename_i hge
    obtain ⟨v, hv', hr⟩ := hnw (i - xs.length) x j d hx hd
    refine ⟨v, ?_, hr⟩
    have hle : n * t.size ≤ i * t.size := Nat.mul_le_mul_right _ (by omega)
    rw [List.getElem?_append_right (by omega), hol, ← hv', ← hn, Nat.sub_mul]
    congr 1; omega

/-- The source of an append: its values. -/
theorem src_values {t : Ty} {s : List t.ty} {rd : List Nat} {a : Option Addr} {n cap : Nat} (h : SlRel w K m H rd t s a n cap) :
    ∃ news : List Value, news.length = n * t.size ∧ (∀ v ∈ news, v.oneCell' = true) ∧ ((a = none ∧ n = 0) ∨ ∃ ad, a = some ad ∧ ∀ j v, news[j]? = some v → w.cell? (ad.add j) = some v) ∧
      ∀ i x j d, s[i]? = some x → (enc t x)[j]? = some d → ∃ v, news[i * t.size + j]? = some v ∧ RelD w K d v := by
  by_cases hs : s = []
  · subst hs
    have hn : n = 0 := by rw [h.len]; rfl
    subst hn
    refine ⟨[], by simp, fun v hv => by simp at hv, ?_, fun i x j d hx => by simp at hx⟩
    cases a with
    | none => exact .inl ⟨rfl, rfl⟩
    | some ad => exact .inr ⟨ad, rfl, fun j v hj => by simp at hj⟩
  · obtain ⟨b, off, rfl, _, hr⟩ := h.addr hs
    obtain ⟨vs, h1, h2, h3, h4⟩ := hr.values
    exact ⟨vs, by rw [h1, h.len], h3, .inr ⟨_, rfl, h2⟩, h4⟩


theorem fin_new (hM : Mem E w K m H free) (hfr : free nm) {H0 : Heap} (hM0 : Mem E w K m H0 free) (hE0 : Ext w K m H w K m H0) {el : TypeId} {te : Ty} {zs : List te.ty} {cs : Array Value} {n' cap' : Nat}
    (hrow : RowIs w K te zs cs) (hn : n' = zs.length) (hc : n' ≤ cap') (hcap : cap' * te.size ≤ cs.size) :
    ∃ m', Rel (w.drew.alloc (.cells cs el)) K m' (H0.put nm (some (.row el te zs))) (.own nm te) (.slice (some ⟨w.heap.size, 0, none⟩) n' cap') ∧
      Mem E (w.drew.alloc (.cells cs el)) K m' (H0.put nm (some (.row el te zs))) (fun l => free l ∧ l ≠ nm) ∧ Ext w K m H (w.drew.alloc (.cells cs el)) K m' (H0.put nm (some (.row el te zs))) := by
  have hsz : zs.length * te.size ≤ cs.size := by rw [← hn]; exact Nat.le_trans (Nat.mul_le_mul_right _ hc) hcap
  obtain ⟨g1, e1⟩ := hM0.drew.new hfr cs el (.row el te zs) (fun w' m' H' e' hm hw => .inr ⟨w.heap.size, cs, hm, hw, hsz, fun i x j d hx hd => by
    obtain ⟨v, hv, hr⟩ := hrow i x j d hx hd
    exact ⟨v, hv, (RelD.ext (w := w) (w' := w.drew) (K' := K) (fun _ h => h) (fun _ _ => rfl) hr).ext e'.hK e'.keep⟩⟩)
  refine ⟨_, .own _ _ _ _ _ (upd_self _ _ _) (fun T ys hy => ?_) hc ⟨el, cs.size, ?_, hcap⟩, g1, hE0.trans ((Ext.drew w K m H0).trans e1)⟩
  · rw [Heap.get_put_self] at hy; cases hy; exact hn
  · have hh := heap_new w.drew (.cells cs el)
    unfold World.shape?
    show (match (w.drew.alloc (.cells cs el)).heap[w.drew.heap.size]? with | some (.cells c elem _) => some (elem, c.size) | _ => none) = _
    rw [hh]

theorem app_zero (w : World) (t ty e : TypeId) (i : TypeInfo) (ht : P.underlying t = some (.slice e)) (hi : P.info? e = some i) (a a1 : Option Addr) (c : Nat) :
    (Builtin.append_ #[t, t] ty #[.slice a 0 0, .slice a1 0 c]).run P w = .ok (.slice a 0 0) w := by
  cases a <;> cases a1 <;> simp [Builtin.append_, run_underlying ht, sizeOf, typeInfo, hi, Builtin.lenOf, Builtin.firstCells, storeCells, loadCells, loadCellsFrom] <;> rfl

theorem ran_append (hM : Mem E w K m H free) (hfr : free nm) (hρ : ∀ x, Rel w K m H (ρA x) (ρ x)) {args : Array Operand} {ts : Array TypeId} (ho : o.op = .call { callee := .builtin .append, args := args, argTypes := ts })
    (he : opE P C ρA H nm o = some e) (hn : e.need) : Ran P E ρ o w K m H free nm e := by
  simp only [opE, ho] at he
  split at he
  · rename_i t t2 x y hts hargs
    have hta : ts = #[t, t2] := by rw [← Array.toArray_toList (xs := ts), hts]
    have haa : args = #[x, y] := by rw [← Array.toArray_toList (xs := args), hargs]
    subst hta; subst haa
    cases htt : (t == t2)
    · simp [htt] at he
    · simp only [htt, cond_true, Option.bind_eq_some_iff] at he
      have htt : t = t2 := by simpa using htt
      subst htt
      obtain ⟨el, hel, te, hte, inf, hinf, he⟩ := he
      have hu := elemOf_run hel
      cases hb : (inf.size == te.size && hasZero P el te)
      · simp [hb] at he
      · simp only [hb, cond_true, Option.bind_eq_some_iff] at he
        simp only [Bool.and_eq_true, beq_iff_eq] at hb
        obtain ⟨hsz, hz⟩ := hb
        obtain ⟨z, hz1, hz2⟩ : ∃ z, inf.zero = some z ∧ z.cells.size = inf.size := by
          unfold hasZero at hz
          rw [hinf] at hz
          simp only at hz
          split at hz
          · exact ⟨_, ‹_›, by rw [hsz]; simpa using hz⟩
          · cases hz
        obtain ⟨s, hs, he⟩ := he
        have hr := hρ x
        -- the run, out of what base and source are
        have run : ∀ {a0 : Option Addr} {n cap : Nat} {olds : List Value}, s.need → ρ x = .slice a0 n cap → olds.length = n * te.size →
            ((n = 0 ∧ cap = 0) ∨ ∃ b cs, a0 = some ⟨b, 0, none⟩ ∧ n ≤ cap ∧ w.heap[b]? = some (.cells cs el (0, 0)) ∧ cap * te.size ≤ cs.size ∧ ∀ k, k < n * te.size → cs[k]? = olds[k]?) →
            (n + s.xs.length) * (inf.bytes + 1) ≤ 35184372088832 →
            ∃ v w' news, (execOp ρ o).run P w = .ok (.value v) w' ∧ AppOut w el te.size a0 n s.xs.length cap olds news v w' ∧ news.length = s.xs.length * te.size ∧
              ∀ i x j d, s.xs[i]? = some x → (enc te x)[j]? = some d → ∃ v, news[i * te.size + j]? = some v ∧ RelD w K d v := by
          intro a0 n cap olds hneed hx hol hbase hbytes
          obtain ⟨a1, m1, c1, hy, hsl⟩ := sls_rel hM hs hneed (hρ y)
          obtain ⟨news, hnl, hone, hsrc, hnews⟩ := src_values hsl
          have hm1 := hsl.len
          subst hm1
          obtain ⟨v, w', hrun, hout⟩ := app_any (P := P) w t o.type el inf z hu hinf hz1 hz2 a0 n cap olds (by rw [hsz]; exact hol) (by rw [hsz]; exact hbase) a1 s.xs.length c1 news (by rw [hsz]; exact hnl) hone hsrc hbytes
          rw [hsz] at hout
          refine ⟨v, w', news, exec_builtin ho (fun cs => ?_), hout, hnl, hnews⟩
          simp [builtin, hx, hy, hrun]
        -- a base that is owned
        have ownb : ∀ {l b n cap : Nat} {xs : List te.ty}, H.get l = some (.row el te xs) → m l = some (some b) → ρ x = .slice (some ⟨b, 0, none⟩) n cap → n ≤ xs.length → n ≤ cap → (∃ T sz, w.shape? b = some (T, sz) ∧ cap * te.size ≤ sz) →
            (n + s.xs.length) * (inf.bytes + 1) ≤ 35184372088832 → s.need → ∀ {v' : AV} {p : Prop} {rd : List Nat}, v' = .own nm te → Ran P E ρ o w K m H free nm ⟨v', p, rd, [(l, none), (nm, some (.row el te (xs.take n ++ s.xs)))]⟩ := by
          intro l b n cap xs hg hm hgv hnx hcap hss hbytes hneed v' p rd hv'
          subst hv'
          have hM0 := hM.del l
          have happ : H.app [(l, none), (nm, some (ABlk.row el te (xs.take n ++ s.xs)))] = (H.put l none).put nm (some (.row el te (xs.take n ++ s.xs))) := rfl
          have hnl' : (xs.take n).length = n := by simp; omega
          rcases hM.heap l _ hg with ⟨hm', _⟩ | ⟨b', cs, hm', hw, hsize, hrel⟩
          · rw [hm] at hm'; cases hm'
          rw [hm] at hm'; cases hm'
          obtain ⟨T', sz', hsh, hsl'⟩ := hss
          have hsz' : sz' = cs.size := by unfold World.shape? at hsh; rw [hw] at hsh; simp only [Option.some.injEq, Prod.mk.injEq] at hsh; exact hsh.2.symm
          subst hsz'
          have hnsz : n * te.size ≤ cs.size := Nat.le_trans (Nat.mul_le_mul_right _ hcap) hsl'
          have holds : (cs.toList.take (n * te.size)).length = n * te.size := by simp; omega
          obtain ⟨v, w', news, hrun, hout, hnl, hnews⟩ := run (olds := cs.toList.take (n * te.size)) hneed hgv holds (.inr ⟨b, cs, rfl, hcap, hw, hsl', fun k hk => by rw [List.getElem?_take, if_pos hk]; simp⟩) hbytes
          have hold : ∀ i x j d, (xs.take n)[i]? = some x → (enc te x)[j]? = some d → ∃ v, (cs.toList.take (n * te.size))[i * te.size + j]? = some v ∧ RelD w K d v := by
            intro i x j d hx hd
            rw [List.getElem?_take] at hx
            split at hx
            · rename_i hin
              obtain ⟨v, hv, hr⟩ := hrel i x j d hx hd
              have hj : j < te.size := by have := (List.getElem?_eq_some_iff.1 hd).1; rw [enc_length] at this; exact this
              have hlt : i * te.size + j < n * te.size := by
                calc i * te.size + j < i * te.size + te.size := by omega
                  _ = (i + 1) * te.size := by rw [Nat.add_mul, Nat.one_mul]
                  _ ≤ n * te.size := Nat.mul_le_mul_right _ hin
              exact ⟨v, by rw [List.getElem?_take, if_pos hlt]; simpa using hv, hr⟩
            · cases hx
          cases hout with
          | nil h0 hm0 =>
            subst h0
            have hx0 : s.xs = [] := List.eq_nil_of_length_eq_zero (by omega)
            have hn0 : n = 0 := by omega
            obtain ⟨g1, e1⟩ := hM0.nil hfr el te
            have hz : xs.take n ++ s.xs = [] := by rw [hx0, hn0]; rfl
            refine ⟨_, _, w, K, upd m nm none, hrun, .inl rfl, ?_, ?_, ?_⟩
            · exact .own0 _ _ _ (upd_self _ _ _)
            · simp only [hz]; exact g1
            · simp only [hz]; exact (Ext.del w K m H l).trans e1
          | room b2 cs2 cs' w' h0 hp hc hw2 hw' hszz hcap2 hother hsame hv =>
            cases h0
            rw [hw] at hw2; cases hw2
            have hrow := appOut_cells (xs := xs.take n) (ys := s.xs) hnl'.symm rfl holds hnl hold hnews hv
            obtain ⟨g1, e1⟩ := hM.move hg hm hfr hw hw' hszz hother hsame (blk := .row el te (xs.take n ++ s.xs)) (fun m' H' e' hm' => .inr ⟨b, cs', hm', hw', by rw [List.length_append, hnl', hszz]; exact Nat.le_trans (Nat.mul_le_mul_right _ hc) hsl', fun i x j d hx hd => by
              obtain ⟨v, hv, hr⟩ := hrow i x j d hx hd
              exact ⟨v, hv, hr.ext e'.hK e'.keep⟩⟩)
            refine ⟨_, _, _, K, _, hrun, .inl rfl, ?_, by simpa only [happ] using g1, by simpa only [happ] using e1⟩
            simp only [happ]
            refine .own _ _ _ _ _ (upd_self _ _ _) (fun T ys hy => ?_) hc ⟨el, cs'.size, ?_, by rw [hszz]; exact hsl'⟩
            · rw [Heap.get_put_self] at hy; cases hy; rw [List.length_append, hnl']
            · unfold World.shape?; rw [hw']
          | new cap' cs2 hc hcap2 hv =>
            have hrow := appOut_cells (xs := xs.take n) (ys := s.xs) hnl'.symm rfl holds hnl hold hnews hv
            obtain ⟨m', r1, r2, r3⟩ := fin_new hM hfr hM0 (Ext.del w K m H l) (el := el) (zs := xs.take n ++ s.xs) hrow (by simp; omega) hc hcap2
            exact ⟨_, _, _, K, m', hrun, .inl rfl, by simpa only [happ] using r1, by simpa only [happ] using r2, by simpa only [happ] using r3⟩
        split at he
        · -- nil
          rename_i ha
          simp only [Option.some.injEq] at he; subst he
          obtain ⟨hbytes, hneed⟩ := hn
          rw [ha] at hr
          have ex := val_rel hr
          obtain ⟨v, w', news, hrun, hout, hnl, hnews⟩ := run (olds := []) hneed ex (by simp) (.inl ⟨rfl, rfl⟩) (by simpa using hbytes)
          have happ : H.app [(nm, some (ABlk.row el te s.xs))] = H.put nm (some (.row el te s.xs)) := rfl
          cases hout with
          | nil _ hm0 =>
            have hx0 : s.xs = [] := List.eq_nil_of_length_eq_zero (by omega)
            obtain ⟨g1, e1⟩ := hM.nil hfr el te
            refine ⟨_, _, w, K, upd m nm none, hrun, .inl rfl, ?_, ?_, ?_⟩
            · exact .own0 _ _ _ (upd_self _ _ _)
            · simp only [hx0]; exact g1
            · simp only [hx0]; exact e1
          | room b cs cs' w' h0 hp => exact absurd hp (by omega)
          | new cap' cs hc hcap hv =>
            have hrow := appOut_cells (xs := []) (ys := s.xs) (n := 0) (m' := s.xs.length) rfl rfl (by simp) hnl (fun i x j d h => by simp at h) hnews hv
            obtain ⟨m', r1, r2, r3⟩ := fin_new hM hfr hM (Ext.refl w K m H) (el := el) (zs := s.xs) hrow (by simp : 0 + s.xs.length = s.xs.length) hc hcap
            exact ⟨_, _, _, K, m', hrun, .inl rfl, by simpa only [happ] using r1, by simpa only [happ] using r2, by simpa only [happ] using r3⟩
        · -- a row of its own
          rename_i l t' ha
          split at he
          · rename_i ht; subst ht
            split at he
            · rename_i T2 t3 xs hg
              split at he
              · rename_i ht2; subst ht2
                cases hT : (T2 == el)
                · simp [hT] at he
                · simp only [hT, cond_true, Option.some.injEq] at he
                  have hT : T2 = el := by simpa using hT
                  subst hT
                  subst he
                  obtain ⟨hbytes, hneed⟩ := hn
                  rw [ha] at hr
                  have hM0 := hM.del l
                  have happ : H.app [(l, none), (nm, some (ABlk.row T2 t3 (xs ++ s.xs)))] = (H.put l none).put nm (some (.row T2 t3 (xs ++ s.xs))) := rfl
                  generalize hgv : ρ x = ra at hr
                  cases hr with
                  | own0 _ _ a0 hm =>
                    have hx0 : xs = [] := by
                      rcases hM.heap l _ hg with ⟨_, hx⟩ | ⟨b', cs, hm', _⟩
                      · exact hx
                      · rw [hm] at hm'; cases hm'
                    subst hx0
                    obtain ⟨v, w', news, hrun, hout, hnl, hnews⟩ := run (olds := []) hneed hgv (by simp) (.inl ⟨rfl, rfl⟩) (by simpa using hbytes)
                    cases hout with
                    | nil _ hm0 =>
                      have hx0 : s.xs = [] := List.eq_nil_of_length_eq_zero (by omega)
                      obtain ⟨g1, e1⟩ := hM0.nil hfr T2 t3
                      refine ⟨_, _, w, K, upd m nm none, hrun, .inl rfl, ?_, ?_, ?_⟩
                      · exact .own0 _ _ _ (upd_self _ _ _)
                      · simp only [hx0]; exact g1
                      · simp only [hx0]; exact (Ext.del w K m H l).trans e1
                    | room b cs cs' w' h0 hp => exact absurd hp (by omega)
                    | new cap' cs hc hcap hv =>
                      have hrow := appOut_cells (xs := []) (ys := s.xs) (n := 0) (m' := s.xs.length) rfl rfl (by simp) hnl (fun i x j d h => by simp at h) hnews hv
                      obtain ⟨m', r1, r2, r3⟩ := fin_new hM hfr hM0 (Ext.del w K m H l) (el := T2) (zs := [] ++ s.xs) hrow (by simp : 0 + s.xs.length = ([] ++ s.xs).length) hc hcap
                      exact ⟨_, _, _, K, m', hrun, .inl rfl, by simpa only [happ] using r1, by simpa only [happ] using r2, by simpa only [happ] using r3⟩
                  | own _ _ b n cap hm hlen hcap hss =>
                    have hlen := hlen T2 xs hg
                    have := ownb hg hm hgv (by omega) hcap hss (by rw [hlen]; exact hbytes) hneed (v' := .own nm t3) (p := ((xs.length + s.xs.length) * (inf.bytes + 1) ≤ 35184372088832) ∧ s.need) (rd := nm :: l :: s.rd) rfl
                    rw [hlen, List.take_length] at this
                    exact this
              · cases he
            · cases he
          · cases he
        · -- a part of a row of its own
          rename_i l t' off len ha
          split at he
          · rename_i ht; subst ht
            split at he
            · rename_i T2 t3 xs hg
              split at he
              · rename_i ht2; subst ht2
                cases hT : (T2 == el)
                · simp [hT] at he
                · simp only [hT, cond_true, Option.some.injEq] at he
                  have hT : T2 = el := by simpa using hT
                  subst hT
                  subst he
                  obtain ⟨⟨hoff, hlx, hbytes⟩, hneed⟩ := hn
                  subst hoff
                  rw [ha] at hr
                  have hM0 := hM.del l
                  generalize hgv : ρ x = ra at hr
                  cases hr with
                  | view0 _ _ _ a0 =>
                    have happ : H.app [(l, none), (nm, some (ABlk.row T2 t3 (xs.take 0 ++ s.xs)))] = (H.put l none).put nm (some (.row T2 t3 (xs.take 0 ++ s.xs))) := rfl
                    obtain ⟨v, w', news, hrun, hout, hnl, hnews⟩ := run (olds := []) hneed hgv (by simp) (.inl ⟨rfl, rfl⟩) (by simpa using hbytes)
                    cases hout with
                    | nil _ hm0 =>
                      have hx0 : s.xs = [] := List.eq_nil_of_length_eq_zero (by omega)
                      obtain ⟨g1, e1⟩ := hM0.nil hfr T2 t3
                      refine ⟨_, _, w, K, upd m nm none, hrun, .inl rfl, ?_, ?_, ?_⟩
                      · exact .own0 _ _ _ (upd_self _ _ _)
                      · simp only [hx0]; exact g1
                      · simp only [hx0]; exact (Ext.del w K m H l).trans e1
                    | room b cs cs' w' h0 hp => exact absurd hp (by omega)
                    | new cap' cs hc hcap hv =>
                      have hrow := appOut_cells (xs := []) (ys := s.xs) (n := 0) (m' := s.xs.length) rfl rfl (by simp) hnl (fun i x j d h => by simp at h) hnews hv
                      obtain ⟨m', r1, r2, r3⟩ := fin_new hM hfr hM0 (Ext.del w K m H l) (el := T2) (zs := xs.take 0 ++ s.xs) (by simpa using hrow) (by simp : 0 + s.xs.length = (xs.take 0 ++ s.xs).length) hc hcap
                      exact ⟨_, _, _, K, m', hrun, .inl rfl, by simpa only [happ] using r1, by simpa only [happ] using r2, by simpa only [happ] using r3⟩
                  | view _ _ b _ _ cap hm hcap hss =>
                    rw [Nat.zero_mul] at hgv
                    rw [Nat.zero_add] at hss
                    exact ownb hg hm hgv hlx hcap hss hbytes hneed rfl
              · cases he
            · cases he
          · cases he
        · -- a list that nobody writes to, and that is full
          rename_i t' xs ha
          split at he
          · rename_i ht; subst ht
            simp only [Option.some.injEq] at he; subst he
            obtain ⟨⟨hbytes, hpos0⟩, hneed⟩ := hn
            rw [ha] at hr
            generalize hgv : ρ x = ra at hr
            cases hr with
            | fl _ _ a n hrd =>
            have happ : H.app [(nm, some (ABlk.row el t' (xs ++ s.xs)))] = H.put nm (some (.row el t' (xs ++ s.xs))) := rfl
            obtain ⟨ad, n', cap', hv', hsl'⟩ := asSl_rel (m := m) (H := H) (d := .sl t' xs) (t := t') (xs := xs) (by simp [D.asSl]) hrd
            cases hv'
            obtain ⟨olds, hol, _, holdsrc, holds⟩ := src_values hsl'
            have hnl0 := hsl'.len
            subst hnl0
            obtain ⟨a1, m1, c1, hy, hsl⟩ := sls_rel hM hs hneed (hρ y)
            obtain ⟨news, hnl, hone, hsrc, hnews⟩ := src_values hsl
            have hm1 := hsl.len
            subst hm1
            by_cases hpos : 0 < s.xs.length
            case neg =>
              have hs0 : s.xs = [] := List.eq_nil_of_length_eq_zero (by omega)
              have hx0 : xs = [] := hpos0.resolve_left hpos
              obtain ⟨g1, g2⟩ := hM.nil hfr el t'
              have e0 : (some (ABlk.row el t' (xs ++ s.xs))) = some (ABlk.row el t' []) := by rw [hs0, hx0]; rfl
              refine ⟨.value (.slice a xs.length xs.length), .slice a xs.length xs.length, w, K, upd m nm none, exec_builtin ho (fun cs => by simp [builtin, hgv, hy, app_zero w t o.type el inf hu hinf a a1 c1, hx0, hs0]), .inl rfl, ?_, ?_, ?_⟩
              · rw [hx0]; exact .own0 _ _ _ (upd_self _ _ _)
              · simp only [happ, e0]; exact g1
              · simp only [happ, e0]; exact g2
            obtain ⟨ad2, hac⟩ : ∃ ad2, a1 = some ad2 := by
              rcases hsrc with ⟨_, h⟩ | ⟨ad2, h, _⟩
              · omega
              · exact ⟨ad2, h⟩
            subst hac
            have hsrc' : ∀ j v, news[j]? = some v → w.cell? (ad2.add j) = some v := by
              rcases hsrc with ⟨h, _⟩ | ⟨ad3, h, h2⟩
              · cases h
              · cases h; exact h2
            obtain ⟨v, w', hrun, hout⟩ := app_grow (P := P) w t o.type el inf z hu hinf hz1 hz2 a xs.length xs.length olds (by rw [hsz]; exact hol) (by
              rcases holdsrc with ⟨_, h⟩ | ⟨ad3, h, h2⟩
              · exact .inl ⟨h, h⟩
              · exact .inr ⟨ad3, h, h2⟩) ad2 s.xs.length c1 news (by rw [hsz]; exact hnl) hsrc' (by omega) hbytes
            rw [hsz] at hout
            have hrun' : (execOp ρ o).run P w = .ok (.value v) w' := exec_builtin ho (fun cs => by simp [builtin, hgv, hy, hrun])
            cases hout with
            | nil h0 hm0 => omega
            | room b cs cs' w' h0 hp hc => omega
            | new cap' cs hc hcap hv =>
              have hrow := appOut_cells (xs := xs) (ys := s.xs) rfl rfl hol hnl holds hnews hv
              obtain ⟨m', r1, r2, r3⟩ := fin_new hM hfr hM (Ext.refl w K m H) (el := el) (zs := xs ++ s.xs) hrow (by simp) hc hcap
              exact ⟨_, _, _, K, m', hrun', .inl rfl, by simpa only [happ] using r1, by simpa only [happ] using r2, by simpa only [happ] using r3⟩
          · cases he
        · cases he
  · cases he


/-- EVERY OPERATION THAT THE LAYER KNOWS DOES WHAT IT SAYS. -/
theorem opE_ran (hM : Mem E w K m H free) (hfr : free nm) (hρ : ∀ x, Rel w K m H (ρA x) (ρ x)) (he : opE P C ρA H nm o = some e) (hn : e.need) : Ran P E ρ o w K m H free nm e := by
  cases ho : o.op with
  | move x => exact ran_move hM hρ (x := x) (.inl ho) (by simpa [opE, ho] using he)
  | assign x => exact ran_move hM hρ (x := x) (.inr ho) (by simpa [opE, ho] using he)
  | pick c a b => exact ran_pick hM hρ ho he
  | alloc t => exact ran_alloc hM hfr ho he
  | box t x => exact ran_box hM hfr hρ ho he
  | build t ps => exact ran_build hM hρ ho he
  | buildSlice t n ps => exact ran_buildSlice hM hfr hρ ho he hn
  | load t a => exact ran_load hM hρ ho he hn
  | store t a x => exact ran_store hM hρ ho he hn
  | nilCheck x => exact ran_nilCheck hM hρ ho he
  | binOp op t x y yt => exact ran_binOp hM hρ ho he hn
  | unOp op t x => exact ran_unOp hM hρ ho he
  | convert s t x => exact ran_convert hM hρ ho he hn
  | makeFunc fn fs cs => exact ran_makeFunc hM hρ ho he
  | fieldAddr t x f => exact ran_fieldAddr hM hρ ho he
  | field t x f => exact ran_field hM hρ ho he
  | indexAddr t x i => exact ran_indexAddr hM hρ ho he hn
  | index t x i => exact ran_index hM hρ ho he hn
  | extract x i => exact ran_extract hM hρ ho he
  | slice t x lo hi mx => exact ran_slice hM hρ ho he hn
  | makeMap t r =>
    cases r with
    | none => exact ran_makeMap hM hfr ho he
    | some r => simp [opE, ho] at he
  | lookup t x ix ok => exact ran_lookup hM hρ ho he
  | mapUpdate t x ix v => exact ran_mapSet hM hρ (.inl ho) (by simpa only [opE, ho] using he) hn
  | insert t x ix v => exact ran_mapSet hM hρ (.inr ho) (by simpa only [opE, ho] using he) hn
  | call c =>
    obtain ⟨callee, args, ts⟩ := c
    cases callee with
    | builtin b =>
      cases b with
      | len => exact ran_len hM hρ ho he hn
      | min => exact ran_min hM hρ ho he
      | max => exact ran_max hM hρ ho he
      | append => exact ran_append hM hfr hρ ho he hn
      | clear => exact ran_clear hM hρ ho he hn
      | _ => simp [opE, ho] at he
    | _ => simp [opE, ho] at he
  | _ => simp [opE, ho] at he

end Go.VL

/-
  The value layer, part 15: abstract states, contracts of functions, the abstract machine. (Own work.)
-/
namespace Go.VL

structure AS where
  tmps : List AV
  H : Heap
  next : Nat

/-- A package-level variable that is known. -/
def globA (g : Nat) : AV := match glb.find? fun p => p.1 == g with
  | some p => .ip (p.2.toList.map .v)
  | none => .dead
def AS.ev (s : AS) : Operand → AV
  | .tmp t => s.tmps.getD t .dead
  | .const v => .d (.v v)
  | .func f => .clo (.func f) [] []
  | .global g => globA g

def putT (tmps : List AV) (dst : Option Tmp) (v : AV) : List AV := match dst with
  | some d => tmps.set d v
  | none => tmps

/-- Data with its type. -/
abbrev Arg := (t : Ty) × t.ty

def TyTup : List Ty → Type
  | [] => Unit
  | [t] => t.ty
  | t :: t' :: ts => t.ty × TyTup (t' :: ts)

def avsOf : (ts : List Ty) → TyTup ts → List AV
  | [], _ => []
  | [t], x => [AV.ofTy t x]
  | t :: t' :: ts, x => AV.ofTy t x.1 :: avsOf (t' :: ts) x.2
def ofRes (ts : List Ty) (x : TyTup ts) : AV := match ts, x with
  | [], _ => .tup []
  | [t], x => AV.ofTy t x
  | t :: t' :: ts, x => .tup (avsOf (t :: t' :: ts) x)


/-- THE CONTRACT OF A FUNCTION THAT ONLY COMPUTES. -/
def Pure (P : Program) (f : FuncId) (args : List Arg) (ts : List Ty) (x : TyTup ts) : Prop :=
  ∀ (w : World) (K : Nat → Prop) (vs : Array Value), (∀ b, K b → b < w.heap.size) → GOk w K → vs.size = args.length →
    (∀ (i : Nat) (a : Arg) (v : Value), args[i]? = some a → vs[i]? = some v → RelT w K (AV.ofTy a.1 a.2) v) →
    Calls P f vs w fun e w' => ∃ v K', e = .returned v ∧ RelT w' K' (ofRes ts x) v ∧ (∀ b, K b → K' b) ∧ (∀ b, K' b → K b ∨ w.heap.size ≤ b) ∧ (∀ b, K' b → b < w'.heap.size) ∧ RowKit.Below w.heap.size w w'

/-- A value in a slot, as a datum: what that needs, and the names that are given up for it. -/

def toArgs (H : Heap) : List Ty → List AV → Option (List Arg × Prop × List Nat)
  | [], [] => some ([], True, [])
  | t :: ts, a :: as => (a.toTy H t).bind fun (x, p, fz) => (toArgs H ts as).map fun (xs, q, gz) => (⟨t, x⟩ :: xs, p ∧ q, fz ++ gz)
  | _, _ => none

/-- Does a datum of this type lead to no memory? -/
def Ty.bare : Ty → Bool
  | .int | .u64 | .u8 | .bool | .flt | .str | .span | .place | .rack | .part | .cell | .change | .tip | .numb | .box | .row | .flds | .b5 | .deed | .event | .call | .fault => true
  | _ => false

/-- What a call that changes memory comes to: its results, the memory that it was lent, the count of names. -/
structure GRes where
  res : List AV
  H : Heap
  n : Nat
def tupA : List AV → AV
  | [a] => a
  | l => .tup l

/-- THE CONTRACT OF A FUNCTION THAT CHANGES THE MEMORY IT IS LENT (names below n0), AND MAKES NEW (names from n0 on). -/
def Gc (P : Program) (f : FuncId) (as : List AV) (H0 : Heap) (n0 : Nat) (r : GRes) : Prop :=
  (∀ i T t xs, i < n0 → r.H.get i = some (.row T t xs) → ∃ ys, H0.get i = some (.row T t ys) ∧ ys.length = xs.length) ∧
  ∀ (w : World) (K : Nat → Prop) (m : Nat → Option (Option Nat)) (vs : Array Value), Mem ⟨w, K, m, n0⟩ w K m H0 (fun l => n0 ≤ l) → vs.size = as.length →
    (∀ (i : Nat) (a : AV) (v : Value), as[i]? = some a → vs[i]? = some v → Rel w K m H0 a v) →
    Calls P f vs w fun e w' => ∃ v K' m', e = .returned v ∧ Rel w' K' m' r.H (tupA r.res) v ∧ Mem ⟨w, K, m, n0⟩ w' K' m' r.H (fun l => r.n ≤ l)

/-- THE CONTRACT OF A FUNCTION WITHOUT A BODY. -/
def ExtC (P : Program) (f : FuncId) (as : List AV) (x : AV) : Prop :=
  ∀ (w : World) (K : Nat → Prop) (m : Nat → Option (Option Nat)) (H : Heap) (vs : Array Value), vs.size = as.length → (∀ (i : Nat) (a : AV) (v : Value), as[i]? = some a → vs[i]? = some v → Rel w K m H a v) →
    ∃ u, (callFunc f vs).run P w = .ok (.value u) w ∧ Rel w K m H x u

inductive Sig where
  | pure (ps ts : List Ty)
  | heap (ts : List Ty) (out : List AV → Heap → TyTup ts → GRes)
  | ext (out : List AV → Option AV)
abbrev Sigs := FuncId → Option Sig

inductive Out (α : Type) where
  | fail
  | ret (x : α)
  | need (p : Prop) (k : Out α)
  | callP (f : FuncId) (args : List Arg) (ts : List Ty) (k : TyTup ts → Out α)
  | ask (p : Bool → Prop) (k : Bool → Out α)
  | callG (f : FuncId) (as : List AV) (H0 : Heap) (n0 : Nat) (ts : List Ty) (out : TyTup ts → GRes) (k : TyTup ts → Out α)
  | callX (f : FuncId) (as : List AV) (x : AV) (k : Out α)
  | stop (todo : List Item) (s : AS)

/-- Results as data. -/
def nil1 {β : Type} (as : List AV) (r : β) : Option β := match as with | [] => some r | _ => none
def one1 {β : Type} (as : List AV) (k : AV → Option β) : Option β := match as with | [a] => k a | _ => none
def cons1 {β : Type} (as : List AV) (k : AV → List AV → Option β) : Option β := match as with | a :: as => k a as | _ => none

def toRes (H : Heap) : (ts : List Ty) → List AV → Option (TyTup ts × Prop × List Nat)
  | [] => fun as => nil1 as ((), True, [])
  | [t] => fun as => one1 as fun a => a.toTy H t
  | t :: t' :: ts => fun as => cons1 as fun a as => (a.toTy H t).bind fun (x, p, fz) => (toRes H (t' :: ts) as).map fun (xs, q, gz) => ((x, xs), p ∧ q, fz ++ gz)

/-- Does a call enter this function's body? -/
def entersB (P : Program) (f : FuncId) : Bool := match P.funcs[f]? with
  | some fn => fn.name != "runtime.NumGoroutine" && fn.body.isSome
  | none => false

/-! ### what is live (nothing hangs on it: a slot that is left out is only no longer known) -/
def bitsT (l : List Operand) (m : Nat) : Nat := l.foldl (fun m x => match x with | .tmp t => m ||| (1 <<< t) | _ => m) m
def killB (d : Option Tmp) (m : Nat) : Nat := match d with
  | some t => bif m.testBit t then m - (1 <<< t) else m
  | none => m
def liveOps : List Oper → Nat → Nat
  | [], m => m
  | o :: os, m => bitsT o.op.operands.toList (killB o.dst (liveOps os m))
def lookN (l : List (Nat × Nat)) (k : Nat) : Nat := match l with
  | [] => 0
  | (a, b) :: l => bif a == k then b else lookN l k
def liveC : Code → Nat → List (Nat × Nat) → Nat → Nat
  | .region _ ops _, m, _, _ => liveOps ops.toList m
  | .seq a b, m, ex, r => liveC a (liveC b m ex r) ex r
  | .cond c t e, m, ex, r => bitsT [c] (liveC t m ex r ||| liveC e m ex r)
  | .block id b, m, ex, r => liveC b m ((id, m) :: ex) r
  | .loop b, _, ex, r => liveC b 0 ex r
  | .exit id, _, ex, _ => lookN ex id
  | .rangeFunc g _ a b, m, ex, r => bitsT [g] (m ||| liveC a (liveC b 0 ex r) ex r)
  | .scope b, m, ex, r => liveC b m ex r
  | .ret, _, _, r => r
  | _, m, _, _ => m
/-- What is live at a point of the text, and at the ends of the blocks round it. -/
def liveT (r : Nat) : List Item → Nat × List (Nat × Nat)
  | [] => (r, [])
  | .code c :: k => match liveT r k with | (m, ex) => (liveC c m ex r, ex)
  | .inBlock id :: k => match liveT r k with | (m, ex) => (m, (id, m) :: ex)
  | .inLoop b :: k => match liveT r k with | (_, ex) => (liveC b 0 ex r, ex)
  | .inScope _ :: k => liveT r k
  | _ :: k => liveT r k
def liveR (fn : Func) : Nat := fn.results.toList.foldl (fun m r => match r with | .tmp t => m ||| (1 <<< t) | .cell t _ => m ||| (1 <<< t)) 0

/-! ### the names -/
mutual
def AV.names : AV → List Nat
  | .own l _ => [l]
  | .view l _ _ _ => [l]
  | .ptr l _ => [l]
  | .eptr l _ _ _ => [l]
  | .agg cs => namesL cs
  | .tup cs => namesL cs
  | .clo _ fs cs => namesL fs ++ namesL cs
  | .mp l => [l]
  | _ => []
def namesL : List AV → List Nat
  | [] => []
  | a :: as => a.names ++ namesL as
end
def ABlk.names : ABlk → List Nat
  | .box cells => namesL cells
  | .row .. => []
  | .mp .. => []
def addN (l : List Nat) (x : Nat) : List Nat := bif l.contains x then l else l ++ [x]
def addsN (l xs : List Nat) : List Nat := xs.foldl addN l
/-- All names that lead on from these. -/
def reachN (H : Heap) : Nat → Nat → List Nat → List Nat
  | 0, _, l => l
  | n + 1, i, l => match l[i]? with
    | some x => match H.get x with
      | some b => reachN H n (i + 1) (addsN l b.names)
      | none => reachN H n (i + 1) l
    | none => l

def idxN (l : List Nat) (x : Nat) : Option Nat := match l with
  | [] => none
  | y :: l => bif y == x then some 0 else (idxN l x).map (· + 1)

mutual
def AV.ren (g : Nat → Option Nat) : AV → AV
  | .own l t => match g l with | some i => .own i t | none => .dead
  | .view l t o n => match g l with | some i => .view i t o n | none => .dead
  | .ptr l f => match g l with | some i => .ptr i f | none => .dead
  | .eptr l t i f => match g l with | some k => .eptr k t i f | none => .dead
  | .agg cs => .agg (renL g cs)
  | .tup cs => .tup (renL g cs)
  | .clo f fs cs => .clo f (renL g fs) (renL g cs)
  | .mp l => match g l with | some i => .mp i | none => .dead
  | .d x => .d x
  | .fl t xs => .fl t xs
  | .ip ds => .ip ds
  | .dead => .dead
def renL (g : Nat → Option Nat) : List AV → List AV
  | [] => []
  | a :: as => a.ren g :: renL g as
end
def ABlk.ren (g : Nat → Option Nat) : ABlk → ABlk
  | .box cells => .box (renL g cells)
  | .row T t xs => .row T t xs
  | .mp tk tv kvs => .mp tk tv kvs
def renH (g : Nat → Option Nat) (H : Heap) : List Nat → Nat → Heap
  | [], _ => []
  | l :: ls, i => match H.get l with
    | some b => (i, b.ren g) :: renH g H ls (i + 1)
    | none => renH g H ls (i + 1)
def nodupB : List Nat → Bool
  | [] => true
  | x :: l => !l.contains x && nodupB l
def startB : Nat → List Nat → Bool
  | 0, _ => true
  | n + 1, l => (match l[n]? with | some x => x == n | none => false) && startB n l
def maskT (m : Nat) : Nat → List AV → List AV
  | _, [] => []
  | i, a :: as => (bif m.testBit i then a else .dead) :: maskT m (i + 1) as

/-- The state with its names counted anew. -/
def AS.canon (n0 live : Nat) (s : AS) : AS :=
  let ts := maskT live 0 s.tmps
  let ns := reachN s.H 200 0 (addsN (List.range n0) (namesL ts))
  bif nodupB ns && startB n0 ns then ⟨renL (idxN ns) ts, renH (idxN ns) s.H ns 0, ns.length⟩ else s

def isHead : List Item → Bool
  | .inRegion .. :: _ => false
  | _ => true

section
variable {α : Type}

/-- Operations that need nothing. -/
def trivB (ρ : Operand → AV) (o : Oper) : Bool := match o.op with
  | .move _ | .assign _ | .pick .. | .alloc _ | .box .. | .build .. | .nilCheck _ | .unOp .. | .makeFunc .. | .fieldAddr .. | .field .. | .extract .. | .makeMap .. | .lookup .. => true
  | .convert _ _ x => match ρ x with | .view .. => false | _ => true
  | .load _ a | .store _ a _ => match ρ a with | .ptr .. | .ip .. => true | _ => false
  | .binOp op _ _ _ _ => match op with | .quo | .rem | .shl | .shr => false | _ => true
  | .call { callee := .builtin b, .. } => match b with | .len | .min | .max => true | _ => false
  | _ => false

/-- The Go function that an operation calls, and with what. -/
def callOf (ρ : Operand → AV) (o : Oper) : Option (FuncId × List AV) := match o.op with
  | .call { callee := .value f, args, .. } => match ρ f with
    | .clo (.func g) fs cs => some (g, fs ++ args.toList.map ρ ++ cs)
    | _ => none
  | _ => none

/-- What an operation came to. -/
structure Ef where
  v : AV
  rd : List Nat
  wr : List (Nat × Option ABlk)

/-- The state behind an operation (none: it was skipped). -/
def AS.aft (s : AS) (o : Oper) : Option Ef → AS
  | some e => { s with tmps := putT s.tmps o.dst e.v, H := s.H.app e.wr }
  | none => { s with tmps := putT s.tmps o.dst (.d (.v undef)) }

/-- The callee's names, back in the caller's. -/
def backN (ns : List Nat) (nm n : Nat) (j : Nat) : Option Nat := bif Nat.blt j ns.length then ns[j]? else bif Nat.blt j n then some (nm + (j - ns.length)) else none
def wrG (ns : List Nat) (nm : Nat) (r : GRes) : List (Nat × Option ABlk) :=
  ((List.range ns.length).map fun i => (ns.getD i 0, (r.H.get i).map (ABlk.ren (backN ns nm r.n)))) ++
    (List.range (r.n - ns.length)).map fun j => (nm + j, (r.H.get (ns.length + j)).map (ABlk.ren (backN ns nm r.n)))
def efG (ns : List Nat) (nm : Nat) (r : GRes) : Ef := ⟨(tupA r.res).ren (backN ns nm r.n), ns, wrG ns nm r⟩
def reachA (H : Heap) (as : List AV) : List Nat := reachN H 200 0 (addsN [] (namesL as))

/-- A place of whole numbers that nobody writes to. -/
def AV.tabB : AV → Bool
  | .ip ds => (numsD ds).isSome
  | _ => false
/-- An element of an array whose place is not known: all places, one by one. -/
def arrOf (P : Program) (ρ : Operand → AV) (o : Oper) : Option (Nat × Int) := match o.op with
  | .indexAddr t x ix => bif (ρ x).tabB then none else arrK P (ρ ix) t
  | .index t _ ix => arrK P (ρ ix) t
  | _ => none
def arrAt (P : Program) (ρ : Operand → AV) (o : Oper) (i : Nat) : Option Eff := match o.op with
  | .indexAddr t x _ => arrEA P (ρ x) t (i : Int)
  | .index t x _ => arrEI P (ρ x) t (i : Int)
  | _ => none
def splitK (k : Int) : Nat → (Nat → Out α) → Out α
  | 0, _ => .fail
  | n + 1, g => bif k == (n : Int) then g n else splitK k n g

/-- One operation. -/
def opD (P : Program) (C : Codes) (S : Sigs) (nm : Nat) (o : Oper) (s : AS) (k : Ef → AS → Out α) : Out α :=
  match callOf s.ev o with
  | some (f, as) => match S f with
    | some (.heap ts out) => bif entersB P f && nodupB (reachA s.H as) && (reachA s.H as).all (fun l => (s.H.get l).isSome) then
        .callG f (renL (idxN (reachA s.H as)) as) (renH (idxN (reachA s.H as)) s.H (reachA s.H as) 0) (reachA s.H as).length ts (out (renL (idxN (reachA s.H as)) as) (renH (idxN (reachA s.H as)) s.H (reachA s.H as) 0)) fun x =>
          bif Nat.ble (out (renL (idxN (reachA s.H as)) as) (renH (idxN (reachA s.H as)) s.H (reachA s.H as) 0) x).n ((reachA s.H as).length + 8) then
            k (efG (reachA s.H as) nm (out (renL (idxN (reachA s.H as)) as) (renH (idxN (reachA s.H as)) s.H (reachA s.H as) 0) x))
              (s.aft o (some (efG (reachA s.H as) nm (out (renL (idxN (reachA s.H as)) as) (renH (idxN (reachA s.H as)) s.H (reachA s.H as) 0) x))))
          else .fail
      else .fail
    | some (.pure ps ts) => bif entersB P f then match toArgs s.H ps as with
      | some (xs, p, fz) => .need p (.callP f xs ts fun x => k ⟨ofRes ts x, fz, bif ts.all Ty.bare then [] else fz.map fun l => (l, none)⟩ (s.aft o (some ⟨ofRes ts x, fz, bif ts.all Ty.bare then [] else fz.map fun l => (l, none)⟩)))
      | none => .fail
      else .fail
    | some (.ext out) => match out as with
      | some v => .callX f as v (k ⟨v, [], []⟩ (s.aft o (some ⟨v, [], []⟩)))
      | none => .fail
    | none => .fail
  | none => match arrOf P s.ev o with
    | some p => splitK p.2 p.1 fun i => match arrAt P s.ev o i with
      | some e => k ⟨e.v, e.rd, e.wr⟩ (s.aft o (some ⟨e.v, e.rd, e.wr⟩))
      | none => .fail
    | none => match opE P C s.ev s.H nm o with
    | some e => bif trivB s.ev o then k ⟨e.v, e.rd, e.wr⟩ (s.aft o (some ⟨e.v, e.rd, e.wr⟩)) else .need e.need (k ⟨e.v, e.rd, e.wr⟩ (s.aft o (some ⟨e.v, e.rd, e.wr⟩)))
    | none => .fail
/-- Is this slice nil? Where it is: how many elements it has (none). -/
def nilA (H : Heap) : AV → Option Prop
  | .d (.sl _ xs) => some (xs.length = 0)
  | .fl _ xs => some (xs.length = 0)
  | .own l t => match H.get l with
    | some (.row _ t' xs) => if t' = t then some (xs.length = 0) else none
    | _ => none
  | _ => none
/-- A question whose answer the data do not tell. -/
def askOf (P : Program) (ρ : Operand → AV) (H : Heap) (o : Oper) : Option (Bool → Prop) := match o.op with
  | .binOp op t x y _ => match ρ y with
    | .d (.v (.slice none 0 0)) => bif (elemOfSl P t).isSome && !P.eqGuardType P.depth t then (nilA H (ρ x)).bind fun p => match op with
      | .eql => some fun b => b = true → p
      | .neq => some fun b => b = false → p
      | _ => none
      else none
    | _ => none
  | _ => none
def opK (P : Program) (C : Codes) (S : Sigs) (nm : Nat) (o : Oper) (s : AS) (k : AS → Out α) : Out α := match askOf P s.ev s.H o with
  | some p => .ask p fun b => k (s.aft o (some ⟨.ofV (.bool b), [], []⟩))
  | none => opD P C S nm o s fun _ s => k s

/-- Is this the call of a loop's own body? -/
def yieldB (ρ : Operand → AV) (o : Oper) : Bool := match o.op with
  | .call { callee := .value f, .. } => match ρ f with
    | .clo (.yield _) _ _ => true
    | _ => false
  | _ => false

def boolA (b : Bool) : AV := .d (.v (.bool b))

/-- A slot whose operation was skipped. -/
def AV.gone : AV → Bool
  | .d (.v (.tuple _)) => true
  | _ => false
theorem AV.gone_eq {a : AV} (h : a.gone = true) : ∃ q, a = .d (.v (.tuple q)) := by
  unfold AV.gone at h
  split at h
  · exact ⟨_, rfl⟩
  · cases h

/-- Does the guard want it? -/
def guardK (ops : Array Oper) (o : Oper) (s : AS) (yes no : AS → Out α) : Out α :=
  match o.guard with
  | none => yes s
  | some (j, want) => match (ops[j]?).bind (·.dst) with
    | some t => match (s.tmps.getD t .dead).bool? with
      | some b => bif b then (bif want then yes { s with tmps := s.tmps.set t (boolA true) } else no { s with tmps := s.tmps.set t (boolA true) })
          else (bif want then no { s with tmps := s.tmps.set t (boolA false) } else yes { s with tmps := s.tmps.set t (boolA false) })
      | none => bif (s.tmps.getD t .dead).gone then no s else .fail
    | none => .fail

/-- What must come ahead of each operation, as bits. -/
def masksGo : List Oper → List Nat → List Nat
  | [], ms => ms
  | o :: os, ms => masksGo os (ms ++ [o.after.toList.foldl (fun m e => bif Region.binds .any e then (m ||| (1 <<< e.on)) ||| ms.getD e.on 0 else m) 0])
def masks (ops : Array Oper) : List Nat := masksGo ops.toList []
def textB (ops : Array Oper) : Bool := (List.range ops.size).all fun i => match ops[i]? with
  | some o => o.after.all fun e => !Region.binds .any e || Nat.blt e.on i
  | none => true

/-- Two operations that do not meet. -/
def footB (e e' : Ef) : Bool := (e.wr.all fun p => !(e'.rd.contains p.1) && !(e'.wr.any fun q => q.1 == p.1)) && e'.wr.all fun p => !(e.rd.contains p.1)
def indepB (ops : Array Oper) (x y : Nat × Option Ef) : Bool := match ops[x.1]?, ops[y.1]? with
  | some a, some b => a.apart ops b && (match x.2, y.2 with | some e, some e' => footB e e' | _, _ => true)
  | _, _ => false
def meetB (ops : Array Oper) (ms : List Nat) (x y : Nat × Option Ef) : Bool := (ms.getD y.1 0).testBit x.1 || indepB ops x y

/-- A region whose order is drawn: in the text's order, with a look at what meets what. -/
def drawK (P : Program) (C : Codes) (S : Sigs) (ops : Array Oper) (ms : List Nat) (k : AS → Out α) : List Nat → List (Nat × Option Ef) → AS → Out α
  | [], _, s => k s
  | i :: rest, acc, s => match ops[i]? with
    | some o => guardK ops o s (fun s => opD P C S (s.next + 8 * i) o s fun ef s' => bif acc.all (fun x => meetB ops ms x (i, some ef)) then drawK P C S ops ms k rest ((i, some ef) :: acc) s' else .fail)
        (fun s => bif acc.all (fun x => meetB ops ms x (i, none)) then drawK P C S ops ms k rest ((i, none) :: acc) (s.aft o none) else .fail)
    | none => .fail

/-- The results, out of the slots. -/
def resA (P : Program) (s : AS) : List ResultVar → Option (List AV)
  | [] => some []
  | .tmp t :: rs => (resA P s rs).map fun vs => s.tmps.getD t .dead :: vs
  | .cell a t :: rs => match s.tmps.getD a .dead with
    | .ptr l f => match s.H.get l with
      | some (.box cells) => (partA P t cells f).bind fun v => (resA P s rs).map fun vs => v :: vs
      | _ => none
    | _ => none

/-- What becomes of the results at a return. -/
abbrev Fin (α : Type) := List AV → Heap → Option (α × Prop)

def retK (P : Program) (fn : Func) (fin : Fin α) (s : AS) : Out α := match resA P s fn.results.toList with
  | some vs => match fin vs s.H with
    | some (x, p) => .need p (.ret x)
    | none => .fail
  | none => .fail

/-- Where a run is cut: ahead of regions; ahead of the return. -/
structure Cuts where
  reg : List Nat
  ret : Bool

/-- THE ABSTRACT MACHINE. It stops at the head of each loop, and at the cuts. -/
def aexec (P : Program) (C : Codes) (S : Sigs) (fn : Func) (fin : Fin α) (n0 : Nat) (cu : Cuts) : Nat → Bool → List Item → AS → Out α
  | 0, _, _, _ => .fail
  | n + 1, fst, todo, s => match todo with
    | [] => bif cu.ret && !fst then .stop [] (s.canon n0 (liveR fn)) else retK P fn fin s
    | .code .ret :: k => bif cu.ret && !fst then .stop (.code .ret :: k) (s.canon n0 (liveR fn)) else retK P fn fin s
    | .code .skip :: k | .code (.label _) :: k | .inBlock _ :: k | .inScope _ :: k => aexec P C S fn fin n0 cu n false k s
    | .code (.seq a b) :: k => aexec P C S fn fin n0 cu n false (.code a :: .code b :: k) s
    | .code (.cond c t e) :: k => match (s.ev c).bool? with
      | some b => bif b then aexec P C S fn fin n0 cu n false (.code t :: k) s else aexec P C S fn fin n0 cu n false (.code e :: k) s
      | none => .fail
    | .code (.block id b) :: k => aexec P C S fn fin n0 cu n false (.code b :: .inBlock id :: k) s
    | .code (.loop b) :: k | .inLoop b :: k => .stop (.code b :: .inLoop b :: k) (s.canon n0 (liveT (liveR fn) (.code b :: .inLoop b :: k)).1)
    | .code (.scope b) :: k => aexec P C S fn fin n0 cu n false (.code b :: .inScope b :: k) s
    | .code (.exit id) :: k => match exitTo id k with
      | some k' => aexec P C S fn fin n0 cu n false k' s
      | none => .stop (.code (.exit id) :: k) (s.canon n0 (liveR fn))
    | .code (.rangeFunc g ps x b) :: k => .stop (.code (.rangeFunc g ps x b) :: k) (s.canon n0 (liveT (liveR fn) (.code (.rangeFunc g ps x b) :: k)).1)
    | .beginRound :: k => .stop (.beginRound :: k) (s.canon n0 (liveT (liveR fn) k).1)
    | .code (.region id ops draw) :: k => bif cu.reg.contains id && !fst then .stop (.code (.region id ops draw) :: k) (s.canon n0 (liveT (liveR fn) (.code (.region id ops draw) :: k)).1)
        else bif draw then (bif textB ops then drawK P C S ops (masks ops) (fun s' => aexec P C S fn fin n0 cu n false k { s' with next := s'.next + 8 * ops.size }) (List.range ops.size) [] s else .fail)
        else aexec P C S fn fin n0 cu n false (.inRegion ops (List.range ops.size) :: k) s
    | .inRegion ops [] :: k => aexec P C S fn fin n0 cu n false k { s with next := s.next + 8 * ops.size }
    | .inRegion ops (i :: rest) :: k => match ops[i]? with
      | some o => guardK ops o s (fun s => bif yieldB s.ev o then .stop (.inRegion ops (i :: rest) :: k) s else opK P C S (s.next + 8 * i) o s (aexec P C S fn fin n0 cu n false (.inRegion ops rest :: k))) (fun s => aexec P C S fn fin n0 cu n false (.inRegion ops rest :: k) { s with tmps := putT s.tmps o.dst (.d (.v undef)) })
      | none => .fail
    | _ => .fail

end
end Go.VL
