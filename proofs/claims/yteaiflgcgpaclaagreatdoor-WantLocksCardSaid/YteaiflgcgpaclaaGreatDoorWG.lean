/- Sets of numbers: plain models. (Own work.) -/
import Derived.Test.YteaiflgcgpaclaaGreatDoorWF
import Derived.Test.YteaiflgcgpaclaaGreatDoorWE
set_option linter.unusedVariables false
set_option linter.unusedSimpArgs false
namespace Go.Proofs.Zn
open Go Go.VL

abbrev Rise (l : List Int) : Prop := l.Pairwise (· < ·)
theorem rise_ext : ∀ {l m : List Int}, Rise l → Rise m → (∀ n, n ∈ l ↔ n ∈ m) → l = m
  | [], [], _, _, _ => rfl
  | [], b :: m, _, _, h => absurd ((h b).2 (by simp)) (by simp)
  | a :: l, [], _, _, h => absurd ((h a).1 (by simp)) (by simp)
  | a :: l, b :: m, hl, hm, h => by
    obtain ⟨h1, h2⟩ := List.pairwise_cons.1 hl
    obtain ⟨g1, g2⟩ := List.pairwise_cons.1 hm
    have hab : a = b := by
      rcases List.mem_cons.1 ((h a).1 (by simp)) with e | e
      · exact e
      · rcases List.mem_cons.1 ((h b).2 (by simp)) with e' | e'
        · exact e'.symm
        · have := g1 a e; have := h1 b e'; omega
    subst hab
    rw [rise_ext h2 g2 fun n => ⟨fun hn => ?_, fun hn => ?_⟩]
    · have := h1 n hn
      rcases List.mem_cons.1 ((h n).1 (by simp [hn])) with e | e
      · omega
      · exact e
    · have := g1 n hn
      rcases List.mem_cons.1 ((h n).2 (by simp [hn])) with e | e
      · omega
      · exact e

/-! ### a number put into a set -/
def putS : List Int → Int → List Int
  | [], n => [n]
  | x :: l, n => bif decide (x < n) then x :: putS l n else bif x == n then x :: l else n :: x :: l
theorem mem_put {m n : Int} : ∀ {l : List Int}, m ∈ putS l n ↔ m = n ∨ m ∈ l
  | [] => by simp [putS]
  | x :: l => by
    unfold putS
    by_cases h1 : x < n
    · rw [decide_eq_true h1, cond_true, List.mem_cons, mem_put (l := l), List.mem_cons]
      constructor
      · rintro (h | h | h)
        · exact .inr (.inl h)
        · exact .inl h
        · exact .inr (.inr h)
      · rintro (h | h | h)
        · exact .inr (.inl h)
        · exact .inl h
        · exact .inr (.inr h)
    · rw [decide_eq_false h1, cond_false]
      cases h2 : x == n
      · rw [cond_false]; simp
      · rw [cond_true]
        have : x = n := by simpa using h2
        subst this
        simp
theorem put_rise {n : Int} : ∀ {l : List Int}, Rise l → Rise (putS l n)
  | [], _ => by simp [putS]
  | x :: l, h => by
    obtain ⟨h1, h2⟩ := List.pairwise_cons.1 h
    unfold putS
    by_cases h3 : x < n
    · rw [decide_eq_true h3, cond_true]
      refine List.pairwise_cons.2 ⟨fun y hy => ?_, put_rise h2⟩
      rcases mem_put.1 hy with e | e
      · omega
      · exact h1 y e
    · rw [decide_eq_false h3, cond_false]
      cases h4 : x == n
      · rw [cond_false]
        have h4 : ¬ x = n := by simpa using h4
        refine List.pairwise_cons.2 ⟨fun y hy => ?_, h⟩
        rcases List.mem_cons.1 hy with e | e
        · omega
        · have := h1 y e; omega
      · rw [cond_true]; exact h
theorem put_len {n : Int} : ∀ {l : List Int}, (putS l n).length ≤ l.length + 1
  | [] => by simp [putS]
  | x :: l => by
    unfold putS
    cases decide (x < n)
    · cases x == n <;> simp
    · have := put_len (n := n) (l := l)
      simp only [cond_true, List.length_cons]; omega
/-- Where it would stand. -/
def putK (l : List Int) (n : Int) : Nat := (l.takeWhile fun x => decide (x < n)).length
theorem putK_le (l : List Int) (n : Int) : putK l n ≤ l.length := (List.takeWhile_sublist _).length_le
theorem putK_lt : ∀ {l : List Int} {n : Int} {k : Nat} (hk : k < l.length), (∀ j (h : j < l.length), j < k → l[j] < n) → ¬ l[k] < n → putK l n = k
  | [], _, _, hk, _, _ => by simp at hk
  | x :: l, n, 0, _, _, h => by
    have h : ¬ x < n := h
    simp [putK, List.takeWhile_cons, h]
  | x :: l, n, k + 1, hk, h1, h2 => by
    have hx : x < n := h1 0 (by simp) (by omega)
    have := putK_lt (l := l) (n := n) (k := k) (by simpa using hk) (fun j hj hjk => h1 (j + 1) (by simp; omega) (by omega)) h2
    simp only [putK, List.takeWhile_cons, decide_eq_true hx, if_true, List.length_cons] at this ⊢
    omega
theorem put_eq : ∀ (l : List Int) (n : Int), putS l n = bif Nat.blt (putK l n) l.length && (l.getD (putK l n) 0 == n) then l else l.take (putK l n) ++ n :: l.drop (putK l n)
  | [], n => rfl
  | x :: l, n => by
    unfold putS
    have ih := put_eq l n
    by_cases h1 : x < n
    · have e : putK (x :: l) n = putK l n + 1 := by simp [putK, List.takeWhile_cons, h1]
      rw [decide_eq_true h1, cond_true, e, ih]
      have e2 : Nat.blt (putK l n + 1) (x :: l).length = Nat.blt (putK l n) l.length := by
        simp only [Nat.blt, List.length_cons]; rfl
      have e3 : (x :: l).getD (putK l n + 1) 0 = l.getD (putK l n) 0 := by simp
      rw [e2, e3]
      cases Nat.blt (putK l n) l.length && (l.getD (putK l n) 0 == n) <;> simp
    · have e : putK (x :: l) n = 0 := by simp [putK, List.takeWhile_cons, h1]
      rw [decide_eq_false h1, cond_false, e]
      have e2 : Nat.blt 0 (x :: l).length = true := by rfl
      have e3 : (x :: l).getD 0 0 = x := rfl
      rw [e2, e3, Bool.true_and]
      cases x == n <;> simp

/-! ### in one of two -/
def eitherS (a b : List Int) : List Int := b.foldl putS a
theorem mem_either {n : Int} : ∀ {b a : List Int}, n ∈ eitherS a b ↔ n ∈ a ∨ n ∈ b
  | [], a => by simp [eitherS]
  | x :: b, a => by
    have := mem_either (n := n) (b := b) (a := putS a x)
    unfold eitherS at this ⊢
    rw [List.foldl_cons, this, mem_put, List.mem_cons]
    constructor
    · rintro ((h | h) | h)
      · exact .inr (.inl h)
      · exact .inl h
      · exact .inr (.inr h)
    · rintro (h | h | h)
      · exact .inl (.inr h)
      · exact .inl (.inl h)
      · exact .inr h
theorem either_rise : ∀ {b a : List Int}, Rise a → Rise (eitherS a b)
  | [], _, h => h
  | x :: b, a, h => either_rise (b := b) (a := putS a x) (put_rise h)
theorem either_len : ∀ {b a : List Int}, (eitherS a b).length ≤ a.length + b.length
  | [], _ => by simp [eitherS]
  | x :: b, a => by
    have h1 := either_len (b := b) (a := putS a x)
    have h2 := put_len (n := x) (l := a)
    unfold eitherS at h1 ⊢
    rw [List.foldl_cons, List.length_cons]; omega
abbrev setS (l : List Int) : List Int := eitherS [] l
theorem set_rise (l : List Int) : Rise (setS l) := either_rise .nil
theorem mem_set {n : Int} {l : List Int} : n ∈ setS l ↔ n ∈ l := by
  rw [mem_either]; simp

/-! ### along two sets -/
def tk (w : Bool) (x : Int) (l : List Int) : List Int := bif w then x :: l else l
theorem mem_tk {w : Bool} {x n : Int} {l : List Int} : n ∈ tk w x l ↔ (w = true ∧ n = x) ∨ n ∈ l := by
  cases w <;> simp [tk]
def alongS (f s t : Bool) : List Int → List Int → List Int
  | [], [] => []
  | x :: a, [] => tk f x (alongS f s t a [])
  | [], y :: b => tk s y (alongS f s t [] b)
  | x :: a, y :: b => if x < y then tk f x (alongS f s t a (y :: b)) else if y < x then tk s y (alongS f s t (x :: a) b) else tk t x (alongS f s t a b)
termination_by a b => a.length + b.length

theorem along_spec (f s t : Bool) : ∀ (a b : List Int), Rise a → Rise b →
    (∀ n, n ∈ alongS f s t a b ↔ (f = true ∧ n ∈ a ∧ n ∉ b) ∨ (s = true ∧ n ∉ a ∧ n ∈ b) ∨ (t = true ∧ n ∈ a ∧ n ∈ b)) ∧ Rise (alongS f s t a b)
  | [], [], _, _ => by rw [alongS]; simp
  | x :: a, [], ha, hb => by
    obtain ⟨h1, h2⟩ := List.pairwise_cons.1 ha
    obtain ⟨i1, i2⟩ := along_spec f s t a [] h2 hb
    rw [alongS]
    refine ⟨fun n => ?_, ?_⟩
    · rw [mem_tk, i1]; simp only [List.mem_cons]
      cases f <;> simp
    · cases f
      · exact i2
      · refine List.pairwise_cons.2 ⟨fun y hy => ?_, i2⟩
        have := (i1 y).1 hy
        simp at this
        exact h1 y this
  | [], y :: b, ha, hb => by
    obtain ⟨h1, h2⟩ := List.pairwise_cons.1 hb
    obtain ⟨i1, i2⟩ := along_spec f s t [] b ha h2
    rw [alongS]
    refine ⟨fun n => ?_, ?_⟩
    · rw [mem_tk, i1]; simp only [List.mem_cons]
      cases s <;> simp
    · cases s
      · exact i2
      · refine List.pairwise_cons.2 ⟨fun z hz => ?_, i2⟩
        have := (i1 z).1 hz
        simp at this
        exact h1 z this
  | x :: a, y :: b, ha, hb => by
    obtain ⟨h1, h2⟩ := List.pairwise_cons.1 ha
    obtain ⟨g1, g2⟩ := List.pairwise_cons.1 hb
    rw [alongS]
    by_cases c1 : x < y
    · rw [if_pos c1]
      obtain ⟨i1, i2⟩ := along_spec f s t a (y :: b) h2 hb
      have hx : ∀ n, n ∈ y :: b → n ≠ x := fun n hn e => by
        subst e
        rcases List.mem_cons.1 hn with e | e
        · omega
        · have := g1 n e; omega
      have hxa : x ∉ a := fun e => by have := h1 x e; omega
      refine ⟨fun n => ?_, ?_⟩
      · rw [mem_tk, i1]
        by_cases hn : n = x
        · subst hn
          have hny : n ∉ y :: b := fun e => hx n e rfl
          simp only [hny, hxa, List.mem_cons, true_or, not_false_eq_true, and_true, and_false, or_false]
          try simp
        · have e : n ∈ x :: a ↔ n ∈ a := by simp [hn]
          rw [e]; simp [hn]
      · cases f
        · exact i2
        · refine List.pairwise_cons.2 ⟨fun z hz => ?_, i2⟩
          have hz := (i1 z).1 hz
          have : z ∈ a ∨ z ∈ y :: b := by
            rcases hz with ⟨_, h, _⟩ | ⟨_, _, h⟩ | ⟨_, h, _⟩
            · exact .inl h
            · exact .inr h
            · exact .inl h
          rcases this with h | h
          · exact h1 z h
          · rcases List.mem_cons.1 h with e | e
            · omega
            · have := g1 z e; omega
    · rw [if_neg c1]
      by_cases c2 : y < x
      · rw [if_pos c2]
        obtain ⟨i1, i2⟩ := along_spec f s t (x :: a) b ha g2
        have hy : ∀ n, n ∈ x :: a → n ≠ y := fun n hn e => by
          subst e
          rcases List.mem_cons.1 hn with e | e
          · omega
          · have := h1 n e; omega
        have hyb : y ∉ b := fun e => by have := g1 y e; omega
        refine ⟨fun n => ?_, ?_⟩
        · rw [mem_tk, i1]
          by_cases hn : n = y
          · subst hn
            have hny : n ∉ x :: a := fun e => hy n e rfl
            simp only [hny, hyb, List.mem_cons, true_or, not_false_eq_true, and_true, and_false, or_false]
            try simp
          · have e : n ∈ y :: b ↔ n ∈ b := by simp [hn]
            rw [e]; simp [hn]
        · cases s
          · exact i2
          · refine List.pairwise_cons.2 ⟨fun z hz => ?_, i2⟩
            have hz := (i1 z).1 hz
            have : z ∈ x :: a ∨ z ∈ b := by
              rcases hz with ⟨_, h, _⟩ | ⟨_, _, h⟩ | ⟨_, h, _⟩
              · exact .inl h
              · exact .inr h
              · exact .inl h
            rcases this with h | h
            · rcases List.mem_cons.1 h with e | e
              · omega
              · have := h1 z e; omega
            · exact g1 z h
      · rw [if_neg c2]
        have hxy : x = y := by omega
        subst hxy
        obtain ⟨i1, i2⟩ := along_spec f s t a b h2 g2
        have hxa : x ∉ a := fun e => by have := h1 x e; omega
        have hxb : x ∉ b := fun e => by have := g1 x e; omega
        refine ⟨fun n => ?_, ?_⟩
        · rw [mem_tk, i1]
          by_cases hn : n = x
          · subst hn
            simp only [hxa, hxb, List.mem_cons, true_or, not_true_eq_false, and_true, and_false, or_false, false_or]
            try simp
          · have e : n ∈ x :: a ↔ n ∈ a := by simp [hn]
            have e' : n ∈ x :: b ↔ n ∈ b := by simp [hn]
            rw [e, e']; simp [hn]
        · cases t
          · exact i2
          · refine List.pairwise_cons.2 ⟨fun z hz => ?_, i2⟩
            have hz := (i1 z).1 hz
            rcases hz with ⟨_, h, _⟩ | ⟨_, _, h⟩ | ⟨_, h, _⟩
            · exact h1 z h
            · exact g1 z h
            · exact h1 z h
termination_by a b => a.length + b.length
theorem along_len (f s t : Bool) : ∀ (a b : List Int), (alongS f s t a b).length ≤ a.length + b.length
  | [], [] => by rw [alongS]; simp
  | x :: a, [] => by
    have := along_len f s t a []
    rw [alongS]; cases f <;> simp only [tk, cond_true, cond_false, List.length_cons] <;> omega
  | [], y :: b => by
    have := along_len f s t [] b
    rw [alongS]; cases s <;> simp only [tk, cond_true, cond_false, List.length_cons] <;> omega
  | x :: a, y :: b => by
    rw [alongS]
    by_cases c1 : x < y
    · rw [if_pos c1]
      have := along_len f s t a (y :: b)
      cases f <;> simp only [tk, cond_true, cond_false, List.length_cons] at this ⊢ <;> omega
    · rw [if_neg c1]
      by_cases c2 : y < x
      · rw [if_pos c2]
        have := along_len f s t (x :: a) b
        cases s <;> simp only [tk, cond_true, cond_false, List.length_cons] at this ⊢ <;> omega
      · rw [if_neg c2]
        have := along_len f s t a b
        cases t <;> simp only [tk, cond_true, cond_false, List.length_cons] at this ⊢ <;> omega
termination_by a b => a.length + b.length
theorem along_either {a b : List Int} (ha : Rise a) (hb : Rise b) : alongS true true true a b = eitherS a b := by
  obtain ⟨h1, h2⟩ := along_spec true true true a b ha hb
  refine rise_ext h2 (either_rise ha) fun n => ?_
  rw [h1, mem_either]
  by_cases c1 : n ∈ a <;> by_cases c2 : n ∈ b <;> simp [c1, c2]
theorem set_app (l m : List Int) : setS (l ++ m) = eitherS (setS l) (setS m) := by
  refine rise_ext (set_rise _) (either_rise (set_rise _)) fun n => ?_
  rw [mem_set, mem_either, mem_set, mem_set, List.mem_append]

/-! ### lanes by their ids -/
def lanesS (d : Deck) (s : Span) : List Int := (List.range (s.hi - s.lo + 1).toNat).map fun k : Nat => sumI (boxesP d) + sumI (boxesR d) + (s.lo + (k : Int))
theorem mem_lanes {d : Deck} {s : Span} {n : Int} : n ∈ lanesS d s ↔ s.lo ≤ n - (sumI (boxesP d) + sumI (boxesR d)) ∧ n - (sumI (boxesP d) + sumI (boxesR d)) ≤ s.hi := by
  unfold lanesS
  rw [List.mem_map]
  constructor
  · rintro ⟨k, hk, rfl⟩
    have := List.mem_range.1 hk
    omega
  · rintro ⟨h1, h2⟩
    refine ⟨(n - (sumI (boxesP d) + sumI (boxesR d)) - s.lo).toNat, List.mem_range.2 (by omega), by omega⟩
theorem lanes_rise (d : Deck) (s : Span) : Rise (lanesS d s) := by
  unfold lanesS
  rw [Rise, List.pairwise_map]
  exact List.pairwise_lt_range.imp fun h => by omega
def needsS (d : Deck) (l : List Span) : List Int := l.foldl (fun out s => eitherS out (lanesS d s)) []
theorem needs_go (d : Deck) : ∀ (l : List Span) (out : List Int), Rise out → Rise (l.foldl (fun out s => eitherS out (lanesS d s)) out) ∧
    ∀ n, n ∈ l.foldl (fun out s => eitherS out (lanesS d s)) out ↔ n ∈ out ∨ ∃ s ∈ l, n ∈ lanesS d s
  | [], out, h => ⟨h, fun n => by simp⟩
  | s :: l, out, h => by
    obtain ⟨h1, h2⟩ := needs_go d l (eitherS out (lanesS d s)) (either_rise h)
    refine ⟨h1, fun n => ?_⟩
    rw [List.foldl_cons, h2, mem_either]
    constructor
    · rintro ((h | h) | ⟨t, ht, h⟩)
      · exact .inl h
      · exact .inr ⟨s, by simp, h⟩
      · exact .inr ⟨t, by simp [ht], h⟩
    · rintro (h | ⟨t, ht, h⟩)
      · exact .inl (.inl h)
      · rcases List.mem_cons.1 ht with e | e
        · subst e; exact .inl (.inr h)
        · exact .inr ⟨t, e, h⟩
theorem needs_rise (d : Deck) (l : List Span) : Rise (needsS d l) := (needs_go d l [] .nil).1
theorem mem_needs {d : Deck} {l : List Span} {n : Int} : n ∈ needsS d l ↔ ∃ s ∈ l, n ∈ lanesS d s := by
  have := (needs_go d l [] .nil).2 n
  unfold needsS; rw [this]; simp
/-- The same numbers in spans: the same lanes. -/
theorem needs_den {d : Deck} {l m : List Span} (h : ∀ n : Int, (∃ s ∈ m, s.lo ≤ n ∧ n ≤ s.hi) ↔ ∃ s ∈ l, s.lo ≤ n ∧ n ≤ s.hi) : setS (m.flatMap (lanesS d)) = needsS d l := by
  refine rise_ext (set_rise _) (needs_rise _ _) fun n => ?_
  rw [mem_set, mem_needs, List.mem_flatMap]
  simp only [mem_lanes]
  exact h _
end Go.Proofs.Zn

/- The table of all parts, what is picked of it: plain models. (Own work.) -/
namespace Go.Proofs.Zn
open Go Go.VL

/-! ### the first thing that is wrong -/
def errL : List (Span × Int) → Int
  | [] => 0
  | p :: l => bif p.2 != 0 then p.2 else errL l
theorem errL_app : ∀ (l m : List (Span × Int)), errL (l ++ m) = bif errL l != 0 then errL l else errL m
  | [], m => rfl
  | p :: l, m => by
    simp only [List.cons_append, errL, errL_app l m]
    cases h : p.2 != 0
    · rfl
    · simp [h]
theorem errL_zero : ∀ {l : List (Span × Int)}, errL l = 0 → ∀ p ∈ l, p.2 = 0
  | [], _, _, h => by cases h
  | q :: l, h, p, hp => by
    simp only [errL] at h
    cases hq : q.2 != 0
    · rw [hq, cond_false] at h
      rcases List.mem_cons.1 hp with e | e
      · subst e; simpa using hq
      · exact errL_zero h p e
    · rw [hq, cond_true] at h
      rw [h] at hq; cases hq
theorem errL_rep {L : List (Span × Int)} : ∀ n : Nat, errL (List.replicate (n + 1) L).flatten = errL L
  | 0 => by simp [List.replicate]
  | n + 1 => by
    rw [List.replicate_succ, List.flatten_cons, errL_app, errL_rep n]
    cases h : errL L != 0 <;> rfl
def tryS (L : List (Span × Int)) : List Span × Int := bif errL L != 0 then ([], errL L) else (L.map Prod.fst, 0)
abbrev covL (d : Deck) (l : List Part) : List (Span × Int) := l.map (coverS d)
def colsL (k u : Int) (n : Nat) : List Part := (List.range n).map fun c : Nat => ⟨k, u, 0, (c : Int)⟩

theorem range_mod {α : Type} (C : Nat) (f : Nat → α) : ∀ R : Nat, (List.range (R * C)).map (fun n => f (n % C)) = (List.replicate R ((List.range C).map f)).flatten
  | 0 => by simp
  | R + 1 => by
    rw [Nat.succ_mul, List.range_add, List.map_append, range_mod C f R, List.replicate_succ', List.flatten_append, List.map_map]
    congr 1
    simp only [List.flatten_cons, List.flatten_nil, List.append_nil]
    refine List.map_congr_left fun n hn => ?_
    have := List.mem_range.1 hn
    simp only [Function.comp]
    rw [Nat.mul_comm, Nat.mul_add_mod, Nat.mod_eq_of_lt this]
theorem cov_places (d : Deck) {k u r c : Int} (hr : 0 ≤ r) (hc : 0 ≤ c) : covL d (placesS k u r c) = (List.replicate r.toNat (covL d (colsL k u c.toNat))).flatten := by
  obtain ⟨R, rfl⟩ := Int.eq_ofNat_of_zero_le hr
  obtain ⟨C, rfl⟩ := Int.eq_ofNat_of_zero_le hc
  have e : (((R : Nat) : Int) * ((C : Nat) : Int)).toNat = R * C := by rw [← Int.natCast_mul]; rfl
  simp only [covL, placesS, colsL, List.map_map, e, Int.toNat_natCast]
  rw [← range_mod C _ R]
  refine List.map_congr_left fun n _ => ?_
  simp only [Function.comp, coverS, rowS, Int.natCast_emod]

/-- The table of a deck. -/
def tableS (d : Deck) : List Span × Int := bif deckS d != 0 then ([], deckS d) else tryS (covL d (partsS d))
def zoneS (d : Deck) : Int := (tableS d).2
def restS (d : Deck) (i : Nat) : List Part := unitsS 1 i ((boxesP d).drop i) ++ (unitsS 2 0 (boxesR d) ++ lanesL (d.borders.length - 1))
def restR (d : Deck) (i : Nat) : List Part := unitsS 2 i ((boxesR d).drop i) ++ lanesL (d.borders.length - 1)
theorem lanes_cov (d : Deck) (n : Nat) : covL d (lanesL n) = (List.range n).map fun i : Nat => (⟨(i : Int), (i : Int)⟩, 0) := by
  simp only [covL, lanesL, List.map_map]; rfl
theorem lanes_err (d : Deck) (n : Nat) : errL (covL d (lanesL n)) = 0 := by
  rw [lanes_cov]
  have : ∀ l : List Nat, errL (l.map fun i : Nat => ((⟨(i : Int), (i : Int)⟩ : Span), (0 : Int))) = 0 := fun l => by
    induction l with
    | nil => rfl
    | cons a l ih => simp only [List.map_cons, errL]; exact ih
  exact this _

theorem table_ok {d : Deck} (h : (tableS d).2 = 0) : DeckOk d ∧ errL (covL d (partsS d)) = 0 ∧ (tableS d).1 = (covL d (partsS d)).map Prod.fst := by
  unfold tableS at h ⊢
  cases h1 : deckS d != 0
  · rw [h1, cond_false] at h
    rw [cond_false]
    have hd : DeckOk d := deck_ok (by simpa using h1)
    unfold tryS at h ⊢
    cases h2 : errL (covL d (partsS d)) != 0
    · exact ⟨hd, by simpa using h2, rfl⟩
    · rw [h2, cond_true] at h
      have h : errL (covL d (partsS d)) = 0 := h
      rw [h] at h2; cases h2
  · rw [h1, cond_true] at h
    have h : deckS d = 0 := h
    rw [h] at h1; cases h1
def SpanOk (d : Deck) (s : Span) : Prop := 0 ≤ s.lo ∧ s.lo ≤ s.hi ∧ s.hi < (d.borders.length : Int) - 1
theorem table_spans {d : Deck} (h : (tableS d).2 = 0) : ∀ s ∈ (tableS d).1, SpanOk d s := by
  obtain ⟨_, h2, h3⟩ := table_ok h
  intro s hs
  rw [h3] at hs
  obtain ⟨q, hq, rfl⟩ := List.mem_map.1 hs
  have h0 := errL_zero h2 q hq
  obtain ⟨p, hp, rfl⟩ := List.mem_map.1 hq
  exact cover_ok (parts_valid hp) h0

/-- What ids pick of a table. -/
def pickGo (t : List Span) : List Span → List Int → List Span × Int
  | acc, [] => (acc, 0)
  | acc, i :: l => bif decide (i < 0) then ([], 3) else bif decide (i ≥ (t.length : Int)) then ([], 3) else pickGo t (acc ++ [t.getD i.toNat Ty.span.dflt]) l
def spansS (d : Deck) (ids : List Int) : List Span × Int := bif (tableS d).2 != 0 then ([], (tableS d).2) else pickGo (tableS d).1 [] ids
theorem pick_ok {t : List Span} {Q : Span → Prop} (ht : ∀ s ∈ t, Q s) : ∀ {l : List Int} {acc : List Span}, (∀ s ∈ acc, Q s) → (pickGo t acc l).2 = 0 → (∀ s ∈ (pickGo t acc l).1, Q s) ∧ (pickGo t acc l).1.length = acc.length + l.length
  | [], acc, ha, _ => ⟨ha, rfl⟩
  | i :: l, acc, ha, h => by
    unfold pickGo at h ⊢
    by_cases h1 : i < 0
    · rw [decide_eq_true h1] at h; cases h
    rw [decide_eq_false h1, cond_false] at h ⊢
    by_cases h2 : i ≥ (t.length : Int)
    · rw [decide_eq_true h2] at h; cases h
    rw [decide_eq_false h2, cond_false] at h ⊢
    have hi : i.toNat < t.length := by omega
    obtain ⟨g1, g2⟩ := pick_ok ht (l := l) (acc := acc ++ [t.getD i.toNat Ty.span.dflt]) (fun s hs => by
      rcases List.mem_append.1 hs with e | e
      · exact ha s e
      · rw [getD_at' hi] at e
        rw [List.mem_singleton.1 e]
        exact ht _ (List.getElem_mem _)) h
    exact ⟨g1, by rw [g2]; simp; omega⟩
theorem pick_err {t : List Span} : ∀ {l : List Int} {acc : List Span}, (pickGo t acc l).2 ≠ 0 → pickGo t acc l = ([], 3)
  | [], acc, h => absurd rfl h
  | i :: l, acc, h => by
    unfold pickGo at h ⊢
    by_cases h1 : i < 0
    · rw [decide_eq_true h1]; rfl
    rw [decide_eq_false h1, cond_false] at h ⊢
    by_cases h2 : i ≥ (t.length : Int)
    · rw [decide_eq_true h2]; rfl
    rw [decide_eq_false h2, cond_false] at h ⊢
    exact pick_err h
theorem spans_ok {d : Deck} {ids : List Int} (h : (spansS d ids).2 = 0) : DeckOk d ∧ (∀ s ∈ (spansS d ids).1, SpanOk d s) ∧ (spansS d ids).1.length = ids.length := by
  unfold spansS at h ⊢
  cases h1 : (tableS d).2 != 0
  · rw [h1, cond_false] at h
    rw [cond_false]
    have h0 : (tableS d).2 = 0 := by simpa using h1
    obtain ⟨g1, g2⟩ := pick_ok (table_spans h0) (acc := []) (fun s hs => by cases hs) h
    exact ⟨(table_ok h0).1, g1, by simpa using g2⟩
  · rw [h1, cond_true] at h
    have h : (tableS d).2 = 0 := h
    rw [h] at h1; cases h1
theorem spans_err {d : Deck} {ids : List Int} (h : (spansS d ids).2 ≠ 0) : (spansS d ids).1 = [] := by
  unfold spansS at h ⊢
  cases h1 : (tableS d).2 != 0
  · rw [h1, cond_false] at h
    rw [cond_false, pick_err h]
  · rfl

def needsR (d : Deck) (ids : List Int) : List Int × Int := bif (spansS d ids).2 != 0 then ([], (spansS d ids).2) else (needsS d (spansS d ids).1, 0)
def two (l : List Span) : Span × Span := (l.getD 0 Ty.span.dflt, l.getD 1 Ty.span.dflt)
def clashS (a b : Span) : Bool := bif decide (a.lo ≤ b.hi) then decide (b.lo ≤ a.hi) else false
def wayS (a b : Span) : Span := ⟨bif decide (b.lo < a.lo) then b.lo else a.lo, bif decide (b.hi > a.hi) then b.hi else a.hi⟩
def clashR (d : Deck) (a b : Int) : Bool × Int := bif (spansS d [a, b]).2 != 0 then (false, (spansS d [a, b]).2) else (clashS (two (spansS d [a, b]).1).1 (two (spansS d [a, b]).1).2, 0)
def pathR (d : Deck) (a b : Int) : List Int × Int := bif (spansS d [a, b]).2 != 0 then ([], (spansS d [a, b]).2) else (lanesS d (wayS (two (spansS d [a, b]).1).1 (two (spansS d [a, b]).1).2), 0)
end Go.Proofs.Zn

/- The deck: contracts. (Own work.) -/
namespace Go.Proofs.Zn
open Go Go.VL

theorem c141 {b : Go.VL.Box} (h : boxOk b = true) : Pure Tryz.prog 217 [⟨.box, b⟩] [.int] (b.rows * b.cols) :=
  ofT Tryz.func217 (t141 b) (by kernel_rfl) (by kernel_rfl) fun _ => ⟨⟨trivial, trivial⟩, by have := box_size h; exact wrap_i64 (by omega) (by omega)⟩
theorem c126 (b : Go.VL.Box) : Pure Tryz.prog 203 [⟨.box, b⟩] [.bool] (boxOk b) :=
  ofT Tryz.func203 (t126 b) (by kernel_rfl) (by kernel_rfl) fun _ =>
    sat_if (fun _ => sat_if (fun _ => sat_if (fun _ => ⟨⟨trivial, trivial⟩, rfl⟩) (fun _ => ⟨⟨trivial, trivial⟩, rfl⟩)) (fun _ => ⟨⟨trivial, trivial⟩, rfl⟩)) (fun _ => ⟨⟨trivial, trivial⟩, rfl⟩)
theorem c123 (r c : Int) : Pure Tryz.prog 220 [⟨.int, r⟩, ⟨.int, c⟩] [.bool] (boxOk ⟨r, c⟩) :=
  ofT Tryz.func220 (t123 r c) (by kernel_rfl) (by kernel_rfl) fun _ =>
    sat_if (fun _ => sat_if (fun _ => sat_if (fun _ => ⟨⟨trivial, trivial⟩, rfl⟩) (fun _ => ⟨⟨trivial, trivial⟩, rfl⟩)) (fun _ => ⟨⟨trivial, trivial⟩, rfl⟩)) (fun _ => ⟨⟨trivial, trivial⟩, rfl⟩)

theorem loop128 {l : List Go.VL.Box} (hl : l.length ≤ 1000) (hb : ∀ b ∈ l, boxOk b = true) {r : Int} {A : List Item → AS → Prop} (hA : Closed Tryz.prog codes sigs Tryz.f141 (pureFin [.int]) (fun y => y = r) 0 A)
    (i : Nat) (hi : i ≤ l.length) (n : Int) (hn : 0 ≤ n ∧ n ≤ 1536 * (i : Int)) (h : n + sumI (l.drop i) = r) : A (hd Tryz.f141 0) (L128 l n i) := by
  refine hA.go (t128a l n i) (sat_bif (fun h1 => ?_) (fun h1 => ?_))
  · have h1 := of_decide_eq_true h1
    have hil : i < l.length := by omega
    have hbi := hb l[i] (List.getElem_mem _)
    have hs := box_size hbi
    rw [getD_int hil]
    rw [List.drop_eq_getElem_cons hil, sumI] at h
    refine ⟨⟨⟨by omega, by omega⟩, trivial⟩, ⟨T3', trivial⟩, _, c141 hbi, ?_⟩
    show A (hd Tryz.f141 0) (L128 l (IntKind.i64.wrap (n + l[i].rows * l[i].cols)) (IntKind.i64.wrap ((i : Int) + 1)))
    rw [wrap_succ (by omega), wrap_i64 (by omega) (by omega)]
    exact loop128 hl hb hA (i + 1) (by omega) _ ⟨by omega, by omega⟩ (by omega)
  · have h1 := of_decide_eq_false h1
    refine ⟨⟨trivial, trivial⟩, ?_⟩
    rw [List.drop_eq_nil_of_le (by omega)] at h
    have h : n = r := by simpa [sumI] using h
    exact h
termination_by l.length - i
theorem c128 {l : List Go.VL.Box} (hl : l.length ≤ 1000) (hb : ∀ b ∈ l, boxOk b = true) : Pure Tryz.prog 141 [⟨.sl .box, l⟩] [.int] (sumI l) :=
  Pure.of_closed (C := codes) (S := sigs) mixed Tryz.func141 (by kernel_rfl) (Nat.le_of_ble_eq_true (by kernel_rfl)) fun A hA => hA.go (t128 l)
    (loop128 hl hb hA 0 (by omega) 0 ⟨by omega, by omega⟩ (by simp))

theorem loop117 {d : Deck} (hl : d.plates.length ≤ 1000) {r : List Go.VL.Box} {A : List Item → AS → Prop} (hA : Closed Tryz.prog codes sigs Tryz.f142 (pureFin [.sl .box]) (fun y => y = r) 0 A)
    (i : Nat) (hi : i ≤ d.plates.length) (out : List Go.VL.Box) (ho : out.length = i) (h : out ++ (d.plates.drop i).map pbox = r) : A (hd Tryz.f142 0) (L117 d out i) := by
  refine hA.go (t117a d out i) (sat_bif (fun h1 => ?_) (fun h1 => ?_))
  · have h1 := of_decide_eq_true h1
    have hil : i < d.plates.length := by omega
    rw [getD_int hil]
    rw [List.drop_eq_getElem_cons hil, List.map_cons] at h
    refine ⟨⟨⟨by omega, by omega⟩, trivial⟩, ⟨T3', trivial⟩, ⟨by simp only [List.length_cons, List.length_nil]; omega, trivial⟩, ?_⟩
    rw [wrap_succ (by omega)]
    exact loop117 hl hA (i + 1) (by omega) (out ++ [pbox d.plates[i]]) (by simp [ho]) (by rw [← h]; simp)
  · have h1 := of_decide_eq_false h1
    refine ⟨⟨trivial, trivial⟩, ?_⟩
    rw [List.drop_eq_nil_of_le (by omega)] at h
    have h : out = r := by simpa using h
    exact h
termination_by d.plates.length - i
theorem c117 {d : Deck} (hl : d.plates.length ≤ 1000) : Pure Tryz.prog 142 [⟨.deck, d⟩] [.sl .box] (boxesP d) :=
  Pure.of_closed (C := codes) (S := sigs) mixed Tryz.func142 (by kernel_rfl) (Nat.le_of_ble_eq_true (by kernel_rfl)) fun A hA => hA.go (t117 d)
    (hA.row 3 244 .box (s' := L117 d [] 0) (by kernel_rfl) (by kernel_rfl) (loop117 hl hA 0 (by omega) [] rfl rfl))
theorem loop118 {d : Deck} (hl : d.racks.length ≤ 1000) {r : List Go.VL.Box} {A : List Item → AS → Prop} (hA : Closed Tryz.prog codes sigs Tryz.f143 (pureFin [.sl .box]) (fun y => y = r) 0 A)
    (i : Nat) (hi : i ≤ d.racks.length) (out : List Go.VL.Box) (ho : out.length = i) (h : out ++ (d.racks.drop i).map rbox = r) : A (hd Tryz.f143 0) (L118 d out i) := by
  refine hA.go (t118a d out i) (sat_bif (fun h1 => ?_) (fun h1 => ?_))
  · have h1 := of_decide_eq_true h1
    have hil : i < d.racks.length := by omega
    rw [getD_int hil]
    rw [List.drop_eq_getElem_cons hil, List.map_cons] at h
    refine ⟨⟨⟨by omega, by omega⟩, trivial⟩, ⟨T3', trivial⟩, ⟨by simp only [List.length_cons, List.length_nil]; omega, trivial⟩, ?_⟩
    rw [wrap_succ (by omega)]
    exact loop118 hl hA (i + 1) (by omega) (out ++ [rbox d.racks[i]]) (by simp [ho]) (by rw [← h]; simp)
  · have h1 := of_decide_eq_false h1
    refine ⟨⟨trivial, trivial⟩, ?_⟩
    rw [List.drop_eq_nil_of_le (by omega)] at h
    have h : out = r := by simpa using h
    exact h
termination_by d.racks.length - i
theorem c118 {d : Deck} (hl : d.racks.length ≤ 1000) : Pure Tryz.prog 143 [⟨.deck, d⟩] [.sl .box] (boxesR d) :=
  Pure.of_closed (C := codes) (S := sigs) mixed Tryz.func143 (by kernel_rfl) (Nat.le_of_ble_eq_true (by kernel_rfl)) fun A hA => hA.go (t118 d)
    (hA.row 3 244 .box (s' := L118 d [] 0) (by kernel_rfl) (by kernel_rfl) (loop118 hl hA 0 (by omega) [] rfl rfl))

/-! ### what a plate holds -/
theorem box_wrap {p : Plate} (h : boxOk (pbox p) = true) : IntKind.i64.wrap (p.rows * p.cols) = p.rows * p.cols := by
  have : 1 ≤ p.rows * p.cols ∧ p.rows * p.cols ≤ 1536 := box_size h
  exact wrap_i64 (by omega) (by omega)
theorem loop127 {p : Plate} (hl : (p.start.length : Int) ≤ 1536) {r : Bool} {A : List Item → AS → Prop} (hA : Closed Tryz.prog codes sigs Tryz.f204 (pureFin [.bool]) (fun y => y = r) 0 A)
    (i : Nat) (hi : i ≤ p.start.length) (h : startOk p.cap (p.start.drop i) = r) : A (hd Tryz.f204 0) (L127 p i) := by
  refine hA.go (t127a p i) (sat_bif (fun h1 => ?_) (fun h1 => ?_))
  · have h1 := of_decide_eq_true h1
    have hil : i < p.start.length := by omega
    rw [getD_int hil]
    rw [List.drop_eq_getElem_cons hil, startOk] at h
    refine ⟨⟨⟨by omega, by omega⟩, trivial⟩, sat_bif (fun h2 => ?_) (fun h2 => sat_bif (fun h3 => ?_) (fun h3 => ?_))⟩
    · rw [h2] at h; exact ⟨⟨trivial, trivial⟩, h⟩
    · rw [h2, h3] at h; exact ⟨⟨trivial, trivial⟩, h⟩
    · rw [h2, h3] at h
      rw [wrap_succ (by omega)]
      exact loop127 hl hA (i + 1) (by omega) h
  · have h1 := of_decide_eq_false h1
    refine ⟨⟨trivial, trivial⟩, ?_⟩
    rw [List.drop_eq_nil_of_le (by omega)] at h
    exact h
termination_by p.start.length - i
theorem c127 {p : Plate} (h : boxOk (pbox p) = true) : Pure Tryz.prog 204 [⟨.plate, p⟩] [.bool] (holdsS p) :=
  Pure.of_closed (C := codes) (S := sigs) mixed Tryz.func204 (by kernel_rfl) (Nat.le_of_ble_eq_true (by kernel_rfl)) fun A hA => hA.go (t127 p) (by
    have hs : 1 ≤ p.rows * p.cols ∧ p.rows * p.cols ≤ 1536 := box_size h
    unfold holdsS
    rw [box_wrap h]
    refine sat_bif (fun h1 => ?_) (fun h1 => sat_bif (fun h2 => ?_) (fun h2 => sat_bif (fun h3 => ?_) (fun h3 => ?_)))
    · rw [h1]; exact ⟨⟨trivial, trivial⟩, rfl⟩
    · rw [h1, h2]; exact ⟨⟨trivial, trivial⟩, rfl⟩
    · rw [h1, h2, h3]; exact ⟨⟨trivial, trivial⟩, rfl⟩
    · have := of_decide_eq_false h3
      exact loop127 (by omega) hA 0 (by omega) (by unfold holdsS; rw [h1, h2, h3]; rfl))
theorem loop122 {p : Plate} (hl : (p.start.length : Int) ≤ 1536) {r : Bool} {A : List Item → AS → Prop} (hA : Closed Tryz.prog codes sigs Tryz.f219 (pureFin [.bool]) (fun y => y = r) 0 A)
    (i : Nat) (hi : i ≤ p.start.length) (h : startOk p.cap (p.start.drop i) = r) : A (hd Tryz.f219 0) (L122 p i) := by
  refine hA.go (t122a p i) (sat_bif (fun h1 => ?_) (fun h1 => ?_))
  · have h1 := of_decide_eq_true h1
    have hil : i < p.start.length := by omega
    rw [getD_int hil]
    rw [List.drop_eq_getElem_cons hil, startOk] at h
    refine ⟨⟨⟨by omega, by omega⟩, trivial⟩, sat_bif (fun h2 => ?_) (fun h2 => ⟨⟨⟨by omega, by omega⟩, trivial⟩, sat_bif (fun h3 => ?_) (fun h3 => ?_)⟩)⟩
    · rw [h2] at h; exact ⟨⟨trivial, trivial⟩, h⟩
    · rw [h2, h3] at h; exact ⟨⟨trivial, trivial⟩, h⟩
    · rw [h2, h3] at h
      rw [wrap_succ (by omega)]
      exact loop122 hl hA (i + 1) (by omega) h
  · have h1 := of_decide_eq_false h1
    refine ⟨⟨trivial, trivial⟩, ?_⟩
    rw [List.drop_eq_nil_of_le (by omega)] at h
    exact h
termination_by p.start.length - i
theorem c122 (p : Plate) : Pure Tryz.prog 219 [⟨.plate, p⟩] [.bool] (plateOk p) :=
  Pure.of_closed (C := codes) (S := sigs) mixed Tryz.func219 (by kernel_rfl) (Nat.le_of_ble_eq_true (by kernel_rfl)) fun A hA => hA.go (t122 p) (by
    refine ⟨⟨⟨trivial, trivial⟩, ⟨trivial, trivial⟩, trivial⟩, _, c123 _ _, ?_⟩
    show Sat _ _ _ (bif !boxOk (pbox p) then _ else _)
    unfold plateOk
    cases h : boxOk (pbox p)
    · exact ⟨⟨trivial, trivial⟩, rfl⟩
    have hs : 1 ≤ p.rows * p.cols ∧ p.rows * p.cols ≤ 1536 := box_size h
    rw [cond_true, Bool.not_true, cond_false]
    unfold holdsS
    rw [box_wrap h]
    refine sat_bif (fun h1 => ?_) (fun h1 => sat_bif (fun h2 => ?_) (fun h2 => sat_bif (fun h3 => ?_) (fun h3 => ?_)))
    · rw [h1]; exact ⟨⟨trivial, trivial⟩, rfl⟩
    · rw [h1, h2]; exact ⟨⟨trivial, trivial⟩, rfl⟩
    · rw [h1, h2, h3]; exact ⟨⟨trivial, trivial⟩, rfl⟩
    · have := of_decide_eq_false h3
      exact loop122 (by omega) hA 0 (by omega) (by unfold plateOk holdsS; rw [h, h1, h2, h3]; rfl))
end Go.Proofs.Zn

namespace Go.Proofs.Zn
open Go Go.VL

def L92b (x y : List Go.VL.Box) (i : Int) : AS := mkS 78 [(4, .d (.sl .box x)), (5, .d (.sl .box y)), (60, .d (.sl .box y)), (61, i64 y.length), (62, i64 i)] [] 0
def L89b (d : Deck) (w t i : Int) : AS := mkS 103 [(1, .ptr 0 0), (4, i64 w), (5, i64 t), (7, i64 i)] [(0, .box (deckC d))] 1
def L124b (k u r c : Int) (out : List Part) (i j : Int) : AS := mkS 31 [(0, i64 k), (1, i64 u), (2, i64 r), (3, i64 c), (9, .own 0 .part), (10, i64 i), (11, i64 j)] [(0, .row 179 .part out)] 1
def L90b (d : Deck) (out : List Part) (i : Int) : AS := mkS 71 [(1, .ptr 0 0), (3, .own 1 .part), (5, i64 i)] [(0, .box (deckC d)), (1, .row 179 .part out)] 2
def L90c (d : Deck) (out : List Part) (i : Int) : AS := mkS 71 [(1, .ptr 0 0), (3, .own 1 .part), (6, i64 i)] [(0, .box (deckC d)), (1, .row 179 .part out)] 2
def L148 (l : List Part) (a b c e i : Int) : AS := mkS 31 [(5, .ptr 0 0), (6, .d (.sl .part l)), (7, i64 i)] [(0, .box [i64 a, i64 b, i64 c, i64 e])] 1


theorem t92b (x y : List Go.VL.Box) (i : Int) : @Eq (Out (TyTup [.int])) (aexec Tryz.prog codes sigs Tryz.f125 (pureFin [.int]) 0 noCut 200 true (hd Tryz.f125 1) (L92b x y i)) (bif decide (i < (y.length : Int)) then .need (((0 : Int) ≤ i ∧ i < (y.length : Int)) ∧ True) (.need ((True ∧ True ∧ True) ∧ True) (.callP 203 [Sigma.mk .box (y.getD i.toNat Ty.box.dflt)] [.bool] fun (x_1 : Bool) => bif !x_1 then .need (True ∧ True) (.ret (82 : Int)) else .stop (hd Tryz.f125 1) (mkS 78 [(4, .d (.sl .box x)), (5, .d (.sl .box y)), (60, .d (.sl .box y)), (61, .d (.v (.int .i64 (y.length : Int)))), (62, .d (.v (.int .i64 (IntKind.wrap .i64 (i + (1 : Int))))))] [] 0))) else .need ((True ∧ True) ∧ True) (.callP 141 [Sigma.mk (.sl .box) x] [.int] fun (x : Int) => bif decide (x > (384 : Int)) then .need (True ∧ True) (.ret (2 : Int)) else .need ((True ∧ True) ∧ True) (.callP 141 [Sigma.mk (.sl .box) y] [.int] fun (x : Int) => bif decide (x > (384 : Int)) then .need (True ∧ True) (.ret (2 : Int)) else .need (True ∧ True) (.ret (0 : Int))))) := by kernel_rfl

theorem t89b (d : Deck) (w t i : Int) : @Eq (Out (TyTup [.int])) (aexec Tryz.prog codes sigs Tryz.f153 (pureFin [.int]) 0 noCut 200 true (hd Tryz.f153 1) (L89b d w t i)) (bif decide (i < (↑(List.length (Deck.racks d)) : Int)) then .need (((0 : Int) ≤ i ∧ i < (↑(List.length (Deck.racks d)) : Int)) ∧ True) (.need (((0 : Int) ≤ i ∧ i < (↑(List.length (Deck.racks d)) : Int)) ∧ True) (.need ((True ∧ True) ∧ (True ∧ True) ∧ True) (.callP 220 [Sigma.mk .int (Rack.rows (List.getD (Deck.racks d) (Int.toNat i) Ty.rack.dflt)), Sigma.mk .int (Rack.cols (List.getD (Deck.racks d) (Int.toNat i) Ty.rack.dflt))] [.bool] fun (x : Bool) => bif !x then .need (True ∧ True) (.ret (82 : Int)) else .need (((0 : Int) ≤ i ∧ i < (↑(List.length (Deck.racks d)) : Int)) ∧ True) (.need (((0 : Int) ≤ i ∧ i < (↑(List.length (Deck.racks d)) : Int)) ∧ True) (.stop (hd Tryz.f153 1) (mkS 103 [(1, .ptr 0 0), (4, .d (.v (.int .i64 w))), (5, .d (.v (.int .i64 (IntKind.wrap .i64 (t + IntKind.wrap .i64 (Rack.rows (List.getD (Deck.racks d) (Int.toNat i) Ty.rack.dflt) * Rack.cols (List.getD (Deck.racks d) (Int.toNat i) Ty.rack.dflt))))))), (7, .d (.v (.int .i64 (IntKind.wrap .i64 (i + (1 : Int))))))] [(0, .box [.d (.sl .flt (Deck.borders d)), .d (.sl .plate (Deck.plates d)), .d (.sl .rack (Deck.racks d)), .d (.v (.int .i64 (Deck.arms d)))])] 1)))))) else bif decide (w > (384 : Int)) then .need (True ∧ True) (.ret (2 : Int)) else bif decide (t > (384 : Int)) then .need (True ∧ True) (.ret (2 : Int)) else .need (True ∧ True) (.ret (0 : Int))) := by kernel_rfl

theorem t124b (k u r c : Int) (out : List Part) (i j : Int) : @Eq (Out (TyTup [.sl .part])) (aexec Tryz.prog codes sigs Tryz.f154 (pureFin [.sl .part]) 0 noCut 200 true (hd Tryz.f154 1) (L124b k u r c out i j)) (bif decide (j < c) then .need ((True ∧ True ∧ True ∧ True ∧ True) ∧ True) (.need ((List.length out + List.length [Part.mk k u i j]) * 33 ≤ 35184372088832 ∧ True) (.stop (hd Tryz.f154 1) (mkS 31 [(0, .d (.v (.int .i64 k))), (1, .d (.v (.int .i64 u))), (2, .d (.v (.int .i64 r))), (3, .d (.v (.int .i64 c))), (9, .own 0 .part), (10, .d (.v (.int .i64 i))), (11, .d (.v (.int .i64 (IntKind.wrap .i64 (j + (1 : Int))))))] [(0, .row 179 .part (out ++ [Part.mk k u i j]))] 1))) else .stop (hd Tryz.f154 0) (mkS 31 [(0, .d (.v (.int .i64 k))), (1, .d (.v (.int .i64 u))), (2, .d (.v (.int .i64 r))), (3, .d (.v (.int .i64 c))), (9, .own 0 .part), (10, .d (.v (.int .i64 (IntKind.wrap .i64 (i + (1 : Int))))))] [(0, .row 179 .part out)] 1)) := by kernel_rfl

theorem t90b (d : Deck) (out : List Part) (i : Int) : @Eq (Out (TyTup [.sl .part])) (aexec Tryz.prog codes sigs Tryz.f88 (pureFin [.sl .part]) 0 noCut 200 true (hd Tryz.f88 1) (L90b d out i)) (bif decide (i < (↑(List.length (Deck.racks d)) : Int)) then .need (((0 : Int) ≤ i ∧ i < (↑(List.length (Deck.racks d)) : Int)) ∧ True) (.need (((0 : Int) ≤ i ∧ i < (↑(List.length (Deck.racks d)) : Int)) ∧ True) (.need ((True ∧ True) ∧ (True ∧ True) ∧ (True ∧ True) ∧ (True ∧ True) ∧ True) (.callP 154 [Sigma.mk .int (2 : Int), ⟨.int, i⟩, Sigma.mk .int (Rack.rows (List.getD (Deck.racks d) (Int.toNat i) Ty.rack.dflt)), Sigma.mk .int (Rack.cols (List.getD (Deck.racks d) (Int.toNat i) Ty.rack.dflt))] [.sl .part] fun (x : List Part) => .need ((List.length out + List.length x) * 33 ≤ 35184372088832 ∧ True) (.stop (hd Tryz.f88 1) (mkS 71 [(1, .ptr 0 0), (3, .own 1 .part), (5, .d (.v (.int .i64 (IntKind.wrap .i64 (i + (1 : Int))))))] [(0, .box [.d (.sl .flt (Deck.borders d)), .d (.sl .plate (Deck.plates d)), .d (.sl .rack (Deck.racks d)), .d (.v (.int .i64 (Deck.arms d)))]), (1, .row 179 .part (out ++ x))] 2))))) else .stop (hd Tryz.f88 2) (mkS 71 [(1, .ptr 0 0), (3, .own 1 .part), (6, .d (.v (.int .i64 (0 : Int))))] [(0, .box [.d (.sl .flt (Deck.borders d)), .d (.sl .plate (Deck.plates d)), .d (.sl .rack (Deck.racks d)), .d (.v (.int .i64 (Deck.arms d)))]), (1, .row 179 .part out)] 2)) := by kernel_rfl

theorem t90c (d : Deck) (out : List Part) (i : Int) : @Eq (Out (TyTup [.sl .part])) (aexec Tryz.prog codes sigs Tryz.f88 (pureFin [.sl .part]) 0 noCut 200 true (hd Tryz.f88 2) (L90c d out i)) (bif decide (i < IntKind.wrap .i64 ((↑(List.length (Deck.borders d)) : Int) - (1 : Int))) then .need ((True ∧ True ∧ True ∧ True ∧ True) ∧ True) (.need ((List.length out + List.length [Part.mk (3 : Int) i (0 : Int) (0 : Int)]) * 33 ≤ 35184372088832 ∧ True) (.stop (hd Tryz.f88 2) (mkS 71 [(1, .ptr 0 0), (3, .own 1 .part), (6, .d (.v (.int .i64 (IntKind.wrap .i64 (i + (1 : Int))))))] [(0, .box [.d (.sl .flt (Deck.borders d)), .d (.sl .plate (Deck.plates d)), .d (.sl .rack (Deck.racks d)), .d (.v (.int .i64 (Deck.arms d)))]), (1, .row 179 .part (out ++ [Part.mk (3 : Int) i (0 : Int) (0 : Int)]))] 2))) else .need (True ∧ True) (.ret out)) := by kernel_rfl

theorem t148a (l : List Part) (a b c e i : Int) : @Eq (Out (TyTup [.int, .int, .int])) (aexec Tryz.prog codes sigs Tryz.f152 (pureFin [.int, .int, .int]) 0 noCut 200 true (hd Tryz.f152 0) (L148 l a b c e i)) (bif decide (i < (l.length : Int)) then .need (((0 : Int) ≤ i ∧ i < (l.length : Int)) ∧ True) (bif Part.kind (l.getD i.toNat Ty.part.dflt) == (↑(nat_lit 3) : Int) then bif Part.kind (l.getD i.toNat Ty.part.dflt) == (↑(nat_lit 3) : Int) then .stop (hd Tryz.f152 0) (mkS 31 [(5, .ptr 0 0), (6, .d (.sl .part l)), (7, .d (.v (.int .i64 (IntKind.wrap .i64 (i + (1 : Int))))))] [(0, .box [.d (.v (.int .i64 a)), .d (.v (.int .i64 b)), .d (.v (.int .i64 c)), .d (.v (.int .i64 (IntKind.wrap .i64 (e + (1 : Int)))))])] 1) else bif Part.kind (l.getD i.toNat Ty.part.dflt) == (↑(nat_lit 2) : Int) then .stop (hd Tryz.f152 0) (mkS 31 [(5, .ptr 0 0), (6, .d (.sl .part l)), (7, .d (.v (.int .i64 (IntKind.wrap .i64 (i + (1 : Int))))))] [(0, .box [.d (.v (.int .i64 a)), .d (.v (.int .i64 b)), .d (.v (.int .i64 (IntKind.wrap .i64 (e + (1 : Int))))), .d (.v (.int .i64 e))])] 1) else bif Part.kind (l.getD i.toNat Ty.part.dflt) == (↑(nat_lit 1) : Int) then .stop (hd Tryz.f152 0) (mkS 31 [(5, .ptr 0 0), (6, .d (.sl .part l)), (7, .d (.v (.int .i64 (IntKind.wrap .i64 (i + (1 : Int))))))] [(0, .box [.d (.v (.int .i64 a)), .d (.v (.int .i64 (IntKind.wrap .i64 (e + (1 : Int))))), .d (.v (.int .i64 c)), .d (.v (.int .i64 e))])] 1) else bif Part.kind (l.getD i.toNat Ty.part.dflt) == (↑(nat_lit 0) : Int) then .stop (hd Tryz.f152 0) (mkS 31 [(5, .ptr 0 0), (6, .d (.sl .part l)), (7, .d (.v (.int .i64 (IntKind.wrap .i64 (i + (1 : Int))))))] [(0, .box [.d (.v (.int .i64 (IntKind.wrap .i64 (e + (1 : Int))))), .d (.v (.int .i64 b)), .d (.v (.int .i64 c)), .d (.v (.int .i64 e))])] 1) else .fail else bif Part.kind (l.getD i.toNat Ty.part.dflt) == (↑(nat_lit 2) : Int) then bif Part.kind (l.getD i.toNat Ty.part.dflt) == (↑(nat_lit 3) : Int) then .stop (hd Tryz.f152 0) (mkS 31 [(5, .ptr 0 0), (6, .d (.sl .part l)), (7, .d (.v (.int .i64 (IntKind.wrap .i64 (i + (1 : Int))))))] [(0, .box [.d (.v (.int .i64 a)), .d (.v (.int .i64 b)), .d (.v (.int .i64 c)), .d (.v (.int .i64 (IntKind.wrap .i64 (c + (1 : Int)))))])] 1) else bif Part.kind (l.getD i.toNat Ty.part.dflt) == (↑(nat_lit 2) : Int) then .stop (hd Tryz.f152 0) (mkS 31 [(5, .ptr 0 0), (6, .d (.sl .part l)), (7, .d (.v (.int .i64 (IntKind.wrap .i64 (i + (1 : Int))))))] [(0, .box [.d (.v (.int .i64 a)), .d (.v (.int .i64 b)), .d (.v (.int .i64 (IntKind.wrap .i64 (c + (1 : Int))))), .d (.v (.int .i64 e))])] 1) else bif Part.kind (l.getD i.toNat Ty.part.dflt) == (↑(nat_lit 1) : Int) then .stop (hd Tryz.f152 0) (mkS 31 [(5, .ptr 0 0), (6, .d (.sl .part l)), (7, .d (.v (.int .i64 (IntKind.wrap .i64 (i + (1 : Int))))))] [(0, .box [.d (.v (.int .i64 a)), .d (.v (.int .i64 (IntKind.wrap .i64 (c + (1 : Int))))), .d (.v (.int .i64 c)), .d (.v (.int .i64 e))])] 1) else bif Part.kind (l.getD i.toNat Ty.part.dflt) == (↑(nat_lit 0) : Int) then .stop (hd Tryz.f152 0) (mkS 31 [(5, .ptr 0 0), (6, .d (.sl .part l)), (7, .d (.v (.int .i64 (IntKind.wrap .i64 (i + (1 : Int))))))] [(0, .box [.d (.v (.int .i64 (IntKind.wrap .i64 (c + (1 : Int))))), .d (.v (.int .i64 b)), .d (.v (.int .i64 c)), .d (.v (.int .i64 e))])] 1) else .fail else bif Part.kind (l.getD i.toNat Ty.part.dflt) == (↑(nat_lit 1) : Int) then bif Part.kind (l.getD i.toNat Ty.part.dflt) == (↑(nat_lit 3) : Int) then .stop (hd Tryz.f152 0) (mkS 31 [(5, .ptr 0 0), (6, .d (.sl .part l)), (7, .d (.v (.int .i64 (IntKind.wrap .i64 (i + (1 : Int))))))] [(0, .box [.d (.v (.int .i64 a)), .d (.v (.int .i64 b)), .d (.v (.int .i64 c)), .d (.v (.int .i64 (IntKind.wrap .i64 (b + (1 : Int)))))])] 1) else bif Part.kind (l.getD i.toNat Ty.part.dflt) == (↑(nat_lit 2) : Int) then .stop (hd Tryz.f152 0) (mkS 31 [(5, .ptr 0 0), (6, .d (.sl .part l)), (7, .d (.v (.int .i64 (IntKind.wrap .i64 (i + (1 : Int))))))] [(0, .box [.d (.v (.int .i64 a)), .d (.v (.int .i64 b)), .d (.v (.int .i64 (IntKind.wrap .i64 (b + (1 : Int))))), .d (.v (.int .i64 e))])] 1) else bif Part.kind (l.getD i.toNat Ty.part.dflt) == (↑(nat_lit 1) : Int) then .stop (hd Tryz.f152 0) (mkS 31 [(5, .ptr 0 0), (6, .d (.sl .part l)), (7, .d (.v (.int .i64 (IntKind.wrap .i64 (i + (1 : Int))))))] [(0, .box [.d (.v (.int .i64 a)), .d (.v (.int .i64 (IntKind.wrap .i64 (b + (1 : Int))))), .d (.v (.int .i64 c)), .d (.v (.int .i64 e))])] 1) else bif Part.kind (l.getD i.toNat Ty.part.dflt) == (↑(nat_lit 0) : Int) then .stop (hd Tryz.f152 0) (mkS 31 [(5, .ptr 0 0), (6, .d (.sl .part l)), (7, .d (.v (.int .i64 (IntKind.wrap .i64 (i + (1 : Int))))))] [(0, .box [.d (.v (.int .i64 (IntKind.wrap .i64 (b + (1 : Int))))), .d (.v (.int .i64 b)), .d (.v (.int .i64 c)), .d (.v (.int .i64 e))])] 1) else .fail else bif Part.kind (l.getD i.toNat Ty.part.dflt) == (↑(nat_lit 0) : Int) then bif Part.kind (l.getD i.toNat Ty.part.dflt) == (↑(nat_lit 3) : Int) then .stop (hd Tryz.f152 0) (mkS 31 [(5, .ptr 0 0), (6, .d (.sl .part l)), (7, .d (.v (.int .i64 (IntKind.wrap .i64 (i + (1 : Int))))))] [(0, .box [.d (.v (.int .i64 a)), .d (.v (.int .i64 b)), .d (.v (.int .i64 c)), .d (.v (.int .i64 (IntKind.wrap .i64 (a + (1 : Int)))))])] 1) else bif Part.kind (l.getD i.toNat Ty.part.dflt) == (↑(nat_lit 2) : Int) then .stop (hd Tryz.f152 0) (mkS 31 [(5, .ptr 0 0), (6, .d (.sl .part l)), (7, .d (.v (.int .i64 (IntKind.wrap .i64 (i + (1 : Int))))))] [(0, .box [.d (.v (.int .i64 a)), .d (.v (.int .i64 b)), .d (.v (.int .i64 (IntKind.wrap .i64 (a + (1 : Int))))), .d (.v (.int .i64 e))])] 1) else bif Part.kind (l.getD i.toNat Ty.part.dflt) == (↑(nat_lit 1) : Int) then .stop (hd Tryz.f152 0) (mkS 31 [(5, .ptr 0 0), (6, .d (.sl .part l)), (7, .d (.v (.int .i64 (IntKind.wrap .i64 (i + (1 : Int))))))] [(0, .box [.d (.v (.int .i64 a)), .d (.v (.int .i64 (IntKind.wrap .i64 (a + (1 : Int))))), .d (.v (.int .i64 c)), .d (.v (.int .i64 e))])] 1) else bif Part.kind (l.getD i.toNat Ty.part.dflt) == (↑(nat_lit 0) : Int) then .stop (hd Tryz.f152 0) (mkS 31 [(5, .ptr 0 0), (6, .d (.sl .part l)), (7, .d (.v (.int .i64 (IntKind.wrap .i64 (i + (1 : Int))))))] [(0, .box [.d (.v (.int .i64 (IntKind.wrap .i64 (a + (1 : Int))))), .d (.v (.int .i64 b)), .d (.v (.int .i64 c)), .d (.v (.int .i64 e))])] 1) else .fail else .fail) else .need ((True ∧ True) ∧ (True ∧ True) ∧ True ∧ True) (.ret (b, c, e))) := by kernel_rfl

end Go.Proofs.Zn

/- The deck's ids: contracts. (Own work.) -/
namespace Go.Proofs.Zn
open Go Go.VL

theorem lenP (d : Deck) : (boxesP d).length = d.plates.length := by simp [boxesP]
theorem lenR (d : Deck) : (boxesR d).length = d.racks.length := by simp [boxesR]
def endS (d : Deck) : Int := bif decide (sumI (boxesP d) > 384) then 2 else bif decide (sumI (boxesR d) > 384) then 2 else 0
theorem deck_eq (d : Deck) : deckS d = bif checkS d.borders != 0 then checkS d.borders else bif decide (d.arms < 1) then 80 else bif decide (d.arms > 8) then 80 else
    bif decide ((d.plates.length : Int) > 4) then 2 else bif decide ((d.racks.length : Int) > 4) then 2 else bif !d.plates.all plateOk then 81 else bif !(boxesR d).all boxOk then 82 else endS d := rfl

theorem loop92b {d : Deck} (hp : d.plates.length ≤ 4) (hr : d.racks.length ≤ 4) (hbp : ∀ b ∈ boxesP d, boxOk b = true) {r : Int} {A : List Item → AS → Prop}
    (hA : Closed Tryz.prog codes sigs Tryz.f125 (pureFin [.int]) (fun y => y = r) 0 A) (i : Nat) (hi : i ≤ (boxesR d).length) (hpre : ∀ b ∈ (boxesR d).take i, boxOk b = true)
    (h : (bif !((boxesR d).drop i).all boxOk then 82 else endS d) = r) : A (hd Tryz.f125 1) (L92b (boxesP d) (boxesR d) i) := by
  have e1 := lenP d
  have e2 := lenR d
  refine hA.go (t92b _ _ i) (sat_bif (fun h1 => ?_) (fun h1 => ?_))
  · have h1 := of_decide_eq_true h1
    have hil : i < (boxesR d).length := by omega
    rw [getD_int hil]
    rw [List.drop_eq_getElem_cons hil, List.all_cons] at h
    refine ⟨⟨⟨by omega, by omega⟩, trivial⟩, ⟨T3', trivial⟩, _, c126 _, sat_bif (fun h2 => ?_) (fun h2 => ?_)⟩
    · rw [nt h2] at h; exact ⟨⟨trivial, trivial⟩, h⟩
    · have h2 := nf h2
      rw [h2, Bool.true_and] at h
      rw [wrap_succ (by omega)]
      refine loop92b hp hr hbp hA (i + 1) (by omega) (fun b hb => ?_) h
      rw [List.take_succ_eq_append_getElem hil] at hb
      rcases List.mem_append.1 hb with e | e
      · exact hpre b e
      · rw [List.mem_singleton.1 e]; exact h2
  · have h1 := of_decide_eq_false h1
    rw [List.drop_eq_nil_of_le (by omega)] at h
    have h : endS d = r := h
    have hbr : ∀ b ∈ boxesR d, boxOk b = true := fun b hb => hpre b (by rw [List.take_of_length_le (by omega)]; exact hb)
    unfold endS at h
    refine ⟨⟨⟨trivial, trivial⟩, trivial⟩, _, c128 (by omega) hbp, sat_bif (fun h3 => ?_) (fun h3 => ⟨⟨⟨trivial, trivial⟩, trivial⟩, _, c128 (by omega) hbr, sat_bif (fun h4 => ?_) (fun h4 => ?_)⟩)⟩
    · rw [h3] at h; exact ⟨⟨trivial, trivial⟩, h⟩
    · rw [h3, h4] at h; exact ⟨⟨trivial, trivial⟩, h⟩
    · rw [h3, h4] at h; exact ⟨⟨trivial, trivial⟩, h⟩
termination_by (boxesR d).length - i
theorem loop92a {d : Deck} (hp : d.plates.length ≤ 4) (hr : d.racks.length ≤ 4) {r : Int} {A : List Item → AS → Prop}
    (hA : Closed Tryz.prog codes sigs Tryz.f125 (pureFin [.int]) (fun y => y = r) 0 A) (i : Nat) (hi : i ≤ d.plates.length) (hpre : ∀ p ∈ d.plates.take i, plateOk p = true)
    (h : (bif !(d.plates.drop i).all plateOk then 81 else bif !(boxesR d).all boxOk then 82 else endS d) = r) : A (hd Tryz.f125 0) (L92 d (boxesP d) (boxesR d) i) := by
  have e1 := lenP d
  have e2 := lenR d
  refine hA.go (t92a d _ _ i) (sat_bif (fun h1 => ?_) (fun h1 => ?_))
  · have h1 := of_decide_eq_true h1
    have hil : i < d.plates.length := by omega
    have hib : i < (boxesP d).length := by omega
    have eb : (boxesP d)[i] = pbox d.plates[i] := by simp [boxesP]
    rw [getD_int hil, getD_int hib, eb]
    rw [List.drop_eq_getElem_cons hil, List.all_cons] at h
    refine ⟨⟨⟨by omega, by omega⟩, trivial⟩, ⟨T3', trivial⟩, _, c126 _, sat_bif (fun h2 => ?_) (fun h2 => ?_)⟩
    · have h2 := nt h2
      have : plateOk d.plates[i] = false := by unfold plateOk; rw [h2]; rfl
      rw [this] at h; exact ⟨⟨trivial, trivial⟩, h⟩
    · have h2 := nf h2
      have e3 : plateOk d.plates[i] = holdsS d.plates[i] := by unfold plateOk; rw [h2]; rfl
      refine ⟨⟨⟨by omega, by omega⟩, trivial⟩, ⟨⟨trivial, trivial, trivial, trivial, trivial, trivial, trivial, trivial⟩, trivial⟩, _, c127 h2, sat_bif (fun h3 => ?_) (fun h3 => ?_)⟩
      · rw [e3, nt h3] at h; exact ⟨⟨trivial, trivial⟩, h⟩
      · have h3 := nf h3
        rw [e3, h3, Bool.true_and] at h
        rw [wrap_succ (by omega)]
        refine loop92a hp hr hA (i + 1) (by omega) (fun b hb => ?_) h
        rw [List.take_succ_eq_append_getElem hil] at hb
        rcases List.mem_append.1 hb with e | e
        · exact hpre b e
        · rw [List.mem_singleton.1 e, e3]; exact h3
  · have h1 := of_decide_eq_false h1
    rw [List.drop_eq_nil_of_le (by omega)] at h
    refine loop92b hp hr (fun b hb => ?_) hA 0 (by omega) (fun b hb => by simp at hb) h
    obtain ⟨p, hp', rfl⟩ := List.mem_map.1 hb
    have := hpre p (by rw [List.take_of_length_le (by omega)]; exact hp')
    unfold plateOk at this
    cases hq : boxOk (pbox p)
    · rw [hq] at this; cases this
    · rfl
termination_by d.plates.length - i
theorem c92 (d : Deck) : Pure Tryz.prog 125 [⟨.deck, d⟩] [.int] (deckS d) :=
  Pure.of_closed (C := codes) (S := sigs) mixed Tryz.func125 (by kernel_rfl) (Nat.le_of_ble_eq_true (by kernel_rfl)) fun A hA => hA.go (t92 d) (by
    have hr := deck_eq d
    generalize deckS d = r at hr hA ⊢
    refine ⟨⟨⟨trivial, trivial⟩, trivial⟩, _, c125 _, sat_bif (fun h1 => ?_) (fun h1 => sat_bif (fun h2 => ?_) (fun h2 => sat_bif (fun h3 => ?_) (fun h3 => sat_bif (fun h4 => ?_) (fun h4 => sat_bif (fun h5 => ?_) (fun h5 => ?_)))))⟩
    · rw [h1] at hr; exact ⟨⟨trivial, trivial⟩, hr.symm⟩
    · rw [h1, h2] at hr; exact ⟨⟨trivial, trivial⟩, hr.symm⟩
    · rw [h1, h2, h3] at hr; exact ⟨⟨trivial, trivial⟩, hr.symm⟩
    · rw [h1, h2, h3, h4] at hr; exact ⟨⟨trivial, trivial⟩, hr.symm⟩
    · rw [h1, h2, h3, h4, h5] at hr; exact ⟨⟨trivial, trivial⟩, hr.symm⟩
    · rw [h1, h2, h3, h4, h5] at hr
      have h4 := of_decide_eq_false h4
      have h5 := of_decide_eq_false h5
      refine ⟨⟨⟨trivial, trivial, trivial, trivial, trivial⟩, trivial⟩, _, c117 (by omega), ⟨⟨trivial, trivial, trivial, trivial, trivial⟩, trivial⟩, _, c118 (by omega), ?_⟩
      exact loop92a (by omega) (by omega) hA 0 (by omega) (fun p hp => by simp at hp) hr.symm)

abbrev T5' : True ∧ True ∧ True ∧ True ∧ True := ⟨trivial, trivial, trivial, trivial, trivial⟩
abbrev T2' : True ∧ True := ⟨trivial, trivial⟩
/-- How many there are of each kind. -/
def countS (d : Deck) : Int × Int × Int := bif deckS d != 0 then (0, 0, 0) else (sumI (boxesP d), sumI (boxesR d), (d.borders.length : Int) - 1)
theorem c115 (d : Deck) : Pure Tryz.prog 84 [⟨.deck, d⟩] [.int, .int, .int] (countS d) :=
  ofT Tryz.func84 (t115 d) (by kernel_rfl) (by kernel_rfl) fun A => by
    unfold countS
    refine ⟨⟨T5', trivial⟩, _, c92 d, sat_bif (fun h => ?_) (fun h => ?_)⟩
    · rw [h]; exact ⟨⟨T2', T2', T2'⟩, rfl⟩
    · rw [h]
      have hd : DeckOk d := deck_ok (by simpa using h)
      have e1 := lenP d
      have e2 := lenR d
      have h3 := hd.lanes
      have h4 := hd.plates
      have h5 := hd.racks
      refine ⟨⟨T5', trivial⟩, _, c117 (by omega), ⟨T2', trivial⟩, _, c128 (by omega) hd.boxP, ⟨T5', trivial⟩, _, c118 (by omega), ⟨T2', trivial⟩, _, c128 (by omega) hd.boxR, ⟨T2', T2', T2'⟩, ?_⟩
      rw [wrap_i64 (by omega) (by omega)]; rfl

theorem loop116 {l : List Go.VL.Box} {k : Int} (hl : l.length ≤ 1000) (hb : ∀ b ∈ l, boxOk b = true) {r : Part} {A : List Item → AS → Prop}
    (hA : Closed Tryz.prog codes sigs Tryz.f208 (pureFin [.part]) (fun y => y = r) 0 A) (i : Nat) (hi : i ≤ l.length) (n : Int) (h0 : 0 ≤ n) (h9 : n ≤ 1000000)
    (h : placeGo k i (l.drop i) n = r) : A (hd Tryz.f208 0) (L116 l k n i) := by
  refine hA.go (t116a l k n i) (sat_bif (fun h1 => ?_) (fun h1 => ?_))
  · have h1 := of_decide_eq_true h1
    have hil : i < l.length := by omega
    have hbi := hb l[i] (List.getElem_mem _)
    have hs := box_size hbi
    obtain ⟨b1, b2, b3, b4⟩ := boxOk_iff.1 hbi
    rw [getD_int hil]
    rw [List.drop_eq_getElem_cons hil, placeGo] at h
    refine ⟨⟨⟨by omega, by omega⟩, trivial⟩, ⟨T3', trivial⟩, _, c141 hbi, sat_bif (fun h2 => ?_) (fun h2 => ?_)⟩
    · rw [h2] at h
      have hq : 0 ≤ n / l[i].cols := Int.ediv_nonneg h0 (by omega)
      have hq2 : n / l[i].cols ≤ n := Int.ediv_le_self _ h0
      refine ⟨by omega, by omega, T5', ?_⟩
      rw [Int.tdiv_eq_ediv_of_nonneg h0, Int.tmod_eq_emod_of_nonneg h0, wrap_i64 (by omega) (by omega)]
      exact h
    · rw [h2, cond_false] at h
      have h2 := of_decide_eq_false h2
      refine ⟨⟨T3', trivial⟩, _, c141 hbi, ?_⟩
      show A (hd Tryz.f208 0) (L116 l k (IntKind.i64.wrap (n - l[i].rows * l[i].cols)) (IntKind.i64.wrap ((i : Int) + 1)))
      rw [wrap_succ (by omega), wrap_i64 (by omega) (by omega)]
      exact loop116 hl hb hA (i + 1) (by omega) _ (by omega) (by omega) h
  · have h1 := of_decide_eq_false h1
    refine ⟨T5', ?_⟩
    rw [List.drop_eq_nil_of_le (by omega)] at h
    exact h
termination_by l.length - i
theorem c116 {l : List Go.VL.Box} {k n : Int} (hl : l.length ≤ 1000) (hb : ∀ b ∈ l, boxOk b = true) (h0 : 0 ≤ n) (h9 : n ≤ 1000000) : Pure Tryz.prog 208 [⟨.sl .box, l⟩, ⟨.int, k⟩, ⟨.int, n⟩] [.part] (placeGo k 0 l n) :=
  Pure.of_closed (C := codes) (S := sigs) mixed Tryz.func208 (by kernel_rfl) (Nat.le_of_ble_eq_true (by kernel_rfl)) fun A hA => hA.go (t116 l k n)
    (loop116 hl hb hA 0 (by omega) n h0 h9 rfl)

theorem c84 (d : Deck) (i : Int) : Pure Tryz.prog 130 [⟨.deck, d⟩, ⟨.int, i⟩] [.part, .int] (partS d i) :=
  ofT Tryz.func130 (t84 d i) (by kernel_rfl) (by kernel_rfl) fun A => by
    have hr : partS d i = partS d i := rfl
    generalize hp : partS d i = r at hr ⊢
    unfold partS at hp
    refine ⟨⟨T5', trivial⟩, _, c92 d, sat_bif (fun h => ?_) (fun h => ?_)⟩
    · rw [h] at hp; exact ⟨⟨T5', T2'⟩, hp⟩
    · rw [h, cond_false] at hp
      have hd : DeckOk d := deck_ok (by simpa using h)
      have hc : countS d = (sumI (boxesP d), sumI (boxesR d), (d.borders.length : Int) - 1) := by unfold countS; rw [h]; rfl
      have e1 := lenP d
      have e2 := lenR d
      have hl := hd.lanes
      have hw := hd.wells
      have ht := hd.tips
      have h4 := hd.plates
      have h5 := hd.racks
      have hn := parts_len hd
      refine ⟨⟨T5', trivial⟩, _, (c115 d).eq hc, sat_bif (fun h1 => ?_) (fun h1 => ?_)⟩
      · rw [h1] at hp; exact ⟨⟨T5', T2'⟩, hp⟩
      · rw [h1, cond_false] at hp
        have h1 := of_decide_eq_false h1
        have ew : IntKind.i64.wrap (IntKind.i64.wrap (sumI (boxesP d) + sumI (boxesR d)) + ((d.borders.length : Int) - 1)) = ((partsS d).length : Int) := by
          rw [wrap_i64 (n := sumI (boxesP d) + sumI (boxesR d)) (by omega) (by omega), wrap_i64 (by omega) (by omega)]; omega
        simp only
        rw [ew]
        refine sat_bif (fun h2 => ?_) (fun h2 => ?_)
        · rw [h2] at hp; exact ⟨⟨T5', T2'⟩, hp⟩
        · rw [h2, cond_false] at hp
          have h2 := of_decide_eq_false h2
          have hg := parts_get hd (i := i) (by omega) (by omega)
          rw [List.getD_eq_getElem?_getD, hg, Option.getD_some] at hp
          rw [wrap_i64 (n := sumI (boxesP d) + sumI (boxesR d)) (by omega) (by omega)]
          refine sat_bif (fun h6 => ?_) (fun h6 => sat_bif (fun h7 => ?_) (fun h7 => ?_))
          · rw [h6, cond_true] at hp
            have h6 := of_decide_eq_true h6
            exact ⟨⟨T5', trivial⟩, _, c117 (by omega), ⟨T2', T2', T2', trivial⟩, _, c116 (by omega) hd.boxP (by omega) (by omega), ⟨T5', T2'⟩, hp⟩
          · rw [h6, h7, cond_false, cond_true] at hp
            have h6 := of_decide_eq_false h6
            have h7 := of_decide_eq_true h7
            rw [wrap_i64 (by omega) (by omega)]
            exact ⟨⟨T5', trivial⟩, _, c118 (by omega), ⟨T2', T2', T2', trivial⟩, _, c116 (by omega) hd.boxR (by omega) (by omega), ⟨T5', T2'⟩, hp⟩
          · rw [h6, h7, cond_false, cond_false] at hp
            have h6 := of_decide_eq_false h6
            have h7 := of_decide_eq_false h7
            rw [wrap_i64 (n := i - sumI (boxesP d)) (by omega) (by omega), wrap_i64 (by omega) (by omega)]
            exact ⟨⟨T5', T2'⟩, hp⟩
end Go.Proofs.Zn

/- The deck by definition: contracts. (Own work.) -/
namespace Go.Proofs.Zn
open Go Go.VL

theorem loop89b {d : Deck} (hr : d.racks.length ≤ 4) {w : Int} (hw : w = sumI (boxesP d)) {r : Int} {A : List Item → AS → Prop}
    (hA : Closed Tryz.prog codes sigs Tryz.f153 (pureFin [.int]) (fun y => y = r) 0 A) (i : Nat) (hi : i ≤ d.racks.length) (t : Int) (ht : 0 ≤ t ∧ t ≤ 1536 * (i : Int)) (hs : t + sumI ((boxesR d).drop i) = sumI (boxesR d))
    (h : (bif !((boxesR d).drop i).all boxOk then 82 else endS d) = r) : A (hd Tryz.f153 1) (L89b d w t i) := by
  have e2 := lenR d
  refine hA.go (t89b d w t i) (sat_bif (fun h1 => ?_) (fun h1 => ?_))
  · have h1 := of_decide_eq_true h1
    have hil : i < d.racks.length := by omega
    have hib : i < (boxesR d).length := by omega
    have eb : (boxesR d)[i] = rbox d.racks[i] := by simp [boxesR]
    rw [getD_int hil]
    rw [List.drop_eq_getElem_cons hib, List.all_cons, eb] at h
    rw [List.drop_eq_getElem_cons hib, eb, sumI] at hs
    refine ⟨⟨⟨by omega, by omega⟩, trivial⟩, ⟨⟨by omega, by omega⟩, trivial⟩, ⟨T2', T2', trivial⟩, _, c123 _ _, sat_bif (fun h2 => ?_) (fun h2 => ?_)⟩
    · have h2 : boxOk (rbox d.racks[i]) = false := nt h2
      rw [h2] at h; exact ⟨⟨trivial, trivial⟩, h⟩
    · have h2 : boxOk (rbox d.racks[i]) = true := nf h2
      rw [h2, Bool.true_and] at h
      have hb : 1 ≤ d.racks[i].rows * d.racks[i].cols ∧ d.racks[i].rows * d.racks[i].cols ≤ 1536 := box_size h2
      have hs : t + (d.racks[i].rows * d.racks[i].cols + sumI ((boxesR d).drop (i + 1))) = sumI (boxesR d) := hs
      refine ⟨⟨⟨by omega, by omega⟩, trivial⟩, ⟨⟨by omega, by omega⟩, trivial⟩, ?_⟩
      rw [wrap_succ (by omega), wrap_i64 (n := d.racks[i].rows * d.racks[i].cols) (by omega) (by omega), wrap_i64 (by omega) (by omega)]
      exact loop89b hr hw hA (i + 1) (by omega) _ ⟨by omega, by omega⟩ (by omega) h
  · have h1 := of_decide_eq_false h1
    rw [List.drop_eq_nil_of_le (by omega)] at h hs
    have h : endS d = r := h
    have ht : t = sumI (boxesR d) := by simpa [sumI] using hs
    unfold endS at h
    rw [hw, ht]
    refine sat_bif (fun h3 => ?_) (fun h3 => sat_bif (fun h4 => ?_) (fun h4 => ?_))
    · rw [h3] at h; exact ⟨⟨trivial, trivial⟩, h⟩
    · rw [h3, h4] at h; exact ⟨⟨trivial, trivial⟩, h⟩
    · rw [h3, h4] at h; exact ⟨⟨trivial, trivial⟩, h⟩
termination_by d.racks.length - i
theorem loop89a {d : Deck} (hp : d.plates.length ≤ 4) (hr : d.racks.length ≤ 4) {r : Int} {A : List Item → AS → Prop}
    (hA : Closed Tryz.prog codes sigs Tryz.f153 (pureFin [.int]) (fun y => y = r) 0 A) (i : Nat) (hi : i ≤ d.plates.length) (w : Int) (hw : 0 ≤ w ∧ w ≤ 1536 * (i : Int)) (hs : w + sumI ((boxesP d).drop i) = sumI (boxesP d))
    (h : (bif !(d.plates.drop i).all plateOk then 81 else bif !(boxesR d).all boxOk then 82 else endS d) = r) : A (hd Tryz.f153 0) (L89 d w 0 i) := by
  have e1 := lenP d
  refine hA.go (t89a d w 0 i) (sat_bif (fun h1 => ?_) (fun h1 => ?_))
  · have h1 := of_decide_eq_true h1
    have hil : i < d.plates.length := by omega
    have hib : i < (boxesP d).length := by omega
    have eb : (boxesP d)[i] = pbox d.plates[i] := by simp [boxesP]
    rw [getD_int hil]
    rw [List.drop_eq_getElem_cons hil, List.all_cons] at h
    rw [List.drop_eq_getElem_cons hib, eb, sumI] at hs
    refine ⟨⟨⟨by omega, by omega⟩, trivial⟩, ⟨⟨trivial, trivial, trivial, trivial, trivial, trivial, trivial, trivial⟩, trivial⟩, _, c122 _, sat_bif (fun h2 => ?_) (fun h2 => ?_)⟩
    · rw [nt h2] at h; exact ⟨⟨trivial, trivial⟩, h⟩
    · have h2 := nf h2
      rw [h2, Bool.true_and] at h
      have hq : boxOk (pbox d.plates[i]) = true := by
        unfold plateOk at h2
        cases hq : boxOk (pbox d.plates[i])
        · rw [hq] at h2; cases h2
        · rfl
      have hb : 1 ≤ d.plates[i].rows * d.plates[i].cols ∧ d.plates[i].rows * d.plates[i].cols ≤ 1536 := box_size hq
      have hs : w + (d.plates[i].rows * d.plates[i].cols + sumI ((boxesP d).drop (i + 1))) = sumI (boxesP d) := hs
      refine ⟨⟨⟨by omega, by omega⟩, trivial⟩, ⟨⟨by omega, by omega⟩, trivial⟩, ?_⟩
      rw [wrap_succ (by omega), wrap_i64 (n := d.plates[i].rows * d.plates[i].cols) (by omega) (by omega), wrap_i64 (by omega) (by omega)]
      exact loop89a hp hr hA (i + 1) (by omega) _ ⟨by omega, by omega⟩ (by omega) h
  · have h1 := of_decide_eq_false h1
    rw [List.drop_eq_nil_of_le (by omega)] at h hs
    exact loop89b hr (by simpa [sumI] using hs) hA 0 (by omega) 0 ⟨by omega, by omega⟩ (by simp) h
termination_by d.plates.length - i
theorem c89 (d : Deck) : Pure Tryz.prog 153 [⟨.deck, d⟩] [.int] (deckS d) :=
  Pure.of_closed (C := codes) (S := sigs) mixed Tryz.func153 (by kernel_rfl) (Nat.le_of_ble_eq_true (by kernel_rfl)) fun A hA => hA.go (t89 d) (by
    have hr := deck_eq d
    generalize deckS d = r at hr hA ⊢
    refine ⟨⟨⟨trivial, trivial⟩, trivial⟩, _, c121 _, sat_bif (fun h1 => ?_) (fun h1 => sat_bif (fun h2 => ?_) (fun h2 => sat_bif (fun h3 => ?_) (fun h3 => sat_bif (fun h4 => ?_) (fun h4 => sat_bif (fun h5 => ?_) (fun h5 => ?_)))))⟩
    · rw [h1] at hr; exact ⟨⟨trivial, trivial⟩, hr.symm⟩
    · rw [h1, h2] at hr; exact ⟨⟨trivial, trivial⟩, hr.symm⟩
    · rw [h1, h2, h3] at hr; exact ⟨⟨trivial, trivial⟩, hr.symm⟩
    · rw [h1, h2, h3, h4] at hr; exact ⟨⟨trivial, trivial⟩, hr.symm⟩
    · rw [h1, h2, h3, h4, h5] at hr; exact ⟨⟨trivial, trivial⟩, hr.symm⟩
    · rw [h1, h2, h3, h4, h5] at hr
      have h4 := of_decide_eq_false h4
      have h5 := of_decide_eq_false h5
      exact loop89a (by omega) (by omega) hA 0 (by omega) 0 ⟨by omega, by omega⟩ (by simp) hr.symm)

/-! ### places -/
def plN (k u : Int) (c n : Nat) : List Part := (List.range n).map fun m : Nat => ⟨k, u, ((m / c : Nat) : Int), ((m % c : Nat) : Int)⟩
theorem plN_succ (k u : Int) {c i j : Nat} (hj : j < c) : plN k u c (i * c + j + 1) = plN k u c (i * c + j) ++ [⟨k, u, (i : Int), (j : Int)⟩] := by
  unfold plN
  rw [List.range_succ, List.map_append]
  congr 1
  have h1 : (i * c + j) / c = i := by rw [Nat.mul_comm, Nat.mul_add_div (by omega), Nat.div_eq_of_lt hj, Nat.add_zero]
  have h2 : (i * c + j) % c = j := by rw [Nat.mul_comm, Nat.mul_add_mod, Nat.mod_eq_of_lt hj]
  simp only [List.map_cons, List.map_nil, h1, h2]
theorem plN_len (k u : Int) (c n : Nat) : (plN k u c n).length = n := by simp [plN]
theorem loop124b {k u : Int} {R C : Nat} (hR : R ≤ 32) (hC : C ≤ 48) {r : List Part} {A : List Item → AS → Prop} (hA : Closed Tryz.prog codes sigs Tryz.f154 (pureFin [.sl .part]) (fun y => y = r) 0 A)
    (i : Nat) (hi : i < R) (hn : A (hd Tryz.f154 0) (L124 k u R C (plN k u C ((i + 1) * C)) ((i + 1 : Nat) : Int))) (j : Nat) (hj : j ≤ C) : A (hd Tryz.f154 1) (L124b k u R C (plN k u C (i * C + j)) i j) := by
  have hle : i * C ≤ 32 * 48 := Nat.mul_le_mul (by omega) hC
  refine hA.go (t124b k u R C _ i j) (sat_bif (fun h1 => ?_) (fun h1 => ?_))
  · have h1 := of_decide_eq_true h1
    refine ⟨⟨T5', trivial⟩, ⟨by rw [plN_len]; simp only [List.length_cons, List.length_nil]; omega, trivial⟩, ?_⟩
    rw [wrap_succ (by omega), ← plN_succ k u (by omega : j < C)]
    exact loop124b hR hC hA i hi hn (j + 1) (by omega)
  · have h1 := of_decide_eq_false h1
    have : j = C := by omega
    subst this
    rw [wrap_succ (by omega)]
    have e : i * j + j = (i + 1) * j := by rw [Nat.succ_mul]
    rw [e]
    exact hn
termination_by C - j
theorem loop124 {k u : Int} {R C : Nat} (hR : R ≤ 32) (hC : C ≤ 48) {r : List Part} (h : plN k u C (R * C) = r) {A : List Item → AS → Prop} (hA : Closed Tryz.prog codes sigs Tryz.f154 (pureFin [.sl .part]) (fun y => y = r) 0 A)
    (i : Nat) (hi : i ≤ R) : A (hd Tryz.f154 0) (L124 k u R C (plN k u C (i * C)) i) := by
  refine hA.go (t124a k u R C _ i) (sat_bif (fun h1 => ?_) (fun h1 => ?_))
  · have h1 := of_decide_eq_true h1
    exact loop124b hR hC hA i (by omega) (loop124 hR hC h hA (i + 1) (by omega)) 0 (by omega)
  · have h1 := of_decide_eq_false h1
    have : i = R := by omega
    subst this
    exact ⟨⟨trivial, trivial⟩, h⟩
termination_by R - i
theorem c124 {k u r c : Int} (h : boxOk ⟨r, c⟩ = true) : Pure Tryz.prog 154 [⟨.int, k⟩, ⟨.int, u⟩, ⟨.int, r⟩, ⟨.int, c⟩] [.sl .part] (placesS k u r c) := by
  obtain ⟨h1, h2, h3, h4⟩ := boxOk_iff.1 h
  simp only at h1 h2 h3 h4
  obtain ⟨R, rfl⟩ := Int.eq_ofNat_of_zero_le (show 0 ≤ r by omega)
  obtain ⟨C, rfl⟩ := Int.eq_ofNat_of_zero_le (show 0 ≤ c by omega)
  have e : placesS k u R C = plN k u C (R * C) := by
    have e : (((R : Nat) : Int) * ((C : Nat) : Int)).toNat = R * C := by rw [← Int.natCast_mul]; rfl
    unfold placesS plN
    rw [e]; rfl
  exact Pure.of_closed (C := codes) (S := sigs) mixed Tryz.func154 (by kernel_rfl) (Nat.le_of_ble_eq_true (by kernel_rfl)) fun A hA => hA.go (t124 k u R C)
    (hA.row 9 179 .part (s' := L124 k u R C [] 0) (by kernel_rfl) (by kernel_rfl) (by
      have := loop124 (k := k) (u := u) (R := R) (C := C) (by omega) (by omega) e.symm hA 0 (by omega)
      rw [Nat.zero_mul] at this
      exact this))
end Go.Proofs.Zn

/- The parts by definition: contracts. (Own work.) -/
namespace Go.Proofs.Zn
open Go Go.VL

theorem place_len {k u : Int} {b : Go.VL.Box} (h : boxOk b = true) : (placesS k u b.rows b.cols).length ≤ 1536 := by
  have := box_size h
  rw [places_len]; omega
theorem loop90c {d : Deck} (hk : DeckOk d) {r : List Part} {A : List Item → AS → Prop} (hA : Closed Tryz.prog codes sigs Tryz.f88 (pureFin [.sl .part]) (fun y => y = r) 0 A)
    (i : Nat) (hi : i ≤ d.borders.length - 1) (out : List Part) (ho : out.length ≤ 12288 + i) (h : out ++ (lanesL (d.borders.length - 1)).drop i = r) : A (hd Tryz.f88 2) (L90c d out i) := by
  have hl := hk.lanes
  refine hA.go (t90c d out i) (sat_bif (fun h1 => ?_) (fun h1 => ?_))
  · rw [wrap_i64 (by omega) (by omega)] at h1
    have h1 := of_decide_eq_true h1
    have hil : i < (lanesL (d.borders.length - 1)).length := by simp [lanesL]; omega
    have ei : (lanesL (d.borders.length - 1))[i] = ⟨3, (i : Int), 0, 0⟩ := by simp [lanesL]
    rw [List.drop_eq_getElem_cons hil, ei] at h
    refine ⟨⟨T5', trivial⟩, ⟨by simp only [List.length_cons, List.length_nil]; omega, trivial⟩, ?_⟩
    rw [wrap_succ (by omega)]
    exact loop90c hk hA (i + 1) (by omega) (out ++ [⟨3, (i : Int), 0, 0⟩]) (by simp; omega) (by rw [← h]; simp)
  · rw [wrap_i64 (by omega) (by omega)] at h1
    have h1 := of_decide_eq_false h1
    rw [List.drop_eq_nil_of_le (by simp [lanesL]; omega), List.append_nil] at h
    exact ⟨⟨trivial, trivial⟩, h⟩
termination_by d.borders.length - i
theorem loop90b {d : Deck} (hk : DeckOk d) {r : List Part} {A : List Item → AS → Prop} (hA : Closed Tryz.prog codes sigs Tryz.f88 (pureFin [.sl .part]) (fun y => y = r) 0 A)
    (i : Nat) (hi : i ≤ d.racks.length) (out : List Part) (ho : out.length ≤ 6144 + 1536 * i) (h : out ++ (unitsS 2 i ((boxesR d).drop i) ++ lanesL (d.borders.length - 1)) = r) : A (hd Tryz.f88 1) (L90b d out i) := by
  have e2 := lenR d
  have h5 := hk.racks
  refine hA.go (t90b d out i) (sat_bif (fun h1 => ?_) (fun h1 => ?_))
  · have h1 := of_decide_eq_true h1
    have hil : i < d.racks.length := by omega
    have hib : i < (boxesR d).length := by omega
    have eb : (boxesR d)[i] = rbox d.racks[i] := by simp [boxesR]
    have hb := hk.boxR _ (List.getElem_mem hib)
    have hpl := place_len (k := 2) (u := i) hb
    rw [eb] at hb hpl
    rw [getD_int hil]
    rw [List.drop_eq_getElem_cons hib, eb, unitsS] at h
    refine ⟨⟨⟨by omega, by omega⟩, trivial⟩, ⟨⟨by omega, by omega⟩, trivial⟩, ⟨T2', T2', T2', T2', trivial⟩, _, c124 hb, ⟨?_, trivial⟩, ?_⟩
    · have : (placesS 2 i d.racks[i].rows d.racks[i].cols).length ≤ 1536 := hpl
      show (out.length + (placesS 2 i d.racks[i].rows d.racks[i].cols).length) * 33 ≤ _
      omega
    · show A (hd Tryz.f88 1) (L90b d (out ++ placesS 2 i d.racks[i].rows d.racks[i].cols) (IntKind.i64.wrap ((i : Int) + 1)))
      rw [wrap_succ (by omega)]
      refine loop90b hk hA (i + 1) (by omega) _ ?_ ?_
      · have : (placesS 2 i d.racks[i].rows d.racks[i].cols).length ≤ 1536 := hpl
        rw [List.length_append]; omega
      · rw [← h, List.append_assoc, List.append_assoc]; rfl
  · have h1 := of_decide_eq_false h1
    rw [List.drop_eq_nil_of_le (by omega)] at h
    exact loop90c hk hA 0 (by omega) out (by omega) h
termination_by d.racks.length - i
theorem loop90a {d : Deck} (hk : DeckOk d) {r : List Part} {A : List Item → AS → Prop} (hA : Closed Tryz.prog codes sigs Tryz.f88 (pureFin [.sl .part]) (fun y => y = r) 0 A)
    (i : Nat) (hi : i ≤ d.plates.length) (out : List Part) (ho : out.length ≤ 1536 * i) (h : out ++ restS d i = r) : A (hd Tryz.f88 0) (L90 d out i) := by
  have e1 := lenP d
  have h5 := hk.plates
  refine hA.go (t90a d out i) (sat_bif (fun h1 => ?_) (fun h1 => ?_))
  · have h1 := of_decide_eq_true h1
    have hil : i < d.plates.length := by omega
    have hib : i < (boxesP d).length := by omega
    have eb : (boxesP d)[i] = pbox d.plates[i] := by simp [boxesP]
    have hb := hk.boxP _ (List.getElem_mem hib)
    have hpl := place_len (k := 1) (u := i) hb
    rw [eb] at hb hpl
    rw [getD_int hil]
    rw [restS, List.drop_eq_getElem_cons hib, eb, unitsS] at h
    refine ⟨⟨⟨by omega, by omega⟩, trivial⟩, ⟨⟨by omega, by omega⟩, trivial⟩, ⟨T2', T2', T2', T2', trivial⟩, _, c124 hb, ⟨?_, trivial⟩, ?_⟩
    · have : (placesS 1 i d.plates[i].rows d.plates[i].cols).length ≤ 1536 := hpl
      show (out.length + (placesS 1 i d.plates[i].rows d.plates[i].cols).length) * 33 ≤ _
      omega
    · show A (hd Tryz.f88 0) (L90 d (out ++ placesS 1 i d.plates[i].rows d.plates[i].cols) (IntKind.i64.wrap ((i : Int) + 1)))
      rw [wrap_succ (by omega)]
      refine loop90a hk hA (i + 1) (by omega) _ ?_ ?_
      · have : (placesS 1 i d.plates[i].rows d.plates[i].cols).length ≤ 1536 := hpl
        rw [List.length_append]; omega
      · rw [← h, restS, List.append_assoc, List.append_assoc]; rfl
  · have h1 := of_decide_eq_false h1
    rw [restS, List.drop_eq_nil_of_le (by omega)] at h
    exact loop90b hk hA 0 (by omega) out (by omega) h
termination_by d.plates.length - i
theorem c90 (d : Deck) : Pure Tryz.prog 88 [⟨.deck, d⟩] [.sl .part] (partsOf d) :=
  Pure.of_closed (C := codes) (S := sigs) mixed Tryz.func88 (by kernel_rfl) (Nat.le_of_ble_eq_true (by kernel_rfl)) fun A hA => hA.go (t90 d) (by
    generalize hr : partsOf d = r at hA ⊢
    unfold partsOf at hr
    refine ⟨⟨T5', trivial⟩, _, c89 d, sat_bif (fun h => ?_) (fun h => ?_)⟩
    · rw [h] at hr; exact ⟨⟨trivial, trivial⟩, hr⟩
    · rw [h, cond_false] at hr
      exact hA.row 3 179 .part (s' := L90 d [] 0) (by kernel_rfl) (by kernel_rfl) (loop90a (deck_ok (by simpa using h)) hA 0 (by omega) [] (by simp) hr))

theorem c42 (d : Deck) (i : Int) : Pure Tryz.prog 132 [⟨.deck, d⟩, ⟨.int, i⟩] [.part, .int] (partS d i) :=
  ofT Tryz.func132 (t42 d i) (by kernel_rfl) (by kernel_rfl) fun A => by
    generalize hp : partS d i = r
    unfold partS at hp
    refine ⟨⟨T5', trivial⟩, _, c89 d, sat_bif (fun h => ?_) (fun h => ?_)⟩
    · rw [h] at hp; exact ⟨⟨T5', T2'⟩, hp⟩
    · rw [h, cond_false] at hp
      have hc : partsOf d = partsS d := by unfold partsOf; rw [h]; rfl
      refine ⟨⟨T5', trivial⟩, _, (c90 d).eq hc, sat_bif (fun h1 => ?_) (fun h1 => sat_bif (fun h2 => ?_) (fun h2 => ?_))⟩
      · rw [h1] at hp; exact ⟨⟨T5', T2'⟩, hp⟩
      · rw [h1, h2] at hp; exact ⟨⟨T5', T2'⟩, hp⟩
      · rw [h1, h2] at hp
        have h1 := of_decide_eq_false h1
        have h2 := of_decide_eq_false h2
        exact ⟨⟨⟨by omega, by omega⟩, trivial⟩, ⟨T5', T2'⟩, hp⟩

/-! ### is it too large to be looked at -/
def startsL : List Plate → Bool
  | [] => false
  | p :: l => bif decide ((p.start.length : Int) > 500) then true else startsL l
def largeS (d : Deck) : Bool := bif decide ((d.borders.length : Int) > 60) then true else bif decide ((d.plates.length : Int) > 8) then true else bif decide ((d.racks.length : Int) > 8) then true else startsL d.plates
theorem loop37 {d : Deck} (hl : d.plates.length ≤ 8) {r : Bool} {A : List Item → AS → Prop} (hA : Closed Tryz.prog codes sigs Tryz.f25 (pureFin [.bool]) (fun y => y = r) 0 A)
    (i : Nat) (hi : i ≤ d.plates.length) (h : startsL (d.plates.drop i) = r) : A (hd Tryz.f25 0) (L37 d i) := by
  refine hA.go (t37a d i) (sat_bif (fun h1 => ?_) (fun h1 => ?_))
  · have h1 := of_decide_eq_true h1
    have hil : i < d.plates.length := by omega
    rw [getD_int hil]
    rw [List.drop_eq_getElem_cons hil, startsL] at h
    refine ⟨⟨⟨by omega, by omega⟩, trivial⟩, sat_bif (fun h2 => ?_) (fun h2 => ?_)⟩
    · rw [h2] at h; exact ⟨⟨trivial, trivial⟩, h⟩
    · rw [h2] at h
      rw [wrap_succ (by omega)]
      exact loop37 hl hA (i + 1) (by omega) h
  · have h1 := of_decide_eq_false h1
    rw [List.drop_eq_nil_of_le (by omega)] at h
    exact ⟨⟨trivial, trivial⟩, h⟩
termination_by d.plates.length - i
theorem c37 (d : Deck) : Pure Tryz.prog 25 [⟨.deck, d⟩] [.bool] (largeS d) :=
  Pure.of_closed (C := codes) (S := sigs) mixed Tryz.func25 (by kernel_rfl) (Nat.le_of_ble_eq_true (by kernel_rfl)) fun A hA => hA.go (t37 d) (by
    generalize hr : largeS d = r at hA ⊢
    unfold largeS at hr
    refine sat_bif (fun h1 => ?_) (fun h1 => sat_bif (fun h2 => ?_) (fun h2 => sat_bif (fun h3 => ?_) (fun h3 => ?_)))
    · rw [h1] at hr; exact ⟨⟨trivial, trivial⟩, hr⟩
    · rw [h1, h2] at hr; exact ⟨⟨trivial, trivial⟩, hr⟩
    · rw [h1, h2, h3] at hr; exact ⟨⟨trivial, trivial⟩, hr⟩
    · rw [h1, h2, h3] at hr
      have h2 := of_decide_eq_false h2
      exact loop37 (by omega) hA 0 (by omega) hr)
end Go.Proofs.Zn

/- How many parts there are by definition; spans of parts: contracts. (Own work.) -/
namespace Go.Proofs.Zn
open Go Go.VL

def cntK (k : Int) : List Part → Int
  | [] => 0
  | p :: l => (bif p.kind == k then 1 else 0) + cntK k l
theorem cnt_app (k : Int) : ∀ (l m : List Part), cntK k (l ++ m) = cntK k l + cntK k m
  | [], m => by simp [cntK]
  | p :: l, m => by simp only [List.cons_append, cntK, cnt_app k l m]; omega
theorem cnt_all {k : Int} : ∀ {l : List Part}, (∀ p ∈ l, p.kind = k) → cntK k l = (l.length : Int)
  | [], _ => rfl
  | p :: l, h => by
    have h1 : (p.kind == k) = true := by simpa using h p (by simp)
    simp only [cntK, h1, cond_true, List.length_cons, cnt_all (l := l) fun q hq => h q (by simp [hq])]; omega
theorem cnt_none {k : Int} : ∀ {l : List Part}, (∀ p ∈ l, p.kind ≠ k) → cntK k l = 0
  | [], _ => rfl
  | p :: l, h => by
    have h1 : (p.kind == k) = false := by simpa using h p (by simp)
    simp only [cntK, h1, cond_false, cnt_none (l := l) fun q hq => h q (by simp [hq])]; omega
theorem cnt_parts {d : Deck} (h : DeckOk d) : cntK 1 (partsS d) = sumI (boxesP d) ∧ cntK 2 (partsS d) = sumI (boxesR d) ∧ cntK 3 (partsS d) = (d.borders.length : Int) - 1 := by
  have l1 := units_len 1 (boxesP d) 0 h.boxP
  have l2 := units_len 2 (boxesR d) 0 h.boxR
  have l3 := h.lanes
  have k3 : ∀ p ∈ lanesL (d.borders.length - 1), p.kind = 3 := fun p hp => by
    obtain ⟨n, _, rfl⟩ := List.mem_map.1 hp
    rfl
  unfold partsS
  refine ⟨?_, ?_, ?_⟩
  · rw [cnt_app, cnt_app, cnt_all fun p hp => (units_mem hp).1, cnt_none fun p hp => by rw [(units_mem hp).1]; decide, cnt_none fun p hp => by rw [k3 p hp]; decide]; omega
  · rw [cnt_app, cnt_app, cnt_none fun p hp => by rw [(units_mem hp).1]; decide, cnt_all fun p hp => (units_mem hp).1, cnt_none fun p hp => by rw [k3 p hp]; decide]; omega
  · rw [cnt_app, cnt_app, cnt_none fun p hp => by rw [(units_mem hp).1]; decide, cnt_none fun p hp => by rw [(units_mem hp).1]; decide, cnt_all k3]
    simp only [lanesL, List.length_map, List.length_range]; omega

theorem loop148 {l : List Part} (hl : l.length ≤ 100000) (hv : ∀ p ∈ l, p.kind = 1 ∨ p.kind = 2 ∨ p.kind = 3) {r : Int × Int × Int} {A : List Item → AS → Prop}
    (hA : Closed Tryz.prog codes sigs Tryz.f152 (pureFin [.int, .int, .int]) (fun y => y = r) 0 A) (i : Nat) (hi : i ≤ l.length) (a b c e : Int) (hb : 0 ≤ b ∧ b ≤ i) (hc : 0 ≤ c ∧ c ≤ i) (he : 0 ≤ e ∧ e ≤ i)
    (h : (b + cntK 1 (l.drop i), c + cntK 2 (l.drop i), e + cntK 3 (l.drop i)) = r) : A (hd Tryz.f152 0) (L148 l a b c e i) := by
  refine hA.go (t148a l a b c e i) (sat_bif (fun h1 => ?_) (fun h1 => ?_))
  · have h1 := of_decide_eq_true h1
    have hil : i < l.length := by omega
    rw [getD_int hil]
    rw [List.drop_eq_getElem_cons hil] at h
    simp only [cntK] at h
    refine ⟨⟨⟨by omega, by omega⟩, trivial⟩, ?_⟩
    rcases hv l[i] (List.getElem_mem hil) with hk | hk | hk <;> rw [hk] at h ⊢
    · refine sat_bif (fun h => absurd h (by decide)) (fun _ => sat_bif (fun h => absurd h (by decide)) (fun _ => sat_bif (fun _ => ?_) (fun h => absurd h (by decide))))
      refine sat_bif (fun h => absurd h (by decide)) (fun _ => sat_bif (fun h => absurd h (by decide)) (fun _ => sat_bif (fun _ => ?_) (fun h => absurd h (by decide))))
      rw [wrap_succ (by omega), wrap_i64 (by omega) (by omega)]
      refine loop148 hl hv hA (i + 1) (by omega) a (b + 1) c e (by omega) (by omega) (by omega) ?_
      rw [← h]
      refine Prod.ext ?_ (Prod.ext ?_ ?_)
      · show b + 1 + _ = b + (1 + _); omega
      · show c + _ = c + (0 + _); omega
      · show e + _ = e + (0 + _); omega
    · refine sat_bif (fun h => absurd h (by decide)) (fun _ => sat_bif (fun _ => ?_) (fun h => absurd h (by decide)))
      refine sat_bif (fun h => absurd h (by decide)) (fun _ => sat_bif (fun _ => ?_) (fun h => absurd h (by decide)))
      rw [wrap_succ (by omega), wrap_i64 (by omega) (by omega)]
      refine loop148 hl hv hA (i + 1) (by omega) a b (c + 1) e (by omega) (by omega) (by omega) ?_
      rw [← h]
      refine Prod.ext ?_ (Prod.ext ?_ ?_)
      · show b + _ = b + (0 + _); omega
      · show c + 1 + _ = c + (1 + _); omega
      · show e + _ = e + (0 + _); omega
    · refine sat_bif (fun _ => ?_) (fun h => absurd h (by decide))
      refine sat_bif (fun _ => ?_) (fun h => absurd h (by decide))
      rw [wrap_succ (by omega), wrap_i64 (by omega) (by omega)]
      refine loop148 hl hv hA (i + 1) (by omega) a b c (e + 1) (by omega) (by omega) (by omega) ?_
      rw [← h]
      refine Prod.ext ?_ (Prod.ext ?_ ?_)
      · show b + _ = b + (0 + _); omega
      · show c + _ = c + (0 + _); omega
      · show e + 1 + _ = e + (1 + _); omega
  · have h1 := of_decide_eq_false h1
    rw [List.drop_eq_nil_of_le (by omega)] at h
    simp only [cntK, Int.add_zero] at h
    exact ⟨⟨T2', T2', T2'⟩, h⟩
termination_by l.length - i
theorem parts_few {d : Deck} (h : DeckOk d) : (partsS d).length ≤ 800 := by
  have := parts_len h
  have h1 := h.wells
  have h2 := h.tips
  have h3 := h.lanes
  omega
theorem c148 (d : Deck) : Pure Tryz.prog 152 [⟨.deck, d⟩] [.int, .int, .int] (countS d) :=
  Pure.of_closed (C := codes) (S := sigs) mixed Tryz.func152 (by kernel_rfl) (Nat.le_of_ble_eq_true (by kernel_rfl)) fun A hA => hA.go (t148 d) (by
    refine ⟨⟨T5', trivial⟩, _, c90 d, ?_⟩
    show A (hd Tryz.f152 0) (L148 (partsOf d) 0 0 0 0 (0 : Nat))
    cases h : deckS d != 0
    · have hk : DeckOk d := deck_ok (by simpa using h)
      have hp : partsOf d = partsS d := by unfold partsOf; rw [h]; rfl
      have hf := parts_few hk
      rw [hp]
      refine loop148 (by omega) (fun p hp => ?_) hA 0 (by omega) 0 0 0 0 (by omega) (by omega) (by omega) ?_
      · rcases parts_valid hp with ⟨h, _⟩ | ⟨h, _⟩ | ⟨h, _⟩
        · exact .inl h
        · exact .inr (.inl h)
        · exact .inr (.inr h)
      · obtain ⟨h1, h2, h3⟩ := cnt_parts hk
        rw [List.drop_zero, h1, h2, h3]
        unfold countS
        rw [h, cond_false]
        refine Prod.ext ?_ (Prod.ext ?_ ?_) <;> simp
    · have hp : partsOf d = [] := by unfold partsOf; rw [h]; rfl
      rw [hp]
      refine loop148 (by simp) (fun p hp => by cases hp) hA 0 (by omega) 0 0 0 0 (by omega) (by omega) (by omega) ?_
      unfold countS
      rw [h]; rfl)

/-! ### the middle, and the lanes that are covered -/
theorem c88 (r : Row) (c : Int) : Pure Tryz.prog 207 [⟨.row, r⟩, ⟨.int, c⟩] [.flt] (midS r c) := ofT Tryz.func207 (t88 r c) (by kernel_rfl) (by kernel_rfl) fun _ => ⟨T2', rfl⟩
theorem c87 {d : Deck} {p : Part} (hv : ValidP d p) (h3 : p.kind ≠ 3) : Pure Tryz.prog 205 [⟨.deck, d⟩, ⟨.part, p⟩] [.row] (rowS d p) :=
  ofT Tryz.func205 (t87 d p) (by kernel_rfl) (by kernel_rfl) fun A => by
    unfold rowS
    refine sat_if (fun h => ?_) (fun h => ?_)
    · have hk : p.kind = 2 := by simpa using h
      rcases hv with ⟨h, _⟩ | ⟨_, h1, h2⟩ | ⟨h, _⟩
      · omega
      · exact ⟨⟨⟨h1, h2⟩, trivial⟩, ⟨trivial, trivial, trivial, trivial⟩, rfl⟩
      · omega
    · have hk : p.kind ≠ 2 := by simpa using h
      rcases hv with ⟨_, h1, h2⟩ | ⟨h, _⟩ | ⟨h, _⟩
      · exact ⟨⟨⟨h1, h2⟩, trivial⟩, ⟨trivial, trivial, trivial, trivial⟩, rfl⟩
      · omega
      · omega
theorem c44 {d : Deck} {p : Part} (hv : ValidP d p) (h3 : p.kind ≠ 3) : Pure Tryz.prog 254 [⟨.deck, d⟩, ⟨.part, p⟩] [.flt, .flt] (midS (rowS d p) p.col, (rowS d p).reach) :=
  ofT Tryz.func254 (t44 d p) (by kernel_rfl) (by kernel_rfl) fun A => by
    unfold rowS
    refine sat_bif (fun h => ?_) (fun h => ?_)
    · have hk : p.kind = 1 := by simpa using h
      rcases hv with ⟨_, h1, h2⟩ | ⟨h, _⟩ | ⟨h, _⟩
      · refine ⟨⟨⟨h1, h2⟩, trivial⟩, ⟨T2', T2'⟩, ?_⟩
        rw [hk]; rfl
      · omega
      · omega
    · have hk : p.kind ≠ 1 := by simpa using h
      rcases hv with ⟨h, _⟩ | ⟨h, h1, h2⟩ | ⟨h, _⟩
      · omega
      · refine ⟨⟨⟨h1, h2⟩, trivial⟩, ⟨T2', T2'⟩, ?_⟩
        rw [h]; rfl
      · omega
theorem c85 {d : Deck} {p : Part} (hv : ValidP d p) : Pure Tryz.prog 127 [⟨.deck, d⟩, ⟨.part, p⟩] [.span, .int] (coverS d p) :=
  ofT Tryz.func127 (t85 d p) (by kernel_rfl) (by kernel_rfl) fun A => by
    unfold coverS
    refine sat_if (fun h => ⟨⟨T3', T2'⟩, rfl⟩) (fun h => ?_)
    have h3 : p.kind ≠ 3 := by simpa using h
    exact ⟨⟨T5', T5', trivial⟩, _, c87 hv h3, ⟨⟨trivial, trivial, trivial, trivial⟩, T2', trivial⟩, _, c88 _ _, ⟨T2', T2', T2', trivial⟩, _, c119 _ _ _, ⟨T3', T2'⟩, rfl⟩
theorem c86 {d : Deck} {p : Part} (hv : ValidP d p) : Pure Tryz.prog 209 [⟨.deck, d⟩, ⟨.part, p⟩] [.span, .int] (coverS d p) :=
  ofT Tryz.func209 (t86 d p) (by kernel_rfl) (by kernel_rfl) fun A => by
    unfold coverS
    refine sat_if (fun h => ⟨⟨T3', T2'⟩, rfl⟩) (fun h => ?_)
    have h3 : p.kind ≠ 3 := by simpa using h
    exact ⟨⟨T5', T5', trivial⟩, _, c44 hv h3, ⟨T2', T2', T2', trivial⟩, _, c120 _ _ _, ⟨T3', T2'⟩, (reach_eq _ _ _).symm⟩
def atS (d : Deck) (i : Int) : Fl × Int := bif (partS d i).2 != 0 then (some 0, (partS d i).2) else bif (partS d i).1.kind == 3 then (some 0, 1) else (midS (rowS d (partS d i).1) (partS d i).1.col, 0)
end Go.Proofs.Zn

namespace Go.Proofs.Zn
open Go Go.VL


theorem t47 (d : Deck) : @Eq (Out (TyTup [.int])) (aexec Tryz.prog codes sigs2 Tryz.f61 (pureFin [.int]) 0 noCut 300 false (bodyOf Tryz.f61) (startS Tryz.f61 [⟨.deck, d⟩])) (.need ((True ∧ True ∧ True ∧ True ∧ True) ∧ True) (.callP 125 [⟨.deck, d⟩] [.int] fun (x : Int) => bif x != (0 : Int) then .need (True ∧ True) (.ret x) else .stop (hd Tryz.f61 0) (mkS 45 [(1, .ptr 0 0), (3, .ptr 1 0), (4, .clo (.func 126) [] [.ptr 1 0, .ptr 0 0]), (16, .d (.sl .plate (Deck.plates d))), (17, .d (.v (.int .i64 (↑(List.length (Deck.plates d)) : Int)))), (18, .d (.v (.int .i64 (0 : Int))))] [(0, .box [.d (.sl .flt (Deck.borders d)), .d (.sl .plate (Deck.plates d)), .d (.sl .rack (Deck.racks d)), .d (.v (.int .i64 (Deck.arms d)))]), (1, .box [.d (.v (.int .i64 x))])] 2))) := by kernel_rfl

theorem t45 (d : Deck) : @Eq (Out (TyTup [.sl .span, .int])) (aexec Tryz.prog codes sigs2 Tryz.f256 (pureFin [.sl .span, .int]) 0 noCut 300 false (bodyOf Tryz.f256) (startS Tryz.f256 [⟨.deck, d⟩])) (.need ((True ∧ True ∧ True ∧ True ∧ True) ∧ True) (.callP 125 [⟨.deck, d⟩] [.int] fun (x : Int) => bif x != (0 : Int) then .need ((True ∧ True) ∧ True ∧ True) (.ret ([], x)) else .stop (hd Tryz.f256 0) (mkS 76 [(1, .ptr 0 0), (5, .ptr 1 0), (6, .ptr 2 0), (7, .clo (.func 289) [] [.ptr 0 0, .ptr 1 0, .ptr 2 0])] [(0, .box [.d (.sl .flt (Deck.borders d)), .d (.sl .plate (Deck.plates d)), .d (.sl .rack (Deck.racks d)), .d (.v (.int .i64 (Deck.arms d)))]), (1, .box [.d (.v (.slice none 0 0))]), (2, .box [.d (.v (.int .i64 (0 : Int)))])] 3))) := by kernel_rfl

theorem t46 (d : Deck) : @Eq (Out (TyTup [.sl .span, .int])) (aexec Tryz.prog codes sigs2 Tryz.f131 (pureFin [.sl .span, .int]) 0 noCut 300 false (bodyOf Tryz.f131) (startS Tryz.f131 [⟨.deck, d⟩])) (.need ((True ∧ True ∧ True ∧ True ∧ True) ∧ True) (.callP 153 [⟨.deck, d⟩] [.int] fun (x : Int) => bif x != (0 : Int) then .need ((True ∧ True) ∧ True ∧ True) (.ret ([], x)) else .need ((True ∧ True ∧ True ∧ True ∧ True) ∧ True) (.callP 88 [⟨.deck, d⟩] [.sl .part] fun (x : List Part) => .stop (hd Tryz.f131 0) (mkS 40 [(1, .ptr 0 0), (5, .d (.v (.slice none 0 0))), (6, .d (.sl .part x)), (7, .d (.v (.int .i64 (0 : Int))))] [(0, .box [.d (.sl .flt (Deck.borders d)), .d (.sl .plate (Deck.plates d)), .d (.sl .rack (Deck.racks d)), .d (.v (.int .i64 (Deck.arms d)))])] 1)))) := by kernel_rfl

theorem t48 (d : Deck) (l : List Int) : @Eq (Out (TyTup [.sl .int, .int])) (aexec Tryz.prog codes sigs2 Tryz.f135 (pureFin [.sl .int, .int]) 0 noCut 300 false (bodyOf Tryz.f135) (startS Tryz.f135 [⟨.deck, d⟩, ⟨.sl .int, l⟩])) (.need ((True ∧ True ∧ True ∧ True ∧ True) ∧ (True ∧ True) ∧ True) (.callP 210 [⟨.deck, d⟩, Sigma.mk (.sl .int) l] [.sl .span, .int] fun (x : List Span × Int) => bif Prod.snd x != (0 : Int) then .need ((True ∧ True) ∧ True ∧ True) (.ret ([], Prod.snd x)) else .need ((True ∧ True ∧ True ∧ True ∧ True) ∧ (True ∧ True) ∧ True) (.callP 211 [⟨.deck, d⟩, Sigma.mk (.sl .span) (Prod.fst x)] [.sl .int] fun (x : List Int) => .need ((True ∧ True) ∧ True ∧ True) (.ret (x, (0 : Int)))))) := by kernel_rfl

theorem t49 (d : Deck) (l : List Int) : @Eq (Out (TyTup [.sl .int, .int])) (aexec Tryz.prog codes sigs2 Tryz.f80 (pureFin [.sl .int, .int]) 0 noCut 300 false (bodyOf Tryz.f80) (startS Tryz.f80 [⟨.deck, d⟩, ⟨.sl .int, l⟩])) (.need ((True ∧ True ∧ True ∧ True ∧ True) ∧ (True ∧ True) ∧ True) (.callP 136 [⟨.deck, d⟩, Sigma.mk (.sl .int) l] [.sl .span, .int] fun (x : List Span × Int) => .stop (hd Tryz.f80 0) (mkS 32 [(2, .ptr 0 0), (6, .d (.sl .span (Prod.fst x))), (7, .d (.v (.int .i64 (Prod.snd x)))), (8, .d (.v (.slice none 0 0))), (9, .d (.v (.int .i64 (0 : Int))))] [(0, .box [.d (.sl .flt (Deck.borders d)), .d (.sl .plate (Deck.plates d)), .d (.sl .rack (Deck.racks d)), .d (.v (.int .i64 (Deck.arms d)))])] 1))) := by kernel_rfl

theorem t53 (d : Deck) (a : Int) (b : Int) : @Eq (Out (TyTup [.sl .int, .int])) (aexec Tryz.prog codes sigs2 Tryz.f133 (pureFin [.sl .int, .int]) 0 noCut 300 false (bodyOf Tryz.f133) (startS Tryz.f133 [⟨.deck, d⟩, ⟨.int, a⟩, ⟨.int, b⟩])) (.need ((True ∧ True) ∧ (True ∧ True) ∧ True) (.need ((True ∧ True ∧ True ∧ True ∧ True) ∧ (True ∧ True) ∧ True) (.callP 210 [⟨.deck, d⟩, Sigma.mk (.sl .int) [a, b]] [.sl .span, .int] fun (x : List Span × Int) => bif Prod.snd x != (0 : Int) then .need ((True ∧ True) ∧ True ∧ True) (.ret ([], Prod.snd x)) else .need (((0 : Int) ≤ (0 : Int) ∧ (0 : Int) < (↑(List.length (Prod.fst x)) : Int)) ∧ True) (.need (((0 : Int) ≤ (1 : Int) ∧ (1 : Int) < (↑(List.length (Prod.fst x)) : Int)) ∧ True) (.need ((True ∧ True ∧ True) ∧ (True ∧ True ∧ True) ∧ True) (.callP 212 [Sigma.mk .span (List.getD (Prod.fst x) 0 Ty.span.dflt), Sigma.mk .span (List.getD (Prod.fst x) 1 Ty.span.dflt)] [.span] fun (x : Span) => .need ((True ∧ True ∧ True) ∧ True) (.need ((True ∧ True ∧ True ∧ True ∧ True) ∧ (True ∧ True) ∧ True) (.callP 211 [⟨.deck, d⟩, Sigma.mk (.sl .span) [x]] [.sl .int] fun (x : List Int) => .need ((True ∧ True) ∧ True ∧ True) (.ret (x, (0 : Int))))))))))) := by kernel_rfl

theorem t54 (d : Deck) (a : Int) (b : Int) : @Eq (Out (TyTup [.sl .int, .int])) (aexec Tryz.prog codes sigs2 Tryz.f78 (pureFin [.sl .int, .int]) 0 noCut 300 false (bodyOf Tryz.f78) (startS Tryz.f78 [⟨.deck, d⟩, ⟨.int, a⟩, ⟨.int, b⟩])) (.need ((True ∧ True) ∧ (True ∧ True) ∧ True) (.need ((True ∧ True ∧ True ∧ True ∧ True) ∧ (True ∧ True) ∧ True) (.callP 136 [⟨.deck, d⟩, Sigma.mk (.sl .int) [a, b]] [.sl .span, .int] fun (x : List Span × Int) => bif Prod.snd x != (0 : Int) then .need ((True ∧ True) ∧ True ∧ True) (.ret ([], Prod.snd x)) else .need (((0 : Int) ≤ (0 : Int) ∧ (0 : Int) < (↑(List.length (Prod.fst x)) : Int)) ∧ True) (.need (((0 : Int) ≤ (1 : Int) ∧ (1 : Int) < (↑(List.length (Prod.fst x)) : Int)) ∧ True) (bif decide (Span.lo (List.getD (Prod.fst x) 1 Ty.span.dflt) < Span.lo (List.getD (Prod.fst x) 0 Ty.span.dflt)) then .need (((0 : Int) ≤ (1 : Int) ∧ (1 : Int) < (↑(List.length (Prod.fst x)) : Int)) ∧ True) (.need (((0 : Int) ≤ (1 : Int) ∧ (1 : Int) < (↑(List.length (Prod.fst x)) : Int)) ∧ True) (bif decide (Span.hi (List.getD (Prod.fst x) 1 Ty.span.dflt) > Span.hi (List.getD (Prod.fst x) 0 Ty.span.dflt)) then .need (((0 : Int) ≤ (1 : Int) ∧ (1 : Int) < (↑(List.length (Prod.fst x)) : Int)) ∧ True) (.need ((True ∧ True ∧ True ∧ True ∧ True) ∧ (True ∧ True ∧ True) ∧ True) (.callP 137 [⟨.deck, d⟩, Sigma.mk .span (List.getD (Prod.fst x) 1 Ty.span.dflt)] [.sl .int] fun (x : List Int) => .need ((True ∧ True) ∧ True ∧ True) (.ret (x, (0 : Int))))) else .need ((True ∧ True ∧ True ∧ True ∧ True) ∧ (True ∧ True ∧ True) ∧ True) (.callP 137 [⟨.deck, d⟩, Sigma.mk .span (Span.mk (Span.lo (List.getD (Prod.fst x) 1 Ty.span.dflt)) (Span.hi (List.getD (Prod.fst x) 0 Ty.span.dflt)))] [.sl .int] fun (x : List Int) => .need ((True ∧ True) ∧ True ∧ True) (.ret (x, (0 : Int)))))) else .need (((0 : Int) ≤ (1 : Int) ∧ (1 : Int) < (↑(List.length (Prod.fst x)) : Int)) ∧ True) (bif decide (Span.hi (List.getD (Prod.fst x) 1 Ty.span.dflt) > Span.hi (List.getD (Prod.fst x) 0 Ty.span.dflt)) then .need (((0 : Int) ≤ (1 : Int) ∧ (1 : Int) < (↑(List.length (Prod.fst x)) : Int)) ∧ True) (.need ((True ∧ True ∧ True ∧ True ∧ True) ∧ (True ∧ True ∧ True) ∧ True) (.callP 137 [⟨.deck, d⟩, Sigma.mk .span (Span.mk (Span.lo (List.getD (Prod.fst x) 0 Ty.span.dflt)) (Span.hi (List.getD (Prod.fst x) 1 Ty.span.dflt)))] [.sl .int] fun (x : List Int) => .need ((True ∧ True) ∧ True ∧ True) (.ret (x, (0 : Int))))) else .need ((True ∧ True ∧ True ∧ True ∧ True) ∧ (True ∧ True ∧ True) ∧ True) (.callP 137 [⟨.deck, d⟩, Sigma.mk .span (List.getD (Prod.fst x) 0 Ty.span.dflt)] [.sl .int] fun (x : List Int) => .need ((True ∧ True) ∧ True ∧ True) (.ret (x, (0 : Int)))))))))) := by kernel_rfl

theorem t55 (a : List Int) (b : List Int) : @Eq (Out (TyTup [.sl .int])) (aexec Tryz.prog codes sigs2 Tryz.f40 (pureFin [.sl .int]) 0 noCut 300 false (bodyOf Tryz.f40) (startS Tryz.f40 [⟨.sl .int, a⟩, ⟨.sl .int, b⟩])) (.stop (hd Tryz.f40 0) (mkS 27 [(0, .d (.sl .int a)), (1, .d (.sl .int b)), (5, .d (.v (.slice none 0 0))), (6, .d (.v (.int .i64 (0 : Int))))] [] 0)) := by kernel_rfl

theorem t57 (a : List Int) (b : List Int) : @Eq (Out (TyTup [.sl .int])) (aexec Tryz.prog codes sigs2 Tryz.f138 (pureFin [.sl .int]) 0 noCut 300 false (bodyOf Tryz.f138) (startS Tryz.f138 [⟨.sl .int, a⟩, ⟨.sl .int, b⟩])) (.need True (.need ((0 + List.length a) * 9 ≤ 35184372088832 ∧ True) (.stop (hd Tryz.f138 0) (mkS 23 [(1, .d (.sl .int b)), (5, .own 0 .int), (6, .d (.v (.int .i64 (0 : Int))))] [(0, .row 3 .int a)] 1)))) := by kernel_rfl

theorem t50 (a : List Int) (b : List Int) : @Eq (Out (TyTup [.bool])) (aexec Tryz.prog codes sigs2 Tryz.f20 (pureFin [.bool]) 0 noCut 300 false (bodyOf Tryz.f20) (startS Tryz.f20 [⟨.sl .int, a⟩, ⟨.sl .int, b⟩])) (bif (a.length : Int) != (b.length : Int) then .need (True ∧ True) (.ret false) else .stop (hd Tryz.f20 0) (mkS 26 [(0, .d (.sl .int a)), (1, .d (.sl .int b)), (5, .d (.v (.int .i64 (0 : Int))))] [] 0)) := by kernel_rfl

theorem t94 (d : Deck) (k : Int) (u : Int) (n : Int) : @Eq (Out (TyTup [.sl .span, .int])) (aexec Tryz.prog codes sigs2 Tryz.f290 (pureFin [.sl .span, .int]) 0 noCut 300 false (bodyOf Tryz.f290) (startS Tryz.f290 [⟨.deck, d⟩, ⟨.int, k⟩, ⟨.int, u⟩, ⟨.int, n⟩])) (.stop (hd Tryz.f290 0) (mkS 36 [(1, .d (.v (.int .i64 k))), (2, .d (.v (.int .i64 u))), (4, .ptr 0 0), (10, .d (.v (.slice none 0 0))), (14, .d (.v (.int .i64 n))), (15, .d (.v (.int .i64 (0 : Int))))] [(0, .box [.d (.sl .flt (Deck.borders d)), .d (.sl .plate (Deck.plates d)), .d (.sl .rack (Deck.racks d)), .d (.v (.int .i64 (Deck.arms d)))])] 1)) := by kernel_rfl

theorem t96 (d : Deck) (l : List Int) : @Eq (Out (TyTup [.sl .span, .int])) (aexec Tryz.prog codes sigs2 Tryz.f210 (pureFin [.sl .span, .int]) 0 noCut 300 false (bodyOf Tryz.f210) (startS Tryz.f210 [⟨.deck, d⟩, ⟨.sl .int, l⟩])) (.need ((True ∧ True ∧ True ∧ True ∧ True) ∧ True) (.callP 256 [⟨.deck, d⟩] [.sl .span, .int] fun (x : List Span × Int) => bif Prod.snd x != (0 : Int) then .need ((True ∧ True) ∧ True ∧ True) (.ret ([], Prod.snd x)) else .stop (hd Tryz.f210 0) (mkS 42 [(6, .d (.sl .span (Prod.fst x))), (8, .d (.v (.slice none 0 0))), (19, .d (.sl .int l)), (20, .d (.v (.int .i64 (l.length : Int)))), (21, .d (.v (.int .i64 (0 : Int))))] [] 0))) := by kernel_rfl

theorem t98 (d : Deck) (l : List Int) : @Eq (Out (TyTup [.sl .span, .int])) (aexec Tryz.prog codes sigs2 Tryz.f136 (pureFin [.sl .span, .int]) 0 noCut 300 false (bodyOf Tryz.f136) (startS Tryz.f136 [⟨.deck, d⟩, ⟨.sl .int, l⟩])) (.need ((True ∧ True ∧ True ∧ True ∧ True) ∧ True) (.callP 131 [⟨.deck, d⟩] [.sl .span, .int] fun (x : List Span × Int) => bif Prod.snd x != (0 : Int) then .need ((True ∧ True) ∧ True ∧ True) (.ret ([], Prod.snd x)) else .stop (hd Tryz.f136 0) (mkS 49 [(1, .d (.sl .int l)), (6, .d (.sl .span (Prod.fst x))), (8, .d (.v (.slice none 0 0))), (9, .d (.v (.int .i64 (0 : Int))))] [] 0))) := by kernel_rfl

theorem t97 (d : Deck) (l : List Span) : @Eq (Out (TyTup [.sl .int])) (aexec Tryz.prog codes sigs2 Tryz.f211 (pureFin [.sl .int]) 0 noCut 300 false (bodyOf Tryz.f211) (startS Tryz.f211 [⟨.deck, d⟩, ⟨.sl .span, l⟩])) (.need ((True ∧ True ∧ True ∧ True ∧ True) ∧ True) (.callP 84 [⟨.deck, d⟩] [.int, .int, .int] fun (x : Int × Int × Int) => .need ((True ∧ True) ∧ True) (.callP 257 [Sigma.mk (.sl .span) l] [.sl .span] fun (x_1 : List Span) => .stop (hd Tryz.f211 0) (mkS 44 [(5, .d (.v (.int .i64 (Prod.fst x)))), (6, .d (.v (.int .i64 (Prod.fst (Prod.snd x))))), (8, .d (.v (.slice none 0 0))), (19, .d (.sl .span x_1)), (20, .d (.v (.int .i64 (x_1.length : Int)))), (21, .d (.v (.int .i64 (0 : Int))))] [] 0)))) := by kernel_rfl

theorem t99 (d : Deck) (s : Span) : @Eq (Out (TyTup [.sl .int])) (aexec Tryz.prog codes sigs2 Tryz.f137 (pureFin [.sl .int]) 0 noCut 300 false (bodyOf Tryz.f137) (startS Tryz.f137 [⟨.deck, d⟩, ⟨.span, s⟩])) (.stop (hd Tryz.f137 0) (mkS 23 [(2, .ptr 0 0), (3, .ptr 1 0), (5, .d (.v (.slice none 0 0))), (6, .d (.v (.int .i64 (Span.lo s))))] [(0, .box [.d (.sl .flt (Deck.borders d)), .d (.sl .plate (Deck.plates d)), .d (.sl .rack (Deck.racks d)), .d (.v (.int .i64 (Deck.arms d)))]), (1, .box [.d (.v (.int .i64 (Span.lo s))), .d (.v (.int .i64 (Span.hi s)))])] 2)) := by kernel_rfl

theorem t130 (d : Deck) : @Eq (Out (TyTup [.int])) (aexec Tryz.prog codes sigs2 Tryz.f214 (pureFin [.int]) 0 noCut 300 false (bodyOf Tryz.f214) (startS Tryz.f214 [⟨.deck, d⟩])) (.need ((True ∧ True ∧ True ∧ True ∧ True) ∧ True) (.callP 152 [⟨.deck, d⟩] [.int, .int, .int] fun (x : Int × Int × Int) => .need (True ∧ True) (.ret (IntKind.wrap .i64 (Prod.fst x + Prod.fst (Prod.snd x)))))) := by kernel_rfl

theorem t100 (l : List Int) (n : Int) : @Eq (Out (TyTup [.bool])) (aexec Tryz.prog codes sigs2 Tryz.f44 (pureFin [.bool]) 0 noCut 300 false (bodyOf Tryz.f44) (startS Tryz.f44 [⟨.sl .int, l⟩, ⟨.int, n⟩])) (.stop (hd Tryz.f44 0) (mkS 18 [(0, .d (.sl .int l)), (1, .d (.v (.int .i64 n))), (5, .d (.v (.int .i64 (0 : Int))))] [] 0)) := by kernel_rfl

theorem t101 (l : List Int) (n : Int) : @Eq (Out (TyTup [.sl .int])) (aexec Tryz.prog codes sigs2 Tryz.f79 (pureFin [.sl .int]) 0 noCut 300 false (bodyOf Tryz.f79) (startS Tryz.f79 [⟨.sl .int, l⟩, ⟨.int, n⟩])) (.stop (hd Tryz.f79 0) (mkS 45 [(0, .d (.sl .int l)), (1, .d (.v (.int .i64 n))), (5, .d (.v (.int .i64 (0 : Int))))] [] 0)) := by kernel_rfl

theorem t129 (l : List Int) : @Eq (Out (TyTup [.sl .int])) (aexec Tryz.prog codes sigs2 Tryz.f81 (pureFin [.sl .int]) 0 noCut 300 false (bodyOf Tryz.f81) (startS Tryz.f81 [⟨.sl .int, l⟩])) (bif decide ((l.length : Int) < (2 : Int)) then .need True (.need ((0 + List.length l) * 9 ≤ 35184372088832 ∧ True) (.need (True ∧ True) (.ret ([] ++ l)))) else .need ((2 : Int) ≠ (0 : Int)) (.need (((0 : Int) ≤ (0 : Int) ∧ (0 : Int) ≤ IntKind.wrap .i64 (Int.tdiv (l.length : Int) (2 : Int)) ∧ IntKind.wrap .i64 (Int.tdiv (l.length : Int) (2 : Int)) ≤ (l.length : Int)) ∧ True) (.need ((True ∧ True) ∧ True) (.callP 81 [Sigma.mk (.sl .int) (List.drop 0 (List.take (Int.toNat (IntKind.wrap .i64 (Int.tdiv (l.length : Int) (2 : Int)))) l))] [.sl .int] fun (x : List Int) => .need (((0 : Int) ≤ IntKind.wrap .i64 (Int.tdiv (l.length : Int) (2 : Int)) ∧ IntKind.wrap .i64 (Int.tdiv (l.length : Int) (2 : Int)) ≤ (l.length : Int)) ∧ True) (.need ((True ∧ True) ∧ True) (.callP 81 [Sigma.mk (.sl .int) (List.drop (Int.toNat (IntKind.wrap .i64 (Int.tdiv (l.length : Int) (2 : Int)))) l)] [.sl .int] fun (x_1 : List Int) => .need ((True ∧ True) ∧ (True ∧ True) ∧ True) (.callP 134 [Sigma.mk (.sl .int) x, Sigma.mk (.sl .int) x_1] [.sl .int] fun (x : List Int) => .need (True ∧ True) (.ret x)))))))) := by kernel_rfl

theorem t147 (a : List Int) (b : List Int) : @Eq (Out (TyTup [.sl .int])) (aexec Tryz.prog codes sigs2 Tryz.f134 (pureFin [.sl .int]) 0 noCut 300 false (bodyOf Tryz.f134) (startS Tryz.f134 [⟨.sl .int, a⟩, ⟨.sl .int, b⟩])) (.need ((True ∧ True) ∧ (True ∧ True) ∧ (True ∧ True) ∧ (True ∧ True) ∧ (True ∧ True) ∧ True) (.callP 213 [Sigma.mk (.sl .int) a, Sigma.mk (.sl .int) b, ⟨.bool, true⟩, ⟨.bool, true⟩, ⟨.bool, true⟩] [.sl .int] fun (x : List Int) => .need (True ∧ True) (.ret x))) := by kernel_rfl

theorem t156 (a : List Int) (b : List Int) (f : Bool) (s : Bool) (t : Bool) : @Eq (Out (TyTup [.sl .int])) (aexec Tryz.prog codes sigs2 Tryz.f213 (pureFin [.sl .int]) 0 noCut 300 false (bodyOf Tryz.f213) (startS Tryz.f213 [⟨.sl .int, a⟩, ⟨.sl .int, b⟩, ⟨.bool, f⟩, ⟨.bool, s⟩, ⟨.bool, t⟩])) (.stop (hd Tryz.f213 0) (mkS 94 [(0, .d (.sl .int a)), (1, .d (.sl .int b)), (2, .d (.v (.bool f))), (3, .d (.v (.bool s))), (4, .d (.v (.bool t))), (11, .ptr 0 0), (12, .clo (.func 260) [] [.ptr 0 0]), (13, .d (.v (.int .i64 (0 : Int)))), (14, .d (.v (.int .i64 (0 : Int))))] [(0, .box [.d (.v (.slice none 0 0))])] 1)) := by kernel_rfl

end Go.Proofs.Zn

namespace Go.Proofs.Zn
open Go Go.VL

def L46 (d : Deck) (x : List Part) (out : List Span) (i : Int) : AS := mkS 40 [(1, .ptr 0 0), (5, .own 1 .span), (6, .d (.sl .part x)), (7, i64 i)] [(0, .box (deckC d)), (1, .row 175 .span out)] 2
def L94 (d : Deck) (k u n : Int) (out : List Span) (c : Int) : AS := mkS 36 [(1, i64 k), (2, i64 u), (4, .ptr 0 0), (10, .own 1 .span), (14, i64 n), (15, i64 c)] [(0, .box (deckC d)), (1, .row 175 .span out)] 2
def L96 (t : List Span) (l : List Int) (out : List Span) (i : Int) : AS := mkS 42 [(6, .d (.sl .span t)), (8, .own 0 .span), (19, .d (.sl .int l)), (20, i64 l.length), (21, i64 i)] [(0, .row 175 .span out)] 1
def L98 (t : List Span) (l : List Int) (out : List Span) (i : Int) : AS := mkS 49 [(1, .d (.sl .int l)), (6, .d (.sl .span t)), (8, .own 0 .span), (9, i64 i)] [(0, .row 175 .span out)] 1
def L97 (a b : Int) (l : List Span) (out : List Int) (i : Int) : AS := mkS 44 [(5, i64 a), (6, i64 b), (8, .own 0 .int), (19, .d (.sl .span l)), (20, i64 l.length), (21, i64 i)] [(0, .row 3 .int out)] 1
def L99 (d : Deck) (s : Span) (out : List Int) (k : Int) : AS := mkS 23 [(2, .ptr 0 0), (3, .ptr 1 0), (5, .own 2 .int), (6, i64 k)] [(0, .box (deckC d)), (1, .box [i64 s.lo, i64 s.hi]), (2, .row 3 .int out)] 3
def L49 (d : Deck) (t : List Span) (e : Int) (out : List Int) (i : Int) : AS := mkS 32 [(2, .ptr 0 0), (6, .d (.sl .span t)), (7, i64 e), (8, .d (.sl .int out)), (9, i64 i)] [(0, .box (deckC d))] 1
def L55 (a b out : List Int) (i : Int) : AS := mkS 27 [(0, .d (.sl .int a)), (1, .d (.sl .int b)), (5, .own 0 .int), (6, i64 i)] [(0, .row 3 .int out)] 1
def L56 (a b out : List Int) (i : Int) : AS := mkS 28 [(0, .d (.sl .int a)), (1, .d (.sl .int b)), (5, .own 0 .int), (6, i64 i)] [(0, .row 3 .int out)] 1
def L57 (b out : List Int) (i : Int) : AS := mkS 23 [(1, .d (.sl .int b)), (5, .d (.sl .int out)), (6, i64 i)] [] 0
def L50 (a b : List Int) (i : Int) : AS := mkS 26 [(0, .d (.sl .int a)), (1, .d (.sl .int b)), (5, i64 i)] [] 0
def L100 (l : List Int) (n i : Int) : AS := mkS 18 [(0, .d (.sl .int l)), (1, i64 n), (5, i64 i)] [] 0
def L101 (l : List Int) (n i : Int) : AS := mkS 45 [(0, .d (.sl .int l)), (1, i64 n), (5, i64 i)] [] 0
def L156 (a b : List Int) (f s t : Bool) (out : List Int) (i k : Int) : AS := mkS 94 [(0, .d (.sl .int a)), (1, .d (.sl .int b)), (2, boolA f), (3, boolA s), (4, boolA t), (11, .ptr 0 0), (12, .clo (.func 260) [] [.ptr 0 0]), (13, i64 i), (14, i64 k)] [(0, .box [.own 1 .int]), (1, .row 3 .int out)] 2


theorem t46a (d : Deck) (x : List Part) (out : List Span) (i : Int) : @Eq (Out (TyTup [.sl .span, .int])) (aexec Tryz.prog codes sigs2 Tryz.f131 (pureFin [.sl .span, .int]) 0 noCut 200 true (hd Tryz.f131 0) (L46 d x out i)) (bif decide (i < (x.length : Int)) then .need (((0 : Int) ≤ i ∧ i < (x.length : Int)) ∧ True) (.need ((True ∧ True ∧ True ∧ True ∧ True) ∧ (True ∧ True ∧ True ∧ True ∧ True) ∧ True) (.callP 209 [⟨.deck, d⟩, Sigma.mk .part (x.getD i.toNat Ty.part.dflt)] [.span, .int] fun (x_1 : Span × Int) => bif Prod.snd x_1 != (0 : Int) then .need ((True ∧ True) ∧ True ∧ True) (.ret ([], Prod.snd x_1)) else .need ((True ∧ True ∧ True) ∧ True) (.need ((List.length out + List.length [Prod.fst x_1]) * 17 ≤ 35184372088832 ∧ True) (.stop (hd Tryz.f131 0) (mkS 40 [(1, .ptr 0 0), (5, .own 1 .span), (6, .d (.sl .part x)), (7, .d (.v (.int .i64 (IntKind.wrap .i64 (i + (1 : Int))))))] [(0, .box [.d (.sl .flt (Deck.borders d)), .d (.sl .plate (Deck.plates d)), .d (.sl .rack (Deck.racks d)), .d (.v (.int .i64 (Deck.arms d)))]), (1, .row 175 .span (out ++ [Prod.fst x_1]))] 2))))) else .need ((True ∧ True) ∧ True ∧ True) (.ret (out, (0 : Int)))) := by kernel_rfl

theorem t94a (d : Deck) (k u n : Int) (out : List Span) (c : Int) : @Eq (Out (TyTup [.sl .span, .int])) (aexec Tryz.prog codes sigs2 Tryz.f290 (pureFin [.sl .span, .int]) 0 noCut 200 true (hd Tryz.f290 0) (L94 d k u n out c)) (bif decide (c < n) then .need ((True ∧ True ∧ True ∧ True ∧ True) ∧ (True ∧ True ∧ True ∧ True ∧ True) ∧ True) (.callP 127 [⟨.deck, d⟩, Sigma.mk .part (Part.mk k u (0 : Int) c)] [.span, .int] fun (x : Span × Int) => bif Prod.snd x != (0 : Int) then .need ((True ∧ True) ∧ True ∧ True) (.ret ([], Prod.snd x)) else .need ((True ∧ True ∧ True) ∧ True) (.need ((List.length out + List.length [Prod.fst x]) * 17 ≤ 35184372088832 ∧ True) (.stop (hd Tryz.f290 0) (mkS 36 [(1, .d (.v (.int .i64 k))), (2, .d (.v (.int .i64 u))), (4, .ptr 0 0), (10, .own 1 .span), (14, .d (.v (.int .i64 n))), (15, .d (.v (.int .i64 (IntKind.wrap .i64 (c + (1 : Int))))))] [(0, .box [.d (.sl .flt (Deck.borders d)), .d (.sl .plate (Deck.plates d)), .d (.sl .rack (Deck.racks d)), .d (.v (.int .i64 (Deck.arms d)))]), (1, .row 175 .span (out ++ [Prod.fst x]))] 2)))) else .need ((True ∧ True) ∧ True ∧ True) (.ret (out, (0 : Int)))) := by kernel_rfl

theorem t96a (t : List Span) (l : List Int) (out : List Span) (i : Int) : @Eq (Out (TyTup [.sl .span, .int])) (aexec Tryz.prog codes sigs2 Tryz.f210 (pureFin [.sl .span, .int]) 0 noCut 200 true (hd Tryz.f210 0) (L96 t l out i)) (bif decide (i < (l.length : Int)) then .need (((0 : Int) ≤ i ∧ i < (l.length : Int)) ∧ True) (bif decide (l.getD i.toNat Ty.int.dflt < (0 : Int)) then .need ((True ∧ True) ∧ True ∧ True) (.ret ([], (3 : Int))) else bif decide (l.getD i.toNat Ty.int.dflt ≥ (t.length : Int)) then .need ((True ∧ True) ∧ True ∧ True) (.ret ([], (3 : Int))) else .need (((0 : Int) ≤ l.getD i.toNat Ty.int.dflt ∧ l.getD i.toNat Ty.int.dflt < (t.length : Int)) ∧ True) (.need ((True ∧ True ∧ True) ∧ True) (.need ((List.length out + List.length [List.getD t (Int.toNat (l.getD i.toNat Ty.int.dflt)) Ty.span.dflt]) * 17 ≤ 35184372088832 ∧ True) (.stop (hd Tryz.f210 0) (mkS 42 [(6, .d (.sl .span t)), (8, .own 0 .span), (19, .d (.sl .int l)), (20, .d (.v (.int .i64 (l.length : Int)))), (21, .d (.v (.int .i64 (IntKind.wrap .i64 (i + (1 : Int))))))] [(0, .row 175 .span (out ++ [List.getD t (Int.toNat (l.getD i.toNat Ty.int.dflt)) Ty.span.dflt]))] 1))))) else .need ((True ∧ True) ∧ True ∧ True) (.ret (out, (0 : Int)))) := by kernel_rfl

theorem t98a (t : List Span) (l : List Int) (out : List Span) (i : Int) : @Eq (Out (TyTup [.sl .span, .int])) (aexec Tryz.prog codes sigs2 Tryz.f136 (pureFin [.sl .span, .int]) 0 noCut 200 true (hd Tryz.f136 0) (L98 t l out i)) (bif decide (i < (l.length : Int)) then .need (((0 : Int) ≤ i ∧ i < (l.length : Int)) ∧ True) (bif decide (l.getD i.toNat Ty.int.dflt < (0 : Int)) then .need ((True ∧ True) ∧ True ∧ True) (.ret ([], (3 : Int))) else .need (((0 : Int) ≤ i ∧ i < (l.length : Int)) ∧ True) (bif decide (l.getD i.toNat Ty.int.dflt ≥ (t.length : Int)) then .need ((True ∧ True) ∧ True ∧ True) (.ret ([], (3 : Int))) else .need (((0 : Int) ≤ i ∧ i < (l.length : Int)) ∧ True) (.need (((0 : Int) ≤ l.getD i.toNat Ty.int.dflt ∧ l.getD i.toNat Ty.int.dflt < (t.length : Int)) ∧ True) (.need ((True ∧ True ∧ True) ∧ True) (.need ((List.length out + List.length [List.getD t (Int.toNat (l.getD i.toNat Ty.int.dflt)) Ty.span.dflt]) * 17 ≤ 35184372088832 ∧ True) (.stop (hd Tryz.f136 0) (mkS 49 [(1, .d (.sl .int l)), (6, .d (.sl .span t)), (8, .own 0 .span), (9, .d (.v (.int .i64 (IntKind.wrap .i64 (i + (1 : Int))))))] [(0, .row 175 .span (out ++ [List.getD t (Int.toNat (l.getD i.toNat Ty.int.dflt)) Ty.span.dflt]))] 1))))))) else .need ((True ∧ True) ∧ True ∧ True) (.ret (out, (0 : Int)))) := by kernel_rfl

theorem t97a (a b : Int) (l : List Span) (out : List Int) (i : Int) : @Eq (Out (TyTup [.sl .int])) (aexec Tryz.prog codes sigs2 Tryz.f211 (pureFin [.sl .int]) 0 noCut 200 true (hd Tryz.f211 0) (L97 a b l out i)) (bif decide (i < (l.length : Int)) then .need (((0 : Int) ≤ i ∧ i < (l.length : Int)) ∧ True) (.stop (hd Tryz.f211 1) (mkS 44 [(5, .d (.v (.int .i64 a))), (6, .d (.v (.int .i64 b))), (8, .own 0 .int), (10, .ptr 1 0), (11, .d (.v (.int .i64 (Span.lo (l.getD i.toNat Ty.span.dflt))))), (19, .d (.sl .span l)), (20, .d (.v (.int .i64 (l.length : Int)))), (21, .d (.v (.int .i64 i)))] [(0, .row 3 .int out), (1, .box [.d (.v (.int .i64 (Span.lo (l.getD i.toNat Ty.span.dflt)))), .d (.v (.int .i64 (Span.hi (l.getD i.toNat Ty.span.dflt))))])] 2)) else .need ((True ∧ True) ∧ True) (.callP 81 [Sigma.mk (.sl .int) out] [.sl .int] fun (x : List Int) => .need (True ∧ True) (.ret x))) := by kernel_rfl

theorem t99a (d : Deck) (s : Span) (out : List Int) (k : Int) : @Eq (Out (TyTup [.sl .int])) (aexec Tryz.prog codes sigs2 Tryz.f137 (pureFin [.sl .int]) 0 noCut 200 true (hd Tryz.f137 0) (L99 d s out k)) (bif decide (k ≤ Span.hi s) then .need ((True ∧ True ∧ True ∧ True ∧ True) ∧ True) (.callP 214 [⟨.deck, d⟩] [.int] fun (x : Int) => .need ((True ∧ True) ∧ True) (.need ((List.length out + List.length [IntKind.wrap .i64 (x + k)]) * 9 ≤ 35184372088832 ∧ True) (.stop (hd Tryz.f137 0) (mkS 23 [(2, .ptr 0 0), (3, .ptr 1 0), (5, .own 2 .int), (6, .d (.v (.int .i64 (IntKind.wrap .i64 (k + (1 : Int))))))] [(0, .box [.d (.sl .flt (Deck.borders d)), .d (.sl .plate (Deck.plates d)), .d (.sl .rack (Deck.racks d)), .d (.v (.int .i64 (Deck.arms d)))]), (1, .box [.d (.v (.int .i64 (Span.lo s))), .d (.v (.int .i64 (Span.hi s)))]), (2, .row 3 .int (out ++ [IntKind.wrap .i64 (x + k)]))] 3)))) else .need (True ∧ True) (.ret out)) := by kernel_rfl

theorem t49a (d : Deck) (t : List Span) (e : Int) (out : List Int) (i : Int) : @Eq (Out (TyTup [.sl .int, .int])) (aexec Tryz.prog codes sigs2 Tryz.f80 (pureFin [.sl .int, .int]) 0 noCut 200 true (hd Tryz.f80 0) (L49 d t e out i)) (bif decide (i < (t.length : Int)) then .need (((0 : Int) ≤ i ∧ i < (t.length : Int)) ∧ True) (.need ((True ∧ True ∧ True ∧ True ∧ True) ∧ (True ∧ True ∧ True) ∧ True) (.callP 137 [⟨.deck, d⟩, Sigma.mk .span (t.getD i.toNat Ty.span.dflt)] [.sl .int] fun (x : List Int) => .need ((True ∧ True) ∧ (True ∧ True) ∧ True) (.callP 138 [Sigma.mk (.sl .int) out, Sigma.mk (.sl .int) x] [.sl .int] fun (x : List Int) => .stop (hd Tryz.f80 0) (mkS 32 [(2, .ptr 0 0), (6, .d (.sl .span t)), (7, .d (.v (.int .i64 e))), (8, .d (.sl .int x)), (9, .d (.v (.int .i64 (IntKind.wrap .i64 (i + (1 : Int))))))] [(0, .box [.d (.sl .flt (Deck.borders d)), .d (.sl .plate (Deck.plates d)), .d (.sl .rack (Deck.racks d)), .d (.v (.int .i64 (Deck.arms d)))])] 1)))) else .need ((True ∧ True) ∧ True ∧ True) (.ret (out, e))) := by kernel_rfl

theorem t55a (a b out : List Int) (i : Int) : @Eq (Out (TyTup [.sl .int])) (aexec Tryz.prog codes sigs2 Tryz.f40 (pureFin [.sl .int]) 0 noCut 200 true (hd Tryz.f40 0) (L55 a b out i)) (bif decide (i < (a.length : Int)) then .need (((0 : Int) ≤ i ∧ i < (a.length : Int)) ∧ True) (.need ((True ∧ True) ∧ (True ∧ True) ∧ True) (.callP 44 [Sigma.mk (.sl .int) b, Sigma.mk .int (a.getD i.toNat Ty.int.dflt)] [.bool] fun (x : Bool) => bif x then .need (((0 : Int) ≤ i ∧ i < (a.length : Int)) ∧ True) (.need ((True ∧ True) ∧ True) (.need ((List.length out + List.length [a.getD i.toNat Ty.int.dflt]) * 9 ≤ 35184372088832 ∧ True) (.stop (hd Tryz.f40 0) (mkS 27 [(0, .d (.sl .int a)), (1, .d (.sl .int b)), (5, .own 0 .int), (6, .d (.v (.int .i64 (IntKind.wrap .i64 (i + (1 : Int))))))] [(0, .row 3 .int (out ++ [a.getD i.toNat Ty.int.dflt]))] 1)))) else .stop (hd Tryz.f40 0) (mkS 27 [(0, .d (.sl .int a)), (1, .d (.sl .int b)), (5, .own 0 .int), (6, .d (.v (.int .i64 (IntKind.wrap .i64 (i + (1 : Int))))))] [(0, .row 3 .int out)] 1))) else .need (True ∧ True) (.ret out)) := by kernel_rfl

theorem t57a (b out : List Int) (i : Int) : @Eq (Out (TyTup [.sl .int])) (aexec Tryz.prog codes sigs2 Tryz.f138 (pureFin [.sl .int]) 0 noCut 200 true (hd Tryz.f138 0) (L57 b out i)) (bif decide (i < (b.length : Int)) then .need (((0 : Int) ≤ i ∧ i < (b.length : Int)) ∧ True) (.need ((True ∧ True) ∧ (True ∧ True) ∧ True) (.callP 79 [Sigma.mk (.sl .int) out, Sigma.mk .int (b.getD i.toNat Ty.int.dflt)] [.sl .int] fun (x : List Int) => .stop (hd Tryz.f138 0) (mkS 23 [(1, .d (.sl .int b)), (5, .d (.sl .int x)), (6, .d (.v (.int .i64 (IntKind.wrap .i64 (i + (1 : Int))))))] [] 0))) else .need (True ∧ True) (.ret out)) := by kernel_rfl

theorem t50a (a b : List Int) (i : Int) : @Eq (Out (TyTup [.bool])) (aexec Tryz.prog codes sigs2 Tryz.f20 (pureFin [.bool]) 0 noCut 200 true (hd Tryz.f20 0) (L50 a b i)) (bif decide (i < (a.length : Int)) then .need (((0 : Int) ≤ i ∧ i < (a.length : Int)) ∧ True) (.need (((0 : Int) ≤ i ∧ i < (b.length : Int)) ∧ True) (bif a.getD i.toNat Ty.int.dflt != b.getD i.toNat Ty.int.dflt then .need (True ∧ True) (.ret false) else .stop (hd Tryz.f20 0) (mkS 26 [(0, .d (.sl .int a)), (1, .d (.sl .int b)), (5, .d (.v (.int .i64 (IntKind.wrap .i64 (i + (1 : Int))))))] [] 0))) else .need (True ∧ True) (.ret true)) := by kernel_rfl

theorem t100a (l : List Int) (n i : Int) : @Eq (Out (TyTup [.bool])) (aexec Tryz.prog codes sigs2 Tryz.f44 (pureFin [.bool]) 0 noCut 200 true (hd Tryz.f44 0) (L100 l n i)) (bif decide (i < (l.length : Int)) then .need (((0 : Int) ≤ i ∧ i < (l.length : Int)) ∧ True) (bif l.getD i.toNat Ty.int.dflt == n then .need (True ∧ True) (.ret true) else .stop (hd Tryz.f44 0) (mkS 18 [(0, .d (.sl .int l)), (1, .d (.v (.int .i64 n))), (5, .d (.v (.int .i64 (IntKind.wrap .i64 (i + (1 : Int))))))] [] 0)) else .need (True ∧ True) (.ret false)) := by kernel_rfl

theorem t101a (l : List Int) (n i : Int) : @Eq (Out (TyTup [.sl .int])) (aexec Tryz.prog codes sigs2 Tryz.f79 (pureFin [.sl .int]) 0 noCut 200 true (hd Tryz.f79 0) (L101 l n i)) (bif decide (i < (l.length : Int)) then .need (((0 : Int) ≤ i ∧ i < (l.length : Int)) ∧ True) (bif decide (l.getD i.toNat Ty.int.dflt < n) then .stop (hd Tryz.f79 0) (mkS 45 [(0, .d (.sl .int l)), (1, .d (.v (.int .i64 n))), (5, .d (.v (.int .i64 (IntKind.wrap .i64 (i + (1 : Int))))))] [] 0) else bif decide (i < (l.length : Int)) then .need (((0 : Int) ≤ i ∧ i < (l.length : Int)) ∧ True) (bif l.getD i.toNat Ty.int.dflt == n then .need (True ∧ True) (.ret l) else .need True (.need (((0 : Int) ≤ (0 : Int) ∧ (0 : Int) ≤ i ∧ i ≤ (l.length : Int)) ∧ True) (.need ((0 + List.length (List.drop 0 (List.take (Int.toNat i) l))) * 9 ≤ 35184372088832 ∧ True) (.need ((True ∧ True) ∧ True) (.need ((List.length ([] ++ List.drop 0 (List.take (Int.toNat i) l)) + List.length [n]) * 9 ≤ 35184372088832 ∧ True) (.need (((0 : Int) ≤ i ∧ i ≤ (l.length : Int)) ∧ True) (.need ((List.length ([] ++ List.drop 0 (List.take (Int.toNat i) l) ++ [n]) + List.length (List.drop (Int.toNat i) l)) * 9 ≤ 35184372088832 ∧ True) (.need (True ∧ True) (.ret ([] ++ List.drop 0 (List.take (Int.toNat i) l) ++ [n] ++ List.drop (Int.toNat i) l)))))))))) else .need True (.need (((0 : Int) ≤ (0 : Int) ∧ (0 : Int) ≤ i ∧ i ≤ (l.length : Int)) ∧ True) (.need ((0 + List.length (List.drop 0 (List.take (Int.toNat i) l))) * 9 ≤ 35184372088832 ∧ True) (.need ((True ∧ True) ∧ True) (.need ((List.length ([] ++ List.drop 0 (List.take (Int.toNat i) l)) + List.length [n]) * 9 ≤ 35184372088832 ∧ True) (.need (((0 : Int) ≤ i ∧ i ≤ (l.length : Int)) ∧ True) (.need ((List.length ([] ++ List.drop 0 (List.take (Int.toNat i) l) ++ [n]) + List.length (List.drop (Int.toNat i) l)) * 9 ≤ 35184372088832 ∧ True) (.need (True ∧ True) (.ret ([] ++ List.drop 0 (List.take (Int.toNat i) l) ++ [n] ++ List.drop (Int.toNat i) l)))))))))) else bif decide (i < (l.length : Int)) then .need (((0 : Int) ≤ i ∧ i < (l.length : Int)) ∧ True) (bif l.getD i.toNat Ty.int.dflt == n then .need (True ∧ True) (.ret l) else .need True (.need (((0 : Int) ≤ (0 : Int) ∧ (0 : Int) ≤ i ∧ i ≤ (l.length : Int)) ∧ True) (.need ((0 + List.length (List.drop 0 (List.take (Int.toNat i) l))) * 9 ≤ 35184372088832 ∧ True) (.need ((True ∧ True) ∧ True) (.need ((List.length ([] ++ List.drop 0 (List.take (Int.toNat i) l)) + List.length [n]) * 9 ≤ 35184372088832 ∧ True) (.need (((0 : Int) ≤ i ∧ i ≤ (l.length : Int)) ∧ True) (.need ((List.length ([] ++ List.drop 0 (List.take (Int.toNat i) l) ++ [n]) + List.length (List.drop (Int.toNat i) l)) * 9 ≤ 35184372088832 ∧ True) (.need (True ∧ True) (.ret ([] ++ List.drop 0 (List.take (Int.toNat i) l) ++ [n] ++ List.drop (Int.toNat i) l)))))))))) else .need True (.need (((0 : Int) ≤ (0 : Int) ∧ (0 : Int) ≤ i ∧ i ≤ (l.length : Int)) ∧ True) (.need ((0 + List.length (List.drop 0 (List.take (Int.toNat i) l))) * 9 ≤ 35184372088832 ∧ True) (.need ((True ∧ True) ∧ True) (.need ((List.length ([] ++ List.drop 0 (List.take (Int.toNat i) l)) + List.length [n]) * 9 ≤ 35184372088832 ∧ True) (.need (((0 : Int) ≤ i ∧ i ≤ (l.length : Int)) ∧ True) (.need ((List.length ([] ++ List.drop 0 (List.take (Int.toNat i) l) ++ [n]) + List.length (List.drop (Int.toNat i) l)) * 9 ≤ 35184372088832 ∧ True) (.need (True ∧ True) (.ret ([] ++ List.drop 0 (List.take (Int.toNat i) l) ++ [n] ++ List.drop (Int.toNat i) l)))))))))) := by kernel_rfl

theorem t159t (n : Int) (xs : List Int) : @Eq (Out GRes) (aexec Tryz.prog codes sigs2 Tryz.f260 (gFin 2) 2 noCut 200 false (bodyOf Tryz.f260) (startG Tryz.f260 [i64 n, boolA true, .ptr 0 0] [(0, .box [.own 1 .int]), (1, .row 3 .int xs)] 2)) (.need ((True ∧ True) ∧ True) (.need ((List.length xs + List.length [n]) * 9 ≤ 35184372088832 ∧ True) (.need True (.ret (GRes.mk [] [(0, .box [.own 2 .int]), (2, .row 3 .int (xs ++ [n]))] 3))))) := by kernel_rfl

end Go.Proofs.Zn

/- Tables of spans: contracts. (Own work.) -/
namespace Go.Proofs.Zn
open Go Go.VL

/-- What goes on with a list of spans. -/
def goS (out : List Span) (L : List (Span × Int)) : List Span × Int := bif errL L != 0 then ([], errL L) else (out ++ L.map Prod.fst, 0)
theorem goS_nil (out : List Span) : goS out [] = (out, 0) := by simp [goS, errL]
theorem goS_cons (out : List Span) (p : Span × Int) (L : List (Span × Int)) : goS out (p :: L) = bif p.2 != 0 then ([], p.2) else goS (out ++ [p.1]) L := by
  unfold goS
  simp only [errL]
  cases h : p.2 != 0
  · simp
  · simp [h]
theorem goS_start (L : List (Span × Int)) : goS [] L = tryS L := by simp [goS, tryS]

theorem loop46 {d : Deck} {l : List Part} (hv : ∀ p ∈ l, ValidP d p) (hl : l.length ≤ 1000) {r : List Span × Int} {A : List Item → AS → Prop}
    (hA : Closed Tryz.prog codes sigs2 Tryz.f131 (pureFin [.sl .span, .int]) (fun y => y = r) 0 A) (i : Nat) (hi : i ≤ l.length) (out : List Span) (ho : out.length = i) (h : goS out (covL d (l.drop i)) = r) :
    A (hd Tryz.f131 0) (L46 d l out i) := by
  refine hA.go (t46a d l out i) (sat_bif (fun h1 => ?_) (fun h1 => ?_))
  · have h1 := of_decide_eq_true h1
    have hil : i < l.length := by omega
    rw [getD_int hil]
    rw [List.drop_eq_getElem_cons hil, covL, List.map_cons, goS_cons] at h
    refine ⟨⟨⟨by omega, by omega⟩, trivial⟩, ⟨T5', T5', trivial⟩, _, c86 (hv _ (List.getElem_mem hil)), sat_bif (fun h2 => ?_) (fun h2 => ⟨⟨T3', trivial⟩, ⟨?_, trivial⟩, ?_⟩)⟩
    · rw [h2] at h; exact ⟨⟨T2', T2'⟩, h⟩
    · simp only [List.length_cons, List.length_nil]; omega
    · rw [h2, cond_false] at h
      rw [wrap_succ (by omega)]
      exact loop46 hv hl hA (i + 1) (by omega) _ (by simp [ho]) h
  · have h1 := of_decide_eq_false h1
    rw [List.drop_eq_nil_of_le (by omega), covL, List.map_nil, goS_nil] at h
    exact ⟨⟨T2', T2'⟩, h⟩
termination_by l.length - i
theorem c46 (d : Deck) : Pure Tryz.prog 131 [⟨.deck, d⟩] [.sl .span, .int] (tableS d) :=
  Pure.of_closed (C := codes) (S := sigs2) mixed Tryz.func131 (by kernel_rfl) (Nat.le_of_ble_eq_true (by kernel_rfl)) fun A hA => hA.go (t46 d) (by
    generalize hr : tableS d = r at hA ⊢
    unfold tableS at hr
    refine ⟨⟨T5', trivial⟩, _, c89 d, sat_bif (fun h => ?_) (fun h => ?_)⟩
    · rw [h] at hr; exact ⟨⟨T2', T2'⟩, hr⟩
    · rw [h, cond_false] at hr
      have hk : DeckOk d := deck_ok (by simpa using h)
      have hp : partsOf d = partsS d := by unfold partsOf; rw [h]; rfl
      have hf := parts_few hk
      refine ⟨⟨T5', trivial⟩, _, (c90 d).eq hp, ?_⟩
      exact hA.row 5 175 .span (s' := L46 d (partsS d) [] 0) (by kernel_rfl) (by kernel_rfl) (loop46 (fun p hp => parts_valid hp) (by omega) hA 0 (by omega) [] rfl (by rw [List.drop_zero, goS_start]; exact hr)))

theorem loop94 {d : Deck} {k u : Int} {n : Nat} (hv : ∀ c, ValidP d ⟨k, u, 0, c⟩) (hn : n ≤ 48) {r : List Span × Int} {A : List Item → AS → Prop}
    (hA : Closed Tryz.prog codes sigs2 Tryz.f290 (pureFin [.sl .span, .int]) (fun y => y = r) 0 A) (i : Nat) (hi : i ≤ n) (out : List Span) (ho : out.length = i) (h : goS out (covL d ((colsL k u n).drop i)) = r) :
    A (hd Tryz.f290 0) (L94 d k u n out i) := by
  have hc : (colsL k u n).length = n := by simp [colsL]
  refine hA.go (t94a d k u n out i) (sat_bif (fun h1 => ?_) (fun h1 => ?_))
  · have h1 := of_decide_eq_true h1
    have hil : i < (colsL k u n).length := by omega
    have ei : (colsL k u n)[i] = ⟨k, u, 0, (i : Int)⟩ := by simp [colsL]
    rw [List.drop_eq_getElem_cons hil, ei, covL, List.map_cons, goS_cons] at h
    refine ⟨⟨T5', T5', trivial⟩, _, c85 (hv i), sat_bif (fun h2 => ?_) (fun h2 => ⟨⟨T3', trivial⟩, ⟨?_, trivial⟩, ?_⟩)⟩
    · rw [h2] at h; exact ⟨⟨T2', T2'⟩, h⟩
    · simp only [List.length_cons, List.length_nil]; omega
    · rw [h2, cond_false] at h
      rw [wrap_succ (by omega)]
      exact loop94 hv hn hA (i + 1) (by omega) _ (by simp [ho]) h
  · have h1 := of_decide_eq_false h1
    rw [List.drop_eq_nil_of_le (by omega), covL, List.map_nil, goS_nil] at h
    exact ⟨⟨T2', T2'⟩, h⟩
termination_by n - i
theorem c94 {d : Deck} {k u : Int} {n : Nat} (hv : ∀ c, ValidP d ⟨k, u, 0, c⟩) (hn : n ≤ 48) : Pure Tryz.prog 290 [⟨.deck, d⟩, ⟨.int, k⟩, ⟨.int, u⟩, ⟨.int, (n : Int)⟩] [.sl .span, .int] (tryS (covL d (colsL k u n))) :=
  Pure.of_closed (C := codes) (S := sigs2) mixed Tryz.func290 (by kernel_rfl) (Nat.le_of_ble_eq_true (by kernel_rfl)) fun A hA => hA.go (t94 d k u n)
    (hA.row 10 175 .span (s' := L94 d k u n [] 0) (by kernel_rfl) (by kernel_rfl) (loop94 hv hn hA 0 (by omega) [] rfl (by rw [List.drop_zero, goS_start])))

theorem loop96 {t : List Span} {l : List Int} (hl : l.length ≤ 1000) {r : List Span × Int} {A : List Item → AS → Prop}
    (hA : Closed Tryz.prog codes sigs2 Tryz.f210 (pureFin [.sl .span, .int]) (fun y => y = r) 0 A) (i : Nat) (hi : i ≤ l.length) (out : List Span) (ho : out.length = i) (h : pickGo t out (l.drop i) = r) :
    A (hd Tryz.f210 0) (L96 t l out i) := by
  refine hA.go (t96a t l out i) (sat_bif (fun h1 => ?_) (fun h1 => ?_))
  · have h1 := of_decide_eq_true h1
    have hil : i < l.length := by omega
    rw [getD_int hil]
    rw [List.drop_eq_getElem_cons hil, pickGo] at h
    refine ⟨⟨⟨by omega, by omega⟩, trivial⟩, sat_bif (fun h2 => ?_) (fun h2 => sat_bif (fun h3 => ?_) (fun h3 => ?_))⟩
    · rw [h2] at h; exact ⟨⟨T2', T2'⟩, h⟩
    · rw [h2, h3] at h; exact ⟨⟨T2', T2'⟩, h⟩
    · rw [h2, h3, cond_false, cond_false] at h
      have h2 := of_decide_eq_false h2
      have h3 := of_decide_eq_false h3
      refine ⟨⟨⟨by omega, by omega⟩, trivial⟩, ⟨T3', trivial⟩, ⟨by simp only [List.length_cons, List.length_nil]; omega, trivial⟩, ?_⟩
      rw [wrap_succ (by omega)]
      exact loop96 hl hA (i + 1) (by omega) _ (by simp [ho]) h
  · have h1 := of_decide_eq_false h1
    rw [List.drop_eq_nil_of_le (by omega)] at h
    exact ⟨⟨T2', T2'⟩, h⟩
termination_by l.length - i
theorem loop98 {t : List Span} {l : List Int} (hl : l.length ≤ 1000) {r : List Span × Int} {A : List Item → AS → Prop}
    (hA : Closed Tryz.prog codes sigs2 Tryz.f136 (pureFin [.sl .span, .int]) (fun y => y = r) 0 A) (i : Nat) (hi : i ≤ l.length) (out : List Span) (ho : out.length = i) (h : pickGo t out (l.drop i) = r) :
    A (hd Tryz.f136 0) (L98 t l out i) := by
  refine hA.go (t98a t l out i) (sat_bif (fun h1 => ?_) (fun h1 => ?_))
  · have h1 := of_decide_eq_true h1
    have hil : i < l.length := by omega
    rw [getD_int hil]
    rw [List.drop_eq_getElem_cons hil, pickGo] at h
    refine ⟨⟨⟨by omega, by omega⟩, trivial⟩, sat_bif (fun h2 => ?_) (fun h2 => ⟨⟨⟨by omega, by omega⟩, trivial⟩, sat_bif (fun h3 => ?_) (fun h3 => ?_)⟩)⟩
    · rw [h2] at h; exact ⟨⟨T2', T2'⟩, h⟩
    · rw [h2, h3] at h; exact ⟨⟨T2', T2'⟩, h⟩
    · rw [h2, h3, cond_false, cond_false] at h
      have h2 := of_decide_eq_false h2
      have h3 := of_decide_eq_false h3
      refine ⟨⟨⟨by omega, by omega⟩, trivial⟩, ⟨⟨by omega, by omega⟩, trivial⟩, ⟨T3', trivial⟩, ⟨by simp only [List.length_cons, List.length_nil]; omega, trivial⟩, ?_⟩
      rw [wrap_succ (by omega)]
      exact loop98 hl hA (i + 1) (by omega) _ (by simp [ho]) h
  · have h1 := of_decide_eq_false h1
    rw [List.drop_eq_nil_of_le (by omega)] at h
    exact ⟨⟨T2', T2'⟩, h⟩
termination_by l.length - i
theorem c98 {d : Deck} {l : List Int} (hl : l.length ≤ 1000) : Pure Tryz.prog 136 [⟨.deck, d⟩, ⟨.sl .int, l⟩] [.sl .span, .int] (spansS d l) :=
  Pure.of_closed (C := codes) (S := sigs2) mixed Tryz.func136 (by kernel_rfl) (Nat.le_of_ble_eq_true (by kernel_rfl)) fun A hA => hA.go (t98 d l) (by
    generalize hr : spansS d l = r at hA ⊢
    unfold spansS at hr
    refine ⟨⟨T5', trivial⟩, _, c46 d, sat_bif (fun h => ?_) (fun h => ?_)⟩
    · rw [h] at hr; exact ⟨⟨T2', T2'⟩, hr⟩
    · rw [h, cond_false] at hr
      exact hA.row 8 175 .span (s' := L98 (tableS d).1 l [] 0) (by kernel_rfl) (by kernel_rfl) (loop98 hl hA 0 (by omega) [] rfl hr))
theorem c96_of {d : Deck} {l : List Int} (h45 : Pure Tryz.prog 256 [⟨.deck, d⟩] [.sl .span, .int] (tableS d)) (hl : l.length ≤ 1000) : Pure Tryz.prog 210 [⟨.deck, d⟩, ⟨.sl .int, l⟩] [.sl .span, .int] (spansS d l) :=
  Pure.of_closed (C := codes) (S := sigs2) mixed Tryz.func210 (by kernel_rfl) (Nat.le_of_ble_eq_true (by kernel_rfl)) fun A hA => hA.go (t96 d l) (by
    generalize hr : spansS d l = r at hA ⊢
    unfold spansS at hr
    refine ⟨⟨T5', trivial⟩, _, h45, sat_bif (fun h => ?_) (fun h => ?_)⟩
    · rw [h] at hr; exact ⟨⟨T2', T2'⟩, hr⟩
    · rw [h, cond_false] at hr
      exact hA.row 8 175 .span (s' := L96 (tableS d).1 l [] 0) (by kernel_rfl) (by kernel_rfl) (loop96 hl hA 0 (by omega) [] rfl hr))
end Go.Proofs.Zn

namespace Go.Proofs.Zn
open Go Go.VL

def C93 (l out bad : Nat) : AV := .clo (.func 289) [] [.ptr l 0, .ptr out 0, .ptr bad 0]
def L47 (d : Deck) (x i : Int) : AS := mkS 45 [(1, .ptr 0 0), (3, .ptr 1 0), (4, .clo (.func 126) [] [.ptr 1 0, .ptr 0 0]), (16, .d (.sl .plate d.plates)), (17, i64 d.plates.length), (18, i64 i)] [(0, .box (deckC d)), (1, .box [i64 x])] 2
def H93 (d : Deck) (bad : Int) (xs : List Span) : Heap := [(0, .box (deckC d)), (1, .box [.own 3 .span]), (2, .box [i64 bad]), (3, .row 175 .span xs)]
def L45 (d : Deck) (bad : Int) (out : List Span) : AS := mkS 76 [(1, .ptr 0 0), (5, .ptr 1 0), (6, .ptr 2 0), (7, C93 0 1 2)] (H93 d bad out) 4


theorem t95 (d : Deck) (k u n e : Int) : @Eq (Out GRes) (aexec Tryz.prog codes sigs3 Tryz.f126 (gFin 2) 2 noCut 200 false (bodyOf Tryz.f126) (startG Tryz.f126 [i64 k, i64 u, i64 n, .ptr 0 0, .ptr 1 0] [(0, .box [i64 e]), (1, .box (deckC d))] 2)) (.stop (hd Tryz.f126 0) (mkS 30 [(0, .d (.v (.int .i64 k))), (1, .d (.v (.int .i64 u))), (2, .d (.v (.int .i64 n))), (3, .ptr 0 0), (4, .ptr 1 0), (9, .d (.v (.int .i64 (0 : Int))))] [(0, .box [.d (.v (.int .i64 e))]), (1, .box [.d (.sl .flt (Deck.borders d)), .d (.sl .plate (Deck.plates d)), .d (.sl .rack (Deck.racks d)), .d (.v (.int .i64 (Deck.arms d)))])] 2)) := by kernel_rfl

theorem t93 (d : Deck) (k u r n bad : Int) (xs : List Span) : @Eq (Out GRes) (aexec Tryz.prog codes sigs3 Tryz.f289 (gFin 4) 4 noCut 200 false (bodyOf Tryz.f289) (startG Tryz.f289 [i64 k, i64 u, i64 r, i64 n, .ptr 0 0, .ptr 1 0, .ptr 2 0] (H93 d bad xs) 4)) (.need ((True ∧ True ∧ True ∧ True ∧ True) ∧ (True ∧ True) ∧ (True ∧ True) ∧ (True ∧ True) ∧ True) (.callP 290 [⟨.deck, d⟩, ⟨.int, k⟩, ⟨.int, u⟩, ⟨.int, n⟩] [.sl .span, .int] fun (x : List Span × Int) => .stop (hd Tryz.f289 0) (mkS 32 [(5, .ptr 1 0), (6, .ptr 2 0), (12, .d (.sl .span (Prod.fst x))), (13, .d (.v (.int .i64 (Prod.snd x)))), (22, .d (.v (.int .i64 r))), (23, .d (.v (.int .i64 (0 : Int))))] [(0, .box [.d (.sl .flt (Deck.borders d)), .d (.sl .plate (Deck.plates d)), .d (.sl .rack (Deck.racks d)), .d (.v (.int .i64 (Deck.arms d)))]), (1, .box [.own 3 .span]), (2, .box [.d (.v (.int .i64 bad))]), (3, .row 175 .span xs)] 4))) := by kernel_rfl

theorem t47a (d : Deck) (x i : Int) : @Eq (Out (TyTup [.int])) (aexec Tryz.prog codes sigs3 Tryz.f61 (pureFin [.int]) 0 noCut 200 true (hd Tryz.f61 0) (L47 d x i)) (bif decide (i < (↑(List.length (Deck.plates d)) : Int)) then .need (((0 : Int) ≤ i ∧ i < (↑(List.length (Deck.plates d)) : Int)) ∧ True) (.callG 126 [.d (.v (.int .i64 (1 : Int))), .d (.v (.int .i64 i)), .d (.v (.int .i64 (Plate.cols (List.getD (Deck.plates d) (Int.toNat i) Ty.plate.dflt)))), .ptr 0 0, .ptr 1 0] [(0, .box [.d (.v (.int .i64 x))]), (1, .box [.d (.sl .flt (Deck.borders d)), .d (.sl .plate (Deck.plates d)), .d (.sl .rack (Deck.racks d)), .d (.v (.int .i64 (Deck.arms d)))])] 2 [.int] (fun (a : Int) => GRes.mk [.d (.v (.bool (a != (0 : Int))))] [(0, .box [.d (.v (.int .i64 a))]), (1, .box [.d (.sl .flt (Deck.borders d)), .d (.sl .plate (Deck.plates d)), .d (.sl .rack (Deck.racks d)), .d (.v (.int .i64 (Deck.arms d)))])] 2) fun (x : Int) => bif x != (0 : Int) then .need (True ∧ True) (.ret x) else .stop (hd Tryz.f61 0) (mkS 45 [(1, .ptr 0 0), (3, .ptr 1 0), (4, .clo (.func 126) [] [.ptr 1 0, .ptr 0 0]), (16, .d (.sl .plate (Deck.plates d))), (17, .d (.v (.int .i64 (↑(List.length (Deck.plates d)) : Int)))), (18, .d (.v (.int .i64 (IntKind.wrap .i64 (i + (1 : Int))))))] [(0, .box [.d (.sl .flt (Deck.borders d)), .d (.sl .plate (Deck.plates d)), .d (.sl .rack (Deck.racks d)), .d (.v (.int .i64 (Deck.arms d)))]), (1, .box [.d (.v (.int .i64 x))])] 2)) else .stop (hd Tryz.f61 1) (mkS 45 [(3, .ptr 0 0), (4, .clo (.func 126) [] [.ptr 0 0, .ptr 1 0]), (31, .d (.sl .rack (Deck.racks d))), (32, .d (.v (.int .i64 (↑(List.length (Deck.racks d)) : Int)))), (33, .d (.v (.int .i64 (0 : Int))))] [(0, .box [.d (.v (.int .i64 x))]), (1, .box [.d (.sl .flt (Deck.borders d)), .d (.sl .plate (Deck.plates d)), .d (.sl .rack (Deck.racks d)), .d (.v (.int .i64 (Deck.arms d)))])] 2)) := by kernel_rfl

theorem t45a (d : Deck) (bad : Int) (out : List Span) : @Eq (Out (TyTup [.sl .span, .int])) (aexec Tryz.prog codes sigs3 Tryz.f256 (pureFin [.sl .span, .int]) 0 noCut 300 true (hd Tryz.f256 0) (L45 d bad out)) (.stop (hd Tryz.f256 1) (mkS 76 [(1, .ptr 0 0), (5, .ptr 1 0), (6, .ptr 2 0), (7, .clo (.func 289) [] [.ptr 0 0, .ptr 1 0, .ptr 2 0]), (20, .d (.sl .plate (Deck.plates d))), (21, .d (.v (.int .i64 (↑(List.length (Deck.plates d)) : Int)))), (22, .d (.v (.int .i64 (0 : Int))))] [(0, .box [.d (.sl .flt (Deck.borders d)), .d (.sl .plate (Deck.plates d)), .d (.sl .rack (Deck.racks d)), .d (.v (.int .i64 (Deck.arms d)))]), (1, .box [.own 3 .span]), (2, .box [.d (.v (.int .i64 bad))]), (3, .row 175 .span out)] 4)) := by kernel_rfl

end Go.Proofs.Zn

namespace Go.Proofs.Zn
open Go Go.VL

def L95 (d : Deck) (k u n e c : Int) : AS := mkS 30 [(0, i64 k), (1, i64 u), (2, i64 n), (3, .ptr 0 0), (4, .ptr 1 0), (9, i64 c)] [(0, .box [i64 e]), (1, .box (deckC d))] 2
def L93a (d : Deck) (cs : List Span) (ce r bad : Int) (xs : List Span) (j : Int) : AS := mkS 32 [(5, .ptr 1 0), (6, .ptr 2 0), (12, .d (.sl .span cs)), (13, i64 ce), (22, i64 r), (23, i64 j)] (H93 d bad xs) 4
def L93b (d : Deck) (cs : List Span) (ce r bad : Int) (xs : List Span) (j : Int) : AS := mkS 32 [(5, .ptr 1 0), (6, .ptr 2 0), (12, .d (.sl .span cs)), (13, i64 ce), (22, i64 r), (23, i64 j)] [(0, .box (deckC d)), (1, .box [.own 4 .span]), (2, .box [i64 bad]), (4, .row 175 .span xs)] 5
def L47b (d : Deck) (x i : Int) : AS := mkS 45 [(3, .ptr 0 0), (4, .clo (.func 126) [] [.ptr 0 0, .ptr 1 0]), (31, .d (.sl .rack d.racks)), (32, i64 d.racks.length), (33, i64 i)] [(0, .box [i64 x]), (1, .box (deckC d))] 2
def L45b (d : Deck) (bad : Int) (out : List Span) (i : Int) : AS := mkS 76 [(1, .ptr 0 0), (5, .ptr 1 0), (6, .ptr 2 0), (7, C93 0 1 2), (20, .d (.sl .plate d.plates)), (21, i64 d.plates.length), (22, i64 i)] (H93 d bad out) 4


theorem t95a (d : Deck) (k u n e c : Int) : @Eq (Out GRes) (aexec Tryz.prog codes sigs3 Tryz.f126 (gFin 2) 2 noCut 200 true (hd Tryz.f126 0) (L95 d k u n e c)) (bif decide (c < n) then bif e == (0 : Int) then .need ((True ∧ True ∧ True ∧ True ∧ True) ∧ (True ∧ True ∧ True ∧ True ∧ True) ∧ True) (.callP 127 [⟨.deck, d⟩, Sigma.mk .part (Part.mk k u (0 : Int) c)] [.span, .int] fun (x : Span × Int) => .stop (hd Tryz.f126 0) (mkS 30 [(0, .d (.v (.int .i64 k))), (1, .d (.v (.int .i64 u))), (2, .d (.v (.int .i64 n))), (3, .ptr 0 0), (4, .ptr 1 0), (9, .d (.v (.int .i64 (IntKind.wrap .i64 (c + (1 : Int))))))] [(0, .box [.d (.v (.int .i64 (Prod.snd x)))]), (1, .box [.d (.sl .flt (Deck.borders d)), .d (.sl .plate (Deck.plates d)), .d (.sl .rack (Deck.racks d)), .d (.v (.int .i64 (Deck.arms d)))])] 2)) else .need True (.ret (GRes.mk [.d (.v (.bool (e != (0 : Int))))] [(0, .box [.d (.v (.int .i64 e))]), (1, .box [.d (.sl .flt (Deck.borders d)), .d (.sl .plate (Deck.plates d)), .d (.sl .rack (Deck.racks d)), .d (.v (.int .i64 (Deck.arms d)))])] 2)) else .need True (.ret (GRes.mk [.d (.v (.bool (e != (0 : Int))))] [(0, .box [.d (.v (.int .i64 e))]), (1, .box [.d (.sl .flt (Deck.borders d)), .d (.sl .plate (Deck.plates d)), .d (.sl .rack (Deck.racks d)), .d (.v (.int .i64 (Deck.arms d)))])] 2))) := by kernel_rfl

theorem t93a (d : Deck) (cs : List Span) (ce r bad : Int) (xs : List Span) (j : Int) : @Eq (Out GRes) (aexec Tryz.prog codes sigs3 Tryz.f289 (gFin 4) 4 noCut 200 true (hd Tryz.f289 0) (L93a d cs ce r bad xs j)) (bif decide (j < r) then .need ((List.length xs + List.length cs) * 17 ≤ 35184372088832 ∧ True) (.stop (hd Tryz.f289 0) (mkS 32 [(5, .ptr 1 0), (6, .ptr 2 0), (12, .d (.sl .span cs)), (13, .d (.v (.int .i64 ce))), (22, .d (.v (.int .i64 r))), (23, .d (.v (.int .i64 (IntKind.wrap .i64 (j + (1 : Int))))))] [(0, .box [.d (.sl .flt (Deck.borders d)), .d (.sl .plate (Deck.plates d)), .d (.sl .rack (Deck.racks d)), .d (.v (.int .i64 (Deck.arms d)))]), (1, .box [.own 4 .span]), (2, .box [.d (.v (.int .i64 bad))]), (4, .row 175 .span (xs ++ cs))] 5)) else .need True (.ret (GRes.mk [.d (.v (.bool (ce == (0 : Int))))] [(0, .box [.d (.sl .flt (Deck.borders d)), .d (.sl .plate (Deck.plates d)), .d (.sl .rack (Deck.racks d)), .d (.v (.int .i64 (Deck.arms d)))]), (1, .box [.own 3 .span]), (2, .box [.d (.v (.int .i64 ce))]), (3, .row 175 .span xs)] 4))) := by kernel_rfl

theorem t93b (d : Deck) (cs : List Span) (ce r bad : Int) (xs : List Span) (j : Int) : @Eq (Out GRes) (aexec Tryz.prog codes sigs3 Tryz.f289 (gFin 4) 4 noCut 200 true (hd Tryz.f289 0) (L93b d cs ce r bad xs j)) (bif decide (j < r) then .need ((List.length xs + List.length cs) * 17 ≤ 35184372088832 ∧ True) (.stop (hd Tryz.f289 0) (mkS 32 [(5, .ptr 1 0), (6, .ptr 2 0), (12, .d (.sl .span cs)), (13, .d (.v (.int .i64 ce))), (22, .d (.v (.int .i64 r))), (23, .d (.v (.int .i64 (IntKind.wrap .i64 (j + (1 : Int))))))] [(0, .box [.d (.sl .flt (Deck.borders d)), .d (.sl .plate (Deck.plates d)), .d (.sl .rack (Deck.racks d)), .d (.v (.int .i64 (Deck.arms d)))]), (1, .box [.own 4 .span]), (2, .box [.d (.v (.int .i64 bad))]), (4, .row 175 .span (xs ++ cs))] 5)) else .need True (.ret (GRes.mk [.d (.v (.bool (ce == (0 : Int))))] [(0, .box [.d (.sl .flt (Deck.borders d)), .d (.sl .plate (Deck.plates d)), .d (.sl .rack (Deck.racks d)), .d (.v (.int .i64 (Deck.arms d)))]), (1, .box [.own 4 .span]), (2, .box [.d (.v (.int .i64 ce))]), (4, .row 175 .span xs)] 5))) := by kernel_rfl

theorem t47b (d : Deck) (x i : Int) : @Eq (Out (TyTup [.int])) (aexec Tryz.prog codes sigs3 Tryz.f61 (pureFin [.int]) 0 noCut 200 true (hd Tryz.f61 1) (L47b d x i)) (bif decide (i < (↑(List.length (Deck.racks d)) : Int)) then .need (((0 : Int) ≤ i ∧ i < (↑(List.length (Deck.racks d)) : Int)) ∧ True) (.callG 126 [.d (.v (.int .i64 (2 : Int))), .d (.v (.int .i64 i)), .d (.v (.int .i64 (Rack.cols (List.getD (Deck.racks d) (Int.toNat i) Ty.rack.dflt)))), .ptr 0 0, .ptr 1 0] [(0, .box [.d (.v (.int .i64 x))]), (1, .box [.d (.sl .flt (Deck.borders d)), .d (.sl .plate (Deck.plates d)), .d (.sl .rack (Deck.racks d)), .d (.v (.int .i64 (Deck.arms d)))])] 2 [.int] (fun (a : Int) => GRes.mk [.d (.v (.bool (a != (0 : Int))))] [(0, .box [.d (.v (.int .i64 a))]), (1, .box [.d (.sl .flt (Deck.borders d)), .d (.sl .plate (Deck.plates d)), .d (.sl .rack (Deck.racks d)), .d (.v (.int .i64 (Deck.arms d)))])] 2) fun (x : Int) => bif x != (0 : Int) then .need (True ∧ True) (.ret x) else .stop (hd Tryz.f61 1) (mkS 45 [(3, .ptr 0 0), (4, .clo (.func 126) [] [.ptr 0 0, .ptr 1 0]), (31, .d (.sl .rack (Deck.racks d))), (32, .d (.v (.int .i64 (↑(List.length (Deck.racks d)) : Int)))), (33, .d (.v (.int .i64 (IntKind.wrap .i64 (i + (1 : Int))))))] [(0, .box [.d (.v (.int .i64 x))]), (1, .box [.d (.sl .flt (Deck.borders d)), .d (.sl .plate (Deck.plates d)), .d (.sl .rack (Deck.racks d)), .d (.v (.int .i64 (Deck.arms d)))])] 2)) else .need (True ∧ True) (.ret (0 : Int))) := by kernel_rfl

theorem t45b (d : Deck) (bad : Int) (out : List Span) (i : Int) : @Eq (Out (TyTup [.sl .span, .int])) (aexec Tryz.prog codes sigs3 Tryz.f256 (pureFin [.sl .span, .int]) 0 noCut 300 true (hd Tryz.f256 1) (L45b d bad out i)) (bif decide (i < (↑(List.length (Deck.plates d)) : Int)) then .need (((0 : Int) ≤ i ∧ i < (↑(List.length (Deck.plates d)) : Int)) ∧ True) (.callG 289 [.d (.v (.int .i64 (1 : Int))), .d (.v (.int .i64 i)), .d (.v (.int .i64 (Plate.rows (List.getD (Deck.plates d) (Int.toNat i) Ty.plate.dflt)))), .d (.v (.int .i64 (Plate.cols (List.getD (Deck.plates d) (Int.toNat i) Ty.plate.dflt)))), .ptr 0 0, .ptr 1 0, .ptr 2 0] [(0, .box [.d (.sl .flt (Deck.borders d)), .d (.sl .plate (Deck.plates d)), .d (.sl .rack (Deck.racks d)), .d (.v (.int .i64 (Deck.arms d)))]), (1, .box [.own 3 .span]), (2, .box [.d (.v (.int .i64 bad))]), (3, .row 175 .span out)] 4 [.sl .span, .int] (fun (a : List Span × Int) => GRes.mk [.d (.v (.bool (Prod.snd a == (0 : Int))))] [(0, .box [.d (.sl .flt (Deck.borders d)), .d (.sl .plate (Deck.plates d)), .d (.sl .rack (Deck.racks d)), .d (.v (.int .i64 (Deck.arms d)))]), (1, .box [.own 4 .span]), (2, .box [.d (.v (.int .i64 (Prod.snd a)))]), (4, .row 175 .span (Prod.fst a))] 5) fun (x : List Span × Int) => bif !Prod.snd x == (0 : Int) then bif Prod.snd x != (0 : Int) then .need ((True ∧ True) ∧ True ∧ True) (.ret ([], Prod.snd x)) else .stop (hd Tryz.f256 3) (mkS 76 [(5, .ptr 0 0), (59, .d (.v (.int .i64 (IntKind.wrap .i64 ((↑(List.length (Deck.borders d)) : Int) - (1 : Int)))))), (60, .d (.v (.int .i64 (0 : Int))))] [(0, .box [.own 1 .span]), (1, .row 175 .span (Prod.fst x))] 2) else .stop (hd Tryz.f256 1) (mkS 76 [(1, .ptr 0 0), (5, .ptr 1 0), (6, .ptr 2 0), (7, .clo (.func 289) [] [.ptr 0 0, .ptr 1 0, .ptr 2 0]), (20, .d (.sl .plate (Deck.plates d))), (21, .d (.v (.int .i64 (↑(List.length (Deck.plates d)) : Int)))), (22, .d (.v (.int .i64 (IntKind.wrap .i64 (i + (1 : Int))))))] [(0, .box [.d (.sl .flt (Deck.borders d)), .d (.sl .plate (Deck.plates d)), .d (.sl .rack (Deck.racks d)), .d (.v (.int .i64 (Deck.arms d)))]), (1, .box [.own 3 .span]), (2, .box [.d (.v (.int .i64 (Prod.snd x)))]), (3, .row 175 .span (Prod.fst x))] 4)) else .stop (hd Tryz.f256 2) (mkS 76 [(1, .ptr 0 0), (5, .ptr 1 0), (6, .ptr 2 0), (7, .clo (.func 289) [] [.ptr 0 0, .ptr 1 0, .ptr 2 0]), (37, .d (.sl .rack (Deck.racks d))), (38, .d (.v (.int .i64 (↑(List.length (Deck.racks d)) : Int)))), (39, .d (.v (.int .i64 (0 : Int))))] [(0, .box [.d (.sl .flt (Deck.borders d)), .d (.sl .plate (Deck.plates d)), .d (.sl .rack (Deck.racks d)), .d (.v (.int .i64 (Deck.arms d)))]), (1, .box [.own 3 .span]), (2, .box [.d (.v (.int .i64 bad))]), (3, .row 175 .span out)] 4)) := by kernel_rfl

end Go.Proofs.Zn
