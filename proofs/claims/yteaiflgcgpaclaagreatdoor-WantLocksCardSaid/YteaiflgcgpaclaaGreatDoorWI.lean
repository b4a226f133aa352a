/- Lanes by their ids; needs, clashes, ways: contracts. (Own work.) -/
import Derived.Test.YteaiflgcgpaclaaGreatDoorWH
import Derived.Test.YteaiflgcgpaclaaGreatDoorWD
import Derived.Test.YteaiflgcgpaclaaGreatDoorWF
import Derived.Test.YteaiflgcgpaclaaGreatDoorWE
import Derived.Test.YteaiflgcgpaclaaGreatDoorRows
import Derived.LaidMore
import Derived.MakeChecks
import Derived.FnData
import Derived.OpenShut
import Derived.ChangeArms
import Derived.ProofKit
set_option linter.unusedVariables false
set_option linter.unusedSimpArgs false
namespace Go.Proofs.Zn
open Go Go.VL

abbrev sumW (d : Deck) : Int := sumI (boxesP d) + sumI (boxesR d)
theorem count_ok {d : Deck} (h : deckS d = 0) : countS d = (sumI (boxesP d), sumI (boxesR d), (d.borders.length : Int) - 1) := by
  unfold countS; rw [h]; rfl
theorem c130 {d : Deck} (h : deckS d = 0) : Pure Tryz.prog 214 [⟨.deck, d⟩] [.int] (sumW d) :=
  ofT2 Tryz.func214 (t130 d) (by kernel_rfl) (by kernel_rfl) fun _ => ⟨⟨T5', trivial⟩, _, (c148 d).eq (count_ok h), T2', by
    have hk := deck_ok h
    have h1 := hk.wells
    have h2 := hk.tips
    show IntKind.i64.wrap (sumI (boxesP d) + sumI (boxesR d)) = _
    rw [wrap_i64 (by omega) (by omega)]⟩

def lanesN (d : Deck) (lo : Int) (n : Nat) : List Int := (List.range n).map fun k : Nat => sumW d + (lo + (k : Int))
theorem lanesN_succ (d : Deck) (lo : Int) (n : Nat) : lanesN d lo (n + 1) = lanesN d lo n ++ [sumW d + (lo + (n : Int))] := by
  simp [lanesN, List.range_succ]
theorem lanesN_len (d : Deck) (lo : Int) (n : Nat) : (lanesN d lo n).length = n := by simp [lanesN]
theorem lanes_eq (d : Deck) (s : Span) : lanesS d s = lanesN d s.lo (s.hi - s.lo + 1).toNat := rfl

theorem loop99 {d : Deck} {s : Span} (h0 : deckS d = 0) (hs : SpanOk d s) {r : List Int} {A : List Item → AS → Prop} (hA : Closed Tryz.prog codes sigs2 Tryz.f137 (pureFin [.sl .int]) (fun y => y = r) 0 A) (hr : lanesS d s = r)
    (j : Nat) (hj : (j : Int) ≤ s.hi - s.lo + 1) (k : Int) (hk : k = s.lo + (j : Int)) : A (hd Tryz.f137 0) (L99 d s (lanesN d s.lo j) k) := by
  have hD := deck_ok h0
  have e1 := hD.wells
  have e2 := hD.tips
  have e3 := hD.lanes
  have ew : sumW d = sumI (boxesP d) + sumI (boxesR d) := rfl
  obtain ⟨s1, s2, s3⟩ := hs
  refine hA.go (t99a d s _ k) (sat_bif (fun h1 => ?_) (fun h1 => ?_))
  · have h1 := of_decide_eq_true h1
    refine ⟨⟨T5', trivial⟩, _, c130 h0, ⟨T2', trivial⟩, ⟨by rw [lanesN_len]; simp only [List.length_cons, List.length_nil]; omega, trivial⟩, ?_⟩
    rw [wrap_i64 (by omega) (by omega), wrap_i64 (by omega) (by omega), hk, ← lanesN_succ]
    exact loop99 h0 ⟨s1, s2, s3⟩ hA hr (j + 1) (by omega) _ (by omega)
  · have h1 := of_decide_eq_false h1
    have e : (s.hi - s.lo + 1).toNat = j := by omega
    rw [lanes_eq, e] at hr
    exact ⟨T2', hr⟩
termination_by (s.hi - s.lo + 1 - (j : Int)).toNat
theorem c99 {d : Deck} {s : Span} (h0 : deckS d = 0) (hs : SpanOk d s) : Pure Tryz.prog 137 [⟨.deck, d⟩, ⟨.span, s⟩] [.sl .int] (lanesS d s) :=
  Pure.of_closed (C := codes) (S := sigs2) mixed Tryz.func137 (by kernel_rfl) (Nat.le_of_ble_eq_true (by kernel_rfl)) fun A hA => hA.go (t99 d s)
    (hA.row 5 3 .int (s' := L99 d s [] s.lo) (by kernel_rfl) (by kernel_rfl) (loop99 h0 hs hA rfl 0 (by obtain ⟨_, h, _⟩ := hs; omega) s.lo (by simp)))

theorem lanes_len {d : Deck} {s : Span} (h0 : deckS d = 0) (hs : SpanOk d s) : (lanesS d s).length ≤ 24 := by
  have hD := (deck_ok h0).lanes
  obtain ⟨s1, s2, s3⟩ := hs
  rw [lanes_eq, lanesN_len]; omega
theorem flat_len {d : Deck} {l : List Span} (h0 : deckS d = 0) (hs : ∀ s ∈ l, SpanOk d s) : (l.flatMap (lanesS d)).length ≤ 24 * l.length := by
  induction l with
  | nil => simp
  | cons s l ih =>
    have h1 := lanes_len h0 (hs s (by simp))
    have h2 := ih fun t ht => hs t (by simp [ht])
    simp only [List.flatMap_cons, List.length_append, List.length_cons]; omega

theorem loop97b {d : Deck} {l : List Span} {s : Span} (h0 : deckS d = 0) (hs : SpanOk d s) {A : List Item → AS → Prop} {i : Nat} (hi : i < 1000) {out : List Int} (ho : out.length ≤ 24000)
    {r : List Int} (hA : Closed Tryz.prog codes sigs2 Tryz.f211 (pureFin [.sl .int]) (fun y => y = r) 0 A)
    (go : A (hd Tryz.f211 0) (L97 (sumI (boxesP d)) (sumI (boxesR d)) l (out ++ lanesS d s) ((i + 1 : Nat) : Int)))
    (j : Nat) (hj : (j : Int) ≤ s.hi - s.lo + 1) (k : Int) (hk : k = s.lo + (j : Int)) : A (hd Tryz.f211 1) (L97b (sumI (boxesP d)) (sumI (boxesR d)) l s (out ++ lanesN d s.lo j) i k) := by
  have hD := deck_ok h0
  have e1 := hD.wells
  have e2 := hD.tips
  have e3 := hD.lanes
  have ew : sumW d = sumI (boxesP d) + sumI (boxesR d) := rfl
  obtain ⟨s1, s2, s3⟩ := hs
  refine hA.go (t97b _ _ l s _ i k) (sat_bif (fun h1 => ?_) (fun h1 => ?_))
  · have h1 := of_decide_eq_true h1
    refine ⟨⟨T2', trivial⟩, ⟨by rw [List.length_append, lanesN_len]; simp only [List.length_cons, List.length_nil]; omega, trivial⟩, ?_⟩
    rw [wrap_i64 (n := sumI (boxesP d) + sumI (boxesR d)) (by omega) (by omega), wrap_i64 (by omega) (by omega), wrap_i64 (by omega) (by omega), List.append_assoc, hk, ← ew, ← lanesN_succ]
    exact loop97b h0 ⟨s1, s2, s3⟩ hi ho hA go (j + 1) (by omega) _ (by omega)
  · have h1 := of_decide_eq_false h1
    have e : (s.hi - s.lo + 1).toNat = j := by omega
    rw [lanes_eq, e] at go
    rw [wrap_succ (by omega)]
    exact go
termination_by (s.hi - s.lo + 1 - (j : Int)).toNat
theorem loop97 {d : Deck} {l : List Span} (h0 : deckS d = 0) (hs : ∀ s ∈ l, SpanOk d s) (hl : l.length ≤ 999) {r : List Int} {A : List Item → AS → Prop} (hA : Closed Tryz.prog codes sigs2 Tryz.f211 (pureFin [.sl .int]) (fun y => y = r) 0 A)
    (hr : setS (l.flatMap (lanesS d)) = r) (i : Nat) (hi : i ≤ l.length) : A (hd Tryz.f211 0) (L97 (sumI (boxesP d)) (sumI (boxesR d)) l ((l.take i).flatMap (lanesS d)) i) := by
  have hf := flat_len h0 (l := l.take i) fun s h => hs s (List.mem_of_mem_take h)
  rw [List.length_take] at hf
  refine hA.go (t97a _ _ l _ i) (sat_bif (fun h1 => ?_) (fun h1 => ?_))
  · have h1 := of_decide_eq_true h1
    have hil : i < l.length := by omega
    have hsi := hs _ (List.getElem_mem hil)
    rw [getD_int hil]
    refine ⟨⟨⟨by omega, by omega⟩, trivial⟩, ?_⟩
    have go := loop97 h0 hs hl hA hr (i + 1) (by omega)
    rw [List.take_succ_eq_append_getElem hil, List.flatMap_append, List.flatMap_singleton] at go
    have := loop97b (l := l) h0 hsi (by omega) (by omega) hA go 0 (by obtain ⟨_, h, _⟩ := hsi; omega) l[i].lo (by simp)
    rw [show lanesN d l[i].lo 0 = [] from rfl, List.append_nil] at this
    exact this
  · have h1 := of_decide_eq_false h1
    rw [List.take_of_length_le (by omega)] at hf ⊢
    exact ⟨⟨T2', trivial⟩, _, c129 (by omega), T2', hr⟩
termination_by l.length - i

theorem goJ_len : ∀ (ys out : List Span), (Sp.goJ ys out).length ≤ out.length + ys.length
  | [], out => by simp [Sp.goJ]
  | y :: ys, out => by
    rw [Sp.goJ]
    cases (decide (0 < out.length) && Sp.follows (out.getD (out.length - 1) Ty.span.dflt) y)
    · rw [cond_false]
      have := goJ_len ys (out ++ [y])
      simp only [List.length_append, List.length_cons, List.length_nil] at this ⊢; omega
    · rw [cond_true]
      have := goJ_len ys (out.set (out.length - 1) (Sp.hull (out.getD (out.length - 1) Ty.span.dflt) y))
      simp only [List.length_set, List.length_cons] at this ⊢; omega
theorem c97 {d : Deck} {l : List Span} (h0 : deckS d = 0) (hs : ∀ s ∈ l, SpanOk d s) (hl : l.length ≤ 999) : Pure Tryz.prog 211 [⟨.deck, d⟩, ⟨.sl .span, l⟩] [.sl .int] (needsS d l) := by
  have hD := deck_ok h0
  have e3 := hD.lanes
  have hf : ∀ s ∈ l, Sp.FitS s := fun s h => by
    obtain ⟨s1, s2, s3⟩ := hs s h
    refine ⟨?_, ?_⟩ <;> unfold Sp.Fit <;> omega
  obtain ⟨j1, j2, j3⟩ := Sp.join_spec Sp.srt_ok hf
  have jl : (Sp.goJ (Sp.srt (Sp.keep l)) []).length ≤ 999 := by
    have h1 := goJ_len (Sp.srt (Sp.keep l)) []
    rw [Sp.srt_len] at h1
    have h2 : (Sp.keep l).length ≤ l.length := List.length_filter_le _ _
    simp only [List.length_nil] at h1; omega
  have c31 := Sp.c31 (xs := l) (by unfold Sp.Sm; omega)
  generalize Sp.goJ (Sp.srt (Sp.keep l)) [] = js at c31 j1 j2 j3 jl
  have js1 : ∀ s ∈ js, SpanOk d s := fun s h => by
    have hne := j1.ne s h
    obtain ⟨t, ht, t1, t2⟩ := (j3 s.lo).1 ⟨s, h, by omega, by omega⟩
    obtain ⟨u, hu, u1, u2⟩ := (j3 s.hi).1 ⟨s, h, by omega, by omega⟩
    obtain ⟨a1, a2, a3⟩ := hs t ht
    obtain ⟨b1, b2, b3⟩ := hs u hu
    exact ⟨by omega, hne, by omega⟩
  refine Pure.of_closed (C := codes) (S := sigs2) mixed Tryz.func211 (by kernel_rfl) (Nat.le_of_ble_eq_true (by kernel_rfl)) fun A hA => hA.go (t97 d l) ⟨⟨T5', trivial⟩, _, (c115 d).eq (count_ok h0), ⟨T2', trivial⟩, _, c31, ?_⟩
  exact hA.row 8 3 .int (s' := L97 (sumI (boxesP d)) (sumI (boxesR d)) js [] 0) (by kernel_rfl) (by kernel_rfl) (loop97 h0 js1 jl hA (needs_den j3) 0 (by omega))

theorem table_code {d : Deck} (h : (tableS d).2 = 0) : deckS d = 0 := by
  unfold tableS at h
  cases h1 : deckS d != 0
  · simpa using h1
  · rw [h1, cond_true] at h; exact h
theorem spans_code {d : Deck} {l : List Int} (h : (spansS d l).2 = 0) : deckS d = 0 := by
  unfold spansS at h
  cases h1 : (tableS d).2 != 0
  · exact table_code (by simpa using h1)
  · rw [h1, cond_true] at h; exact table_code h
theorem c48 {d : Deck} {l : List Int} (hl : l.length ≤ 999) : Pure Tryz.prog 135 [⟨.deck, d⟩, ⟨.sl .int, l⟩] [.sl .int, .int] (needsR d l) :=
  ofT2 Tryz.func135 (t48 d l) (by kernel_rfl) (by kernel_rfl) fun _ => by
    unfold needsR
    refine ⟨⟨T5', T2', trivial⟩, _, c96 (by omega), sat_bif (fun h => ⟨⟨T2', T2'⟩, by rw [h]; rfl⟩) (fun h => ?_)⟩
    have h0 : (spansS d l).2 = 0 := by simpa using h
    obtain ⟨a, b, c⟩ := spans_ok h0
    rw [h, cond_false]
    exact ⟨⟨T5', T2', trivial⟩, _, c97 (spans_code h0) b (by omega), ⟨T2', T2'⟩, rfl⟩

theorem needs_len {d : Deck} (h0 : deckS d = 0) : ∀ {l : List Span} (_ : ∀ s ∈ l, SpanOk d s) (out : List Int), (l.foldl (fun out s => eitherS out (lanesS d s)) out).length ≤ out.length + 24 * l.length
  | [], _, out => by simp
  | s :: l, hs, out => by
    have h1 := lanes_len h0 (hs s (by simp))
    have h2 := needs_len h0 (l := l) (fun t ht => hs t (by simp [ht])) (eitherS out (lanesS d s))
    have h3 := either_len (a := out) (b := lanesS d s)
    simp only [List.foldl_cons, List.length_cons]; omega
theorem loop49 {d : Deck} {l : List Span} {e : Int} (h0 : l ≠ [] → deckS d = 0) (hs : ∀ s ∈ l, SpanOk d s) (hl : l.length ≤ 999) {r : List Int × Int} {A : List Item → AS → Prop} (hA : Closed Tryz.prog codes sigs2 Tryz.f80 (pureFin [.sl .int, .int]) (fun y => y = r) 0 A)
    (hr : (needsS d l, e) = r) (i : Nat) (hi : i ≤ l.length) : A (hd Tryz.f80 0) (L49 d l e (needsS d (l.take i)) i) := by
  refine hA.go (t49a d l e _ i) (sat_bif (fun h1 => ?_) (fun h1 => ?_))
  · have h1 := of_decide_eq_true h1
    have hil : i < l.length := by omega
    have hc := h0 (fun h => by rw [h] at hil; simp at hil)
    have hn := needs_len hc (l := l.take i) (fun s h => hs s (List.mem_of_mem_take h)) []
    have hn : (needsS d (l.take i)).length ≤ 0 + 24 * (l.take i).length := hn
    rw [List.length_take] at hn
    have hsi := hs _ (List.getElem_mem hil)
    have hll := lanes_len hc hsi
    rw [getD_int hil]
    refine ⟨⟨⟨by omega, by omega⟩, trivial⟩, ⟨T5', T3', trivial⟩, _, c99 hc hsi, ⟨T2', T2', trivial⟩, _, c57 (by omega) (by omega), ?_⟩
    have e1 : eitherS (needsS d (l.take i)) (lanesS d l[i]) = needsS d (l.take (i + 1)) := by
      rw [List.take_succ_eq_append_getElem hil, needsS, needsS, List.foldl_append]; rfl
    rw [e1, wrap_succ (by omega)]
    exact loop49 h0 hs hl hA hr (i + 1) (by omega)
  · have h1 := of_decide_eq_false h1
    rw [List.take_of_length_le (by omega)]
    exact ⟨⟨T2', T2'⟩, hr⟩
termination_by l.length - i
theorem c49 {d : Deck} {l : List Int} (hl : l.length ≤ 999) : Pure Tryz.prog 80 [⟨.deck, d⟩, ⟨.sl .int, l⟩] [.sl .int, .int] (needsR d l) :=
  Pure.of_closed (C := codes) (S := sigs2) mixed Tryz.func80 (by kernel_rfl) (Nat.le_of_ble_eq_true (by kernel_rfl)) fun A hA => hA.go (t49 d l) (by
    refine ⟨⟨T5', T2', trivial⟩, _, c98 (by omega), ?_⟩
    have hq : (needsS d (spansS d l).1, (spansS d l).2) = needsR d l := by
      unfold needsR
      cases h : (spansS d l).2 != 0
      · have h0 : (spansS d l).2 = 0 := by simpa using h
        rw [cond_false, h0]
      · rw [cond_true, spans_err (by simpa using h)]; rfl
    by_cases h0 : (spansS d l).2 = 0
    · obtain ⟨a, b, c⟩ := spans_ok h0
      exact hA.slot 8 (.d (.v (.slice none 0 0))) (.d (.sl .int [])) (s' := L49 d (spansS d l).1 (spansS d l).2 [] 0) (by kernel_rfl) (by kernel_rfl) (AVle.nil _ .int 0) (by kernel_rfl) (loop49 (fun _ => spans_code h0) b (by omega) hA hq 0 (by omega))
    · have e := spans_err h0
      exact hA.slot 8 (.d (.v (.slice none 0 0))) (.d (.sl .int [])) (s' := L49 d (spansS d l).1 (spansS d l).2 [] 0) (by kernel_rfl) (by kernel_rfl) (AVle.nil _ .int 0) (by kernel_rfl) (loop49 (fun h => absurd e h) (fun s hs => by rw [e] at hs; cases hs) (by rw [e]; simp) hA hq 0 (by omega)))

theorem two_some {l : List Span} (h : l.length = 2) : ∃ a b, l = [a, b] := by
  match l, h with
  | [a, b], _ => exact ⟨a, b, rfl⟩
theorem meets_clash {a b : Span} (ha : a.lo ≤ a.hi) (hb : b.lo ≤ b.hi) : Sp.meets a b = clashS a b := by
  have h := Sp.meets_iff ha hb
  unfold clashS
  by_cases h1 : a.lo ≤ b.hi
  · rw [decide_eq_true h1, cond_true]
    by_cases h2 : b.lo ≤ a.hi
    · rw [decide_eq_true h2, h.2 ⟨h1, h2⟩]
    · rw [decide_eq_false h2]
      cases hm : Sp.meets a b
      · rfl
      · exact absurd (h.1 hm).2 h2
  · rw [decide_eq_false h1, cond_false]
    cases hm : Sp.meets a b
    · rfl
    · exact absurd (h.1 hm).1 h1
theorem hull_way {a b : Span} (ha : a.lo ≤ a.hi) (hb : b.lo ≤ b.hi) : Sp.hull a b = wayS a b := by
  unfold Sp.hull Sp.emp
  rw [decide_eq_false (by omega), decide_eq_false (by omega), cond_false, cond_false]
  unfold Sp.over wayS
  by_cases h1 : b.lo < a.lo <;> by_cases h2 : b.hi > a.hi <;> simp [h1, h2]
theorem way_ok {d : Deck} {a b : Span} (ha : SpanOk d a) (hb : SpanOk d b) : SpanOk d (wayS a b) := by
  obtain ⟨a1, a2, a3⟩ := ha
  obtain ⟨b1, b2, b3⟩ := hb
  unfold wayS SpanOk
  by_cases h1 : b.lo < a.lo <;> by_cases h2 : b.hi > a.hi <;> simp only [h1, h2, decide_true, decide_false, cond_true, cond_false] <;> omega
theorem needs_one {d : Deck} (s : Span) : needsS d [s] = lanesS d s := by
  refine rise_ext (needs_rise _ _) (lanes_rise _ _) fun n => ?_
  rw [mem_needs]; simp
theorem c53 (d : Deck) (a b : Int) : Pure Tryz.prog 133 [⟨.deck, d⟩, ⟨.int, a⟩, ⟨.int, b⟩] [.sl .int, .int] (pathR d a b) :=
  ofT2 Tryz.func133 (t53 d a b) (by kernel_rfl) (by kernel_rfl) fun _ => by
    unfold pathR
    refine ⟨⟨T2', T2', trivial⟩, ⟨T5', T2', trivial⟩, _, c96 (by simp), sat_bif (fun h => ⟨⟨T2', T2'⟩, by rw [h]; rfl⟩) (fun h => ?_)⟩
    have h0 : (spansS d [a, b]).2 = 0 := by simpa using h
    obtain ⟨g1, g2, g3⟩ := spans_ok h0
    obtain ⟨x, y, e⟩ := two_some g3
    rw [e] at g2
    rw [h, cond_false, e]
    have hx := g2 x (by simp)
    have hy := g2 y (by simp)
    have x2 := hx.2.1
    have y2 := hy.2.1
    refine ⟨⟨⟨by simp, by simp⟩, trivial⟩, ⟨⟨by simp, by simp⟩, trivial⟩, ⟨T3', T3', trivial⟩, _, (Sp.c21 x y).eq (hull_way x2 y2), ⟨T3', trivial⟩, ⟨T5', T2', trivial⟩, _, (c97 (l := [wayS x y]) (spans_code h0) (fun s hs => by rw [List.mem_singleton.1 hs]; exact way_ok hx hy) (by simp)).eq (needs_one _), ⟨T2', T2'⟩, rfl⟩
theorem c54 (d : Deck) (a b : Int) : Pure Tryz.prog 78 [⟨.deck, d⟩, ⟨.int, a⟩, ⟨.int, b⟩] [.sl .int, .int] (pathR d a b) :=
  ofT2 Tryz.func78 (t54 d a b) (by kernel_rfl) (by kernel_rfl) fun _ => by
    unfold pathR
    refine ⟨⟨T2', T2', trivial⟩, ⟨T5', T2', trivial⟩, _, c98 (by simp), sat_bif (fun h => ⟨⟨T2', T2'⟩, by rw [h]; rfl⟩) (fun h => ?_)⟩
    have h0 : (spansS d [a, b]).2 = 0 := by simpa using h
    obtain ⟨g1, g2, g3⟩ := spans_ok h0
    obtain ⟨x, y, e⟩ := two_some g3
    rw [e] at g2
    rw [h, cond_false, e]
    have hw := way_ok (g2 x (by simp)) (g2 y (by simp))
    have c := c99 (spans_code h0) hw
    refine ⟨⟨⟨by simp, by simp⟩, trivial⟩, ⟨⟨by simp, by simp⟩, trivial⟩, ?_⟩
    show Sat _ _ _ (bif decide (y.lo < x.lo) then _ else _)
    refine sat_bif (fun h2 => ⟨⟨⟨by simp, by simp⟩, trivial⟩, ⟨⟨by simp, by simp⟩, trivial⟩, ?_⟩) (fun h2 => ⟨⟨⟨by simp, by simp⟩, trivial⟩, ?_⟩)
    · show Sat _ _ _ (bif decide (y.hi > x.hi) then _ else _)
      refine sat_bif (fun h3 => ⟨⟨⟨by simp, by simp⟩, trivial⟩, ⟨T5', T3', trivial⟩, lanesS d (wayS x y), ?_, ⟨T2', T2'⟩, rfl⟩) (fun h3 => ⟨⟨T5', T3', trivial⟩, lanesS d (wayS x y), ?_, ⟨T2', T2'⟩, rfl⟩)
      all_goals (unfold wayS at c ⊢; rw [h2, h3] at c ⊢; exact c)
    · show Sat _ _ _ (bif decide (y.hi > x.hi) then _ else _)
      refine sat_bif (fun h3 => ⟨⟨⟨by simp, by simp⟩, trivial⟩, ⟨T5', T3', trivial⟩, lanesS d (wayS x y), ?_, ⟨T2', T2'⟩, rfl⟩) (fun h3 => ⟨⟨T5', T3', trivial⟩, lanesS d (wayS x y), ?_, ⟨T2', T2'⟩, rfl⟩)
      all_goals (unfold wayS at c ⊢; rw [h2, h3] at c ⊢; exact c)
end Go.Proofs.Zn

/- Fields of kinds; ids; answers: contracts. (Own work.) -/
namespace Go.Proofs.Wn
open Go Go.VL Go.Proofs.Zn

abbrev T6' : True ∧ True ∧ True ∧ True ∧ True ∧ True := ⟨trivial, trivial, trivial, trivial, trivial, trivial⟩
def flS (k : Int) : Flds := bif k == 1 then ⟨true, false, false, false, false⟩ else bif k == 2 then ⟨true, false, false, false, false⟩ else bif k == 4 then ⟨false, true, true, false, true⟩ else
  bif k == 5 then ⟨false, true, false, false, true⟩ else bif k == 6 then ⟨false, true, false, false, true⟩ else bif k == 7 then ⟨false, true, false, false, false⟩ else bif k == 9 then ⟨false, true, false, false, false⟩ else
  bif k == 10 then ⟨false, true, false, true, false⟩ else ⟨false, false, false, false, false⟩
theorem sat_bif' {α : Type} {P : Program} {A : List Item → AS → Prop} {R0 : α → Prop} {b : Bool} {S T : Out α} (h1 : b = true → Sat P A R0 S) (h0 : b = false → Sat P A R0 T) : Sat P A R0 (bif b then S else T) := sat_bif h1 h0
theorem c63 (k : Int) : Pure Tryz.prog 63 [⟨.int, k⟩] [.flds] (flS k) :=
  ofT Tryz.func63 (t63 k) (by kernel_rfl) (by kernel_rfl) fun _ => by
    unfold flS
    repeat' (refine sat_bif' (fun _ => ?_) (fun _ => ?_))
    all_goals (refine ⟨T6', ?_⟩; show (_ : Flds) = _)
    all_goals (first | rfl | (simp only [*, cond_true, cond_false]; done) | simp_all)
theorem c72 (k : Int) : Pure Tryz.prog 72 [⟨.int, k⟩] [.b5] (flS k) :=
  ofT Tryz.func72 (t72 k) (by kernel_rfl) (by kernel_rfl) fun _ => by
    unfold flS
    repeat' (refine sat_bif' (fun _ => ?_) (fun _ => ?_))
    all_goals (refine ⟨T6', ?_⟩; show (_ : Flds) = _)
    all_goals (first | rfl | (simp only [*, cond_true, cond_false]; done) | simp_all)
def hasS (r : Req) : Flds := ⟨decide ((r.ids.length : Int) > 0), r.a != 0, r.b != 0, r.ver != 0, r.vol != 0⟩
theorem c64 (r : Req) : Pure Tryz.prog 64 [⟨.req, r⟩] [.flds] (hasS r) := ofT Tryz.func64 (t64 r) (by kernel_rfl) (by kernel_rfl) fun _ => ⟨T6', rfl⟩
def withinS (f g : Flds) : Bool := (!f.ids || g.ids) && ((!f.a || g.a) && ((!f.b || g.b) && ((!f.ver || g.ver) && (!f.vol || g.vol))))
theorem c65 (f g : Flds) : Pure Tryz.prog 65 [⟨.flds, f⟩, ⟨.flds, g⟩] [.bool] (withinS f g) :=
  ofT Tryz.func65 (t65 f g) (by kernel_rfl) (by kernel_rfl) fun _ => by
    obtain ⟨f1, f2, f3, f4, f5⟩ := f
    obtain ⟨g1, g2, g3, g4, g5⟩ := g
    cases f1 <;> cases f2 <;> cases f3 <;> cases f4 <;> cases f5 <;> exact ⟨T2', by cases g1 <;> cases g2 <;> cases g3 <;> cases g4 <;> cases g5 <;> rfl⟩
def errR (e i : Int) : Resp := ⟨e, i, 0, 0, []⟩
theorem c62 (e : Int) : Pure Tryz.prog 62 [⟨.int, e⟩] [.resp] (errR e 0) := ofT Tryz.func62 (t62 e) (by kernel_rfl) (by kernel_rfl) fun _ => ⟨T6', rfl⟩
theorem c69 (e i : Int) : Pure Tryz.prog 69 [⟨.int, e⟩, ⟨.int, i⟩] [.resp] (errR e i) := ofT Tryz.func69 (t69 e i) (by kernel_rfl) (by kernel_rfl) fun _ => ⟨T6', rfl⟩
theorem c71 (e i : Int) : Pure Tryz.prog 71 [⟨.int, e⟩, ⟨.int, i⟩] [.resp] (errR e i) := ofT Tryz.func71 (t71 e i) (by kernel_rfl) (by kernel_rfl) fun _ => ⟨T6', rfl⟩
def kindS (d : Deck) (i : Int) : Int := (partS d i).1.kind
theorem part_err {d : Deck} {i : Int} (h : (partS d i).2 ≠ 0) : (partS d i).1 = ⟨0, 0, 0, 0⟩ := by
  unfold partS at h ⊢
  cases h1 : deckS d != 0
  · rw [h1, cond_false] at h; rw [cond_false]
    cases h2 : decide (i < 0)
    · rw [h2, cond_false] at h; rw [cond_false]
      cases h3 : decide (i ≥ ((partsS d).length : Int))
      · rw [h3] at h; exact absurd rfl h
      · rfl
    · rfl
  · rfl
theorem c68 (d : Deck) (i : Int) : Pure Tryz.prog 68 [⟨.deck, d⟩, ⟨.int, i⟩] [.int] (kindS d i) := ofT Tryz.func68 (t68 d i) (by kernel_rfl) (by kernel_rfl) fun _ => ⟨⟨T5', T2', trivial⟩, _, c84 d i, T2', rfl⟩
theorem c74 (d : Deck) (i : Int) : Pure Tryz.prog 74 [⟨.deck, d⟩, ⟨.int, i⟩] [.int] (kindS d i) := ofT Tryz.func74 (t74 d i) (by kernel_rfl) (by kernel_rfl) fun _ => ⟨⟨T5', T2', trivial⟩, _, c42 d i, by
  unfold kindS
  refine sat_bif (fun h => ⟨T2', ?_⟩) (fun h => ⟨T2', rfl⟩)
  rw [part_err (by simpa using h)]; rfl⟩

/-! ### lists of changes, answers -/
theorem ch_eq (a b : Change) : (a.ver == b.ver && (a.by' == b.by' && (a.n == b.n && true))) = decide (a = b) := by
  obtain ⟨a1, a2, a3⟩ := a
  obtain ⟨b1, b2, b3⟩ := b
  simp only [Bool.and_true, Change.mk.injEq]
  by_cases h1 : a1 = b1 <;> by_cases h2 : a2 = b2 <;> by_cases h3 : a3 = b3 <;> simp [h1, h2, h3]
theorem loop60 {a b : List Change} (he : a.length = b.length) (hl : a.length ≤ 1000000) {r : Bool} {A : List Item → AS → Prop} (hA : Closed Tryz.prog codes sigs Tryz.f60 (pureFin [.bool]) (fun y => y = r) 0 A)
    (i : Nat) (hi : i ≤ a.length) (h : decide (a.drop i = b.drop i) = r) : A (hd Tryz.f60 0) (L60 a b i) := by
  refine hA.go (t60a a b i) (sat_bif (fun h1 => ?_) (fun h1 => ?_))
  · have h1 := of_decide_eq_true h1
    have hil : i < a.length := by omega
    have hib : i < b.length := by omega
    rw [getD_int hil, getD_int hib, ch_eq]
    rw [List.drop_eq_getElem_cons hil, List.drop_eq_getElem_cons hib] at h
    refine ⟨⟨⟨by omega, by omega⟩, trivial⟩, ⟨⟨by omega, by omega⟩, trivial⟩, sat_bif (fun h2 => ?_) (fun h2 => ?_)⟩
    · have e : ¬ a[i] = b[i] := by simpa using h2
      rw [decide_eq_false (fun h => e (List.cons.inj h).1)] at h
      exact ⟨T2', h⟩
    · have e : a[i] = b[i] := by simpa using h2
      rw [e] at h
      rw [wrap_succ (by omega)]
      exact loop60 he hl hA (i + 1) (by omega) (by rw [← h]; exact decide_eq_decide.2 ⟨fun h => by rw [h], fun h => (List.cons.inj h).2⟩)
  · have h1 := of_decide_eq_false h1
    rw [List.drop_eq_nil_of_le (by omega), List.drop_eq_nil_of_le (by omega)] at h
    exact ⟨T2', h⟩
termination_by a.length - i
theorem c60 {a b : List Change} (hl : a.length ≤ 1000000) : Pure Tryz.prog 60 [⟨.sl .change, a⟩, ⟨.sl .change, b⟩] [.bool] (decide (a = b)) :=
  Pure.of_closed (C := codes) (S := sigs) mixed Tryz.func60 (by kernel_rfl) (Nat.le_of_ble_eq_true (by kernel_rfl)) fun A hA => hA.go (t60 a b) (by
    refine sat_bif (fun h1 => ?_) (fun h1 => ?_)
    · have h1 : ¬ (a.length : Int) = (b.length : Int) := by simpa using h1
      exact ⟨T2', (decide_eq_false (fun h => h1 (by rw [h]))).symm⟩
    · have h1 : (a.length : Int) = (b.length : Int) := by simpa using h1
      exact loop60 (by omega) hl hA 0 (by omega) rfl)
theorem c17 {a b : Resp} (hl : a.list.length ≤ 1000000) : Pure Tryz.prog 17 [⟨.resp, a⟩, ⟨.resp, b⟩] [.bool] (decide (a = b)) :=
  ofT Tryz.func17 (t17 a b) (by kernel_rfl) (by kernel_rfl) fun _ => by
    obtain ⟨a1, a2, a3, a4, a5⟩ := a
    obtain ⟨b1, b2, b3, b4, b5⟩ := b
    have no : ∀ {p : Prop} [Decidable p], ¬ p → false = decide p := fun h => (decide_eq_false h).symm
    refine sat_bif (fun h1 => sat_bif (fun h2 => sat_bif (fun h3 => sat_bif (fun h4 => ⟨⟨T2', T2', trivial⟩, _, c60 hl, T2', ?_⟩) (fun h => ⟨T2', ?_⟩)) (fun h => ⟨T2', ?_⟩)) (fun h => ⟨T2', ?_⟩)) (fun h => ⟨T2', ?_⟩)
    · obtain rfl : a1 = b1 := by simpa using h1
      obtain rfl : a2 = b2 := by simpa using h2
      obtain rfl : a3 = b3 := by simpa using h3
      obtain rfl : a4 = b4 := by simpa using h4
      show decide (a5 = b5) = decide (Resp.mk a1 a2 a3 a4 a5 = Resp.mk a1 a2 a3 a4 b5)
      exact decide_eq_decide.2 ⟨fun h => by rw [h], fun h => (Resp.mk.inj h).2.2.2.2⟩
    all_goals (refine no fun e => ?_; cases e; simp at h)

/-! ### what is there already -/
def twGo : List Int → List Int → Int → Int
  | _, [], _ => -1
  | seen, x :: l, i => bif seen.elem x then i else twGo (seen ++ [x]) l (i + 1)
def twiceS (l : List Int) : Int := twGo [] l 0
theorem elem_snoc (l : List Int) (x y : Int) : (l ++ [x]).elem y = (l.elem y || y == x) := by
  rw [Bool.eq_iff_iff]
  simp
theorem get_put (n x y : Int) : ∀ kvs : List (Int × Int), (getM n (putM x y kvs)).isSome = ((getM n kvs).isSome || n == x)
  | [] => by
    by_cases h : x = n
    · subst h; simp [putM, getM]
    · have h1 : (x == n) = false := by simpa using h
      have h2 : (n == x) = false := by simpa using fun e => h e.symm
      simp only [putM, getM, h1, h2, cond_false]; rfl
  | kv :: kvs => by
    unfold putM
    by_cases h : kv.1 = x
    · subst h
      have : (kv.1 == kv.1) = true := by simp
      rw [this, cond_true]
      by_cases h2 : kv.1 = n
      · subst h2; simp [getM]
      · have h3 : (kv.1 == n) = false := by simpa using h2
        have h4 : (n == kv.1) = false := by simpa using fun e => h2 e.symm
        simp only [getM, h3, h4, cond_false, Bool.or_false]
    · have : (kv.1 == x) = false := by simpa using h
      rw [this, cond_false]
      by_cases h2 : kv.1 = n
      · subst h2; simp [getM]
      · have h3 : (kv.1 == n) = false := by simpa using h2
        simp only [getM, h3, cond_false]
        exact get_put n x y kvs
theorem loop128 {l : List Int} (hl : l.length ≤ 1000000) {r : Int} {A : List Item → AS → Prop} (hA : Closed Tryz.prog codes sigs Tryz.f128 (pureFin [.int]) (fun y => y = r) 0 A)
    (i : Nat) (hi : i ≤ l.length) (kvs : List (Int × Int)) (hk : ∀ n, (getM n kvs).isSome = (l.take i).elem n) (h : twGo (l.take i) (l.drop i) i = r) : A (hd Tryz.f128 0) (L128 kvs l i) := by
  refine hA.go (t128a kvs l i) (sat_bif (fun h1 => ?_) (fun h1 => ?_))
  · have h1 := of_decide_eq_true h1
    have hil : i < l.length := by omega
    rw [getD_int hil, hk]
    rw [List.drop_eq_getElem_cons hil, twGo] at h
    refine ⟨⟨⟨by omega, by omega⟩, trivial⟩, sat_bif (fun h2 => ⟨T2', ?_⟩) (fun h2 => ⟨T2', ?_⟩)⟩
    · rw [h2] at h; exact h
    · rw [h2, cond_false] at h
      rw [wrap_succ (by omega)]
      refine loop128 hl hA (i + 1) (by omega) _ (fun n => ?_) (by rw [List.take_succ_eq_append_getElem hil]; exact h)
      rw [get_put, hk, List.take_succ_eq_append_getElem hil, elem_snoc]
  · have h1 := of_decide_eq_false h1
    rw [List.drop_eq_nil_of_le (by omega), twGo] at h
    exact ⟨T2', h⟩
termination_by l.length - i
theorem c128 {l : List Int} (hl : l.length ≤ 1000000) : Pure Tryz.prog 128 [⟨.sl .int, l⟩] [.int] (twiceS l) :=
  Pure.of_closed (C := codes) (S := sigs) mixed Tryz.func128 (by kernel_rfl) (Nat.le_of_ble_eq_true (by kernel_rfl)) fun A hA => hA.go (t128 l) (loop128 hl hA 0 (by omega) [] (fun n => rfl) rfl)
theorem loop114 {l : List Int} (hl : l.length ≤ 1000000) {r : Int} {A : List Item → AS → Prop} (hA : Closed Tryz.prog codes sigs Tryz.f114 (pureFin [.int]) (fun y => y = r) 0 A)
    (i : Nat) (hi : i ≤ l.length) (h : twGo (l.take i) (l.drop i) i = r) : A (hd Tryz.f114 0) (L114 l i) := by
  refine hA.go (t114a l i) (sat_bif (fun h1 => ?_) (fun h1 => ?_))
  · have h1 := of_decide_eq_true h1
    have hil : i < l.length := by omega
    rw [getD_int hil, Int.toNat_natCast, List.drop_zero]
    rw [List.drop_eq_getElem_cons hil, twGo] at h
    refine ⟨⟨⟨by omega, by omega, by omega⟩, trivial⟩, ⟨⟨by omega, by omega⟩, trivial⟩, ⟨T2', T2', trivial⟩, _, c100 (by rw [List.length_take]; omega), sat_bif (fun h2 => ⟨T2', ?_⟩) (fun h2 => ?_)⟩
    · rw [h2] at h; exact h
    · rw [h2, cond_false] at h
      rw [wrap_succ (by omega)]
      exact loop114 hl hA (i + 1) (by omega) (by rw [List.take_succ_eq_append_getElem hil]; exact h)
  · have h1 := of_decide_eq_false h1
    rw [List.drop_eq_nil_of_le (by omega), twGo] at h
    exact ⟨T2', h⟩
termination_by l.length - i
theorem c114 {l : List Int} (hl : l.length ≤ 1000000) : Pure Tryz.prog 114 [⟨.sl .int, l⟩] [.int] (twiceS l) :=
  Pure.of_closed (C := codes) (S := sigs) mixed Tryz.func114 (by kernel_rfl) (Nat.le_of_ble_eq_true (by kernel_rfl)) fun A hA => hA.go (t114 l) (loop114 hl hA 0 (by omega) rfl)
theorem twGo_lt : ∀ (l seen : List Int) (i : Int), 0 ≤ i → twGo seen l i < i + (l.length : Int)  ∧ (-1 ≤ twGo seen l i)
  | [], seen, i, h => by simp [twGo]; omega
  | x :: l, seen, i, h => by
    unfold twGo
    have := twGo_lt l (seen ++ [x]) (i + 1) (by omega)
    cases seen.elem x
    · rw [cond_false, List.length_cons]; omega
    · rw [cond_true, List.length_cons]; omega
theorem twice_lt {l : List Int} (h : twiceS l ≥ 0) : twiceS l < (l.length : Int) := by
  have := (twGo_lt l [] 0 (by omega)).1
  unfold twiceS at h ⊢
  omega

def noneGo (d : Deck) : List Int → Resp
  | [] => errR 0 0
  | x :: l => bif kindS d x == 0 then errR 3 x else noneGo d l
def batchS (d : Deck) (l : List Int) : Resp := bif (l.length : Int) == 0 then errR 1 0 else bif decide ((l.length : Int) > 16) then errR 2 0 else bif decide (twiceS l ≥ 0) then errR 152 (l.getD (twiceS l).toNat 0) else noneGo d l
theorem loop66 {d : Deck} {l : List Int} (hl : l.length ≤ 16) {r : Resp} {A : List Item → AS → Prop} (hA : Closed Tryz.prog codes sigs Tryz.f66 (pureFin [.resp]) (fun y => y = r) 0 A)
    (i : Nat) (hi : i ≤ l.length) (h : noneGo d (l.drop i) = r) : A (hd Tryz.f66 0) (L66 d l i) := by
  refine hA.go (t66a d l i) (sat_bif (fun h1 => ?_) (fun h1 => ?_))
  · have h1 := of_decide_eq_true h1
    have hil : i < l.length := by omega
    rw [getD_int hil]
    rw [List.drop_eq_getElem_cons hil, noneGo] at h
    refine ⟨⟨⟨by omega, by omega⟩, trivial⟩, ⟨T5', T2', trivial⟩, _, c68 d _, sat_bif (fun h2 => ⟨⟨T2', T2', trivial⟩, _, c69 _ _, T6', ?_⟩) (fun h2 => ?_)⟩
    · rw [h2] at h; exact h
    · rw [h2, cond_false] at h
      rw [wrap_succ (by omega)]
      exact loop66 hl hA (i + 1) (by omega) h
  · have h1 := of_decide_eq_false h1
    rw [List.drop_eq_nil_of_le (by omega)] at h
    exact ⟨T6', h⟩
termination_by l.length - i
theorem c66 (d : Deck) (l : List Int) : Pure Tryz.prog 66 [⟨.deck, d⟩, ⟨.sl .int, l⟩] [.resp] (batchS d l) :=
  Pure.of_closed (C := codes) (S := sigs) mixed Tryz.func66 (by kernel_rfl) (Nat.le_of_ble_eq_true (by kernel_rfl)) fun A hA => hA.go (t66 d l) (by
    generalize hr : batchS d l = r at hA ⊢
    unfold batchS at hr
    refine sat_bif (fun h => ⟨⟨T2', trivial⟩, _, c62 1, T6', by rw [h] at hr; exact hr⟩) (fun h1 => sat_bif (fun h => ⟨⟨T2', trivial⟩, _, c62 2, T6', by rw [h1, h] at hr; exact hr⟩) (fun h2 => ?_))
    have h2' := of_decide_eq_false h2
    refine ⟨⟨T2', trivial⟩, _, c128 (by omega), sat_bif (fun h => ?_) (fun h => ?_)⟩
    · have ht := twice_lt (of_decide_eq_true h)
      refine ⟨⟨⟨of_decide_eq_true h, ht⟩, trivial⟩, ⟨T2', T2', trivial⟩, _, c69 _ _, T6', ?_⟩
      rw [h1, h2, h] at hr; exact hr
    · rw [h1, h2, h] at hr
      exact loop66 (by omega) hA 0 (by omega) hr)
theorem loop73 {d : Deck} {l : List Int} (hl : l.length ≤ 16) {r : Resp} {A : List Item → AS → Prop} (hA : Closed Tryz.prog codes sigs Tryz.f73 (pureFin [.resp]) (fun y => y = r) 0 A)
    (i : Nat) (hi : i ≤ l.length) (h : noneGo d (l.drop i) = r) : A (hd Tryz.f73 0) (L73 d l i) := by
  refine hA.go (t73a d l i) (sat_bif (fun h1 => ?_) (fun h1 => ?_))
  · have h1 := of_decide_eq_true h1
    have hil : i < l.length := by omega
    rw [getD_int hil]
    rw [List.drop_eq_getElem_cons hil, noneGo] at h
    refine ⟨⟨⟨by omega, by omega⟩, trivial⟩, ⟨T5', T2', trivial⟩, _, c74 d _, sat_bif (fun h2 => ⟨⟨⟨by omega, by omega⟩, trivial⟩, ⟨T2', T2', trivial⟩, _, c71 _ _, T6', ?_⟩) (fun h2 => ?_)⟩
    · rw [h2] at h; exact h
    · rw [h2, cond_false] at h
      rw [wrap_succ (by omega)]
      exact loop73 hl hA (i + 1) (by omega) h
  · have h1 := of_decide_eq_false h1
    rw [List.drop_eq_nil_of_le (by omega)] at h
    exact ⟨T6', h⟩
termination_by l.length - i
theorem c73 (d : Deck) (l : List Int) : Pure Tryz.prog 73 [⟨.deck, d⟩, ⟨.sl .int, l⟩] [.resp] (batchS d l) :=
  Pure.of_closed (C := codes) (S := sigs) mixed Tryz.func73 (by kernel_rfl) (Nat.le_of_ble_eq_true (by kernel_rfl)) fun A hA => hA.go (t73 d l) (by
    generalize hr : batchS d l = r at hA ⊢
    unfold batchS at hr
    refine sat_bif (fun h => ⟨⟨T2', T2', trivial⟩, _, c71 1 0, T6', by rw [h] at hr; exact hr⟩) (fun h1 => sat_bif (fun h => ⟨⟨T2', T2', trivial⟩, _, c71 2 0, T6', by rw [h1, h] at hr; exact hr⟩) (fun h2 => ?_))
    have h2' := of_decide_eq_false h2
    refine ⟨⟨T2', trivial⟩, _, c114 (by omega), sat_bif (fun h => ?_) (fun h => ?_)⟩
    · have ht := twice_lt (of_decide_eq_true h)
      refine ⟨⟨⟨of_decide_eq_true h, ht⟩, trivial⟩, ⟨T2', T2', trivial⟩, _, c71 _ _, T6', ?_⟩
      rw [h1, h2, h] at hr; exact hr
    · rw [h1, h2, h] at hr
      exact loop73 (by omega) hA 0 (by omega) hr)
theorem loop77 {l : List Int} (hl : l.length ≤ 100000) {r : List Int} {A : List Item → AS → Prop} (hA : Closed Tryz.prog codes sigs Tryz.f77 (pureFin [.sl .int]) (fun y => y = r) 0 A)
    (i : Nat) (hi : i ≤ l.length) (out : List Int) (ho : out.length ≤ i) (h : eitherS out (l.drop i) = r) : A (hd Tryz.f77 0) (L77 l out i) := by
  refine hA.go (t77a l out i) (sat_bif (fun h1 => ?_) (fun h1 => ?_))
  · have h1 := of_decide_eq_true h1
    have hil : i < l.length := by omega
    rw [getD_int hil]
    rw [List.drop_eq_getElem_cons hil] at h
    refine ⟨⟨⟨by omega, by omega⟩, trivial⟩, ⟨T2', T2', trivial⟩, _, c101 (by omega), ?_⟩
    rw [wrap_succ (by omega)]
    have := put_len (n := l[i]) (l := out)
    exact loop77 hl hA (i + 1) (by omega) _ (by omega) h
  · have h1 := of_decide_eq_false h1
    rw [List.drop_eq_nil_of_le (by omega)] at h
    exact ⟨T2', h⟩
termination_by l.length - i
theorem c77 {l : List Int} (hl : l.length ≤ 100000) : Pure Tryz.prog 77 [⟨.sl .int, l⟩] [.sl .int] (setS l) :=
  Pure.of_closed (C := codes) (S := sigs) mixed Tryz.func77 (by kernel_rfl) (Nat.le_of_ble_eq_true (by kernel_rfl)) fun A hA => hA.go (t77 l)
    (hA.slot 3 (.d (.v (.slice none 0 0))) (.d (.sl .int [])) (s' := L77 l [] 0) (by kernel_rfl) (by kernel_rfl) (AVle.nil _ .int 0) (by kernel_rfl) (loop77 hl hA 0 (by omega) [] (by simp) rfl))
end Go.Proofs.Wn

namespace Go.Proofs.Wn
open Go Go.VL

abbrev reqC (r : Req) : List AV := [i64 r.kind, .d (.sl .int r.ids), i64 r.a, i64 r.b, i64 r.ver, u64 r.vol]
abbrev fldC (f : Flds) : List AV := [boolA f.ids, boolA f.a, boolA f.b, boolA f.ver, boolA f.vol]


theorem t67 (r : Req) (f : Flds) : @Eq (Out GRes) (aexec Tryz.prog codes sigs Tryz.f67 (gFin 0) 0 noCut 100 false (bodyOf Tryz.f67) (startG Tryz.f67 [.agg (reqC r), .agg (fldC f)] [] 0)) (.need True (.ret (GRes.mk [.clo (.func 129) [] [.ptr 0 0, .ptr 1 0]] [(0, .box [.d (.v (.int .i64 (Req.kind r))), .d (.sl .int (Req.ids r)), .d (.v (.int .i64 (Req.a r))), .d (.v (.int .i64 (Req.b r))), .d (.v (.int .i64 (Req.ver r))), .d (.v (.int .u64 (Req.vol r)))]), (1, .box [.d (.v (.bool (Flds.ids f))), .d (.v (.bool (Flds.a f))), .d (.v (.bool (Flds.b f))), .d (.v (.bool (Flds.ver f))), .d (.v (.bool (Flds.vol f)))])] 2))) := by kernel_rfl

theorem t18 (d : Deck) (r : Req) : @Eq (Out (TyTup [.resp])) (aexec Tryz.prog codes sigs Tryz.f18 (pureFin [.resp]) 0 noCut 300 false (bodyOf Tryz.f18) (startS Tryz.f18 [⟨.deck, d⟩, ⟨.req, r⟩])) (.need ((True ∧ True ∧ True ∧ True ∧ True) ∧ True) (.callP 61 [⟨.deck, d⟩] [.int] fun (x : Int) => bif x != (0 : Int) then .need ((True ∧ True) ∧ True) (.callP 62 [⟨.int, x⟩] [.resp] fun (x : Resp) => .need (True ∧ True ∧ True ∧ True ∧ True ∧ True) (.ret x)) else .need ((True ∧ True) ∧ True) (.callP 63 [Sigma.mk .int (Req.kind r)] [.flds] fun (x : Flds) => bif decide (Req.kind r < (1 : Int)) then .need ((True ∧ True) ∧ True) (.callP 62 [Sigma.mk .int (150 : Int)] [.resp] fun (x : Resp) => .need (True ∧ True ∧ True ∧ True ∧ True ∧ True) (.ret x)) else bif decide (Req.kind r > (10 : Int)) then .need ((True ∧ True) ∧ True) (.callP 62 [Sigma.mk .int (150 : Int)] [.resp] fun (x : Resp) => .need (True ∧ True ∧ True ∧ True ∧ True ∧ True) (.ret x)) else .need ((True ∧ True ∧ True ∧ True ∧ True ∧ True ∧ True) ∧ True) (.callP 64 [⟨.req, r⟩] [.flds] fun (x_1 : Flds) => .need ((True ∧ True ∧ True ∧ True ∧ True ∧ True) ∧ (True ∧ True ∧ True ∧ True ∧ True ∧ True) ∧ True) (.callP 65 [⟨.flds, x_1⟩, ⟨.flds, x⟩] [.bool] fun (x_2 : Bool) => bif !x_2 then .need ((True ∧ True) ∧ True) (.callP 62 [Sigma.mk .int (151 : Int)] [.resp] fun (x : Resp) => .need (True ∧ True ∧ True ∧ True ∧ True ∧ True) (.ret x)) else bif Flds.ids x then .need ((True ∧ True ∧ True ∧ True ∧ True) ∧ (True ∧ True) ∧ True) (.callP 66 [⟨.deck, d⟩, Sigma.mk (.sl .int) (Req.ids r)] [.resp] fun (x : Resp) => .need (True ∧ True ∧ True ∧ True ∧ True ∧ True) (.ret x)) else .callG 67 [.agg [.d (.v (.int .i64 (Req.kind r))), .d (.sl .int (Req.ids r)), .d (.v (.int .i64 (Req.a r))), .d (.v (.int .i64 (Req.b r))), .d (.v (.int .i64 (Req.ver r))), .d (.v (.int .u64 (Req.vol r)))], .agg [.d (.v (.bool (Flds.ids x))), .d (.v (.bool (Flds.a x))), .d (.v (.bool (Flds.b x))), .d (.v (.bool (Flds.ver x))), .d (.v (.bool (Flds.vol x)))]] [] 0 [] (fun (a : PUnit) => GRes.mk [.clo (.func 129) [] [.ptr 0 0, .ptr 1 0]] [(0, .box [.d (.v (.int .i64 (Req.kind r))), .d (.sl .int (Req.ids r)), .d (.v (.int .i64 (Req.a r))), .d (.v (.int .i64 (Req.b r))), .d (.v (.int .i64 (Req.ver r))), .d (.v (.int .u64 (Req.vol r)))]), (1, .box [.d (.v (.bool (Flds.ids x))), .d (.v (.bool (Flds.a x))), .d (.v (.bool (Flds.b x))), .d (.v (.bool (Flds.ver x))), .d (.v (.bool (Flds.vol x)))])] 2) fun (x_3 : PUnit) => .stop (rf Tryz.f18 0) (mkS 76 [(2, .ptr 0 0), (3, .ptr 1 0), (4, .ptr 2 0), (6, .ptr 3 0), (46, .clo (.func 129) [] [.ptr 4 0, .ptr 5 0]), (47, .d (.v (.tuple (Array.mk [])))), (48, .d (.v (.tuple (Array.mk []))))] [(0, .box [.d (.sl .flt (Deck.borders d)), .d (.sl .plate (Deck.plates d)), .d (.sl .rack (Deck.racks d)), .d (.v (.int .i64 (Deck.arms d)))]), (1, .box [.d (.v (.int .i64 (Req.kind r))), .d (.sl .int (Req.ids r)), .d (.v (.int .i64 (Req.a r))), .d (.v (.int .i64 (Req.b r))), .d (.v (.int .i64 (Req.ver r))), .d (.v (.int .u64 (Req.vol r)))]), (2, .box [.d (.v (.int .i64 (0 : Int))), .d (.v (.int .i64 (0 : Int))), .d (.v (.int .i64 (0 : Int))), .d (.v (.int .i64 (0 : Int))), .d (.v (.slice none 0 0))]), (3, .box [.d (.v (.bool (Flds.ids x))), .d (.v (.bool (Flds.a x))), .d (.v (.bool (Flds.b x))), .d (.v (.bool (Flds.ver x))), .d (.v (.bool (Flds.vol x)))]), (4, .box [.d (.v (.int .i64 (Req.kind r))), .d (.sl .int (Req.ids r)), .d (.v (.int .i64 (Req.a r))), .d (.v (.int .i64 (Req.b r))), .d (.v (.int .i64 (Req.ver r))), .d (.v (.int .u64 (Req.vol r)))]), (5, .box [.d (.v (.bool (Flds.ids x))), .d (.v (.bool (Flds.a x))), .d (.v (.bool (Flds.b x))), .d (.v (.bool (Flds.ver x))), .d (.v (.bool (Flds.vol x)))])] 6)))))) := by kernel_rfl

end Go.Proofs.Wn

namespace Go.Proofs.Wn
open Go Go.VL

def respZ0 : List AV := [i64 0, i64 0, i64 0, i64 0, .d (.v (.slice none 0 0))]
def respC (x : Resp) : List AV := [i64 x.err, i64 x.id, i64 x.n, i64 x.ver, .d (.sl .change x.list)]
def H18 (d : Deck) (r : Req) (f : Flds) (x : List AV) : Heap := [(0, .box (Zn.deckC d)), (1, .box (reqC r)), (2, .box x), (3, .box (fldC f)), (4, .box (reqC r)), (5, .box (fldC f))]
def F129 (l : Nat) (d : Deck) (r : Req) (f : Flds) (x : List AV) : AS := mkS 25 [(0, .clo (.yield l) [] []), (1, .ptr 4 0), (2, .ptr 5 0)] (H18 d r f x) 6
def tm18 : List AV := (mkS 76 [(2, .ptr 0 0), (3, .ptr 1 0), (4, .ptr 2 0), (6, .ptr 3 0), (46, .clo (.func 129) [] [.ptr 4 0, .ptr 5 0]), (47, .d (.v (.tuple #[]))), (48, .d (.v (.tuple #[])))] [] 6).tmps
def R18 (d : Deck) (r : Req) (f : Flds) (i w : Int) (n : Nat) : AS := ⟨(tm18.set 47 (i64 i)).set 48 (i64 w), H18 d r f respZ0, n⟩
def B18 (d : Deck) (r : Req) (f : Flds) (i w : Int) (n : Nat) : AS := mkS 76 [(2, .ptr 0 0), (4, .ptr 2 0), (7, i64 i), (8, i64 w)] (H18 d r f respZ0) n
def K18 (d : Deck) (r : Req) (f : Flds) (x : List AV) (n : Nat) : AS := ⟨tm18, H18 d r f x, n⟩
def rtK (t : List Item) : List Item := .code .ret :: rfK t
def G129 (l : Nat) (d : Deck) (r : Req) (f : Flds) (w : Int) : AS := mkS 25 [(0, .clo (.yield l) [] []), (1, .ptr 4 0), (2, .ptr 5 0), (4, i64 w)] (H18 d r f respZ0) 6
def Y129 (l : Nat) (d : Deck) (r : Req) (f : Flds) (w : Int) : AS := mkS 25 [(0, .clo (.yield l) [] []), (1, .ptr 4 0), (2, .ptr 5 0), (4, i64 w), (8, .ptr 5 1), (9, boolA true), (10, boolA true), (11, .clo (.yield l) [] []), (12, .ptr 4 2), (13, i64 r.a), (14, i64 w)] (H18 d r f respZ0) 6
def Z129 (l : Nat) (d : Deck) (r : Req) (f : Flds) (w : Int) (b : Bool) (n : Nat) (x : List AV) : AS := mkS 25 [(0, .clo (.yield l) [] []), (1, .ptr 4 0), (2, .ptr 5 0), (4, i64 w), (8, .ptr 5 1), (9, boolA true), (10, boolA true), (11, .clo (.yield l) [] []), (12, .ptr 4 2), (13, i64 r.a), (14, i64 w), (15, boolA b)] (H18 d r f x) n
def G129b (l : Nat) (d : Deck) (r : Req) (f : Flds) (w : Int) : AS := mkS 25 [(0, .clo (.yield l) [] []), (1, .ptr 4 0), (4, i64 w)] (H18 d r f respZ0) 6
def W129 (l : Nat) (d : Deck) (r : Req) (f : Flds) (w : Int) (b : Bool) (x : List AV) : AS := mkS 25 [(0, .clo (.yield l) [] []), (1, .ptr 4 0), (4, i64 w), (20, .clo (.yield l) [] []), (21, .ptr 4 3), (22, i64 r.b), (23, i64 w), (24, boolA b)] (H18 d r f x) 46


theorem t129a (l : Nat) (d : Deck) (r : Req) (f : Flds) : @Eq (Out Unit) (aexec Tryz.prog codes sigs Tryz.f129 (fun _ _ => none : Fin Unit) 6 ⟨[3], false⟩ 300 false (bodyOf Tryz.f129) (F129 l d r f respZ0)) (bif Req.kind r == (7 : Int) then .stop (rg Tryz.f129 3) (mkS 25 [(0, .clo (.yield l) [] []), (1, .ptr 4 0), (2, .ptr 5 0), (4, .d (.v (.int .i64 (2 : Int))))] [(0, .box [.d (.sl .flt (Deck.borders d)), .d (.sl .plate (Deck.plates d)), .d (.sl .rack (Deck.racks d)), .d (.v (.int .i64 (Deck.arms d)))]), (1, .box [.d (.v (.int .i64 (Req.kind r))), .d (.sl .int (Req.ids r)), .d (.v (.int .i64 (Req.a r))), .d (.v (.int .i64 (Req.b r))), .d (.v (.int .i64 (Req.ver r))), .d (.v (.int .u64 (Req.vol r)))]), (2, .box [.d (.v (.int .i64 (0 : Int))), .d (.v (.int .i64 (0 : Int))), .d (.v (.int .i64 (0 : Int))), .d (.v (.int .i64 (0 : Int))), .d (.v (.slice none 0 0))]), (3, .box [.d (.v (.bool (Flds.ids f))), .d (.v (.bool (Flds.a f))), .d (.v (.bool (Flds.b f))), .d (.v (.bool (Flds.ver f))), .d (.v (.bool (Flds.vol f)))]), (4, .box [.d (.v (.int .i64 (Req.kind r))), .d (.sl .int (Req.ids r)), .d (.v (.int .i64 (Req.a r))), .d (.v (.int .i64 (Req.b r))), .d (.v (.int .i64 (Req.ver r))), .d (.v (.int .u64 (Req.vol r)))]), (5, .box [.d (.v (.bool (Flds.ids f))), .d (.v (.bool (Flds.a f))), .d (.v (.bool (Flds.b f))), .d (.v (.bool (Flds.ver f))), .d (.v (.bool (Flds.vol f)))])] 6) else .stop (rg Tryz.f129 3) (mkS 25 [(0, .clo (.yield l) [] []), (1, .ptr 4 0), (2, .ptr 5 0), (4, .d (.v (.int .i64 (1 : Int))))] [(0, .box [.d (.sl .flt (Deck.borders d)), .d (.sl .plate (Deck.plates d)), .d (.sl .rack (Deck.racks d)), .d (.v (.int .i64 (Deck.arms d)))]), (1, .box [.d (.v (.int .i64 (Req.kind r))), .d (.sl .int (Req.ids r)), .d (.v (.int .i64 (Req.a r))), .d (.v (.int .i64 (Req.b r))), .d (.v (.int .i64 (Req.ver r))), .d (.v (.int .u64 (Req.vol r)))]), (2, .box [.d (.v (.int .i64 (0 : Int))), .d (.v (.int .i64 (0 : Int))), .d (.v (.int .i64 (0 : Int))), .d (.v (.int .i64 (0 : Int))), .d (.v (.slice none 0 0))]), (3, .box [.d (.v (.bool (Flds.ids f))), .d (.v (.bool (Flds.a f))), .d (.v (.bool (Flds.b f))), .d (.v (.bool (Flds.ver f))), .d (.v (.bool (Flds.vol f)))]), (4, .box [.d (.v (.int .i64 (Req.kind r))), .d (.sl .int (Req.ids r)), .d (.v (.int .i64 (Req.a r))), .d (.v (.int .i64 (Req.b r))), .d (.v (.int .i64 (Req.ver r))), .d (.v (.int .u64 (Req.vol r)))]), (5, .box [.d (.v (.bool (Flds.ids f))), .d (.v (.bool (Flds.a f))), .d (.v (.bool (Flds.b f))), .d (.v (.bool (Flds.ver f))), .d (.v (.bool (Flds.vol f)))])] 6)) := by kernel_rfl

theorem t129b (l : Nat) (d : Deck) (r : Req) (fi fb fv fl : Bool) (w : Int) : @Eq (Out Unit) (aexec Tryz.prog codes sigs Tryz.f129 (fun _ _ => none : Fin Unit) 6 ⟨[5], true⟩ 300 true (rg Tryz.f129 3) (G129 l d r ⟨fi, true, fb, fv, fl⟩ w)) (.stop (inR Tryz.f129 3 7) (mkS 25 [(0, .clo (.yield l) [] []), (1, .ptr 4 0), (2, .ptr 5 0), (4, .d (.v (.int .i64 w))), (8, .ptr 5 1), (9, .d (.v (.bool true))), (10, .d (.v (.bool true))), (11, .clo (.yield l) [] []), (12, .ptr 4 2), (13, .d (.v (.int .i64 (Req.a r)))), (14, .d (.v (.int .i64 w)))] [(0, .box [.d (.sl .flt (Deck.borders d)), .d (.sl .plate (Deck.plates d)), .d (.sl .rack (Deck.racks d)), .d (.v (.int .i64 (Deck.arms d)))]), (1, .box [.d (.v (.int .i64 (Req.kind r))), .d (.sl .int (Req.ids r)), .d (.v (.int .i64 (Req.a r))), .d (.v (.int .i64 (Req.b r))), .d (.v (.int .i64 (Req.ver r))), .d (.v (.int .u64 (Req.vol r)))]), (2, .box [.d (.v (.int .i64 (0 : Int))), .d (.v (.int .i64 (0 : Int))), .d (.v (.int .i64 (0 : Int))), .d (.v (.int .i64 (0 : Int))), .d (.v (.slice none 0 0))]), (3, .box [.d (.v (.bool fi)), .d (.v (.bool true)), .d (.v (.bool fb)), .d (.v (.bool fv)), .d (.v (.bool fl))]), (4, .box [.d (.v (.int .i64 (Req.kind r))), .d (.sl .int (Req.ids r)), .d (.v (.int .i64 (Req.a r))), .d (.v (.int .i64 (Req.b r))), .d (.v (.int .i64 (Req.ver r))), .d (.v (.int .u64 (Req.vol r)))]), (5, .box [.d (.v (.bool fi)), .d (.v (.bool true)), .d (.v (.bool fb)), .d (.v (.bool fv)), .d (.v (.bool fl))])] 6)) := by kernel_rfl

theorem t129c (l : Nat) (d : Deck) (r : Req) (fi fb fv fl : Bool) (w : Int) : @Eq (Out Unit) (aexec Tryz.prog codes sigs Tryz.f129 (fun _ _ => none : Fin Unit) 6 ⟨[5], true⟩ 300 true (rg Tryz.f129 3) (G129 l d r ⟨fi, false, false, fv, fl⟩ w)) (.stop [] (mkS 25 [] [(0, .box [.d (.sl .flt (Deck.borders d)), .d (.sl .plate (Deck.plates d)), .d (.sl .rack (Deck.racks d)), .d (.v (.int .i64 (Deck.arms d)))]), (1, .box [.d (.v (.int .i64 (Req.kind r))), .d (.sl .int (Req.ids r)), .d (.v (.int .i64 (Req.a r))), .d (.v (.int .i64 (Req.b r))), .d (.v (.int .i64 (Req.ver r))), .d (.v (.int .u64 (Req.vol r)))]), (2, .box [.d (.v (.int .i64 (0 : Int))), .d (.v (.int .i64 (0 : Int))), .d (.v (.int .i64 (0 : Int))), .d (.v (.int .i64 (0 : Int))), .d (.v (.slice none 0 0))]), (3, .box [.d (.v (.bool fi)), .d (.v (.bool false)), .d (.v (.bool false)), .d (.v (.bool fv)), .d (.v (.bool fl))]), (4, .box [.d (.v (.int .i64 (Req.kind r))), .d (.sl .int (Req.ids r)), .d (.v (.int .i64 (Req.a r))), .d (.v (.int .i64 (Req.b r))), .d (.v (.int .i64 (Req.ver r))), .d (.v (.int .u64 (Req.vol r)))]), (5, .box [.d (.v (.bool fi)), .d (.v (.bool false)), .d (.v (.bool false)), .d (.v (.bool fv)), .d (.v (.bool fl))])] 6)) := by kernel_rfl

theorem t129d (l : Nat) (d : Deck) (r : Req) (fi fb fv fl : Bool) (w : Int) : @Eq (Out Unit) (aexec Tryz.prog codes sigs Tryz.f129 (fun _ _ => none : Fin Unit) 6 ⟨[5], true⟩ 300 true (inR Tryz.f129 3 8) (Z129 l d r ⟨fi, true, fb, fv, fl⟩ w true 86 respZ0)) (bif fb then .stop (rg Tryz.f129 5) (mkS 25 [(0, .clo (.yield l) [] []), (1, .ptr 4 0), (4, .d (.v (.int .i64 w)))] [(0, .box [.d (.sl .flt (Deck.borders d)), .d (.sl .plate (Deck.plates d)), .d (.sl .rack (Deck.racks d)), .d (.v (.int .i64 (Deck.arms d)))]), (1, .box [.d (.v (.int .i64 (Req.kind r))), .d (.sl .int (Req.ids r)), .d (.v (.int .i64 (Req.a r))), .d (.v (.int .i64 (Req.b r))), .d (.v (.int .i64 (Req.ver r))), .d (.v (.int .u64 (Req.vol r)))]), (2, .box [.d (.v (.int .i64 (0 : Int))), .d (.v (.int .i64 (0 : Int))), .d (.v (.int .i64 (0 : Int))), .d (.v (.int .i64 (0 : Int))), .d (.v (.slice none 0 0))]), (3, .box [.d (.v (.bool fi)), .d (.v (.bool true)), .d (.v (.bool fb)), .d (.v (.bool fv)), .d (.v (.bool fl))]), (4, .box [.d (.v (.int .i64 (Req.kind r))), .d (.sl .int (Req.ids r)), .d (.v (.int .i64 (Req.a r))), .d (.v (.int .i64 (Req.b r))), .d (.v (.int .i64 (Req.ver r))), .d (.v (.int .u64 (Req.vol r)))]), (5, .box [.d (.v (.bool fi)), .d (.v (.bool true)), .d (.v (.bool fb)), .d (.v (.bool fv)), .d (.v (.bool fl))])] 6) else .stop [] (mkS 25 [] [(0, .box [.d (.sl .flt (Deck.borders d)), .d (.sl .plate (Deck.plates d)), .d (.sl .rack (Deck.racks d)), .d (.v (.int .i64 (Deck.arms d)))]), (1, .box [.d (.v (.int .i64 (Req.kind r))), .d (.sl .int (Req.ids r)), .d (.v (.int .i64 (Req.a r))), .d (.v (.int .i64 (Req.b r))), .d (.v (.int .i64 (Req.ver r))), .d (.v (.int .u64 (Req.vol r)))]), (2, .box [.d (.v (.int .i64 (0 : Int))), .d (.v (.int .i64 (0 : Int))), .d (.v (.int .i64 (0 : Int))), .d (.v (.int .i64 (0 : Int))), .d (.v (.slice none 0 0))]), (3, .box [.d (.v (.bool fi)), .d (.v (.bool true)), .d (.v (.bool fb)), .d (.v (.bool fv)), .d (.v (.bool fl))]), (4, .box [.d (.v (.int .i64 (Req.kind r))), .d (.sl .int (Req.ids r)), .d (.v (.int .i64 (Req.a r))), .d (.v (.int .i64 (Req.b r))), .d (.v (.int .i64 (Req.ver r))), .d (.v (.int .u64 (Req.vol r)))]), (5, .box [.d (.v (.bool fi)), .d (.v (.bool true)), .d (.v (.bool fb)), .d (.v (.bool fv)), .d (.v (.bool fl))])] 6)) := by kernel_rfl

theorem t129e (l : Nat) (d : Deck) (r : Req) (fi fb fv fl : Bool) (w : Int) (x : Resp) : @Eq (Out Unit) (aexec Tryz.prog codes sigs Tryz.f129 (fun _ _ => none : Fin Unit) 6 ⟨[5], true⟩ 300 true (inR Tryz.f129 3 8) (Z129 l d r ⟨fi, true, fb, fv, fl⟩ w false 86 (respC x))) (.stop (rt Tryz.f129 0) (mkS 25 [] [(0, .box [.d (.sl .flt (Deck.borders d)), .d (.sl .plate (Deck.plates d)), .d (.sl .rack (Deck.racks d)), .d (.v (.int .i64 (Deck.arms d)))]), (1, .box [.d (.v (.int .i64 (Req.kind r))), .d (.sl .int (Req.ids r)), .d (.v (.int .i64 (Req.a r))), .d (.v (.int .i64 (Req.b r))), .d (.v (.int .i64 (Req.ver r))), .d (.v (.int .u64 (Req.vol r)))]), (2, .box [.d (.v (.int .i64 (Resp.err x))), .d (.v (.int .i64 (Resp.id x))), .d (.v (.int .i64 (Resp.n x))), .d (.v (.int .i64 (Resp.ver x))), .d (.sl .change (Resp.list x))]), (3, .box [.d (.v (.bool fi)), .d (.v (.bool true)), .d (.v (.bool fb)), .d (.v (.bool fv)), .d (.v (.bool fl))]), (4, .box [.d (.v (.int .i64 (Req.kind r))), .d (.sl .int (Req.ids r)), .d (.v (.int .i64 (Req.a r))), .d (.v (.int .i64 (Req.b r))), .d (.v (.int .i64 (Req.ver r))), .d (.v (.int .u64 (Req.vol r)))]), (5, .box [.d (.v (.bool fi)), .d (.v (.bool true)), .d (.v (.bool fb)), .d (.v (.bool fv)), .d (.v (.bool fl))])] 6)) := by kernel_rfl

theorem t129g (l : Nat) (d : Deck) (r : Req) (f : Flds) (w : Int) (x : Resp) : @Eq (Out Unit) (aexec Tryz.prog codes sigs Tryz.f129 (fun _ _ => none : Fin Unit) 6 ⟨[5], true⟩ 300 true (inR Tryz.f129 5 5) (W129 l d r f w false (respC x))) (.stop [] (mkS 25 [] [(0, .box [.d (.sl .flt (Deck.borders d)), .d (.sl .plate (Deck.plates d)), .d (.sl .rack (Deck.racks d)), .d (.v (.int .i64 (Deck.arms d)))]), (1, .box [.d (.v (.int .i64 (Req.kind r))), .d (.sl .int (Req.ids r)), .d (.v (.int .i64 (Req.a r))), .d (.v (.int .i64 (Req.b r))), .d (.v (.int .i64 (Req.ver r))), .d (.v (.int .u64 (Req.vol r)))]), (2, .box [.d (.v (.int .i64 (Resp.err x))), .d (.v (.int .i64 (Resp.id x))), .d (.v (.int .i64 (Resp.n x))), .d (.v (.int .i64 (Resp.ver x))), .d (.sl .change (Resp.list x))]), (3, .box [.d (.v (.bool (Flds.ids f))), .d (.v (.bool (Flds.a f))), .d (.v (.bool (Flds.b f))), .d (.v (.bool (Flds.ver f))), .d (.v (.bool (Flds.vol f)))]), (4, .box [.d (.v (.int .i64 (Req.kind r))), .d (.sl .int (Req.ids r)), .d (.v (.int .i64 (Req.a r))), .d (.v (.int .i64 (Req.b r))), .d (.v (.int .i64 (Req.ver r))), .d (.v (.int .u64 (Req.vol r)))]), (5, .box [.d (.v (.bool (Flds.ids f))), .d (.v (.bool (Flds.a f))), .d (.v (.bool (Flds.b f))), .d (.v (.bool (Flds.ver f))), .d (.v (.bool (Flds.vol f)))])] 6)) := by kernel_rfl

theorem t129h (l : Nat) (d : Deck) (r : Req) (f : Flds) (w : Int) : @Eq (Out Unit) (aexec Tryz.prog codes sigs Tryz.f129 (fun _ _ => none : Fin Unit) 6 ⟨[5], true⟩ 300 true (inR Tryz.f129 5 5) (W129 l d r f w true respZ0)) (.stop [] (mkS 25 [] [(0, .box [.d (.sl .flt (Deck.borders d)), .d (.sl .plate (Deck.plates d)), .d (.sl .rack (Deck.racks d)), .d (.v (.int .i64 (Deck.arms d)))]), (1, .box [.d (.v (.int .i64 (Req.kind r))), .d (.sl .int (Req.ids r)), .d (.v (.int .i64 (Req.a r))), .d (.v (.int .i64 (Req.b r))), .d (.v (.int .i64 (Req.ver r))), .d (.v (.int .u64 (Req.vol r)))]), (2, .box [.d (.v (.int .i64 (0 : Int))), .d (.v (.int .i64 (0 : Int))), .d (.v (.int .i64 (0 : Int))), .d (.v (.int .i64 (0 : Int))), .d (.v (.slice none 0 0))]), (3, .box [.d (.v (.bool (Flds.ids f))), .d (.v (.bool (Flds.a f))), .d (.v (.bool (Flds.b f))), .d (.v (.bool (Flds.ver f))), .d (.v (.bool (Flds.vol f)))]), (4, .box [.d (.v (.int .i64 (Req.kind r))), .d (.sl .int (Req.ids r)), .d (.v (.int .i64 (Req.a r))), .d (.v (.int .i64 (Req.b r))), .d (.v (.int .i64 (Req.ver r))), .d (.v (.int .u64 (Req.vol r)))]), (5, .box [.d (.v (.bool (Flds.ids f))), .d (.v (.bool (Flds.a f))), .d (.v (.bool (Flds.b f))), .d (.v (.bool (Flds.ver f))), .d (.v (.bool (Flds.vol f)))])] 6)) := by kernel_rfl

theorem t129f (l : Nat) (d : Deck) (r : Req) (f : Flds) (w : Int) : @Eq (Out Unit) (aexec Tryz.prog codes sigs Tryz.f129 (fun _ _ => none : Fin Unit) 6 ⟨[5], true⟩ 300 true (rg Tryz.f129 5) (G129b l d r f w)) (.stop (inR Tryz.f129 5 4) (mkS 25 [(0, .clo (.yield l) [] []), (1, .ptr 4 0), (4, .d (.v (.int .i64 w))), (20, .clo (.yield l) [] []), (21, .ptr 4 3), (22, .d (.v (.int .i64 (Req.b r)))), (23, .d (.v (.int .i64 w)))] [(0, .box [.d (.sl .flt (Deck.borders d)), .d (.sl .plate (Deck.plates d)), .d (.sl .rack (Deck.racks d)), .d (.v (.int .i64 (Deck.arms d)))]), (1, .box [.d (.v (.int .i64 (Req.kind r))), .d (.sl .int (Req.ids r)), .d (.v (.int .i64 (Req.a r))), .d (.v (.int .i64 (Req.b r))), .d (.v (.int .i64 (Req.ver r))), .d (.v (.int .u64 (Req.vol r)))]), (2, .box [.d (.v (.int .i64 (0 : Int))), .d (.v (.int .i64 (0 : Int))), .d (.v (.int .i64 (0 : Int))), .d (.v (.int .i64 (0 : Int))), .d (.v (.slice none 0 0))]), (3, .box [.d (.v (.bool (Flds.ids f))), .d (.v (.bool (Flds.a f))), .d (.v (.bool (Flds.b f))), .d (.v (.bool (Flds.ver f))), .d (.v (.bool (Flds.vol f)))]), (4, .box [.d (.v (.int .i64 (Req.kind r))), .d (.sl .int (Req.ids r)), .d (.v (.int .i64 (Req.a r))), .d (.v (.int .i64 (Req.b r))), .d (.v (.int .i64 (Req.ver r))), .d (.v (.int .u64 (Req.vol r)))]), (5, .box [.d (.v (.bool (Flds.ids f))), .d (.v (.bool (Flds.a f))), .d (.v (.bool (Flds.b f))), .d (.v (.bool (Flds.ver f))), .d (.v (.bool (Flds.vol f)))])] 6)) := by kernel_rfl

theorem t18r (d : Deck) (r : Req) (f : Flds) (i w : Int) : @Eq (Out Unit) (aexec Tryz.prog codes sigs Tryz.f18 (fun _ _ => none : Fin Unit) 86 ⟨[], true⟩ 300 true (rd Tryz.f18 0) (R18 d r f i w 86)) (.stop (rb Tryz.f18 0) (mkS 76 [(2, .ptr 0 0), (4, .ptr 2 0), (7, .d (.v (.int .i64 i))), (8, .d (.v (.int .i64 w)))] [(0, .box [.d (.sl .flt (Deck.borders d)), .d (.sl .plate (Deck.plates d)), .d (.sl .rack (Deck.racks d)), .d (.v (.int .i64 (Deck.arms d)))]), (1, .box [.d (.v (.int .i64 (Req.kind r))), .d (.sl .int (Req.ids r)), .d (.v (.int .i64 (Req.a r))), .d (.v (.int .i64 (Req.b r))), .d (.v (.int .i64 (Req.ver r))), .d (.v (.int .u64 (Req.vol r)))]), (2, .box [.d (.v (.int .i64 (0 : Int))), .d (.v (.int .i64 (0 : Int))), .d (.v (.int .i64 (0 : Int))), .d (.v (.int .i64 (0 : Int))), .d (.v (.slice none 0 0))]), (3, .box [.d (.v (.bool (Flds.ids f))), .d (.v (.bool (Flds.a f))), .d (.v (.bool (Flds.b f))), .d (.v (.bool (Flds.ver f))), .d (.v (.bool (Flds.vol f)))]), (4, .box [.d (.v (.int .i64 (Req.kind r))), .d (.sl .int (Req.ids r)), .d (.v (.int .i64 (Req.a r))), .d (.v (.int .i64 (Req.b r))), .d (.v (.int .i64 (Req.ver r))), .d (.v (.int .u64 (Req.vol r)))]), (5, .box [.d (.v (.bool (Flds.ids f))), .d (.v (.bool (Flds.a f))), .d (.v (.bool (Flds.b f))), .d (.v (.bool (Flds.ver f))), .d (.v (.bool (Flds.vol f)))])] 86)) := by kernel_rfl

theorem t18s (d : Deck) (r : Req) (f : Flds) (i w : Int) : @Eq (Out Unit) (aexec Tryz.prog codes sigs Tryz.f18 (fun _ _ => none : Fin Unit) 46 ⟨[], true⟩ 300 true (rd Tryz.f18 0) (R18 d r f i w 46)) (.stop (rb Tryz.f18 0) (mkS 76 [(2, .ptr 0 0), (4, .ptr 2 0), (7, .d (.v (.int .i64 i))), (8, .d (.v (.int .i64 w)))] [(0, .box [.d (.sl .flt (Deck.borders d)), .d (.sl .plate (Deck.plates d)), .d (.sl .rack (Deck.racks d)), .d (.v (.int .i64 (Deck.arms d)))]), (1, .box [.d (.v (.int .i64 (Req.kind r))), .d (.sl .int (Req.ids r)), .d (.v (.int .i64 (Req.a r))), .d (.v (.int .i64 (Req.b r))), .d (.v (.int .i64 (Req.ver r))), .d (.v (.int .u64 (Req.vol r)))]), (2, .box [.d (.v (.int .i64 (0 : Int))), .d (.v (.int .i64 (0 : Int))), .d (.v (.int .i64 (0 : Int))), .d (.v (.int .i64 (0 : Int))), .d (.v (.slice none 0 0))]), (3, .box [.d (.v (.bool (Flds.ids f))), .d (.v (.bool (Flds.a f))), .d (.v (.bool (Flds.b f))), .d (.v (.bool (Flds.ver f))), .d (.v (.bool (Flds.vol f)))]), (4, .box [.d (.v (.int .i64 (Req.kind r))), .d (.sl .int (Req.ids r)), .d (.v (.int .i64 (Req.a r))), .d (.v (.int .i64 (Req.b r))), .d (.v (.int .i64 (Req.ver r))), .d (.v (.int .u64 (Req.vol r)))]), (5, .box [.d (.v (.bool (Flds.ids f))), .d (.v (.bool (Flds.a f))), .d (.v (.bool (Flds.b f))), .d (.v (.bool (Flds.ver f))), .d (.v (.bool (Flds.vol f)))])] 46)) := by kernel_rfl

theorem t18c (d : Deck) (r : Req) (f : Flds) (i w : Int) : @Eq (Out Unit) (aexec Tryz.prog codes sigs Tryz.f18 (fun _ _ => none : Fin Unit) 86 ⟨[], true⟩ 300 true (List.tail (rb Tryz.f18 0)) (B18 d r f i w 86)) (.need ((True ∧ True ∧ True ∧ True ∧ True) ∧ (True ∧ True) ∧ True) (.callP 68 [⟨.deck, d⟩, ⟨.int, i⟩] [.int] fun (x : Int) => bif x != w then .need ((True ∧ True) ∧ (True ∧ True) ∧ True) (.callP 69 [Sigma.mk .int (3 : Int), ⟨.int, i⟩] [.resp] fun (x : Resp) => .stop [Item.code Code.ret, Item.inBlock 2] (mkS 76 [(4, .ptr 2 0)] [(0, .box [.d (.sl .flt (Deck.borders d)), .d (.sl .plate (Deck.plates d)), .d (.sl .rack (Deck.racks d)), .d (.v (.int .i64 (Deck.arms d)))]), (1, .box [.d (.v (.int .i64 (Req.kind r))), .d (.sl .int (Req.ids r)), .d (.v (.int .i64 (Req.a r))), .d (.v (.int .i64 (Req.b r))), .d (.v (.int .i64 (Req.ver r))), .d (.v (.int .u64 (Req.vol r)))]), (2, .box [.d (.v (.int .i64 (Resp.err x))), .d (.v (.int .i64 (Resp.id x))), .d (.v (.int .i64 (Resp.n x))), .d (.v (.int .i64 (Resp.ver x))), .d (.sl .change (Resp.list x))]), (3, .box [.d (.v (.bool (Flds.ids f))), .d (.v (.bool (Flds.a f))), .d (.v (.bool (Flds.b f))), .d (.v (.bool (Flds.ver f))), .d (.v (.bool (Flds.vol f)))]), (4, .box [.d (.v (.int .i64 (Req.kind r))), .d (.sl .int (Req.ids r)), .d (.v (.int .i64 (Req.a r))), .d (.v (.int .i64 (Req.b r))), .d (.v (.int .i64 (Req.ver r))), .d (.v (.int .u64 (Req.vol r)))]), (5, .box [.d (.v (.bool (Flds.ids f))), .d (.v (.bool (Flds.a f))), .d (.v (.bool (Flds.b f))), .d (.v (.bool (Flds.ver f))), .d (.v (.bool (Flds.vol f)))])] 86)) else .stop [] (mkS 76 [(4, .ptr 2 0)] [(0, .box [.d (.sl .flt (Deck.borders d)), .d (.sl .plate (Deck.plates d)), .d (.sl .rack (Deck.racks d)), .d (.v (.int .i64 (Deck.arms d)))]), (1, .box [.d (.v (.int .i64 (Req.kind r))), .d (.sl .int (Req.ids r)), .d (.v (.int .i64 (Req.a r))), .d (.v (.int .i64 (Req.b r))), .d (.v (.int .i64 (Req.ver r))), .d (.v (.int .u64 (Req.vol r)))]), (2, .box [.d (.v (.int .i64 (0 : Int))), .d (.v (.int .i64 (0 : Int))), .d (.v (.int .i64 (0 : Int))), .d (.v (.int .i64 (0 : Int))), .d (.v (.slice none 0 0))]), (3, .box [.d (.v (.bool (Flds.ids f))), .d (.v (.bool (Flds.a f))), .d (.v (.bool (Flds.b f))), .d (.v (.bool (Flds.ver f))), .d (.v (.bool (Flds.vol f)))]), (4, .box [.d (.v (.int .i64 (Req.kind r))), .d (.sl .int (Req.ids r)), .d (.v (.int .i64 (Req.a r))), .d (.v (.int .i64 (Req.b r))), .d (.v (.int .i64 (Req.ver r))), .d (.v (.int .u64 (Req.vol r)))]), (5, .box [.d (.v (.bool (Flds.ids f))), .d (.v (.bool (Flds.a f))), .d (.v (.bool (Flds.b f))), .d (.v (.bool (Flds.ver f))), .d (.v (.bool (Flds.vol f)))])] 86))) := by kernel_rfl

theorem t18d (d : Deck) (r : Req) (f : Flds) (i w : Int) : @Eq (Out Unit) (aexec Tryz.prog codes sigs Tryz.f18 (fun _ _ => none : Fin Unit) 46 ⟨[], true⟩ 300 true (List.tail (rb Tryz.f18 0)) (B18 d r f i w 46)) (.need ((True ∧ True ∧ True ∧ True ∧ True) ∧ (True ∧ True) ∧ True) (.callP 68 [⟨.deck, d⟩, ⟨.int, i⟩] [.int] fun (x : Int) => bif x != w then .need ((True ∧ True) ∧ (True ∧ True) ∧ True) (.callP 69 [Sigma.mk .int (3 : Int), ⟨.int, i⟩] [.resp] fun (x : Resp) => .stop [Item.code Code.ret, Item.inBlock 2] (mkS 76 [(4, .ptr 2 0)] [(0, .box [.d (.sl .flt (Deck.borders d)), .d (.sl .plate (Deck.plates d)), .d (.sl .rack (Deck.racks d)), .d (.v (.int .i64 (Deck.arms d)))]), (1, .box [.d (.v (.int .i64 (Req.kind r))), .d (.sl .int (Req.ids r)), .d (.v (.int .i64 (Req.a r))), .d (.v (.int .i64 (Req.b r))), .d (.v (.int .i64 (Req.ver r))), .d (.v (.int .u64 (Req.vol r)))]), (2, .box [.d (.v (.int .i64 (Resp.err x))), .d (.v (.int .i64 (Resp.id x))), .d (.v (.int .i64 (Resp.n x))), .d (.v (.int .i64 (Resp.ver x))), .d (.sl .change (Resp.list x))]), (3, .box [.d (.v (.bool (Flds.ids f))), .d (.v (.bool (Flds.a f))), .d (.v (.bool (Flds.b f))), .d (.v (.bool (Flds.ver f))), .d (.v (.bool (Flds.vol f)))]), (4, .box [.d (.v (.int .i64 (Req.kind r))), .d (.sl .int (Req.ids r)), .d (.v (.int .i64 (Req.a r))), .d (.v (.int .i64 (Req.b r))), .d (.v (.int .i64 (Req.ver r))), .d (.v (.int .u64 (Req.vol r)))]), (5, .box [.d (.v (.bool (Flds.ids f))), .d (.v (.bool (Flds.a f))), .d (.v (.bool (Flds.b f))), .d (.v (.bool (Flds.ver f))), .d (.v (.bool (Flds.vol f)))])] 46)) else .stop [] (mkS 76 [(4, .ptr 2 0)] [(0, .box [.d (.sl .flt (Deck.borders d)), .d (.sl .plate (Deck.plates d)), .d (.sl .rack (Deck.racks d)), .d (.v (.int .i64 (Deck.arms d)))]), (1, .box [.d (.v (.int .i64 (Req.kind r))), .d (.sl .int (Req.ids r)), .d (.v (.int .i64 (Req.a r))), .d (.v (.int .i64 (Req.b r))), .d (.v (.int .i64 (Req.ver r))), .d (.v (.int .u64 (Req.vol r)))]), (2, .box [.d (.v (.int .i64 (0 : Int))), .d (.v (.int .i64 (0 : Int))), .d (.v (.int .i64 (0 : Int))), .d (.v (.int .i64 (0 : Int))), .d (.v (.slice none 0 0))]), (3, .box [.d (.v (.bool (Flds.ids f))), .d (.v (.bool (Flds.a f))), .d (.v (.bool (Flds.b f))), .d (.v (.bool (Flds.ver f))), .d (.v (.bool (Flds.vol f)))]), (4, .box [.d (.v (.int .i64 (Req.kind r))), .d (.sl .int (Req.ids r)), .d (.v (.int .i64 (Req.a r))), .d (.v (.int .i64 (Req.b r))), .d (.v (.int .i64 (Req.ver r))), .d (.v (.int .u64 (Req.vol r)))]), (5, .box [.d (.v (.bool (Flds.ids f))), .d (.v (.bool (Flds.a f))), .d (.v (.bool (Flds.b f))), .d (.v (.bool (Flds.ver f))), .d (.v (.bool (Flds.vol f)))])] 46))) := by kernel_rfl

theorem t18k (d : Deck) (r : Req) (f : Flds) (n : Nat) : @Eq (Out (TyTup [.resp])) (aexec Tryz.prog codes sigs Tryz.f18 (pureFin [.resp]) 6 noCut 300 true (rfK (rf Tryz.f18 0)) (K18 d r f respZ0 n)) (bif Flds.b f then bif Req.a r == Req.b r then .need ((True ∧ True) ∧ True) (.callP 62 [Sigma.mk .int (1 : Int)] [.resp] fun (x : Resp) => .need (True ∧ True ∧ True ∧ True ∧ True ∧ True) (.ret x)) else bif Flds.vol f then .need ((True ∧ True ∧ True ∧ True ∧ True ∧ True ∧ True) ∧ True) (.callP 15 [⟨.req, r⟩] [.int, .int] fun (x : Int × Int) => .need ((True ∧ True) ∧ True) (.callP 62 [Sigma.mk .int (Prod.snd x)] [.resp] fun (x : Resp) => .need (True ∧ True ∧ True ∧ True ∧ True ∧ True) (.ret x))) else .need (True ∧ True ∧ True ∧ True ∧ True ∧ True) (.ret (Resp.mk (0 : Int) (0 : Int) (0 : Int) (0 : Int) [])) else bif Flds.vol f then .need ((True ∧ True ∧ True ∧ True ∧ True ∧ True ∧ True) ∧ True) (.callP 15 [⟨.req, r⟩] [.int, .int] fun (x : Int × Int) => .need ((True ∧ True) ∧ True) (.callP 62 [Sigma.mk .int (Prod.snd x)] [.resp] fun (x : Resp) => .need (True ∧ True ∧ True ∧ True ∧ True ∧ True) (.ret x))) else .need (True ∧ True ∧ True ∧ True ∧ True ∧ True) (.ret (Resp.mk (0 : Int) (0 : Int) (0 : Int) (0 : Int) []))) := by kernel_rfl

theorem t18q (d : Deck) (r : Req) (f : Flds) (x : Resp) (n : Nat) : @Eq (Out (TyTup [.resp])) (aexec Tryz.prog codes sigs Tryz.f18 (pureFin [.resp]) 6 noCut 300 true (rtK (rf Tryz.f18 0)) (K18 d r f (respC x) n)) (.need (True ∧ True ∧ True ∧ True ∧ True ∧ True) (.ret x)) := by kernel_rfl

end Go.Proofs.Wn

/- A request held against the deck: want.Check. (Own work.) -/
namespace Go.Proofs.Wn
open Go Go.VL
open Zn (zoneS)

theorem c67 (r : Req) (f : Flds) : Gc Tryz.prog 67 [.agg (reqC r), .agg (fldC f)] [] 0 (partsOut [.agg (reqC r), .agg (fldC f)] [] ()) :=
  Gc.of_closed (C := codes) (S := sigs) mixed Tryz.func67 (by kernel_rfl) (fun i T t ys hi _ => absurd hi (Nat.not_lt_zero _)) fun A hA =>
    hA.go (t67 r f) ⟨trivial, .of_eq rfl⟩

/-- What the parts of a request must be. -/
def wantK (r : Req) : Int := bif r.kind == 7 then 2 else 1
def endR (r : Req) (f : Flds) : Resp := bif f.b && r.a == r.b then errR 1 0 else bif f.vol then errR (volS r).2 0 else errR 0 0
def partsR (d : Deck) (r : Req) (f : Flds) : Resp := bif f.a && (kindS d r.a != wantK r) then errR 3 r.a else bif f.b && (kindS d r.b != wantK r) then errR 3 r.b else endR r f
def checkR (d : Deck) (r : Req) : Resp := bif zoneS d != 0 then errR (zoneS d) 0 else bif decide (r.kind < 1) || decide (r.kind > 10) then errR 150 0 else bif !withinS (hasS r) (flS r.kind) then errR 151 0 else bif (flS r.kind).ids then batchS d r.ids else partsR d r (flS r.kind)

theorem rowsH {d : Deck} {r : Req} {f : Flds} {x : List AV} {H : Heap} {n : Nat} : RowsLe n H (H18 d r f x) := by
  intro i T t xs hi hx
  match i, hx with
  | 0, hx => cases hx
  | 1, hx => cases hx
  | 2, hx => cases hx
  | 3, hx => cases hx
  | 4, hx => cases hx
  | 5, hx => cases hx
  | i + 6, hx => cases hx

/-! ### the call of the loop's body -/
def yOK (todo : List Item) (dst yt a b : Tmp) : Bool := match opOf todo with
  | some o => (o.dst == some dst) && (match callIn o with
    | some (.tmp y, args) => (match args.toList with
      | [.tmp z, .tmp u] => y == yt && (z == a && u == b)
      | _ => false)
    | _ => false)
  | none => false
theorem of_yOK {todo : List Item} {dst yt a b : Tmp} (h : yOK todo dst yt a b = true) : ∃ o args, opOf todo = some o ∧ o.dst = some dst ∧ callIn o = some (.tmp yt, args) ∧ args.toList = [.tmp a, .tmp b] := by
  unfold yOK at h
  split at h
  · rename_i o ho
    simp only [Bool.and_eq_true] at h
    obtain ⟨hd, hc⟩ := h
    split at hc
    · rename_i y args hcall
      split at hc
      · rename_i z u hz
        simp only [Bool.and_eq_true, beq_iff_eq] at hc
        obtain ⟨rfl, rfl, rfl⟩ := hc
        exact ⟨o, args, ho, by simpa using hd, hcall, hz⟩
      · cases hc
    · cases hc
  · cases h
def wOK (todo : List Item) (s : AS) : Bool := match opOf todo with
  | some o => wantedB (inOps todo) o s
  | none => false

abbrev GG (l : Nat) (d : Deck) (r : Req) (f : Flds) (done : Heap → Nat → Prop) (doneJ : Code → Heap → Nat → Prop) (A : List Item → AS → Prop) : Prop :=
  ClG Tryz.prog codes sigs Tryz.f129 Tryz.f18 6 l (H18 d r f respZ0) (rfP (rf Tryz.f18 0)) (rfA (rf Tryz.f18 0)) (rfB (rf Tryz.f18 0)) tm18 done doneJ A

/-- One round. -/
theorem yld {l : Nat} {d : Deck} {r : Req} {f : Flds} {i w : Int} {done : Heap → Nat → Prop} {doneJ : Code → Heap → Nat → Prop} {A : List Item → AS → Prop}
    (hG : GG l d r f done doneJ A) (todo : List Item) (tm : List AV) (dst yt a b : Tmp) (n : Nat) (hn : 6 + 8 * (inOps todo).size = n) (hin : inOk todo = true) (hy : yOK todo dst yt a b = true) (hw : wOK todo ⟨tm, H18 d r f respZ0, 6⟩ = true)
    (hev : tm.getD yt .dead = .clo (.yield l) [] []) (hea : tm.getD a .dead = i64 i) (heb : tm.getD b .dead = i64 w)
    (h18 : ∀ Ar, ClB Tryz.prog codes sigs Tryz.f18 n (fun s2 => RowsLe n (H18 d r f respZ0) s2.H ∧ A (inNext todo) ⟨tm.set dst (boolA true), s2.H, s2.next⟩)
      (fun j s2 => RowsLe n (H18 d r f respZ0) s2.H ∧ ∀ Ad, ClD Tryz.prog codes sigs Tryz.f129 6 (doneJ j) Ad → Ad (inNext todo) ⟨tm.set dst (boolA false), s2.H, s2.next⟩) Ar → Ar (rd Tryz.f18 0) (R18 d r f i w n)) : A todo ⟨tm, H18 d r f respZ0, 6⟩ := by
  obtain ⟨o, args, ho, hds, hc, ha⟩ := of_yOK hy
  have hsz : args.size = (rfP (rf Tryz.f18 0)).size := by
    have e1 : args.size = 2 := by rw [← Array.length_toList, ha]; rfl
    have e2 : (rfP (rf Tryz.f18 0)).size = 2 := by kernel_rfl
    rw [e1, e2]
  have hg : wantedB (inOps todo) o ⟨tm, H18 d r f respZ0, 6⟩ = true := by
    unfold wOK at hw; rw [ho] at hw; exact hw
  refine hG.at todo ⟨tm, H18 d r f respZ0, 6⟩ o (.tmp yt) args hin ho hg hc hev hsz rowsH (Nat.le_refl _) (fun Ar hAr => ?_)
  rw [ha]
  have e2 : [Operand.tmp a, Operand.tmp b].map (⟨tm, H18 d r f respZ0, 6⟩ : AS).ev = [i64 i, i64 w] := by rw [← hea, ← heb]; rfl
  have e3 : putTs tm18 (rfP (rf Tryz.f18 0)).toList [i64 i, i64 w] = (R18 d r f i w n).tmps := by kernel_rfl
  rw [e2, e3]
  rw [hds] at hAr
  subst hn
  exact h18 Ar hAr

theorem yld86 {l : Nat} {d : Deck} {r : Req} {f : Flds} {i w : Int} {done : Heap → Nat → Prop} {doneJ : Code → Heap → Nat → Prop} {A : List Item → AS → Prop}
    (hG : GG l d r f done doneJ A) (todo : List Item) (tm : List AV) (dst yt a b : Tmp) (hn : 6 + 8 * (inOps todo).size = 86) (hin : inOk todo = true) (hy : yOK todo dst yt a b = true) (hw : wOK todo ⟨tm, H18 d r f respZ0, 6⟩ = true)
    (hev : tm.getD yt .dead = .clo (.yield l) [] []) (hea : tm.getD a .dead = i64 i) (heb : tm.getD b .dead = i64 w)
    (hgood : kindS d i = w → A (inNext todo) ⟨tm.set dst (boolA true), H18 d r f respZ0, 86⟩)
    (hbad : kindS d i ≠ w → ∀ Ad, ClD Tryz.prog codes sigs Tryz.f129 6 (doneJ .ret) Ad → Ad (inNext todo) ⟨tm.set dst (boolA false), H18 d r f (respC (errR 3 i)), 86⟩) : A todo ⟨tm, H18 d r f respZ0, 6⟩ := by
  refine yld hG todo tm dst yt a b 86 hn hin hy hw hev hea heb (fun Ar hAr => hAr.cl.go (t18r d r f i w) ?_)
  show Ar (.beginRound :: [.code (rfB (rf Tryz.f18 0))]) (B18 d r f i w 86)
  refine hAr.begin' _ _ (fun A3 hA3 => hA3.cl.go (t18c d r f i w) ⟨⟨Zn.T5', T2', trivial⟩, _, c68 d i, sat_bif (fun h => ⟨⟨T2', T2', trivial⟩, _, c69 3 i, ?_⟩) (fun h => ?_)⟩)
  · exact hA3.ret _ _ ⟨rowsH (x := respC (errR 3 i)), hbad (by simpa using h)⟩
  · exact hA3.fine _ ⟨rowsH (x := respZ0), hgood (by simpa using h)⟩

theorem yld46 {l : Nat} {d : Deck} {r : Req} {f : Flds} {i w : Int} {done : Heap → Nat → Prop} {doneJ : Code → Heap → Nat → Prop} {A : List Item → AS → Prop}
    (hG : GG l d r f done doneJ A) (todo : List Item) (tm : List AV) (dst yt a b : Tmp) (hn : 6 + 8 * (inOps todo).size = 46) (hin : inOk todo = true) (hy : yOK todo dst yt a b = true) (hw : wOK todo ⟨tm, H18 d r f respZ0, 6⟩ = true)
    (hev : tm.getD yt .dead = .clo (.yield l) [] []) (hea : tm.getD a .dead = i64 i) (heb : tm.getD b .dead = i64 w)
    (hgood : kindS d i = w → A (inNext todo) ⟨tm.set dst (boolA true), H18 d r f respZ0, 46⟩)
    (hbad : kindS d i ≠ w → ∀ Ad, ClD Tryz.prog codes sigs Tryz.f129 6 (doneJ .ret) Ad → Ad (inNext todo) ⟨tm.set dst (boolA false), H18 d r f (respC (errR 3 i)), 46⟩) : A todo ⟨tm, H18 d r f respZ0, 6⟩ := by
  refine yld hG todo tm dst yt a b 46 hn hin hy hw hev hea heb (fun Ar hAr => hAr.cl.go (t18s d r f i w) ?_)
  show Ar (.beginRound :: [.code (rfB (rf Tryz.f18 0))]) (B18 d r f i w 46)
  refine hAr.begin' _ _ (fun A3 hA3 => hA3.cl.go (t18d d r f i w) ⟨⟨Zn.T5', T2', trivial⟩, _, c68 d i, sat_bif (fun h => ⟨⟨T2', T2', trivial⟩, _, c69 3 i, ?_⟩) (fun h => ?_)⟩)
  · exact hA3.ret _ _ ⟨rowsH (x := respC (errR 3 i)), hbad (by simpa using h)⟩
  · exact hA3.fine _ ⟨rowsH (x := respZ0), hgood (by simpa using h)⟩

theorem run129 {l : Nat} {d : Deck} {r : Req} {f : Flds} (hab : f.b = true → f.a = true) {done : Heap → Nat → Prop} {doneJ : Code → Heap → Nat → Prop} {A : List Item → AS → Prop} (hG : GG l d r f done doneJ A)
    (hok : (f.a && (kindS d r.a != wantK r)) = false → (f.b && (kindS d r.b != wantK r)) = false → done (H18 d r f respZ0) 6)
    (hba : (f.a && (kindS d r.a != wantK r)) = true → doneJ .ret (H18 d r f (respC (errR 3 r.a))) 6)
    (hbb : (f.a && (kindS d r.a != wantK r)) = false → (f.b && (kindS d r.b != wantK r)) = true → doneJ .ret (H18 d r f (respC (errR 3 r.b))) 6) : A (bodyOf Tryz.f129) (F129 l d r f respZ0) := by
  have key : ∀ w, w = wantK r → A (rg Tryz.f129 3) (G129 l d r f w) := by
    intro w hw
    obtain ⟨fi, fa, fb, fv, fl⟩ := f
    cases fa with
    | false => cases fb with
      | true => exact absurd (show false = true from hab rfl) (by decide)
      | false => exact hG.cl.go (t129c l d r fi false fv fl w) (hG.ret [] _ (.inl rfl) (hok rfl rfl))
    | true =>
      refine hG.cl.go (t129b l d r fi fb fv fl w) ?_
      refine yld86 (i := r.a) (w := w) hG (inR Tryz.f129 3 7) _ 15 11 13 14 (by kernel_rfl) (by kernel_rfl) (by kernel_rfl) (by kernel_rfl) (by kernel_rfl) (by kernel_rfl) (by kernel_rfl) (fun hk => ?_) (fun hk Ad hAd => ?_)
      · have ha : (kindS d r.a != wantK r) = false := by rw [hk, hw]; simp
        refine hG.cl.go (t129d l d r fi fb fv fl w) ?_
        cases fb with
        | false => exact hG.ret [] _ (.inl rfl) (hok ha rfl)
        | true =>
          refine hG.cl.go (t129f l d r ⟨fi, true, true, fv, fl⟩ w) ?_
          refine yld46 (i := r.b) (w := w) hG (inR Tryz.f129 5 4) _ 24 20 22 23 (by kernel_rfl) (by kernel_rfl) (by kernel_rfl) (by kernel_rfl) (by kernel_rfl) (by kernel_rfl) (by kernel_rfl) (fun hk2 => ?_) (fun hk2 Ad hAd => ?_)
          · have hb : (kindS d r.b != wantK r) = false := by rw [hk2, hw]; simp
            exact hG.cl.go (t129h l d r ⟨fi, true, true, fv, fl⟩ w) (hG.ret [] _ (.inl rfl) (hok ha hb))
          · have hb : (kindS d r.b != wantK r) = true := by rw [← hw]; simpa using hk2
            exact hAd.cl.go (t129g l d r ⟨fi, true, true, fv, fl⟩ w (errR 3 r.b)) (hAd.ret [] _ (.inl rfl) (hbb ha hb))
      · have ha : (kindS d r.a != wantK r) = true := by rw [← hw]; simpa using hk
        refine hAd.cl.go (t129e l d r fi fb fv fl w (errR 3 r.a)) (hAd.ret (rt Tryz.f129 0) _ (.inr ⟨List.tail (rt Tryz.f129 0), by kernel_rfl⟩) (hba ha))
  exact hG.cl.go (t129a l d r f) (sat_bif (fun h => key 2 (by unfold wantK; rw [h]; rfl)) (fun h => key 1 (by unfold wantK; rw [h]; rfl)))

theorem fl_ab (k : Int) : (flS k).b = true → (flS k).a = true := by
  unfold flS
  generalize (k == 1) = b1
  generalize (k == 2) = b2
  generalize (k == 4) = b4
  generalize (k == 5) = b5
  generalize (k == 6) = b6
  generalize (k == 7) = b7
  generalize (k == 9) = b9
  generalize (k == 10) = b10
  revert b1 b2 b4 b5 b6 b7 b9 b10
  decide
abbrev T7' : True ∧ True ∧ True ∧ True ∧ True ∧ True ∧ True := ⟨trivial, trivial, trivial, trivial, trivial, trivial, trivial⟩
theorem end18 {d : Deck} {r : Req} (h0 : 0 ≤ r.vol) (hv : r.vol < 18446744073709551616) (f : Flds) {A2 : List Item → AS → Prop} {y : Resp} (hy : endR r f = y) (hA2 : Closed Tryz.prog codes sigs Tryz.f18 (pureFin [.resp]) (fun x => x = y) 6 A2) (m : Nat) : A2 (rfK (rf Tryz.f18 0)) ⟨tm18, H18 d r f respZ0, m⟩ := by
  show A2 (rfK (rf Tryz.f18 0)) (K18 d r f respZ0 m)
  refine hA2.go (t18k d r f m) ?_
  unfold endR at hy
  refine sat_bif (fun h => ?_) (fun h => ?_)
  · rw [h] at hy
    refine sat_bif (fun h2 => ?_) (fun h2 => ?_)
    · rw [h2] at hy; exact ⟨⟨T2', trivial⟩, _, c62 1, T6', hy⟩
    · rw [h2] at hy
      refine sat_bif (fun h3 => ?_) (fun h3 => ?_)
      · rw [h3] at hy; exact ⟨⟨T7', trivial⟩, _, c15 h0 hv, ⟨T2', trivial⟩, _, c62 _, T6', hy⟩
      · rw [h3] at hy; exact ⟨T6', hy⟩
  · rw [h] at hy
    refine sat_bif (fun h3 => ?_) (fun h3 => ?_)
    · rw [h3] at hy; exact ⟨⟨T7', trivial⟩, _, c15 h0 hv, ⟨T2', trivial⟩, _, c62 _, T6', hy⟩
    · rw [h3] at hy; exact ⟨T6', hy⟩
theorem rf18 {d : Deck} {r : Req} (h0 : 0 ≤ r.vol) (hv : r.vol < 18446744073709551616) {f : Flds} (hab : f.b = true → f.a = true) {y : Resp} (hy : partsR d r f = y) {A : List Item → AS → Prop} (hA : ClosedR Tryz.prog codes sigs Tryz.f18 (pureFin [.resp]) (fun x => x = y) 0 A) : A (rf Tryz.f18 0) (K18 d r f respZ0 6) := by
  obtain ⟨gc, hgc⟩ : ∃ gc, Tryz.f129.body = some gc := Option.isSome_iff_exists.1 (by kernel_rfl)
  refine hA.at (rf Tryz.f18 0) (K18 d r f respZ0 6) 129 Tryz.f129 gc [] [.ptr 4 0, .ptr 5 0] (by kernel_rfl) (by kernel_rfl) Tryz.func129 hgc (by kernel_rfl) (by kernel_rfl) (Nat.zero_le _) (fun l A' hG => ?_)
  have e1 : (F129 l d r f respZ0).tmps = .clo (.yield l) [] [] :: .ptr 4 0 :: .ptr 5 0 :: List.replicate 22 .dead := by kernel_rfl
  have e2 : ([] ++ .clo (.yield l) [] [] :: [.ptr 4 0, .ptr 5 0] ++ List.replicate (Tryz.f129.ntmps - (([] : List AV).length + 1 + [AV.ptr 4 0, AV.ptr 5 0].length)) (.d (.v undef)) : List AV) = .clo (.yield l) [] [] :: .ptr 4 0 :: .ptr 5 0 :: List.replicate 22 (.d (.v undef)) := by kernel_rfl
  rw [e2]
  refine hG.cl.le (bodyOf Tryz.f129) _ (F129 l d r f respZ0) (by kernel_rfl) ⟨by rw [e1]; rfl, ?_, ?_, Nat.le_refl _⟩ ?_
  · intro i a c ha hc
    rw [e1] at hc
    match i with
    | 0 => cases ha; cases hc; exact .refl _ _
    | 1 => cases ha; cases hc; exact .refl _ _
    | 2 => cases ha; cases hc; exact .refl _ _
    | i + 3 =>
      have hc : (List.replicate 22 AV.dead)[i]? = some c := hc
      rw [List.getElem?_replicate] at hc
      split at hc
      · cases hc; exact .dead _ _
      · cases hc
  · intro k b' hb'
    refine ⟨b', hb', .refl _ _⟩
  refine run129 hab hG (fun h1 h2 => ⟨rowsH, fun A2 hA2 => ?_⟩) (fun h1 => ⟨rowsH, fun A2 hA2 => ?_⟩) (fun h1 h2 => ⟨rowsH, fun A2 hA2 => ?_⟩)
  · exact end18 h0 hv f (y := y) (by rw [← hy, partsR, h1, h2]; rfl) hA2 6
  · show A2 (rtK (rf Tryz.f18 0)) (K18 d r f (respC (errR 3 r.a)) 6)
    exact Closed.go hA2 (t18q d r f (errR 3 r.a) 6) ⟨T6', by rw [← hy, partsR, h1]; rfl⟩
  · show A2 (rtK (rf Tryz.f18 0)) (K18 d r f (respC (errR 3 r.b)) 6)
    exact Closed.go hA2 (t18q d r f (errR 3 r.b) 6) ⟨T6', by rw [← hy, partsR, h1, h2]; rfl⟩
theorem c18 {d : Deck} {r : Req} (h0 : 0 ≤ r.vol) (hv : r.vol < 18446744073709551616) : Pure Tryz.prog 18 [⟨.deck, d⟩, ⟨.req, r⟩] [.resp] (checkR d r) :=
  Pure.of_closedR (C := codes) (S := sigs) mixed Tryz.func18 (by kernel_rfl) (Nat.le_of_ble_eq_true (by kernel_rfl)) fun A hA => hA.cl.go (t18 d r) (by
    have hy : ∃ y, checkR d r = y := ⟨_, rfl⟩
    obtain ⟨y, hy⟩ := hy
    rw [hy] at hA ⊢
    unfold checkR at hy
    refine ⟨⟨Zn.T5', trivial⟩, _, Zn.c47 d, sat_bif (fun h => ?_) (fun h => ?_)⟩
    · rw [h] at hy; exact ⟨⟨T2', trivial⟩, _, c62 _, T6', hy⟩
    rw [h] at hy
    refine ⟨⟨T2', trivial⟩, _, c63 _, sat_bif (fun h1 => ?_) (fun h1 => ?_)⟩
    · rw [h1] at hy; exact ⟨⟨T2', trivial⟩, _, c62 _, T6', hy⟩
    rw [h1] at hy
    refine sat_bif (fun h2 => ?_) (fun h2 => ?_)
    · rw [h2] at hy; exact ⟨⟨T2', trivial⟩, _, c62 _, T6', hy⟩
    rw [h2] at hy
    refine ⟨⟨T7', trivial⟩, _, c64 r, ⟨T6', T6', trivial⟩, _, c65 _ _, sat_bif (fun h3 => ?_) (fun h3 => ?_)⟩
    · rw [h3] at hy; exact ⟨⟨T2', trivial⟩, _, c62 _, T6', hy⟩
    rw [h3] at hy
    refine sat_bif (fun h4 => ?_) (fun h4 => ?_)
    · rw [h4] at hy; exact ⟨⟨Zn.T5', T2', trivial⟩, _, c66 d r.ids, T6', hy⟩
    rw [h4] at hy
    exact ⟨(), c67 r (flS r.kind), rf18 h0 hv (fl_ab r.kind) hy hA⟩)
end Go.Proofs.Wn

namespace Go.Proofs.Wn
open Go Go.VL

def H19 (d : Deck) (r : Req) (f : Flds) : Heap := [(0, .box (Zn.deckC d)), (1, .box (reqC r)), (2, .box [i64 0, i64 0, i64 0, i64 0, .d (.v (.slice none 0 0))]), (3, .box (fldC f))]
def C19 (d : Deck) (r : Req) (f : Flds) : AS := mkS 132 [(2, .ptr 0 0), (3, .ptr 1 0), (4, .ptr 2 0), (6, .ptr 3 0)] (H19 d r f) 4
def D19 (d : Deck) (r : Req) (f : Flds) (w : Int) : AS := mkS 132 [(2, .ptr 0 0), (3, .ptr 1 0), (4, .ptr 2 0), (6, .ptr 3 0), (7, i64 w)] (H19 d r f) 4
def E19 (r : Req) (f : Flds) : AS := mkS 132 [(3, .ptr 0 0), (4, .ptr 1 0), (6, .ptr 2 0)] [(0, .box (reqC r)), (1, .box [i64 0, i64 0, i64 0, i64 0, .d (.v (.slice none 0 0))]), (2, .box (fldC f))] 3


theorem t19 (d : Deck) (r : Req) : @Eq (Out (TyTup [.resp])) (aexec Tryz.prog codes sigs Tryz.f19 (pureFin [.resp]) 0 ⟨[7], false⟩ 300 false (bodyOf Tryz.f19) (startS Tryz.f19 [⟨.deck, d⟩, ⟨.req, r⟩])) (.need ((True ∧ True ∧ True ∧ True ∧ True) ∧ True) (.callP 70 [⟨.deck, d⟩] [.int] fun (x : Int) => bif x != (0 : Int) then .need ((True ∧ True) ∧ (True ∧ True) ∧ True) (.callP 71 [⟨.int, x⟩, Sigma.mk .int (0 : Int)] [.resp] fun (x : Resp) => .need (True ∧ True ∧ True ∧ True ∧ True ∧ True) (.ret x)) else bif decide (Req.kind r < (1 : Int)) then .need ((True ∧ True) ∧ (True ∧ True) ∧ True) (.callP 71 [Sigma.mk .int (150 : Int), Sigma.mk .int (0 : Int)] [.resp] fun (x : Resp) => .need (True ∧ True ∧ True ∧ True ∧ True ∧ True) (.ret x)) else bif decide (Req.kind r > (10 : Int)) then .need ((True ∧ True) ∧ (True ∧ True) ∧ True) (.callP 71 [Sigma.mk .int (150 : Int), Sigma.mk .int (0 : Int)] [.resp] fun (x : Resp) => .need (True ∧ True ∧ True ∧ True ∧ True ∧ True) (.ret x)) else .need ((True ∧ True) ∧ True) (.callP 72 [Sigma.mk .int (Req.kind r)] [.b5] fun (x : Flds) => .stop (rg Tryz.f19 7) (mkS 132 [(2, .ptr 0 0), (3, .ptr 1 0), (4, .ptr 2 0), (6, .ptr 3 0)] [(0, .box [.d (.sl .flt (Deck.borders d)), .d (.sl .plate (Deck.plates d)), .d (.sl .rack (Deck.racks d)), .d (.v (.int .i64 (Deck.arms d)))]), (1, .box [.d (.v (.int .i64 (Req.kind r))), .d (.sl .int (Req.ids r)), .d (.v (.int .i64 (Req.a r))), .d (.v (.int .i64 (Req.b r))), .d (.v (.int .i64 (Req.ver r))), .d (.v (.int .u64 (Req.vol r)))]), (2, .box [.d (.v (.int .i64 (0 : Int))), .d (.v (.int .i64 (0 : Int))), .d (.v (.int .i64 (0 : Int))), .d (.v (.int .i64 (0 : Int))), .d (.v (.slice none 0 0))]), (3, .box [.d (.v (.bool (Flds.ids x))), .d (.v (.bool (Flds.a x))), .d (.v (.bool (Flds.b x))), .d (.v (.bool (Flds.ver x))), .d (.v (.bool (Flds.vol x)))])] 4)))) := by kernel_rfl

theorem t19b (d : Deck) (r : Req) (f : Flds) : @Eq (Out (TyTup [.resp])) (aexec Tryz.prog codes sigs Tryz.f19 (pureFin [.resp]) 0 ⟨[14], false⟩ 300 true (rg Tryz.f19 9) (C19 d r f)) (bif Flds.ids f then .need ((True ∧ True ∧ True ∧ True ∧ True) ∧ (True ∧ True) ∧ True) (.callP 73 [⟨.deck, d⟩, Sigma.mk (.sl .int) (Req.ids r)] [.resp] fun (x : Resp) => .need (True ∧ True ∧ True ∧ True ∧ True ∧ True) (.ret x)) else bif Req.kind r == (7 : Int) then .stop (rg Tryz.f19 14) (mkS 132 [(2, .ptr 0 0), (3, .ptr 1 0), (4, .ptr 2 0), (6, .ptr 3 0), (7, .d (.v (.int .i64 (2 : Int))))] [(0, .box [.d (.sl .flt (Deck.borders d)), .d (.sl .plate (Deck.plates d)), .d (.sl .rack (Deck.racks d)), .d (.v (.int .i64 (Deck.arms d)))]), (1, .box [.d (.v (.int .i64 (Req.kind r))), .d (.sl .int (Req.ids r)), .d (.v (.int .i64 (Req.a r))), .d (.v (.int .i64 (Req.b r))), .d (.v (.int .i64 (Req.ver r))), .d (.v (.int .u64 (Req.vol r)))]), (2, .box [.d (.v (.int .i64 (0 : Int))), .d (.v (.int .i64 (0 : Int))), .d (.v (.int .i64 (0 : Int))), .d (.v (.int .i64 (0 : Int))), .d (.v (.slice none 0 0))]), (3, .box [.d (.v (.bool (Flds.ids f))), .d (.v (.bool (Flds.a f))), .d (.v (.bool (Flds.b f))), .d (.v (.bool (Flds.ver f))), .d (.v (.bool (Flds.vol f)))])] 4) else .stop (rg Tryz.f19 14) (mkS 132 [(2, .ptr 0 0), (3, .ptr 1 0), (4, .ptr 2 0), (6, .ptr 3 0), (7, .d (.v (.int .i64 (1 : Int))))] [(0, .box [.d (.sl .flt (Deck.borders d)), .d (.sl .plate (Deck.plates d)), .d (.sl .rack (Deck.racks d)), .d (.v (.int .i64 (Deck.arms d)))]), (1, .box [.d (.v (.int .i64 (Req.kind r))), .d (.sl .int (Req.ids r)), .d (.v (.int .i64 (Req.a r))), .d (.v (.int .i64 (Req.b r))), .d (.v (.int .i64 (Req.ver r))), .d (.v (.int .u64 (Req.vol r)))]), (2, .box [.d (.v (.int .i64 (0 : Int))), .d (.v (.int .i64 (0 : Int))), .d (.v (.int .i64 (0 : Int))), .d (.v (.int .i64 (0 : Int))), .d (.v (.slice none 0 0))]), (3, .box [.d (.v (.bool (Flds.ids f))), .d (.v (.bool (Flds.a f))), .d (.v (.bool (Flds.b f))), .d (.v (.bool (Flds.ver f))), .d (.v (.bool (Flds.vol f)))])] 4)) := by kernel_rfl

theorem t19c (d : Deck) (r : Req) (f : Flds) (w : Int) : @Eq (Out (TyTup [.resp])) (aexec Tryz.prog codes sigs Tryz.f19 (pureFin [.resp]) 0 ⟨[16], false⟩ 300 true (rg Tryz.f19 14) (D19 d r f w)) (bif Flds.a f then .need ((True ∧ True ∧ True ∧ True ∧ True) ∧ (True ∧ True) ∧ True) (.callP 74 [⟨.deck, d⟩, Sigma.mk .int (Req.a r)] [.int] fun (x : Int) => bif x != w then .need ((True ∧ True) ∧ (True ∧ True) ∧ True) (.callP 71 [Sigma.mk .int (3 : Int), Sigma.mk .int (Req.a r)] [.resp] fun (x : Resp) => .need (True ∧ True ∧ True ∧ True ∧ True ∧ True) (.ret x)) else .stop (rg Tryz.f19 16) (mkS 132 [(2, .ptr 0 0), (3, .ptr 1 0), (4, .ptr 2 0), (6, .ptr 3 0)] [(0, .box [.d (.sl .flt (Deck.borders d)), .d (.sl .plate (Deck.plates d)), .d (.sl .rack (Deck.racks d)), .d (.v (.int .i64 (Deck.arms d)))]), (1, .box [.d (.v (.int .i64 (Req.kind r))), .d (.sl .int (Req.ids r)), .d (.v (.int .i64 (Req.a r))), .d (.v (.int .i64 (Req.b r))), .d (.v (.int .i64 (Req.ver r))), .d (.v (.int .u64 (Req.vol r)))]), (2, .box [.d (.v (.int .i64 (0 : Int))), .d (.v (.int .i64 (0 : Int))), .d (.v (.int .i64 (0 : Int))), .d (.v (.int .i64 (0 : Int))), .d (.v (.slice none 0 0))]), (3, .box [.d (.v (.bool (Flds.ids f))), .d (.v (.bool (Flds.a f))), .d (.v (.bool (Flds.b f))), .d (.v (.bool (Flds.ver f))), .d (.v (.bool (Flds.vol f)))])] 4)) else .stop (rg Tryz.f19 16) (mkS 132 [(2, .ptr 0 0), (3, .ptr 1 0), (4, .ptr 2 0), (6, .ptr 3 0)] [(0, .box [.d (.sl .flt (Deck.borders d)), .d (.sl .plate (Deck.plates d)), .d (.sl .rack (Deck.racks d)), .d (.v (.int .i64 (Deck.arms d)))]), (1, .box [.d (.v (.int .i64 (Req.kind r))), .d (.sl .int (Req.ids r)), .d (.v (.int .i64 (Req.a r))), .d (.v (.int .i64 (Req.b r))), .d (.v (.int .i64 (Req.ver r))), .d (.v (.int .u64 (Req.vol r)))]), (2, .box [.d (.v (.int .i64 (0 : Int))), .d (.v (.int .i64 (0 : Int))), .d (.v (.int .i64 (0 : Int))), .d (.v (.int .i64 (0 : Int))), .d (.v (.slice none 0 0))]), (3, .box [.d (.v (.bool (Flds.ids f))), .d (.v (.bool (Flds.a f))), .d (.v (.bool (Flds.b f))), .d (.v (.bool (Flds.ver f))), .d (.v (.bool (Flds.vol f)))])] 4)) := by kernel_rfl

theorem t19d (d : Deck) (r : Req) (f : Flds) : @Eq (Out (TyTup [.resp])) (aexec Tryz.prog codes sigs Tryz.f19 (pureFin [.resp]) 0 ⟨[18], false⟩ 300 true (rg Tryz.f19 16) (C19 d r f)) (bif Flds.b f then .need ((True ∧ True ∧ True ∧ True ∧ True) ∧ (True ∧ True) ∧ True) (.callP 74 [⟨.deck, d⟩, Sigma.mk .int (Req.b r)] [.int] fun (x : Int) => bif x != (1 : Int) then .need ((True ∧ True) ∧ (True ∧ True) ∧ True) (.callP 71 [Sigma.mk .int (3 : Int), Sigma.mk .int (Req.b r)] [.resp] fun (x : Resp) => .need (True ∧ True ∧ True ∧ True ∧ True ∧ True) (.ret x)) else .stop (rg Tryz.f19 18) (mkS 132 [(3, .ptr 0 0), (4, .ptr 1 0), (6, .ptr 2 0)] [(0, .box [.d (.v (.int .i64 (Req.kind r))), .d (.sl .int (Req.ids r)), .d (.v (.int .i64 (Req.a r))), .d (.v (.int .i64 (Req.b r))), .d (.v (.int .i64 (Req.ver r))), .d (.v (.int .u64 (Req.vol r)))]), (1, .box [.d (.v (.int .i64 (0 : Int))), .d (.v (.int .i64 (0 : Int))), .d (.v (.int .i64 (0 : Int))), .d (.v (.int .i64 (0 : Int))), .d (.v (.slice none 0 0))]), (2, .box [.d (.v (.bool (Flds.ids f))), .d (.v (.bool (Flds.a f))), .d (.v (.bool (Flds.b f))), .d (.v (.bool (Flds.ver f))), .d (.v (.bool (Flds.vol f)))])] 3)) else .stop (rg Tryz.f19 18) (mkS 132 [(3, .ptr 0 0), (4, .ptr 1 0), (6, .ptr 2 0)] [(0, .box [.d (.v (.int .i64 (Req.kind r))), .d (.sl .int (Req.ids r)), .d (.v (.int .i64 (Req.a r))), .d (.v (.int .i64 (Req.b r))), .d (.v (.int .i64 (Req.ver r))), .d (.v (.int .u64 (Req.vol r)))]), (1, .box [.d (.v (.int .i64 (0 : Int))), .d (.v (.int .i64 (0 : Int))), .d (.v (.int .i64 (0 : Int))), .d (.v (.int .i64 (0 : Int))), .d (.v (.slice none 0 0))]), (2, .box [.d (.v (.bool (Flds.ids f))), .d (.v (.bool (Flds.a f))), .d (.v (.bool (Flds.b f))), .d (.v (.bool (Flds.ver f))), .d (.v (.bool (Flds.vol f)))])] 3)) := by kernel_rfl

theorem t19e (r : Req) (f : Flds) : @Eq (Out (TyTup [.resp])) (aexec Tryz.prog codes sigs Tryz.f19 (pureFin [.resp]) 0 ⟨[], false⟩ 300 true (rg Tryz.f19 18) (E19 r f)) (bif Flds.b f then bif Req.a r == Req.b r then .need ((True ∧ True) ∧ (True ∧ True) ∧ True) (.callP 71 [Sigma.mk .int (1 : Int), Sigma.mk .int (0 : Int)] [.resp] fun (x : Resp) => .need (True ∧ True ∧ True ∧ True ∧ True ∧ True) (.ret x)) else bif Flds.vol f then .need ((True ∧ True ∧ True ∧ True ∧ True ∧ True ∧ True) ∧ True) (.callP 16 [⟨.req, r⟩] [.int, .int] fun (x : Int × Int) => .need ((True ∧ True) ∧ (True ∧ True) ∧ True) (.callP 71 [Sigma.mk .int (Prod.snd x), Sigma.mk .int (0 : Int)] [.resp] fun (x : Resp) => .need (True ∧ True ∧ True ∧ True ∧ True ∧ True) (.ret x))) else .need (True ∧ True ∧ True ∧ True ∧ True ∧ True) (.ret (Resp.mk (0 : Int) (0 : Int) (0 : Int) (0 : Int) [])) else bif Flds.vol f then .need ((True ∧ True ∧ True ∧ True ∧ True ∧ True ∧ True) ∧ True) (.callP 16 [⟨.req, r⟩] [.int, .int] fun (x : Int × Int) => .need ((True ∧ True) ∧ (True ∧ True) ∧ True) (.callP 71 [Sigma.mk .int (Prod.snd x), Sigma.mk .int (0 : Int)] [.resp] fun (x : Resp) => .need (True ∧ True ∧ True ∧ True ∧ True ∧ True) (.ret x))) else .need (True ∧ True ∧ True ∧ True ∧ True ∧ True) (.ret (Resp.mk (0 : Int) (0 : Int) (0 : Int) (0 : Int) []))) := by kernel_rfl

theorem t19p0 (d : Deck) (r : Req) : @Eq (Out (TyTup [.resp])) (aexec Tryz.prog codes sigs Tryz.f19 (pureFin [.resp]) 0 ⟨[9], false⟩ 300 true (rg Tryz.f19 7) (C19 d r ⟨true, false, false, false, false⟩)) (bif Req.a r != (0 : Int) then .need ((True ∧ True) ∧ (True ∧ True) ∧ True) (.callP 71 [Sigma.mk .int (151 : Int), Sigma.mk .int (0 : Int)] [.resp] fun (x : Resp) => .need (True ∧ True ∧ True ∧ True ∧ True ∧ True) (.ret x)) else bif Req.b r != (0 : Int) then .need ((True ∧ True) ∧ (True ∧ True) ∧ True) (.callP 71 [Sigma.mk .int (151 : Int), Sigma.mk .int (0 : Int)] [.resp] fun (x : Resp) => .need (True ∧ True ∧ True ∧ True ∧ True ∧ True) (.ret x)) else bif Req.ver r != (0 : Int) then .need ((True ∧ True) ∧ (True ∧ True) ∧ True) (.callP 71 [Sigma.mk .int (151 : Int), Sigma.mk .int (0 : Int)] [.resp] fun (x : Resp) => .need (True ∧ True ∧ True ∧ True ∧ True ∧ True) (.ret x)) else bif Req.vol r != (0 : Int) then .need ((True ∧ True) ∧ (True ∧ True) ∧ True) (.callP 71 [Sigma.mk .int (151 : Int), Sigma.mk .int (0 : Int)] [.resp] fun (x : Resp) => .need (True ∧ True ∧ True ∧ True ∧ True ∧ True) (.ret x)) else .stop (rg Tryz.f19 9) (mkS 132 [(2, .ptr 0 0), (3, .ptr 1 0), (4, .ptr 2 0), (6, .ptr 3 0)] [(0, .box [.d (.sl .flt (Deck.borders d)), .d (.sl .plate (Deck.plates d)), .d (.sl .rack (Deck.racks d)), .d (.v (.int .i64 (Deck.arms d)))]), (1, .box [.d (.v (.int .i64 (Req.kind r))), .d (.sl .int (Req.ids r)), .d (.v (.int .i64 (Req.a r))), .d (.v (.int .i64 (Req.b r))), .d (.v (.int .i64 (Req.ver r))), .d (.v (.int .u64 (Req.vol r)))]), (2, .box [.d (.v (.int .i64 (0 : Int))), .d (.v (.int .i64 (0 : Int))), .d (.v (.int .i64 (0 : Int))), .d (.v (.int .i64 (0 : Int))), .d (.v (.slice none 0 0))]), (3, .box [.d (.v (.bool true)), .d (.v (.bool false)), .d (.v (.bool false)), .d (.v (.bool false)), .d (.v (.bool false))])] 4)) := by kernel_rfl

theorem t19p1 (d : Deck) (r : Req) : @Eq (Out (TyTup [.resp])) (aexec Tryz.prog codes sigs Tryz.f19 (pureFin [.resp]) 0 ⟨[9], false⟩ 300 true (rg Tryz.f19 7) (C19 d r ⟨false, true, true, false, true⟩)) (bif decide ((↑(List.length (Req.ids r)) : Int) > (0 : Int)) then .need ((True ∧ True) ∧ (True ∧ True) ∧ True) (.callP 71 [Sigma.mk .int (151 : Int), Sigma.mk .int (0 : Int)] [.resp] fun (x : Resp) => .need (True ∧ True ∧ True ∧ True ∧ True ∧ True) (.ret x)) else bif Req.ver r != (0 : Int) then .need ((True ∧ True) ∧ (True ∧ True) ∧ True) (.callP 71 [Sigma.mk .int (151 : Int), Sigma.mk .int (0 : Int)] [.resp] fun (x : Resp) => .need (True ∧ True ∧ True ∧ True ∧ True ∧ True) (.ret x)) else .stop (rg Tryz.f19 9) (mkS 132 [(2, .ptr 0 0), (3, .ptr 1 0), (4, .ptr 2 0), (6, .ptr 3 0)] [(0, .box [.d (.sl .flt (Deck.borders d)), .d (.sl .plate (Deck.plates d)), .d (.sl .rack (Deck.racks d)), .d (.v (.int .i64 (Deck.arms d)))]), (1, .box [.d (.v (.int .i64 (Req.kind r))), .d (.sl .int (Req.ids r)), .d (.v (.int .i64 (Req.a r))), .d (.v (.int .i64 (Req.b r))), .d (.v (.int .i64 (Req.ver r))), .d (.v (.int .u64 (Req.vol r)))]), (2, .box [.d (.v (.int .i64 (0 : Int))), .d (.v (.int .i64 (0 : Int))), .d (.v (.int .i64 (0 : Int))), .d (.v (.int .i64 (0 : Int))), .d (.v (.slice none 0 0))]), (3, .box [.d (.v (.bool false)), .d (.v (.bool true)), .d (.v (.bool true)), .d (.v (.bool false)), .d (.v (.bool true))])] 4)) := by kernel_rfl

theorem t19p2 (d : Deck) (r : Req) : @Eq (Out (TyTup [.resp])) (aexec Tryz.prog codes sigs Tryz.f19 (pureFin [.resp]) 0 ⟨[9], false⟩ 300 true (rg Tryz.f19 7) (C19 d r ⟨false, true, false, false, true⟩)) (bif decide ((↑(List.length (Req.ids r)) : Int) > (0 : Int)) then .need ((True ∧ True) ∧ (True ∧ True) ∧ True) (.callP 71 [Sigma.mk .int (151 : Int), Sigma.mk .int (0 : Int)] [.resp] fun (x : Resp) => .need (True ∧ True ∧ True ∧ True ∧ True ∧ True) (.ret x)) else bif Req.b r != (0 : Int) then .need ((True ∧ True) ∧ (True ∧ True) ∧ True) (.callP 71 [Sigma.mk .int (151 : Int), Sigma.mk .int (0 : Int)] [.resp] fun (x : Resp) => .need (True ∧ True ∧ True ∧ True ∧ True ∧ True) (.ret x)) else bif Req.ver r != (0 : Int) then .need ((True ∧ True) ∧ (True ∧ True) ∧ True) (.callP 71 [Sigma.mk .int (151 : Int), Sigma.mk .int (0 : Int)] [.resp] fun (x : Resp) => .need (True ∧ True ∧ True ∧ True ∧ True ∧ True) (.ret x)) else .stop (rg Tryz.f19 9) (mkS 132 [(2, .ptr 0 0), (3, .ptr 1 0), (4, .ptr 2 0), (6, .ptr 3 0)] [(0, .box [.d (.sl .flt (Deck.borders d)), .d (.sl .plate (Deck.plates d)), .d (.sl .rack (Deck.racks d)), .d (.v (.int .i64 (Deck.arms d)))]), (1, .box [.d (.v (.int .i64 (Req.kind r))), .d (.sl .int (Req.ids r)), .d (.v (.int .i64 (Req.a r))), .d (.v (.int .i64 (Req.b r))), .d (.v (.int .i64 (Req.ver r))), .d (.v (.int .u64 (Req.vol r)))]), (2, .box [.d (.v (.int .i64 (0 : Int))), .d (.v (.int .i64 (0 : Int))), .d (.v (.int .i64 (0 : Int))), .d (.v (.int .i64 (0 : Int))), .d (.v (.slice none 0 0))]), (3, .box [.d (.v (.bool false)), .d (.v (.bool true)), .d (.v (.bool false)), .d (.v (.bool false)), .d (.v (.bool true))])] 4)) := by kernel_rfl

theorem t19p3 (d : Deck) (r : Req) : @Eq (Out (TyTup [.resp])) (aexec Tryz.prog codes sigs Tryz.f19 (pureFin [.resp]) 0 ⟨[9], false⟩ 300 true (rg Tryz.f19 7) (C19 d r ⟨false, true, false, false, false⟩)) (bif decide ((↑(List.length (Req.ids r)) : Int) > (0 : Int)) then .need ((True ∧ True) ∧ (True ∧ True) ∧ True) (.callP 71 [Sigma.mk .int (151 : Int), Sigma.mk .int (0 : Int)] [.resp] fun (x : Resp) => .need (True ∧ True ∧ True ∧ True ∧ True ∧ True) (.ret x)) else bif Req.b r != (0 : Int) then .need ((True ∧ True) ∧ (True ∧ True) ∧ True) (.callP 71 [Sigma.mk .int (151 : Int), Sigma.mk .int (0 : Int)] [.resp] fun (x : Resp) => .need (True ∧ True ∧ True ∧ True ∧ True ∧ True) (.ret x)) else bif Req.ver r != (0 : Int) then .need ((True ∧ True) ∧ (True ∧ True) ∧ True) (.callP 71 [Sigma.mk .int (151 : Int), Sigma.mk .int (0 : Int)] [.resp] fun (x : Resp) => .need (True ∧ True ∧ True ∧ True ∧ True ∧ True) (.ret x)) else bif Req.vol r != (0 : Int) then .need ((True ∧ True) ∧ (True ∧ True) ∧ True) (.callP 71 [Sigma.mk .int (151 : Int), Sigma.mk .int (0 : Int)] [.resp] fun (x : Resp) => .need (True ∧ True ∧ True ∧ True ∧ True ∧ True) (.ret x)) else .stop (rg Tryz.f19 9) (mkS 132 [(2, .ptr 0 0), (3, .ptr 1 0), (4, .ptr 2 0), (6, .ptr 3 0)] [(0, .box [.d (.sl .flt (Deck.borders d)), .d (.sl .plate (Deck.plates d)), .d (.sl .rack (Deck.racks d)), .d (.v (.int .i64 (Deck.arms d)))]), (1, .box [.d (.v (.int .i64 (Req.kind r))), .d (.sl .int (Req.ids r)), .d (.v (.int .i64 (Req.a r))), .d (.v (.int .i64 (Req.b r))), .d (.v (.int .i64 (Req.ver r))), .d (.v (.int .u64 (Req.vol r)))]), (2, .box [.d (.v (.int .i64 (0 : Int))), .d (.v (.int .i64 (0 : Int))), .d (.v (.int .i64 (0 : Int))), .d (.v (.int .i64 (0 : Int))), .d (.v (.slice none 0 0))]), (3, .box [.d (.v (.bool false)), .d (.v (.bool true)), .d (.v (.bool false)), .d (.v (.bool false)), .d (.v (.bool false))])] 4)) := by kernel_rfl

theorem t19p4 (d : Deck) (r : Req) : @Eq (Out (TyTup [.resp])) (aexec Tryz.prog codes sigs Tryz.f19 (pureFin [.resp]) 0 ⟨[9], false⟩ 300 true (rg Tryz.f19 7) (C19 d r ⟨false, true, false, true, false⟩)) (bif decide ((↑(List.length (Req.ids r)) : Int) > (0 : Int)) then .need ((True ∧ True) ∧ (True ∧ True) ∧ True) (.callP 71 [Sigma.mk .int (151 : Int), Sigma.mk .int (0 : Int)] [.resp] fun (x : Resp) => .need (True ∧ True ∧ True ∧ True ∧ True ∧ True) (.ret x)) else bif Req.b r != (0 : Int) then .need ((True ∧ True) ∧ (True ∧ True) ∧ True) (.callP 71 [Sigma.mk .int (151 : Int), Sigma.mk .int (0 : Int)] [.resp] fun (x : Resp) => .need (True ∧ True ∧ True ∧ True ∧ True ∧ True) (.ret x)) else bif Req.vol r != (0 : Int) then .need ((True ∧ True) ∧ (True ∧ True) ∧ True) (.callP 71 [Sigma.mk .int (151 : Int), Sigma.mk .int (0 : Int)] [.resp] fun (x : Resp) => .need (True ∧ True ∧ True ∧ True ∧ True ∧ True) (.ret x)) else .stop (rg Tryz.f19 9) (mkS 132 [(2, .ptr 0 0), (3, .ptr 1 0), (4, .ptr 2 0), (6, .ptr 3 0)] [(0, .box [.d (.sl .flt (Deck.borders d)), .d (.sl .plate (Deck.plates d)), .d (.sl .rack (Deck.racks d)), .d (.v (.int .i64 (Deck.arms d)))]), (1, .box [.d (.v (.int .i64 (Req.kind r))), .d (.sl .int (Req.ids r)), .d (.v (.int .i64 (Req.a r))), .d (.v (.int .i64 (Req.b r))), .d (.v (.int .i64 (Req.ver r))), .d (.v (.int .u64 (Req.vol r)))]), (2, .box [.d (.v (.int .i64 (0 : Int))), .d (.v (.int .i64 (0 : Int))), .d (.v (.int .i64 (0 : Int))), .d (.v (.int .i64 (0 : Int))), .d (.v (.slice none 0 0))]), (3, .box [.d (.v (.bool false)), .d (.v (.bool true)), .d (.v (.bool false)), .d (.v (.bool true)), .d (.v (.bool false))])] 4)) := by kernel_rfl

theorem t19p5 (d : Deck) (r : Req) : @Eq (Out (TyTup [.resp])) (aexec Tryz.prog codes sigs Tryz.f19 (pureFin [.resp]) 0 ⟨[9], false⟩ 300 true (rg Tryz.f19 7) (C19 d r ⟨false, false, false, false, false⟩)) (bif decide ((↑(List.length (Req.ids r)) : Int) > (0 : Int)) then .need ((True ∧ True) ∧ (True ∧ True) ∧ True) (.callP 71 [Sigma.mk .int (151 : Int), Sigma.mk .int (0 : Int)] [.resp] fun (x : Resp) => .need (True ∧ True ∧ True ∧ True ∧ True ∧ True) (.ret x)) else bif Req.a r != (0 : Int) then .need ((True ∧ True) ∧ (True ∧ True) ∧ True) (.callP 71 [Sigma.mk .int (151 : Int), Sigma.mk .int (0 : Int)] [.resp] fun (x : Resp) => .need (True ∧ True ∧ True ∧ True ∧ True ∧ True) (.ret x)) else bif Req.b r != (0 : Int) then .need ((True ∧ True) ∧ (True ∧ True) ∧ True) (.callP 71 [Sigma.mk .int (151 : Int), Sigma.mk .int (0 : Int)] [.resp] fun (x : Resp) => .need (True ∧ True ∧ True ∧ True ∧ True ∧ True) (.ret x)) else bif Req.ver r != (0 : Int) then .need ((True ∧ True) ∧ (True ∧ True) ∧ True) (.callP 71 [Sigma.mk .int (151 : Int), Sigma.mk .int (0 : Int)] [.resp] fun (x : Resp) => .need (True ∧ True ∧ True ∧ True ∧ True ∧ True) (.ret x)) else bif Req.vol r != (0 : Int) then .need ((True ∧ True) ∧ (True ∧ True) ∧ True) (.callP 71 [Sigma.mk .int (151 : Int), Sigma.mk .int (0 : Int)] [.resp] fun (x : Resp) => .need (True ∧ True ∧ True ∧ True ∧ True ∧ True) (.ret x)) else .stop (rg Tryz.f19 9) (mkS 132 [(2, .ptr 0 0), (3, .ptr 1 0), (4, .ptr 2 0), (6, .ptr 3 0)] [(0, .box [.d (.sl .flt (Deck.borders d)), .d (.sl .plate (Deck.plates d)), .d (.sl .rack (Deck.racks d)), .d (.v (.int .i64 (Deck.arms d)))]), (1, .box [.d (.v (.int .i64 (Req.kind r))), .d (.sl .int (Req.ids r)), .d (.v (.int .i64 (Req.a r))), .d (.v (.int .i64 (Req.b r))), .d (.v (.int .i64 (Req.ver r))), .d (.v (.int .u64 (Req.vol r)))]), (2, .box [.d (.v (.int .i64 (0 : Int))), .d (.v (.int .i64 (0 : Int))), .d (.v (.int .i64 (0 : Int))), .d (.v (.int .i64 (0 : Int))), .d (.v (.slice none 0 0))]), (3, .box [.d (.v (.bool false)), .d (.v (.bool false)), .d (.v (.bool false)), .d (.v (.bool false)), .d (.v (.bool false))])] 4)) := by kernel_rfl

end Go.Proofs.Wn

/- A request held against the deck: the other Check. (Own work.) -/
namespace Go.Proofs.Wn
open Go Go.VL
open Zn (zoneS)

theorem c70 (d : Deck) : Pure Tryz.prog 70 [⟨.deck, d⟩] [.int] (zoneS d) := ofT Tryz.func70 (t70 d) (by kernel_rfl) (by kernel_rfl) fun _ => ⟨⟨Zn.T5', trivial⟩, _, Zn.c46 d, T2', rfl⟩

theorem fl_b (k : Int) : (flS k).b = true → (k == 7) = false := by
  intro h
  cases h7 : k == 7 with
  | false => rfl
  | true =>
    have : k = 7 := by simpa using h7
    subst this
    exact absurd h (by decide)

theorem end19 {r : Req} (h0 : 0 ≤ r.vol) (hv : r.vol < 18446744073709551616) (f : Flds) {A2 : List Item → AS → Prop} {y : Resp} (hy : endR r f = y) (hA2 : Closed Tryz.prog codes sigs Tryz.f19 (pureFin [.resp]) (fun x => x = y) 0 A2) : A2 (rg Tryz.f19 18) (E19 r f) := by
  refine hA2.go (t19e r f) ?_
  unfold endR at hy
  refine sat_bif (fun h => ?_) (fun h => ?_)
  · rw [h] at hy
    refine sat_bif (fun h2 => ?_) (fun h2 => ?_)
    · rw [h2] at hy; exact ⟨⟨T2', T2', trivial⟩, _, c71 1 0, T6', hy⟩
    · rw [h2] at hy
      refine sat_bif (fun h3 => ?_) (fun h3 => ?_)
      · rw [h3] at hy; exact ⟨⟨T7', trivial⟩, _, c16 h0 hv, ⟨T2', T2', trivial⟩, _, c71 _ 0, T6', hy⟩
      · rw [h3] at hy; exact ⟨T6', hy⟩
  · rw [h] at hy
    refine sat_bif (fun h3 => ?_) (fun h3 => ?_)
    · rw [h3] at hy; exact ⟨⟨T7', trivial⟩, _, c16 h0 hv, ⟨T2', T2', trivial⟩, _, c71 _ 0, T6', hy⟩
    · rw [h3] at hy; exact ⟨T6', hy⟩

theorem mid19 {d : Deck} {r : Req} (h0 : 0 ≤ r.vol) (hv : r.vol < 18446744073709551616) (f : Flds) (hb7 : f.b = true → (r.kind == 7) = false) {A2 : List Item → AS → Prop} {y : Resp} (hy : partsR d r f = y) (hA2 : Closed Tryz.prog codes sigs Tryz.f19 (pureFin [.resp]) (fun x => x = y) 0 A2)
    (w : Int) (hw : w = wantK r) : A2 (rg Tryz.f19 14) (D19 d r f w) := by
  have kb : (f.a && (kindS d r.a != wantK r)) = false → A2 (rg Tryz.f19 16) (C19 d r f) := by
    intro ha
    rw [partsR, ha] at hy
    refine hA2.go (t19d d r f) (sat_bif (fun h => ?_) (fun h => ?_))
    · rw [h] at hy
      have hk : wantK r = 1 := by unfold wantK; rw [hb7 h]; rfl
      rw [hk] at hy
      refine ⟨⟨Zn.T5', T2', trivial⟩, _, c74 d r.b, sat_bif (fun h2 => ?_) (fun h2 => ?_)⟩
      · rw [h2] at hy; exact ⟨⟨T2', T2', trivial⟩, _, c71 3 r.b, T6', hy⟩
      · rw [h2] at hy; exact end19 h0 hv f hy hA2
    · rw [h] at hy; exact end19 h0 hv f hy hA2
  refine hA2.go (t19c d r f w) (sat_bif (fun h => ?_) (fun h => ?_))
  · refine ⟨⟨Zn.T5', T2', trivial⟩, _, c74 d r.a, sat_bif (fun h2 => ?_) (fun h2 => ?_)⟩
    · rw [partsR, h, ← hw, h2] at hy; exact ⟨⟨T2', T2', trivial⟩, _, c71 3 r.a, T6', hy⟩
    · exact kb (by rw [h, ← hw, h2]; rfl)
  · exact kb (by rw [h]; rfl)

theorem nine {d : Deck} {r : Req} (h0 : 0 ≤ r.vol) (hv : r.vol < 18446744073709551616) (f : Flds) (hb7 : f.b = true → (r.kind == 7) = false) {A2 : List Item → AS → Prop} {y : Resp} (hy : (bif f.ids then batchS d r.ids else partsR d r f) = y) (hA2 : Closed Tryz.prog codes sigs Tryz.f19 (pureFin [.resp]) (fun x => x = y) 0 A2) : A2 (rg Tryz.f19 9) (C19 d r f) := by
  refine hA2.go (t19b d r f) (sat_bif (fun h => ?_) (fun h => ?_))
  · rw [h] at hy; exact ⟨⟨Zn.T5', T2', trivial⟩, _, c73 d r.ids, T6', hy⟩
  · rw [h] at hy
    exact sat_bif (fun h7 => mid19 h0 hv f hb7 hy hA2 2 (by unfold wantK; rw [h7]; rfl)) (fun h7 => mid19 h0 hv f hb7 hy hA2 1 (by unfold wantK; rw [h7]; rfl))
def patS : List Flds := [⟨true, false, false, false, false⟩, ⟨false, true, true, false, true⟩, ⟨false, true, false, false, true⟩, ⟨false, true, false, false, false⟩, ⟨false, true, false, true, false⟩, ⟨false, false, false, false, false⟩]
theorem fl_pat (k : Int) : flS k ∈ patS := by
  unfold flS
  generalize (k == 1) = b1
  generalize (k == 2) = b2
  generalize (k == 4) = b4
  generalize (k == 5) = b5
  generalize (k == 6) = b6
  generalize (k == 7) = b7
  generalize (k == 9) = b9
  generalize (k == 10) = b10
  revert b1 b2 b4 b5 b6 b7 b9 b10
  decide
theorem w_ids {g f : Flds} (h : g.ids = true) (h2 : f.ids = false) : withinS g f = false := by
  unfold withinS; rw [h, h2]; simp
theorem w_a {g f : Flds} (h : g.a = true) (h2 : f.a = false) : withinS g f = false := by
  unfold withinS; rw [h, h2]; simp
theorem w_b {g f : Flds} (h : g.b = true) (h2 : f.b = false) : withinS g f = false := by
  unfold withinS; rw [h, h2]; simp
theorem w_ver {g f : Flds} (h : g.ver = true) (h2 : f.ver = false) : withinS g f = false := by
  unfold withinS; rw [h, h2]; simp
theorem w_vol {g f : Flds} (h : g.vol = true) (h2 : f.vol = false) : withinS g f = false := by
  unfold withinS; rw [h, h2]; simp
theorem w_t {g f : Flds} (h1 : g.ids = false ∨ f.ids = true) (h2 : g.a = false ∨ f.a = true) (h3 : g.b = false ∨ f.b = true) (h4 : g.ver = false ∨ f.ver = true) (h5 : g.vol = false ∨ f.vol = true) : withinS g f = true := by
  unfold withinS
  rcases h1 with h | h <;> rw [h] <;> rcases h2 with h | h <;> rw [h] <;> rcases h3 with h | h <;> rw [h] <;> rcases h4 with h | h <;> rw [h] <;> rcases h5 with h | h <;> rw [h] <;> simp
theorem sev0 {d : Deck} {r : Req} (h0 : 0 ≤ r.vol) (hv : r.vol < 18446744073709551616) (hb7 : (⟨true, false, false, false, false⟩ : Flds).b = true → (r.kind == 7) = false) {A2 : List Item → AS → Prop} {y : Resp} (hy : (bif !withinS (hasS r) ⟨true, false, false, false, false⟩ then errR 151 0 else bif (⟨true, false, false, false, false⟩ : Flds).ids then batchS d r.ids else partsR d r ⟨true, false, false, false, false⟩) = y) (hA2 : Closed Tryz.prog codes sigs Tryz.f19 (pureFin [.resp]) (fun x => x = y) 0 A2) : A2 (rg Tryz.f19 7) (C19 d r ⟨true, false, false, false, false⟩) := by
  refine hA2.go (t19p0 d r) ?_
  refine sat_bif (fun h => ?_) (fun h_a => ?_)
  · rw [w_a (g := hasS r) h rfl] at hy; exact ⟨⟨T2', T2', trivial⟩, _, c71 151 0, T6', hy⟩
  refine sat_bif (fun h => ?_) (fun h_b => ?_)
  · rw [w_b (g := hasS r) h rfl] at hy; exact ⟨⟨T2', T2', trivial⟩, _, c71 151 0, T6', hy⟩
  refine sat_bif (fun h => ?_) (fun h_ver => ?_)
  · rw [w_ver (g := hasS r) h rfl] at hy; exact ⟨⟨T2', T2', trivial⟩, _, c71 151 0, T6', hy⟩
  refine sat_bif (fun h => ?_) (fun h_vol => ?_)
  · rw [w_vol (g := hasS r) h rfl] at hy; exact ⟨⟨T2', T2', trivial⟩, _, c71 151 0, T6', hy⟩
  rw [w_t (g := hasS r) (.inr rfl) (.inl h_a) (.inl h_b) (.inl h_ver) (.inl h_vol)] at hy
  exact nine h0 hv _ hb7 hy hA2
theorem sev1 {d : Deck} {r : Req} (h0 : 0 ≤ r.vol) (hv : r.vol < 18446744073709551616) (hb7 : (⟨false, true, true, false, true⟩ : Flds).b = true → (r.kind == 7) = false) {A2 : List Item → AS → Prop} {y : Resp} (hy : (bif !withinS (hasS r) ⟨false, true, true, false, true⟩ then errR 151 0 else bif (⟨false, true, true, false, true⟩ : Flds).ids then batchS d r.ids else partsR d r ⟨false, true, true, false, true⟩) = y) (hA2 : Closed Tryz.prog codes sigs Tryz.f19 (pureFin [.resp]) (fun x => x = y) 0 A2) : A2 (rg Tryz.f19 7) (C19 d r ⟨false, true, true, false, true⟩) := by
  refine hA2.go (t19p1 d r) ?_
  refine sat_bif (fun h => ?_) (fun h_ids => ?_)
  · rw [w_ids (g := hasS r) h rfl] at hy; exact ⟨⟨T2', T2', trivial⟩, _, c71 151 0, T6', hy⟩
  refine sat_bif (fun h => ?_) (fun h_ver => ?_)
  · rw [w_ver (g := hasS r) h rfl] at hy; exact ⟨⟨T2', T2', trivial⟩, _, c71 151 0, T6', hy⟩
  rw [w_t (g := hasS r) (.inl h_ids) (.inr rfl) (.inr rfl) (.inl h_ver) (.inr rfl)] at hy
  exact nine h0 hv _ hb7 hy hA2
theorem sev2 {d : Deck} {r : Req} (h0 : 0 ≤ r.vol) (hv : r.vol < 18446744073709551616) (hb7 : (⟨false, true, false, false, true⟩ : Flds).b = true → (r.kind == 7) = false) {A2 : List Item → AS → Prop} {y : Resp} (hy : (bif !withinS (hasS r) ⟨false, true, false, false, true⟩ then errR 151 0 else bif (⟨false, true, false, false, true⟩ : Flds).ids then batchS d r.ids else partsR d r ⟨false, true, false, false, true⟩) = y) (hA2 : Closed Tryz.prog codes sigs Tryz.f19 (pureFin [.resp]) (fun x => x = y) 0 A2) : A2 (rg Tryz.f19 7) (C19 d r ⟨false, true, false, false, true⟩) := by
  refine hA2.go (t19p2 d r) ?_
  refine sat_bif (fun h => ?_) (fun h_ids => ?_)
  · rw [w_ids (g := hasS r) h rfl] at hy; exact ⟨⟨T2', T2', trivial⟩, _, c71 151 0, T6', hy⟩
  refine sat_bif (fun h => ?_) (fun h_b => ?_)
  · rw [w_b (g := hasS r) h rfl] at hy; exact ⟨⟨T2', T2', trivial⟩, _, c71 151 0, T6', hy⟩
  refine sat_bif (fun h => ?_) (fun h_ver => ?_)
  · rw [w_ver (g := hasS r) h rfl] at hy; exact ⟨⟨T2', T2', trivial⟩, _, c71 151 0, T6', hy⟩
  rw [w_t (g := hasS r) (.inl h_ids) (.inr rfl) (.inl h_b) (.inl h_ver) (.inr rfl)] at hy
  exact nine h0 hv _ hb7 hy hA2
theorem sev3 {d : Deck} {r : Req} (h0 : 0 ≤ r.vol) (hv : r.vol < 18446744073709551616) (hb7 : (⟨false, true, false, false, false⟩ : Flds).b = true → (r.kind == 7) = false) {A2 : List Item → AS → Prop} {y : Resp} (hy : (bif !withinS (hasS r) ⟨false, true, false, false, false⟩ then errR 151 0 else bif (⟨false, true, false, false, false⟩ : Flds).ids then batchS d r.ids else partsR d r ⟨false, true, false, false, false⟩) = y) (hA2 : Closed Tryz.prog codes sigs Tryz.f19 (pureFin [.resp]) (fun x => x = y) 0 A2) : A2 (rg Tryz.f19 7) (C19 d r ⟨false, true, false, false, false⟩) := by
  refine hA2.go (t19p3 d r) ?_
  refine sat_bif (fun h => ?_) (fun h_ids => ?_)
  · rw [w_ids (g := hasS r) h rfl] at hy; exact ⟨⟨T2', T2', trivial⟩, _, c71 151 0, T6', hy⟩
  refine sat_bif (fun h => ?_) (fun h_b => ?_)
  · rw [w_b (g := hasS r) h rfl] at hy; exact ⟨⟨T2', T2', trivial⟩, _, c71 151 0, T6', hy⟩
  refine sat_bif (fun h => ?_) (fun h_ver => ?_)
  · rw [w_ver (g := hasS r) h rfl] at hy; exact ⟨⟨T2', T2', trivial⟩, _, c71 151 0, T6', hy⟩
  refine sat_bif (fun h => ?_) (fun h_vol => ?_)
  · rw [w_vol (g := hasS r) h rfl] at hy; exact ⟨⟨T2', T2', trivial⟩, _, c71 151 0, T6', hy⟩
  rw [w_t (g := hasS r) (.inl h_ids) (.inr rfl) (.inl h_b) (.inl h_ver) (.inl h_vol)] at hy
  exact nine h0 hv _ hb7 hy hA2
theorem sev4 {d : Deck} {r : Req} (h0 : 0 ≤ r.vol) (hv : r.vol < 18446744073709551616) (hb7 : (⟨false, true, false, true, false⟩ : Flds).b = true → (r.kind == 7) = false) {A2 : List Item → AS → Prop} {y : Resp} (hy : (bif !withinS (hasS r) ⟨false, true, false, true, false⟩ then errR 151 0 else bif (⟨false, true, false, true, false⟩ : Flds).ids then batchS d r.ids else partsR d r ⟨false, true, false, true, false⟩) = y) (hA2 : Closed Tryz.prog codes sigs Tryz.f19 (pureFin [.resp]) (fun x => x = y) 0 A2) : A2 (rg Tryz.f19 7) (C19 d r ⟨false, true, false, true, false⟩) := by
  refine hA2.go (t19p4 d r) ?_
  refine sat_bif (fun h => ?_) (fun h_ids => ?_)
  · rw [w_ids (g := hasS r) h rfl] at hy; exact ⟨⟨T2', T2', trivial⟩, _, c71 151 0, T6', hy⟩
  refine sat_bif (fun h => ?_) (fun h_b => ?_)
  · rw [w_b (g := hasS r) h rfl] at hy; exact ⟨⟨T2', T2', trivial⟩, _, c71 151 0, T6', hy⟩
  refine sat_bif (fun h => ?_) (fun h_vol => ?_)
  · rw [w_vol (g := hasS r) h rfl] at hy; exact ⟨⟨T2', T2', trivial⟩, _, c71 151 0, T6', hy⟩
  rw [w_t (g := hasS r) (.inl h_ids) (.inr rfl) (.inl h_b) (.inr rfl) (.inl h_vol)] at hy
  exact nine h0 hv _ hb7 hy hA2
theorem sev5 {d : Deck} {r : Req} (h0 : 0 ≤ r.vol) (hv : r.vol < 18446744073709551616) (hb7 : (⟨false, false, false, false, false⟩ : Flds).b = true → (r.kind == 7) = false) {A2 : List Item → AS → Prop} {y : Resp} (hy : (bif !withinS (hasS r) ⟨false, false, false, false, false⟩ then errR 151 0 else bif (⟨false, false, false, false, false⟩ : Flds).ids then batchS d r.ids else partsR d r ⟨false, false, false, false, false⟩) = y) (hA2 : Closed Tryz.prog codes sigs Tryz.f19 (pureFin [.resp]) (fun x => x = y) 0 A2) : A2 (rg Tryz.f19 7) (C19 d r ⟨false, false, false, false, false⟩) := by
  refine hA2.go (t19p5 d r) ?_
  refine sat_bif (fun h => ?_) (fun h_ids => ?_)
  · rw [w_ids (g := hasS r) h rfl] at hy; exact ⟨⟨T2', T2', trivial⟩, _, c71 151 0, T6', hy⟩
  refine sat_bif (fun h => ?_) (fun h_a => ?_)
  · rw [w_a (g := hasS r) h rfl] at hy; exact ⟨⟨T2', T2', trivial⟩, _, c71 151 0, T6', hy⟩
  refine sat_bif (fun h => ?_) (fun h_b => ?_)
  · rw [w_b (g := hasS r) h rfl] at hy; exact ⟨⟨T2', T2', trivial⟩, _, c71 151 0, T6', hy⟩
  refine sat_bif (fun h => ?_) (fun h_ver => ?_)
  · rw [w_ver (g := hasS r) h rfl] at hy; exact ⟨⟨T2', T2', trivial⟩, _, c71 151 0, T6', hy⟩
  refine sat_bif (fun h => ?_) (fun h_vol => ?_)
  · rw [w_vol (g := hasS r) h rfl] at hy; exact ⟨⟨T2', T2', trivial⟩, _, c71 151 0, T6', hy⟩
  rw [w_t (g := hasS r) (.inl h_ids) (.inl h_a) (.inl h_b) (.inl h_ver) (.inl h_vol)] at hy
  exact nine h0 hv _ hb7 hy hA2
theorem seven {d : Deck} {r : Req} (h0 : 0 ≤ r.vol) (hv : r.vol < 18446744073709551616) {f : Flds} (hf : f ∈ patS) (hb7 : f.b = true → (r.kind == 7) = false) {A2 : List Item → AS → Prop} {y : Resp} (hy : (bif !withinS (hasS r) f then errR 151 0 else bif f.ids then batchS d r.ids else partsR d r f) = y) (hA2 : Closed Tryz.prog codes sigs Tryz.f19 (pureFin [.resp]) (fun x => x = y) 0 A2) : A2 (rg Tryz.f19 7) (C19 d r f) := by
  simp only [patS, List.mem_cons, List.not_mem_nil, or_false] at hf
  rcases hf with rfl | rfl | rfl | rfl | rfl | rfl
  · exact sev0 h0 hv hb7 hy hA2
  · exact sev1 h0 hv hb7 hy hA2
  · exact sev2 h0 hv hb7 hy hA2
  · exact sev3 h0 hv hb7 hy hA2
  · exact sev4 h0 hv hb7 hy hA2
  · exact sev5 h0 hv hb7 hy hA2
theorem c19 {d : Deck} {r : Req} (h0 : 0 ≤ r.vol) (hv : r.vol < 18446744073709551616) : Pure Tryz.prog 19 [⟨.deck, d⟩, ⟨.req, r⟩] [.resp] (checkR d r) :=
  Pure.of_closed (C := codes) (S := sigs) mixed Tryz.func19 (by kernel_rfl) (Nat.le_of_ble_eq_true (by kernel_rfl)) fun A hA => hA.go (t19 d r) (by
    have hy : ∃ y, checkR d r = y := ⟨_, rfl⟩
    obtain ⟨y, hy⟩ := hy
    rw [hy] at hA ⊢
    unfold checkR at hy
    refine ⟨⟨Zn.T5', trivial⟩, _, c70 d, sat_bif (fun h => ?_) (fun h => ?_)⟩
    · rw [h] at hy; exact ⟨⟨T2', T2', trivial⟩, _, c71 _ 0, T6', hy⟩
    rw [h] at hy
    refine sat_bif (fun h1 => ?_) (fun h1 => ?_)
    · rw [h1] at hy; exact ⟨⟨T2', T2', trivial⟩, _, c71 150 0, T6', hy⟩
    rw [h1] at hy
    refine sat_bif (fun h2 => ?_) (fun h2 => ?_)
    · rw [h2] at hy; exact ⟨⟨T2', T2', trivial⟩, _, c71 150 0, T6', hy⟩
    rw [h2] at hy
    exact ⟨⟨T2', trivial⟩, _, c72 _, seven h0 hv (fl_pat r.kind) (fl_b r.kind) hy hA⟩)

theorem c13 (d : Deck) (r : Req) : Pure Tryz.prog 13 [⟨.deck, d⟩, ⟨.req, r⟩] [.bool] (bif Zn.largeS d then true else decide ((r.ids.length : Int) > 100)) := ofT Tryz.func13 (t13 d r) (by kernel_rfl) (by kernel_rfl) fun _ => ⟨⟨Zn.T5', trivial⟩, _, Zn.c37 d, by
  cases Zn.largeS d <;> exact ⟨T2', rfl⟩⟩
end Go.Proofs.Wn

/- What a request must lock: contracts. (Own work.) -/
namespace Go.Proofs.Wn
open Go Go.VL Go.Proofs.Zn

theorem path_rise (d : Deck) (a b : Int) : Rise (pathR d a b).1 := by
  unfold pathR
  cases (spansS d [a, b]).2 != 0
  · exact lanes_rise _ _
  · exact .nil
theorem needR_rise (d : Deck) (l : List Int) : Rise (needsR d l).1 := by
  unfold needsR
  cases (spansS d l).2 != 0
  · exact needs_rise _ _
  · exact .nil
theorem path_len (d : Deck) (a b : Int) : (pathR d a b).1.length ≤ 24 := by
  unfold pathR
  cases h : (spansS d [a, b]).2 != 0
  · have h0 : (spansS d [a, b]).2 = 0 := by simpa using h
    obtain ⟨g1, g2, g3⟩ := spans_ok h0
    obtain ⟨x, y, e⟩ := two_some g3
    rw [e] at g2 ⊢
    exact lanes_len (spans_code h0) (way_ok (g2 x (by simp)) (g2 y (by simp)))
  · simp
theorem needR_len (d : Deck) (a : Int) : (needsR d [a]).1.length ≤ 24 := by
  unfold needsR
  cases h : (spansS d [a]).2 != 0
  · have h0 : (spansS d [a]).2 = 0 := by simpa using h
    obtain ⟨g1, g2, g3⟩ := spans_ok h0
    have := needs_len (spans_code h0) (l := (spansS d [a]).1) g2 []
    have h3 : (spansS d [a]).1.length = 1 := g3
    rw [h3] at this
    exact this
  · simp
theorem either_two {l : List Int} (hl : Rise l) (a b : Int) : eitherS l (setS [a, b]) = putS (putS l a) b := by
  refine rise_ext (either_rise hl) (put_rise (put_rise hl)) fun n => ?_
  rw [mem_either, mem_set, mem_put, mem_put]
  simp only [List.mem_cons, List.not_mem_nil, or_false]
  constructor
  · rintro (h | h | h)
    · exact .inr (.inr h)
    · exact .inr (.inl h)
    · exact .inl h
  · rintro (h | h | h)
    · exact .inr (.inr h)
    · exact .inr (.inl h)
    · exact .inl h
theorem one_rise (a : Int) : Rise [a] := put_rise (l := []) .nil
theorem either_one (l : List Int) (a : Int) : eitherS l [a] = putS l a := rfl

def mustS (d : Deck) (r : Req) : List Int := bif r.kind == 2 then setS r.ids else bif r.kind == 4 then putS (putS (pathR d r.a r.b).1 r.a) r.b else bif r.kind == 5 then putS (needsR d [r.a]).1 r.a else bif r.kind == 6 then putS (needsR d [r.a]).1 r.a else bif r.kind == 7 then putS (needsR d [r.a]).1 r.a else []
def mustR (d : Deck) (r : Req) : List Int := bif (checkR d r).err != 0 then [] else mustS d r
def locksR (d : Deck) (r : Req) (o : List Int) (h : Int) : List Int := bif (checkR d r).err != 0 then [] else bif r.kind == 1 then setS r.ids else bif r.kind == 3 then setS o else bif r.kind == 8 then (bif decide (h < 0) then [] else [h]) else bif r.kind == 9 then [r.a] else bif r.kind == 10 then [r.a] else mustS d r

theorem c75 {d : Deck} {r : Req} (h0 : 0 ≤ r.vol) (hv : r.vol < 18446744073709551616) : Pure Tryz.prog 75 [⟨.deck, d⟩, ⟨.req, r⟩] [.bool] ((checkR d r).err == 0) := ofT Tryz.func75 (t75 d r) (by kernel_rfl) (by kernel_rfl) fun _ => ⟨⟨Zn.T5', T7', trivial⟩, _, c18 h0 hv, T2', rfl⟩

theorem along_one {l : List Int} (hl : Rise l) (a : Int) : alongS true true true l [a] = putS l a := along_either hl (one_rise a)
theorem along_two {l : List Int} (hl : Rise l) (a b : Int) : alongS true true true l (setS [a, b]) = putS (putS l a) b := by rw [along_either hl (set_rise _), either_two hl]
theorem c76 {d : Deck} {r : Req} (hl : r.ids.length ≤ 1000) : Pure Tryz.prog 76 [⟨.deck, d⟩, ⟨.req, r⟩] [.sl .int] (mustS d r) :=
  ofT Tryz.func76 (t76 d r) (by kernel_rfl) (by kernel_rfl) fun _ => by
    unfold mustS
    have l1 := path_len d r.a r.b
    have l2 := needR_len d r.a
    have k (y : List Int) (hy : y = putS (needsR d [r.a]).1 r.a) : Pure Tryz.prog 134 [⟨.sl .int, (needsR d [r.a]).1⟩, ⟨.sl .int, [r.a]⟩] [.sl .int] y := hy ▸ (c147 (a := (needsR d [r.a]).1) (b := [r.a]) (by omega) (by simp)).eq (along_one (needR_rise d [r.a]) r.a)
    refine sat_bif (fun h => ?_) (fun h => ?_)
    · rw [h]; exact ⟨⟨T2', trivial⟩, _, c129 (by omega), T2', rfl⟩
    rw [h, cond_false]
    refine sat_bif (fun h => ?_) (fun h => ?_)
    · rw [h]; exact ⟨⟨Zn.T5', T2', T2', trivial⟩, _, c53 d r.a r.b, ⟨T2', T2', trivial⟩, ⟨T2', trivial⟩, _, c129 (by simp), ⟨T2', T2', trivial⟩, _, (c147 (by omega) (by have := either_len (a := []) (b := [r.a, r.b]); simp only [List.length_cons, List.length_nil] at this; show (eitherS [] [r.a, r.b]).length ≤ 400000; omega)).eq (along_two (path_rise d r.a r.b) r.a r.b), T2', rfl⟩
    rw [h, cond_false]
    refine sat_bif (fun h => ?_) (fun h => ?_)
    · refine sat_t h ?_
      rw [h]; exact ⟨⟨T2', trivial⟩, ⟨Zn.T5', T2', trivial⟩, _, c48 (by simp), ⟨T2', trivial⟩, ⟨T2', T2', trivial⟩, _, k _ rfl, T2', rfl⟩
    rw [h, cond_false]
    refine sat_bif (fun h => ?_) (fun h => ?_)
    · refine sat_t h ?_
      rw [h]; exact ⟨⟨T2', trivial⟩, ⟨Zn.T5', T2', trivial⟩, _, c48 (by simp), ⟨T2', trivial⟩, ⟨T2', T2', trivial⟩, _, k _ rfl, T2', rfl⟩
    rw [h, cond_false]
    refine sat_bif (fun h => ?_) (fun h => ?_)
    · rw [h]; exact ⟨⟨T2', trivial⟩, ⟨Zn.T5', T2', trivial⟩, _, c48 (by simp), ⟨T2', trivial⟩, ⟨T2', T2', trivial⟩, _, k _ rfl, T2', rfl⟩
    · rw [h]; exact ⟨T2', rfl⟩

theorem not_eq (e : Int) : (!(e == 0)) = (e != 0) := rfl
theorem c21 {d : Deck} {r : Req} (h0 : 0 ≤ r.vol) (hv : r.vol < 18446744073709551616) (hl : r.ids.length ≤ 1000) : Pure Tryz.prog 21 [⟨.deck, d⟩, ⟨.req, r⟩] [.sl .int] (mustR d r) :=
  ofT Tryz.func21 (t21 d r) (by kernel_rfl) (by kernel_rfl) fun _ => by
    refine ⟨⟨Zn.T5', T7', trivial⟩, _, c75 h0 hv, ?_⟩
    unfold mustR
    refine sat_bif (fun h => ?_) (fun h => ?_)
    · have h : ((checkR d r).err != 0) = true := h
      rw [h]; exact ⟨T2', rfl⟩
    · have h : ((checkR d r).err != 0) = false := h
      rw [h]; exact ⟨⟨Zn.T5', T7', trivial⟩, _, c76 hl, T2', rfl⟩
theorem c22 {d : Deck} {r : Req} (h0 : 0 ≤ r.vol) (hv : r.vol < 18446744073709551616) (hl : r.ids.length ≤ 1000) : Pure Tryz.prog 22 [⟨.deck, d⟩, ⟨.req, r⟩] [.sl .int] (mustR d r) :=
  ofT Tryz.func22 (t22 d r) (by kernel_rfl) (by kernel_rfl) fun _ => by
    refine ⟨⟨Zn.T5', T7', trivial⟩, _, c19 h0 hv, ?_⟩
    unfold mustR
    have l1 := path_len d r.a r.b
    have l2 := needR_len d r.a
    refine sat_bif (fun h => ?_) (fun h => ?_)
    · rw [h]; exact ⟨T2', rfl⟩
    rw [h, cond_false]
    unfold mustS
    refine sat_bif (fun h => ?_) (fun h => ?_)
    · rw [h]; exact ⟨⟨T2', trivial⟩, _, c77 (by omega), T2', rfl⟩
    rw [h, cond_false]
    refine sat_bif (fun h => ?_) (fun h => ?_)
    · rw [h]; exact ⟨⟨Zn.T5', T2', T2', trivial⟩, _, c54 d r.a r.b, ⟨T2', T2', trivial⟩, _, c101 (by omega), ⟨T2', T2', trivial⟩, _, c101 (by have := put_len (l := (pathR d r.a r.b).1) (n := r.a); omega), T2', rfl⟩
    rw [h, cond_false]
    refine sat_bif (fun h => ?_) (fun h => ?_)
    · refine sat_t h ?_
      rw [h]; exact ⟨⟨T2', trivial⟩, ⟨Zn.T5', T2', trivial⟩, _, c49 (by simp), ⟨T2', T2', trivial⟩, _, c101 (by omega), T2', rfl⟩
    rw [h, cond_false]
    refine sat_bif (fun h => ?_) (fun h => ?_)
    · refine sat_t h ?_
      rw [h]; exact ⟨⟨T2', trivial⟩, ⟨Zn.T5', T2', trivial⟩, _, c49 (by simp), ⟨T2', T2', trivial⟩, _, c101 (by omega), T2', rfl⟩
    rw [h, cond_false]
    refine sat_bif (fun h => ?_) (fun h => ?_)
    · rw [h]; exact ⟨⟨T2', trivial⟩, ⟨Zn.T5', T2', trivial⟩, _, c49 (by simp), ⟨T2', T2', trivial⟩, _, c101 (by omega), T2', rfl⟩
    · rw [h]; exact ⟨T2', rfl⟩
theorem c23 {d : Deck} {r : Req} {o : List Int} {g : Int} (h0 : 0 ≤ r.vol) (hv : r.vol < 18446744073709551616) (hl : r.ids.length ≤ 1000) (ho : o.length ≤ 1000) : Pure Tryz.prog 23 [⟨.deck, d⟩, ⟨.req, r⟩, ⟨.sl .int, o⟩, ⟨.int, g⟩] [.sl .int] (locksR d r o g) :=
  ofT Tryz.func23 (t23 d r o g) (by kernel_rfl) (by kernel_rfl) fun _ => by
    refine ⟨⟨Zn.T5', T7', trivial⟩, _, c75 h0 hv, ?_⟩
    unfold locksR
    refine sat_bif (fun h => ?_) (fun h => ?_)
    · have h : ((checkR d r).err != 0) = true := h
      rw [h]; exact ⟨T2', rfl⟩
    have he : ((checkR d r).err != 0) = false := h
    rw [he, cond_false]
    refine sat_bif (fun h => ?_) (fun h => ?_)
    · rw [h]; exact ⟨⟨T2', trivial⟩, _, c129 (by omega), T2', rfl⟩
    rw [h, cond_false]
    refine sat_bif (fun h => ?_) (fun h => ?_)
    · rw [h]; exact ⟨⟨T2', trivial⟩, _, c129 (by omega), T2', rfl⟩
    rw [h, cond_false]
    refine sat_bif (fun h => ?_) (fun h => ?_)
    · rw [h, cond_true]
      refine sat_bif (fun h => ?_) (fun h => ?_)
      · rw [h]; exact ⟨T2', rfl⟩
      · rw [h]; exact ⟨⟨T2', trivial⟩, T2', rfl⟩
    rw [h, cond_false]
    refine sat_bif (fun h => ?_) (fun h => ?_)
    · refine sat_t h ?_
      rw [h]; exact ⟨⟨T2', trivial⟩, T2', rfl⟩
    rw [h, cond_false]
    refine sat_bif (fun h => ?_) (fun h => ?_)
    · rw [h]; exact ⟨⟨T2', trivial⟩, T2', rfl⟩
    · rw [h]; exact ⟨⟨Zn.T5', T7', trivial⟩, _, c76 hl, T2', rfl⟩
theorem must_ok {d : Deck} {r : Req} (h : ((checkR d r).err != 0) = false) : mustR d r = mustS d r := by unfold mustR; rw [h]; rfl
theorem c24 {d : Deck} {r : Req} {o : List Int} {g : Int} (h0 : 0 ≤ r.vol) (hv : r.vol < 18446744073709551616) (hl : r.ids.length ≤ 1000) (ho : o.length ≤ 1000) : Pure Tryz.prog 24 [⟨.deck, d⟩, ⟨.req, r⟩, ⟨.sl .int, o⟩, ⟨.int, g⟩] [.sl .int] (locksR d r o g) :=
  ofT Tryz.func24 (t24 d r o g) (by kernel_rfl) (by kernel_rfl) fun _ => by
    refine ⟨⟨Zn.T5', T7', trivial⟩, _, c19 h0 hv, ?_⟩
    unfold locksR
    refine sat_bif (fun h => ?_) (fun h => ?_)
    · have h : ((checkR d r).err != 0) = true := h
      rw [h]; exact ⟨T2', rfl⟩
    have he : ((checkR d r).err != 0) = false := h
    rw [he, cond_false]
    refine sat_bif (fun h => ?_) (fun h => ?_)
    · rw [h]; exact ⟨⟨T2', trivial⟩, _, c77 (by omega), T2', rfl⟩
    rw [h, cond_false]
    refine sat_bif (fun h => ?_) (fun h => ?_)
    · rw [h]; exact ⟨⟨T2', trivial⟩, _, c77 (by omega), T2', rfl⟩
    rw [h, cond_false]
    refine sat_bif (fun h => ?_) (fun h => ?_)
    · rw [h, cond_true]
      refine sat_bif (fun h => ?_) (fun h => ?_)
      · rw [h]; exact ⟨T2', rfl⟩
      · rw [h]; exact ⟨⟨T2', trivial⟩, T2', rfl⟩
    rw [h, cond_false]
    refine sat_bif (fun h => ?_) (fun h => ?_)
    · refine sat_t h ?_
      rw [h]; exact ⟨⟨T2', trivial⟩, T2', rfl⟩
    rw [h, cond_false]
    refine sat_bif (fun h => ?_) (fun h => ?_)
    · rw [h]; exact ⟨⟨T2', trivial⟩, T2', rfl⟩
    · rw [h]; exact ⟨⟨Zn.T5', T7', trivial⟩, _, (c22 h0 hv hl).eq (must_ok he), T2', rfl⟩
end Go.Proofs.Wn

namespace Go.Proofs.Wn
open Go Go.VL

def L14 (d : Deck) (x y : Int) (l : List Int) : AS := mkS 56 [(1, .ptr 0 0), (2, .ptr 1 0), (3, i64 x), (4, i64 y), (5, .d (.sl .int l))] [(0, .box (Zn.deckC d)), (1, .box [i64 5, .d (.v (.slice none 0 0)), i64 0, i64 0, i64 0, u64 4607182418800017408])] 2


theorem t14 : @Eq (Out (TyTup [.bool])) (aexec Tryz.prog codes sigs Tryz.f14 (pureFin [.bool]) 0 ⟨[5], false⟩ 300 false (bodyOf Tryz.f14) (startS Tryz.f14 [])) (.need True (.callP 56 [] [.deck] fun (x : Deck) => .need ((True ∧ True ∧ True ∧ True ∧ True ∧ True ∧ True) ∧ True) (.callP 15 [Sigma.mk .req (Req.mk (5 : Int) [] (0 : Int) (0 : Int) (0 : Int) (4607182418800017408 : Int))] [.int, .int] fun (x_1 : Int × Int) => .need ((True ∧ True ∧ True ∧ True ∧ True) ∧ (True ∧ True ∧ True ∧ True ∧ True ∧ True ∧ True) ∧ True) (.callP 21 [⟨.deck, x⟩, Sigma.mk .req (Req.mk (5 : Int) [] (0 : Int) (0 : Int) (0 : Int) (4607182418800017408 : Int))] [.sl .int] fun (x_2 : List Int) => .stop (rg Tryz.f14 5) (mkS 56 [(1, .ptr 0 0), (2, .ptr 1 0), (3, .d (.v (.int .i64 (Prod.fst x_1)))), (4, .d (.v (.int .i64 (Prod.snd x_1)))), (5, .d (.sl .int x_2))] [(0, .box [.d (.sl .flt (Deck.borders x)), .d (.sl .plate (Deck.plates x)), .d (.sl .rack (Deck.racks x)), .d (.v (.int .i64 (Deck.arms x)))]), (1, .box [.d (.v (.int .i64 (5 : Int))), .d (.v (.slice none 0 0)), .d (.v (.int .i64 (0 : Int))), .d (.v (.int .i64 (0 : Int))), .d (.v (.int .i64 (0 : Int))), .d (.v (.int .u64 (4607182418800017408 : Int)))])] 2))))) := by kernel_rfl

theorem t14b (d : Deck) : @Eq (Out (TyTup [.bool])) (aexec Tryz.prog codes sigs Tryz.f14 (pureFin [.bool]) 0 ⟨[], false⟩ 300 true (rg Tryz.f14 5) (L14 d 1000 0 [0, 3, 4])) (.need ((True ∧ True ∧ True ∧ True ∧ True) ∧ (True ∧ True ∧ True ∧ True ∧ True ∧ True ∧ True) ∧ True) (.callP 18 [⟨.deck, d⟩, Sigma.mk .req (Req.mk (5 : Int) [] (0 : Int) (0 : Int) (0 : Int) (4607182418800017408 : Int))] [.resp] fun (x : Resp) => .need ((True ∧ True ∧ True ∧ True ∧ True ∧ True) ∧ (True ∧ True ∧ True ∧ True ∧ True ∧ True) ∧ True) (.callP 17 [⟨.resp, x⟩, Sigma.mk .resp (Resp.mk (0 : Int) (0 : Int) (0 : Int) (0 : Int) [])] [.bool] fun (x : Bool) => bif x then .need ((True ∧ True) ∧ (True ∧ True) ∧ (True ∧ True) ∧ True) (.need ((True ∧ True) ∧ (True ∧ True) ∧ True) (.callP 20 [Sigma.mk (.sl .int) [(0 : Int), (3 : Int), (4 : Int)], Sigma.mk (.sl .int) [(0 : Int), (3 : Int), (4 : Int)]] [.bool] fun (x : Bool) => bif x then .need ((True ∧ True ∧ True ∧ True ∧ True) ∧ (True ∧ True ∧ True ∧ True ∧ True ∧ True ∧ True) ∧ True) (.callP 18 [⟨.deck, d⟩, Sigma.mk .req (Req.mk (6 : Int) [] (1 : Int) (0 : Int) (0 : Int) (9221120237041090561 : Int))] [.resp] fun (x : Resp) => bif Resp.err x == (20 : Int) then .need ((True ∧ True ∧ True ∧ True ∧ True) ∧ (True ∧ True ∧ True ∧ True ∧ True ∧ True ∧ True) ∧ (True ∧ True) ∧ (True ∧ True) ∧ True) (.callP 23 [⟨.deck, d⟩, Sigma.mk .req (Req.mk (9 : Int) [] (1 : Int) (0 : Int) (0 : Int) (0 : Int)), Sigma.mk (.sl .int) [], Sigma.mk .int (-1 : Int)] [.sl .int] fun (x : List Int) => .need ((True ∧ True) ∧ True) (.need ((True ∧ True) ∧ (True ∧ True) ∧ True) (.callP 20 [Sigma.mk (.sl .int) x, Sigma.mk (.sl .int) [(1 : Int)]] [.bool] fun (x : Bool) => bif x then .need ((True ∧ True) ∧ (True ∧ True) ∧ True) (.need ((True ∧ True ∧ True ∧ True ∧ True) ∧ (True ∧ True ∧ True ∧ True ∧ True ∧ True ∧ True) ∧ True) (.callP 18 [⟨.deck, d⟩, Sigma.mk .req (Req.mk (1 : Int) [(1 : Int), (1 : Int)] (0 : Int) (0 : Int) (0 : Int) (0 : Int))] [.resp] fun (x : Resp) => .need (True ∧ True) (.ret (Resp.id x == (1 : Int))))) else .need (True ∧ True) (.ret false)))) else .need (True ∧ True) (.ret false)) else .need (True ∧ True) (.ret false))) else .need (True ∧ True) (.ret false)))) := by kernel_rfl

end Go.Proofs.Wn

/- The laws of wants come to true. (Own work.) -/
namespace Go.Proofs.Wn
open Go Go.VL Go.Proofs.Zn

def D14 : Deck := ⟨[some 0, some 4621256167635550208, some 4625759767262920704], [⟨1, 2, some 4621256167635550208, some 4620693217682128896, some 4602678819172646912, 100, [40]⟩], [⟨1, 1, some 4611686018427387904, some 0, some 0⟩], 2⟩
theorem c56 : Pure Tryz.prog 56 [] [.deck] D14 := ofT Tryz.func56 t56 (by kernel_rfl) (by kernel_rfl) fun _ => by
  refine ⟨by simp, by simp, by simp, by simp, by simp, rfl⟩
def R14a : Req := ⟨5, [], 0, 0, 0, 4607182418800017408⟩
theorem chk1 : checkR D14 R14a = ⟨0, 0, 0, 0, []⟩ := by kernel_rfl
theorem vol1 : volS R14a = (1000, 0) := by kernel_rfl
theorem must1 : mustR D14 R14a = [0, 3, 4] := by kernel_rfl
theorem chk2 : checkR D14 ⟨6, [], 1, 0, 0, 9221120237041090561⟩ = ⟨20, 0, 0, 0, []⟩ := by kernel_rfl
theorem lock1 : locksR D14 ⟨9, [], 1, 0, 0, 0⟩ [] (-1) = [1] := by kernel_rfl
theorem chk3 : checkR D14 ⟨1, [1, 1], 0, 0, 0, 0⟩ = ⟨152, 1, 0, 0, []⟩ := by kernel_rfl
theorem a15 : Pure Tryz.prog 15 [⟨.req, R14a⟩] [.int, .int] ((1000 : Int), (0 : Int)) := (c15 (r := R14a) (by decide) (by decide)).eq vol1
theorem a21 : Pure Tryz.prog 21 [⟨.deck, D14⟩, ⟨.req, R14a⟩] [.sl .int] [0, 3, 4] := (c21 (d := D14) (r := R14a) (by decide) (by decide) (by decide)).eq must1
theorem a18 : Pure Tryz.prog 18 [⟨.deck, D14⟩, ⟨.req, R14a⟩] [.resp] ⟨0, 0, 0, 0, []⟩ := (c18 (d := D14) (r := R14a) (by decide) (by decide)).eq chk1
theorem a18b : Pure Tryz.prog 18 [⟨.deck, D14⟩, ⟨.req, ⟨6, [], 1, 0, 0, 9221120237041090561⟩⟩] [.resp] ⟨20, 0, 0, 0, []⟩ := (c18 (d := D14) (r := ⟨6, [], 1, 0, 0, 9221120237041090561⟩) (by decide) (by decide)).eq chk2
theorem a18c : Pure Tryz.prog 18 [⟨.deck, D14⟩, ⟨.req, ⟨1, [1, 1], 0, 0, 0, 0⟩⟩] [.resp] ⟨152, 1, 0, 0, []⟩ := (c18 (d := D14) (r := ⟨1, [1, 1], 0, 0, 0, 0⟩) (by decide) (by decide)).eq chk3
theorem a23 : Pure Tryz.prog 23 [⟨.deck, D14⟩, ⟨.req, ⟨9, [], 1, 0, 0, 0⟩⟩, ⟨.sl .int, []⟩, ⟨.int, -1⟩] [.sl .int] [1] := (c23 (d := D14) (r := ⟨9, [], 1, 0, 0, 0⟩) (o := []) (g := -1) (by decide) (by decide) (by decide) (by decide)).eq lock1
theorem a17 : Pure Tryz.prog 17 [⟨.resp, ⟨0, 0, 0, 0, []⟩⟩, ⟨.resp, ⟨0, 0, 0, 0, []⟩⟩] [.bool] true := (c17 (a := ⟨0, 0, 0, 0, []⟩) (b := ⟨0, 0, 0, 0, []⟩) (by decide)).eq (decide_eq_true rfl)
theorem c14 : Pure Tryz.prog 14 [] [.bool] true :=
  Pure.of_closed (C := codes) (S := sigs) mixed Tryz.func14 (by kernel_rfl) (Nat.le_of_ble_eq_true (by kernel_rfl)) fun A hA => hA.go t14 (by
    refine ⟨trivial, D14, c56, ⟨T7', trivial⟩, _, a15, ⟨Zn.T5', T7', trivial⟩, _, a21, ?_⟩
    refine hA.go (t14b D14) ?_
    refine ⟨⟨Zn.T5', T7', trivial⟩, _, a18, ⟨T6', T6', trivial⟩, true, a17, sat_t rfl ?_⟩
    refine ⟨⟨T2', T2', T2', trivial⟩, ⟨T2', T2', trivial⟩, true, (c50 (by decide)).eq (decide_eq_true rfl), sat_t rfl ?_⟩
    refine ⟨⟨Zn.T5', T7', trivial⟩, _, a18b, sat_t rfl ?_⟩
    refine ⟨⟨Zn.T5', T7', T2', T2', trivial⟩, _, a23, ⟨T2', trivial⟩, ⟨T2', T2', trivial⟩, true, (c50 (by decide)).eq (decide_eq_true rfl), sat_t rfl ?_⟩
    exact ⟨⟨T2', T2', trivial⟩, ⟨Zn.T5', T7', trivial⟩, _, a18c, T2', rfl⟩)

theorem none_list (d : Deck) : ∀ l : List Int, (noneGo d l).list = []
  | [] => rfl
  | x :: l => by
    unfold noneGo
    have := none_list d l
    simp only [cond_eq_ite]
    split
    · rfl
    · exact this
theorem batch_list (d : Deck) (l : List Int) : (batchS d l).list = [] := by
  unfold batchS
  simp only [cond_eq_ite]
  split
  · rfl
  split
  · rfl
  split
  · rfl
  exact none_list d l
theorem check_list (d : Deck) (r : Req) : (checkR d r).list = [] := by
  unfold checkR partsR endR
  simp only [cond_eq_ite]
  repeat' split
  all_goals first | rfl | exact batch_list _ _

theorem z3 {d : Deck} {r : Req} (h0 : 0 ≤ r.vol) (hv : r.vol < 18446744073709551616) : Pure Tryz.prog 3 [⟨.deck, d⟩, ⟨.req, r⟩] [.bool] true :=
  ofT Tryz.func3 (t3 d r) (by kernel_rfl) (by kernel_rfl) fun _ => by
    refine ⟨⟨Zn.T5', T7', trivial⟩, _, c13 d r, sat_bif (fun _ => ⟨trivial, _, c14, T2', rfl⟩) (fun _ => ?_)⟩
    refine ⟨⟨T7', trivial⟩, _, c15 h0 hv, ⟨T7', trivial⟩, _, c16 h0 hv, trivial, _, c14, sat_t rfl ⟨⟨Zn.T5', T7', trivial⟩, _, c18 h0 hv, ⟨Zn.T5', T7', trivial⟩, _, c19 h0 hv, ⟨T6', T6', trivial⟩, _, c17 (by rw [check_list]; simp), sat_t (by simp) (sat_t (by simp) ⟨T2', beq_self_eq_true _⟩)⟩⟩
theorem musts_len {d : Deck} {r : Req} (hl : r.ids.length ≤ 1000) : (mustS d r).length ≤ 1000 := by
  unfold mustS
  have l1 := path_len d r.a r.b
  have l2 := needR_len d r.a
  have l3 := put_len (l := (pathR d r.a r.b).1) (n := r.a)
  have l4 := put_len (l := putS (pathR d r.a r.b).1 r.a) (n := r.b)
  have l5 := put_len (l := (needsR d [r.a]).1) (n := r.a)
  have l6 := either_len (a := []) (b := r.ids)
  have l6 : (setS r.ids).length ≤ 0 + r.ids.length := l6
  simp only [cond_eq_ite]
  repeat' split
  all_goals first | omega | simp
theorem must_len {d : Deck} {r : Req} (hl : r.ids.length ≤ 1000) : (mustR d r).length ≤ 1000 := by
  unfold mustR
  have := musts_len (d := d) hl
  simp only [cond_eq_ite]
  split
  · simp
  · exact this
theorem locks_len {d : Deck} {r : Req} {h : Int} (hl : r.ids.length ≤ 1000) {o : List Int} (ho : o.length ≤ 1000) : (locksR d r o h).length ≤ 1000 := by
  unfold locksR
  have := musts_len (d := d) hl
  have l6 : (setS r.ids).length ≤ 0 + r.ids.length := either_len (a := []) (b := r.ids)
  have l7 : (setS o).length ≤ 0 + o.length := either_len (a := []) (b := o)
  simp only [cond_eq_ite]
  repeat' split
  all_goals first | omega | simp
theorem z4 {d : Deck} {r : Req} {o : List Int} {h : Int} (h0 : 0 ≤ r.vol) (hv : r.vol < 18446744073709551616) : Pure Tryz.prog 4 [⟨.deck, d⟩, ⟨.req, r⟩, ⟨.sl .int, o⟩, ⟨.int, h⟩] [.bool] true :=
  ofT Tryz.func4 (t4 d r o h) (by kernel_rfl) (by kernel_rfl) fun _ => by
    refine ⟨⟨Zn.T5', T7', trivial⟩, _, c13 d r, sat_bif (fun _ => ⟨trivial, _, c14, T2', rfl⟩) (fun hx => sat_bif (fun _ => ⟨trivial, _, c14, T2', rfl⟩) (fun ho => ?_))⟩
    have ho := of_decide_eq_false ho
    have hl : r.ids.length ≤ 1000 := by
      cases hL : largeS d
      · rw [hL] at hx
        have := of_decide_eq_false (show decide ((r.ids.length : Int) > 100) = false from hx)
        omega
      · rw [hL] at hx; cases hx
    refine ⟨trivial, _, c14, sat_t rfl ⟨⟨Zn.T5', T7', trivial⟩, _, c21 h0 hv hl, ⟨Zn.T5', T7', trivial⟩, _, c22 h0 hv hl, ⟨T2', T2', trivial⟩, _, c50 (by have := must_len (d := d) hl; omega), sat_t (by simp) ?_⟩⟩
    exact ⟨⟨Zn.T5', T7', T2', T2', trivial⟩, _, c23 h0 hv hl (by omega), ⟨Zn.T5', T7', T2', T2', trivial⟩, _, c24 h0 hv hl (by omega), ⟨T2', T2', trivial⟩, _, c50 (by have := locks_len (d := d) (h := h) hl (o := o) (by omega); omega), T2', by show decide _ = true; simp⟩
end Go.Proofs.Wn

/- The laws of wants, at arguments that are well formed. (Own work.) -/
namespace Go.Proofs.Wn
open Go Go.VL

theorem wf_vol {r : Req} (h : wfT .req r) : 0 ≤ r.vol ∧ r.vol < 18446744073709551616 := by
  have h := h (.v (.int .u64 r.vol)) (by simp [enc])
  cases h with
  | int _ _ hh =>
    have hh : (decide ((0 : Int) ≤ r.vol) && decide (r.vol ≤ 18446744073709551615)) = true := hh
    simp only [Bool.and_eq_true, decide_eq_true_eq] at hh
    omega
theorem law3 (d : Deck) (r : Req) (_ : wfT .deck d) (hr : wfT .req r) : Pure Tryz.prog 3 [⟨.deck, d⟩, ⟨.req, r⟩] [.bool] true := z3 (wf_vol hr).1 (wf_vol hr).2
theorem law4 (d : Deck) (r : Req) (o : List Int) (h : Int) (_ : wfT .deck d) (hr : wfT .req r) (_ : wfT (.sl .int) o) (_ : wfT .int h) : Pure Tryz.prog 4 [⟨.deck, d⟩, ⟨.req, r⟩, ⟨.sl .int, o⟩, ⟨.int, h⟩] [.bool] true := z4 (wf_vol hr).1 (wf_vol hr).2
end Go.Proofs.Wn

/- The laid table lies where it lies. (Own work.) -/
namespace Go.Proofs.Wn
open Go Go.VL Go.Proofs.YteaiflgcgpaclaaGreatDoor
set_option linter.unusedVariables false
set_option linter.unusedSimpArgs false

theorem gTab : Tryz.prog.globalNamed "math/bits.deBruijn64tab" = some 1 := by kernel_rfl
theorem tTab : ∃ t, (Tryz.prog.globals[1]?).map (·.type) = some t ∧ Tryz.prog.underlying t = some (.array 64 5) ∧ Tryz.prog.cellsOf t = 64 :=
  ⟨((Tryz.prog.globals[1]?).map (·.type)).getD 0, by kernel_rfl, by kernel_rfl, by kernel_rfl⟩
theorem uU8 : Tryz.prog.underlying 5 = some (.int .u8) := by kernel_rfl
theorem cU8 : Tryz.prog.cellsOf 5 = 1 := by kernel_rfl
theorem laid_tab : (Rows.laid_math_bits_deBruijn64tab : DataW Unit) = .agg (tzTab.map fun n : Nat => DataW.lit (.int .u8 (n : Int))) := by rfl
theorem take_one {α : Type} {l : List α} {i : Nat} {a : α} (h : (l.drop i).take 1 = [a]) : l[i]? = some a := by
  have : ((l.drop i).take 1)[0]? = some a := by rw [h]; rfl
  simpa using this
theorem gok_laid {W : World} (h : laidMetH Tryz.prog [("math/bits.deBruijn64tab", Rows.laid_math_bits_deBruijn64tab)] W) : GOk W (fun b => b < W.heap.size) := by
  rw [MakeChecks.laidMetH_plain _ _ _ (by kernel_rfl)] at h
  obtain ⟨ps, ⟨g, t, cs, fuel, p, q, hg, ht, hv, hd, _, hps⟩, _, hfr⟩ := h
  obtain rfl := Option.some.inj (gTab.symm.trans hg)
  obtain ⟨t', ht', hu, hc⟩ := tTab
  obtain rfl := Option.some.inj (ht'.symm.trans ht)
  obtain ⟨xs, m, _, hx, hlen, hn, hel⟩ := DataW.trod_array hu hd
  rw [hc] at hlen
  rw [laid_tab] at hx
  simp only [Prod.mk.injEq, DataW.agg.injEq] at hx
  have hxs := hx.1
  have key : ∀ i, i < 64 → cs.toList[i]? = (tzTab.map fun n : Nat => Value.int .u8 (n : Int))[i]? := by
    intro i hi
    have h1 := hel i hi
    rw [cU8, Nat.mul_one] at h1
    have hix : i < xs.length := by omega
    have hxi : xs[i]? = some xs[i] := by simp [hix]
    rw [hxi] at h1
    obtain ⟨k, e1, e2, _⟩ := DataW.trod_int uU8 h1
    have e3 := take_one e1
    have e4 : (xs.map (·.1))[i]? = (tzTab.map fun n : Nat => (DataW.lit (.int .u8 (n : Int)) : DataW Unit))[i]? := by rw [hxs]
    rw [List.getElem?_map, List.getElem?_map, hxi] at e4
    rw [List.getElem?_map, e3]
    cases hz : tzTab[i]? with
    | none => rw [hz] at e4; simp at e4
    | some n =>
      rw [hz, e2] at e4
      simp only [Option.map_some, Option.some.injEq, DataW.lit.injEq, Lit.int.injEq, true_and] at e4
      rw [e4]; rfl
  have hcs : cs = (tzTab.map fun n : Nat => Value.int .u8 (n : Int)).toArray := by
    apply Array.toList_inj.1
    apply List.ext_getElem?
    intro i
    by_cases hi : i < 64
    · exact key i hi
    · rw [List.getElem?_eq_none (by omega), List.getElem?_eq_none (by show 64 ≤ i; omega)]
  intro p' hp'
  have hp' : p' = (1, (tzTab.map fun n : Nat => Value.int .u8 (n : Int)).toArray) := by simpa [glb] using hp'
  subst hp'
  have hsz : cs.size = 64 := by rw [← Array.length_toList]; exact hlen
  obtain ⟨⟨c, T, hT⟩, _⟩ := hfr 1 0 (by
    rw [hps, hsz]
    exact List.mem_append.2 (.inl (List.mem_append.2 (.inl (by simp [MemPlace.row]))))) 
  have hcc : c = cs := by
    unfold World.var? at hv
    rw [gTab] at hv
    simp only [Option.bind_some, hT, Option.some.injEq] at hv
    exact hv
  subst hcc
  refine ⟨?_, T, ?_⟩
  · exact (Array.getElem?_eq_some_iff.1 hT).1
  · rw [← hcs]; exact hT
end Go.Proofs.Wn
