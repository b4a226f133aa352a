/- The deck and its parts: plain models. (Own work.) -/
import Derived.Test.YtebbdkcocbampaaZnA
set_option linter.unusedVariables false
set_option linter.unusedSimpArgs false
namespace Go.Proofs.Zn
open Go Go.VL

def boxOk (b : Go.VL.Box) : Bool := bif decide (b.rows ≥ 1) then bif decide (b.rows ≤ 32) then bif decide (b.cols ≥ 1) then decide (b.cols ≤ 48) else false else false else false
theorem boxOk_iff {b : Go.VL.Box} : boxOk b = true ↔ 1 ≤ b.rows ∧ b.rows ≤ 32 ∧ 1 ≤ b.cols ∧ b.cols ≤ 48 := by
  unfold boxOk
  by_cases h1 : b.rows ≥ 1
  · rw [decide_eq_true h1, cond_true]
    by_cases h2 : b.rows ≤ 32
    · rw [decide_eq_true h2, cond_true]
      by_cases h3 : b.cols ≥ 1
      · rw [decide_eq_true h3, cond_true, decide_eq_true_eq]; omega
      · rw [decide_eq_false h3, cond_false]; simp; omega
    · rw [decide_eq_false h2, cond_false]; simp; omega
  · rw [decide_eq_false h1, cond_false]; simp; omega
theorem box_size {b : Go.VL.Box} (h : boxOk b = true) : 1 ≤ b.rows * b.cols ∧ b.rows * b.cols ≤ 1536 := by
  obtain ⟨h1, h2, h3, h4⟩ := boxOk_iff.1 h
  constructor
  · have := Int.mul_le_mul h1 h3 (by omega) (by omega); omega
  · have := Int.mul_le_mul h2 h4 (by omega) (by omega); omega

def startOk (c : Int) : List Int → Bool
  | [] => true
  | n :: l => bif decide (n < 0) then false else bif decide (n > c) then false else startOk c l
def holdsS (p : Plate) : Bool := bif decide (p.cap < 1) then false else bif decide (p.cap > 1099511627776) then false else bif decide ((p.start.length : Int) > p.rows * p.cols) then false else startOk p.cap p.start
def pbox (p : Plate) : Go.VL.Box := ⟨p.rows, p.cols⟩
def rbox (r : Rack) : Go.VL.Box := ⟨r.rows, r.cols⟩
def plateOk (p : Plate) : Bool := bif boxOk (pbox p) then holdsS p else false
def boxesP (d : Deck) : List Go.VL.Box := d.plates.map pbox
def boxesR (d : Deck) : List Go.VL.Box := d.racks.map rbox
def sumI : List Go.VL.Box → Int
  | [] => 0
  | b :: l => b.rows * b.cols + sumI l
theorem sumI_app (l m : List Go.VL.Box) : sumI (l ++ m) = sumI l + sumI m := by
  induction l with
  | nil => simp [sumI]
  | cons b l ih => simp only [List.cons_append, sumI, ih]; omega
theorem sumI_le : ∀ {l : List Go.VL.Box}, (∀ b ∈ l, boxOk b = true) → 0 ≤ sumI l ∧ sumI l ≤ 1536 * (l.length : Int)
  | [], _ => by simp [sumI]
  | b :: l, h => by
    have h1 := box_size (h b (by simp))
    have h2 := sumI_le (l := l) fun c hc => h c (by simp [hc])
    simp only [sumI, List.length_cons]; omega

/-- The code of what is wrong with a deck. -/
def deckS (d : Deck) : Int :=
  bif checkS d.borders != 0 then checkS d.borders else bif decide (d.arms < 1) then 80 else bif decide (d.arms > 8) then 80 else
  bif decide ((d.plates.length : Int) > 4) then 2 else bif decide ((d.racks.length : Int) > 4) then 2 else
  bif !d.plates.all plateOk then 81 else bif !(boxesR d).all boxOk then 82 else
  bif decide (sumI (boxesP d) > 384) then 2 else bif decide (sumI (boxesR d) > 384) then 2 else 0

structure DeckOk (d : Deck) : Prop where
  borders : checkS d.borders = 0
  arms : 1 ≤ d.arms ∧ d.arms ≤ 8
  plates : d.plates.length ≤ 4
  racks : d.racks.length ≤ 4
  plate : ∀ p ∈ d.plates, plateOk p = true
  boxP : ∀ b ∈ boxesP d, boxOk b = true
  boxR : ∀ b ∈ boxesR d, boxOk b = true
  wells : 0 ≤ sumI (boxesP d) ∧ sumI (boxesP d) ≤ 384
  tips : 0 ≤ sumI (boxesR d) ∧ sumI (boxesR d) ≤ 384
  lanes : 2 ≤ d.borders.length ∧ d.borders.length ≤ 25

theorem deck_ok {d : Deck} (h : deckS d = 0) : DeckOk d := by
  unfold deckS at h
  cases h1 : checkS d.borders != 0
  · rw [h1, cond_false] at h
    have hb : checkS d.borders = 0 := by simpa using h1
    by_cases h2 : d.arms < 1
    · rw [decide_eq_true h2] at h; cases h
    rw [decide_eq_false h2, cond_false] at h
    by_cases h3 : d.arms > 8
    · rw [decide_eq_true h3] at h; cases h
    rw [decide_eq_false h3, cond_false] at h
    by_cases h4 : (d.plates.length : Int) > 4
    · rw [decide_eq_true h4] at h; cases h
    rw [decide_eq_false h4, cond_false] at h
    by_cases h5 : (d.racks.length : Int) > 4
    · rw [decide_eq_true h5] at h; cases h
    rw [decide_eq_false h5, cond_false] at h
    cases h6 : d.plates.all plateOk
    · rw [h6] at h; cases h
    rw [h6, Bool.not_true, cond_false] at h
    cases h7 : (boxesR d).all boxOk
    · rw [h7] at h; cases h
    rw [h7, Bool.not_true, cond_false] at h
    by_cases h8 : sumI (boxesP d) > 384
    · rw [decide_eq_true h8] at h; cases h
    rw [decide_eq_false h8, cond_false] at h
    by_cases h9 : sumI (boxesR d) > 384
    · rw [decide_eq_true h9] at h; cases h
    have hp : ∀ p ∈ d.plates, plateOk p = true := List.all_eq_true.1 h6
    have hbp : ∀ b ∈ boxesP d, boxOk b = true := fun b hb => by
      obtain ⟨p, hp', rfl⟩ := List.mem_map.1 hb
      have := hp p hp'
      unfold plateOk at this
      cases hq : boxOk (pbox p)
      · rw [hq] at this; cases this
      · rfl
    have hbr : ∀ b ∈ boxesR d, boxOk b = true := List.all_eq_true.1 h7
    exact ⟨hb, ⟨by omega, by omega⟩, by omega, by omega, hp, hbp, hbr, ⟨(sumI_le hbp).1, by omega⟩, ⟨(sumI_le hbr).1, by omega⟩, check_len hb⟩
  · rw [h1, cond_true] at h
    rw [h] at h1; cases h1

/-! ### parts -/
def placesS (k u r c : Int) : List Part := (List.range (r * c).toNat).map fun n : Nat => ⟨k, u, (n : Int) / c, (n : Int) % c⟩
def unitsS (k : Int) : Int → List Go.VL.Box → List Part
  | _, [] => []
  | u, b :: l => placesS k u b.rows b.cols ++ unitsS k (u + 1) l
def lanesL (n : Nat) : List Part := (List.range n).map fun i : Nat => ⟨3, (i : Int), 0, 0⟩
def partsS (d : Deck) : List Part := unitsS 1 0 (boxesP d) ++ (unitsS 2 0 (boxesR d) ++ lanesL (d.borders.length - 1))
def partsOf (d : Deck) : List Part := bif deckS d != 0 then [] else partsS d
def placeGo (k : Int) : Int → List Go.VL.Box → Int → Part
  | _, [], _ => ⟨k, 0, 0, 0⟩
  | u, b :: l, n => bif decide (n < b.rows * b.cols) then ⟨k, u, n / b.cols, n % b.cols⟩ else placeGo k (u + 1) l (n - b.rows * b.cols)

theorem places_len (k u r c : Int) : (placesS k u r c).length = (r * c).toNat := by simp [placesS]
theorem units_len (k : Int) : ∀ (l : List Go.VL.Box) (u : Int), (∀ b ∈ l, boxOk b = true) → ((unitsS k u l).length : Int) = sumI l
  | [], _, _ => rfl
  | b :: l, u, h => by
    have h1 := box_size (h b (by simp))
    have h2 := units_len k l (u + 1) fun c hc => h c (by simp [hc])
    simp only [unitsS, List.length_append, places_len, sumI]; omega
theorem place_get (k : Int) : ∀ (l : List Go.VL.Box) (u n : Int), (∀ b ∈ l, boxOk b = true) → 0 ≤ n → n < sumI l → (unitsS k u l)[n.toNat]? = some (placeGo k u l n)
  | [], _, n, _, h0, h1 => by simp only [sumI] at h1; omega
  | b :: l, u, n, h, h0, h1 => by
    have h3 := box_size (h b (by simp))
    simp only [unitsS, placeGo]
    by_cases hn : n < b.rows * b.cols
    · rw [decide_eq_true hn, cond_true, List.getElem?_append_left (by rw [places_len]; omega)]
      simp only [placesS]
      rw [List.getElem?_map, List.getElem?_range (by omega)]
      simp only [Option.map_some, Int.toNat_of_nonneg h0]
    · rw [decide_eq_false hn, cond_false, List.getElem?_append_right (by rw [places_len]; omega), places_len]
      have e : n.toNat - (b.rows * b.cols).toNat = (n - b.rows * b.cols).toNat := by omega
      rw [e]
      exact place_get k l (u + 1) _ (fun c hc => h c (by simp [hc])) (by omega) (by simp only [sumI] at h1; omega)

theorem parts_len {d : Deck} (h : DeckOk d) : ((partsS d).length : Int) = sumI (boxesP d) + sumI (boxesR d) + ((d.borders.length : Int) - 1) := by
  have h1 := units_len 1 (boxesP d) 0 h.boxP
  have h2 := units_len 2 (boxesR d) 0 h.boxR
  have h3 := h.lanes
  simp only [partsS, List.length_append, lanesL, List.length_map, List.length_range]; omega

/-- The part of an id. -/
def partS (d : Deck) (i : Int) : Part × Int :=
  bif deckS d != 0 then (⟨0, 0, 0, 0⟩, deckS d) else bif decide (i < 0) then (⟨0, 0, 0, 0⟩, 3) else bif decide (i ≥ ((partsS d).length : Int)) then (⟨0, 0, 0, 0⟩, 3) else
  ((partsS d).getD i.toNat ⟨0, 0, 0, 0⟩, 0)
theorem parts_get {d : Deck} (h : DeckOk d) {i : Int} (h0 : 0 ≤ i) (h1 : i < ((partsS d).length : Int)) :
    (partsS d)[i.toNat]? = some (bif decide (i < sumI (boxesP d)) then placeGo 1 0 (boxesP d) i else bif decide (i < sumI (boxesP d) + sumI (boxesR d)) then placeGo 2 0 (boxesR d) (i - sumI (boxesP d)) else ⟨3, i - sumI (boxesP d) - sumI (boxesR d), 0, 0⟩) := by
  have hl := parts_len h
  have l1 := units_len 1 (boxesP d) 0 h.boxP
  have l2 := units_len 2 (boxesR d) 0 h.boxR
  have hw := h.wells
  have ht := h.tips
  have hb := h.lanes
  unfold partsS
  by_cases c1 : i < sumI (boxesP d)
  · rw [decide_eq_true c1, cond_true, List.getElem?_append_left (by omega)]
    exact place_get 1 _ 0 i h.boxP h0 c1
  · rw [decide_eq_false c1, cond_false, List.getElem?_append_right (by omega)]
    have e1 : i.toNat - (unitsS 1 0 (boxesP d)).length = (i - sumI (boxesP d)).toNat := by omega
    rw [e1]
    by_cases c2 : i < sumI (boxesP d) + sumI (boxesR d)
    · rw [decide_eq_true c2, cond_true, List.getElem?_append_left (by omega)]
      exact place_get 2 _ 0 _ h.boxR (by omega) (by omega)
    · rw [decide_eq_false c2, cond_false, List.getElem?_append_right (by omega)]
      have e2 : (i - sumI (boxesP d)).toNat - (unitsS 2 0 (boxesR d)).length = (i - sumI (boxesP d) - sumI (boxesR d)).toNat := by omega
      rw [e2, lanesL, List.getElem?_map, List.getElem?_range (by omega)]
      simp only [Option.map_some]
      rw [Int.toNat_of_nonneg (by omega)]

/-- What a part of a deck that is right may be. -/
def ValidP (d : Deck) (p : Part) : Prop :=
  (p.kind = 1 ∧ 0 ≤ p.unit ∧ p.unit < (d.plates.length : Int)) ∨ (p.kind = 2 ∧ 0 ≤ p.unit ∧ p.unit < (d.racks.length : Int)) ∨ (p.kind = 3 ∧ 0 ≤ p.unit ∧ p.unit < (d.borders.length : Int) - 1)
theorem units_mem {k : Int} : ∀ {l : List Go.VL.Box} {u : Int} {p : Part}, p ∈ unitsS k u l → p.kind = k ∧ u ≤ p.unit ∧ p.unit < u + (l.length : Int)
  | [], _, _, h => by simp [unitsS] at h
  | b :: l, u, p, h => by
    simp only [unitsS, List.mem_append] at h
    rcases h with h | h
    · obtain ⟨n, _, rfl⟩ := List.mem_map.1 h
      refine ⟨rfl, ?_, ?_⟩ <;> simp
      omega
    · obtain ⟨h1, h2, h3⟩ := units_mem h
      simp only [List.length_cons]
      exact ⟨h1, by omega, by omega⟩
theorem parts_valid {d : Deck} {p : Part} (h : p ∈ partsS d) : ValidP d p := by
  simp only [partsS, List.mem_append] at h
  rcases h with h | h | h
  · obtain ⟨h1, h2, h3⟩ := units_mem h
    simp only [boxesP, List.length_map] at h3
    exact .inl ⟨h1, h2, by omega⟩
  · obtain ⟨h1, h2, h3⟩ := units_mem h
    simp only [boxesR, List.length_map] at h3
    exact .inr (.inl ⟨h1, h2, by omega⟩)
  · obtain ⟨n, hn, rfl⟩ := List.mem_map.1 h
    have := List.mem_range.1 hn
    exact .inr (.inr ⟨rfl, by simp, by simp; omega⟩)
theorem part_valid {d : Deck} {i : Int} (h : (partS d i).2 = 0) : DeckOk d ∧ ValidP d (partS d i).1 := by
  unfold partS at h ⊢
  cases h1 : deckS d != 0
  · rw [h1, cond_false] at h
    rw [cond_false]
    have hd : DeckOk d := deck_ok (by simpa using h1)
    by_cases h2 : i < 0
    · rw [decide_eq_true h2] at h; cases h
    rw [decide_eq_false h2, cond_false] at h ⊢
    by_cases h3 : i ≥ ((partsS d).length : Int)
    · rw [decide_eq_true h3] at h; cases h
    rw [decide_eq_false h3, cond_false]
    refine ⟨hd, parts_valid ?_⟩
    rw [getD_at' (by omega)]
    exact List.getElem_mem _
  · rw [h1, cond_true] at h
    rw [show deckS d = 0 from h] at h1; cases h1

/-! ### lanes that parts cover -/
def rowS (d : Deck) (p : Part) : Row := bif p.kind == 2 then ⟨(d.racks.getD p.unit.toNat Ty.rack.dflt).x, (d.racks.getD p.unit.toNat Ty.rack.dflt).pitch, (d.racks.getD p.unit.toNat Ty.rack.dflt).reach⟩
  else ⟨(d.plates.getD p.unit.toNat Ty.plate.dflt).x, (d.plates.getD p.unit.toNat Ty.plate.dflt).pitch, (d.plates.getD p.unit.toNat Ty.plate.dflt).reach⟩
def midS (r : Row) (c : Int) : Fl := Fl.arith BinOp.add r.x (Fl.arith BinOp.mul (some (FloatKind.nearest FloatKind.f64 c)) r.pitch)
def coverS (d : Deck) (p : Part) : Span × Int := bif p.kind == 3 then (⟨p.unit, p.unit⟩, 0) else reachS d.borders (midS (rowS d p) p.col) (rowS d p).reach
def spanS (d : Deck) (i : Int) : Span × Int := bif (partS d i).2 != 0 then (⟨0, 0⟩, (partS d i).2) else coverS d (partS d i).1

theorem reach_ok {l : List Fl} {x r : Fl} (h : (reachS l x r).2 = 0) : 0 ≤ (reachS l x r).1.lo ∧ (reachS l x r).1.lo ≤ (reachS l x r).1.hi ∧ (reachS l x r).1.hi < (l.length : Int) - 1 := by
  unfold reachS at h ⊢
  cases h1 : checkS l != 0
  · have hc : checkS l = 0 := by simpa using h1
    rw [h1, cond_false] at h; rw [cond_false]
    cases h2 : nanF x
    · rw [h2, cond_false] at h; rw [cond_false]
      cases h3 : nanF r
      · rw [h3, cond_false] at h; rw [cond_false]
        cases h4 : ltF r (some 0)
        · rw [h4, cond_false] at h; rw [cond_false]
          cases h5 : nanF (loF x r)
          · rw [h5, cond_false] at h; rw [cond_false]
            cases h6 : nanF (hiF x r)
            · rw [h6, cond_false] at h; rw [cond_false]
              have hk : 0 ≤ keyF r := by
                rw [ltF_key h3 (by decide +kernel), key_zero] at h4
                have := of_decide_eq_false h4; omega
              have hle := lo_hi h2 h3 hk h5 h6
              obtain ⟨hn, hp⟩ := check_rise hc
              obtain ⟨g1, g2⟩ := check_len hc
              unfold inS at h ⊢
              cases h7 : ltF (hiF x r) (l.getD 0 (some 0))
              · rw [h7, cond_false] at h; rw [cond_false]
                cases h8 : gtF (loF x r) (l.getD (l.length - 1) (some 0))
                · rw [cond_false]
                  have hn0 : nanF (l.getD 0 (some 0)) = false := hn _ (by rw [getD_at' (by omega)]; exact List.getElem_mem _)
                  rw [ltF_key h6 hn0] at h7
                  have h7 := of_decide_eq_false h7
                  have b1 := (behind_iff h6 hn hp 0 (by omega)).1 (by omega)
                  have b2 := behind_le l (hiF x r)
                  have b3 : behindS l (loF x r) ≤ behindS l (hiF x r) := by
                    rcases Nat.lt_or_ge (behindS l (hiF x r)) (behindS l (loF x r)) with hlt | hge
                    · exfalso
                      have b4 := behind_le l (loF x r)
                      have c1 := (behind_iff h5 hn hp (behindS l (hiF x r)) (by omega)).2 hlt
                      have c2 := (behind_iff h6 hn hp (behindS l (hiF x r)) (by omega)).1 (by omega)
                      omega
                    · exact hge
                  simp only
                  omega
                · rw [h8] at h; cases h
              · rw [h7] at h; cases h
            · rw [h6] at h; cases h
          · rw [h5] at h; cases h
        · rw [h4] at h; cases h
      · rw [h3] at h; cases h
    · rw [h2] at h; cases h
  · rw [h1, cond_true] at h
    rw [show checkS l = 0 from h] at h1; cases h1
theorem cover_ok {d : Deck} {p : Part} (hv : ValidP d p) (h : (coverS d p).2 = 0) : 0 ≤ (coverS d p).1.lo ∧ (coverS d p).1.lo ≤ (coverS d p).1.hi ∧ (coverS d p).1.hi < (d.borders.length : Int) - 1 := by
  unfold coverS at h ⊢
  cases hk : p.kind == 3
  · rw [hk, cond_false] at h; rw [cond_false]
    exact reach_ok h
  · rw [cond_true]
    have hk : p.kind = 3 := by simpa using hk
    rcases hv with ⟨a, _⟩ | ⟨a, _⟩ | ⟨_, a, b⟩
    · omega
    · omega
    · simp only; omega
end Go.Proofs.Zn

/- Sets of numbers: plain models. (Own work.) -/
namespace Go.Proofs.Zn
open Go Go.VL

abbrev Rise (l : List Int) : Prop := l.Pairwise (· < ·)
theorem rise_ext : ∀ {l m : List Int}, Rise l → Rise m → (∀ n, n ∈ l ↔ n ∈ m) → l = m
  | [], [], _, _, _ => rfl
  | [], b :: m, _, _, h => absurd ((h b).2 (by simp)) (by simp)
  | a :: l, [], _, _, h => absurd ((h a).1 (by simp)) (by simp)
  | a :: l, b :: m, hl, hm, h => by
    obtain ⟨h1, h2⟩ := List.pairwise_cons.1 hl
    obtain ⟨g1, g2⟩ := List.pairwise_cons.1 hm
    have hab : a = b := by
      rcases List.mem_cons.1 ((h a).1 (by simp)) with e | e
      · exact e
      · rcases List.mem_cons.1 ((h b).2 (by simp)) with e' | e'
        · exact e'.symm
        · have := g1 a e; have := h1 b e'; omega
    subst hab
    rw [rise_ext h2 g2 fun n => ⟨fun hn => ?_, fun hn => ?_⟩]
    · have := h1 n hn
      rcases List.mem_cons.1 ((h n).1 (by simp [hn])) with e | e
      · omega
      · exact e
    · have := g1 n hn
      rcases List.mem_cons.1 ((h n).2 (by simp [hn])) with e | e
      · omega
      · exact e

/-! ### a number put into a set -/
def putS : List Int → Int → List Int
  | [], n => [n]
  | x :: l, n => bif decide (x < n) then x :: putS l n else bif x == n then x :: l else n :: x :: l
theorem mem_put {m n : Int} : ∀ {l : List Int}, m ∈ putS l n ↔ m = n ∨ m ∈ l
  | [] => by simp [putS]
  | x :: l => by
    unfold putS
    by_cases h1 : x < n
    · rw [decide_eq_true h1, cond_true, List.mem_cons, mem_put (l := l), List.mem_cons]
      constructor
      · rintro (h | h | h)
        · exact .inr (.inl h)
        · exact .inl h
        · exact .inr (.inr h)
      · rintro (h | h | h)
        · exact .inr (.inl h)
        · exact .inl h
        · exact .inr (.inr h)
    · rw [decide_eq_false h1, cond_false]
      cases h2 : x == n
      · rw [cond_false]; simp
      · rw [cond_true]
        have : x = n := by simpa using h2
        subst this
        simp
theorem put_rise {n : Int} : ∀ {l : List Int}, Rise l → Rise (putS l n)
  | [], _ => by simp [putS]
  | x :: l, h => by
    obtain ⟨h1, h2⟩ := List.pairwise_cons.1 h
    unfold putS
    by_cases h3 : x < n
    · rw [decide_eq_true h3, cond_true]
      refine List.pairwise_cons.2 ⟨fun y hy => ?_, put_rise h2⟩
      rcases mem_put.1 hy with e | e
      · omega
      · exact h1 y e
    · rw [decide_eq_false h3, cond_false]
      cases h4 : x == n
      · rw [cond_false]
        have h4 : ¬ x = n := by simpa using h4
        refine List.pairwise_cons.2 ⟨fun y hy => ?_, h⟩
        rcases List.mem_cons.1 hy with e | e
        · omega
        · have := h1 y e; omega
      · rw [cond_true]; exact h
theorem put_len {n : Int} : ∀ {l : List Int}, (putS l n).length ≤ l.length + 1
  | [] => by simp [putS]
  | x :: l => by
    unfold putS
    cases decide (x < n)
    · cases x == n <;> simp
    · have := put_len (n := n) (l := l)
      simp only [cond_true, List.length_cons]; omega
/-- Where it would stand. -/
def putK (l : List Int) (n : Int) : Nat := (l.takeWhile fun x => decide (x < n)).length
theorem putK_le (l : List Int) (n : Int) : putK l n ≤ l.length := (List.takeWhile_sublist _).length_le
theorem putK_lt : ∀ {l : List Int} {n : Int} {k : Nat} (hk : k < l.length), (∀ j (h : j < l.length), j < k → l[j] < n) → ¬ l[k] < n → putK l n = k
  | [], _, _, hk, _, _ => by simp at hk
  | x :: l, n, 0, _, _, h => by
    have h : ¬ x < n := h
    simp [putK, List.takeWhile_cons, h]
  | x :: l, n, k + 1, hk, h1, h2 => by
    have hx : x < n := h1 0 (by simp) (by omega)
    have := putK_lt (l := l) (n := n) (k := k) (by simpa using hk) (fun j hj hjk => h1 (j + 1) (by simp; omega) (by omega)) h2
    simp only [putK, List.takeWhile_cons, decide_eq_true hx, if_true, List.length_cons] at this ⊢
    omega
theorem put_eq : ∀ (l : List Int) (n : Int), putS l n = bif Nat.blt (putK l n) l.length && (l.getD (putK l n) 0 == n) then l else l.take (putK l n) ++ n :: l.drop (putK l n)
  | [], n => rfl
  | x :: l, n => by
    unfold putS
    have ih := put_eq l n
    by_cases h1 : x < n
    · have e : putK (x :: l) n = putK l n + 1 := by simp [putK, List.takeWhile_cons, h1]
      rw [decide_eq_true h1, cond_true, e, ih]
      have e2 : Nat.blt (putK l n + 1) (x :: l).length = Nat.blt (putK l n) l.length := by
        simp only [Nat.blt, List.length_cons]; rfl
      have e3 : (x :: l).getD (putK l n + 1) 0 = l.getD (putK l n) 0 := by simp
      rw [e2, e3]
      cases Nat.blt (putK l n) l.length && (l.getD (putK l n) 0 == n) <;> simp
    · have e : putK (x :: l) n = 0 := by simp [putK, List.takeWhile_cons, h1]
      rw [decide_eq_false h1, cond_false, e]
      have e2 : Nat.blt 0 (x :: l).length = true := by rfl
      have e3 : (x :: l).getD 0 0 = x := rfl
      rw [e2, e3, Bool.true_and]
      cases x == n <;> simp

/-! ### in one of two -/
def eitherS (a b : List Int) : List Int := b.foldl putS a
theorem mem_either {n : Int} : ∀ {b a : List Int}, n ∈ eitherS a b ↔ n ∈ a ∨ n ∈ b
  | [], a => by simp [eitherS]
  | x :: b, a => by
    have := mem_either (n := n) (b := b) (a := putS a x)
    unfold eitherS at this ⊢
    rw [List.foldl_cons, this, mem_put, List.mem_cons]
    constructor
    · rintro ((h | h) | h)
      · exact .inr (.inl h)
      · exact .inl h
      · exact .inr (.inr h)
    · rintro (h | h | h)
      · exact .inl (.inr h)
      · exact .inl (.inl h)
      · exact .inr h
theorem either_rise : ∀ {b a : List Int}, Rise a → Rise (eitherS a b)
  | [], _, h => h
  | x :: b, a, h => either_rise (b := b) (a := putS a x) (put_rise h)
theorem either_len : ∀ {b a : List Int}, (eitherS a b).length ≤ a.length + b.length
  | [], _ => by simp [eitherS]
  | x :: b, a => by
    have h1 := either_len (b := b) (a := putS a x)
    have h2 := put_len (n := x) (l := a)
    unfold eitherS at h1 ⊢
    rw [List.foldl_cons, List.length_cons]; omega
abbrev setS (l : List Int) : List Int := eitherS [] l
theorem set_rise (l : List Int) : Rise (setS l) := either_rise .nil
theorem mem_set {n : Int} {l : List Int} : n ∈ setS l ↔ n ∈ l := by
  rw [mem_either]; simp

/-! ### along two sets -/
def tk (w : Bool) (x : Int) (l : List Int) : List Int := bif w then x :: l else l
theorem mem_tk {w : Bool} {x n : Int} {l : List Int} : n ∈ tk w x l ↔ (w = true ∧ n = x) ∨ n ∈ l := by
  cases w <;> simp [tk]
def alongS (f s t : Bool) : List Int → List Int → List Int
  | [], [] => []
  | x :: a, [] => tk f x (alongS f s t a [])
  | [], y :: b => tk s y (alongS f s t [] b)
  | x :: a, y :: b => if x < y then tk f x (alongS f s t a (y :: b)) else if y < x then tk s y (alongS f s t (x :: a) b) else tk t x (alongS f s t a b)
termination_by a b => a.length + b.length

theorem along_spec (f s t : Bool) : ∀ (a b : List Int), Rise a → Rise b →
    (∀ n, n ∈ alongS f s t a b ↔ (f = true ∧ n ∈ a ∧ n ∉ b) ∨ (s = true ∧ n ∉ a ∧ n ∈ b) ∨ (t = true ∧ n ∈ a ∧ n ∈ b)) ∧ Rise (alongS f s t a b)
  | [], [], _, _ => by rw [alongS]; simp
  | x :: a, [], ha, hb => by
    obtain ⟨h1, h2⟩ := List.pairwise_cons.1 ha
    obtain ⟨i1, i2⟩ := along_spec f s t a [] h2 hb
    rw [alongS]
    refine ⟨fun n => ?_, ?_⟩
    · rw [mem_tk, i1]; simp only [List.mem_cons]
      cases f <;> simp
    · cases f
      · exact i2
      · refine List.pairwise_cons.2 ⟨fun y hy => ?_, i2⟩
        have := (i1 y).1 hy
        simp at this
        exact h1 y this
  | [], y :: b, ha, hb => by
    obtain ⟨h1, h2⟩ := List.pairwise_cons.1 hb
    obtain ⟨i1, i2⟩ := along_spec f s t [] b ha h2
    rw [alongS]
    refine ⟨fun n => ?_, ?_⟩
    · rw [mem_tk, i1]; simp only [List.mem_cons]
      cases s <;> simp
    · cases s
      · exact i2
      · refine List.pairwise_cons.2 ⟨fun z hz => ?_, i2⟩
        have := (i1 z).1 hz
        simp at this
        exact h1 z this
  | x :: a, y :: b, ha, hb => by
    obtain ⟨h1, h2⟩ := List.pairwise_cons.1 ha
    obtain ⟨g1, g2⟩ := List.pairwise_cons.1 hb
    rw [alongS]
    by_cases c1 : x < y
    · rw [if_pos c1]
      obtain ⟨i1, i2⟩ := along_spec f s t a (y :: b) h2 hb
      have hx : ∀ n, n ∈ y :: b → n ≠ x := fun n hn e => by
        subst e
        rcases List.mem_cons.1 hn with e | e
        · omega
        · have := g1 n e; omega
      have hxa : x ∉ a := fun e => by have := h1 x e; omega
      refine ⟨fun n => ?_, ?_⟩
      · rw [mem_tk, i1]
        by_cases hn : n = x
        · subst hn
          have hny : n ∉ y :: b := fun e => hx n e rfl
          simp only [hny, hxa, List.mem_cons, true_or, not_false_eq_true, and_true, and_false, or_false]
          try simp
        · have e : n ∈ x :: a ↔ n ∈ a := by simp [hn]
          rw [e]; simp [hn]
      · cases f
        · exact i2
        · refine List.pairwise_cons.2 ⟨fun z hz => ?_, i2⟩
          have hz := (i1 z).1 hz
          have : z ∈ a ∨ z ∈ y :: b := by
            rcases hz with ⟨_, h, _⟩ | ⟨_, _, h⟩ | ⟨_, h, _⟩
            · exact .inl h
            · exact .inr h
            · exact .inl h
          rcases this with h | h
          · exact h1 z h
          · rcases List.mem_cons.1 h with e | e
            · omega
            · have := g1 z e; omega
    · rw [if_neg c1]
      by_cases c2 : y < x
      · rw [if_pos c2]
        obtain ⟨i1, i2⟩ := along_spec f s t (x :: a) b ha g2
        have hy : ∀ n, n ∈ x :: a → n ≠ y := fun n hn e => by
          subst e
          rcases List.mem_cons.1 hn with e | e
          · omega
          · have := h1 n e; omega
        have hyb : y ∉ b := fun e => by have := g1 y e; omega
        refine ⟨fun n => ?_, ?_⟩
        · rw [mem_tk, i1]
          by_cases hn : n = y
          · subst hn
            have hny : n ∉ x :: a := fun e => hy n e rfl
            simp only [hny, hyb, List.mem_cons, true_or, not_false_eq_true, and_true, and_false, or_false]
            try simp
          · have e : n ∈ y :: b ↔ n ∈ b := by simp [hn]
            rw [e]; simp [hn]
        · cases s
          · exact i2
          · refine List.pairwise_cons.2 ⟨fun z hz => ?_, i2⟩
            have hz := (i1 z).1 hz
            have : z ∈ x :: a ∨ z ∈ b := by
              rcases hz with ⟨_, h, _⟩ | ⟨_, _, h⟩ | ⟨_, h, _⟩
              · exact .inl h
              · exact .inr h
              · exact .inl h
            rcases this with h | h
            · rcases List.mem_cons.1 h with e | e
              · omega
              · have := h1 z e; omega
            · exact g1 z h
      · rw [if_neg c2]
        have hxy : x = y := by omega
        subst hxy
        obtain ⟨i1, i2⟩ := along_spec f s t a b h2 g2
        have hxa : x ∉ a := fun e => by have := h1 x e; omega
        have hxb : x ∉ b := fun e => by have := g1 x e; omega
        refine ⟨fun n => ?_, ?_⟩
        · rw [mem_tk, i1]
          by_cases hn : n = x
          · subst hn
            simp only [hxa, hxb, List.mem_cons, true_or, not_true_eq_false, and_true, and_false, or_false, false_or]
            try simp
          · have e : n ∈ x :: a ↔ n ∈ a := by simp [hn]
            have e' : n ∈ x :: b ↔ n ∈ b := by simp [hn]
            rw [e, e']; simp [hn]
        · cases t
          · exact i2
          · refine List.pairwise_cons.2 ⟨fun z hz => ?_, i2⟩
            have hz := (i1 z).1 hz
            rcases hz with ⟨_, h, _⟩ | ⟨_, _, h⟩ | ⟨_, h, _⟩
            · exact h1 z h
            · exact g1 z h
            · exact h1 z h
termination_by a b => a.length + b.length
theorem along_len (f s t : Bool) : ∀ (a b : List Int), (alongS f s t a b).length ≤ a.length + b.length
  | [], [] => by rw [alongS]; simp
  | x :: a, [] => by
    have := along_len f s t a []
    rw [alongS]; cases f <;> simp only [tk, cond_true, cond_false, List.length_cons] <;> omega
  | [], y :: b => by
    have := along_len f s t [] b
    rw [alongS]; cases s <;> simp only [tk, cond_true, cond_false, List.length_cons] <;> omega
  | x :: a, y :: b => by
    rw [alongS]
    by_cases c1 : x < y
    · rw [if_pos c1]
      have := along_len f s t a (y :: b)
      cases f <;> simp only [tk, cond_true, cond_false, List.length_cons] at this ⊢ <;> omega
    · rw [if_neg c1]
      by_cases c2 : y < x
      · rw [if_pos c2]
        have := along_len f s t (x :: a) b
        cases s <;> simp only [tk, cond_true, cond_false, List.length_cons] at this ⊢ <;> omega
      · rw [if_neg c2]
        have := along_len f s t a b
        cases t <;> simp only [tk, cond_true, cond_false, List.length_cons] at this ⊢ <;> omega
termination_by a b => a.length + b.length
theorem along_either {a b : List Int} (ha : Rise a) (hb : Rise b) : alongS true true true a b = eitherS a b := by
  obtain ⟨h1, h2⟩ := along_spec true true true a b ha hb
  refine rise_ext h2 (either_rise ha) fun n => ?_
  rw [h1, mem_either]
  by_cases c1 : n ∈ a <;> by_cases c2 : n ∈ b <;> simp [c1, c2]
theorem set_app (l m : List Int) : setS (l ++ m) = eitherS (setS l) (setS m) := by
  refine rise_ext (set_rise _) (either_rise (set_rise _)) fun n => ?_
  rw [mem_set, mem_either, mem_set, mem_set, List.mem_append]

/-! ### lanes by their ids -/
def lanesS (d : Deck) (s : Span) : List Int := (List.range (s.hi - s.lo + 1).toNat).map fun k : Nat => sumI (boxesP d) + sumI (boxesR d) + (s.lo + (k : Int))
theorem mem_lanes {d : Deck} {s : Span} {n : Int} : n ∈ lanesS d s ↔ s.lo ≤ n - (sumI (boxesP d) + sumI (boxesR d)) ∧ n - (sumI (boxesP d) + sumI (boxesR d)) ≤ s.hi := by
  unfold lanesS
  rw [List.mem_map]
  constructor
  · rintro ⟨k, hk, rfl⟩
    have := List.mem_range.1 hk
    omega
  · rintro ⟨h1, h2⟩
    refine ⟨(n - (sumI (boxesP d) + sumI (boxesR d)) - s.lo).toNat, List.mem_range.2 (by omega), by omega⟩
theorem lanes_rise (d : Deck) (s : Span) : Rise (lanesS d s) := by
  unfold lanesS
  rw [Rise, List.pairwise_map]
  exact List.pairwise_lt_range.imp fun h => by omega
def needsS (d : Deck) (l : List Span) : List Int := l.foldl (fun out s => eitherS out (lanesS d s)) []
theorem needs_go (d : Deck) : ∀ (l : List Span) (out : List Int), Rise out → Rise (l.foldl (fun out s => eitherS out (lanesS d s)) out) ∧
    ∀ n, n ∈ l.foldl (fun out s => eitherS out (lanesS d s)) out ↔ n ∈ out ∨ ∃ s ∈ l, n ∈ lanesS d s
  | [], out, h => ⟨h, fun n => by simp⟩
  | s :: l, out, h => by
    obtain ⟨h1, h2⟩ := needs_go d l (eitherS out (lanesS d s)) (either_rise h)
    refine ⟨h1, fun n => ?_⟩
    rw [List.foldl_cons, h2, mem_either]
    constructor
    · rintro ((h | h) | ⟨t, ht, h⟩)
      · exact .inl h
      · exact .inr ⟨s, by simp, h⟩
      · exact .inr ⟨t, by simp [ht], h⟩
    · rintro (h | ⟨t, ht, h⟩)
      · exact .inl (.inl h)
      · rcases List.mem_cons.1 ht with e | e
        · subst e; exact .inl (.inr h)
        · exact .inr ⟨t, e, h⟩
theorem needs_rise (d : Deck) (l : List Span) : Rise (needsS d l) := (needs_go d l [] .nil).1
theorem mem_needs {d : Deck} {l : List Span} {n : Int} : n ∈ needsS d l ↔ ∃ s ∈ l, n ∈ lanesS d s := by
  have := (needs_go d l [] .nil).2 n
  unfold needsS; rw [this]; simp
/-- The same numbers in spans: the same lanes. -/
theorem needs_den {d : Deck} {l m : List Span} (h : ∀ n : Int, (∃ s ∈ m, s.lo ≤ n ∧ n ≤ s.hi) ↔ ∃ s ∈ l, s.lo ≤ n ∧ n ≤ s.hi) : setS (m.flatMap (lanesS d)) = needsS d l := by
  refine rise_ext (set_rise _) (needs_rise _ _) fun n => ?_
  rw [mem_set, mem_needs, List.mem_flatMap]
  simp only [mem_lanes]
  exact h _
end Go.Proofs.Zn

/- The table of all parts, what is picked of it: plain models. (Own work.) -/
namespace Go.Proofs.Zn
open Go Go.VL

/-! ### the first thing that is wrong -/
def errL : List (Span × Int) → Int
  | [] => 0
  | p :: l => bif p.2 != 0 then p.2 else errL l
theorem errL_app : ∀ (l m : List (Span × Int)), errL (l ++ m) = bif errL l != 0 then errL l else errL m
  | [], m => rfl
  | p :: l, m => by
    simp only [List.cons_append, errL, errL_app l m]
    cases h : p.2 != 0
    · rfl
    · simp [h]
theorem errL_zero : ∀ {l : List (Span × Int)}, errL l = 0 → ∀ p ∈ l, p.2 = 0
  | [], _, _, h => by cases h
  | q :: l, h, p, hp => by
    simp only [errL] at h
    cases hq : q.2 != 0
    · rw [hq, cond_false] at h
      rcases List.mem_cons.1 hp with e | e
      · subst e; simpa using hq
      · exact errL_zero h p e
    · rw [hq, cond_true] at h
      rw [h] at hq; cases hq
theorem errL_rep {L : List (Span × Int)} : ∀ n : Nat, errL (List.replicate (n + 1) L).flatten = errL L
  | 0 => by simp [List.replicate]
  | n + 1 => by
    rw [List.replicate_succ, List.flatten_cons, errL_app, errL_rep n]
    cases h : errL L != 0 <;> rfl
def tryS (L : List (Span × Int)) : List Span × Int := bif errL L != 0 then ([], errL L) else (L.map Prod.fst, 0)
abbrev covL (d : Deck) (l : List Part) : List (Span × Int) := l.map (coverS d)
def colsL (k u : Int) (n : Nat) : List Part := (List.range n).map fun c : Nat => ⟨k, u, 0, (c : Int)⟩

theorem range_mod {α : Type} (C : Nat) (f : Nat → α) : ∀ R : Nat, (List.range (R * C)).map (fun n => f (n % C)) = (List.replicate R ((List.range C).map f)).flatten
  | 0 => by simp
  | R + 1 => by
    rw [Nat.succ_mul, List.range_add, List.map_append, range_mod C f R, List.replicate_succ', List.flatten_append, List.map_map]
    congr 1
    simp only [List.flatten_cons, List.flatten_nil, List.append_nil]
    refine List.map_congr_left fun n hn => ?_
    have := List.mem_range.1 hn
    simp only [Function.comp]
    rw [Nat.mul_comm, Nat.mul_add_mod, Nat.mod_eq_of_lt this]
theorem cov_places (d : Deck) {k u r c : Int} (hr : 0 ≤ r) (hc : 0 ≤ c) : covL d (placesS k u r c) = (List.replicate r.toNat (covL d (colsL k u c.toNat))).flatten := by
  obtain ⟨R, rfl⟩ := Int.eq_ofNat_of_zero_le hr
  obtain ⟨C, rfl⟩ := Int.eq_ofNat_of_zero_le hc
  have e : (((R : Nat) : Int) * ((C : Nat) : Int)).toNat = R * C := by rw [← Int.natCast_mul]; rfl
  simp only [covL, placesS, colsL, List.map_map, e, Int.toNat_natCast]
  rw [← range_mod C _ R]
  refine List.map_congr_left fun n _ => ?_
  simp only [Function.comp, coverS, rowS, Int.natCast_emod]

/-- The table of a deck. -/
def tableS (d : Deck) : List Span × Int := bif deckS d != 0 then ([], deckS d) else tryS (covL d (partsS d))
def zoneS (d : Deck) : Int := (tableS d).2
def restS (d : Deck) (i : Nat) : List Part := unitsS 1 i ((boxesP d).drop i) ++ (unitsS 2 0 (boxesR d) ++ lanesL (d.borders.length - 1))
def restR (d : Deck) (i : Nat) : List Part := unitsS 2 i ((boxesR d).drop i) ++ lanesL (d.borders.length - 1)
theorem lanes_cov (d : Deck) (n : Nat) : covL d (lanesL n) = (List.range n).map fun i : Nat => (⟨(i : Int), (i : Int)⟩, 0) := by
  simp only [covL, lanesL, List.map_map]; rfl
theorem lanes_err (d : Deck) (n : Nat) : errL (covL d (lanesL n)) = 0 := by
  rw [lanes_cov]
  have : ∀ l : List Nat, errL (l.map fun i : Nat => ((⟨(i : Int), (i : Int)⟩ : Span), (0 : Int))) = 0 := fun l => by
    induction l with
    | nil => rfl
    | cons a l ih => simp only [List.map_cons, errL]; exact ih
  exact this _

theorem table_ok {d : Deck} (h : (tableS d).2 = 0) : DeckOk d ∧ errL (covL d (partsS d)) = 0 ∧ (tableS d).1 = (covL d (partsS d)).map Prod.fst := by
  unfold tableS at h ⊢
  cases h1 : deckS d != 0
  · rw [h1, cond_false] at h
    rw [cond_false]
    have hd : DeckOk d := deck_ok (by simpa using h1)
    unfold tryS at h ⊢
    cases h2 : errL (covL d (partsS d)) != 0
    · exact ⟨hd, by simpa using h2, rfl⟩
    · rw [h2, cond_true] at h
      have h : errL (covL d (partsS d)) = 0 := h
      rw [h] at h2; cases h2
  · rw [h1, cond_true] at h
    have h : deckS d = 0 := h
    rw [h] at h1; cases h1
def SpanOk (d : Deck) (s : Span) : Prop := 0 ≤ s.lo ∧ s.lo ≤ s.hi ∧ s.hi < (d.borders.length : Int) - 1
theorem table_spans {d : Deck} (h : (tableS d).2 = 0) : ∀ s ∈ (tableS d).1, SpanOk d s := by
  obtain ⟨_, h2, h3⟩ := table_ok h
  intro s hs
  rw [h3] at hs
  obtain ⟨q, hq, rfl⟩ := List.mem_map.1 hs
  have h0 := errL_zero h2 q hq
  obtain ⟨p, hp, rfl⟩ := List.mem_map.1 hq
  exact cover_ok (parts_valid hp) h0

/-- What ids pick of a table. -/
def pickGo (t : List Span) : List Span → List Int → List Span × Int
  | acc, [] => (acc, 0)
  | acc, i :: l => bif decide (i < 0) then ([], 3) else bif decide (i ≥ (t.length : Int)) then ([], 3) else pickGo t (acc ++ [t.getD i.toNat Ty.span.dflt]) l
def spansS (d : Deck) (ids : List Int) : List Span × Int := bif (tableS d).2 != 0 then ([], (tableS d).2) else pickGo (tableS d).1 [] ids
theorem pick_ok {t : List Span} {Q : Span → Prop} (ht : ∀ s ∈ t, Q s) : ∀ {l : List Int} {acc : List Span}, (∀ s ∈ acc, Q s) → (pickGo t acc l).2 = 0 → (∀ s ∈ (pickGo t acc l).1, Q s) ∧ (pickGo t acc l).1.length = acc.length + l.length
  | [], acc, ha, _ => ⟨ha, rfl⟩
  | i :: l, acc, ha, h => by
    unfold pickGo at h ⊢
    by_cases h1 : i < 0
    · rw [decide_eq_true h1] at h; cases h
    rw [decide_eq_false h1, cond_false] at h ⊢
    by_cases h2 : i ≥ (t.length : Int)
    · rw [decide_eq_true h2] at h; cases h
    rw [decide_eq_false h2, cond_false] at h ⊢
    have hi : i.toNat < t.length := by omega
    obtain ⟨g1, g2⟩ := pick_ok ht (l := l) (acc := acc ++ [t.getD i.toNat Ty.span.dflt]) (fun s hs => by
      rcases List.mem_append.1 hs with e | e
      · exact ha s e
      · rw [getD_at' hi] at e
        rw [List.mem_singleton.1 e]
        exact ht _ (List.getElem_mem _)) h
    exact ⟨g1, by rw [g2]; simp; omega⟩
theorem pick_err {t : List Span} : ∀ {l : List Int} {acc : List Span}, (pickGo t acc l).2 ≠ 0 → pickGo t acc l = ([], 3)
  | [], acc, h => absurd rfl h
  | i :: l, acc, h => by
    unfold pickGo at h ⊢
    by_cases h1 : i < 0
    · rw [decide_eq_true h1]; rfl
    rw [decide_eq_false h1, cond_false] at h ⊢
    by_cases h2 : i ≥ (t.length : Int)
    · rw [decide_eq_true h2]; rfl
    rw [decide_eq_false h2, cond_false] at h ⊢
    exact pick_err h
theorem spans_ok {d : Deck} {ids : List Int} (h : (spansS d ids).2 = 0) : DeckOk d ∧ (∀ s ∈ (spansS d ids).1, SpanOk d s) ∧ (spansS d ids).1.length = ids.length := by
  unfold spansS at h ⊢
  cases h1 : (tableS d).2 != 0
  · rw [h1, cond_false] at h
    rw [cond_false]
    have h0 : (tableS d).2 = 0 := by simpa using h1
    obtain ⟨g1, g2⟩ := pick_ok (table_spans h0) (acc := []) (fun s hs => by cases hs) h
    exact ⟨(table_ok h0).1, g1, by simpa using g2⟩
  · rw [h1, cond_true] at h
    have h : (tableS d).2 = 0 := h
    rw [h] at h1; cases h1
theorem spans_err {d : Deck} {ids : List Int} (h : (spansS d ids).2 ≠ 0) : (spansS d ids).1 = [] := by
  unfold spansS at h ⊢
  cases h1 : (tableS d).2 != 0
  · rw [h1, cond_false] at h
    rw [cond_false, pick_err h]
  · rfl

def needsR (d : Deck) (ids : List Int) : List Int × Int := bif (spansS d ids).2 != 0 then ([], (spansS d ids).2) else (needsS d (spansS d ids).1, 0)
def two (l : List Span) : Span × Span := (l.getD 0 Ty.span.dflt, l.getD 1 Ty.span.dflt)
def clashS (a b : Span) : Bool := bif decide (a.lo ≤ b.hi) then decide (b.lo ≤ a.hi) else false
def wayS (a b : Span) : Span := ⟨bif decide (b.lo < a.lo) then b.lo else a.lo, bif decide (b.hi > a.hi) then b.hi else a.hi⟩
def clashR (d : Deck) (a b : Int) : Bool × Int := bif (spansS d [a, b]).2 != 0 then (false, (spansS d [a, b]).2) else (clashS (two (spansS d [a, b]).1).1 (two (spansS d [a, b]).1).2, 0)
def pathR (d : Deck) (a b : Int) : List Int × Int := bif (spansS d [a, b]).2 != 0 then ([], (spansS d [a, b]).2) else (lanesS d (wayS (two (spansS d [a, b]).1).1 (two (spansS d [a, b]).1).2), 0)
end Go.Proofs.Zn

namespace Go.Proofs.Zn
open Go Go.VL

def plateC (p : Plate) : List AV := [i64 p.rows, i64 p.cols, .d (.f p.x), .d (.f p.pitch), .d (.f p.reach), i64 p.cap, .d (.sl .int p.start)]
def deckC (d : Deck) : List AV := [.d (.sl .flt d.borders), .d (.sl .plate d.plates), .d (.sl .rack d.racks), i64 d.arms]
def L127 (p : Plate) (i : Int) : AS := mkS 40 [(1, .ptr 0 0), (25, .d (.sl .int p.start)), (26, i64 p.start.length), (27, i64 i)] [(0, .box (plateC p))] 1
def L128 (l : List Go.VL.Box) (n i : Int) : AS := mkS 18 [(3, i64 n), (6, .d (.sl .box l)), (7, i64 l.length), (8, i64 i)] [] 0
def L117 (d : Deck) (out : List Go.VL.Box) (i : Int) : AS := mkS 23 [(3, .own 0 .box), (7, .d (.sl .plate d.plates)), (8, i64 d.plates.length), (9, i64 i)] [(0, .row 158 .box out)] 1
def L118 (d : Deck) (out : List Go.VL.Box) (i : Int) : AS := mkS 23 [(3, .own 0 .box), (7, .d (.sl .rack d.racks)), (8, i64 d.racks.length), (9, i64 i)] [(0, .row 158 .box out)] 1
def L92 (d : Deck) (x y : List Go.VL.Box) (i : Int) : AS := mkS 78 [(1, .ptr 0 0), (4, .d (.sl .box x)), (5, .d (.sl .box y)), (40, .d (.sl .box x)), (41, i64 x.length), (42, i64 i)] [(0, .box (deckC d))] 1
def L116 (l : List Go.VL.Box) (k n i : Int) : AS := mkS 41 [(2, i64 n), (6, .ptr 0 0), (7, .ptr 1 0), (12, .d (.sl .box l)), (13, i64 l.length), (14, i64 i)] [(0, .box [i64 0, i64 0, i64 0, i64 0]), (1, .box [i64 k, i64 0, i64 0, i64 0])] 2
def L122 (p : Plate) (i : Int) : AS := mkS 54 [(1, .ptr 0 0), (3, i64 i)] [(0, .box (plateC p))] 1
def L89 (d : Deck) (w t i : Int) : AS := mkS 103 [(1, .ptr 0 0), (4, i64 w), (5, i64 t), (6, i64 i)] [(0, .box (deckC d))] 1
def L124 (k u r c : Int) (out : List Part) (i : Int) : AS := mkS 31 [(0, i64 k), (1, i64 u), (2, i64 r), (3, i64 c), (9, .own 0 .part), (10, i64 i)] [(0, .row 63 .part out)] 1
def L90 (d : Deck) (out : List Part) (i : Int) : AS := mkS 71 [(1, .ptr 0 0), (3, .own 1 .part), (4, i64 i)] [(0, .box (deckC d)), (1, .row 63 .part out)] 2
def L37 (d : Deck) (i : Int) : AS := mkS 35 [(1, .ptr 0 0), (3, i64 i)] [(0, .box (deckC d))] 1


theorem t127a (p : Plate) (i : Int) : @Eq (Out (TyTup [.bool])) (aexec Try.prog codes sigs Try.f127 (pureFin [.bool]) 0 noCut 200 true (hd Try.f127 0) (L127 p i))
    (bif decide (i < (↑(List.length (Plate.start p)) : Int)) then
  Out.need (((0 : Int) ≤ i ∧ i < (↑(List.length (Plate.start p)) : Int)) ∧ True)
    (bif decide (List.getD (Plate.start p) (Int.toNat i) (Ty.dflt Ty.int) < (0 : Int)) then
      Out.need (True ∧ True) (Out.ret false)
    else
      bif decide (List.getD (Plate.start p) (Int.toNat i) (Ty.dflt Ty.int) > Plate.cap p) then
        Out.need (True ∧ True) (Out.ret false)
      else
        Out.stop (hd Try.f127 (0 : Nat))
          (mkS (40 : Nat)
            [((1 : Nat), AV.ptr (0 : Nat) (0 : Nat)), ((25 : Nat), AV.d (D.sl Ty.int (Plate.start p))),
              ((26 : Nat), AV.d (D.v (Value.int IntKind.i64 (↑(List.length (Plate.start p)) : Int)))),
              ((27 : Nat), AV.d (D.v (Value.int IntKind.i64 (IntKind.wrap IntKind.i64 (i + (1 : Int))))))]
            [((0 : Nat),
                ABlk.box
                  [AV.d (D.v (Value.int IntKind.i64 (Plate.rows p))), AV.d (D.v (Value.int IntKind.i64 (Plate.cols p))),
                    AV.d (D.f (Plate.x p)), AV.d (D.f (Plate.pitch p)), AV.d (D.f (Plate.reach p)),
                    AV.d (D.v (Value.int IntKind.i64 (Plate.cap p))), AV.d (D.sl Ty.int (Plate.start p))])]
            (1 : Nat)))
  else Out.need (True ∧ True) (Out.ret true)) := by kernel_rfl

theorem t128a (l : List Go.VL.Box) (n i : Int) : @Eq (Out (TyTup [.int])) (aexec Try.prog codes sigs Try.f128 (pureFin [.int]) 0 noCut 200 true (hd Try.f128 0) (L128 l n i))
    (bif decide (i < (↑(List.length l) : Int)) then
  Out.need (((0 : Int) ≤ i ∧ i < (↑(List.length l) : Int)) ∧ True)
    (Out.need ((True ∧ True ∧ True) ∧ True)
      (Out.callP (141 : Nat) [Sigma.mk Ty.box (List.getD l (Int.toNat i) (Ty.dflt Ty.box))] [Ty.int] fun (x : Int) =>
        Out.stop (hd Try.f128 (0 : Nat))
          (mkS (18 : Nat)
            [((3 : Nat), AV.d (D.v (Value.int IntKind.i64 (IntKind.wrap IntKind.i64 (n + x))))),
              ((6 : Nat), AV.d (D.sl Ty.box l)),
              ((7 : Nat), AV.d (D.v (Value.int IntKind.i64 (↑(List.length l) : Int)))),
              ((8 : Nat), AV.d (D.v (Value.int IntKind.i64 (IntKind.wrap IntKind.i64 (i + (1 : Int))))))]
            [] (0 : Nat))))
  else Out.need (True ∧ True) (Out.ret n)) := by kernel_rfl

theorem t117a (d : Deck) (out : List Go.VL.Box) (i : Int) : @Eq (Out (TyTup [.sl .box])) (aexec Try.prog codes sigs Try.f117 (pureFin [.sl .box]) 0 noCut 200 true (hd Try.f117 0) (L117 d out i))
    (bif decide (i < (↑(List.length (Deck.plates d)) : Int)) then
  Out.need (((0 : Int) ≤ i ∧ i < (↑(List.length (Deck.plates d)) : Int)) ∧ True)
    (Out.need ((True ∧ True ∧ True) ∧ True)
      (Out.need
        ((List.length out +
                List.length
                  [Box.mk (Plate.rows (List.getD (Deck.plates d) (Int.toNat i) (Ty.dflt Ty.plate)))
                      (Plate.cols (List.getD (Deck.plates d) (Int.toNat i) (Ty.dflt Ty.plate)))]) *
              (17 : Nat) ≤
            (35184372088832 : Nat) ∧
          True)
        (Out.stop (hd Try.f117 (0 : Nat))
          (mkS (23 : Nat)
            [((3 : Nat), AV.own (0 : Nat) Ty.box), ((7 : Nat), AV.d (D.sl Ty.plate (Deck.plates d))),
              ((8 : Nat), AV.d (D.v (Value.int IntKind.i64 (↑(List.length (Deck.plates d)) : Int)))),
              ((9 : Nat), AV.d (D.v (Value.int IntKind.i64 (IntKind.wrap IntKind.i64 (i + (1 : Int))))))]
            [((0 : Nat),
                ABlk.row (158 : Nat) Ty.box
                  (out ++
                    [Box.mk (Plate.rows (List.getD (Deck.plates d) (Int.toNat i) (Ty.dflt Ty.plate)))
                        (Plate.cols (List.getD (Deck.plates d) (Int.toNat i) (Ty.dflt Ty.plate)))]))]
            (1 : Nat)))))
  else Out.need (True ∧ True) (Out.ret out)) := by kernel_rfl

theorem t118a (d : Deck) (out : List Go.VL.Box) (i : Int) : @Eq (Out (TyTup [.sl .box])) (aexec Try.prog codes sigs Try.f118 (pureFin [.sl .box]) 0 noCut 200 true (hd Try.f118 0) (L118 d out i))
    (bif decide (i < (↑(List.length (Deck.racks d)) : Int)) then
  Out.need (((0 : Int) ≤ i ∧ i < (↑(List.length (Deck.racks d)) : Int)) ∧ True)
    (Out.need ((True ∧ True ∧ True) ∧ True)
      (Out.need
        ((List.length out +
                List.length
                  [Box.mk (Rack.rows (List.getD (Deck.racks d) (Int.toNat i) (Ty.dflt Ty.rack)))
                      (Rack.cols (List.getD (Deck.racks d) (Int.toNat i) (Ty.dflt Ty.rack)))]) *
              (17 : Nat) ≤
            (35184372088832 : Nat) ∧
          True)
        (Out.stop (hd Try.f118 (0 : Nat))
          (mkS (23 : Nat)
            [((3 : Nat), AV.own (0 : Nat) Ty.box), ((7 : Nat), AV.d (D.sl Ty.rack (Deck.racks d))),
              ((8 : Nat), AV.d (D.v (Value.int IntKind.i64 (↑(List.length (Deck.racks d)) : Int)))),
              ((9 : Nat), AV.d (D.v (Value.int IntKind.i64 (IntKind.wrap IntKind.i64 (i + (1 : Int))))))]
            [((0 : Nat),
                ABlk.row (158 : Nat) Ty.box
                  (out ++
                    [Box.mk (Rack.rows (List.getD (Deck.racks d) (Int.toNat i) (Ty.dflt Ty.rack)))
                        (Rack.cols (List.getD (Deck.racks d) (Int.toNat i) (Ty.dflt Ty.rack)))]))]
            (1 : Nat)))))
  else Out.need (True ∧ True) (Out.ret out)) := by kernel_rfl

theorem t92a (d : Deck) (x y : List Go.VL.Box) (i : Int) : @Eq (Out (TyTup [.int])) (aexec Try.prog codes sigs Try.f92 (pureFin [.int]) 0 noCut 200 true (hd Try.f92 0) (L92 d x y i))
    (bif decide (i < (↑(List.length x) : Int)) then
  Out.need (((0 : Int) ≤ i ∧ i < (↑(List.length x) : Int)) ∧ True)
    (Out.need ((True ∧ True ∧ True) ∧ True)
      (Out.callP (126 : Nat) [Sigma.mk Ty.box (List.getD x (Int.toNat i) (Ty.dflt Ty.box))] [Ty.bool]
        fun (x_1 : Bool) =>
        bif !x_1 then Out.need (True ∧ True) (Out.ret (81 : Int))
        else
          Out.need (((0 : Int) ≤ i ∧ i < (↑(List.length (Deck.plates d)) : Int)) ∧ True)
            (Out.need ((True ∧ True ∧ True ∧ True ∧ True ∧ True ∧ True ∧ True) ∧ True)
              (Out.callP (127 : Nat) [Sigma.mk Ty.plate (List.getD (Deck.plates d) (Int.toNat i) (Ty.dflt Ty.plate))]
                [Ty.bool] fun (x_2 : Bool) =>
                bif !x_2 then Out.need (True ∧ True) (Out.ret (81 : Int))
                else
                  Out.stop (hd Try.f92 (0 : Nat))
                    (mkS (78 : Nat)
                      [((1 : Nat), AV.ptr (0 : Nat) (0 : Nat)), ((4 : Nat), AV.d (D.sl Ty.box x)),
                        ((5 : Nat), AV.d (D.sl Ty.box y)), ((40 : Nat), AV.d (D.sl Ty.box x)),
                        ((41 : Nat), AV.d (D.v (Value.int IntKind.i64 (↑(List.length x) : Int)))),
                        ((42 : Nat), AV.d (D.v (Value.int IntKind.i64 (IntKind.wrap IntKind.i64 (i + (1 : Int))))))]
                      [((0 : Nat),
                          ABlk.box
                            [AV.d (D.sl Ty.flt (Deck.borders d)), AV.d (D.sl Ty.plate (Deck.plates d)),
                              AV.d (D.sl Ty.rack (Deck.racks d)), AV.d (D.v (Value.int IntKind.i64 (Deck.arms d)))])]
                      (1 : Nat))))))
  else
  Out.stop (hd Try.f92 (1 : Nat))
    (mkS (78 : Nat)
      [((4 : Nat), AV.d (D.sl Ty.box x)), ((5 : Nat), AV.d (D.sl Ty.box y)), ((60 : Nat), AV.d (D.sl Ty.box y)),
        ((61 : Nat), AV.d (D.v (Value.int IntKind.i64 (↑(List.length y) : Int)))),
        ((62 : Nat), AV.d (D.v (Value.int IntKind.i64 (0 : Int))))]
      [] (0 : Nat))) := by kernel_rfl

theorem t116a (l : List Go.VL.Box) (k n i : Int) : @Eq (Out (TyTup [.part])) (aexec Try.prog codes sigs Try.f116 (pureFin [.part]) 0 noCut 200 true (hd Try.f116 0) (L116 l k n i))
    (bif decide (i < (↑(List.length l) : Int)) then
  Out.need (((0 : Int) ≤ i ∧ i < (↑(List.length l) : Int)) ∧ True)
    (Out.need ((True ∧ True ∧ True) ∧ True)
      (Out.callP (141 : Nat) [Sigma.mk Ty.box (List.getD l (Int.toNat i) (Ty.dflt Ty.box))] [Ty.int] fun (x : Int) =>
        bif decide (n < x) then
          Out.need (Box.cols (List.getD l (Int.toNat i) (Ty.dflt Ty.box)) ≠ (0 : Int))
            (Out.need (Box.cols (List.getD l (Int.toNat i) (Ty.dflt Ty.box)) ≠ (0 : Int))
              (Out.need (True ∧ True ∧ True ∧ True ∧ True)
                (Out.ret
                  (Part.mk k i
                    (IntKind.wrap IntKind.i64 (Int.tdiv n (Box.cols (List.getD l (Int.toNat i) (Ty.dflt Ty.box)))))
                    (Int.tmod n (Box.cols (List.getD l (Int.toNat i) (Ty.dflt Ty.box))))))))
        else
          Out.need ((True ∧ True ∧ True) ∧ True)
            (Out.callP (141 : Nat) [Sigma.mk Ty.box (List.getD l (Int.toNat i) (Ty.dflt Ty.box))] [Ty.int]
              fun (x : Int) =>
              Out.stop (hd Try.f116 (0 : Nat))
                (mkS (41 : Nat)
                  [((2 : Nat), AV.d (D.v (Value.int IntKind.i64 (IntKind.wrap IntKind.i64 (n - x))))),
                    ((6 : Nat), AV.ptr (0 : Nat) (0 : Nat)), ((7 : Nat), AV.ptr (1 : Nat) (0 : Nat)),
                    ((12 : Nat), AV.d (D.sl Ty.box l)),
                    ((13 : Nat), AV.d (D.v (Value.int IntKind.i64 (↑(List.length l) : Int)))),
                    ((14 : Nat), AV.d (D.v (Value.int IntKind.i64 (IntKind.wrap IntKind.i64 (i + (1 : Int))))))]
                  [((0 : Nat),
                      ABlk.box
                        [AV.d (D.v (Value.int IntKind.i64 (0 : Int))), AV.d (D.v (Value.int IntKind.i64 (0 : Int))),
                          AV.d (D.v (Value.int IntKind.i64 (0 : Int))), AV.d (D.v (Value.int IntKind.i64 (0 : Int)))]),
                    ((1 : Nat),
                      ABlk.box
                        [AV.d (D.v (Value.int IntKind.i64 k)), AV.d (D.v (Value.int IntKind.i64 (0 : Int))),
                          AV.d (D.v (Value.int IntKind.i64 (0 : Int))), AV.d (D.v (Value.int IntKind.i64 (0 : Int)))])]
                  (2 : Nat)))))
  else Out.need (True ∧ True ∧ True ∧ True ∧ True) (Out.ret (Part.mk k (0 : Int) (0 : Int) (0 : Int)))) := by kernel_rfl

theorem t122a (p : Plate) (i : Int) : @Eq (Out (TyTup [.bool])) (aexec Try.prog codes sigs Try.f122 (pureFin [.bool]) 0 noCut 200 true (hd Try.f122 0) (L122 p i))
    (bif decide (i < (↑(List.length (Plate.start p)) : Int)) then
  Out.need (((0 : Int) ≤ i ∧ i < (↑(List.length (Plate.start p)) : Int)) ∧ True)
    (bif decide (List.getD (Plate.start p) (Int.toNat i) (Ty.dflt Ty.int) < (0 : Int)) then
      Out.need (True ∧ True) (Out.ret false)
    else
      Out.need (((0 : Int) ≤ i ∧ i < (↑(List.length (Plate.start p)) : Int)) ∧ True)
        (bif decide (List.getD (Plate.start p) (Int.toNat i) (Ty.dflt Ty.int) > Plate.cap p) then
          Out.need (True ∧ True) (Out.ret false)
        else
          Out.stop (hd Try.f122 (0 : Nat))
            (mkS (54 : Nat)
              [((1 : Nat), AV.ptr (0 : Nat) (0 : Nat)),
                ((3 : Nat), AV.d (D.v (Value.int IntKind.i64 (IntKind.wrap IntKind.i64 (i + (1 : Int))))))]
              [((0 : Nat),
                  ABlk.box
                    [AV.d (D.v (Value.int IntKind.i64 (Plate.rows p))),
                      AV.d (D.v (Value.int IntKind.i64 (Plate.cols p))), AV.d (D.f (Plate.x p)),
                      AV.d (D.f (Plate.pitch p)), AV.d (D.f (Plate.reach p)),
                      AV.d (D.v (Value.int IntKind.i64 (Plate.cap p))), AV.d (D.sl Ty.int (Plate.start p))])]
              (1 : Nat))))
  else Out.need (True ∧ True) (Out.ret true)) := by kernel_rfl

theorem t89a (d : Deck) (w t i : Int) : @Eq (Out (TyTup [.int])) (aexec Try.prog codes sigs Try.f89 (pureFin [.int]) 0 noCut 200 true (hd Try.f89 0) (L89 d w t i))
    (bif decide (i < (↑(List.length (Deck.plates d)) : Int)) then
  Out.need (((0 : Int) ≤ i ∧ i < (↑(List.length (Deck.plates d)) : Int)) ∧ True)
    (Out.need ((True ∧ True ∧ True ∧ True ∧ True ∧ True ∧ True ∧ True) ∧ True)
      (Out.callP (122 : Nat) [Sigma.mk Ty.plate (List.getD (Deck.plates d) (Int.toNat i) (Ty.dflt Ty.plate))] [Ty.bool]
        fun (x : Bool) =>
        bif !x then Out.need (True ∧ True) (Out.ret (81 : Int))
        else
          Out.need (((0 : Int) ≤ i ∧ i < (↑(List.length (Deck.plates d)) : Int)) ∧ True)
            (Out.need (((0 : Int) ≤ i ∧ i < (↑(List.length (Deck.plates d)) : Int)) ∧ True)
              (Out.stop (hd Try.f89 (0 : Nat))
                (mkS (103 : Nat)
                  [((1 : Nat), AV.ptr (0 : Nat) (0 : Nat)),
                    ((4 : Nat),
                      AV.d
                        (D.v
                          (Value.int IntKind.i64
                            (IntKind.wrap IntKind.i64
                              (w +
                                IntKind.wrap IntKind.i64
                                  (Plate.rows (List.getD (Deck.plates d) (Int.toNat i) (Ty.dflt Ty.plate)) *
                                    Plate.cols (List.getD (Deck.plates d) (Int.toNat i) (Ty.dflt Ty.plate)))))))),
                    ((5 : Nat), AV.d (D.v (Value.int IntKind.i64 t))),
                    ((6 : Nat), AV.d (D.v (Value.int IntKind.i64 (IntKind.wrap IntKind.i64 (i + (1 : Int))))))]
                  [((0 : Nat),
                      ABlk.box
                        [AV.d (D.sl Ty.flt (Deck.borders d)), AV.d (D.sl Ty.plate (Deck.plates d)),
                          AV.d (D.sl Ty.rack (Deck.racks d)), AV.d (D.v (Value.int IntKind.i64 (Deck.arms d)))])]
                  (1 : Nat))))))
  else
  Out.stop (hd Try.f89 (1 : Nat))
    (mkS (103 : Nat)
      [((1 : Nat), AV.ptr (0 : Nat) (0 : Nat)), ((4 : Nat), AV.d (D.v (Value.int IntKind.i64 w))),
        ((5 : Nat), AV.d (D.v (Value.int IntKind.i64 t))), ((7 : Nat), AV.d (D.v (Value.int IntKind.i64 (0 : Int))))]
      [((0 : Nat),
          ABlk.box
            [AV.d (D.sl Ty.flt (Deck.borders d)), AV.d (D.sl Ty.plate (Deck.plates d)),
              AV.d (D.sl Ty.rack (Deck.racks d)), AV.d (D.v (Value.int IntKind.i64 (Deck.arms d)))])]
      (1 : Nat))) := by kernel_rfl

theorem t124a (k u r c : Int) (out : List Part) (i : Int) : @Eq (Out (TyTup [.sl .part])) (aexec Try.prog codes sigs Try.f124 (pureFin [.sl .part]) 0 noCut 200 true (hd Try.f124 0) (L124 k u r c out i))
    (bif decide (i < r) then
  Out.stop (hd Try.f124 (1 : Nat))
    (mkS (31 : Nat)
      [((0 : Nat), AV.d (D.v (Value.int IntKind.i64 k))), ((1 : Nat), AV.d (D.v (Value.int IntKind.i64 u))),
        ((2 : Nat), AV.d (D.v (Value.int IntKind.i64 r))), ((3 : Nat), AV.d (D.v (Value.int IntKind.i64 c))),
        ((9 : Nat), AV.own (0 : Nat) Ty.part), ((10 : Nat), AV.d (D.v (Value.int IntKind.i64 i))),
        ((11 : Nat), AV.d (D.v (Value.int IntKind.i64 (0 : Int))))]
      [((0 : Nat), ABlk.row (63 : TypeId) Ty.part out)] (1 : Nat))
  else Out.need (True ∧ True) (Out.ret out)) := by kernel_rfl

theorem t90a (d : Deck) (out : List Part) (i : Int) : @Eq (Out (TyTup [.sl .part])) (aexec Try.prog codes sigs Try.f90 (pureFin [.sl .part]) 0 noCut 200 true (hd Try.f90 0) (L90 d out i))
    (bif decide (i < (↑(List.length (Deck.plates d)) : Int)) then
  Out.need (((0 : Int) ≤ i ∧ i < (↑(List.length (Deck.plates d)) : Int)) ∧ True)
    (Out.need (((0 : Int) ≤ i ∧ i < (↑(List.length (Deck.plates d)) : Int)) ∧ True)
      (Out.need ((True ∧ True) ∧ (True ∧ True) ∧ (True ∧ True) ∧ (True ∧ True) ∧ True)
        (Out.callP (124 : Nat)
          [Sigma.mk Ty.int (1 : Int), Sigma.mk Ty.int i,
            Sigma.mk Ty.int (Plate.rows (List.getD (Deck.plates d) (Int.toNat i) (Ty.dflt Ty.plate))),
            Sigma.mk Ty.int (Plate.cols (List.getD (Deck.plates d) (Int.toNat i) (Ty.dflt Ty.plate)))]
          [Ty.sl Ty.part] fun (x : List Part) =>
          Out.need ((List.length out + List.length x) * (33 : Nat) ≤ (35184372088832 : Nat) ∧ True)
            (Out.stop (hd Try.f90 (0 : Nat))
              (mkS (71 : Nat)
                [((1 : Nat), AV.ptr (0 : Nat) (0 : Nat)), ((3 : Nat), AV.own (1 : Nat) Ty.part),
                  ((4 : Nat), AV.d (D.v (Value.int IntKind.i64 (IntKind.wrap IntKind.i64 (i + (1 : Int))))))]
                [((0 : Nat),
                    ABlk.box
                      [AV.d (D.sl Ty.flt (Deck.borders d)), AV.d (D.sl Ty.plate (Deck.plates d)),
                        AV.d (D.sl Ty.rack (Deck.racks d)), AV.d (D.v (Value.int IntKind.i64 (Deck.arms d)))]),
                  ((1 : Nat), ABlk.row (63 : Nat) Ty.part (out ++ x))]
                (2 : Nat))))))
  else
  Out.stop (hd Try.f90 (1 : Nat))
    (mkS (71 : Nat)
      [((1 : Nat), AV.ptr (0 : Nat) (0 : Nat)), ((3 : Nat), AV.own (1 : Nat) Ty.part),
        ((5 : Nat), AV.d (D.v (Value.int IntKind.i64 (0 : Int))))]
      [((0 : Nat),
          ABlk.box
            [AV.d (D.sl Ty.flt (Deck.borders d)), AV.d (D.sl Ty.plate (Deck.plates d)),
              AV.d (D.sl Ty.rack (Deck.racks d)), AV.d (D.v (Value.int IntKind.i64 (Deck.arms d)))]),
        ((1 : Nat), ABlk.row (63 : TypeId) Ty.part out)]
      (2 : Nat))) := by kernel_rfl

theorem t37a (d : Deck) (i : Int) : @Eq (Out (TyTup [.bool])) (aexec Try.prog codes sigs Try.f37 (pureFin [.bool]) 0 noCut 200 true (hd Try.f37 0) (L37 d i))
    (bif decide (i < (↑(List.length (Deck.plates d)) : Int)) then
  Out.need (((0 : Int) ≤ i ∧ i < (↑(List.length (Deck.plates d)) : Int)) ∧ True)
    (bif
        decide
          ((↑(List.length (Plate.start (List.getD (Deck.plates d) (Int.toNat i) (Ty.dflt Ty.plate)))) : Int) >
            (500 : Int)) then
      Out.need (True ∧ True) (Out.ret true)
    else
      Out.stop (hd Try.f37 (0 : Nat))
        (mkS (35 : Nat)
          [((1 : Nat), AV.ptr (0 : Nat) (0 : Nat)),
            ((3 : Nat), AV.d (D.v (Value.int IntKind.i64 (IntKind.wrap IntKind.i64 (i + (1 : Int))))))]
          [((0 : Nat),
              ABlk.box
                [AV.d (D.sl Ty.flt (Deck.borders d)), AV.d (D.sl Ty.plate (Deck.plates d)),
                  AV.d (D.sl Ty.rack (Deck.racks d)), AV.d (D.v (Value.int IntKind.i64 (Deck.arms d)))])]
          (1 : Nat)))
  else Out.need (True ∧ True) (Out.ret false)) := by kernel_rfl

end Go.Proofs.Zn

/- The deck: contracts. (Own work.) -/
namespace Go.Proofs.Zn
open Go Go.VL

theorem c141 {b : Go.VL.Box} (h : boxOk b = true) : Pure Try.prog 141 [⟨.box, b⟩] [.int] (b.rows * b.cols) :=
  ofT Try.func141 (t141 b) (by kernel_rfl) (by kernel_rfl) fun _ => ⟨⟨trivial, trivial⟩, by have := box_size h; exact wrap_i64 (by omega) (by omega)⟩
theorem c126 (b : Go.VL.Box) : Pure Try.prog 126 [⟨.box, b⟩] [.bool] (boxOk b) :=
  ofT Try.func126 (t126 b) (by kernel_rfl) (by kernel_rfl) fun _ =>
    sat_if (fun _ => sat_if (fun _ => sat_if (fun _ => ⟨⟨trivial, trivial⟩, rfl⟩) (fun _ => ⟨⟨trivial, trivial⟩, rfl⟩)) (fun _ => ⟨⟨trivial, trivial⟩, rfl⟩)) (fun _ => ⟨⟨trivial, trivial⟩, rfl⟩)
theorem c123 (r c : Int) : Pure Try.prog 123 [⟨.int, r⟩, ⟨.int, c⟩] [.bool] (boxOk ⟨r, c⟩) :=
  ofT Try.func123 (t123 r c) (by kernel_rfl) (by kernel_rfl) fun _ =>
    sat_if (fun _ => sat_if (fun _ => sat_if (fun _ => ⟨⟨trivial, trivial⟩, rfl⟩) (fun _ => ⟨⟨trivial, trivial⟩, rfl⟩)) (fun _ => ⟨⟨trivial, trivial⟩, rfl⟩)) (fun _ => ⟨⟨trivial, trivial⟩, rfl⟩)

theorem loop128 {l : List Go.VL.Box} (hl : l.length ≤ 1000) (hb : ∀ b ∈ l, boxOk b = true) {r : Int} {A : List Item → AS → Prop} (hA : Closed Try.prog codes sigs Try.f128 (pureFin [.int]) (fun y => y = r) 0 A)
    (i : Nat) (hi : i ≤ l.length) (n : Int) (hn : 0 ≤ n ∧ n ≤ 1536 * (i : Int)) (h : n + sumI (l.drop i) = r) : A (hd Try.f128 0) (L128 l n i) := by
  refine hA.go (t128a l n i) (sat_bif (fun h1 => ?_) (fun h1 => ?_))
  · have h1 := of_decide_eq_true h1
    have hil : i < l.length := by omega
    have hbi := hb l[i] (List.getElem_mem _)
    have hs := box_size hbi
    rw [getD_int hil]
    rw [List.drop_eq_getElem_cons hil, sumI] at h
    refine ⟨⟨⟨by omega, by omega⟩, trivial⟩, ⟨T3', trivial⟩, _, c141 hbi, ?_⟩
    show A (hd Try.f128 0) (L128 l (IntKind.i64.wrap (n + l[i].rows * l[i].cols)) (IntKind.i64.wrap ((i : Int) + 1)))
    rw [wrap_succ (by omega), wrap_i64 (by omega) (by omega)]
    exact loop128 hl hb hA (i + 1) (by omega) _ ⟨by omega, by omega⟩ (by omega)
  · have h1 := of_decide_eq_false h1
    refine ⟨⟨trivial, trivial⟩, ?_⟩
    rw [List.drop_eq_nil_of_le (by omega)] at h
    have h : n = r := by simpa [sumI] using h
    exact h
termination_by l.length - i
theorem c128 {l : List Go.VL.Box} (hl : l.length ≤ 1000) (hb : ∀ b ∈ l, boxOk b = true) : Pure Try.prog 128 [⟨.sl .box, l⟩] [.int] (sumI l) :=
  Pure.of_closed (C := codes) (S := sigs) mixed Try.func128 (by kernel_rfl) (Nat.le_of_ble_eq_true (by kernel_rfl)) fun A hA => hA.go (t128 l)
    (loop128 hl hb hA 0 (by omega) 0 ⟨by omega, by omega⟩ (by simp))

theorem loop117 {d : Deck} (hl : d.plates.length ≤ 1000) {r : List Go.VL.Box} {A : List Item → AS → Prop} (hA : Closed Try.prog codes sigs Try.f117 (pureFin [.sl .box]) (fun y => y = r) 0 A)
    (i : Nat) (hi : i ≤ d.plates.length) (out : List Go.VL.Box) (ho : out.length = i) (h : out ++ (d.plates.drop i).map pbox = r) : A (hd Try.f117 0) (L117 d out i) := by
  refine hA.go (t117a d out i) (sat_bif (fun h1 => ?_) (fun h1 => ?_))
  · have h1 := of_decide_eq_true h1
    have hil : i < d.plates.length := by omega
    rw [getD_int hil]
    rw [List.drop_eq_getElem_cons hil, List.map_cons] at h
    refine ⟨⟨⟨by omega, by omega⟩, trivial⟩, ⟨T3', trivial⟩, ⟨by simp only [List.length_cons, List.length_nil]; omega, trivial⟩, ?_⟩
    rw [wrap_succ (by omega)]
    exact loop117 hl hA (i + 1) (by omega) (out ++ [pbox d.plates[i]]) (by simp [ho]) (by rw [← h]; simp)
  · have h1 := of_decide_eq_false h1
    refine ⟨⟨trivial, trivial⟩, ?_⟩
    rw [List.drop_eq_nil_of_le (by omega)] at h
    have h : out = r := by simpa using h
    exact h
termination_by d.plates.length - i
theorem c117 {d : Deck} (hl : d.plates.length ≤ 1000) : Pure Try.prog 117 [⟨.deck, d⟩] [.sl .box] (boxesP d) :=
  Pure.of_closed (C := codes) (S := sigs) mixed Try.func117 (by kernel_rfl) (Nat.le_of_ble_eq_true (by kernel_rfl)) fun A hA => hA.go (t117 d)
    (hA.row 3 158 .box (s' := L117 d [] 0) (by kernel_rfl) (by kernel_rfl) (loop117 hl hA 0 (by omega) [] rfl rfl))
theorem loop118 {d : Deck} (hl : d.racks.length ≤ 1000) {r : List Go.VL.Box} {A : List Item → AS → Prop} (hA : Closed Try.prog codes sigs Try.f118 (pureFin [.sl .box]) (fun y => y = r) 0 A)
    (i : Nat) (hi : i ≤ d.racks.length) (out : List Go.VL.Box) (ho : out.length = i) (h : out ++ (d.racks.drop i).map rbox = r) : A (hd Try.f118 0) (L118 d out i) := by
  refine hA.go (t118a d out i) (sat_bif (fun h1 => ?_) (fun h1 => ?_))
  · have h1 := of_decide_eq_true h1
    have hil : i < d.racks.length := by omega
    rw [getD_int hil]
    rw [List.drop_eq_getElem_cons hil, List.map_cons] at h
    refine ⟨⟨⟨by omega, by omega⟩, trivial⟩, ⟨T3', trivial⟩, ⟨by simp only [List.length_cons, List.length_nil]; omega, trivial⟩, ?_⟩
    rw [wrap_succ (by omega)]
    exact loop118 hl hA (i + 1) (by omega) (out ++ [rbox d.racks[i]]) (by simp [ho]) (by rw [← h]; simp)
  · have h1 := of_decide_eq_false h1
    refine ⟨⟨trivial, trivial⟩, ?_⟩
    rw [List.drop_eq_nil_of_le (by omega)] at h
    have h : out = r := by simpa using h
    exact h
termination_by d.racks.length - i
theorem c118 {d : Deck} (hl : d.racks.length ≤ 1000) : Pure Try.prog 118 [⟨.deck, d⟩] [.sl .box] (boxesR d) :=
  Pure.of_closed (C := codes) (S := sigs) mixed Try.func118 (by kernel_rfl) (Nat.le_of_ble_eq_true (by kernel_rfl)) fun A hA => hA.go (t118 d)
    (hA.row 3 158 .box (s' := L118 d [] 0) (by kernel_rfl) (by kernel_rfl) (loop118 hl hA 0 (by omega) [] rfl rfl))

/-! ### what a plate holds -/
theorem box_wrap {p : Plate} (h : boxOk (pbox p) = true) : IntKind.i64.wrap (p.rows * p.cols) = p.rows * p.cols := by
  have : 1 ≤ p.rows * p.cols ∧ p.rows * p.cols ≤ 1536 := box_size h
  exact wrap_i64 (by omega) (by omega)
theorem loop127 {p : Plate} (hl : (p.start.length : Int) ≤ 1536) {r : Bool} {A : List Item → AS → Prop} (hA : Closed Try.prog codes sigs Try.f127 (pureFin [.bool]) (fun y => y = r) 0 A)
    (i : Nat) (hi : i ≤ p.start.length) (h : startOk p.cap (p.start.drop i) = r) : A (hd Try.f127 0) (L127 p i) := by
  refine hA.go (t127a p i) (sat_bif (fun h1 => ?_) (fun h1 => ?_))
  · have h1 := of_decide_eq_true h1
    have hil : i < p.start.length := by omega
    rw [getD_int hil]
    rw [List.drop_eq_getElem_cons hil, startOk] at h
    refine ⟨⟨⟨by omega, by omega⟩, trivial⟩, sat_bif (fun h2 => ?_) (fun h2 => sat_bif (fun h3 => ?_) (fun h3 => ?_))⟩
    · rw [h2] at h; exact ⟨⟨trivial, trivial⟩, h⟩
    · rw [h2, h3] at h; exact ⟨⟨trivial, trivial⟩, h⟩
    · rw [h2, h3] at h
      rw [wrap_succ (by omega)]
      exact loop127 hl hA (i + 1) (by omega) h
  · have h1 := of_decide_eq_false h1
    refine ⟨⟨trivial, trivial⟩, ?_⟩
    rw [List.drop_eq_nil_of_le (by omega)] at h
    exact h
termination_by p.start.length - i
theorem c127 {p : Plate} (h : boxOk (pbox p) = true) : Pure Try.prog 127 [⟨.plate, p⟩] [.bool] (holdsS p) :=
  Pure.of_closed (C := codes) (S := sigs) mixed Try.func127 (by kernel_rfl) (Nat.le_of_ble_eq_true (by kernel_rfl)) fun A hA => hA.go (t127 p) (by
    have hs : 1 ≤ p.rows * p.cols ∧ p.rows * p.cols ≤ 1536 := box_size h
    unfold holdsS
    rw [box_wrap h]
    refine sat_bif (fun h1 => ?_) (fun h1 => sat_bif (fun h2 => ?_) (fun h2 => sat_bif (fun h3 => ?_) (fun h3 => ?_)))
    · rw [h1]; exact ⟨⟨trivial, trivial⟩, rfl⟩
    · rw [h1, h2]; exact ⟨⟨trivial, trivial⟩, rfl⟩
    · rw [h1, h2, h3]; exact ⟨⟨trivial, trivial⟩, rfl⟩
    · have := of_decide_eq_false h3
      exact loop127 (by omega) hA 0 (by omega) (by unfold holdsS; rw [h1, h2, h3]; rfl))
theorem loop122 {p : Plate} (hl : (p.start.length : Int) ≤ 1536) {r : Bool} {A : List Item → AS → Prop} (hA : Closed Try.prog codes sigs Try.f122 (pureFin [.bool]) (fun y => y = r) 0 A)
    (i : Nat) (hi : i ≤ p.start.length) (h : startOk p.cap (p.start.drop i) = r) : A (hd Try.f122 0) (L122 p i) := by
  refine hA.go (t122a p i) (sat_bif (fun h1 => ?_) (fun h1 => ?_))
  · have h1 := of_decide_eq_true h1
    have hil : i < p.start.length := by omega
    rw [getD_int hil]
    rw [List.drop_eq_getElem_cons hil, startOk] at h
    refine ⟨⟨⟨by omega, by omega⟩, trivial⟩, sat_bif (fun h2 => ?_) (fun h2 => ⟨⟨⟨by omega, by omega⟩, trivial⟩, sat_bif (fun h3 => ?_) (fun h3 => ?_)⟩)⟩
    · rw [h2] at h; exact ⟨⟨trivial, trivial⟩, h⟩
    · rw [h2, h3] at h; exact ⟨⟨trivial, trivial⟩, h⟩
    · rw [h2, h3] at h
      rw [wrap_succ (by omega)]
      exact loop122 hl hA (i + 1) (by omega) h
  · have h1 := of_decide_eq_false h1
    refine ⟨⟨trivial, trivial⟩, ?_⟩
    rw [List.drop_eq_nil_of_le (by omega)] at h
    exact h
termination_by p.start.length - i
theorem c122 (p : Plate) : Pure Try.prog 122 [⟨.plate, p⟩] [.bool] (plateOk p) :=
  Pure.of_closed (C := codes) (S := sigs) mixed Try.func122 (by kernel_rfl) (Nat.le_of_ble_eq_true (by kernel_rfl)) fun A hA => hA.go (t122 p) (by
    refine ⟨⟨⟨trivial, trivial⟩, ⟨trivial, trivial⟩, trivial⟩, _, c123 _ _, ?_⟩
    show Sat _ _ _ (bif !boxOk (pbox p) then _ else _)
    unfold plateOk
    cases h : boxOk (pbox p)
    · exact ⟨⟨trivial, trivial⟩, rfl⟩
    have hs : 1 ≤ p.rows * p.cols ∧ p.rows * p.cols ≤ 1536 := box_size h
    rw [cond_true, Bool.not_true, cond_false]
    unfold holdsS
    rw [box_wrap h]
    refine sat_bif (fun h1 => ?_) (fun h1 => sat_bif (fun h2 => ?_) (fun h2 => sat_bif (fun h3 => ?_) (fun h3 => ?_)))
    · rw [h1]; exact ⟨⟨trivial, trivial⟩, rfl⟩
    · rw [h1, h2]; exact ⟨⟨trivial, trivial⟩, rfl⟩
    · rw [h1, h2, h3]; exact ⟨⟨trivial, trivial⟩, rfl⟩
    · have := of_decide_eq_false h3
      exact loop122 (by omega) hA 0 (by omega) (by unfold plateOk holdsS; rw [h, h1, h2, h3]; rfl))
end Go.Proofs.Zn

namespace Go.Proofs.Zn
open Go Go.VL

def L92b (x y : List Go.VL.Box) (i : Int) : AS := mkS 78 [(4, .d (.sl .box x)), (5, .d (.sl .box y)), (60, .d (.sl .box y)), (61, i64 y.length), (62, i64 i)] [] 0
def L89b (d : Deck) (w t i : Int) : AS := mkS 103 [(1, .ptr 0 0), (4, i64 w), (5, i64 t), (7, i64 i)] [(0, .box (deckC d))] 1
def L124b (k u r c : Int) (out : List Part) (i j : Int) : AS := mkS 31 [(0, i64 k), (1, i64 u), (2, i64 r), (3, i64 c), (9, .own 0 .part), (10, i64 i), (11, i64 j)] [(0, .row 63 .part out)] 1
def L90b (d : Deck) (out : List Part) (i : Int) : AS := mkS 71 [(1, .ptr 0 0), (3, .own 1 .part), (5, i64 i)] [(0, .box (deckC d)), (1, .row 63 .part out)] 2
def L90c (d : Deck) (out : List Part) (i : Int) : AS := mkS 71 [(1, .ptr 0 0), (3, .own 1 .part), (6, i64 i)] [(0, .box (deckC d)), (1, .row 63 .part out)] 2
def L148 (l : List Part) (a b c e i : Int) : AS := mkS 31 [(5, .ptr 0 0), (6, .d (.sl .part l)), (7, i64 i)] [(0, .box [i64 a, i64 b, i64 c, i64 e])] 1


theorem t92b (x y : List Go.VL.Box) (i : Int) : @Eq (Out (TyTup [.int])) (aexec Try.prog codes sigs Try.f92 (pureFin [.int]) 0 noCut 200 true (hd Try.f92 1) (L92b x y i))
    (bif decide (i < (↑(List.length y) : Int)) then
  Out.need (((0 : Int) ≤ i ∧ i < (↑(List.length y) : Int)) ∧ True)
    (Out.need ((True ∧ True ∧ True) ∧ True)
      (Out.callP (126 : Nat) [Sigma.mk Ty.box (List.getD y (Int.toNat i) (Ty.dflt Ty.box))] [Ty.bool]
        fun (x_1 : Bool) =>
        bif !x_1 then Out.need (True ∧ True) (Out.ret (82 : Int))
        else
          Out.stop (hd Try.f92 (1 : Nat))
            (mkS (78 : Nat)
              [((4 : Nat), AV.d (D.sl Ty.box x)), ((5 : Nat), AV.d (D.sl Ty.box y)), ((60 : Nat), AV.d (D.sl Ty.box y)),
                ((61 : Nat), AV.d (D.v (Value.int IntKind.i64 (↑(List.length y) : Int)))),
                ((62 : Nat), AV.d (D.v (Value.int IntKind.i64 (IntKind.wrap IntKind.i64 (i + (1 : Int))))))]
              [] (0 : Nat))))
  else
  Out.need ((True ∧ True) ∧ True)
    (Out.callP (128 : Nat) [Sigma.mk (Ty.sl Ty.box) x] [Ty.int] fun (x : Int) =>
      bif decide (x > (384 : Int)) then Out.need (True ∧ True) (Out.ret (2 : Int))
      else
        Out.need ((True ∧ True) ∧ True)
          (Out.callP (128 : Nat) [Sigma.mk (Ty.sl Ty.box) y] [Ty.int] fun (x : Int) =>
            bif decide (x > (384 : Int)) then Out.need (True ∧ True) (Out.ret (2 : Int))
            else Out.need (True ∧ True) (Out.ret (0 : Int))))) := by kernel_rfl

theorem t89b (d : Deck) (w t i : Int) : @Eq (Out (TyTup [.int])) (aexec Try.prog codes sigs Try.f89 (pureFin [.int]) 0 noCut 200 true (hd Try.f89 1) (L89b d w t i))
    (bif decide (i < (↑(List.length (Deck.racks d)) : Int)) then
  Out.need (((0 : Int) ≤ i ∧ i < (↑(List.length (Deck.racks d)) : Int)) ∧ True)
    (Out.need (((0 : Int) ≤ i ∧ i < (↑(List.length (Deck.racks d)) : Int)) ∧ True)
      (Out.need ((True ∧ True) ∧ (True ∧ True) ∧ True)
        (Out.callP (123 : Nat)
          [Sigma.mk Ty.int (Rack.rows (List.getD (Deck.racks d) (Int.toNat i) (Ty.dflt Ty.rack))),
            Sigma.mk Ty.int (Rack.cols (List.getD (Deck.racks d) (Int.toNat i) (Ty.dflt Ty.rack)))]
          [Ty.bool] fun (x : Bool) =>
          bif !x then Out.need (True ∧ True) (Out.ret (82 : Int))
          else
            Out.need (((0 : Int) ≤ i ∧ i < (↑(List.length (Deck.racks d)) : Int)) ∧ True)
              (Out.need (((0 : Int) ≤ i ∧ i < (↑(List.length (Deck.racks d)) : Int)) ∧ True)
                (Out.stop (hd Try.f89 (1 : Nat))
                  (mkS (103 : Nat)
                    [((1 : Nat), AV.ptr (0 : Nat) (0 : Nat)), ((4 : Nat), AV.d (D.v (Value.int IntKind.i64 w))),
                      ((5 : Nat),
                        AV.d
                          (D.v
                            (Value.int IntKind.i64
                              (IntKind.wrap IntKind.i64
                                (t +
                                  IntKind.wrap IntKind.i64
                                    (Rack.rows (List.getD (Deck.racks d) (Int.toNat i) (Ty.dflt Ty.rack)) *
                                      Rack.cols (List.getD (Deck.racks d) (Int.toNat i) (Ty.dflt Ty.rack)))))))),
                      ((7 : Nat), AV.d (D.v (Value.int IntKind.i64 (IntKind.wrap IntKind.i64 (i + (1 : Int))))))]
                    [((0 : Nat),
                        ABlk.box
                          [AV.d (D.sl Ty.flt (Deck.borders d)), AV.d (D.sl Ty.plate (Deck.plates d)),
                            AV.d (D.sl Ty.rack (Deck.racks d)), AV.d (D.v (Value.int IntKind.i64 (Deck.arms d)))])]
                    (1 : Nat)))))))
  else
  bif decide (w > (384 : Int)) then Out.need (True ∧ True) (Out.ret (2 : Int))
  else
    bif decide (t > (384 : Int)) then Out.need (True ∧ True) (Out.ret (2 : Int))
    else Out.need (True ∧ True) (Out.ret (0 : Int))) := by kernel_rfl

theorem t124b (k u r c : Int) (out : List Part) (i j : Int) : @Eq (Out (TyTup [.sl .part])) (aexec Try.prog codes sigs Try.f124 (pureFin [.sl .part]) 0 noCut 200 true (hd Try.f124 1) (L124b k u r c out i j))
    (bif decide (j < c) then
  Out.need ((True ∧ True ∧ True ∧ True ∧ True) ∧ True)
    (Out.need ((List.length out + List.length [Part.mk k u i j]) * (33 : Nat) ≤ (35184372088832 : Nat) ∧ True)
      (Out.stop (hd Try.f124 (1 : Nat))
        (mkS (31 : Nat)
          [((0 : Nat), AV.d (D.v (Value.int IntKind.i64 k))), ((1 : Nat), AV.d (D.v (Value.int IntKind.i64 u))),
            ((2 : Nat), AV.d (D.v (Value.int IntKind.i64 r))), ((3 : Nat), AV.d (D.v (Value.int IntKind.i64 c))),
            ((9 : Nat), AV.own (0 : Nat) Ty.part), ((10 : Nat), AV.d (D.v (Value.int IntKind.i64 i))),
            ((11 : Nat), AV.d (D.v (Value.int IntKind.i64 (IntKind.wrap IntKind.i64 (j + (1 : Int))))))]
          [((0 : Nat), ABlk.row (63 : Nat) Ty.part (out ++ [Part.mk k u i j]))] (1 : Nat))))
  else
  Out.stop (hd Try.f124 (0 : Nat))
    (mkS (31 : Nat)
      [((0 : Nat), AV.d (D.v (Value.int IntKind.i64 k))), ((1 : Nat), AV.d (D.v (Value.int IntKind.i64 u))),
        ((2 : Nat), AV.d (D.v (Value.int IntKind.i64 r))), ((3 : Nat), AV.d (D.v (Value.int IntKind.i64 c))),
        ((9 : Nat), AV.own (0 : Nat) Ty.part),
        ((10 : Nat), AV.d (D.v (Value.int IntKind.i64 (IntKind.wrap IntKind.i64 (i + (1 : Int))))))]
      [((0 : Nat), ABlk.row (63 : TypeId) Ty.part out)] (1 : Nat))) := by kernel_rfl

theorem t90b (d : Deck) (out : List Part) (i : Int) : @Eq (Out (TyTup [.sl .part])) (aexec Try.prog codes sigs Try.f90 (pureFin [.sl .part]) 0 noCut 200 true (hd Try.f90 1) (L90b d out i))
    (bif decide (i < (↑(List.length (Deck.racks d)) : Int)) then
  Out.need (((0 : Int) ≤ i ∧ i < (↑(List.length (Deck.racks d)) : Int)) ∧ True)
    (Out.need (((0 : Int) ≤ i ∧ i < (↑(List.length (Deck.racks d)) : Int)) ∧ True)
      (Out.need ((True ∧ True) ∧ (True ∧ True) ∧ (True ∧ True) ∧ (True ∧ True) ∧ True)
        (Out.callP (124 : Nat)
          [Sigma.mk Ty.int (2 : Int), Sigma.mk Ty.int i,
            Sigma.mk Ty.int (Rack.rows (List.getD (Deck.racks d) (Int.toNat i) (Ty.dflt Ty.rack))),
            Sigma.mk Ty.int (Rack.cols (List.getD (Deck.racks d) (Int.toNat i) (Ty.dflt Ty.rack)))]
          [Ty.sl Ty.part] fun (x : List Part) =>
          Out.need ((List.length out + List.length x) * (33 : Nat) ≤ (35184372088832 : Nat) ∧ True)
            (Out.stop (hd Try.f90 (1 : Nat))
              (mkS (71 : Nat)
                [((1 : Nat), AV.ptr (0 : Nat) (0 : Nat)), ((3 : Nat), AV.own (1 : Nat) Ty.part),
                  ((5 : Nat), AV.d (D.v (Value.int IntKind.i64 (IntKind.wrap IntKind.i64 (i + (1 : Int))))))]
                [((0 : Nat),
                    ABlk.box
                      [AV.d (D.sl Ty.flt (Deck.borders d)), AV.d (D.sl Ty.plate (Deck.plates d)),
                        AV.d (D.sl Ty.rack (Deck.racks d)), AV.d (D.v (Value.int IntKind.i64 (Deck.arms d)))]),
                  ((1 : Nat), ABlk.row (63 : Nat) Ty.part (out ++ x))]
                (2 : Nat))))))
  else
  Out.stop (hd Try.f90 (2 : Nat))
    (mkS (71 : Nat)
      [((1 : Nat), AV.ptr (0 : Nat) (0 : Nat)), ((3 : Nat), AV.own (1 : Nat) Ty.part),
        ((6 : Nat), AV.d (D.v (Value.int IntKind.i64 (0 : Int))))]
      [((0 : Nat),
          ABlk.box
            [AV.d (D.sl Ty.flt (Deck.borders d)), AV.d (D.sl Ty.plate (Deck.plates d)),
              AV.d (D.sl Ty.rack (Deck.racks d)), AV.d (D.v (Value.int IntKind.i64 (Deck.arms d)))]),
        ((1 : Nat), ABlk.row (63 : TypeId) Ty.part out)]
      (2 : Nat))) := by kernel_rfl

theorem t90c (d : Deck) (out : List Part) (i : Int) : @Eq (Out (TyTup [.sl .part])) (aexec Try.prog codes sigs Try.f90 (pureFin [.sl .part]) 0 noCut 200 true (hd Try.f90 2) (L90c d out i))
    (bif decide (i < IntKind.wrap IntKind.i64 ((↑(List.length (Deck.borders d)) : Int) - (1 : Int))) then
  Out.need ((True ∧ True ∧ True ∧ True ∧ True) ∧ True)
    (Out.need
      ((List.length out + List.length [Part.mk (3 : Int) i (0 : Int) (0 : Int)]) * (33 : Nat) ≤ (35184372088832 : Nat) ∧
        True)
      (Out.stop (hd Try.f90 (2 : Nat))
        (mkS (71 : Nat)
          [((1 : Nat), AV.ptr (0 : Nat) (0 : Nat)), ((3 : Nat), AV.own (1 : Nat) Ty.part),
            ((6 : Nat), AV.d (D.v (Value.int IntKind.i64 (IntKind.wrap IntKind.i64 (i + (1 : Int))))))]
          [((0 : Nat),
              ABlk.box
                [AV.d (D.sl Ty.flt (Deck.borders d)), AV.d (D.sl Ty.plate (Deck.plates d)),
                  AV.d (D.sl Ty.rack (Deck.racks d)), AV.d (D.v (Value.int IntKind.i64 (Deck.arms d)))]),
            ((1 : Nat), ABlk.row (63 : Nat) Ty.part (out ++ [Part.mk (3 : Int) i (0 : Int) (0 : Int)]))]
          (2 : Nat))))
  else Out.need (True ∧ True) (Out.ret out)) := by kernel_rfl

theorem t148a (l : List Part) (a b c e i : Int) : @Eq (Out (TyTup [.int, .int, .int])) (aexec Try.prog codes sigs Try.f148 (pureFin [.int, .int, .int]) 0 noCut 200 true (hd Try.f148 0) (L148 l a b c e i))
    (bif decide (i < (↑(List.length l) : Int)) then
  Out.need (((0 : Int) ≤ i ∧ i < (↑(List.length l) : Int)) ∧ True)
    (bif Part.kind (List.getD l (Int.toNat i) (Ty.dflt Ty.part)) == (↑(nat_lit 3) : Int) then
      bif Part.kind (List.getD l (Int.toNat i) (Ty.dflt Ty.part)) == (↑(nat_lit 3) : Int) then
        Out.stop (hd Try.f148 (0 : Nat))
          (mkS (31 : Nat)
            [((5 : Nat), AV.ptr (0 : Nat) (0 : Nat)), ((6 : Nat), AV.d (D.sl Ty.part l)),
              ((7 : Nat), AV.d (D.v (Value.int IntKind.i64 (IntKind.wrap IntKind.i64 (i + (1 : Int))))))]
            [((0 : Nat),
                ABlk.box
                  [AV.d (D.v (Value.int IntKind.i64 a)), AV.d (D.v (Value.int IntKind.i64 b)),
                    AV.d (D.v (Value.int IntKind.i64 c)),
                    AV.d (D.v (Value.int IntKind.i64 (IntKind.wrap IntKind.i64 (e + (1 : Int)))))])]
            (1 : Nat))
      else
        bif Part.kind (List.getD l (Int.toNat i) (Ty.dflt Ty.part)) == (↑(nat_lit 2) : Int) then
          Out.stop (hd Try.f148 (0 : Nat))
            (mkS (31 : Nat)
              [((5 : Nat), AV.ptr (0 : Nat) (0 : Nat)), ((6 : Nat), AV.d (D.sl Ty.part l)),
                ((7 : Nat), AV.d (D.v (Value.int IntKind.i64 (IntKind.wrap IntKind.i64 (i + (1 : Int))))))]
              [((0 : Nat),
                  ABlk.box
                    [AV.d (D.v (Value.int IntKind.i64 a)), AV.d (D.v (Value.int IntKind.i64 b)),
                      AV.d (D.v (Value.int IntKind.i64 (IntKind.wrap IntKind.i64 (e + (1 : Int))))),
                      AV.d (D.v (Value.int IntKind.i64 e))])]
              (1 : Nat))
        else
          bif Part.kind (List.getD l (Int.toNat i) (Ty.dflt Ty.part)) == (↑(nat_lit 1) : Int) then
            Out.stop (hd Try.f148 (0 : Nat))
              (mkS (31 : Nat)
                [((5 : Nat), AV.ptr (0 : Nat) (0 : Nat)), ((6 : Nat), AV.d (D.sl Ty.part l)),
                  ((7 : Nat), AV.d (D.v (Value.int IntKind.i64 (IntKind.wrap IntKind.i64 (i + (1 : Int))))))]
                [((0 : Nat),
                    ABlk.box
                      [AV.d (D.v (Value.int IntKind.i64 a)),
                        AV.d (D.v (Value.int IntKind.i64 (IntKind.wrap IntKind.i64 (e + (1 : Int))))),
                        AV.d (D.v (Value.int IntKind.i64 c)), AV.d (D.v (Value.int IntKind.i64 e))])]
                (1 : Nat))
          else
            bif Part.kind (List.getD l (Int.toNat i) (Ty.dflt Ty.part)) == (↑(nat_lit 0) : Int) then
              Out.stop (hd Try.f148 (0 : Nat))
                (mkS (31 : Nat)
                  [((5 : Nat), AV.ptr (0 : Nat) (0 : Nat)), ((6 : Nat), AV.d (D.sl Ty.part l)),
                    ((7 : Nat), AV.d (D.v (Value.int IntKind.i64 (IntKind.wrap IntKind.i64 (i + (1 : Int))))))]
                  [((0 : Nat),
                      ABlk.box
                        [AV.d (D.v (Value.int IntKind.i64 (IntKind.wrap IntKind.i64 (e + (1 : Int))))),
                          AV.d (D.v (Value.int IntKind.i64 b)), AV.d (D.v (Value.int IntKind.i64 c)),
                          AV.d (D.v (Value.int IntKind.i64 e))])]
                  (1 : Nat))
            else Out.fail
    else
      bif Part.kind (List.getD l (Int.toNat i) (Ty.dflt Ty.part)) == (↑(nat_lit 2) : Int) then
        bif Part.kind (List.getD l (Int.toNat i) (Ty.dflt Ty.part)) == (↑(nat_lit 3) : Int) then
          Out.stop (hd Try.f148 (0 : Nat))
            (mkS (31 : Nat)
              [((5 : Nat), AV.ptr (0 : Nat) (0 : Nat)), ((6 : Nat), AV.d (D.sl Ty.part l)),
                ((7 : Nat), AV.d (D.v (Value.int IntKind.i64 (IntKind.wrap IntKind.i64 (i + (1 : Int))))))]
              [((0 : Nat),
                  ABlk.box
                    [AV.d (D.v (Value.int IntKind.i64 a)), AV.d (D.v (Value.int IntKind.i64 b)),
                      AV.d (D.v (Value.int IntKind.i64 c)),
                      AV.d (D.v (Value.int IntKind.i64 (IntKind.wrap IntKind.i64 (c + (1 : Int)))))])]
              (1 : Nat))
        else
          bif Part.kind (List.getD l (Int.toNat i) (Ty.dflt Ty.part)) == (↑(nat_lit 2) : Int) then
            Out.stop (hd Try.f148 (0 : Nat))
              (mkS (31 : Nat)
                [((5 : Nat), AV.ptr (0 : Nat) (0 : Nat)), ((6 : Nat), AV.d (D.sl Ty.part l)),
                  ((7 : Nat), AV.d (D.v (Value.int IntKind.i64 (IntKind.wrap IntKind.i64 (i + (1 : Int))))))]
                [((0 : Nat),
                    ABlk.box
                      [AV.d (D.v (Value.int IntKind.i64 a)), AV.d (D.v (Value.int IntKind.i64 b)),
                        AV.d (D.v (Value.int IntKind.i64 (IntKind.wrap IntKind.i64 (c + (1 : Int))))),
                        AV.d (D.v (Value.int IntKind.i64 e))])]
                (1 : Nat))
          else
            bif Part.kind (List.getD l (Int.toNat i) (Ty.dflt Ty.part)) == (↑(nat_lit 1) : Int) then
              Out.stop (hd Try.f148 (0 : Nat))
                (mkS (31 : Nat)
                  [((5 : Nat), AV.ptr (0 : Nat) (0 : Nat)), ((6 : Nat), AV.d (D.sl Ty.part l)),
                    ((7 : Nat), AV.d (D.v (Value.int IntKind.i64 (IntKind.wrap IntKind.i64 (i + (1 : Int))))))]
                  [((0 : Nat),
                      ABlk.box
                        [AV.d (D.v (Value.int IntKind.i64 a)),
                          AV.d (D.v (Value.int IntKind.i64 (IntKind.wrap IntKind.i64 (c + (1 : Int))))),
                          AV.d (D.v (Value.int IntKind.i64 c)), AV.d (D.v (Value.int IntKind.i64 e))])]
                  (1 : Nat))
            else
              bif Part.kind (List.getD l (Int.toNat i) (Ty.dflt Ty.part)) == (↑(nat_lit 0) : Int) then
                Out.stop (hd Try.f148 (0 : Nat))
                  (mkS (31 : Nat)
                    [((5 : Nat), AV.ptr (0 : Nat) (0 : Nat)), ((6 : Nat), AV.d (D.sl Ty.part l)),
                      ((7 : Nat), AV.d (D.v (Value.int IntKind.i64 (IntKind.wrap IntKind.i64 (i + (1 : Int))))))]
                    [((0 : Nat),
                        ABlk.box
                          [AV.d (D.v (Value.int IntKind.i64 (IntKind.wrap IntKind.i64 (c + (1 : Int))))),
                            AV.d (D.v (Value.int IntKind.i64 b)), AV.d (D.v (Value.int IntKind.i64 c)),
                            AV.d (D.v (Value.int IntKind.i64 e))])]
                    (1 : Nat))
              else Out.fail
      else
        bif Part.kind (List.getD l (Int.toNat i) (Ty.dflt Ty.part)) == (↑(nat_lit 1) : Int) then
          bif Part.kind (List.getD l (Int.toNat i) (Ty.dflt Ty.part)) == (↑(nat_lit 3) : Int) then
            Out.stop (hd Try.f148 (0 : Nat))
              (mkS (31 : Nat)
                [((5 : Nat), AV.ptr (0 : Nat) (0 : Nat)), ((6 : Nat), AV.d (D.sl Ty.part l)),
                  ((7 : Nat), AV.d (D.v (Value.int IntKind.i64 (IntKind.wrap IntKind.i64 (i + (1 : Int))))))]
                [((0 : Nat),
                    ABlk.box
                      [AV.d (D.v (Value.int IntKind.i64 a)), AV.d (D.v (Value.int IntKind.i64 b)),
                        AV.d (D.v (Value.int IntKind.i64 c)),
                        AV.d (D.v (Value.int IntKind.i64 (IntKind.wrap IntKind.i64 (b + (1 : Int)))))])]
                (1 : Nat))
          else
            bif Part.kind (List.getD l (Int.toNat i) (Ty.dflt Ty.part)) == (↑(nat_lit 2) : Int) then
              Out.stop (hd Try.f148 (0 : Nat))
                (mkS (31 : Nat)
                  [((5 : Nat), AV.ptr (0 : Nat) (0 : Nat)), ((6 : Nat), AV.d (D.sl Ty.part l)),
                    ((7 : Nat), AV.d (D.v (Value.int IntKind.i64 (IntKind.wrap IntKind.i64 (i + (1 : Int))))))]
                  [((0 : Nat),
                      ABlk.box
                        [AV.d (D.v (Value.int IntKind.i64 a)), AV.d (D.v (Value.int IntKind.i64 b)),
                          AV.d (D.v (Value.int IntKind.i64 (IntKind.wrap IntKind.i64 (b + (1 : Int))))),
                          AV.d (D.v (Value.int IntKind.i64 e))])]
                  (1 : Nat))
            else
              bif Part.kind (List.getD l (Int.toNat i) (Ty.dflt Ty.part)) == (↑(nat_lit 1) : Int) then
                Out.stop (hd Try.f148 (0 : Nat))
                  (mkS (31 : Nat)
                    [((5 : Nat), AV.ptr (0 : Nat) (0 : Nat)), ((6 : Nat), AV.d (D.sl Ty.part l)),
                      ((7 : Nat), AV.d (D.v (Value.int IntKind.i64 (IntKind.wrap IntKind.i64 (i + (1 : Int))))))]
                    [((0 : Nat),
                        ABlk.box
                          [AV.d (D.v (Value.int IntKind.i64 a)),
                            AV.d (D.v (Value.int IntKind.i64 (IntKind.wrap IntKind.i64 (b + (1 : Int))))),
                            AV.d (D.v (Value.int IntKind.i64 c)), AV.d (D.v (Value.int IntKind.i64 e))])]
                    (1 : Nat))
              else
                bif Part.kind (List.getD l (Int.toNat i) (Ty.dflt Ty.part)) == (↑(nat_lit 0) : Int) then
                  Out.stop (hd Try.f148 (0 : Nat))
                    (mkS (31 : Nat)
                      [((5 : Nat), AV.ptr (0 : Nat) (0 : Nat)), ((6 : Nat), AV.d (D.sl Ty.part l)),
                        ((7 : Nat), AV.d (D.v (Value.int IntKind.i64 (IntKind.wrap IntKind.i64 (i + (1 : Int))))))]
                      [((0 : Nat),
                          ABlk.box
                            [AV.d (D.v (Value.int IntKind.i64 (IntKind.wrap IntKind.i64 (b + (1 : Int))))),
                              AV.d (D.v (Value.int IntKind.i64 b)), AV.d (D.v (Value.int IntKind.i64 c)),
                              AV.d (D.v (Value.int IntKind.i64 e))])]
                      (1 : Nat))
                else Out.fail
        else
          bif Part.kind (List.getD l (Int.toNat i) (Ty.dflt Ty.part)) == (↑(nat_lit 0) : Int) then
            bif Part.kind (List.getD l (Int.toNat i) (Ty.dflt Ty.part)) == (↑(nat_lit 3) : Int) then
              Out.stop (hd Try.f148 (0 : Nat))
                (mkS (31 : Nat)
                  [((5 : Nat), AV.ptr (0 : Nat) (0 : Nat)), ((6 : Nat), AV.d (D.sl Ty.part l)),
                    ((7 : Nat), AV.d (D.v (Value.int IntKind.i64 (IntKind.wrap IntKind.i64 (i + (1 : Int))))))]
                  [((0 : Nat),
                      ABlk.box
                        [AV.d (D.v (Value.int IntKind.i64 a)), AV.d (D.v (Value.int IntKind.i64 b)),
                          AV.d (D.v (Value.int IntKind.i64 c)),
                          AV.d (D.v (Value.int IntKind.i64 (IntKind.wrap IntKind.i64 (a + (1 : Int)))))])]
                  (1 : Nat))
            else
              bif Part.kind (List.getD l (Int.toNat i) (Ty.dflt Ty.part)) == (↑(nat_lit 2) : Int) then
                Out.stop (hd Try.f148 (0 : Nat))
                  (mkS (31 : Nat)
                    [((5 : Nat), AV.ptr (0 : Nat) (0 : Nat)), ((6 : Nat), AV.d (D.sl Ty.part l)),
                      ((7 : Nat), AV.d (D.v (Value.int IntKind.i64 (IntKind.wrap IntKind.i64 (i + (1 : Int))))))]
                    [((0 : Nat),
                        ABlk.box
                          [AV.d (D.v (Value.int IntKind.i64 a)), AV.d (D.v (Value.int IntKind.i64 b)),
                            AV.d (D.v (Value.int IntKind.i64 (IntKind.wrap IntKind.i64 (a + (1 : Int))))),
                            AV.d (D.v (Value.int IntKind.i64 e))])]
                    (1 : Nat))
              else
                bif Part.kind (List.getD l (Int.toNat i) (Ty.dflt Ty.part)) == (↑(nat_lit 1) : Int) then
                  Out.stop (hd Try.f148 (0 : Nat))
                    (mkS (31 : Nat)
                      [((5 : Nat), AV.ptr (0 : Nat) (0 : Nat)), ((6 : Nat), AV.d (D.sl Ty.part l)),
                        ((7 : Nat), AV.d (D.v (Value.int IntKind.i64 (IntKind.wrap IntKind.i64 (i + (1 : Int))))))]
                      [((0 : Nat),
                          ABlk.box
                            [AV.d (D.v (Value.int IntKind.i64 a)),
                              AV.d (D.v (Value.int IntKind.i64 (IntKind.wrap IntKind.i64 (a + (1 : Int))))),
                              AV.d (D.v (Value.int IntKind.i64 c)), AV.d (D.v (Value.int IntKind.i64 e))])]
                      (1 : Nat))
                else
                  bif Part.kind (List.getD l (Int.toNat i) (Ty.dflt Ty.part)) == (↑(nat_lit 0) : Int) then
                    Out.stop (hd Try.f148 (0 : Nat))
                      (mkS (31 : Nat)
                        [((5 : Nat), AV.ptr (0 : Nat) (0 : Nat)), ((6 : Nat), AV.d (D.sl Ty.part l)),
                          ((7 : Nat), AV.d (D.v (Value.int IntKind.i64 (IntKind.wrap IntKind.i64 (i + (1 : Int))))))]
                        [((0 : Nat),
                            ABlk.box
                              [AV.d (D.v (Value.int IntKind.i64 (IntKind.wrap IntKind.i64 (a + (1 : Int))))),
                                AV.d (D.v (Value.int IntKind.i64 b)), AV.d (D.v (Value.int IntKind.i64 c)),
                                AV.d (D.v (Value.int IntKind.i64 e))])]
                        (1 : Nat))
                  else Out.fail
          else Out.fail)
  else Out.need ((True ∧ True) ∧ (True ∧ True) ∧ True ∧ True) (Out.ret (b, c, e))) := by kernel_rfl

end Go.Proofs.Zn

/- The deck's ids: contracts. (Own work.) -/
namespace Go.Proofs.Zn
open Go Go.VL

theorem lenP (d : Deck) : (boxesP d).length = d.plates.length := by simp [boxesP]
theorem lenR (d : Deck) : (boxesR d).length = d.racks.length := by simp [boxesR]
def endS (d : Deck) : Int := bif decide (sumI (boxesP d) > 384) then 2 else bif decide (sumI (boxesR d) > 384) then 2 else 0
theorem deck_eq (d : Deck) : deckS d = bif checkS d.borders != 0 then checkS d.borders else bif decide (d.arms < 1) then 80 else bif decide (d.arms > 8) then 80 else
    bif decide ((d.plates.length : Int) > 4) then 2 else bif decide ((d.racks.length : Int) > 4) then 2 else bif !d.plates.all plateOk then 81 else bif !(boxesR d).all boxOk then 82 else endS d := rfl

theorem loop92b {d : Deck} (hp : d.plates.length ≤ 4) (hr : d.racks.length ≤ 4) (hbp : ∀ b ∈ boxesP d, boxOk b = true) {r : Int} {A : List Item → AS → Prop}
    (hA : Closed Try.prog codes sigs Try.f92 (pureFin [.int]) (fun y => y = r) 0 A) (i : Nat) (hi : i ≤ (boxesR d).length) (hpre : ∀ b ∈ (boxesR d).take i, boxOk b = true)
    (h : (bif !((boxesR d).drop i).all boxOk then 82 else endS d) = r) : A (hd Try.f92 1) (L92b (boxesP d) (boxesR d) i) := by
  have e1 := lenP d
  have e2 := lenR d
  refine hA.go (t92b _ _ i) (sat_bif (fun h1 => ?_) (fun h1 => ?_))
  · have h1 := of_decide_eq_true h1
    have hil : i < (boxesR d).length := by omega
    rw [getD_int hil]
    rw [List.drop_eq_getElem_cons hil, List.all_cons] at h
    refine ⟨⟨⟨by omega, by omega⟩, trivial⟩, ⟨T3', trivial⟩, _, c126 _, sat_bif (fun h2 => ?_) (fun h2 => ?_)⟩
    · rw [nt h2] at h; exact ⟨⟨trivial, trivial⟩, h⟩
    · have h2 := nf h2
      rw [h2, Bool.true_and] at h
      rw [wrap_succ (by omega)]
      refine loop92b hp hr hbp hA (i + 1) (by omega) (fun b hb => ?_) h
      rw [List.take_succ_eq_append_getElem hil] at hb
      rcases List.mem_append.1 hb with e | e
      · exact hpre b e
      · rw [List.mem_singleton.1 e]; exact h2
  · have h1 := of_decide_eq_false h1
    rw [List.drop_eq_nil_of_le (by omega)] at h
    have h : endS d = r := h
    have hbr : ∀ b ∈ boxesR d, boxOk b = true := fun b hb => hpre b (by rw [List.take_of_length_le (by omega)]; exact hb)
    unfold endS at h
    refine ⟨⟨⟨trivial, trivial⟩, trivial⟩, _, c128 (by omega) hbp, sat_bif (fun h3 => ?_) (fun h3 => ⟨⟨⟨trivial, trivial⟩, trivial⟩, _, c128 (by omega) hbr, sat_bif (fun h4 => ?_) (fun h4 => ?_)⟩)⟩
    · rw [h3] at h; exact ⟨⟨trivial, trivial⟩, h⟩
    · rw [h3, h4] at h; exact ⟨⟨trivial, trivial⟩, h⟩
    · rw [h3, h4] at h; exact ⟨⟨trivial, trivial⟩, h⟩
termination_by (boxesR d).length - i
theorem loop92a {d : Deck} (hp : d.plates.length ≤ 4) (hr : d.racks.length ≤ 4) {r : Int} {A : List Item → AS → Prop}
    (hA : Closed Try.prog codes sigs Try.f92 (pureFin [.int]) (fun y => y = r) 0 A) (i : Nat) (hi : i ≤ d.plates.length) (hpre : ∀ p ∈ d.plates.take i, plateOk p = true)
    (h : (bif !(d.plates.drop i).all plateOk then 81 else bif !(boxesR d).all boxOk then 82 else endS d) = r) : A (hd Try.f92 0) (L92 d (boxesP d) (boxesR d) i) := by
  have e1 := lenP d
  have e2 := lenR d
  refine hA.go (t92a d _ _ i) (sat_bif (fun h1 => ?_) (fun h1 => ?_))
  · have h1 := of_decide_eq_true h1
    have hil : i < d.plates.length := by omega
    have hib : i < (boxesP d).length := by omega
    have eb : (boxesP d)[i] = pbox d.plates[i] := by simp [boxesP]
    rw [getD_int hil, getD_int hib, eb]
    rw [List.drop_eq_getElem_cons hil, List.all_cons] at h
    refine ⟨⟨⟨by omega, by omega⟩, trivial⟩, ⟨T3', trivial⟩, _, c126 _, sat_bif (fun h2 => ?_) (fun h2 => ?_)⟩
    · have h2 := nt h2
      have : plateOk d.plates[i] = false := by unfold plateOk; rw [h2]; rfl
      rw [this] at h; exact ⟨⟨trivial, trivial⟩, h⟩
    · have h2 := nf h2
      have e3 : plateOk d.plates[i] = holdsS d.plates[i] := by unfold plateOk; rw [h2]; rfl
      refine ⟨⟨⟨by omega, by omega⟩, trivial⟩, ⟨⟨trivial, trivial, trivial, trivial, trivial, trivial, trivial, trivial⟩, trivial⟩, _, c127 h2, sat_bif (fun h3 => ?_) (fun h3 => ?_)⟩
      · rw [e3, nt h3] at h; exact ⟨⟨trivial, trivial⟩, h⟩
      · have h3 := nf h3
        rw [e3, h3, Bool.true_and] at h
        rw [wrap_succ (by omega)]
        refine loop92a hp hr hA (i + 1) (by omega) (fun b hb => ?_) h
        rw [List.take_succ_eq_append_getElem hil] at hb
        rcases List.mem_append.1 hb with e | e
        · exact hpre b e
        · rw [List.mem_singleton.1 e, e3]; exact h3
  · have h1 := of_decide_eq_false h1
    rw [List.drop_eq_nil_of_le (by omega)] at h
    refine loop92b hp hr (fun b hb => ?_) hA 0 (by omega) (fun b hb => by simp at hb) h
    obtain ⟨p, hp', rfl⟩ := List.mem_map.1 hb
    have := hpre p (by rw [List.take_of_length_le (by omega)]; exact hp')
    unfold plateOk at this
    cases hq : boxOk (pbox p)
    · rw [hq] at this; cases this
    · rfl
termination_by d.plates.length - i
theorem c92 (d : Deck) : Pure Try.prog 92 [⟨.deck, d⟩] [.int] (deckS d) :=
  Pure.of_closed (C := codes) (S := sigs) mixed Try.func92 (by kernel_rfl) (Nat.le_of_ble_eq_true (by kernel_rfl)) fun A hA => hA.go (t92 d) (by
    have hr := deck_eq d
    generalize deckS d = r at hr hA ⊢
    refine ⟨⟨⟨trivial, trivial⟩, trivial⟩, _, c125 _, sat_bif (fun h1 => ?_) (fun h1 => sat_bif (fun h2 => ?_) (fun h2 => sat_bif (fun h3 => ?_) (fun h3 => sat_bif (fun h4 => ?_) (fun h4 => sat_bif (fun h5 => ?_) (fun h5 => ?_)))))⟩
    · rw [h1] at hr; exact ⟨⟨trivial, trivial⟩, hr.symm⟩
    · rw [h1, h2] at hr; exact ⟨⟨trivial, trivial⟩, hr.symm⟩
    · rw [h1, h2, h3] at hr; exact ⟨⟨trivial, trivial⟩, hr.symm⟩
    · rw [h1, h2, h3, h4] at hr; exact ⟨⟨trivial, trivial⟩, hr.symm⟩
    · rw [h1, h2, h3, h4, h5] at hr; exact ⟨⟨trivial, trivial⟩, hr.symm⟩
    · rw [h1, h2, h3, h4, h5] at hr
      have h4 := of_decide_eq_false h4
      have h5 := of_decide_eq_false h5
      refine ⟨⟨⟨trivial, trivial, trivial, trivial, trivial⟩, trivial⟩, _, c117 (by omega), ⟨⟨trivial, trivial, trivial, trivial, trivial⟩, trivial⟩, _, c118 (by omega), ?_⟩
      exact loop92a (by omega) (by omega) hA 0 (by omega) (fun p hp => by simp at hp) hr.symm)

abbrev T5' : True ∧ True ∧ True ∧ True ∧ True := ⟨trivial, trivial, trivial, trivial, trivial⟩
abbrev T2' : True ∧ True := ⟨trivial, trivial⟩
/-- How many there are of each kind. -/
def countS (d : Deck) : Int × Int × Int := bif deckS d != 0 then (0, 0, 0) else (sumI (boxesP d), sumI (boxesR d), (d.borders.length : Int) - 1)
theorem c115 (d : Deck) : Pure Try.prog 115 [⟨.deck, d⟩] [.int, .int, .int] (countS d) :=
  ofT Try.func115 (t115 d) (by kernel_rfl) (by kernel_rfl) fun A => by
    unfold countS
    refine ⟨⟨T5', trivial⟩, _, c92 d, sat_bif (fun h => ?_) (fun h => ?_)⟩
    · rw [h]; exact ⟨⟨T2', T2', T2'⟩, rfl⟩
    · rw [h]
      have hd : DeckOk d := deck_ok (by simpa using h)
      have e1 := lenP d
      have e2 := lenR d
      have h3 := hd.lanes
      have h4 := hd.plates
      have h5 := hd.racks
      refine ⟨⟨T5', trivial⟩, _, c117 (by omega), ⟨T2', trivial⟩, _, c128 (by omega) hd.boxP, ⟨T5', trivial⟩, _, c118 (by omega), ⟨T2', trivial⟩, _, c128 (by omega) hd.boxR, ⟨T2', T2', T2'⟩, ?_⟩
      rw [wrap_i64 (by omega) (by omega)]; rfl

theorem loop116 {l : List Go.VL.Box} {k : Int} (hl : l.length ≤ 1000) (hb : ∀ b ∈ l, boxOk b = true) {r : Part} {A : List Item → AS → Prop}
    (hA : Closed Try.prog codes sigs Try.f116 (pureFin [.part]) (fun y => y = r) 0 A) (i : Nat) (hi : i ≤ l.length) (n : Int) (h0 : 0 ≤ n) (h9 : n ≤ 1000000)
    (h : placeGo k i (l.drop i) n = r) : A (hd Try.f116 0) (L116 l k n i) := by
  refine hA.go (t116a l k n i) (sat_bif (fun h1 => ?_) (fun h1 => ?_))
  · have h1 := of_decide_eq_true h1
    have hil : i < l.length := by omega
    have hbi := hb l[i] (List.getElem_mem _)
    have hs := box_size hbi
    obtain ⟨b1, b2, b3, b4⟩ := boxOk_iff.1 hbi
    rw [getD_int hil]
    rw [List.drop_eq_getElem_cons hil, placeGo] at h
    refine ⟨⟨⟨by omega, by omega⟩, trivial⟩, ⟨T3', trivial⟩, _, c141 hbi, sat_bif (fun h2 => ?_) (fun h2 => ?_)⟩
    · rw [h2] at h
      have hq : 0 ≤ n / l[i].cols := Int.ediv_nonneg h0 (by omega)
      have hq2 : n / l[i].cols ≤ n := Int.ediv_le_self _ h0
      refine ⟨by omega, by omega, T5', ?_⟩
      rw [Int.tdiv_eq_ediv_of_nonneg h0, Int.tmod_eq_emod_of_nonneg h0, wrap_i64 (by omega) (by omega)]
      exact h
    · rw [h2, cond_false] at h
      have h2 := of_decide_eq_false h2
      refine ⟨⟨T3', trivial⟩, _, c141 hbi, ?_⟩
      show A (hd Try.f116 0) (L116 l k (IntKind.i64.wrap (n - l[i].rows * l[i].cols)) (IntKind.i64.wrap ((i : Int) + 1)))
      rw [wrap_succ (by omega), wrap_i64 (by omega) (by omega)]
      exact loop116 hl hb hA (i + 1) (by omega) _ (by omega) (by omega) h
  · have h1 := of_decide_eq_false h1
    refine ⟨T5', ?_⟩
    rw [List.drop_eq_nil_of_le (by omega)] at h
    exact h
termination_by l.length - i
theorem c116 {l : List Go.VL.Box} {k n : Int} (hl : l.length ≤ 1000) (hb : ∀ b ∈ l, boxOk b = true) (h0 : 0 ≤ n) (h9 : n ≤ 1000000) : Pure Try.prog 116 [⟨.sl .box, l⟩, ⟨.int, k⟩, ⟨.int, n⟩] [.part] (placeGo k 0 l n) :=
  Pure.of_closed (C := codes) (S := sigs) mixed Try.func116 (by kernel_rfl) (Nat.le_of_ble_eq_true (by kernel_rfl)) fun A hA => hA.go (t116 l k n)
    (loop116 hl hb hA 0 (by omega) n h0 h9 rfl)

theorem c84 (d : Deck) (i : Int) : Pure Try.prog 84 [⟨.deck, d⟩, ⟨.int, i⟩] [.part, .int] (partS d i) :=
  ofT Try.func84 (t84 d i) (by kernel_rfl) (by kernel_rfl) fun A => by
    have hr : partS d i = partS d i := rfl
    generalize hp : partS d i = r at hr ⊢
    unfold partS at hp
    refine ⟨⟨T5', trivial⟩, _, c92 d, sat_bif (fun h => ?_) (fun h => ?_)⟩
    · rw [h] at hp; exact ⟨⟨T5', T2'⟩, hp⟩
    · rw [h, cond_false] at hp
      have hd : DeckOk d := deck_ok (by simpa using h)
      have hc : countS d = (sumI (boxesP d), sumI (boxesR d), (d.borders.length : Int) - 1) := by unfold countS; rw [h]; rfl
      have e1 := lenP d
      have e2 := lenR d
      have hl := hd.lanes
      have hw := hd.wells
      have ht := hd.tips
      have h4 := hd.plates
      have h5 := hd.racks
      have hn := parts_len hd
      refine ⟨⟨T5', trivial⟩, _, (c115 d).eq hc, sat_bif (fun h1 => ?_) (fun h1 => ?_)⟩
      · rw [h1] at hp; exact ⟨⟨T5', T2'⟩, hp⟩
      · rw [h1, cond_false] at hp
        have h1 := of_decide_eq_false h1
        have ew : IntKind.i64.wrap (IntKind.i64.wrap (sumI (boxesP d) + sumI (boxesR d)) + ((d.borders.length : Int) - 1)) = ((partsS d).length : Int) := by
          rw [wrap_i64 (n := sumI (boxesP d) + sumI (boxesR d)) (by omega) (by omega), wrap_i64 (by omega) (by omega)]; omega
        simp only
        rw [ew]
        refine sat_bif (fun h2 => ?_) (fun h2 => ?_)
        · rw [h2] at hp; exact ⟨⟨T5', T2'⟩, hp⟩
        · rw [h2, cond_false] at hp
          have h2 := of_decide_eq_false h2
          have hg := parts_get hd (i := i) (by omega) (by omega)
          rw [List.getD_eq_getElem?_getD, hg, Option.getD_some] at hp
          rw [wrap_i64 (n := sumI (boxesP d) + sumI (boxesR d)) (by omega) (by omega)]
          refine sat_bif (fun h6 => ?_) (fun h6 => sat_bif (fun h7 => ?_) (fun h7 => ?_))
          · rw [h6, cond_true] at hp
            have h6 := of_decide_eq_true h6
            exact ⟨⟨T5', trivial⟩, _, c117 (by omega), ⟨T2', T2', T2', trivial⟩, _, c116 (by omega) hd.boxP (by omega) (by omega), ⟨T5', T2'⟩, hp⟩
          · rw [h6, h7, cond_false, cond_true] at hp
            have h6 := of_decide_eq_false h6
            have h7 := of_decide_eq_true h7
            rw [wrap_i64 (by omega) (by omega)]
            exact ⟨⟨T5', trivial⟩, _, c118 (by omega), ⟨T2', T2', T2', trivial⟩, _, c116 (by omega) hd.boxR (by omega) (by omega), ⟨T5', T2'⟩, hp⟩
          · rw [h6, h7, cond_false, cond_false] at hp
            have h6 := of_decide_eq_false h6
            have h7 := of_decide_eq_false h7
            rw [wrap_i64 (n := i - sumI (boxesP d)) (by omega) (by omega), wrap_i64 (by omega) (by omega)]
            exact ⟨⟨T5', T2'⟩, hp⟩
end Go.Proofs.Zn

/- The deck by definition: contracts. (Own work.) -/
namespace Go.Proofs.Zn
open Go Go.VL

theorem loop89b {d : Deck} (hr : d.racks.length ≤ 4) {w : Int} (hw : w = sumI (boxesP d)) {r : Int} {A : List Item → AS → Prop}
    (hA : Closed Try.prog codes sigs Try.f89 (pureFin [.int]) (fun y => y = r) 0 A) (i : Nat) (hi : i ≤ d.racks.length) (t : Int) (ht : 0 ≤ t ∧ t ≤ 1536 * (i : Int)) (hs : t + sumI ((boxesR d).drop i) = sumI (boxesR d))
    (h : (bif !((boxesR d).drop i).all boxOk then 82 else endS d) = r) : A (hd Try.f89 1) (L89b d w t i) := by
  have e2 := lenR d
  refine hA.go (t89b d w t i) (sat_bif (fun h1 => ?_) (fun h1 => ?_))
  · have h1 := of_decide_eq_true h1
    have hil : i < d.racks.length := by omega
    have hib : i < (boxesR d).length := by omega
    have eb : (boxesR d)[i] = rbox d.racks[i] := by simp [boxesR]
    rw [getD_int hil]
    rw [List.drop_eq_getElem_cons hib, List.all_cons, eb] at h
    rw [List.drop_eq_getElem_cons hib, eb, sumI] at hs
    refine ⟨⟨⟨by omega, by omega⟩, trivial⟩, ⟨⟨by omega, by omega⟩, trivial⟩, ⟨T2', T2', trivial⟩, _, c123 _ _, sat_bif (fun h2 => ?_) (fun h2 => ?_)⟩
    · have h2 : boxOk (rbox d.racks[i]) = false := nt h2
      rw [h2] at h; exact ⟨⟨trivial, trivial⟩, h⟩
    · have h2 : boxOk (rbox d.racks[i]) = true := nf h2
      rw [h2, Bool.true_and] at h
      have hb : 1 ≤ d.racks[i].rows * d.racks[i].cols ∧ d.racks[i].rows * d.racks[i].cols ≤ 1536 := box_size h2
      have hs : t + (d.racks[i].rows * d.racks[i].cols + sumI ((boxesR d).drop (i + 1))) = sumI (boxesR d) := hs
      refine ⟨⟨⟨by omega, by omega⟩, trivial⟩, ⟨⟨by omega, by omega⟩, trivial⟩, ?_⟩
      rw [wrap_succ (by omega), wrap_i64 (n := d.racks[i].rows * d.racks[i].cols) (by omega) (by omega), wrap_i64 (by omega) (by omega)]
      exact loop89b hr hw hA (i + 1) (by omega) _ ⟨by omega, by omega⟩ (by omega) h
  · have h1 := of_decide_eq_false h1
    rw [List.drop_eq_nil_of_le (by omega)] at h hs
    have h : endS d = r := h
    have ht : t = sumI (boxesR d) := by simpa [sumI] using hs
    unfold endS at h
    rw [hw, ht]
    refine sat_bif (fun h3 => ?_) (fun h3 => sat_bif (fun h4 => ?_) (fun h4 => ?_))
    · rw [h3] at h; exact ⟨⟨trivial, trivial⟩, h⟩
    · rw [h3, h4] at h; exact ⟨⟨trivial, trivial⟩, h⟩
    · rw [h3, h4] at h; exact ⟨⟨trivial, trivial⟩, h⟩
termination_by d.racks.length - i
theorem loop89a {d : Deck} (hp : d.plates.length ≤ 4) (hr : d.racks.length ≤ 4) {r : Int} {A : List Item → AS → Prop}
    (hA : Closed Try.prog codes sigs Try.f89 (pureFin [.int]) (fun y => y = r) 0 A) (i : Nat) (hi : i ≤ d.plates.length) (w : Int) (hw : 0 ≤ w ∧ w ≤ 1536 * (i : Int)) (hs : w + sumI ((boxesP d).drop i) = sumI (boxesP d))
    (h : (bif !(d.plates.drop i).all plateOk then 81 else bif !(boxesR d).all boxOk then 82 else endS d) = r) : A (hd Try.f89 0) (L89 d w 0 i) := by
  have e1 := lenP d
  refine hA.go (t89a d w 0 i) (sat_bif (fun h1 => ?_) (fun h1 => ?_))
  · have h1 := of_decide_eq_true h1
    have hil : i < d.plates.length := by omega
    have hib : i < (boxesP d).length := by omega
    have eb : (boxesP d)[i] = pbox d.plates[i] := by simp [boxesP]
    rw [getD_int hil]
    rw [List.drop_eq_getElem_cons hil, List.all_cons] at h
    rw [List.drop_eq_getElem_cons hib, eb, sumI] at hs
    refine ⟨⟨⟨by omega, by omega⟩, trivial⟩, ⟨⟨trivial, trivial, trivial, trivial, trivial, trivial, trivial, trivial⟩, trivial⟩, _, c122 _, sat_bif (fun h2 => ?_) (fun h2 => ?_)⟩
    · rw [nt h2] at h; exact ⟨⟨trivial, trivial⟩, h⟩
    · have h2 := nf h2
      rw [h2, Bool.true_and] at h
      have hq : boxOk (pbox d.plates[i]) = true := by
        unfold plateOk at h2
        cases hq : boxOk (pbox d.plates[i])
        · rw [hq] at h2; cases h2
        · rfl
      have hb : 1 ≤ d.plates[i].rows * d.plates[i].cols ∧ d.plates[i].rows * d.plates[i].cols ≤ 1536 := box_size hq
      have hs : w + (d.plates[i].rows * d.plates[i].cols + sumI ((boxesP d).drop (i + 1))) = sumI (boxesP d) := hs
      refine ⟨⟨⟨by omega, by omega⟩, trivial⟩, ⟨⟨by omega, by omega⟩, trivial⟩, ?_⟩
      rw [wrap_succ (by omega), wrap_i64 (n := d.plates[i].rows * d.plates[i].cols) (by omega) (by omega), wrap_i64 (by omega) (by omega)]
      exact loop89a hp hr hA (i + 1) (by omega) _ ⟨by omega, by omega⟩ (by omega) h
  · have h1 := of_decide_eq_false h1
    rw [List.drop_eq_nil_of_le (by omega)] at h hs
    exact loop89b hr (by simpa [sumI] using hs) hA 0 (by omega) 0 ⟨by omega, by omega⟩ (by simp) h
termination_by d.plates.length - i
theorem c89 (d : Deck) : Pure Try.prog 89 [⟨.deck, d⟩] [.int] (deckS d) :=
  Pure.of_closed (C := codes) (S := sigs) mixed Try.func89 (by kernel_rfl) (Nat.le_of_ble_eq_true (by kernel_rfl)) fun A hA => hA.go (t89 d) (by
    have hr := deck_eq d
    generalize deckS d = r at hr hA ⊢
    refine ⟨⟨⟨trivial, trivial⟩, trivial⟩, _, c121 _, sat_bif (fun h1 => ?_) (fun h1 => sat_bif (fun h2 => ?_) (fun h2 => sat_bif (fun h3 => ?_) (fun h3 => sat_bif (fun h4 => ?_) (fun h4 => sat_bif (fun h5 => ?_) (fun h5 => ?_)))))⟩
    · rw [h1] at hr; exact ⟨⟨trivial, trivial⟩, hr.symm⟩
    · rw [h1, h2] at hr; exact ⟨⟨trivial, trivial⟩, hr.symm⟩
    · rw [h1, h2, h3] at hr; exact ⟨⟨trivial, trivial⟩, hr.symm⟩
    · rw [h1, h2, h3, h4] at hr; exact ⟨⟨trivial, trivial⟩, hr.symm⟩
    · rw [h1, h2, h3, h4, h5] at hr; exact ⟨⟨trivial, trivial⟩, hr.symm⟩
    · rw [h1, h2, h3, h4, h5] at hr
      have h4 := of_decide_eq_false h4
      have h5 := of_decide_eq_false h5
      exact loop89a (by omega) (by omega) hA 0 (by omega) 0 ⟨by omega, by omega⟩ (by simp) hr.symm)

/-! ### places -/
def plN (k u : Int) (c n : Nat) : List Part := (List.range n).map fun m : Nat => ⟨k, u, ((m / c : Nat) : Int), ((m % c : Nat) : Int)⟩
theorem plN_succ (k u : Int) {c i j : Nat} (hj : j < c) : plN k u c (i * c + j + 1) = plN k u c (i * c + j) ++ [⟨k, u, (i : Int), (j : Int)⟩] := by
  unfold plN
  rw [List.range_succ, List.map_append]
  congr 1
  have h1 : (i * c + j) / c = i := by rw [Nat.mul_comm, Nat.mul_add_div (by omega), Nat.div_eq_of_lt hj, Nat.add_zero]
  have h2 : (i * c + j) % c = j := by rw [Nat.mul_comm, Nat.mul_add_mod, Nat.mod_eq_of_lt hj]
  simp only [List.map_cons, List.map_nil, h1, h2]
theorem plN_len (k u : Int) (c n : Nat) : (plN k u c n).length = n := by simp [plN]
theorem loop124b {k u : Int} {R C : Nat} (hR : R ≤ 32) (hC : C ≤ 48) {r : List Part} {A : List Item → AS → Prop} (hA : Closed Try.prog codes sigs Try.f124 (pureFin [.sl .part]) (fun y => y = r) 0 A)
    (i : Nat) (hi : i < R) (hn : A (hd Try.f124 0) (L124 k u R C (plN k u C ((i + 1) * C)) ((i + 1 : Nat) : Int))) (j : Nat) (hj : j ≤ C) : A (hd Try.f124 1) (L124b k u R C (plN k u C (i * C + j)) i j) := by
  have hle : i * C ≤ 32 * 48 := Nat.mul_le_mul (by omega) hC
  refine hA.go (t124b k u R C _ i j) (sat_bif (fun h1 => ?_) (fun h1 => ?_))
  · have h1 := of_decide_eq_true h1
    refine ⟨⟨T5', trivial⟩, ⟨by rw [plN_len]; simp only [List.length_cons, List.length_nil]; omega, trivial⟩, ?_⟩
    rw [wrap_succ (by omega), ← plN_succ k u (by omega : j < C)]
    exact loop124b hR hC hA i hi hn (j + 1) (by omega)
  · have h1 := of_decide_eq_false h1
    have : j = C := by omega
    subst this
    rw [wrap_succ (by omega)]
    have e : i * j + j = (i + 1) * j := by rw [Nat.succ_mul]
    rw [e]
    exact hn
termination_by C - j
theorem loop124 {k u : Int} {R C : Nat} (hR : R ≤ 32) (hC : C ≤ 48) {r : List Part} (h : plN k u C (R * C) = r) {A : List Item → AS → Prop} (hA : Closed Try.prog codes sigs Try.f124 (pureFin [.sl .part]) (fun y => y = r) 0 A)
    (i : Nat) (hi : i ≤ R) : A (hd Try.f124 0) (L124 k u R C (plN k u C (i * C)) i) := by
  refine hA.go (t124a k u R C _ i) (sat_bif (fun h1 => ?_) (fun h1 => ?_))
  · have h1 := of_decide_eq_true h1
    exact loop124b hR hC hA i (by omega) (loop124 hR hC h hA (i + 1) (by omega)) 0 (by omega)
  · have h1 := of_decide_eq_false h1
    have : i = R := by omega
    subst this
    exact ⟨⟨trivial, trivial⟩, h⟩
termination_by R - i
theorem c124 {k u r c : Int} (h : boxOk ⟨r, c⟩ = true) : Pure Try.prog 124 [⟨.int, k⟩, ⟨.int, u⟩, ⟨.int, r⟩, ⟨.int, c⟩] [.sl .part] (placesS k u r c) := by
  obtain ⟨h1, h2, h3, h4⟩ := boxOk_iff.1 h
  simp only at h1 h2 h3 h4
  obtain ⟨R, rfl⟩ := Int.eq_ofNat_of_zero_le (show 0 ≤ r by omega)
  obtain ⟨C, rfl⟩ := Int.eq_ofNat_of_zero_le (show 0 ≤ c by omega)
  have e : placesS k u R C = plN k u C (R * C) := by
    have e : (((R : Nat) : Int) * ((C : Nat) : Int)).toNat = R * C := by rw [← Int.natCast_mul]; rfl
    unfold placesS plN
    rw [e]; rfl
  exact Pure.of_closed (C := codes) (S := sigs) mixed Try.func124 (by kernel_rfl) (Nat.le_of_ble_eq_true (by kernel_rfl)) fun A hA => hA.go (t124 k u R C)
    (hA.row 9 63 .part (s' := L124 k u R C [] 0) (by kernel_rfl) (by kernel_rfl) (by
      have := loop124 (k := k) (u := u) (R := R) (C := C) (by omega) (by omega) e.symm hA 0 (by omega)
      rw [Nat.zero_mul] at this
      exact this))
end Go.Proofs.Zn

/- The parts by definition: contracts. (Own work.) -/
namespace Go.Proofs.Zn
open Go Go.VL

theorem place_len {k u : Int} {b : Go.VL.Box} (h : boxOk b = true) : (placesS k u b.rows b.cols).length ≤ 1536 := by
  have := box_size h
  rw [places_len]; omega
theorem loop90c {d : Deck} (hk : DeckOk d) {r : List Part} {A : List Item → AS → Prop} (hA : Closed Try.prog codes sigs Try.f90 (pureFin [.sl .part]) (fun y => y = r) 0 A)
    (i : Nat) (hi : i ≤ d.borders.length - 1) (out : List Part) (ho : out.length ≤ 12288 + i) (h : out ++ (lanesL (d.borders.length - 1)).drop i = r) : A (hd Try.f90 2) (L90c d out i) := by
  have hl := hk.lanes
  refine hA.go (t90c d out i) (sat_bif (fun h1 => ?_) (fun h1 => ?_))
  · rw [wrap_i64 (by omega) (by omega)] at h1
    have h1 := of_decide_eq_true h1
    have hil : i < (lanesL (d.borders.length - 1)).length := by simp [lanesL]; omega
    have ei : (lanesL (d.borders.length - 1))[i] = ⟨3, (i : Int), 0, 0⟩ := by simp [lanesL]
    rw [List.drop_eq_getElem_cons hil, ei] at h
    refine ⟨⟨T5', trivial⟩, ⟨by simp only [List.length_cons, List.length_nil]; omega, trivial⟩, ?_⟩
    rw [wrap_succ (by omega)]
    exact loop90c hk hA (i + 1) (by omega) (out ++ [⟨3, (i : Int), 0, 0⟩]) (by simp; omega) (by rw [← h]; simp)
  · rw [wrap_i64 (by omega) (by omega)] at h1
    have h1 := of_decide_eq_false h1
    rw [List.drop_eq_nil_of_le (by simp [lanesL]; omega), List.append_nil] at h
    exact ⟨⟨trivial, trivial⟩, h⟩
termination_by d.borders.length - i
theorem loop90b {d : Deck} (hk : DeckOk d) {r : List Part} {A : List Item → AS → Prop} (hA : Closed Try.prog codes sigs Try.f90 (pureFin [.sl .part]) (fun y => y = r) 0 A)
    (i : Nat) (hi : i ≤ d.racks.length) (out : List Part) (ho : out.length ≤ 6144 + 1536 * i) (h : out ++ (unitsS 2 i ((boxesR d).drop i) ++ lanesL (d.borders.length - 1)) = r) : A (hd Try.f90 1) (L90b d out i) := by
  have e2 := lenR d
  have h5 := hk.racks
  refine hA.go (t90b d out i) (sat_bif (fun h1 => ?_) (fun h1 => ?_))
  · have h1 := of_decide_eq_true h1
    have hil : i < d.racks.length := by omega
    have hib : i < (boxesR d).length := by omega
    have eb : (boxesR d)[i] = rbox d.racks[i] := by simp [boxesR]
    have hb := hk.boxR _ (List.getElem_mem hib)
    have hpl := place_len (k := 2) (u := i) hb
    rw [eb] at hb hpl
    rw [getD_int hil]
    rw [List.drop_eq_getElem_cons hib, eb, unitsS] at h
    refine ⟨⟨⟨by omega, by omega⟩, trivial⟩, ⟨⟨by omega, by omega⟩, trivial⟩, ⟨T2', T2', T2', T2', trivial⟩, _, c124 hb, ⟨?_, trivial⟩, ?_⟩
    · have : (placesS 2 i d.racks[i].rows d.racks[i].cols).length ≤ 1536 := hpl
      show (out.length + (placesS 2 i d.racks[i].rows d.racks[i].cols).length) * 33 ≤ _
      omega
    · show A (hd Try.f90 1) (L90b d (out ++ placesS 2 i d.racks[i].rows d.racks[i].cols) (IntKind.i64.wrap ((i : Int) + 1)))
      rw [wrap_succ (by omega)]
      refine loop90b hk hA (i + 1) (by omega) _ ?_ ?_
      · have : (placesS 2 i d.racks[i].rows d.racks[i].cols).length ≤ 1536 := hpl
        rw [List.length_append]; omega
      · rw [← h, List.append_assoc, List.append_assoc]; rfl
  · have h1 := of_decide_eq_false h1
    rw [List.drop_eq_nil_of_le (by omega)] at h
    exact loop90c hk hA 0 (by omega) out (by omega) h
termination_by d.racks.length - i
theorem loop90a {d : Deck} (hk : DeckOk d) {r : List Part} {A : List Item → AS → Prop} (hA : Closed Try.prog codes sigs Try.f90 (pureFin [.sl .part]) (fun y => y = r) 0 A)
    (i : Nat) (hi : i ≤ d.plates.length) (out : List Part) (ho : out.length ≤ 1536 * i) (h : out ++ restS d i = r) : A (hd Try.f90 0) (L90 d out i) := by
  have e1 := lenP d
  have h5 := hk.plates
  refine hA.go (t90a d out i) (sat_bif (fun h1 => ?_) (fun h1 => ?_))
  · have h1 := of_decide_eq_true h1
    have hil : i < d.plates.length := by omega
    have hib : i < (boxesP d).length := by omega
    have eb : (boxesP d)[i] = pbox d.plates[i] := by simp [boxesP]
    have hb := hk.boxP _ (List.getElem_mem hib)
    have hpl := place_len (k := 1) (u := i) hb
    rw [eb] at hb hpl
    rw [getD_int hil]
    rw [restS, List.drop_eq_getElem_cons hib, eb, unitsS] at h
    refine ⟨⟨⟨by omega, by omega⟩, trivial⟩, ⟨⟨by omega, by omega⟩, trivial⟩, ⟨T2', T2', T2', T2', trivial⟩, _, c124 hb, ⟨?_, trivial⟩, ?_⟩
    · have : (placesS 1 i d.plates[i].rows d.plates[i].cols).length ≤ 1536 := hpl
      show (out.length + (placesS 1 i d.plates[i].rows d.plates[i].cols).length) * 33 ≤ _
      omega
    · show A (hd Try.f90 0) (L90 d (out ++ placesS 1 i d.plates[i].rows d.plates[i].cols) (IntKind.i64.wrap ((i : Int) + 1)))
      rw [wrap_succ (by omega)]
      refine loop90a hk hA (i + 1) (by omega) _ ?_ ?_
      · have : (placesS 1 i d.plates[i].rows d.plates[i].cols).length ≤ 1536 := hpl
        rw [List.length_append]; omega
      · rw [← h, restS, List.append_assoc, List.append_assoc]; rfl
  · have h1 := of_decide_eq_false h1
    rw [restS, List.drop_eq_nil_of_le (by omega)] at h
    exact loop90b hk hA 0 (by omega) out (by omega) h
termination_by d.plates.length - i
theorem c90 (d : Deck) : Pure Try.prog 90 [⟨.deck, d⟩] [.sl .part] (partsOf d) :=
  Pure.of_closed (C := codes) (S := sigs) mixed Try.func90 (by kernel_rfl) (Nat.le_of_ble_eq_true (by kernel_rfl)) fun A hA => hA.go (t90 d) (by
    generalize hr : partsOf d = r at hA ⊢
    unfold partsOf at hr
    refine ⟨⟨T5', trivial⟩, _, c89 d, sat_bif (fun h => ?_) (fun h => ?_)⟩
    · rw [h] at hr; exact ⟨⟨trivial, trivial⟩, hr⟩
    · rw [h, cond_false] at hr
      exact hA.row 3 63 .part (s' := L90 d [] 0) (by kernel_rfl) (by kernel_rfl) (loop90a (deck_ok (by simpa using h)) hA 0 (by omega) [] (by simp) hr))

theorem c42 (d : Deck) (i : Int) : Pure Try.prog 42 [⟨.deck, d⟩, ⟨.int, i⟩] [.part, .int] (partS d i) :=
  ofT Try.func42 (t42 d i) (by kernel_rfl) (by kernel_rfl) fun A => by
    generalize hp : partS d i = r
    unfold partS at hp
    refine ⟨⟨T5', trivial⟩, _, c89 d, sat_bif (fun h => ?_) (fun h => ?_)⟩
    · rw [h] at hp; exact ⟨⟨T5', T2'⟩, hp⟩
    · rw [h, cond_false] at hp
      have hc : partsOf d = partsS d := by unfold partsOf; rw [h]; rfl
      refine ⟨⟨T5', trivial⟩, _, (c90 d).eq hc, sat_bif (fun h1 => ?_) (fun h1 => sat_bif (fun h2 => ?_) (fun h2 => ?_))⟩
      · rw [h1] at hp; exact ⟨⟨T5', T2'⟩, hp⟩
      · rw [h1, h2] at hp; exact ⟨⟨T5', T2'⟩, hp⟩
      · rw [h1, h2] at hp
        have h1 := of_decide_eq_false h1
        have h2 := of_decide_eq_false h2
        exact ⟨⟨⟨by omega, by omega⟩, trivial⟩, ⟨T5', T2'⟩, hp⟩

/-! ### is it too large to be looked at -/
def startsL : List Plate → Bool
  | [] => false
  | p :: l => bif decide ((p.start.length : Int) > 500) then true else startsL l
def largeS (d : Deck) : Bool := bif decide ((d.borders.length : Int) > 60) then true else bif decide ((d.plates.length : Int) > 8) then true else bif decide ((d.racks.length : Int) > 8) then true else startsL d.plates
theorem loop37 {d : Deck} (hl : d.plates.length ≤ 8) {r : Bool} {A : List Item → AS → Prop} (hA : Closed Try.prog codes sigs Try.f37 (pureFin [.bool]) (fun y => y = r) 0 A)
    (i : Nat) (hi : i ≤ d.plates.length) (h : startsL (d.plates.drop i) = r) : A (hd Try.f37 0) (L37 d i) := by
  refine hA.go (t37a d i) (sat_bif (fun h1 => ?_) (fun h1 => ?_))
  · have h1 := of_decide_eq_true h1
    have hil : i < d.plates.length := by omega
    rw [getD_int hil]
    rw [List.drop_eq_getElem_cons hil, startsL] at h
    refine ⟨⟨⟨by omega, by omega⟩, trivial⟩, sat_bif (fun h2 => ?_) (fun h2 => ?_)⟩
    · rw [h2] at h; exact ⟨⟨trivial, trivial⟩, h⟩
    · rw [h2] at h
      rw [wrap_succ (by omega)]
      exact loop37 hl hA (i + 1) (by omega) h
  · have h1 := of_decide_eq_false h1
    rw [List.drop_eq_nil_of_le (by omega)] at h
    exact ⟨⟨trivial, trivial⟩, h⟩
termination_by d.plates.length - i
theorem c37 (d : Deck) : Pure Try.prog 37 [⟨.deck, d⟩] [.bool] (largeS d) :=
  Pure.of_closed (C := codes) (S := sigs) mixed Try.func37 (by kernel_rfl) (Nat.le_of_ble_eq_true (by kernel_rfl)) fun A hA => hA.go (t37 d) (by
    generalize hr : largeS d = r at hA ⊢
    unfold largeS at hr
    refine sat_bif (fun h1 => ?_) (fun h1 => sat_bif (fun h2 => ?_) (fun h2 => sat_bif (fun h3 => ?_) (fun h3 => ?_)))
    · rw [h1] at hr; exact ⟨⟨trivial, trivial⟩, hr⟩
    · rw [h1, h2] at hr; exact ⟨⟨trivial, trivial⟩, hr⟩
    · rw [h1, h2, h3] at hr; exact ⟨⟨trivial, trivial⟩, hr⟩
    · rw [h1, h2, h3] at hr
      have h2 := of_decide_eq_false h2
      exact loop37 (by omega) hA 0 (by omega) hr)
end Go.Proofs.Zn

/- How many parts there are by definition; spans of parts: contracts. (Own work.) -/
namespace Go.Proofs.Zn
open Go Go.VL

def cntK (k : Int) : List Part → Int
  | [] => 0
  | p :: l => (bif p.kind == k then 1 else 0) + cntK k l
theorem cnt_app (k : Int) : ∀ (l m : List Part), cntK k (l ++ m) = cntK k l + cntK k m
  | [], m => by simp [cntK]
  | p :: l, m => by simp only [List.cons_append, cntK, cnt_app k l m]; omega
theorem cnt_all {k : Int} : ∀ {l : List Part}, (∀ p ∈ l, p.kind = k) → cntK k l = (l.length : Int)
  | [], _ => rfl
  | p :: l, h => by
    have h1 : (p.kind == k) = true := by simpa using h p (by simp)
    simp only [cntK, h1, cond_true, List.length_cons, cnt_all (l := l) fun q hq => h q (by simp [hq])]; omega
theorem cnt_none {k : Int} : ∀ {l : List Part}, (∀ p ∈ l, p.kind ≠ k) → cntK k l = 0
  | [], _ => rfl
  | p :: l, h => by
    have h1 : (p.kind == k) = false := by simpa using h p (by simp)
    simp only [cntK, h1, cond_false, cnt_none (l := l) fun q hq => h q (by simp [hq])]; omega
theorem cnt_parts {d : Deck} (h : DeckOk d) : cntK 1 (partsS d) = sumI (boxesP d) ∧ cntK 2 (partsS d) = sumI (boxesR d) ∧ cntK 3 (partsS d) = (d.borders.length : Int) - 1 := by
  have l1 := units_len 1 (boxesP d) 0 h.boxP
  have l2 := units_len 2 (boxesR d) 0 h.boxR
  have l3 := h.lanes
  have k3 : ∀ p ∈ lanesL (d.borders.length - 1), p.kind = 3 := fun p hp => by
    obtain ⟨n, _, rfl⟩ := List.mem_map.1 hp
    rfl
  unfold partsS
  refine ⟨?_, ?_, ?_⟩
  · rw [cnt_app, cnt_app, cnt_all fun p hp => (units_mem hp).1, cnt_none fun p hp => by rw [(units_mem hp).1]; decide, cnt_none fun p hp => by rw [k3 p hp]; decide]; omega
  · rw [cnt_app, cnt_app, cnt_none fun p hp => by rw [(units_mem hp).1]; decide, cnt_all fun p hp => (units_mem hp).1, cnt_none fun p hp => by rw [k3 p hp]; decide]; omega
  · rw [cnt_app, cnt_app, cnt_none fun p hp => by rw [(units_mem hp).1]; decide, cnt_none fun p hp => by rw [(units_mem hp).1]; decide, cnt_all k3]
    simp only [lanesL, List.length_map, List.length_range]; omega

theorem loop148 {l : List Part} (hl : l.length ≤ 100000) (hv : ∀ p ∈ l, p.kind = 1 ∨ p.kind = 2 ∨ p.kind = 3) {r : Int × Int × Int} {A : List Item → AS → Prop}
    (hA : Closed Try.prog codes sigs Try.f148 (pureFin [.int, .int, .int]) (fun y => y = r) 0 A) (i : Nat) (hi : i ≤ l.length) (a b c e : Int) (hb : 0 ≤ b ∧ b ≤ i) (hc : 0 ≤ c ∧ c ≤ i) (he : 0 ≤ e ∧ e ≤ i)
    (h : (b + cntK 1 (l.drop i), c + cntK 2 (l.drop i), e + cntK 3 (l.drop i)) = r) : A (hd Try.f148 0) (L148 l a b c e i) := by
  refine hA.go (t148a l a b c e i) (sat_bif (fun h1 => ?_) (fun h1 => ?_))
  · have h1 := of_decide_eq_true h1
    have hil : i < l.length := by omega
    rw [getD_int hil]
    rw [List.drop_eq_getElem_cons hil] at h
    simp only [cntK] at h
    refine ⟨⟨⟨by omega, by omega⟩, trivial⟩, ?_⟩
    rcases hv l[i] (List.getElem_mem hil) with hk | hk | hk <;> rw [hk] at h ⊢
    · refine sat_bif (fun h => absurd h (by decide)) (fun _ => sat_bif (fun h => absurd h (by decide)) (fun _ => sat_bif (fun _ => ?_) (fun h => absurd h (by decide))))
      refine sat_bif (fun h => absurd h (by decide)) (fun _ => sat_bif (fun h => absurd h (by decide)) (fun _ => sat_bif (fun _ => ?_) (fun h => absurd h (by decide))))
      rw [wrap_succ (by omega), wrap_i64 (by omega) (by omega)]
      refine loop148 hl hv hA (i + 1) (by omega) a (b + 1) c e (by omega) (by omega) (by omega) ?_
      rw [← h]
      refine Prod.ext ?_ (Prod.ext ?_ ?_)
      · show b + 1 + _ = b + (1 + _); omega
      · show c + _ = c + (0 + _); omega
      · show e + _ = e + (0 + _); omega
    · refine sat_bif (fun h => absurd h (by decide)) (fun _ => sat_bif (fun _ => ?_) (fun h => absurd h (by decide)))
      refine sat_bif (fun h => absurd h (by decide)) (fun _ => sat_bif (fun _ => ?_) (fun h => absurd h (by decide)))
      rw [wrap_succ (by omega), wrap_i64 (by omega) (by omega)]
      refine loop148 hl hv hA (i + 1) (by omega) a b (c + 1) e (by omega) (by omega) (by omega) ?_
      rw [← h]
      refine Prod.ext ?_ (Prod.ext ?_ ?_)
      · show b + _ = b + (0 + _); omega
      · show c + 1 + _ = c + (1 + _); omega
      · show e + _ = e + (0 + _); omega
    · refine sat_bif (fun _ => ?_) (fun h => absurd h (by decide))
      refine sat_bif (fun _ => ?_) (fun h => absurd h (by decide))
      rw [wrap_succ (by omega), wrap_i64 (by omega) (by omega)]
      refine loop148 hl hv hA (i + 1) (by omega) a b c (e + 1) (by omega) (by omega) (by omega) ?_
      rw [← h]
      refine Prod.ext ?_ (Prod.ext ?_ ?_)
      · show b + _ = b + (0 + _); omega
      · show c + _ = c + (0 + _); omega
      · show e + 1 + _ = e + (1 + _); omega
  · have h1 := of_decide_eq_false h1
    rw [List.drop_eq_nil_of_le (by omega)] at h
    simp only [cntK, Int.add_zero] at h
    exact ⟨⟨T2', T2', T2'⟩, h⟩
termination_by l.length - i
theorem parts_few {d : Deck} (h : DeckOk d) : (partsS d).length ≤ 800 := by
  have := parts_len h
  have h1 := h.wells
  have h2 := h.tips
  have h3 := h.lanes
  omega
theorem c148 (d : Deck) : Pure Try.prog 148 [⟨.deck, d⟩] [.int, .int, .int] (countS d) :=
  Pure.of_closed (C := codes) (S := sigs) mixed Try.func148 (by kernel_rfl) (Nat.le_of_ble_eq_true (by kernel_rfl)) fun A hA => hA.go (t148 d) (by
    refine ⟨⟨T5', trivial⟩, _, c90 d, ?_⟩
    show A (hd Try.f148 0) (L148 (partsOf d) 0 0 0 0 (0 : Nat))
    cases h : deckS d != 0
    · have hk : DeckOk d := deck_ok (by simpa using h)
      have hp : partsOf d = partsS d := by unfold partsOf; rw [h]; rfl
      have hf := parts_few hk
      rw [hp]
      refine loop148 (by omega) (fun p hp => ?_) hA 0 (by omega) 0 0 0 0 (by omega) (by omega) (by omega) ?_
      · rcases parts_valid hp with ⟨h, _⟩ | ⟨h, _⟩ | ⟨h, _⟩
        · exact .inl h
        · exact .inr (.inl h)
        · exact .inr (.inr h)
      · obtain ⟨h1, h2, h3⟩ := cnt_parts hk
        rw [List.drop_zero, h1, h2, h3]
        unfold countS
        rw [h, cond_false]
        refine Prod.ext ?_ (Prod.ext ?_ ?_) <;> simp
    · have hp : partsOf d = [] := by unfold partsOf; rw [h]; rfl
      rw [hp]
      refine loop148 (by simp) (fun p hp => by cases hp) hA 0 (by omega) 0 0 0 0 (by omega) (by omega) (by omega) ?_
      unfold countS
      rw [h]; rfl)

/-! ### the middle, and the lanes that are covered -/
theorem c88 (r : Row) (c : Int) : Pure Try.prog 88 [⟨.row, r⟩, ⟨.int, c⟩] [.flt] (midS r c) := ofT Try.func88 (t88 r c) (by kernel_rfl) (by kernel_rfl) fun _ => ⟨T2', rfl⟩
theorem c87 {d : Deck} {p : Part} (hv : ValidP d p) (h3 : p.kind ≠ 3) : Pure Try.prog 87 [⟨.deck, d⟩, ⟨.part, p⟩] [.row] (rowS d p) :=
  ofT Try.func87 (t87 d p) (by kernel_rfl) (by kernel_rfl) fun A => by
    unfold rowS
    refine sat_if (fun h => ?_) (fun h => ?_)
    · have hk : p.kind = 2 := by simpa using h
      rcases hv with ⟨h, _⟩ | ⟨_, h1, h2⟩ | ⟨h, _⟩
      · omega
      · exact ⟨⟨⟨h1, h2⟩, trivial⟩, ⟨trivial, trivial, trivial, trivial⟩, rfl⟩
      · omega
    · have hk : p.kind ≠ 2 := by simpa using h
      rcases hv with ⟨_, h1, h2⟩ | ⟨h, _⟩ | ⟨h, _⟩
      · exact ⟨⟨⟨h1, h2⟩, trivial⟩, ⟨trivial, trivial, trivial, trivial⟩, rfl⟩
      · omega
      · omega
theorem c44 {d : Deck} {p : Part} (hv : ValidP d p) (h3 : p.kind ≠ 3) : Pure Try.prog 44 [⟨.deck, d⟩, ⟨.part, p⟩] [.flt, .flt] (midS (rowS d p) p.col, (rowS d p).reach) :=
  ofT Try.func44 (t44 d p) (by kernel_rfl) (by kernel_rfl) fun A => by
    unfold rowS
    refine sat_bif (fun h => ?_) (fun h => ?_)
    · have hk : p.kind = 1 := by simpa using h
      rcases hv with ⟨_, h1, h2⟩ | ⟨h, _⟩ | ⟨h, _⟩
      · refine ⟨⟨⟨h1, h2⟩, trivial⟩, ⟨T2', T2'⟩, ?_⟩
        rw [hk]; rfl
      · omega
      · omega
    · have hk : p.kind ≠ 1 := by simpa using h
      rcases hv with ⟨h, _⟩ | ⟨h, h1, h2⟩ | ⟨h, _⟩
      · omega
      · refine ⟨⟨⟨h1, h2⟩, trivial⟩, ⟨T2', T2'⟩, ?_⟩
        rw [h]; rfl
      · omega
theorem c85 {d : Deck} {p : Part} (hv : ValidP d p) : Pure Try.prog 85 [⟨.deck, d⟩, ⟨.part, p⟩] [.span, .int] (coverS d p) :=
  ofT Try.func85 (t85 d p) (by kernel_rfl) (by kernel_rfl) fun A => by
    unfold coverS
    refine sat_if (fun h => ⟨⟨T3', T2'⟩, rfl⟩) (fun h => ?_)
    have h3 : p.kind ≠ 3 := by simpa using h
    exact ⟨⟨T5', T5', trivial⟩, _, c87 hv h3, ⟨⟨trivial, trivial, trivial, trivial⟩, T2', trivial⟩, _, c88 _ _, ⟨T2', T2', T2', trivial⟩, _, c119 _ _ _, ⟨T3', T2'⟩, rfl⟩
theorem c86 {d : Deck} {p : Part} (hv : ValidP d p) : Pure Try.prog 86 [⟨.deck, d⟩, ⟨.part, p⟩] [.span, .int] (coverS d p) :=
  ofT Try.func86 (t86 d p) (by kernel_rfl) (by kernel_rfl) fun A => by
    unfold coverS
    refine sat_if (fun h => ⟨⟨T3', T2'⟩, rfl⟩) (fun h => ?_)
    have h3 : p.kind ≠ 3 := by simpa using h
    exact ⟨⟨T5', T5', trivial⟩, _, c44 hv h3, ⟨T2', T2', T2', trivial⟩, _, c120 _ _ _, ⟨T3', T2'⟩, (reach_eq _ _ _).symm⟩
theorem c39 (d : Deck) (i : Int) : Pure Try.prog 39 [⟨.deck, d⟩, ⟨.int, i⟩] [.span, .int] (spanS d i) :=
  ofT Try.func39 (t39 d i) (by kernel_rfl) (by kernel_rfl) fun A => by
    unfold spanS
    refine ⟨⟨T5', T2', trivial⟩, _, c84 d i, sat_if (fun h => ⟨⟨T3', T2'⟩, rfl⟩) (fun h => ?_)⟩
    obtain ⟨_, hv⟩ := part_valid (d := d) (i := i) (by simpa using h)
    exact ⟨⟨T5', T5', trivial⟩, _, c85 hv, ⟨T3', T2'⟩, rfl⟩
theorem c40 (d : Deck) (i : Int) : Pure Try.prog 40 [⟨.deck, d⟩, ⟨.int, i⟩] [.span, .int] (spanS d i) :=
  ofT Try.func40 (t40 d i) (by kernel_rfl) (by kernel_rfl) fun A => by
    unfold spanS
    refine ⟨⟨T5', T2', trivial⟩, _, c42 d i, sat_if (fun h => ⟨⟨T3', T2'⟩, rfl⟩) (fun h => ?_)⟩
    obtain ⟨_, hv⟩ := part_valid (d := d) (i := i) (by simpa using h)
    exact ⟨⟨T5', T5', trivial⟩, _, c86 hv, ⟨T3', T2'⟩, rfl⟩
def atS (d : Deck) (i : Int) : Fl × Int := bif (partS d i).2 != 0 then (some 0, (partS d i).2) else bif (partS d i).1.kind == 3 then (some 0, 1) else (midS (rowS d (partS d i).1) (partS d i).1.col, 0)
theorem c41 (d : Deck) (i : Int) : Pure Try.prog 41 [⟨.deck, d⟩, ⟨.int, i⟩] [.flt, .int] (atS d i) :=
  ofT Try.func41 (t41 d i) (by kernel_rfl) (by kernel_rfl) fun A => by
    unfold atS
    refine ⟨⟨T5', T2', trivial⟩, _, c84 d i, sat_if (fun h => ⟨⟨T2', T2'⟩, rfl⟩) (fun h => sat_if (fun h2 => ⟨⟨T2', T2'⟩, rfl⟩) (fun h2 => ?_))⟩
    obtain ⟨_, hv⟩ := part_valid (d := d) (i := i) (by simpa using h)
    have h3 : (partS d i).1.kind ≠ 3 := by simpa using h2
    exact ⟨⟨T5', T5', trivial⟩, _, c87 hv h3, ⟨⟨trivial, trivial, trivial, trivial⟩, T2', trivial⟩, _, c88 _ _, ⟨T2', T2'⟩, rfl⟩
end Go.Proofs.Zn

/- The functions that the zones' laws reach, all of them. (Own work.) -/
namespace Go.Proofs.Zn
open Go Go.VL

/-- 'take' of sets.along: the list in the box, one number longer where it is wanted. -/
def takeOut : List AV → Heap → TyTup [Ty.sl .int] → GRes := fun xs H x => match xs with
  | [_, .d (.v (.bool true)), _] => ⟨[], [(0, .box [.own 2 .int]), (2, .row 3 .int x)], 3⟩
  | _ => ⟨[], H, 2⟩
def sigL2 : List (Nat × Sig) := sigL ++
  [(47, .pure [.deck] [.int]), (45, .pure [.deck] [.sl .span, .int]), (46, .pure [.deck] [.sl .span, .int]), (48, .pure [.deck, .sl .int] [.sl .int, .int]), (49, .pure [.deck, .sl .int] [.sl .int, .int]),
   (51, .pure [.deck, .int, .int] [.bool, .int]), (52, .pure [.deck, .int, .int] [.bool, .int]), (53, .pure [.deck, .int, .int] [.sl .int, .int]), (54, .pure [.deck, .int, .int] [.sl .int, .int]),
   (55, .pure [.sl .int, .sl .int] [.sl .int]), (56, .pure [.sl .int, .sl .int] [.sl .int]), (57, .pure [.sl .int, .sl .int] [.sl .int]), (50, .pure [.sl .int, .sl .int] [.bool]),
   (94, .pure [.deck, .int, .int, .int] [.sl .span, .int]), (96, .pure [.deck, .sl .int] [.sl .span, .int]), (98, .pure [.deck, .sl .int] [.sl .span, .int]), (97, .pure [.deck, .sl .span] [.sl .int]),
   (99, .pure [.deck, .span] [.sl .int]), (130, .pure [.deck] [.int]), (100, .pure [.sl .int, .int] [.bool]), (101, .pure [.sl .int, .int] [.sl .int]), (129, .pure [.sl .int] [.sl .int]),
   (147, .pure [.sl .int, .sl .int] [.sl .int]), (156, .pure [.sl .int, .sl .int, .bool, .bool, .bool] [.sl .int]), (159, .heap [.sl .int] takeOut),
   (31, .pure [.sl .span] [.sl .span]), (25, .pure [.span, .span] [.bool]), (21, .pure [.span, .span] [.span]), (32, .pure [.sl .span, .sl .span] [.bool])]
def sigs2 : Sigs := look sigL2
theorem ofT2 {f : FuncId} {fn : Func} (hf : Try.prog.funcs[f]? = some fn) {args : List Arg} {ts : List Ty} {x : TyTup ts} {cu : Cuts} {n : Nat} {fst : Bool} {T : Out (TyTup ts)}
    (he : aexec Try.prog codes sigs2 fn (pureFin ts) 0 cu n fst (bodyOf fn) (startS fn args) = T) (hb : fn.body.isSome = true) (hnt : Nat.ble args.length fn.ntmps = true) (h : ∀ A, Sat Try.prog A (· = x) T) : Pure Try.prog f args ts x :=
  Pure.of_tree mixed hf hb (Nat.le_of_ble_eq_true hnt) he h
end Go.Proofs.Zn

namespace Go.Proofs.Zn
open Go Go.VL


theorem t47 (d : Deck) : @Eq (Out (TyTup [.int])) (aexec Try.prog codes sigs2 Try.f47 (pureFin [.int]) 0 noCut 300 false (bodyOf Try.f47) (startS Try.f47 [⟨.deck, d⟩]))
    (Out.need ((True ∧ True ∧ True ∧ True ∧ True) ∧ True)
  (Out.callP (92 : Nat) [Sigma.mk Ty.deck d] [Ty.int] fun (x : Int) =>
    bif x != (0 : Int) then Out.need (True ∧ True) (Out.ret x)
    else
      Out.stop (hd Try.f47 (0 : Nat))
        (mkS (45 : Nat)
          [((1 : Nat), AV.ptr (0 : Nat) (0 : Nat)), ((3 : Nat), AV.ptr (1 : Nat) (0 : Nat)),
            ((4 : Nat), AV.clo (Fn.func (95 : Nat)) [] [AV.ptr (1 : Nat) (0 : Nat), AV.ptr (0 : Nat) (0 : Nat)]),
            ((16 : Nat), AV.d (D.sl Ty.plate (Deck.plates d))),
            ((17 : Nat), AV.d (D.v (Value.int IntKind.i64 (↑(List.length (Deck.plates d)) : Int)))),
            ((18 : Nat), AV.d (D.v (Value.int IntKind.i64 (0 : Int))))]
          [((0 : Nat),
              ABlk.box
                [AV.d (D.sl Ty.flt (Deck.borders d)), AV.d (D.sl Ty.plate (Deck.plates d)),
                  AV.d (D.sl Ty.rack (Deck.racks d)), AV.d (D.v (Value.int IntKind.i64 (Deck.arms d)))]),
            ((1 : Nat), ABlk.box [AV.d (D.v (Value.int IntKind.i64 x))])]
          (2 : Nat)))) := by kernel_rfl

theorem t45 (d : Deck) : @Eq (Out (TyTup [.sl .span, .int])) (aexec Try.prog codes sigs2 Try.f45 (pureFin [.sl .span, .int]) 0 noCut 300 false (bodyOf Try.f45) (startS Try.f45 [⟨.deck, d⟩]))
    (Out.need ((True ∧ True ∧ True ∧ True ∧ True) ∧ True)
  (Out.callP (92 : Nat) [Sigma.mk Ty.deck d] [Ty.int] fun (x : Int) =>
    bif x != (0 : Int) then Out.need ((True ∧ True) ∧ True ∧ True) (Out.ret ([], x))
    else
      Out.stop (hd Try.f45 (0 : Nat))
        (mkS (76 : Nat)
          [((1 : Nat), AV.ptr (0 : Nat) (0 : Nat)), ((5 : Nat), AV.ptr (1 : Nat) (0 : Nat)),
            ((6 : Nat), AV.ptr (2 : Nat) (0 : Nat)),
            ((7 : Nat),
              AV.clo (Fn.func (93 : Nat)) []
                [AV.ptr (0 : Nat) (0 : Nat), AV.ptr (1 : Nat) (0 : Nat), AV.ptr (2 : Nat) (0 : Nat)])]
          [((0 : Nat),
              ABlk.box
                [AV.d (D.sl Ty.flt (Deck.borders d)), AV.d (D.sl Ty.plate (Deck.plates d)),
                  AV.d (D.sl Ty.rack (Deck.racks d)), AV.d (D.v (Value.int IntKind.i64 (Deck.arms d)))]),
            ((1 : Nat), ABlk.box [AV.d (D.v (Value.slice none (0 : Nat) (0 : Nat)))]),
            ((2 : Nat), ABlk.box [AV.d (D.v (Value.int IntKind.i64 (0 : Int)))])]
          (3 : Nat)))) := by kernel_rfl

theorem t46 (d : Deck) : @Eq (Out (TyTup [.sl .span, .int])) (aexec Try.prog codes sigs2 Try.f46 (pureFin [.sl .span, .int]) 0 noCut 300 false (bodyOf Try.f46) (startS Try.f46 [⟨.deck, d⟩]))
    (Out.need ((True ∧ True ∧ True ∧ True ∧ True) ∧ True)
  (Out.callP (89 : Nat) [Sigma.mk Ty.deck d] [Ty.int] fun (x : Int) =>
    bif x != (0 : Int) then Out.need ((True ∧ True) ∧ True ∧ True) (Out.ret ([], x))
    else
      Out.need ((True ∧ True ∧ True ∧ True ∧ True) ∧ True)
        (Out.callP (90 : Nat) [Sigma.mk Ty.deck d] [Ty.sl Ty.part] fun (x : List Part) =>
          Out.stop (hd Try.f46 (0 : Nat))
            (mkS (40 : Nat)
              [((1 : Nat), AV.ptr (0 : Nat) (0 : Nat)), ((5 : Nat), AV.d (D.v (Value.slice none (0 : Nat) (0 : Nat)))),
                ((6 : Nat), AV.d (D.sl Ty.part x)), ((7 : Nat), AV.d (D.v (Value.int IntKind.i64 (0 : Int))))]
              [((0 : Nat),
                  ABlk.box
                    [AV.d (D.sl Ty.flt (Deck.borders d)), AV.d (D.sl Ty.plate (Deck.plates d)),
                      AV.d (D.sl Ty.rack (Deck.racks d)), AV.d (D.v (Value.int IntKind.i64 (Deck.arms d)))])]
              (1 : Nat))))) := by kernel_rfl

theorem t48 (d : Deck) (l : List Int) : @Eq (Out (TyTup [.sl .int, .int])) (aexec Try.prog codes sigs2 Try.f48 (pureFin [.sl .int, .int]) 0 noCut 300 false (bodyOf Try.f48) (startS Try.f48 [⟨.deck, d⟩, ⟨.sl .int, l⟩]))
    (Out.need ((True ∧ True ∧ True ∧ True ∧ True) ∧ (True ∧ True) ∧ True)
  (Out.callP (96 : Nat) [Sigma.mk Ty.deck d, Sigma.mk (Ty.sl Ty.int) l] [Ty.sl Ty.span, Ty.int]
    fun (x : List Span × Int) =>
    bif Prod.snd x != (0 : Int) then Out.need ((True ∧ True) ∧ True ∧ True) (Out.ret ([], Prod.snd x))
    else
      Out.need ((True ∧ True ∧ True ∧ True ∧ True) ∧ (True ∧ True) ∧ True)
        (Out.callP (97 : Nat) [Sigma.mk Ty.deck d, Sigma.mk (Ty.sl Ty.span) (Prod.fst x)] [Ty.sl Ty.int]
          fun (x : List Int) => Out.need ((True ∧ True) ∧ True ∧ True) (Out.ret (x, (0 : Int)))))) := by kernel_rfl

theorem t49 (d : Deck) (l : List Int) : @Eq (Out (TyTup [.sl .int, .int])) (aexec Try.prog codes sigs2 Try.f49 (pureFin [.sl .int, .int]) 0 noCut 300 false (bodyOf Try.f49) (startS Try.f49 [⟨.deck, d⟩, ⟨.sl .int, l⟩]))
    (Out.need ((True ∧ True ∧ True ∧ True ∧ True) ∧ (True ∧ True) ∧ True)
  (Out.callP (98 : Nat) [Sigma.mk Ty.deck d, Sigma.mk (Ty.sl Ty.int) l] [Ty.sl Ty.span, Ty.int]
    fun (x : List Span × Int) =>
    Out.stop (hd Try.f49 (0 : Nat))
      (mkS (32 : Nat)
        [((2 : Nat), AV.ptr (0 : Nat) (0 : Nat)), ((6 : Nat), AV.d (D.sl Ty.span (Prod.fst x))),
          ((7 : Nat), AV.d (D.v (Value.int IntKind.i64 (Prod.snd x)))),
          ((8 : Nat), AV.d (D.v (Value.slice none (0 : Nat) (0 : Nat)))),
          ((9 : Nat), AV.d (D.v (Value.int IntKind.i64 (0 : Int))))]
        [((0 : Nat),
            ABlk.box
              [AV.d (D.sl Ty.flt (Deck.borders d)), AV.d (D.sl Ty.plate (Deck.plates d)),
                AV.d (D.sl Ty.rack (Deck.racks d)), AV.d (D.v (Value.int IntKind.i64 (Deck.arms d)))])]
        (1 : Nat)))) := by kernel_rfl

theorem t51 (d : Deck) (a : Int) (b : Int) : @Eq (Out (TyTup [.bool, .int])) (aexec Try.prog codes sigs2 Try.f51 (pureFin [.bool, .int]) 0 noCut 300 false (bodyOf Try.f51) (startS Try.f51 [⟨.deck, d⟩, ⟨.int, a⟩, ⟨.int, b⟩]))
    (Out.need ((True ∧ True) ∧ (True ∧ True) ∧ True)
  (Out.need ((True ∧ True ∧ True ∧ True ∧ True) ∧ (True ∧ True) ∧ True)
    (Out.callP (96 : Nat) [Sigma.mk Ty.deck d, Sigma.mk (Ty.sl Ty.int) [a, b]] [Ty.sl Ty.span, Ty.int]
      fun (x : List Span × Int) =>
      bif Prod.snd x != (0 : Int) then Out.need ((True ∧ True) ∧ True ∧ True) (Out.ret (false, Prod.snd x))
      else
        Out.need (((0 : Int) ≤ (0 : Int) ∧ (0 : Int) < (↑(List.length (Prod.fst x)) : Int)) ∧ True)
          (Out.need (((0 : Int) ≤ (1 : Int) ∧ (1 : Int) < (↑(List.length (Prod.fst x)) : Int)) ∧ True)
            (Out.need ((True ∧ True ∧ True) ∧ (True ∧ True ∧ True) ∧ True)
              (Out.callP (25 : Nat)
                [Sigma.mk Ty.span (List.getD (Prod.fst x) (0 : Nat) (Ty.dflt Ty.span)),
                  Sigma.mk Ty.span (List.getD (Prod.fst x) (1 : Nat) (Ty.dflt Ty.span))]
                [Ty.bool] fun (x : Bool) => Out.need ((True ∧ True) ∧ True ∧ True) (Out.ret (x, (0 : Int))))))))) := by kernel_rfl

theorem t52 (d : Deck) (a : Int) (b : Int) : @Eq (Out (TyTup [.bool, .int])) (aexec Try.prog codes sigs2 Try.f52 (pureFin [.bool, .int]) 0 noCut 300 false (bodyOf Try.f52) (startS Try.f52 [⟨.deck, d⟩, ⟨.int, a⟩, ⟨.int, b⟩]))
    (Out.need ((True ∧ True) ∧ (True ∧ True) ∧ True)
  (Out.need ((True ∧ True ∧ True ∧ True ∧ True) ∧ (True ∧ True) ∧ True)
    (Out.callP (98 : Nat) [Sigma.mk Ty.deck d, Sigma.mk (Ty.sl Ty.int) [a, b]] [Ty.sl Ty.span, Ty.int]
      fun (x : List Span × Int) =>
      bif Prod.snd x != (0 : Int) then Out.need ((True ∧ True) ∧ True ∧ True) (Out.ret (false, Prod.snd x))
      else
        Out.need (((0 : Int) ≤ (0 : Int) ∧ (0 : Int) < (↑(List.length (Prod.fst x)) : Int)) ∧ True)
          (Out.need (((0 : Int) ≤ (1 : Int) ∧ (1 : Int) < (↑(List.length (Prod.fst x)) : Int)) ∧ True)
            (bif
                decide
                  (Span.lo (List.getD (Prod.fst x) (0 : Nat) (Ty.dflt Ty.span)) ≤
                    Span.hi (List.getD (Prod.fst x) (1 : Nat) (Ty.dflt Ty.span))) then
              Out.need (((0 : Int) ≤ (1 : Int) ∧ (1 : Int) < (↑(List.length (Prod.fst x)) : Int)) ∧ True)
                (Out.need (((0 : Int) ≤ (0 : Int) ∧ (0 : Int) < (↑(List.length (Prod.fst x)) : Int)) ∧ True)
                  (Out.need ((True ∧ True) ∧ True ∧ True)
                    (Out.ret
                      (decide
                          (Span.lo (List.getD (Prod.fst x) (1 : Nat) (Ty.dflt Ty.span)) ≤
                            Span.hi (List.getD (Prod.fst x) (0 : Nat) (Ty.dflt Ty.span))),
                        (0 : Int)))))
            else Out.need ((True ∧ True) ∧ True ∧ True) (Out.ret (false, (0 : Int)))))))) := by kernel_rfl

theorem t53 (d : Deck) (a : Int) (b : Int) : @Eq (Out (TyTup [.sl .int, .int])) (aexec Try.prog codes sigs2 Try.f53 (pureFin [.sl .int, .int]) 0 noCut 300 false (bodyOf Try.f53) (startS Try.f53 [⟨.deck, d⟩, ⟨.int, a⟩, ⟨.int, b⟩]))
    (Out.need ((True ∧ True) ∧ (True ∧ True) ∧ True)
  (Out.need ((True ∧ True ∧ True ∧ True ∧ True) ∧ (True ∧ True) ∧ True)
    (Out.callP (96 : Nat) [Sigma.mk Ty.deck d, Sigma.mk (Ty.sl Ty.int) [a, b]] [Ty.sl Ty.span, Ty.int]
      fun (x : List Span × Int) =>
      bif Prod.snd x != (0 : Int) then Out.need ((True ∧ True) ∧ True ∧ True) (Out.ret ([], Prod.snd x))
      else
        Out.need (((0 : Int) ≤ (0 : Int) ∧ (0 : Int) < (↑(List.length (Prod.fst x)) : Int)) ∧ True)
          (Out.need (((0 : Int) ≤ (1 : Int) ∧ (1 : Int) < (↑(List.length (Prod.fst x)) : Int)) ∧ True)
            (Out.need ((True ∧ True ∧ True) ∧ (True ∧ True ∧ True) ∧ True)
              (Out.callP (21 : Nat)
                [Sigma.mk Ty.span (List.getD (Prod.fst x) (0 : Nat) (Ty.dflt Ty.span)),
                  Sigma.mk Ty.span (List.getD (Prod.fst x) (1 : Nat) (Ty.dflt Ty.span))]
                [Ty.span] fun (x : Span) =>
                Out.need ((True ∧ True ∧ True) ∧ True)
                  (Out.need ((True ∧ True ∧ True ∧ True ∧ True) ∧ (True ∧ True) ∧ True)
                    (Out.callP (97 : Nat) [Sigma.mk Ty.deck d, Sigma.mk (Ty.sl Ty.span) [x]] [Ty.sl Ty.int]
                      fun (x : List Int) => Out.need ((True ∧ True) ∧ True ∧ True) (Out.ret (x, (0 : Int))))))))))) := by kernel_rfl

theorem t54 (d : Deck) (a : Int) (b : Int) : @Eq (Out (TyTup [.sl .int, .int])) (aexec Try.prog codes sigs2 Try.f54 (pureFin [.sl .int, .int]) 0 noCut 300 false (bodyOf Try.f54) (startS Try.f54 [⟨.deck, d⟩, ⟨.int, a⟩, ⟨.int, b⟩]))
    (Out.need ((True ∧ True) ∧ (True ∧ True) ∧ True)
  (Out.need ((True ∧ True ∧ True ∧ True ∧ True) ∧ (True ∧ True) ∧ True)
    (Out.callP (98 : Nat) [Sigma.mk Ty.deck d, Sigma.mk (Ty.sl Ty.int) [a, b]] [Ty.sl Ty.span, Ty.int]
      fun (x : List Span × Int) =>
      bif Prod.snd x != (0 : Int) then Out.need ((True ∧ True) ∧ True ∧ True) (Out.ret ([], Prod.snd x))
      else
        Out.need (((0 : Int) ≤ (0 : Int) ∧ (0 : Int) < (↑(List.length (Prod.fst x)) : Int)) ∧ True)
          (Out.need (((0 : Int) ≤ (1 : Int) ∧ (1 : Int) < (↑(List.length (Prod.fst x)) : Int)) ∧ True)
            (bif
                decide
                  (Span.lo (List.getD (Prod.fst x) (1 : Nat) (Ty.dflt Ty.span)) <
                    Span.lo (List.getD (Prod.fst x) (0 : Nat) (Ty.dflt Ty.span))) then
              Out.need (((0 : Int) ≤ (1 : Int) ∧ (1 : Int) < (↑(List.length (Prod.fst x)) : Int)) ∧ True)
                (Out.need (((0 : Int) ≤ (1 : Int) ∧ (1 : Int) < (↑(List.length (Prod.fst x)) : Int)) ∧ True)
                  (bif
                      decide
                        (Span.hi (List.getD (Prod.fst x) (1 : Nat) (Ty.dflt Ty.span)) >
                          Span.hi (List.getD (Prod.fst x) (0 : Nat) (Ty.dflt Ty.span))) then
                    Out.need (((0 : Int) ≤ (1 : Int) ∧ (1 : Int) < (↑(List.length (Prod.fst x)) : Int)) ∧ True)
                      (Out.need ((True ∧ True ∧ True ∧ True ∧ True) ∧ (True ∧ True ∧ True) ∧ True)
                        (Out.callP (99 : Nat)
                          [Sigma.mk Ty.deck d, Sigma.mk Ty.span (List.getD (Prod.fst x) (1 : Nat) (Ty.dflt Ty.span))]
                          [Ty.sl Ty.int] fun (x : List Int) =>
                          Out.need ((True ∧ True) ∧ True ∧ True) (Out.ret (x, (0 : Int)))))
                  else
                    Out.need ((True ∧ True ∧ True ∧ True ∧ True) ∧ (True ∧ True ∧ True) ∧ True)
                      (Out.callP (99 : Nat)
                        [Sigma.mk Ty.deck d,
                          Sigma.mk Ty.span
                            (Span.mk (Span.lo (List.getD (Prod.fst x) (1 : Nat) (Ty.dflt Ty.span)))
                              (Span.hi (List.getD (Prod.fst x) (0 : Nat) (Ty.dflt Ty.span))))]
                        [Ty.sl Ty.int] fun (x : List Int) =>
                        Out.need ((True ∧ True) ∧ True ∧ True) (Out.ret (x, (0 : Int))))))
            else
              Out.need (((0 : Int) ≤ (1 : Int) ∧ (1 : Int) < (↑(List.length (Prod.fst x)) : Int)) ∧ True)
                (bif
                    decide
                      (Span.hi (List.getD (Prod.fst x) (1 : Nat) (Ty.dflt Ty.span)) >
                        Span.hi (List.getD (Prod.fst x) (0 : Nat) (Ty.dflt Ty.span))) then
                  Out.need (((0 : Int) ≤ (1 : Int) ∧ (1 : Int) < (↑(List.length (Prod.fst x)) : Int)) ∧ True)
                    (Out.need ((True ∧ True ∧ True ∧ True ∧ True) ∧ (True ∧ True ∧ True) ∧ True)
                      (Out.callP (99 : Nat)
                        [Sigma.mk Ty.deck d,
                          Sigma.mk Ty.span
                            (Span.mk (Span.lo (List.getD (Prod.fst x) (0 : Nat) (Ty.dflt Ty.span)))
                              (Span.hi (List.getD (Prod.fst x) (1 : Nat) (Ty.dflt Ty.span))))]
                        [Ty.sl Ty.int] fun (x : List Int) =>
                        Out.need ((True ∧ True) ∧ True ∧ True) (Out.ret (x, (0 : Int)))))
                else
                  Out.need ((True ∧ True ∧ True ∧ True ∧ True) ∧ (True ∧ True ∧ True) ∧ True)
                    (Out.callP (99 : Nat)
                      [Sigma.mk Ty.deck d, Sigma.mk Ty.span (List.getD (Prod.fst x) (0 : Nat) (Ty.dflt Ty.span))]
                      [Ty.sl Ty.int] fun (x : List Int) =>
                      Out.need ((True ∧ True) ∧ True ∧ True) (Out.ret (x, (0 : Int)))))))))) := by kernel_rfl

theorem t55 (a : List Int) (b : List Int) : @Eq (Out (TyTup [.sl .int])) (aexec Try.prog codes sigs2 Try.f55 (pureFin [.sl .int]) 0 noCut 300 false (bodyOf Try.f55) (startS Try.f55 [⟨.sl .int, a⟩, ⟨.sl .int, b⟩]))
    (Out.stop (hd Try.f55 (0 : Nat))
  (mkS (27 : Nat)
    [((0 : Nat), AV.d (D.sl Ty.int a)), ((1 : Nat), AV.d (D.sl Ty.int b)),
      ((5 : Nat), AV.d (D.v (Value.slice none (0 : Nat) (0 : Nat)))),
      ((6 : Nat), AV.d (D.v (Value.int IntKind.i64 (0 : Int))))]
    [] (0 : Nat))) := by kernel_rfl

theorem t56 (a : List Int) (b : List Int) : @Eq (Out (TyTup [.sl .int])) (aexec Try.prog codes sigs2 Try.f56 (pureFin [.sl .int]) 0 noCut 300 false (bodyOf Try.f56) (startS Try.f56 [⟨.sl .int, a⟩, ⟨.sl .int, b⟩]))
    (Out.stop (hd Try.f56 (0 : Nat))
  (mkS (28 : Nat)
    [((0 : Nat), AV.d (D.sl Ty.int a)), ((1 : Nat), AV.d (D.sl Ty.int b)),
      ((5 : Nat), AV.d (D.v (Value.slice none (0 : Nat) (0 : Nat)))),
      ((6 : Nat), AV.d (D.v (Value.int IntKind.i64 (0 : Int))))]
    [] (0 : Nat))) := by kernel_rfl

theorem t57 (a : List Int) (b : List Int) : @Eq (Out (TyTup [.sl .int])) (aexec Try.prog codes sigs2 Try.f57 (pureFin [.sl .int]) 0 noCut 300 false (bodyOf Try.f57) (startS Try.f57 [⟨.sl .int, a⟩, ⟨.sl .int, b⟩]))
    (Out.need True
  (Out.need (((0 : Nat) + List.length a) * (9 : Nat) ≤ (35184372088832 : Nat) ∧ True)
    (Out.stop (hd Try.f57 (0 : Nat))
      (mkS (23 : Nat)
        [((1 : Nat), AV.d (D.sl Ty.int b)), ((5 : Nat), AV.own (0 : Nat) Ty.int),
          ((6 : Nat), AV.d (D.v (Value.int IntKind.i64 (0 : Int))))]
        [((0 : Nat), ABlk.row (3 : Nat) Ty.int a)] (1 : Nat))))) := by kernel_rfl

theorem t50 (a : List Int) (b : List Int) : @Eq (Out (TyTup [.bool])) (aexec Try.prog codes sigs2 Try.f50 (pureFin [.bool]) 0 noCut 300 false (bodyOf Try.f50) (startS Try.f50 [⟨.sl .int, a⟩, ⟨.sl .int, b⟩]))
    (bif (↑(List.length a) : Int) != (↑(List.length b) : Int) then Out.need (True ∧ True) (Out.ret false)
  else
  Out.stop (hd Try.f50 (0 : Nat))
    (mkS (26 : Nat)
      [((0 : Nat), AV.d (D.sl Ty.int a)), ((1 : Nat), AV.d (D.sl Ty.int b)),
        ((5 : Nat), AV.d (D.v (Value.int IntKind.i64 (0 : Int))))]
      [] (0 : Nat))) := by kernel_rfl

theorem t94 (d : Deck) (k : Int) (u : Int) (n : Int) : @Eq (Out (TyTup [.sl .span, .int])) (aexec Try.prog codes sigs2 Try.f94 (pureFin [.sl .span, .int]) 0 noCut 300 false (bodyOf Try.f94) (startS Try.f94 [⟨.deck, d⟩, ⟨.int, k⟩, ⟨.int, u⟩, ⟨.int, n⟩]))
    (Out.stop (hd Try.f94 (0 : Nat))
  (mkS (36 : Nat)
    [((1 : Nat), AV.d (D.v (Value.int IntKind.i64 k))), ((2 : Nat), AV.d (D.v (Value.int IntKind.i64 u))),
      ((4 : Nat), AV.ptr (0 : Nat) (0 : Nat)), ((10 : Nat), AV.d (D.v (Value.slice none (0 : Nat) (0 : Nat)))),
      ((14 : Nat), AV.d (D.v (Value.int IntKind.i64 n))), ((15 : Nat), AV.d (D.v (Value.int IntKind.i64 (0 : Int))))]
    [((0 : Nat),
        ABlk.box
          [AV.d (D.sl Ty.flt (Deck.borders d)), AV.d (D.sl Ty.plate (Deck.plates d)),
            AV.d (D.sl Ty.rack (Deck.racks d)), AV.d (D.v (Value.int IntKind.i64 (Deck.arms d)))])]
    (1 : Nat))) := by kernel_rfl

theorem t96 (d : Deck) (l : List Int) : @Eq (Out (TyTup [.sl .span, .int])) (aexec Try.prog codes sigs2 Try.f96 (pureFin [.sl .span, .int]) 0 noCut 300 false (bodyOf Try.f96) (startS Try.f96 [⟨.deck, d⟩, ⟨.sl .int, l⟩]))
    (Out.need ((True ∧ True ∧ True ∧ True ∧ True) ∧ True)
  (Out.callP (45 : Nat) [Sigma.mk Ty.deck d] [Ty.sl Ty.span, Ty.int] fun (x : List Span × Int) =>
    bif Prod.snd x != (0 : Int) then Out.need ((True ∧ True) ∧ True ∧ True) (Out.ret ([], Prod.snd x))
    else
      Out.stop (hd Try.f96 (0 : Nat))
        (mkS (42 : Nat)
          [((6 : Nat), AV.d (D.sl Ty.span (Prod.fst x))),
            ((8 : Nat), AV.d (D.v (Value.slice none (0 : Nat) (0 : Nat)))), ((19 : Nat), AV.d (D.sl Ty.int l)),
            ((20 : Nat), AV.d (D.v (Value.int IntKind.i64 (↑(List.length l) : Int)))),
            ((21 : Nat), AV.d (D.v (Value.int IntKind.i64 (0 : Int))))]
          [] (0 : Nat)))) := by kernel_rfl

theorem t98 (d : Deck) (l : List Int) : @Eq (Out (TyTup [.sl .span, .int])) (aexec Try.prog codes sigs2 Try.f98 (pureFin [.sl .span, .int]) 0 noCut 300 false (bodyOf Try.f98) (startS Try.f98 [⟨.deck, d⟩, ⟨.sl .int, l⟩]))
    (Out.need ((True ∧ True ∧ True ∧ True ∧ True) ∧ True)
  (Out.callP (46 : Nat) [Sigma.mk Ty.deck d] [Ty.sl Ty.span, Ty.int] fun (x : List Span × Int) =>
    bif Prod.snd x != (0 : Int) then Out.need ((True ∧ True) ∧ True ∧ True) (Out.ret ([], Prod.snd x))
    else
      Out.stop (hd Try.f98 (0 : Nat))
        (mkS (49 : Nat)
          [((1 : Nat), AV.d (D.sl Ty.int l)), ((6 : Nat), AV.d (D.sl Ty.span (Prod.fst x))),
            ((8 : Nat), AV.d (D.v (Value.slice none (0 : Nat) (0 : Nat)))),
            ((9 : Nat), AV.d (D.v (Value.int IntKind.i64 (0 : Int))))]
          [] (0 : Nat)))) := by kernel_rfl

theorem t97 (d : Deck) (l : List Span) : @Eq (Out (TyTup [.sl .int])) (aexec Try.prog codes sigs2 Try.f97 (pureFin [.sl .int]) 0 noCut 300 false (bodyOf Try.f97) (startS Try.f97 [⟨.deck, d⟩, ⟨.sl .span, l⟩]))
    (Out.need ((True ∧ True ∧ True ∧ True ∧ True) ∧ True)
  (Out.callP (115 : Nat) [Sigma.mk Ty.deck d] [Ty.int, Ty.int, Ty.int] fun (x : Int × Int × Int) =>
    Out.need ((True ∧ True) ∧ True)
      (Out.callP (31 : Nat) [Sigma.mk (Ty.sl Ty.span) l] [Ty.sl Ty.span] fun (x_1 : List Span) =>
        Out.stop (hd Try.f97 (0 : Nat))
          (mkS (44 : Nat)
            [((5 : Nat), AV.d (D.v (Value.int IntKind.i64 (Prod.fst x)))),
              ((6 : Nat), AV.d (D.v (Value.int IntKind.i64 (Prod.fst (Prod.snd x))))),
              ((8 : Nat), AV.d (D.v (Value.slice none (0 : Nat) (0 : Nat)))), ((19 : Nat), AV.d (D.sl Ty.span x_1)),
              ((20 : Nat), AV.d (D.v (Value.int IntKind.i64 (↑(List.length x_1) : Int)))),
              ((21 : Nat), AV.d (D.v (Value.int IntKind.i64 (0 : Int))))]
            [] (0 : Nat))))) := by kernel_rfl

theorem t99 (d : Deck) (s : Span) : @Eq (Out (TyTup [.sl .int])) (aexec Try.prog codes sigs2 Try.f99 (pureFin [.sl .int]) 0 noCut 300 false (bodyOf Try.f99) (startS Try.f99 [⟨.deck, d⟩, ⟨.span, s⟩]))
    (Out.stop (hd Try.f99 (0 : Nat))
  (mkS (23 : Nat)
    [((2 : Nat), AV.ptr (0 : Nat) (0 : Nat)), ((3 : Nat), AV.ptr (1 : Nat) (0 : Nat)),
      ((5 : Nat), AV.d (D.v (Value.slice none (0 : Nat) (0 : Nat)))),
      ((6 : Nat), AV.d (D.v (Value.int IntKind.i64 (Span.lo s))))]
    [((0 : Nat),
        ABlk.box
          [AV.d (D.sl Ty.flt (Deck.borders d)), AV.d (D.sl Ty.plate (Deck.plates d)),
            AV.d (D.sl Ty.rack (Deck.racks d)), AV.d (D.v (Value.int IntKind.i64 (Deck.arms d)))]),
      ((1 : Nat),
        ABlk.box [AV.d (D.v (Value.int IntKind.i64 (Span.lo s))), AV.d (D.v (Value.int IntKind.i64 (Span.hi s)))])]
    (2 : Nat))) := by kernel_rfl

theorem t130 (d : Deck) : @Eq (Out (TyTup [.int])) (aexec Try.prog codes sigs2 Try.f130 (pureFin [.int]) 0 noCut 300 false (bodyOf Try.f130) (startS Try.f130 [⟨.deck, d⟩]))
    (Out.need ((True ∧ True ∧ True ∧ True ∧ True) ∧ True)
  (Out.callP (148 : Nat) [Sigma.mk Ty.deck d] [Ty.int, Ty.int, Ty.int] fun (x : Int × Int × Int) =>
    Out.need (True ∧ True) (Out.ret (IntKind.wrap IntKind.i64 (Prod.fst x + Prod.fst (Prod.snd x)))))) := by kernel_rfl

theorem t100 (l : List Int) (n : Int) : @Eq (Out (TyTup [.bool])) (aexec Try.prog codes sigs2 Try.f100 (pureFin [.bool]) 0 noCut 300 false (bodyOf Try.f100) (startS Try.f100 [⟨.sl .int, l⟩, ⟨.int, n⟩]))
    (Out.stop (hd Try.f100 (0 : Nat))
  (mkS (18 : Nat)
    [((0 : Nat), AV.d (D.sl Ty.int l)), ((1 : Nat), AV.d (D.v (Value.int IntKind.i64 n))),
      ((5 : Nat), AV.d (D.v (Value.int IntKind.i64 (0 : Int))))]
    [] (0 : Nat))) := by kernel_rfl

theorem t101 (l : List Int) (n : Int) : @Eq (Out (TyTup [.sl .int])) (aexec Try.prog codes sigs2 Try.f101 (pureFin [.sl .int]) 0 noCut 300 false (bodyOf Try.f101) (startS Try.f101 [⟨.sl .int, l⟩, ⟨.int, n⟩]))
    (Out.stop (hd Try.f101 (0 : Nat))
  (mkS (45 : Nat)
    [((0 : Nat), AV.d (D.sl Ty.int l)), ((1 : Nat), AV.d (D.v (Value.int IntKind.i64 n))),
      ((5 : Nat), AV.d (D.v (Value.int IntKind.i64 (0 : Int))))]
    [] (0 : Nat))) := by kernel_rfl

theorem t129 (l : List Int) : @Eq (Out (TyTup [.sl .int])) (aexec Try.prog codes sigs2 Try.f129 (pureFin [.sl .int]) 0 noCut 300 false (bodyOf Try.f129) (startS Try.f129 [⟨.sl .int, l⟩]))
    (bif decide ((↑(List.length l) : Int) < (2 : Int)) then
  Out.need True
    (Out.need (((0 : Nat) + List.length l) * (9 : Nat) ≤ (35184372088832 : Nat) ∧ True)
      (Out.need (True ∧ True) (Out.ret ([] ++ l))))
  else
  Out.need ((2 : Int) ≠ (0 : Int))
    (Out.need
      (((0 : Int) ≤ (0 : Int) ∧
          (0 : Int) ≤ IntKind.wrap IntKind.i64 (Int.tdiv (↑(List.length l) : Int) (2 : Int)) ∧
            IntKind.wrap IntKind.i64 (Int.tdiv (↑(List.length l) : Int) (2 : Int)) ≤ (↑(List.length l) : Int)) ∧
        True)
      (Out.need ((True ∧ True) ∧ True)
        (Out.callP (129 : Nat)
          [Sigma.mk (Ty.sl Ty.int)
              (List.drop (0 : Nat)
                (List.take (Int.toNat (IntKind.wrap IntKind.i64 (Int.tdiv (↑(List.length l) : Int) (2 : Int)))) l))]
          [Ty.sl Ty.int] fun (x : List Int) =>
          Out.need
            (((0 : Int) ≤ IntKind.wrap IntKind.i64 (Int.tdiv (↑(List.length l) : Int) (2 : Int)) ∧
                IntKind.wrap IntKind.i64 (Int.tdiv (↑(List.length l) : Int) (2 : Int)) ≤ (↑(List.length l) : Int)) ∧
              True)
            (Out.need ((True ∧ True) ∧ True)
              (Out.callP (129 : Nat)
                [Sigma.mk (Ty.sl Ty.int)
                    (List.drop (Int.toNat (IntKind.wrap IntKind.i64 (Int.tdiv (↑(List.length l) : Int) (2 : Int)))) l)]
                [Ty.sl Ty.int] fun (x_1 : List Int) =>
                Out.need ((True ∧ True) ∧ (True ∧ True) ∧ True)
                  (Out.callP (147 : Nat) [Sigma.mk (Ty.sl Ty.int) x, Sigma.mk (Ty.sl Ty.int) x_1] [Ty.sl Ty.int]
                    fun (x : List Int) => Out.need (True ∧ True) (Out.ret x)))))))) := by kernel_rfl

theorem t147 (a : List Int) (b : List Int) : @Eq (Out (TyTup [.sl .int])) (aexec Try.prog codes sigs2 Try.f147 (pureFin [.sl .int]) 0 noCut 300 false (bodyOf Try.f147) (startS Try.f147 [⟨.sl .int, a⟩, ⟨.sl .int, b⟩]))
    (Out.need ((True ∧ True) ∧ (True ∧ True) ∧ (True ∧ True) ∧ (True ∧ True) ∧ (True ∧ True) ∧ True)
  (Out.callP (156 : Nat)
    [Sigma.mk (Ty.sl Ty.int) a, Sigma.mk (Ty.sl Ty.int) b, Sigma.mk Ty.bool true, Sigma.mk Ty.bool true,
      Sigma.mk Ty.bool true]
    [Ty.sl Ty.int] fun (x : List Int) => Out.need (True ∧ True) (Out.ret x))) := by kernel_rfl

theorem t156 (a : List Int) (b : List Int) (f : Bool) (s : Bool) (t : Bool) : @Eq (Out (TyTup [.sl .int])) (aexec Try.prog codes sigs2 Try.f156 (pureFin [.sl .int]) 0 noCut 300 false (bodyOf Try.f156) (startS Try.f156 [⟨.sl .int, a⟩, ⟨.sl .int, b⟩, ⟨.bool, f⟩, ⟨.bool, s⟩, ⟨.bool, t⟩]))
    (Out.stop (hd Try.f156 (0 : Nat))
  (mkS (94 : Nat)
    [((0 : Nat), AV.d (D.sl Ty.int a)), ((1 : Nat), AV.d (D.sl Ty.int b)), ((2 : Nat), AV.d (D.v (Value.bool f))),
      ((3 : Nat), AV.d (D.v (Value.bool s))), ((4 : Nat), AV.d (D.v (Value.bool t))),
      ((11 : Nat), AV.ptr (0 : Nat) (0 : Nat)),
      ((12 : Nat), AV.clo (Fn.func (159 : Nat)) [] [AV.ptr (0 : Nat) (0 : Nat)]),
      ((13 : Nat), AV.d (D.v (Value.int IntKind.i64 (0 : Int)))),
      ((14 : Nat), AV.d (D.v (Value.int IntKind.i64 (0 : Int))))]
    [((0 : Nat), ABlk.box [AV.d (D.v (Value.slice none (0 : Nat) (0 : Nat)))])] (1 : Nat))) := by kernel_rfl

end Go.Proofs.Zn
