/- Bytes and numbers, to and fro. (Own work.) -/
import Derived.Test.YtebbdkcocbampaaRpB
set_option linter.unusedVariables false
namespace Go.Proofs.Rp
open Go Go.VL

theorem be_succ (n : Int) (w : Nat) : be n (w + 1) = byteAt n w :: be n w := by
  simp only [be, List.range_succ_eq_map, List.map_cons, List.map_map]
  congr 1
  apply List.map_congr_left
  intro i hi
  show byteAt n (w + 1 - 1 - (i + 1)) = byteAt n (w - 1 - i)
  congr 1; omega
theorem pow_pos' (w : Nat) : (0 : Int) < 256 ^ w := Int.pow_pos (by decide)
theorem numU_be (n : Int) : ∀ w : Nat, numU (be n w) = n % 256 ^ w
  | 0 => by simp [be, numU, Int.emod_one]
  | w + 1 => by
    rw [be_succ, numU_cons, be_len, numU_be n w, byteAt, Int.pow_succ]
    have hp := pow_pos' w
    generalize (256 : Int) ^ w = p at *
    have h1 := Int.emod_add_mul_ediv n p
    have h2 := Int.emod_add_mul_ediv (n / p) 256
    have h3 := Int.emod_nonneg n (Int.ne_of_gt hp)
    have h4 := Int.emod_lt_of_pos n hp
    have h5 : 0 ≤ n / p % 256 ∧ n / p % 256 < 256 := by omega
    have e : n = (n / p % 256 * p + n % p) + (p * 256) * (n / p / 256) := by
      have h6 : p * (n / p) = p * (n / p % 256) + p * (256 * (n / p / 256)) := by rw [← Int.mul_add, h2]
      have h7 : p * (256 * (n / p / 256)) = p * 256 * (n / p / 256) := by rw [Int.mul_assoc]
      have h8 : p * (n / p % 256) = n / p % 256 * p := Int.mul_comm _ _
      omega
    have h9 : n / p % 256 * p ≤ 255 * p := Int.mul_le_mul_of_nonneg_right (by omega) (by omega)
    have h10 : 0 ≤ n / p % 256 * p := Int.mul_nonneg h5.1 (by omega)
    have key : n % (p * 256) = n / p % 256 * p + n % p := by
      conv => lhs; rw [e]
      rw [Int.add_mul_emod_self_left]
      exact Int.emod_eq_of_lt (by omega) (by omega)
    exact key.symm
theorem byteAt_add (n c : Int) {k w : Nat} (h : k < w) : byteAt (n + c * 256 ^ w) k = byteAt n k := by
  obtain ⟨d, rfl⟩ := Nat.exists_eq_add_of_lt h
  have hp := pow_pos' k
  unfold byteAt
  have e : c * 256 ^ (k + d + 1) = c * 256 ^ d * 256 * 256 ^ k := by
    rw [Int.pow_succ, Int.pow_add]
    generalize (256 : Int) ^ k = p
    generalize (256 : Int) ^ d = q
    rw [Int.mul_comm p q, Int.mul_assoc c q 256, Int.mul_assoc c (q * 256) p, Int.mul_assoc q p 256, Int.mul_assoc q 256 p, Int.mul_comm p 256]
  rw [e, Int.add_mul_ediv_right _ _ (Int.ne_of_gt hp), Int.add_mul_emod_self_right]
theorem be_add (n c : Int) (w : Nat) : be (n + c * 256 ^ w) w = be n w := by
  apply List.map_congr_left
  intro i hi
  exact byteAt_add n c (by have := List.mem_range.1 hi; omega)
theorem be_numU : ∀ {bs : List Int}, BV bs → be (numU bs) bs.length = bs
  | [], _ => rfl
  | c :: bs, h => by
    obtain ⟨c0, c1⟩ := h c (.head _)
    have hb : BV bs := fun d hd => h d (.tail _ hd)
    obtain ⟨b0, b1⟩ := numU_bound hb
    rw [List.length_cons, be_succ, numU_cons, Int.add_comm, be_add, be_numU hb]
    congr 1
    unfold byteAt
    rw [Int.add_mul_ediv_right _ _ (Int.ne_of_gt (pow_pos' _)), Int.ediv_eq_zero_of_lt b0 b1]
    omega
theorem be_wrapU {bs : List Int} (h : BV bs) (hl : bs.length ≤ 8) : be (IntKind.u64.wrap (numU bs)) bs.length = bs := by
  have h1 := numU_lt8 h hl
  have h2 := (numU_bound h).1
  have e : IntKind.u64.wrap (numU bs) = numU bs := by rw [wrap_u64]; omega
  rw [e, be_numU h]
theorem be_wrapI {bs : List Int} (h : BV bs) {k : Nat} (hk : bs.length = k + 1) (hl : bs.length ≤ 8) : be (IntKind.u64.wrap (numI bs)) bs.length = bs := by
  have e : ∃ c, IntKind.u64.wrap (numI bs) = numU bs + c * 256 ^ bs.length := by
    have e8 : (18446744073709551616 : Int) = 256 ^ (8 - bs.length) * 256 ^ bs.length := by
      rw [← Int.pow_add, Nat.sub_add_cancel hl]; decide
    rw [wrap_u64, numI_sign h hk]
    have e9 : (256 : Int) * 256 ^ k = 256 ^ bs.length := by rw [hk, Int.pow_succ, Int.mul_comm]
    rw [e9]
    have key : ∀ m : Int, m % 18446744073709551616 = m + -(m / 18446744073709551616 * 256 ^ (8 - bs.length)) * 256 ^ bs.length := by
      intro m
      have h1 : -(m / 18446744073709551616 * 256 ^ (8 - bs.length)) * 256 ^ bs.length = -(m / 18446744073709551616 * 18446744073709551616) := by
        rw [Int.neg_mul, Int.mul_assoc, ← e8]
      rw [h1]; omega
    cases decide (numU bs ≥ 128 * 256 ^ k)
    · exact ⟨_, key _⟩
    · refine ⟨-1 + -((numU bs - 256 ^ bs.length) / 18446744073709551616 * 256 ^ (8 - bs.length)), ?_⟩
      show (numU bs - 256 ^ bs.length) % 18446744073709551616 = _
      rw [key, Int.add_mul]
      omega
  obtain ⟨c, hc⟩ := e
  rw [hc, be_add, be_numU h]

theorem numU_wrap {n : Int} {w : Nat} (h0 : 0 ≤ n) (h1 : n < 256 ^ w) (h8 : n < 18446744073709551616) : numU (be (IntKind.u64.wrap n) w) = n := by
  have e : IntKind.u64.wrap n = n := by rw [wrap_u64]; omega
  rw [e, numU_be, Int.emod_eq_of_lt h0 h1]
theorem numI_wrap4 {n : Int} (h0 : -2147483648 ≤ n) (h1 : n < 2147483648) : numI (be (IntKind.u64.wrap n) 4) = n := by
  rw [numI_sign (k := 3) (be_bv _ _) (be_len _ _), numU_be, wrap_u64]
  have e4 : (256 : Int) ^ 4 = 4294967296 := by decide
  have e3 : (256 : Int) ^ 3 = 16777216 := by decide
  rw [e4, e3]
  by_cases h : n < 0
  · rw [decide_eq_true (by omega), cond_true]; omega
  · rw [decide_eq_false (by omega), cond_false]; omega
theorem numI_wrap8 {n : Int} (h0 : -9223372036854775808 ≤ n) (h1 : n < 9223372036854775808) : numI (be (IntKind.u64.wrap n) 8) = n := by
  rw [numI_sign (k := 7) (be_bv _ _) (be_len _ _), numU_be, wrap_u64]
  have e4 : (256 : Int) ^ 8 = 18446744073709551616 := by decide
  have e3 : (256 : Int) ^ 7 = 72057594037927936 := by decide
  rw [e4, e3]
  by_cases h : n < 0
  · rw [decide_eq_true (by omega), cond_true]; omega
  · rw [decide_eq_false (by omega), cond_false]; omega
end Go.Proofs.Rp

/- An answer that can be written is read of its bytes, and of no others. (Own work.) -/
namespace Go.Proofs.Rp
open Go Go.VL

/-! ### of its bytes -/
theorem stepF {B pre bs post : List Int} (h : B = pre ++ (bs ++ post)) {a : Int} (ha : a = (pre.length : Int)) {n : Int} (hn : n = (bs.length : Int)) : takeS B a 0 n = (a + n, 0, bs) := by
  subst ha; subst hn
  unfold takeS
  have hl : B.length = pre.length + bs.length + post.length := by rw [h, List.length_append, List.length_append]; omega
  rw [decide_eq_false (by omega), cond_false]
  show ((pre.length : Int) + bs.length, (0 : Int), (B.drop ((pre.length : Int)).toNat).take ((bs.length : Int)).toNat) = _
  rw [Int.toNat_natCast, Int.toNat_natCast, h, List.drop_left, List.take_left]
def chFit (c : Change) : Prop := chOK c = true ∧ FitI c.n
theorem listF : ∀ (l : List Change) (B pre : List Int) (acc : List Change) (a : Int), B = pre ++ listB l → a = (pre.length : Int) → (∀ c ∈ l, chFit c) → listS l.length ⟨B, a, 0⟩ acc = (⟨B, (B.length : Int), 0⟩, acc ++ l)
  | [], B, pre, acc, a, h, ha, _ => by
    have : B = pre := by rw [h]; simp [listB]
    subst this; subst ha
    simp [listS]
  | c :: l, B, pre, acc, a, h, ha, hc => by
    obtain ⟨hok, hn0, hn1⟩ := hc c (.head _)
    simp only [chOK, Bool.and_eq_true, decide_eq_true_eq] at hok
    obtain ⟨⟨v0, v1⟩, y0, y1⟩ := hok
    have eb : listB (c :: l) = be (IntKind.u64.wrap c.ver) 4 ++ (be (IntKind.u64.wrap c.by') 1 ++ (be (IntKind.u64.wrap c.n) 8 ++ listB l)) := by
      have : listB (c :: l) = chB c ++ listB l := by simp [listB]
      rw [this, chB_eq, List.append_assoc, List.append_assoc]
    rw [eb] at h
    have s1 := stepF h ha (n := 4) (by rw [be_len]; rfl)
    have h2 : B = (pre ++ be (IntKind.u64.wrap c.ver) 4) ++ (be (IntKind.u64.wrap c.by') 1 ++ (be (IntKind.u64.wrap c.n) 8 ++ listB l)) := by rw [h, List.append_assoc]
    have a2 : a + 4 = ((pre ++ be (IntKind.u64.wrap c.ver) 4).length : Int) := by rw [List.length_append, be_len, ha]; omega
    have s2 := stepF h2 a2 (n := 1) (by rw [be_len]; rfl)
    have h3 : B = (pre ++ be (IntKind.u64.wrap c.ver) 4 ++ be (IntKind.u64.wrap c.by') 1) ++ (be (IntKind.u64.wrap c.n) 8 ++ listB l) := by rw [h2, List.append_assoc]; simp
    have a3 : a + 4 + 1 = ((pre ++ be (IntKind.u64.wrap c.ver) 4 ++ be (IntKind.u64.wrap c.by') 1).length : Int) := by rw [List.length_append, be_len, a2]; omega
    have s3 := stepF h3 a3 (n := 8) (by rw [be_len]; rfl)
    have h4 : B = (pre ++ be (IntKind.u64.wrap c.ver) 4 ++ be (IntKind.u64.wrap c.by') 1 ++ be (IntKind.u64.wrap c.n) 8) ++ listB l := by rw [h3]; simp
    have a4 : a + 4 + 1 + 8 = ((pre ++ be (IntKind.u64.wrap c.ver) 4 ++ be (IntKind.u64.wrap c.by') 1 ++ be (IntKind.u64.wrap c.n) 8).length : Int) := by rw [List.length_append, be_len, a3]; omega
    have ih := listF l B _ (acc ++ [c]) _ h4 a4 (fun d hd => hc d (.tail _ hd))
    have ech : chS ⟨B, a, 0⟩ = (⟨B, a + 4 + 1 + 8, 0⟩, c) := by
      simp only [chS, behind, bytes, s1, s2, s3]
      rw [numU_wrap v0 (by have : (256 : Int) ^ 4 = 4294967296 := by decide
                           omega) (by omega), numU_wrap y0 (by have : (256 : Int) ^ 1 = 256 := by decide
                                                               omega) (by omega), numI_wrap8 hn0 hn1]
    rw [List.length_cons, listS, ech]
    show (bif (0 : Int) == 0 then listS l.length ⟨B, a + 4 + 1 + 8, 0⟩ (acc ++ [c]) else _) = _
    rw [show ((0 : Int) == 0) = true from rfl, cond_true, ih]
    simp

theorem back1 {x : Resp} (hx : mayB x = true) (hn : FitI x.n) (hc : ∀ c ∈ x.list, FitI c.n) : decS (encB x) = (x, 0) := by
  obtain ⟨e, i, n, v, l⟩ := x
  simp only [mayB, Bool.and_eq_true, decide_eq_true_eq, List.all_eq_true] at hx
  obtain ⟨⟨e0, e1⟩, ⟨i0, i1⟩, ⟨v0, v1⟩, hl, hok⟩ := hx
  obtain ⟨n0, n1⟩ := hn
  generalize hB : encB ⟨e, i, n, v, l⟩ = B
  have h1 : B = [] ++ (be (IntKind.u64.wrap e) 2 ++ (be (IntKind.u64.wrap i) 4 ++ (be (IntKind.u64.wrap n) 8 ++ (be (IntKind.u64.wrap v) 4 ++ (be (IntKind.u64.wrap (l.length : Int)) 1 ++ listB l))))) := by
    rw [← hB, encB, headB_eq]; simp
  have s1 := stepF h1 (a := 0) rfl (n := 2) (by rw [be_len]; rfl)
  have h2 : B = (be (IntKind.u64.wrap e) 2) ++ (be (IntKind.u64.wrap i) 4 ++ (be (IntKind.u64.wrap n) 8 ++ (be (IntKind.u64.wrap v) 4 ++ (be (IntKind.u64.wrap (l.length : Int)) 1 ++ listB l)))) := by rw [h1]; simp
  have s2 := stepF h2 (a := 0 + 2) (by rw [be_len]; rfl) (n := 4) (by rw [be_len]; rfl)
  have h3 : B = (be (IntKind.u64.wrap e) 2 ++ be (IntKind.u64.wrap i) 4) ++ (be (IntKind.u64.wrap n) 8 ++ (be (IntKind.u64.wrap v) 4 ++ (be (IntKind.u64.wrap (l.length : Int)) 1 ++ listB l))) := by rw [h2]; simp
  have s3 := stepF h3 (a := 0 + 2 + 4) (by rw [List.length_append, be_len, be_len]; rfl) (n := 8) (by rw [be_len]; rfl)
  have h4 : B = (be (IntKind.u64.wrap e) 2 ++ be (IntKind.u64.wrap i) 4 ++ be (IntKind.u64.wrap n) 8) ++ (be (IntKind.u64.wrap v) 4 ++ (be (IntKind.u64.wrap (l.length : Int)) 1 ++ listB l)) := by rw [h3]; simp
  have s4 := stepF h4 (a := 0 + 2 + 4 + 8) (by rw [List.length_append, List.length_append, be_len, be_len, be_len]; rfl) (n := 4) (by rw [be_len]; rfl)
  have h5 : B = (be (IntKind.u64.wrap e) 2 ++ be (IntKind.u64.wrap i) 4 ++ be (IntKind.u64.wrap n) 8 ++ be (IntKind.u64.wrap v) 4) ++ (be (IntKind.u64.wrap (l.length : Int)) 1 ++ listB l) := by rw [h4]; simp
  have s5 := stepF h5 (a := 0 + 2 + 4 + 8 + 4) (by rw [List.length_append, List.length_append, List.length_append, be_len, be_len, be_len, be_len]; rfl) (n := 1) (by rw [be_len]; rfl)
  have h6 : B = (be (IntKind.u64.wrap e) 2 ++ be (IntKind.u64.wrap i) 4 ++ be (IntKind.u64.wrap n) 8 ++ be (IntKind.u64.wrap v) 4 ++ be (IntKind.u64.wrap (l.length : Int)) 1) ++ listB l := by rw [h5]; simp
  have q1 : rd1 B = ⟨B, 0 + 2, 0⟩ := by simp only [rd1, behind, s1]
  have q2 : rd2 B = ⟨B, 0 + 2 + 4, 0⟩ := by simp only [rd2, q1, behind, s2]
  have q3 : rd3 B = ⟨B, 0 + 2 + 4 + 8, 0⟩ := by simp only [rd3, q2, behind, s3]
  have q4 : rd4 B = ⟨B, 0 + 2 + 4 + 8 + 4, 0⟩ := by simp only [rd4, q3, behind, s4]
  have q5 : rd5 B = ⟨B, 0 + 2 + 4 + 8 + 4 + 1, 0⟩ := by simp only [rd5, q4, behind, s5]
  have p4 : (256 : Int) ^ 4 = 4294967296 := by decide
  have p2 : (256 : Int) ^ 2 = 65536 := by decide
  have p1 : (256 : Int) ^ 1 = 256 := by decide
  have hcnt : cntS B = (l.length : Int) := by
    simp only [cntS, bytes, q4, s5]
    exact numU_wrap (by omega) (by omega) (by omega)
  have hhead : headS B = ⟨e, i, n, v, []⟩ := by
    simp only [headS, bytes, q1, q2, q3, s1, s2, s3, s4]
    rw [numU_wrap e0 (by omega) (by omega), numI_wrap4 i0 i1, numI_wrap8 n0 n1, numU_wrap v0 (by omega) (by omega)]
  have q6 : rd6 B = ⟨B, 0 + 2 + 4 + 8 + 4 + 1, 0⟩ := by
    rw [rd6, hcnt, decide_eq_false (by have : l.length ≤ 32 := hl; omega), cond_false, q5]
  have hlist := listF l B _ [] (0 + 2 + 4 + 8 + 4 + 1) h6 (by rw [List.length_append, List.length_append, List.length_append, List.length_append, be_len, be_len, be_len, be_len, be_len]; rfl) (fun c hc' => ⟨hok c hc', hc c hc'⟩)
  rw [decS, hcnt, Int.toNat_natCast, q6, hlist, hhead]
  have ee : (endS ⟨B, (B.length : Int), 0⟩).e = 0 := by
    simp only [endS]
    rw [decide_eq_false (by omega), cond_false]
  simp only [finS, ee]
  rfl
end Go.Proofs.Rp

/- .. and of no others. (Own work.) -/
namespace Go.Proofs.Rp
open Go Go.VL

theorem fst_ne0 {e x : Int} (hx : x ≠ 0) : fst e x ≠ 0 := by
  have := fst_ne (e := e) hx
  simpa using this
/-- What a step that went well took. -/
theorem stepR {b : List Int} (hb : BV b) {a e : Int} {n : Nat} (h0 : 0 ≤ a) (h : (takeS b a e n).2.1 = 0) :
    e = 0 ∧ (takeS b a e n).1 = a + n ∧ b.take (a.toNat + n) = b.take a.toNat ++ (takeS b a e n).2.2 ∧ (takeS b a e n).2.2.length = n ∧ BV (takeS b a e n).2.2 ∧ a + n ≤ b.length := by
  have hbv := bytes_bv hb a e n
  unfold takeS at *
  by_cases hd : (n : Int) > (b.length : Int) - a
  · rw [decide_eq_true hd, cond_true] at h
    exact absurd h (fst_ne0 (by decide))
  · rw [decide_eq_false hd, cond_false] at *
    by_cases he : e = 0
    · subst he
      have e1 : ((0 : Int) != 0) = false := rfl
      rw [e1, cond_false] at *
      refine ⟨rfl, rfl, ?_, ?_, hbv, by omega⟩
      · show b.take (a.toNat + n) = b.take a.toNat ++ (b.drop a.toNat).take n
        rw [List.take_add]
      · show ((b.drop a.toNat).take n).length = n
        rw [List.length_take, List.length_drop]; omega
    · have e1 : (e != 0) = true := by simpa using he
      rw [e1, cond_true] at h
      exact absurd h he

theorem listR {b : List Int} (hb : BV b) : ∀ (m : Nat) (a e : Int) (l : List Change), 0 ≤ a → a ≤ b.length → (listS m ⟨b, a, e⟩ l).1.e = 0 →
    e = 0 ∧ ∃ cs, (listS m ⟨b, a, e⟩ l).2 = l ++ cs ∧ cs.length = m ∧ (listS m ⟨b, a, e⟩ l).1 = ⟨b, a + 13 * m, 0⟩ ∧ b.take (a.toNat + 13 * m) = b.take a.toNat ++ listB cs ∧ (∀ c ∈ cs, chOK c = true) ∧ a + 13 * m ≤ b.length
  | 0, a, e, l, h0, ha, h => by
    have h : e = 0 := h
    subst h
    exact ⟨rfl, [], by simp [listS], rfl, by simp [listS], by simp [listB], (fun c hc => by cases hc), by omega⟩
  | m + 1, a, e, l, h0, ha, h => by
    rw [listS] at h ⊢
    by_cases he : e = 0
    · subst he
      have e1 : ((⟨b, a, 0⟩ : Rdr).e == 0) = true := rfl
      rw [e1, cond_true] at h ⊢
      obtain ⟨ihe, cs, i1, i2, i3, i4, i5, i6⟩ : (chS ⟨b, a, 0⟩).1.e = 0 ∧ ∃ cs, (listS m (chS ⟨b, a, 0⟩).1 (l ++ [(chS ⟨b, a, 0⟩).2])).2 = (l ++ [(chS ⟨b, a, 0⟩).2]) ++ cs ∧ cs.length = m ∧ (listS m (chS ⟨b, a, 0⟩).1 (l ++ [(chS ⟨b, a, 0⟩).2])).1 = ⟨b, (chS ⟨b, a, 0⟩).1.at' + 13 * m, 0⟩ ∧ b.take ((chS ⟨b, a, 0⟩).1.at'.toNat + 13 * m) = b.take (chS ⟨b, a, 0⟩).1.at'.toNat ++ listB cs ∧ (∀ c ∈ cs, chOK c = true) ∧ (chS ⟨b, a, 0⟩).1.at' + 13 * m ≤ b.length := by
        have hpos : 0 ≤ (chS ⟨b, a, 0⟩).1.at' ∧ (chS ⟨b, a, 0⟩).1.at' ≤ b.length := by
          have key : ∀ (a e : Int) (n : Nat), 0 ≤ a ∧ a ≤ b.length → 0 ≤ (takeS b a e n).1 ∧ (takeS b a e n).1 ≤ b.length := by
            intro a e n h
            unfold takeS
            by_cases hd : (n : Int) > (b.length : Int) - a
            · rw [decide_eq_true hd]; exact h
            · rw [decide_eq_false hd]
              cases (e != 0)
              · show 0 ≤ a + n ∧ a + n ≤ b.length; omega
              · exact h
          exact key _ _ 8 (key _ _ 1 (key a 0 4 ⟨h0, ha⟩))
        exact listR hb m _ _ _ hpos.1 hpos.2 h
      obtain ⟨z3, a3, t3, l3, v3, u3⟩ := stepR (n := 8) hb (by
        have key : ∀ (a e : Int) (n : Nat), 0 ≤ a → 0 ≤ (takeS b a e n).1 := by
          intro a e n h
          unfold takeS
          cases decide ((n : Int) > (b.length : Int) - a)
          · cases (e != 0)
            · show 0 ≤ a + n; omega
            · exact h
          · exact h
        exact key _ _ 1 (key a 0 4 h0)) ihe
      obtain ⟨z2, a2, t2, l2, v2, u2⟩ := stepR (n := 1) hb (by
        have key : ∀ (a e : Int) (n : Nat), 0 ≤ a → 0 ≤ (takeS b a e n).1 := by
          intro a e n h
          unfold takeS
          cases decide ((n : Int) > (b.length : Int) - a)
          · cases (e != 0)
            · show 0 ≤ a + n; omega
            · exact h
          · exact h
        exact key a 0 4 h0) z3
      obtain ⟨z1, a1, t1, l1, v1, u1⟩ := stepR (n := 4) hb h0 z2
      have eat : (chS ⟨b, a, 0⟩).1.at' = a + 13 := by
        have a3' : (chS ⟨b, a, 0⟩).1.at' = (behind (behind ⟨b, a, 0⟩ (4 : Nat)) (1 : Nat)).at' + (8 : Nat) := a3
        have a2' : (behind (behind ⟨b, a, 0⟩ (4 : Nat)) (1 : Nat)).at' = (behind ⟨b, a, 0⟩ (4 : Nat)).at' + (1 : Nat) := a2
        have a1' : (behind ⟨b, a, 0⟩ (4 : Nat)).at' = a + (4 : Nat) := a1
        rw [a3', a2', a1']; omega
      have u1' : (behind ⟨b, a, 0⟩ (4 : Nat)).at' = a + (4 : Nat) := a1
      have u2' : (behind (behind ⟨b, a, 0⟩ (4 : Nat)) (1 : Nat)).at' = a + (4 : Nat) + (1 : Nat) := by rw [← u1']; exact a2
      have hch : listB [(chS ⟨b, a, 0⟩).2] = bytes ⟨b, a, 0⟩ (4 : Nat) ++ bytes (behind ⟨b, a, 0⟩ (4 : Nat)) (1 : Nat) ++ bytes (behind (behind ⟨b, a, 0⟩ (4 : Nat)) (1 : Nat)) (8 : Nat) := by
        have e1 : listB [(chS ⟨b, a, 0⟩).2] = chB (chS ⟨b, a, 0⟩).2 := by simp [listB]
        rw [e1, chB_eq]
        have w1 := be_wrapU v1 (by omega)
        have w2 := be_wrapU v2 (by omega)
        have w3 := be_wrapI v3 (k := 7) l3 (by omega)
        rw [l1] at w1
        rw [l2] at w2
        rw [l3] at w3
        rw [show be (IntKind.u64.wrap (chS ⟨b, a, 0⟩).2.ver) 4 = bytes ⟨b, a, 0⟩ (4 : Nat) from w1, show be (IntKind.u64.wrap (chS ⟨b, a, 0⟩).2.by') 1 = bytes (behind ⟨b, a, 0⟩ (4 : Nat)) (1 : Nat) from w2, show be (IntKind.u64.wrap (chS ⟨b, a, 0⟩).2.n) 8 = bytes (behind (behind ⟨b, a, 0⟩ (4 : Nat)) (1 : Nat)) (8 : Nat) from w3]
      have hok : chOK (chS ⟨b, a, 0⟩).2 = true := by
        have n1 := numU_lt v1 (k := 4) (by omega)
        have n2 := numU_lt v2 (k := 1) (by omega)
        have m1 := (numU_bound v1).1
        have m2 := (numU_bound v2).1
        have p4 : (256 : Int) ^ 4 = 4294967296 := by decide
        have p1 : (256 : Int) ^ 1 = 256 := by decide
        rw [p4] at n1
        rw [p1] at n2
        simp only [chOK, Bool.and_eq_true, decide_eq_true_eq]
        exact ⟨⟨m1, n1⟩, m2, n2⟩
      refine ⟨rfl, (chS ⟨b, a, 0⟩).2 :: cs, by rw [i1]; simp, by simp [i2], ?_, ?_, ?_, ?_⟩
      · rw [i3, eat]
        congr 1
        omega
      · rw [eat] at i4
        have e5 : a.toNat + 13 * (m + 1) = (a + 13).toNat + 13 * m := by omega
        have e6 : listB ((chS ⟨b, a, 0⟩).2 :: cs) = listB [(chS ⟨b, a, 0⟩).2] ++ listB cs := by simp [listB]
        rw [e5, i4, e6, hch]
        have f1 : b.take (a.toNat + 4) = b.take a.toNat ++ bytes ⟨b, a, 0⟩ (4 : Nat) := t1
        have f2 : b.take ((behind ⟨b, a, 0⟩ (4 : Nat)).at'.toNat + 1) = b.take (behind ⟨b, a, 0⟩ (4 : Nat)).at'.toNat ++ bytes (behind ⟨b, a, 0⟩ (4 : Nat)) (1 : Nat) := t2
        have f3 : b.take ((behind (behind ⟨b, a, 0⟩ (4 : Nat)) (1 : Nat)).at'.toNat + 8) = b.take (behind (behind ⟨b, a, 0⟩ (4 : Nat)) (1 : Nat)).at'.toNat ++ bytes (behind (behind ⟨b, a, 0⟩ (4 : Nat)) (1 : Nat)) (8 : Nat) := t3
        rw [u1'] at f2
        rw [u2'] at f3
        have g1 : (a + (4 : Nat)).toNat = a.toNat + 4 := by omega
        have g2 : (a + (4 : Nat) + (1 : Nat)).toNat = a.toNat + 4 + 1 := by omega
        rw [g1, f1] at f2
        rw [g2, f2] at f3
        have g3 : (a + 13).toNat = a.toNat + 4 + 1 + 8 := by omega
        rw [g3, f3]
        simp
      · intro c hc
        rcases List.mem_cons.1 hc with rfl | hc
        · exact hok
        · exact i5 c hc
      · rw [eat] at i6
        omega
    · have e1 : ((⟨b, a, e⟩ : Rdr).e == 0) = false := by simpa using he
      rw [e1, cond_false] at h
      exact absurd h he
end Go.Proofs.Rp

/- ReplyBack comes to true. (Own work.) -/
namespace Go.Proofs.Rp
open Go Go.VL

theorem back2 {b : List Int} (hb : BV b) (h : (decS b).2 = 0) : encS (decS b).1 = (b, 0) := by
  generalize hp : listS (cntS b).toNat (rd6 b) [] = p
  have hdec : decS b = finS (headS b) p := by rw [decS, hp]
  rw [hdec] at h ⊢
  have he : (endS p.1).e = 0 := by
    by_cases h1 : (endS p.1).e = 0
    · exact h1
    · have e1 : ((endS p.1).e != 0) = true := by simpa using h1
      rw [finS, e1, cond_true] at h
      exact h
  have hfin : finS (headS b) p = (⟨(headS b).err, (headS b).id, (headS b).n, (headS b).ver, p.2⟩, 0) := by
    have e1 : ((endS p.1).e != 0) = false := by simpa using he
    rw [finS, e1, cond_false]
  rw [hfin]
  -- the end
  have hpe : p.1.e = 0 ∧ ¬ p.1.at' < (p.1.b.length : Int) := by
    simp only [endS] at he
    by_cases h1 : p.1.at' < (p.1.b.length : Int)
    · rw [decide_eq_true h1, cond_true] at he
      exact absurd he (fst_ne0 (by decide))
    · rw [decide_eq_false h1, cond_false] at he
      exact ⟨he, h1⟩
  have key : ∀ (a e : Int) (n : Nat), 0 ≤ a ∧ a ≤ b.length → 0 ≤ (takeS b a e n).1 ∧ (takeS b a e n).1 ≤ b.length := by
    intro a e n h
    unfold takeS
    by_cases hd : (n : Int) > (b.length : Int) - a
    · rw [decide_eq_true hd]; exact h
    · rw [decide_eq_false hd]
      cases (e != 0)
      · show 0 ≤ a + n ∧ a + n ≤ b.length; omega
      · exact h
  have g1 := key 0 0 2 ⟨by omega, by omega⟩
  have g2 : 0 ≤ (rd2 b).at' ∧ (rd2 b).at' ≤ b.length := key _ _ 4 g1
  have g3 : 0 ≤ (rd3 b).at' ∧ (rd3 b).at' ≤ b.length := key _ _ 8 g2
  have g4 : 0 ≤ (rd4 b).at' ∧ (rd4 b).at' ≤ b.length := key _ _ 4 g3
  have g5 : 0 ≤ (rd5 b).at' ∧ (rd5 b).at' ≤ b.length := key _ _ 1 g4
  -- the list
  have e6 : rd6 b = ⟨b, (rd5 b).at', (rd6 b).e⟩ := by
    rw [rd6]
    cases decide (cntS b > 32)
    · rfl
    · rfl
  have hlist := listR hb (cntS b).toNat (rd5 b).at' (rd6 b).e [] g5.1 g5.2 (by rw [← e6, hp]; exact hpe.1)
  rw [← e6, hp] at hlist
  obtain ⟨he6, cs, c1, c2, c3, c4, c5, c6⟩ := hlist
  have hcnt : ¬ cntS b > 32 ∧ (rd5 b).e = 0 := by
    rw [rd6] at he6
    by_cases h1 : cntS b > 32
    · rw [decide_eq_true h1, cond_true] at he6
      exact absurd he6 (fst_ne0 (by decide))
    · rw [decide_eq_false h1, cond_false] at he6
      exact ⟨h1, he6⟩
  obtain ⟨z5, a5, t5, l5, v5, u5⟩ := stepR (n := 1) hb g4.1 hcnt.2
  obtain ⟨z4, a4, t4, l4, v4, u4⟩ := stepR (n := 4) hb g3.1 z5
  obtain ⟨z3, a3, t3, l3, v3, u3⟩ := stepR (n := 8) hb g2.1 z4
  obtain ⟨z2, a2, t2, l2, v2, u2⟩ := stepR (n := 4) hb g1.1 z3
  obtain ⟨z1, a1, t1, l1, v1, u1⟩ := stepR (n := 2) hb (a := 0) (e := 0) (by omega) z2
  have p1 : (rd1 b).at' = 2 := by have h : (rd1 b).at' = 0 + (2 : Nat) := a1; rw [h]; rfl
  have p2 : (rd2 b).at' = 6 := by have h : (rd2 b).at' = (rd1 b).at' + (4 : Nat) := a2; rw [h, p1]; rfl
  have p3 : (rd3 b).at' = 14 := by have h : (rd3 b).at' = (rd2 b).at' + (8 : Nat) := a3; rw [h, p2]; rfl
  have p4 : (rd4 b).at' = 18 := by have h : (rd4 b).at' = (rd3 b).at' + (4 : Nat) := a4; rw [h, p3]; rfl
  have p5 : (rd5 b).at' = 19 := by have h : (rd5 b).at' = (rd4 b).at' + (1 : Nat) := a5; rw [h, p4]; rfl
  have f1 : b.take 2 = bytes ⟨b, 0, 0⟩ (2 : Nat) := by
    have h : b.take ((0 : Int).toNat + 2) = b.take (0 : Int).toNat ++ bytes ⟨b, 0, 0⟩ (2 : Nat) := t1
    simpa using h
  have f2 : b.take 6 = b.take 2 ++ bytes (rd1 b) (4 : Nat) := by
    have h : b.take ((rd1 b).at'.toNat + 4) = b.take (rd1 b).at'.toNat ++ bytes (rd1 b) (4 : Nat) := t2
    rw [p1] at h; exact h
  have f3 : b.take 14 = b.take 6 ++ bytes (rd2 b) (8 : Nat) := by
    have h : b.take ((rd2 b).at'.toNat + 8) = b.take (rd2 b).at'.toNat ++ bytes (rd2 b) (8 : Nat) := t3
    rw [p2] at h; exact h
  have f4 : b.take 18 = b.take 14 ++ bytes (rd3 b) (4 : Nat) := by
    have h : b.take ((rd3 b).at'.toNat + 4) = b.take (rd3 b).at'.toNat ++ bytes (rd3 b) (4 : Nat) := t4
    rw [p3] at h; exact h
  have f5 : b.take 19 = b.take 18 ++ bytes (rd4 b) (1 : Nat) := by
    have h : b.take ((rd4 b).at'.toNat + 1) = b.take (rd4 b).at'.toNat ++ bytes (rd4 b) (1 : Nat) := t5
    rw [p4] at h; exact h
  rw [p5] at c4 c6
  have hpb : p.1 = ⟨b, 19 + 13 * (cntS b).toNat, 0⟩ := by rw [c3, p5]
  have hlen : b.length = 19 + 13 * (cntS b).toNat := by
    have h := hpe.2
    rw [hpb] at h
    have h : ¬ (19 + 13 * ((cntS b).toNat : Int) < (b.length : Int)) := h
    omega
  have f6 : b = b.take 19 ++ listB cs := by
    have h : b.take ((19 : Int).toNat + 13 * (cntS b).toNat) = b.take (19 : Int).toNat ++ listB cs := c4
    have h2 : (19 : Int).toNat = 19 := rfl
    rw [h2, ← hlen, List.take_length] at h
    exact h
  have hcs : p.2 = cs := by rw [c1]; rfl
  have w1 := be_wrapU v1 (by omega)
  have w2 := be_wrapI v2 (k := 3) l2 (by omega)
  have w3 := be_wrapI v3 (k := 7) l3 (by omega)
  have w4 := be_wrapU v4 (by omega)
  have w5 := be_wrapU v5 (by omega)
  rw [l1] at w1
  rw [l2] at w2
  rw [l3] at w3
  rw [l4] at w4
  rw [l5] at w5
  have hc0 : 0 ≤ cntS b := (numU_bound v5).1
  have hcl : ((cs.length : Nat) : Int) = cntS b := by rw [c2]; omega
  rw [hcs]
  have hmay : mayB ⟨(headS b).err, (headS b).id, (headS b).n, (headS b).ver, cs⟩ = true := by
    have n1 := numU_lt v1 (k := 2) (by omega)
    have m1 := (numU_bound v1).1
    have n4 := numU_lt v4 (k := 4) (by omega)
    have m4 := (numU_bound v4).1
    have n2 := numI_bound v2 3 (by omega)
    have q4 : (256 : Int) ^ 4 = 4294967296 := by decide
    have q2 : (256 : Int) ^ 2 = 65536 := by decide
    have q3 : (128 : Int) * 256 ^ 3 = 2147483648 := by decide
    rw [q2] at n1
    rw [q4] at n4
    rw [q3] at n2
    simp only [mayB, Bool.and_eq_true, decide_eq_true_eq, List.all_eq_true]
    exact ⟨⟨m1, n1⟩, n2, ⟨m4, n4⟩, by show cs.length ≤ 32; omega, c5⟩
  rw [encS, hmay, cond_true]
  congr 1
  rw [encB, headB_eq]
  have k1 : be (IntKind.u64.wrap (headS b).err) 2 = bytes ⟨b, 0, 0⟩ (2 : Nat) := w1
  have k2 : be (IntKind.u64.wrap (headS b).id) 4 = bytes (rd1 b) (4 : Nat) := w2
  have k3 : be (IntKind.u64.wrap (headS b).n) 8 = bytes (rd2 b) (8 : Nat) := w3
  have k4 : be (IntKind.u64.wrap (headS b).ver) 4 = bytes (rd3 b) (4 : Nat) := w4
  have k5 : be (IntKind.u64.wrap ((cs.length : Nat) : Int)) 1 = bytes (rd4 b) (1 : Nat) := by rw [hcl]; exact w5
  show be (IntKind.u64.wrap (headS b).err) 2 ++ be (IntKind.u64.wrap (headS b).id) 4 ++ be (IntKind.u64.wrap (headS b).n) 8 ++ be (IntKind.u64.wrap (headS b).ver) 4 ++ be (IntKind.u64.wrap ((cs.length : Nat) : Int)) 1 ++ listB cs = b
  rw [k1, k2, k3, k4, k5]
  rw [f5, f4, f3, f2, f1] at f6
  exact f6.symm

theorem fit_of_wf {x : Resp} (wx : wfT .resp x) : FitI x.n ∧ ∀ c ∈ x.list, FitI c.n := by
  refine ⟨wfI (wx (.i x.n) (by simp [enc])) rfl, fun c hc => ?_⟩
  have h := wfL (wx (.sl .change x.list) (by simp [enc])) rfl c hc
  exact wfI (h (.i c.n) (by simp [enc])) rfl

theorem law5 (x : Resp) (b : List Int) (wx : wfT .resp x) (wb : wfT (.sl .u8) b) : Pure Try.prog 5 [⟨.resp, x⟩, ⟨.sl .u8, b⟩] [.bool] true :=
  ofT Try.func5 (t5 x b) (by kernel_rfl) (by kernel_rfl) fun A => by
    have N2 : True ∧ True := ⟨trivial, trivial⟩
    have N6 : True ∧ True ∧ True ∧ True ∧ True ∧ True := ⟨trivial, trivial, trivial, trivial, trivial, trivial⟩
    refine sat_bif (fun _ => ⟨trivial, _, c13, N2, rfl⟩) (fun hx => sat_bif (fun _ => ⟨trivial, _, c13, N2, rfl⟩) (fun h => ?_))
    have h := of_decide_eq_false h
    have hx := of_decide_eq_false hx
    have hl : Sb b.length := by unfold Sb; omega
    have hb := bv_of_wf wb
    obtain ⟨f1, f2⟩ := fit_of_wf wx
    refine ⟨⟨N6, trivial⟩, _, c14 x, sat_bif (fun h1 => ?_) (fun _ => ?_)⟩
    · have hm : mayB x = true := by
        have h1 : ((encS x).2 == 0) = true := h1
        cases hm : mayB x with
        | true => rfl
        | false => rw [encS, hm] at h1; cases h1
      have e1 : encS x = (encB x, 0) := by rw [encS, hm]; rfl
      rw [e1]
      have hlen : Sb (encB x).length := by
        have := mayB_len hm
        unfold Sb
        rw [encB_len]; omega
      refine ⟨⟨N2, trivial⟩, _, (c17 hlen (encB_bv x)).eq (back1 hm f1 f2), ?_⟩
      refine sat_bif (fun h2 => by cases h2) (fun _ => ⟨⟨N6, N6, trivial⟩, _, (c19 (x := x) (y := x) (by omega)).eq (decide_eq_true rfl), sat_bif (fun h2 => by cases h2) (fun _ => ⟨⟨N2, trivial⟩, _, c17 hl hb, ?_⟩)⟩)
      refine sat_bif (fun _ => ⟨trivial, _, c13, N2, rfl⟩) (fun h3 => ?_)
      have h3 : (decS b).2 = 0 := by simpa using h3
      refine ⟨⟨N6, trivial⟩, _, (c14 (decS b).1).eq (back2 hb h3), trivial, _, c13, ?_⟩
      exact ⟨⟨N2, N2, trivial⟩, _, (c16 hb hb).eq (decide_eq_true rfl), N2, rfl⟩
    · refine ⟨⟨N2, trivial⟩, _, c17 hl hb, ?_⟩
      refine sat_bif (fun _ => ⟨trivial, _, c13, N2, rfl⟩) (fun h3 => ?_)
      have h3 : (decS b).2 = 0 := by simpa using h3
      refine ⟨⟨N6, trivial⟩, _, (c14 (decS b).1).eq (back2 hb h3), trivial, _, c13, ?_⟩
      exact ⟨⟨N2, N2, trivial⟩, _, (c16 hb hb).eq (decide_eq_true rfl), N2, rfl⟩
end Go.Proofs.Rp
