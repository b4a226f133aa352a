/- Floats taken apart; volumes: contracts. (Own work.) -/
import Derived.Test.YteaiflgcgpaclaaDoorWE
set_option linter.unusedVariables false
set_option linter.unusedSimpArgs false
set_option exponentiation.threshold 4096
namespace Go.Proofs.Wn
open Go Go.VL Go.Proofs.Zn
abbrev T2' : True ∧ True := ⟨trivial, trivial⟩
theorem sat_t {α : Type} {P : Program} {A : List Item → AS → Prop} {R0 : α → Prop} {b : Bool} {S T : Out α} (h : b = true) (h1 : Sat P A R0 S) : Sat P A R0 (bif b then S else T) := by rw [h]; exact h1
theorem sat_f {α : Type} {P : Program} {A : List Item → AS → Prop} {R0 : α → Prop} {b : Bool} {S T : Out α} (h : b = false) (h1 : Sat P A R0 T) : Sat P A R0 (bif b then S else T) := by rw [h]; exact h1

theorem one_arg {vs : Array Value} (hs : vs.size = 1) : ∃ v, vs = #[v] := by
  refine ⟨vs[0]'(by omega), ?_⟩
  apply Array.ext
  · exact hs
  · intro i hi hi2
    have : i = 0 := by omega
    subst this; rfl
theorem x58 (n : Int) : ExtC Tryd.prog 21 [.d (.v (.int .u64 n))] (.d (.f (some n.toNat))) := fun w K m H vs hs hr => by
  obtain ⟨v, rfl⟩ := one_arg hs
  have e : v = .int .u64 n := val_rel (hr 0 _ v rfl rfl)
  subst e
  exact ⟨.float .f64 n.toNat, run_callFunc_extern (e := Extern.MathFloatBits.float64frombits) Tryd.func21 (by kernel_rfl) (by kernel_rfl) (by kernel_rfl) (by kernel_rfl) #[.int .u64 n] w, .d _ _ (.f _ _ rfl)⟩
theorem x199 (b : Nat) : ExtC Tryd.prog 49 [.d (.f (some b))] (.d (.v (.int .u64 (b : Int)))) := fun w K m H vs hs hr => by
  obtain ⟨v, rfl⟩ := one_arg hs
  have e : v = .float .f64 b := by
    have := hr 0 _ v rfl rfl
    cases this with
    | d _ _ h => cases h with
      | f _ c h => have h : c = b := h; rw [h]
  subst e
  exact ⟨.int .u64 b, run_callFunc_extern (e := Extern.MathFloatBits.float64bits) Tryd.func49 (by kernel_rfl) (by kernel_rfl) (by kernel_rfl) (by kernel_rfl) #[.float .f64 b] w, .d _ _ (.v _)⟩

theorem c200 {n k m : Nat} (hn : n = 2 ^ k * (2 * m + 1)) (h : n < 18446744073709551616) : Pure Tryd.prog 50 [⟨.u64, (n : Int)⟩] [.int] (k : Int) :=
  ofT Tryd.func50 (t200 n) (by kernel_rfl) (by kernel_rfl) fun _ => by
    have hk := pow_lt hn h
    have hp : 0 < 2 ^ k := Nat.pow_pos (by decide)
    have hpos : 0 < n := by rw [hn]; exact Nat.mul_pos hp (by omega)
    have e64 : (2 ^ 64 : Nat) = 18446744073709551616 := by decide
    have hkl : 2 ^ k < 18446744073709551616 := by
      have : 2 ^ k ≤ 2 ^ 63 := Nat.pow_le_pow_right (by decide) (by omega)
      have e63 : (2 ^ 63 : Nat) = 9223372036854775808 := by decide
      omega
    have e1 := neg_wrap hpos h
    have e2 : (BitVec.ofInt (IntKind.bits .u64) (n : Int) &&& BitVec.ofInt (IntKind.bits .u64) (((2 ^ 64 - n : Nat)) : Int)).toNat = 2 ^ k := by
      rw [bv_and h (by omega)]; exact and_neg hn (by omega)
    have e3 : IntKind.u64.wrap (IntKind.u64.wrap ((2 ^ k : Nat) : Int) * 285870213051353865) = ((2 ^ k * 285870213051353865 % 2 ^ 64 : Nat) : Int) := by
      rw [wrapU hkl, wrap_u64, e64]; rfl
    have e4 : (2 : Int) ^ min 58 (IntKind.bits .u64) = ((2 ^ 58 : Nat) : Int) := by decide
    obtain ⟨t1, t2⟩ := tab_ok ⟨k, hk⟩
    simp only at t1 t2
    rw [e1, e2, e3, e4, fdiv_nat]
    generalize 2 ^ k * 285870213051353865 % 2 ^ 64 / 2 ^ 58 = x at t1 t2
    refine sat_f (by simp; omega) ⟨by decide, ⟨by omega, by show (x : Int) < (64 : Int); omega⟩, T2', ?_⟩
    show IntKind.i64.wrap (tab64.getD (Int.toNat (x : Int)) 0) = (k : Int)
    rw [Int.toNat_natCast, t2, wrap_i64 (by omega) (by omega)]
theorem c201 {p : Nat} (hp : p < 18446744073709551616) : Pure Tryd.prog 51 [⟨.flt, some p⟩] [.bool] (negB p) :=
  ofT Tryd.func51 (t201 p) (by kernel_rfl) (by kernel_rfl) fun _ => ⟨x199 p, T2', by
    show decide (IntKind.i64.wrap (p : Int) < 0) = decide (9223372036854775808 ≤ p)
    refine decide_eq_decide.2 ?_
    unfold IntKind.wrap
    have e : (2 ^ IntKind.i64.bits : Int) = 18446744073709551616 := rfl
    have e2 : (2 ^ (IntKind.i64.bits - 1) : Int) = 9223372036854775808 := rfl
    have e3 : IntKind.i64.signed = true := rfl
    simp only [e, e2, e3, Bool.true_and]
    rw [Int.emod_eq_of_lt (by omega) (by omega)]
    by_cases h : 9223372036854775808 ≤ p
    · rw [if_pos (by simp; omega)]; omega
    · rw [if_neg (by simp; omega)]; omega⟩

/-! ### classes -/
theorem abs_bits {b : Nat} (hb : b < 18446744073709551616) : (bits BinOp.andNot IntKind.u64 (b : Int) 9223372036854775808).toNat = b % 9223372036854775808 := by
  have h3 : (BitVec.ofInt 64 (b : Int)).toNat = b := bv_nat hb
  have h2 : (~~~ BitVec.ofInt 64 9223372036854775808).toNat = 9223372036854775807 := by decide
  have h4 : (BitVec.ofInt 64 (b : Int) &&& ~~~ BitVec.ofInt 64 9223372036854775808).toNat = b % 9223372036854775808 := by
    rw [BitVec.toNat_and, h2, h3]
    exact Nat.and_two_pow_sub_one_eq_mod b 63
  show (IntKind.u64.wrap ((BitVec.ofInt 64 (b : Int) &&& ~~~ BitVec.ofInt 64 9223372036854775808).toNat : Int)).toNat = _
  rw [h4, wrapU (by omega), Int.toNat_natCast]
theorem keyAbs {r : Nat} (hr : r ≤ 9218868437227405312) : keyF (some r) = (valR r : Int) := by
  have := key_val (b := r) (by omega) (by rw [Nat.mod_eq_of_lt (by omega)]; exact hr)
  rw [Nat.mod_eq_of_lt (by omega), decide_eq_false (by omega)] at this
  exact this
theorem nanAbs {r : Nat} (hr : r ≤ 9218868437227405312) : nanF (some r) = false := by
  rw [nan_iff, Nat.mod_eq_of_lt (by omega)]; exact decide_eq_false (by omega)
theorem cmp_abs {r q : Nat} (hr : r ≤ 9218868437227405312) (hq : q ≤ 9218868437227405312) : Fl.cmp (some r) (some q) = some (compare (r : Int) (q : Int)) := by
  rw [cmp_key (nanAbs hr) (nanAbs hq), keyAbs hr, keyAbs hq]
  congr 1
  have h1 := val_iff hr hq
  have h2 := val_iff hq hr
  rcases Nat.lt_trichotomy r q with c | c | c
  · have := h1.2 c
    rw [Int.compare_eq_lt.2 (by omega : (valR r : Int) < (valR q : Int)), Int.compare_eq_lt.2 (by omega : (r : Int) < (q : Int))]
  · subst c
    rw [Int.compare_eq_eq.2 rfl, Int.compare_eq_eq.2 rfl]
  · have := h2.2 c
    rw [Int.compare_eq_gt.2 (by omega : (valR q : Int) < (valR r : Int)), Int.compare_eq_gt.2 (by omega : (q : Int) < (r : Int))]
theorem cmp_is {a b : Int} (o : Ordering) : (some (compare a b) == some o) = decide (compare a b = o) := by
  cases compare a b <;> cases o <;> rfl
theorem cmp_gt {a b : Int} : (some (compare a b) == some Ordering.gt) = decide (b < a) := by
  rw [cmp_is]; exact decide_eq_decide.2 (by rw [Int.compare_eq_gt])
theorem cmp_lt {a b : Int} : (some (compare a b) == some Ordering.lt) = decide (a < b) := by
  rw [cmp_is]; exact decide_eq_decide.2 (by rw [Int.compare_eq_lt])
theorem cmp_eq {a b : Int} : (some (compare a b) == some Ordering.eq) = decide (a = b) := by
  rw [cmp_is]; exact decide_eq_decide.2 (by rw [Int.compare_eq_eq])
theorem c119 {b : Nat} (hb : b < 18446744073709551616) : Pure Tryd.prog 35 [⟨.flt, some b⟩] [.int] (clsN (rN b)) := by
  refine Zn.ofT Tryd.func35 (t154 (some b)) (by kernel_rfl) (by kernel_rfl) fun A => ⟨⟨⟨trivial, trivial⟩, trivial⟩, _, c158 b, ?_⟩
  rw [cmp_self, nan_iff, abs_bits hb]
  unfold clsN rN
  refine sat_if (fun _ => ⟨⟨trivial, trivial⟩, rfl⟩) (fun h => ?_)
  have h := of_decide_eq_false h
  have hr : b % 9223372036854775808 ≤ 9218868437227405312 := by omega
  rw [cmp_abs hr (by decide), cmp_abs hr (by decide), cmp_abs hr (by decide), cmp_gt, cmp_eq, cmp_lt]
  have g1 : decide (((9218868437227405311 : Nat) : Int) < ((b % 9223372036854775808 : Nat) : Int)) = decide (b % 9223372036854775808 = 9218868437227405312) := decide_eq_decide.2 (by omega)
  have g2 : decide (((b % 9223372036854775808 : Nat) : Int) = ((0 : Nat) : Int)) = decide (b % 9223372036854775808 = 0) := decide_eq_decide.2 (by omega)
  have g3 : decide (((b % 9223372036854775808 : Nat) : Int) < ((4503599627370496 : Nat) : Int)) = decide (b % 9223372036854775808 < 4503599627370496) := decide_eq_decide.2 (by omega)
  rw [g1, g2, g3]
  exact sat_if (fun _ => ⟨⟨trivial, trivial⟩, rfl⟩) (fun _ => sat_if (fun _ => ⟨⟨trivial, trivial⟩, rfl⟩) (fun _ => sat_if (fun _ => ⟨⟨trivial, trivial⟩, rfl⟩) (fun _ => ⟨⟨trivial, trivial⟩, rfl⟩)))
end Go.Proofs.Wn

/- Floats taken apart, rounded: contracts. (Own work.) -/
set_option exponentiation.threshold 4096
namespace Go.Proofs.Wn
open Go Go.VL Go.Proofs.Zn

theorem cls_zero {b : Nat} (h : ¬ clsN (rN b) < 4) : 0 < rN b ∧ rN b < 9218868437227405312 ∧ (clsN (rN b) = 5 ↔ ¬ rN b < 4503599627370496) := by
  unfold clsN at h ⊢
  generalize rN b = r at h ⊢
  by_cases h1 : r > 9218868437227405312
  · rw [decide_eq_true h1] at h; simp at h
  rw [decide_eq_false h1, cond_false] at h ⊢
  by_cases h2 : r = 9218868437227405312
  · rw [decide_eq_true h2] at h; simp at h
  rw [decide_eq_false h2, cond_false] at h ⊢
  by_cases h3 : r = 0
  · rw [decide_eq_true h3] at h; simp at h
  rw [decide_eq_false h3, cond_false] at h ⊢
  refine ⟨by omega, by omega, ?_⟩
  by_cases h4 : r < 4503599627370496
  · rw [decide_eq_true h4]; simp; omega
  · rw [decide_eq_false h4]; simp; omega
theorem bn_mod (b : Nat) : b % 4503599627370496 = rN b % 4503599627370496 := by unfold rN; omega
theorem bn_div {b : Nat} (hb : b < 18446744073709551616) : b / 4503599627370496 % 2048 = rN b / 4503599627370496 := by unfold rN; omega
theorem pow_min {k : Nat} (h : k < 64) : (2 : Int) ^ min (Int.toNat (k : Int)) (IntKind.bits .u64) = ((2 ^ k : Nat) : Int) := by
  have : min (Int.toNat (k : Int)) (IntKind.bits .u64) = k := by
    have e : IntKind.bits .u64 = 64 := rfl
    rw [e, Int.toNat_natCast]; omega
  rw [this]; simp
theorem pow_min' {k : Nat} (h : k < 64) : (2 : Int) ^ min (Int.toNat (k : Int)) (IntKind.bits .i64) = ((2 ^ k : Nat) : Int) := pow_min h

theorem c120 {b : Nat} (hb : b < 18446744073709551616) : Pure Tryd.prog 36 [⟨.flt, some b⟩] [.int, .int] (partsV b) :=
  ofT Tryd.func36 (t120 b) (by kernel_rfl) (by kernel_rfl) fun _ => by
    refine ⟨⟨T2', trivial⟩, _, c119 hb, ?_⟩
    show Sat _ _ _ (bif decide (clsN (rN b) < 4) then _ else _)
    unfold partsV
    by_cases hc : clsN (rN b) < 4
    · rw [decide_eq_true hc]
      exact ⟨⟨T2', T2'⟩, rfl⟩
    rw [decide_eq_false hc]
    obtain ⟨h0, hi, h5⟩ := cls_zero hc
    obtain ⟨m, o1, o2, o3⟩ := odd_spec h0
    have hM := M0_lt (rN b)
    have hol := @odd_lt (rN b)
    have e1 : (BitVec.ofInt (IntKind.bits .u64) (b : Int) &&& BitVec.ofInt (IntKind.bits .u64) 4503599627370495).toNat = rN b % 4503599627370496 := by
      have := bv_and (c := 4503599627370495) hb (by decide)
      rw [and52, bn_mod] at this; exact this
    have e2 : IntKind.u64.wrap ((rN b % 4503599627370496 : Nat) : Int) = ((rN b % 4503599627370496 : Nat) : Int) := wrapU (by omega)
    have eo : oddN (rN b) = M0 (rN b) / 2 ^ tzN (M0 (rN b)) := rfl
    have ep : powN (rN b) = E0 (rN b) + (tzN (M0 (rN b)) : Int) := rfl
    refine ⟨x199 b, ?_⟩
    show Sat _ _ _ (bif clsN (rN b) == 5 then _ else _)
    rw [e1, e2]
    by_cases hf : rN b < 4503599627370496
    · -- subnormal
      have hn5 : (clsN (rN b) == 5) = false := by
        rw [beq_eq_false_iff_ne]; exact fun e => (h5.1 e) hf
      have eM : M0 (rN b) = rN b := by unfold M0; rw [decide_eq_true hf]; rfl
      have eE : E0 (rN b) = -1074 := by unfold E0; rw [decide_eq_true hf]; rfl
      have e3 : rN b % 4503599627370496 = M0 (rN b) := by rw [eM]; exact Nat.mod_eq_of_lt hf
      rw [hn5, e3]
      refine ⟨⟨T2', trivial⟩, (tzN (M0 (rN b)) : Int), c200 o1 (by omega), by omega, ⟨T2', trivial⟩, _, c201 hb, ?_⟩
      rw [pow_min (by omega), fdiv_nat, ← eo, wrap_i64 (n := (oddN (rN b) : Int)) (by omega) (by omega), wrap_i64 (n := 0 - (oddN (rN b) : Int)) (by omega) (by omega), wrap_i64 (n := -1074 + (tzN (M0 (rN b)) : Int)) (by omega) (by omega), ep, eE]
      cases negB b
      · exact ⟨⟨T2', T2'⟩, rfl⟩
      · refine ⟨⟨T2', T2'⟩, ?_⟩
        show (0 - (oddN (rN b) : Int), -1074 + (tzN (M0 (rN b)) : Int)) = (-(oddN (rN b) : Int), -1074 + (tzN (M0 (rN b)) : Int))
        rw [Int.zero_sub]
    · have h55 : (clsN (rN b) == 5) = true := by rw [beq_iff_eq]; exact h5.2 hf
      have eM : M0 (rN b) = rN b % 4503599627370496 + 4503599627370496 := by unfold M0; rw [decide_eq_false hf]; rfl
      have eE : E0 (rN b) = ((rN b / 4503599627370496 : Nat) : Int) - 1075 := by unfold E0; rw [decide_eq_false hf]; rfl
      have e3 : (BitVec.ofInt (IntKind.bits .u64) ((rN b % 4503599627370496 : Nat) : Int) ||| BitVec.ofInt (IntKind.bits .u64) 4503599627370496).toNat = M0 (rN b) := by
        have := bv_or (a := rN b % 4503599627370496) (c := 4503599627370496) (by omega) (by decide)
        rw [or52 (by omega), ← eM] at this; exact this
      have e4 : IntKind.u64.wrap ((M0 (rN b) : Nat) : Int) = ((M0 (rN b) : Nat) : Int) := wrapU (by omega)
      have e5 : (2 : Int) ^ min 52 (IntKind.bits .u64) = ((4503599627370496 : Nat) : Int) := by decide
      have e6 : (BitVec.ofInt (IntKind.bits .u64) ((b / 4503599627370496 : Nat) : Int) &&& BitVec.ofInt (IntKind.bits .u64) 2047).toNat = rN b / 4503599627370496 := by
        have := bv_and (a := b / 4503599627370496) (c := 2047) (by omega) (by decide)
        rw [and11, bn_div hb] at this; exact this
      have e7 : IntKind.u64.wrap ((rN b / 4503599627370496 : Nat) : Int) = ((rN b / 4503599627370496 : Nat) : Int) := wrapU (by omega)
      rw [h55, e3, e4, e5, fdiv_nat, e6, e7]
      refine ⟨by decide, ⟨T2', trivial⟩, (tzN (M0 (rN b)) : Int), c200 o1 (by omega), by omega, ⟨T2', trivial⟩, _, c201 hb, ?_⟩
      rw [pow_min (by omega), fdiv_nat, ← eo, wrap_i64 (n := (oddN (rN b) : Int)) (by omega) (by omega), wrap_i64 (n := 0 - (oddN (rN b) : Int)) (by omega) (by omega), wrap_i64 (n := ((rN b / 4503599627370496 : Nat) : Int)) (by omega) (by omega),
        wrap_i64 (n := ((rN b / 4503599627370496 : Nat) : Int) - 1) (by omega) (by omega), wrap_i64 (n := -1074 + (((rN b / 4503599627370496 : Nat) : Int) - 1)) (by omega) (by omega), wrap_i64 (n := -1074 + (((rN b / 4503599627370496 : Nat) : Int) - 1) + (tzN (M0 (rN b)) : Int)) (by omega) (by omega), ep, eE]
      have e8 : -1074 + (((rN b / 4503599627370496 : Nat) : Int) - 1) + (tzN (M0 (rN b)) : Int) = ((rN b / 4503599627370496 : Nat) : Int) - 1075 + (tzN (M0 (rN b)) : Int) := by omega
      rw [e8]
      cases negB b
      · exact ⟨⟨T2', T2'⟩, rfl⟩
      · refine ⟨⟨T2', T2'⟩, ?_⟩
        show (0 - (oddN (rN b) : Int), ((rN b / 4503599627370496 : Nat) : Int) - 1075 + (tzN (M0 (rN b)) : Int)) = (-(oddN (rN b) : Int), _)
        rw [Int.zero_sub]

/-! ### by definition -/
end Go.Proofs.Wn

/- Rounding; volumes: contracts. (Own work.) -/
set_option exponentiation.threshold 4096
namespace Go.Proofs.Wn
open Go Go.VL Go.Proofs.Zn

theorem p64 {s : Nat} (h1 : 1 ≤ s) (h : s ≤ 64) : 2 ^ s = 2 * 2 ^ (s - 1) ∧ 2 ^ s * 2 ^ (64 - s) = 18446744073709551616 ∧ 2 ^ (s - 1) * 2 ^ (64 - s) = 9223372036854775808 ∧ 0 < 2 ^ (64 - s) := by
  refine ⟨?_, ?_, ?_, Nat.pow_pos (by decide)⟩
  · rw [Nat.mul_comm, ← Nat.pow_succ]; congr 1; omega
  · rw [← Nat.pow_add, show s + (64 - s) = 64 by omega]
  · rw [← Nat.pow_add, show s - 1 + (64 - s) = 63 by omega]
theorem cut_top {n s : Nat} (h1 : 1 ≤ s) (h : s ≤ 64) : n * 2 ^ (64 - s) % 18446744073709551616 = n % 2 ^ s * 2 ^ (64 - s) := by
  obtain ⟨_, e, _, _⟩ := p64 h1 h
  rw [← e, Nat.mul_mod_mul_right]
theorem c121 {n s : Nat} (hn : n < 9223372036854775808) (h1 : 1 ≤ s) (hs : s ≤ 2000) : Pure Tryd.prog 37 [⟨.int, (n : Int)⟩, ⟨.int, -(s : Int)⟩] [.int] (rndN n s : Int) :=
  ofT Tryd.func37 (t121 n _) (by kernel_rfl) (by kernel_rfl) fun _ => by
    by_cases hb : 63 < s
    · refine sat_t (decide_eq_true (by omega)) ⟨T2', ?_⟩
      have : 2 ^ 64 ≤ 2 ^ s := Nat.pow_le_pow_right (by decide) hb
      have e : (2 ^ 64 : Nat) = 18446744073709551616 := by decide
      rw [rnd_zero (by omega)]; rfl
    obtain ⟨p1, p2, p3, p4⟩ := p64 h1 (by omega)
    have e1 : IntKind.i64.wrap (0 - -(s : Int)) = (s : Int) := by rw [wrap_i64 (by omega) (by omega)]; omega
    have e2 : IntKind.i64.wrap (64 + -(s : Int)) = ((64 - s : Nat) : Int) := by rw [wrap_i64 (by omega) (by omega)]; omega
    have hct := cut_top (n := n) h1 (by omega)
    have e3 : IntKind.u64.wrap (IntKind.u64.wrap (n : Int) * ((2 ^ (64 - s) : Nat) : Int)) = ((n % 2 ^ s * 2 ^ (64 - s) : Nat) : Int) := by
      rw [wrapU (by omega), wrap_u64, ← hct]; rfl
    have hq : n / 2 ^ s * 2 ≤ n := Nat.le_trans (Nat.mul_le_mul_left _ (by have : 0 < 2 ^ (s - 1) := Nat.pow_pos (by decide)
                                                                           omega)) (Nat.div_mul_le_self n (2 ^ s))
    have e6' : ∀ q : Nat, q * 2 ≤ n → IntKind.i64.wrap ((q : Int) + 1) = ((q + 1 : Nat) : Int) := fun q h => by rw [wrap_i64 (by omega) (by omega)]; rfl
    have e6 := e6' _ hq
    have g1 : decide (((n % 2 ^ s * 2 ^ (64 - s) : Nat) : Int) > 9223372036854775808) = decide (2 ^ s < 2 * (n % 2 ^ s)) := by
      refine decide_eq_decide.2 ?_
      have : (9223372036854775808 < n % 2 ^ s * 2 ^ (64 - s)) ↔ 2 ^ (s - 1) < n % 2 ^ s := by
        rw [← p3]; exact ⟨fun h => Nat.lt_of_mul_lt_mul_right h, fun h => Nat.mul_lt_mul_of_pos_right h p4⟩
      omega
    have g2 : (((n % 2 ^ s * 2 ^ (64 - s) : Nat) : Int) == 9223372036854775808) = (2 ^ s == 2 * (n % 2 ^ s)) := by
      rw [Bool.eq_iff_iff, beq_iff_eq, beq_iff_eq]
      have : (9223372036854775808 = n % 2 ^ s * 2 ^ (64 - s)) ↔ 2 ^ (s - 1) = n % 2 ^ s := by
        rw [← p3]; exact ⟨fun h => Nat.eq_of_mul_eq_mul_right p4 h, fun h => by rw [h]⟩
      omega
    have e4 : Int.fdiv (n : Int) ((2 ^ s : Nat) : Int) = ((n / 2 ^ s : Nat) : Int) := fdiv_nat _ _
    have e5 : (Int.tmod ((n / 2 ^ s : Nat) : Int) 2 == 1) = (n / 2 ^ s % 2 == 1) := by
      have := tmod_nat (n / 2 ^ s) 2
      rw [show Int.tmod ((n / 2 ^ s : Nat) : Int) 2 = ((n / 2 ^ s % 2 : Nat) : Int) from this, Bool.eq_iff_iff, beq_iff_eq, beq_iff_eq]; omega
    refine sat_f (decide_eq_false (by omega)) ?_
    rw [e1, e2, pow_min (by omega), pow_min' (by omega), e3, g1, g2, e4, e5]
    unfold rndN
    refine ⟨by omega, sat_bif (fun h63 => ⟨by omega, ?_⟩) (fun _ => ⟨by omega, ?_⟩)⟩
    · have h63 : s = 63 := by have : -(s : Int) = -63 := by simpa using h63
                              omega
      have q0 : n / 2 ^ s = 0 := by
        subst h63
        exact Nat.div_eq_of_lt (by have : (2 ^ 63 : Nat) = 9223372036854775808 := by decide
                                   omega)
      rw [q0]
      refine sat_bif (fun h => ⟨T2', ?_⟩) (fun h => sat_bif (fun h2 => ⟨by decide, T2', ?_⟩) (fun h2 => ⟨T2', ?_⟩))
      · rw [h]; rfl
      · rw [h, h2]; rfl
      · rw [h, h2]; rfl
    · rw [e6]
      refine sat_bif (fun h => ⟨T2', ?_⟩) (fun h => sat_bif (fun h2 => ⟨by decide, sat_bif (fun h3 => ⟨T2', ?_⟩) (fun h3 => ⟨T2', ?_⟩)⟩) (fun h2 => ⟨T2', ?_⟩))
      · rw [h]; rfl
      · rw [h, h2, h3]; rfl
      · rw [h, h2, h3]; rfl
      · rw [h, h2]; rfl
end Go.Proofs.Wn

/- Volumes: contracts. (Own work.) -/
set_option exponentiation.threshold 4096
namespace Go.Proofs.Wn
open Go Go.VL Go.Proofs.Zn

theorem cls_facts (r : Nat) : ((clsN r == 1) = decide (r > 9218868437227405312)) ∧ (r ≤ 9218868437227405312 → (clsN r == 2) = decide (r = 9218868437227405312)) ∧ (r < 9218868437227405312 → (clsN r == 3) = decide (r = 0)) ∧ (r < 9218868437227405312 → decide (clsN r < 4) = decide (r = 0)) := by
  unfold clsN
  by_cases h1 : r > 9218868437227405312
  · rw [decide_eq_true h1]
    exact ⟨rfl, fun h => by omega, fun h => by omega, fun h => by omega⟩
  rw [decide_eq_false h1, cond_false]
  by_cases h2 : r = 9218868437227405312
  · rw [decide_eq_true h2]
    exact ⟨rfl, fun h => rfl, fun h => by omega, fun h => by omega⟩
  rw [decide_eq_false h2, cond_false]
  by_cases h3 : r = 0
  · rw [decide_eq_true h3]
    exact ⟨rfl, fun h => rfl, fun h => rfl, fun h => rfl⟩
  rw [decide_eq_false h3, cond_false]
  cases decide (r < 4503599627370496)
  · exact ⟨rfl, fun h => rfl, fun h => rfl, fun h => rfl⟩
  · exact ⟨rfl, fun h => rfl, fun h => rfl, fun h => rfl⟩
theorem rN_nan {b : Nat} : nanF (some b) = decide (rN b > 9218868437227405312) := nan_iff b
theorem below0 {b : Nat} (hb : b < 18446744073709551616) (hr : rN b ≤ 9218868437227405312) : (Fl.cmp (some b) (some 0) == some Ordering.lt) = (negB b && decide (0 < rN b)) := by
  have h0 : nanF (some 0) = false := nanAbs (by decide)
  rw [cmp_key (by rw [rN_nan]; exact decide_eq_false (by omega)) h0, key_zero, cmp_lt, key_val hb hr]
  show decide ((bif negB b then -(valR (rN b) : Int) else (valR (rN b) : Int)) < 0) = _
  rw [Bool.eq_iff_iff]
  by_cases hz : rN b = 0
  · rw [hz, val_zero]; cases negB b <;> simp
  · have := val_pos (r := rN b) (by omega)
    cases negB b <;> simp <;> omega
theorem above {b : Nat} (hb : b < 18446744073709551616) (hr : rN b ≤ 9218868437227405312) : (Fl.cmp (some b) (some 4787326403894837248) == some Ordering.gt) = (!negB b && decide (4787326403894837248 < rN b)) := by
  rw [cmp_key (by rw [rN_nan]; exact decide_eq_false (by omega)) (nanAbs (by decide)), cmp_gt, key_val hb hr, keyAbs (by decide)]
  show decide (_ < (bif negB b then -(valR (rN b) : Int) else (valR (rN b) : Int))) = _
  have h := val_iff (r := 4787326403894837248) (q := rN b) (by decide) hr
  rw [Bool.eq_iff_iff]
  cases negB b
  · simp; try omega
  · simp; try omega

theorem vol_neg {r : Nat} (h : powN r < 0) : volN r = rndN (oddN r * 1000) (-powN r).toNat := by unfold volN; rw [decide_eq_true h]; rfl
theorem vol_pos {r : Nat} (h : ¬ powN r < 0) : volN r = oddN r * 1000 * 2 ^ (powN r).toNat := by unfold volN; rw [decide_eq_false h]; rfl
theorem c57 {b : Nat} (hb : b < 18446744073709551616) : Pure Tryd.prog 20 [⟨.flt, some b⟩] [.int, .int] (ofS b) :=
  ofT Tryd.func20 (t57 (some b)) (by kernel_rfl) (by kernel_rfl) fun _ => by
    obtain ⟨f1, f2, f3, f4⟩ := cls_facts (rN b)
    refine ⟨⟨T2', trivial⟩, _, c119 hb, ?_⟩
    show Sat _ _ _ (bif clsN (rN b) == 1 then _ else bif clsN (rN b) == 2 then _ else _)
    unfold ofS
    refine sat_if (fun _ => ⟨⟨T2', T2'⟩, rfl⟩) (fun h1 => sat_if (fun _ => ⟨⟨T2', T2'⟩, rfl⟩) (fun h2 => ?_))
    rw [f1] at h1
    have h1 := of_decide_eq_false h1
    rw [f2 (by omega)] at h2
    have h2 := of_decide_eq_false h2
    have hi : rN b < 9218868437227405312 := by omega
    rw [below0 hb (by omega), above hb (by omega), f3 hi]
    by_cases hz : rN b = 0
    · rw [decide_eq_true hz, hz]
      refine sat_f (by simp) (sat_f (by simp) ⟨⟨T2', trivial⟩, _, c120 hb, ?_⟩)
      have e : partsV b = (0, 0) := by unfold partsV; rw [hz]; rfl
      rw [e]
      exact sat_f rfl ⟨by decide, sat_f (by decide) ⟨⟨T2', T2'⟩, rfl⟩⟩
    rw [decide_eq_false hz, cond_false]
    have hd : decide (0 < rN b) = true := decide_eq_true (by omega)
    rw [hd, Bool.and_true]
    refine sat_if (fun _ => ⟨⟨T2', T2'⟩, rfl⟩) (fun hn => ?_)
    rw [hn, Bool.not_false, Bool.true_and]
    by_cases hC : 4787326403894837248 < rN b
    · rw [decide_eq_true hC, decide_eq_true (large_vol hC hi)]
      exact ⟨⟨T2', T2'⟩, rfl⟩
    rw [decide_eq_false hC]
    have hol := @odd_lt (rN b)
    have hlo := @pow_lo (rN b)
    have e : partsV b = ((oddN (rN b) : Int), powN (rN b)) := by unfold partsV; rw [f4 hi, decide_eq_false hz, hn]; rfl
    refine sat_f rfl ⟨⟨T2', trivial⟩, _, (c120 hb).eq e, ?_⟩
    have e1 : IntKind.i64.wrap ((oddN (rN b) : Int) * 1000) = ((oddN (rN b) * 1000 : Nat) : Int) := by rw [wrap_i64 (by omega) (by omega)]; rfl
    show Sat _ _ _ (bif decide (powN (rN b) < 0) then _ else _)
    by_cases hp : powN (rN b) < 0
    · rw [decide_eq_true hp, e1, vol_neg hp]
      have es : powN (rN b) = -(((-powN (rN b)).toNat : Nat) : Int) := by omega
      have c := c121 (n := oddN (rN b) * 1000) (s := (-powN (rN b)).toNat) (by omega) (by omega) (by omega)
      rw [← es] at c
      refine ⟨⟨T2', T2', trivial⟩, ((rndN (oddN (rN b) * 1000) (-powN (rN b)).toNat : Nat) : Int), c, ?_⟩
      have g : decide (((rndN (oddN (rN b) * 1000) (-powN (rN b)).toNat : Nat) : Int) > 1099511627776) = decide (rndN (oddN (rN b) * 1000) (-powN (rN b)).toNat > 1099511627776) := decide_eq_decide.2 (by omega)
      show Sat _ _ _ (bif decide (((rndN (oddN (rN b) * 1000) (-powN (rN b)).toNat : Nat) : Int) > 1099511627776) then _ else _)
      rw [g]
      exact sat_if (fun _ => ⟨⟨T2', T2'⟩, rfl⟩) (fun _ => ⟨⟨T2', T2'⟩, rfl⟩)
    · rw [decide_eq_false hp, e1, vol_pos hp]
      have hs := small_vol (r := rN b) (by omega) (by omega) (by omega)
      have ho := odd_pos (r := rN b) (by omega)
      have hp41 : (powN (rN b)).toNat < 64 := by
        rcases Nat.lt_or_ge (powN (rN b)).toNat 64 with g | g
        · exact g
        · have g1 : 2 ^ 64 ≤ 2 ^ (powN (rN b)).toNat := Nat.pow_le_pow_right (by decide) g
          have g2 : 1 * 2 ^ (powN (rN b)).toNat ≤ oddN (rN b) * 2 ^ (powN (rN b)).toNat := Nat.mul_le_mul_right _ ho
          have e64 : (2 ^ 64 : Nat) = 18446744073709551616 := by decide
          omega
      have e2 : (2 : Int) ^ min (Int.toNat (powN (rN b))) (IntKind.bits .i64) = ((2 ^ (powN (rN b)).toNat : Nat) : Int) := by
        have := pow_min' hp41
        rw [Int.toNat_natCast] at this
        exact this
      have e3 : oddN (rN b) * 1000 * 2 ^ (powN (rN b)).toNat = 1000 * (oddN (rN b) * 2 ^ (powN (rN b)).toNat) := by rw [Nat.mul_comm (oddN (rN b)) 1000, Nat.mul_assoc]
      have e4 : IntKind.i64.wrap (((oddN (rN b) * 1000 : Nat) : Int) * ((2 ^ (powN (rN b)).toNat : Nat) : Int)) = ((oddN (rN b) * 1000 * 2 ^ (powN (rN b)).toNat : Nat) : Int) := by
        rw [← Int.natCast_mul]
        exact wrap_i64 (by omega) (by omega)
      rw [e2, e4]
      have g : decide (((oddN (rN b) * 1000 * 2 ^ (powN (rN b)).toNat : Nat) : Int) > 1099511627776) = decide (oddN (rN b) * 1000 * 2 ^ (powN (rN b)).toNat > 1099511627776) := decide_eq_decide.2 (by omega)
      rw [g]
      refine ⟨by omega, ?_⟩
      exact sat_if (fun _ => ⟨⟨T2', T2'⟩, rfl⟩) (fun _ => ⟨⟨T2', T2'⟩, rfl⟩)

theorem rnd_lt {n s : Nat} (hn : n < 9223372036854775807) : rndN n s < 9223372036854775808 := by
  have : n / 2 ^ s ≤ n := Nat.div_le_self _ _
  unfold rndN
  cases (decide (2 ^ s < 2 * (n % 2 ^ s)) || (2 ^ s == 2 * (n % 2 ^ s) && n / 2 ^ s % 2 == 1))
  · simp only [cond_false]; omega
  · simp only [cond_true]; omega
/-- The volume that a request wants. -/
def volS (r : Req) : Int × Int := bif (ofS r.vol.toNat).2 == 0 && (ofS r.vol.toNat).1 == 0 then (0, 1) else ofS r.vol.toNat
theorem c15 {r : Req} (h0 : 0 ≤ r.vol) (h : r.vol < 18446744073709551616) : Pure Tryd.prog 12 [⟨.req, r⟩] [.int, .int] (volS r) :=
  ofT Tryd.func12 (t15 r) (by kernel_rfl) (by kernel_rfl) fun _ => by
    refine ⟨x58 r.vol, ⟨T2', trivial⟩, _, c57 (by omega), ?_⟩
    unfold volS
    generalize ofS r.vol.toNat = x
    obtain ⟨a, b⟩ := x
    show Sat _ _ _ (bif b == 0 then (bif a == 0 then _ else _) else _)
    refine sat_bif (fun h1 => sat_bif (fun h2 => ⟨⟨T2', T2'⟩, ?_⟩) (fun h2 => ⟨⟨T2', T2'⟩, ?_⟩)) (fun h1 => ⟨⟨T2', T2'⟩, ?_⟩)
    · simp only [h1, h2]; rfl
    · simp only [h1, h2]; rfl
    · simp only [h1]; rfl
end Go.Proofs.Wn

/- The deck and its parts: plain models. (Own work.) -/
namespace Go.Proofs.Zn
open Go Go.VL

def boxOk (b : Go.VL.Box) : Bool := bif decide (b.rows ≥ 1) then bif decide (b.rows ≤ 32) then bif decide (b.cols ≥ 1) then decide (b.cols ≤ 48) else false else false else false
theorem boxOk_iff {b : Go.VL.Box} : boxOk b = true ↔ 1 ≤ b.rows ∧ b.rows ≤ 32 ∧ 1 ≤ b.cols ∧ b.cols ≤ 48 := by
  unfold boxOk
  by_cases h1 : b.rows ≥ 1
  · rw [decide_eq_true h1, cond_true]
    by_cases h2 : b.rows ≤ 32
    · rw [decide_eq_true h2, cond_true]
      by_cases h3 : b.cols ≥ 1
      · rw [decide_eq_true h3, cond_true, decide_eq_true_eq]; omega
      · rw [decide_eq_false h3, cond_false]; simp; omega
    · rw [decide_eq_false h2, cond_false]; simp; omega
  · rw [decide_eq_false h1, cond_false]; simp; omega
theorem box_size {b : Go.VL.Box} (h : boxOk b = true) : 1 ≤ b.rows * b.cols ∧ b.rows * b.cols ≤ 1536 := by
  obtain ⟨h1, h2, h3, h4⟩ := boxOk_iff.1 h
  constructor
  · have := Int.mul_le_mul h1 h3 (by omega) (by omega); omega
  · have := Int.mul_le_mul h2 h4 (by omega) (by omega); omega

def startOk (c : Int) : List Int → Bool
  | [] => true
  | n :: l => bif decide (n < 0) then false else bif decide (n > c) then false else startOk c l
def holdsS (p : Plate) : Bool := bif decide (p.cap < 1) then false else bif decide (p.cap > 1099511627776) then false else bif decide ((p.start.length : Int) > p.rows * p.cols) then false else startOk p.cap p.start
def pbox (p : Plate) : Go.VL.Box := ⟨p.rows, p.cols⟩
def rbox (r : Rack) : Go.VL.Box := ⟨r.rows, r.cols⟩
def plateOk (p : Plate) : Bool := bif boxOk (pbox p) then holdsS p else false
def boxesP (d : Deck) : List Go.VL.Box := d.plates.map pbox
def boxesR (d : Deck) : List Go.VL.Box := d.racks.map rbox
def sumI : List Go.VL.Box → Int
  | [] => 0
  | b :: l => b.rows * b.cols + sumI l
theorem sumI_app (l m : List Go.VL.Box) : sumI (l ++ m) = sumI l + sumI m := by
  induction l with
  | nil => simp [sumI]
  | cons b l ih => simp only [List.cons_append, sumI, ih]; omega
theorem sumI_le : ∀ {l : List Go.VL.Box}, (∀ b ∈ l, boxOk b = true) → 0 ≤ sumI l ∧ sumI l ≤ 1536 * (l.length : Int)
  | [], _ => by simp [sumI]
  | b :: l, h => by
    have h1 := box_size (h b (by simp))
    have h2 := sumI_le (l := l) fun c hc => h c (by simp [hc])
    simp only [sumI, List.length_cons]; omega

/-- The code of what is wrong with a deck. -/
def deckS (d : Deck) : Int :=
  bif checkS d.borders != 0 then checkS d.borders else bif decide (d.arms < 1) then 80 else bif decide (d.arms > 8) then 80 else
  bif decide ((d.plates.length : Int) > 4) then 2 else bif decide ((d.racks.length : Int) > 4) then 2 else
  bif !d.plates.all plateOk then 81 else bif !(boxesR d).all boxOk then 82 else
  bif decide (sumI (boxesP d) > 384) then 2 else bif decide (sumI (boxesR d) > 384) then 2 else 0

structure DeckOk (d : Deck) : Prop where
  borders : checkS d.borders = 0
  arms : 1 ≤ d.arms ∧ d.arms ≤ 8
  plates : d.plates.length ≤ 4
  racks : d.racks.length ≤ 4
  plate : ∀ p ∈ d.plates, plateOk p = true
  boxP : ∀ b ∈ boxesP d, boxOk b = true
  boxR : ∀ b ∈ boxesR d, boxOk b = true
  wells : 0 ≤ sumI (boxesP d) ∧ sumI (boxesP d) ≤ 384
  tips : 0 ≤ sumI (boxesR d) ∧ sumI (boxesR d) ≤ 384
  lanes : 2 ≤ d.borders.length ∧ d.borders.length ≤ 25

theorem deck_ok {d : Deck} (h : deckS d = 0) : DeckOk d := by
  unfold deckS at h
  cases h1 : checkS d.borders != 0
  · rw [h1, cond_false] at h
    have hb : checkS d.borders = 0 := by simpa using h1
    by_cases h2 : d.arms < 1
    · rw [decide_eq_true h2] at h; cases h
    rw [decide_eq_false h2, cond_false] at h
    by_cases h3 : d.arms > 8
    · rw [decide_eq_true h3] at h; cases h
    rw [decide_eq_false h3, cond_false] at h
    by_cases h4 : (d.plates.length : Int) > 4
    · rw [decide_eq_true h4] at h; cases h
    rw [decide_eq_false h4, cond_false] at h
    by_cases h5 : (d.racks.length : Int) > 4
    · rw [decide_eq_true h5] at h; cases h
    rw [decide_eq_false h5, cond_false] at h
    cases h6 : d.plates.all plateOk
    · rw [h6] at h; cases h
    rw [h6, Bool.not_true, cond_false] at h
    cases h7 : (boxesR d).all boxOk
    · rw [h7] at h; cases h
    rw [h7, Bool.not_true, cond_false] at h
    by_cases h8 : sumI (boxesP d) > 384
    · rw [decide_eq_true h8] at h; cases h
    rw [decide_eq_false h8, cond_false] at h
    by_cases h9 : sumI (boxesR d) > 384
    · rw [decide_eq_true h9] at h; cases h
    have hp : ∀ p ∈ d.plates, plateOk p = true := List.all_eq_true.1 h6
    have hbp : ∀ b ∈ boxesP d, boxOk b = true := fun b hb => by
      obtain ⟨p, hp', rfl⟩ := List.mem_map.1 hb
      have := hp p hp'
      unfold plateOk at this
      cases hq : boxOk (pbox p)
      · rw [hq] at this; cases this
      · rfl
    have hbr : ∀ b ∈ boxesR d, boxOk b = true := List.all_eq_true.1 h7
    exact ⟨hb, ⟨by omega, by omega⟩, by omega, by omega, hp, hbp, hbr, ⟨(sumI_le hbp).1, by omega⟩, ⟨(sumI_le hbr).1, by omega⟩, check_len hb⟩
  · rw [h1, cond_true] at h
    rw [h] at h1; cases h1

/-! ### parts -/
def placesS (k u r c : Int) : List Part := (List.range (r * c).toNat).map fun n : Nat => ⟨k, u, (n : Int) / c, (n : Int) % c⟩
def unitsS (k : Int) : Int → List Go.VL.Box → List Part
  | _, [] => []
  | u, b :: l => placesS k u b.rows b.cols ++ unitsS k (u + 1) l
def lanesL (n : Nat) : List Part := (List.range n).map fun i : Nat => ⟨3, (i : Int), 0, 0⟩
def partsS (d : Deck) : List Part := unitsS 1 0 (boxesP d) ++ (unitsS 2 0 (boxesR d) ++ lanesL (d.borders.length - 1))
def partsOf (d : Deck) : List Part := bif deckS d != 0 then [] else partsS d
def placeGo (k : Int) : Int → List Go.VL.Box → Int → Part
  | _, [], _ => ⟨k, 0, 0, 0⟩
  | u, b :: l, n => bif decide (n < b.rows * b.cols) then ⟨k, u, n / b.cols, n % b.cols⟩ else placeGo k (u + 1) l (n - b.rows * b.cols)

theorem places_len (k u r c : Int) : (placesS k u r c).length = (r * c).toNat := by simp [placesS]
theorem units_len (k : Int) : ∀ (l : List Go.VL.Box) (u : Int), (∀ b ∈ l, boxOk b = true) → ((unitsS k u l).length : Int) = sumI l
  | [], _, _ => rfl
  | b :: l, u, h => by
    have h1 := box_size (h b (by simp))
    have h2 := units_len k l (u + 1) fun c hc => h c (by simp [hc])
    simp only [unitsS, List.length_append, places_len, sumI]; omega
theorem place_get (k : Int) : ∀ (l : List Go.VL.Box) (u n : Int), (∀ b ∈ l, boxOk b = true) → 0 ≤ n → n < sumI l → (unitsS k u l)[n.toNat]? = some (placeGo k u l n)
  | [], _, n, _, h0, h1 => by simp only [sumI] at h1; omega
  | b :: l, u, n, h, h0, h1 => by
    have h3 := box_size (h b (by simp))
    simp only [unitsS, placeGo]
    by_cases hn : n < b.rows * b.cols
    · rw [decide_eq_true hn, cond_true, List.getElem?_append_left (by rw [places_len]; omega)]
      simp only [placesS]
      rw [List.getElem?_map, List.getElem?_range (by omega)]
      simp only [Option.map_some, Int.toNat_of_nonneg h0]
    · rw [decide_eq_false hn, cond_false, List.getElem?_append_right (by rw [places_len]; omega), places_len]
      have e : n.toNat - (b.rows * b.cols).toNat = (n - b.rows * b.cols).toNat := by omega
      rw [e]
      exact place_get k l (u + 1) _ (fun c hc => h c (by simp [hc])) (by omega) (by simp only [sumI] at h1; omega)

theorem parts_len {d : Deck} (h : DeckOk d) : ((partsS d).length : Int) = sumI (boxesP d) + sumI (boxesR d) + ((d.borders.length : Int) - 1) := by
  have h1 := units_len 1 (boxesP d) 0 h.boxP
  have h2 := units_len 2 (boxesR d) 0 h.boxR
  have h3 := h.lanes
  simp only [partsS, List.length_append, lanesL, List.length_map, List.length_range]; omega

/-- The part of an id. -/
def partS (d : Deck) (i : Int) : Part × Int :=
  bif deckS d != 0 then (⟨0, 0, 0, 0⟩, deckS d) else bif decide (i < 0) then (⟨0, 0, 0, 0⟩, 3) else bif decide (i ≥ ((partsS d).length : Int)) then (⟨0, 0, 0, 0⟩, 3) else
  ((partsS d).getD i.toNat ⟨0, 0, 0, 0⟩, 0)
theorem parts_get {d : Deck} (h : DeckOk d) {i : Int} (h0 : 0 ≤ i) (h1 : i < ((partsS d).length : Int)) :
    (partsS d)[i.toNat]? = some (bif decide (i < sumI (boxesP d)) then placeGo 1 0 (boxesP d) i else bif decide (i < sumI (boxesP d) + sumI (boxesR d)) then placeGo 2 0 (boxesR d) (i - sumI (boxesP d)) else ⟨3, i - sumI (boxesP d) - sumI (boxesR d), 0, 0⟩) := by
  have hl := parts_len h
  have l1 := units_len 1 (boxesP d) 0 h.boxP
  have l2 := units_len 2 (boxesR d) 0 h.boxR
  have hw := h.wells
  have ht := h.tips
  have hb := h.lanes
  unfold partsS
  by_cases c1 : i < sumI (boxesP d)
  · rw [decide_eq_true c1, cond_true, List.getElem?_append_left (by omega)]
    exact place_get 1 _ 0 i h.boxP h0 c1
  · rw [decide_eq_false c1, cond_false, List.getElem?_append_right (by omega)]
    have e1 : i.toNat - (unitsS 1 0 (boxesP d)).length = (i - sumI (boxesP d)).toNat := by omega
    rw [e1]
    by_cases c2 : i < sumI (boxesP d) + sumI (boxesR d)
    · rw [decide_eq_true c2, cond_true, List.getElem?_append_left (by omega)]
      exact place_get 2 _ 0 _ h.boxR (by omega) (by omega)
    · rw [decide_eq_false c2, cond_false, List.getElem?_append_right (by omega)]
      have e2 : (i - sumI (boxesP d)).toNat - (unitsS 2 0 (boxesR d)).length = (i - sumI (boxesP d) - sumI (boxesR d)).toNat := by omega
      rw [e2, lanesL, List.getElem?_map, List.getElem?_range (by omega)]
      simp only [Option.map_some]
      rw [Int.toNat_of_nonneg (by omega)]

/-- What a part of a deck that is right may be. -/
def ValidP (d : Deck) (p : Part) : Prop :=
  (p.kind = 1 ∧ 0 ≤ p.unit ∧ p.unit < (d.plates.length : Int)) ∨ (p.kind = 2 ∧ 0 ≤ p.unit ∧ p.unit < (d.racks.length : Int)) ∨ (p.kind = 3 ∧ 0 ≤ p.unit ∧ p.unit < (d.borders.length : Int) - 1)
theorem units_mem {k : Int} : ∀ {l : List Go.VL.Box} {u : Int} {p : Part}, p ∈ unitsS k u l → p.kind = k ∧ u ≤ p.unit ∧ p.unit < u + (l.length : Int)
  | [], _, _, h => by simp [unitsS] at h
  | b :: l, u, p, h => by
    simp only [unitsS, List.mem_append] at h
    rcases h with h | h
    · obtain ⟨n, _, rfl⟩ := List.mem_map.1 h
      refine ⟨rfl, ?_, ?_⟩ <;> simp
      omega
    · obtain ⟨h1, h2, h3⟩ := units_mem h
      simp only [List.length_cons]
      exact ⟨h1, by omega, by omega⟩
theorem parts_valid {d : Deck} {p : Part} (h : p ∈ partsS d) : ValidP d p := by
  simp only [partsS, List.mem_append] at h
  rcases h with h | h | h
  · obtain ⟨h1, h2, h3⟩ := units_mem h
    simp only [boxesP, List.length_map] at h3
    exact .inl ⟨h1, h2, by omega⟩
  · obtain ⟨h1, h2, h3⟩ := units_mem h
    simp only [boxesR, List.length_map] at h3
    exact .inr (.inl ⟨h1, h2, by omega⟩)
  · obtain ⟨n, hn, rfl⟩ := List.mem_map.1 h
    have := List.mem_range.1 hn
    exact .inr (.inr ⟨rfl, by simp, by simp; omega⟩)
theorem part_valid {d : Deck} {i : Int} (h : (partS d i).2 = 0) : DeckOk d ∧ ValidP d (partS d i).1 := by
  unfold partS at h ⊢
  cases h1 : deckS d != 0
  · rw [h1, cond_false] at h
    rw [cond_false]
    have hd : DeckOk d := deck_ok (by simpa using h1)
    by_cases h2 : i < 0
    · rw [decide_eq_true h2] at h; cases h
    rw [decide_eq_false h2, cond_false] at h ⊢
    by_cases h3 : i ≥ ((partsS d).length : Int)
    · rw [decide_eq_true h3] at h; cases h
    rw [decide_eq_false h3, cond_false]
    refine ⟨hd, parts_valid ?_⟩
    rw [getD_at' (by omega)]
    exact List.getElem_mem _
  · rw [h1, cond_true] at h
    rw [show deckS d = 0 from h] at h1; cases h1

/-! ### lanes that parts cover -/
def rowS (d : Deck) (p : Part) : Row := bif p.kind == 2 then ⟨(d.racks.getD p.unit.toNat Ty.rack.dflt).x, (d.racks.getD p.unit.toNat Ty.rack.dflt).pitch, (d.racks.getD p.unit.toNat Ty.rack.dflt).reach⟩
  else ⟨(d.plates.getD p.unit.toNat Ty.plate.dflt).x, (d.plates.getD p.unit.toNat Ty.plate.dflt).pitch, (d.plates.getD p.unit.toNat Ty.plate.dflt).reach⟩
def midS (r : Row) (c : Int) : Fl := Fl.arith BinOp.add r.x (Fl.arith BinOp.mul (some (FloatKind.nearest FloatKind.f64 c)) r.pitch)
def coverS (d : Deck) (p : Part) : Span × Int := bif p.kind == 3 then (⟨p.unit, p.unit⟩, 0) else reachS d.borders (midS (rowS d p) p.col) (rowS d p).reach
def spanS (d : Deck) (i : Int) : Span × Int := bif (partS d i).2 != 0 then (⟨0, 0⟩, (partS d i).2) else coverS d (partS d i).1

theorem reach_ok {l : List Fl} {x r : Fl} (h : (reachS l x r).2 = 0) : 0 ≤ (reachS l x r).1.lo ∧ (reachS l x r).1.lo ≤ (reachS l x r).1.hi ∧ (reachS l x r).1.hi < (l.length : Int) - 1 := by
  unfold reachS at h ⊢
  cases h1 : checkS l != 0
  · have hc : checkS l = 0 := by simpa using h1
    rw [h1, cond_false] at h; rw [cond_false]
    cases h2 : nanF x
    · rw [h2, cond_false] at h; rw [cond_false]
      cases h3 : nanF r
      · rw [h3, cond_false] at h; rw [cond_false]
        cases h4 : ltF r (some 0)
        · rw [h4, cond_false] at h; rw [cond_false]
          cases h5 : nanF (loF x r)
          · rw [h5, cond_false] at h; rw [cond_false]
            cases h6 : nanF (hiF x r)
            · rw [h6, cond_false] at h; rw [cond_false]
              have hk : 0 ≤ keyF r := by
                rw [ltF_key h3 (by decide +kernel), key_zero] at h4
                have := of_decide_eq_false h4; omega
              have hle := lo_hi h2 h3 hk h5 h6
              obtain ⟨hn, hp⟩ := check_rise hc
              obtain ⟨g1, g2⟩ := check_len hc
              unfold inS at h ⊢
              cases h7 : ltF (hiF x r) (l.getD 0 (some 0))
              · rw [h7, cond_false] at h; rw [cond_false]
                cases h8 : gtF (loF x r) (l.getD (l.length - 1) (some 0))
                · rw [cond_false]
                  have hn0 : nanF (l.getD 0 (some 0)) = false := hn _ (by rw [getD_at' (by omega)]; exact List.getElem_mem _)
                  rw [ltF_key h6 hn0] at h7
                  have h7 := of_decide_eq_false h7
                  have b1 := (behind_iff h6 hn hp 0 (by omega)).1 (by omega)
                  have b2 := behind_le l (hiF x r)
                  have b3 : behindS l (loF x r) ≤ behindS l (hiF x r) := by
                    rcases Nat.lt_or_ge (behindS l (hiF x r)) (behindS l (loF x r)) with hlt | hge
                    · exfalso
                      have b4 := behind_le l (loF x r)
                      have c1 := (behind_iff h5 hn hp (behindS l (hiF x r)) (by omega)).2 hlt
                      have c2 := (behind_iff h6 hn hp (behindS l (hiF x r)) (by omega)).1 (by omega)
                      omega
                    · exact hge
                  simp only
                  omega
                · rw [h8] at h; cases h
              · rw [h7] at h; cases h
            · rw [h6] at h; cases h
          · rw [h5] at h; cases h
        · rw [h4] at h; cases h
      · rw [h3] at h; cases h
    · rw [h2] at h; cases h
  · rw [h1, cond_true] at h
    rw [show checkS l = 0 from h] at h1; cases h1
theorem cover_ok {d : Deck} {p : Part} (hv : ValidP d p) (h : (coverS d p).2 = 0) : 0 ≤ (coverS d p).1.lo ∧ (coverS d p).1.lo ≤ (coverS d p).1.hi ∧ (coverS d p).1.hi < (d.borders.length : Int) - 1 := by
  unfold coverS at h ⊢
  cases hk : p.kind == 3
  · rw [hk, cond_false] at h; rw [cond_false]
    exact reach_ok h
  · rw [cond_true]
    have hk : p.kind = 3 := by simpa using hk
    rcases hv with ⟨a, _⟩ | ⟨a, _⟩ | ⟨_, a, b⟩
    · omega
    · omega
    · simp only; omega
end Go.Proofs.Zn

/- Sets of numbers: plain models. (Own work.) -/
namespace Go.Proofs.Zn
open Go Go.VL

abbrev Rise (l : List Int) : Prop := l.Pairwise (· < ·)
theorem rise_ext : ∀ {l m : List Int}, Rise l → Rise m → (∀ n, n ∈ l ↔ n ∈ m) → l = m
  | [], [], _, _, _ => rfl
  | [], b :: m, _, _, h => absurd ((h b).2 (by simp)) (by simp)
  | a :: l, [], _, _, h => absurd ((h a).1 (by simp)) (by simp)
  | a :: l, b :: m, hl, hm, h => by
    obtain ⟨h1, h2⟩ := List.pairwise_cons.1 hl
    obtain ⟨g1, g2⟩ := List.pairwise_cons.1 hm
    have hab : a = b := by
      rcases List.mem_cons.1 ((h a).1 (by simp)) with e | e
      · exact e
      · rcases List.mem_cons.1 ((h b).2 (by simp)) with e' | e'
        · exact e'.symm
        · have := g1 a e; have := h1 b e'; omega
    subst hab
    rw [rise_ext h2 g2 fun n => ⟨fun hn => ?_, fun hn => ?_⟩]
    · have := h1 n hn
      rcases List.mem_cons.1 ((h n).1 (by simp [hn])) with e | e
      · omega
      · exact e
    · have := g1 n hn
      rcases List.mem_cons.1 ((h n).2 (by simp [hn])) with e | e
      · omega
      · exact e

/-! ### a number put into a set -/
def putS : List Int → Int → List Int
  | [], n => [n]
  | x :: l, n => bif decide (x < n) then x :: putS l n else bif x == n then x :: l else n :: x :: l
theorem mem_put {m n : Int} : ∀ {l : List Int}, m ∈ putS l n ↔ m = n ∨ m ∈ l
  | [] => by simp [putS]
  | x :: l => by
    unfold putS
    by_cases h1 : x < n
    · rw [decide_eq_true h1, cond_true, List.mem_cons, mem_put (l := l), List.mem_cons]
      constructor
      · rintro (h | h | h)
        · exact .inr (.inl h)
        · exact .inl h
        · exact .inr (.inr h)
      · rintro (h | h | h)
        · exact .inr (.inl h)
        · exact .inl h
        · exact .inr (.inr h)
    · rw [decide_eq_false h1, cond_false]
      cases h2 : x == n
      · rw [cond_false]; simp
      · rw [cond_true]
        have : x = n := by simpa using h2
        subst this
        simp
theorem put_rise {n : Int} : ∀ {l : List Int}, Rise l → Rise (putS l n)
  | [], _ => by simp [putS]
  | x :: l, h => by
    obtain ⟨h1, h2⟩ := List.pairwise_cons.1 h
    unfold putS
    by_cases h3 : x < n
    · rw [decide_eq_true h3, cond_true]
      refine List.pairwise_cons.2 ⟨fun y hy => ?_, put_rise h2⟩
      rcases mem_put.1 hy with e | e
      · omega
      · exact h1 y e
    · rw [decide_eq_false h3, cond_false]
      cases h4 : x == n
      · rw [cond_false]
        have h4 : ¬ x = n := by simpa using h4
        refine List.pairwise_cons.2 ⟨fun y hy => ?_, h⟩
        rcases List.mem_cons.1 hy with e | e
        · omega
        · have := h1 y e; omega
      · rw [cond_true]; exact h
theorem put_len {n : Int} : ∀ {l : List Int}, (putS l n).length ≤ l.length + 1
  | [] => by simp [putS]
  | x :: l => by
    unfold putS
    cases decide (x < n)
    · cases x == n <;> simp
    · have := put_len (n := n) (l := l)
      simp only [cond_true, List.length_cons]; omega
/-- Where it would stand. -/
def putK (l : List Int) (n : Int) : Nat := (l.takeWhile fun x => decide (x < n)).length
theorem putK_le (l : List Int) (n : Int) : putK l n ≤ l.length := (List.takeWhile_sublist _).length_le
theorem putK_lt : ∀ {l : List Int} {n : Int} {k : Nat} (hk : k < l.length), (∀ j (h : j < l.length), j < k → l[j] < n) → ¬ l[k] < n → putK l n = k
  | [], _, _, hk, _, _ => by simp at hk
  | x :: l, n, 0, _, _, h => by
    have h : ¬ x < n := h
    simp [putK, List.takeWhile_cons, h]
  | x :: l, n, k + 1, hk, h1, h2 => by
    have hx : x < n := h1 0 (by simp) (by omega)
    have := putK_lt (l := l) (n := n) (k := k) (by simpa using hk) (fun j hj hjk => h1 (j + 1) (by simp; omega) (by omega)) h2
    simp only [putK, List.takeWhile_cons, decide_eq_true hx, if_true, List.length_cons] at this ⊢
    omega
theorem put_eq : ∀ (l : List Int) (n : Int), putS l n = bif Nat.blt (putK l n) l.length && (l.getD (putK l n) 0 == n) then l else l.take (putK l n) ++ n :: l.drop (putK l n)
  | [], n => rfl
  | x :: l, n => by
    unfold putS
    have ih := put_eq l n
    by_cases h1 : x < n
    · have e : putK (x :: l) n = putK l n + 1 := by simp [putK, List.takeWhile_cons, h1]
      rw [decide_eq_true h1, cond_true, e, ih]
      have e2 : Nat.blt (putK l n + 1) (x :: l).length = Nat.blt (putK l n) l.length := by
        simp only [Nat.blt, List.length_cons]; rfl
      have e3 : (x :: l).getD (putK l n + 1) 0 = l.getD (putK l n) 0 := by simp
      rw [e2, e3]
      cases Nat.blt (putK l n) l.length && (l.getD (putK l n) 0 == n) <;> simp
    · have e : putK (x :: l) n = 0 := by simp [putK, List.takeWhile_cons, h1]
      rw [decide_eq_false h1, cond_false, e]
      have e2 : Nat.blt 0 (x :: l).length = true := by rfl
      have e3 : (x :: l).getD 0 0 = x := rfl
      rw [e2, e3, Bool.true_and]
      cases x == n <;> simp

/-! ### in one of two -/
def eitherS (a b : List Int) : List Int := b.foldl putS a
theorem mem_either {n : Int} : ∀ {b a : List Int}, n ∈ eitherS a b ↔ n ∈ a ∨ n ∈ b
  | [], a => by simp [eitherS]
  | x :: b, a => by
    have := mem_either (n := n) (b := b) (a := putS a x)
    unfold eitherS at this ⊢
    rw [List.foldl_cons, this, mem_put, List.mem_cons]
    constructor
    · rintro ((h | h) | h)
      · exact .inr (.inl h)
      · exact .inl h
      · exact .inr (.inr h)
    · rintro (h | h | h)
      · exact .inl (.inr h)
      · exact .inl (.inl h)
      · exact .inr h
theorem either_rise : ∀ {b a : List Int}, Rise a → Rise (eitherS a b)
  | [], _, h => h
  | x :: b, a, h => either_rise (b := b) (a := putS a x) (put_rise h)
theorem either_len : ∀ {b a : List Int}, (eitherS a b).length ≤ a.length + b.length
  | [], _ => by simp [eitherS]
  | x :: b, a => by
    have h1 := either_len (b := b) (a := putS a x)
    have h2 := put_len (n := x) (l := a)
    unfold eitherS at h1 ⊢
    rw [List.foldl_cons, List.length_cons]; omega
abbrev setS (l : List Int) : List Int := eitherS [] l
theorem set_rise (l : List Int) : Rise (setS l) := either_rise .nil
theorem mem_set {n : Int} {l : List Int} : n ∈ setS l ↔ n ∈ l := by
  rw [mem_either]; simp

/-! ### along two sets -/
def tk (w : Bool) (x : Int) (l : List Int) : List Int := bif w then x :: l else l
theorem mem_tk {w : Bool} {x n : Int} {l : List Int} : n ∈ tk w x l ↔ (w = true ∧ n = x) ∨ n ∈ l := by
  cases w <;> simp [tk]
def alongS (f s t : Bool) : List Int → List Int → List Int
  | [], [] => []
  | x :: a, [] => tk f x (alongS f s t a [])
  | [], y :: b => tk s y (alongS f s t [] b)
  | x :: a, y :: b => if x < y then tk f x (alongS f s t a (y :: b)) else if y < x then tk s y (alongS f s t (x :: a) b) else tk t x (alongS f s t a b)
termination_by a b => a.length + b.length

theorem along_spec (f s t : Bool) : ∀ (a b : List Int), Rise a → Rise b →
    (∀ n, n ∈ alongS f s t a b ↔ (f = true ∧ n ∈ a ∧ n ∉ b) ∨ (s = true ∧ n ∉ a ∧ n ∈ b) ∨ (t = true ∧ n ∈ a ∧ n ∈ b)) ∧ Rise (alongS f s t a b)
  | [], [], _, _ => by rw [alongS]; simp
  | x :: a, [], ha, hb => by
    obtain ⟨h1, h2⟩ := List.pairwise_cons.1 ha
    obtain ⟨i1, i2⟩ := along_spec f s t a [] h2 hb
    rw [alongS]
    refine ⟨fun n => ?_, ?_⟩
    · rw [mem_tk, i1]; simp only [List.mem_cons]
      cases f <;> simp
    · cases f
      · exact i2
      · refine List.pairwise_cons.2 ⟨fun y hy => ?_, i2⟩
        have := (i1 y).1 hy
        simp at this
        exact h1 y this
  | [], y :: b, ha, hb => by
    obtain ⟨h1, h2⟩ := List.pairwise_cons.1 hb
    obtain ⟨i1, i2⟩ := along_spec f s t [] b ha h2
    rw [alongS]
    refine ⟨fun n => ?_, ?_⟩
    · rw [mem_tk, i1]; simp only [List.mem_cons]
      cases s <;> simp
    · cases s
      · exact i2
      · refine List.pairwise_cons.2 ⟨fun z hz => ?_, i2⟩
        have := (i1 z).1 hz
        simp at this
        exact h1 z this
  | x :: a, y :: b, ha, hb => by
    obtain ⟨h1, h2⟩ := List.pairwise_cons.1 ha
    obtain ⟨g1, g2⟩ := List.pairwise_cons.1 hb
    rw [alongS]
    by_cases c1 : x < y
    · rw [if_pos c1]
      obtain ⟨i1, i2⟩ := along_spec f s t a (y :: b) h2 hb
      have hx : ∀ n, n ∈ y :: b → n ≠ x := fun n hn e => by
        subst e
        rcases List.mem_cons.1 hn with e | e
        · omega
        · have := g1 n e; omega
      have hxa : x ∉ a := fun e => by have := h1 x e; omega
      refine ⟨fun n => ?_, ?_⟩
      · rw [mem_tk, i1]
        by_cases hn : n = x
        · subst hn
          have hny : n ∉ y :: b := fun e => hx n e rfl
          simp only [hny, hxa, List.mem_cons, true_or, not_false_eq_true, and_true, and_false, or_false]
          try simp
        · have e : n ∈ x :: a ↔ n ∈ a := by simp [hn]
          rw [e]; simp [hn]
      · cases f
        · exact i2
        · refine List.pairwise_cons.2 ⟨fun z hz => ?_, i2⟩
          have hz := (i1 z).1 hz
          have : z ∈ a ∨ z ∈ y :: b := by
            rcases hz with ⟨_, h, _⟩ | ⟨_, _, h⟩ | ⟨_, h, _⟩
            · exact .inl h
            · exact .inr h
            · exact .inl h
          rcases this with h | h
          · exact h1 z h
          · rcases List.mem_cons.1 h with e | e
            · omega
            · have := g1 z e; omega
    · rw [if_neg c1]
      by_cases c2 : y < x
      · rw [if_pos c2]
        obtain ⟨i1, i2⟩ := along_spec f s t (x :: a) b ha g2
        have hy : ∀ n, n ∈ x :: a → n ≠ y := fun n hn e => by
          subst e
          rcases List.mem_cons.1 hn with e | e
          · omega
          · have := h1 n e; omega
        have hyb : y ∉ b := fun e => by have := g1 y e; omega
        refine ⟨fun n => ?_, ?_⟩
        · rw [mem_tk, i1]
          by_cases hn : n = y
          · subst hn
            have hny : n ∉ x :: a := fun e => hy n e rfl
            simp only [hny, hyb, List.mem_cons, true_or, not_false_eq_true, and_true, and_false, or_false]
            try simp
          · have e : n ∈ y :: b ↔ n ∈ b := by simp [hn]
            rw [e]; simp [hn]
        · cases s
          · exact i2
          · refine List.pairwise_cons.2 ⟨fun z hz => ?_, i2⟩
            have hz := (i1 z).1 hz
            have : z ∈ x :: a ∨ z ∈ b := by
              rcases hz with ⟨_, h, _⟩ | ⟨_, _, h⟩ | ⟨_, h, _⟩
              · exact .inl h
              · exact .inr h
              · exact .inl h
            rcases this with h | h
            · rcases List.mem_cons.1 h with e | e
              · omega
              · have := h1 z e; omega
            · exact g1 z h
      · rw [if_neg c2]
        have hxy : x = y := by omega
        subst hxy
        obtain ⟨i1, i2⟩ := along_spec f s t a b h2 g2
        have hxa : x ∉ a := fun e => by have := h1 x e; omega
        have hxb : x ∉ b := fun e => by have := g1 x e; omega
        refine ⟨fun n => ?_, ?_⟩
        · rw [mem_tk, i1]
          by_cases hn : n = x
          · subst hn
            simp only [hxa, hxb, List.mem_cons, true_or, not_true_eq_false, and_true, and_false, or_false, false_or]
            try simp
          · have e : n ∈ x :: a ↔ n ∈ a := by simp [hn]
            have e' : n ∈ x :: b ↔ n ∈ b := by simp [hn]
            rw [e, e']; simp [hn]
        · cases t
          · exact i2
          · refine List.pairwise_cons.2 ⟨fun z hz => ?_, i2⟩
            have hz := (i1 z).1 hz
            rcases hz with ⟨_, h, _⟩ | ⟨_, _, h⟩ | ⟨_, h, _⟩
            · exact h1 z h
            · exact g1 z h
            · exact h1 z h
termination_by a b => a.length + b.length
theorem along_len (f s t : Bool) : ∀ (a b : List Int), (alongS f s t a b).length ≤ a.length + b.length
  | [], [] => by rw [alongS]; simp
  | x :: a, [] => by
    have := along_len f s t a []
    rw [alongS]; cases f <;> simp only [tk, cond_true, cond_false, List.length_cons] <;> omega
  | [], y :: b => by
    have := along_len f s t [] b
    rw [alongS]; cases s <;> simp only [tk, cond_true, cond_false, List.length_cons] <;> omega
  | x :: a, y :: b => by
    rw [alongS]
    by_cases c1 : x < y
    · rw [if_pos c1]
      have := along_len f s t a (y :: b)
      cases f <;> simp only [tk, cond_true, cond_false, List.length_cons] at this ⊢ <;> omega
    · rw [if_neg c1]
      by_cases c2 : y < x
      · rw [if_pos c2]
        have := along_len f s t (x :: a) b
        cases s <;> simp only [tk, cond_true, cond_false, List.length_cons] at this ⊢ <;> omega
      · rw [if_neg c2]
        have := along_len f s t a b
        cases t <;> simp only [tk, cond_true, cond_false, List.length_cons] at this ⊢ <;> omega
termination_by a b => a.length + b.length
theorem along_either {a b : List Int} (ha : Rise a) (hb : Rise b) : alongS true true true a b = eitherS a b := by
  obtain ⟨h1, h2⟩ := along_spec true true true a b ha hb
  refine rise_ext h2 (either_rise ha) fun n => ?_
  rw [h1, mem_either]
  by_cases c1 : n ∈ a <;> by_cases c2 : n ∈ b <;> simp [c1, c2]
theorem set_app (l m : List Int) : setS (l ++ m) = eitherS (setS l) (setS m) := by
  refine rise_ext (set_rise _) (either_rise (set_rise _)) fun n => ?_
  rw [mem_set, mem_either, mem_set, mem_set, List.mem_append]

/-! ### lanes by their ids -/
def lanesS (d : Deck) (s : Span) : List Int := (List.range (s.hi - s.lo + 1).toNat).map fun k : Nat => sumI (boxesP d) + sumI (boxesR d) + (s.lo + (k : Int))
theorem mem_lanes {d : Deck} {s : Span} {n : Int} : n ∈ lanesS d s ↔ s.lo ≤ n - (sumI (boxesP d) + sumI (boxesR d)) ∧ n - (sumI (boxesP d) + sumI (boxesR d)) ≤ s.hi := by
  unfold lanesS
  rw [List.mem_map]
  constructor
  · rintro ⟨k, hk, rfl⟩
    have := List.mem_range.1 hk
    omega
  · rintro ⟨h1, h2⟩
    refine ⟨(n - (sumI (boxesP d) + sumI (boxesR d)) - s.lo).toNat, List.mem_range.2 (by omega), by omega⟩
theorem lanes_rise (d : Deck) (s : Span) : Rise (lanesS d s) := by
  unfold lanesS
  rw [Rise, List.pairwise_map]
  exact List.pairwise_lt_range.imp fun h => by omega
def needsS (d : Deck) (l : List Span) : List Int := l.foldl (fun out s => eitherS out (lanesS d s)) []
theorem needs_go (d : Deck) : ∀ (l : List Span) (out : List Int), Rise out → Rise (l.foldl (fun out s => eitherS out (lanesS d s)) out) ∧
    ∀ n, n ∈ l.foldl (fun out s => eitherS out (lanesS d s)) out ↔ n ∈ out ∨ ∃ s ∈ l, n ∈ lanesS d s
  | [], out, h => ⟨h, fun n => by simp⟩
  | s :: l, out, h => by
    obtain ⟨h1, h2⟩ := needs_go d l (eitherS out (lanesS d s)) (either_rise h)
    refine ⟨h1, fun n => ?_⟩
    rw [List.foldl_cons, h2, mem_either]
    constructor
    · rintro ((h | h) | ⟨t, ht, h⟩)
      · exact .inl h
      · exact .inr ⟨s, by simp, h⟩
      · exact .inr ⟨t, by simp [ht], h⟩
    · rintro (h | ⟨t, ht, h⟩)
      · exact .inl (.inl h)
      · rcases List.mem_cons.1 ht with e | e
        · subst e; exact .inl (.inr h)
        · exact .inr ⟨t, e, h⟩
theorem needs_rise (d : Deck) (l : List Span) : Rise (needsS d l) := (needs_go d l [] .nil).1
theorem mem_needs {d : Deck} {l : List Span} {n : Int} : n ∈ needsS d l ↔ ∃ s ∈ l, n ∈ lanesS d s := by
  have := (needs_go d l [] .nil).2 n
  unfold needsS; rw [this]; simp
/-- The same numbers in spans: the same lanes. -/
theorem needs_den {d : Deck} {l m : List Span} (h : ∀ n : Int, (∃ s ∈ m, s.lo ≤ n ∧ n ≤ s.hi) ↔ ∃ s ∈ l, s.lo ≤ n ∧ n ≤ s.hi) : setS (m.flatMap (lanesS d)) = needsS d l := by
  refine rise_ext (set_rise _) (needs_rise _ _) fun n => ?_
  rw [mem_set, mem_needs, List.mem_flatMap]
  simp only [mem_lanes]
  exact h _
end Go.Proofs.Zn

/- The table of all parts, what is picked of it: plain models. (Own work.) -/
namespace Go.Proofs.Zn
open Go Go.VL

/-! ### the first thing that is wrong -/
def errL : List (Span × Int) → Int
  | [] => 0
  | p :: l => bif p.2 != 0 then p.2 else errL l
theorem errL_app : ∀ (l m : List (Span × Int)), errL (l ++ m) = bif errL l != 0 then errL l else errL m
  | [], m => rfl
  | p :: l, m => by
    simp only [List.cons_append, errL, errL_app l m]
    cases h : p.2 != 0
    · rfl
    · simp [h]
theorem errL_zero : ∀ {l : List (Span × Int)}, errL l = 0 → ∀ p ∈ l, p.2 = 0
  | [], _, _, h => by cases h
  | q :: l, h, p, hp => by
    simp only [errL] at h
    cases hq : q.2 != 0
    · rw [hq, cond_false] at h
      rcases List.mem_cons.1 hp with e | e
      · subst e; simpa using hq
      · exact errL_zero h p e
    · rw [hq, cond_true] at h
      rw [h] at hq; cases hq
theorem errL_rep {L : List (Span × Int)} : ∀ n : Nat, errL (List.replicate (n + 1) L).flatten = errL L
  | 0 => by simp [List.replicate]
  | n + 1 => by
    rw [List.replicate_succ, List.flatten_cons, errL_app, errL_rep n]
    cases h : errL L != 0 <;> rfl
def tryS (L : List (Span × Int)) : List Span × Int := bif errL L != 0 then ([], errL L) else (L.map Prod.fst, 0)
abbrev covL (d : Deck) (l : List Part) : List (Span × Int) := l.map (coverS d)
def colsL (k u : Int) (n : Nat) : List Part := (List.range n).map fun c : Nat => ⟨k, u, 0, (c : Int)⟩

theorem range_mod {α : Type} (C : Nat) (f : Nat → α) : ∀ R : Nat, (List.range (R * C)).map (fun n => f (n % C)) = (List.replicate R ((List.range C).map f)).flatten
  | 0 => by simp
  | R + 1 => by
    rw [Nat.succ_mul, List.range_add, List.map_append, range_mod C f R, List.replicate_succ', List.flatten_append, List.map_map]
    congr 1
    simp only [List.flatten_cons, List.flatten_nil, List.append_nil]
    refine List.map_congr_left fun n hn => ?_
    have := List.mem_range.1 hn
    simp only [Function.comp]
    rw [Nat.mul_comm, Nat.mul_add_mod, Nat.mod_eq_of_lt this]
theorem cov_places (d : Deck) {k u r c : Int} (hr : 0 ≤ r) (hc : 0 ≤ c) : covL d (placesS k u r c) = (List.replicate r.toNat (covL d (colsL k u c.toNat))).flatten := by
  obtain ⟨R, rfl⟩ := Int.eq_ofNat_of_zero_le hr
  obtain ⟨C, rfl⟩ := Int.eq_ofNat_of_zero_le hc
  have e : (((R : Nat) : Int) * ((C : Nat) : Int)).toNat = R * C := by rw [← Int.natCast_mul]; rfl
  simp only [covL, placesS, colsL, List.map_map, e, Int.toNat_natCast]
  rw [← range_mod C _ R]
  refine List.map_congr_left fun n _ => ?_
  simp only [Function.comp, coverS, rowS, Int.natCast_emod]

/-- The table of a deck. -/
def tableS (d : Deck) : List Span × Int := bif deckS d != 0 then ([], deckS d) else tryS (covL d (partsS d))
def zoneS (d : Deck) : Int := (tableS d).2
def restS (d : Deck) (i : Nat) : List Part := unitsS 1 i ((boxesP d).drop i) ++ (unitsS 2 0 (boxesR d) ++ lanesL (d.borders.length - 1))
def restR (d : Deck) (i : Nat) : List Part := unitsS 2 i ((boxesR d).drop i) ++ lanesL (d.borders.length - 1)
theorem lanes_cov (d : Deck) (n : Nat) : covL d (lanesL n) = (List.range n).map fun i : Nat => (⟨(i : Int), (i : Int)⟩, 0) := by
  simp only [covL, lanesL, List.map_map]; rfl
theorem lanes_err (d : Deck) (n : Nat) : errL (covL d (lanesL n)) = 0 := by
  rw [lanes_cov]
  have : ∀ l : List Nat, errL (l.map fun i : Nat => ((⟨(i : Int), (i : Int)⟩ : Span), (0 : Int))) = 0 := fun l => by
    induction l with
    | nil => rfl
    | cons a l ih => simp only [List.map_cons, errL]; exact ih
  exact this _

theorem table_ok {d : Deck} (h : (tableS d).2 = 0) : DeckOk d ∧ errL (covL d (partsS d)) = 0 ∧ (tableS d).1 = (covL d (partsS d)).map Prod.fst := by
  unfold tableS at h ⊢
  cases h1 : deckS d != 0
  · rw [h1, cond_false] at h
    rw [cond_false]
    have hd : DeckOk d := deck_ok (by simpa using h1)
    unfold tryS at h ⊢
    cases h2 : errL (covL d (partsS d)) != 0
    · exact ⟨hd, by simpa using h2, rfl⟩
    · rw [h2, cond_true] at h
      have h : errL (covL d (partsS d)) = 0 := h
      rw [h] at h2; cases h2
  · rw [h1, cond_true] at h
    have h : deckS d = 0 := h
    rw [h] at h1; cases h1
def SpanOk (d : Deck) (s : Span) : Prop := 0 ≤ s.lo ∧ s.lo ≤ s.hi ∧ s.hi < (d.borders.length : Int) - 1
theorem table_spans {d : Deck} (h : (tableS d).2 = 0) : ∀ s ∈ (tableS d).1, SpanOk d s := by
  obtain ⟨_, h2, h3⟩ := table_ok h
  intro s hs
  rw [h3] at hs
  obtain ⟨q, hq, rfl⟩ := List.mem_map.1 hs
  have h0 := errL_zero h2 q hq
  obtain ⟨p, hp, rfl⟩ := List.mem_map.1 hq
  exact cover_ok (parts_valid hp) h0

/-- What ids pick of a table. -/
def pickGo (t : List Span) : List Span → List Int → List Span × Int
  | acc, [] => (acc, 0)
  | acc, i :: l => bif decide (i < 0) then ([], 3) else bif decide (i ≥ (t.length : Int)) then ([], 3) else pickGo t (acc ++ [t.getD i.toNat Ty.span.dflt]) l
def spansS (d : Deck) (ids : List Int) : List Span × Int := bif (tableS d).2 != 0 then ([], (tableS d).2) else pickGo (tableS d).1 [] ids
theorem pick_ok {t : List Span} {Q : Span → Prop} (ht : ∀ s ∈ t, Q s) : ∀ {l : List Int} {acc : List Span}, (∀ s ∈ acc, Q s) → (pickGo t acc l).2 = 0 → (∀ s ∈ (pickGo t acc l).1, Q s) ∧ (pickGo t acc l).1.length = acc.length + l.length
  | [], acc, ha, _ => ⟨ha, rfl⟩
  | i :: l, acc, ha, h => by
    unfold pickGo at h ⊢
    by_cases h1 : i < 0
    · rw [decide_eq_true h1] at h; cases h
    rw [decide_eq_false h1, cond_false] at h ⊢
    by_cases h2 : i ≥ (t.length : Int)
    · rw [decide_eq_true h2] at h; cases h
    rw [decide_eq_false h2, cond_false] at h ⊢
    have hi : i.toNat < t.length := by omega
    obtain ⟨g1, g2⟩ := pick_ok ht (l := l) (acc := acc ++ [t.getD i.toNat Ty.span.dflt]) (fun s hs => by
      rcases List.mem_append.1 hs with e | e
      · exact ha s e
      · rw [getD_at' hi] at e
        rw [List.mem_singleton.1 e]
        exact ht _ (List.getElem_mem _)) h
    exact ⟨g1, by rw [g2]; simp; omega⟩
theorem pick_err {t : List Span} : ∀ {l : List Int} {acc : List Span}, (pickGo t acc l).2 ≠ 0 → pickGo t acc l = ([], 3)
  | [], acc, h => absurd rfl h
  | i :: l, acc, h => by
    unfold pickGo at h ⊢
    by_cases h1 : i < 0
    · rw [decide_eq_true h1]; rfl
    rw [decide_eq_false h1, cond_false] at h ⊢
    by_cases h2 : i ≥ (t.length : Int)
    · rw [decide_eq_true h2]; rfl
    rw [decide_eq_false h2, cond_false] at h ⊢
    exact pick_err h
theorem spans_ok {d : Deck} {ids : List Int} (h : (spansS d ids).2 = 0) : DeckOk d ∧ (∀ s ∈ (spansS d ids).1, SpanOk d s) ∧ (spansS d ids).1.length = ids.length := by
  unfold spansS at h ⊢
  cases h1 : (tableS d).2 != 0
  · rw [h1, cond_false] at h
    rw [cond_false]
    have h0 : (tableS d).2 = 0 := by simpa using h1
    obtain ⟨g1, g2⟩ := pick_ok (table_spans h0) (acc := []) (fun s hs => by cases hs) h
    exact ⟨(table_ok h0).1, g1, by simpa using g2⟩
  · rw [h1, cond_true] at h
    have h : (tableS d).2 = 0 := h
    rw [h] at h1; cases h1
theorem spans_err {d : Deck} {ids : List Int} (h : (spansS d ids).2 ≠ 0) : (spansS d ids).1 = [] := by
  unfold spansS at h ⊢
  cases h1 : (tableS d).2 != 0
  · rw [h1, cond_false] at h
    rw [cond_false, pick_err h]
  · rfl

def needsR (d : Deck) (ids : List Int) : List Int × Int := bif (spansS d ids).2 != 0 then ([], (spansS d ids).2) else (needsS d (spansS d ids).1, 0)
def two (l : List Span) : Span × Span := (l.getD 0 Ty.span.dflt, l.getD 1 Ty.span.dflt)
def clashS (a b : Span) : Bool := bif decide (a.lo ≤ b.hi) then decide (b.lo ≤ a.hi) else false
def wayS (a b : Span) : Span := ⟨bif decide (b.lo < a.lo) then b.lo else a.lo, bif decide (b.hi > a.hi) then b.hi else a.hi⟩
def clashR (d : Deck) (a b : Int) : Bool × Int := bif (spansS d [a, b]).2 != 0 then (false, (spansS d [a, b]).2) else (clashS (two (spansS d [a, b]).1).1 (two (spansS d [a, b]).1).2, 0)
def pathR (d : Deck) (a b : Int) : List Int × Int := bif (spansS d [a, b]).2 != 0 then ([], (spansS d [a, b]).2) else (lanesS d (wayS (two (spansS d [a, b]).1).1 (two (spansS d [a, b]).1).2), 0)
end Go.Proofs.Zn

/- The deck: contracts. (Own work.) -/
namespace Go.Proofs.Zn
open Go Go.VL

theorem c141 {b : Go.VL.Box} (h : boxOk b = true) : Pure Tryd.prog 69 [⟨.box, b⟩] [.int] (b.rows * b.cols) :=
  ofT Tryd.func69 (t141 b) (by kernel_rfl) (by kernel_rfl) fun _ => ⟨⟨trivial, trivial⟩, by have := box_size h; exact wrap_i64 (by omega) (by omega)⟩
theorem c126 (b : Go.VL.Box) : Pure Tryd.prog 55 [⟨.box, b⟩] [.bool] (boxOk b) :=
  ofT Tryd.func55 (t126 b) (by kernel_rfl) (by kernel_rfl) fun _ =>
    sat_if (fun _ => sat_if (fun _ => sat_if (fun _ => ⟨⟨trivial, trivial⟩, rfl⟩) (fun _ => ⟨⟨trivial, trivial⟩, rfl⟩)) (fun _ => ⟨⟨trivial, trivial⟩, rfl⟩)) (fun _ => ⟨⟨trivial, trivial⟩, rfl⟩)
theorem loop128 {l : List Go.VL.Box} (hl : l.length ≤ 1000) (hb : ∀ b ∈ l, boxOk b = true) {r : Int} {A : List Item → AS → Prop} (hA : Closed Tryd.prog codes sigs Tryd.f57 (pureFin [.int]) (fun y => y = r) 0 A)
    (i : Nat) (hi : i ≤ l.length) (n : Int) (hn : 0 ≤ n ∧ n ≤ 1536 * (i : Int)) (h : n + sumI (l.drop i) = r) : A (hd Tryd.f57 0) (L128 l n i) := by
  refine hA.go (t128a l n i) (sat_bif (fun h1 => ?_) (fun h1 => ?_))
  · have h1 := of_decide_eq_true h1
    have hil : i < l.length := by omega
    have hbi := hb l[i] (List.getElem_mem _)
    have hs := box_size hbi
    rw [getD_int hil]
    rw [List.drop_eq_getElem_cons hil, sumI] at h
    refine ⟨⟨⟨by omega, by omega⟩, trivial⟩, ⟨T3', trivial⟩, _, c141 hbi, ?_⟩
    show A (hd Tryd.f57 0) (L128 l (IntKind.i64.wrap (n + l[i].rows * l[i].cols)) (IntKind.i64.wrap ((i : Int) + 1)))
    rw [wrap_succ (by omega), wrap_i64 (by omega) (by omega)]
    exact loop128 hl hb hA (i + 1) (by omega) _ ⟨by omega, by omega⟩ (by omega)
  · have h1 := of_decide_eq_false h1
    refine ⟨⟨trivial, trivial⟩, ?_⟩
    rw [List.drop_eq_nil_of_le (by omega)] at h
    have h : n = r := by simpa [sumI] using h
    exact h
termination_by l.length - i
theorem c128 {l : List Go.VL.Box} (hl : l.length ≤ 1000) (hb : ∀ b ∈ l, boxOk b = true) : Pure Tryd.prog 57 [⟨.sl .box, l⟩] [.int] (sumI l) :=
  Pure.of_closed (C := codes) (S := sigs) mixed Tryd.func57 (by kernel_rfl) (Nat.le_of_ble_eq_true (by kernel_rfl)) fun A hA => hA.go (t128 l)
    (loop128 hl hb hA 0 (by omega) 0 ⟨by omega, by omega⟩ (by simp))

theorem loop117 {d : Deck} (hl : d.plates.length ≤ 1000) {r : List Go.VL.Box} {A : List Item → AS → Prop} (hA : Closed Tryd.prog codes sigs Tryd.f53 (pureFin [.sl .box]) (fun y => y = r) 0 A)
    (i : Nat) (hi : i ≤ d.plates.length) (out : List Go.VL.Box) (ho : out.length = i) (h : out ++ (d.plates.drop i).map pbox = r) : A (hd Tryd.f53 0) (L117 d out i) := by
  refine hA.go (t117a d out i) (sat_bif (fun h1 => ?_) (fun h1 => ?_))
  · have h1 := of_decide_eq_true h1
    have hil : i < d.plates.length := by omega
    rw [getD_int hil]
    rw [List.drop_eq_getElem_cons hil, List.map_cons] at h
    refine ⟨⟨⟨by omega, by omega⟩, trivial⟩, ⟨T3', trivial⟩, ⟨by simp only [List.length_cons, List.length_nil]; omega, trivial⟩, ?_⟩
    rw [wrap_succ (by omega)]
    exact loop117 hl hA (i + 1) (by omega) (out ++ [pbox d.plates[i]]) (by simp [ho]) (by rw [← h]; simp)
  · have h1 := of_decide_eq_false h1
    refine ⟨⟨trivial, trivial⟩, ?_⟩
    rw [List.drop_eq_nil_of_le (by omega)] at h
    have h : out = r := by simpa using h
    exact h
termination_by d.plates.length - i
theorem c117 {d : Deck} (hl : d.plates.length ≤ 1000) : Pure Tryd.prog 53 [⟨.deck, d⟩] [.sl .box] (boxesP d) :=
  Pure.of_closed (C := codes) (S := sigs) mixed Tryd.func53 (by kernel_rfl) (Nat.le_of_ble_eq_true (by kernel_rfl)) fun A hA => hA.go (t117 d)
    (hA.row 3 107 .box (s' := L117 d [] 0) (by kernel_rfl) (by kernel_rfl) (loop117 hl hA 0 (by omega) [] rfl rfl))
theorem loop118 {d : Deck} (hl : d.racks.length ≤ 1000) {r : List Go.VL.Box} {A : List Item → AS → Prop} (hA : Closed Tryd.prog codes sigs Tryd.f54 (pureFin [.sl .box]) (fun y => y = r) 0 A)
    (i : Nat) (hi : i ≤ d.racks.length) (out : List Go.VL.Box) (ho : out.length = i) (h : out ++ (d.racks.drop i).map rbox = r) : A (hd Tryd.f54 0) (L118 d out i) := by
  refine hA.go (t118a d out i) (sat_bif (fun h1 => ?_) (fun h1 => ?_))
  · have h1 := of_decide_eq_true h1
    have hil : i < d.racks.length := by omega
    rw [getD_int hil]
    rw [List.drop_eq_getElem_cons hil, List.map_cons] at h
    refine ⟨⟨⟨by omega, by omega⟩, trivial⟩, ⟨T3', trivial⟩, ⟨by simp only [List.length_cons, List.length_nil]; omega, trivial⟩, ?_⟩
    rw [wrap_succ (by omega)]
    exact loop118 hl hA (i + 1) (by omega) (out ++ [rbox d.racks[i]]) (by simp [ho]) (by rw [← h]; simp)
  · have h1 := of_decide_eq_false h1
    refine ⟨⟨trivial, trivial⟩, ?_⟩
    rw [List.drop_eq_nil_of_le (by omega)] at h
    have h : out = r := by simpa using h
    exact h
termination_by d.racks.length - i
theorem c118 {d : Deck} (hl : d.racks.length ≤ 1000) : Pure Tryd.prog 54 [⟨.deck, d⟩] [.sl .box] (boxesR d) :=
  Pure.of_closed (C := codes) (S := sigs) mixed Tryd.func54 (by kernel_rfl) (Nat.le_of_ble_eq_true (by kernel_rfl)) fun A hA => hA.go (t118 d)
    (hA.row 3 107 .box (s' := L118 d [] 0) (by kernel_rfl) (by kernel_rfl) (loop118 hl hA 0 (by omega) [] rfl rfl))

/-! ### what a plate holds -/
theorem box_wrap {p : Plate} (h : boxOk (pbox p) = true) : IntKind.i64.wrap (p.rows * p.cols) = p.rows * p.cols := by
  have : 1 ≤ p.rows * p.cols ∧ p.rows * p.cols ≤ 1536 := box_size h
  exact wrap_i64 (by omega) (by omega)
theorem loop127 {p : Plate} (hl : (p.start.length : Int) ≤ 1536) {r : Bool} {A : List Item → AS → Prop} (hA : Closed Tryd.prog codes sigs Tryd.f56 (pureFin [.bool]) (fun y => y = r) 0 A)
    (i : Nat) (hi : i ≤ p.start.length) (h : startOk p.cap (p.start.drop i) = r) : A (hd Tryd.f56 0) (L127 p i) := by
  refine hA.go (t127a p i) (sat_bif (fun h1 => ?_) (fun h1 => ?_))
  · have h1 := of_decide_eq_true h1
    have hil : i < p.start.length := by omega
    rw [getD_int hil]
    rw [List.drop_eq_getElem_cons hil, startOk] at h
    refine ⟨⟨⟨by omega, by omega⟩, trivial⟩, sat_bif (fun h2 => ?_) (fun h2 => sat_bif (fun h3 => ?_) (fun h3 => ?_))⟩
    · rw [h2] at h; exact ⟨⟨trivial, trivial⟩, h⟩
    · rw [h2, h3] at h; exact ⟨⟨trivial, trivial⟩, h⟩
    · rw [h2, h3] at h
      rw [wrap_succ (by omega)]
      exact loop127 hl hA (i + 1) (by omega) h
  · have h1 := of_decide_eq_false h1
    refine ⟨⟨trivial, trivial⟩, ?_⟩
    rw [List.drop_eq_nil_of_le (by omega)] at h
    exact h
termination_by p.start.length - i
theorem c127 {p : Plate} (h : boxOk (pbox p) = true) : Pure Tryd.prog 56 [⟨.plate, p⟩] [.bool] (holdsS p) :=
  Pure.of_closed (C := codes) (S := sigs) mixed Tryd.func56 (by kernel_rfl) (Nat.le_of_ble_eq_true (by kernel_rfl)) fun A hA => hA.go (t127 p) (by
    have hs : 1 ≤ p.rows * p.cols ∧ p.rows * p.cols ≤ 1536 := box_size h
    unfold holdsS
    rw [box_wrap h]
    refine sat_bif (fun h1 => ?_) (fun h1 => sat_bif (fun h2 => ?_) (fun h2 => sat_bif (fun h3 => ?_) (fun h3 => ?_)))
    · rw [h1]; exact ⟨⟨trivial, trivial⟩, rfl⟩
    · rw [h1, h2]; exact ⟨⟨trivial, trivial⟩, rfl⟩
    · rw [h1, h2, h3]; exact ⟨⟨trivial, trivial⟩, rfl⟩
    · have := of_decide_eq_false h3
      exact loop127 (by omega) hA 0 (by omega) (by unfold holdsS; rw [h1, h2, h3]; rfl))
end Go.Proofs.Zn

namespace Go.Proofs.Zn
open Go Go.VL

def L92b (x y : List Go.VL.Box) (i : Int) : AS := mkS 78 [(4, .d (.sl .box x)), (5, .d (.sl .box y)), (60, .d (.sl .box y)), (61, i64 y.length), (62, i64 i)] [] 0
def L89b (d : Deck) (w t i : Int) : AS := mkS 103 [(1, .ptr 0 0), (4, i64 w), (5, i64 t), (7, i64 i)] [(0, .box (deckC d))] 1
def L124b (k u r c : Int) (out : List Part) (i j : Int) : AS := mkS 31 [(0, i64 k), (1, i64 u), (2, i64 r), (3, i64 c), (9, .own 0 .part), (10, i64 i), (11, i64 j)] [(0, .row 86 .part out)] 1
def L90b (d : Deck) (out : List Part) (i : Int) : AS := mkS 71 [(1, .ptr 0 0), (3, .own 1 .part), (5, i64 i)] [(0, .box (deckC d)), (1, .row 86 .part out)] 2
def L90c (d : Deck) (out : List Part) (i : Int) : AS := mkS 71 [(1, .ptr 0 0), (3, .own 1 .part), (6, i64 i)] [(0, .box (deckC d)), (1, .row 86 .part out)] 2
def L148 (l : List Part) (a b c e i : Int) : AS := mkS 31 [(5, .ptr 0 0), (6, .d (.sl .part l)), (7, i64 i)] [(0, .box [i64 a, i64 b, i64 c, i64 e])] 1


theorem t92b (x y : List Go.VL.Box) (i : Int) : @Eq (Out (TyTup [.int])) (aexec Tryd.prog codes sigs Tryd.f38 (pureFin [.int]) 0 noCut 200 true (hd Tryd.f38 1) (L92b x y i)) (bif decide (i < (y.length : Int)) then .need (((0 : Int) ≤ i ∧ i < (y.length : Int)) ∧ True) (.need ((True ∧ True ∧ True) ∧ True) (.callP 55 [Sigma.mk .box (y.getD i.toNat Ty.box.dflt)] [.bool] fun (x_1 : Bool) => bif !x_1 then .need (True ∧ True) (.ret (82 : Int)) else .stop (hd Tryd.f38 1) (mkS 78 [(4, .d (.sl .box x)), (5, .d (.sl .box y)), (60, .d (.sl .box y)), (61, .d (.v (.int .i64 (y.length : Int)))), (62, .d (.v (.int .i64 (IntKind.wrap .i64 (i + (1 : Int))))))] [] 0))) else .need ((True ∧ True) ∧ True) (.callP 57 [Sigma.mk (.sl .box) x] [.int] fun (x : Int) => bif decide (x > (384 : Int)) then .need (True ∧ True) (.ret (2 : Int)) else .need ((True ∧ True) ∧ True) (.callP 57 [Sigma.mk (.sl .box) y] [.int] fun (x : Int) => bif decide (x > (384 : Int)) then .need (True ∧ True) (.ret (2 : Int)) else .need (True ∧ True) (.ret (0 : Int))))) := by kernel_rfl

end Go.Proofs.Zn

/- The deck's ids: contracts. (Own work.) -/
namespace Go.Proofs.Zn
open Go Go.VL

theorem lenP (d : Deck) : (boxesP d).length = d.plates.length := by simp [boxesP]
theorem lenR (d : Deck) : (boxesR d).length = d.racks.length := by simp [boxesR]
def endS (d : Deck) : Int := bif decide (sumI (boxesP d) > 384) then 2 else bif decide (sumI (boxesR d) > 384) then 2 else 0
theorem deck_eq (d : Deck) : deckS d = bif checkS d.borders != 0 then checkS d.borders else bif decide (d.arms < 1) then 80 else bif decide (d.arms > 8) then 80 else
    bif decide ((d.plates.length : Int) > 4) then 2 else bif decide ((d.racks.length : Int) > 4) then 2 else bif !d.plates.all plateOk then 81 else bif !(boxesR d).all boxOk then 82 else endS d := rfl

theorem loop92b {d : Deck} (hp : d.plates.length ≤ 4) (hr : d.racks.length ≤ 4) (hbp : ∀ b ∈ boxesP d, boxOk b = true) {r : Int} {A : List Item → AS → Prop}
    (hA : Closed Tryd.prog codes sigs Tryd.f38 (pureFin [.int]) (fun y => y = r) 0 A) (i : Nat) (hi : i ≤ (boxesR d).length) (hpre : ∀ b ∈ (boxesR d).take i, boxOk b = true)
    (h : (bif !((boxesR d).drop i).all boxOk then 82 else endS d) = r) : A (hd Tryd.f38 1) (L92b (boxesP d) (boxesR d) i) := by
  have e1 := lenP d
  have e2 := lenR d
  refine hA.go (t92b _ _ i) (sat_bif (fun h1 => ?_) (fun h1 => ?_))
  · have h1 := of_decide_eq_true h1
    have hil : i < (boxesR d).length := by omega
    rw [getD_int hil]
    rw [List.drop_eq_getElem_cons hil, List.all_cons] at h
    refine ⟨⟨⟨by omega, by omega⟩, trivial⟩, ⟨T3', trivial⟩, _, c126 _, sat_bif (fun h2 => ?_) (fun h2 => ?_)⟩
    · rw [nt h2] at h; exact ⟨⟨trivial, trivial⟩, h⟩
    · have h2 := nf h2
      rw [h2, Bool.true_and] at h
      rw [wrap_succ (by omega)]
      refine loop92b hp hr hbp hA (i + 1) (by omega) (fun b hb => ?_) h
      rw [List.take_succ_eq_append_getElem hil] at hb
      rcases List.mem_append.1 hb with e | e
      · exact hpre b e
      · rw [List.mem_singleton.1 e]; exact h2
  · have h1 := of_decide_eq_false h1
    rw [List.drop_eq_nil_of_le (by omega)] at h
    have h : endS d = r := h
    have hbr : ∀ b ∈ boxesR d, boxOk b = true := fun b hb => hpre b (by rw [List.take_of_length_le (by omega)]; exact hb)
    unfold endS at h
    refine ⟨⟨⟨trivial, trivial⟩, trivial⟩, _, c128 (by omega) hbp, sat_bif (fun h3 => ?_) (fun h3 => ⟨⟨⟨trivial, trivial⟩, trivial⟩, _, c128 (by omega) hbr, sat_bif (fun h4 => ?_) (fun h4 => ?_)⟩)⟩
    · rw [h3] at h; exact ⟨⟨trivial, trivial⟩, h⟩
    · rw [h3, h4] at h; exact ⟨⟨trivial, trivial⟩, h⟩
    · rw [h3, h4] at h; exact ⟨⟨trivial, trivial⟩, h⟩
termination_by (boxesR d).length - i
theorem loop92a {d : Deck} (hp : d.plates.length ≤ 4) (hr : d.racks.length ≤ 4) {r : Int} {A : List Item → AS → Prop}
    (hA : Closed Tryd.prog codes sigs Tryd.f38 (pureFin [.int]) (fun y => y = r) 0 A) (i : Nat) (hi : i ≤ d.plates.length) (hpre : ∀ p ∈ d.plates.take i, plateOk p = true)
    (h : (bif !(d.plates.drop i).all plateOk then 81 else bif !(boxesR d).all boxOk then 82 else endS d) = r) : A (hd Tryd.f38 0) (L92 d (boxesP d) (boxesR d) i) := by
  have e1 := lenP d
  have e2 := lenR d
  refine hA.go (t92a d _ _ i) (sat_bif (fun h1 => ?_) (fun h1 => ?_))
  · have h1 := of_decide_eq_true h1
    have hil : i < d.plates.length := by omega
    have hib : i < (boxesP d).length := by omega
    have eb : (boxesP d)[i] = pbox d.plates[i] := by simp [boxesP]
    rw [getD_int hil, getD_int hib, eb]
    rw [List.drop_eq_getElem_cons hil, List.all_cons] at h
    refine ⟨⟨⟨by omega, by omega⟩, trivial⟩, ⟨T3', trivial⟩, _, c126 _, sat_bif (fun h2 => ?_) (fun h2 => ?_)⟩
    · have h2 := nt h2
      have : plateOk d.plates[i] = false := by unfold plateOk; rw [h2]; rfl
      rw [this] at h; exact ⟨⟨trivial, trivial⟩, h⟩
    · have h2 := nf h2
      have e3 : plateOk d.plates[i] = holdsS d.plates[i] := by unfold plateOk; rw [h2]; rfl
      refine ⟨⟨⟨by omega, by omega⟩, trivial⟩, ⟨⟨trivial, trivial, trivial, trivial, trivial, trivial, trivial, trivial⟩, trivial⟩, _, c127 h2, sat_bif (fun h3 => ?_) (fun h3 => ?_)⟩
      · rw [e3, nt h3] at h; exact ⟨⟨trivial, trivial⟩, h⟩
      · have h3 := nf h3
        rw [e3, h3, Bool.true_and] at h
        rw [wrap_succ (by omega)]
        refine loop92a hp hr hA (i + 1) (by omega) (fun b hb => ?_) h
        rw [List.take_succ_eq_append_getElem hil] at hb
        rcases List.mem_append.1 hb with e | e
        · exact hpre b e
        · rw [List.mem_singleton.1 e, e3]; exact h3
  · have h1 := of_decide_eq_false h1
    rw [List.drop_eq_nil_of_le (by omega)] at h
    refine loop92b hp hr (fun b hb => ?_) hA 0 (by omega) (fun b hb => by simp at hb) h
    obtain ⟨p, hp', rfl⟩ := List.mem_map.1 hb
    have := hpre p (by rw [List.take_of_length_le (by omega)]; exact hp')
    unfold plateOk at this
    cases hq : boxOk (pbox p)
    · rw [hq] at this; cases this
    · rfl
termination_by d.plates.length - i
theorem c92 (d : Deck) : Pure Tryd.prog 38 [⟨.deck, d⟩] [.int] (deckS d) :=
  Pure.of_closed (C := codes) (S := sigs) mixed Tryd.func38 (by kernel_rfl) (Nat.le_of_ble_eq_true (by kernel_rfl)) fun A hA => hA.go (t92 d) (by
    have hr := deck_eq d
    generalize deckS d = r at hr hA ⊢
    refine ⟨⟨⟨trivial, trivial⟩, trivial⟩, _, c125 _, sat_bif (fun h1 => ?_) (fun h1 => sat_bif (fun h2 => ?_) (fun h2 => sat_bif (fun h3 => ?_) (fun h3 => sat_bif (fun h4 => ?_) (fun h4 => sat_bif (fun h5 => ?_) (fun h5 => ?_)))))⟩
    · rw [h1] at hr; exact ⟨⟨trivial, trivial⟩, hr.symm⟩
    · rw [h1, h2] at hr; exact ⟨⟨trivial, trivial⟩, hr.symm⟩
    · rw [h1, h2, h3] at hr; exact ⟨⟨trivial, trivial⟩, hr.symm⟩
    · rw [h1, h2, h3, h4] at hr; exact ⟨⟨trivial, trivial⟩, hr.symm⟩
    · rw [h1, h2, h3, h4, h5] at hr; exact ⟨⟨trivial, trivial⟩, hr.symm⟩
    · rw [h1, h2, h3, h4, h5] at hr
      have h4 := of_decide_eq_false h4
      have h5 := of_decide_eq_false h5
      refine ⟨⟨⟨trivial, trivial, trivial, trivial, trivial⟩, trivial⟩, _, c117 (by omega), ⟨⟨trivial, trivial, trivial, trivial, trivial⟩, trivial⟩, _, c118 (by omega), ?_⟩
      exact loop92a (by omega) (by omega) hA 0 (by omega) (fun p hp => by simp at hp) hr.symm)

abbrev T5' : True ∧ True ∧ True ∧ True ∧ True := ⟨trivial, trivial, trivial, trivial, trivial⟩
abbrev T2' : True ∧ True := ⟨trivial, trivial⟩
/-- How many there are of each kind. -/
def countS (d : Deck) : Int × Int × Int := bif deckS d != 0 then (0, 0, 0) else (sumI (boxesP d), sumI (boxesR d), (d.borders.length : Int) - 1)
theorem c115 (d : Deck) : Pure Tryd.prog 61 [⟨.deck, d⟩] [.int, .int, .int] (countS d) :=
  ofT Tryd.func61 (t115 d) (by kernel_rfl) (by kernel_rfl) fun A => by
    unfold countS
    refine ⟨⟨T5', trivial⟩, _, c92 d, sat_bif (fun h => ?_) (fun h => ?_)⟩
    · rw [h]; exact ⟨⟨T2', T2', T2'⟩, rfl⟩
    · rw [h]
      have hd : DeckOk d := deck_ok (by simpa using h)
      have e1 := lenP d
      have e2 := lenR d
      have h3 := hd.lanes
      have h4 := hd.plates
      have h5 := hd.racks
      refine ⟨⟨T5', trivial⟩, _, c117 (by omega), ⟨T2', trivial⟩, _, c128 (by omega) hd.boxP, ⟨T5', trivial⟩, _, c118 (by omega), ⟨T2', trivial⟩, _, c128 (by omega) hd.boxR, ⟨T2', T2', T2'⟩, ?_⟩
      rw [wrap_i64 (by omega) (by omega)]; rfl

theorem loop116 {l : List Go.VL.Box} {k : Int} (hl : l.length ≤ 1000) (hb : ∀ b ∈ l, boxOk b = true) {r : Part} {A : List Item → AS → Prop}
    (hA : Closed Tryd.prog codes sigs Tryd.f62 (pureFin [.part]) (fun y => y = r) 0 A) (i : Nat) (hi : i ≤ l.length) (n : Int) (h0 : 0 ≤ n) (h9 : n ≤ 1000000)
    (h : placeGo k i (l.drop i) n = r) : A (hd Tryd.f62 0) (L116 l k n i) := by
  refine hA.go (t116a l k n i) (sat_bif (fun h1 => ?_) (fun h1 => ?_))
  · have h1 := of_decide_eq_true h1
    have hil : i < l.length := by omega
    have hbi := hb l[i] (List.getElem_mem _)
    have hs := box_size hbi
    obtain ⟨b1, b2, b3, b4⟩ := boxOk_iff.1 hbi
    rw [getD_int hil]
    rw [List.drop_eq_getElem_cons hil, placeGo] at h
    refine ⟨⟨⟨by omega, by omega⟩, trivial⟩, ⟨T3', trivial⟩, _, c141 hbi, sat_bif (fun h2 => ?_) (fun h2 => ?_)⟩
    · rw [h2] at h
      have hq : 0 ≤ n / l[i].cols := Int.ediv_nonneg h0 (by omega)
      have hq2 : n / l[i].cols ≤ n := Int.ediv_le_self _ h0
      refine ⟨by omega, by omega, T5', ?_⟩
      rw [Int.tdiv_eq_ediv_of_nonneg h0, Int.tmod_eq_emod_of_nonneg h0, wrap_i64 (by omega) (by omega)]
      exact h
    · rw [h2, cond_false] at h
      have h2 := of_decide_eq_false h2
      refine ⟨⟨T3', trivial⟩, _, c141 hbi, ?_⟩
      show A (hd Tryd.f62 0) (L116 l k (IntKind.i64.wrap (n - l[i].rows * l[i].cols)) (IntKind.i64.wrap ((i : Int) + 1)))
      rw [wrap_succ (by omega), wrap_i64 (by omega) (by omega)]
      exact loop116 hl hb hA (i + 1) (by omega) _ (by omega) (by omega) h
  · have h1 := of_decide_eq_false h1
    refine ⟨T5', ?_⟩
    rw [List.drop_eq_nil_of_le (by omega)] at h
    exact h
termination_by l.length - i
theorem c116 {l : List Go.VL.Box} {k n : Int} (hl : l.length ≤ 1000) (hb : ∀ b ∈ l, boxOk b = true) (h0 : 0 ≤ n) (h9 : n ≤ 1000000) : Pure Tryd.prog 62 [⟨.sl .box, l⟩, ⟨.int, k⟩, ⟨.int, n⟩] [.part] (placeGo k 0 l n) :=
  Pure.of_closed (C := codes) (S := sigs) mixed Tryd.func62 (by kernel_rfl) (Nat.le_of_ble_eq_true (by kernel_rfl)) fun A hA => hA.go (t116 l k n)
    (loop116 hl hb hA 0 (by omega) n h0 h9 rfl)

theorem c84 (d : Deck) (i : Int) : Pure Tryd.prog 43 [⟨.deck, d⟩, ⟨.int, i⟩] [.part, .int] (partS d i) :=
  ofT Tryd.func43 (t84 d i) (by kernel_rfl) (by kernel_rfl) fun A => by
    have hr : partS d i = partS d i := rfl
    generalize hp : partS d i = r at hr ⊢
    unfold partS at hp
    refine ⟨⟨T5', trivial⟩, _, c92 d, sat_bif (fun h => ?_) (fun h => ?_)⟩
    · rw [h] at hp; exact ⟨⟨T5', T2'⟩, hp⟩
    · rw [h, cond_false] at hp
      have hd : DeckOk d := deck_ok (by simpa using h)
      have hc : countS d = (sumI (boxesP d), sumI (boxesR d), (d.borders.length : Int) - 1) := by unfold countS; rw [h]; rfl
      have e1 := lenP d
      have e2 := lenR d
      have hl := hd.lanes
      have hw := hd.wells
      have ht := hd.tips
      have h4 := hd.plates
      have h5 := hd.racks
      have hn := parts_len hd
      refine ⟨⟨T5', trivial⟩, _, (c115 d).eq hc, sat_bif (fun h1 => ?_) (fun h1 => ?_)⟩
      · rw [h1] at hp; exact ⟨⟨T5', T2'⟩, hp⟩
      · rw [h1, cond_false] at hp
        have h1 := of_decide_eq_false h1
        have ew : IntKind.i64.wrap (IntKind.i64.wrap (sumI (boxesP d) + sumI (boxesR d)) + ((d.borders.length : Int) - 1)) = ((partsS d).length : Int) := by
          rw [wrap_i64 (n := sumI (boxesP d) + sumI (boxesR d)) (by omega) (by omega), wrap_i64 (by omega) (by omega)]; omega
        simp only
        rw [ew]
        refine sat_bif (fun h2 => ?_) (fun h2 => ?_)
        · rw [h2] at hp; exact ⟨⟨T5', T2'⟩, hp⟩
        · rw [h2, cond_false] at hp
          have h2 := of_decide_eq_false h2
          have hg := parts_get hd (i := i) (by omega) (by omega)
          rw [List.getD_eq_getElem?_getD, hg, Option.getD_some] at hp
          rw [wrap_i64 (n := sumI (boxesP d) + sumI (boxesR d)) (by omega) (by omega)]
          refine sat_bif (fun h6 => ?_) (fun h6 => sat_bif (fun h7 => ?_) (fun h7 => ?_))
          · rw [h6, cond_true] at hp
            have h6 := of_decide_eq_true h6
            exact ⟨⟨T5', trivial⟩, _, c117 (by omega), ⟨T2', T2', T2', trivial⟩, _, c116 (by omega) hd.boxP (by omega) (by omega), ⟨T5', T2'⟩, hp⟩
          · rw [h6, h7, cond_false, cond_true] at hp
            have h6 := of_decide_eq_false h6
            have h7 := of_decide_eq_true h7
            rw [wrap_i64 (by omega) (by omega)]
            exact ⟨⟨T5', trivial⟩, _, c118 (by omega), ⟨T2', T2', T2', trivial⟩, _, c116 (by omega) hd.boxR (by omega) (by omega), ⟨T5', T2'⟩, hp⟩
          · rw [h6, h7, cond_false, cond_false] at hp
            have h6 := of_decide_eq_false h6
            have h7 := of_decide_eq_false h7
            rw [wrap_i64 (n := i - sumI (boxesP d)) (by omega) (by omega), wrap_i64 (by omega) (by omega)]
            exact ⟨⟨T5', T2'⟩, hp⟩
end Go.Proofs.Zn

/- The deck by definition: contracts. (Own work.) -/
namespace Go.Proofs.Zn
open Go Go.VL

/-! ### places -/
def plN (k u : Int) (c n : Nat) : List Part := (List.range n).map fun m : Nat => ⟨k, u, ((m / c : Nat) : Int), ((m % c : Nat) : Int)⟩
theorem plN_succ (k u : Int) {c i j : Nat} (hj : j < c) : plN k u c (i * c + j + 1) = plN k u c (i * c + j) ++ [⟨k, u, (i : Int), (j : Int)⟩] := by
  unfold plN
  rw [List.range_succ, List.map_append]
  congr 1
  have h1 : (i * c + j) / c = i := by rw [Nat.mul_comm, Nat.mul_add_div (by omega), Nat.div_eq_of_lt hj, Nat.add_zero]
  have h2 : (i * c + j) % c = j := by rw [Nat.mul_comm, Nat.mul_add_mod, Nat.mod_eq_of_lt hj]
  simp only [List.map_cons, List.map_nil, h1, h2]
theorem plN_len (k u : Int) (c n : Nat) : (plN k u c n).length = n := by simp [plN]
end Go.Proofs.Zn

/- The parts by definition: contracts. (Own work.) -/
namespace Go.Proofs.Zn
open Go Go.VL

theorem place_len {k u : Int} {b : Go.VL.Box} (h : boxOk b = true) : (placesS k u b.rows b.cols).length ≤ 1536 := by
  have := box_size h
  rw [places_len]; omega
/-! ### is it too large to be looked at -/
def startsL : List Plate → Bool
  | [] => false
  | p :: l => bif decide ((p.start.length : Int) > 500) then true else startsL l
def largeS (d : Deck) : Bool := bif decide ((d.borders.length : Int) > 60) then true else bif decide ((d.plates.length : Int) > 8) then true else bif decide ((d.racks.length : Int) > 8) then true else startsL d.plates
theorem loop37 {d : Deck} (hl : d.plates.length ≤ 8) {r : Bool} {A : List Item → AS → Prop} (hA : Closed Tryd.prog codes sigs Tryd.f10 (pureFin [.bool]) (fun y => y = r) 0 A)
    (i : Nat) (hi : i ≤ d.plates.length) (h : startsL (d.plates.drop i) = r) : A (hd Tryd.f10 0) (L37 d i) := by
  refine hA.go (t37a d i) (sat_bif (fun h1 => ?_) (fun h1 => ?_))
  · have h1 := of_decide_eq_true h1
    have hil : i < d.plates.length := by omega
    rw [getD_int hil]
    rw [List.drop_eq_getElem_cons hil, startsL] at h
    refine ⟨⟨⟨by omega, by omega⟩, trivial⟩, sat_bif (fun h2 => ?_) (fun h2 => ?_)⟩
    · rw [h2] at h; exact ⟨⟨trivial, trivial⟩, h⟩
    · rw [h2] at h
      rw [wrap_succ (by omega)]
      exact loop37 hl hA (i + 1) (by omega) h
  · have h1 := of_decide_eq_false h1
    rw [List.drop_eq_nil_of_le (by omega)] at h
    exact ⟨⟨trivial, trivial⟩, h⟩
termination_by d.plates.length - i
theorem c37 (d : Deck) : Pure Tryd.prog 10 [⟨.deck, d⟩] [.bool] (largeS d) :=
  Pure.of_closed (C := codes) (S := sigs) mixed Tryd.func10 (by kernel_rfl) (Nat.le_of_ble_eq_true (by kernel_rfl)) fun A hA => hA.go (t37 d) (by
    generalize hr : largeS d = r at hA ⊢
    unfold largeS at hr
    refine sat_bif (fun h1 => ?_) (fun h1 => sat_bif (fun h2 => ?_) (fun h2 => sat_bif (fun h3 => ?_) (fun h3 => ?_)))
    · rw [h1] at hr; exact ⟨⟨trivial, trivial⟩, hr⟩
    · rw [h1, h2] at hr; exact ⟨⟨trivial, trivial⟩, hr⟩
    · rw [h1, h2, h3] at hr; exact ⟨⟨trivial, trivial⟩, hr⟩
    · rw [h1, h2, h3] at hr
      have h2 := of_decide_eq_false h2
      exact loop37 (by omega) hA 0 (by omega) hr)
end Go.Proofs.Zn

/- How many parts there are by definition; spans of parts: contracts. (Own work.) -/
namespace Go.Proofs.Zn
open Go Go.VL

def cntK (k : Int) : List Part → Int
  | [] => 0
  | p :: l => (bif p.kind == k then 1 else 0) + cntK k l
theorem cnt_app (k : Int) : ∀ (l m : List Part), cntK k (l ++ m) = cntK k l + cntK k m
  | [], m => by simp [cntK]
  | p :: l, m => by simp only [List.cons_append, cntK, cnt_app k l m]; omega
theorem cnt_all {k : Int} : ∀ {l : List Part}, (∀ p ∈ l, p.kind = k) → cntK k l = (l.length : Int)
  | [], _ => rfl
  | p :: l, h => by
    have h1 : (p.kind == k) = true := by simpa using h p (by simp)
    simp only [cntK, h1, cond_true, List.length_cons, cnt_all (l := l) fun q hq => h q (by simp [hq])]; omega
theorem cnt_none {k : Int} : ∀ {l : List Part}, (∀ p ∈ l, p.kind ≠ k) → cntK k l = 0
  | [], _ => rfl
  | p :: l, h => by
    have h1 : (p.kind == k) = false := by simpa using h p (by simp)
    simp only [cntK, h1, cond_false, cnt_none (l := l) fun q hq => h q (by simp [hq])]; omega
theorem cnt_parts {d : Deck} (h : DeckOk d) : cntK 1 (partsS d) = sumI (boxesP d) ∧ cntK 2 (partsS d) = sumI (boxesR d) ∧ cntK 3 (partsS d) = (d.borders.length : Int) - 1 := by
  have l1 := units_len 1 (boxesP d) 0 h.boxP
  have l2 := units_len 2 (boxesR d) 0 h.boxR
  have l3 := h.lanes
  have k3 : ∀ p ∈ lanesL (d.borders.length - 1), p.kind = 3 := fun p hp => by
    obtain ⟨n, _, rfl⟩ := List.mem_map.1 hp
    rfl
  unfold partsS
  refine ⟨?_, ?_, ?_⟩
  · rw [cnt_app, cnt_app, cnt_all fun p hp => (units_mem hp).1, cnt_none fun p hp => by rw [(units_mem hp).1]; decide, cnt_none fun p hp => by rw [k3 p hp]; decide]; omega
  · rw [cnt_app, cnt_app, cnt_none fun p hp => by rw [(units_mem hp).1]; decide, cnt_all fun p hp => (units_mem hp).1, cnt_none fun p hp => by rw [k3 p hp]; decide]; omega
  · rw [cnt_app, cnt_app, cnt_none fun p hp => by rw [(units_mem hp).1]; decide, cnt_none fun p hp => by rw [(units_mem hp).1]; decide, cnt_all k3]
    simp only [lanesL, List.length_map, List.length_range]; omega

theorem parts_few {d : Deck} (h : DeckOk d) : (partsS d).length ≤ 800 := by
  have := parts_len h
  have h1 := h.wells
  have h2 := h.tips
  have h3 := h.lanes
  omega
/-! ### the middle, and the lanes that are covered -/
theorem c88 (r : Row) (c : Int) : Pure Tryd.prog 60 [⟨.row, r⟩, ⟨.int, c⟩] [.flt] (midS r c) := ofT Tryd.func60 (t88 r c) (by kernel_rfl) (by kernel_rfl) fun _ => ⟨T2', rfl⟩
theorem c87 {d : Deck} {p : Part} (hv : ValidP d p) (h3 : p.kind ≠ 3) : Pure Tryd.prog 58 [⟨.deck, d⟩, ⟨.part, p⟩] [.row] (rowS d p) :=
  ofT Tryd.func58 (t87 d p) (by kernel_rfl) (by kernel_rfl) fun A => by
    unfold rowS
    refine sat_if (fun h => ?_) (fun h => ?_)
    · have hk : p.kind = 2 := by simpa using h
      rcases hv with ⟨h, _⟩ | ⟨_, h1, h2⟩ | ⟨h, _⟩
      · omega
      · exact ⟨⟨⟨h1, h2⟩, trivial⟩, ⟨trivial, trivial, trivial, trivial⟩, rfl⟩
      · omega
    · have hk : p.kind ≠ 2 := by simpa using h
      rcases hv with ⟨_, h1, h2⟩ | ⟨h, _⟩ | ⟨h, _⟩
      · exact ⟨⟨⟨h1, h2⟩, trivial⟩, ⟨trivial, trivial, trivial, trivial⟩, rfl⟩
      · omega
      · omega
theorem c85 {d : Deck} {p : Part} (hv : ValidP d p) : Pure Tryd.prog 40 [⟨.deck, d⟩, ⟨.part, p⟩] [.span, .int] (coverS d p) :=
  ofT Tryd.func40 (t85 d p) (by kernel_rfl) (by kernel_rfl) fun A => by
    unfold coverS
    refine sat_if (fun h => ⟨⟨T3', T2'⟩, rfl⟩) (fun h => ?_)
    have h3 : p.kind ≠ 3 := by simpa using h
    exact ⟨⟨T5', T5', trivial⟩, _, c87 hv h3, ⟨⟨trivial, trivial, trivial, trivial⟩, T2', trivial⟩, _, c88 _ _, ⟨T2', T2', T2', trivial⟩, _, c119 _ _ _, ⟨T3', T2'⟩, rfl⟩
def atS (d : Deck) (i : Int) : Fl × Int := bif (partS d i).2 != 0 then (some 0, (partS d i).2) else bif (partS d i).1.kind == 3 then (some 0, 1) else (midS (rowS d (partS d i).1) (partS d i).1.col, 0)
end Go.Proofs.Zn

namespace Go.Proofs.Zn
open Go Go.VL


theorem t47 (d : Deck) : @Eq (Out (TyTup [.int])) (aexec Tryd.prog codes sigs2 Tryd.f23 (pureFin [.int]) 0 noCut 300 false (bodyOf Tryd.f23) (startS Tryd.f23 [⟨.deck, d⟩])) (.need ((True ∧ True ∧ True ∧ True ∧ True) ∧ True) (.callP 38 [⟨.deck, d⟩] [.int] fun (x : Int) => bif x != (0 : Int) then .need (True ∧ True) (.ret x) else .stop (hd Tryd.f23 0) (mkS 45 [(1, .ptr 0 0), (3, .ptr 1 0), (4, .clo (.func 39) [] [.ptr 1 0, .ptr 0 0]), (16, .d (.sl .plate (Deck.plates d))), (17, .d (.v (.int .i64 (↑(List.length (Deck.plates d)) : Int)))), (18, .d (.v (.int .i64 (0 : Int))))] [(0, .box [.d (.sl .flt (Deck.borders d)), .d (.sl .plate (Deck.plates d)), .d (.sl .rack (Deck.racks d)), .d (.v (.int .i64 (Deck.arms d)))]), (1, .box [.d (.v (.int .i64 x))])] 2))) := by kernel_rfl

theorem t45 (d : Deck) : @Eq (Out (TyTup [.sl .span, .int])) (aexec Tryd.prog codes sigs2 Tryd.f63 (pureFin [.sl .span, .int]) 0 noCut 300 false (bodyOf Tryd.f63) (startS Tryd.f63 [⟨.deck, d⟩])) (.need ((True ∧ True ∧ True ∧ True ∧ True) ∧ True) (.callP 38 [⟨.deck, d⟩] [.int] fun (x : Int) => bif x != (0 : Int) then .need ((True ∧ True) ∧ True ∧ True) (.ret ([], x)) else .stop (hd Tryd.f63 0) (mkS 76 [(1, .ptr 0 0), (5, .ptr 1 0), (6, .ptr 2 0), (7, .clo (.func 72) [] [.ptr 0 0, .ptr 1 0, .ptr 2 0])] [(0, .box [.d (.sl .flt (Deck.borders d)), .d (.sl .plate (Deck.plates d)), .d (.sl .rack (Deck.racks d)), .d (.v (.int .i64 (Deck.arms d)))]), (1, .box [.d (.v (.slice none 0 0))]), (2, .box [.d (.v (.int .i64 (0 : Int)))])] 3))) := by kernel_rfl

theorem t48 (d : Deck) (l : List Int) : @Eq (Out (TyTup [.sl .int, .int])) (aexec Tryd.prog codes sigs2 Tryd.f34 (pureFin [.sl .int, .int]) 0 noCut 300 false (bodyOf Tryd.f34) (startS Tryd.f34 [⟨.deck, d⟩, ⟨.sl .int, l⟩])) (.need ((True ∧ True ∧ True ∧ True ∧ True) ∧ (True ∧ True) ∧ True) (.callP 44 [⟨.deck, d⟩, Sigma.mk (.sl .int) l] [.sl .span, .int] fun (x : List Span × Int) => bif Prod.snd x != (0 : Int) then .need ((True ∧ True) ∧ True ∧ True) (.ret ([], Prod.snd x)) else .need ((True ∧ True ∧ True ∧ True ∧ True) ∧ (True ∧ True) ∧ True) (.callP 45 [⟨.deck, d⟩, Sigma.mk (.sl .span) (Prod.fst x)] [.sl .int] fun (x : List Int) => .need ((True ∧ True) ∧ True ∧ True) (.ret (x, (0 : Int)))))) := by kernel_rfl

theorem t53 (d : Deck) (a : Int) (b : Int) : @Eq (Out (TyTup [.sl .int, .int])) (aexec Tryd.prog codes sigs2 Tryd.f32 (pureFin [.sl .int, .int]) 0 noCut 300 false (bodyOf Tryd.f32) (startS Tryd.f32 [⟨.deck, d⟩, ⟨.int, a⟩, ⟨.int, b⟩])) (.need ((True ∧ True) ∧ (True ∧ True) ∧ True) (.need ((True ∧ True ∧ True ∧ True ∧ True) ∧ (True ∧ True) ∧ True) (.callP 44 [⟨.deck, d⟩, Sigma.mk (.sl .int) [a, b]] [.sl .span, .int] fun (x : List Span × Int) => bif Prod.snd x != (0 : Int) then .need ((True ∧ True) ∧ True ∧ True) (.ret ([], Prod.snd x)) else .need (((0 : Int) ≤ (0 : Int) ∧ (0 : Int) < (↑(List.length (Prod.fst x)) : Int)) ∧ True) (.need (((0 : Int) ≤ (1 : Int) ∧ (1 : Int) < (↑(List.length (Prod.fst x)) : Int)) ∧ True) (.need ((True ∧ True ∧ True) ∧ (True ∧ True ∧ True) ∧ True) (.callP 46 [Sigma.mk .span (List.getD (Prod.fst x) 0 Ty.span.dflt), Sigma.mk .span (List.getD (Prod.fst x) 1 Ty.span.dflt)] [.span] fun (x : Span) => .need ((True ∧ True ∧ True) ∧ True) (.need ((True ∧ True ∧ True ∧ True ∧ True) ∧ (True ∧ True) ∧ True) (.callP 45 [⟨.deck, d⟩, Sigma.mk (.sl .span) [x]] [.sl .int] fun (x : List Int) => .need ((True ∧ True) ∧ True ∧ True) (.ret (x, (0 : Int))))))))))) := by kernel_rfl

theorem t50 (a : List Int) (b : List Int) : @Eq (Out (TyTup [.bool])) (aexec Tryd.prog codes sigs2 Tryd.f15 (pureFin [.bool]) 0 noCut 300 false (bodyOf Tryd.f15) (startS Tryd.f15 [⟨.sl .int, a⟩, ⟨.sl .int, b⟩])) (bif (a.length : Int) != (b.length : Int) then .need (True ∧ True) (.ret false) else .stop (hd Tryd.f15 0) (mkS 26 [(0, .d (.sl .int a)), (1, .d (.sl .int b)), (5, .d (.v (.int .i64 (0 : Int))))] [] 0)) := by kernel_rfl

theorem t94 (d : Deck) (k : Int) (u : Int) (n : Int) : @Eq (Out (TyTup [.sl .span, .int])) (aexec Tryd.prog codes sigs2 Tryd.f73 (pureFin [.sl .span, .int]) 0 noCut 300 false (bodyOf Tryd.f73) (startS Tryd.f73 [⟨.deck, d⟩, ⟨.int, k⟩, ⟨.int, u⟩, ⟨.int, n⟩])) (.stop (hd Tryd.f73 0) (mkS 36 [(1, .d (.v (.int .i64 k))), (2, .d (.v (.int .i64 u))), (4, .ptr 0 0), (10, .d (.v (.slice none 0 0))), (14, .d (.v (.int .i64 n))), (15, .d (.v (.int .i64 (0 : Int))))] [(0, .box [.d (.sl .flt (Deck.borders d)), .d (.sl .plate (Deck.plates d)), .d (.sl .rack (Deck.racks d)), .d (.v (.int .i64 (Deck.arms d)))])] 1)) := by kernel_rfl

theorem t96 (d : Deck) (l : List Int) : @Eq (Out (TyTup [.sl .span, .int])) (aexec Tryd.prog codes sigs2 Tryd.f44 (pureFin [.sl .span, .int]) 0 noCut 300 false (bodyOf Tryd.f44) (startS Tryd.f44 [⟨.deck, d⟩, ⟨.sl .int, l⟩])) (.need ((True ∧ True ∧ True ∧ True ∧ True) ∧ True) (.callP 63 [⟨.deck, d⟩] [.sl .span, .int] fun (x : List Span × Int) => bif Prod.snd x != (0 : Int) then .need ((True ∧ True) ∧ True ∧ True) (.ret ([], Prod.snd x)) else .stop (hd Tryd.f44 0) (mkS 42 [(6, .d (.sl .span (Prod.fst x))), (8, .d (.v (.slice none 0 0))), (19, .d (.sl .int l)), (20, .d (.v (.int .i64 (l.length : Int)))), (21, .d (.v (.int .i64 (0 : Int))))] [] 0))) := by kernel_rfl

theorem t97 (d : Deck) (l : List Span) : @Eq (Out (TyTup [.sl .int])) (aexec Tryd.prog codes sigs2 Tryd.f45 (pureFin [.sl .int]) 0 noCut 300 false (bodyOf Tryd.f45) (startS Tryd.f45 [⟨.deck, d⟩, ⟨.sl .span, l⟩])) (.need ((True ∧ True ∧ True ∧ True ∧ True) ∧ True) (.callP 61 [⟨.deck, d⟩] [.int, .int, .int] fun (x : Int × Int × Int) => .need ((True ∧ True) ∧ True) (.callP 64 [Sigma.mk (.sl .span) l] [.sl .span] fun (x_1 : List Span) => .stop (hd Tryd.f45 0) (mkS 44 [(5, .d (.v (.int .i64 (Prod.fst x)))), (6, .d (.v (.int .i64 (Prod.fst (Prod.snd x))))), (8, .d (.v (.slice none 0 0))), (19, .d (.sl .span x_1)), (20, .d (.v (.int .i64 (x_1.length : Int)))), (21, .d (.v (.int .i64 (0 : Int))))] [] 0)))) := by kernel_rfl

theorem t100 (l : List Int) (n : Int) : @Eq (Out (TyTup [.bool])) (aexec Tryd.prog codes sigs2 Tryd.f19 (pureFin [.bool]) 0 noCut 300 false (bodyOf Tryd.f19) (startS Tryd.f19 [⟨.sl .int, l⟩, ⟨.int, n⟩])) (.stop (hd Tryd.f19 0) (mkS 18 [(0, .d (.sl .int l)), (1, .d (.v (.int .i64 n))), (5, .d (.v (.int .i64 (0 : Int))))] [] 0)) := by kernel_rfl

theorem t129 (l : List Int) : @Eq (Out (TyTup [.sl .int])) (aexec Tryd.prog codes sigs2 Tryd.f18 (pureFin [.sl .int]) 0 noCut 300 false (bodyOf Tryd.f18) (startS Tryd.f18 [⟨.sl .int, l⟩])) (bif decide ((l.length : Int) < (2 : Int)) then .need True (.need ((0 + List.length l) * 9 ≤ 35184372088832 ∧ True) (.need (True ∧ True) (.ret ([] ++ l)))) else .need ((2 : Int) ≠ (0 : Int)) (.need (((0 : Int) ≤ (0 : Int) ∧ (0 : Int) ≤ IntKind.wrap .i64 (Int.tdiv (l.length : Int) (2 : Int)) ∧ IntKind.wrap .i64 (Int.tdiv (l.length : Int) (2 : Int)) ≤ (l.length : Int)) ∧ True) (.need ((True ∧ True) ∧ True) (.callP 18 [Sigma.mk (.sl .int) (List.drop 0 (List.take (Int.toNat (IntKind.wrap .i64 (Int.tdiv (l.length : Int) (2 : Int)))) l))] [.sl .int] fun (x : List Int) => .need (((0 : Int) ≤ IntKind.wrap .i64 (Int.tdiv (l.length : Int) (2 : Int)) ∧ IntKind.wrap .i64 (Int.tdiv (l.length : Int) (2 : Int)) ≤ (l.length : Int)) ∧ True) (.need ((True ∧ True) ∧ True) (.callP 18 [Sigma.mk (.sl .int) (List.drop (Int.toNat (IntKind.wrap .i64 (Int.tdiv (l.length : Int) (2 : Int)))) l)] [.sl .int] fun (x_1 : List Int) => .need ((True ∧ True) ∧ (True ∧ True) ∧ True) (.callP 33 [Sigma.mk (.sl .int) x, Sigma.mk (.sl .int) x_1] [.sl .int] fun (x : List Int) => .need (True ∧ True) (.ret x)))))))) := by kernel_rfl

theorem t147 (a : List Int) (b : List Int) : @Eq (Out (TyTup [.sl .int])) (aexec Tryd.prog codes sigs2 Tryd.f33 (pureFin [.sl .int]) 0 noCut 300 false (bodyOf Tryd.f33) (startS Tryd.f33 [⟨.sl .int, a⟩, ⟨.sl .int, b⟩])) (.need ((True ∧ True) ∧ (True ∧ True) ∧ (True ∧ True) ∧ (True ∧ True) ∧ (True ∧ True) ∧ True) (.callP 47 [Sigma.mk (.sl .int) a, Sigma.mk (.sl .int) b, ⟨.bool, true⟩, ⟨.bool, true⟩, ⟨.bool, true⟩] [.sl .int] fun (x : List Int) => .need (True ∧ True) (.ret x))) := by kernel_rfl

theorem t156 (a : List Int) (b : List Int) (f : Bool) (s : Bool) (t : Bool) : @Eq (Out (TyTup [.sl .int])) (aexec Tryd.prog codes sigs2 Tryd.f47 (pureFin [.sl .int]) 0 noCut 300 false (bodyOf Tryd.f47) (startS Tryd.f47 [⟨.sl .int, a⟩, ⟨.sl .int, b⟩, ⟨.bool, f⟩, ⟨.bool, s⟩, ⟨.bool, t⟩])) (.stop (hd Tryd.f47 0) (mkS 94 [(0, .d (.sl .int a)), (1, .d (.sl .int b)), (2, .d (.v (.bool f))), (3, .d (.v (.bool s))), (4, .d (.v (.bool t))), (11, .ptr 0 0), (12, .clo (.func 67) [] [.ptr 0 0]), (13, .d (.v (.int .i64 (0 : Int)))), (14, .d (.v (.int .i64 (0 : Int))))] [(0, .box [.d (.v (.slice none 0 0))])] 1)) := by kernel_rfl

end Go.Proofs.Zn

namespace Go.Proofs.Zn
open Go Go.VL

def L46 (d : Deck) (x : List Part) (out : List Span) (i : Int) : AS := mkS 40 [(1, .ptr 0 0), (5, .own 1 .span), (6, .d (.sl .part x)), (7, i64 i)] [(0, .box (deckC d)), (1, .row 82 .span out)] 2
def L94 (d : Deck) (k u n : Int) (out : List Span) (c : Int) : AS := mkS 36 [(1, i64 k), (2, i64 u), (4, .ptr 0 0), (10, .own 1 .span), (14, i64 n), (15, i64 c)] [(0, .box (deckC d)), (1, .row 82 .span out)] 2
def L96 (t : List Span) (l : List Int) (out : List Span) (i : Int) : AS := mkS 42 [(6, .d (.sl .span t)), (8, .own 0 .span), (19, .d (.sl .int l)), (20, i64 l.length), (21, i64 i)] [(0, .row 82 .span out)] 1
def L98 (t : List Span) (l : List Int) (out : List Span) (i : Int) : AS := mkS 49 [(1, .d (.sl .int l)), (6, .d (.sl .span t)), (8, .own 0 .span), (9, i64 i)] [(0, .row 82 .span out)] 1
def L97 (a b : Int) (l : List Span) (out : List Int) (i : Int) : AS := mkS 44 [(5, i64 a), (6, i64 b), (8, .own 0 .int), (19, .d (.sl .span l)), (20, i64 l.length), (21, i64 i)] [(0, .row 3 .int out)] 1
def L99 (d : Deck) (s : Span) (out : List Int) (k : Int) : AS := mkS 23 [(2, .ptr 0 0), (3, .ptr 1 0), (5, .own 2 .int), (6, i64 k)] [(0, .box (deckC d)), (1, .box [i64 s.lo, i64 s.hi]), (2, .row 3 .int out)] 3
def L49 (d : Deck) (t : List Span) (e : Int) (out : List Int) (i : Int) : AS := mkS 32 [(2, .ptr 0 0), (6, .d (.sl .span t)), (7, i64 e), (8, .d (.sl .int out)), (9, i64 i)] [(0, .box (deckC d))] 1
def L55 (a b out : List Int) (i : Int) : AS := mkS 27 [(0, .d (.sl .int a)), (1, .d (.sl .int b)), (5, .own 0 .int), (6, i64 i)] [(0, .row 3 .int out)] 1
def L56 (a b out : List Int) (i : Int) : AS := mkS 28 [(0, .d (.sl .int a)), (1, .d (.sl .int b)), (5, .own 0 .int), (6, i64 i)] [(0, .row 3 .int out)] 1
def L57 (b out : List Int) (i : Int) : AS := mkS 23 [(1, .d (.sl .int b)), (5, .d (.sl .int out)), (6, i64 i)] [] 0
def L50 (a b : List Int) (i : Int) : AS := mkS 26 [(0, .d (.sl .int a)), (1, .d (.sl .int b)), (5, i64 i)] [] 0
def L100 (l : List Int) (n i : Int) : AS := mkS 18 [(0, .d (.sl .int l)), (1, i64 n), (5, i64 i)] [] 0
def L101 (l : List Int) (n i : Int) : AS := mkS 45 [(0, .d (.sl .int l)), (1, i64 n), (5, i64 i)] [] 0
def L156 (a b : List Int) (f s t : Bool) (out : List Int) (i k : Int) : AS := mkS 94 [(0, .d (.sl .int a)), (1, .d (.sl .int b)), (2, boolA f), (3, boolA s), (4, boolA t), (11, .ptr 0 0), (12, .clo (.func 67) [] [.ptr 0 0]), (13, i64 i), (14, i64 k)] [(0, .box [.own 1 .int]), (1, .row 3 .int out)] 2


theorem t94a (d : Deck) (k u n : Int) (out : List Span) (c : Int) : @Eq (Out (TyTup [.sl .span, .int])) (aexec Tryd.prog codes sigs2 Tryd.f73 (pureFin [.sl .span, .int]) 0 noCut 200 true (hd Tryd.f73 0) (L94 d k u n out c)) (bif decide (c < n) then .need ((True ∧ True ∧ True ∧ True ∧ True) ∧ (True ∧ True ∧ True ∧ True ∧ True) ∧ True) (.callP 40 [⟨.deck, d⟩, Sigma.mk .part (Part.mk k u (0 : Int) c)] [.span, .int] fun (x : Span × Int) => bif Prod.snd x != (0 : Int) then .need ((True ∧ True) ∧ True ∧ True) (.ret ([], Prod.snd x)) else .need ((True ∧ True ∧ True) ∧ True) (.need ((List.length out + List.length [Prod.fst x]) * 17 ≤ 35184372088832 ∧ True) (.stop (hd Tryd.f73 0) (mkS 36 [(1, .d (.v (.int .i64 k))), (2, .d (.v (.int .i64 u))), (4, .ptr 0 0), (10, .own 1 .span), (14, .d (.v (.int .i64 n))), (15, .d (.v (.int .i64 (IntKind.wrap .i64 (c + (1 : Int))))))] [(0, .box [.d (.sl .flt (Deck.borders d)), .d (.sl .plate (Deck.plates d)), .d (.sl .rack (Deck.racks d)), .d (.v (.int .i64 (Deck.arms d)))]), (1, .row 82 .span (out ++ [Prod.fst x]))] 2)))) else .need ((True ∧ True) ∧ True ∧ True) (.ret (out, (0 : Int)))) := by kernel_rfl

theorem t96a (t : List Span) (l : List Int) (out : List Span) (i : Int) : @Eq (Out (TyTup [.sl .span, .int])) (aexec Tryd.prog codes sigs2 Tryd.f44 (pureFin [.sl .span, .int]) 0 noCut 200 true (hd Tryd.f44 0) (L96 t l out i)) (bif decide (i < (l.length : Int)) then .need (((0 : Int) ≤ i ∧ i < (l.length : Int)) ∧ True) (bif decide (l.getD i.toNat Ty.int.dflt < (0 : Int)) then .need ((True ∧ True) ∧ True ∧ True) (.ret ([], (3 : Int))) else bif decide (l.getD i.toNat Ty.int.dflt ≥ (t.length : Int)) then .need ((True ∧ True) ∧ True ∧ True) (.ret ([], (3 : Int))) else .need (((0 : Int) ≤ l.getD i.toNat Ty.int.dflt ∧ l.getD i.toNat Ty.int.dflt < (t.length : Int)) ∧ True) (.need ((True ∧ True ∧ True) ∧ True) (.need ((List.length out + List.length [List.getD t (Int.toNat (l.getD i.toNat Ty.int.dflt)) Ty.span.dflt]) * 17 ≤ 35184372088832 ∧ True) (.stop (hd Tryd.f44 0) (mkS 42 [(6, .d (.sl .span t)), (8, .own 0 .span), (19, .d (.sl .int l)), (20, .d (.v (.int .i64 (l.length : Int)))), (21, .d (.v (.int .i64 (IntKind.wrap .i64 (i + (1 : Int))))))] [(0, .row 82 .span (out ++ [List.getD t (Int.toNat (l.getD i.toNat Ty.int.dflt)) Ty.span.dflt]))] 1))))) else .need ((True ∧ True) ∧ True ∧ True) (.ret (out, (0 : Int)))) := by kernel_rfl

theorem t97a (a b : Int) (l : List Span) (out : List Int) (i : Int) : @Eq (Out (TyTup [.sl .int])) (aexec Tryd.prog codes sigs2 Tryd.f45 (pureFin [.sl .int]) 0 noCut 200 true (hd Tryd.f45 0) (L97 a b l out i)) (bif decide (i < (l.length : Int)) then .need (((0 : Int) ≤ i ∧ i < (l.length : Int)) ∧ True) (.stop (hd Tryd.f45 1) (mkS 44 [(5, .d (.v (.int .i64 a))), (6, .d (.v (.int .i64 b))), (8, .own 0 .int), (10, .ptr 1 0), (11, .d (.v (.int .i64 (Span.lo (l.getD i.toNat Ty.span.dflt))))), (19, .d (.sl .span l)), (20, .d (.v (.int .i64 (l.length : Int)))), (21, .d (.v (.int .i64 i)))] [(0, .row 3 .int out), (1, .box [.d (.v (.int .i64 (Span.lo (l.getD i.toNat Ty.span.dflt)))), .d (.v (.int .i64 (Span.hi (l.getD i.toNat Ty.span.dflt))))])] 2)) else .need ((True ∧ True) ∧ True) (.callP 18 [Sigma.mk (.sl .int) out] [.sl .int] fun (x : List Int) => .need (True ∧ True) (.ret x))) := by kernel_rfl

theorem t50a (a b : List Int) (i : Int) : @Eq (Out (TyTup [.bool])) (aexec Tryd.prog codes sigs2 Tryd.f15 (pureFin [.bool]) 0 noCut 200 true (hd Tryd.f15 0) (L50 a b i)) (bif decide (i < (a.length : Int)) then .need (((0 : Int) ≤ i ∧ i < (a.length : Int)) ∧ True) (.need (((0 : Int) ≤ i ∧ i < (b.length : Int)) ∧ True) (bif a.getD i.toNat Ty.int.dflt != b.getD i.toNat Ty.int.dflt then .need (True ∧ True) (.ret false) else .stop (hd Tryd.f15 0) (mkS 26 [(0, .d (.sl .int a)), (1, .d (.sl .int b)), (5, .d (.v (.int .i64 (IntKind.wrap .i64 (i + (1 : Int))))))] [] 0))) else .need (True ∧ True) (.ret true)) := by kernel_rfl

theorem t100a (l : List Int) (n i : Int) : @Eq (Out (TyTup [.bool])) (aexec Tryd.prog codes sigs2 Tryd.f19 (pureFin [.bool]) 0 noCut 200 true (hd Tryd.f19 0) (L100 l n i)) (bif decide (i < (l.length : Int)) then .need (((0 : Int) ≤ i ∧ i < (l.length : Int)) ∧ True) (bif l.getD i.toNat Ty.int.dflt == n then .need (True ∧ True) (.ret true) else .stop (hd Tryd.f19 0) (mkS 18 [(0, .d (.sl .int l)), (1, .d (.v (.int .i64 n))), (5, .d (.v (.int .i64 (IntKind.wrap .i64 (i + (1 : Int))))))] [] 0)) else .need (True ∧ True) (.ret false)) := by kernel_rfl

theorem t159t (n : Int) (xs : List Int) : @Eq (Out GRes) (aexec Tryd.prog codes sigs2 Tryd.f67 (gFin 2) 2 noCut 200 false (bodyOf Tryd.f67) (startG Tryd.f67 [i64 n, boolA true, .ptr 0 0] [(0, .box [.own 1 .int]), (1, .row 3 .int xs)] 2)) (.need ((True ∧ True) ∧ True) (.need ((List.length xs + List.length [n]) * 9 ≤ 35184372088832 ∧ True) (.need True (.ret (GRes.mk [] [(0, .box [.own 2 .int]), (2, .row 3 .int (xs ++ [n]))] 3))))) := by kernel_rfl

end Go.Proofs.Zn

/- Tables of spans: contracts. (Own work.) -/
namespace Go.Proofs.Zn
open Go Go.VL

/-- What goes on with a list of spans. -/
def goS (out : List Span) (L : List (Span × Int)) : List Span × Int := bif errL L != 0 then ([], errL L) else (out ++ L.map Prod.fst, 0)
theorem goS_nil (out : List Span) : goS out [] = (out, 0) := by simp [goS, errL]
theorem goS_cons (out : List Span) (p : Span × Int) (L : List (Span × Int)) : goS out (p :: L) = bif p.2 != 0 then ([], p.2) else goS (out ++ [p.1]) L := by
  unfold goS
  simp only [errL]
  cases h : p.2 != 0
  · simp
  · simp [h]
theorem goS_start (L : List (Span × Int)) : goS [] L = tryS L := by simp [goS, tryS]

theorem loop94 {d : Deck} {k u : Int} {n : Nat} (hv : ∀ c, ValidP d ⟨k, u, 0, c⟩) (hn : n ≤ 48) {r : List Span × Int} {A : List Item → AS → Prop}
    (hA : Closed Tryd.prog codes sigs2 Tryd.f73 (pureFin [.sl .span, .int]) (fun y => y = r) 0 A) (i : Nat) (hi : i ≤ n) (out : List Span) (ho : out.length = i) (h : goS out (covL d ((colsL k u n).drop i)) = r) :
    A (hd Tryd.f73 0) (L94 d k u n out i) := by
  have hc : (colsL k u n).length = n := by simp [colsL]
  refine hA.go (t94a d k u n out i) (sat_bif (fun h1 => ?_) (fun h1 => ?_))
  · have h1 := of_decide_eq_true h1
    have hil : i < (colsL k u n).length := by omega
    have ei : (colsL k u n)[i] = ⟨k, u, 0, (i : Int)⟩ := by simp [colsL]
    rw [List.drop_eq_getElem_cons hil, ei, covL, List.map_cons, goS_cons] at h
    refine ⟨⟨T5', T5', trivial⟩, _, c85 (hv i), sat_bif (fun h2 => ?_) (fun h2 => ⟨⟨T3', trivial⟩, ⟨?_, trivial⟩, ?_⟩)⟩
    · rw [h2] at h; exact ⟨⟨T2', T2'⟩, h⟩
    · simp only [List.length_cons, List.length_nil]; omega
    · rw [h2, cond_false] at h
      rw [wrap_succ (by omega)]
      exact loop94 hv hn hA (i + 1) (by omega) _ (by simp [ho]) h
  · have h1 := of_decide_eq_false h1
    rw [List.drop_eq_nil_of_le (by omega), covL, List.map_nil, goS_nil] at h
    exact ⟨⟨T2', T2'⟩, h⟩
termination_by n - i
theorem c94 {d : Deck} {k u : Int} {n : Nat} (hv : ∀ c, ValidP d ⟨k, u, 0, c⟩) (hn : n ≤ 48) : Pure Tryd.prog 73 [⟨.deck, d⟩, ⟨.int, k⟩, ⟨.int, u⟩, ⟨.int, (n : Int)⟩] [.sl .span, .int] (tryS (covL d (colsL k u n))) :=
  Pure.of_closed (C := codes) (S := sigs2) mixed Tryd.func73 (by kernel_rfl) (Nat.le_of_ble_eq_true (by kernel_rfl)) fun A hA => hA.go (t94 d k u n)
    (hA.row 10 82 .span (s' := L94 d k u n [] 0) (by kernel_rfl) (by kernel_rfl) (loop94 hv hn hA 0 (by omega) [] rfl (by rw [List.drop_zero, goS_start])))

theorem loop96 {t : List Span} {l : List Int} (hl : l.length ≤ 1000) {r : List Span × Int} {A : List Item → AS → Prop}
    (hA : Closed Tryd.prog codes sigs2 Tryd.f44 (pureFin [.sl .span, .int]) (fun y => y = r) 0 A) (i : Nat) (hi : i ≤ l.length) (out : List Span) (ho : out.length = i) (h : pickGo t out (l.drop i) = r) :
    A (hd Tryd.f44 0) (L96 t l out i) := by
  refine hA.go (t96a t l out i) (sat_bif (fun h1 => ?_) (fun h1 => ?_))
  · have h1 := of_decide_eq_true h1
    have hil : i < l.length := by omega
    rw [getD_int hil]
    rw [List.drop_eq_getElem_cons hil, pickGo] at h
    refine ⟨⟨⟨by omega, by omega⟩, trivial⟩, sat_bif (fun h2 => ?_) (fun h2 => sat_bif (fun h3 => ?_) (fun h3 => ?_))⟩
    · rw [h2] at h; exact ⟨⟨T2', T2'⟩, h⟩
    · rw [h2, h3] at h; exact ⟨⟨T2', T2'⟩, h⟩
    · rw [h2, h3, cond_false, cond_false] at h
      have h2 := of_decide_eq_false h2
      have h3 := of_decide_eq_false h3
      refine ⟨⟨⟨by omega, by omega⟩, trivial⟩, ⟨T3', trivial⟩, ⟨by simp only [List.length_cons, List.length_nil]; omega, trivial⟩, ?_⟩
      rw [wrap_succ (by omega)]
      exact loop96 hl hA (i + 1) (by omega) _ (by simp [ho]) h
  · have h1 := of_decide_eq_false h1
    rw [List.drop_eq_nil_of_le (by omega)] at h
    exact ⟨⟨T2', T2'⟩, h⟩
termination_by l.length - i
theorem c96_of {d : Deck} {l : List Int} (h45 : Pure Tryd.prog 63 [⟨.deck, d⟩] [.sl .span, .int] (tableS d)) (hl : l.length ≤ 1000) : Pure Tryd.prog 44 [⟨.deck, d⟩, ⟨.sl .int, l⟩] [.sl .span, .int] (spansS d l) :=
  Pure.of_closed (C := codes) (S := sigs2) mixed Tryd.func44 (by kernel_rfl) (Nat.le_of_ble_eq_true (by kernel_rfl)) fun A hA => hA.go (t96 d l) (by
    generalize hr : spansS d l = r at hA ⊢
    unfold spansS at hr
    refine ⟨⟨T5', trivial⟩, _, h45, sat_bif (fun h => ?_) (fun h => ?_)⟩
    · rw [h] at hr; exact ⟨⟨T2', T2'⟩, hr⟩
    · rw [h, cond_false] at hr
      exact hA.row 8 82 .span (s' := L96 (tableS d).1 l [] 0) (by kernel_rfl) (by kernel_rfl) (loop96 hl hA 0 (by omega) [] rfl hr))
end Go.Proofs.Zn

namespace Go.Proofs.Zn
open Go Go.VL

def C93 (l out bad : Nat) : AV := .clo (.func 72) [] [.ptr l 0, .ptr out 0, .ptr bad 0]
def L47 (d : Deck) (x i : Int) : AS := mkS 45 [(1, .ptr 0 0), (3, .ptr 1 0), (4, .clo (.func 39) [] [.ptr 1 0, .ptr 0 0]), (16, .d (.sl .plate d.plates)), (17, i64 d.plates.length), (18, i64 i)] [(0, .box (deckC d)), (1, .box [i64 x])] 2
def H93 (d : Deck) (bad : Int) (xs : List Span) : Heap := [(0, .box (deckC d)), (1, .box [.own 3 .span]), (2, .box [i64 bad]), (3, .row 82 .span xs)]
def L45 (d : Deck) (bad : Int) (out : List Span) : AS := mkS 76 [(1, .ptr 0 0), (5, .ptr 1 0), (6, .ptr 2 0), (7, C93 0 1 2)] (H93 d bad out) 4


theorem t95 (d : Deck) (k u n e : Int) : @Eq (Out GRes) (aexec Tryd.prog codes sigs3 Tryd.f39 (gFin 2) 2 noCut 200 false (bodyOf Tryd.f39) (startG Tryd.f39 [i64 k, i64 u, i64 n, .ptr 0 0, .ptr 1 0] [(0, .box [i64 e]), (1, .box (deckC d))] 2)) (.stop (hd Tryd.f39 0) (mkS 30 [(0, .d (.v (.int .i64 k))), (1, .d (.v (.int .i64 u))), (2, .d (.v (.int .i64 n))), (3, .ptr 0 0), (4, .ptr 1 0), (9, .d (.v (.int .i64 (0 : Int))))] [(0, .box [.d (.v (.int .i64 e))]), (1, .box [.d (.sl .flt (Deck.borders d)), .d (.sl .plate (Deck.plates d)), .d (.sl .rack (Deck.racks d)), .d (.v (.int .i64 (Deck.arms d)))])] 2)) := by kernel_rfl

theorem t93 (d : Deck) (k u r n bad : Int) (xs : List Span) : @Eq (Out GRes) (aexec Tryd.prog codes sigs3 Tryd.f72 (gFin 4) 4 noCut 200 false (bodyOf Tryd.f72) (startG Tryd.f72 [i64 k, i64 u, i64 r, i64 n, .ptr 0 0, .ptr 1 0, .ptr 2 0] (H93 d bad xs) 4)) (.need ((True ∧ True ∧ True ∧ True ∧ True) ∧ (True ∧ True) ∧ (True ∧ True) ∧ (True ∧ True) ∧ True) (.callP 73 [⟨.deck, d⟩, ⟨.int, k⟩, ⟨.int, u⟩, ⟨.int, n⟩] [.sl .span, .int] fun (x : List Span × Int) => .stop (hd Tryd.f72 0) (mkS 32 [(5, .ptr 1 0), (6, .ptr 2 0), (12, .d (.sl .span (Prod.fst x))), (13, .d (.v (.int .i64 (Prod.snd x)))), (22, .d (.v (.int .i64 r))), (23, .d (.v (.int .i64 (0 : Int))))] [(0, .box [.d (.sl .flt (Deck.borders d)), .d (.sl .plate (Deck.plates d)), .d (.sl .rack (Deck.racks d)), .d (.v (.int .i64 (Deck.arms d)))]), (1, .box [.own 3 .span]), (2, .box [.d (.v (.int .i64 bad))]), (3, .row 82 .span xs)] 4))) := by kernel_rfl

theorem t47a (d : Deck) (x i : Int) : @Eq (Out (TyTup [.int])) (aexec Tryd.prog codes sigs3 Tryd.f23 (pureFin [.int]) 0 noCut 200 true (hd Tryd.f23 0) (L47 d x i)) (bif decide (i < (↑(List.length (Deck.plates d)) : Int)) then .need (((0 : Int) ≤ i ∧ i < (↑(List.length (Deck.plates d)) : Int)) ∧ True) (.callG 39 [.d (.v (.int .i64 (1 : Int))), .d (.v (.int .i64 i)), .d (.v (.int .i64 (Plate.cols (List.getD (Deck.plates d) (Int.toNat i) Ty.plate.dflt)))), .ptr 0 0, .ptr 1 0] [(0, .box [.d (.v (.int .i64 x))]), (1, .box [.d (.sl .flt (Deck.borders d)), .d (.sl .plate (Deck.plates d)), .d (.sl .rack (Deck.racks d)), .d (.v (.int .i64 (Deck.arms d)))])] 2 [.int] (fun (a : Int) => GRes.mk [.d (.v (.bool (a != (0 : Int))))] [(0, .box [.d (.v (.int .i64 a))]), (1, .box [.d (.sl .flt (Deck.borders d)), .d (.sl .plate (Deck.plates d)), .d (.sl .rack (Deck.racks d)), .d (.v (.int .i64 (Deck.arms d)))])] 2) fun (x : Int) => bif x != (0 : Int) then .need (True ∧ True) (.ret x) else .stop (hd Tryd.f23 0) (mkS 45 [(1, .ptr 0 0), (3, .ptr 1 0), (4, .clo (.func 39) [] [.ptr 1 0, .ptr 0 0]), (16, .d (.sl .plate (Deck.plates d))), (17, .d (.v (.int .i64 (↑(List.length (Deck.plates d)) : Int)))), (18, .d (.v (.int .i64 (IntKind.wrap .i64 (i + (1 : Int))))))] [(0, .box [.d (.sl .flt (Deck.borders d)), .d (.sl .plate (Deck.plates d)), .d (.sl .rack (Deck.racks d)), .d (.v (.int .i64 (Deck.arms d)))]), (1, .box [.d (.v (.int .i64 x))])] 2)) else .stop (hd Tryd.f23 1) (mkS 45 [(3, .ptr 0 0), (4, .clo (.func 39) [] [.ptr 0 0, .ptr 1 0]), (31, .d (.sl .rack (Deck.racks d))), (32, .d (.v (.int .i64 (↑(List.length (Deck.racks d)) : Int)))), (33, .d (.v (.int .i64 (0 : Int))))] [(0, .box [.d (.v (.int .i64 x))]), (1, .box [.d (.sl .flt (Deck.borders d)), .d (.sl .plate (Deck.plates d)), .d (.sl .rack (Deck.racks d)), .d (.v (.int .i64 (Deck.arms d)))])] 2)) := by kernel_rfl

theorem t45a (d : Deck) (bad : Int) (out : List Span) : @Eq (Out (TyTup [.sl .span, .int])) (aexec Tryd.prog codes sigs3 Tryd.f63 (pureFin [.sl .span, .int]) 0 noCut 300 true (hd Tryd.f63 0) (L45 d bad out)) (.stop (hd Tryd.f63 1) (mkS 76 [(1, .ptr 0 0), (5, .ptr 1 0), (6, .ptr 2 0), (7, .clo (.func 72) [] [.ptr 0 0, .ptr 1 0, .ptr 2 0]), (20, .d (.sl .plate (Deck.plates d))), (21, .d (.v (.int .i64 (↑(List.length (Deck.plates d)) : Int)))), (22, .d (.v (.int .i64 (0 : Int))))] [(0, .box [.d (.sl .flt (Deck.borders d)), .d (.sl .plate (Deck.plates d)), .d (.sl .rack (Deck.racks d)), .d (.v (.int .i64 (Deck.arms d)))]), (1, .box [.own 3 .span]), (2, .box [.d (.v (.int .i64 bad))]), (3, .row 82 .span out)] 4)) := by kernel_rfl

end Go.Proofs.Zn

namespace Go.Proofs.Zn
open Go Go.VL

def L95 (d : Deck) (k u n e c : Int) : AS := mkS 30 [(0, i64 k), (1, i64 u), (2, i64 n), (3, .ptr 0 0), (4, .ptr 1 0), (9, i64 c)] [(0, .box [i64 e]), (1, .box (deckC d))] 2
def L93a (d : Deck) (cs : List Span) (ce r bad : Int) (xs : List Span) (j : Int) : AS := mkS 32 [(5, .ptr 1 0), (6, .ptr 2 0), (12, .d (.sl .span cs)), (13, i64 ce), (22, i64 r), (23, i64 j)] (H93 d bad xs) 4
def L93b (d : Deck) (cs : List Span) (ce r bad : Int) (xs : List Span) (j : Int) : AS := mkS 32 [(5, .ptr 1 0), (6, .ptr 2 0), (12, .d (.sl .span cs)), (13, i64 ce), (22, i64 r), (23, i64 j)] [(0, .box (deckC d)), (1, .box [.own 4 .span]), (2, .box [i64 bad]), (4, .row 82 .span xs)] 5
def L47b (d : Deck) (x i : Int) : AS := mkS 45 [(3, .ptr 0 0), (4, .clo (.func 39) [] [.ptr 0 0, .ptr 1 0]), (31, .d (.sl .rack d.racks)), (32, i64 d.racks.length), (33, i64 i)] [(0, .box [i64 x]), (1, .box (deckC d))] 2
def L45b (d : Deck) (bad : Int) (out : List Span) (i : Int) : AS := mkS 76 [(1, .ptr 0 0), (5, .ptr 1 0), (6, .ptr 2 0), (7, C93 0 1 2), (20, .d (.sl .plate d.plates)), (21, i64 d.plates.length), (22, i64 i)] (H93 d bad out) 4


theorem t95a (d : Deck) (k u n e c : Int) : @Eq (Out GRes) (aexec Tryd.prog codes sigs3 Tryd.f39 (gFin 2) 2 noCut 200 true (hd Tryd.f39 0) (L95 d k u n e c)) (bif decide (c < n) then bif e == (0 : Int) then .need ((True ∧ True ∧ True ∧ True ∧ True) ∧ (True ∧ True ∧ True ∧ True ∧ True) ∧ True) (.callP 40 [⟨.deck, d⟩, Sigma.mk .part (Part.mk k u (0 : Int) c)] [.span, .int] fun (x : Span × Int) => .stop (hd Tryd.f39 0) (mkS 30 [(0, .d (.v (.int .i64 k))), (1, .d (.v (.int .i64 u))), (2, .d (.v (.int .i64 n))), (3, .ptr 0 0), (4, .ptr 1 0), (9, .d (.v (.int .i64 (IntKind.wrap .i64 (c + (1 : Int))))))] [(0, .box [.d (.v (.int .i64 (Prod.snd x)))]), (1, .box [.d (.sl .flt (Deck.borders d)), .d (.sl .plate (Deck.plates d)), .d (.sl .rack (Deck.racks d)), .d (.v (.int .i64 (Deck.arms d)))])] 2)) else .need True (.ret (GRes.mk [.d (.v (.bool (e != (0 : Int))))] [(0, .box [.d (.v (.int .i64 e))]), (1, .box [.d (.sl .flt (Deck.borders d)), .d (.sl .plate (Deck.plates d)), .d (.sl .rack (Deck.racks d)), .d (.v (.int .i64 (Deck.arms d)))])] 2)) else .need True (.ret (GRes.mk [.d (.v (.bool (e != (0 : Int))))] [(0, .box [.d (.v (.int .i64 e))]), (1, .box [.d (.sl .flt (Deck.borders d)), .d (.sl .plate (Deck.plates d)), .d (.sl .rack (Deck.racks d)), .d (.v (.int .i64 (Deck.arms d)))])] 2))) := by kernel_rfl

theorem t93a (d : Deck) (cs : List Span) (ce r bad : Int) (xs : List Span) (j : Int) : @Eq (Out GRes) (aexec Tryd.prog codes sigs3 Tryd.f72 (gFin 4) 4 noCut 200 true (hd Tryd.f72 0) (L93a d cs ce r bad xs j)) (bif decide (j < r) then .need ((List.length xs + List.length cs) * 17 ≤ 35184372088832 ∧ True) (.stop (hd Tryd.f72 0) (mkS 32 [(5, .ptr 1 0), (6, .ptr 2 0), (12, .d (.sl .span cs)), (13, .d (.v (.int .i64 ce))), (22, .d (.v (.int .i64 r))), (23, .d (.v (.int .i64 (IntKind.wrap .i64 (j + (1 : Int))))))] [(0, .box [.d (.sl .flt (Deck.borders d)), .d (.sl .plate (Deck.plates d)), .d (.sl .rack (Deck.racks d)), .d (.v (.int .i64 (Deck.arms d)))]), (1, .box [.own 4 .span]), (2, .box [.d (.v (.int .i64 bad))]), (4, .row 82 .span (xs ++ cs))] 5)) else .need True (.ret (GRes.mk [.d (.v (.bool (ce == (0 : Int))))] [(0, .box [.d (.sl .flt (Deck.borders d)), .d (.sl .plate (Deck.plates d)), .d (.sl .rack (Deck.racks d)), .d (.v (.int .i64 (Deck.arms d)))]), (1, .box [.own 3 .span]), (2, .box [.d (.v (.int .i64 ce))]), (3, .row 82 .span xs)] 4))) := by kernel_rfl

theorem t93b (d : Deck) (cs : List Span) (ce r bad : Int) (xs : List Span) (j : Int) : @Eq (Out GRes) (aexec Tryd.prog codes sigs3 Tryd.f72 (gFin 4) 4 noCut 200 true (hd Tryd.f72 0) (L93b d cs ce r bad xs j)) (bif decide (j < r) then .need ((List.length xs + List.length cs) * 17 ≤ 35184372088832 ∧ True) (.stop (hd Tryd.f72 0) (mkS 32 [(5, .ptr 1 0), (6, .ptr 2 0), (12, .d (.sl .span cs)), (13, .d (.v (.int .i64 ce))), (22, .d (.v (.int .i64 r))), (23, .d (.v (.int .i64 (IntKind.wrap .i64 (j + (1 : Int))))))] [(0, .box [.d (.sl .flt (Deck.borders d)), .d (.sl .plate (Deck.plates d)), .d (.sl .rack (Deck.racks d)), .d (.v (.int .i64 (Deck.arms d)))]), (1, .box [.own 4 .span]), (2, .box [.d (.v (.int .i64 bad))]), (4, .row 82 .span (xs ++ cs))] 5)) else .need True (.ret (GRes.mk [.d (.v (.bool (ce == (0 : Int))))] [(0, .box [.d (.sl .flt (Deck.borders d)), .d (.sl .plate (Deck.plates d)), .d (.sl .rack (Deck.racks d)), .d (.v (.int .i64 (Deck.arms d)))]), (1, .box [.own 4 .span]), (2, .box [.d (.v (.int .i64 ce))]), (4, .row 82 .span xs)] 5))) := by kernel_rfl

theorem t47b (d : Deck) (x i : Int) : @Eq (Out (TyTup [.int])) (aexec Tryd.prog codes sigs3 Tryd.f23 (pureFin [.int]) 0 noCut 200 true (hd Tryd.f23 1) (L47b d x i)) (bif decide (i < (↑(List.length (Deck.racks d)) : Int)) then .need (((0 : Int) ≤ i ∧ i < (↑(List.length (Deck.racks d)) : Int)) ∧ True) (.callG 39 [.d (.v (.int .i64 (2 : Int))), .d (.v (.int .i64 i)), .d (.v (.int .i64 (Rack.cols (List.getD (Deck.racks d) (Int.toNat i) Ty.rack.dflt)))), .ptr 0 0, .ptr 1 0] [(0, .box [.d (.v (.int .i64 x))]), (1, .box [.d (.sl .flt (Deck.borders d)), .d (.sl .plate (Deck.plates d)), .d (.sl .rack (Deck.racks d)), .d (.v (.int .i64 (Deck.arms d)))])] 2 [.int] (fun (a : Int) => GRes.mk [.d (.v (.bool (a != (0 : Int))))] [(0, .box [.d (.v (.int .i64 a))]), (1, .box [.d (.sl .flt (Deck.borders d)), .d (.sl .plate (Deck.plates d)), .d (.sl .rack (Deck.racks d)), .d (.v (.int .i64 (Deck.arms d)))])] 2) fun (x : Int) => bif x != (0 : Int) then .need (True ∧ True) (.ret x) else .stop (hd Tryd.f23 1) (mkS 45 [(3, .ptr 0 0), (4, .clo (.func 39) [] [.ptr 0 0, .ptr 1 0]), (31, .d (.sl .rack (Deck.racks d))), (32, .d (.v (.int .i64 (↑(List.length (Deck.racks d)) : Int)))), (33, .d (.v (.int .i64 (IntKind.wrap .i64 (i + (1 : Int))))))] [(0, .box [.d (.v (.int .i64 x))]), (1, .box [.d (.sl .flt (Deck.borders d)), .d (.sl .plate (Deck.plates d)), .d (.sl .rack (Deck.racks d)), .d (.v (.int .i64 (Deck.arms d)))])] 2)) else .need (True ∧ True) (.ret (0 : Int))) := by kernel_rfl

theorem t45b (d : Deck) (bad : Int) (out : List Span) (i : Int) : @Eq (Out (TyTup [.sl .span, .int])) (aexec Tryd.prog codes sigs3 Tryd.f63 (pureFin [.sl .span, .int]) 0 noCut 300 true (hd Tryd.f63 1) (L45b d bad out i)) (bif decide (i < (↑(List.length (Deck.plates d)) : Int)) then .need (((0 : Int) ≤ i ∧ i < (↑(List.length (Deck.plates d)) : Int)) ∧ True) (.callG 72 [.d (.v (.int .i64 (1 : Int))), .d (.v (.int .i64 i)), .d (.v (.int .i64 (Plate.rows (List.getD (Deck.plates d) (Int.toNat i) Ty.plate.dflt)))), .d (.v (.int .i64 (Plate.cols (List.getD (Deck.plates d) (Int.toNat i) Ty.plate.dflt)))), .ptr 0 0, .ptr 1 0, .ptr 2 0] [(0, .box [.d (.sl .flt (Deck.borders d)), .d (.sl .plate (Deck.plates d)), .d (.sl .rack (Deck.racks d)), .d (.v (.int .i64 (Deck.arms d)))]), (1, .box [.own 3 .span]), (2, .box [.d (.v (.int .i64 bad))]), (3, .row 82 .span out)] 4 [.sl .span, .int] (fun (a : List Span × Int) => GRes.mk [.d (.v (.bool (Prod.snd a == (0 : Int))))] [(0, .box [.d (.sl .flt (Deck.borders d)), .d (.sl .plate (Deck.plates d)), .d (.sl .rack (Deck.racks d)), .d (.v (.int .i64 (Deck.arms d)))]), (1, .box [.own 4 .span]), (2, .box [.d (.v (.int .i64 (Prod.snd a)))]), (4, .row 82 .span (Prod.fst a))] 5) fun (x : List Span × Int) => bif !Prod.snd x == (0 : Int) then bif Prod.snd x != (0 : Int) then .need ((True ∧ True) ∧ True ∧ True) (.ret ([], Prod.snd x)) else .stop (hd Tryd.f63 3) (mkS 76 [(5, .ptr 0 0), (59, .d (.v (.int .i64 (IntKind.wrap .i64 ((↑(List.length (Deck.borders d)) : Int) - (1 : Int)))))), (60, .d (.v (.int .i64 (0 : Int))))] [(0, .box [.own 1 .span]), (1, .row 82 .span (Prod.fst x))] 2) else .stop (hd Tryd.f63 1) (mkS 76 [(1, .ptr 0 0), (5, .ptr 1 0), (6, .ptr 2 0), (7, .clo (.func 72) [] [.ptr 0 0, .ptr 1 0, .ptr 2 0]), (20, .d (.sl .plate (Deck.plates d))), (21, .d (.v (.int .i64 (↑(List.length (Deck.plates d)) : Int)))), (22, .d (.v (.int .i64 (IntKind.wrap .i64 (i + (1 : Int))))))] [(0, .box [.d (.sl .flt (Deck.borders d)), .d (.sl .plate (Deck.plates d)), .d (.sl .rack (Deck.racks d)), .d (.v (.int .i64 (Deck.arms d)))]), (1, .box [.own 3 .span]), (2, .box [.d (.v (.int .i64 (Prod.snd x)))]), (3, .row 82 .span (Prod.fst x))] 4)) else .stop (hd Tryd.f63 2) (mkS 76 [(1, .ptr 0 0), (5, .ptr 1 0), (6, .ptr 2 0), (7, .clo (.func 72) [] [.ptr 0 0, .ptr 1 0, .ptr 2 0]), (37, .d (.sl .rack (Deck.racks d))), (38, .d (.v (.int .i64 (↑(List.length (Deck.racks d)) : Int)))), (39, .d (.v (.int .i64 (0 : Int))))] [(0, .box [.d (.sl .flt (Deck.borders d)), .d (.sl .plate (Deck.plates d)), .d (.sl .rack (Deck.racks d)), .d (.v (.int .i64 (Deck.arms d)))]), (1, .box [.own 3 .span]), (2, .box [.d (.v (.int .i64 bad))]), (3, .row 82 .span out)] 4)) := by kernel_rfl

end Go.Proofs.Zn

namespace Go.Proofs.Zn
open Go Go.VL

def L45c (d : Deck) (bad : Int) (out : List Span) (i : Int) : AS := mkS 76 [(1, .ptr 0 0), (5, .ptr 1 0), (6, .ptr 2 0), (7, C93 0 1 2), (37, .d (.sl .rack d.racks)), (38, i64 d.racks.length), (39, i64 i)] (H93 d bad out) 4
def L45d (n : Int) (out : List Span) (i : Int) : AS := mkS 76 [(5, .ptr 0 0), (59, i64 n), (60, i64 i)] [(0, .box [.own 1 .span]), (1, .row 82 .span out)] 2


theorem t45c (d : Deck) (bad : Int) (out : List Span) (i : Int) : @Eq (Out (TyTup [.sl .span, .int])) (aexec Tryd.prog codes sigs3 Tryd.f63 (pureFin [.sl .span, .int]) 0 noCut 300 true (hd Tryd.f63 2) (L45c d bad out i)) (bif decide (i < (↑(List.length (Deck.racks d)) : Int)) then .need (((0 : Int) ≤ i ∧ i < (↑(List.length (Deck.racks d)) : Int)) ∧ True) (.callG 72 [.d (.v (.int .i64 (2 : Int))), .d (.v (.int .i64 i)), .d (.v (.int .i64 (Rack.rows (List.getD (Deck.racks d) (Int.toNat i) Ty.rack.dflt)))), .d (.v (.int .i64 (Rack.cols (List.getD (Deck.racks d) (Int.toNat i) Ty.rack.dflt)))), .ptr 0 0, .ptr 1 0, .ptr 2 0] [(0, .box [.d (.sl .flt (Deck.borders d)), .d (.sl .plate (Deck.plates d)), .d (.sl .rack (Deck.racks d)), .d (.v (.int .i64 (Deck.arms d)))]), (1, .box [.own 3 .span]), (2, .box [.d (.v (.int .i64 bad))]), (3, .row 82 .span out)] 4 [.sl .span, .int] (fun (a : List Span × Int) => GRes.mk [.d (.v (.bool (Prod.snd a == (0 : Int))))] [(0, .box [.d (.sl .flt (Deck.borders d)), .d (.sl .plate (Deck.plates d)), .d (.sl .rack (Deck.racks d)), .d (.v (.int .i64 (Deck.arms d)))]), (1, .box [.own 4 .span]), (2, .box [.d (.v (.int .i64 (Prod.snd a)))]), (4, .row 82 .span (Prod.fst a))] 5) fun (x : List Span × Int) => bif !Prod.snd x == (0 : Int) then bif Prod.snd x != (0 : Int) then .need ((True ∧ True) ∧ True ∧ True) (.ret ([], Prod.snd x)) else .stop (hd Tryd.f63 3) (mkS 76 [(5, .ptr 0 0), (59, .d (.v (.int .i64 (IntKind.wrap .i64 ((↑(List.length (Deck.borders d)) : Int) - (1 : Int)))))), (60, .d (.v (.int .i64 (0 : Int))))] [(0, .box [.own 1 .span]), (1, .row 82 .span (Prod.fst x))] 2) else .stop (hd Tryd.f63 2) (mkS 76 [(1, .ptr 0 0), (5, .ptr 1 0), (6, .ptr 2 0), (7, .clo (.func 72) [] [.ptr 0 0, .ptr 1 0, .ptr 2 0]), (37, .d (.sl .rack (Deck.racks d))), (38, .d (.v (.int .i64 (↑(List.length (Deck.racks d)) : Int)))), (39, .d (.v (.int .i64 (IntKind.wrap .i64 (i + (1 : Int))))))] [(0, .box [.d (.sl .flt (Deck.borders d)), .d (.sl .plate (Deck.plates d)), .d (.sl .rack (Deck.racks d)), .d (.v (.int .i64 (Deck.arms d)))]), (1, .box [.own 3 .span]), (2, .box [.d (.v (.int .i64 (Prod.snd x)))]), (3, .row 82 .span (Prod.fst x))] 4)) else bif bad != (0 : Int) then .need ((True ∧ True) ∧ True ∧ True) (.ret ([], bad)) else .stop (hd Tryd.f63 3) (mkS 76 [(5, .ptr 0 0), (59, .d (.v (.int .i64 (IntKind.wrap .i64 ((↑(List.length (Deck.borders d)) : Int) - (1 : Int)))))), (60, .d (.v (.int .i64 (0 : Int))))] [(0, .box [.own 1 .span]), (1, .row 82 .span out)] 2)) := by kernel_rfl

theorem t45d (n : Int) (out : List Span) (i : Int) : @Eq (Out (TyTup [.sl .span, .int])) (aexec Tryd.prog codes sigs3 Tryd.f63 (pureFin [.sl .span, .int]) 0 noCut 300 true (hd Tryd.f63 3) (L45d n out i)) (bif decide (i < n) then .need ((True ∧ True ∧ True) ∧ True) (.need ((List.length out + List.length [Span.mk i i]) * 17 ≤ 35184372088832 ∧ True) (.stop (hd Tryd.f63 3) (mkS 76 [(5, .ptr 0 0), (59, .d (.v (.int .i64 n))), (60, .d (.v (.int .i64 (IntKind.wrap .i64 (i + (1 : Int))))))] [(0, .box [.own 1 .span]), (1, .row 82 .span (out ++ [Span.mk i i]))] 2))) else .need ((0 : Int) ≤ (0 : Int) ∧ (0 : Int) ≤ (out.length : Int) ∧ (out.length : Int) ≤ (out.length : Int) ∧ (out.length : Int) ≤ (out.length : Int)) (.need ((0 + (Int.toNat (out.length : Int) - 0) ≤ List.length out ∧ True) ∧ True ∧ True) (.ret (List.take (Int.toNat (out.length : Int) - 0) (List.drop 0 out), (0 : Int))))) := by kernel_rfl

theorem t47z (d : Deck) : @Eq (Out (TyTup [.int])) (aexec Tryd.prog codes sigs3 Tryd.f23 (pureFin [.int]) 0 noCut 300 false (bodyOf Tryd.f23) (startS Tryd.f23 [⟨.deck, d⟩])) (.need ((True ∧ True ∧ True ∧ True ∧ True) ∧ True) (.callP 38 [⟨.deck, d⟩] [.int] fun (x : Int) => bif x != (0 : Int) then .need (True ∧ True) (.ret x) else .stop (hd Tryd.f23 0) (mkS 45 [(1, .ptr 0 0), (3, .ptr 1 0), (4, .clo (.func 39) [] [.ptr 1 0, .ptr 0 0]), (16, .d (.sl .plate (Deck.plates d))), (17, .d (.v (.int .i64 (↑(List.length (Deck.plates d)) : Int)))), (18, .d (.v (.int .i64 (0 : Int))))] [(0, .box [.d (.sl .flt (Deck.borders d)), .d (.sl .plate (Deck.plates d)), .d (.sl .rack (Deck.racks d)), .d (.v (.int .i64 (Deck.arms d)))]), (1, .box [.d (.v (.int .i64 x))])] 2))) := by kernel_rfl

theorem t45z (d : Deck) : @Eq (Out (TyTup [.sl .span, .int])) (aexec Tryd.prog codes sigs3 Tryd.f63 (pureFin [.sl .span, .int]) 0 noCut 300 false (bodyOf Tryd.f63) (startS Tryd.f63 [⟨.deck, d⟩])) (.need ((True ∧ True ∧ True ∧ True ∧ True) ∧ True) (.callP 38 [⟨.deck, d⟩] [.int] fun (x : Int) => bif x != (0 : Int) then .need ((True ∧ True) ∧ True ∧ True) (.ret ([], x)) else .stop (hd Tryd.f63 0) (mkS 76 [(1, .ptr 0 0), (5, .ptr 1 0), (6, .ptr 2 0), (7, .clo (.func 72) [] [.ptr 0 0, .ptr 1 0, .ptr 2 0])] [(0, .box [.d (.sl .flt (Deck.borders d)), .d (.sl .plate (Deck.plates d)), .d (.sl .rack (Deck.racks d)), .d (.v (.int .i64 (Deck.arms d)))]), (1, .box [.d (.v (.slice none 0 0))]), (2, .box [.d (.v (.int .i64 (0 : Int)))])] 3))) := by kernel_rfl

end Go.Proofs.Zn

/- The table of all parts as zone tells it; what is wrong with a deck: contracts. (Own work.) -/
namespace Go.Proofs.Zn
open Go Go.VL

def H95 (d : Deck) (e : Int) : Heap := [(0, .box [i64 e]), (1, .box (deckC d))]
theorem loop95 {d : Deck} {k u : Int} {n : Nat} (hv : ∀ c, ValidP d ⟨k, u, 0, c⟩) (hn : n ≤ 48) {x : Int} {A : List Item → AS → Prop}
    (hA : Closed Tryd.prog codes sigs3 Tryd.f39 (gFin 2) (fun r' => GRes.Le r' (res95 (H95 d 0) x)) 2 A) (i : Nat) (hi : i ≤ n) (e : Int) (h : (bif e != 0 then e else errL (covL d ((colsL k u n).drop i))) = x) :
    A (hd Tryd.f39 0) (L95 d k u n e i) := by
  have hc : (colsL k u n).length = n := by simp [colsL]
  have fin : e = x → Sat Tryd.prog A (fun r' => GRes.Le r' (res95 (H95 d 0) x)) (.need True (.ret ⟨[.d (.v (.bool (e != 0)))], [(0, .box [i64 e]), (1, .box (deckC d))], 2⟩)) := fun e' => by
    subst e'
    exact ⟨trivial, .of_eq rfl⟩
  refine hA.go (t95a d k u n e i) (sat_bif (fun h1 => sat_bif (fun h2 => ?_) (fun h2 => ?_)) (fun h1 => ?_))
  · have h1 := of_decide_eq_true h1
    have he : e = 0 := by simpa using h2
    have hil : i < (colsL k u n).length := by omega
    have ei : (colsL k u n)[i] = ⟨k, u, 0, (i : Int)⟩ := by simp [colsL]
    rw [List.drop_eq_getElem_cons hil, ei, covL, List.map_cons, he] at h
    refine ⟨⟨T5', T5', trivial⟩, _, c85 (hv i), ?_⟩
    show A (hd Tryd.f39 0) (L95 d k u n (coverS d ⟨k, u, 0, (i : Int)⟩).2 (IntKind.i64.wrap ((i : Int) + 1)))
    rw [wrap_succ (by omega)]
    refine loop95 hv hn hA (i + 1) (by omega) _ ?_
    rw [← h]; rfl
  · refine fin ?_
    have : (e != 0) = true := by simpa using h2
    rw [this] at h; exact h
  · refine fin ?_
    have h1 := of_decide_eq_false h1
    rw [List.drop_eq_nil_of_le (by omega)] at h
    cases he : e != 0
    · rw [he] at h
      have : e = 0 := by simpa using he
      rw [this, ← h]; rfl
    · rw [he] at h; exact h
termination_by n - i
theorem c95 {d : Deck} {k u n : Int} (hv : ∀ c, ValidP d ⟨k, u, 0, c⟩) (h0 : 0 ≤ n) (hn : n ≤ 48) :
    Gc Tryd.prog 39 [i64 k, i64 u, i64 n, .ptr 0 0, .ptr 1 0] (H95 d 0) 2 (res95 (H95 d 0) (errL (covL d (colsL k u n.toNat)))) := by
  obtain ⟨N, rfl⟩ := Int.eq_ofNat_of_zero_le h0
  refine Gc.of_closed (C := codes) (S := sigs3) mixed Tryd.func39 (by kernel_rfl) (fun i T t xs hi h => ?_) fun A hA => hA.go (t95 d k u N 0) ?_
  · rcases (by omega : i = 0 ∨ i = 1) with rfl | rfl
    · have h : some (ABlk.box [i64 _]) = some (ABlk.row T t xs) := h
      cases h
    · have h : some (ABlk.box (deckC d)) = some (ABlk.row T t xs) := h
      cases h
  · exact loop95 hv (by omega) hA 0 (by omega) 0 (by rw [List.drop_zero]; rfl)

theorem err_unit (d : Deck) {k u : Int} {b : Go.VL.Box} (h : boxOk b = true) : errL (covL d (placesS k u b.rows b.cols)) = errL (covL d (colsL k u b.cols.toNat)) := by
  obtain ⟨h1, h2, h3, h4⟩ := boxOk_iff.1 h
  rw [cov_places d (by omega) (by omega)]
  obtain ⟨m, hm⟩ : ∃ m, b.rows.toNat = m + 1 := ⟨b.rows.toNat - 1, by omega⟩
  rw [hm, errL_rep]
theorem map_unit (d : Deck) {k u : Int} {b : Go.VL.Box} (h : boxOk b = true) : (covL d (placesS k u b.rows b.cols)).map Prod.fst = (List.replicate b.rows.toNat ((covL d (colsL k u b.cols.toNat)).map Prod.fst)).flatten := by
  obtain ⟨h1, h2, h3, h4⟩ := boxOk_iff.1 h
  rw [cov_places d (by omega) (by omega), List.map_flatten, List.map_replicate]
theorem try_snd (L : List (Span × Int)) : (tryS L).2 = errL L := by
  unfold tryS
  cases h : errL L != 0
  · have : errL L = 0 := by simpa using h
    rw [this]; rfl
  · rfl
theorem goS_app (out : List Span) (L M : List (Span × Int)) : goS out (L ++ M) = bif errL L != 0 then ([], errL L) else goS (out ++ L.map Prod.fst) M := by
  unfold goS
  rw [errL_app]
  cases h : errL L != 0
  · simp
  · simp [h]

theorem loop47b {d : Deck} (hk : DeckOk d) {r : Int} {A : List Item → AS → Prop} (hA : Closed Tryd.prog codes sigs3 Tryd.f23 (pureFin [.int]) (fun y => y = r) 0 A)
    (i : Nat) (hi : i ≤ d.racks.length) (h : errL (covL d (restR d i)) = r) : A (hd Tryd.f23 1) (L47b d 0 i) := by
  have e2 := lenR d
  have h5 := hk.racks
  refine hA.go (t47b d 0 i) (sat_bif (fun h1 => ?_) (fun h1 => ?_))
  · have h1 := of_decide_eq_true h1
    have hil : i < d.racks.length := by omega
    have hib : i < (boxesR d).length := by omega
    have eb : (boxesR d)[i] = rbox d.racks[i] := by simp [boxesR]
    have hb := hk.boxR _ (List.getElem_mem hib)
    rw [eb] at hb
    obtain ⟨b1, b2, b3, b4⟩ := boxOk_iff.1 hb
    rw [getD_int hil]
    have hu : unitsS 2 (i : Int) ((boxesR d).drop i) = placesS 2 i (rbox d.racks[i]).rows (rbox d.racks[i]).cols ++ unitsS 2 ((i + 1 : Nat) : Int) ((boxesR d).drop (i + 1)) := by
      rw [List.drop_eq_getElem_cons hib, eb, unitsS]; rfl
    rw [restR, hu, List.append_assoc, covL, List.map_append, errL_app, ← covL, ← covL, err_unit d hb] at h
    refine ⟨⟨⟨by omega, by omega⟩, trivial⟩, errL (covL d (colsL 2 i (rbox d.racks[i]).cols.toNat)), c95 (fun c => .inr (.inl ⟨rfl, by simp, by simp; omega⟩)) (n := d.racks[i].cols) (by show 0 ≤ (rbox d.racks[i]).cols; omega) (by show (rbox d.racks[i]).cols ≤ 48; omega), sat_bif (fun h2 => ?_) (fun h2 => ?_)⟩
    · rw [h2] at h; exact ⟨T2', h⟩
    · rw [h2, cond_false] at h
      have h0 : errL (covL d (colsL 2 i (rbox d.racks[i]).cols.toNat)) = 0 := by simpa using h2
      rw [h0, wrap_succ (by omega)]
      exact loop47b hk hA (i + 1) (by omega) h
  · have h1 := of_decide_eq_false h1
    rw [restR, List.drop_eq_nil_of_le (by omega)] at h
    have h : errL (covL d (lanesL (d.borders.length - 1))) = r := h
    rw [lanes_err] at h
    exact ⟨T2', h⟩
termination_by d.racks.length - i
theorem loop47a {d : Deck} (hk : DeckOk d) {r : Int} {A : List Item → AS → Prop} (hA : Closed Tryd.prog codes sigs3 Tryd.f23 (pureFin [.int]) (fun y => y = r) 0 A)
    (i : Nat) (hi : i ≤ d.plates.length) (h : errL (covL d (restS d i)) = r) : A (hd Tryd.f23 0) (L47 d 0 i) := by
  have e2 := lenP d
  have h5 := hk.plates
  refine hA.go (t47a d 0 i) (sat_bif (fun h1 => ?_) (fun h1 => ?_))
  · have h1 := of_decide_eq_true h1
    have hil : i < d.plates.length := by omega
    have hib : i < (boxesP d).length := by omega
    have eb : (boxesP d)[i] = pbox d.plates[i] := by simp [boxesP]
    have hb := hk.boxP _ (List.getElem_mem hib)
    rw [eb] at hb
    obtain ⟨b1, b2, b3, b4⟩ := boxOk_iff.1 hb
    rw [getD_int hil]
    have hu : unitsS 1 (i : Int) ((boxesP d).drop i) = placesS 1 i (pbox d.plates[i]).rows (pbox d.plates[i]).cols ++ unitsS 1 ((i + 1 : Nat) : Int) ((boxesP d).drop (i + 1)) := by
      rw [List.drop_eq_getElem_cons hib, eb, unitsS]; rfl
    rw [restS, hu, List.append_assoc, covL, List.map_append, errL_app, ← covL, ← covL, err_unit d hb] at h
    refine ⟨⟨⟨by omega, by omega⟩, trivial⟩, errL (covL d (colsL 1 i (pbox d.plates[i]).cols.toNat)), c95 (fun c => .inl ⟨rfl, by simp, by simp; omega⟩) (n := d.plates[i].cols) (by show 0 ≤ (pbox d.plates[i]).cols; omega) (by show (pbox d.plates[i]).cols ≤ 48; omega), sat_bif (fun h2 => ?_) (fun h2 => ?_)⟩
    · rw [h2] at h; exact ⟨T2', h⟩
    · rw [h2, cond_false] at h
      have h0 : errL (covL d (colsL 1 i (pbox d.plates[i]).cols.toNat)) = 0 := by simpa using h2
      rw [h0, wrap_succ (by omega)]
      exact loop47a hk hA (i + 1) (by omega) h
  · have h1 := of_decide_eq_false h1
    rw [restS, List.drop_eq_nil_of_le (by omega)] at h
    exact loop47b hk hA 0 (by omega) h
termination_by d.plates.length - i
theorem c47 (d : Deck) : Pure Tryd.prog 23 [⟨.deck, d⟩] [.int] (zoneS d) :=
  Pure.of_closed (C := codes) (S := sigs3) mixed Tryd.func23 (by kernel_rfl) (Nat.le_of_ble_eq_true (by kernel_rfl)) fun A hA => hA.go (t47z d) (by
    generalize hr : zoneS d = r at hA ⊢
    unfold zoneS tableS at hr
    refine ⟨⟨T5', trivial⟩, _, c92 d, sat_bif (fun h => ?_) (fun h => ?_)⟩
    · rw [h] at hr; exact ⟨T2', hr⟩
    · rw [h, cond_false, try_snd] at hr
      have h0 : deckS d = 0 := by simpa using h
      rw [h0]
      exact loop47a (deck_ok h0) hA 0 (by omega) hr)
end Go.Proofs.Zn
