/- The types and the functions of this seat that the spans' laws reach. (Own work.) -/
import Derived.Test.YteaiflgcgpaclaaGreatDoorWD
import Derived.KernelRfl
import Derived.Test.YteaiflgcgpaclaaGreatDoorChecked
import Derived.WalkKit
import Derived.Laws.Externs
set_option linter.unusedVariables false
set_option linter.unusedSimpArgs false
namespace Go.Proofs.Sp
open Go Go.VL

def codes : Codes := fun t => bif t == 3 then some .int else bif t == 175 then some .span else bif t == 5 then some .u8 else none
def cloneOut : List AV → Heap → TyTup [Ty.sl .span] → GRes := fun _ _ x => ⟨[.own 0 .span], [(0, .row 175 .span x)], 1⟩
def pad (n : Nat) (zs : List Span) : List Span := zs ++ List.replicate (n - zs.length) Ty.span.dflt
def dropOut : List AV → Heap → TyTup [Ty.sl .span] → GRes := fun _ H x => match H.get 0 with
  | some (.row _ _ xs) => ⟨[.view 0 .span 0 (List.length x)], [(0, .row 175 .span (pad xs.length x))], 1⟩
  | _ => ⟨[], [], 0⟩
def sortOut : List AV → Heap → TyTup [Ty.sl .span] → GRes := fun _ _ x => ⟨[], [(0, .row 175 .span x)], 1⟩
def sigL : List (Nat × Sig) :=
  [(212, .pure [.span, .span] [.span]), (257, .pure [.sl .span] [.sl .span]), (258, .pure [.span] [.bool]), (259, .pure [] [.span]), (295, .pure [.span, .span] [.bool]), (292, .heap [.sl .span] cloneOut), (291, .heap [.sl .span] dropOut), (293, .heap [.sl .span] sortOut), (308, .heap [.int] fun _ H x => ⟨[.d (.v (.int .i64 x))], H, 1⟩), (294, .pure [.span, .span] [.int])]
def look : List (Nat × Sig) → Nat → Option Sig
  | [], _ => none
  | (k, x) :: l, f => bif k == f then some x else look l f
def sigs : Sigs := look sigL

theorem ofT {f : FuncId} {fn : Func} (hf : Tryz.prog.funcs[f]? = some fn) {args : List Arg} {ts : List Ty} {x : TyTup ts} {cu : Cuts} {n : Nat} {fst : Bool} {T : Out (TyTup ts)}
    (he : aexec Tryz.prog codes sigs fn (pureFin ts) 0 cu n fst (bodyOf fn) (startS fn args) = T) (hb : fn.body.isSome = true) (hnt : Nat.ble args.length fn.ntmps = true) (h : ∀ A, Sat Tryz.prog A (· = x) T) : Pure Tryz.prog f args ts x :=
  Pure.of_tree Tryz.checked.mixed hf hb (Nat.le_of_ble_eq_true hnt) he h

theorem mixed : Tryz.prog.follows .mixedOrders = true := Tryz.checked.mixed

end Go.Proofs.Sp

/- The bits of a float; without its sign: walked. (Own work.) -/
namespace Go.Proofs.Zn
open Go Go.VL Go.RowKit

theorem run91 (b : Nat) (w : World) : (callFunc 199 #[.float .f64 b]).run Tryz.prog w = .ok (.value (.int .u64 b)) w := by
  have h := run_callFunc_extern (e := Extern.MathFloatBits.float64bits) Tryz.func199 (by kernel_rfl) (by kernel_rfl) (by kernel_rfl) (by kernel_rfl) #[.float .f64 b] w
  exact h
theorem run160 (n : Int) (w : World) : (callFunc 58 #[.int .u64 n]).run Tryz.prog w = .ok (.value (.float .f64 n.toNat)) w := by
  have h := run_callFunc_extern (e := Extern.MathFloatBits.float64frombits) Tryz.func58 (by kernel_rfl) (by kernel_rfl) (by kernel_rfl) (by kernel_rfl) #[.int .u64 n] w
  exact h

set_option maxRecDepth 100000 in
theorem w43 (b : Nat) (w : World) : Calls Tryz.prog 296 #[.float .f64 b] w fun e w' => e = .returned (.int .u64 b) ∧ w' = w := by
  have hd := run91 b
  go_enter Tryz.func296, Tryz.ntmps296
  go_wp2
  go_ret
  exact ⟨rfl, rfl⟩
set_option maxRecDepth 100000 in
theorem w158 (b : Nat) (w : World) : Calls Tryz.prog 198 #[.float .f64 b] w fun e w' => e = .returned (.float .f64 (bits BinOp.andNot IntKind.u64 (b : Int) 9223372036854775808).toNat) ∧ w' = w := by
  have hd := run91 b
  have hd2 := run160
  go_enter Tryz.func198, Tryz.ntmps198
  go_wp2
  go_ret
  exact ⟨rfl, rfl⟩

theorem rel_flt {w : World} {K : Nat → Prop} {o : Fl} {v : Value} (h : RelT w K (AV.ofTy .flt o) v) : ∃ b, flOk o b ∧ v = .float .f64 b := by
  cases h with
  | d _ _ h => cases h with
    | f _ b h => exact ⟨b, h, rfl⟩
/-- A walk over one float. -/
theorem Pure.of_flt {f : FuncId} {b : Nat} {ts : List Ty} {y : TyTup ts} {u : Value} (h : ∀ w, Calls Tryz.prog f #[.float .f64 b] w fun e w' => e = .returned u ∧ w' = w) (hy : ∀ w K, RelT w K (ofRes ts y) u) : Pure Tryz.prog f [⟨.flt, some b⟩] ts y := by
  intro w K vs hK hgk hs hr
  have hv : vs = #[.float .f64 b] := by
    have h1 : vs.size = 1 := hs
    have h0 : vs[0]? = some vs[0] := Array.getElem?_eq_getElem (by omega)
    have h2 := hr 0 ⟨.flt, some b⟩ vs[0] rfl h0
    have h3 : vs[0] = .float .f64 b := by
      obtain ⟨b', hb', hv'⟩ := rel_flt h2
      have hb' : b' = b := hb'
      rw [hv', hb']
    apply Array.ext
    · exact h1
    · intro i hi hi2
      have : i = 0 := by have : i < 1 := hi2; omega
      subst this
      exact h3
  subst hv
  exact (h w).mono fun e w' ⟨he, hw⟩ => by
    subst he; subst hw
    exact ⟨u, K, rfl, hy _ K, fun _ h => h, fun _ h => .inl h, hK, .refl _ _⟩
theorem c43 (b : Nat) : Pure Tryz.prog 296 [⟨.flt, some b⟩] [.u64] (b : Int) := Pure.of_flt (w43 b) fun w K => .d _ _ (.v _)
theorem c158 (b : Nat) : Pure Tryz.prog 198 [⟨.flt, some b⟩] [.flt] (some (bits BinOp.andNot IntKind.u64 (b : Int) 9223372036854775808).toNat) := Pure.of_flt (w158 b) fun w K => .d _ _ (.f _ _ rfl)
/-- What holds of all no-numbers holds of some no-number. -/
theorem Pure.nan {f : FuncId} {ts : List Ty} {y : TyTup ts} (h : ∀ b, nanBits b → Pure Tryz.prog f [⟨.flt, some b⟩] ts y) : Pure Tryz.prog f [⟨.flt, none⟩] ts y := by
  intro w K vs hK hgk hs hr
  have h1 : vs.size = 1 := hs
  have h0 : vs[0]? = some vs[0] := Array.getElem?_eq_getElem (by omega)
  have h2 := hr 0 ⟨.flt, none⟩ vs[0] rfl h0
  obtain ⟨b, hb, hv⟩ := rel_flt h2
  refine h b hb w K vs hK hgk hs fun i a v ha hv' => ?_
  match i with
  | 0 =>
    cases ha
    rw [h0] at hv'; cases hv'
    rw [hv]; exact .d _ _ (.f _ _ rfl)
  | i + 1 => cases ha
end Go.Proofs.Zn

/- The types and the functions that the zones' laws reach. (Own work.) -/
namespace Go.Proofs.Zn
open Go Go.VL

def codes : Codes := fun t => bif t == 3 then some .int else bif t == 175 then some .span else bif t == 92 then some .flt else bif t == 116 then some .plate else bif t == 166 then some .rack else bif t == 179 then some .part else bif t == 244 then some .box else none
def sigL : List (Nat × Sig) :=
  [(296, .pure [.flt] [.u64]), (198, .pure [.flt] [.flt]), (119, .pure [.flt] [.int]), (122, .pure [.u64] [.int]), (251, .pure [.flt] [.bool]), (264, .pure [.flt] [.bool]),
   (252, .pure [.sl .flt] [.int]), (253, .pure [.sl .flt, .flt] [.int]), (202, .pure [.sl .flt] [.int]), (218, .pure [.sl .flt] [.int]),
   (206, .pure [.sl .flt, .flt, .flt] [.span, .int]), (255, .pure [.sl .flt, .flt, .flt] [.span, .int]), (288, .pure [.sl .flt, .int, .flt, .flt] [.bool]),
   (217, .pure [.box] [.int]), (203, .pure [.box] [.bool]), (204, .pure [.plate] [.bool]), (141, .pure [.sl .box] [.int]), (142, .pure [.deck] [.sl .box]), (143, .pure [.deck] [.sl .box]),
   (125, .pure [.deck] [.int]), (84, .pure [.deck] [.int, .int, .int]), (208, .pure [.sl .box, .int, .int] [.part]), (130, .pure [.deck, .int] [.part, .int]),
   (220, .pure [.int, .int] [.bool]), (219, .pure [.plate] [.bool]), (153, .pure [.deck] [.int]), (154, .pure [.int, .int, .int, .int] [.sl .part]), (88, .pure [.deck] [.sl .part]), (132, .pure [.deck, .int] [.part, .int]), (152, .pure [.deck] [.int, .int, .int]),
   (205, .pure [.deck, .part] [.row]), (207, .pure [.row, .int] [.flt]), (127, .pure [.deck, .part] [.span, .int]), (254, .pure [.deck, .part] [.flt, .flt]), (209, .pure [.deck, .part] [.span, .int]), (25, .pure [.deck] [.bool])]
def look : List (Nat × Sig) → Nat → Option Sig
  | [], _ => none
  | (k, x) :: l, f => bif k == f then some x else look l f
def sigs : Sigs := look sigL
theorem mixed : Tryz.prog.follows .mixedOrders = true := Tryz.checked.mixed
theorem ofT {f : FuncId} {fn : Func} (hf : Tryz.prog.funcs[f]? = some fn) {args : List Arg} {ts : List Ty} {x : TyTup ts} {cu : Cuts} {n : Nat} {fst : Bool} {T : Out (TyTup ts)}
    (he : aexec Tryz.prog codes sigs fn (pureFin ts) 0 cu n fst (bodyOf fn) (startS fn args) = T) (hb : fn.body.isSome = true) (hnt : Nat.ble args.length fn.ntmps = true) (h : ∀ A, Sat Tryz.prog A (· = x) T) : Pure Tryz.prog f args ts x :=
  Pure.of_tree mixed hf hb (Nat.le_of_ble_eq_true hnt) he h
end Go.Proofs.Zn

namespace Go.Proofs.Zn
open Go Go.VL


theorem t154 (x : Fl) : @Eq (Out (TyTup [.int])) (aexec Tryz.prog codes sigs Tryz.f119 (pureFin [.int]) 0 noCut 200 false (bodyOf Tryz.f119) (startS Tryz.f119 [⟨.flt, x⟩])) (.need ((True ∧ True) ∧ True) (.callP 198 [⟨.flt, x⟩] [.flt] fun (x_1 : Option Nat) => bif Fl.cmp x x != some Ordering.eq then .need (True ∧ True) (.ret (1 : Int)) else bif Fl.cmp x_1 (some 9218868437227405311) == some Ordering.gt then .need (True ∧ True) (.ret (2 : Int)) else bif Fl.cmp x_1 (some 0) == some Ordering.eq then .need (True ∧ True) (.ret (3 : Int)) else bif Fl.cmp x_1 (some 4503599627370496) == some Ordering.lt then .need (True ∧ True) (.ret (4 : Int)) else .need (True ∧ True) (.ret (5 : Int)))) := by kernel_rfl

theorem t155 (x : Int) : @Eq (Out (TyTup [.int])) (aexec Tryz.prog codes sigs Tryz.f122 (pureFin [.int]) 0 noCut 200 false (bodyOf Tryz.f122) (startS Tryz.f122 [⟨.u64, x⟩])) (.need ((0 : Int) ≤ (52 : Int)) (.need ((2048 : Int) ≠ (0 : Int)) (.need ((4503599627370496 : Int) ≠ (0 : Int)) (bif Int.tmod (Int.fdiv x ((2 : Int) ^ min 52 (IntKind.bits .u64))) (2048 : Int) == (2047 : Int) then bif Int.tmod x (4503599627370496 : Int) != (0 : Int) then .need (True ∧ True) (.ret (1 : Int)) else bif Int.tmod (Int.fdiv x ((2 : Int) ^ min 52 (IntKind.bits .u64))) (2048 : Int) == (2047 : Int) then .need (True ∧ True) (.ret (2 : Int)) else bif Int.tmod (Int.fdiv x ((2 : Int) ^ min 52 (IntKind.bits .u64))) (2048 : Int) == (0 : Int) then bif Int.tmod x (4503599627370496 : Int) == (0 : Int) then .need (True ∧ True) (.ret (3 : Int)) else bif Int.tmod (Int.fdiv x ((2 : Int) ^ min 52 (IntKind.bits .u64))) (2048 : Int) == (0 : Int) then .need (True ∧ True) (.ret (4 : Int)) else .need (True ∧ True) (.ret (5 : Int)) else bif Int.tmod (Int.fdiv x ((2 : Int) ^ min 52 (IntKind.bits .u64))) (2048 : Int) == (0 : Int) then .need (True ∧ True) (.ret (4 : Int)) else .need (True ∧ True) (.ret (5 : Int)) else bif Int.tmod (Int.fdiv x ((2 : Int) ^ min 52 (IntKind.bits .u64))) (2048 : Int) == (2047 : Int) then .need (True ∧ True) (.ret (2 : Int)) else bif Int.tmod (Int.fdiv x ((2 : Int) ^ min 52 (IntKind.bits .u64))) (2048 : Int) == (0 : Int) then bif Int.tmod x (4503599627370496 : Int) == (0 : Int) then .need (True ∧ True) (.ret (3 : Int)) else bif Int.tmod (Int.fdiv x ((2 : Int) ^ min 52 (IntKind.bits .u64))) (2048 : Int) == (0 : Int) then .need (True ∧ True) (.ret (4 : Int)) else .need (True ∧ True) (.ret (5 : Int)) else bif Int.tmod (Int.fdiv x ((2 : Int) ^ min 52 (IntKind.bits .u64))) (2048 : Int) == (0 : Int) then .need (True ∧ True) (.ret (4 : Int)) else .need (True ∧ True) (.ret (5 : Int)))))) := by kernel_rfl

theorem t142 (x : Fl) : @Eq (Out (TyTup [.bool])) (aexec Tryz.prog codes sigs Tryz.f251 (pureFin [.bool]) 0 noCut 200 false (bodyOf Tryz.f251) (startS Tryz.f251 [⟨.flt, x⟩])) (.need ((True ∧ True) ∧ True) (.callP 119 [⟨.flt, x⟩] [.int] fun (x : Int) => .need (True ∧ True) (.ret (x == (1 : Int))))) := by kernel_rfl

theorem t145 (x : Fl) : @Eq (Out (TyTup [.bool])) (aexec Tryz.prog codes sigs Tryz.f264 (pureFin [.bool]) 0 noCut 200 false (bodyOf Tryz.f264) (startS Tryz.f264 [⟨.flt, x⟩])) (.need ((True ∧ True) ∧ True) (.callP 296 [⟨.flt, x⟩] [.u64] fun (x : Int) => .need ((True ∧ True) ∧ True) (.callP 122 [⟨.u64, x⟩] [.int] fun (x : Int) => .need (True ∧ True) (.ret (x == (1 : Int)))))) := by kernel_rfl

theorem t143 (l : List Fl) : @Eq (Out (TyTup [.int])) (aexec Tryz.prog codes sigs Tryz.f252 (pureFin [.int]) 0 noCut 200 false (bodyOf Tryz.f252) (startS Tryz.f252 [⟨.sl .flt, l⟩])) (.need (True ∧ True) (.ret (IntKind.wrap .i64 ((l.length : Int) - (1 : Int))))) := by kernel_rfl

theorem t144 (l : List Fl) (x : Fl) : @Eq (Out (TyTup [.int])) (aexec Tryz.prog codes sigs Tryz.f253 (pureFin [.int]) 0 noCut 200 false (bodyOf Tryz.f253) (startS Tryz.f253 [⟨.sl .flt, l⟩, ⟨.flt, x⟩])) (.need ((True ∧ True) ∧ True) (.callP 252 [Sigma.mk (.sl .flt) l] [.int] fun (x_1 : Int) => .need (((0 : Int) ≤ (0 : Int) ∧ (0 : Int) ≤ x_1 ∧ x_1 ≤ (l.length : Int)) ∧ True) (.stop (hd Tryz.f253 0) (mkS 25 [(1, .d (.f x)), (5, .d (.v (.int .i64 (0 : Int)))), (11, .d (.sl .flt (List.drop 0 (List.take (Int.toNat x_1) l)))), (12, .d (.v (.int .i64 (↑(List.length (List.drop 0 (List.take (Int.toNat x_1) l))) : Int)))), (13, .d (.v (.int .i64 (0 : Int))))] [] 0)))) := by kernel_rfl

theorem t125 (l : List Fl) : @Eq (Out (TyTup [.int])) (aexec Tryz.prog codes sigs Tryz.f202 (pureFin [.int]) 0 noCut 200 false (bodyOf Tryz.f202) (startS Tryz.f202 [⟨.sl .flt, l⟩])) (bif decide ((l.length : Int) < (2 : Int)) then .need (True ∧ True) (.ret (1 : Int)) else bif decide ((l.length : Int) > (25 : Int)) then .need (True ∧ True) (.ret (2 : Int)) else .stop (hd Tryz.f202 0) (mkS 35 [(0, .d (.sl .flt l)), (13, .d (.sl .flt l)), (14, .d (.v (.int .i64 (l.length : Int)))), (15, .d (.v (.int .i64 (0 : Int))))] [] 0)) := by kernel_rfl

theorem t121 (l : List Fl) : @Eq (Out (TyTup [.int])) (aexec Tryz.prog codes sigs Tryz.f218 (pureFin [.int]) 0 noCut 200 false (bodyOf Tryz.f218) (startS Tryz.f218 [⟨.sl .flt, l⟩])) (bif decide ((l.length : Int) < (2 : Int)) then .need (True ∧ True) (.ret (1 : Int)) else bif decide ((l.length : Int) > (25 : Int)) then .need (True ∧ True) (.ret (2 : Int)) else .stop (hd Tryz.f218 0) (mkS 35 [(0, .d (.sl .flt l)), (3, .d (.v (.int .i64 (0 : Int))))] [] 0)) := by kernel_rfl

theorem t119 (l : List Fl) (x : Fl) (r : Fl) : @Eq (Out (TyTup [.span, .int])) (aexec Tryz.prog codes sigs Tryz.f206 (pureFin [.span, .int]) 0 noCut 200 false (bodyOf Tryz.f206) (startS Tryz.f206 [⟨.sl .flt, l⟩, ⟨.flt, x⟩, ⟨.flt, r⟩])) (.need ((True ∧ True) ∧ True) (.callP 202 [Sigma.mk (.sl .flt) l] [.int] fun (x_1 : Int) => bif x_1 != (0 : Int) then .need ((True ∧ True ∧ True) ∧ True ∧ True) (.ret (Span.mk (0 : Int) (0 : Int), x_1)) else .need ((True ∧ True) ∧ True) (.callP 251 [⟨.flt, x⟩] [.bool] fun (x_2 : Bool) => bif x_2 then .need ((True ∧ True ∧ True) ∧ True ∧ True) (.ret (Span.mk (0 : Int) (0 : Int), (20 : Int))) else .need ((True ∧ True) ∧ True) (.callP 251 [⟨.flt, r⟩] [.bool] fun (x_3 : Bool) => bif x_3 then .need ((True ∧ True ∧ True) ∧ True ∧ True) (.ret (Span.mk (0 : Int) (0 : Int), (20 : Int))) else bif Fl.cmp r (some 0) == some Ordering.lt then .need ((True ∧ True ∧ True) ∧ True ∧ True) (.ret (Span.mk (0 : Int) (0 : Int), (22 : Int))) else .need ((True ∧ True) ∧ True) (.callP 251 [Sigma.mk .flt (Fl.arith BinOp.sub x r)] [.bool] fun (x_4 : Bool) => bif x_4 then .need ((True ∧ True ∧ True) ∧ True ∧ True) (.ret (Span.mk (0 : Int) (0 : Int), (20 : Int))) else .need ((True ∧ True) ∧ True) (.callP 251 [Sigma.mk .flt (Fl.arith BinOp.add x r)] [.bool] fun (x_5 : Bool) => bif x_5 then .need ((True ∧ True ∧ True) ∧ True ∧ True) (.ret (Span.mk (0 : Int) (0 : Int), (20 : Int))) else .need (((0 : Int) ≤ (0 : Int) ∧ (0 : Int) < (l.length : Int)) ∧ True) (bif Fl.cmp (Fl.arith BinOp.add x r) (List.getD l 0 Ty.flt.dflt) == some Ordering.lt then .need ((True ∧ True ∧ True) ∧ True ∧ True) (.ret (Span.mk (0 : Int) (0 : Int), (71 : Int))) else .need ((True ∧ True) ∧ True) (.callP 252 [Sigma.mk (.sl .flt) l] [.int] fun (x_6 : Int) => .need (((0 : Int) ≤ x_6 ∧ x_6 < (l.length : Int)) ∧ True) (bif Fl.cmp (Fl.arith BinOp.sub x r) (l.getD x_6.toNat Ty.flt.dflt) == some Ordering.gt then .need ((True ∧ True ∧ True) ∧ True ∧ True) (.ret (Span.mk (0 : Int) (0 : Int), (71 : Int))) else .need ((True ∧ True) ∧ (True ∧ True) ∧ True) (.callP 253 [Sigma.mk (.sl .flt) l, Sigma.mk .flt (Fl.arith BinOp.sub x r)] [.int] fun (x_7 : Int) => .need ((True ∧ True) ∧ (True ∧ True) ∧ True) (.callP 253 [Sigma.mk (.sl .flt) l, Sigma.mk .flt (Fl.arith BinOp.add x r)] [.int] fun (x : Int) => .need ((True ∧ True ∧ True) ∧ True ∧ True) (.ret (Span.mk (IntKind.wrap .i64 ((if (1 : Int) > x_7 then (1 : Int) else x_7) - (1 : Int))) (IntKind.wrap .i64 (x - (1 : Int))), (0 : Int)))))))))))))) := by kernel_rfl

theorem t120 (l : List Fl) (x : Fl) (r : Fl) : @Eq (Out (TyTup [.span, .int])) (aexec Tryz.prog codes sigs Tryz.f255 (pureFin [.span, .int]) 0 noCut 200 false (bodyOf Tryz.f255) (startS Tryz.f255 [⟨.sl .flt, l⟩, ⟨.flt, x⟩, ⟨.flt, r⟩])) (.need ((True ∧ True) ∧ True) (.callP 218 [Sigma.mk (.sl .flt) l] [.int] fun (x_1 : Int) => bif x_1 != (0 : Int) then .need ((True ∧ True ∧ True) ∧ True ∧ True) (.ret (Span.mk (0 : Int) (0 : Int), x_1)) else .need ((True ∧ True) ∧ True) (.callP 264 [⟨.flt, x⟩] [.bool] fun (x_2 : Bool) => bif x_2 then .need ((True ∧ True ∧ True) ∧ True ∧ True) (.ret (Span.mk (0 : Int) (0 : Int), (20 : Int))) else .need ((True ∧ True) ∧ True) (.callP 264 [⟨.flt, r⟩] [.bool] fun (x_3 : Bool) => bif x_3 then .need ((True ∧ True ∧ True) ∧ True ∧ True) (.ret (Span.mk (0 : Int) (0 : Int), (20 : Int))) else bif Fl.cmp r (some 0) == some Ordering.lt then .need ((True ∧ True ∧ True) ∧ True ∧ True) (.ret (Span.mk (0 : Int) (0 : Int), (22 : Int))) else .need ((True ∧ True) ∧ True) (.callP 264 [Sigma.mk .flt (Fl.arith BinOp.sub x r)] [.bool] fun (x_4 : Bool) => bif x_4 then .need ((True ∧ True ∧ True) ∧ True ∧ True) (.ret (Span.mk (0 : Int) (0 : Int), (20 : Int))) else .need ((True ∧ True) ∧ True) (.callP 264 [Sigma.mk .flt (Fl.arith BinOp.add x r)] [.bool] fun (x_5 : Bool) => bif x_5 then .need ((True ∧ True ∧ True) ∧ True ∧ True) (.ret (Span.mk (0 : Int) (0 : Int), (20 : Int))) else .stop (hd Tryz.f255 0) (mkS 72 [(0, .d (.sl .flt l)), (6, .ptr 0 0), (9, .d (.f (Fl.arith BinOp.sub x r))), (10, .d (.f (Fl.arith BinOp.add x r))), (11, .d (.v (.slice none 0 0))), (12, .d (.v (.int .i64 (0 : Int))))] [(0, .box [.d (.v (.int .i64 (0 : Int))), .d (.v (.int .i64 (0 : Int)))])] 1))))))) := by kernel_rfl

theorem t146 (l : List Fl) (k : Int) (a : Fl) (b : Fl) : @Eq (Out (TyTup [.bool])) (aexec Tryz.prog codes sigs Tryz.f288 (pureFin [.bool]) 0 noCut 200 false (bodyOf Tryz.f288) (startS Tryz.f288 [⟨.sl .flt, l⟩, ⟨.int, k⟩, ⟨.flt, a⟩, ⟨.flt, b⟩])) (bif IntKind.wrap .i64 (k + (2 : Int)) == (l.length : Int) then .need (((0 : Int) ≤ IntKind.wrap .i64 (k + (1 : Int)) ∧ IntKind.wrap .i64 (k + (1 : Int)) < (l.length : Int)) ∧ True) (bif Fl.cmp a (List.getD l (Int.toNat (IntKind.wrap .i64 (k + (1 : Int)))) Ty.flt.dflt) == some Ordering.lt || Fl.cmp a (List.getD l (Int.toNat (IntKind.wrap .i64 (k + (1 : Int)))) Ty.flt.dflt) == some Ordering.eq then .need (((0 : Int) ≤ k ∧ k < (l.length : Int)) ∧ True) (.need (True ∧ True) (.ret (Fl.cmp b (l.getD k.toNat Ty.flt.dflt) == some Ordering.gt || Fl.cmp b (l.getD k.toNat Ty.flt.dflt) == some Ordering.eq))) else .need (True ∧ True) (.ret false)) else .need (((0 : Int) ≤ IntKind.wrap .i64 (k + (1 : Int)) ∧ IntKind.wrap .i64 (k + (1 : Int)) < (l.length : Int)) ∧ True) (bif Fl.cmp a (List.getD l (Int.toNat (IntKind.wrap .i64 (k + (1 : Int)))) Ty.flt.dflt) == some Ordering.lt then .need (((0 : Int) ≤ k ∧ k < (l.length : Int)) ∧ True) (.need (True ∧ True) (.ret (Fl.cmp b (l.getD k.toNat Ty.flt.dflt) == some Ordering.gt || Fl.cmp b (l.getD k.toNat Ty.flt.dflt) == some Ordering.eq))) else .need (True ∧ True) (.ret false))) := by kernel_rfl

theorem t141 (b : Go.VL.Box) : @Eq (Out (TyTup [.int])) (aexec Tryz.prog codes sigs Tryz.f217 (pureFin [.int]) 0 noCut 200 false (bodyOf Tryz.f217) (startS Tryz.f217 [⟨.box, b⟩])) (.need (True ∧ True) (.ret (IntKind.wrap .i64 (Box.rows b * Box.cols b)))) := by kernel_rfl

theorem t126 (b : Go.VL.Box) : @Eq (Out (TyTup [.bool])) (aexec Tryz.prog codes sigs Tryz.f203 (pureFin [.bool]) 0 noCut 200 false (bodyOf Tryz.f203) (startS Tryz.f203 [⟨.box, b⟩])) (bif decide (Box.rows b ≥ (1 : Int)) then bif decide (Box.rows b ≤ (32 : Int)) then bif decide (Box.cols b ≥ (1 : Int)) then .need (True ∧ True) (.ret (decide (Box.cols b ≤ (48 : Int)))) else .need (True ∧ True) (.ret false) else .need (True ∧ True) (.ret false) else .need (True ∧ True) (.ret false)) := by kernel_rfl

theorem t127 (p : Plate) : @Eq (Out (TyTup [.bool])) (aexec Tryz.prog codes sigs Tryz.f204 (pureFin [.bool]) 0 noCut 200 false (bodyOf Tryz.f204) (startS Tryz.f204 [⟨.plate, p⟩])) (bif decide (Plate.cap p < (1 : Int)) then .need (True ∧ True) (.ret false) else bif decide (Plate.cap p > (1099511627776 : Int)) then .need (True ∧ True) (.ret false) else bif decide ((↑(List.length (Plate.start p)) : Int) > IntKind.wrap .i64 (Plate.rows p * Plate.cols p)) then .need (True ∧ True) (.ret false) else .stop (hd Tryz.f204 0) (mkS 40 [(1, .ptr 0 0), (25, .d (.sl .int (Plate.start p))), (26, .d (.v (.int .i64 (↑(List.length (Plate.start p)) : Int)))), (27, .d (.v (.int .i64 (0 : Int))))] [(0, .box [.d (.v (.int .i64 (Plate.rows p))), .d (.v (.int .i64 (Plate.cols p))), .d (.f (Plate.x p)), .d (.f (Plate.pitch p)), .d (.f (Plate.reach p)), .d (.v (.int .i64 (Plate.cap p))), .d (.sl .int (Plate.start p))])] 1)) := by kernel_rfl

theorem t128 (l : List Go.VL.Box) : @Eq (Out (TyTup [.int])) (aexec Tryz.prog codes sigs Tryz.f141 (pureFin [.int]) 0 noCut 200 false (bodyOf Tryz.f141) (startS Tryz.f141 [⟨.sl .box, l⟩])) (.stop (hd Tryz.f141 0) (mkS 18 [(3, .d (.v (.int .i64 (0 : Int)))), (6, .d (.sl .box l)), (7, .d (.v (.int .i64 (l.length : Int)))), (8, .d (.v (.int .i64 (0 : Int))))] [] 0)) := by kernel_rfl

theorem t117 (d : Deck) : @Eq (Out (TyTup [.sl .box])) (aexec Tryz.prog codes sigs Tryz.f142 (pureFin [.sl .box]) 0 noCut 200 false (bodyOf Tryz.f142) (startS Tryz.f142 [⟨.deck, d⟩])) (.stop (hd Tryz.f142 0) (mkS 23 [(3, .d (.v (.slice none 0 0))), (7, .d (.sl .plate (Deck.plates d))), (8, .d (.v (.int .i64 (↑(List.length (Deck.plates d)) : Int)))), (9, .d (.v (.int .i64 (0 : Int))))] [] 0)) := by kernel_rfl

theorem t118 (d : Deck) : @Eq (Out (TyTup [.sl .box])) (aexec Tryz.prog codes sigs Tryz.f143 (pureFin [.sl .box]) 0 noCut 200 false (bodyOf Tryz.f143) (startS Tryz.f143 [⟨.deck, d⟩])) (.stop (hd Tryz.f143 0) (mkS 23 [(3, .d (.v (.slice none 0 0))), (7, .d (.sl .rack (Deck.racks d))), (8, .d (.v (.int .i64 (↑(List.length (Deck.racks d)) : Int)))), (9, .d (.v (.int .i64 (0 : Int))))] [] 0)) := by kernel_rfl

theorem t92 (d : Deck) : @Eq (Out (TyTup [.int])) (aexec Tryz.prog codes sigs Tryz.f125 (pureFin [.int]) 0 noCut 300 false (bodyOf Tryz.f125) (startS Tryz.f125 [⟨.deck, d⟩])) (.need ((True ∧ True) ∧ True) (.callP 202 [Sigma.mk (.sl .flt) (Deck.borders d)] [.int] fun (x : Int) => bif x != (0 : Int) then .need (True ∧ True) (.ret x) else bif decide (Deck.arms d < (1 : Int)) then .need (True ∧ True) (.ret (80 : Int)) else bif decide (Deck.arms d > (8 : Int)) then .need (True ∧ True) (.ret (80 : Int)) else bif decide ((↑(List.length (Deck.plates d)) : Int) > (4 : Int)) then .need (True ∧ True) (.ret (2 : Int)) else bif decide ((↑(List.length (Deck.racks d)) : Int) > (4 : Int)) then .need (True ∧ True) (.ret (2 : Int)) else .need ((True ∧ True ∧ True ∧ True ∧ True) ∧ True) (.callP 142 [⟨.deck, d⟩] [.sl .box] fun (x : List Box) => .need ((True ∧ True ∧ True ∧ True ∧ True) ∧ True) (.callP 143 [⟨.deck, d⟩] [.sl .box] fun (x_1 : List Box) => .stop (hd Tryz.f125 0) (mkS 78 [(1, .ptr 0 0), (4, .d (.sl .box x)), (5, .d (.sl .box x_1)), (40, .d (.sl .box x)), (41, .d (.v (.int .i64 (x.length : Int)))), (42, .d (.v (.int .i64 (0 : Int))))] [(0, .box [.d (.sl .flt (Deck.borders d)), .d (.sl .plate (Deck.plates d)), .d (.sl .rack (Deck.racks d)), .d (.v (.int .i64 (Deck.arms d)))])] 1))))) := by kernel_rfl

theorem t115 (d : Deck) : @Eq (Out (TyTup [.int, .int, .int])) (aexec Tryz.prog codes sigs Tryz.f84 (pureFin [.int, .int, .int]) 0 noCut 200 false (bodyOf Tryz.f84) (startS Tryz.f84 [⟨.deck, d⟩])) (.need ((True ∧ True ∧ True ∧ True ∧ True) ∧ True) (.callP 125 [⟨.deck, d⟩] [.int] fun (x : Int) => bif x != (0 : Int) then .need ((True ∧ True) ∧ (True ∧ True) ∧ True ∧ True) (.ret ((0 : Int), (0 : Int), (0 : Int))) else .need ((True ∧ True ∧ True ∧ True ∧ True) ∧ True) (.callP 142 [⟨.deck, d⟩] [.sl .box] fun (x : List Box) => .need ((True ∧ True) ∧ True) (.callP 141 [Sigma.mk (.sl .box) x] [.int] fun (x : Int) => .need ((True ∧ True ∧ True ∧ True ∧ True) ∧ True) (.callP 143 [⟨.deck, d⟩] [.sl .box] fun (x_1 : List Box) => .need ((True ∧ True) ∧ True) (.callP 141 [Sigma.mk (.sl .box) x_1] [.int] fun (x_2 : Int) => .need ((True ∧ True) ∧ (True ∧ True) ∧ True ∧ True) (.ret (x, x_2, IntKind.wrap .i64 ((↑(List.length (Deck.borders d)) : Int) - (1 : Int)))))))))) := by kernel_rfl

theorem t116 (l : List Go.VL.Box) (k : Int) (n : Int) : @Eq (Out (TyTup [.part])) (aexec Tryz.prog codes sigs Tryz.f208 (pureFin [.part]) 0 noCut 200 false (bodyOf Tryz.f208) (startS Tryz.f208 [⟨.sl .box, l⟩, ⟨.int, k⟩, ⟨.int, n⟩])) (.stop (hd Tryz.f208 0) (mkS 41 [(2, .d (.v (.int .i64 n))), (6, .ptr 0 0), (7, .ptr 1 0), (12, .d (.sl .box l)), (13, .d (.v (.int .i64 (l.length : Int)))), (14, .d (.v (.int .i64 (0 : Int))))] [(0, .box [.d (.v (.int .i64 (0 : Int))), .d (.v (.int .i64 (0 : Int))), .d (.v (.int .i64 (0 : Int))), .d (.v (.int .i64 (0 : Int)))]), (1, .box [.d (.v (.int .i64 k)), .d (.v (.int .i64 (0 : Int))), .d (.v (.int .i64 (0 : Int))), .d (.v (.int .i64 (0 : Int)))])] 2)) := by kernel_rfl

theorem t84 (d : Deck) (i : Int) : @Eq (Out (TyTup [.part, .int])) (aexec Tryz.prog codes sigs Tryz.f130 (pureFin [.part, .int]) 0 noCut 200 false (bodyOf Tryz.f130) (startS Tryz.f130 [⟨.deck, d⟩, ⟨.int, i⟩])) (.need ((True ∧ True ∧ True ∧ True ∧ True) ∧ True) (.callP 125 [⟨.deck, d⟩] [.int] fun (x : Int) => bif x != (0 : Int) then .need ((True ∧ True ∧ True ∧ True ∧ True) ∧ True ∧ True) (.ret (Part.mk (0 : Int) (0 : Int) (0 : Int) (0 : Int), x)) else .need ((True ∧ True ∧ True ∧ True ∧ True) ∧ True) (.callP 84 [⟨.deck, d⟩] [.int, .int, .int] fun (x : Int × Int × Int) => bif decide (i < (0 : Int)) then .need ((True ∧ True ∧ True ∧ True ∧ True) ∧ True ∧ True) (.ret (Part.mk (0 : Int) (0 : Int) (0 : Int) (0 : Int), (3 : Int))) else bif decide (i ≥ IntKind.wrap .i64 (IntKind.wrap .i64 (Prod.fst x + Prod.fst (Prod.snd x)) + Prod.snd (Prod.snd x))) then .need ((True ∧ True ∧ True ∧ True ∧ True) ∧ True ∧ True) (.ret (Part.mk (0 : Int) (0 : Int) (0 : Int) (0 : Int), (3 : Int))) else bif decide (i < Prod.fst x) then .need ((True ∧ True ∧ True ∧ True ∧ True) ∧ True) (.callP 142 [⟨.deck, d⟩] [.sl .box] fun (x : List Box) => .need ((True ∧ True) ∧ (True ∧ True) ∧ (True ∧ True) ∧ True) (.callP 208 [Sigma.mk (.sl .box) x, Sigma.mk .int (1 : Int), ⟨.int, i⟩] [.part] fun (x : Part) => .need ((True ∧ True ∧ True ∧ True ∧ True) ∧ True ∧ True) (.ret (x, (0 : Int))))) else bif decide (i < IntKind.wrap .i64 (Prod.fst x + Prod.fst (Prod.snd x))) then .need ((True ∧ True ∧ True ∧ True ∧ True) ∧ True) (.callP 143 [⟨.deck, d⟩] [.sl .box] fun (x_1 : List Box) => .need ((True ∧ True) ∧ (True ∧ True) ∧ (True ∧ True) ∧ True) (.callP 208 [Sigma.mk (.sl .box) x_1, Sigma.mk .int (2 : Int), Sigma.mk .int (IntKind.wrap .i64 (i - Prod.fst x))] [.part] fun (x : Part) => .need ((True ∧ True ∧ True ∧ True ∧ True) ∧ True ∧ True) (.ret (x, (0 : Int))))) else .need ((True ∧ True ∧ True ∧ True ∧ True) ∧ True ∧ True) (.ret (Part.mk (3 : Int) (IntKind.wrap .i64 (IntKind.wrap .i64 (i - Prod.fst x) - Prod.fst (Prod.snd x))) (0 : Int) (0 : Int), (0 : Int)))))) := by kernel_rfl

theorem t123 (r : Int) (c : Int) : @Eq (Out (TyTup [.bool])) (aexec Tryz.prog codes sigs Tryz.f220 (pureFin [.bool]) 0 noCut 200 false (bodyOf Tryz.f220) (startS Tryz.f220 [⟨.int, r⟩, ⟨.int, c⟩])) (bif decide (r ≥ (1 : Int)) then bif decide (r ≤ (32 : Int)) then bif decide (c ≥ (1 : Int)) then .need (True ∧ True) (.ret (decide (c ≤ (48 : Int)))) else .need (True ∧ True) (.ret false) else .need (True ∧ True) (.ret false) else .need (True ∧ True) (.ret false)) := by kernel_rfl

theorem t122 (p : Plate) : @Eq (Out (TyTup [.bool])) (aexec Tryz.prog codes sigs Tryz.f219 (pureFin [.bool]) 0 noCut 200 false (bodyOf Tryz.f219) (startS Tryz.f219 [⟨.plate, p⟩])) (.need ((True ∧ True) ∧ (True ∧ True) ∧ True) (.callP 220 [Sigma.mk .int (Plate.rows p), Sigma.mk .int (Plate.cols p)] [.bool] fun (x : Bool) => bif !x then .need (True ∧ True) (.ret false) else bif decide (Plate.cap p < (1 : Int)) then .need (True ∧ True) (.ret false) else bif decide (Plate.cap p > (1099511627776 : Int)) then .need (True ∧ True) (.ret false) else bif decide ((↑(List.length (Plate.start p)) : Int) > IntKind.wrap .i64 (Plate.rows p * Plate.cols p)) then .need (True ∧ True) (.ret false) else .stop (hd Tryz.f219 0) (mkS 54 [(1, .ptr 0 0), (3, .d (.v (.int .i64 (0 : Int))))] [(0, .box [.d (.v (.int .i64 (Plate.rows p))), .d (.v (.int .i64 (Plate.cols p))), .d (.f (Plate.x p)), .d (.f (Plate.pitch p)), .d (.f (Plate.reach p)), .d (.v (.int .i64 (Plate.cap p))), .d (.sl .int (Plate.start p))])] 1))) := by kernel_rfl

theorem t89 (d : Deck) : @Eq (Out (TyTup [.int])) (aexec Tryz.prog codes sigs Tryz.f153 (pureFin [.int]) 0 noCut 300 false (bodyOf Tryz.f153) (startS Tryz.f153 [⟨.deck, d⟩])) (.need ((True ∧ True) ∧ True) (.callP 218 [Sigma.mk (.sl .flt) (Deck.borders d)] [.int] fun (x : Int) => bif x != (0 : Int) then .need (True ∧ True) (.ret x) else bif decide (Deck.arms d < (1 : Int)) then .need (True ∧ True) (.ret (80 : Int)) else bif decide (Deck.arms d > (8 : Int)) then .need (True ∧ True) (.ret (80 : Int)) else bif decide ((↑(List.length (Deck.plates d)) : Int) > (4 : Int)) then .need (True ∧ True) (.ret (2 : Int)) else bif decide ((↑(List.length (Deck.racks d)) : Int) > (4 : Int)) then .need (True ∧ True) (.ret (2 : Int)) else .stop (hd Tryz.f153 0) (mkS 103 [(1, .ptr 0 0), (4, .d (.v (.int .i64 (0 : Int)))), (5, .d (.v (.int .i64 (0 : Int)))), (6, .d (.v (.int .i64 (0 : Int))))] [(0, .box [.d (.sl .flt (Deck.borders d)), .d (.sl .plate (Deck.plates d)), .d (.sl .rack (Deck.racks d)), .d (.v (.int .i64 (Deck.arms d)))])] 1))) := by kernel_rfl

theorem t124 (k : Int) (u : Int) (r : Int) (c : Int) : @Eq (Out (TyTup [.sl .part])) (aexec Tryz.prog codes sigs Tryz.f154 (pureFin [.sl .part]) 0 noCut 200 false (bodyOf Tryz.f154) (startS Tryz.f154 [⟨.int, k⟩, ⟨.int, u⟩, ⟨.int, r⟩, ⟨.int, c⟩])) (.stop (hd Tryz.f154 0) (mkS 31 [(0, .d (.v (.int .i64 k))), (1, .d (.v (.int .i64 u))), (2, .d (.v (.int .i64 r))), (3, .d (.v (.int .i64 c))), (9, .d (.v (.slice none 0 0))), (10, .d (.v (.int .i64 (0 : Int))))] [] 0)) := by kernel_rfl

theorem t90 (d : Deck) : @Eq (Out (TyTup [.sl .part])) (aexec Tryz.prog codes sigs Tryz.f88 (pureFin [.sl .part]) 0 noCut 200 false (bodyOf Tryz.f88) (startS Tryz.f88 [⟨.deck, d⟩])) (.need ((True ∧ True ∧ True ∧ True ∧ True) ∧ True) (.callP 153 [⟨.deck, d⟩] [.int] fun (x : Int) => bif x != (0 : Int) then .need (True ∧ True) (.ret []) else .stop (hd Tryz.f88 0) (mkS 71 [(1, .ptr 0 0), (3, .d (.v (.slice none 0 0))), (4, .d (.v (.int .i64 (0 : Int))))] [(0, .box [.d (.sl .flt (Deck.borders d)), .d (.sl .plate (Deck.plates d)), .d (.sl .rack (Deck.racks d)), .d (.v (.int .i64 (Deck.arms d)))])] 1))) := by kernel_rfl

theorem t42 (d : Deck) (i : Int) : @Eq (Out (TyTup [.part, .int])) (aexec Tryz.prog codes sigs Tryz.f132 (pureFin [.part, .int]) 0 noCut 200 false (bodyOf Tryz.f132) (startS Tryz.f132 [⟨.deck, d⟩, ⟨.int, i⟩])) (.need ((True ∧ True ∧ True ∧ True ∧ True) ∧ True) (.callP 153 [⟨.deck, d⟩] [.int] fun (x : Int) => bif x != (0 : Int) then .need ((True ∧ True ∧ True ∧ True ∧ True) ∧ True ∧ True) (.ret (Part.mk (0 : Int) (0 : Int) (0 : Int) (0 : Int), x)) else .need ((True ∧ True ∧ True ∧ True ∧ True) ∧ True) (.callP 88 [⟨.deck, d⟩] [.sl .part] fun (x : List Part) => bif decide (i < (0 : Int)) then .need ((True ∧ True ∧ True ∧ True ∧ True) ∧ True ∧ True) (.ret (Part.mk (0 : Int) (0 : Int) (0 : Int) (0 : Int), (3 : Int))) else bif decide (i ≥ (x.length : Int)) then .need ((True ∧ True ∧ True ∧ True ∧ True) ∧ True ∧ True) (.ret (Part.mk (0 : Int) (0 : Int) (0 : Int) (0 : Int), (3 : Int))) else .need (((0 : Int) ≤ i ∧ i < (x.length : Int)) ∧ True) (.need ((True ∧ True ∧ True ∧ True ∧ True) ∧ True ∧ True) (.ret (x.getD i.toNat Ty.part.dflt, (0 : Int))))))) := by kernel_rfl

theorem t148 (d : Deck) : @Eq (Out (TyTup [.int, .int, .int])) (aexec Tryz.prog codes sigs Tryz.f152 (pureFin [.int, .int, .int]) 0 noCut 200 false (bodyOf Tryz.f152) (startS Tryz.f152 [⟨.deck, d⟩])) (.need ((True ∧ True ∧ True ∧ True ∧ True) ∧ True) (.callP 88 [⟨.deck, d⟩] [.sl .part] fun (x : List Part) => .stop (hd Tryz.f152 0) (mkS 31 [(5, .ptr 0 0), (6, .d (.sl .part x)), (7, .d (.v (.int .i64 (0 : Int))))] [(0, .box [.d (.v (.int .i64 (0 : Int))), .d (.v (.int .i64 (0 : Int))), .d (.v (.int .i64 (0 : Int))), .d (.v (.int .i64 (0 : Int)))])] 1))) := by kernel_rfl

theorem t87 (d : Deck) (p : Part) : @Eq (Out (TyTup [.row])) (aexec Tryz.prog codes sigs Tryz.f205 (pureFin [.row]) 0 noCut 200 false (bodyOf Tryz.f205) (startS Tryz.f205 [⟨.deck, d⟩, ⟨.part, p⟩])) (bif Part.kind p == (2 : Int) then .need (((0 : Int) ≤ Part.unit p ∧ Part.unit p < (↑(List.length (Deck.racks d)) : Int)) ∧ True) (.need (True ∧ True ∧ True ∧ True) (.ret (Row.mk (Rack.x (List.getD (Deck.racks d) (Int.toNat (Part.unit p)) Ty.rack.dflt)) (Rack.pitch (List.getD (Deck.racks d) (Int.toNat (Part.unit p)) Ty.rack.dflt)) (Rack.reach (List.getD (Deck.racks d) (Int.toNat (Part.unit p)) Ty.rack.dflt))))) else .need (((0 : Int) ≤ Part.unit p ∧ Part.unit p < (↑(List.length (Deck.plates d)) : Int)) ∧ True) (.need (True ∧ True ∧ True ∧ True) (.ret (Row.mk (Plate.x (List.getD (Deck.plates d) (Int.toNat (Part.unit p)) Ty.plate.dflt)) (Plate.pitch (List.getD (Deck.plates d) (Int.toNat (Part.unit p)) Ty.plate.dflt)) (Plate.reach (List.getD (Deck.plates d) (Int.toNat (Part.unit p)) Ty.plate.dflt)))))) := by kernel_rfl

theorem t88 (r : Row) (c : Int) : @Eq (Out (TyTup [.flt])) (aexec Tryz.prog codes sigs Tryz.f207 (pureFin [.flt]) 0 noCut 200 false (bodyOf Tryz.f207) (startS Tryz.f207 [⟨.row, r⟩, ⟨.int, c⟩])) (.need (True ∧ True) (.ret (Fl.arith BinOp.add (Row.x r) (Fl.arith BinOp.mul (some (FloatKind.nearest FloatKind.f64 c)) (Row.pitch r))))) := by kernel_rfl

theorem t85 (d : Deck) (p : Part) : @Eq (Out (TyTup [.span, .int])) (aexec Tryz.prog codes sigs Tryz.f127 (pureFin [.span, .int]) 0 noCut 200 false (bodyOf Tryz.f127) (startS Tryz.f127 [⟨.deck, d⟩, ⟨.part, p⟩])) (bif Part.kind p == (3 : Int) then .need ((True ∧ True ∧ True) ∧ True ∧ True) (.ret (Span.mk (Part.unit p) (Part.unit p), (0 : Int))) else .need ((True ∧ True ∧ True ∧ True ∧ True) ∧ (True ∧ True ∧ True ∧ True ∧ True) ∧ True) (.callP 205 [⟨.deck, d⟩, ⟨.part, p⟩] [.row] fun (x : Row) => .need ((True ∧ True ∧ True ∧ True) ∧ (True ∧ True) ∧ True) (.callP 207 [⟨.row, x⟩, Sigma.mk .int (Part.col p)] [.flt] fun (x_1 : Option Nat) => .need ((True ∧ True) ∧ (True ∧ True) ∧ (True ∧ True) ∧ True) (.callP 206 [Sigma.mk (.sl .flt) (Deck.borders d), ⟨.flt, x_1⟩, Sigma.mk .flt (Row.reach x)] [.span, .int] fun (x : Span × Int) => .need ((True ∧ True ∧ True) ∧ True ∧ True) (.ret (Prod.fst x, Prod.snd x)))))) := by kernel_rfl

theorem t44 (d : Deck) (p : Part) : @Eq (Out (TyTup [.flt, .flt])) (aexec Tryz.prog codes sigs Tryz.f254 (pureFin [.flt, .flt]) 0 noCut 200 false (bodyOf Tryz.f254) (startS Tryz.f254 [⟨.deck, d⟩, ⟨.part, p⟩])) (bif Part.kind p == (1 : Int) then .need (((0 : Int) ≤ Part.unit p ∧ Part.unit p < (↑(List.length (Deck.plates d)) : Int)) ∧ True) (.need ((True ∧ True) ∧ True ∧ True) (.ret (Fl.arith BinOp.add (Plate.x (List.getD (Deck.plates d) (Int.toNat (Part.unit p)) Ty.plate.dflt)) (Fl.arith BinOp.mul (some (FloatKind.nearest FloatKind.f64 (Part.col p))) (Plate.pitch (List.getD (Deck.plates d) (Int.toNat (Part.unit p)) Ty.plate.dflt))), Plate.reach (List.getD (Deck.plates d) (Int.toNat (Part.unit p)) Ty.plate.dflt)))) else .need (((0 : Int) ≤ Part.unit p ∧ Part.unit p < (↑(List.length (Deck.racks d)) : Int)) ∧ True) (.need ((True ∧ True) ∧ True ∧ True) (.ret (Fl.arith BinOp.add (Rack.x (List.getD (Deck.racks d) (Int.toNat (Part.unit p)) Ty.rack.dflt)) (Fl.arith BinOp.mul (some (FloatKind.nearest FloatKind.f64 (Part.col p))) (Rack.pitch (List.getD (Deck.racks d) (Int.toNat (Part.unit p)) Ty.rack.dflt))), Rack.reach (List.getD (Deck.racks d) (Int.toNat (Part.unit p)) Ty.rack.dflt))))) := by kernel_rfl

theorem t86 (d : Deck) (p : Part) : @Eq (Out (TyTup [.span, .int])) (aexec Tryz.prog codes sigs Tryz.f209 (pureFin [.span, .int]) 0 noCut 200 false (bodyOf Tryz.f209) (startS Tryz.f209 [⟨.deck, d⟩, ⟨.part, p⟩])) (bif Part.kind p == (3 : Int) then .need ((True ∧ True ∧ True) ∧ True ∧ True) (.ret (Span.mk (Part.unit p) (Part.unit p), (0 : Int))) else .need ((True ∧ True ∧ True ∧ True ∧ True) ∧ (True ∧ True ∧ True ∧ True ∧ True) ∧ True) (.callP 254 [⟨.deck, d⟩, ⟨.part, p⟩] [.flt, .flt] fun (x : Option Nat × Option Nat) => .need ((True ∧ True) ∧ (True ∧ True) ∧ (True ∧ True) ∧ True) (.callP 255 [Sigma.mk (.sl .flt) (Deck.borders d), Sigma.mk .flt (Prod.fst x), Sigma.mk .flt (Prod.snd x)] [.span, .int] fun (x : Span × Int) => .need ((True ∧ True ∧ True) ∧ True ∧ True) (.ret (Prod.fst x, Prod.snd x))))) := by kernel_rfl

theorem t37 (d : Deck) : @Eq (Out (TyTup [.bool])) (aexec Tryz.prog codes sigs Tryz.f25 (pureFin [.bool]) 0 noCut 200 false (bodyOf Tryz.f25) (startS Tryz.f25 [⟨.deck, d⟩])) (bif decide ((↑(List.length (Deck.borders d)) : Int) > (60 : Int)) then .need (True ∧ True) (.ret true) else bif decide ((↑(List.length (Deck.plates d)) : Int) > (8 : Int)) then .need (True ∧ True) (.ret true) else bif decide ((↑(List.length (Deck.racks d)) : Int) > (8 : Int)) then .need (True ∧ True) (.ret true) else .stop (hd Tryz.f25 0) (mkS 35 [(1, .ptr 0 0), (3, .d (.v (.int .i64 (0 : Int))))] [(0, .box [.d (.sl .flt (Deck.borders d)), .d (.sl .plate (Deck.plates d)), .d (.sl .rack (Deck.racks d)), .d (.v (.int .i64 (Deck.arms d)))])] 1)) := by kernel_rfl

end Go.Proofs.Zn

/- No-numbers. (Own work.) -/
namespace Go.Proofs.Zn
open Go Go.VL

def nanF : Fl → Bool
  | none => true
  | some b => (FloatKind.f64.format.read b).isNaN
theorem order_self (d : Ieee.Datum) : (d.order d != some .eq) = d.isNaN := by
  cases d with
  | nan s t => rfl
  | infinity s => cases s <;> rfl
  | number s m i =>
    have : (Ieee.Datum.number s m i).order (Ieee.Datum.number s m i) = some .eq := by
      simp only [Ieee.Datum.order]
      congr 1
      exact Std.ReflCmp.compare_self
    rw [this]; rfl
theorem cmp_self (x : Fl) : (Fl.cmp x x != some .eq) = nanF x := by
  cases x with
  | none => rfl
  | some b => exact order_self (FloatKind.f64.format.read b)
theorem nan_bits (b : Nat) : (FloatKind.f64.format.read b).isNaN = decide (b / 4503599627370496 % 2048 = 2047 ∧ b % 4503599627370496 ≠ 0) := by
  have e1 : FloatKind.f64.format.signWeight = 9223372036854775808 := by decide
  have e2 : FloatKind.f64.format.binade = 4503599627370496 := by decide
  have e3 : FloatKind.f64.format.infRung = 9218868437227405312 := by decide
  simp only [Ieee.Format.read, e1, e2, e3]
  by_cases h1 : b % 9223372036854775808 < 4503599627370496
  · rw [if_pos h1, decide_eq_false (by omega)]; rfl
  · rw [if_neg h1]
    by_cases h2 : b % 9223372036854775808 < 9218868437227405312
    · rw [if_pos h2, decide_eq_false (by omega)]; rfl
    · rw [if_neg h2]
      by_cases h3 : b % 9223372036854775808 = 9218868437227405312
      · rw [if_pos h3, decide_eq_false (by omega)]; rfl
      · rw [if_neg h3, decide_eq_true (by omega)]; rfl

def cls5 (p q r s : Bool) : Int := bif p && q then 1 else bif p then 2 else bif r && s then 3 else bif r then 4 else 5
theorem c155 (n : Nat) : ∃ r : Int, Pure Tryz.prog 122 [⟨.u64, (n : Int)⟩] [.int] r ∧ (r == 1) = nanF (some n) := by
  refine ⟨cls5 (Int.tmod (Int.fdiv (n : Int) (2 ^ min 52 (IntKind.bits IntKind.u64))) 2048 == 2047) (Int.tmod (n : Int) 4503599627370496 != 0) (Int.tmod (Int.fdiv (n : Int) (2 ^ min 52 (IntKind.bits IntKind.u64))) 2048 == 0) (Int.tmod (n : Int) 4503599627370496 == 0), ?_, ?_⟩
  · refine ofT Tryz.func122 (t155 n) (by kernel_rfl) (by kernel_rfl) fun A => ?_
    generalize (Int.tmod (Int.fdiv (n : Int) (2 ^ min 52 (IntKind.bits IntKind.u64))) 2048 == 2047) = p
    generalize (Int.tmod (n : Int) 4503599627370496 != 0) = q
    generalize (Int.tmod (Int.fdiv (n : Int) (2 ^ min 52 (IntKind.bits IntKind.u64))) 2048 == 0) = r
    generalize (Int.tmod (n : Int) 4503599627370496 == 0) = s
    refine ⟨by decide, by decide, by decide, ?_⟩
    cases p <;> cases q <;> cases r <;> cases s <;> exact ⟨⟨trivial, trivial⟩, rfl⟩
  · have e1 : (2 : Int) ^ min 52 (IntKind.bits IntKind.u64) = 4503599627370496 := by decide
    have e2 : Int.tmod (Int.fdiv (n : Int) 4503599627370496) 2048 = ((n / 4503599627370496 % 2048 : Nat) : Int) := by
      rw [Int.fdiv_eq_ediv_of_nonneg _ (by decide), Int.tmod_eq_emod_of_nonneg (by omega)]; omega
    have e3 : Int.tmod (n : Int) 4503599627370496 = ((n % 4503599627370496 : Nat) : Int) := by
      rw [Int.tmod_eq_emod_of_nonneg (by omega)]; omega
    rw [e1, e2, e3]
    show _ = (FloatKind.f64.format.read n).isNaN
    rw [nan_bits]
    generalize n / 4503599627370496 % 2048 = a
    generalize n % 4503599627370496 = c
    by_cases ha : a = 2047
    · subst ha
      by_cases hc : c = 0
      · subst hc; rfl
      · have h1 : ((c : Int) != 0) = true := by simpa using hc
        have h2 : ((c : Int) == 0) = false := by simpa using hc
        rw [h1, h2, decide_eq_true ⟨rfl, hc⟩]; rfl
    · have h1 : ((a : Int) == 2047) = false := by simp; omega
      rw [h1, decide_eq_false (fun h => ha h.1)]
      generalize ((c : Int) != 0) = x
      generalize ((a : Int) == 0) = y
      generalize ((c : Int) == 0) = z
      cases x <;> cases y <;> cases z <;> rfl
theorem c145 (x : Fl) : Pure Tryz.prog 264 [⟨.flt, x⟩] [.bool] (nanF x) := by
  have key : ∀ b : Nat, Pure Tryz.prog 264 [⟨.flt, some b⟩] [.bool] (nanF (some b)) := fun b => by
    obtain ⟨r, h1, h2⟩ := c155 b
    exact ofT Tryz.func264 (t145 (some b)) (by kernel_rfl) (by kernel_rfl) fun _ => ⟨⟨⟨trivial, trivial⟩, trivial⟩, _, c43 b, ⟨⟨trivial, trivial⟩, trivial⟩, _, h1, ⟨trivial, trivial⟩, h2⟩
  cases x with
  | some b => exact key b
  | none => exact Pure.nan fun b hb => (key b).eq hb

theorem c154 (x : Fl) : ∃ r : Int, Pure Tryz.prog 119 [⟨.flt, x⟩] [.int] r ∧ (r == 1) = nanF x := by
  have key : ∀ b : Nat, ∃ r : Int, Pure Tryz.prog 119 [⟨.flt, some b⟩] [.int] r ∧ (r == 1) = nanF (some b) ∧ (nanF (some b) = true → r = 1) := fun b => by
    generalize hy : (some (bits BinOp.andNot IntKind.u64 (b : Int) 9223372036854775808).toNat : Fl) = y
    have c := c158 b
    rw [hy] at c
    refine ⟨bif nanF (some b) then 1 else bif Fl.cmp y (some 9218868437227405311) == some Ordering.gt then 2 else bif Fl.cmp y (some 0) == some Ordering.eq then 3 else bif Fl.cmp y (some 4503599627370496) == some Ordering.lt then 4 else 5, ?_, ?_, fun h => by rw [h]; rfl⟩
    · refine ofT Tryz.func119 (t154 (some b)) (by kernel_rfl) (by kernel_rfl) fun A => ⟨⟨⟨trivial, trivial⟩, trivial⟩, _, c, ?_⟩
      rw [cmp_self]
      exact sat_if (fun _ => ⟨⟨trivial, trivial⟩, rfl⟩) (fun _ => sat_if (fun _ => ⟨⟨trivial, trivial⟩, rfl⟩) (fun _ => sat_if (fun _ => ⟨⟨trivial, trivial⟩, rfl⟩) (fun _ => sat_if (fun _ => ⟨⟨trivial, trivial⟩, rfl⟩) (fun _ => ⟨⟨trivial, trivial⟩, rfl⟩))))
    · cases nanF (some b)
      · cases Fl.cmp y (some 9218868437227405311) == some Ordering.gt <;> cases Fl.cmp y (some 0) == some Ordering.eq <;> cases Fl.cmp y (some 4503599627370496) == some Ordering.lt <;> rfl
      · rfl
  cases x with
  | some b => obtain ⟨r, h1, h2, _⟩ := key b; exact ⟨r, h1, h2⟩
  | none => exact ⟨1, Pure.nan fun b hb => by
      obtain ⟨r, h1, _, h3⟩ := key b
      exact h1.eq (h3 hb), rfl⟩
theorem c142 (x : Fl) : Pure Tryz.prog 251 [⟨.flt, x⟩] [.bool] (nanF x) := by
  obtain ⟨r, h1, h2⟩ := c154 x
  exact ofT Tryz.func251 (t142 x) (by kernel_rfl) (by kernel_rfl) fun _ => ⟨⟨⟨trivial, trivial⟩, trivial⟩, _, h1, ⟨trivial, trivial⟩, h2⟩
def lanesI (l : List Fl) : Int := (l.length : Int) - 1
theorem c143 {l : List Fl} (h : l.length ≤ 1000000) : Pure Tryz.prog 252 [⟨.sl .flt, l⟩] [.int] (lanesI l) :=
  ofT Tryz.func252 (t143 l) (by kernel_rfl) (by kernel_rfl) fun _ => ⟨⟨trivial, trivial⟩, wrap_i64 (by omega) (by omega)⟩
end Go.Proofs.Zn

namespace Go.Proofs.Zn
open Go Go.VL

def L144 (l : List Fl) (x : Fl) (n i : Int) : AS := mkS 25 [(1, .d (.f x)), (5, i64 n), (11, .d (.sl .flt l)), (12, i64 l.length), (13, i64 i)] [] 0
def L125 (l : List Fl) (i : Int) : AS := mkS 35 [(0, .d (.sl .flt l)), (13, .d (.sl .flt l)), (14, i64 l.length), (15, i64 i)] [] 0
def L121 (l : List Fl) (i : Int) : AS := mkS 35 [(0, .d (.sl .flt l)), (3, i64 i)] [] 0
def L120 (l : List Fl) (a b : Fl) (out : List Int) (i : Int) : AS := mkS 72 [(0, .d (.sl .flt l)), (6, .ptr 0 0), (9, .d (.f a)), (10, .d (.f b)), (11, .own 1 .int), (12, i64 i)] [(0, .box [i64 0, i64 0]), (1, .row 3 .int out)] 2


theorem t144a (l : List Fl) (x : Fl) (n i : Int) : @Eq (Out (TyTup [.int])) (aexec Tryz.prog codes sigs Tryz.f253 (pureFin [.int]) 0 noCut 200 true (hd Tryz.f253 0) (L144 l x n i)) (bif decide (i < (l.length : Int)) then .need (((0 : Int) ≤ i ∧ i < (l.length : Int)) ∧ True) (bif !(Fl.cmp (l.getD i.toNat Ty.flt.dflt) x == some Ordering.lt || Fl.cmp (l.getD i.toNat Ty.flt.dflt) x == some Ordering.eq) then .need (True ∧ True) (.ret n) else .stop (hd Tryz.f253 0) (mkS 25 [(1, .d (.f x)), (5, .d (.v (.int .i64 (IntKind.wrap .i64 (n + (1 : Int)))))), (11, .d (.sl .flt l)), (12, .d (.v (.int .i64 (l.length : Int)))), (13, .d (.v (.int .i64 (IntKind.wrap .i64 (i + (1 : Int))))))] [] 0)) else .need (True ∧ True) (.ret n)) := by kernel_rfl

theorem t125a (l : List Fl) (i : Int) : @Eq (Out (TyTup [.int])) (aexec Tryz.prog codes sigs Tryz.f202 (pureFin [.int]) 0 noCut 200 true (hd Tryz.f202 0) (L125 l i)) (bif decide (i < (l.length : Int)) then .need (((0 : Int) ≤ i ∧ i < (l.length : Int)) ∧ True) (.need ((True ∧ True) ∧ True) (.callP 251 [Sigma.mk .flt (l.getD i.toNat Ty.flt.dflt)] [.bool] fun (x : Bool) => bif x then .need (True ∧ True) (.ret (20 : Int)) else bif decide (i > (0 : Int)) then .need (((0 : Int) ≤ IntKind.wrap .i64 (i - (1 : Int)) ∧ IntKind.wrap .i64 (i - (1 : Int)) < (l.length : Int)) ∧ True) (bif !Fl.cmp (List.getD l (Int.toNat (IntKind.wrap .i64 (i - (1 : Int)))) Ty.flt.dflt) (l.getD i.toNat Ty.flt.dflt) == some Ordering.lt then .need (True ∧ True) (.ret (70 : Int)) else .stop (hd Tryz.f202 0) (mkS 35 [(0, .d (.sl .flt l)), (13, .d (.sl .flt l)), (14, .d (.v (.int .i64 (l.length : Int)))), (15, .d (.v (.int .i64 (IntKind.wrap .i64 (i + (1 : Int))))))] [] 0)) else .stop (hd Tryz.f202 0) (mkS 35 [(0, .d (.sl .flt l)), (13, .d (.sl .flt l)), (14, .d (.v (.int .i64 (l.length : Int)))), (15, .d (.v (.int .i64 (IntKind.wrap .i64 (i + (1 : Int))))))] [] 0))) else .need (True ∧ True) (.ret (0 : Int))) := by kernel_rfl

theorem t121a (l : List Fl) (i : Int) : @Eq (Out (TyTup [.int])) (aexec Tryz.prog codes sigs Tryz.f218 (pureFin [.int]) 0 noCut 200 true (hd Tryz.f218 0) (L121 l i)) (bif decide (i < (l.length : Int)) then .need (((0 : Int) ≤ i ∧ i < (l.length : Int)) ∧ True) (.need ((True ∧ True) ∧ True) (.callP 264 [Sigma.mk .flt (l.getD i.toNat Ty.flt.dflt)] [.bool] fun (x : Bool) => bif x then .need (True ∧ True) (.ret (20 : Int)) else bif decide (i > (0 : Int)) then .need (((0 : Int) ≤ i ∧ i < (l.length : Int)) ∧ True) (.need (((0 : Int) ≤ IntKind.wrap .i64 (i - (1 : Int)) ∧ IntKind.wrap .i64 (i - (1 : Int)) < (l.length : Int)) ∧ True) (bif Fl.cmp (l.getD i.toNat Ty.flt.dflt) (List.getD l (Int.toNat (IntKind.wrap .i64 (i - (1 : Int)))) Ty.flt.dflt) == some Ordering.lt || Fl.cmp (l.getD i.toNat Ty.flt.dflt) (List.getD l (Int.toNat (IntKind.wrap .i64 (i - (1 : Int)))) Ty.flt.dflt) == some Ordering.eq then .need (True ∧ True) (.ret (70 : Int)) else .stop (hd Tryz.f218 0) (mkS 35 [(0, .d (.sl .flt l)), (3, .d (.v (.int .i64 (IntKind.wrap .i64 (i + (1 : Int))))))] [] 0))) else .stop (hd Tryz.f218 0) (mkS 35 [(0, .d (.sl .flt l)), (3, .d (.v (.int .i64 (IntKind.wrap .i64 (i + (1 : Int))))))] [] 0))) else .need (True ∧ True) (.ret (0 : Int))) := by kernel_rfl

theorem t120a (l : List Fl) (a b : Fl) (out : List Int) (i : Int) : @Eq (Out (TyTup [.span, .int])) (aexec Tryz.prog codes sigs Tryz.f255 (pureFin [.span, .int]) 0 noCut 200 true (hd Tryz.f255 0) (L120 l a b out i)) (bif decide (IntKind.wrap .i64 (i + (1 : Int)) < (l.length : Int)) then .need ((True ∧ True) ∧ (True ∧ True) ∧ (True ∧ True) ∧ (True ∧ True) ∧ True) (.callP 288 [Sigma.mk (.sl .flt) l, ⟨.int, i⟩, ⟨.flt, a⟩, ⟨.flt, b⟩] [.bool] fun (x : Bool) => bif x then .need ((True ∧ True) ∧ True) (.need ((List.length out + List.length [i]) * 9 ≤ 35184372088832 ∧ True) (.stop (hd Tryz.f255 0) (mkS 72 [(0, .d (.sl .flt l)), (6, .ptr 0 0), (9, .d (.f a)), (10, .d (.f b)), (11, .own 1 .int), (12, .d (.v (.int .i64 (IntKind.wrap .i64 (i + (1 : Int))))))] [(0, .box [.d (.v (.int .i64 (0 : Int))), .d (.v (.int .i64 (0 : Int)))]), (1, .row 3 .int (out ++ [i]))] 2))) else .stop (hd Tryz.f255 0) (mkS 72 [(0, .d (.sl .flt l)), (6, .ptr 0 0), (9, .d (.f a)), (10, .d (.f b)), (11, .own 1 .int), (12, .d (.v (.int .i64 (IntKind.wrap .i64 (i + (1 : Int))))))] [(0, .box [.d (.v (.int .i64 (0 : Int))), .d (.v (.int .i64 (0 : Int)))]), (1, .row 3 .int out)] 2)) else bif (out.length : Int) == (0 : Int) then .need ((True ∧ True ∧ True) ∧ True ∧ True) (.ret (Span.mk (0 : Int) (0 : Int), (71 : Int))) else .need ((0 : Int) ≤ (0 : Int) ∧ (0 : Int) < (out.length : Int)) (.need (0 < List.length out) (.need ((0 : Int) ≤ IntKind.wrap .i64 ((out.length : Int) - (1 : Int)) ∧ IntKind.wrap .i64 ((out.length : Int) - (1 : Int)) < (out.length : Int)) (.need (Int.toNat (IntKind.wrap .i64 ((out.length : Int) - (1 : Int))) < List.length out) (.need ((True ∧ True ∧ True) ∧ True ∧ True) (.ret (Span.mk (List.getD out 0 Ty.int.dflt) (List.getD out (Int.toNat (IntKind.wrap .i64 ((out.length : Int) - (1 : Int)))) Ty.int.dflt), (0 : Int)))))))) := by kernel_rfl

end Go.Proofs.Zn

/- How floats stand to each other. (Own work.) -/
set_option exponentiation.threshold 4096
namespace Go.Proofs.Zn
open Go Go.VL

def big : Nat := 2 ^ 2999
theorem big_lb : 2 ^ 53 * 2 ^ 2046 ≤ big := by
  rw [← Nat.pow_add]; exact Nat.pow_le_pow_right (by decide) (by decide)
attribute [irreducible] big
def least : Int := FloatKind.f64.format.leastPlace
def keyD : Ieee.Datum → Int
  | .number s m i => Ieee.signed s m (i - least).toNat
  | .infinity s => bif s then -(big : Int) else big
  | .nan _ _ => 0
/-- A datum as a word reads. -/
def Tame : Ieee.Datum → Prop
  | .number _ m i => m < 2 ^ 53 ∧ least ≤ i ∧ i ≤ least + 2046
  | _ => True
theorem tame_read (b : Nat) : Tame (FloatKind.f64.format.read b) := by
  have e1 : FloatKind.f64.format.signWeight = 9223372036854775808 := by decide
  have e2 : FloatKind.f64.format.binade = 4503599627370496 := by decide
  have e3 : FloatKind.f64.format.infRung = 9218868437227405312 := by decide
  simp only [Ieee.Format.read, e1, e2, e3]
  by_cases h1 : b % 9223372036854775808 < 4503599627370496
  · rw [if_pos h1]; exact ⟨by omega, Int.le_refl _, (by show least ≤ least + 2046; omega)⟩
  · rw [if_neg h1]
    by_cases h2 : b % 9223372036854775808 < 9218868437227405312
    · rw [if_pos h2]
      refine ⟨by omega, ?_, ?_⟩
      · show least ≤ least + _; omega
      · show least + _ ≤ least + 2046; omega
    · rw [if_neg h2]
      by_cases h3 : b % 9223372036854775808 = 9218868437227405312
      · rw [if_pos h3]; trivial
      · rw [if_neg h3]; trivial
theorem signed_eq (s : Bool) (m k : Nat) : Ieee.signed s m k = (bif s then -1 else 1) * ((m * 2 ^ k : Nat) : Int) := by
  simp only [Ieee.signed, Nat.shiftLeft_eq]
  cases s <;> simp
theorem cmp_mul {a b p : Int} (hp : 0 < p) : compare (a * p) (b * p) = compare a b := by
  simp only [compare, compareOfLessAndEq]
  have h1 : a * p < b * p ↔ a < b := ⟨fun h => Int.lt_of_mul_lt_mul_right h (Int.le_of_lt hp), fun h => Int.mul_lt_mul_of_pos_right h hp⟩
  have h2 : a * p = b * p ↔ a = b := ⟨fun h => Int.eq_of_mul_eq_mul_right (Int.ne_of_gt hp) h, fun h => by rw [h]⟩
  simp only [h1, h2]
theorem signed_shift (s : Bool) (m k d : Nat) : Ieee.signed s m (k + d) = Ieee.signed s m k * 2 ^ d := by
  rw [signed_eq, signed_eq, Int.mul_assoc]
  congr 1
  rw [Nat.pow_add, ← Nat.mul_assoc]
  simp
theorem key_bound {s : Bool} {m : Nat} {i : Int} (h : Tame (.number s m i)) : -(big : Int) < keyD (.number s m i) ∧ keyD (.number s m i) < (big : Int) := by
  obtain ⟨h1, h2, h3⟩ := h
  have hk : (i - least).toNat ≤ 2046 := by omega
  show -(big : Int) < Ieee.signed s m (i - least).toNat ∧ Ieee.signed s m (i - least).toNat < (big : Int)
  generalize (i - least).toNat = k at *
  have hb : m * 2 ^ k < big := by
    have g1 : 2 ^ k ≤ 2 ^ 2046 := Nat.pow_le_pow_right (by decide) hk
    have g2 : m * 2 ^ k ≤ m * 2 ^ 2046 := Nat.mul_le_mul_left _ g1
    have g3 : m * 2 ^ 2046 < 2 ^ 53 * 2 ^ 2046 := Nat.mul_lt_mul_of_pos_right h1 (Nat.pow_pos (by decide))
    exact Nat.lt_of_le_of_lt g2 (Nat.lt_of_lt_of_le g3 big_lb)
  rw [signed_eq]
  generalize m * 2 ^ k = z at *
  cases s
  · rw [cond_false]; omega
  · rw [cond_true]; omega
theorem order_key {d e : Ieee.Datum} (hd : Tame d) (he : Tame e) (h1 : d.isNaN = false) (h2 : e.isNaN = false) : d.order e = some (compare (keyD d) (keyD e)) := by
  have lt : ∀ {a b : Int}, a < b → compare a b = .lt := fun {a b} h => by simp only [compare, compareOfLessAndEq]; rw [if_pos h]
  have gt : ∀ {a b : Int}, b < a → compare a b = .gt := fun {a b} h => by simp only [compare, compareOfLessAndEq]; rw [if_neg (by omega), if_neg (by omega)]
  have eq : ∀ {a : Int}, compare a a = .eq := fun {a} => Std.ReflCmp.compare_self
  have hbig : (0 : Int) < (big : Int) := by
    have := big_lb
    have h0 : 0 < 2 ^ 53 * 2 ^ 2046 := Nat.mul_pos (Nat.pow_pos (by decide)) (Nat.pow_pos (by decide))
    exact Int.ofNat_lt.2 (Nat.lt_of_lt_of_le h0 this)
  cases d with
  | nan s t => cases h1
  | infinity s =>
    cases e with
    | nan s t => cases h2
    | infinity t =>
      show some _ = some (compare (bif s then -(big : Int) else big) (bif t then -(big : Int) else big))
      cases s <;> cases t
      · rw [cond_false, eq]; rfl
      · rw [cond_false, cond_true, gt (by omega)]; rfl
      · rw [cond_false, cond_true, lt (by omega)]; rfl
      · rw [cond_true, eq]; rfl
    | number t n j =>
      obtain ⟨k1, k2⟩ := key_bound he
      show some _ = some (compare (bif s then -(big : Int) else big) (keyD (.number t n j)))
      cases s
      · rw [cond_false, gt k2]; rfl
      · rw [cond_true, lt k1]; rfl
  | number s m i =>
    cases e with
    | nan s t => cases h2
    | infinity t =>
      obtain ⟨k1, k2⟩ := key_bound hd
      show some _ = some (compare (keyD (.number s m i)) (bif t then -(big : Int) else big))
      cases t
      · rw [cond_false, lt k2]; rfl
      · rw [cond_true, gt k1]; rfl
    | number t n j =>
      obtain ⟨_, a2, _⟩ := hd
      obtain ⟨_, b2, _⟩ := he
      show some (compare (Ieee.signed s m (i - min i j).toNat) (Ieee.signed t n (j - min i j).toNat)) = some (compare (Ieee.signed s m (i - least).toNat) (Ieee.signed t n (j - least).toNat))
      have e1 : (i - least).toNat = (i - min i j).toNat + (min i j - least).toNat := by omega
      have e2 : (j - least).toNat = (j - min i j).toNat + (min i j - least).toNat := by omega
      rw [e1, e2, signed_shift, signed_shift, cmp_mul (Int.pow_pos (by decide))]

def keyF : Fl → Int
  | none => 0
  | some b => keyD (FloatKind.f64.format.read b)
theorem cmp_key {x y : Fl} (hx : nanF x = false) (hy : nanF y = false) : Fl.cmp x y = some (compare (keyF x) (keyF y)) := by
  cases x with
  | none => cases hx
  | some a => cases y with
    | none => cases hy
    | some b => exact order_key (tame_read a) (tame_read b) hx hy
end Go.Proofs.Zn

/- Borders. (Own work.) -/
namespace Go.Proofs.Zn
open Go Go.VL

def ltF (x y : Fl) : Bool := Fl.cmp x y == some Ordering.lt
def leF (x y : Fl) : Bool := Fl.cmp x y == some Ordering.lt || Fl.cmp x y == some Ordering.eq
theorem ltF_key {x y : Fl} (hx : nanF x = false) (hy : nanF y = false) : ltF x y = decide (keyF x < keyF y) := by
  rw [ltF, cmp_key hx hy]
  simp only [compare, compareOfLessAndEq]
  by_cases h : keyF x < keyF y
  · rw [if_pos h, decide_eq_true h]; rfl
  · rw [if_neg h, decide_eq_false h]
    by_cases h2 : keyF x = keyF y
    · rw [if_pos h2]; rfl
    · rw [if_neg h2]; rfl
theorem leF_key {x y : Fl} (hx : nanF x = false) (hy : nanF y = false) : leF x y = decide (keyF x ≤ keyF y) := by
  rw [leF, cmp_key hx hy]
  simp only [compare, compareOfLessAndEq]
  by_cases h : keyF x < keyF y
  · rw [if_pos h, decide_eq_true (by omega)]; rfl
  · rw [if_neg h]
    by_cases h2 : keyF x = keyF y
    · rw [if_pos h2, decide_eq_true (by omega)]; rfl
    · rw [if_neg h2, decide_eq_false (by omega)]; rfl

/-! ### what is wrong with borders -/
def chkGo : Option Fl → List Fl → Int
  | _, [] => 0
  | p, x :: r => bif nanF x then 20 else match p with
    | none => chkGo (some x) r
    | some q => bif ltF q x then chkGo (some x) r else 70
def chkN (p : Option Fl) (x : Fl) (k : Int) : Int := match p with
  | none => k
  | some q => bif ltF q x then k else 70
theorem chk_cons (p : Option Fl) (x : Fl) (r : List Fl) : chkGo p (x :: r) = bif nanF x then 20 else chkN p x (chkGo (some x) r) := by
  cases p <;> rfl
def prevF (l : List Fl) (i : Nat) : Option Fl := match i with | 0 => none | i + 1 => l[i]?
def checkS (l : List Fl) : Int := bif decide ((l.length : Int) < 2) then 1 else bif decide ((l.length : Int) > 25) then 2 else chkGo none l

theorem loop125 {l : List Fl} (hl : l.length ≤ 25) {r : Int} {A : List Item → AS → Prop} (hA : Closed Tryz.prog codes sigs Tryz.f202 (pureFin [.int]) (fun y => y = r) 0 A)
    (i : Nat) (hi : i ≤ l.length) (h : chkGo (prevF l i) (l.drop i) = r) : A (hd Tryz.f202 0) (L125 l i) := by
  refine hA.go (t125a l i) (sat_bif (fun h1 => ?_) (fun h1 => ?_))
  · have h1 := of_decide_eq_true h1
    have hil : i < l.length := by omega
    rw [getD_int hil]
    rw [List.drop_eq_getElem_cons hil, chk_cons] at h
    refine ⟨⟨⟨by omega, by omega⟩, trivial⟩, ⟨⟨trivial, trivial⟩, trivial⟩, _, c142 _, sat_bif (fun h2 => ⟨⟨trivial, trivial⟩, ?_⟩) (fun h2 => ?_)⟩
    · rw [h2] at h; exact h
    · rw [h2, cond_false] at h
      rw [wrap_succ (by omega)]
      cases i with
      | zero =>
        refine sat_bif (fun h3 => by cases h3) (fun _ => ?_)
        exact loop125 hl hA 1 (by omega) (by rw [show prevF l 1 = some l[0] from List.getElem?_eq_getElem hil]; exact h)
      | succ j =>
        have hj : j < l.length := by omega
        have ep : prevF l (j + 1) = some l[j] := List.getElem?_eq_getElem hj
        have en : prevF l (j + 1 + 1) = some l[j + 1] := List.getElem?_eq_getElem hil
        rw [ep] at h
        have ew : IntKind.i64.wrap (((j + 1 : Nat) : Int) - 1) = (j : Int) := by rw [wrap_i64 (by omega) (by omega)]; omega
        refine sat_bif (fun _ => ?_) (fun h3 => absurd (of_decide_eq_false h3) (by omega))
        rw [ew, getD_int hj]
        refine ⟨⟨⟨by omega, by omega⟩, trivial⟩, sat_bif (fun h4 => ⟨⟨trivial, trivial⟩, ?_⟩) (fun h4 => ?_)⟩
        · have h4 : ltF l[j] l[j + 1] = false := nt h4
          have h : (bif ltF l[j] l[j + 1] then chkGo (some l[j + 1]) (l.drop (j + 1 + 1)) else 70) = r := h
          rw [h4] at h; exact h
        · have h4 : ltF l[j] l[j + 1] = true := nf h4
          have h : (bif ltF l[j] l[j + 1] then chkGo (some l[j + 1]) (l.drop (j + 1 + 1)) else 70) = r := h
          rw [h4, cond_true] at h
          exact loop125 hl hA (j + 1 + 1) (by omega) (by rw [en]; exact h)
  · have h1 := of_decide_eq_false h1
    refine ⟨⟨trivial, trivial⟩, ?_⟩
    rw [List.drop_eq_nil_of_le (by omega)] at h
    generalize prevF l i = p at h
    cases p <;> exact h
termination_by l.length - i
theorem c125 (l : List Fl) : Pure Tryz.prog 202 [⟨.sl .flt, l⟩] [.int] (checkS l) :=
  Pure.of_closed (C := codes) (S := sigs) mixed Tryz.func202 (by kernel_rfl) (Nat.le_of_ble_eq_true (by kernel_rfl)) fun A hA => hA.go (t125 l) (by
    refine sat_bif (fun h => ⟨⟨trivial, trivial⟩, ?_⟩) (fun h => sat_bif (fun h2 => ⟨⟨trivial, trivial⟩, ?_⟩) (fun h2 => ?_))
    · rw [checkS, h]; rfl
    · rw [checkS, h, h2]; rfl
    · have := of_decide_eq_false h2
      exact loop125 (by omega) hA 0 (by omega) (by rw [checkS, h, h2]; rfl))

theorem loop121 {l : List Fl} (hl : l.length ≤ 25) {r : Int} {A : List Item → AS → Prop} (hA : Closed Tryz.prog codes sigs Tryz.f218 (pureFin [.int]) (fun y => y = r) 0 A)
    (i : Nat) (hi : i ≤ l.length) (hp : ∀ q, prevF l i = some q → nanF q = false) (h : chkGo (prevF l i) (l.drop i) = r) : A (hd Tryz.f218 0) (L121 l i) := by
  refine hA.go (t121a l i) (sat_bif (fun h1 => ?_) (fun h1 => ?_))
  · have h1 := of_decide_eq_true h1
    have hil : i < l.length := by omega
    rw [getD_int hil]
    rw [List.drop_eq_getElem_cons hil, chk_cons] at h
    refine ⟨⟨⟨by omega, by omega⟩, trivial⟩, ⟨⟨trivial, trivial⟩, trivial⟩, _, c145 _, sat_bif (fun h2 => ⟨⟨trivial, trivial⟩, ?_⟩) (fun h2 => ?_)⟩
    · rw [h2] at h; exact h
    · rw [h2, cond_false] at h
      rw [wrap_succ (by omega)]
      cases i with
      | zero =>
        have e0 : prevF l 1 = some l[0] := List.getElem?_eq_getElem hil
        refine sat_bif (fun h3 => by cases h3) (fun _ => ?_)
        exact loop121 hl hA 1 (by omega) (fun q hq => by rw [e0] at hq; cases hq; exact h2) (by rw [e0]; exact h)
      | succ j =>
        have hj : j < l.length := by omega
        have ep : prevF l (j + 1) = some l[j] := List.getElem?_eq_getElem hj
        have en : prevF l (j + 1 + 1) = some l[j + 1] := List.getElem?_eq_getElem hil
        have hq := hp _ ep
        rw [ep] at h
        have ew : IntKind.i64.wrap (((j + 1 : Nat) : Int) - 1) = (j : Int) := by rw [wrap_i64 (by omega) (by omega)]; omega
        refine sat_bif (fun _ => ?_) (fun h3 => absurd (of_decide_eq_false h3) (by omega))
        rw [ew, getD_int hj]
        have h : (bif ltF l[j] l[j + 1] then chkGo (some l[j + 1]) (l.drop (j + 1 + 1)) else 70) = r := h
        rw [ltF_key hq h2] at h
        refine ⟨⟨⟨by omega, by omega⟩, trivial⟩, ⟨⟨by omega, by omega⟩, trivial⟩, sat_bif (fun h4 => ⟨⟨trivial, trivial⟩, ?_⟩) (fun h4 => ?_)⟩
        · have h4 : leF l[j + 1] l[j] = true := h4
          rw [leF_key h2 hq] at h4
          have h4 := of_decide_eq_true h4
          rw [decide_eq_false (by omega)] at h; exact h
        · have h4 : leF l[j + 1] l[j] = false := h4
          rw [leF_key h2 hq] at h4
          have h4 := of_decide_eq_false h4
          rw [decide_eq_true (by omega), cond_true] at h
          exact loop121 hl hA (j + 1 + 1) (by omega) (fun q hq => by rw [en] at hq; cases hq; exact h2) (by rw [en]; exact h)
  · have h1 := of_decide_eq_false h1
    refine ⟨⟨trivial, trivial⟩, ?_⟩
    rw [List.drop_eq_nil_of_le (by omega)] at h
    generalize prevF l i = p at h
    cases p <;> exact h
termination_by l.length - i
theorem c121 (l : List Fl) : Pure Tryz.prog 218 [⟨.sl .flt, l⟩] [.int] (checkS l) :=
  Pure.of_closed (C := codes) (S := sigs) mixed Tryz.func218 (by kernel_rfl) (Nat.le_of_ble_eq_true (by kernel_rfl)) fun A hA => hA.go (t121 l) (by
    refine sat_bif (fun h => ⟨⟨trivial, trivial⟩, ?_⟩) (fun h => sat_bif (fun h2 => ⟨⟨trivial, trivial⟩, ?_⟩) (fun h2 => ?_))
    · rw [checkS, h]; rfl
    · rw [checkS, h, h2]; rfl
    · have := of_decide_eq_false h2
      exact loop121 (by omega) hA 0 (by omega) (fun q hq => by cases hq) (by rw [checkS, h, h2]; rfl))
end Go.Proofs.Zn

/- Lanes that are reached. (Own work.) -/
namespace Go.Proofs.Zn
open Go Go.VL

def cntF (m : List Fl) (x : Fl) : Nat := (m.takeWhile fun b => leF b x).length
def behindS (l : List Fl) (x : Fl) : Nat := cntF (l.take (l.length - 1)) x
theorem cntF_le (m : List Fl) (x : Fl) : cntF m x ≤ m.length := (List.takeWhile_sublist _).length_le

theorem loop144 {m : List Fl} {x : Fl} (hl : m.length ≤ 1000) {r : Int} {A : List Item → AS → Prop} (hA : Closed Tryz.prog codes sigs Tryz.f253 (pureFin [.int]) (fun y => y = r) 0 A)
    (i : Nat) (hi : i ≤ m.length) (h : ((i + cntF (m.drop i) x : Nat) : Int) = r) : A (hd Tryz.f253 0) (L144 m x i i) := by
  refine hA.go (t144a m x i i) (sat_bif (fun h1 => ?_) (fun h1 => ?_))
  · have h1 := of_decide_eq_true h1
    have hil : i < m.length := by omega
    rw [getD_int hil]
    rw [List.drop_eq_getElem_cons hil, cntF, List.takeWhile_cons] at h
    refine ⟨⟨⟨by omega, by omega⟩, trivial⟩, sat_bif (fun h2 => ⟨⟨trivial, trivial⟩, ?_⟩) (fun h2 => ?_)⟩
    · have h2 : leF m[i] x = false := nt h2
      rw [h2] at h
      exact h
    · have h2 : leF m[i] x = true := nf h2
      rw [h2] at h
      rw [wrap_succ (by omega)]
      exact loop144 hl hA (i + 1) (by omega) (by rw [← h]; simp [cntF]; omega)
  · have h1 := of_decide_eq_false h1
    refine ⟨⟨trivial, trivial⟩, ?_⟩
    rw [List.drop_eq_nil_of_le (by omega)] at h
    exact h
termination_by m.length - i
theorem c144 {l : List Fl} {x : Fl} (h1 : 1 ≤ l.length) (h2 : l.length ≤ 1000) : Pure Tryz.prog 253 [⟨.sl .flt, l⟩, ⟨.flt, x⟩] [.int] ((behindS l x : Nat) : Int) :=
  Pure.of_closed (C := codes) (S := sigs) mixed Tryz.func253 (by kernel_rfl) (Nat.le_of_ble_eq_true (by kernel_rfl)) fun A hA => hA.go (t144 l x) (by
    refine ⟨⟨⟨trivial, trivial⟩, trivial⟩, _, c143 (by omega), ⟨⟨by omega, by unfold lanesI; omega, by unfold lanesI; omega⟩, trivial⟩, ?_⟩
    have e : (List.take (lanesI l).toNat l).drop 0 = l.take (l.length - 1) := by
      rw [List.drop_zero]; congr 1; unfold lanesI; omega
    rw [e]
    exact loop144 (x := x) (by rw [List.length_take]; omega) hA 0 (by omega) (by rw [List.drop_zero, Nat.zero_add]; rfl))

def gtF (x y : Fl) : Bool := Fl.cmp x y == some Ordering.gt
theorem gtF_key {x y : Fl} (hx : nanF x = false) (hy : nanF y = false) : gtF x y = decide (keyF y < keyF x) := by
  rw [gtF, cmp_key hx hy]
  simp only [compare, compareOfLessAndEq]
  by_cases h : keyF x < keyF y
  · rw [if_pos h, decide_eq_false (by omega)]; rfl
  · rw [if_neg h]
    by_cases h2 : keyF x = keyF y
    · rw [if_pos h2, decide_eq_false (by omega)]; rfl
    · rw [if_neg h2, decide_eq_true (by omega)]; rfl
abbrev no (e : Int) : Span × Int := (⟨0, 0⟩, e)
abbrev loF (x r : Fl) : Fl := Fl.arith BinOp.sub x r
abbrev hiF (x r : Fl) : Fl := Fl.arith BinOp.add x r
def inS (l : List Fl) (a b : Fl) : Span × Int :=
  bif ltF b (l.getD 0 (some 0)) then no 71 else bif gtF a (l.getD (l.length - 1) (some 0)) then no 71 else (⟨((max (behindS l a) 1 : Nat) : Int) - 1, ((behindS l b : Nat) : Int) - 1⟩, 0)
def reachS (l : List Fl) (x r : Fl) : Span × Int :=
  bif checkS l != 0 then no (checkS l) else bif nanF x then no 20 else bif nanF r then no 20 else bif ltF r (some 0) then no 22 else bif nanF (loF x r) then no 20 else bif nanF (hiF x r) then no 20 else inS l (loF x r) (hiF x r)
theorem check_len {l : List Fl} (h : checkS l = 0) : 2 ≤ l.length ∧ l.length ≤ 25 := by
  unfold checkS at h
  by_cases h1 : (l.length : Int) < 2
  · rw [decide_eq_true h1, cond_true] at h; cases h
  · rw [decide_eq_false h1, cond_false] at h
    by_cases h2 : (l.length : Int) > 25
    · rw [decide_eq_true h2, cond_true] at h; cases h
    · omega
theorem c119 (l : List Fl) (x r : Fl) : Pure Tryz.prog 206 [⟨.sl .flt, l⟩, ⟨.flt, x⟩, ⟨.flt, r⟩] [.span, .int] (reachS l x r) :=
  ofT Tryz.func206 (t119 l x r) (by kernel_rfl) (by kernel_rfl) fun A => by
    have N1 : (True ∧ True) ∧ True := ⟨⟨trivial, trivial⟩, trivial⟩
    have N2 : (True ∧ True) ∧ (True ∧ True) ∧ True := ⟨⟨trivial, trivial⟩, ⟨trivial, trivial⟩, trivial⟩
    have N3 : (True ∧ True ∧ True) ∧ True ∧ True := ⟨⟨trivial, trivial, trivial⟩, trivial, trivial⟩
    refine ⟨N1, _, c125 l, sat_if (fun _ => ⟨N3, rfl⟩) (fun hc => ⟨N1, _, c142 x, sat_if (fun _ => ⟨N3, rfl⟩) (fun _ => ⟨N1, _, c142 r, sat_if (fun _ => ⟨N3, rfl⟩) (fun _ => sat_if (fun _ => ⟨N3, rfl⟩) (fun _ => ⟨N1, _, c142 _, sat_if (fun _ => ⟨N3, rfl⟩) (fun _ => ⟨N1, _, c142 _, sat_if (fun _ => ⟨N3, rfl⟩) (fun _ => ?_)⟩)⟩))⟩)⟩)⟩
    have hc : checkS l = 0 := by simpa using hc
    obtain ⟨l2, l25⟩ := check_len hc
    refine ⟨⟨⟨by omega, by omega⟩, trivial⟩, sat_if (fun _ => ⟨N3, rfl⟩) (fun _ => ⟨N1, _, c143 (by omega), ⟨⟨by unfold lanesI; omega, by unfold lanesI; omega⟩, trivial⟩, ?_⟩)⟩
    have e : (lanesI l).toNat = l.length - 1 := by unfold lanesI; omega
    rw [e]
    refine sat_if (fun _ => ⟨N3, rfl⟩) (fun _ => ⟨N2, _, c144 (by omega) (by omega), N2, _, c144 (by omega) (by omega), N3, ?_⟩)
    have b1 := cntF_le (l.take (l.length - 1)) (loF x r)
    have b2 := cntF_le (l.take (l.length - 1)) (hiF x r)
    rw [List.length_take] at b1 b2
    have e1 : IntKind.i64.wrap ((if (1 : Int) > ((behindS l (loF x r) : Nat) : Int) then 1 else ((behindS l (loF x r) : Nat) : Int)) - 1) = ((max (behindS l (loF x r)) 1 : Nat) : Int) - 1 := by
      unfold behindS
      split
      · rw [wrap_i64 (by omega) (by omega)]; omega
      · rw [wrap_i64 (by omega) (by omega)]; omega
    have e2 : IntKind.i64.wrap (((behindS l (hiF x r) : Nat) : Int) - 1) = ((behindS l (hiF x r) : Nat) : Int) - 1 := by
      unfold behindS
      exact wrap_i64 (by omega) (by omega)
    show ((⟨IntKind.i64.wrap ((if (1 : Int) > ((behindS l (loF x r) : Nat) : Int) then 1 else ((behindS l (loF x r) : Nat) : Int)) - 1), IntKind.i64.wrap (((behindS l (hiF x r) : Nat) : Int) - 1)⟩ : Span), (0 : Int)) = _
    rw [e1, e2]
end Go.Proofs.Zn

/- Lanes that are touched: the reference. (Own work.) -/
namespace Go.Proofs.Zn
open Go Go.VL

def geF (x y : Fl) : Bool := Fl.cmp x y == some Ordering.gt || Fl.cmp x y == some Ordering.eq
def touchS (l : List Fl) (k : Nat) (a b : Fl) : Bool :=
  bif (k + 2 == l.length) then (bif leF a (l.getD (k + 1) (some 0)) then geF b (l.getD k (some 0)) else false) else (bif ltF a (l.getD (k + 1) (some 0)) then geF b (l.getD k (some 0)) else false)
theorem c146 {l : List Fl} {k : Nat} {a b : Fl} (hk : k + 1 < l.length) (hl : l.length ≤ 25) : Pure Tryz.prog 288 [⟨.sl .flt, l⟩, ⟨.int, (k : Int)⟩, ⟨.flt, a⟩, ⟨.flt, b⟩] [.bool] (touchS l k a b) :=
  ofT Tryz.func288 (t146 l k a b) (by kernel_rfl) (by kernel_rfl) fun A => by
    have w1 : IntKind.i64.wrap ((k : Int) + 1) = ((k + 1 : Nat) : Int) := wrap_succ (by omega)
    have w2 : IntKind.i64.wrap ((k : Int) + 2) = ((k + 2 : Nat) : Int) := by rw [wrap_i64 (by omega) (by omega)]; rfl
    have e : (((k + 2 : Nat) : Int) == (l.length : Int)) = (k + 2 == l.length) := by
      by_cases h : k + 2 = l.length
      · rw [h]; simp
      · have h1 : (k + 2 == l.length) = false := by simpa using h
        rw [h1]; simp; omega
    rw [w1, w2, e, Int.toNat_natCast, Int.toNat_natCast]
    have I1 : ((0 : Int) ≤ ((k + 1 : Nat) : Int) ∧ ((k + 1 : Nat) : Int) < (l.length : Int)) ∧ True := ⟨⟨by omega, by omega⟩, trivial⟩
    have I0 : ((0 : Int) ≤ (k : Int) ∧ (k : Int) < (l.length : Int)) ∧ True := ⟨⟨by omega, by omega⟩, trivial⟩
    exact sat_if (fun _ => ⟨I1, sat_if (fun _ => ⟨I0, ⟨trivial, trivial⟩, rfl⟩) (fun _ => ⟨⟨trivial, trivial⟩, rfl⟩)⟩) (fun _ => ⟨I1, sat_if (fun _ => ⟨I0, ⟨trivial, trivial⟩, rfl⟩) (fun _ => ⟨⟨trivial, trivial⟩, rfl⟩)⟩)

/-- The lanes below k that are touched. -/
def tchS (l : List Fl) (a b : Fl) : Nat → List Int
  | 0 => []
  | k + 1 => bif touchS l k a b then tchS l a b k ++ [(k : Int)] else tchS l a b k
theorem tch_len (l : List Fl) (a b : Fl) : ∀ k, (tchS l a b k).length ≤ k
  | 0 => Nat.le_refl _
  | k + 1 => by
    have := tch_len l a b k
    rw [tchS]
    cases touchS l k a b
    · rw [cond_false]; omega
    · rw [cond_true, List.length_append]; simp; omega
def outS (out : List Int) : Span × Int := bif (out.length : Int) == 0 then no 71 else (⟨out.getD 0 0, out.getD (out.length - 1) 0⟩, 0)
theorem loop120 {l : List Fl} (h2 : 2 ≤ l.length) (hl : l.length ≤ 25) (a b : Fl) {r : Span × Int} (hr : r = outS (tchS l a b (l.length - 1))) {A : List Item → AS → Prop} (hA : Closed Tryz.prog codes sigs Tryz.f255 (pureFin [.span, .int]) (fun y => y = r) 0 A)
    (i : Nat) (hi : i ≤ l.length - 1) : A (hd Tryz.f255 0) (L120 l a b (tchS l a b i) i) := by
  refine hA.go (t120a l a b _ i) ?_
  rw [wrap_succ (by omega)]
  have ht := tch_len l a b i
  refine sat_bif (fun h1 => ?_) (fun h1 => ?_)
  · have h1 := of_decide_eq_true h1
    refine ⟨⟨⟨trivial, trivial⟩, ⟨trivial, trivial⟩, ⟨trivial, trivial⟩, ⟨trivial, trivial⟩, trivial⟩, _, c146 (by omega) hl, sat_bif (fun h3 => ⟨⟨⟨trivial, trivial⟩, trivial⟩, ⟨by simp only [List.length_cons, List.length_nil]; omega, trivial⟩, ?_⟩) (fun h3 => ?_)⟩
    · have := loop120 h2 hl a b hr hA (i + 1) (by omega)
      rw [tchS, h3] at this
      exact this
    · have := loop120 h2 hl a b hr hA (i + 1) (by omega)
      rw [tchS, h3] at this
      exact this
  · have h1 := of_decide_eq_false h1
    have e : i = l.length - 1 := by omega
    rw [← e] at hr
    generalize tchS l a b i = out at *
    have N3 : (True ∧ True ∧ True) ∧ True ∧ True := ⟨⟨trivial, trivial, trivial⟩, trivial, trivial⟩
    subst hr
    refine sat_bif (fun h => ⟨N3, ?_⟩) (fun h => ?_)
    · show no 71 = _
      rw [outS, h]; rfl
    · have hpos : 0 < out.length := by
        rcases Nat.eq_zero_or_pos out.length with h0 | h0
        · rw [h0] at h; cases h
        · exact h0
      have ew : IntKind.i64.wrap ((out.length : Int) - 1) = ((out.length - 1 : Nat) : Int) := by rw [wrap_i64 (by omega) (by omega)]; omega
      rw [ew, Int.toNat_natCast]
      refine ⟨⟨by omega, by omega⟩, hpos, ⟨by omega, by omega⟩, by omega, N3, ?_⟩
      show ((⟨out.getD 0 0, out.getD (out.length - 1) 0⟩ : Span), (0 : Int)) = _
      rw [outS, h]; rfl
termination_by l.length - i

def refReachS (l : List Fl) (x r : Fl) : Span × Int :=
  bif checkS l != 0 then no (checkS l) else bif nanF x then no 20 else bif nanF r then no 20 else bif ltF r (some 0) then no 22 else bif nanF (loF x r) then no 20 else bif nanF (hiF x r) then no 20 else outS (tchS l (loF x r) (hiF x r) (l.length - 1))
theorem c120 (l : List Fl) (x r : Fl) : Pure Tryz.prog 255 [⟨.sl .flt, l⟩, ⟨.flt, x⟩, ⟨.flt, r⟩] [.span, .int] (refReachS l x r) :=
  Pure.of_closed (C := codes) (S := sigs) mixed Tryz.func255 (by kernel_rfl) (Nat.le_of_ble_eq_true (by kernel_rfl)) fun A hA => hA.go (t120 l x r) (by
    have N1 : (True ∧ True) ∧ True := ⟨⟨trivial, trivial⟩, trivial⟩
    have N3 : (True ∧ True ∧ True) ∧ True ∧ True := ⟨⟨trivial, trivial, trivial⟩, trivial, trivial⟩
    refine ⟨N1, _, c121 l, sat_bif (fun h1 => ⟨N3, ?_⟩) (fun h1 => ⟨N1, _, c145 x, sat_bif (fun h2 => ⟨N3, ?_⟩) (fun h2 => ⟨N1, _, c145 r, sat_bif (fun h3 => ⟨N3, ?_⟩) (fun h3 => sat_bif (fun h4 => ⟨N3, ?_⟩) (fun h4 => ⟨N1, _, c145 _, sat_bif (fun h5 => ⟨N3, ?_⟩) (fun h5 => ⟨N1, _, c145 _, sat_bif (fun h6 => ⟨N3, ?_⟩) (fun h6 => ?_)⟩)⟩))⟩)⟩)⟩
    · rw [refReachS, h1]; rfl
    · rw [refReachS, h1, h2]; rfl
    · rw [refReachS, h1, h2, h3]; rfl
    · have h4 : ltF r (some 0) = true := h4
      rw [refReachS, h1, h2, h3, h4]; rfl
    · have h4 : ltF r (some 0) = false := h4
      rw [refReachS, h1, h2, h3, h4, h5]; rfl
    · have h4 : ltF r (some 0) = false := h4
      rw [refReachS, h1, h2, h3, h4, h5, h6]; rfl
    · have h4 : ltF r (some 0) = false := h4
      have hc : checkS l = 0 := by simpa using h1
      obtain ⟨l2, l25⟩ := check_len hc
      refine hA.row 11 3 .int (by kernel_rfl) (s' := L120 l (loF x r) (hiF x r) [] 0) (by kernel_rfl) ?_
      exact loop120 l2 l25 (loF x r) (hiF x r) (by rw [refReachS, h1, h2, h3, h4, h5, h6]; rfl) hA 0 (by omega))
end Go.Proofs.Zn

/- Lanes that are reached, by count and by definition: the same. (Own work.) -/
namespace Go.Proofs.Zn
open Go Go.VL

theorem chk_rise : ∀ (l : List Fl) (q : Fl), nanF q = false → chkGo (some q) l = 0 → (∀ x ∈ q :: l, nanF x = false) ∧ List.Pairwise (fun x y => keyF x < keyF y) (q :: l)
  | [], q, hq, _ => ⟨fun x hx => by simp at hx; subst hx; exact hq, List.pairwise_singleton _ _⟩
  | x :: r, q, hq, h => by
    rw [chk_cons] at h
    cases hx : nanF x with
    | true => rw [hx] at h; cases h
    | false =>
      rw [hx, cond_false] at h
      have h : (bif ltF q x then chkGo (some x) r else 70) = 0 := h
      cases hl : ltF q x with
      | false => rw [hl] at h; cases h
      | true =>
        rw [hl, cond_true] at h
        obtain ⟨i1, i2⟩ := chk_rise r x hx h
        rw [ltF_key hq hx] at hl
        have hl := of_decide_eq_true hl
        refine ⟨fun y hy => ?_, List.pairwise_cons.2 ⟨fun y hy => ?_, i2⟩⟩
        · rcases List.mem_cons.1 hy with rfl | hy
          · exact hq
          · exact i1 y hy
        · rcases List.mem_cons.1 hy with rfl | hy
          · exact hl
          · have := (List.pairwise_cons.1 i2).1 y hy; omega
theorem check_rise {l : List Fl} (h : checkS l = 0) : (∀ x ∈ l, nanF x = false) ∧ List.Pairwise (fun x y => keyF x < keyF y) l := by
  obtain ⟨h2, h25⟩ := check_len h
  have h : chkGo none l = 0 := by
    unfold checkS at h
    rw [decide_eq_false (by omega), cond_false, decide_eq_false (by omega), cond_false] at h
    exact h
  cases l with
  | nil => simp at h2
  | cons x r =>
    rw [chk_cons] at h
    cases hx : nanF x with
    | true => rw [hx] at h; cases h
    | false => rw [hx, cond_false] at h; exact chk_rise r x hx h
theorem cnt_iff {x : Fl} (hx : nanF x = false) : ∀ (m : List Fl), (∀ y ∈ m, nanF y = false) → List.Pairwise (fun x y => keyF x < keyF y) m → ∀ (k : Nat) (h : k < m.length), keyF m[k] ≤ keyF x ↔ k < cntF m x
  | [], _, _, k, h => by simp at h
  | c :: m, hn, hp, k, h => by
    have hc := hn c (.head _)
    have e : cntF (c :: m) x = if leF c x then cntF m x + 1 else 0 := by
      rw [cntF, List.takeWhile_cons]
      cases leF c x <;> simp [cntF]
    rw [e, leF_key hc hx]
    have ih := cnt_iff hx m (fun y hy => hn y (.tail _ hy)) (List.pairwise_cons.1 hp).2
    by_cases hle : keyF c ≤ keyF x
    · rw [decide_eq_true hle, if_pos rfl]
      cases k with
      | zero => exact ⟨fun _ => by omega, fun _ => hle⟩
      | succ k =>
        have hk : k < m.length := by simpa using h
        have := ih k hk
        show keyF m[k] ≤ keyF x ↔ _
        omega
    · rw [decide_eq_false hle, if_neg (by decide)]
      refine ⟨fun h' => ?_, fun h' => absurd h' (by omega)⟩
      cases k with
      | zero => exact absurd h' hle
      | succ k =>
        have hk : k < m.length := by simpa using h
        have h3 := (List.pairwise_cons.1 hp).1 m[k] (List.getElem_mem _)
        have h' : keyF m[k] ≤ keyF x := h'
        omega
theorem behind_iff {l : List Fl} {x : Fl} (hx : nanF x = false) (hn : ∀ y ∈ l, nanF y = false) (hp : List.Pairwise (fun x y => keyF x < keyF y) l) (k : Nat) (h : k < l.length - 1) : keyF (l.getD k (some 0)) ≤ keyF x ↔ k < behindS l x := by
  have := cnt_iff hx (l.take (l.length - 1)) (fun y hy => hn y (List.mem_of_mem_take hy)) (hp.sublist (List.take_sublist _ _)) k (by rw [List.length_take]; omega)
  rw [List.getElem_take] at this
  rw [getD_at' (by omega)]
  exact this
theorem behind_le (l : List Fl) (x : Fl) : behindS l x ≤ l.length - 1 := by
  have := cntF_le (l.take (l.length - 1)) x
  rw [List.length_take] at this
  unfold behindS; omega
theorem rise_lt {l : List Fl} (hp : List.Pairwise (fun x y => keyF x < keyF y) l) {i j : Nat} (hij : i < j) (hj : j < l.length) : keyF (l.getD i (some 0)) < keyF (l.getD j (some 0)) := by
  rw [getD_at' (by omega), getD_at' hj]
  exact List.pairwise_iff_getElem.1 hp i j (by omega) hj hij
theorem geF_key {x y : Fl} (hx : nanF x = false) (hy : nanF y = false) : geF x y = decide (keyF y ≤ keyF x) := by
  rw [geF, cmp_key hx hy]
  simp only [compare, compareOfLessAndEq]
  by_cases h : keyF x < keyF y
  · rw [if_pos h, decide_eq_false (by omega)]; rfl
  · rw [if_neg h]
    by_cases h2 : keyF x = keyF y
    · rw [if_pos h2, decide_eq_true (by omega)]; rfl
    · rw [if_neg h2, decide_eq_true (by omega)]; rfl
theorem tch_range {l : List Fl} {a b : Fl} {lo hi : Nat} : ∀ m : Nat, (∀ k, k < m → (touchS l k a b = true ↔ lo ≤ k ∧ k < hi)) → tchS l a b m = (List.range' lo (min hi m - lo)).map fun n : Nat => Int.ofNat n
  | 0, _ => by simp [tchS]
  | m + 1, h => by
    have ih := tch_range m (fun k hk => h k (by omega))
    rw [tchS, ih]
    have hm := h m (by omega)
    cases ht : touchS l m a b with
    | true =>
      obtain ⟨h1, h2⟩ := hm.1 ht
      have e : min hi (m + 1) - lo = min hi m - lo + 1 := by omega
      rw [e, List.range'_concat, cond_true, List.map_append]
      have e2 : lo + 1 * (min hi m - lo) = m := by omega
      rw [e2]; rfl
    | false =>
      have : ¬ (lo ≤ m ∧ m < hi) := fun h' => by rw [hm.2 h'] at ht; cases ht
      have e : min hi (m + 1) - lo = min hi m - lo := by omega
      rw [e, cond_false]
theorem in_out {l : List Fl} {a b : Fl} (hc : checkS l = 0) (ha : nanF a = false) (hb : nanF b = false) (hab : keyF a ≤ keyF b) : inS l a b = outS (tchS l a b (l.length - 1)) := by
  obtain ⟨h2, h25⟩ := check_len hc
  obtain ⟨hn, hp⟩ := check_rise hc
  have nn : ∀ k, k < l.length → nanF (l.getD k (some 0)) = false := fun k hk => by rw [getD_at' hk]; exact hn _ (List.getElem_mem _)
  have tk : ∀ k, k < l.length - 1 → (touchS l k a b = true ↔ ((k + 2 = l.length ∧ keyF a ≤ keyF (l.getD (k + 1) (some 0)) ∨ k + 2 ≠ l.length ∧ keyF a < keyF (l.getD (k + 1) (some 0))) ∧ keyF (l.getD k (some 0)) ≤ keyF b)) := by
    intro k hk
    unfold touchS
    rw [leF_key ha (nn _ (by omega)), ltF_key ha (nn _ (by omega)), geF_key hb (nn _ (by omega))]
    generalize keyF (l.getD (k + 1) (some 0)) = u
    generalize keyF (l.getD k (some 0)) = v
    by_cases e : k + 2 = l.length
    · rw [show (k + 2 == l.length) = true by simpa using e, cond_true]
      by_cases e2 : keyF a ≤ u
      · rw [decide_eq_true e2, cond_true, decide_eq_true_eq]
        exact ⟨fun h => ⟨.inl ⟨e, e2⟩, h⟩, fun h => h.2⟩
      · rw [decide_eq_false e2, cond_false]
        exact ⟨fun h => (by cases h), fun h => absurd h (by omega)⟩
    · rw [show (k + 2 == l.length) = false by simpa using e, cond_false]
      by_cases e2 : keyF a < u
      · rw [decide_eq_true e2, cond_true, decide_eq_true_eq]
        exact ⟨fun h => ⟨.inr ⟨e, e2⟩, h⟩, fun h => h.2⟩
      · rw [decide_eq_false e2, cond_false]
        exact ⟨fun h => (by cases h), fun h => absurd h (by omega)⟩
  rw [inS, ltF_key hb (nn _ (by omega)), gtF_key ha (nn _ (by omega))]
  by_cases g1 : keyF b < keyF (l.getD 0 (some 0))
  · rw [decide_eq_true g1, cond_true, tch_range (lo := 0) (hi := 0) _ (fun k hk => by
      rw [tk k hk]
      refine ⟨fun h => ?_, fun h => absurd h.2 (by omega)⟩
      rcases Nat.eq_zero_or_pos k with h0 | h0
      · subst h0; omega
      · have := rise_lt hp h0 (show k < l.length by omega); omega)]
    simp [outS]
  · rw [decide_eq_false g1, cond_false]
    by_cases g2 : keyF (l.getD (l.length - 1) (some 0)) < keyF a
    · rw [decide_eq_true g2, cond_true, tch_range (lo := 0) (hi := 0) _ (fun k hk => by
        rw [tk k hk]
        refine ⟨fun h => ?_, fun h => absurd h.2 (by omega)⟩
        rcases Nat.lt_or_ge (k + 1) (l.length - 1) with h0 | h0
        · have := rise_lt hp h0 (show l.length - 1 < l.length by omega); omega
        · have e : k + 1 = l.length - 1 := by omega
          rw [e] at h; omega)]
      simp [outS]
    · rw [decide_eq_false g2, cond_false]
      have A := fun k h => behind_iff ha hn hp k h
      have B := fun k h => behind_iff hb hn hp k h
      have la := behind_le l a
      have lb := behind_le l b
      have b1 : 0 < behindS l b := (B 0 (by omega)).1 (by omega)
      have ab : behindS l a ≤ behindS l b := by
        rcases Nat.lt_or_ge (behindS l b) (behindS l a) with h | h
        · have h1 := (A (behindS l b) (by omega)).2 h
          have h3 := (B (behindS l b) (by omega)).1 (by omega)
          omega
        · exact h
      have hr := tch_range (l := l) (a := a) (b := b) (lo := max (behindS l a) 1 - 1) (hi := behindS l b) (l.length - 1) (fun k hk => by
        rw [tk k hk, B k hk]
        by_cases e : k + 2 = l.length
        · have e3 : k + 1 = l.length - 1 := by omega
          rw [e3]
          omega
        · have h4 := A (k + 1) (by omega)
          omega)
      rw [hr]
      have e5 : min (behindS l b) (l.length - 1) = behindS l b := by omega
      rw [e5]
      generalize behindS l a = p at *
      generalize behindS l b = q at *
      have e6 : ((List.range' (max p 1 - 1) (q - (max p 1 - 1))).map fun n : Nat => Int.ofNat n).length = q - (max p 1 - 1) := by simp
      rw [outS, e6]
      have hpos : 0 < q - (max p 1 - 1) := by omega
      have e7 : (((q - (max p 1 - 1) : Nat) : Int) == 0) = false := by simp; omega
      rw [e7, cond_false]
      rw [getD_at' (by rw [e6]; exact hpos), getD_at' (by rw [e6]; omega)]
      simp only [List.getElem_map, List.getElem_range']
      congr 1
      congr 1
      · show ((max p 1 : Nat) : Int) - 1 = ((max p 1 - 1 + 1 * 0 : Nat) : Int)
        omega
      · show ((q : Nat) : Int) - 1 = ((max p 1 - 1 + 1 * (q - (max p 1 - 1) - 1) : Nat) : Int)
        omega
end Go.Proofs.Zn

/- Rounding keeps order: whole numbers. (Own work.) -/
namespace Go.Proofs.Zn

def rne (n g : Nat) : Nat := n / g + (decide (g < 2 * (n % g)) || (g == 2 * (n % g) && n / g % 2 == 1)).toNat
theorem cut_eq (neg : Bool) (n d : Nat) : Ieee.Toward.even.cut neg n d = rne n (2 ^ d) := by
  have key : ∀ k, Ieee.Toward.even.cut neg n d = rne n (1 <<< min d (n.log2 + 2)) ∧ (k = 0 → True) := fun k => ⟨rfl, fun _ => trivial⟩
  rw [(key 0).1, Nat.shiftLeft_eq, Nat.one_mul]
  by_cases h : d ≤ n.log2 + 2
  · rw [Nat.min_eq_left h]
  · rw [Nat.min_eq_right (by omega)]
    have h1 : n < 2 ^ (n.log2 + 1) := Nat.lt_log2_self
    have e2 : 2 ^ (n.log2 + 2) = 2 * 2 ^ (n.log2 + 1) := by rw [Nat.pow_succ, Nat.mul_comm]
    have h2 : 2 * n < 2 ^ (n.log2 + 2) := by omega
    have h3 : 2 ^ (n.log2 + 2) ≤ 2 ^ d := Nat.pow_le_pow_right (by decide) (by omega)
    have z : ∀ g, 2 * n < g → rne n g = 0 := by
      intro g hg
      have e1 : n / g = 0 := Nat.div_eq_of_lt (by omega)
      have e2 : n % g = n := Nat.mod_eq_of_lt (by omega)
      unfold rne
      rw [e1, e2, decide_eq_false (by omega)]
      simp
    rw [z _ h2, z _ (by omega)]
theorem rne_mono {n n' g : Nat} (hg : 0 < g) (h : n ≤ n') : rne n g ≤ rne n' g := by
  have hq : n / g ≤ n' / g := Nat.div_le_div_right h
  have b1 : ∀ b : Bool, b.toNat ≤ 1 := fun b => by cases b <;> decide
  unfold rne
  rcases Nat.lt_or_ge (n / g) (n' / g) with hl | hge
  · have := b1 (decide (g < 2 * (n % g)) || (g == 2 * (n % g) && n / g % 2 == 1))
    omega
  · have e : n / g = n' / g := by omega
    have m1 := Nat.div_add_mod n g
    have m2 := Nat.div_add_mod n' g
    rw [e] at m1 ⊢
    have hm : n % g ≤ n' % g := by omega
    have hb : (decide (g < 2 * (n % g)) || (g == 2 * (n % g) && n' / g % 2 == 1)).toNat ≤ (decide (g < 2 * (n' % g)) || (g == 2 * (n' % g) && n' / g % 2 == 1)).toNat := by
      by_cases h1 : g < 2 * (n' % g)
      · rw [decide_eq_true h1, Bool.true_or]
        exact b1 _
      · by_cases h2 : n % g = n' % g
        · rw [h2]; exact Nat.le_refl _
        · have h3 : ¬ g < 2 * (n % g) := by omega
          have h4 : (g == 2 * (n % g)) = false := by simp; omega
          rw [decide_eq_false h3, h4]
          exact Nat.zero_le _
    omega
theorem rne_le {n g k : Nat} (hg : 0 < g) (h : n ≤ k * g) : rne n g ≤ k := by
  have := rne_mono hg h
  have e : rne (k * g) g = k := by
    unfold rne
    rw [Nat.mul_div_cancel _ hg, Nat.mul_mod_left, decide_eq_false (by omega)]
    have : (g == 2 * 0) = false := by simp; omega
    rw [this]; rfl
  omega
theorem le_rne {n g k : Nat} (hg : 0 < g) (h : k * g ≤ n) : k ≤ rne n g := by
  have : k ≤ n / g := (Nat.le_div_iff_mul_le hg).2 h
  unfold rne
  omega
end Go.Proofs.Zn

/- Rounding keeps order: the rung. (Own work.) -/
namespace Go.Proofs.Zn
open Go

def lastP (base : Int) (mag : Nat) : Int := max (base + mag.log2 - 52) least
def kept (base L : Int) (mag : Nat) : Nat := rne (mag * 2 ^ (base - L).toNat) (2 ^ (L - base).toNat)
def rungN (base : Int) (mag : Nat) : Nat := if mag = 0 then 0 else min ((lastP base mag - least).toNat * 4503599627370496 + kept base (lastP base mag) mag) 9218868437227405312
theorem nearest_eq (neg : Bool) (mag : Nat) (base : Int) : FloatKind.f64.format.nearest neg mag base = FloatKind.f64.format.word neg (rungN base mag) := by
  have e2 : FloatKind.f64.format.binade = 4503599627370496 := by decide
  have e3 : FloatKind.f64.format.infRung = 9218868437227405312 := by decide
  have e4 : FloatKind.f64.format.fractionBits = 52 := by decide
  unfold Ieee.Format.nearest rungN
  rw [e2, e3, e4]
  by_cases h : mag = 0
  · rw [if_pos h, if_pos h]
  · rw [if_neg h, if_neg h]
    simp only [cut_eq, Nat.shiftLeft_eq]
    rfl
theorem pow2_pos (k : Nat) : 0 < 2 ^ k := Nat.pow_pos (by decide)
theorem kept_lo {base : Int} {mag : Nat} (h0 : mag ≠ 0) {L : Int} (hL : L = base + mag.log2 - 52) : 4503599627370496 ≤ kept base L mag := by
  have h1 : 2 ^ mag.log2 ≤ mag := Nat.log2_self_le h0
  have e : (4503599627370496 : Nat) = 2 ^ 52 := by decide
  rw [e]
  refine le_rne (pow2_pos _) ?_
  by_cases h : 52 ≤ mag.log2
  · have a1 : (base - L).toNat = 0 := by omega
    have a2 : (L - base).toNat = mag.log2 - 52 := by omega
    rw [a1, a2, Nat.pow_zero, Nat.mul_one, ← Nat.pow_add, Nat.add_sub_cancel' h]
    exact h1
  · have a1 : (base - L).toNat = 52 - mag.log2 := by omega
    have a2 : (L - base).toNat = 0 := by omega
    rw [a1, a2, Nat.pow_zero, Nat.mul_one]
    have : 2 ^ 52 = 2 ^ mag.log2 * 2 ^ (52 - mag.log2) := by rw [← Nat.pow_add]; congr 1; omega
    rw [this]
    exact Nat.mul_le_mul_right _ h1
theorem kept_hi {base : Int} {mag : Nat} {L : Int} (hL : base + mag.log2 - 52 ≤ L) : kept base L mag ≤ 9007199254740992 := by
  have h1 : mag < 2 ^ (mag.log2 + 1) := Nat.lt_log2_self
  have e : (9007199254740992 : Nat) = 2 ^ 53 := by decide
  rw [e]
  refine rne_le (pow2_pos _) ?_
  by_cases h : base ≤ L
  · have a1 : (base - L).toNat = 0 := by omega
    rw [a1, Nat.pow_zero, Nat.mul_one, ← Nat.pow_add]
    have : 2 ^ (mag.log2 + 1) ≤ 2 ^ (53 + (L - base).toNat) := Nat.pow_le_pow_right (by decide) (by omega)
    omega
  · have a2 : (L - base).toNat = 0 := by omega
    rw [a2, Nat.pow_zero, Nat.mul_one]
    have g1 : mag * 2 ^ (base - L).toNat ≤ 2 ^ (mag.log2 + 1) * 2 ^ (base - L).toNat := Nat.mul_le_mul_right _ (Nat.le_of_lt h1)
    rw [← Nat.pow_add] at g1
    have g2 : 2 ^ (mag.log2 + 1 + (base - L).toNat) ≤ 2 ^ 53 := Nat.pow_le_pow_right (by decide) (by omega)
    omega
theorem log2_mono {m n : Nat} (h0 : m ≠ 0) (h : m ≤ n) : m.log2 ≤ n.log2 := by
  have h1 : 2 ^ m.log2 ≤ m := Nat.log2_self_le h0
  have h2 : n < 2 ^ (n.log2 + 1) := Nat.lt_log2_self
  have h3 : 2 ^ m.log2 < 2 ^ (n.log2 + 1) := by omega
  have := (Nat.pow_lt_pow_iff_right (a := 2) (by decide)).1 h3
  omega
theorem min_mono {a b c : Nat} (h : a ≤ b) : min a c ≤ min b c := by omega
theorem kept_mono {base L : Int} {m n : Nat} (h : m ≤ n) : kept base L m ≤ kept base L n := rne_mono (pow2_pos _) (Nat.mul_le_mul_right _ h)
theorem step_mono {x y a b : Nat} (h : x + 1 ≤ y) (ha : a ≤ 9007199254740992) (hb : 4503599627370496 ≤ b) : x * 4503599627370496 + a ≤ y * 4503599627370496 + b := by omega
theorem rung_mono {base : Int} {m n : Nat} (h : m ≤ n) : rungN base m ≤ rungN base n := by
  unfold rungN
  by_cases h0 : m = 0
  · rw [if_pos h0]; exact Nat.zero_le _
  · rw [if_neg h0, if_neg (show n ≠ 0 by omega)]
    refine min_mono ?_
    have hl := log2_mono h0 h
    have d1 : lastP base m = max (base + m.log2 - 52) least := rfl
    have d2 : lastP base n = max (base + n.log2 - 52) least := rfl
    generalize lastP base m = L at *
    generalize lastP base n = L' at *
    generalize least = z at *
    by_cases hlt : L < L'
    · exact step_mono (by omega) (kept_hi (by omega)) (kept_lo (by omega) (by omega))
    · have e : L' = L := by omega
      rw [e]
      exact Nat.add_le_add_left (kept_mono h) _
end Go.Proofs.Zn

/- Rounding keeps order: the key of a rung. (Own work.) -/
namespace Go.Proofs.Zn
open Go

def valR (k : Nat) : Nat := if k < 4503599627370496 then k else if k < 9218868437227405312 then (4503599627370496 + k % 4503599627370496) * 2 ^ (k / 4503599627370496 - 1) else big
theorem key_word (s : Bool) {k : Nat} (h : k ≤ 9218868437227405312) : keyD (FloatKind.f64.format.read (FloatKind.f64.format.word s k)) = bif s then -(valR k : Int) else (valR k : Int) := by
  have e1 : FloatKind.f64.format.signWeight = 9223372036854775808 := by decide
  have e2 : FloatKind.f64.format.binade = 4503599627370496 := by decide
  have e3 : FloatKind.f64.format.infRung = 9218868437227405312 := by decide
  have w1 : FloatKind.f64.format.word s k % 9223372036854775808 = k := by
    unfold Ieee.Format.word; rw [e1]; cases s
    · rw [if_neg (by decide)]; omega
    · rw [if_pos rfl]; omega
  have w2 : (FloatKind.f64.format.word s k / 9223372036854775808 % 2 == 1) = s := by
    unfold Ieee.Format.word; rw [e1]; cases s
    · rw [if_neg (by decide)]; simp; omega
    · rw [if_pos rfl]; simp; omega
  simp only [Ieee.Format.read, e1, e2, e3, w1, w2]
  unfold valR
  by_cases h1 : k < 4503599627370496
  · rw [if_pos h1, if_pos h1]
    show Ieee.signed s k (least - least).toNat = _
    rw [Int.sub_self, signed_eq]
    cases s <;> simp
  · rw [if_neg h1, if_neg h1]
    by_cases h2 : k < 9218868437227405312
    · rw [if_pos h2, if_pos h2]
      show Ieee.signed s _ (least + ((k / 4503599627370496 - 1 : Nat) : Int) - least).toNat = _
      have e : (least + ((k / 4503599627370496 - 1 : Nat) : Int) - least).toNat = k / 4503599627370496 - 1 := by
        generalize least = z; omega
      rw [e, signed_eq]
      cases s <;> simp
    · rw [if_neg h2, if_neg h2, if_pos (by omega)]
      rfl
end Go.Proofs.Zn

/- Rounding keeps order: rungs. (Own work.) -/
set_option exponentiation.threshold 4096
namespace Go.Proofs.Zn
open Go

theorem valR_mono {k j : Nat} (h : k ≤ j) : valR k ≤ valR j := by
  unfold valR
  have hb : ∀ q r, q ≤ 2046 → r < 4503599627370496 → (4503599627370496 + r) * 2 ^ (q - 1) ≤ big := by
    intro q r hq hr
    have g1 : 2 ^ (q - 1) ≤ 2 ^ 2046 := Nat.pow_le_pow_right (by decide) (by omega)
    have g2 : 4503599627370496 + r ≤ 2 ^ 53 := by
      have : (2 : Nat) ^ 53 = 9007199254740992 := by decide
      omega
    exact Nat.le_trans (Nat.mul_le_mul g2 g1) big_lb
  by_cases k1 : k < 4503599627370496
  · rw [if_pos k1]
    by_cases j1 : j < 4503599627370496
    · rw [if_pos j1]; exact h
    · rw [if_neg j1]
      by_cases j2 : j < 9218868437227405312
      · rw [if_pos j2]
        have := Nat.mul_le_mul (show 4503599627370496 ≤ 4503599627370496 + j % 4503599627370496 by omega) (pow2_pos (j / 4503599627370496 - 1))
        omega
      · rw [if_neg j2]
        have := hb 0 0 (by decide) (by decide)
        simp at this; omega
  · rw [if_neg k1, if_neg (show ¬ j < 4503599627370496 by omega)]
    by_cases j2 : j < 9218868437227405312
    · rw [if_pos (show k < 9218868437227405312 by omega), if_pos j2]
      have q : k / 4503599627370496 ≤ j / 4503599627370496 := Nat.div_le_div_right h
      have q1 : 1 ≤ k / 4503599627370496 := by omega
      by_cases e : k / 4503599627370496 = j / 4503599627370496
      · rw [e]; exact Nat.mul_le_mul_right _ (by omega)
      · have r1 : 4503599627370496 + k % 4503599627370496 ≤ 4503599627370496 * 2 := by omega
        have r2 : 2 * 2 ^ (k / 4503599627370496 - 1) ≤ 2 ^ (j / 4503599627370496 - 1) := by
          rw [Nat.mul_comm, ← Nat.pow_succ]; exact Nat.pow_le_pow_right (by decide) (by omega)
        have r3 := Nat.mul_le_mul_right (2 ^ (k / 4503599627370496 - 1)) r1
        have r4 := Nat.mul_le_mul (show 4503599627370496 ≤ 4503599627370496 + j % 4503599627370496 by omega) r2
        rw [Nat.mul_assoc] at r3
        exact Nat.le_trans r3 r4
    · rw [if_neg j2]
      by_cases k2 : k < 9218868437227405312
      · rw [if_pos k2]; exact hb _ _ (by omega) (Nat.mod_lt _ (by decide))
      · rw [if_neg k2]; exact Nat.le_refl _
end Go.Proofs.Zn

/- Rounding keeps order: what is taken off and what is added. (Own work.) -/
namespace Go.Proofs.Zn
open Go Go.VL

/-- A whole number at a place, rounded: its key. -/
def nearK (base T : Int) : Int := bif decide (T < 0) then -(valR (rungN base T.natAbs) : Int) else (valR (rungN base T.natAbs) : Int)
theorem rung_le (base : Int) (m : Nat) : rungN base m ≤ 9218868437227405312 := by
  unfold rungN
  by_cases h : m = 0
  · rw [if_pos h]; exact Nat.zero_le _
  · rw [if_neg h]; exact Nat.min_le_right _ _
theorem nearK_mono {base T S : Int} (h : T ≤ S) : nearK base T ≤ nearK base S := by
  unfold nearK
  by_cases t : T < 0
  · rw [decide_eq_true t, cond_true]
    by_cases s : S < 0
    · rw [decide_eq_true s, cond_true]
      have := valR_mono (rung_mono (base := base) (show S.natAbs ≤ T.natAbs by omega))
      omega
    · rw [decide_eq_false s, cond_false]; omega
  · rw [decide_eq_false t, cond_false, decide_eq_false (by omega), cond_false]
    have := valR_mono (rung_mono (base := base) (show T.natAbs ≤ S.natAbs by omega))
    omega
theorem rung_zero (base : Int) : valR (rungN base 0) = 0 := by
  unfold rungN valR
  rw [if_pos rfl, if_pos (by decide)]
theorem key_near {base T : Int} {g : Bool} (hg : T ≠ 0 → g = decide (T < 0)) : keyD (FloatKind.f64.format.read (FloatKind.f64.format.nearest g T.natAbs base)) = nearK base T := by
  rw [nearest_eq, key_word _ (rung_le _ _), nearK]
  by_cases h : T = 0
  · subst h
    have : valR (rungN base (0 : Int).natAbs) = 0 := rung_zero base
    rw [this]
    cases g <;> rfl
  · rw [hg h]
end Go.Proofs.Zn

/- Rounding keeps order: the ends of a reach. (Own work.) -/
namespace Go.Proofs.Zn
open Go Go.VL

theorem signed_neg (t : Bool) (n k : Nat) : Ieee.signed (!t) n k = -Ieee.signed t n k := by
  rw [signed_eq, signed_eq]; cases t <;> simp
theorem signed_nonneg {t : Bool} {n k k' : Nat} (h : 0 ≤ Ieee.signed t n k) : 0 ≤ Ieee.signed t n k' := by
  rw [signed_eq] at *
  cases t
  · simp; exact Int.mul_nonneg (Int.natCast_nonneg _) (Int.pow_nonneg (by decide))
  · have hp := pow2_pos k
    have hn : n = 0 := by
      rcases Nat.eq_zero_or_pos n with h0 | h0
      · exact h0
      · have := Nat.mul_pos h0 hp
        rw [cond_true] at h; omega
    subst hn; simp
theorem lo_hi_num {s t : Bool} {m n : Nat} {i j : Int} (h : 0 ≤ Ieee.signed t n (j - least).toNat) :
    keyD (FloatKind.f64.format.read (FloatKind.f64.format.write (.number (if Ieee.signed s m (i - min i j).toNat + Ieee.signed (!t) n (j - min i j).toNat = 0 then s && !t else Ieee.signed s m (i - min i j).toNat + Ieee.signed (!t) n (j - min i j).toNat < 0) (Ieee.signed s m (i - min i j).toNat + Ieee.signed (!t) n (j - min i j).toNat).natAbs (min i j)))) ≤
    keyD (FloatKind.f64.format.read (FloatKind.f64.format.write (.number (if Ieee.signed s m (i - min i j).toNat + Ieee.signed t n (j - min i j).toNat = 0 then s && t else Ieee.signed s m (i - min i j).toNat + Ieee.signed t n (j - min i j).toNat < 0) (Ieee.signed s m (i - min i j).toNat + Ieee.signed t n (j - min i j).toNat).natAbs (min i j)))) := by
  have h0 := signed_nonneg (k' := (j - min i j).toNat) h
  rw [signed_neg]
  generalize Ieee.signed s m (i - min i j).toNat = X at *
  generalize Ieee.signed t n (j - min i j).toNat = R at *
  unfold Ieee.Format.write
  rw [key_near (T := X + -R) (fun h => by simp [h]), key_near (T := X + R) (fun h => by simp [h])]
  exact nearK_mono (by omega)
end Go.Proofs.Zn

/- The lanes that are reached: by count and by definition the same. (Own work.) -/
set_option exponentiation.threshold 4096
namespace Go.Proofs.Zn
open Go Go.VL

theorem key_zero : keyF (some 0) = 0 := by
  have h : FloatKind.f64.format.read 0 = .number false 0 FloatKind.f64.format.leastPlace := by decide
  show keyD (FloatKind.f64.format.read 0) = 0
  rw [h]
  show Ieee.signed false 0 _ = 0
  rw [signed_eq]; simp
theorem inf_key (s : Bool) : keyD (FloatKind.f64.format.read (FloatKind.f64.format.write (.infinity s))) = bif s then -(big : Int) else big := by
  have e3 : FloatKind.f64.format.infRung = 9218868437227405312 := by decide
  unfold Ieee.Format.write
  rw [e3, key_word s (Nat.le_refl _)]
  rfl
theorem lo_hi {x r : Fl} (hx : nanF x = false) (hr : nanF r = false) (h0 : 0 ≤ keyF r) (hl : nanF (loF x r) = false) (hh : nanF (hiF x r) = false) : keyF (loF x r) ≤ keyF (hiF x r) := by
  cases x with
  | none => cases hx
  | some a => cases r with
    | none => cases hr
    | some b =>
      have el : loF (some a) (some b) = ((FloatKind.f64.format.read a).sum (FloatKind.f64.format.read b).opposite).map FloatKind.f64.format.write := rfl
      have eh : hiF (some a) (some b) = ((FloatKind.f64.format.read a).sum (FloatKind.f64.format.read b)).map FloatKind.f64.format.write := rfl
      rw [el] at hl ⊢
      rw [eh] at hh ⊢
      have hx : (FloatKind.f64.format.read a).isNaN = false := hx
      have hr : (FloatKind.f64.format.read b).isNaN = false := hr
      have h0 : 0 ≤ keyD (FloatKind.f64.format.read b) := h0
      have hbig : (0 : Int) < (big : Int) := by
        have := big_lb
        have h0 : 0 < 2 ^ 53 * 2 ^ 2046 := Nat.mul_pos (Nat.pow_pos (by decide)) (Nat.pow_pos (by decide))
        exact Int.ofNat_lt.2 (Nat.lt_of_lt_of_le h0 this)
      generalize FloatKind.f64.format.read a = d at *
      generalize FloatKind.f64.format.read b = e at *
      cases d with
      | nan s t => cases hx
      | infinity s =>
        cases e with
        | nan s t => cases hr
        | infinity t => cases s <;> cases t <;> first | (cases hl; done) | (cases hh; done)
        | number t n j => exact Int.le_refl _
      | number s m i =>
        cases e with
        | nan s t => cases hr
        | infinity t =>
          cases t
          · show keyD (FloatKind.f64.format.read (FloatKind.f64.format.write (.infinity true))) ≤ keyD (FloatKind.f64.format.read (FloatKind.f64.format.write (.infinity false)))
            rw [inf_key, inf_key, cond_true, cond_false]; omega
          · have h0 : 0 ≤ -(big : Int) := h0
            omega
        | number t n j => exact lo_hi_num h0
theorem reach_eq (l : List Fl) (x r : Fl) : reachS l x r = refReachS l x r := by
  unfold reachS refReachS
  cases h1 : (checkS l != 0)
  · cases h2 : nanF x
    · cases h3 : nanF r
      · cases h4 : ltF r (some 0)
        · cases h5 : nanF (loF x r)
          · cases h6 : nanF (hiF x r)
            · simp only [cond_false]
              have hc : checkS l = 0 := by simpa using h1
              refine in_out hc h5 h6 (lo_hi h2 h3 ?_ h5 h6)
              have z : nanF (some 0) = false := by decide
              rw [ltF_key h3 z, key_zero] at h4
              have := of_decide_eq_false h4
              omega
            · rfl
          · rfl
        · rfl
      · rfl
    · rfl
  · rfl
end Go.Proofs.Zn

/- Volumes out of floats: the arithmetic. (Own work.) -/
set_option exponentiation.threshold 4096
namespace Go.Proofs.Wn
open Go Go.VL Go.Proofs.Zn

/-! ### the last bit of a number -/
theorem and_neg {n k m : Nat} (hn : n = 2 ^ k * (2 * m + 1)) (h : n < 2 ^ 64) : n &&& (2 ^ 64 - n) = 2 ^ k := by
  have hk : 0 < 2 ^ k := Nat.pow_pos (by decide)
  have hpos : 0 < n := by rw [hn]; exact Nat.mul_pos hk (by omega)
  have e : 2 ^ 64 - n = 2 ^ 64 - ((n - 1) + 1) := by rw [Nat.sub_add_cancel hpos]
  have e1 : n - 1 = 2 ^ k * (2 * m) + (2 ^ k - 1) := by
    rw [hn, Nat.mul_add, Nat.mul_one]; omega
  rw [e]
  refine Nat.eq_of_testBit_eq fun i => ?_
  rw [Nat.testBit_and, Nat.testBit_two_pow_sub_succ (by omega), e1, Nat.testBit_two_pow_mul_add _ (by omega), hn, Nat.testBit_two_pow_mul, Nat.testBit_two_pow]
  by_cases h1 : i < k
  · have : ¬ i ≥ k := by omega
    simp [this]; omega
  · rw [if_neg h1]
    have hki : k < 64 := by
      rcases Nat.lt_or_ge k 64 with h | h
      · exact h
      · have : 2 ^ 64 ≤ 2 ^ k := Nat.pow_le_pow_right (by decide) h
        have : 2 ^ k * 1 ≤ 2 ^ k * (2 * m + 1) := Nat.mul_le_mul_left _ (by omega)
        omega
    by_cases h2 : i = k
    · subst h2
      simp [hki]
    · have h3 : i - k = (i - k - 1) + 1 := by omega
      have t1 : (2 * m + 1).testBit (i - k) = m.testBit (i - k - 1) := by
        rw [h3, Nat.testBit_succ]; congr 1; omega
      have t2 : (2 * m).testBit (i - k) = m.testBit (i - k - 1) := by
        rw [h3, Nat.testBit_succ]; congr 1; omega
      rw [t1, t2]
      have : ¬ k = i := fun e => h2 e.symm
      cases m.testBit (i - k - 1) <;> simp [this]

def tab64 : List Int := [0, 1, 56, 2, 57, 49, 28, 3, 61, 58, 42, 50, 38, 29, 17, 4, 62, 47, 59, 36, 45, 43, 51, 22, 53, 39, 33, 30, 24, 18, 12, 5, 63, 55, 48, 27, 60, 41, 37, 16, 46, 35, 44, 21, 52, 32, 23, 11, 54, 26, 40, 15, 34, 20, 31, 10, 25, 14, 19, 9, 13, 8, 7, 6]
theorem tab_ok : ∀ k : Fin 64, (2 ^ k.1 * 285870213051353865 % 2 ^ 64) / 2 ^ 58 < 64 ∧ tab64.getD ((2 ^ k.1 * 285870213051353865 % 2 ^ 64) / 2 ^ 58) 0 = (k.1 : Int) := by decide +kernel

/-- Each number is an odd one and a power of 2. -/
theorem odd_part : ∀ n : Nat, 0 < n → ∃ k m, n = 2 ^ k * (2 * m + 1)
  | n, h => by
    by_cases h2 : n % 2 = 1
    · exact ⟨0, n / 2, by omega⟩
    · obtain ⟨k, m, e⟩ := odd_part (n / 2) (by omega)
      exact ⟨k + 1, m, by rw [Nat.pow_succ, Nat.mul_right_comm, ← e]; omega⟩
termination_by n => n

/-! ### rounding -/
def rndN (n s : Nat) : Nat := n / 2 ^ s + (bif decide (2 ^ s < 2 * (n % 2 ^ s)) || (2 ^ s == 2 * (n % 2 ^ s) && n / 2 ^ s % 2 == 1) then 1 else 0)
theorem rnd_ge (n s : Nat) : n / 2 ^ s ≤ rndN n s := by unfold rndN; omega
theorem rnd_zero {n s : Nat} (h : 2 * n < 2 ^ s) : rndN n s = 0 := by
  unfold rndN
  rw [Nat.div_eq_of_lt (by omega), Nat.mod_eq_of_lt (by omega), decide_eq_false (by omega)]
  have : (2 ^ s == 2 * n) = false := by simp; omega
  rw [this]; rfl

/-! ### the value of a word -/
def inf : Nat := 9218868437227405312
def clsN (r : Nat) : Int := bif decide (r > 9218868437227405312) then 1 else bif decide (r = 9218868437227405312) then 2 else bif decide (r = 0) then 3 else bif decide (r < 4503599627370496) then 4 else 5
theorem nan_iff (b : Nat) : nanF (some b) = decide (b % 9223372036854775808 > 9218868437227405312) := by
  show (FloatKind.f64.format.read b).isNaN = _
  rw [nan_bits]
  by_cases h : b % 9223372036854775808 > 9218868437227405312
  · rw [decide_eq_true h, decide_eq_true (by omega)]
  · rw [decide_eq_false h, decide_eq_false (by omega)]
theorem word_eq {b : Nat} (hb : b < 18446744073709551616) : FloatKind.f64.format.word (decide (9223372036854775808 ≤ b)) (b % 9223372036854775808) = b := by
  have e1 : FloatKind.f64.format.signWeight = 9223372036854775808 := by decide
  unfold Ieee.Format.word
  rw [e1]
  by_cases h : 9223372036854775808 ≤ b
  · rw [decide_eq_true h]; simp; omega
  · rw [decide_eq_false h]; simp; omega
theorem key_val {b : Nat} (hb : b < 18446744073709551616) (h : b % 9223372036854775808 ≤ 9218868437227405312) : keyF (some b) = bif decide (9223372036854775808 ≤ b) then -(valR (b % 9223372036854775808) : Int) else (valR (b % 9223372036854775808) : Int) := by
  have := key_word (decide (9223372036854775808 ≤ b)) h
  rw [word_eq hb] at this
  exact this
theorem val_small {r : Nat} (h : r < 4503599627370496) : valR r = r := by unfold valR; rw [if_pos h]
theorem val_pos {r : Nat} (h : 0 < r) : 0 < valR r := by
  have := valR_mono (k := 1) (j := r) h
  rw [val_small (by decide : 1 < 4503599627370496)] at this; omega
theorem val_zero : valR 0 = 0 := val_small (by decide)
/-- A greater word has the greater value. -/
theorem val_succ {r : Nat} (h : r < 9218868437227405312) : valR r < valR (r + 1) := by
  by_cases h1 : r + 1 < 4503599627370496
  · rw [val_small (by omega), val_small h1]; omega
  · by_cases h0 : r < 4503599627370496
    · have : r = 4503599627370495 := by omega
      subst this
      rw [val_small h0]
      decide +kernel
    · by_cases h2 : r + 1 < 9218868437227405312
      · unfold valR
        rw [if_neg h0, if_pos h, if_neg h1, if_pos h2]
        by_cases h3 : r % 4503599627370496 + 1 < 4503599627370496
        · have e1 : (r + 1) / 4503599627370496 = r / 4503599627370496 := by omega
          have e2 : (r + 1) % 4503599627370496 = r % 4503599627370496 + 1 := by omega
          rw [e1, e2]
          exact Nat.mul_lt_mul_of_pos_right (by omega) (Nat.pow_pos (by decide))
        · have e1 : (r + 1) / 4503599627370496 = r / 4503599627370496 + 1 := by omega
          have e2 : (r + 1) % 4503599627370496 = 0 := by omega
          have e3 : r / 4503599627370496 + 1 - 1 = (r / 4503599627370496 - 1) + 1 := by omega
          rw [e1, e2, e3, Nat.pow_succ]
          have hp : 0 < 2 ^ (r / 4503599627370496 - 1) := Nat.pow_pos (by decide)
          generalize 2 ^ (r / 4503599627370496 - 1) = P at hp
          have e4 : r % 4503599627370496 = 4503599627370495 := by omega
          rw [e4]
          omega
      · have e : r = 9218868437227405311 := by omega
        subst e
        have hb := big_lb
        unfold valR
        rw [if_neg (by decide), if_pos (by decide), if_neg (by decide), if_neg (by decide)]
        have : (4503599627370496 + 9218868437227405311 % 4503599627370496) * 2 ^ (9218868437227405311 / 4503599627370496 - 1) < 2 ^ 53 * 2 ^ 2046 := by decide +kernel
        omega
theorem val_lt {r q : Nat} (h : r < q) (hq : q ≤ 9218868437227405312) : valR r < valR q := Nat.lt_of_lt_of_le (val_succ (by omega)) (valR_mono h)
theorem val_iff {r q : Nat} (hr : r ≤ 9218868437227405312) (hq : q ≤ 9218868437227405312) : valR r < valR q ↔ r < q :=
  ⟨fun h => by
    rcases Nat.lt_or_ge r q with g | g
    · exact g
    · have := valR_mono g; omega, fun h => val_lt h hq⟩
end Go.Proofs.Wn

/- Volumes out of floats: the model; what the program and the definition make of it. (Own work.) -/
set_option exponentiation.threshold 4096
namespace Go.Proofs.Wn
open Go Go.VL Go.Proofs.Zn

/-! ### numbers of 64 bits -/
theorem bv_nat {a : Nat} (h : a < 18446744073709551616) : (BitVec.ofInt (IntKind.bits .u64) (a : Int)).toNat = a := by
  show (BitVec.ofInt 64 (a : Int)).toNat = a
  rw [BitVec.toNat_ofInt]; omega
theorem bv_and {a c : Nat} (ha : a < 18446744073709551616) (hc : c < 18446744073709551616) : (BitVec.ofInt (IntKind.bits .u64) (a : Int) &&& BitVec.ofInt (IntKind.bits .u64) (c : Int)).toNat = a &&& c := by
  rw [BitVec.toNat_and, bv_nat ha, bv_nat hc]
theorem bv_or {a c : Nat} (ha : a < 18446744073709551616) (hc : c < 18446744073709551616) : (BitVec.ofInt (IntKind.bits .u64) (a : Int) ||| BitVec.ofInt (IntKind.bits .u64) (c : Int)).toNat = a ||| c := by
  rw [BitVec.toNat_or, bv_nat ha, bv_nat hc]
theorem wrapU {a : Nat} (h : a < 18446744073709551616) : IntKind.u64.wrap (a : Int) = (a : Int) := by
  rw [wrap_u64]; omega
theorem and52 (a : Nat) : a &&& 4503599627370495 = a % 4503599627370496 := Nat.and_two_pow_sub_one_eq_mod a 52
theorem and11 (a : Nat) : a &&& 2047 = a % 2048 := Nat.and_two_pow_sub_one_eq_mod a 11
theorem or52 {a : Nat} (h : a < 4503599627370496) : a ||| 4503599627370496 = a + 4503599627370496 := by
  have := Nat.two_pow_add_eq_or_of_lt (i := 52) (b := a) h 1
  rw [Nat.or_comm]
  have e : 2 ^ 52 * 1 = 4503599627370496 := by decide
  rw [e] at this
  omega
theorem fdiv_nat (a c : Nat) : Int.fdiv (a : Int) (c : Int) = ((a / c : Nat) : Int) := by
  rw [Int.fdiv_eq_ediv_of_nonneg _ (by omega)]; rfl
theorem tmod_nat (a c : Nat) : Int.tmod (a : Int) (c : Int) = ((a % c : Nat) : Int) := by
  rw [Int.tmod_eq_emod_of_nonneg (by omega)]; rfl
theorem neg_wrap {n : Nat} (h0 : 0 < n) (h : n < 18446744073709551616) : IntKind.u64.wrap (0 - (n : Int)) = ((2 ^ 64 - n : Nat) : Int) := by
  rw [wrap_u64]
  have : (2 ^ 64 : Nat) = 18446744073709551616 := by decide
  omega

/-! ### the model -/
def tzF : Nat → Nat → Nat
  | 0, _ => 0
  | f + 1, n => bif n % 2 == 1 then 0 else tzF f (n / 2) + 1
def tzN (n : Nat) : Nat := tzF 64 n
theorem tzF_spec : ∀ (f k m : Nat), k < f → tzF f (2 ^ k * (2 * m + 1)) = k
  | 0, _, _, h => by omega
  | f + 1, 0, m, _ => by
    have : ((2 ^ 0 * (2 * m + 1)) % 2 == 1) = true := by simp
    rw [tzF, this]; rfl
  | f + 1, k + 1, m, h => by
    have e : 2 ^ (k + 1) * (2 * m + 1) = 2 * (2 ^ k * (2 * m + 1)) := by rw [Nat.pow_succ, Nat.mul_comm (2 ^ k) 2, Nat.mul_assoc]
    have : (2 * (2 ^ k * (2 * m + 1)) % 2 == 1) = false := by
      have : 2 * (2 ^ k * (2 * m + 1)) % 2 = 0 := Nat.mul_mod_right 2 _
      rw [this]; rfl
    rw [e, tzF, this, cond_false, Nat.mul_div_cancel_left _ (by decide), tzF_spec f k m (by omega)]
theorem pow_lt {k n m : Nat} (hn : n = 2 ^ k * (2 * m + 1)) (h : n < 18446744073709551616) : k < 64 := by
  rcases Nat.lt_or_ge k 64 with g | g
  · exact g
  · have h1 : 2 ^ 64 ≤ 2 ^ k := Nat.pow_le_pow_right (by decide) g
    have h2 : 2 ^ k * 1 ≤ 2 ^ k * (2 * m + 1) := Nat.mul_le_mul_left _ (by omega)
    have : (2 ^ 64 : Nat) = 18446744073709551616 := by decide
    omega
def M0 (r : Nat) : Nat := bif decide (r < 4503599627370496) then r else r % 4503599627370496 + 4503599627370496
def E0 (r : Nat) : Int := bif decide (r < 4503599627370496) then -1074 else ((r / 4503599627370496 : Nat) : Int) - 1075
theorem M0_lt (r : Nat) : M0 r < 9007199254740992 := by
  unfold M0
  by_cases h : r < 4503599627370496
  · rw [decide_eq_true h, cond_true]; omega
  · rw [decide_eq_false h, cond_false]; omega
theorem M0_pos {r : Nat} (h : 0 < r) : 0 < M0 r := by
  unfold M0
  by_cases h : r < 4503599627370496
  · rw [decide_eq_true h, cond_true]; omega
  · rw [decide_eq_false h, cond_false]; omega
/-- An odd number and a power. -/
def oddN (r : Nat) : Nat := M0 r / 2 ^ tzN (M0 r)
def powN (r : Nat) : Int := E0 r + (tzN (M0 r) : Int)
def negB (b : Nat) : Bool := decide (9223372036854775808 ≤ b)
def rN (b : Nat) : Nat := b % 9223372036854775808
def partsV (b : Nat) : Int × Int := bif decide (clsN (rN b) < 4) then (0, 0) else (bif negB b then -(oddN (rN b) : Int) else (oddN (rN b) : Int), powN (rN b))
def volN (r : Nat) : Nat := bif decide (powN r < 0) then rndN (oddN r * 1000) (-powN r).toNat else oddN r * 1000 * 2 ^ (powN r).toNat
def ofS (b : Nat) : Int × Int := bif clsN (rN b) == 1 then (0, 20) else bif clsN (rN b) == 2 then (0, 21) else bif clsN (rN b) == 3 then (0, 0) else bif negB b then (0, 22) else
  bif decide (volN (rN b) > 1099511627776) then (0, 4) else ((volN (rN b) : Int), 0)

/-- What an odd part is. -/
theorem odd_spec {r : Nat} (h : 0 < r) : ∃ m, M0 r = 2 ^ tzN (M0 r) * (2 * m + 1) ∧ oddN r = 2 * m + 1 ∧ tzN (M0 r) < 53 := by
  obtain ⟨k, m, e⟩ := odd_part (M0 r) (M0_pos h)
  have hl := M0_lt r
  have hk := pow_lt e (by omega)
  have ht : tzN (M0 r) = k := by rw [e]; exact tzF_spec 64 k m hk
  have hk2 : k < 53 := by
    rcases Nat.lt_or_ge k 53 with g | g
    · exact g
    · have h1 : 2 ^ 53 ≤ 2 ^ k := Nat.pow_le_pow_right (by decide) g
      have h2 : 2 ^ k * 1 ≤ 2 ^ k * (2 * m + 1) := Nat.mul_le_mul_left _ (by omega)
      have : (2 ^ 53 : Nat) = 9007199254740992 := by decide
      omega
  refine ⟨m, by rw [ht]; exact e, ?_, by omega⟩
  unfold oddN
  rw [ht, e, Nat.mul_div_cancel_left _ (Nat.pow_pos (by decide))]
theorem odd_lt {r : Nat} : oddN r < 9007199254740992 := Nat.lt_of_le_of_lt (Nat.div_le_self _ _) (M0_lt r)
theorem odd_pos {r : Nat} (h : 0 < r) : 0 < oddN r := by obtain ⟨m, _, e, _⟩ := odd_spec h; omega
theorem pow_lo {r : Nat} : -1074 ≤ powN r := by
  unfold powN E0
  by_cases h : r < 4503599627370496
  · rw [decide_eq_true h, cond_true]; omega
  · rw [decide_eq_false h, cond_false]; omega
theorem pow_hi {r : Nat} (h0 : 0 < r) (h : r < 9218868437227405312) : powN r < 1025 := by
  obtain ⟨_, _, _, h3⟩ := odd_spec h0
  unfold powN E0
  by_cases h : r < 4503599627370496
  · rw [decide_eq_true h, cond_true]; omega
  · rw [decide_eq_false h, cond_false]; omega

/-- A float that is not above 2^40. -/
theorem small_vol {r : Nat} (h0 : 0 < r) (h : r ≤ 4787326403894837248) (hp : 0 ≤ powN r) : oddN r * 2 ^ (powN r).toNat ≤ 1099511627776 := by
  obtain ⟨m, e1, e2, e3⟩ := odd_spec h0
  have hM := M0_lt r
  unfold powN at hp ⊢
  have hr : ¬ r < 4503599627370496 := fun hr => by unfold E0 at hp; rw [decide_eq_true hr, cond_true] at hp; omega
  have hE : E0 r = ((r / 4503599627370496 : Nat) : Int) - 1075 := by unfold E0; rw [decide_eq_false hr, cond_false]
  rw [← e2] at e1
  have hE2 : r / 4503599627370496 ≤ 1063 := by omega
  -- M0 = odd * 2^(e) * 2^(-E0)
  obtain ⟨q, hq⟩ : ∃ q : Nat, E0 r = -(q : Int) := ⟨(-E0 r).toNat, by omega⟩
  have hs : tzN (M0 r) = (E0 r + (tzN (M0 r) : Int)).toNat + q := by omega
  have e4 : M0 r = oddN r * 2 ^ (E0 r + (tzN (M0 r) : Int)).toNat * 2 ^ q := by
    rw [Nat.mul_assoc, ← Nat.pow_add, ← hs, Nat.mul_comm]; exact e1
  generalize oddN r * 2 ^ (E0 r + (tzN (M0 r) : Int)).toNat = Z at e4
  have hq12 : 12 ≤ q := by omega
  by_cases h13 : q = 12
  · subst h13
    have : M0 r = 4503599627370496 := by
      unfold M0; rw [decide_eq_false hr, cond_false]; omega
    have e5 : (2 ^ 12 : Nat) = 4096 := by decide
    rw [e5] at e4; omega
  · have : (2 ^ 13 : Nat) ≤ 2 ^ q := Nat.pow_le_pow_right (by decide) (by omega)
    have h5 : Z * 2 ^ 13 ≤ Z * 2 ^ q := Nat.mul_le_mul_left _ this
    have e5 : (2 ^ 13 : Nat) = 8192 := by decide
    rw [e5] at h5; omega
/-- A float above 2^40. -/
theorem large_vol {r : Nat} (h : r > 4787326403894837248) (hi : r < 9218868437227405312) : volN r > 1099511627776 := by
  have h0 : 0 < r := by omega
  obtain ⟨m, e1, e2, e3⟩ := odd_spec h0
  rw [← e2] at e1
  have hr : ¬ r < 4503599627370496 := by omega
  have hE : E0 r = ((r / 4503599627370496 : Nat) : Int) - 1075 := by unfold E0; rw [decide_eq_false hr, cond_false]
  have hM : M0 r = r % 4503599627370496 + 4503599627370496 := by unfold M0; rw [decide_eq_false hr, cond_false]
  have hE2 : 1063 ≤ r / 4503599627370496 := by omega
  unfold volN
  by_cases hp : powN r < 0
  · rw [decide_eq_true hp, cond_true]
    have hge := rnd_ge (oddN r * 1000) (-powN r).toNat
    have key : 1099511627776 * 2 ^ (-powN r).toNat < oddN r := by
      unfold powN at hp ⊢
      obtain ⟨q, hq⟩ : ∃ q : Nat, E0 r = -(q : Int) := ⟨(-E0 r).toNat, by omega⟩
      have hs : q = tzN (M0 r) + (-(E0 r + (tzN (M0 r) : Int))).toNat := by omega
      have hq12 : q ≤ 12 := by omega
      -- 2^40 * 2^q ≤ 2^52 < M0 or so
      have h5 : 1099511627776 * 2 ^ q < M0 r := by
        by_cases h12 : q = 12
        · subst h12
          have e5 : (2 ^ 12 : Nat) = 4096 := by decide
          rw [e5]; omega
        · have : (2 ^ q : Nat) ≤ 2 ^ 11 := Nat.pow_le_pow_right (by decide) (by omega)
          have e5 : (2 ^ 11 : Nat) = 2048 := by decide
          rw [e5] at this; omega
      rw [hs, Nat.pow_add] at h5
      have e6 : M0 r = oddN r * 2 ^ tzN (M0 r) := by rw [Nat.mul_comm]; exact e1
      have h6 : (1099511627776 * 2 ^ (-(E0 r + (tzN (M0 r) : Int))).toNat) * 2 ^ tzN (M0 r) < oddN r * 2 ^ tzN (M0 r) := by
        rw [← e6, Nat.mul_assoc, Nat.mul_comm (2 ^ (-(E0 r + (tzN (M0 r) : Int))).toNat)]; exact h5
      exact Nat.lt_of_mul_lt_mul_right h6
    have hp2 : 0 < 2 ^ (-powN r).toNat := Nat.pow_pos (by decide)
    have : 1099511627776 * 1000 ≤ oddN r * 1000 / 2 ^ (-powN r).toNat := by
      rw [Nat.le_div_iff_mul_le hp2, Nat.mul_right_comm]
      exact Nat.mul_le_mul_right _ (Nat.le_of_lt key)
    omega
  · rw [decide_eq_false hp, cond_false]
    unfold powN at hp ⊢
    have key : 1099511627776 * 1 ≤ oddN r * 2 ^ (E0 r + (tzN (M0 r) : Int)).toNat := by
      rcases Int.lt_or_le (E0 r) 0 with hn | hn
      · obtain ⟨q, hq⟩ : ∃ q : Nat, E0 r = -(q : Int) := ⟨(-E0 r).toNat, by omega⟩
        have hs : tzN (M0 r) = (E0 r + (tzN (M0 r) : Int)).toNat + q := by omega
        have e4 : M0 r = oddN r * 2 ^ (E0 r + (tzN (M0 r) : Int)).toNat * 2 ^ q := by
          rw [Nat.mul_assoc, ← Nat.pow_add, ← hs, Nat.mul_comm]; exact e1
        generalize oddN r * 2 ^ (E0 r + (tzN (M0 r) : Int)).toNat = Z at e4
        have : (2 ^ q : Nat) ≤ 2 ^ 12 := Nat.pow_le_pow_right (by decide) (by omega)
        have h5 : Z * 2 ^ q ≤ Z * 2 ^ 12 := Nat.mul_le_mul_left _ this
        have e5 : (2 ^ 12 : Nat) = 4096 := by decide
        rw [e5] at h5; omega
      · have h1 : 2 ^ tzN (M0 r) ≤ 2 ^ (E0 r + (tzN (M0 r) : Int)).toNat := Nat.pow_le_pow_right (by decide) (by omega)
        have h2 : oddN r * 2 ^ tzN (M0 r) ≤ oddN r * 2 ^ (E0 r + (tzN (M0 r) : Int)).toNat := Nat.mul_le_mul_left _ h1
        have e6 : M0 r = oddN r * 2 ^ tzN (M0 r) := by rw [Nat.mul_comm]; exact e1
        omega
    have : oddN r * 1000 * 2 ^ (E0 r + (tzN (M0 r) : Int)).toNat = 1000 * (oddN r * 2 ^ (E0 r + (tzN (M0 r) : Int)).toNat) := by
      rw [Nat.mul_comm (oddN r) 1000, Nat.mul_assoc]
    omega
end Go.Proofs.Wn

/- The functions that the zones' laws reach, all of them. (Own work.) -/
namespace Go.Proofs.Zn
open Go Go.VL

/-- 'take' of sets.along: the list in the box, one number longer where it is wanted. -/
def takeOut : List AV → Heap → TyTup [Ty.sl .int] → GRes := fun xs H x => match xs with
  | [_, .d (.v (.bool true)), _] => ⟨[], [(0, .box [.own 2 .int]), (2, .row 3 .int x)], 3⟩
  | _ => ⟨[], H, 2⟩
def sigL2 : List (Nat × Sig) := sigL ++
  [(61, .pure [.deck] [.int]), (256, .pure [.deck] [.sl .span, .int]), (131, .pure [.deck] [.sl .span, .int]), (135, .pure [.deck, .sl .int] [.sl .int, .int]), (80, .pure [.deck, .sl .int] [.sl .int, .int]),
   (133, .pure [.deck, .int, .int] [.sl .int, .int]), (78, .pure [.deck, .int, .int] [.sl .int, .int]),
   (40, .pure [.sl .int, .sl .int] [.sl .int]), (138, .pure [.sl .int, .sl .int] [.sl .int]), (20, .pure [.sl .int, .sl .int] [.bool]),
   (290, .pure [.deck, .int, .int, .int] [.sl .span, .int]), (210, .pure [.deck, .sl .int] [.sl .span, .int]), (136, .pure [.deck, .sl .int] [.sl .span, .int]), (211, .pure [.deck, .sl .span] [.sl .int]),
   (137, .pure [.deck, .span] [.sl .int]), (214, .pure [.deck] [.int]), (44, .pure [.sl .int, .int] [.bool]), (79, .pure [.sl .int, .int] [.sl .int]), (81, .pure [.sl .int] [.sl .int]),
   (134, .pure [.sl .int, .sl .int] [.sl .int]), (213, .pure [.sl .int, .sl .int, .bool, .bool, .bool] [.sl .int]), (260, .heap [.sl .int] takeOut),
   (257, .pure [.sl .span] [.sl .span]), (212, .pure [.span, .span] [.span])]
def sigs2 : Sigs := look sigL2
theorem ofT2 {f : FuncId} {fn : Func} (hf : Tryz.prog.funcs[f]? = some fn) {args : List Arg} {ts : List Ty} {x : TyTup ts} {cu : Cuts} {n : Nat} {fst : Bool} {T : Out (TyTup ts)}
    (he : aexec Tryz.prog codes sigs2 fn (pureFin ts) 0 cu n fst (bodyOf fn) (startS fn args) = T) (hb : fn.body.isSome = true) (hnt : Nat.ble args.length fn.ntmps = true) (h : ∀ A, Sat Tryz.prog A (· = x) T) : Pure Tryz.prog f args ts x :=
  Pure.of_tree mixed hf hb (Nat.le_of_ble_eq_true hnt) he h
end Go.Proofs.Zn

/- The functions in functions that change what is round them. (Own work.) -/
namespace Go.Proofs.Zn
open Go Go.VL

def res95 (H : Heap) (x : Int) : GRes := ⟨[boolA (x != 0)], H.put 0 (some (.box [i64 x])), 2⟩
def res93 (H : Heap) (l : List Span) (e : Int) : GRes := match H.get 0 with
  | some b => ⟨[boolA (e == 0)], [(0, b), (1, .box [.own 4 .span]), (2, .box [i64 e]), (4, .row 175 .span l)], 5⟩
  | none => ⟨[], [], 0⟩
def out95 : List AV → Heap → TyTup [Ty.int] → GRes := fun _ H x => res95 H x
def out93 : List AV → Heap → TyTup [Ty.sl Ty.span, Ty.int] → GRes := fun _ H x => res93 H x.1 x.2
def sigL3 : List (Nat × Sig) := sigL2 ++ [(289, .heap [.sl .span, .int] out93), (126, .heap [.int] out95)]
def sigs3 : Sigs := look sigL3
end Go.Proofs.Zn

/- The types and the functions that the laws of requests reach. (Own work.) -/
namespace Go.Proofs.Wn
open Go Go.VL

def codes : Codes := fun t => bif t == 30 then some .req else bif t == 39 then some .resp else bif t == 148 then some .change else bif t == 76 then some .cell else bif t == 146 then some .log else bif t == 194 then some .tip else bif t == 5 then some .u8 else bif t == 159 then some .op else bif t == 69 then some .asked else Zn.codes t
/-- 'parts': the function that it makes, with what it holds. -/
def partsOut : List AV → Heap → TyTup [] → GRes := fun xs _ _ => match xs with
  | [.agg r, .agg f] => ⟨[.clo (.func 129) [] [.ptr 0 0, .ptr 1 0]], [(0, .box r), (1, .box f)], 2⟩
  | _ => ⟨[], [], 0⟩
/-- math.Float64frombits, math.Float64bits. -/
def frOut : List AV → Option AV
  | [.d (.v (.int .u64 n))] => some (.d (.f (some n.toNat)))
  | _ => none
def biOut : List AV → Option AV
  | [.d (.f (some b))] => some (.d (.v (.int .u64 (b : Int))))
  | _ => none
def sigL : List (Nat × Sig) := Zn.sigL3 ++
  [(15, .pure [.req] [.int, .int]), (16, .pure [.req] [.int, .int]), (17, .pure [.resp, .resp] [.bool]), (18, .pure [.deck, .req] [.resp]), (19, .pure [.deck, .req] [.resp]), (20, .pure [.sl .int, .sl .int] [.bool]),
   (21, .pure [.deck, .req] [.sl .int]), (22, .pure [.deck, .req] [.sl .int]), (23, .pure [.deck, .req, .sl .int, .int] [.sl .int]), (24, .pure [.deck, .req, .sl .int, .int] [.sl .int]), (56, .pure [] [.deck]),
   (57, .pure [.flt] [.int, .int]), (58, .ext frOut), (59, .pure [.u64] [.int, .int]), (60, .pure [.sl .change, .sl .change] [.bool]), (62, .pure [.int] [.resp]), (63, .pure [.int] [.flds]), (64, .pure [.req] [.flds]),
   (65, .pure [.flds, .flds] [.bool]), (66, .pure [.deck, .sl .int] [.resp]), (67, .heap [] partsOut), (68, .pure [.deck, .int] [.int]), (69, .pure [.int, .int] [.resp]), (70, .pure [.deck] [.int]), (71, .pure [.int, .int] [.resp]),
   (72, .pure [.int] [.b5]), (73, .pure [.deck, .sl .int] [.resp]), (74, .pure [.deck, .int] [.int]), (75, .pure [.deck, .req] [.bool]), (76, .pure [.deck, .req] [.sl .int]), (77, .pure [.sl .int] [.sl .int]),
   (114, .pure [.sl .int] [.int]), (120, .pure [.flt] [.int, .int]), (121, .pure [.int, .int] [.int]), (123, .pure [.u64] [.int, .int]), (124, .pure [.u64, .int] [.u64]), (128, .pure [.sl .int] [.int]),
   (13, .pure [.deck, .req] [.bool]), (14, .pure [] [.bool]), (199, .ext biOut), (200, .pure [.u64] [.int]), (201, .pure [.flt] [.bool])]
def look : List (Nat × Sig) → Nat → Option Sig
  | [], _ => none
  | (k, x) :: l, f => bif k == f then some x else look l f
def sigs : Sigs := look sigL
theorem mixed : Tryz.prog.follows .mixedOrders = true := Tryz.checked.mixed
theorem ofT {f : FuncId} {fn : Func} (hf : Tryz.prog.funcs[f]? = some fn) {args : List Arg} {ts : List Ty} {x : TyTup ts} {cu : Cuts} {n : Nat} {fst : Bool} {T : Out (TyTup ts)}
    (he : aexec Tryz.prog codes sigs fn (pureFin ts) 0 cu n fst (bodyOf fn) (startS fn args) = T) (hb : fn.body.isSome = true) (hnt : Nat.ble args.length fn.ntmps = true) (h : ∀ A, Sat Tryz.prog A (· = x) T) : Pure Tryz.prog f args ts x :=
  Pure.of_tree mixed hf hb (Nat.le_of_ble_eq_true hnt) he h
end Go.Proofs.Wn
