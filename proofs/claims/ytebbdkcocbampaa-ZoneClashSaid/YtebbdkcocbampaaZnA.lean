/- The bits of a float; without its sign: walked. (Own work.) -/
import Derived.Test.YtebbdkcocbampaaSpA
import Derived.Test.YtebbdkcocbampaaVE
import Derived.WalkKit
import Derived.Laws.Externs
set_option linter.unusedVariables false
set_option linter.unusedSimpArgs false
namespace Go.Proofs.Zn
open Go Go.VL Go.RowKit

theorem run91 (b : Nat) (w : World) : (callFunc 91 #[.float .f64 b]).run Try.prog w = .ok (.value (.int .u64 b)) w := by
  have h := run_callFunc_extern (e := Extern.MathFloatBits.float64bits) Try.func91 (by kernel_rfl) (by kernel_rfl) (by kernel_rfl) (by kernel_rfl) #[.float .f64 b] w
  exact h
theorem run160 (n : Int) (w : World) : (callFunc 160 #[.int .u64 n]).run Try.prog w = .ok (.value (.float .f64 n.toNat)) w := by
  have h := run_callFunc_extern (e := Extern.MathFloatBits.float64frombits) Try.func160 (by kernel_rfl) (by kernel_rfl) (by kernel_rfl) (by kernel_rfl) #[.int .u64 n] w
  exact h

set_option maxRecDepth 100000 in
theorem w43 (b : Nat) (w : World) : Calls Try.prog 43 #[.float .f64 b] w fun e w' => e = .returned (.int .u64 b) ∧ w' = w := by
  have hd := run91 b
  go_enter Try.func43, Try.ntmps43
  go_wp2
  go_ret
  exact ⟨rfl, rfl⟩
set_option maxRecDepth 100000 in
theorem w158 (b : Nat) (w : World) : Calls Try.prog 158 #[.float .f64 b] w fun e w' => e = .returned (.float .f64 (bits BinOp.andNot IntKind.u64 (b : Int) 9223372036854775808).toNat) ∧ w' = w := by
  have hd := run91 b
  have hd2 := run160
  go_enter Try.func158, Try.ntmps158
  go_wp2
  go_ret
  exact ⟨rfl, rfl⟩

theorem rel_flt {w : World} {K : Nat → Prop} {o : Fl} {v : Value} (h : RelT w K (AV.ofTy .flt o) v) : ∃ b, flOk o b ∧ v = .float .f64 b := by
  cases h with
  | d _ _ h => cases h with
    | f _ b h => exact ⟨b, h, rfl⟩
/-- A walk over one float. -/
theorem Pure.of_flt {f : FuncId} {b : Nat} {ts : List Ty} {y : TyTup ts} {u : Value} (h : ∀ w, Calls Try.prog f #[.float .f64 b] w fun e w' => e = .returned u ∧ w' = w) (hy : ∀ w K, RelT w K (ofRes ts y) u) : Pure Try.prog f [⟨.flt, some b⟩] ts y := by
  intro w K vs hK hgk hs hr
  have hv : vs = #[.float .f64 b] := by
    have h1 : vs.size = 1 := hs
    have h0 : vs[0]? = some vs[0] := Array.getElem?_eq_getElem (by omega)
    have h2 := hr 0 ⟨.flt, some b⟩ vs[0] rfl h0
    have h3 : vs[0] = .float .f64 b := by
      obtain ⟨b', hb', hv'⟩ := rel_flt h2
      have hb' : b' = b := hb'
      rw [hv', hb']
    apply Array.ext
    · exact h1
    · intro i hi hi2
      have : i = 0 := by have : i < 1 := hi2; omega
      subst this
      exact h3
  subst hv
  exact (h w).mono fun e w' ⟨he, hw⟩ => by
    subst he; subst hw
    exact ⟨u, K, rfl, hy _ K, fun _ h => h, fun _ h => .inl h, hK, .refl _ _⟩
theorem c43 (b : Nat) : Pure Try.prog 43 [⟨.flt, some b⟩] [.u64] (b : Int) := Pure.of_flt (w43 b) fun w K => .d _ _ (.v _)
theorem c158 (b : Nat) : Pure Try.prog 158 [⟨.flt, some b⟩] [.flt] (some (bits BinOp.andNot IntKind.u64 (b : Int) 9223372036854775808).toNat) := Pure.of_flt (w158 b) fun w K => .d _ _ (.f _ _ rfl)
/-- What holds of all no-numbers holds of some no-number. -/
theorem Pure.nan {f : FuncId} {ts : List Ty} {y : TyTup ts} (h : ∀ b, nanBits b → Pure Try.prog f [⟨.flt, some b⟩] ts y) : Pure Try.prog f [⟨.flt, none⟩] ts y := by
  intro w K vs hK hgk hs hr
  have h1 : vs.size = 1 := hs
  have h0 : vs[0]? = some vs[0] := Array.getElem?_eq_getElem (by omega)
  have h2 := hr 0 ⟨.flt, none⟩ vs[0] rfl h0
  obtain ⟨b, hb, hv⟩ := rel_flt h2
  refine h b hb w K vs hK hgk hs fun i a v ha hv' => ?_
  match i with
  | 0 =>
    cases ha
    rw [h0] at hv'; cases hv'
    rw [hv]; exact .d _ _ (.f _ _ rfl)
  | i + 1 => cases ha
end Go.Proofs.Zn

/- The types and the functions that the zones' laws reach. (Own work.) -/
namespace Go.Proofs.Zn
open Go Go.VL

def codes : Codes := fun t => bif t == 3 then some .int else bif t == 38 then some .span else bif t == 59 then some .flt else bif t == 113 then some .plate else bif t == 122 then some .rack else bif t == 63 then some .part else bif t == 158 then some .box else none
def sigL : List (Nat × Sig) :=
  [(43, .pure [.flt] [.u64]), (158, .pure [.flt] [.flt]), (154, .pure [.flt] [.int]), (155, .pure [.u64] [.int]), (142, .pure [.flt] [.bool]), (145, .pure [.flt] [.bool]),
   (143, .pure [.sl .flt] [.int]), (144, .pure [.sl .flt, .flt] [.int]), (125, .pure [.sl .flt] [.int]), (121, .pure [.sl .flt] [.int]),
   (119, .pure [.sl .flt, .flt, .flt] [.span, .int]), (120, .pure [.sl .flt, .flt, .flt] [.span, .int]), (146, .pure [.sl .flt, .int, .flt, .flt] [.bool]),
   (141, .pure [.box] [.int]), (126, .pure [.box] [.bool]), (127, .pure [.plate] [.bool]), (128, .pure [.sl .box] [.int]), (117, .pure [.deck] [.sl .box]), (118, .pure [.deck] [.sl .box]),
   (92, .pure [.deck] [.int]), (115, .pure [.deck] [.int, .int, .int]), (116, .pure [.sl .box, .int, .int] [.part]), (84, .pure [.deck, .int] [.part, .int]),
   (123, .pure [.int, .int] [.bool]), (122, .pure [.plate] [.bool]), (89, .pure [.deck] [.int]), (124, .pure [.int, .int, .int, .int] [.sl .part]), (90, .pure [.deck] [.sl .part]), (42, .pure [.deck, .int] [.part, .int]), (148, .pure [.deck] [.int, .int, .int]),
   (87, .pure [.deck, .part] [.row]), (88, .pure [.row, .int] [.flt]), (41, .pure [.deck, .int] [.flt, .int]), (85, .pure [.deck, .part] [.span, .int]), (39, .pure [.deck, .int] [.span, .int]),
   (44, .pure [.deck, .part] [.flt, .flt]), (86, .pure [.deck, .part] [.span, .int]), (40, .pure [.deck, .int] [.span, .int]), (37, .pure [.deck] [.bool]), (38, .pure [] [.bool])]
def look : List (Nat × Sig) → Nat → Option Sig
  | [], _ => none
  | (k, x) :: l, f => bif k == f then some x else look l f
def sigs : Sigs := look sigL
theorem mixed : Try.prog.follows .mixedOrders = true := Try.checked.mixed
theorem ofT {f : FuncId} {fn : Func} (hf : Try.prog.funcs[f]? = some fn) {args : List Arg} {ts : List Ty} {x : TyTup ts} {cu : Cuts} {n : Nat} {fst : Bool} {T : Out (TyTup ts)}
    (he : aexec Try.prog codes sigs fn (pureFin ts) 0 cu n fst (bodyOf fn) (startS fn args) = T) (hb : fn.body.isSome = true) (hnt : Nat.ble args.length fn.ntmps = true) (h : ∀ A, Sat Try.prog A (· = x) T) : Pure Try.prog f args ts x :=
  Pure.of_tree mixed hf hb (Nat.le_of_ble_eq_true hnt) he h
end Go.Proofs.Zn

namespace Go.Proofs.Zn
open Go Go.VL


theorem t154 (x : Fl) : @Eq (Out (TyTup [.int])) (aexec Try.prog codes sigs Try.f154 (pureFin [.int]) 0 noCut 200 false (bodyOf Try.f154) (startS Try.f154 [⟨.flt, x⟩]))
    (Out.need ((True ∧ True) ∧ True)
  (Out.callP (158 : Nat) [Sigma.mk Ty.flt x] [Ty.flt] fun (x_1 : Option Nat) =>
    bif Fl.cmp x x != some Ordering.eq then Out.need (True ∧ True) (Out.ret (1 : Int))
    else
      bif Fl.cmp x_1 (some (9218868437227405311 : Nat)) == some Ordering.gt then
        Out.need (True ∧ True) (Out.ret (2 : Int))
      else
        bif Fl.cmp x_1 (some (0 : Nat)) == some Ordering.eq then Out.need (True ∧ True) (Out.ret (3 : Int))
        else
          bif Fl.cmp x_1 (some (4503599627370496 : Nat)) == some Ordering.lt then
            Out.need (True ∧ True) (Out.ret (4 : Int))
          else Out.need (True ∧ True) (Out.ret (5 : Int)))) := by kernel_rfl

theorem t155 (x : Int) : @Eq (Out (TyTup [.int])) (aexec Try.prog codes sigs Try.f155 (pureFin [.int]) 0 noCut 200 false (bodyOf Try.f155) (startS Try.f155 [⟨.u64, x⟩]))
    (Out.need ((0 : Int) ≤ (52 : Int))
  (Out.need ((2048 : Int) ≠ (0 : Int))
    (Out.need ((4503599627370496 : Int) ≠ (0 : Int))
      (bif
          Int.tmod (Int.fdiv x ((2 : Int) ^ min (52 : Nat) (IntKind.bits IntKind.u64))) (2048 : Int) ==
            (2047 : Int) then
        bif Int.tmod x (4503599627370496 : Int) != (0 : Int) then Out.need (True ∧ True) (Out.ret (1 : Int))
        else
          bif
              Int.tmod (Int.fdiv x ((2 : Int) ^ min (52 : Nat) (IntKind.bits IntKind.u64))) (2048 : Int) ==
                (2047 : Int) then
            Out.need (True ∧ True) (Out.ret (2 : Int))
          else
            bif
                Int.tmod (Int.fdiv x ((2 : Int) ^ min (52 : Nat) (IntKind.bits IntKind.u64))) (2048 : Int) ==
                  (0 : Int) then
              bif Int.tmod x (4503599627370496 : Int) == (0 : Int) then Out.need (True ∧ True) (Out.ret (3 : Int))
              else
                bif
                    Int.tmod (Int.fdiv x ((2 : Int) ^ min (52 : Nat) (IntKind.bits IntKind.u64))) (2048 : Int) ==
                      (0 : Int) then
                  Out.need (True ∧ True) (Out.ret (4 : Int))
                else Out.need (True ∧ True) (Out.ret (5 : Int))
            else
              bif
                  Int.tmod (Int.fdiv x ((2 : Int) ^ min (52 : Nat) (IntKind.bits IntKind.u64))) (2048 : Int) ==
                    (0 : Int) then
                Out.need (True ∧ True) (Out.ret (4 : Int))
              else Out.need (True ∧ True) (Out.ret (5 : Int))
      else
        bif
            Int.tmod (Int.fdiv x ((2 : Int) ^ min (52 : Nat) (IntKind.bits IntKind.u64))) (2048 : Int) ==
              (2047 : Int) then
          Out.need (True ∧ True) (Out.ret (2 : Int))
        else
          bif
              Int.tmod (Int.fdiv x ((2 : Int) ^ min (52 : Nat) (IntKind.bits IntKind.u64))) (2048 : Int) ==
                (0 : Int) then
            bif Int.tmod x (4503599627370496 : Int) == (0 : Int) then Out.need (True ∧ True) (Out.ret (3 : Int))
            else
              bif
                  Int.tmod (Int.fdiv x ((2 : Int) ^ min (52 : Nat) (IntKind.bits IntKind.u64))) (2048 : Int) ==
                    (0 : Int) then
                Out.need (True ∧ True) (Out.ret (4 : Int))
              else Out.need (True ∧ True) (Out.ret (5 : Int))
          else
            bif
                Int.tmod (Int.fdiv x ((2 : Int) ^ min (52 : Nat) (IntKind.bits IntKind.u64))) (2048 : Int) ==
                  (0 : Int) then
              Out.need (True ∧ True) (Out.ret (4 : Int))
            else Out.need (True ∧ True) (Out.ret (5 : Int)))))) := by kernel_rfl

theorem t142 (x : Fl) : @Eq (Out (TyTup [.bool])) (aexec Try.prog codes sigs Try.f142 (pureFin [.bool]) 0 noCut 200 false (bodyOf Try.f142) (startS Try.f142 [⟨.flt, x⟩]))
    (Out.need ((True ∧ True) ∧ True)
  (Out.callP (154 : Nat) [Sigma.mk Ty.flt x] [Ty.int] fun (x : Int) =>
    Out.need (True ∧ True) (Out.ret (x == (1 : Int))))) := by kernel_rfl

theorem t145 (x : Fl) : @Eq (Out (TyTup [.bool])) (aexec Try.prog codes sigs Try.f145 (pureFin [.bool]) 0 noCut 200 false (bodyOf Try.f145) (startS Try.f145 [⟨.flt, x⟩]))
    (Out.need ((True ∧ True) ∧ True)
  (Out.callP (43 : Nat) [Sigma.mk Ty.flt x] [Ty.u64] fun (x : Int) =>
    Out.need ((True ∧ True) ∧ True)
      (Out.callP (155 : Nat) [Sigma.mk Ty.u64 x] [Ty.int] fun (x : Int) =>
        Out.need (True ∧ True) (Out.ret (x == (1 : Int)))))) := by kernel_rfl

theorem t143 (l : List Fl) : @Eq (Out (TyTup [.int])) (aexec Try.prog codes sigs Try.f143 (pureFin [.int]) 0 noCut 200 false (bodyOf Try.f143) (startS Try.f143 [⟨.sl .flt, l⟩]))
    (Out.need (True ∧ True) (Out.ret (IntKind.wrap IntKind.i64 ((↑(List.length l) : Int) - (1 : Int))))) := by kernel_rfl

theorem t144 (l : List Fl) (x : Fl) : @Eq (Out (TyTup [.int])) (aexec Try.prog codes sigs Try.f144 (pureFin [.int]) 0 noCut 200 false (bodyOf Try.f144) (startS Try.f144 [⟨.sl .flt, l⟩, ⟨.flt, x⟩]))
    (Out.need ((True ∧ True) ∧ True)
  (Out.callP (143 : Nat) [Sigma.mk (Ty.sl Ty.flt) l] [Ty.int] fun (x_1 : Int) =>
    Out.need (((0 : Int) ≤ (0 : Int) ∧ (0 : Int) ≤ x_1 ∧ x_1 ≤ (↑(List.length l) : Int)) ∧ True)
      (Out.stop (hd Try.f144 (0 : Nat))
        (mkS (25 : Nat)
          [((1 : Nat), AV.d (D.f x)), ((5 : Nat), AV.d (D.v (Value.int IntKind.i64 (0 : Int)))),
            ((11 : Nat), AV.d (D.sl Ty.flt (List.drop (0 : Nat) (List.take (Int.toNat x_1) l)))),
            ((12 : Nat),
              AV.d
                (D.v
                  (Value.int IntKind.i64 (↑(List.length (List.drop (0 : Nat) (List.take (Int.toNat x_1) l))) : Int)))),
            ((13 : Nat), AV.d (D.v (Value.int IntKind.i64 (0 : Int))))]
          [] (0 : Nat))))) := by kernel_rfl

theorem t125 (l : List Fl) : @Eq (Out (TyTup [.int])) (aexec Try.prog codes sigs Try.f125 (pureFin [.int]) 0 noCut 200 false (bodyOf Try.f125) (startS Try.f125 [⟨.sl .flt, l⟩]))
    (bif decide ((↑(List.length l) : Int) < (2 : Int)) then Out.need (True ∧ True) (Out.ret (1 : Int))
  else
  bif decide ((↑(List.length l) : Int) > (25 : Int)) then Out.need (True ∧ True) (Out.ret (2 : Int))
  else
    Out.stop (hd Try.f125 (0 : Nat))
      (mkS (35 : Nat)
        [((0 : Nat), AV.d (D.sl Ty.flt l)), ((13 : Nat), AV.d (D.sl Ty.flt l)),
          ((14 : Nat), AV.d (D.v (Value.int IntKind.i64 (↑(List.length l) : Int)))),
          ((15 : Nat), AV.d (D.v (Value.int IntKind.i64 (0 : Int))))]
        [] (0 : Nat))) := by kernel_rfl

theorem t121 (l : List Fl) : @Eq (Out (TyTup [.int])) (aexec Try.prog codes sigs Try.f121 (pureFin [.int]) 0 noCut 200 false (bodyOf Try.f121) (startS Try.f121 [⟨.sl .flt, l⟩]))
    (bif decide ((↑(List.length l) : Int) < (2 : Int)) then Out.need (True ∧ True) (Out.ret (1 : Int))
  else
  bif decide ((↑(List.length l) : Int) > (25 : Int)) then Out.need (True ∧ True) (Out.ret (2 : Int))
  else
    Out.stop (hd Try.f121 (0 : Nat))
      (mkS (35 : Nat) [((0 : Nat), AV.d (D.sl Ty.flt l)), ((3 : Nat), AV.d (D.v (Value.int IntKind.i64 (0 : Int))))] []
        (0 : Nat))) := by kernel_rfl

theorem t119 (l : List Fl) (x : Fl) (r : Fl) : @Eq (Out (TyTup [.span, .int])) (aexec Try.prog codes sigs Try.f119 (pureFin [.span, .int]) 0 noCut 200 false (bodyOf Try.f119) (startS Try.f119 [⟨.sl .flt, l⟩, ⟨.flt, x⟩, ⟨.flt, r⟩]))
    (Out.need ((True ∧ True) ∧ True)
  (Out.callP (125 : Nat) [Sigma.mk (Ty.sl Ty.flt) l] [Ty.int] fun (x_1 : Int) =>
    bif x_1 != (0 : Int) then Out.need ((True ∧ True ∧ True) ∧ True ∧ True) (Out.ret (Span.mk (0 : Int) (0 : Int), x_1))
    else
      Out.need ((True ∧ True) ∧ True)
        (Out.callP (142 : Nat) [Sigma.mk Ty.flt x] [Ty.bool] fun (x_2 : Bool) =>
          bif x_2 then Out.need ((True ∧ True ∧ True) ∧ True ∧ True) (Out.ret (Span.mk (0 : Int) (0 : Int), (20 : Int)))
          else
            Out.need ((True ∧ True) ∧ True)
              (Out.callP (142 : Nat) [Sigma.mk Ty.flt r] [Ty.bool] fun (x_3 : Bool) =>
                bif x_3 then
                  Out.need ((True ∧ True ∧ True) ∧ True ∧ True) (Out.ret (Span.mk (0 : Int) (0 : Int), (20 : Int)))
                else
                  bif Fl.cmp r (some (0 : Nat)) == some Ordering.lt then
                    Out.need ((True ∧ True ∧ True) ∧ True ∧ True) (Out.ret (Span.mk (0 : Int) (0 : Int), (22 : Int)))
                  else
                    Out.need ((True ∧ True) ∧ True)
                      (Out.callP (142 : Nat) [Sigma.mk Ty.flt (Fl.arith BinOp.sub x r)] [Ty.bool] fun (x_4 : Bool) =>
                        bif x_4 then
                          Out.need ((True ∧ True ∧ True) ∧ True ∧ True)
                            (Out.ret (Span.mk (0 : Int) (0 : Int), (20 : Int)))
                        else
                          Out.need ((True ∧ True) ∧ True)
                            (Out.callP (142 : Nat) [Sigma.mk Ty.flt (Fl.arith BinOp.add x r)] [Ty.bool]
                              fun (x_5 : Bool) =>
                              bif x_5 then
                                Out.need ((True ∧ True ∧ True) ∧ True ∧ True)
                                  (Out.ret (Span.mk (0 : Int) (0 : Int), (20 : Int)))
                              else
                                Out.need (((0 : Int) ≤ (0 : Int) ∧ (0 : Int) < (↑(List.length l) : Int)) ∧ True)
                                  (bif
                                      Fl.cmp (Fl.arith BinOp.add x r) (List.getD l (0 : Nat) (Ty.dflt Ty.flt)) ==
                                        some Ordering.lt then
                                    Out.need ((True ∧ True ∧ True) ∧ True ∧ True)
                                      (Out.ret (Span.mk (0 : Int) (0 : Int), (71 : Int)))
                                  else
                                    Out.need ((True ∧ True) ∧ True)
                                      (Out.callP (143 : Nat) [Sigma.mk (Ty.sl Ty.flt) l] [Ty.int] fun (x_6 : Int) =>
                                        Out.need (((0 : Int) ≤ x_6 ∧ x_6 < (↑(List.length l) : Int)) ∧ True)
                                          (bif
                                              Fl.cmp (Fl.arith BinOp.sub x r)
                                                  (List.getD l (Int.toNat x_6) (Ty.dflt Ty.flt)) ==
                                                some Ordering.gt then
                                            Out.need ((True ∧ True ∧ True) ∧ True ∧ True)
                                              (Out.ret (Span.mk (0 : Int) (0 : Int), (71 : Int)))
                                          else
                                            Out.need ((True ∧ True) ∧ (True ∧ True) ∧ True)
                                              (Out.callP (144 : Nat)
                                                [Sigma.mk (Ty.sl Ty.flt) l, Sigma.mk Ty.flt (Fl.arith BinOp.sub x r)]
                                                [Ty.int] fun (x_7 : Int) =>
                                                Out.need ((True ∧ True) ∧ (True ∧ True) ∧ True)
                                                  (Out.callP (144 : Nat)
                                                    [Sigma.mk (Ty.sl Ty.flt) l,
                                                      Sigma.mk Ty.flt (Fl.arith BinOp.add x r)]
                                                    [Ty.int] fun (x : Int) =>
                                                    Out.need ((True ∧ True ∧ True) ∧ True ∧ True)
                                                      (Out.ret
                                                        (Span.mk
                                                            (IntKind.wrap IntKind.i64
                                                              ((if (1 : Int) > x_7 then (1 : Int) else x_7) -
                                                                (1 : Int)))
                                                            (IntKind.wrap IntKind.i64 (x - (1 : Int))),
                                                          (0 : Int)))))))))))))) := by kernel_rfl

theorem t120 (l : List Fl) (x : Fl) (r : Fl) : @Eq (Out (TyTup [.span, .int])) (aexec Try.prog codes sigs Try.f120 (pureFin [.span, .int]) 0 noCut 200 false (bodyOf Try.f120) (startS Try.f120 [⟨.sl .flt, l⟩, ⟨.flt, x⟩, ⟨.flt, r⟩]))
    (Out.need ((True ∧ True) ∧ True)
  (Out.callP (121 : Nat) [Sigma.mk (Ty.sl Ty.flt) l] [Ty.int] fun (x_1 : Int) =>
    bif x_1 != (0 : Int) then Out.need ((True ∧ True ∧ True) ∧ True ∧ True) (Out.ret (Span.mk (0 : Int) (0 : Int), x_1))
    else
      Out.need ((True ∧ True) ∧ True)
        (Out.callP (145 : Nat) [Sigma.mk Ty.flt x] [Ty.bool] fun (x_2 : Bool) =>
          bif x_2 then Out.need ((True ∧ True ∧ True) ∧ True ∧ True) (Out.ret (Span.mk (0 : Int) (0 : Int), (20 : Int)))
          else
            Out.need ((True ∧ True) ∧ True)
              (Out.callP (145 : Nat) [Sigma.mk Ty.flt r] [Ty.bool] fun (x_3 : Bool) =>
                bif x_3 then
                  Out.need ((True ∧ True ∧ True) ∧ True ∧ True) (Out.ret (Span.mk (0 : Int) (0 : Int), (20 : Int)))
                else
                  bif Fl.cmp r (some (0 : Nat)) == some Ordering.lt then
                    Out.need ((True ∧ True ∧ True) ∧ True ∧ True) (Out.ret (Span.mk (0 : Int) (0 : Int), (22 : Int)))
                  else
                    Out.need ((True ∧ True) ∧ True)
                      (Out.callP (145 : Nat) [Sigma.mk Ty.flt (Fl.arith BinOp.sub x r)] [Ty.bool] fun (x_4 : Bool) =>
                        bif x_4 then
                          Out.need ((True ∧ True ∧ True) ∧ True ∧ True)
                            (Out.ret (Span.mk (0 : Int) (0 : Int), (20 : Int)))
                        else
                          Out.need ((True ∧ True) ∧ True)
                            (Out.callP (145 : Nat) [Sigma.mk Ty.flt (Fl.arith BinOp.add x r)] [Ty.bool]
                              fun (x_5 : Bool) =>
                              bif x_5 then
                                Out.need ((True ∧ True ∧ True) ∧ True ∧ True)
                                  (Out.ret (Span.mk (0 : Int) (0 : Int), (20 : Int)))
                              else
                                Out.stop (hd Try.f120 (0 : Nat))
                                  (mkS (72 : Nat)
                                    [((0 : Nat), AV.d (D.sl Ty.flt l)), ((6 : Nat), AV.ptr (0 : Nat) (0 : Nat)),
                                      ((9 : Nat), AV.d (D.f (Fl.arith BinOp.sub x r))),
                                      ((10 : Nat), AV.d (D.f (Fl.arith BinOp.add x r))),
                                      ((11 : Nat), AV.d (D.v (Value.slice none (0 : Nat) (0 : Nat)))),
                                      ((12 : Nat), AV.d (D.v (Value.int IntKind.i64 (0 : Int))))]
                                    [((0 : Nat),
                                        ABlk.box
                                          [AV.d (D.v (Value.int IntKind.i64 (0 : Int))),
                                            AV.d (D.v (Value.int IntKind.i64 (0 : Int)))])]
                                    (1 : Nat)))))))) := by kernel_rfl

theorem t146 (l : List Fl) (k : Int) (a : Fl) (b : Fl) : @Eq (Out (TyTup [.bool])) (aexec Try.prog codes sigs Try.f146 (pureFin [.bool]) 0 noCut 200 false (bodyOf Try.f146) (startS Try.f146 [⟨.sl .flt, l⟩, ⟨.int, k⟩, ⟨.flt, a⟩, ⟨.flt, b⟩]))
    (bif IntKind.wrap IntKind.i64 (k + (2 : Int)) == (↑(List.length l) : Int) then
  Out.need
    (((0 : Int) ≤ IntKind.wrap IntKind.i64 (k + (1 : Int)) ∧
        IntKind.wrap IntKind.i64 (k + (1 : Int)) < (↑(List.length l) : Int)) ∧
      True)
    (bif
        Fl.cmp a (List.getD l (Int.toNat (IntKind.wrap IntKind.i64 (k + (1 : Int)))) (Ty.dflt Ty.flt)) ==
            some Ordering.lt ||
          Fl.cmp a (List.getD l (Int.toNat (IntKind.wrap IntKind.i64 (k + (1 : Int)))) (Ty.dflt Ty.flt)) ==
            some Ordering.eq then
      Out.need (((0 : Int) ≤ k ∧ k < (↑(List.length l) : Int)) ∧ True)
        (Out.need (True ∧ True)
          (Out.ret
            (Fl.cmp b (List.getD l (Int.toNat k) (Ty.dflt Ty.flt)) == some Ordering.gt ||
              Fl.cmp b (List.getD l (Int.toNat k) (Ty.dflt Ty.flt)) == some Ordering.eq)))
    else Out.need (True ∧ True) (Out.ret false))
  else
  Out.need
    (((0 : Int) ≤ IntKind.wrap IntKind.i64 (k + (1 : Int)) ∧
        IntKind.wrap IntKind.i64 (k + (1 : Int)) < (↑(List.length l) : Int)) ∧
      True)
    (bif
        Fl.cmp a (List.getD l (Int.toNat (IntKind.wrap IntKind.i64 (k + (1 : Int)))) (Ty.dflt Ty.flt)) ==
          some Ordering.lt then
      Out.need (((0 : Int) ≤ k ∧ k < (↑(List.length l) : Int)) ∧ True)
        (Out.need (True ∧ True)
          (Out.ret
            (Fl.cmp b (List.getD l (Int.toNat k) (Ty.dflt Ty.flt)) == some Ordering.gt ||
              Fl.cmp b (List.getD l (Int.toNat k) (Ty.dflt Ty.flt)) == some Ordering.eq)))
    else Out.need (True ∧ True) (Out.ret false))) := by kernel_rfl

theorem t141 (b : Go.VL.Box) : @Eq (Out (TyTup [.int])) (aexec Try.prog codes sigs Try.f141 (pureFin [.int]) 0 noCut 200 false (bodyOf Try.f141) (startS Try.f141 [⟨.box, b⟩]))
    (Out.need (True ∧ True) (Out.ret (IntKind.wrap IntKind.i64 (Box.rows b * Box.cols b)))) := by kernel_rfl

theorem t126 (b : Go.VL.Box) : @Eq (Out (TyTup [.bool])) (aexec Try.prog codes sigs Try.f126 (pureFin [.bool]) 0 noCut 200 false (bodyOf Try.f126) (startS Try.f126 [⟨.box, b⟩]))
    (bif decide (Box.rows b ≥ (1 : Int)) then
  bif decide (Box.rows b ≤ (32 : Int)) then
    bif decide (Box.cols b ≥ (1 : Int)) then Out.need (True ∧ True) (Out.ret (decide (Box.cols b ≤ (48 : Int))))
    else Out.need (True ∧ True) (Out.ret false)
  else Out.need (True ∧ True) (Out.ret false)
  else Out.need (True ∧ True) (Out.ret false)) := by kernel_rfl

theorem t127 (p : Plate) : @Eq (Out (TyTup [.bool])) (aexec Try.prog codes sigs Try.f127 (pureFin [.bool]) 0 noCut 200 false (bodyOf Try.f127) (startS Try.f127 [⟨.plate, p⟩]))
    (bif decide (Plate.cap p < (1 : Int)) then Out.need (True ∧ True) (Out.ret false)
  else
  bif decide (Plate.cap p > (1099511627776 : Int)) then Out.need (True ∧ True) (Out.ret false)
  else
    bif decide ((↑(List.length (Plate.start p)) : Int) > IntKind.wrap IntKind.i64 (Plate.rows p * Plate.cols p)) then
      Out.need (True ∧ True) (Out.ret false)
    else
      Out.stop (hd Try.f127 (0 : Nat))
        (mkS (40 : Nat)
          [((1 : Nat), AV.ptr (0 : Nat) (0 : Nat)), ((25 : Nat), AV.d (D.sl Ty.int (Plate.start p))),
            ((26 : Nat), AV.d (D.v (Value.int IntKind.i64 (↑(List.length (Plate.start p)) : Int)))),
            ((27 : Nat), AV.d (D.v (Value.int IntKind.i64 (0 : Int))))]
          [((0 : Nat),
              ABlk.box
                [AV.d (D.v (Value.int IntKind.i64 (Plate.rows p))), AV.d (D.v (Value.int IntKind.i64 (Plate.cols p))),
                  AV.d (D.f (Plate.x p)), AV.d (D.f (Plate.pitch p)), AV.d (D.f (Plate.reach p)),
                  AV.d (D.v (Value.int IntKind.i64 (Plate.cap p))), AV.d (D.sl Ty.int (Plate.start p))])]
          (1 : Nat))) := by kernel_rfl

theorem t128 (l : List Go.VL.Box) : @Eq (Out (TyTup [.int])) (aexec Try.prog codes sigs Try.f128 (pureFin [.int]) 0 noCut 200 false (bodyOf Try.f128) (startS Try.f128 [⟨.sl .box, l⟩]))
    (Out.stop (hd Try.f128 (0 : Nat))
  (mkS (18 : Nat)
    [((3 : Nat), AV.d (D.v (Value.int IntKind.i64 (0 : Int)))), ((6 : Nat), AV.d (D.sl Ty.box l)),
      ((7 : Nat), AV.d (D.v (Value.int IntKind.i64 (↑(List.length l) : Int)))),
      ((8 : Nat), AV.d (D.v (Value.int IntKind.i64 (0 : Int))))]
    [] (0 : Nat))) := by kernel_rfl

theorem t117 (d : Deck) : @Eq (Out (TyTup [.sl .box])) (aexec Try.prog codes sigs Try.f117 (pureFin [.sl .box]) 0 noCut 200 false (bodyOf Try.f117) (startS Try.f117 [⟨.deck, d⟩]))
    (Out.stop (hd Try.f117 (0 : Nat))
  (mkS (23 : Nat)
    [((3 : Nat), AV.d (D.v (Value.slice none (0 : Nat) (0 : Nat)))), ((7 : Nat), AV.d (D.sl Ty.plate (Deck.plates d))),
      ((8 : Nat), AV.d (D.v (Value.int IntKind.i64 (↑(List.length (Deck.plates d)) : Int)))),
      ((9 : Nat), AV.d (D.v (Value.int IntKind.i64 (0 : Int))))]
    [] (0 : Nat))) := by kernel_rfl

theorem t118 (d : Deck) : @Eq (Out (TyTup [.sl .box])) (aexec Try.prog codes sigs Try.f118 (pureFin [.sl .box]) 0 noCut 200 false (bodyOf Try.f118) (startS Try.f118 [⟨.deck, d⟩]))
    (Out.stop (hd Try.f118 (0 : Nat))
  (mkS (23 : Nat)
    [((3 : Nat), AV.d (D.v (Value.slice none (0 : Nat) (0 : Nat)))), ((7 : Nat), AV.d (D.sl Ty.rack (Deck.racks d))),
      ((8 : Nat), AV.d (D.v (Value.int IntKind.i64 (↑(List.length (Deck.racks d)) : Int)))),
      ((9 : Nat), AV.d (D.v (Value.int IntKind.i64 (0 : Int))))]
    [] (0 : Nat))) := by kernel_rfl

theorem t92 (d : Deck) : @Eq (Out (TyTup [.int])) (aexec Try.prog codes sigs Try.f92 (pureFin [.int]) 0 noCut 300 false (bodyOf Try.f92) (startS Try.f92 [⟨.deck, d⟩]))
    (Out.need ((True ∧ True) ∧ True)
  (Out.callP (125 : Nat) [Sigma.mk (Ty.sl Ty.flt) (Deck.borders d)] [Ty.int] fun (x : Int) =>
    bif x != (0 : Int) then Out.need (True ∧ True) (Out.ret x)
    else
      bif decide (Deck.arms d < (1 : Int)) then Out.need (True ∧ True) (Out.ret (80 : Int))
      else
        bif decide (Deck.arms d > (8 : Int)) then Out.need (True ∧ True) (Out.ret (80 : Int))
        else
          bif decide ((↑(List.length (Deck.plates d)) : Int) > (4 : Int)) then
            Out.need (True ∧ True) (Out.ret (2 : Int))
          else
            bif decide ((↑(List.length (Deck.racks d)) : Int) > (4 : Int)) then
              Out.need (True ∧ True) (Out.ret (2 : Int))
            else
              Out.need ((True ∧ True ∧ True ∧ True ∧ True) ∧ True)
                (Out.callP (117 : Nat) [Sigma.mk Ty.deck d] [Ty.sl Ty.box] fun (x : List Box) =>
                  Out.need ((True ∧ True ∧ True ∧ True ∧ True) ∧ True)
                    (Out.callP (118 : Nat) [Sigma.mk Ty.deck d] [Ty.sl Ty.box] fun (x_1 : List Box) =>
                      Out.stop (hd Try.f92 (0 : Nat))
                        (mkS (78 : Nat)
                          [((1 : Nat), AV.ptr (0 : Nat) (0 : Nat)), ((4 : Nat), AV.d (D.sl Ty.box x)),
                            ((5 : Nat), AV.d (D.sl Ty.box x_1)), ((40 : Nat), AV.d (D.sl Ty.box x)),
                            ((41 : Nat), AV.d (D.v (Value.int IntKind.i64 (↑(List.length x) : Int)))),
                            ((42 : Nat), AV.d (D.v (Value.int IntKind.i64 (0 : Int))))]
                          [((0 : Nat),
                              ABlk.box
                                [AV.d (D.sl Ty.flt (Deck.borders d)), AV.d (D.sl Ty.plate (Deck.plates d)),
                                  AV.d (D.sl Ty.rack (Deck.racks d)),
                                  AV.d (D.v (Value.int IntKind.i64 (Deck.arms d)))])]
                          (1 : Nat)))))) := by kernel_rfl

theorem t115 (d : Deck) : @Eq (Out (TyTup [.int, .int, .int])) (aexec Try.prog codes sigs Try.f115 (pureFin [.int, .int, .int]) 0 noCut 200 false (bodyOf Try.f115) (startS Try.f115 [⟨.deck, d⟩]))
    (Out.need ((True ∧ True ∧ True ∧ True ∧ True) ∧ True)
  (Out.callP (92 : Nat) [Sigma.mk Ty.deck d] [Ty.int] fun (x : Int) =>
    bif x != (0 : Int) then
      Out.need ((True ∧ True) ∧ (True ∧ True) ∧ True ∧ True) (Out.ret ((0 : Int), (0 : Int), (0 : Int)))
    else
      Out.need ((True ∧ True ∧ True ∧ True ∧ True) ∧ True)
        (Out.callP (117 : Nat) [Sigma.mk Ty.deck d] [Ty.sl Ty.box] fun (x : List Box) =>
          Out.need ((True ∧ True) ∧ True)
            (Out.callP (128 : Nat) [Sigma.mk (Ty.sl Ty.box) x] [Ty.int] fun (x : Int) =>
              Out.need ((True ∧ True ∧ True ∧ True ∧ True) ∧ True)
                (Out.callP (118 : Nat) [Sigma.mk Ty.deck d] [Ty.sl Ty.box] fun (x_1 : List Box) =>
                  Out.need ((True ∧ True) ∧ True)
                    (Out.callP (128 : Nat) [Sigma.mk (Ty.sl Ty.box) x_1] [Ty.int] fun (x_2 : Int) =>
                      Out.need ((True ∧ True) ∧ (True ∧ True) ∧ True ∧ True)
                        (Out.ret
                          (x, x_2, IntKind.wrap IntKind.i64 ((↑(List.length (Deck.borders d)) : Int) - (1 : Int)))))))))) := by kernel_rfl

theorem t116 (l : List Go.VL.Box) (k : Int) (n : Int) : @Eq (Out (TyTup [.part])) (aexec Try.prog codes sigs Try.f116 (pureFin [.part]) 0 noCut 200 false (bodyOf Try.f116) (startS Try.f116 [⟨.sl .box, l⟩, ⟨.int, k⟩, ⟨.int, n⟩]))
    (Out.stop (hd Try.f116 (0 : Nat))
  (mkS (41 : Nat)
    [((2 : Nat), AV.d (D.v (Value.int IntKind.i64 n))), ((6 : Nat), AV.ptr (0 : Nat) (0 : Nat)),
      ((7 : Nat), AV.ptr (1 : Nat) (0 : Nat)), ((12 : Nat), AV.d (D.sl Ty.box l)),
      ((13 : Nat), AV.d (D.v (Value.int IntKind.i64 (↑(List.length l) : Int)))),
      ((14 : Nat), AV.d (D.v (Value.int IntKind.i64 (0 : Int))))]
    [((0 : Nat),
        ABlk.box
          [AV.d (D.v (Value.int IntKind.i64 (0 : Int))), AV.d (D.v (Value.int IntKind.i64 (0 : Int))),
            AV.d (D.v (Value.int IntKind.i64 (0 : Int))), AV.d (D.v (Value.int IntKind.i64 (0 : Int)))]),
      ((1 : Nat),
        ABlk.box
          [AV.d (D.v (Value.int IntKind.i64 k)), AV.d (D.v (Value.int IntKind.i64 (0 : Int))),
            AV.d (D.v (Value.int IntKind.i64 (0 : Int))), AV.d (D.v (Value.int IntKind.i64 (0 : Int)))])]
    (2 : Nat))) := by kernel_rfl

theorem t84 (d : Deck) (i : Int) : @Eq (Out (TyTup [.part, .int])) (aexec Try.prog codes sigs Try.f84 (pureFin [.part, .int]) 0 noCut 200 false (bodyOf Try.f84) (startS Try.f84 [⟨.deck, d⟩, ⟨.int, i⟩]))
    (Out.need ((True ∧ True ∧ True ∧ True ∧ True) ∧ True)
  (Out.callP (92 : Nat) [Sigma.mk Ty.deck d] [Ty.int] fun (x : Int) =>
    bif x != (0 : Int) then
      Out.need ((True ∧ True ∧ True ∧ True ∧ True) ∧ True ∧ True)
        (Out.ret (Part.mk (0 : Int) (0 : Int) (0 : Int) (0 : Int), x))
    else
      Out.need ((True ∧ True ∧ True ∧ True ∧ True) ∧ True)
        (Out.callP (115 : Nat) [Sigma.mk Ty.deck d] [Ty.int, Ty.int, Ty.int] fun (x : Int × Int × Int) =>
          bif decide (i < (0 : Int)) then
            Out.need ((True ∧ True ∧ True ∧ True ∧ True) ∧ True ∧ True)
              (Out.ret (Part.mk (0 : Int) (0 : Int) (0 : Int) (0 : Int), (3 : Int)))
          else
            bif
                decide
                  (i ≥
                    IntKind.wrap IntKind.i64
                      (IntKind.wrap IntKind.i64 (Prod.fst x + Prod.fst (Prod.snd x)) + Prod.snd (Prod.snd x))) then
              Out.need ((True ∧ True ∧ True ∧ True ∧ True) ∧ True ∧ True)
                (Out.ret (Part.mk (0 : Int) (0 : Int) (0 : Int) (0 : Int), (3 : Int)))
            else
              bif decide (i < Prod.fst x) then
                Out.need ((True ∧ True ∧ True ∧ True ∧ True) ∧ True)
                  (Out.callP (117 : Nat) [Sigma.mk Ty.deck d] [Ty.sl Ty.box] fun (x : List Box) =>
                    Out.need ((True ∧ True) ∧ (True ∧ True) ∧ (True ∧ True) ∧ True)
                      (Out.callP (116 : Nat) [Sigma.mk (Ty.sl Ty.box) x, Sigma.mk Ty.int (1 : Int), Sigma.mk Ty.int i]
                        [Ty.part] fun (x : Part) =>
                        Out.need ((True ∧ True ∧ True ∧ True ∧ True) ∧ True ∧ True) (Out.ret (x, (0 : Int)))))
              else
                bif decide (i < IntKind.wrap IntKind.i64 (Prod.fst x + Prod.fst (Prod.snd x))) then
                  Out.need ((True ∧ True ∧ True ∧ True ∧ True) ∧ True)
                    (Out.callP (118 : Nat) [Sigma.mk Ty.deck d] [Ty.sl Ty.box] fun (x_1 : List Box) =>
                      Out.need ((True ∧ True) ∧ (True ∧ True) ∧ (True ∧ True) ∧ True)
                        (Out.callP (116 : Nat)
                          [Sigma.mk (Ty.sl Ty.box) x_1, Sigma.mk Ty.int (2 : Int),
                            Sigma.mk Ty.int (IntKind.wrap IntKind.i64 (i - Prod.fst x))]
                          [Ty.part] fun (x : Part) =>
                          Out.need ((True ∧ True ∧ True ∧ True ∧ True) ∧ True ∧ True) (Out.ret (x, (0 : Int)))))
                else
                  Out.need ((True ∧ True ∧ True ∧ True ∧ True) ∧ True ∧ True)
                    (Out.ret
                      (Part.mk (3 : Int)
                          (IntKind.wrap IntKind.i64 (IntKind.wrap IntKind.i64 (i - Prod.fst x) - Prod.fst (Prod.snd x)))
                          (0 : Int) (0 : Int),
                        (0 : Int)))))) := by kernel_rfl

theorem t123 (r : Int) (c : Int) : @Eq (Out (TyTup [.bool])) (aexec Try.prog codes sigs Try.f123 (pureFin [.bool]) 0 noCut 200 false (bodyOf Try.f123) (startS Try.f123 [⟨.int, r⟩, ⟨.int, c⟩]))
    (bif decide (r ≥ (1 : Int)) then
  bif decide (r ≤ (32 : Int)) then
    bif decide (c ≥ (1 : Int)) then Out.need (True ∧ True) (Out.ret (decide (c ≤ (48 : Int))))
    else Out.need (True ∧ True) (Out.ret false)
  else Out.need (True ∧ True) (Out.ret false)
  else Out.need (True ∧ True) (Out.ret false)) := by kernel_rfl

theorem t122 (p : Plate) : @Eq (Out (TyTup [.bool])) (aexec Try.prog codes sigs Try.f122 (pureFin [.bool]) 0 noCut 200 false (bodyOf Try.f122) (startS Try.f122 [⟨.plate, p⟩]))
    (Out.need ((True ∧ True) ∧ (True ∧ True) ∧ True)
  (Out.callP (123 : Nat) [Sigma.mk Ty.int (Plate.rows p), Sigma.mk Ty.int (Plate.cols p)] [Ty.bool] fun (x : Bool) =>
    bif !x then Out.need (True ∧ True) (Out.ret false)
    else
      bif decide (Plate.cap p < (1 : Int)) then Out.need (True ∧ True) (Out.ret false)
      else
        bif decide (Plate.cap p > (1099511627776 : Int)) then Out.need (True ∧ True) (Out.ret false)
        else
          bif
              decide
                ((↑(List.length (Plate.start p)) : Int) > IntKind.wrap IntKind.i64 (Plate.rows p * Plate.cols p)) then
            Out.need (True ∧ True) (Out.ret false)
          else
            Out.stop (hd Try.f122 (0 : Nat))
              (mkS (54 : Nat)
                [((1 : Nat), AV.ptr (0 : Nat) (0 : Nat)), ((3 : Nat), AV.d (D.v (Value.int IntKind.i64 (0 : Int))))]
                [((0 : Nat),
                    ABlk.box
                      [AV.d (D.v (Value.int IntKind.i64 (Plate.rows p))),
                        AV.d (D.v (Value.int IntKind.i64 (Plate.cols p))), AV.d (D.f (Plate.x p)),
                        AV.d (D.f (Plate.pitch p)), AV.d (D.f (Plate.reach p)),
                        AV.d (D.v (Value.int IntKind.i64 (Plate.cap p))), AV.d (D.sl Ty.int (Plate.start p))])]
                (1 : Nat)))) := by kernel_rfl

theorem t89 (d : Deck) : @Eq (Out (TyTup [.int])) (aexec Try.prog codes sigs Try.f89 (pureFin [.int]) 0 noCut 300 false (bodyOf Try.f89) (startS Try.f89 [⟨.deck, d⟩]))
    (Out.need ((True ∧ True) ∧ True)
  (Out.callP (121 : Nat) [Sigma.mk (Ty.sl Ty.flt) (Deck.borders d)] [Ty.int] fun (x : Int) =>
    bif x != (0 : Int) then Out.need (True ∧ True) (Out.ret x)
    else
      bif decide (Deck.arms d < (1 : Int)) then Out.need (True ∧ True) (Out.ret (80 : Int))
      else
        bif decide (Deck.arms d > (8 : Int)) then Out.need (True ∧ True) (Out.ret (80 : Int))
        else
          bif decide ((↑(List.length (Deck.plates d)) : Int) > (4 : Int)) then
            Out.need (True ∧ True) (Out.ret (2 : Int))
          else
            bif decide ((↑(List.length (Deck.racks d)) : Int) > (4 : Int)) then
              Out.need (True ∧ True) (Out.ret (2 : Int))
            else
              Out.stop (hd Try.f89 (0 : Nat))
                (mkS (103 : Nat)
                  [((1 : Nat), AV.ptr (0 : Nat) (0 : Nat)), ((4 : Nat), AV.d (D.v (Value.int IntKind.i64 (0 : Int)))),
                    ((5 : Nat), AV.d (D.v (Value.int IntKind.i64 (0 : Int)))),
                    ((6 : Nat), AV.d (D.v (Value.int IntKind.i64 (0 : Int))))]
                  [((0 : Nat),
                      ABlk.box
                        [AV.d (D.sl Ty.flt (Deck.borders d)), AV.d (D.sl Ty.plate (Deck.plates d)),
                          AV.d (D.sl Ty.rack (Deck.racks d)), AV.d (D.v (Value.int IntKind.i64 (Deck.arms d)))])]
                  (1 : Nat)))) := by kernel_rfl

theorem t124 (k : Int) (u : Int) (r : Int) (c : Int) : @Eq (Out (TyTup [.sl .part])) (aexec Try.prog codes sigs Try.f124 (pureFin [.sl .part]) 0 noCut 200 false (bodyOf Try.f124) (startS Try.f124 [⟨.int, k⟩, ⟨.int, u⟩, ⟨.int, r⟩, ⟨.int, c⟩]))
    (Out.stop (hd Try.f124 (0 : Nat))
  (mkS (31 : Nat)
    [((0 : Nat), AV.d (D.v (Value.int IntKind.i64 k))), ((1 : Nat), AV.d (D.v (Value.int IntKind.i64 u))),
      ((2 : Nat), AV.d (D.v (Value.int IntKind.i64 r))), ((3 : Nat), AV.d (D.v (Value.int IntKind.i64 c))),
      ((9 : Nat), AV.d (D.v (Value.slice none (0 : Nat) (0 : Nat)))),
      ((10 : Nat), AV.d (D.v (Value.int IntKind.i64 (0 : Int))))]
    [] (0 : Nat))) := by kernel_rfl

theorem t90 (d : Deck) : @Eq (Out (TyTup [.sl .part])) (aexec Try.prog codes sigs Try.f90 (pureFin [.sl .part]) 0 noCut 200 false (bodyOf Try.f90) (startS Try.f90 [⟨.deck, d⟩]))
    (Out.need ((True ∧ True ∧ True ∧ True ∧ True) ∧ True)
  (Out.callP (89 : Nat) [Sigma.mk Ty.deck d] [Ty.int] fun (x : Int) =>
    bif x != (0 : Int) then Out.need (True ∧ True) (Out.ret [])
    else
      Out.stop (hd Try.f90 (0 : Nat))
        (mkS (71 : Nat)
          [((1 : Nat), AV.ptr (0 : Nat) (0 : Nat)), ((3 : Nat), AV.d (D.v (Value.slice none (0 : Nat) (0 : Nat)))),
            ((4 : Nat), AV.d (D.v (Value.int IntKind.i64 (0 : Int))))]
          [((0 : Nat),
              ABlk.box
                [AV.d (D.sl Ty.flt (Deck.borders d)), AV.d (D.sl Ty.plate (Deck.plates d)),
                  AV.d (D.sl Ty.rack (Deck.racks d)), AV.d (D.v (Value.int IntKind.i64 (Deck.arms d)))])]
          (1 : Nat)))) := by kernel_rfl

theorem t42 (d : Deck) (i : Int) : @Eq (Out (TyTup [.part, .int])) (aexec Try.prog codes sigs Try.f42 (pureFin [.part, .int]) 0 noCut 200 false (bodyOf Try.f42) (startS Try.f42 [⟨.deck, d⟩, ⟨.int, i⟩]))
    (Out.need ((True ∧ True ∧ True ∧ True ∧ True) ∧ True)
  (Out.callP (89 : Nat) [Sigma.mk Ty.deck d] [Ty.int] fun (x : Int) =>
    bif x != (0 : Int) then
      Out.need ((True ∧ True ∧ True ∧ True ∧ True) ∧ True ∧ True)
        (Out.ret (Part.mk (0 : Int) (0 : Int) (0 : Int) (0 : Int), x))
    else
      Out.need ((True ∧ True ∧ True ∧ True ∧ True) ∧ True)
        (Out.callP (90 : Nat) [Sigma.mk Ty.deck d] [Ty.sl Ty.part] fun (x : List Part) =>
          bif decide (i < (0 : Int)) then
            Out.need ((True ∧ True ∧ True ∧ True ∧ True) ∧ True ∧ True)
              (Out.ret (Part.mk (0 : Int) (0 : Int) (0 : Int) (0 : Int), (3 : Int)))
          else
            bif decide (i ≥ (↑(List.length x) : Int)) then
              Out.need ((True ∧ True ∧ True ∧ True ∧ True) ∧ True ∧ True)
                (Out.ret (Part.mk (0 : Int) (0 : Int) (0 : Int) (0 : Int), (3 : Int)))
            else
              Out.need (((0 : Int) ≤ i ∧ i < (↑(List.length x) : Int)) ∧ True)
                (Out.need ((True ∧ True ∧ True ∧ True ∧ True) ∧ True ∧ True)
                  (Out.ret (List.getD x (Int.toNat i) (Ty.dflt Ty.part), (0 : Int))))))) := by kernel_rfl

theorem t148 (d : Deck) : @Eq (Out (TyTup [.int, .int, .int])) (aexec Try.prog codes sigs Try.f148 (pureFin [.int, .int, .int]) 0 noCut 200 false (bodyOf Try.f148) (startS Try.f148 [⟨.deck, d⟩]))
    (Out.need ((True ∧ True ∧ True ∧ True ∧ True) ∧ True)
  (Out.callP (90 : Nat) [Sigma.mk Ty.deck d] [Ty.sl Ty.part] fun (x : List Part) =>
    Out.stop (hd Try.f148 (0 : Nat))
      (mkS (31 : Nat)
        [((5 : Nat), AV.ptr (0 : Nat) (0 : Nat)), ((6 : Nat), AV.d (D.sl Ty.part x)),
          ((7 : Nat), AV.d (D.v (Value.int IntKind.i64 (0 : Int))))]
        [((0 : Nat),
            ABlk.box
              [AV.d (D.v (Value.int IntKind.i64 (0 : Int))), AV.d (D.v (Value.int IntKind.i64 (0 : Int))),
                AV.d (D.v (Value.int IntKind.i64 (0 : Int))), AV.d (D.v (Value.int IntKind.i64 (0 : Int)))])]
        (1 : Nat)))) := by kernel_rfl

theorem t87 (d : Deck) (p : Part) : @Eq (Out (TyTup [.row])) (aexec Try.prog codes sigs Try.f87 (pureFin [.row]) 0 noCut 200 false (bodyOf Try.f87) (startS Try.f87 [⟨.deck, d⟩, ⟨.part, p⟩]))
    (bif Part.kind p == (2 : Int) then
  Out.need (((0 : Int) ≤ Part.unit p ∧ Part.unit p < (↑(List.length (Deck.racks d)) : Int)) ∧ True)
    (Out.need (True ∧ True ∧ True ∧ True)
      (Out.ret
        (Row.mk (Rack.x (List.getD (Deck.racks d) (Int.toNat (Part.unit p)) (Ty.dflt Ty.rack)))
          (Rack.pitch (List.getD (Deck.racks d) (Int.toNat (Part.unit p)) (Ty.dflt Ty.rack)))
          (Rack.reach (List.getD (Deck.racks d) (Int.toNat (Part.unit p)) (Ty.dflt Ty.rack))))))
  else
  Out.need (((0 : Int) ≤ Part.unit p ∧ Part.unit p < (↑(List.length (Deck.plates d)) : Int)) ∧ True)
    (Out.need (True ∧ True ∧ True ∧ True)
      (Out.ret
        (Row.mk (Plate.x (List.getD (Deck.plates d) (Int.toNat (Part.unit p)) (Ty.dflt Ty.plate)))
          (Plate.pitch (List.getD (Deck.plates d) (Int.toNat (Part.unit p)) (Ty.dflt Ty.plate)))
          (Plate.reach (List.getD (Deck.plates d) (Int.toNat (Part.unit p)) (Ty.dflt Ty.plate))))))) := by kernel_rfl

theorem t88 (r : Row) (c : Int) : @Eq (Out (TyTup [.flt])) (aexec Try.prog codes sigs Try.f88 (pureFin [.flt]) 0 noCut 200 false (bodyOf Try.f88) (startS Try.f88 [⟨.row, r⟩, ⟨.int, c⟩]))
    (Out.need (True ∧ True)
  (Out.ret (Fl.arith BinOp.add (Row.x r) (Fl.arith BinOp.mul (some (FloatKind.nearest FloatKind.f64 c)) (Row.pitch r))))) := by kernel_rfl

theorem t41 (d : Deck) (i : Int) : @Eq (Out (TyTup [.flt, .int])) (aexec Try.prog codes sigs Try.f41 (pureFin [.flt, .int]) 0 noCut 200 false (bodyOf Try.f41) (startS Try.f41 [⟨.deck, d⟩, ⟨.int, i⟩]))
    (Out.need ((True ∧ True ∧ True ∧ True ∧ True) ∧ (True ∧ True) ∧ True)
  (Out.callP (84 : Nat) [Sigma.mk Ty.deck d, Sigma.mk Ty.int i] [Ty.part, Ty.int] fun (x : Part × Int) =>
    bif Prod.snd x != (0 : Int) then Out.need ((True ∧ True) ∧ True ∧ True) (Out.ret (some (0 : Nat), Prod.snd x))
    else
      bif Part.kind (Prod.fst x) == (3 : Int) then
        Out.need ((True ∧ True) ∧ True ∧ True) (Out.ret (some (0 : Nat), (1 : Int)))
      else
        Out.need ((True ∧ True ∧ True ∧ True ∧ True) ∧ (True ∧ True ∧ True ∧ True ∧ True) ∧ True)
          (Out.callP (87 : Nat) [Sigma.mk Ty.deck d, Sigma.mk Ty.part (Prod.fst x)] [Ty.row] fun (x_1 : Row) =>
            Out.need ((True ∧ True ∧ True ∧ True) ∧ (True ∧ True) ∧ True)
              (Out.callP (88 : Nat) [Sigma.mk Ty.row x_1, Sigma.mk Ty.int (Part.col (Prod.fst x))] [Ty.flt]
                fun (x : Option Nat) => Out.need ((True ∧ True) ∧ True ∧ True) (Out.ret (x, (0 : Int))))))) := by kernel_rfl

theorem t85 (d : Deck) (p : Part) : @Eq (Out (TyTup [.span, .int])) (aexec Try.prog codes sigs Try.f85 (pureFin [.span, .int]) 0 noCut 200 false (bodyOf Try.f85) (startS Try.f85 [⟨.deck, d⟩, ⟨.part, p⟩]))
    (bif Part.kind p == (3 : Int) then
  Out.need ((True ∧ True ∧ True) ∧ True ∧ True) (Out.ret (Span.mk (Part.unit p) (Part.unit p), (0 : Int)))
  else
  Out.need ((True ∧ True ∧ True ∧ True ∧ True) ∧ (True ∧ True ∧ True ∧ True ∧ True) ∧ True)
    (Out.callP (87 : Nat) [Sigma.mk Ty.deck d, Sigma.mk Ty.part p] [Ty.row] fun (x : Row) =>
      Out.need ((True ∧ True ∧ True ∧ True) ∧ (True ∧ True) ∧ True)
        (Out.callP (88 : Nat) [Sigma.mk Ty.row x, Sigma.mk Ty.int (Part.col p)] [Ty.flt] fun (x_1 : Option Nat) =>
          Out.need ((True ∧ True) ∧ (True ∧ True) ∧ (True ∧ True) ∧ True)
            (Out.callP (119 : Nat)
              [Sigma.mk (Ty.sl Ty.flt) (Deck.borders d), Sigma.mk Ty.flt x_1, Sigma.mk Ty.flt (Row.reach x)]
              [Ty.span, Ty.int] fun (x : Span × Int) =>
              Out.need ((True ∧ True ∧ True) ∧ True ∧ True) (Out.ret (Prod.fst x, Prod.snd x)))))) := by kernel_rfl

theorem t39 (d : Deck) (i : Int) : @Eq (Out (TyTup [.span, .int])) (aexec Try.prog codes sigs Try.f39 (pureFin [.span, .int]) 0 noCut 200 false (bodyOf Try.f39) (startS Try.f39 [⟨.deck, d⟩, ⟨.int, i⟩]))
    (Out.need ((True ∧ True ∧ True ∧ True ∧ True) ∧ (True ∧ True) ∧ True)
  (Out.callP (84 : Nat) [Sigma.mk Ty.deck d, Sigma.mk Ty.int i] [Ty.part, Ty.int] fun (x : Part × Int) =>
    bif Prod.snd x != (0 : Int) then
      Out.need ((True ∧ True ∧ True) ∧ True ∧ True) (Out.ret (Span.mk (0 : Int) (0 : Int), Prod.snd x))
    else
      Out.need ((True ∧ True ∧ True ∧ True ∧ True) ∧ (True ∧ True ∧ True ∧ True ∧ True) ∧ True)
        (Out.callP (85 : Nat) [Sigma.mk Ty.deck d, Sigma.mk Ty.part (Prod.fst x)] [Ty.span, Ty.int]
          fun (x : Span × Int) => Out.need ((True ∧ True ∧ True) ∧ True ∧ True) (Out.ret (Prod.fst x, Prod.snd x))))) := by kernel_rfl

theorem t44 (d : Deck) (p : Part) : @Eq (Out (TyTup [.flt, .flt])) (aexec Try.prog codes sigs Try.f44 (pureFin [.flt, .flt]) 0 noCut 200 false (bodyOf Try.f44) (startS Try.f44 [⟨.deck, d⟩, ⟨.part, p⟩]))
    (bif Part.kind p == (1 : Int) then
  Out.need (((0 : Int) ≤ Part.unit p ∧ Part.unit p < (↑(List.length (Deck.plates d)) : Int)) ∧ True)
    (Out.need ((True ∧ True) ∧ True ∧ True)
      (Out.ret
        (Fl.arith BinOp.add (Plate.x (List.getD (Deck.plates d) (Int.toNat (Part.unit p)) (Ty.dflt Ty.plate)))
            (Fl.arith BinOp.mul (some (FloatKind.nearest FloatKind.f64 (Part.col p)))
              (Plate.pitch (List.getD (Deck.plates d) (Int.toNat (Part.unit p)) (Ty.dflt Ty.plate)))),
          Plate.reach (List.getD (Deck.plates d) (Int.toNat (Part.unit p)) (Ty.dflt Ty.plate)))))
  else
  Out.need (((0 : Int) ≤ Part.unit p ∧ Part.unit p < (↑(List.length (Deck.racks d)) : Int)) ∧ True)
    (Out.need ((True ∧ True) ∧ True ∧ True)
      (Out.ret
        (Fl.arith BinOp.add (Rack.x (List.getD (Deck.racks d) (Int.toNat (Part.unit p)) (Ty.dflt Ty.rack)))
            (Fl.arith BinOp.mul (some (FloatKind.nearest FloatKind.f64 (Part.col p)))
              (Rack.pitch (List.getD (Deck.racks d) (Int.toNat (Part.unit p)) (Ty.dflt Ty.rack)))),
          Rack.reach (List.getD (Deck.racks d) (Int.toNat (Part.unit p)) (Ty.dflt Ty.rack)))))) := by kernel_rfl

theorem t86 (d : Deck) (p : Part) : @Eq (Out (TyTup [.span, .int])) (aexec Try.prog codes sigs Try.f86 (pureFin [.span, .int]) 0 noCut 200 false (bodyOf Try.f86) (startS Try.f86 [⟨.deck, d⟩, ⟨.part, p⟩]))
    (bif Part.kind p == (3 : Int) then
  Out.need ((True ∧ True ∧ True) ∧ True ∧ True) (Out.ret (Span.mk (Part.unit p) (Part.unit p), (0 : Int)))
  else
  Out.need ((True ∧ True ∧ True ∧ True ∧ True) ∧ (True ∧ True ∧ True ∧ True ∧ True) ∧ True)
    (Out.callP (44 : Nat) [Sigma.mk Ty.deck d, Sigma.mk Ty.part p] [Ty.flt, Ty.flt] fun (x : Option Nat × Option Nat) =>
      Out.need ((True ∧ True) ∧ (True ∧ True) ∧ (True ∧ True) ∧ True)
        (Out.callP (120 : Nat)
          [Sigma.mk (Ty.sl Ty.flt) (Deck.borders d), Sigma.mk Ty.flt (Prod.fst x), Sigma.mk Ty.flt (Prod.snd x)]
          [Ty.span, Ty.int] fun (x : Span × Int) =>
          Out.need ((True ∧ True ∧ True) ∧ True ∧ True) (Out.ret (Prod.fst x, Prod.snd x))))) := by kernel_rfl

theorem t40 (d : Deck) (i : Int) : @Eq (Out (TyTup [.span, .int])) (aexec Try.prog codes sigs Try.f40 (pureFin [.span, .int]) 0 noCut 200 false (bodyOf Try.f40) (startS Try.f40 [⟨.deck, d⟩, ⟨.int, i⟩]))
    (Out.need ((True ∧ True ∧ True ∧ True ∧ True) ∧ (True ∧ True) ∧ True)
  (Out.callP (42 : Nat) [Sigma.mk Ty.deck d, Sigma.mk Ty.int i] [Ty.part, Ty.int] fun (x : Part × Int) =>
    bif Prod.snd x != (0 : Int) then
      Out.need ((True ∧ True ∧ True) ∧ True ∧ True) (Out.ret (Span.mk (0 : Int) (0 : Int), Prod.snd x))
    else
      Out.need ((True ∧ True ∧ True ∧ True ∧ True) ∧ (True ∧ True ∧ True ∧ True ∧ True) ∧ True)
        (Out.callP (86 : Nat) [Sigma.mk Ty.deck d, Sigma.mk Ty.part (Prod.fst x)] [Ty.span, Ty.int]
          fun (x : Span × Int) => Out.need ((True ∧ True ∧ True) ∧ True ∧ True) (Out.ret (Prod.fst x, Prod.snd x))))) := by kernel_rfl

theorem t37 (d : Deck) : @Eq (Out (TyTup [.bool])) (aexec Try.prog codes sigs Try.f37 (pureFin [.bool]) 0 noCut 200 false (bodyOf Try.f37) (startS Try.f37 [⟨.deck, d⟩]))
    (bif decide ((↑(List.length (Deck.borders d)) : Int) > (60 : Int)) then Out.need (True ∧ True) (Out.ret true)
  else
  bif decide ((↑(List.length (Deck.plates d)) : Int) > (8 : Int)) then Out.need (True ∧ True) (Out.ret true)
  else
    bif decide ((↑(List.length (Deck.racks d)) : Int) > (8 : Int)) then Out.need (True ∧ True) (Out.ret true)
    else
      Out.stop (hd Try.f37 (0 : Nat))
        (mkS (35 : Nat)
          [((1 : Nat), AV.ptr (0 : Nat) (0 : Nat)), ((3 : Nat), AV.d (D.v (Value.int IntKind.i64 (0 : Int))))]
          [((0 : Nat),
              ABlk.box
                [AV.d (D.sl Ty.flt (Deck.borders d)), AV.d (D.sl Ty.plate (Deck.plates d)),
                  AV.d (D.sl Ty.rack (Deck.racks d)), AV.d (D.v (Value.int IntKind.i64 (Deck.arms d)))])]
          (1 : Nat))) := by kernel_rfl

theorem t38  : @Eq (Out (TyTup [.bool])) (aexec Try.prog codes sigs Try.f38 (pureFin [.bool]) 0 noCut 400 false (bodyOf Try.f38) (startS Try.f38 []))
    (Out.need ((True ∧ True) ∧ (True ∧ True) ∧ (True ∧ True) ∧ (True ∧ True) ∧ True)
  (Out.need ((True ∧ True ∧ True ∧ True ∧ True ∧ True ∧ True ∧ True) ∧ True)
    (Out.need ((True ∧ True ∧ True ∧ True ∧ True) ∧ (True ∧ True) ∧ True)
      (Out.callP (41 : Nat)
        [Sigma.mk Ty.deck
            (Deck.mk
              [some (0 : Nat), some (4621256167635550208 : Nat), some (4625759767262920704 : Nat),
                some (4628293042053316608 : Nat)]
              [Plate.mk (1 : Int) (2 : Int) (some (4616752568008179712 : Nat)) (some (4621256167635550208 : Nat))
                  (some (4616752568008179712 : Nat)) (5 : Int) []]
              [] (1 : Int)),
          Sigma.mk Ty.int (1 : Int)]
        [Ty.flt, Ty.int] fun (x : Option Nat × Int) =>
        Out.need ((True ∧ True ∧ True ∧ True ∧ True) ∧ (True ∧ True) ∧ True)
          (Out.callP (39 : Nat)
            [Sigma.mk Ty.deck
                (Deck.mk
                  [some (0 : Nat), some (4621256167635550208 : Nat), some (4625759767262920704 : Nat),
                    some (4628293042053316608 : Nat)]
                  [Plate.mk (1 : Int) (2 : Int) (some (4616752568008179712 : Nat)) (some (4621256167635550208 : Nat))
                      (some (4616752568008179712 : Nat)) (5 : Int) []]
                  [] (1 : Int)),
              Sigma.mk Ty.int (1 : Int)]
            [Ty.span, Ty.int] fun (x : Span × Int) => Out.fail))))) := by kernel_rfl

end Go.Proofs.Zn

/- No-numbers. (Own work.) -/
namespace Go.Proofs.Zn
open Go Go.VL

def nanF : Fl → Bool
  | none => true
  | some b => (FloatKind.f64.format.read b).isNaN
theorem order_self (d : Ieee.Datum) : (d.order d != some .eq) = d.isNaN := by
  cases d with
  | nan s t => rfl
  | infinity s => cases s <;> rfl
  | number s m i =>
    have : (Ieee.Datum.number s m i).order (Ieee.Datum.number s m i) = some .eq := by
      simp only [Ieee.Datum.order]
      congr 1
      exact Std.ReflCmp.compare_self
    rw [this]; rfl
theorem cmp_self (x : Fl) : (Fl.cmp x x != some .eq) = nanF x := by
  cases x with
  | none => rfl
  | some b => exact order_self (FloatKind.f64.format.read b)
theorem nan_bits (b : Nat) : (FloatKind.f64.format.read b).isNaN = decide (b / 4503599627370496 % 2048 = 2047 ∧ b % 4503599627370496 ≠ 0) := by
  have e1 : FloatKind.f64.format.signWeight = 9223372036854775808 := by decide
  have e2 : FloatKind.f64.format.binade = 4503599627370496 := by decide
  have e3 : FloatKind.f64.format.infRung = 9218868437227405312 := by decide
  simp only [Ieee.Format.read, e1, e2, e3]
  by_cases h1 : b % 9223372036854775808 < 4503599627370496
  · rw [if_pos h1, decide_eq_false (by omega)]; rfl
  · rw [if_neg h1]
    by_cases h2 : b % 9223372036854775808 < 9218868437227405312
    · rw [if_pos h2, decide_eq_false (by omega)]; rfl
    · rw [if_neg h2]
      by_cases h3 : b % 9223372036854775808 = 9218868437227405312
      · rw [if_pos h3, decide_eq_false (by omega)]; rfl
      · rw [if_neg h3, decide_eq_true (by omega)]; rfl

def cls5 (p q r s : Bool) : Int := bif p && q then 1 else bif p then 2 else bif r && s then 3 else bif r then 4 else 5
theorem c155 (n : Nat) : ∃ r : Int, Pure Try.prog 155 [⟨.u64, (n : Int)⟩] [.int] r ∧ (r == 1) = nanF (some n) := by
  refine ⟨cls5 (Int.tmod (Int.fdiv (n : Int) (2 ^ min 52 (IntKind.bits IntKind.u64))) 2048 == 2047) (Int.tmod (n : Int) 4503599627370496 != 0) (Int.tmod (Int.fdiv (n : Int) (2 ^ min 52 (IntKind.bits IntKind.u64))) 2048 == 0) (Int.tmod (n : Int) 4503599627370496 == 0), ?_, ?_⟩
  · refine ofT Try.func155 (t155 n) (by kernel_rfl) (by kernel_rfl) fun A => ?_
    generalize (Int.tmod (Int.fdiv (n : Int) (2 ^ min 52 (IntKind.bits IntKind.u64))) 2048 == 2047) = p
    generalize (Int.tmod (n : Int) 4503599627370496 != 0) = q
    generalize (Int.tmod (Int.fdiv (n : Int) (2 ^ min 52 (IntKind.bits IntKind.u64))) 2048 == 0) = r
    generalize (Int.tmod (n : Int) 4503599627370496 == 0) = s
    refine ⟨by decide, by decide, by decide, ?_⟩
    cases p <;> cases q <;> cases r <;> cases s <;> exact ⟨⟨trivial, trivial⟩, rfl⟩
  · have e1 : (2 : Int) ^ min 52 (IntKind.bits IntKind.u64) = 4503599627370496 := by decide
    have e2 : Int.tmod (Int.fdiv (n : Int) 4503599627370496) 2048 = ((n / 4503599627370496 % 2048 : Nat) : Int) := by
      rw [Int.fdiv_eq_ediv_of_nonneg _ (by decide), Int.tmod_eq_emod_of_nonneg (by omega)]; omega
    have e3 : Int.tmod (n : Int) 4503599627370496 = ((n % 4503599627370496 : Nat) : Int) := by
      rw [Int.tmod_eq_emod_of_nonneg (by omega)]; omega
    rw [e1, e2, e3]
    show _ = (FloatKind.f64.format.read n).isNaN
    rw [nan_bits]
    generalize n / 4503599627370496 % 2048 = a
    generalize n % 4503599627370496 = c
    by_cases ha : a = 2047
    · subst ha
      by_cases hc : c = 0
      · subst hc; rfl
      · have h1 : ((c : Int) != 0) = true := by simpa using hc
        have h2 : ((c : Int) == 0) = false := by simpa using hc
        rw [h1, h2, decide_eq_true ⟨rfl, hc⟩]; rfl
    · have h1 : ((a : Int) == 2047) = false := by simp; omega
      rw [h1, decide_eq_false (fun h => ha h.1)]
      generalize ((c : Int) != 0) = x
      generalize ((a : Int) == 0) = y
      generalize ((c : Int) == 0) = z
      cases x <;> cases y <;> cases z <;> rfl
theorem c145 (x : Fl) : Pure Try.prog 145 [⟨.flt, x⟩] [.bool] (nanF x) := by
  have key : ∀ b : Nat, Pure Try.prog 145 [⟨.flt, some b⟩] [.bool] (nanF (some b)) := fun b => by
    obtain ⟨r, h1, h2⟩ := c155 b
    exact ofT Try.func145 (t145 (some b)) (by kernel_rfl) (by kernel_rfl) fun _ => ⟨⟨⟨trivial, trivial⟩, trivial⟩, _, c43 b, ⟨⟨trivial, trivial⟩, trivial⟩, _, h1, ⟨trivial, trivial⟩, h2⟩
  cases x with
  | some b => exact key b
  | none => exact Pure.nan fun b hb => (key b).eq hb

theorem c154 (x : Fl) : ∃ r : Int, Pure Try.prog 154 [⟨.flt, x⟩] [.int] r ∧ (r == 1) = nanF x := by
  have key : ∀ b : Nat, ∃ r : Int, Pure Try.prog 154 [⟨.flt, some b⟩] [.int] r ∧ (r == 1) = nanF (some b) ∧ (nanF (some b) = true → r = 1) := fun b => by
    generalize hy : (some (bits BinOp.andNot IntKind.u64 (b : Int) 9223372036854775808).toNat : Fl) = y
    have c := c158 b
    rw [hy] at c
    refine ⟨bif nanF (some b) then 1 else bif Fl.cmp y (some 9218868437227405311) == some Ordering.gt then 2 else bif Fl.cmp y (some 0) == some Ordering.eq then 3 else bif Fl.cmp y (some 4503599627370496) == some Ordering.lt then 4 else 5, ?_, ?_, fun h => by rw [h]; rfl⟩
    · refine ofT Try.func154 (t154 (some b)) (by kernel_rfl) (by kernel_rfl) fun A => ⟨⟨⟨trivial, trivial⟩, trivial⟩, _, c, ?_⟩
      rw [cmp_self]
      exact sat_if (fun _ => ⟨⟨trivial, trivial⟩, rfl⟩) (fun _ => sat_if (fun _ => ⟨⟨trivial, trivial⟩, rfl⟩) (fun _ => sat_if (fun _ => ⟨⟨trivial, trivial⟩, rfl⟩) (fun _ => sat_if (fun _ => ⟨⟨trivial, trivial⟩, rfl⟩) (fun _ => ⟨⟨trivial, trivial⟩, rfl⟩))))
    · cases nanF (some b)
      · cases Fl.cmp y (some 9218868437227405311) == some Ordering.gt <;> cases Fl.cmp y (some 0) == some Ordering.eq <;> cases Fl.cmp y (some 4503599627370496) == some Ordering.lt <;> rfl
      · rfl
  cases x with
  | some b => obtain ⟨r, h1, h2, _⟩ := key b; exact ⟨r, h1, h2⟩
  | none => exact ⟨1, Pure.nan fun b hb => by
      obtain ⟨r, h1, _, h3⟩ := key b
      exact h1.eq (h3 hb), rfl⟩
theorem c142 (x : Fl) : Pure Try.prog 142 [⟨.flt, x⟩] [.bool] (nanF x) := by
  obtain ⟨r, h1, h2⟩ := c154 x
  exact ofT Try.func142 (t142 x) (by kernel_rfl) (by kernel_rfl) fun _ => ⟨⟨⟨trivial, trivial⟩, trivial⟩, _, h1, ⟨trivial, trivial⟩, h2⟩
def lanesI (l : List Fl) : Int := (l.length : Int) - 1
theorem c143 {l : List Fl} (h : l.length ≤ 1000000) : Pure Try.prog 143 [⟨.sl .flt, l⟩] [.int] (lanesI l) :=
  ofT Try.func143 (t143 l) (by kernel_rfl) (by kernel_rfl) fun _ => ⟨⟨trivial, trivial⟩, wrap_i64 (by omega) (by omega)⟩
end Go.Proofs.Zn

namespace Go.Proofs.Zn
open Go Go.VL

def L144 (l : List Fl) (x : Fl) (n i : Int) : AS := mkS 25 [(1, .d (.f x)), (5, i64 n), (11, .d (.sl .flt l)), (12, i64 l.length), (13, i64 i)] [] 0
def L125 (l : List Fl) (i : Int) : AS := mkS 35 [(0, .d (.sl .flt l)), (13, .d (.sl .flt l)), (14, i64 l.length), (15, i64 i)] [] 0
def L121 (l : List Fl) (i : Int) : AS := mkS 35 [(0, .d (.sl .flt l)), (3, i64 i)] [] 0
def L120 (l : List Fl) (a b : Fl) (out : List Int) (i : Int) : AS := mkS 72 [(0, .d (.sl .flt l)), (6, .ptr 0 0), (9, .d (.f a)), (10, .d (.f b)), (11, .own 1 .int), (12, i64 i)] [(0, .box [i64 0, i64 0]), (1, .row 3 .int out)] 2


theorem t144a (l : List Fl) (x : Fl) (n i : Int) : @Eq (Out (TyTup [.int])) (aexec Try.prog codes sigs Try.f144 (pureFin [.int]) 0 noCut 200 true (hd Try.f144 0) (L144 l x n i))
    (bif decide (i < (↑(List.length l) : Int)) then
  Out.need (((0 : Int) ≤ i ∧ i < (↑(List.length l) : Int)) ∧ True)
    (bif
        !(Fl.cmp (List.getD l (Int.toNat i) (Ty.dflt Ty.flt)) x == some Ordering.lt ||
            Fl.cmp (List.getD l (Int.toNat i) (Ty.dflt Ty.flt)) x == some Ordering.eq) then
      Out.need (True ∧ True) (Out.ret n)
    else
      Out.stop (hd Try.f144 (0 : Nat))
        (mkS (25 : Nat)
          [((1 : Nat), AV.d (D.f x)),
            ((5 : Nat), AV.d (D.v (Value.int IntKind.i64 (IntKind.wrap IntKind.i64 (n + (1 : Int)))))),
            ((11 : Nat), AV.d (D.sl Ty.flt l)),
            ((12 : Nat), AV.d (D.v (Value.int IntKind.i64 (↑(List.length l) : Int)))),
            ((13 : Nat), AV.d (D.v (Value.int IntKind.i64 (IntKind.wrap IntKind.i64 (i + (1 : Int))))))]
          [] (0 : Nat)))
  else Out.need (True ∧ True) (Out.ret n)) := by kernel_rfl

theorem t125a (l : List Fl) (i : Int) : @Eq (Out (TyTup [.int])) (aexec Try.prog codes sigs Try.f125 (pureFin [.int]) 0 noCut 200 true (hd Try.f125 0) (L125 l i))
    (bif decide (i < (↑(List.length l) : Int)) then
  Out.need (((0 : Int) ≤ i ∧ i < (↑(List.length l) : Int)) ∧ True)
    (Out.need ((True ∧ True) ∧ True)
      (Out.callP (142 : Nat) [Sigma.mk Ty.flt (List.getD l (Int.toNat i) (Ty.dflt Ty.flt))] [Ty.bool] fun (x : Bool) =>
        bif x then Out.need (True ∧ True) (Out.ret (20 : Int))
        else
          bif decide (i > (0 : Int)) then
            Out.need
              (((0 : Int) ≤ IntKind.wrap IntKind.i64 (i - (1 : Int)) ∧
                  IntKind.wrap IntKind.i64 (i - (1 : Int)) < (↑(List.length l) : Int)) ∧
                True)
              (bif
                  !Fl.cmp (List.getD l (Int.toNat (IntKind.wrap IntKind.i64 (i - (1 : Int)))) (Ty.dflt Ty.flt))
                        (List.getD l (Int.toNat i) (Ty.dflt Ty.flt)) ==
                      some Ordering.lt then
                Out.need (True ∧ True) (Out.ret (70 : Int))
              else
                Out.stop (hd Try.f125 (0 : Nat))
                  (mkS (35 : Nat)
                    [((0 : Nat), AV.d (D.sl Ty.flt l)), ((13 : Nat), AV.d (D.sl Ty.flt l)),
                      ((14 : Nat), AV.d (D.v (Value.int IntKind.i64 (↑(List.length l) : Int)))),
                      ((15 : Nat), AV.d (D.v (Value.int IntKind.i64 (IntKind.wrap IntKind.i64 (i + (1 : Int))))))]
                    [] (0 : Nat)))
          else
            Out.stop (hd Try.f125 (0 : Nat))
              (mkS (35 : Nat)
                [((0 : Nat), AV.d (D.sl Ty.flt l)), ((13 : Nat), AV.d (D.sl Ty.flt l)),
                  ((14 : Nat), AV.d (D.v (Value.int IntKind.i64 (↑(List.length l) : Int)))),
                  ((15 : Nat), AV.d (D.v (Value.int IntKind.i64 (IntKind.wrap IntKind.i64 (i + (1 : Int))))))]
                [] (0 : Nat))))
  else Out.need (True ∧ True) (Out.ret (0 : Int))) := by kernel_rfl

theorem t121a (l : List Fl) (i : Int) : @Eq (Out (TyTup [.int])) (aexec Try.prog codes sigs Try.f121 (pureFin [.int]) 0 noCut 200 true (hd Try.f121 0) (L121 l i))
    (bif decide (i < (↑(List.length l) : Int)) then
  Out.need (((0 : Int) ≤ i ∧ i < (↑(List.length l) : Int)) ∧ True)
    (Out.need ((True ∧ True) ∧ True)
      (Out.callP (145 : Nat) [Sigma.mk Ty.flt (List.getD l (Int.toNat i) (Ty.dflt Ty.flt))] [Ty.bool] fun (x : Bool) =>
        bif x then Out.need (True ∧ True) (Out.ret (20 : Int))
        else
          bif decide (i > (0 : Int)) then
            Out.need (((0 : Int) ≤ i ∧ i < (↑(List.length l) : Int)) ∧ True)
              (Out.need
                (((0 : Int) ≤ IntKind.wrap IntKind.i64 (i - (1 : Int)) ∧
                    IntKind.wrap IntKind.i64 (i - (1 : Int)) < (↑(List.length l) : Int)) ∧
                  True)
                (bif
                    Fl.cmp (List.getD l (Int.toNat i) (Ty.dflt Ty.flt))
                          (List.getD l (Int.toNat (IntKind.wrap IntKind.i64 (i - (1 : Int)))) (Ty.dflt Ty.flt)) ==
                        some Ordering.lt ||
                      Fl.cmp (List.getD l (Int.toNat i) (Ty.dflt Ty.flt))
                          (List.getD l (Int.toNat (IntKind.wrap IntKind.i64 (i - (1 : Int)))) (Ty.dflt Ty.flt)) ==
                        some Ordering.eq then
                  Out.need (True ∧ True) (Out.ret (70 : Int))
                else
                  Out.stop (hd Try.f121 (0 : Nat))
                    (mkS (35 : Nat)
                      [((0 : Nat), AV.d (D.sl Ty.flt l)),
                        ((3 : Nat), AV.d (D.v (Value.int IntKind.i64 (IntKind.wrap IntKind.i64 (i + (1 : Int))))))]
                      [] (0 : Nat))))
          else
            Out.stop (hd Try.f121 (0 : Nat))
              (mkS (35 : Nat)
                [((0 : Nat), AV.d (D.sl Ty.flt l)),
                  ((3 : Nat), AV.d (D.v (Value.int IntKind.i64 (IntKind.wrap IntKind.i64 (i + (1 : Int))))))]
                [] (0 : Nat))))
  else Out.need (True ∧ True) (Out.ret (0 : Int))) := by kernel_rfl

theorem t120a (l : List Fl) (a b : Fl) (out : List Int) (i : Int) : @Eq (Out (TyTup [.span, .int])) (aexec Try.prog codes sigs Try.f120 (pureFin [.span, .int]) 0 noCut 200 true (hd Try.f120 0) (L120 l a b out i))
    (bif decide (IntKind.wrap IntKind.i64 (i + (1 : Int)) < (↑(List.length l) : Int)) then
  Out.need ((True ∧ True) ∧ (True ∧ True) ∧ (True ∧ True) ∧ (True ∧ True) ∧ True)
    (Out.callP (146 : Nat) [Sigma.mk (Ty.sl Ty.flt) l, Sigma.mk Ty.int i, Sigma.mk Ty.flt a, Sigma.mk Ty.flt b]
      [Ty.bool] fun (x : Bool) =>
      bif x then
        Out.need ((True ∧ True) ∧ True)
          (Out.need ((List.length out + List.length [i]) * (9 : Nat) ≤ (35184372088832 : Nat) ∧ True)
            (Out.stop (hd Try.f120 (0 : Nat))
              (mkS (72 : Nat)
                [((0 : Nat), AV.d (D.sl Ty.flt l)), ((6 : Nat), AV.ptr (0 : Nat) (0 : Nat)), ((9 : Nat), AV.d (D.f a)),
                  ((10 : Nat), AV.d (D.f b)), ((11 : Nat), AV.own (1 : Nat) Ty.int),
                  ((12 : Nat), AV.d (D.v (Value.int IntKind.i64 (IntKind.wrap IntKind.i64 (i + (1 : Int))))))]
                [((0 : Nat),
                    ABlk.box
                      [AV.d (D.v (Value.int IntKind.i64 (0 : Int))), AV.d (D.v (Value.int IntKind.i64 (0 : Int)))]),
                  ((1 : Nat), ABlk.row (3 : Nat) Ty.int (out ++ [i]))]
                (2 : Nat))))
      else
        Out.stop (hd Try.f120 (0 : Nat))
          (mkS (72 : Nat)
            [((0 : Nat), AV.d (D.sl Ty.flt l)), ((6 : Nat), AV.ptr (0 : Nat) (0 : Nat)), ((9 : Nat), AV.d (D.f a)),
              ((10 : Nat), AV.d (D.f b)), ((11 : Nat), AV.own (1 : Nat) Ty.int),
              ((12 : Nat), AV.d (D.v (Value.int IntKind.i64 (IntKind.wrap IntKind.i64 (i + (1 : Int))))))]
            [((0 : Nat),
                ABlk.box [AV.d (D.v (Value.int IntKind.i64 (0 : Int))), AV.d (D.v (Value.int IntKind.i64 (0 : Int)))]),
              ((1 : Nat), ABlk.row (3 : TypeId) Ty.int out)]
            (2 : Nat)))
  else
  bif (↑(List.length out) : Int) == (0 : Int) then
    Out.need ((True ∧ True ∧ True) ∧ True ∧ True) (Out.ret (Span.mk (0 : Int) (0 : Int), (71 : Int)))
  else
    Out.need ((0 : Int) ≤ (0 : Int) ∧ (0 : Int) < (↑(List.length out) : Int))
      (Out.need ((0 : Nat) < List.length out)
        (Out.need
          ((0 : Int) ≤ IntKind.wrap IntKind.i64 ((↑(List.length out) : Int) - (1 : Int)) ∧
            IntKind.wrap IntKind.i64 ((↑(List.length out) : Int) - (1 : Int)) < (↑(List.length out) : Int))
          (Out.need (Int.toNat (IntKind.wrap IntKind.i64 ((↑(List.length out) : Int) - (1 : Int))) < List.length out)
            (Out.need ((True ∧ True ∧ True) ∧ True ∧ True)
              (Out.ret
                (Span.mk (List.getD out (0 : Nat) (Ty.dflt Ty.int))
                    (List.getD out (Int.toNat (IntKind.wrap IntKind.i64 ((↑(List.length out) : Int) - (1 : Int))))
                      (Ty.dflt Ty.int)),
                  (0 : Int)))))))) := by kernel_rfl

end Go.Proofs.Zn

/- How floats stand to each other. (Own work.) -/
set_option exponentiation.threshold 4096
namespace Go.Proofs.Zn
open Go Go.VL

def big : Nat := 2 ^ 2999
theorem big_lb : 2 ^ 53 * 2 ^ 2046 ≤ big := by
  rw [← Nat.pow_add]; exact Nat.pow_le_pow_right (by decide) (by decide)
attribute [irreducible] big
def least : Int := FloatKind.f64.format.leastPlace
def keyD : Ieee.Datum → Int
  | .number s m i => Ieee.signed s m (i - least).toNat
  | .infinity s => bif s then -(big : Int) else big
  | .nan _ _ => 0
/-- A datum as a word reads. -/
def Tame : Ieee.Datum → Prop
  | .number _ m i => m < 2 ^ 53 ∧ least ≤ i ∧ i ≤ least + 2046
  | _ => True
theorem tame_read (b : Nat) : Tame (FloatKind.f64.format.read b) := by
  have e1 : FloatKind.f64.format.signWeight = 9223372036854775808 := by decide
  have e2 : FloatKind.f64.format.binade = 4503599627370496 := by decide
  have e3 : FloatKind.f64.format.infRung = 9218868437227405312 := by decide
  simp only [Ieee.Format.read, e1, e2, e3]
  by_cases h1 : b % 9223372036854775808 < 4503599627370496
  · rw [if_pos h1]; exact ⟨by omega, Int.le_refl _, (by show least ≤ least + 2046; omega)⟩
  · rw [if_neg h1]
    by_cases h2 : b % 9223372036854775808 < 9218868437227405312
    · rw [if_pos h2]
      refine ⟨by omega, ?_, ?_⟩
      · show least ≤ least + _; omega
      · show least + _ ≤ least + 2046; omega
    · rw [if_neg h2]
      by_cases h3 : b % 9223372036854775808 = 9218868437227405312
      · rw [if_pos h3]; trivial
      · rw [if_neg h3]; trivial
theorem signed_eq (s : Bool) (m k : Nat) : Ieee.signed s m k = (bif s then -1 else 1) * ((m * 2 ^ k : Nat) : Int) := by
  simp only [Ieee.signed, Nat.shiftLeft_eq]
  cases s <;> simp
theorem cmp_mul {a b p : Int} (hp : 0 < p) : compare (a * p) (b * p) = compare a b := by
  simp only [compare, compareOfLessAndEq]
  have h1 : a * p < b * p ↔ a < b := ⟨fun h => Int.lt_of_mul_lt_mul_right h (Int.le_of_lt hp), fun h => Int.mul_lt_mul_of_pos_right h hp⟩
  have h2 : a * p = b * p ↔ a = b := ⟨fun h => Int.eq_of_mul_eq_mul_right (Int.ne_of_gt hp) h, fun h => by rw [h]⟩
  simp only [h1, h2]
theorem signed_shift (s : Bool) (m k d : Nat) : Ieee.signed s m (k + d) = Ieee.signed s m k * 2 ^ d := by
  rw [signed_eq, signed_eq, Int.mul_assoc]
  congr 1
  rw [Nat.pow_add, ← Nat.mul_assoc]
  simp
theorem key_bound {s : Bool} {m : Nat} {i : Int} (h : Tame (.number s m i)) : -(big : Int) < keyD (.number s m i) ∧ keyD (.number s m i) < (big : Int) := by
  obtain ⟨h1, h2, h3⟩ := h
  have hk : (i - least).toNat ≤ 2046 := by omega
  show -(big : Int) < Ieee.signed s m (i - least).toNat ∧ Ieee.signed s m (i - least).toNat < (big : Int)
  generalize (i - least).toNat = k at *
  have hb : m * 2 ^ k < big := by
    have g1 : 2 ^ k ≤ 2 ^ 2046 := Nat.pow_le_pow_right (by decide) hk
    have g2 : m * 2 ^ k ≤ m * 2 ^ 2046 := Nat.mul_le_mul_left _ g1
    have g3 : m * 2 ^ 2046 < 2 ^ 53 * 2 ^ 2046 := Nat.mul_lt_mul_of_pos_right h1 (Nat.pow_pos (by decide))
    exact Nat.lt_of_le_of_lt g2 (Nat.lt_of_lt_of_le g3 big_lb)
  rw [signed_eq]
  generalize m * 2 ^ k = z at *
  cases s
  · rw [cond_false]; omega
  · rw [cond_true]; omega
theorem order_key {d e : Ieee.Datum} (hd : Tame d) (he : Tame e) (h1 : d.isNaN = false) (h2 : e.isNaN = false) : d.order e = some (compare (keyD d) (keyD e)) := by
  have lt : ∀ {a b : Int}, a < b → compare a b = .lt := fun {a b} h => by simp only [compare, compareOfLessAndEq]; rw [if_pos h]
  have gt : ∀ {a b : Int}, b < a → compare a b = .gt := fun {a b} h => by simp only [compare, compareOfLessAndEq]; rw [if_neg (by omega), if_neg (by omega)]
  have eq : ∀ {a : Int}, compare a a = .eq := fun {a} => Std.ReflCmp.compare_self
  have hbig : (0 : Int) < (big : Int) := by
    have := big_lb
    have h0 : 0 < 2 ^ 53 * 2 ^ 2046 := Nat.mul_pos (Nat.pow_pos (by decide)) (Nat.pow_pos (by decide))
    exact Int.ofNat_lt.2 (Nat.lt_of_lt_of_le h0 this)
  cases d with
  | nan s t => cases h1
  | infinity s =>
    cases e with
    | nan s t => cases h2
    | infinity t =>
      show some _ = some (compare (bif s then -(big : Int) else big) (bif t then -(big : Int) else big))
      cases s <;> cases t
      · rw [cond_false, eq]; rfl
      · rw [cond_false, cond_true, gt (by omega)]; rfl
      · rw [cond_false, cond_true, lt (by omega)]; rfl
      · rw [cond_true, eq]; rfl
    | number t n j =>
      obtain ⟨k1, k2⟩ := key_bound he
      show some _ = some (compare (bif s then -(big : Int) else big) (keyD (.number t n j)))
      cases s
      · rw [cond_false, gt k2]; rfl
      · rw [cond_true, lt k1]; rfl
  | number s m i =>
    cases e with
    | nan s t => cases h2
    | infinity t =>
      obtain ⟨k1, k2⟩ := key_bound hd
      show some _ = some (compare (keyD (.number s m i)) (bif t then -(big : Int) else big))
      cases t
      · rw [cond_false, lt k2]; rfl
      · rw [cond_true, gt k1]; rfl
    | number t n j =>
      obtain ⟨_, a2, _⟩ := hd
      obtain ⟨_, b2, _⟩ := he
      show some (compare (Ieee.signed s m (i - min i j).toNat) (Ieee.signed t n (j - min i j).toNat)) = some (compare (Ieee.signed s m (i - least).toNat) (Ieee.signed t n (j - least).toNat))
      have e1 : (i - least).toNat = (i - min i j).toNat + (min i j - least).toNat := by omega
      have e2 : (j - least).toNat = (j - min i j).toNat + (min i j - least).toNat := by omega
      rw [e1, e2, signed_shift, signed_shift, cmp_mul (Int.pow_pos (by decide))]

def keyF : Fl → Int
  | none => 0
  | some b => keyD (FloatKind.f64.format.read b)
theorem cmp_key {x y : Fl} (hx : nanF x = false) (hy : nanF y = false) : Fl.cmp x y = some (compare (keyF x) (keyF y)) := by
  cases x with
  | none => cases hx
  | some a => cases y with
    | none => cases hy
    | some b => exact order_key (tame_read a) (tame_read b) hx hy
end Go.Proofs.Zn

/- Borders. (Own work.) -/
namespace Go.Proofs.Zn
open Go Go.VL

def ltF (x y : Fl) : Bool := Fl.cmp x y == some Ordering.lt
def leF (x y : Fl) : Bool := Fl.cmp x y == some Ordering.lt || Fl.cmp x y == some Ordering.eq
theorem ltF_key {x y : Fl} (hx : nanF x = false) (hy : nanF y = false) : ltF x y = decide (keyF x < keyF y) := by
  rw [ltF, cmp_key hx hy]
  simp only [compare, compareOfLessAndEq]
  by_cases h : keyF x < keyF y
  · rw [if_pos h, decide_eq_true h]; rfl
  · rw [if_neg h, decide_eq_false h]
    by_cases h2 : keyF x = keyF y
    · rw [if_pos h2]; rfl
    · rw [if_neg h2]; rfl
theorem leF_key {x y : Fl} (hx : nanF x = false) (hy : nanF y = false) : leF x y = decide (keyF x ≤ keyF y) := by
  rw [leF, cmp_key hx hy]
  simp only [compare, compareOfLessAndEq]
  by_cases h : keyF x < keyF y
  · rw [if_pos h, decide_eq_true (by omega)]; rfl
  · rw [if_neg h]
    by_cases h2 : keyF x = keyF y
    · rw [if_pos h2, decide_eq_true (by omega)]; rfl
    · rw [if_neg h2, decide_eq_false (by omega)]; rfl

/-! ### what is wrong with borders -/
def chkGo : Option Fl → List Fl → Int
  | _, [] => 0
  | p, x :: r => bif nanF x then 20 else match p with
    | none => chkGo (some x) r
    | some q => bif ltF q x then chkGo (some x) r else 70
def chkN (p : Option Fl) (x : Fl) (k : Int) : Int := match p with
  | none => k
  | some q => bif ltF q x then k else 70
theorem chk_cons (p : Option Fl) (x : Fl) (r : List Fl) : chkGo p (x :: r) = bif nanF x then 20 else chkN p x (chkGo (some x) r) := by
  cases p <;> rfl
def prevF (l : List Fl) (i : Nat) : Option Fl := match i with | 0 => none | i + 1 => l[i]?
def checkS (l : List Fl) : Int := bif decide ((l.length : Int) < 2) then 1 else bif decide ((l.length : Int) > 25) then 2 else chkGo none l

theorem loop125 {l : List Fl} (hl : l.length ≤ 25) {r : Int} {A : List Item → AS → Prop} (hA : Closed Try.prog codes sigs Try.f125 (pureFin [.int]) (fun y => y = r) 0 A)
    (i : Nat) (hi : i ≤ l.length) (h : chkGo (prevF l i) (l.drop i) = r) : A (hd Try.f125 0) (L125 l i) := by
  refine hA.go (t125a l i) (sat_bif (fun h1 => ?_) (fun h1 => ?_))
  · have h1 := of_decide_eq_true h1
    have hil : i < l.length := by omega
    rw [getD_int hil]
    rw [List.drop_eq_getElem_cons hil, chk_cons] at h
    refine ⟨⟨⟨by omega, by omega⟩, trivial⟩, ⟨⟨trivial, trivial⟩, trivial⟩, _, c142 _, sat_bif (fun h2 => ⟨⟨trivial, trivial⟩, ?_⟩) (fun h2 => ?_)⟩
    · rw [h2] at h; exact h
    · rw [h2, cond_false] at h
      rw [wrap_succ (by omega)]
      cases i with
      | zero =>
        refine sat_bif (fun h3 => by cases h3) (fun _ => ?_)
        exact loop125 hl hA 1 (by omega) (by rw [show prevF l 1 = some l[0] from List.getElem?_eq_getElem hil]; exact h)
      | succ j =>
        have hj : j < l.length := by omega
        have ep : prevF l (j + 1) = some l[j] := List.getElem?_eq_getElem hj
        have en : prevF l (j + 1 + 1) = some l[j + 1] := List.getElem?_eq_getElem hil
        rw [ep] at h
        have ew : IntKind.i64.wrap (((j + 1 : Nat) : Int) - 1) = (j : Int) := by rw [wrap_i64 (by omega) (by omega)]; omega
        refine sat_bif (fun _ => ?_) (fun h3 => absurd (of_decide_eq_false h3) (by omega))
        rw [ew, getD_int hj]
        refine ⟨⟨⟨by omega, by omega⟩, trivial⟩, sat_bif (fun h4 => ⟨⟨trivial, trivial⟩, ?_⟩) (fun h4 => ?_)⟩
        · have h4 : ltF l[j] l[j + 1] = false := nt h4
          have h : (bif ltF l[j] l[j + 1] then chkGo (some l[j + 1]) (l.drop (j + 1 + 1)) else 70) = r := h
          rw [h4] at h; exact h
        · have h4 : ltF l[j] l[j + 1] = true := nf h4
          have h : (bif ltF l[j] l[j + 1] then chkGo (some l[j + 1]) (l.drop (j + 1 + 1)) else 70) = r := h
          rw [h4, cond_true] at h
          exact loop125 hl hA (j + 1 + 1) (by omega) (by rw [en]; exact h)
  · have h1 := of_decide_eq_false h1
    refine ⟨⟨trivial, trivial⟩, ?_⟩
    rw [List.drop_eq_nil_of_le (by omega)] at h
    generalize prevF l i = p at h
    cases p <;> exact h
termination_by l.length - i
theorem c125 (l : List Fl) : Pure Try.prog 125 [⟨.sl .flt, l⟩] [.int] (checkS l) :=
  Pure.of_closed (C := codes) (S := sigs) mixed Try.func125 (by kernel_rfl) (Nat.le_of_ble_eq_true (by kernel_rfl)) fun A hA => hA.go (t125 l) (by
    refine sat_bif (fun h => ⟨⟨trivial, trivial⟩, ?_⟩) (fun h => sat_bif (fun h2 => ⟨⟨trivial, trivial⟩, ?_⟩) (fun h2 => ?_))
    · rw [checkS, h]; rfl
    · rw [checkS, h, h2]; rfl
    · have := of_decide_eq_false h2
      exact loop125 (by omega) hA 0 (by omega) (by rw [checkS, h, h2]; rfl))

theorem loop121 {l : List Fl} (hl : l.length ≤ 25) {r : Int} {A : List Item → AS → Prop} (hA : Closed Try.prog codes sigs Try.f121 (pureFin [.int]) (fun y => y = r) 0 A)
    (i : Nat) (hi : i ≤ l.length) (hp : ∀ q, prevF l i = some q → nanF q = false) (h : chkGo (prevF l i) (l.drop i) = r) : A (hd Try.f121 0) (L121 l i) := by
  refine hA.go (t121a l i) (sat_bif (fun h1 => ?_) (fun h1 => ?_))
  · have h1 := of_decide_eq_true h1
    have hil : i < l.length := by omega
    rw [getD_int hil]
    rw [List.drop_eq_getElem_cons hil, chk_cons] at h
    refine ⟨⟨⟨by omega, by omega⟩, trivial⟩, ⟨⟨trivial, trivial⟩, trivial⟩, _, c145 _, sat_bif (fun h2 => ⟨⟨trivial, trivial⟩, ?_⟩) (fun h2 => ?_)⟩
    · rw [h2] at h; exact h
    · rw [h2, cond_false] at h
      rw [wrap_succ (by omega)]
      cases i with
      | zero =>
        have e0 : prevF l 1 = some l[0] := List.getElem?_eq_getElem hil
        refine sat_bif (fun h3 => by cases h3) (fun _ => ?_)
        exact loop121 hl hA 1 (by omega) (fun q hq => by rw [e0] at hq; cases hq; exact h2) (by rw [e0]; exact h)
      | succ j =>
        have hj : j < l.length := by omega
        have ep : prevF l (j + 1) = some l[j] := List.getElem?_eq_getElem hj
        have en : prevF l (j + 1 + 1) = some l[j + 1] := List.getElem?_eq_getElem hil
        have hq := hp _ ep
        rw [ep] at h
        have ew : IntKind.i64.wrap (((j + 1 : Nat) : Int) - 1) = (j : Int) := by rw [wrap_i64 (by omega) (by omega)]; omega
        refine sat_bif (fun _ => ?_) (fun h3 => absurd (of_decide_eq_false h3) (by omega))
        rw [ew, getD_int hj]
        have h : (bif ltF l[j] l[j + 1] then chkGo (some l[j + 1]) (l.drop (j + 1 + 1)) else 70) = r := h
        rw [ltF_key hq h2] at h
        refine ⟨⟨⟨by omega, by omega⟩, trivial⟩, ⟨⟨by omega, by omega⟩, trivial⟩, sat_bif (fun h4 => ⟨⟨trivial, trivial⟩, ?_⟩) (fun h4 => ?_)⟩
        · have h4 : leF l[j + 1] l[j] = true := h4
          rw [leF_key h2 hq] at h4
          have h4 := of_decide_eq_true h4
          rw [decide_eq_false (by omega)] at h; exact h
        · have h4 : leF l[j + 1] l[j] = false := h4
          rw [leF_key h2 hq] at h4
          have h4 := of_decide_eq_false h4
          rw [decide_eq_true (by omega), cond_true] at h
          exact loop121 hl hA (j + 1 + 1) (by omega) (fun q hq => by rw [en] at hq; cases hq; exact h2) (by rw [en]; exact h)
  · have h1 := of_decide_eq_false h1
    refine ⟨⟨trivial, trivial⟩, ?_⟩
    rw [List.drop_eq_nil_of_le (by omega)] at h
    generalize prevF l i = p at h
    cases p <;> exact h
termination_by l.length - i
theorem c121 (l : List Fl) : Pure Try.prog 121 [⟨.sl .flt, l⟩] [.int] (checkS l) :=
  Pure.of_closed (C := codes) (S := sigs) mixed Try.func121 (by kernel_rfl) (Nat.le_of_ble_eq_true (by kernel_rfl)) fun A hA => hA.go (t121 l) (by
    refine sat_bif (fun h => ⟨⟨trivial, trivial⟩, ?_⟩) (fun h => sat_bif (fun h2 => ⟨⟨trivial, trivial⟩, ?_⟩) (fun h2 => ?_))
    · rw [checkS, h]; rfl
    · rw [checkS, h, h2]; rfl
    · have := of_decide_eq_false h2
      exact loop121 (by omega) hA 0 (by omega) (fun q hq => by cases hq) (by rw [checkS, h, h2]; rfl))
end Go.Proofs.Zn

/- Lanes that are reached. (Own work.) -/
namespace Go.Proofs.Zn
open Go Go.VL

def cntF (m : List Fl) (x : Fl) : Nat := (m.takeWhile fun b => leF b x).length
def behindS (l : List Fl) (x : Fl) : Nat := cntF (l.take (l.length - 1)) x
theorem cntF_le (m : List Fl) (x : Fl) : cntF m x ≤ m.length := (List.takeWhile_sublist _).length_le

theorem loop144 {m : List Fl} {x : Fl} (hl : m.length ≤ 1000) {r : Int} {A : List Item → AS → Prop} (hA : Closed Try.prog codes sigs Try.f144 (pureFin [.int]) (fun y => y = r) 0 A)
    (i : Nat) (hi : i ≤ m.length) (h : ((i + cntF (m.drop i) x : Nat) : Int) = r) : A (hd Try.f144 0) (L144 m x i i) := by
  refine hA.go (t144a m x i i) (sat_bif (fun h1 => ?_) (fun h1 => ?_))
  · have h1 := of_decide_eq_true h1
    have hil : i < m.length := by omega
    rw [getD_int hil]
    rw [List.drop_eq_getElem_cons hil, cntF, List.takeWhile_cons] at h
    refine ⟨⟨⟨by omega, by omega⟩, trivial⟩, sat_bif (fun h2 => ⟨⟨trivial, trivial⟩, ?_⟩) (fun h2 => ?_)⟩
    · have h2 : leF m[i] x = false := nt h2
      rw [h2] at h
      exact h
    · have h2 : leF m[i] x = true := nf h2
      rw [h2] at h
      rw [wrap_succ (by omega)]
      exact loop144 hl hA (i + 1) (by omega) (by rw [← h]; simp [cntF]; omega)
  · have h1 := of_decide_eq_false h1
    refine ⟨⟨trivial, trivial⟩, ?_⟩
    rw [List.drop_eq_nil_of_le (by omega)] at h
    exact h
termination_by m.length - i
theorem c144 {l : List Fl} {x : Fl} (h1 : 1 ≤ l.length) (h2 : l.length ≤ 1000) : Pure Try.prog 144 [⟨.sl .flt, l⟩, ⟨.flt, x⟩] [.int] ((behindS l x : Nat) : Int) :=
  Pure.of_closed (C := codes) (S := sigs) mixed Try.func144 (by kernel_rfl) (Nat.le_of_ble_eq_true (by kernel_rfl)) fun A hA => hA.go (t144 l x) (by
    refine ⟨⟨⟨trivial, trivial⟩, trivial⟩, _, c143 (by omega), ⟨⟨by omega, by unfold lanesI; omega, by unfold lanesI; omega⟩, trivial⟩, ?_⟩
    have e : (List.take (lanesI l).toNat l).drop 0 = l.take (l.length - 1) := by
      rw [List.drop_zero]; congr 1; unfold lanesI; omega
    rw [e]
    exact loop144 (x := x) (by rw [List.length_take]; omega) hA 0 (by omega) (by rw [List.drop_zero, Nat.zero_add]; rfl))

def gtF (x y : Fl) : Bool := Fl.cmp x y == some Ordering.gt
theorem gtF_key {x y : Fl} (hx : nanF x = false) (hy : nanF y = false) : gtF x y = decide (keyF y < keyF x) := by
  rw [gtF, cmp_key hx hy]
  simp only [compare, compareOfLessAndEq]
  by_cases h : keyF x < keyF y
  · rw [if_pos h, decide_eq_false (by omega)]; rfl
  · rw [if_neg h]
    by_cases h2 : keyF x = keyF y
    · rw [if_pos h2, decide_eq_false (by omega)]; rfl
    · rw [if_neg h2, decide_eq_true (by omega)]; rfl
abbrev no (e : Int) : Span × Int := (⟨0, 0⟩, e)
abbrev loF (x r : Fl) : Fl := Fl.arith BinOp.sub x r
abbrev hiF (x r : Fl) : Fl := Fl.arith BinOp.add x r
def inS (l : List Fl) (a b : Fl) : Span × Int :=
  bif ltF b (l.getD 0 (some 0)) then no 71 else bif gtF a (l.getD (l.length - 1) (some 0)) then no 71 else (⟨((max (behindS l a) 1 : Nat) : Int) - 1, ((behindS l b : Nat) : Int) - 1⟩, 0)
def reachS (l : List Fl) (x r : Fl) : Span × Int :=
  bif checkS l != 0 then no (checkS l) else bif nanF x then no 20 else bif nanF r then no 20 else bif ltF r (some 0) then no 22 else bif nanF (loF x r) then no 20 else bif nanF (hiF x r) then no 20 else inS l (loF x r) (hiF x r)
theorem check_len {l : List Fl} (h : checkS l = 0) : 2 ≤ l.length ∧ l.length ≤ 25 := by
  unfold checkS at h
  by_cases h1 : (l.length : Int) < 2
  · rw [decide_eq_true h1, cond_true] at h; cases h
  · rw [decide_eq_false h1, cond_false] at h
    by_cases h2 : (l.length : Int) > 25
    · rw [decide_eq_true h2, cond_true] at h; cases h
    · omega
theorem c119 (l : List Fl) (x r : Fl) : Pure Try.prog 119 [⟨.sl .flt, l⟩, ⟨.flt, x⟩, ⟨.flt, r⟩] [.span, .int] (reachS l x r) :=
  ofT Try.func119 (t119 l x r) (by kernel_rfl) (by kernel_rfl) fun A => by
    have N1 : (True ∧ True) ∧ True := ⟨⟨trivial, trivial⟩, trivial⟩
    have N2 : (True ∧ True) ∧ (True ∧ True) ∧ True := ⟨⟨trivial, trivial⟩, ⟨trivial, trivial⟩, trivial⟩
    have N3 : (True ∧ True ∧ True) ∧ True ∧ True := ⟨⟨trivial, trivial, trivial⟩, trivial, trivial⟩
    refine ⟨N1, _, c125 l, sat_if (fun _ => ⟨N3, rfl⟩) (fun hc => ⟨N1, _, c142 x, sat_if (fun _ => ⟨N3, rfl⟩) (fun _ => ⟨N1, _, c142 r, sat_if (fun _ => ⟨N3, rfl⟩) (fun _ => sat_if (fun _ => ⟨N3, rfl⟩) (fun _ => ⟨N1, _, c142 _, sat_if (fun _ => ⟨N3, rfl⟩) (fun _ => ⟨N1, _, c142 _, sat_if (fun _ => ⟨N3, rfl⟩) (fun _ => ?_)⟩)⟩))⟩)⟩)⟩
    have hc : checkS l = 0 := by simpa using hc
    obtain ⟨l2, l25⟩ := check_len hc
    refine ⟨⟨⟨by omega, by omega⟩, trivial⟩, sat_if (fun _ => ⟨N3, rfl⟩) (fun _ => ⟨N1, _, c143 (by omega), ⟨⟨by unfold lanesI; omega, by unfold lanesI; omega⟩, trivial⟩, ?_⟩)⟩
    have e : (lanesI l).toNat = l.length - 1 := by unfold lanesI; omega
    rw [e]
    refine sat_if (fun _ => ⟨N3, rfl⟩) (fun _ => ⟨N2, _, c144 (by omega) (by omega), N2, _, c144 (by omega) (by omega), N3, ?_⟩)
    have b1 := cntF_le (l.take (l.length - 1)) (loF x r)
    have b2 := cntF_le (l.take (l.length - 1)) (hiF x r)
    rw [List.length_take] at b1 b2
    have e1 : IntKind.i64.wrap ((if (1 : Int) > ((behindS l (loF x r) : Nat) : Int) then 1 else ((behindS l (loF x r) : Nat) : Int)) - 1) = ((max (behindS l (loF x r)) 1 : Nat) : Int) - 1 := by
      unfold behindS
      split
      · rw [wrap_i64 (by omega) (by omega)]; omega
      · rw [wrap_i64 (by omega) (by omega)]; omega
    have e2 : IntKind.i64.wrap (((behindS l (hiF x r) : Nat) : Int) - 1) = ((behindS l (hiF x r) : Nat) : Int) - 1 := by
      unfold behindS
      exact wrap_i64 (by omega) (by omega)
    show ((⟨IntKind.i64.wrap ((if (1 : Int) > ((behindS l (loF x r) : Nat) : Int) then 1 else ((behindS l (loF x r) : Nat) : Int)) - 1), IntKind.i64.wrap (((behindS l (hiF x r) : Nat) : Int) - 1)⟩ : Span), (0 : Int)) = _
    rw [e1, e2]
end Go.Proofs.Zn

/- Lanes that are touched: the reference. (Own work.) -/
namespace Go.Proofs.Zn
open Go Go.VL

def geF (x y : Fl) : Bool := Fl.cmp x y == some Ordering.gt || Fl.cmp x y == some Ordering.eq
def touchS (l : List Fl) (k : Nat) (a b : Fl) : Bool :=
  bif (k + 2 == l.length) then (bif leF a (l.getD (k + 1) (some 0)) then geF b (l.getD k (some 0)) else false) else (bif ltF a (l.getD (k + 1) (some 0)) then geF b (l.getD k (some 0)) else false)
theorem c146 {l : List Fl} {k : Nat} {a b : Fl} (hk : k + 1 < l.length) (hl : l.length ≤ 25) : Pure Try.prog 146 [⟨.sl .flt, l⟩, ⟨.int, (k : Int)⟩, ⟨.flt, a⟩, ⟨.flt, b⟩] [.bool] (touchS l k a b) :=
  ofT Try.func146 (t146 l k a b) (by kernel_rfl) (by kernel_rfl) fun A => by
    have w1 : IntKind.i64.wrap ((k : Int) + 1) = ((k + 1 : Nat) : Int) := wrap_succ (by omega)
    have w2 : IntKind.i64.wrap ((k : Int) + 2) = ((k + 2 : Nat) : Int) := by rw [wrap_i64 (by omega) (by omega)]; rfl
    have e : (((k + 2 : Nat) : Int) == (l.length : Int)) = (k + 2 == l.length) := by
      by_cases h : k + 2 = l.length
      · rw [h]; simp
      · have h1 : (k + 2 == l.length) = false := by simpa using h
        rw [h1]; simp; omega
    rw [w1, w2, e, Int.toNat_natCast, Int.toNat_natCast]
    have I1 : ((0 : Int) ≤ ((k + 1 : Nat) : Int) ∧ ((k + 1 : Nat) : Int) < (l.length : Int)) ∧ True := ⟨⟨by omega, by omega⟩, trivial⟩
    have I0 : ((0 : Int) ≤ (k : Int) ∧ (k : Int) < (l.length : Int)) ∧ True := ⟨⟨by omega, by omega⟩, trivial⟩
    exact sat_if (fun _ => ⟨I1, sat_if (fun _ => ⟨I0, ⟨trivial, trivial⟩, rfl⟩) (fun _ => ⟨⟨trivial, trivial⟩, rfl⟩)⟩) (fun _ => ⟨I1, sat_if (fun _ => ⟨I0, ⟨trivial, trivial⟩, rfl⟩) (fun _ => ⟨⟨trivial, trivial⟩, rfl⟩)⟩)

/-- The lanes below k that are touched. -/
def tchS (l : List Fl) (a b : Fl) : Nat → List Int
  | 0 => []
  | k + 1 => bif touchS l k a b then tchS l a b k ++ [(k : Int)] else tchS l a b k
theorem tch_len (l : List Fl) (a b : Fl) : ∀ k, (tchS l a b k).length ≤ k
  | 0 => Nat.le_refl _
  | k + 1 => by
    have := tch_len l a b k
    rw [tchS]
    cases touchS l k a b
    · rw [cond_false]; omega
    · rw [cond_true, List.length_append]; simp; omega
def outS (out : List Int) : Span × Int := bif (out.length : Int) == 0 then no 71 else (⟨out.getD 0 0, out.getD (out.length - 1) 0⟩, 0)
theorem loop120 {l : List Fl} (h2 : 2 ≤ l.length) (hl : l.length ≤ 25) (a b : Fl) {r : Span × Int} (hr : r = outS (tchS l a b (l.length - 1))) {A : List Item → AS → Prop} (hA : Closed Try.prog codes sigs Try.f120 (pureFin [.span, .int]) (fun y => y = r) 0 A)
    (i : Nat) (hi : i ≤ l.length - 1) : A (hd Try.f120 0) (L120 l a b (tchS l a b i) i) := by
  refine hA.go (t120a l a b _ i) ?_
  rw [wrap_succ (by omega)]
  have ht := tch_len l a b i
  refine sat_bif (fun h1 => ?_) (fun h1 => ?_)
  · have h1 := of_decide_eq_true h1
    refine ⟨⟨⟨trivial, trivial⟩, ⟨trivial, trivial⟩, ⟨trivial, trivial⟩, ⟨trivial, trivial⟩, trivial⟩, _, c146 (by omega) hl, sat_bif (fun h3 => ⟨⟨⟨trivial, trivial⟩, trivial⟩, ⟨by simp only [List.length_cons, List.length_nil]; omega, trivial⟩, ?_⟩) (fun h3 => ?_)⟩
    · have := loop120 h2 hl a b hr hA (i + 1) (by omega)
      rw [tchS, h3] at this
      exact this
    · have := loop120 h2 hl a b hr hA (i + 1) (by omega)
      rw [tchS, h3] at this
      exact this
  · have h1 := of_decide_eq_false h1
    have e : i = l.length - 1 := by omega
    rw [← e] at hr
    generalize tchS l a b i = out at *
    have N3 : (True ∧ True ∧ True) ∧ True ∧ True := ⟨⟨trivial, trivial, trivial⟩, trivial, trivial⟩
    subst hr
    refine sat_bif (fun h => ⟨N3, ?_⟩) (fun h => ?_)
    · show no 71 = _
      rw [outS, h]; rfl
    · have hpos : 0 < out.length := by
        rcases Nat.eq_zero_or_pos out.length with h0 | h0
        · rw [h0] at h; cases h
        · exact h0
      have ew : IntKind.i64.wrap ((out.length : Int) - 1) = ((out.length - 1 : Nat) : Int) := by rw [wrap_i64 (by omega) (by omega)]; omega
      rw [ew, Int.toNat_natCast]
      refine ⟨⟨by omega, by omega⟩, hpos, ⟨by omega, by omega⟩, by omega, N3, ?_⟩
      show ((⟨out.getD 0 0, out.getD (out.length - 1) 0⟩ : Span), (0 : Int)) = _
      rw [outS, h]; rfl
termination_by l.length - i

def refReachS (l : List Fl) (x r : Fl) : Span × Int :=
  bif checkS l != 0 then no (checkS l) else bif nanF x then no 20 else bif nanF r then no 20 else bif ltF r (some 0) then no 22 else bif nanF (loF x r) then no 20 else bif nanF (hiF x r) then no 20 else outS (tchS l (loF x r) (hiF x r) (l.length - 1))
theorem c120 (l : List Fl) (x r : Fl) : Pure Try.prog 120 [⟨.sl .flt, l⟩, ⟨.flt, x⟩, ⟨.flt, r⟩] [.span, .int] (refReachS l x r) :=
  Pure.of_closed (C := codes) (S := sigs) mixed Try.func120 (by kernel_rfl) (Nat.le_of_ble_eq_true (by kernel_rfl)) fun A hA => hA.go (t120 l x r) (by
    have N1 : (True ∧ True) ∧ True := ⟨⟨trivial, trivial⟩, trivial⟩
    have N3 : (True ∧ True ∧ True) ∧ True ∧ True := ⟨⟨trivial, trivial, trivial⟩, trivial, trivial⟩
    refine ⟨N1, _, c121 l, sat_bif (fun h1 => ⟨N3, ?_⟩) (fun h1 => ⟨N1, _, c145 x, sat_bif (fun h2 => ⟨N3, ?_⟩) (fun h2 => ⟨N1, _, c145 r, sat_bif (fun h3 => ⟨N3, ?_⟩) (fun h3 => sat_bif (fun h4 => ⟨N3, ?_⟩) (fun h4 => ⟨N1, _, c145 _, sat_bif (fun h5 => ⟨N3, ?_⟩) (fun h5 => ⟨N1, _, c145 _, sat_bif (fun h6 => ⟨N3, ?_⟩) (fun h6 => ?_)⟩)⟩))⟩)⟩)⟩
    · rw [refReachS, h1]; rfl
    · rw [refReachS, h1, h2]; rfl
    · rw [refReachS, h1, h2, h3]; rfl
    · have h4 : ltF r (some 0) = true := h4
      rw [refReachS, h1, h2, h3, h4]; rfl
    · have h4 : ltF r (some 0) = false := h4
      rw [refReachS, h1, h2, h3, h4, h5]; rfl
    · have h4 : ltF r (some 0) = false := h4
      rw [refReachS, h1, h2, h3, h4, h5, h6]; rfl
    · have h4 : ltF r (some 0) = false := h4
      have hc : checkS l = 0 := by simpa using h1
      obtain ⟨l2, l25⟩ := check_len hc
      refine hA.row 11 3 .int (by kernel_rfl) (s' := L120 l (loF x r) (hiF x r) [] 0) (by kernel_rfl) ?_
      exact loop120 l2 l25 (loF x r) (hiF x r) (by rw [refReachS, h1, h2, h3, h4, h5, h6]; rfl) hA 0 (by omega))
end Go.Proofs.Zn

/- Lanes that are reached, by count and by definition: the same. (Own work.) -/
namespace Go.Proofs.Zn
open Go Go.VL

theorem chk_rise : ∀ (l : List Fl) (q : Fl), nanF q = false → chkGo (some q) l = 0 → (∀ x ∈ q :: l, nanF x = false) ∧ List.Pairwise (fun x y => keyF x < keyF y) (q :: l)
  | [], q, hq, _ => ⟨fun x hx => by simp at hx; subst hx; exact hq, List.pairwise_singleton _ _⟩
  | x :: r, q, hq, h => by
    rw [chk_cons] at h
    cases hx : nanF x with
    | true => rw [hx] at h; cases h
    | false =>
      rw [hx, cond_false] at h
      have h : (bif ltF q x then chkGo (some x) r else 70) = 0 := h
      cases hl : ltF q x with
      | false => rw [hl] at h; cases h
      | true =>
        rw [hl, cond_true] at h
        obtain ⟨i1, i2⟩ := chk_rise r x hx h
        rw [ltF_key hq hx] at hl
        have hl := of_decide_eq_true hl
        refine ⟨fun y hy => ?_, List.pairwise_cons.2 ⟨fun y hy => ?_, i2⟩⟩
        · rcases List.mem_cons.1 hy with rfl | hy
          · exact hq
          · exact i1 y hy
        · rcases List.mem_cons.1 hy with rfl | hy
          · exact hl
          · have := (List.pairwise_cons.1 i2).1 y hy; omega
theorem check_rise {l : List Fl} (h : checkS l = 0) : (∀ x ∈ l, nanF x = false) ∧ List.Pairwise (fun x y => keyF x < keyF y) l := by
  obtain ⟨h2, h25⟩ := check_len h
  have h : chkGo none l = 0 := by
    unfold checkS at h
    rw [decide_eq_false (by omega), cond_false, decide_eq_false (by omega), cond_false] at h
    exact h
  cases l with
  | nil => simp at h2
  | cons x r =>
    rw [chk_cons] at h
    cases hx : nanF x with
    | true => rw [hx] at h; cases h
    | false => rw [hx, cond_false] at h; exact chk_rise r x hx h
theorem cnt_iff {x : Fl} (hx : nanF x = false) : ∀ (m : List Fl), (∀ y ∈ m, nanF y = false) → List.Pairwise (fun x y => keyF x < keyF y) m → ∀ (k : Nat) (h : k < m.length), keyF m[k] ≤ keyF x ↔ k < cntF m x
  | [], _, _, k, h => by simp at h
  | c :: m, hn, hp, k, h => by
    have hc := hn c (.head _)
    have e : cntF (c :: m) x = if leF c x then cntF m x + 1 else 0 := by
      rw [cntF, List.takeWhile_cons]
      cases leF c x <;> simp [cntF]
    rw [e, leF_key hc hx]
    have ih := cnt_iff hx m (fun y hy => hn y (.tail _ hy)) (List.pairwise_cons.1 hp).2
    by_cases hle : keyF c ≤ keyF x
    · rw [decide_eq_true hle, if_pos rfl]
      cases k with
      | zero => exact ⟨fun _ => by omega, fun _ => hle⟩
      | succ k =>
        have hk : k < m.length := by simpa using h
        have := ih k hk
        show keyF m[k] ≤ keyF x ↔ _
        omega
    · rw [decide_eq_false hle, if_neg (by decide)]
      refine ⟨fun h' => ?_, fun h' => absurd h' (by omega)⟩
      cases k with
      | zero => exact absurd h' hle
      | succ k =>
        have hk : k < m.length := by simpa using h
        have h3 := (List.pairwise_cons.1 hp).1 m[k] (List.getElem_mem _)
        have h' : keyF m[k] ≤ keyF x := h'
        omega
theorem behind_iff {l : List Fl} {x : Fl} (hx : nanF x = false) (hn : ∀ y ∈ l, nanF y = false) (hp : List.Pairwise (fun x y => keyF x < keyF y) l) (k : Nat) (h : k < l.length - 1) : keyF (l.getD k (some 0)) ≤ keyF x ↔ k < behindS l x := by
  have := cnt_iff hx (l.take (l.length - 1)) (fun y hy => hn y (List.mem_of_mem_take hy)) (hp.sublist (List.take_sublist _ _)) k (by rw [List.length_take]; omega)
  rw [List.getElem_take] at this
  rw [getD_at' (by omega)]
  exact this
theorem behind_le (l : List Fl) (x : Fl) : behindS l x ≤ l.length - 1 := by
  have := cntF_le (l.take (l.length - 1)) x
  rw [List.length_take] at this
  unfold behindS; omega
theorem rise_lt {l : List Fl} (hp : List.Pairwise (fun x y => keyF x < keyF y) l) {i j : Nat} (hij : i < j) (hj : j < l.length) : keyF (l.getD i (some 0)) < keyF (l.getD j (some 0)) := by
  rw [getD_at' (by omega), getD_at' hj]
  exact List.pairwise_iff_getElem.1 hp i j (by omega) hj hij
theorem geF_key {x y : Fl} (hx : nanF x = false) (hy : nanF y = false) : geF x y = decide (keyF y ≤ keyF x) := by
  rw [geF, cmp_key hx hy]
  simp only [compare, compareOfLessAndEq]
  by_cases h : keyF x < keyF y
  · rw [if_pos h, decide_eq_false (by omega)]; rfl
  · rw [if_neg h]
    by_cases h2 : keyF x = keyF y
    · rw [if_pos h2, decide_eq_true (by omega)]; rfl
    · rw [if_neg h2, decide_eq_true (by omega)]; rfl
theorem tch_range {l : List Fl} {a b : Fl} {lo hi : Nat} : ∀ m : Nat, (∀ k, k < m → (touchS l k a b = true ↔ lo ≤ k ∧ k < hi)) → tchS l a b m = (List.range' lo (min hi m - lo)).map fun n : Nat => Int.ofNat n
  | 0, _ => by simp [tchS]
  | m + 1, h => by
    have ih := tch_range m (fun k hk => h k (by omega))
    rw [tchS, ih]
    have hm := h m (by omega)
    cases ht : touchS l m a b with
    | true =>
      obtain ⟨h1, h2⟩ := hm.1 ht
      have e : min hi (m + 1) - lo = min hi m - lo + 1 := by omega
      rw [e, List.range'_concat, cond_true, List.map_append]
      have e2 : lo + 1 * (min hi m - lo) = m := by omega
      rw [e2]; rfl
    | false =>
      have : ¬ (lo ≤ m ∧ m < hi) := fun h' => by rw [hm.2 h'] at ht; cases ht
      have e : min hi (m + 1) - lo = min hi m - lo := by omega
      rw [e, cond_false]
theorem in_out {l : List Fl} {a b : Fl} (hc : checkS l = 0) (ha : nanF a = false) (hb : nanF b = false) (hab : keyF a ≤ keyF b) : inS l a b = outS (tchS l a b (l.length - 1)) := by
  obtain ⟨h2, h25⟩ := check_len hc
  obtain ⟨hn, hp⟩ := check_rise hc
  have nn : ∀ k, k < l.length → nanF (l.getD k (some 0)) = false := fun k hk => by rw [getD_at' hk]; exact hn _ (List.getElem_mem _)
  have tk : ∀ k, k < l.length - 1 → (touchS l k a b = true ↔ ((k + 2 = l.length ∧ keyF a ≤ keyF (l.getD (k + 1) (some 0)) ∨ k + 2 ≠ l.length ∧ keyF a < keyF (l.getD (k + 1) (some 0))) ∧ keyF (l.getD k (some 0)) ≤ keyF b)) := by
    intro k hk
    unfold touchS
    rw [leF_key ha (nn _ (by omega)), ltF_key ha (nn _ (by omega)), geF_key hb (nn _ (by omega))]
    generalize keyF (l.getD (k + 1) (some 0)) = u
    generalize keyF (l.getD k (some 0)) = v
    by_cases e : k + 2 = l.length
    · rw [show (k + 2 == l.length) = true by simpa using e, cond_true]
      by_cases e2 : keyF a ≤ u
      · rw [decide_eq_true e2, cond_true, decide_eq_true_eq]
        exact ⟨fun h => ⟨.inl ⟨e, e2⟩, h⟩, fun h => h.2⟩
      · rw [decide_eq_false e2, cond_false]
        exact ⟨fun h => (by cases h), fun h => absurd h (by omega)⟩
    · rw [show (k + 2 == l.length) = false by simpa using e, cond_false]
      by_cases e2 : keyF a < u
      · rw [decide_eq_true e2, cond_true, decide_eq_true_eq]
        exact ⟨fun h => ⟨.inr ⟨e, e2⟩, h⟩, fun h => h.2⟩
      · rw [decide_eq_false e2, cond_false]
        exact ⟨fun h => (by cases h), fun h => absurd h (by omega)⟩
  rw [inS, ltF_key hb (nn _ (by omega)), gtF_key ha (nn _ (by omega))]
  by_cases g1 : keyF b < keyF (l.getD 0 (some 0))
  · rw [decide_eq_true g1, cond_true, tch_range (lo := 0) (hi := 0) _ (fun k hk => by
      rw [tk k hk]
      refine ⟨fun h => ?_, fun h => absurd h.2 (by omega)⟩
      rcases Nat.eq_zero_or_pos k with h0 | h0
      · subst h0; omega
      · have := rise_lt hp h0 (show k < l.length by omega); omega)]
    simp [outS]
  · rw [decide_eq_false g1, cond_false]
    by_cases g2 : keyF (l.getD (l.length - 1) (some 0)) < keyF a
    · rw [decide_eq_true g2, cond_true, tch_range (lo := 0) (hi := 0) _ (fun k hk => by
        rw [tk k hk]
        refine ⟨fun h => ?_, fun h => absurd h.2 (by omega)⟩
        rcases Nat.lt_or_ge (k + 1) (l.length - 1) with h0 | h0
        · have := rise_lt hp h0 (show l.length - 1 < l.length by omega); omega
        · have e : k + 1 = l.length - 1 := by omega
          rw [e] at h; omega)]
      simp [outS]
    · rw [decide_eq_false g2, cond_false]
      have A := fun k h => behind_iff ha hn hp k h
      have B := fun k h => behind_iff hb hn hp k h
      have la := behind_le l a
      have lb := behind_le l b
      have b1 : 0 < behindS l b := (B 0 (by omega)).1 (by omega)
      have ab : behindS l a ≤ behindS l b := by
        rcases Nat.lt_or_ge (behindS l b) (behindS l a) with h | h
        · have h1 := (A (behindS l b) (by omega)).2 h
          have h3 := (B (behindS l b) (by omega)).1 (by omega)
          omega
        · exact h
      have hr := tch_range (l := l) (a := a) (b := b) (lo := max (behindS l a) 1 - 1) (hi := behindS l b) (l.length - 1) (fun k hk => by
        rw [tk k hk, B k hk]
        by_cases e : k + 2 = l.length
        · have e3 : k + 1 = l.length - 1 := by omega
          rw [e3]
          omega
        · have h4 := A (k + 1) (by omega)
          omega)
      rw [hr]
      have e5 : min (behindS l b) (l.length - 1) = behindS l b := by omega
      rw [e5]
      generalize behindS l a = p at *
      generalize behindS l b = q at *
      have e6 : ((List.range' (max p 1 - 1) (q - (max p 1 - 1))).map fun n : Nat => Int.ofNat n).length = q - (max p 1 - 1) := by simp
      rw [outS, e6]
      have hpos : 0 < q - (max p 1 - 1) := by omega
      have e7 : (((q - (max p 1 - 1) : Nat) : Int) == 0) = false := by simp; omega
      rw [e7, cond_false]
      rw [getD_at' (by rw [e6]; exact hpos), getD_at' (by rw [e6]; omega)]
      simp only [List.getElem_map, List.getElem_range']
      congr 1
      congr 1
      · show ((max p 1 : Nat) : Int) - 1 = ((max p 1 - 1 + 1 * 0 : Nat) : Int)
        omega
      · show ((q : Nat) : Int) - 1 = ((max p 1 - 1 + 1 * (q - (max p 1 - 1) - 1) : Nat) : Int)
        omega
end Go.Proofs.Zn

/- Rounding keeps order: whole numbers. (Own work.) -/
namespace Go.Proofs.Zn

def rne (n g : Nat) : Nat := n / g + (decide (g < 2 * (n % g)) || (g == 2 * (n % g) && n / g % 2 == 1)).toNat
theorem cut_eq (neg : Bool) (n d : Nat) : Ieee.Toward.even.cut neg n d = rne n (2 ^ d) := by
  have key : ∀ k, Ieee.Toward.even.cut neg n d = rne n (1 <<< min d (n.log2 + 2)) ∧ (k = 0 → True) := fun k => ⟨rfl, fun _ => trivial⟩
  rw [(key 0).1, Nat.shiftLeft_eq, Nat.one_mul]
  by_cases h : d ≤ n.log2 + 2
  · rw [Nat.min_eq_left h]
  · rw [Nat.min_eq_right (by omega)]
    have h1 : n < 2 ^ (n.log2 + 1) := Nat.lt_log2_self
    have e2 : 2 ^ (n.log2 + 2) = 2 * 2 ^ (n.log2 + 1) := by rw [Nat.pow_succ, Nat.mul_comm]
    have h2 : 2 * n < 2 ^ (n.log2 + 2) := by omega
    have h3 : 2 ^ (n.log2 + 2) ≤ 2 ^ d := Nat.pow_le_pow_right (by decide) (by omega)
    have z : ∀ g, 2 * n < g → rne n g = 0 := by
      intro g hg
      have e1 : n / g = 0 := Nat.div_eq_of_lt (by omega)
      have e2 : n % g = n := Nat.mod_eq_of_lt (by omega)
      unfold rne
      rw [e1, e2, decide_eq_false (by omega)]
      simp
    rw [z _ h2, z _ (by omega)]
theorem rne_mono {n n' g : Nat} (hg : 0 < g) (h : n ≤ n') : rne n g ≤ rne n' g := by
  have hq : n / g ≤ n' / g := Nat.div_le_div_right h
  have b1 : ∀ b : Bool, b.toNat ≤ 1 := fun b => by cases b <;> decide
  unfold rne
  rcases Nat.lt_or_ge (n / g) (n' / g) with hl | hge
  · have := b1 (decide (g < 2 * (n % g)) || (g == 2 * (n % g) && n / g % 2 == 1))
    omega
  · have e : n / g = n' / g := by omega
    have m1 := Nat.div_add_mod n g
    have m2 := Nat.div_add_mod n' g
    rw [e] at m1 ⊢
    have hm : n % g ≤ n' % g := by omega
    have hb : (decide (g < 2 * (n % g)) || (g == 2 * (n % g) && n' / g % 2 == 1)).toNat ≤ (decide (g < 2 * (n' % g)) || (g == 2 * (n' % g) && n' / g % 2 == 1)).toNat := by
      by_cases h1 : g < 2 * (n' % g)
      · rw [decide_eq_true h1, Bool.true_or]
        exact b1 _
      · by_cases h2 : n % g = n' % g
        · rw [h2]; exact Nat.le_refl _
        · have h3 : ¬ g < 2 * (n % g) := by omega
          have h4 : (g == 2 * (n % g)) = false := by simp; omega
          rw [decide_eq_false h3, h4]
          exact Nat.zero_le _
    omega
theorem rne_le {n g k : Nat} (hg : 0 < g) (h : n ≤ k * g) : rne n g ≤ k := by
  have := rne_mono hg h
  have e : rne (k * g) g = k := by
    unfold rne
    rw [Nat.mul_div_cancel _ hg, Nat.mul_mod_left, decide_eq_false (by omega)]
    have : (g == 2 * 0) = false := by simp; omega
    rw [this]; rfl
  omega
theorem le_rne {n g k : Nat} (hg : 0 < g) (h : k * g ≤ n) : k ≤ rne n g := by
  have : k ≤ n / g := (Nat.le_div_iff_mul_le hg).2 h
  unfold rne
  omega
end Go.Proofs.Zn

/- Rounding keeps order: the rung. (Own work.) -/
namespace Go.Proofs.Zn
open Go

def lastP (base : Int) (mag : Nat) : Int := max (base + mag.log2 - 52) least
def kept (base L : Int) (mag : Nat) : Nat := rne (mag * 2 ^ (base - L).toNat) (2 ^ (L - base).toNat)
def rungN (base : Int) (mag : Nat) : Nat := if mag = 0 then 0 else min ((lastP base mag - least).toNat * 4503599627370496 + kept base (lastP base mag) mag) 9218868437227405312
theorem nearest_eq (neg : Bool) (mag : Nat) (base : Int) : FloatKind.f64.format.nearest neg mag base = FloatKind.f64.format.word neg (rungN base mag) := by
  have e2 : FloatKind.f64.format.binade = 4503599627370496 := by decide
  have e3 : FloatKind.f64.format.infRung = 9218868437227405312 := by decide
  have e4 : FloatKind.f64.format.fractionBits = 52 := by decide
  unfold Ieee.Format.nearest rungN
  rw [e2, e3, e4]
  by_cases h : mag = 0
  · rw [if_pos h, if_pos h]
  · rw [if_neg h, if_neg h]
    simp only [cut_eq, Nat.shiftLeft_eq]
    rfl
theorem pow2_pos (k : Nat) : 0 < 2 ^ k := Nat.pow_pos (by decide)
theorem kept_lo {base : Int} {mag : Nat} (h0 : mag ≠ 0) {L : Int} (hL : L = base + mag.log2 - 52) : 4503599627370496 ≤ kept base L mag := by
  have h1 : 2 ^ mag.log2 ≤ mag := Nat.log2_self_le h0
  have e : (4503599627370496 : Nat) = 2 ^ 52 := by decide
  rw [e]
  refine le_rne (pow2_pos _) ?_
  by_cases h : 52 ≤ mag.log2
  · have a1 : (base - L).toNat = 0 := by omega
    have a2 : (L - base).toNat = mag.log2 - 52 := by omega
    rw [a1, a2, Nat.pow_zero, Nat.mul_one, ← Nat.pow_add, Nat.add_sub_cancel' h]
    exact h1
  · have a1 : (base - L).toNat = 52 - mag.log2 := by omega
    have a2 : (L - base).toNat = 0 := by omega
    rw [a1, a2, Nat.pow_zero, Nat.mul_one]
    have : 2 ^ 52 = 2 ^ mag.log2 * 2 ^ (52 - mag.log2) := by rw [← Nat.pow_add]; congr 1; omega
    rw [this]
    exact Nat.mul_le_mul_right _ h1
theorem kept_hi {base : Int} {mag : Nat} {L : Int} (hL : base + mag.log2 - 52 ≤ L) : kept base L mag ≤ 9007199254740992 := by
  have h1 : mag < 2 ^ (mag.log2 + 1) := Nat.lt_log2_self
  have e : (9007199254740992 : Nat) = 2 ^ 53 := by decide
  rw [e]
  refine rne_le (pow2_pos _) ?_
  by_cases h : base ≤ L
  · have a1 : (base - L).toNat = 0 := by omega
    rw [a1, Nat.pow_zero, Nat.mul_one, ← Nat.pow_add]
    have : 2 ^ (mag.log2 + 1) ≤ 2 ^ (53 + (L - base).toNat) := Nat.pow_le_pow_right (by decide) (by omega)
    omega
  · have a2 : (L - base).toNat = 0 := by omega
    rw [a2, Nat.pow_zero, Nat.mul_one]
    have g1 : mag * 2 ^ (base - L).toNat ≤ 2 ^ (mag.log2 + 1) * 2 ^ (base - L).toNat := Nat.mul_le_mul_right _ (Nat.le_of_lt h1)
    rw [← Nat.pow_add] at g1
    have g2 : 2 ^ (mag.log2 + 1 + (base - L).toNat) ≤ 2 ^ 53 := Nat.pow_le_pow_right (by decide) (by omega)
    omega
theorem log2_mono {m n : Nat} (h0 : m ≠ 0) (h : m ≤ n) : m.log2 ≤ n.log2 := by
  have h1 : 2 ^ m.log2 ≤ m := Nat.log2_self_le h0
  have h2 : n < 2 ^ (n.log2 + 1) := Nat.lt_log2_self
  have h3 : 2 ^ m.log2 < 2 ^ (n.log2 + 1) := by omega
  have := (Nat.pow_lt_pow_iff_right (a := 2) (by decide)).1 h3
  omega
theorem min_mono {a b c : Nat} (h : a ≤ b) : min a c ≤ min b c := by omega
theorem kept_mono {base L : Int} {m n : Nat} (h : m ≤ n) : kept base L m ≤ kept base L n := rne_mono (pow2_pos _) (Nat.mul_le_mul_right _ h)
theorem step_mono {x y a b : Nat} (h : x + 1 ≤ y) (ha : a ≤ 9007199254740992) (hb : 4503599627370496 ≤ b) : x * 4503599627370496 + a ≤ y * 4503599627370496 + b := by omega
theorem rung_mono {base : Int} {m n : Nat} (h : m ≤ n) : rungN base m ≤ rungN base n := by
  unfold rungN
  by_cases h0 : m = 0
  · rw [if_pos h0]; exact Nat.zero_le _
  · rw [if_neg h0, if_neg (show n ≠ 0 by omega)]
    refine min_mono ?_
    have hl := log2_mono h0 h
    have d1 : lastP base m = max (base + m.log2 - 52) least := rfl
    have d2 : lastP base n = max (base + n.log2 - 52) least := rfl
    generalize lastP base m = L at *
    generalize lastP base n = L' at *
    generalize least = z at *
    by_cases hlt : L < L'
    · exact step_mono (by omega) (kept_hi (by omega)) (kept_lo (by omega) (by omega))
    · have e : L' = L := by omega
      rw [e]
      exact Nat.add_le_add_left (kept_mono h) _
end Go.Proofs.Zn

/- Rounding keeps order: the key of a rung. (Own work.) -/
namespace Go.Proofs.Zn
open Go

def valR (k : Nat) : Nat := if k < 4503599627370496 then k else if k < 9218868437227405312 then (4503599627370496 + k % 4503599627370496) * 2 ^ (k / 4503599627370496 - 1) else big
theorem key_word (s : Bool) {k : Nat} (h : k ≤ 9218868437227405312) : keyD (FloatKind.f64.format.read (FloatKind.f64.format.word s k)) = bif s then -(valR k : Int) else (valR k : Int) := by
  have e1 : FloatKind.f64.format.signWeight = 9223372036854775808 := by decide
  have e2 : FloatKind.f64.format.binade = 4503599627370496 := by decide
  have e3 : FloatKind.f64.format.infRung = 9218868437227405312 := by decide
  have w1 : FloatKind.f64.format.word s k % 9223372036854775808 = k := by
    unfold Ieee.Format.word; rw [e1]; cases s
    · rw [if_neg (by decide)]; omega
    · rw [if_pos rfl]; omega
  have w2 : (FloatKind.f64.format.word s k / 9223372036854775808 % 2 == 1) = s := by
    unfold Ieee.Format.word; rw [e1]; cases s
    · rw [if_neg (by decide)]; simp; omega
    · rw [if_pos rfl]; simp; omega
  simp only [Ieee.Format.read, e1, e2, e3, w1, w2]
  unfold valR
  by_cases h1 : k < 4503599627370496
  · rw [if_pos h1, if_pos h1]
    show Ieee.signed s k (least - least).toNat = _
    rw [Int.sub_self, signed_eq]
    cases s <;> simp
  · rw [if_neg h1, if_neg h1]
    by_cases h2 : k < 9218868437227405312
    · rw [if_pos h2, if_pos h2]
      show Ieee.signed s _ (least + ((k / 4503599627370496 - 1 : Nat) : Int) - least).toNat = _
      have e : (least + ((k / 4503599627370496 - 1 : Nat) : Int) - least).toNat = k / 4503599627370496 - 1 := by
        generalize least = z; omega
      rw [e, signed_eq]
      cases s <;> simp
    · rw [if_neg h2, if_neg h2, if_pos (by omega)]
      rfl
end Go.Proofs.Zn

/- Rounding keeps order: rungs. (Own work.) -/
set_option exponentiation.threshold 4096
namespace Go.Proofs.Zn
open Go

theorem valR_mono {k j : Nat} (h : k ≤ j) : valR k ≤ valR j := by
  unfold valR
  have hb : ∀ q r, q ≤ 2046 → r < 4503599627370496 → (4503599627370496 + r) * 2 ^ (q - 1) ≤ big := by
    intro q r hq hr
    have g1 : 2 ^ (q - 1) ≤ 2 ^ 2046 := Nat.pow_le_pow_right (by decide) (by omega)
    have g2 : 4503599627370496 + r ≤ 2 ^ 53 := by
      have : (2 : Nat) ^ 53 = 9007199254740992 := by decide
      omega
    exact Nat.le_trans (Nat.mul_le_mul g2 g1) big_lb
  by_cases k1 : k < 4503599627370496
  · rw [if_pos k1]
    by_cases j1 : j < 4503599627370496
    · rw [if_pos j1]; exact h
    · rw [if_neg j1]
      by_cases j2 : j < 9218868437227405312
      · rw [if_pos j2]
        have := Nat.mul_le_mul (show 4503599627370496 ≤ 4503599627370496 + j % 4503599627370496 by omega) (pow2_pos (j / 4503599627370496 - 1))
        omega
      · rw [if_neg j2]
        have := hb 0 0 (by decide) (by decide)
        simp at this; omega
  · rw [if_neg k1, if_neg (show ¬ j < 4503599627370496 by omega)]
    by_cases j2 : j < 9218868437227405312
    · rw [if_pos (show k < 9218868437227405312 by omega), if_pos j2]
      have q : k / 4503599627370496 ≤ j / 4503599627370496 := Nat.div_le_div_right h
      have q1 : 1 ≤ k / 4503599627370496 := by omega
      by_cases e : k / 4503599627370496 = j / 4503599627370496
      · rw [e]; exact Nat.mul_le_mul_right _ (by omega)
      · have r1 : 4503599627370496 + k % 4503599627370496 ≤ 4503599627370496 * 2 := by omega
        have r2 : 2 * 2 ^ (k / 4503599627370496 - 1) ≤ 2 ^ (j / 4503599627370496 - 1) := by
          rw [Nat.mul_comm, ← Nat.pow_succ]; exact Nat.pow_le_pow_right (by decide) (by omega)
        have r3 := Nat.mul_le_mul_right (2 ^ (k / 4503599627370496 - 1)) r1
        have r4 := Nat.mul_le_mul (show 4503599627370496 ≤ 4503599627370496 + j % 4503599627370496 by omega) r2
        rw [Nat.mul_assoc] at r3
        exact Nat.le_trans r3 r4
    · rw [if_neg j2]
      by_cases k2 : k < 9218868437227405312
      · rw [if_pos k2]; exact hb _ _ (by omega) (Nat.mod_lt _ (by decide))
      · rw [if_neg k2]; exact Nat.le_refl _
end Go.Proofs.Zn

/- Rounding keeps order: what is taken off and what is added. (Own work.) -/
namespace Go.Proofs.Zn
open Go Go.VL

/-- A whole number at a place, rounded: its key. -/
def nearK (base T : Int) : Int := bif decide (T < 0) then -(valR (rungN base T.natAbs) : Int) else (valR (rungN base T.natAbs) : Int)
theorem rung_le (base : Int) (m : Nat) : rungN base m ≤ 9218868437227405312 := by
  unfold rungN
  by_cases h : m = 0
  · rw [if_pos h]; exact Nat.zero_le _
  · rw [if_neg h]; exact Nat.min_le_right _ _
theorem nearK_mono {base T S : Int} (h : T ≤ S) : nearK base T ≤ nearK base S := by
  unfold nearK
  by_cases t : T < 0
  · rw [decide_eq_true t, cond_true]
    by_cases s : S < 0
    · rw [decide_eq_true s, cond_true]
      have := valR_mono (rung_mono (base := base) (show S.natAbs ≤ T.natAbs by omega))
      omega
    · rw [decide_eq_false s, cond_false]; omega
  · rw [decide_eq_false t, cond_false, decide_eq_false (by omega), cond_false]
    have := valR_mono (rung_mono (base := base) (show T.natAbs ≤ S.natAbs by omega))
    omega
theorem rung_zero (base : Int) : valR (rungN base 0) = 0 := by
  unfold rungN valR
  rw [if_pos rfl, if_pos (by decide)]
theorem key_near {base T : Int} {g : Bool} (hg : T ≠ 0 → g = decide (T < 0)) : keyD (FloatKind.f64.format.read (FloatKind.f64.format.nearest g T.natAbs base)) = nearK base T := by
  rw [nearest_eq, key_word _ (rung_le _ _), nearK]
  by_cases h : T = 0
  · subst h
    have : valR (rungN base (0 : Int).natAbs) = 0 := rung_zero base
    rw [this]
    cases g <;> rfl
  · rw [hg h]
end Go.Proofs.Zn

/- Rounding keeps order: the ends of a reach. (Own work.) -/
namespace Go.Proofs.Zn
open Go Go.VL

theorem signed_neg (t : Bool) (n k : Nat) : Ieee.signed (!t) n k = -Ieee.signed t n k := by
  rw [signed_eq, signed_eq]; cases t <;> simp
theorem signed_nonneg {t : Bool} {n k k' : Nat} (h : 0 ≤ Ieee.signed t n k) : 0 ≤ Ieee.signed t n k' := by
  rw [signed_eq] at *
  cases t
  · simp; exact Int.mul_nonneg (Int.natCast_nonneg _) (Int.pow_nonneg (by decide))
  · have hp := pow2_pos k
    have hn : n = 0 := by
      rcases Nat.eq_zero_or_pos n with h0 | h0
      · exact h0
      · have := Nat.mul_pos h0 hp
        rw [cond_true] at h; omega
    subst hn; simp
theorem lo_hi_num {s t : Bool} {m n : Nat} {i j : Int} (h : 0 ≤ Ieee.signed t n (j - least).toNat) :
    keyD (FloatKind.f64.format.read (FloatKind.f64.format.write (.number (if Ieee.signed s m (i - min i j).toNat + Ieee.signed (!t) n (j - min i j).toNat = 0 then s && !t else Ieee.signed s m (i - min i j).toNat + Ieee.signed (!t) n (j - min i j).toNat < 0) (Ieee.signed s m (i - min i j).toNat + Ieee.signed (!t) n (j - min i j).toNat).natAbs (min i j)))) ≤
    keyD (FloatKind.f64.format.read (FloatKind.f64.format.write (.number (if Ieee.signed s m (i - min i j).toNat + Ieee.signed t n (j - min i j).toNat = 0 then s && t else Ieee.signed s m (i - min i j).toNat + Ieee.signed t n (j - min i j).toNat < 0) (Ieee.signed s m (i - min i j).toNat + Ieee.signed t n (j - min i j).toNat).natAbs (min i j)))) := by
  have h0 := signed_nonneg (k' := (j - min i j).toNat) h
  rw [signed_neg]
  generalize Ieee.signed s m (i - min i j).toNat = X at *
  generalize Ieee.signed t n (j - min i j).toNat = R at *
  unfold Ieee.Format.write
  rw [key_near (T := X + -R) (fun h => by simp [h]), key_near (T := X + R) (fun h => by simp [h])]
  exact nearK_mono (by omega)
end Go.Proofs.Zn

/- The lanes that are reached: by count and by definition the same. (Own work.) -/
set_option exponentiation.threshold 4096
namespace Go.Proofs.Zn
open Go Go.VL

theorem key_zero : keyF (some 0) = 0 := by
  have h : FloatKind.f64.format.read 0 = .number false 0 FloatKind.f64.format.leastPlace := by decide
  show keyD (FloatKind.f64.format.read 0) = 0
  rw [h]
  show Ieee.signed false 0 _ = 0
  rw [signed_eq]; simp
theorem inf_key (s : Bool) : keyD (FloatKind.f64.format.read (FloatKind.f64.format.write (.infinity s))) = bif s then -(big : Int) else big := by
  have e3 : FloatKind.f64.format.infRung = 9218868437227405312 := by decide
  unfold Ieee.Format.write
  rw [e3, key_word s (Nat.le_refl _)]
  rfl
theorem lo_hi {x r : Fl} (hx : nanF x = false) (hr : nanF r = false) (h0 : 0 ≤ keyF r) (hl : nanF (loF x r) = false) (hh : nanF (hiF x r) = false) : keyF (loF x r) ≤ keyF (hiF x r) := by
  cases x with
  | none => cases hx
  | some a => cases r with
    | none => cases hr
    | some b =>
      have el : loF (some a) (some b) = ((FloatKind.f64.format.read a).sum (FloatKind.f64.format.read b).opposite).map FloatKind.f64.format.write := rfl
      have eh : hiF (some a) (some b) = ((FloatKind.f64.format.read a).sum (FloatKind.f64.format.read b)).map FloatKind.f64.format.write := rfl
      rw [el] at hl ⊢
      rw [eh] at hh ⊢
      have hx : (FloatKind.f64.format.read a).isNaN = false := hx
      have hr : (FloatKind.f64.format.read b).isNaN = false := hr
      have h0 : 0 ≤ keyD (FloatKind.f64.format.read b) := h0
      have hbig : (0 : Int) < (big : Int) := by
        have := big_lb
        have h0 : 0 < 2 ^ 53 * 2 ^ 2046 := Nat.mul_pos (Nat.pow_pos (by decide)) (Nat.pow_pos (by decide))
        exact Int.ofNat_lt.2 (Nat.lt_of_lt_of_le h0 this)
      generalize FloatKind.f64.format.read a = d at *
      generalize FloatKind.f64.format.read b = e at *
      cases d with
      | nan s t => cases hx
      | infinity s =>
        cases e with
        | nan s t => cases hr
        | infinity t => cases s <;> cases t <;> first | (cases hl; done) | (cases hh; done)
        | number t n j => exact Int.le_refl _
      | number s m i =>
        cases e with
        | nan s t => cases hr
        | infinity t =>
          cases t
          · show keyD (FloatKind.f64.format.read (FloatKind.f64.format.write (.infinity true))) ≤ keyD (FloatKind.f64.format.read (FloatKind.f64.format.write (.infinity false)))
            rw [inf_key, inf_key, cond_true, cond_false]; omega
          · have h0 : 0 ≤ -(big : Int) := h0
            omega
        | number t n j => exact lo_hi_num h0
theorem reach_eq (l : List Fl) (x r : Fl) : reachS l x r = refReachS l x r := by
  unfold reachS refReachS
  cases h1 : (checkS l != 0)
  · cases h2 : nanF x
    · cases h3 : nanF r
      · cases h4 : ltF r (some 0)
        · cases h5 : nanF (loF x r)
          · cases h6 : nanF (hiF x r)
            · simp only [cond_false]
              have hc : checkS l = 0 := by simpa using h1
              refine in_out hc h5 h6 (lo_hi h2 h3 ?_ h5 h6)
              have z : nanF (some 0) = false := by decide
              rw [ltF_key h3 z, key_zero] at h4
              have := of_decide_eq_false h4
              omega
            · rfl
          · rfl
        · rfl
      · rfl
    · rfl
  · rfl
end Go.Proofs.Zn
