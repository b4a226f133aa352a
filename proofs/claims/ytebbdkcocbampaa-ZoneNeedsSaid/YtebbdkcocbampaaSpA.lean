/- The types and the functions of this seat that the spans' laws reach. (Own work.) -/
import Derived.Test.YtebbdkcocbampaaVD
import Derived.KernelRfl
import Derived.Test.YtebbdkcocbampaaChecked
set_option linter.unusedVariables false
set_option linter.unusedSimpArgs false
namespace Go.Proofs.Sp
open Go Go.VL

def codes : Codes := fun t => bif t == 3 then some .int else bif t == 38 then some .span else bif t == 5 then some .u8 else none
def cloneOut : List AV → Heap → TyTup [Ty.sl .span] → GRes := fun _ _ x => ⟨[.own 0 .span], [(0, .row 38 .span x)], 1⟩
def pad (n : Nat) (zs : List Span) : List Span := zs ++ List.replicate (n - zs.length) Ty.span.dflt
def dropOut : List AV → Heap → TyTup [Ty.sl .span] → GRes := fun _ H x => match H.get 0 with
  | some (.row _ _ xs) => ⟨[.view 0 .span 0 (List.length x)], [(0, .row 38 .span (pad xs.length x))], 1⟩
  | _ => ⟨[], [], 0⟩
def sortOut : List AV → Heap → TyTup [Ty.sl .span] → GRes := fun _ _ x => ⟨[], [(0, .row 38 .span x)], 1⟩
def sigL : List (Nat × Sig) :=
  [(20, .pure [.span, .span] [.span]), (21, .pure [.span, .span] [.span]), (22, .pure [] [.bool]), (23, .pure [.span, .span] [.span]), (24, .pure [.span, .span] [.span]), (25, .pure [.span, .span] [.bool]), (26, .pure [.span, .span] [.bool]),
   (27, .pure [.span] [.int]), (28, .pure [.span] [.int]), (29, .pure [.span, .int] [.bool]), (30, .pure [.span, .int] [.bool]), (31, .pure [.sl .span] [.sl .span]), (33, .pure [.sl .span] [.sl .span]),
   (35, .pure [.sl .span, .span] [.sl .span]), (36, .pure [.sl .span, .span] [.sl .span]), (75, .pure [.span] [.bool]), (76, .pure [] [.span]), (77, .pure [] [.span]), (82, .pure [.span, .span] [.bool]), (83, .pure [.span, .span] [.bool]),
   (32, .pure [.sl .span, .sl .span] [.bool]), (34, .pure [.sl .span, .int] [.int]),
   (79, .heap [.sl .span] cloneOut), (78, .heap [.sl .span] dropOut), (80, .heap [.sl .span] sortOut), (112, .heap [.int] fun _ H x => ⟨[.d (.v (.int .i64 x))], H, 1⟩), (81, .pure [.span, .span] [.int])]
def look : List (Nat × Sig) → Nat → Option Sig
  | [], _ => none
  | (k, x) :: l, f => bif k == f then some x else look l f
def sigs : Sigs := look sigL

theorem ofT {f : FuncId} {fn : Func} (hf : Try.prog.funcs[f]? = some fn) {args : List Arg} {ts : List Ty} {x : TyTup ts} {cu : Cuts} {n : Nat} {fst : Bool} {T : Out (TyTup ts)}
    (he : aexec Try.prog codes sigs fn (pureFin ts) 0 cu n fst (bodyOf fn) (startS fn args) = T) (hb : fn.body.isSome = true) (hnt : Nat.ble args.length fn.ntmps = true) (h : ∀ A, Sat Try.prog A (· = x) T) : Pure Try.prog f args ts x :=
  Pure.of_tree Try.checked.mixed hf hb (Nat.le_of_ble_eq_true hnt) he h

theorem mixed : Try.prog.follows .mixedOrders = true := Try.checked.mixed

end Go.Proofs.Sp

namespace Go.Proofs.Sp
open Go Go.VL


theorem t75 (a : Span) : @Eq (Out (TyTup [.bool])) (aexec Try.prog codes sigs Try.f75 (pureFin [.bool]) 0 noCut 60 false (bodyOf Try.f75) (startS Try.f75 [⟨.span, a⟩]))
    (Out.need (True ∧ True) (Out.ret (decide (Span.lo a > Span.hi a)))) := by kernel_rfl

theorem t76  : @Eq (Out (TyTup [.span])) (aexec Try.prog codes sigs Try.f76 (pureFin [.span]) 0 noCut 60 false (bodyOf Try.f76) (startS Try.f76 []))
    (Out.need (True ∧ True ∧ True) (Out.ret (Span.mk (0 : Int) (-1 : Int)))) := by kernel_rfl

theorem t77  : @Eq (Out (TyTup [.span])) (aexec Try.prog codes sigs Try.f77 (pureFin [.span]) 0 noCut 60 false (bodyOf Try.f77) (startS Try.f77 []))
    (Out.need (True ∧ True ∧ True) (Out.ret (Span.mk (0 : Int) (-1 : Int)))) := by kernel_rfl

theorem t20 (a b : Span) : @Eq (Out (TyTup [.span])) (aexec Try.prog codes sigs Try.f20 (pureFin [.span]) 0 noCut 100 false (bodyOf Try.f20) (startS Try.f20 [⟨.span, a⟩, ⟨.span, b⟩]))
    (Out.need ((True ∧ True ∧ True) ∧ True)
  (Out.callP (75 : Nat)
    [Sigma.mk Ty.span
        (Span.mk (if Span.lo b > Span.lo a then Span.lo b else Span.lo a)
          (if Span.hi b < Span.hi a then Span.hi b else Span.hi a))]
    [Ty.bool] fun x =>
    bif x then Out.need True (Out.callP (76 : Nat) [] [Ty.span] fun x => Out.need (True ∧ True ∧ True) (Out.ret x))
    else
      Out.need (True ∧ True ∧ True)
        (Out.ret
          (Span.mk (if Span.lo b > Span.lo a then Span.lo b else Span.lo a)
            (if Span.hi b < Span.hi a then Span.hi b else Span.hi a))))) := by kernel_rfl

theorem t21 (a b : Span) : @Eq (Out (TyTup [.span])) (aexec Try.prog codes sigs Try.f21 (pureFin [.span]) 0 noCut 100 false (bodyOf Try.f21) (startS Try.f21 [⟨.span, a⟩, ⟨.span, b⟩]))
    (Out.need ((True ∧ True ∧ True) ∧ True)
  (Out.callP (75 : Nat) [Sigma.mk Ty.span a] [Ty.bool] fun x =>
    bif x then
      Out.need ((True ∧ True ∧ True) ∧ True)
        (Out.callP (75 : Nat) [Sigma.mk Ty.span b] [Ty.bool] fun x =>
          bif x then
            Out.need True (Out.callP (76 : Nat) [] [Ty.span] fun x => Out.need (True ∧ True ∧ True) (Out.ret x))
          else
            Out.need ((True ∧ True ∧ True) ∧ True)
              (Out.callP (75 : Nat) [Sigma.mk Ty.span a] [Ty.bool] fun x =>
                bif x then Out.need (True ∧ True ∧ True) (Out.ret b)
                else
                  Out.need ((True ∧ True ∧ True) ∧ True)
                    (Out.callP (75 : Nat) [Sigma.mk Ty.span b] [Ty.bool] fun x =>
                      bif x then Out.need (True ∧ True ∧ True) (Out.ret a)
                      else
                        Out.need (True ∧ True ∧ True)
                          (Out.ret
                            (Span.mk (if Span.lo b < Span.lo a then Span.lo b else Span.lo a)
                              (if Span.hi b > Span.hi a then Span.hi b else Span.hi a))))))
    else
      Out.need ((True ∧ True ∧ True) ∧ True)
        (Out.callP (75 : Nat) [Sigma.mk Ty.span a] [Ty.bool] fun x =>
          bif x then Out.need (True ∧ True ∧ True) (Out.ret b)
          else
            Out.need ((True ∧ True ∧ True) ∧ True)
              (Out.callP (75 : Nat) [Sigma.mk Ty.span b] [Ty.bool] fun x =>
                bif x then Out.need (True ∧ True ∧ True) (Out.ret a)
                else
                  Out.need (True ∧ True ∧ True)
                    (Out.ret
                      (Span.mk (if Span.lo b < Span.lo a then Span.lo b else Span.lo a)
                        (if Span.hi b > Span.hi a then Span.hi b else Span.hi a))))))) := by kernel_rfl

theorem t23 (a b : Span) : @Eq (Out (TyTup [.span])) (aexec Try.prog codes sigs Try.f23 (pureFin [.span]) 0 noCut 100 false (bodyOf Try.f23) (startS Try.f23 [⟨.span, a⟩, ⟨.span, b⟩]))
    (bif decide (Span.lo b > Span.lo a) then
  bif decide (Span.hi b < Span.hi a) then
    bif decide (Span.lo a > Span.hi a) then
      Out.need True (Out.callP (77 : Nat) [] [Ty.span] fun x => Out.need (True ∧ True ∧ True) (Out.ret x))
    else
      bif decide (Span.lo b > Span.hi b) then
        Out.need True (Out.callP (77 : Nat) [] [Ty.span] fun x => Out.need (True ∧ True ∧ True) (Out.ret x))
      else
        bif decide (Span.lo b > Span.hi b) then
          Out.need True (Out.callP (77 : Nat) [] [Ty.span] fun x => Out.need (True ∧ True ∧ True) (Out.ret x))
        else Out.need (True ∧ True ∧ True) (Out.ret b)
  else
    bif decide (Span.lo a > Span.hi a) then
      Out.need True (Out.callP (77 : Nat) [] [Ty.span] fun x => Out.need (True ∧ True ∧ True) (Out.ret x))
    else
      bif decide (Span.lo b > Span.hi b) then
        Out.need True (Out.callP (77 : Nat) [] [Ty.span] fun x => Out.need (True ∧ True ∧ True) (Out.ret x))
      else
        bif decide (Span.lo b > Span.hi a) then
          Out.need True (Out.callP (77 : Nat) [] [Ty.span] fun x => Out.need (True ∧ True ∧ True) (Out.ret x))
        else Out.need (True ∧ True ∧ True) (Out.ret (Span.mk (Span.lo b) (Span.hi a)))
  else
  bif decide (Span.hi b < Span.hi a) then
    bif decide (Span.lo a > Span.hi a) then
      Out.need True (Out.callP (77 : Nat) [] [Ty.span] fun x => Out.need (True ∧ True ∧ True) (Out.ret x))
    else
      bif decide (Span.lo b > Span.hi b) then
        Out.need True (Out.callP (77 : Nat) [] [Ty.span] fun x => Out.need (True ∧ True ∧ True) (Out.ret x))
      else
        bif decide (Span.lo a > Span.hi b) then
          Out.need True (Out.callP (77 : Nat) [] [Ty.span] fun x => Out.need (True ∧ True ∧ True) (Out.ret x))
        else Out.need (True ∧ True ∧ True) (Out.ret (Span.mk (Span.lo a) (Span.hi b)))
  else
    bif decide (Span.lo a > Span.hi a) then
      Out.need True (Out.callP (77 : Nat) [] [Ty.span] fun x => Out.need (True ∧ True ∧ True) (Out.ret x))
    else
      bif decide (Span.lo b > Span.hi b) then
        Out.need True (Out.callP (77 : Nat) [] [Ty.span] fun x => Out.need (True ∧ True ∧ True) (Out.ret x))
      else
        bif decide (Span.lo a > Span.hi a) then
          Out.need True (Out.callP (77 : Nat) [] [Ty.span] fun x => Out.need (True ∧ True ∧ True) (Out.ret x))
        else Out.need (True ∧ True ∧ True) (Out.ret a)) := by kernel_rfl

theorem t24 (a b : Span) : @Eq (Out (TyTup [.span])) (aexec Try.prog codes sigs Try.f24 (pureFin [.span]) 0 noCut 100 false (bodyOf Try.f24) (startS Try.f24 [⟨.span, a⟩, ⟨.span, b⟩]))
    (bif decide (Span.lo a > Span.hi a) then
  bif decide (Span.lo b > Span.hi b) then
    Out.need True (Out.callP (77 : Nat) [] [Ty.span] fun x => Out.need (True ∧ True ∧ True) (Out.ret x))
  else
    bif decide (Span.lo a > Span.hi a) then Out.need (True ∧ True ∧ True) (Out.ret b)
    else
      bif decide (Span.lo b > Span.hi b) then Out.need (True ∧ True ∧ True) (Out.ret a)
      else
        bif decide (Span.lo b < Span.lo a) then
          bif decide (Span.hi b > Span.hi a) then Out.need (True ∧ True ∧ True) (Out.ret b)
          else Out.need (True ∧ True ∧ True) (Out.ret (Span.mk (Span.lo b) (Span.hi a)))
        else
          bif decide (Span.hi b > Span.hi a) then
            Out.need (True ∧ True ∧ True) (Out.ret (Span.mk (Span.lo a) (Span.hi b)))
          else Out.need (True ∧ True ∧ True) (Out.ret a)
  else
  bif decide (Span.lo a > Span.hi a) then Out.need (True ∧ True ∧ True) (Out.ret b)
  else
    bif decide (Span.lo b > Span.hi b) then Out.need (True ∧ True ∧ True) (Out.ret a)
    else
      bif decide (Span.lo b < Span.lo a) then
        bif decide (Span.hi b > Span.hi a) then Out.need (True ∧ True ∧ True) (Out.ret b)
        else Out.need (True ∧ True ∧ True) (Out.ret (Span.mk (Span.lo b) (Span.hi a)))
      else
        bif decide (Span.hi b > Span.hi a) then
          Out.need (True ∧ True ∧ True) (Out.ret (Span.mk (Span.lo a) (Span.hi b)))
        else Out.need (True ∧ True ∧ True) (Out.ret a)) := by kernel_rfl

theorem t25 (a b : Span) : @Eq (Out (TyTup [.bool])) (aexec Try.prog codes sigs Try.f25 (pureFin [.bool]) 0 noCut 100 false (bodyOf Try.f25) (startS Try.f25 [⟨.span, a⟩, ⟨.span, b⟩]))
    (Out.need ((True ∧ True ∧ True) ∧ (True ∧ True ∧ True) ∧ True)
  (Out.callP (20 : Nat) [Sigma.mk Ty.span a, Sigma.mk Ty.span b] [Ty.span] fun x =>
    Out.need ((True ∧ True ∧ True) ∧ True)
      (Out.callP (75 : Nat) [Sigma.mk Ty.span x] [Ty.bool] fun x => Out.need (True ∧ True) (Out.ret !x)))) := by kernel_rfl

theorem t26 (a b : Span) : @Eq (Out (TyTup [.bool])) (aexec Try.prog codes sigs Try.f26 (pureFin [.bool]) 0 noCut 100 false (bodyOf Try.f26) (startS Try.f26 [⟨.span, a⟩, ⟨.span, b⟩]))
    (Out.need ((True ∧ True ∧ True) ∧ (True ∧ True ∧ True) ∧ True)
  (Out.callP (23 : Nat) [Sigma.mk Ty.span a, Sigma.mk Ty.span b] [Ty.span] fun x =>
    Out.need True
      (Out.callP (77 : Nat) [] [Ty.span] fun x_1 =>
        Out.need (True ∧ True) (Out.ret !(Span.lo x == Span.lo x_1 && (Span.hi x == Span.hi x_1 && true)))))) := by kernel_rfl

theorem t27 (a : Span) : @Eq (Out (TyTup [.int])) (aexec Try.prog codes sigs Try.f27 (pureFin [.int]) 0 noCut 100 false (bodyOf Try.f27) (startS Try.f27 [⟨.span, a⟩]))
    (Out.need ((True ∧ True ∧ True) ∧ True)
  (Out.callP (75 : Nat) [Sigma.mk Ty.span a] [Ty.bool] fun x =>
    bif x then Out.need (True ∧ True) (Out.ret (0 : Int))
    else
      Out.need (True ∧ True)
        (Out.ret
          (IntKind.wrap IntKind.i64
            (IntKind.wrap IntKind.i64
                (if
                    (9223372036854775806 : Int) <
                      IntKind.wrap IntKind.u64
                        (IntKind.wrap IntKind.u64 (Span.hi a) - IntKind.wrap IntKind.u64 (Span.lo a)) then
                  (9223372036854775806 : Int)
                else
                  IntKind.wrap IntKind.u64
                    (IntKind.wrap IntKind.u64 (Span.hi a) - IntKind.wrap IntKind.u64 (Span.lo a))) +
              (1 : Int)))))) := by kernel_rfl

theorem t28 (a : Span) : @Eq (Out (TyTup [.int])) (aexec Try.prog codes sigs Try.f28 (pureFin [.int]) 0 noCut 100 false (bodyOf Try.f28) (startS Try.f28 [⟨.span, a⟩]))
    (bif decide (Span.lo a > Span.hi a) then Out.need (True ∧ True) (Out.ret (0 : Int))
  else
  bif decide (Span.lo a ≤ (0 : Int)) then
    bif decide (Span.hi a ≥ IntKind.wrap IntKind.i64 ((9223372036854775807 : Int) + Span.lo a)) then
      Out.need (True ∧ True) (Out.ret (9223372036854775807 : Int))
    else
      Out.need (True ∧ True)
        (Out.ret (IntKind.wrap IntKind.i64 (IntKind.wrap IntKind.i64 (Span.hi a - Span.lo a) + (1 : Int))))
  else
    Out.need (True ∧ True)
      (Out.ret (IntKind.wrap IntKind.i64 (IntKind.wrap IntKind.i64 (Span.hi a - Span.lo a) + (1 : Int))))) := by kernel_rfl

theorem t29 (a : Span) (x : Int) : @Eq (Out (TyTup [.bool])) (aexec Try.prog codes sigs Try.f29 (pureFin [.bool]) 0 noCut 100 false (bodyOf Try.f29) (startS Try.f29 [⟨.span, a⟩, ⟨.int, x⟩]))
    (bif decide (x ≥ Span.lo a) then Out.need (True ∧ True) (Out.ret (decide (x ≤ Span.hi a)))
  else Out.need (True ∧ True) (Out.ret false)) := by kernel_rfl

theorem t30 (a : Span) (x : Int) : @Eq (Out (TyTup [.bool])) (aexec Try.prog codes sigs Try.f30 (pureFin [.bool]) 0 noCut 100 false (bodyOf Try.f30) (startS Try.f30 [⟨.span, a⟩, ⟨.int, x⟩]))
    (bif decide (Span.lo a ≤ x) then Out.need (True ∧ True) (Out.ret (decide (x ≤ Span.hi a)))
  else Out.need (True ∧ True) (Out.ret false)) := by kernel_rfl

theorem t82 (a b : Span) : @Eq (Out (TyTup [.bool])) (aexec Try.prog codes sigs Try.f82 (pureFin [.bool]) 0 noCut 100 false (bodyOf Try.f82) (startS Try.f82 [⟨.span, a⟩, ⟨.span, b⟩]))
    (bif decide (Span.lo b ≤ Span.hi a) then Out.need (True ∧ True) (Out.ret true)
  else Out.need (True ∧ True) (Out.ret (IntKind.wrap IntKind.i64 (Span.lo b - (1 : Int)) == Span.hi a))) := by kernel_rfl

theorem t83 (a b : Span) : @Eq (Out (TyTup [.bool])) (aexec Try.prog codes sigs Try.f83 (pureFin [.bool]) 0 noCut 100 false (bodyOf Try.f83) (startS Try.f83 [⟨.span, a⟩, ⟨.span, b⟩]))
    (bif decide (Span.hi a < (9223372036854775807 : Int)) then
  Out.need (True ∧ True) (Out.ret (IntKind.wrap IntKind.i64 (Span.hi a + (1 : Int)) == Span.lo b))
  else Out.need (True ∧ True) (Out.ret false)) := by kernel_rfl

end Go.Proofs.Sp

/- The spans' small functions: what they compute. (Own work.) -/
namespace Go.Proofs.Sp
open Go Go.VL

theorem sat_bif {α : Type} {P : Program} {A : List Item → AS → Prop} {R0 : α → Prop} {b : Bool} {S T : Out α} (h1 : b = true → Sat P A R0 S) (h0 : b = false → Sat P A R0 T) : Sat P A R0 (bif b then S else T) := by
  cases b
  · exact h0 rfl
  · exact h1 rfl

abbrev T3 : True ∧ True ∧ True := ⟨trivial, trivial, trivial⟩

def emp (a : Span) : Bool := decide (a.lo > a.hi)
def nil : Span := ⟨0, -1⟩
def meet (a b : Span) : Span := ⟨if b.lo > a.lo then b.lo else a.lo, if b.hi < a.hi then b.hi else a.hi⟩
def over (a b : Span) : Span := ⟨if b.lo < a.lo then b.lo else a.lo, if b.hi > a.hi then b.hi else a.hi⟩
def cut (a b : Span) : Span := bif emp (meet a b) then nil else meet a b
def hull (a b : Span) : Span := bif emp a then (bif emp b then nil else b) else bif emp b then a else over a b
def meets (a b : Span) : Bool := !emp (cut a b)
def has (a : Span) (x : Int) : Bool := bif decide (x ≥ a.lo) then decide (x ≤ a.hi) else false
def len1 (a : Span) : Int := bif emp a then 0 else
  IntKind.i64.wrap (IntKind.i64.wrap (if 9223372036854775806 < IntKind.u64.wrap (IntKind.u64.wrap a.hi - IntKind.u64.wrap a.lo) then 9223372036854775806 else IntKind.u64.wrap (IntKind.u64.wrap a.hi - IntKind.u64.wrap a.lo)) + 1)

theorem c75 (a : Span) : Pure Try.prog 75 [⟨.span, a⟩] [.bool] (emp a) := ofT Try.func75 (t75 a) (by kernel_rfl) (by kernel_rfl) fun _ => ⟨⟨trivial, trivial⟩, rfl⟩
theorem c76 : Pure Try.prog 76 [] [.span] nil := ofT Try.func76 t76 (by kernel_rfl) (by kernel_rfl) fun _ => ⟨T3, rfl⟩
theorem c77 : Pure Try.prog 77 [] [.span] nil := ofT Try.func77 t77 (by kernel_rfl) (by kernel_rfl) fun _ => ⟨T3, rfl⟩
theorem c20 (a b : Span) : Pure Try.prog 20 [⟨.span, a⟩, ⟨.span, b⟩] [.span] (cut a b) := ofT Try.func20 (t20 a b) (by kernel_rfl) (by kernel_rfl) fun A => by
  refine ⟨⟨T3, trivial⟩, _, c75 (meet a b), sat_bif (fun h => ?_) (fun h => ?_)⟩
  · refine ⟨trivial, _, c76, T3, ?_⟩
    show nil = cut a b
    rw [cut, h]; rfl
  · refine ⟨T3, ?_⟩
    show meet a b = cut a b
    rw [cut, h]; rfl
theorem c21 (a b : Span) : Pure Try.prog 21 [⟨.span, a⟩, ⟨.span, b⟩] [.span] (hull a b) := ofT Try.func21 (t21 a b) (by kernel_rfl) (by kernel_rfl) fun A => by
  refine ⟨⟨T3, trivial⟩, _, c75 a, sat_bif (fun h => ?_) (fun h => ?_)⟩
  · refine ⟨⟨T3, trivial⟩, _, c75 b, sat_bif (fun h2 => ?_) (fun h2 => ?_)⟩
    · refine ⟨trivial, _, c76, T3, ?_⟩
      show nil = hull a b
      rw [hull, h, h2]; rfl
    · refine ⟨⟨T3, trivial⟩, _, c75 a, sat_bif (fun h3 => ?_) (fun h3 => ?_)⟩
      · refine ⟨T3, ?_⟩
        show b = hull a b
        rw [hull, h, h2]; rfl
      · rw [h] at h3; cases h3
  · refine ⟨⟨T3, trivial⟩, _, c75 a, sat_bif (fun h3 => ?_) (fun h3 => ?_)⟩
    · rw [h] at h3; cases h3
    · refine ⟨⟨T3, trivial⟩, _, c75 b, sat_bif (fun h2 => ?_) (fun h2 => ?_)⟩
      · refine ⟨T3, ?_⟩
        show a = hull a b
        rw [hull, h, h2]; rfl
      · refine ⟨T3, ?_⟩
        show over a b = hull a b
        rw [hull, h, h2]; rfl
theorem c25 (a b : Span) : Pure Try.prog 25 [⟨.span, a⟩, ⟨.span, b⟩] [.bool] (meets a b) := ofT Try.func25 (t25 a b) (by kernel_rfl) (by kernel_rfl) fun A =>
  ⟨⟨T3, T3, trivial⟩, _, c20 a b, ⟨T3, trivial⟩, _, c75 _, ⟨trivial, trivial⟩, rfl⟩
theorem c27 (a : Span) : Pure Try.prog 27 [⟨.span, a⟩] [.int] (len1 a) := ofT Try.func27 (t27 a) (by kernel_rfl) (by kernel_rfl) fun A => by
  refine ⟨⟨T3, trivial⟩, _, c75 a, sat_bif (fun h => ?_) (fun h => ?_)⟩
  · refine ⟨⟨trivial, trivial⟩, ?_⟩
    show (0 : Int) = len1 a
    rw [len1, h]; rfl
  · refine ⟨⟨trivial, trivial⟩, ?_⟩
    show _ = len1 a
    rw [len1, h]; rfl
theorem c29 (a : Span) (x : Int) : Pure Try.prog 29 [⟨.span, a⟩, ⟨.int, x⟩] [.bool] (has a x) := ofT Try.func29 (t29 a x) (by kernel_rfl) (by kernel_rfl) fun A => by
  refine sat_bif (fun h => ?_) (fun h => ?_)
  · refine ⟨⟨trivial, trivial⟩, ?_⟩
    show _ = has a x
    rw [has, h]; rfl
  · refine ⟨⟨trivial, trivial⟩, ?_⟩
    show _ = has a x
    rw [has, h]; rfl

/-! ### the reference's -/
theorem c23 (a b : Span) : Pure Try.prog 23 [⟨.span, a⟩, ⟨.span, b⟩] [.span] (bif emp a then nil else bif emp b then nil else cut a b) := ofT Try.func23 (t23 a b) (by kernel_rfl) (by kernel_rfl) fun A => by
  have key : ∀ (lo hi : Int) (c : Span), ⟨lo, hi⟩ = meet a b → c = ⟨lo, hi⟩ →
      Sat Try.prog A (fun y => y = (bif emp a then nil else bif emp b then nil else cut a b)) (bif decide (Span.lo a > Span.hi a) then
        Out.need True (Out.callP (77 : Nat) [] [Ty.span] fun x => Out.need (True ∧ True ∧ True) (Out.ret x))
      else bif decide (Span.lo b > Span.hi b) then
          Out.need True (Out.callP (77 : Nat) [] [Ty.span] fun x => Out.need (True ∧ True ∧ True) (Out.ret x))
        else bif decide (lo > hi) then
            Out.need True (Out.callP (77 : Nat) [] [Ty.span] fun x => Out.need (True ∧ True ∧ True) (Out.ret x))
          else Out.need (True ∧ True ∧ True) (Out.ret (α := TyTup [.span]) c)) := by
    intro lo hi c hm hc
    refine sat_bif (fun h => ?_) (fun h => sat_bif (fun h2 => ?_) (fun h2 => sat_bif (fun h3 => ?_) (fun h3 => ?_)))
    · refine ⟨trivial, _, c77, T3, ?_⟩
      show nil = _
      have h : emp a = true := h
      rw [h]; rfl
    · refine ⟨trivial, _, c77, T3, ?_⟩
      show nil = _
      have h : emp a = false := h
      have h2 : emp b = true := h2
      rw [h, h2]; rfl
    · refine ⟨trivial, _, c77, T3, ?_⟩
      show nil = _
      have h : emp a = false := h
      have h2 : emp b = false := h2
      have h3 : emp (meet a b) = true := by rw [← hm]; exact h3
      rw [h, h2, cut, h3]; rfl
    · refine ⟨T3, ?_⟩
      show c = _
      have h : emp a = false := h
      have h2 : emp b = false := h2
      have h3 : emp (meet a b) = false := by rw [← hm]; exact h3
      rw [h, h2, cut, h3, hc, hm]; rfl
  refine sat_bif (fun h => sat_bif (fun h2 => ?_) (fun h2 => ?_)) (fun h => sat_bif (fun h2 => ?_) (fun h2 => ?_))
  all_goals simp only [decide_eq_true_eq, decide_eq_false_iff_not] at h h2
  · exact key b.lo b.hi b (by simp [meet, h, h2]) rfl
  · exact key b.lo a.hi _ (by simp [meet, h, h2]) rfl
  · exact key a.lo b.hi _ (by simp [meet, h, h2]) rfl
  · exact key a.lo a.hi a (by simp [meet, h, h2]) rfl
end Go.Proofs.Sp

namespace Go.Proofs.Sp
open Go Go.VL


theorem t79 (xs : List Span) : @Eq (Out GRes) (aexec Try.prog codes sigs Try.f79 (gFin 0) 0 ⟨[], true⟩ 100 false (bodyOf Try.f79) (startG Try.f79 [.d (.sl .span xs)] [] 0))
    (Out.ask (fun (b : Bool) => b = true → List.length xs = (0 : Nat)) fun (b : Bool) =>
  bif b then
    Out.stop (rt Try.f79 (0 : Nat))
      (mkS (8 : Nat) [((2 : Nat), AV.d (D.v (Value.slice none (0 : Nat) (0 : Nat))))] [] (0 : Nat))
  else
    Out.need True
      (Out.need (((0 : Nat) + List.length xs) * (17 : Nat) ≤ (35184372088832 : Nat) ∧ True)
        (Out.stop (rt Try.f79 (1 : Nat))
          (mkS (8 : Nat) [((2 : Nat), AV.own (0 : Nat) Ty.span)] [((0 : Nat), ABlk.row (38 : Nat) Ty.span ([] ++ xs))]
            (1 : Nat))))) := by kernel_rfl

theorem t112 (xs : List Span) : @Eq (Out GRes) (aexec Try.prog codes sigs Try.f112 (gFin 1) 1 noCut 100 false (bodyOf Try.f112) (startG Try.f112 [.own 0 .span, .clo (.func 75) [] []] [(0, .row 38 .span xs)] 1))
    (Out.stop (hd Try.f112 (0 : Nat))
  (mkS (19 : Nat)
    [((0 : Nat), AV.own (0 : Nat) Ty.span), ((1 : Nat), AV.clo (Fn.func (75 : FuncId)) [] []),
      ((7 : Nat), AV.d (D.v (Value.int IntKind.i64 (↑(List.length xs) : Int)))),
      ((8 : Nat), AV.d (D.v (Value.int IntKind.i64 (0 : Int))))]
    [((0 : Nat), ABlk.row (38 : TypeId) Ty.span xs)] (1 : Nat))) := by kernel_rfl

theorem t78 (xs : List Span) : @Eq (Out GRes) (aexec Try.prog codes sigs Try.f78 (gFin 1) 1 noCut 100 false (bodyOf Try.f78) (startG Try.f78 [.own 0 .span, .clo (.func 75) [] []] [(0, .row 38 .span xs)] 1))
    (Out.callG (112 : Nat) [AV.own (0 : Nat) Ty.span, AV.clo (Fn.func (75 : FuncId)) [] []]
  [((0 : Nat), ABlk.row (38 : TypeId) Ty.span xs)] (1 : Nat) [Ty.int]
  (fun (x : Int) =>
    GRes.mk [AV.d (D.v (Value.int IntKind.i64 x))] [((0 : Nat), ABlk.row (38 : TypeId) Ty.span xs)] (1 : Nat))
  fun (x : Int) =>
  bif x == (-1 : Int) then
    Out.need True
      (Out.ret (GRes.mk [AV.own (0 : Nat) Ty.span] [((0 : Nat), ABlk.row (38 : TypeId) Ty.span xs)] (1 : Nat)))
  else
    Out.stop (hd Try.f78 (0 : Nat))
      (mkS (42 : Nat)
        [((0 : Nat), AV.own (0 : Nat) Ty.span), ((1 : Nat), AV.clo (Fn.func (75 : FuncId)) [] []),
          ((5 : Nat), AV.d (D.v (Value.int IntKind.i64 x))),
          ((6 : Nat), AV.d (D.v (Value.int IntKind.i64 (IntKind.wrap IntKind.i64 (x + (1 : Int))))))]
        [((0 : Nat), ABlk.row (38 : TypeId) Ty.span xs)] (1 : Nat))) := by kernel_rfl

theorem t81 (a b : Span) : @Eq (Out (TyTup [.int])) (aexec Try.prog codes sigs Try.f81 (pureFin [.int]) 0 noCut 100 false (bodyOf Try.f81) (startS Try.f81 [⟨.span, a⟩, ⟨.span, b⟩]))
    (bif decide (Span.lo a < Span.lo b) then Out.need (True ∧ True) (Out.ret (-1 : Int))
  else
  bif decide (Span.lo a > Span.lo b) then Out.need (True ∧ True) (Out.ret (1 : Int))
  else Out.need (True ∧ True) (Out.ret (0 : Int))) := by kernel_rfl

theorem t31 (xs : List Span) : @Eq (Out (TyTup [.sl .span])) (aexec Try.prog codes sigs Try.f31 (pureFin [.sl .span]) 0 noCut 100 false (bodyOf Try.f31) (startS Try.f31 [⟨.sl .span, xs⟩]))
    (Out.callG (79 : Nat) [AV.d (D.sl Ty.span xs)] [] (0 : Nat) [Ty.sl Ty.span]
  (fun (a : List Span) => GRes.mk [AV.own (0 : Nat) Ty.span] [((0 : Nat), ABlk.row (38 : TypeId) Ty.span a)] (1 : Nat))
  fun (x : List Span) =>
  Out.callG (78 : Nat) [AV.own (0 : Nat) Ty.span, AV.clo (Fn.func (75 : Nat)) [] []]
    [((0 : Nat), ABlk.row (38 : TypeId) Ty.span x)] (1 : Nat) [Ty.sl Ty.span]
    (fun (a : List Span) =>
      GRes.mk [AV.view (0 : Nat) Ty.span (0 : Nat) (List.length a)]
        [((0 : Nat), ABlk.row (38 : TypeId) Ty.span (pad (List.length x) a))] (1 : Nat))
    fun (x_1 : List Span) =>
    Out.callG (80 : Nat) [AV.view (0 : Nat) Ty.span (0 : Nat) (List.length x_1), AV.clo (Fn.func (81 : Nat)) [] []]
      [((0 : Nat), ABlk.row (38 : TypeId) Ty.span (pad (List.length x) x_1))] (1 : Nat) [Ty.sl Ty.span]
      (fun (a : List Span) => GRes.mk [] [((0 : Nat), ABlk.row (38 : TypeId) Ty.span a)] (1 : Nat))
      fun (x : List Span) =>
      Out.stop (hd Try.f31 (0 : Nat))
        (mkS (49 : Nat)
          [((4 : Nat), AV.d (D.v (Value.slice none (0 : Nat) (0 : Nat)))),
            ((13 : Nat), AV.view (0 : Nat) Ty.span (0 : Nat) (List.length x_1)),
            ((14 : Nat), AV.d (D.v (Value.int IntKind.i64 (↑(List.length x_1) : Int)))),
            ((15 : Nat), AV.d (D.v (Value.int IntKind.i64 (0 : Int))))]
          [((0 : Nat), ABlk.row (38 : TypeId) Ty.span x)] (1 : Nat))) := by kernel_rfl

end Go.Proofs.Sp

namespace Go.Proofs.Sp
open Go Go.VL

def i64 (n : Int) : AV := .d (.v (.int .i64 n))
def L112 (xs : List Span) (i : Int) : AS := mkS 19 [(0, .own 0 .span), (1, .clo (.func 75) [] []), (7, i64 xs.length), (8, i64 i)] [(0, .row 38 .span xs)] 1
def L78 (xs : List Span) (i j : Int) : AS := mkS 42 [(0, .own 0 .span), (1, .clo (.func 75) [] []), (5, i64 i), (6, i64 j)] [(0, .row 38 .span xs)] 1
def L31 (ys : List Span) (n : Nat) (out : List Span) (i : Int) : AS := mkS 49 [(4, .own 0 .span), (13, .view 1 .span 0 n), (14, i64 n), (15, i64 i)] [(0, .row 38 .span out), (1, .row 38 .span ys)] 2
def L35 (js : List Span) (out : List Span) (w : Span) (i : Int) : AS := mkS 61 [(3, .ptr 0 0), (5, .own 1 .span), (13, .d (.sl .span js)), (14, i64 js.length), (15, i64 i)] [(0, .box [i64 w.lo, i64 w.hi]), (1, .row 38 .span out)] 2


theorem t112b (xs : List Span) (i : Int) : @Eq (Out GRes) (aexec Try.prog codes sigs Try.f112 (gFin 1) 1 noCut 100 true (hd Try.f112 0) (L112 xs i))
    (bif decide (i < (↑(List.length xs) : Int)) then
  Out.need ((0 : Int) ≤ i ∧ i < (↑(List.length xs) : Int))
    (Out.need (Int.toNat i < List.length xs)
      (Out.need ((True ∧ True ∧ True) ∧ True)
        (Out.callP (75 : FuncId) [Sigma.mk Ty.span (List.getD xs (Int.toNat i) (Ty.dflt Ty.span))] [Ty.bool]
          fun (x : Bool) =>
          bif x then
            Out.need True
              (Out.ret
                (GRes.mk [AV.d (D.v (Value.int IntKind.i64 i))] [((0 : Nat), ABlk.row (38 : TypeId) Ty.span xs)]
                  (1 : Nat)))
          else
            Out.stop (hd Try.f112 (0 : Nat))
              (mkS (19 : Nat)
                [((0 : Nat), AV.own (0 : Nat) Ty.span), ((1 : Nat), AV.clo (Fn.func (75 : FuncId)) [] []),
                  ((7 : Nat), AV.d (D.v (Value.int IntKind.i64 (↑(List.length xs) : Int)))),
                  ((8 : Nat), AV.d (D.v (Value.int IntKind.i64 (IntKind.wrap IntKind.i64 (i + (1 : Int))))))]
                [((0 : Nat), ABlk.row (38 : TypeId) Ty.span xs)] (1 : Nat)))))
  else
  Out.need True
    (Out.ret
      (GRes.mk [AV.d (D.v (Value.int IntKind.i64 (-1 : Int)))] [((0 : Nat), ABlk.row (38 : TypeId) Ty.span xs)]
        (1 : Nat)))) := by kernel_rfl

theorem t78b (xs : List Span) (i j : Int) : @Eq (Out GRes) (aexec Try.prog codes sigs Try.f78 (gFin 1) 1 noCut 100 true (hd Try.f78 0) (L78 xs i j))
    (bif decide (j < (↑(List.length xs) : Int)) then
  Out.need ((0 : Int) ≤ j ∧ j < (↑(List.length xs) : Int))
    (Out.need (Int.toNat j < List.length xs)
      (Out.need ((True ∧ True ∧ True) ∧ True)
        (Out.callP (75 : FuncId) [Sigma.mk Ty.span (List.getD xs (Int.toNat j) (Ty.dflt Ty.span))] [Ty.bool]
          fun (x : Bool) =>
          bif !x then
            Out.need ((0 : Int) ≤ i ∧ i < (↑(List.length xs) : Int))
              (Out.need (Int.toNat i < List.length xs ∧ True ∧ True ∧ True)
                (Out.stop (hd Try.f78 (0 : Nat))
                  (mkS (42 : Nat)
                    [((0 : Nat), AV.own (0 : Nat) Ty.span), ((1 : Nat), AV.clo (Fn.func (75 : FuncId)) [] []),
                      ((5 : Nat), AV.d (D.v (Value.int IntKind.i64 (IntKind.wrap IntKind.i64 (i + (1 : Int)))))),
                      ((6 : Nat), AV.d (D.v (Value.int IntKind.i64 (IntKind.wrap IntKind.i64 (j + (1 : Int))))))]
                    [((0 : Nat),
                        ABlk.row (38 : TypeId) Ty.span
                          (List.set xs (Int.toNat i) (List.getD xs (Int.toNat j) (Ty.dflt Ty.span))))]
                    (1 : Nat))))
          else
            Out.stop (hd Try.f78 (0 : Nat))
              (mkS (42 : Nat)
                [((0 : Nat), AV.own (0 : Nat) Ty.span), ((1 : Nat), AV.clo (Fn.func (75 : FuncId)) [] []),
                  ((5 : Nat), AV.d (D.v (Value.int IntKind.i64 i))),
                  ((6 : Nat), AV.d (D.v (Value.int IntKind.i64 (IntKind.wrap IntKind.i64 (j + (1 : Int))))))]
                [((0 : Nat), ABlk.row (38 : TypeId) Ty.span xs)] (1 : Nat)))))
  else
  Out.need ((0 : Int) ≤ i ∧ i ≤ (↑(List.length xs) : Int))
    (Out.need (Int.toNat i + (List.length xs - Int.toNat i) ≤ List.length xs)
      (Out.need
        ((0 : Int) ≤ (0 : Int) ∧
          (0 : Int) ≤ i ∧
            i ≤
              (↑(List.length
                    (splice xs (Int.toNat i) (List.replicate (List.length xs - Int.toNat i) (Ty.dflt Ty.span)))) :
                Int))
        (Out.need True
          (Out.ret
            (GRes.mk [AV.view (0 : Nat) Ty.span (0 : Nat) (Int.toNat i - (0 : Nat))]
              [((0 : Nat),
                  ABlk.row (38 : TypeId) Ty.span
                    (splice xs (Int.toNat i) (List.replicate (List.length xs - Int.toNat i) (Ty.dflt Ty.span))))]
              (1 : Nat))))))) := by kernel_rfl

theorem t31b (ys : List Span) (n : Nat) (out : List Span) (i : Int) : @Eq (Out (TyTup [.sl .span])) (aexec Try.prog codes sigs Try.f31 (pureFin [.sl .span]) 0 noCut 150 true (hd Try.f31 0) (L31 ys n out i))
    (bif decide (i < (↑n : Int)) then
  Out.need ((0 : Int) ≤ i ∧ i < (↑n : Int))
    (Out.need ((0 : Nat) + Int.toNat i < List.length ys)
      (bif decide ((↑(List.length out) : Int) > (0 : Int)) then
        Out.need
          ((0 : Int) ≤ IntKind.wrap IntKind.i64 ((↑(List.length out) : Int) - (1 : Int)) ∧
            IntKind.wrap IntKind.i64 ((↑(List.length out) : Int) - (1 : Int)) < (↑(List.length out) : Int))
          (Out.need (Int.toNat (IntKind.wrap IntKind.i64 ((↑(List.length out) : Int) - (1 : Int))) < List.length out)
            (Out.need ((True ∧ True ∧ True) ∧ (True ∧ True ∧ True) ∧ True)
              (Out.callP (82 : Nat)
                [Sigma.mk Ty.span
                    (List.getD out (Int.toNat (IntKind.wrap IntKind.i64 ((↑(List.length out) : Int) - (1 : Int))))
                      (Ty.dflt Ty.span)),
                  Sigma.mk Ty.span (List.getD ys ((0 : Nat) + Int.toNat i) (Ty.dflt Ty.span))]
                [Ty.bool] fun (x : Bool) =>
                bif x then
                  Out.need
                    ((0 : Int) ≤ IntKind.wrap IntKind.i64 ((↑(List.length out) : Int) - (1 : Int)) ∧
                      IntKind.wrap IntKind.i64 ((↑(List.length out) : Int) - (1 : Int)) < (↑(List.length out) : Int))
                    (Out.need
                      (Int.toNat (IntKind.wrap IntKind.i64 ((↑(List.length out) : Int) - (1 : Int))) < List.length out)
                      (Out.need ((True ∧ True ∧ True) ∧ (True ∧ True ∧ True) ∧ True)
                        (Out.callP (21 : Nat)
                          [Sigma.mk Ty.span
                              (List.getD out
                                (Int.toNat (IntKind.wrap IntKind.i64 ((↑(List.length out) : Int) - (1 : Int))))
                                (Ty.dflt Ty.span)),
                            Sigma.mk Ty.span (List.getD ys ((0 : Nat) + Int.toNat i) (Ty.dflt Ty.span))]
                          [Ty.span] fun (x : Span) =>
                          Out.need
                            ((0 : Int) ≤ IntKind.wrap IntKind.i64 ((↑(List.length out) : Int) - (1 : Int)) ∧
                              IntKind.wrap IntKind.i64 ((↑(List.length out) : Int) - (1 : Int)) <
                                (↑(List.length out) : Int))
                            (Out.need
                              (Int.toNat (IntKind.wrap IntKind.i64 ((↑(List.length out) : Int) - (1 : Int))) <
                                  List.length out ∧
                                True ∧ True ∧ True)
                              (Out.stop (hd Try.f31 (0 : Nat))
                                (mkS (49 : Nat)
                                  [((4 : Nat), AV.own (0 : Nat) Ty.span),
                                    ((13 : Nat), AV.view (1 : Nat) Ty.span (0 : Nat) n),
                                    ((14 : Nat), AV.d (D.v (Value.int IntKind.i64 (↑n : Int)))),
                                    ((15 : Nat),
                                      AV.d (D.v (Value.int IntKind.i64 (IntKind.wrap IntKind.i64 (i + (1 : Int))))))]
                                  [((0 : Nat),
                                      ABlk.row (38 : TypeId) Ty.span
                                        (List.set out
                                          (Int.toNat
                                            (IntKind.wrap IntKind.i64 ((↑(List.length out) : Int) - (1 : Int))))
                                          x)),
                                    ((1 : Nat), ABlk.row (38 : TypeId) Ty.span ys)]
                                  (2 : Nat)))))))
                else
                  Out.need ((True ∧ True ∧ True) ∧ True)
                    (Out.need
                      ((List.length out + List.length [List.getD ys ((0 : Nat) + Int.toNat i) (Ty.dflt Ty.span)]) *
                            (17 : Nat) ≤
                          (35184372088832 : Nat) ∧
                        True)
                      (Out.stop (hd Try.f31 (0 : Nat))
                        (mkS (49 : Nat)
                          [((4 : Nat), AV.own (0 : Nat) Ty.span), ((13 : Nat), AV.view (1 : Nat) Ty.span (0 : Nat) n),
                            ((14 : Nat), AV.d (D.v (Value.int IntKind.i64 (↑n : Int)))),
                            ((15 : Nat), AV.d (D.v (Value.int IntKind.i64 (IntKind.wrap IntKind.i64 (i + (1 : Int))))))]
                          [((0 : Nat),
                              ABlk.row (38 : Nat) Ty.span
                                (out ++ [List.getD ys ((0 : Nat) + Int.toNat i) (Ty.dflt Ty.span)])),
                            ((1 : Nat), ABlk.row (38 : TypeId) Ty.span ys)]
                          (2 : Nat)))))))
      else
        Out.need ((True ∧ True ∧ True) ∧ True)
          (Out.need
            ((List.length out + List.length [List.getD ys ((0 : Nat) + Int.toNat i) (Ty.dflt Ty.span)]) * (17 : Nat) ≤
                (35184372088832 : Nat) ∧
              True)
            (Out.stop (hd Try.f31 (0 : Nat))
              (mkS (49 : Nat)
                [((4 : Nat), AV.own (0 : Nat) Ty.span), ((13 : Nat), AV.view (1 : Nat) Ty.span (0 : Nat) n),
                  ((14 : Nat), AV.d (D.v (Value.int IntKind.i64 (↑n : Int)))),
                  ((15 : Nat), AV.d (D.v (Value.int IntKind.i64 (IntKind.wrap IntKind.i64 (i + (1 : Int))))))]
                [((0 : Nat),
                    ABlk.row (38 : Nat) Ty.span (out ++ [List.getD ys ((0 : Nat) + Int.toNat i) (Ty.dflt Ty.span)])),
                  ((1 : Nat), ABlk.row (38 : TypeId) Ty.span ys)]
                (2 : Nat))))))
  else Out.need (True ∧ True) (Out.ret out)) := by kernel_rfl

theorem t35 (xs : List Span) (a : Span) : @Eq (Out (TyTup [.sl .span])) (aexec Try.prog codes sigs Try.f35 (pureFin [.sl .span]) 0 noCut 100 false (bodyOf Try.f35) (startS Try.f35 [⟨.sl .span, xs⟩, ⟨.span, a⟩]))
    (Out.need ((True ∧ True ∧ True) ∧ True)
  (Out.callP (75 : Nat) [Sigma.mk Ty.span a] [Ty.bool] fun (x : Bool) =>
    bif x then Out.need (True ∧ True) (Out.ret [])
    else
      Out.need ((True ∧ True) ∧ True)
        (Out.callP (31 : Nat) [Sigma.mk (Ty.sl Ty.span) xs] [Ty.sl Ty.span] fun (x : List Span) =>
          Out.stop (hd Try.f35 (0 : Nat))
            (mkS (61 : Nat)
              [((3 : Nat), AV.ptr (0 : Nat) (0 : Nat)), ((5 : Nat), AV.d (D.v (Value.slice none (0 : Nat) (0 : Nat)))),
                ((13 : Nat), AV.d (D.sl Ty.span x)),
                ((14 : Nat), AV.d (D.v (Value.int IntKind.i64 (↑(List.length x) : Int)))),
                ((15 : Nat), AV.d (D.v (Value.int IntKind.i64 (0 : Int))))]
              [((0 : Nat),
                  ABlk.box
                    [AV.d (D.v (Value.int IntKind.i64 (Span.lo a))), AV.d (D.v (Value.int IntKind.i64 (Span.hi a)))])]
              (1 : Nat))))) := by kernel_rfl

theorem t35b (js : List Span) (out : List Span) (w : Span) (i : Int) : @Eq (Out (TyTup [.sl .span])) (aexec Try.prog codes sigs Try.f35 (pureFin [.sl .span]) 0 noCut 150 true (hd Try.f35 0) (L35 js out w i))
    (bif decide (i < (↑(List.length js) : Int)) then
  Out.need (((0 : Int) ≤ i ∧ i < (↑(List.length js) : Int)) ∧ True)
    (Out.need ((True ∧ True ∧ True) ∧ (True ∧ True ∧ True) ∧ True)
      (Out.callP (20 : Nat) [Sigma.mk Ty.span (List.getD js (Int.toNat i) (Ty.dflt Ty.span)), Sigma.mk Ty.span w]
        [Ty.span] fun (x : Span) =>
        Out.need ((True ∧ True ∧ True) ∧ True)
          (Out.callP (75 : Nat) [Sigma.mk Ty.span x] [Ty.bool] fun (x_1 : Bool) =>
            bif x_1 then
              Out.stop (hd Try.f35 (0 : Nat))
                (mkS (61 : Nat)
                  [((3 : Nat), AV.ptr (0 : Nat) (0 : Nat)), ((5 : Nat), AV.own (1 : Nat) Ty.span),
                    ((13 : Nat), AV.d (D.sl Ty.span js)),
                    ((14 : Nat), AV.d (D.v (Value.int IntKind.i64 (↑(List.length js) : Int)))),
                    ((15 : Nat), AV.d (D.v (Value.int IntKind.i64 (IntKind.wrap IntKind.i64 (i + (1 : Int))))))]
                  [((0 : Nat),
                      ABlk.box
                        [AV.d (D.v (Value.int IntKind.i64 (Span.lo w))),
                          AV.d (D.v (Value.int IntKind.i64 (Span.hi w)))]),
                    ((1 : Nat), ABlk.row (38 : TypeId) Ty.span out)]
                  (2 : Nat))
            else
              bif Span.lo x == Span.lo w && (Span.hi x == Span.hi w && true) then Out.need (True ∧ True) (Out.ret out)
              else
                bif decide (Span.lo x > Span.lo w) then
                  Out.need ((True ∧ True ∧ True) ∧ True)
                    (Out.need
                      ((List.length out +
                              List.length [Span.mk (Span.lo w) (IntKind.wrap IntKind.i64 (Span.lo x - (1 : Int)))]) *
                            (17 : Nat) ≤
                          (35184372088832 : Nat) ∧
                        True)
                      (bif Span.hi x == Span.hi w then
                        Out.need True
                          (Out.callP (76 : Nat) [] [Ty.span] fun (x_2 : Span) =>
                            Out.need ((True ∧ True ∧ True) ∧ True)
                              (Out.callP (75 : Nat) [Sigma.mk Ty.span x_2] [Ty.bool] fun (x_3 : Bool) =>
                                bif !x_3 then
                                  Out.need ((True ∧ True ∧ True) ∧ True)
                                    (Out.need
                                      ((List.length
                                                (out ++
                                                  [Span.mk (Span.lo w)
                                                      (IntKind.wrap IntKind.i64 (Span.lo x - (1 : Int)))]) +
                                              List.length [x_2]) *
                                            (17 : Nat) ≤
                                          (35184372088832 : Nat) ∧
                                        True)
                                      (Out.need (True ∧ True)
                                        (Out.ret
                                          (out ++
                                              [Span.mk (Span.lo w)
                                                  (IntKind.wrap IntKind.i64 (Span.lo x - (1 : Int)))] ++
                                            [x_2]))))
                                else
                                  Out.need (True ∧ True)
                                    (Out.ret
                                      (out ++
                                        [Span.mk (Span.lo w) (IntKind.wrap IntKind.i64 (Span.lo x - (1 : Int)))]))))
                      else
                        Out.stop (hd Try.f35 (0 : Nat))
                          (mkS (61 : Nat)
                            [((3 : Nat), AV.ptr (0 : Nat) (0 : Nat)), ((5 : Nat), AV.own (1 : Nat) Ty.span),
                              ((13 : Nat), AV.d (D.sl Ty.span js)),
                              ((14 : Nat), AV.d (D.v (Value.int IntKind.i64 (↑(List.length js) : Int)))),
                              ((15 : Nat),
                                AV.d (D.v (Value.int IntKind.i64 (IntKind.wrap IntKind.i64 (i + (1 : Int))))))]
                            [((0 : Nat),
                                ABlk.box
                                  [AV.d
                                      (D.v (Value.int IntKind.i64 (IntKind.wrap IntKind.i64 (Span.hi x + (1 : Int))))),
                                    AV.d (D.v (Value.int IntKind.i64 (Span.hi w)))]),
                              ((1 : Nat),
                                ABlk.row (38 : Nat) Ty.span
                                  (out ++ [Span.mk (Span.lo w) (IntKind.wrap IntKind.i64 (Span.lo x - (1 : Int)))]))]
                            (2 : Nat))))
                else
                  bif Span.hi x == Span.hi w then
                    Out.need True
                      (Out.callP (76 : Nat) [] [Ty.span] fun (x : Span) =>
                        Out.need ((True ∧ True ∧ True) ∧ True)
                          (Out.callP (75 : Nat) [Sigma.mk Ty.span x] [Ty.bool] fun (x_2 : Bool) =>
                            bif !x_2 then
                              Out.need ((True ∧ True ∧ True) ∧ True)
                                (Out.need
                                  ((List.length out + List.length [x]) * (17 : Nat) ≤ (35184372088832 : Nat) ∧ True)
                                  (Out.need (True ∧ True) (Out.ret (out ++ [x]))))
                            else Out.need (True ∧ True) (Out.ret out)))
                  else
                    Out.stop (hd Try.f35 (0 : Nat))
                      (mkS (61 : Nat)
                        [((3 : Nat), AV.ptr (0 : Nat) (0 : Nat)), ((5 : Nat), AV.own (1 : Nat) Ty.span),
                          ((13 : Nat), AV.d (D.sl Ty.span js)),
                          ((14 : Nat), AV.d (D.v (Value.int IntKind.i64 (↑(List.length js) : Int)))),
                          ((15 : Nat), AV.d (D.v (Value.int IntKind.i64 (IntKind.wrap IntKind.i64 (i + (1 : Int))))))]
                        [((0 : Nat),
                            ABlk.box
                              [AV.d (D.v (Value.int IntKind.i64 (IntKind.wrap IntKind.i64 (Span.hi x + (1 : Int))))),
                                AV.d (D.v (Value.int IntKind.i64 (Span.hi w)))]),
                          ((1 : Nat), ABlk.row (38 : TypeId) Ty.span out)]
                        (2 : Nat)))))
  else
  Out.need ((True ∧ True ∧ True) ∧ True)
    (Out.callP (75 : Nat) [Sigma.mk Ty.span w] [Ty.bool] fun (x : Bool) =>
      bif !x then
        Out.need ((True ∧ True ∧ True) ∧ True)
          (Out.need ((List.length out + List.length [w]) * (17 : Nat) ≤ (35184372088832 : Nat) ∧ True)
            (Out.need (True ∧ True) (Out.ret (out ++ [w]))))
      else Out.need (True ∧ True) (Out.ret out))) := by kernel_rfl

end Go.Proofs.Sp

/- slices.Clone, IndexFunc, DeleteFunc over spans: what they come to. (Own work.) -/
namespace Go.Proofs.Sp
open Go Go.VL

theorem wrap64 {n : Int} (h1 : -9223372036854775808 ≤ n) (h2 : n < 9223372036854775808) : IntKind.i64.wrap n = n := by
  unfold IntKind.wrap
  have e : (2 ^ IntKind.i64.bits : Int) = 18446744073709551616 := rfl
  have e2 : (2 ^ (IntKind.i64.bits - 1) : Int) = 9223372036854775808 := rfl
  have e3 : IntKind.i64.signed = true := rfl
  simp only [e, e2, e3, Bool.true_and]
  rcases Int.lt_or_le n 0 with h | h
  · have : n % 18446744073709551616 = n + 18446744073709551616 := by omega
    rw [this, if_pos (by simpa using by omega)]; omega
  · have : n % 18446744073709551616 = n := Int.emod_eq_of_lt h (by omega)
    rw [this, if_neg (by simpa using by omega)]

/-- The bound on a list of spans. -/
def Sm (n : Nat) : Prop := n * 17 ≤ 35184372088832

def fnd : List Span → Int → Int
  | [], _ => -1
  | x :: xs, i => bif emp x then i else fnd xs (i + 1)

theorem loop112 {xs : List Span} (hl : Sm xs.length) {A : List Item → AS → Prop} (hA : Closed Try.prog codes sigs Try.f112 (gFin 1) (fun r' => GRes.Le r' ⟨[i64 (fnd xs 0)], [(0, .row 38 .span xs)], 1⟩) 1 A) :
    ∀ (k i : Nat), i + k = xs.length → fnd (xs.drop i) i = fnd xs 0 → A (hd Try.f112 0) (L112 xs i)
  | 0, i, hi, hf => by
    refine hA.go (t112b xs i) (sat_bif (fun h => ?_) (fun h => ?_))
    · simp only [decide_eq_true_eq] at h; omega
    · refine ⟨trivial, .of_eq ?_⟩
      rw [List.drop_eq_nil_of_le (by omega)] at hf
      rw [← hf]; rfl
  | k + 1, i, hi, hf => by
    have hlt : i < xs.length := by omega
    have hg : xs.getD i Ty.span.dflt = xs[i] := by simp [List.getD, hlt]
    refine hA.go (t112b xs i) (sat_bif (fun h => ?_) (fun h => ?_))
    · refine ⟨⟨by omega, by omega⟩, by simpa using hlt, ⟨T3, trivial⟩, _, c75 _, ?_⟩
      rw [List.drop_eq_getElem_cons hlt] at hf
      have hf : (bif emp xs[i] then (i : Int) else fnd (xs.drop (i + 1)) (i + 1)) = fnd xs 0 := hf
      refine sat_bif (fun h2 => ?_) (fun h2 => ?_)
      · refine ⟨trivial, .of_eq ?_⟩
        have h2 : emp (xs.getD i Ty.span.dflt) = true := h2
        rw [hg] at h2
        rw [h2] at hf
        rw [← hf]; rfl
      · have h2 : emp (xs.getD i Ty.span.dflt) = false := h2
        rw [hg] at h2
        rw [h2] at hf
        have hw : IntKind.i64.wrap ((i : Int) + 1) = ((i + 1 : Nat) : Int) := by
          unfold Sm at hl
          rw [wrap64 (by omega) (by omega)]; rfl
        rw [hw]
        exact loop112 hl hA k (i + 1) (by omega) hf
    · simp only [decide_eq_false_iff_not] at h; omega

theorem c112 {xs : List Span} (hl : Sm xs.length) : Gc Try.prog 112 [.own 0 .span, .clo (.func 75) [] []] [(0, .row 38 .span xs)] 1 ⟨[i64 (fnd xs 0)], [(0, .row 38 .span xs)], 1⟩ :=
  Gc.of_closed (C := codes) (S := sigs) mixed Try.func112 (by kernel_rfl) (fun i T t ys _ h => ⟨ys, h, rfl⟩) fun _ hA =>
    hA.go (t112 xs) (loop112 hl hA xs.length 0 (by omega) rfl)

end Go.Proofs.Sp

namespace Go.Proofs.Sp
open Go Go.VL


theorem t79r0 (xs : List Span) : @Eq (Out GRes) (aexec Try.prog codes sigs Try.f79 (gFin 0) 0 noCut 100 true (rt Try.f79 0) (mkS 8 [(2, .own 0 .span)] [(0, .row 38 .span xs)] 1))
    (Out.need True (Out.ret (GRes.mk [AV.own (0 : Nat) Ty.span] [((0 : Nat), ABlk.row (38 : TypeId) Ty.span xs)] (1 : Nat)))) := by kernel_rfl

theorem t79r1 (xs : List Span) : @Eq (Out GRes) (aexec Try.prog codes sigs Try.f79 (gFin 0) 0 noCut 100 true (rt Try.f79 1) (mkS 8 [(2, .own 0 .span)] [(0, .row 38 .span xs)] 1))
    (Out.need True (Out.ret (GRes.mk [AV.own (0 : Nat) Ty.span] [((0 : Nat), ABlk.row (38 : TypeId) Ty.span xs)] (1 : Nat)))) := by kernel_rfl

end Go.Proofs.Sp

/- slices.Clone, DeleteFunc over spans: what they come to. (Own work.) -/
namespace Go.Proofs.Sp
open Go Go.VL

theorem sm_le {n m : Nat} (h : Sm n) (hm : m ≤ n) : Sm m := by unfold Sm at *; omega

theorem c79 {xs : List Span} (hl : Sm xs.length) : Gc Try.prog 79 [.d (.sl .span xs)] [] 0 ⟨[.own 0 .span], [(0, .row 38 .span xs)], 1⟩ :=
  Gc.of_closed (C := codes) (S := sigs) mixed Try.func79 (by kernel_rfl) (fun i T t ys hi _ => absurd hi (Nat.not_lt_zero _)) fun A hA =>
    hA.go (t79 xs) fun b hb => sat_bif (fun h => by
      have hx : xs = [] := List.eq_nil_of_length_eq_zero (hb h)
      subst hx
      exact hA.row 2 38 .span (by kernel_rfl) (s' := mkS 8 [(2, .own 0 .span)] [(0, .row 38 .span [])] 1) (by kernel_rfl) (hA.go (t79r0 []) ⟨trivial, .of_eq rfl⟩))
      (fun _ => ⟨trivial, ⟨by unfold Sm at hl; omega, trivial⟩, hA.go (t79r1 xs) ⟨trivial, .of_eq rfl⟩⟩)

/-- The spans that are not empty. -/
def keep (xs : List Span) : List Span := xs.filter fun a => !emp a

theorem fnd_none : ∀ {xs : List Span} {i : Int}, 0 ≤ i → fnd xs i = -1 → keep xs = xs
  | [], _, _, _ => rfl
  | x :: xs, i, hi, h => by
    unfold fnd at h
    cases hx : emp x
    · rw [hx] at h
      have := fnd_none (xs := xs) (i := i + 1) (by omega) h
      simp [keep, hx] at this ⊢
      exact this
    · rw [hx] at h
      simp only [cond_true] at h; omega
theorem fnd_some : ∀ {xs : List Span} {i : Int}, 0 ≤ i → fnd xs i ≠ -1 → ∃ k : Nat, k < xs.length ∧ fnd xs i = i + k ∧ keep (xs.take (k + 1)) = xs.take k
  | [], _, _, h => absurd rfl h
  | x :: xs, i, hi, h => by
    unfold fnd at h ⊢
    cases hx : emp x
    · rw [hx] at h
      simp only [cond_false] at h ⊢
      obtain ⟨k, h1, h2, h3⟩ := fnd_some (xs := xs) (i := i + 1) (by omega) h
      refine ⟨k + 1, by simp; omega, by rw [h2]; omega, ?_⟩
      simp [keep, hx] at h3 ⊢
      exact h3
    · refine ⟨0, by simp, by simp, ?_⟩
      simp [keep, hx]

theorem keep_take_succ {xs : List Span} {j : Nat} (hj : j < xs.length) : keep (xs.take (j + 1)) = keep (xs.take j) ++ (bif emp xs[j] then [] else [xs[j]]) := by
  rw [List.take_succ_eq_append_getElem hj]
  unfold keep
  rw [List.filter_append]
  cases h : emp xs[j] <;> simp [h]

abbrev res78 (xs : List Span) : GRes := ⟨[.view 0 .span 0 (keep xs).length], [(0, .row 38 .span (pad xs.length (keep xs)))], 1⟩

theorem loop78 {xs : List Span} (hl : Sm xs.length) {A : List Item → AS → Prop} (hA : Closed Try.prog codes sigs Try.f78 (gFin 1) (fun r' => GRes.Le r' (res78 xs)) 1 A) :
    ∀ (k i j : Nat) (zs : List Span), j + k = xs.length → i < j → zs.length = xs.length → zs.take i = keep (xs.take j) → zs.drop j = xs.drop j → A (hd Try.f78 0) (L78 zs i j)
  | 0, i, j, zs, hj, hij, hz, ht, _ => by
    have hi : i ≤ zs.length := by omega
    refine hA.go (t78b zs i j) (sat_bif (fun h => ?_) (fun h => ?_))
    · simp only [decide_eq_true_eq] at h; omega
    · have hki : (keep xs).length = i := by
        have := congrArg List.length ht
        rw [List.take_of_length_le (by omega : xs.length ≤ j), List.length_take, Nat.min_eq_left hi] at this
        exact this.symm
      have hsp : splice zs i (List.replicate (zs.length - i) Ty.span.dflt) = pad xs.length (keep xs) := by
        unfold splice pad
        rw [ht, List.take_of_length_le (by omega : xs.length ≤ j), hki, hz, List.length_replicate, List.drop_eq_nil_of_le (by omega), List.append_nil]
      refine ⟨⟨by omega, by omega⟩, by simp only [Int.toNat_natCast]; omega, ⟨by omega, by omega, ?_⟩, trivial, .of_eq ?_⟩
      · simp only [Int.toNat_natCast]
        rw [splice_length _ _ _ (by rw [List.length_replicate]; omega)]; omega
      · simp only [Int.toNat_natCast, res78, hsp, hki, Nat.sub_zero]
  | k + 1, i, j, zs, hj, hij, hz, ht, hd' => by
    have hjz : j < zs.length := by omega
    have hjx : j < xs.length := by omega
    have hg : zs.getD j Ty.span.dflt = xs[j] := by
      have := congrArg List.head? hd'
      simp only [List.head?_drop, List.getElem?_eq_getElem hjz, List.getElem?_eq_getElem hjx, Option.some.injEq] at this
      simp [List.getD, hjz, this]
    have hw : IntKind.i64.wrap ((j : Int) + 1) = ((j + 1 : Nat) : Int) := by
      unfold Sm at hl
      rw [wrap64 (by omega) (by omega)]; rfl
    have hw2 : IntKind.i64.wrap ((i : Int) + 1) = ((i + 1 : Nat) : Int) := by
      unfold Sm at hl
      rw [wrap64 (by omega) (by omega)]; rfl
    have hdd : zs.drop (j + 1) = xs.drop (j + 1) := by
      have := congrArg (List.drop 1) hd'
      simpa [List.drop_drop, Nat.add_comm] using this
    refine hA.go (t78b zs i j) (sat_bif (fun h => ?_) (fun h => ?_))
    · refine ⟨⟨by omega, by omega⟩, by simpa using hjz, ⟨T3, trivial⟩, _, c75 _, ?_⟩
      refine sat_bif (fun h2 => ?_) (fun h2 => ?_)
      · have h2 : emp xs[j] = false := by
          rw [← hg]; simpa using h2
        refine ⟨⟨by omega, by omega⟩, ⟨by simpa using by omega, T3⟩, ?_⟩
        rw [hw, hw2]
        have hset : List.set zs ((i : Int).toNat) (zs.getD ((j : Int).toNat) Ty.span.dflt) = zs.set i xs[j] := by rw [Int.toNat_natCast, Int.toNat_natCast, hg]
        show A (hd Try.f78 0) (L78 (List.set zs ((i : Int).toNat) (zs.getD ((j : Int).toNat) Ty.span.dflt)) (i + 1 : Nat) (j + 1 : Nat))
        rw [hset]
        refine loop78 hl hA k (i + 1) (j + 1) (zs.set i xs[j]) (by omega) (by omega) (by simpa using hz) ?_ ?_
        · rw [keep_take_succ hjx, h2, ← ht]
          have hiz : i < (zs.set i xs[j]).length := by simp; omega
          rw [List.take_succ_eq_append_getElem hiz, List.take_set_of_le (Nat.le_refl i)]
          simp
        · rw [List.drop_set_of_lt (by omega)]; exact hdd
      · have h2 : emp xs[j] = true := by
          rw [← hg]; simpa using h2
        rw [hw]
        refine loop78 hl hA k i (j + 1) zs (by omega) (by omega) hz ?_ hdd
        rw [keep_take_succ hjx, h2, ht]; simp
    · simp only [decide_eq_false_iff_not] at h; omega

theorem c78 {xs : List Span} (hl : Sm xs.length) : Gc Try.prog 78 [.own 0 .span, .clo (.func 75) [] []] [(0, .row 38 .span xs)] 1 (res78 xs) := by
  have hkl : (keep xs).length ≤ xs.length := List.length_filter_le _ _
  refine Gc.of_closed (C := codes) (S := sigs) mixed Try.func78 (by kernel_rfl) (fun i T t ys hi h => ?_) fun A hA => hA.go (t78 xs) ⟨fnd xs 0, c112 hl, sat_bif (fun h => ?_) (fun h => ?_)⟩
  · obtain rfl : i = 0 := by omega
    simp only [Heap.get, beq_self_eq_true, cond_true, Option.some.injEq, ABlk.row.injEq] at h
    obtain ⟨rfl, rfl, h⟩ := h
    refine ⟨xs, rfl, ?_⟩
    rw [← eq_of_heq h]
    simp [pad]; omega
  · have h : fnd xs 0 = -1 := by simpa using h
    have hk := fnd_none (Int.le_refl 0) h
    have hp : pad xs.length (keep xs) = xs := by rw [hk]; simp [pad]
    refine ⟨trivial, ⟨rfl, fun i x y hx hy => ?_, fun l b hb => ⟨b, ?_, .refl _ b⟩, Nat.le_refl _⟩⟩
    · cases i with
      | zero =>
        cases hx; cases hy
        rw [hk]
        exact .view rfl
      | succ i => cases hx
    · simp only [hp] at hb; exact hb
  · have h : fnd xs 0 ≠ -1 := by simpa using h
    obtain ⟨k, h1, h2, h3⟩ := fnd_some (Int.le_refl 0) h
    have h2 : fnd xs 0 = (k : Int) := by rw [h2]; omega
    rw [h2]
    have hw : IntKind.i64.wrap ((k : Int) + 1) = ((k + 1 : Nat) : Int) := by
      unfold Sm at hl
      rw [wrap64 (by omega) (by omega)]; rfl
    rw [hw]
    exact loop78 hl hA (xs.length - (k + 1)) k (k + 1) xs (by omega) (by omega) rfl h3.symm rfl

end Go.Proofs.Sp

/- The reference's small functions. (Own work.) -/
namespace Go.Proofs.Sp
open Go Go.VL

theorem c82 (a b : Span) : Pure Try.prog 82 [⟨.span, a⟩, ⟨.span, b⟩] [.bool] (bif decide (b.lo ≤ a.hi) then true else (IntKind.i64.wrap (b.lo - 1) == a.hi)) := ofT Try.func82 (t82 a b) (by kernel_rfl) (by kernel_rfl) fun A => by
  refine sat_bif (fun h => ?_) (fun h => ?_)
  · refine ⟨⟨trivial, trivial⟩, ?_⟩
    show true = _
    rw [h]; rfl
  · refine ⟨⟨trivial, trivial⟩, ?_⟩
    show (_ : Bool) = _
    rw [h]; rfl
theorem c83 (a b : Span) : Pure Try.prog 83 [⟨.span, a⟩, ⟨.span, b⟩] [.bool] (bif decide (a.hi < 9223372036854775807) then (IntKind.i64.wrap (a.hi + 1) == b.lo) else false) := ofT Try.func83 (t83 a b) (by kernel_rfl) (by kernel_rfl) fun A => by
  refine sat_bif (fun h => ?_) (fun h => ?_)
  · refine ⟨⟨trivial, trivial⟩, ?_⟩
    show (_ : Bool) = _
    rw [h]; rfl
  · refine ⟨⟨trivial, trivial⟩, ?_⟩
    show false = _
    rw [h]; rfl
theorem c30 (a : Span) (x : Int) : Pure Try.prog 30 [⟨.span, a⟩, ⟨.int, x⟩] [.bool] (has a x) := ofT Try.func30 (t30 a x) (by kernel_rfl) (by kernel_rfl) fun A => by
  refine sat_bif (fun h => ?_) (fun h => ?_)
  · refine ⟨⟨trivial, trivial⟩, ?_⟩
    show (_ : Bool) = has a x
    have h : decide (x ≥ a.lo) = true := h
    rw [has, h]; rfl
  · refine ⟨⟨trivial, trivial⟩, ?_⟩
    show false = has a x
    have h : decide (x ≥ a.lo) = false := h
    rw [has, h]; rfl
theorem c26 (a b : Span) : Pure Try.prog 26 [⟨.span, a⟩, ⟨.span, b⟩] [.bool] (!(((bif emp a then nil else bif emp b then nil else cut a b).lo == nil.lo) && (((bif emp a then nil else bif emp b then nil else cut a b).hi == nil.hi) && true))) :=
  ofT Try.func26 (t26 a b) (by kernel_rfl) (by kernel_rfl) fun A => ⟨⟨T3, T3, trivial⟩, _, c23 a b, trivial, _, c77, ⟨trivial, trivial⟩, rfl⟩
theorem c24 (a b : Span) : Pure Try.prog 24 [⟨.span, a⟩, ⟨.span, b⟩] [.span] (hull a b) := ofT Try.func24 (t24 a b) (by kernel_rfl) (by kernel_rfl) fun A => by
  have tail : emp a = false → emp b = false → Sat Try.prog A (fun y => y = hull a b) (bif decide (Span.lo b < Span.lo a) then
          bif decide (Span.hi b > Span.hi a) then Out.need (True ∧ True ∧ True) (Out.ret (α := TyTup [.span]) b)
          else Out.need (True ∧ True ∧ True) (Out.ret (Span.mk (Span.lo b) (Span.hi a)))
        else
          bif decide (Span.hi b > Span.hi a) then
            Out.need (True ∧ True ∧ True) (Out.ret (Span.mk (Span.lo a) (Span.hi b)))
          else Out.need (True ∧ True ∧ True) (Out.ret a)) := by
    intro ha hb
    have hh : hull a b = over a b := by rw [hull, ha, hb]; rfl
    refine sat_bif (fun h => sat_bif (fun h2 => ?_) (fun h2 => ?_)) (fun h => sat_bif (fun h2 => ?_) (fun h2 => ?_))
    all_goals simp only [decide_eq_true_eq, decide_eq_false_iff_not] at h h2
    all_goals refine ⟨T3, ?_⟩
    · show b = hull a b
      rw [hh]; simp [over, h, h2]
    · show (⟨b.lo, a.hi⟩ : Span) = hull a b
      rw [hh]; simp [over, h, h2]
    · show (⟨a.lo, b.hi⟩ : Span) = hull a b
      rw [hh]; simp [over, h, h2]
    · show a = hull a b
      rw [hh]; simp [over, h, h2]
  refine sat_bif (fun h => sat_bif (fun h2 => ?_) (fun h2 => sat_bif (fun h3 => ?_) (fun h3 => ?_))) (fun h => sat_bif (fun h3 => ?_) (fun h3 => sat_bif (fun h2 => ?_) (fun h2 => ?_)))
  · refine ⟨trivial, _, c77, T3, ?_⟩
    show nil = hull a b
    have h : emp a = true := h
    have h2 : emp b = true := h2
    rw [hull, h, h2]; rfl
  · refine ⟨T3, ?_⟩
    show b = hull a b
    have h : emp a = true := h
    have h2 : emp b = false := h2
    rw [hull, h, h2]; rfl
  · rw [h] at h3; cases h3
  · rw [h] at h3; cases h3
  · refine ⟨T3, ?_⟩
    show a = hull a b
    have h : emp a = false := h
    have h2 : emp b = true := h2
    rw [hull, h, h2]; rfl
  · exact tail h h2
def len2 (a : Span) : Int := bif emp a then 0 else bif decide (a.lo ≤ 0) then (bif decide (a.hi ≥ IntKind.i64.wrap (9223372036854775807 + a.lo)) then 9223372036854775807 else IntKind.i64.wrap (IntKind.i64.wrap (a.hi - a.lo) + 1)) else IntKind.i64.wrap (IntKind.i64.wrap (a.hi - a.lo) + 1)
theorem c28 (a : Span) : Pure Try.prog 28 [⟨.span, a⟩] [.int] (len2 a) := ofT Try.func28 (t28 a) (by kernel_rfl) (by kernel_rfl) fun A => by
  refine sat_bif (fun h => ?_) (fun h => sat_bif (fun h2 => sat_bif (fun h3 => ?_) (fun h3 => ?_)) (fun h2 => ?_))
  all_goals refine ⟨⟨trivial, trivial⟩, ?_⟩
  · show (0 : Int) = len2 a
    have h : emp a = true := h
    rw [len2, h]; rfl
  · show (9223372036854775807 : Int) = len2 a
    have h : emp a = false := h
    rw [len2, h, h2, h3]; rfl
  · show (_ : Int) = len2 a
    have h : emp a = false := h
    rw [len2, h, h2, h3]; rfl
  · show (_ : Int) = len2 a
    have h : emp a = false := h
    rw [len2, h, h2]; rfl

end Go.Proofs.Sp

/- span.Join: what it comes to (given what slices.SortFunc comes to). (Own work.) -/
namespace Go.Proofs.Sp
open Go Go.VL

def follows (a b : Span) : Bool := bif decide (b.lo ≤ a.hi) then true else (IntKind.i64.wrap (b.lo - 1) == a.hi)
def goJ : List Span → List Span → List Span
  | [], out => out
  | y :: ys, out => bif decide (0 < out.length) && follows (out.getD (out.length - 1) Ty.span.dflt) y then goJ ys (out.set (out.length - 1) (hull (out.getD (out.length - 1) Ty.span.dflt) y)) else goJ ys (out ++ [y])

theorem loop31 {ys : List Span} {n : Nat} (hn : n ≤ ys.length) (hl : Sm ys.length) {r : List Span} {A : List Item → AS → Prop} (hA : Closed Try.prog codes sigs Try.f31 (pureFin [.sl .span]) (fun y => y = r) 0 A) :
    ∀ (k i : Nat) (out : List Span), i + k = n → out.length ≤ i → goJ ((ys.take n).drop i) out = r → A (hd Try.f31 0) (L31 ys n out i)
  | 0, i, out, hi, ho, hr => by
    refine hA.go (t31b ys n out i) (sat_bif (fun h => ?_) (fun h => ?_))
    · simp only [decide_eq_true_eq] at h; omega
    · refine ⟨⟨trivial, trivial⟩, ?_⟩
      rw [List.drop_eq_nil_of_le (by rw [List.length_take]; omega)] at hr
      exact hr
  | k + 1, i, out, hi, ho, hr => by
    have hlt : i < n := by omega
    have hiy : i < (ys.take n).length := by rw [List.length_take]; omega
    rw [List.drop_eq_getElem_cons hiy] at hr
    have hy : ys.getD (0 + (i : Int).toNat) Ty.span.dflt = (ys.take n)[i] := by
      rw [Int.toNat_natCast, Nat.zero_add, List.getElem_take]
      simp [List.getD, show i < ys.length by omega]
    have hw : IntKind.i64.wrap ((i : Int) + 1) = ((i + 1 : Nat) : Int) := by
      unfold Sm at hl
      rw [wrap64 (by omega) (by omega)]; rfl
    unfold Sm at hl
    -- the new span goes to the end
    have fresh : (decide (0 < out.length) && follows (out.getD (out.length - 1) Ty.span.dflt) (ys.take n)[i]) = false → A (hd Try.f31 0) (L31 ys n (out ++ [ys.getD (0 + (i : Int).toNat) Ty.span.dflt]) (i + 1 : Nat)) := by
      intro hf
      have hr : (bif decide (0 < out.length) && follows (out.getD (out.length - 1) Ty.span.dflt) (ys.take n)[i] then _ else goJ ((ys.take n).drop (i + 1)) (out ++ [(ys.take n)[i]])) = r := hr
      rw [hf] at hr
      rw [hy]
      exact loop31 hn hl hA k (i + 1) _ (by omega) (by simp; omega) hr
    refine hA.go (t31b ys n out i) (sat_bif (fun h => ?_) (fun h => ?_))
    · refine ⟨⟨by omega, by omega⟩, by simp only [Int.toNat_natCast]; omega, sat_bif (fun h2 => ?_) (fun h2 => ?_)⟩
      · simp only [decide_eq_true_eq] at h2
        have hpos : 0 < out.length := by omega
        have hwl : IntKind.i64.wrap ((out.length : Int) - 1) = ((out.length - 1 : Nat) : Int) := by
          rw [wrap64 (by omega) (by omega)]; omega
        have hlast : out.getD ((IntKind.i64.wrap ((out.length : Int) - 1)).toNat) Ty.span.dflt = out.getD (out.length - 1) Ty.span.dflt := by rw [hwl, Int.toNat_natCast]
        have hn1 : (0 : Int) ≤ IntKind.i64.wrap ((out.length : Int) - 1) ∧ IntKind.i64.wrap ((out.length : Int) - 1) < (out.length : Int) := by rw [hwl]; omega
        have hn2 : (IntKind.i64.wrap ((out.length : Int) - 1)).toNat < out.length := by rw [hwl, Int.toNat_natCast]; omega
        refine ⟨hn1, hn2, ⟨T3, T3, trivial⟩, _, c82 _ _, sat_bif (fun h3 => ?_) (fun h3 => ?_)⟩
        · have h3 : follows (out.getD ((IntKind.i64.wrap ((out.length : Int) - 1)).toNat) Ty.span.dflt) (ys.getD (0 + (i : Int).toNat) Ty.span.dflt) = true := h3
          rw [hlast, hy] at h3
          refine ⟨hn1, hn2, ⟨T3, T3, trivial⟩, _, c21 _ _, hn1, ⟨hn2, T3⟩, ?_⟩
          have hr : (bif decide (0 < out.length) && follows (out.getD (out.length - 1) Ty.span.dflt) (ys.take n)[i] then goJ ((ys.take n).drop (i + 1)) (out.set (out.length - 1) (hull (out.getD (out.length - 1) Ty.span.dflt) (ys.take n)[i])) else _) = r := hr
          rw [h3, decide_eq_true hpos] at hr
          rw [hw]
          have hset : List.set out ((IntKind.i64.wrap ((out.length : Int) - 1)).toNat) (hull (out.getD ((IntKind.i64.wrap ((out.length : Int) - 1)).toNat) Ty.span.dflt) (ys.getD (0 + (i : Int).toNat) Ty.span.dflt)) =
              out.set (out.length - 1) (hull (out.getD (out.length - 1) Ty.span.dflt) (ys.take n)[i]) := by rw [hlast, hy, hwl, Int.toNat_natCast]
          show A (hd Try.f31 0) (L31 ys n (List.set out ((IntKind.i64.wrap ((out.length : Int) - 1)).toNat) (hull (out.getD ((IntKind.i64.wrap ((out.length : Int) - 1)).toNat) Ty.span.dflt) (ys.getD (0 + (i : Int).toNat) Ty.span.dflt))) (i + 1 : Nat))
          rw [hset]
          exact loop31 hn hl hA k (i + 1) _ (by omega) (by simp; omega) hr
        · have h3 : follows (out.getD ((IntKind.i64.wrap ((out.length : Int) - 1)).toNat) Ty.span.dflt) (ys.getD (0 + (i : Int).toNat) Ty.span.dflt) = false := h3
          rw [hlast, hy] at h3
          refine ⟨⟨T3, trivial⟩, ⟨by simp only [List.length_cons, List.length_nil]; omega, trivial⟩, ?_⟩
          rw [hw]
          exact fresh (by rw [h3, Bool.and_false])
      · refine ⟨⟨T3, trivial⟩, ⟨by simp only [List.length_cons, List.length_nil]; omega, trivial⟩, ?_⟩
        rw [hw]
        simp only [decide_eq_false_iff_not] at h2
        exact fresh (by rw [decide_eq_false (by omega), Bool.false_and])
    · simp only [decide_eq_false_iff_not] at h; omega

/-- span.Join, where slices.SortFunc sorts by 'srt'. -/
theorem c31_of (srt : List Span → List Span) (hlen : ∀ xs, (srt xs).length = xs.length)
    (h80 : ∀ (zs : List Span) (n : Nat), n ≤ zs.length → Sm zs.length → Gc Try.prog 80 [.view 0 .span 0 n, .clo (.func 81) [] []] [(0, .row 38 .span zs)] 1 ⟨[], [(0, .row 38 .span (srt (zs.take n) ++ zs.drop n))], 1⟩)
    {xs : List Span} (hl : Sm xs.length) : Pure Try.prog 31 [⟨.sl .span, xs⟩] [.sl .span] (goJ (srt (keep xs)) []) := by
  have hk : (keep xs).length ≤ xs.length := List.length_filter_le _ _
  have hp : (pad xs.length (keep xs)).length = xs.length := by simp [pad]; omega
  refine Pure.of_closed (C := codes) (S := sigs) mixed Try.func31 (by kernel_rfl) (Nat.le_of_ble_eq_true (by kernel_rfl)) fun A hA => hA.go (t31 xs) ⟨xs, c79 hl, keep xs, c78 hl, srt ((pad xs.length (keep xs)).take (keep xs).length) ++ (pad xs.length (keep xs)).drop (keep xs).length, h80 _ _ (by omega) (by rw [hp]; exact hl), ?_⟩
  have htake : (pad xs.length (keep xs)).take (keep xs).length = keep xs := by simp [pad]
  rw [htake]
  refine hA.row 4 38 .span (by kernel_rfl) (s' := L31 (srt (keep xs) ++ (pad xs.length (keep xs)).drop (keep xs).length) (keep xs).length [] 0) (by kernel_rfl) ?_
  refine loop31 (n := (keep xs).length) (by simp [hlen]) ?_ hA (keep xs).length 0 [] (by omega) (by simp) ?_
  · have : (srt (keep xs) ++ (pad xs.length (keep xs)).drop (keep xs).length).length = xs.length := by
      rw [List.length_append, hlen, List.length_drop, hp]; omega
    rw [this]; exact hl
  · rw [List.drop_zero, List.take_left' (hlen _)]

end Go.Proofs.Sp

/- span.Gaps: what it comes to. (Own work.) -/
namespace Go.Proofs.Sp
open Go Go.VL

def goG : List Span → List Span → Span → List Span
  | [], out, w => bif emp w then out else out ++ [w]
  | j :: js, out, w => bif emp (cut j w) then goG js out w else
      bif (cut j w).lo == w.lo && ((cut j w).hi == w.hi && true) then out else
        bif (cut j w).hi == w.hi then (bif decide ((cut j w).lo > w.lo) then out ++ [⟨w.lo, IntKind.i64.wrap ((cut j w).lo - 1)⟩] else out)
        else goG js (bif decide ((cut j w).lo > w.lo) then out ++ [⟨w.lo, IntKind.i64.wrap ((cut j w).lo - 1)⟩] else out) ⟨IntKind.i64.wrap ((cut j w).hi + 1), w.hi⟩

theorem loop35 {js : List Span} (hl : Sm (js.length + 1)) {r : List Span} {A : List Item → AS → Prop} (hA : Closed Try.prog codes sigs Try.f35 (pureFin [.sl .span]) (fun y => y = r) 0 A) :
    ∀ (k i : Nat) (out : List Span) (w : Span), i + k = js.length → out.length ≤ i → goG (js.drop i) out w = r → A (hd Try.f35 0) (L35 js out w i)
  | 0, i, out, w, hi, ho, hr => by
    unfold Sm at hl
    rw [List.drop_eq_nil_of_le (by omega)] at hr
    have hr : (bif emp w then out else out ++ [w]) = r := hr
    refine hA.go (t35b js out w i) (sat_bif (fun h => ?_) (fun h => ?_))
    · simp only [decide_eq_true_eq] at h; omega
    · refine ⟨⟨T3, trivial⟩, _, c75 w, sat_bif (fun h2 => ?_) (fun h2 => ?_)⟩
      · refine ⟨⟨T3, trivial⟩, ⟨by simp only [List.length_cons, List.length_nil]; omega, trivial⟩, ⟨trivial, trivial⟩, ?_⟩
        have h2 : emp w = false := by simpa using h2
        rw [h2] at hr; exact hr
      · refine ⟨⟨trivial, trivial⟩, ?_⟩
        have h2 : emp w = true := by simpa using h2
        rw [h2] at hr; exact hr
  | k + 1, i, out, w, hi, ho, hr => by
    have hlt : i < js.length := by omega
    have hl' := hl
    unfold Sm at hl
    rw [List.drop_eq_getElem_cons hlt] at hr
    have hj : js.getD ((i : Int).toNat) Ty.span.dflt = js[i] := by
      rw [Int.toNat_natCast]; simp [List.getD, hlt]
    have hw : IntKind.i64.wrap ((i : Int) + 1) = ((i + 1 : Nat) : Int) := by
      rw [wrap64 (by omega) (by omega)]; rfl
    have hr : (bif emp (cut js[i] w) then goG (js.drop (i + 1)) out w else
      bif (cut js[i] w).lo == w.lo && ((cut js[i] w).hi == w.hi && true) then out else
        bif (cut js[i] w).hi == w.hi then (bif decide ((cut js[i] w).lo > w.lo) then out ++ [⟨w.lo, IntKind.i64.wrap ((cut js[i] w).lo - 1)⟩] else out)
        else goG (js.drop (i + 1)) (bif decide ((cut js[i] w).lo > w.lo) then out ++ [⟨w.lo, IntKind.i64.wrap ((cut js[i] w).lo - 1)⟩] else out) ⟨IntKind.i64.wrap ((cut js[i] w).hi + 1), w.hi⟩) = r := hr
    have hn : emp nil = true := rfl
    refine hA.go (t35b js out w i) (sat_bif (fun h => ?_) (fun h => ?_))
    · rw [hj]
      refine ⟨⟨⟨by omega, by omega⟩, trivial⟩, ⟨T3, T3, trivial⟩, _, c20 js[i] w, ⟨T3, trivial⟩, _, c75 _, sat_bif (fun h2 => ?_) (fun h2 => ?_)⟩
      · rw [h2] at hr
        rw [hw]
        exact loop35 hl' hA k (i + 1) out w (by omega) (by omega) hr
      · rw [h2] at hr
        refine sat_bif (fun h3 => ?_) (fun h3 => ?_)
        · have h3 : ((cut js[i] w).lo == w.lo && ((cut js[i] w).hi == w.hi && true)) = true := h3
          rw [h3] at hr
          exact ⟨⟨trivial, trivial⟩, hr⟩
        · have h3 : ((cut js[i] w).lo == w.lo && ((cut js[i] w).hi == w.hi && true)) = false := h3
          rw [h3] at hr
          refine sat_bif (fun h4 => ?_) (fun h4 => ?_)
          · have h4 : decide ((cut js[i] w).lo > w.lo) = true := h4
            rw [h4] at hr
            refine ⟨⟨T3, trivial⟩, ⟨by simp only [List.length_cons, List.length_nil]; omega, trivial⟩, sat_bif (fun h5 => ?_) (fun h5 => ?_)⟩
            · have h5 : ((cut js[i] w).hi == w.hi) = true := h5
              rw [h5] at hr
              refine ⟨trivial, _, c76, ⟨T3, trivial⟩, _, c75 nil, sat_bif (fun h6 => ?_) (fun h6 => ⟨⟨trivial, trivial⟩, hr⟩)⟩
              rw [hn] at h6; cases h6
            · have h5 : ((cut js[i] w).hi == w.hi) = false := h5
              rw [h5] at hr
              rw [hw]
              exact loop35 hl' hA k (i + 1) _ ⟨_, _⟩ (by omega) (by simp; omega) hr
          · have h4 : decide ((cut js[i] w).lo > w.lo) = false := h4
            rw [h4] at hr
            refine sat_bif (fun h5 => ?_) (fun h5 => ?_)
            · have h5 : ((cut js[i] w).hi == w.hi) = true := h5
              rw [h5] at hr
              refine ⟨trivial, _, c76, ⟨T3, trivial⟩, _, c75 nil, sat_bif (fun h6 => ?_) (fun h6 => ⟨⟨trivial, trivial⟩, hr⟩)⟩
              rw [hn] at h6; cases h6
            · have h5 : ((cut js[i] w).hi == w.hi) = false := h5
              rw [h5] at hr
              rw [hw]
              exact loop35 hl' hA k (i + 1) _ ⟨_, _⟩ (by omega) (by omega) hr
    · simp only [decide_eq_false_iff_not] at h; omega

theorem c35_of {jn : List Span} {xs : List Span} (a : Span) (h31 : Pure Try.prog 31 [⟨.sl .span, xs⟩] [.sl .span] jn) (hl : Sm (jn.length + 1)) :
    Pure Try.prog 35 [⟨.sl .span, xs⟩, ⟨.span, a⟩] [.sl .span] (bif emp a then [] else goG jn [] a) := by
  refine Pure.of_closed (C := codes) (S := sigs) mixed Try.func35 (by kernel_rfl) (Nat.le_of_ble_eq_true (by kernel_rfl)) fun A hA => hA.go (t35 xs a) ⟨⟨T3, trivial⟩, _, c75 a, sat_bif (fun h => ?_) (fun h => ?_)⟩
  · refine ⟨⟨trivial, trivial⟩, ?_⟩
    show [] = _
    rw [h]; rfl
  · refine ⟨⟨⟨trivial, trivial⟩, trivial⟩, jn, h31, ?_⟩
    refine hA.row 5 38 .span (by kernel_rfl) (s' := L35 jn [] a 0) (by kernel_rfl) (loop35 hl hA jn.length 0 [] a (by omega) (by simp) ?_)
    rw [h]; rfl

end Go.Proofs.Sp
