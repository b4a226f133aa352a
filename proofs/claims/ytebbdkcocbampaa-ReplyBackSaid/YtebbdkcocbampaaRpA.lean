/- The types and the functions of this seat that the answers' laws reach. (Own work.) -/
import Derived.Test.YtebbdkcocbampaaVE
import Derived.KernelRfl
import Derived.Test.YtebbdkcocbampaaChecked
set_option linter.unusedVariables false
namespace Go.Proofs.Rp
open Go Go.VL

def codes : Codes := fun t => bif t == 3 then some .int else bif t == 38 then some .span else bif t == 5 then some .u8 else bif t == 85 then some .change else bif t == 90 then some .numb else none
/-- The memory of a reader: where it stands, what is wrong, its bytes. -/
def rdrH (at' e : Int) (H : Heap) : Heap := match H.get 1 with
  | some b => [(0, .box [i64 at', i64 e, .own 1 .u8]), (1, b)]
  | none => []
def rdrH2 (at' e : Int) (H : Heap) : Heap := match H.get 0, H.get 2 with
  | some a, some b => [(0, a), (1, .box [i64 at', i64 e, .own 2 .u8]), (2, b)]
  | _, _ => []
def sigL : List (Nat × Sig) :=
  [(58, .pure [.resp] [.bool]), (102, .pure [.int, .int] [.bool]), (103, .pure [.int, .int] [.bool]), (105, .pure [.int] [.bool]), (60, .pure [.sl .u8, .u64, .int] [.sl .u8]),
   (61, .pure [.resp] [.bool]), (106, .pure [.int] [.bool]), (62, .pure [.sl .u8, .u64, .int] [.sl .u8]), (14, .pure [.resp] [.sl .u8, .int]), (15, .pure [.resp] [.sl .u8, .int]),
   (16, .pure [.sl .u8, .sl .u8] [.bool]), (17, .pure [.sl .u8] [.resp, .int]), (18, .pure [.sl .u8] [.resp, .int]), (19, .pure [.resp, .resp] [.bool]), (74, .pure [.sl .change, .sl .change] [.bool]),
   (13, .pure [] [.bool]), (70, .pure [.rdr, .int] [.rdr, .u64]), (71, .pure [.rdr, .int] [.rdr, .int]), (72, .pure [.rdr, .int] [.rdr]), (73, .pure [.rdr] [.rdr]), (111, .pure [.rdr, .int] [.rdr, .sl .u8]),
   (59, .heap [.resp] fun _ _ x => ⟨[.clo (.func 104) [] [.ptr 0 0]], [(0, .box ((enc .resp x).map .d))], 1⟩),
   (63, .heap [.sl .u8] fun _ _ x => ⟨[.ptr 0 0], [(0, .box [i64 0, i64 0, .own 1 .u8]), (1, .row 5 .u8 x)], 2⟩),
   (64, .heap [.u64, .int, .int] fun _ H (x : Int × Int × Int) => ⟨[u64 x.1], rdrH x.2.1 x.2.2 H, 2⟩),
   (66, .heap [.int, .int, .int] fun _ H (x : Int × Int × Int) => ⟨[i64 x.1], rdrH x.2.1 x.2.2 H, 2⟩),
   (67, .heap [.int, .int] fun _ H (x : Int × Int) => ⟨[], rdrH x.1 x.2 H, 2⟩), (107, .heap [.int, .int] fun _ H (x : Int × Int) => ⟨[], rdrH x.1 x.2 H, 2⟩), (69, .heap [.int, .int] fun _ H (x : Int × Int) => ⟨[], rdrH x.1 x.2 H, 2⟩),
   (68, .heap [.int] fun _ H (x : Int) => ⟨[i64 x], H, 2⟩), (110, .heap [.int] fun _ H (x : Int) => ⟨[i64 x], H, 2⟩),
   (108, .heap [.int, .int, .int, .int] fun _ H (x : Int × Int × Int × Int) => ⟨[.view 1 .u8 x.1.toNat x.2.1.toNat], rdrH x.2.2.1 x.2.2.2 H, 2⟩),
   (109, .heap [.u64, .int, .int] fun _ H (x : Int × Int × Int) => ⟨[u64 x.1], rdrH x.2.1 x.2.2 H, 2⟩),
   (65, .heap [.int, .int, .int] fun _ H (x : Int × Int × Int) => ⟨[i64 x.1], rdrH2 x.2.1 x.2.2 H, 3⟩)]
def look : List (Nat × Sig) → Nat → Option Sig
  | [], _ => none
  | (k, x) :: l, f => bif k == f then some x else look l f
def sigs : Sigs := look sigL

theorem mixed : Try.prog.follows .mixedOrders = true := Try.checked.mixed
theorem ofT {f : FuncId} {fn : Func} (hf : Try.prog.funcs[f]? = some fn) {args : List Arg} {ts : List Ty} {x : TyTup ts} {cu : Cuts} {n : Nat} {fst : Bool} {T : Out (TyTup ts)}
    (he : aexec Try.prog codes sigs fn (pureFin ts) 0 cu n fst (bodyOf fn) (startS fn args) = T) (hb : fn.body.isSome = true) (hnt : Nat.ble args.length fn.ntmps = true) (h : ∀ A, Sat Try.prog A (· = x) T) : Pure Try.prog f args ts x :=
  Pure.of_tree mixed hf hb (Nat.le_of_ble_eq_true hnt) he h

end Go.Proofs.Rp

namespace Go.Proofs.Rp
open Go Go.VL

def RH (at' e : Int) (bs : List Int) : Heap := [(0, .box [i64 at', i64 e, .own 1 .u8]), (1, .row 5 .u8 bs)]


theorem t102 (x y : Int) : @Eq (Out (TyTup [.bool])) (aexec Try.prog codes sigs Try.f102 (pureFin [.bool]) 0 noCut 100 false (bodyOf Try.f102) (startS Try.f102 [⟨.int, x⟩, ⟨.int, y⟩]))
    (bif decide (x ≥ (0 : Int)) then
  Out.need ((0 : Int) ≤ IntKind.wrap IntKind.i64 ((8 : Int) * y))
    (Out.need (True ∧ True)
      (Out.ret
        (decide
          (x <
            IntKind.wrap IntKind.i64
              ((1 : Int) *
                (2 : Int) ^ min (Int.toNat (IntKind.wrap IntKind.i64 ((8 : Int) * y))) (IntKind.bits IntKind.i64))))))
  else Out.need (True ∧ True) (Out.ret false)) := by kernel_rfl

theorem t103 (x y : Int) : @Eq (Out (TyTup [.bool])) (aexec Try.prog codes sigs Try.f103 (pureFin [.bool]) 0 noCut 100 false (bodyOf Try.f103) (startS Try.f103 [⟨.int, x⟩, ⟨.int, y⟩]))
    (Out.need ((0 : Int) ≤ IntKind.wrap IntKind.i64 (IntKind.wrap IntKind.i64 ((8 : Int) * y) - (1 : Int)))
  (bif
      decide
        (x ≥
          IntKind.wrap IntKind.i64
            ((0 : Int) -
              IntKind.wrap IntKind.i64
                ((1 : Int) *
                  (2 : Int) ^
                    min (Int.toNat (IntKind.wrap IntKind.i64 (IntKind.wrap IntKind.i64 ((8 : Int) * y) - (1 : Int))))
                      (IntKind.bits IntKind.i64)))) then
    Out.need (True ∧ True)
      (Out.ret
        (decide
          (x <
            IntKind.wrap IntKind.i64
              ((1 : Int) *
                (2 : Int) ^
                  min (Int.toNat (IntKind.wrap IntKind.i64 (IntKind.wrap IntKind.i64 ((8 : Int) * y) - (1 : Int))))
                    (IntKind.bits IntKind.i64)))))
  else Out.need (True ∧ True) (Out.ret false))) := by kernel_rfl

theorem t105 (x : Int) : @Eq (Out (TyTup [.bool])) (aexec Try.prog codes sigs Try.f105 (pureFin [.bool]) 0 noCut 100 false (bodyOf Try.f105) (startS Try.f105 [⟨.int, x⟩]))
    (bif decide (x ≥ (1 : Int)) then Out.need (True ∧ True) (Out.ret (decide (x ≤ (8 : Int))))
  else Out.need (True ∧ True) (Out.ret false)) := by kernel_rfl

theorem t106 (x : Int) : @Eq (Out (TyTup [.bool])) (aexec Try.prog codes sigs Try.f106 (pureFin [.bool]) 0 noCut 100 false (bodyOf Try.f106) (startS Try.f106 [⟨.int, x⟩]))
    (bif decide (x ≥ (0 : Int)) then Out.need (True ∧ True) (Out.ret (decide (x ≤ (4294967295 : Int))))
  else Out.need (True ∧ True) (Out.ret false)) := by kernel_rfl

theorem t58 (x : Resp) : @Eq (Out (TyTup [.bool])) (aexec Try.prog codes sigs Try.f58 (pureFin [.bool]) 0 noCut 200 false (bodyOf Try.f58) (startS Try.f58 [⟨.resp, x⟩]))
    (Out.need ((True ∧ True) ∧ (True ∧ True) ∧ True)
  (Out.callP (102 : Nat) [Sigma.mk Ty.int (Resp.err x), Sigma.mk Ty.int (2 : Int)] [Ty.bool] fun (x_1 : Bool) =>
    bif !x_1 then Out.need (True ∧ True) (Out.ret false)
    else
      Out.need ((True ∧ True) ∧ (True ∧ True) ∧ True)
        (Out.callP (103 : Nat) [Sigma.mk Ty.int (Resp.id x), Sigma.mk Ty.int (4 : Int)] [Ty.bool] fun (x_2 : Bool) =>
          bif !x_2 then Out.need (True ∧ True) (Out.ret false)
          else
            Out.need ((True ∧ True) ∧ (True ∧ True) ∧ True)
              (Out.callP (102 : Nat) [Sigma.mk Ty.int (Resp.ver x), Sigma.mk Ty.int (4 : Int)] [Ty.bool]
                fun (x_3 : Bool) =>
                bif !x_3 then Out.need (True ∧ True) (Out.ret false)
                else
                  bif decide ((↑(List.length (Resp.list x)) : Int) > (32 : Int)) then
                    Out.need (True ∧ True) (Out.ret false)
                  else
                    Out.stop (hd Try.f58 (0 : Nat))
                      (mkS (45 : Nat)
                        [((28 : Nat), AV.d (D.sl Ty.change (Resp.list x))),
                          ((29 : Nat), AV.d (D.v (Value.int IntKind.i64 (↑(List.length (Resp.list x)) : Int)))),
                          ((30 : Nat), AV.d (D.v (Value.int IntKind.i64 (0 : Int))))]
                        [] (0 : Nat)))))) := by kernel_rfl

theorem t60 (b : List Int) (n w : Int) : @Eq (Out (TyTup [.sl .u8])) (aexec Try.prog codes sigs Try.f60 (pureFin [.sl .u8]) 0 noCut 200 false (bodyOf Try.f60) (startS Try.f60 [⟨.sl .u8, b⟩, ⟨.u64, n⟩, ⟨.int, w⟩]))
    (Out.need True
  (Out.need (((0 : Nat) + List.length b) * (2 : Nat) ≤ (35184372088832 : Nat) ∧ True)
    (Out.need ((True ∧ True) ∧ True)
      (Out.callP (105 : Nat) [Sigma.mk Ty.int w] [Ty.bool] fun (x : Bool) =>
        bif !x then Out.need (True ∧ True) (Out.ret ([] ++ b))
        else
          Out.stop (hd Try.f60 (0 : Nat))
            (mkS (33 : Nat)
              [((1 : Nat), AV.d (D.v (Value.int IntKind.u64 n))), ((2 : Nat), AV.d (D.v (Value.int IntKind.i64 w))),
                ((7 : Nat), AV.own (0 : Nat) Ty.u8), ((16 : Nat), AV.d (D.v (Value.int IntKind.i64 w))),
                ((17 : Nat), AV.d (D.v (Value.int IntKind.i64 (0 : Int))))]
              [((0 : Nat), ABlk.row (5 : Nat) Ty.u8 b)] (1 : Nat)))))) := by kernel_rfl

theorem t61 (x : Resp) : @Eq (Out (TyTup [.bool])) (aexec Try.prog codes sigs Try.f61 (pureFin [.bool]) 0 noCut 200 false (bodyOf Try.f61) (startS Try.f61 [⟨.resp, x⟩]))
    (bif decide (Resp.err x < (0 : Int)) then Out.need (True ∧ True) (Out.ret false)
  else
  bif decide (Resp.err x > (65535 : Int)) then Out.need (True ∧ True) (Out.ret false)
  else
    bif decide (Resp.id x < (-2147483648 : Int)) then Out.need (True ∧ True) (Out.ret false)
    else
      bif decide (Resp.id x > (2147483647 : Int)) then Out.need (True ∧ True) (Out.ret false)
      else
        Out.need ((True ∧ True) ∧ True)
          (Out.callP (106 : Nat) [Sigma.mk Ty.int (Resp.ver x)] [Ty.bool] fun (x_1 : Bool) =>
            bif !x_1 then Out.need (True ∧ True) (Out.ret false)
            else
              bif decide ((↑(List.length (Resp.list x)) : Int) > (32 : Int)) then Out.need (True ∧ True) (Out.ret false)
              else
                Out.stop (hd Try.f61 (0 : Nat))
                  (mkS (61 : Nat)
                    [((1 : Nat), AV.ptr (0 : Nat) (0 : Nat)), ((3 : Nat), AV.d (D.v (Value.int IntKind.i64 (0 : Int))))]
                    [((0 : Nat),
                        ABlk.box
                          [AV.d (D.v (Value.int IntKind.i64 (Resp.err x))),
                            AV.d (D.v (Value.int IntKind.i64 (Resp.id x))),
                            AV.d (D.v (Value.int IntKind.i64 (Resp.n x))),
                            AV.d (D.v (Value.int IntKind.i64 (Resp.ver x))), AV.d (D.sl Ty.change (Resp.list x))])]
                    (1 : Nat)))) := by kernel_rfl

theorem t62 (b : List Int) (n w : Int) : @Eq (Out (TyTup [.sl .u8])) (aexec Try.prog codes sigs Try.f62 (pureFin [.sl .u8]) 0 noCut 200 false (bodyOf Try.f62) (startS Try.f62 [⟨.sl .u8, b⟩, ⟨.u64, n⟩, ⟨.int, w⟩]))
    (Out.need True
  (Out.need (((0 : Nat) + List.length b) * (2 : Nat) ≤ (35184372088832 : Nat) ∧ True)
    (bif decide (w < (1 : Int)) then Out.need (True ∧ True) (Out.ret ([] ++ b))
    else
      bif decide (w > (8 : Int)) then Out.need (True ∧ True) (Out.ret ([] ++ b))
      else
        Out.stop (hd Try.f62 (0 : Nat))
          (mkS (34 : Nat)
            [((1 : Nat), AV.d (D.v (Value.int IntKind.u64 n))), ((7 : Nat), AV.own (0 : Nat) Ty.u8),
              ((8 : Nat), AV.d (D.v (Value.int IntKind.i64 (IntKind.wrap IntKind.i64 (w - (1 : Int))))))]
            [((0 : Nat), ABlk.row (5 : Nat) Ty.u8 b)] (1 : Nat))))) := by kernel_rfl

theorem t15 (x : Resp) : @Eq (Out (TyTup [.sl .u8, .int])) (aexec Try.prog codes sigs Try.f15 (pureFin [.sl .u8, .int]) 0 noCut 200 false (bodyOf Try.f15) (startS Try.f15 [⟨.resp, x⟩]))
    (Out.need ((True ∧ True ∧ True ∧ True ∧ True ∧ True) ∧ True)
  (Out.callP (61 : Nat) [Sigma.mk Ty.resp x] [Ty.bool] fun (x_1 : Bool) =>
    bif !x_1 then Out.need ((True ∧ True) ∧ True ∧ True) (Out.ret ([], (4 : Int)))
    else
      Out.need ((True ∧ True) ∧ (True ∧ True) ∧ (True ∧ True) ∧ True)
        (Out.callP (62 : Nat)
          [Sigma.mk (Ty.sl Ty.u8) [], Sigma.mk Ty.u64 (IntKind.wrap IntKind.u64 (Resp.err x)),
            Sigma.mk Ty.int (2 : Int)]
          [Ty.sl Ty.u8] fun (x_2 : List Int) =>
          Out.need ((True ∧ True) ∧ (True ∧ True) ∧ (True ∧ True) ∧ True)
            (Out.callP (62 : Nat)
              [Sigma.mk (Ty.sl Ty.u8) x_2, Sigma.mk Ty.u64 (IntKind.wrap IntKind.u64 (Resp.id x)),
                Sigma.mk Ty.int (4 : Int)]
              [Ty.sl Ty.u8] fun (x_3 : List Int) =>
              Out.need ((True ∧ True) ∧ (True ∧ True) ∧ (True ∧ True) ∧ True)
                (Out.callP (62 : Nat)
                  [Sigma.mk (Ty.sl Ty.u8) x_3, Sigma.mk Ty.u64 (IntKind.wrap IntKind.u64 (Resp.n x)),
                    Sigma.mk Ty.int (8 : Int)]
                  [Ty.sl Ty.u8] fun (x_4 : List Int) =>
                  Out.need ((True ∧ True) ∧ (True ∧ True) ∧ (True ∧ True) ∧ True)
                    (Out.callP (62 : Nat)
                      [Sigma.mk (Ty.sl Ty.u8) x_4, Sigma.mk Ty.u64 (IntKind.wrap IntKind.u64 (Resp.ver x)),
                        Sigma.mk Ty.int (4 : Int)]
                      [Ty.sl Ty.u8] fun (x_5 : List Int) =>
                      Out.need ((True ∧ True) ∧ (True ∧ True) ∧ (True ∧ True) ∧ True)
                        (Out.callP (62 : Nat)
                          [Sigma.mk (Ty.sl Ty.u8) x_5,
                            Sigma.mk Ty.u64 (IntKind.wrap IntKind.u64 (↑(List.length (Resp.list x)) : Int)),
                            Sigma.mk Ty.int (1 : Int)]
                          [Ty.sl Ty.u8] fun (x_6 : List Int) =>
                          Out.stop (hd Try.f15 (0 : Nat))
                            (mkS (69 : Nat)
                              [((1 : Nat), AV.ptr (0 : Nat) (0 : Nat)), ((4 : Nat), AV.d (D.sl Ty.u8 x_6)),
                                ((5 : Nat), AV.d (D.v (Value.int IntKind.i64 (0 : Int))))]
                              [((0 : Nat),
                                  ABlk.box
                                    [AV.d (D.v (Value.int IntKind.i64 (Resp.err x))),
                                      AV.d (D.v (Value.int IntKind.i64 (Resp.id x))),
                                      AV.d (D.v (Value.int IntKind.i64 (Resp.n x))),
                                      AV.d (D.v (Value.int IntKind.i64 (Resp.ver x))),
                                      AV.d (D.sl Ty.change (Resp.list x))])]
                              (1 : Nat))))))))) := by kernel_rfl

theorem t16 (a b : List Int) : @Eq (Out (TyTup [.bool])) (aexec Try.prog codes sigs Try.f16 (pureFin [.bool]) 0 noCut 200 false (bodyOf Try.f16) (startS Try.f16 [⟨.sl .u8, a⟩, ⟨.sl .u8, b⟩]))
    (Out.need (True ∧ True) (Out.ret (ByteArray.toList (strOf a) == ByteArray.toList (strOf b)))) := by kernel_rfl

theorem t19 (x y : Resp) : @Eq (Out (TyTup [.bool])) (aexec Try.prog codes sigs Try.f19 (pureFin [.bool]) 0 noCut 200 false (bodyOf Try.f19) (startS Try.f19 [⟨.resp, x⟩, ⟨.resp, y⟩]))
    (bif Resp.err x == Resp.err y then
  bif Resp.id x == Resp.id y then
    bif Resp.n x == Resp.n y then
      bif Resp.ver x == Resp.ver y then
        Out.need ((True ∧ True) ∧ (True ∧ True) ∧ True)
          (Out.callP (74 : Nat) [Sigma.mk (Ty.sl Ty.change) (Resp.list x), Sigma.mk (Ty.sl Ty.change) (Resp.list y)]
            [Ty.bool] fun (x : Bool) => Out.need (True ∧ True) (Out.ret x))
      else Out.need (True ∧ True) (Out.ret false)
    else Out.need (True ∧ True) (Out.ret false)
  else Out.need (True ∧ True) (Out.ret false)
  else Out.need (True ∧ True) (Out.ret false)) := by kernel_rfl

theorem t74 (a b : List Change) : @Eq (Out (TyTup [.bool])) (aexec Try.prog codes sigs Try.f74 (pureFin [.bool]) 0 noCut 200 false (bodyOf Try.f74) (startS Try.f74 [⟨.sl .change, a⟩, ⟨.sl .change, b⟩]))
    (bif (↑(List.length a) : Int) != (↑(List.length b) : Int) then Out.need (True ∧ True) (Out.ret false)
  else
  Out.stop (hd Try.f74 (0 : Nat))
    (mkS (26 : Nat)
      [((0 : Nat), AV.d (D.sl Ty.change a)), ((1 : Nat), AV.d (D.sl Ty.change b)),
        ((5 : Nat), AV.d (D.v (Value.int IntKind.i64 (0 : Int))))]
      [] (0 : Nat))) := by kernel_rfl

theorem t72 (r : Rdr) (e : Int) : @Eq (Out (TyTup [.rdr])) (aexec Try.prog codes sigs Try.f72 (pureFin [.rdr]) 0 noCut 200 false (bodyOf Try.f72) (startS Try.f72 [⟨.rdr, r⟩, ⟨.int, e⟩]))
    (bif Rdr.e r == (0 : Int) then Out.need (True ∧ True ∧ True ∧ True) (Out.ret (Rdr.mk (Rdr.b r) (Rdr.at' r) e))
  else Out.need (True ∧ True ∧ True ∧ True) (Out.ret r)) := by kernel_rfl

theorem t73 (r : Rdr) : @Eq (Out (TyTup [.rdr])) (aexec Try.prog codes sigs Try.f73 (pureFin [.rdr]) 0 noCut 200 false (bodyOf Try.f73) (startS Try.f73 [⟨.rdr, r⟩]))
    (bif decide (Rdr.at' r < (↑(List.length (Rdr.b r)) : Int)) then
  Out.need ((True ∧ True ∧ True ∧ True) ∧ (True ∧ True) ∧ True)
    (Out.callP (72 : Nat) [Sigma.mk Ty.rdr r, Sigma.mk Ty.int (251 : Int)] [Ty.rdr] fun (x : Rdr) =>
      Out.need (True ∧ True ∧ True ∧ True) (Out.ret x))
  else Out.need (True ∧ True ∧ True ∧ True) (Out.ret r)) := by kernel_rfl

theorem t111 (r : Rdr) (n : Int) : @Eq (Out (TyTup [.rdr, .sl .u8])) (aexec Try.prog codes sigs Try.f111 (pureFin [.rdr, .sl .u8]) 0 noCut 200 false (bodyOf Try.f111) (startS Try.f111 [⟨.rdr, r⟩, ⟨.int, n⟩]))
    (bif decide (n < (0 : Int)) then
  Out.need ((True ∧ True ∧ True ∧ True) ∧ (True ∧ True) ∧ True)
    (Out.callP (72 : Nat) [Sigma.mk Ty.rdr r, Sigma.mk Ty.int (1 : Int)] [Ty.rdr] fun (x : Rdr) =>
      Out.need ((True ∧ True ∧ True ∧ True) ∧ True ∧ True) (Out.ret (x, [])))
  else
  bif decide (n > IntKind.wrap IntKind.i64 ((↑(List.length (Rdr.b r)) : Int) - Rdr.at' r)) then
    Out.need ((True ∧ True ∧ True ∧ True) ∧ (True ∧ True) ∧ True)
      (Out.callP (72 : Nat) [Sigma.mk Ty.rdr r, Sigma.mk Ty.int (250 : Int)] [Ty.rdr] fun (x : Rdr) =>
        Out.need ((True ∧ True ∧ True ∧ True) ∧ True ∧ True) (Out.ret (x, [])))
  else
    bif Rdr.e r != (0 : Int) then Out.need ((True ∧ True ∧ True ∧ True) ∧ True ∧ True) (Out.ret (r, []))
    else
      Out.need True
        (Out.need
          (((0 : Int) ≤ Rdr.at' r ∧
              Rdr.at' r ≤ IntKind.wrap IntKind.i64 (Rdr.at' r + n) ∧
                IntKind.wrap IntKind.i64 (Rdr.at' r + n) ≤ (↑(List.length (Rdr.b r)) : Int)) ∧
            True)
          (Out.need
            (((0 : Nat) +
                    List.length
                      (List.drop (Int.toNat (Rdr.at' r))
                        (List.take (Int.toNat (IntKind.wrap IntKind.i64 (Rdr.at' r + n))) (Rdr.b r)))) *
                  (2 : Nat) ≤
                (35184372088832 : Nat) ∧
              True)
            (Out.need ((True ∧ True ∧ True ∧ True) ∧ True ∧ True)
              (Out.ret
                (Rdr.mk (Rdr.b r) (IntKind.wrap IntKind.i64 (Rdr.at' r + n)) (Rdr.e r),
                  [] ++
                    List.drop (Int.toNat (Rdr.at' r))
                      (List.take (Int.toNat (IntKind.wrap IntKind.i64 (Rdr.at' r + n))) (Rdr.b r)))))))) := by kernel_rfl

theorem t70 (r : Rdr) (n : Int) : @Eq (Out (TyTup [.rdr, .u64])) (aexec Try.prog codes sigs Try.f70 (pureFin [.rdr, .u64]) 0 noCut 200 false (bodyOf Try.f70) (startS Try.f70 [⟨.rdr, r⟩, ⟨.int, n⟩]))
    (bif decide (n < (1 : Int)) then
  Out.need ((True ∧ True ∧ True ∧ True) ∧ (True ∧ True) ∧ True)
    (Out.callP (72 : Nat) [Sigma.mk Ty.rdr r, Sigma.mk Ty.int (1 : Int)] [Ty.rdr] fun (x : Rdr) =>
      Out.need ((True ∧ True ∧ True ∧ True) ∧ True ∧ True) (Out.ret (x, (0 : Int))))
  else
  bif decide (n > (8 : Int)) then
    Out.need ((True ∧ True ∧ True ∧ True) ∧ (True ∧ True) ∧ True)
      (Out.callP (72 : Nat) [Sigma.mk Ty.rdr r, Sigma.mk Ty.int (1 : Int)] [Ty.rdr] fun (x : Rdr) =>
        Out.need ((True ∧ True ∧ True ∧ True) ∧ True ∧ True) (Out.ret (x, (0 : Int))))
  else
    Out.need ((True ∧ True ∧ True ∧ True) ∧ (True ∧ True) ∧ True)
      (Out.callP (111 : Nat) [Sigma.mk Ty.rdr r, Sigma.mk Ty.int n] [Ty.rdr, Ty.sl Ty.u8] fun (x : Rdr × List Int) =>
        Out.stop (hd Try.f70 (0 : Nat))
          (mkS (39 : Nat)
            [((2 : Nat), AV.ptr (0 : Nat) (0 : Nat)), ((4 : Nat), AV.ptr (1 : Nat) (0 : Nat)),
              ((6 : Nat), AV.d (D.sl Ty.u8 (Prod.snd x))), ((7 : Nat), AV.d (D.v (Value.int IntKind.u64 (0 : Int)))),
              ((8 : Nat), AV.d (D.v (Value.int IntKind.i64 (0 : Int))))]
            [((0 : Nat),
                ABlk.box
                  [AV.d (D.sl Ty.u8 (Rdr.b (Prod.fst x))), AV.d (D.v (Value.int IntKind.i64 (Rdr.at' (Prod.fst x)))),
                    AV.d (D.v (Value.int IntKind.i64 (Rdr.e (Prod.fst x))))]),
              ((1 : Nat),
                ABlk.box
                  [AV.d (D.v (Value.slice none (0 : Nat) (0 : Nat))), AV.d (D.v (Value.int IntKind.i64 (0 : Int))),
                    AV.d (D.v (Value.int IntKind.i64 (0 : Int)))])]
            (2 : Nat)))) := by kernel_rfl

theorem t71 (r : Rdr) (n : Int) : @Eq (Out (TyTup [.rdr, .int])) (aexec Try.prog codes sigs Try.f71 (pureFin [.rdr, .int]) 0 noCut 200 false (bodyOf Try.f71) (startS Try.f71 [⟨.rdr, r⟩, ⟨.int, n⟩]))
    (bif decide (n < (1 : Int)) then
  Out.need ((True ∧ True ∧ True ∧ True) ∧ (True ∧ True) ∧ True)
    (Out.callP (72 : Nat) [Sigma.mk Ty.rdr r, Sigma.mk Ty.int (1 : Int)] [Ty.rdr] fun (x : Rdr) =>
      Out.need ((True ∧ True ∧ True ∧ True) ∧ True ∧ True) (Out.ret (x, (0 : Int))))
  else
  bif decide (n > (8 : Int)) then
    Out.need ((True ∧ True ∧ True ∧ True) ∧ (True ∧ True) ∧ True)
      (Out.callP (72 : Nat) [Sigma.mk Ty.rdr r, Sigma.mk Ty.int (1 : Int)] [Ty.rdr] fun (x : Rdr) =>
        Out.need ((True ∧ True ∧ True ∧ True) ∧ True ∧ True) (Out.ret (x, (0 : Int))))
  else
    Out.need ((True ∧ True ∧ True ∧ True) ∧ (True ∧ True) ∧ True)
      (Out.callP (111 : Nat) [Sigma.mk Ty.rdr r, Sigma.mk Ty.int n] [Ty.rdr, Ty.sl Ty.u8] fun (x : Rdr × List Int) =>
        Out.stop (hd Try.f71 (0 : Nat))
          (mkS (47 : Nat)
            [((2 : Nat), AV.ptr (0 : Nat) (0 : Nat)), ((4 : Nat), AV.ptr (1 : Nat) (0 : Nat)),
              ((6 : Nat), AV.d (D.sl Ty.u8 (Prod.snd x))), ((7 : Nat), AV.d (D.v (Value.int IntKind.i64 (0 : Int)))),
              ((8 : Nat), AV.d (D.v (Value.int IntKind.i64 (0 : Int))))]
            [((0 : Nat),
                ABlk.box
                  [AV.d (D.sl Ty.u8 (Rdr.b (Prod.fst x))), AV.d (D.v (Value.int IntKind.i64 (Rdr.at' (Prod.fst x)))),
                    AV.d (D.v (Value.int IntKind.i64 (Rdr.e (Prod.fst x))))]),
              ((1 : Nat),
                ABlk.box
                  [AV.d (D.v (Value.slice none (0 : Nat) (0 : Nat))), AV.d (D.v (Value.int IntKind.i64 (0 : Int))),
                    AV.d (D.v (Value.int IntKind.i64 (0 : Int)))])]
            (2 : Nat)))) := by kernel_rfl

theorem t59 (x : Resp) : @Eq (Out GRes) (aexec Try.prog codes sigs Try.f59 (gFin 0) 0 noCut 200 false (bodyOf Try.f59) (startG Try.f59 [AV.ofTy .resp x] [] 0))
    (Out.need True
  (Out.ret
    (GRes.mk [AV.clo (Fn.func (104 : Nat)) [] [AV.ptr (0 : Nat) (0 : Nat)]]
      [((0 : Nat),
          ABlk.box
            [AV.d (D.v (Value.int IntKind.i64 (Resp.err x))), AV.d (D.v (Value.int IntKind.i64 (Resp.id x))),
              AV.d (D.v (Value.int IntKind.i64 (Resp.n x))), AV.d (D.v (Value.int IntKind.i64 (Resp.ver x))),
              AV.d (D.sl Ty.change (Resp.list x))])]
      (1 : Nat)))) := by kernel_rfl

theorem t63 (b : List Int) : @Eq (Out GRes) (aexec Try.prog codes sigs Try.f63 (gFin 0) 0 noCut 200 false (bodyOf Try.f63) (startG Try.f63 [.d (.sl .u8 b)] [] 0))
    (Out.need True
  (Out.need (((0 : Nat) + List.length b) * (2 : Nat) ≤ (35184372088832 : Nat) ∧ True)
    (Out.need True
      (Out.ret
        (GRes.mk [AV.ptr (0 : Nat) (0 : Nat)]
          [((0 : Nat),
              ABlk.box
                [AV.d (D.v (Value.int IntKind.i64 (0 : Int))), AV.d (D.v (Value.int IntKind.i64 (0 : Int))),
                  AV.own (1 : Nat) Ty.u8]),
            ((1 : Nat), ABlk.row (5 : Nat) Ty.u8 ([] ++ b))]
          (2 : Nat)))))) := by kernel_rfl

theorem t107 (x : Int) (at' e : Int) (bs : List Int) : @Eq (Out GRes) (aexec Try.prog codes sigs Try.f107 (gFin 2) 2 noCut 200 false (bodyOf Try.f107) (startG Try.f107 [.ptr 0 0, i64 x] (RH at' e bs) 2))
    (bif e == (0 : Int) then
  Out.need True
    (Out.ret
      (GRes.mk []
        [((0 : Nat),
            ABlk.box
              [AV.d (D.v (Value.int IntKind.i64 at')), AV.d (D.v (Value.int IntKind.i64 x)), AV.own (1 : Nat) Ty.u8]),
          ((1 : Nat), ABlk.row (5 : TypeId) Ty.u8 bs)]
        (2 : Nat)))
  else
  Out.need True
    (Out.ret
      (GRes.mk []
        [((0 : Nat),
            ABlk.box
              [AV.d (D.v (Value.int IntKind.i64 at')), AV.d (D.v (Value.int IntKind.i64 e)), AV.own (1 : Nat) Ty.u8]),
          ((1 : Nat), ABlk.row (5 : TypeId) Ty.u8 bs)]
        (2 : Nat)))) := by kernel_rfl

theorem t67 (x : Int) (at' e : Int) (bs : List Int) : @Eq (Out GRes) (aexec Try.prog codes sigs Try.f67 (gFin 2) 2 noCut 200 false (bodyOf Try.f67) (startG Try.f67 [.ptr 0 0, i64 x] (RH at' e bs) 2))
    (Out.callG (107 : Nat) [AV.ptr (0 : Nat) (0 : Nat), AV.d (D.v (Value.int IntKind.i64 x))]
  [((0 : Nat),
      ABlk.box [AV.d (D.v (Value.int IntKind.i64 at')), AV.d (D.v (Value.int IntKind.i64 e)), AV.own (1 : Nat) Ty.u8]),
    ((1 : Nat), ABlk.row (5 : TypeId) Ty.u8 bs)]
  (2 : Nat) [Ty.int, Ty.int]
  (fun (x : Int × Int) =>
    GRes.mk []
      [((0 : Nat),
          ABlk.box
            [AV.d (D.v (Value.int IntKind.i64 (Prod.fst x))), AV.d (D.v (Value.int IntKind.i64 (Prod.snd x))),
              AV.own (1 : Nat) Ty.u8]),
        ((1 : Nat), ABlk.row (5 : TypeId) Ty.u8 bs)]
      (2 : Nat))
  fun (x : Int × Int) =>
  Out.need True
    (Out.ret
      (GRes.mk []
        [((0 : Nat),
            ABlk.box
              [AV.d (D.v (Value.int IntKind.i64 (Prod.fst x))), AV.d (D.v (Value.int IntKind.i64 (Prod.snd x))),
                AV.own (1 : Nat) Ty.u8]),
          ((1 : Nat), ABlk.row (5 : TypeId) Ty.u8 bs)]
        (2 : Nat)))) := by kernel_rfl

theorem t68 (at' e : Int) (bs : List Int) : @Eq (Out GRes) (aexec Try.prog codes sigs Try.f68 (gFin 2) 2 noCut 200 false (bodyOf Try.f68) (startG Try.f68 [.ptr 0 0] (RH at' e bs) 2))
    (Out.need True
  (Out.ret
    (GRes.mk [AV.d (D.v (Value.int IntKind.i64 e))]
      [((0 : Nat),
          ABlk.box
            [AV.d (D.v (Value.int IntKind.i64 at')), AV.d (D.v (Value.int IntKind.i64 e)), AV.own (1 : Nat) Ty.u8]),
        ((1 : Nat), ABlk.row (5 : TypeId) Ty.u8 bs)]
      (2 : Nat)))) := by kernel_rfl

theorem t110 (at' e : Int) (bs : List Int) : @Eq (Out GRes) (aexec Try.prog codes sigs Try.f110 (gFin 2) 2 noCut 200 false (bodyOf Try.f110) (startG Try.f110 [.ptr 0 0] (RH at' e bs) 2))
    (Out.need True
  (Out.ret
    (GRes.mk [AV.d (D.v (Value.int IntKind.i64 (IntKind.wrap IntKind.i64 ((↑(List.length bs) : Int) - at'))))]
      [((0 : Nat),
          ABlk.box
            [AV.d (D.v (Value.int IntKind.i64 at')), AV.d (D.v (Value.int IntKind.i64 e)), AV.own (1 : Nat) Ty.u8]),
        ((1 : Nat), ABlk.row (5 : TypeId) Ty.u8 bs)]
      (2 : Nat)))) := by kernel_rfl

theorem t69 (at' e : Int) (bs : List Int) : @Eq (Out GRes) (aexec Try.prog codes sigs Try.f69 (gFin 2) 2 noCut 200 false (bodyOf Try.f69) (startG Try.f69 [.ptr 0 0] (RH at' e bs) 2))
    (Out.callG (110 : Nat) [AV.ptr (0 : Nat) (0 : Nat)]
  [((0 : Nat),
      ABlk.box [AV.d (D.v (Value.int IntKind.i64 at')), AV.d (D.v (Value.int IntKind.i64 e)), AV.own (1 : Nat) Ty.u8]),
    ((1 : Nat), ABlk.row (5 : TypeId) Ty.u8 bs)]
  (2 : Nat) [Ty.int]
  (fun (x : Int) =>
    GRes.mk [AV.d (D.v (Value.int IntKind.i64 x))]
      [((0 : Nat),
          ABlk.box
            [AV.d (D.v (Value.int IntKind.i64 at')), AV.d (D.v (Value.int IntKind.i64 e)), AV.own (1 : Nat) Ty.u8]),
        ((1 : Nat), ABlk.row (5 : TypeId) Ty.u8 bs)]
      (2 : Nat))
  fun (x : Int) =>
  bif decide (x > (0 : Int)) then
    Out.callG (107 : Nat) [AV.ptr (0 : Nat) (0 : Nat), AV.d (D.v (Value.int IntKind.i64 (251 : Int)))]
      [((0 : Nat),
          ABlk.box
            [AV.d (D.v (Value.int IntKind.i64 at')), AV.d (D.v (Value.int IntKind.i64 e)), AV.own (1 : Nat) Ty.u8]),
        ((1 : Nat), ABlk.row (5 : TypeId) Ty.u8 bs)]
      (2 : Nat) [Ty.int, Ty.int]
      (fun (x : Int × Int) =>
        GRes.mk []
          [((0 : Nat),
              ABlk.box
                [AV.d (D.v (Value.int IntKind.i64 (Prod.fst x))), AV.d (D.v (Value.int IntKind.i64 (Prod.snd x))),
                  AV.own (1 : Nat) Ty.u8]),
            ((1 : Nat), ABlk.row (5 : TypeId) Ty.u8 bs)]
          (2 : Nat))
      fun (x : Int × Int) =>
      Out.need True
        (Out.ret
          (GRes.mk []
            [((0 : Nat),
                ABlk.box
                  [AV.d (D.v (Value.int IntKind.i64 (Prod.fst x))), AV.d (D.v (Value.int IntKind.i64 (Prod.snd x))),
                    AV.own (1 : Nat) Ty.u8]),
              ((1 : Nat), ABlk.row (5 : TypeId) Ty.u8 bs)]
            (2 : Nat)))
  else
    Out.need True
      (Out.ret
        (GRes.mk []
          [((0 : Nat),
              ABlk.box
                [AV.d (D.v (Value.int IntKind.i64 at')), AV.d (D.v (Value.int IntKind.i64 e)), AV.own (1 : Nat) Ty.u8]),
            ((1 : Nat), ABlk.row (5 : TypeId) Ty.u8 bs)]
          (2 : Nat)))) := by kernel_rfl

theorem t108 (n : Int) (at' e : Int) (bs : List Int) : @Eq (Out GRes) (aexec Try.prog codes sigs Try.f108 (gFin 2) 2 noCut 200 false (bodyOf Try.f108) (startG Try.f108 [.ptr 0 0, i64 n] (RH at' e bs) 2))
    (bif decide (n < (0 : Int)) then
  Out.callG (107 : Nat) [AV.ptr (0 : Nat) (0 : Nat), AV.d (D.v (Value.int IntKind.i64 (1 : Int)))]
    [((0 : Nat),
        ABlk.box
          [AV.d (D.v (Value.int IntKind.i64 at')), AV.d (D.v (Value.int IntKind.i64 e)), AV.own (1 : Nat) Ty.u8]),
      ((1 : Nat), ABlk.row (5 : TypeId) Ty.u8 bs)]
    (2 : Nat) [Ty.int, Ty.int]
    (fun (x : Int × Int) =>
      GRes.mk []
        [((0 : Nat),
            ABlk.box
              [AV.d (D.v (Value.int IntKind.i64 (Prod.fst x))), AV.d (D.v (Value.int IntKind.i64 (Prod.snd x))),
                AV.own (1 : Nat) Ty.u8]),
          ((1 : Nat), ABlk.row (5 : TypeId) Ty.u8 bs)]
        (2 : Nat))
    fun (x : Int × Int) =>
    bif Prod.snd x != (0 : Int) then
      Out.need True
        (Out.ret
          (GRes.mk [AV.d (D.v (Value.slice none (0 : Nat) (0 : Nat)))]
            [((0 : Nat),
                ABlk.box
                  [AV.d (D.v (Value.int IntKind.i64 (Prod.fst x))), AV.d (D.v (Value.int IntKind.i64 (Prod.snd x))),
                    AV.own (1 : Nat) Ty.u8]),
              ((1 : Nat), ABlk.row (5 : TypeId) Ty.u8 bs)]
            (2 : Nat)))
    else
      Out.need
        ((0 : Int) ≤ IntKind.wrap IntKind.i64 (IntKind.wrap IntKind.i64 (Prod.fst x + n) - n) ∧
          IntKind.wrap IntKind.i64 (IntKind.wrap IntKind.i64 (Prod.fst x + n) - n) ≤
              IntKind.wrap IntKind.i64 (Prod.fst x + n) ∧
            IntKind.wrap IntKind.i64 (Prod.fst x + n) ≤ (↑(List.length bs) : Int))
        (Out.need True
          (Out.ret
            (GRes.mk
              [AV.view (1 : Nat) Ty.u8
                  (Int.toNat (IntKind.wrap IntKind.i64 (IntKind.wrap IntKind.i64 (Prod.fst x + n) - n)))
                  (Int.toNat (IntKind.wrap IntKind.i64 (Prod.fst x + n)) -
                    Int.toNat (IntKind.wrap IntKind.i64 (IntKind.wrap IntKind.i64 (Prod.fst x + n) - n)))]
              [((0 : Nat),
                  ABlk.box
                    [AV.d (D.v (Value.int IntKind.i64 (IntKind.wrap IntKind.i64 (Prod.fst x + n)))),
                      AV.d (D.v (Value.int IntKind.i64 (Prod.snd x))), AV.own (1 : Nat) Ty.u8]),
                ((1 : Nat), ABlk.row (5 : TypeId) Ty.u8 bs)]
              (2 : Nat))))
  else
  bif decide (n > IntKind.wrap IntKind.i64 ((↑(List.length bs) : Int) - at')) then
    Out.callG (107 : Nat) [AV.ptr (0 : Nat) (0 : Nat), AV.d (D.v (Value.int IntKind.i64 (250 : Int)))]
      [((0 : Nat),
          ABlk.box
            [AV.d (D.v (Value.int IntKind.i64 at')), AV.d (D.v (Value.int IntKind.i64 e)), AV.own (1 : Nat) Ty.u8]),
        ((1 : Nat), ABlk.row (5 : TypeId) Ty.u8 bs)]
      (2 : Nat) [Ty.int, Ty.int]
      (fun (x : Int × Int) =>
        GRes.mk []
          [((0 : Nat),
              ABlk.box
                [AV.d (D.v (Value.int IntKind.i64 (Prod.fst x))), AV.d (D.v (Value.int IntKind.i64 (Prod.snd x))),
                  AV.own (1 : Nat) Ty.u8]),
            ((1 : Nat), ABlk.row (5 : TypeId) Ty.u8 bs)]
          (2 : Nat))
      fun (x : Int × Int) =>
      bif Prod.snd x != (0 : Int) then
        Out.need True
          (Out.ret
            (GRes.mk [AV.d (D.v (Value.slice none (0 : Nat) (0 : Nat)))]
              [((0 : Nat),
                  ABlk.box
                    [AV.d (D.v (Value.int IntKind.i64 (Prod.fst x))), AV.d (D.v (Value.int IntKind.i64 (Prod.snd x))),
                      AV.own (1 : Nat) Ty.u8]),
                ((1 : Nat), ABlk.row (5 : TypeId) Ty.u8 bs)]
              (2 : Nat)))
      else
        Out.need
          ((0 : Int) ≤ IntKind.wrap IntKind.i64 (IntKind.wrap IntKind.i64 (Prod.fst x + n) - n) ∧
            IntKind.wrap IntKind.i64 (IntKind.wrap IntKind.i64 (Prod.fst x + n) - n) ≤
                IntKind.wrap IntKind.i64 (Prod.fst x + n) ∧
              IntKind.wrap IntKind.i64 (Prod.fst x + n) ≤ (↑(List.length bs) : Int))
          (Out.need True
            (Out.ret
              (GRes.mk
                [AV.view (1 : Nat) Ty.u8
                    (Int.toNat (IntKind.wrap IntKind.i64 (IntKind.wrap IntKind.i64 (Prod.fst x + n) - n)))
                    (Int.toNat (IntKind.wrap IntKind.i64 (Prod.fst x + n)) -
                      Int.toNat (IntKind.wrap IntKind.i64 (IntKind.wrap IntKind.i64 (Prod.fst x + n) - n)))]
                [((0 : Nat),
                    ABlk.box
                      [AV.d (D.v (Value.int IntKind.i64 (IntKind.wrap IntKind.i64 (Prod.fst x + n)))),
                        AV.d (D.v (Value.int IntKind.i64 (Prod.snd x))), AV.own (1 : Nat) Ty.u8]),
                  ((1 : Nat), ABlk.row (5 : TypeId) Ty.u8 bs)]
                (2 : Nat))))
  else
    bif e != (0 : Int) then
      Out.need True
        (Out.ret
          (GRes.mk [AV.d (D.v (Value.slice none (0 : Nat) (0 : Nat)))]
            [((0 : Nat),
                ABlk.box
                  [AV.d (D.v (Value.int IntKind.i64 at')), AV.d (D.v (Value.int IntKind.i64 e)),
                    AV.own (1 : Nat) Ty.u8]),
              ((1 : Nat), ABlk.row (5 : TypeId) Ty.u8 bs)]
            (2 : Nat)))
    else
      Out.need
        ((0 : Int) ≤ IntKind.wrap IntKind.i64 (IntKind.wrap IntKind.i64 (at' + n) - n) ∧
          IntKind.wrap IntKind.i64 (IntKind.wrap IntKind.i64 (at' + n) - n) ≤ IntKind.wrap IntKind.i64 (at' + n) ∧
            IntKind.wrap IntKind.i64 (at' + n) ≤ (↑(List.length bs) : Int))
        (Out.need True
          (Out.ret
            (GRes.mk
              [AV.view (1 : Nat) Ty.u8 (Int.toNat (IntKind.wrap IntKind.i64 (IntKind.wrap IntKind.i64 (at' + n) - n)))
                  (Int.toNat (IntKind.wrap IntKind.i64 (at' + n)) -
                    Int.toNat (IntKind.wrap IntKind.i64 (IntKind.wrap IntKind.i64 (at' + n) - n)))]
              [((0 : Nat),
                  ABlk.box
                    [AV.d (D.v (Value.int IntKind.i64 (IntKind.wrap IntKind.i64 (at' + n)))),
                      AV.d (D.v (Value.int IntKind.i64 e)), AV.own (1 : Nat) Ty.u8]),
                ((1 : Nat), ABlk.row (5 : TypeId) Ty.u8 bs)]
              (2 : Nat))))) := by kernel_rfl

theorem t109 (n : Int) (at' e : Int) (bs : List Int) : @Eq (Out GRes) (aexec Try.prog codes sigs Try.f109 (gFin 2) 2 noCut 200 false (bodyOf Try.f109) (startG Try.f109 [.clo (.func 108) [.ptr 0 0] [], i64 n] (RH at' e bs) 2))
    (Out.callG (108 : Nat) [AV.ptr (0 : Nat) (0 : Nat), AV.d (D.v (Value.int IntKind.i64 n))]
  [((0 : Nat),
      ABlk.box [AV.d (D.v (Value.int IntKind.i64 at')), AV.d (D.v (Value.int IntKind.i64 e)), AV.own (1 : Nat) Ty.u8]),
    ((1 : Nat), ABlk.row (5 : TypeId) Ty.u8 bs)]
  (2 : Nat) [Ty.int, Ty.int, Ty.int, Ty.int]
  (fun (x : Int × Int × Int × Int) =>
    GRes.mk [AV.view (1 : Nat) Ty.u8 (Int.toNat (Prod.fst x)) (Int.toNat (Prod.fst (Prod.snd x)))]
      [((0 : Nat),
          ABlk.box
            [AV.d (D.v (Value.int IntKind.i64 (Prod.fst (Prod.snd (Prod.snd x))))),
              AV.d (D.v (Value.int IntKind.i64 (Prod.snd (Prod.snd (Prod.snd x))))), AV.own (1 : Nat) Ty.u8]),
        ((1 : Nat), ABlk.row (5 : TypeId) Ty.u8 bs)]
      (2 : Nat))
  fun (x : Int × Int × Int × Int) =>
  Out.stop (hd Try.f109 (0 : Nat))
    (mkS (23 : Nat)
      [((5 : Nat), AV.d (D.v (Value.int IntKind.u64 (0 : Int)))),
        ((10 : Nat), AV.view (1 : Nat) Ty.u8 (Int.toNat (Prod.fst x)) (Int.toNat (Prod.fst (Prod.snd x)))),
        ((11 : Nat), AV.d (D.v (Value.int IntKind.i64 (↑(Int.toNat (Prod.fst (Prod.snd x))) : Int)))),
        ((12 : Nat), AV.d (D.v (Value.int IntKind.i64 (0 : Int))))]
      [((0 : Nat),
          ABlk.box
            [AV.d (D.v (Value.int IntKind.i64 (Prod.fst (Prod.snd (Prod.snd x))))),
              AV.d (D.v (Value.int IntKind.i64 (Prod.snd (Prod.snd (Prod.snd x))))), AV.own (1 : Nat) Ty.u8]),
        ((1 : Nat), ABlk.row (5 : TypeId) Ty.u8 bs)]
      (2 : Nat))) := by kernel_rfl

theorem t64 (n : Int) (at' e : Int) (bs : List Int) : @Eq (Out GRes) (aexec Try.prog codes sigs Try.f64 (gFin 2) 2 noCut 200 false (bodyOf Try.f64) (startG Try.f64 [.ptr 0 0, i64 n] (RH at' e bs) 2))
    (Out.need ((True ∧ True) ∧ True)
  (Out.callP (105 : Nat) [Sigma.mk Ty.int n] [Ty.bool] fun (x : Bool) =>
    bif !x then
      Out.callG (107 : Nat) [AV.ptr (0 : Nat) (0 : Nat), AV.d (D.v (Value.int IntKind.i64 (1 : Int)))]
        [((0 : Nat),
            ABlk.box
              [AV.d (D.v (Value.int IntKind.i64 at')), AV.d (D.v (Value.int IntKind.i64 e)), AV.own (1 : Nat) Ty.u8]),
          ((1 : Nat), ABlk.row (5 : TypeId) Ty.u8 bs)]
        (2 : Nat) [Ty.int, Ty.int]
        (fun (x : Int × Int) =>
          GRes.mk []
            [((0 : Nat),
                ABlk.box
                  [AV.d (D.v (Value.int IntKind.i64 (Prod.fst x))), AV.d (D.v (Value.int IntKind.i64 (Prod.snd x))),
                    AV.own (1 : Nat) Ty.u8]),
              ((1 : Nat), ABlk.row (5 : TypeId) Ty.u8 bs)]
            (2 : Nat))
        fun (x : Int × Int) =>
        Out.need True
          (Out.ret
            (GRes.mk [AV.d (D.v (Value.int IntKind.u64 (0 : Int)))]
              [((0 : Nat),
                  ABlk.box
                    [AV.d (D.v (Value.int IntKind.i64 (Prod.fst x))), AV.d (D.v (Value.int IntKind.i64 (Prod.snd x))),
                      AV.own (1 : Nat) Ty.u8]),
                ((1 : Nat), ABlk.row (5 : TypeId) Ty.u8 bs)]
              (2 : Nat)))
    else
      Out.callG (109 : Nat)
        [AV.clo (Fn.func (108 : Nat)) [AV.ptr (0 : Nat) (0 : Nat)] [], AV.d (D.v (Value.int IntKind.i64 n))]
        [((0 : Nat),
            ABlk.box
              [AV.d (D.v (Value.int IntKind.i64 at')), AV.d (D.v (Value.int IntKind.i64 e)), AV.own (1 : Nat) Ty.u8]),
          ((1 : Nat), ABlk.row (5 : TypeId) Ty.u8 bs)]
        (2 : Nat) [Ty.u64, Ty.int, Ty.int]
        (fun (x : Int × Int × Int) =>
          GRes.mk [AV.d (D.v (Value.int IntKind.u64 (Prod.fst x)))]
            [((0 : Nat),
                ABlk.box
                  [AV.d (D.v (Value.int IntKind.i64 (Prod.fst (Prod.snd x)))),
                    AV.d (D.v (Value.int IntKind.i64 (Prod.snd (Prod.snd x)))), AV.own (1 : Nat) Ty.u8]),
              ((1 : Nat), ABlk.row (5 : TypeId) Ty.u8 bs)]
            (2 : Nat))
        fun (x : Int × Int × Int) =>
        Out.need True
          (Out.ret
            (GRes.mk [AV.d (D.v (Value.int IntKind.u64 (Prod.fst x)))]
              [((0 : Nat),
                  ABlk.box
                    [AV.d (D.v (Value.int IntKind.i64 (Prod.fst (Prod.snd x)))),
                      AV.d (D.v (Value.int IntKind.i64 (Prod.snd (Prod.snd x)))), AV.own (1 : Nat) Ty.u8]),
                ((1 : Nat), ABlk.row (5 : TypeId) Ty.u8 bs)]
              (2 : Nat))))) := by kernel_rfl

theorem t66 (n : Int) (at' e : Int) (bs : List Int) : @Eq (Out GRes) (aexec Try.prog codes sigs Try.f66 (gFin 2) 2 noCut 200 false (bodyOf Try.f66) (startG Try.f66 [.ptr 0 0, i64 n] (RH at' e bs) 2))
    (Out.callG (64 : Nat) [AV.ptr (0 : Nat) (0 : Nat), AV.d (D.v (Value.int IntKind.i64 n))]
  [((0 : Nat),
      ABlk.box [AV.d (D.v (Value.int IntKind.i64 at')), AV.d (D.v (Value.int IntKind.i64 e)), AV.own (1 : Nat) Ty.u8]),
    ((1 : Nat), ABlk.row (5 : TypeId) Ty.u8 bs)]
  (2 : Nat) [Ty.u64, Ty.int, Ty.int]
  (fun (x : Int × Int × Int) =>
    GRes.mk [AV.d (D.v (Value.int IntKind.u64 (Prod.fst x)))]
      [((0 : Nat),
          ABlk.box
            [AV.d (D.v (Value.int IntKind.i64 (Prod.fst (Prod.snd x)))),
              AV.d (D.v (Value.int IntKind.i64 (Prod.snd (Prod.snd x)))), AV.own (1 : Nat) Ty.u8]),
        ((1 : Nat), ABlk.row (5 : TypeId) Ty.u8 bs)]
      (2 : Nat))
  fun (x : Int × Int × Int) =>
  Out.need ((True ∧ True) ∧ True)
    (Out.callP (105 : Nat) [Sigma.mk Ty.int n] [Ty.bool] fun (x_1 : Bool) =>
      bif !x_1 then
        Out.need True
          (Out.ret
            (GRes.mk [AV.d (D.v (Value.int IntKind.i64 (0 : Int)))]
              [((0 : Nat),
                  ABlk.box
                    [AV.d (D.v (Value.int IntKind.i64 (Prod.fst (Prod.snd x)))),
                      AV.d (D.v (Value.int IntKind.i64 (Prod.snd (Prod.snd x)))), AV.own (1 : Nat) Ty.u8]),
                ((1 : Nat), ABlk.row (5 : TypeId) Ty.u8 bs)]
              (2 : Nat)))
      else
        Out.need ((0 : Int) ≤ IntKind.wrap IntKind.i64 ((8 : Int) * IntKind.wrap IntKind.i64 ((8 : Int) - n)))
          (Out.need ((0 : Int) ≤ IntKind.wrap IntKind.i64 ((8 : Int) * IntKind.wrap IntKind.i64 ((8 : Int) - n)))
            (Out.need True
              (Out.ret
                (GRes.mk
                  [AV.d
                      (D.v
                        (Value.int IntKind.i64
                          (Int.fdiv
                            (IntKind.wrap IntKind.i64
                              (IntKind.wrap IntKind.u64
                                (Prod.fst x *
                                  (2 : Int) ^
                                    min
                                      (Int.toNat
                                        (IntKind.wrap IntKind.i64
                                          ((8 : Int) * IntKind.wrap IntKind.i64 ((8 : Int) - n))))
                                      (IntKind.bits IntKind.u64))))
                            ((2 : Int) ^
                              min
                                (Int.toNat
                                  (IntKind.wrap IntKind.i64 ((8 : Int) * IntKind.wrap IntKind.i64 ((8 : Int) - n))))
                                (IntKind.bits IntKind.i64)))))]
                  [((0 : Nat),
                      ABlk.box
                        [AV.d (D.v (Value.int IntKind.i64 (Prod.fst (Prod.snd x)))),
                          AV.d (D.v (Value.int IntKind.i64 (Prod.snd (Prod.snd x)))), AV.own (1 : Nat) Ty.u8]),
                    ((1 : Nat), ABlk.row (5 : TypeId) Ty.u8 bs)]
                  (2 : Nat))))))) := by kernel_rfl

theorem t65 (n : Int) (at' e : Int) (bs : List Int) : @Eq (Out GRes) (aexec Try.prog codes sigs Try.f65 (gFin 3) 3 noCut 200 false (bodyOf Try.f65) (startG Try.f65 [i64 n, .ptr 0 0] [(0, .box [.clo (.func 64) [.ptr 1 0] []]), (1, .box [i64 at', i64 e, .own 2 .u8]), (2, .row 5 .u8 bs)] 3))
    (Out.callG (64 : Nat) [AV.ptr (0 : Nat) (0 : Nat), AV.d (D.v (Value.int IntKind.i64 n))]
  [((0 : Nat),
      ABlk.box [AV.d (D.v (Value.int IntKind.i64 at')), AV.d (D.v (Value.int IntKind.i64 e)), AV.own (1 : Nat) Ty.u8]),
    ((1 : Nat), ABlk.row (5 : TypeId) Ty.u8 bs)]
  (2 : Nat) [Ty.u64, Ty.int, Ty.int]
  (fun (x : Int × Int × Int) =>
    GRes.mk [AV.d (D.v (Value.int IntKind.u64 (Prod.fst x)))]
      [((0 : Nat),
          ABlk.box
            [AV.d (D.v (Value.int IntKind.i64 (Prod.fst (Prod.snd x)))),
              AV.d (D.v (Value.int IntKind.i64 (Prod.snd (Prod.snd x)))), AV.own (1 : Nat) Ty.u8]),
        ((1 : Nat), ABlk.row (5 : TypeId) Ty.u8 bs)]
      (2 : Nat))
  fun (x : Int × Int × Int) =>
  Out.need True
    (Out.ret
      (GRes.mk [AV.d (D.v (Value.int IntKind.i64 (IntKind.wrap IntKind.i64 (Prod.fst x))))]
        [((0 : Nat), ABlk.box [AV.clo (Fn.func (64 : FuncId)) [AV.ptr (1 : Nat) (0 : Nat)] []]),
          ((1 : Nat),
            ABlk.box
              [AV.d (D.v (Value.int IntKind.i64 (Prod.fst (Prod.snd x)))),
                AV.d (D.v (Value.int IntKind.i64 (Prod.snd (Prod.snd x)))), AV.own (2 : Nat) Ty.u8]),
          ((2 : Nat), ABlk.row (5 : TypeId) Ty.u8 bs)]
        (3 : Nat)))) := by kernel_rfl

theorem t18 (b : List Int) : @Eq (Out (TyTup [.resp, .int])) (aexec Try.prog codes sigs Try.f18 (pureFin [.resp, .int]) 0 noCut 300 false (bodyOf Try.f18) (startS Try.f18 [⟨.sl .u8, b⟩]))
    (Out.need ((True ∧ True ∧ True ∧ True) ∧ (True ∧ True) ∧ True)
  (Out.callP (70 : Nat) [Sigma.mk Ty.rdr (Rdr.mk b (0 : Int) (0 : Int)), Sigma.mk Ty.int (2 : Int)] [Ty.rdr, Ty.u64]
    fun (x : Rdr × Int) =>
    Out.need ((True ∧ True ∧ True ∧ True) ∧ (True ∧ True) ∧ True)
      (Out.callP (71 : Nat) [Sigma.mk Ty.rdr (Prod.fst x), Sigma.mk Ty.int (4 : Int)] [Ty.rdr, Ty.int]
        fun (x_1 : Rdr × Int) =>
        Out.need ((True ∧ True ∧ True ∧ True) ∧ (True ∧ True) ∧ True)
          (Out.callP (71 : Nat) [Sigma.mk Ty.rdr (Prod.fst x_1), Sigma.mk Ty.int (8 : Int)] [Ty.rdr, Ty.int]
            fun (x_2 : Rdr × Int) =>
            Out.need ((True ∧ True ∧ True ∧ True) ∧ (True ∧ True) ∧ True)
              (Out.callP (70 : Nat) [Sigma.mk Ty.rdr (Prod.fst x_2), Sigma.mk Ty.int (4 : Int)] [Ty.rdr, Ty.u64]
                fun (x_3 : Rdr × Int) =>
                Out.need ((True ∧ True ∧ True ∧ True) ∧ (True ∧ True) ∧ True)
                  (Out.callP (70 : Nat) [Sigma.mk Ty.rdr (Prod.fst x_3), Sigma.mk Ty.int (1 : Int)] [Ty.rdr, Ty.u64]
                    fun (x_4 : Rdr × Int) =>
                    bif decide (Prod.snd x_4 > (32 : Int)) then
                      Out.need ((True ∧ True ∧ True ∧ True) ∧ (True ∧ True) ∧ True)
                        (Out.callP (72 : Nat) [Sigma.mk Ty.rdr (Prod.fst x_4), Sigma.mk Ty.int (251 : Int)] [Ty.rdr]
                          fun (x_5 : Rdr) =>
                          Out.stop (hd Try.f18 (0 : Nat))
                            (mkS (103 : Nat)
                              [((2 : Nat), AV.ptr (0 : Nat) (0 : Nat)), ((4 : Nat), AV.ptr (1 : Nat) (0 : Nat)),
                                ((5 : Nat), AV.ptr (2 : Nat) (0 : Nat)),
                                ((9 : Nat), AV.d (D.v (Value.int IntKind.u64 (Prod.snd x_4)))),
                                ((10 : Nat), AV.d (D.v (Value.int IntKind.u64 (0 : Int))))]
                              [((0 : Nat),
                                  ABlk.box
                                    [AV.d (D.v (Value.int IntKind.i64 (0 : Int))),
                                      AV.d (D.v (Value.int IntKind.i64 (0 : Int))),
                                      AV.d (D.v (Value.int IntKind.i64 (0 : Int))),
                                      AV.d (D.v (Value.int IntKind.i64 (0 : Int))),
                                      AV.d (D.v (Value.slice none (0 : Nat) (0 : Nat)))]),
                                ((1 : Nat),
                                  ABlk.box
                                    [AV.d (D.sl Ty.u8 (Rdr.b x_5)), AV.d (D.v (Value.int IntKind.i64 (Rdr.at' x_5))),
                                      AV.d (D.v (Value.int IntKind.i64 (Rdr.e x_5)))]),
                                ((2 : Nat),
                                  ABlk.box
                                    [AV.d (D.v (Value.int IntKind.i64 (IntKind.wrap IntKind.i64 (Prod.snd x)))),
                                      AV.d (D.v (Value.int IntKind.i64 (Prod.snd x_1))),
                                      AV.d (D.v (Value.int IntKind.i64 (Prod.snd x_2))),
                                      AV.d (D.v (Value.int IntKind.i64 (IntKind.wrap IntKind.i64 (Prod.snd x_3)))),
                                      AV.d (D.v (Value.slice none (0 : Nat) (0 : Nat)))])]
                              (3 : Nat)))
                    else
                      Out.stop (hd Try.f18 (0 : Nat))
                        (mkS (103 : Nat)
                          [((2 : Nat), AV.ptr (0 : Nat) (0 : Nat)), ((4 : Nat), AV.ptr (1 : Nat) (0 : Nat)),
                            ((5 : Nat), AV.ptr (2 : Nat) (0 : Nat)),
                            ((9 : Nat), AV.d (D.v (Value.int IntKind.u64 (Prod.snd x_4)))),
                            ((10 : Nat), AV.d (D.v (Value.int IntKind.u64 (0 : Int))))]
                          [((0 : Nat),
                              ABlk.box
                                [AV.d (D.v (Value.int IntKind.i64 (0 : Int))),
                                  AV.d (D.v (Value.int IntKind.i64 (0 : Int))),
                                  AV.d (D.v (Value.int IntKind.i64 (0 : Int))),
                                  AV.d (D.v (Value.int IntKind.i64 (0 : Int))),
                                  AV.d (D.v (Value.slice none (0 : Nat) (0 : Nat)))]),
                            ((1 : Nat),
                              ABlk.box
                                [AV.d (D.sl Ty.u8 (Rdr.b (Prod.fst x_4))),
                                  AV.d (D.v (Value.int IntKind.i64 (Rdr.at' (Prod.fst x_4)))),
                                  AV.d (D.v (Value.int IntKind.i64 (Rdr.e (Prod.fst x_4))))]),
                            ((2 : Nat),
                              ABlk.box
                                [AV.d (D.v (Value.int IntKind.i64 (IntKind.wrap IntKind.i64 (Prod.snd x)))),
                                  AV.d (D.v (Value.int IntKind.i64 (Prod.snd x_1))),
                                  AV.d (D.v (Value.int IntKind.i64 (Prod.snd x_2))),
                                  AV.d (D.v (Value.int IntKind.i64 (IntKind.wrap IntKind.i64 (Prod.snd x_3)))),
                                  AV.d (D.v (Value.slice none (0 : Nat) (0 : Nat)))])]
                          (3 : Nat)))))))) := by kernel_rfl

end Go.Proofs.Rp

/- The answers' small functions: what they come to. (Own work.) -/
namespace Go.Proofs.Rp
open Go Go.VL

/-! ### numbers within bounds -/
theorem c102 (x y : Int) (hy : 0 ≤ IntKind.i64.wrap (8 * y)) : Pure Try.prog 102 [⟨.int, x⟩, ⟨.int, y⟩] [.bool] (bif decide (x ≥ 0) then decide (x < IntKind.i64.wrap (1 * 2 ^ min (Int.toNat (IntKind.i64.wrap (8 * y))) IntKind.i64.bits)) else false) :=
  ofT Try.func102 (t102 x y) (by kernel_rfl) (by kernel_rfl) fun _ => sat_if (fun _ => ⟨hy, ⟨trivial, trivial⟩, rfl⟩) (fun _ => ⟨⟨trivial, trivial⟩, rfl⟩)
theorem c102_2 (x : Int) : Pure Try.prog 102 [⟨.int, x⟩, ⟨.int, 2⟩] [.bool] (decide (0 ≤ x ∧ x < 65536)) := by
  have h := c102 x 2 (by decide)
  have e : (bif decide (x ≥ 0) then decide (x < IntKind.i64.wrap (1 * 2 ^ min (Int.toNat (IntKind.i64.wrap (8 * 2))) IntKind.i64.bits)) else false) = decide (0 ≤ x ∧ x < 65536) := by
    have : IntKind.i64.wrap (1 * 2 ^ min (Int.toNat (IntKind.i64.wrap (8 * 2))) IntKind.i64.bits) = 65536 := by decide
    rw [this]
    by_cases h0 : x ≥ 0 <;> simp [h0]
  exact h.eq e
theorem c102_4 (x : Int) : Pure Try.prog 102 [⟨.int, x⟩, ⟨.int, 4⟩] [.bool] (decide (0 ≤ x ∧ x < 4294967296)) := by
  have h := c102 x 4 (by decide)
  have e : (bif decide (x ≥ 0) then decide (x < IntKind.i64.wrap (1 * 2 ^ min (Int.toNat (IntKind.i64.wrap (8 * 4))) IntKind.i64.bits)) else false) = decide (0 ≤ x ∧ x < 4294967296) := by
    have : IntKind.i64.wrap (1 * 2 ^ min (Int.toNat (IntKind.i64.wrap (8 * 4))) IntKind.i64.bits) = 4294967296 := by decide
    rw [this]
    by_cases h0 : x ≥ 0 <;> simp [h0]
  exact h.eq e
theorem c102_1 (x : Int) : Pure Try.prog 102 [⟨.int, x⟩, ⟨.int, 1⟩] [.bool] (decide (0 ≤ x ∧ x < 256)) := by
  have h := c102 x 1 (by decide)
  have e : (bif decide (x ≥ 0) then decide (x < IntKind.i64.wrap (1 * 2 ^ min (Int.toNat (IntKind.i64.wrap (8 * 1))) IntKind.i64.bits)) else false) = decide (0 ≤ x ∧ x < 256) := by
    have : IntKind.i64.wrap (1 * 2 ^ min (Int.toNat (IntKind.i64.wrap (8 * 1))) IntKind.i64.bits) = 256 := by decide
    rw [this]
    by_cases h0 : x ≥ 0 <;> simp [h0]
  exact h.eq e
theorem c103_4 (x : Int) : Pure Try.prog 103 [⟨.int, x⟩, ⟨.int, 4⟩] [.bool] (decide (-2147483648 ≤ x ∧ x < 2147483648)) :=
  ofT Try.func103 (t103 x 4) (by kernel_rfl) (by kernel_rfl) fun A => by
    have e : IntKind.i64.wrap (1 * 2 ^ min (Int.toNat (IntKind.i64.wrap (IntKind.i64.wrap (8 * 4) - 1))) IntKind.i64.bits) = 2147483648 := by decide
    have e2 : IntKind.i64.wrap (0 - 2147483648) = -2147483648 := by decide
    refine ⟨by decide, sat_bif (fun h => ⟨⟨trivial, trivial⟩, ?_⟩) (fun h => ⟨⟨trivial, trivial⟩, ?_⟩)⟩
    · show decide (x < _) = _
      rw [e] at h ⊢
      rw [e2] at h
      have h : x ≥ -2147483648 := of_decide_eq_true h
      exact decide_eq_decide.2 ⟨fun h2 => ⟨h, h2⟩, fun h2 => h2.2⟩
    · show false = _
      rw [e, e2] at h
      have h : ¬ x ≥ -2147483648 := of_decide_eq_false h
      rw [decide_eq_false]
      exact fun h2 => h h2.1
theorem c105 (x : Int) : Pure Try.prog 105 [⟨.int, x⟩] [.bool] (bif decide (x ≥ 1) then decide (x ≤ 8) else false) :=
  ofT Try.func105 (t105 x) (by kernel_rfl) (by kernel_rfl) fun _ => sat_if (fun _ => ⟨⟨trivial, trivial⟩, rfl⟩) (fun _ => ⟨⟨trivial, trivial⟩, rfl⟩)
theorem c106 (x : Int) : Pure Try.prog 106 [⟨.int, x⟩] [.bool] (decide (0 ≤ x ∧ x < 4294967296)) :=
  ofT Try.func106 (t106 x) (by kernel_rfl) (by kernel_rfl) fun _ => by
    refine sat_bif (fun h => ⟨⟨trivial, trivial⟩, ?_⟩) (fun h => ⟨⟨trivial, trivial⟩, ?_⟩)
    · have h : x ≥ 0 := of_decide_eq_true h
      exact decide_eq_decide.2 ⟨fun h2 => ⟨h, by omega⟩, fun h2 => by omega⟩
    · have h : ¬ x ≥ 0 := of_decide_eq_false h
      show false = _
      rw [decide_eq_false]
      omega

/-! ### readers -/
/-- The first error. -/
def fst (e x : Int) : Int := bif e == 0 then x else e
theorem c72 (r : Rdr) (e : Int) : Pure Try.prog 72 [⟨.rdr, r⟩, ⟨.int, e⟩] [.rdr] ⟨r.b, r.at', fst r.e e⟩ :=
  ofT Try.func72 (t72 r e) (by kernel_rfl) (by kernel_rfl) fun _ => by
    refine sat_bif (fun h => ⟨⟨trivial, trivial, trivial, trivial⟩, ?_⟩) (fun h => ⟨⟨trivial, trivial, trivial, trivial⟩, ?_⟩)
    · show (⟨r.b, r.at', e⟩ : Rdr) = _
      rw [fst, h]; rfl
    · show r = _
      rw [fst, h]; rfl
theorem c73 (r : Rdr) : Pure Try.prog 73 [⟨.rdr, r⟩] [.rdr] ⟨r.b, r.at', bif decide (r.at' < (r.b.length : Int)) then fst r.e 251 else r.e⟩ :=
  ofT Try.func73 (t73 r) (by kernel_rfl) (by kernel_rfl) fun _ => by
    refine sat_bif (fun h => ⟨⟨⟨trivial, trivial, trivial, trivial⟩, ⟨trivial, trivial⟩, trivial⟩, _, c72 r 251, ⟨trivial, trivial, trivial, trivial⟩, ?_⟩) (fun h => ⟨⟨trivial, trivial, trivial, trivial⟩, ?_⟩)
    · show (⟨r.b, r.at', fst r.e 251⟩ : Rdr) = _
      rw [h]; rfl
    · show r = _
      rw [h]; rfl

theorem rdrH_eq (a e a' e' : Int) (bs : List Int) : rdrH a e (RH a' e' bs) = RH a e bs := rfl
/-- A reader's bytes stay. -/
theorem rowsRH (a e a' e' : Int) (bs : List Int) : ∀ i T t xs, i < 2 → (RH a e bs).get i = some (.row T t xs) → ∃ ys, (RH a' e' bs).get i = some (.row T t ys) ∧ ys.length = xs.length := by
  intro i T t xs hi h
  match i, hi with
  | 0, _ => cases h
  | 1, _ => exact ⟨xs, h, rfl⟩
theorem c107 (x a e : Int) (bs : List Int) : Gc Try.prog 107 [.ptr 0 0, i64 x] (RH a e bs) 2 ⟨[], RH a (fst e x) bs, 2⟩ :=
  Gc.of_closed (C := codes) (S := sigs) mixed Try.func107 (by kernel_rfl) (rowsRH _ _ _ _ _) fun _ hA => hA.go (t107 x a e bs) (by
    refine sat_bif (fun h => ⟨trivial, .of_eq ?_⟩) (fun h => ⟨trivial, .of_eq ?_⟩)
    · rw [fst, h]; rfl
    · rw [fst, h]; rfl)
theorem c67 (x a e : Int) (bs : List Int) : Gc Try.prog 67 [.ptr 0 0, i64 x] (RH a e bs) 2 ⟨[], RH a (fst e x) bs, 2⟩ :=
  Gc.of_closed (C := codes) (S := sigs) mixed Try.func67 (by kernel_rfl) (rowsRH _ _ _ _ _) fun _ hA => hA.go (t67 x a e bs) ⟨(a, fst e x), c107 x a e bs, trivial, .of_eq rfl⟩
theorem c68 (a e : Int) (bs : List Int) : Gc Try.prog 68 [.ptr 0 0] (RH a e bs) 2 ⟨[i64 e], RH a e bs, 2⟩ :=
  Gc.of_closed (C := codes) (S := sigs) mixed Try.func68 (by kernel_rfl) (rowsRH _ _ _ _ _) fun _ hA => hA.go (t68 a e bs) ⟨trivial, .of_eq rfl⟩
theorem c110 (a e : Int) (bs : List Int) : Gc Try.prog 110 [.ptr 0 0] (RH a e bs) 2 ⟨[i64 (IntKind.i64.wrap ((bs.length : Int) - a))], RH a e bs, 2⟩ :=
  Gc.of_closed (C := codes) (S := sigs) mixed Try.func110 (by kernel_rfl) (rowsRH _ _ _ _ _) fun _ hA => hA.go (t110 a e bs) ⟨trivial, .of_eq rfl⟩
theorem c69 (a e : Int) (bs : List Int) : Gc Try.prog 69 [.ptr 0 0] (RH a e bs) 2 ⟨[], RH a (bif decide (IntKind.i64.wrap ((bs.length : Int) - a) > 0) then fst e 251 else e) bs, 2⟩ :=
  Gc.of_closed (C := codes) (S := sigs) mixed Try.func69 (by kernel_rfl) (rowsRH _ _ _ _ _) fun _ hA => hA.go (t69 a e bs) ⟨_, c110 a e bs, by
    refine sat_bif (fun h => ⟨(a, fst e 251), c107 251 a e bs, trivial, .of_eq ?_⟩) (fun h => ⟨trivial, .of_eq ?_⟩)
    · rw [h]; rfl
    · rw [h]; rfl⟩
theorem c59 (x : Resp) : Gc Try.prog 59 [AV.ofTy .resp x] [] 0 ⟨[.clo (.func 104) [] [.ptr 0 0]], [(0, .box ((enc .resp x).map .d))], 1⟩ :=
  Gc.of_closed (C := codes) (S := sigs) mixed Try.func59 (by kernel_rfl) (fun i T t xs hi => absurd hi (Nat.not_lt_zero _)) fun _ hA => hA.go (t59 x) ⟨trivial, .of_eq rfl⟩
/-- The bound on bytes. -/
def Sb (n : Nat) : Prop := n * 2 ≤ 35184372088832
theorem c63 {b : List Int} (hb : Sb b.length) : Gc Try.prog 63 [.d (.sl .u8 b)] [] 0 ⟨[.ptr 0 0], RH 0 0 b, 2⟩ :=
  Gc.of_closed (C := codes) (S := sigs) mixed Try.func63 (by kernel_rfl) (fun i T t xs hi => absurd hi (Nat.not_lt_zero _)) fun _ hA => hA.go (t63 b) ⟨trivial, ⟨by unfold Sb at hb; omega, trivial⟩, trivial, .of_eq rfl⟩

/-- What is read next. -/
def takeS (b : List Int) (a e n : Int) : Int × Int × List Int :=
  bif decide (n > (b.length : Int) - a) then (a, fst e 250, []) else bif e != 0 then (a, e, []) else (a + n, e, (b.drop a.toNat).take n.toNat)
/-- A reader as it should be. -/
structure RdOK (b : List Int) (a : Int) : Prop where
  lo : 0 ≤ a
  hi : a ≤ b.length
  len : Sb b.length
theorem fst_ne {e x : Int} (hx : x ≠ 0) : (fst e x != 0) = true := by
  unfold fst
  by_cases h : e = 0
  · subst h; simpa using hx
  · have : (e == 0) = false := by simpa using h
    rw [this]; simpa using h
theorem drop_take (b : List Int) (a n : Nat) : List.drop a (List.take (a + n) b) = (b.drop a).take n := by
  rw [List.drop_take]; congr 1; omega
theorem c111 {r : Rdr} {n : Int} (hr : RdOK r.b r.at') (h0 : 0 ≤ n) (hn : n ≤ 8) : Pure Try.prog 111 [⟨.rdr, r⟩, ⟨.int, n⟩] [.rdr, .sl .u8] (⟨r.b, (takeS r.b r.at' r.e n).1, (takeS r.b r.at' r.e n).2.1⟩, (takeS r.b r.at' r.e n).2.2) :=
  ofT Try.func111 (t111 r n) (by kernel_rfl) (by kernel_rfl) fun _ => by
    obtain ⟨h1, h2, h3⟩ := hr
    unfold Sb at h3
    have hw : IntKind.i64.wrap ((r.b.length : Int) - r.at') = (r.b.length : Int) - r.at' := wrap_i64 (by omega) (by omega)
    have hw2 : IntKind.i64.wrap (r.at' + n) = r.at' + n := wrap_i64 (by omega) (by omega)
    refine sat_bif (fun h => absurd (of_decide_eq_true h) (by omega)) (fun _ => ?_)
    rw [hw, hw2]
    refine sat_bif (fun h => ⟨⟨⟨trivial, trivial, trivial, trivial⟩, ⟨trivial, trivial⟩, trivial⟩, _, c72 r 250, ⟨⟨trivial, trivial, trivial, trivial⟩, trivial, trivial⟩, ?_⟩) (fun h => sat_bif (fun h' => ⟨⟨⟨trivial, trivial, trivial, trivial⟩, trivial, trivial⟩, ?_⟩) (fun h' => ?_))
    · show ((⟨r.b, r.at', fst r.e 250⟩ : Rdr), ([] : List Int)) = _
      rw [takeS, h]; rfl
    · show (r, ([] : List Int)) = _
      rw [takeS, h, h']; rfl
    · have hh := of_decide_eq_false h
      have hlen : (List.drop (Int.toNat r.at') (List.take (Int.toNat (r.at' + n)) r.b)).length ≤ r.b.length := by
        rw [List.length_drop, List.length_take]; omega
      refine ⟨trivial, ⟨⟨h1, by omega, by omega⟩, trivial⟩, ⟨by omega, trivial⟩, ⟨⟨trivial, trivial, trivial, trivial⟩, trivial, trivial⟩, ?_⟩
      show ((⟨r.b, r.at' + n, r.e⟩ : Rdr), List.drop (Int.toNat r.at') (List.take (Int.toNat (r.at' + n)) r.b)) = _
      have e : Int.toNat (r.at' + n) = Int.toNat r.at' + Int.toNat n := by omega
      rw [takeS, h, h', e, drop_take]; rfl

end Go.Proofs.Rp

namespace Go.Proofs.Rp
open Go Go.VL

def rcells (x : Resp) : List AV := [i64 x.err, i64 x.id, i64 x.n, i64 x.ver, .d (.sl .change x.list)]
def L58 (x : Resp) (i : Int) : AS := mkS 45 [(28, .d (.sl .change x.list)), (29, i64 x.list.length), (30, i64 i)] [] 0
def L60 (n w : Int) (out : List Int) (i : Int) : AS := mkS 33 [(1, u64 n), (2, i64 w), (7, .own 0 .u8), (16, i64 w), (17, i64 i)] [(0, .row 5 .u8 out)] 1
def L61 (x : Resp) (i : Int) : AS := mkS 61 [(1, .ptr 0 0), (3, i64 i)] [(0, .box (rcells x))] 1
def L62 (n : Int) (out : List Int) (i : Int) : AS := mkS 34 [(1, u64 n), (7, .own 0 .u8), (8, i64 i)] [(0, .row 5 .u8 out)] 1
def L15 (x : Resp) (b : List Int) (i : Int) : AS := mkS 69 [(1, .ptr 0 0), (4, .d (.sl .u8 b)), (5, i64 i)] [(0, .box (rcells x))] 1
def L74 (a b : List Change) (i : Int) : AS := mkS 26 [(0, .d (.sl .change a)), (1, .d (.sl .change b)), (5, i64 i)] [] 0
def L70 (r : Rdr) (bs : List Int) (n i : Int) : AS := mkS 39 [(2, .ptr 0 0), (4, .ptr 1 0), (6, .d (.sl .u8 bs)), (7, u64 n), (8, i64 i)] [(0, .box [.d (.sl .u8 r.b), i64 r.at', i64 r.e]), (1, .box [.d (.v (.slice none 0 0)), i64 0, i64 0])] 2
def L71 (r : Rdr) (bs : List Int) (n i : Int) : AS := mkS 47 [(2, .ptr 0 0), (4, .ptr 1 0), (6, .d (.sl .u8 bs)), (7, i64 n), (8, i64 i)] [(0, .box [.d (.sl .u8 r.b), i64 r.at', i64 r.e]), (1, .box [.d (.v (.slice none 0 0)), i64 0, i64 0])] 2
def L109 (a e : Int) (bs : List Int) (off len : Nat) (n i : Int) : AS := mkS 23 [(5, u64 n), (10, .view 1 .u8 off len), (11, i64 len), (12, i64 i)] (RH a e bs) 2
def L18 (r : Rdr) (x : Resp) (k i : Int) : AS := mkS 103 [(2, .ptr 0 0), (4, .ptr 1 0), (5, .ptr 2 0), (9, u64 k), (10, u64 i)] [(0, .box [i64 0, i64 0, i64 0, i64 0, .d (.v (.slice none 0 0))]), (1, .box [.d (.sl .u8 r.b), i64 r.at', i64 r.e]), (2, .box [i64 x.err, i64 x.id, i64 x.n, i64 x.ver, .own 3 .change]), (3, .row 85 .change x.list)] 4


theorem t58a (x : Resp) (i : Int) : @Eq (Out (TyTup [.bool])) (aexec Try.prog codes sigs Try.f58 (pureFin [.bool]) 0 noCut 200 true (hd Try.f58 0) (L58 x i))
    (bif decide (i < (↑(List.length (Resp.list x)) : Int)) then
  Out.need (((0 : Int) ≤ i ∧ i < (↑(List.length (Resp.list x)) : Int)) ∧ True)
    (Out.need ((True ∧ True) ∧ (True ∧ True) ∧ True)
      (Out.callP (102 : Nat)
        [Sigma.mk Ty.int (Change.ver (List.getD (Resp.list x) (Int.toNat i) (Ty.dflt Ty.change))),
          Sigma.mk Ty.int (4 : Int)]
        [Ty.bool] fun (x_1 : Bool) =>
        bif !x_1 then Out.need (True ∧ True) (Out.ret false)
        else
          Out.need ((True ∧ True) ∧ (True ∧ True) ∧ True)
            (Out.callP (102 : Nat)
              [Sigma.mk Ty.int (Change.by' (List.getD (Resp.list x) (Int.toNat i) (Ty.dflt Ty.change))),
                Sigma.mk Ty.int (1 : Int)]
              [Ty.bool] fun (x_2 : Bool) =>
              bif !x_2 then Out.need (True ∧ True) (Out.ret false)
              else
                Out.stop (hd Try.f58 (0 : Nat))
                  (mkS (45 : Nat)
                    [((28 : Nat), AV.d (D.sl Ty.change (Resp.list x))),
                      ((29 : Nat), AV.d (D.v (Value.int IntKind.i64 (↑(List.length (Resp.list x)) : Int)))),
                      ((30 : Nat), AV.d (D.v (Value.int IntKind.i64 (IntKind.wrap IntKind.i64 (i + (1 : Int))))))]
                    [] (0 : Nat)))))
  else Out.need (True ∧ True) (Out.ret true)) := by kernel_rfl

theorem t60a (n w : Int) (out : List Int) (i : Int) : @Eq (Out (TyTup [.sl .u8])) (aexec Try.prog codes sigs Try.f60 (pureFin [.sl .u8]) 0 noCut 200 true (hd Try.f60 0) (L60 n w out i))
    (bif decide (i < w) then
  Out.need
    ((0 : Int) ≤
      IntKind.wrap IntKind.i64 ((8 : Int) * IntKind.wrap IntKind.i64 (IntKind.wrap IntKind.i64 (w - (1 : Int)) - i)))
    (Out.need ((True ∧ True) ∧ True)
      (Out.need
        ((List.length out +
                List.length
                  [IntKind.wrap IntKind.u8
                      (Int.fdiv n
                        ((2 : Int) ^
                          min
                            (Int.toNat
                              (IntKind.wrap IntKind.i64
                                ((8 : Int) * IntKind.wrap IntKind.i64 (IntKind.wrap IntKind.i64 (w - (1 : Int)) - i))))
                            (IntKind.bits IntKind.u64)))]) *
              (2 : Nat) ≤
            (35184372088832 : Nat) ∧
          True)
        (Out.stop (hd Try.f60 (0 : Nat))
          (mkS (33 : Nat)
            [((1 : Nat), AV.d (D.v (Value.int IntKind.u64 n))), ((2 : Nat), AV.d (D.v (Value.int IntKind.i64 w))),
              ((7 : Nat), AV.own (0 : Nat) Ty.u8), ((16 : Nat), AV.d (D.v (Value.int IntKind.i64 w))),
              ((17 : Nat), AV.d (D.v (Value.int IntKind.i64 (IntKind.wrap IntKind.i64 (i + (1 : Int))))))]
            [((0 : Nat),
                ABlk.row (5 : Nat) Ty.u8
                  (out ++
                    [IntKind.wrap IntKind.u8
                        (Int.fdiv n
                          ((2 : Int) ^
                            min
                              (Int.toNat
                                (IntKind.wrap IntKind.i64
                                  ((8 : Int) *
                                    IntKind.wrap IntKind.i64 (IntKind.wrap IntKind.i64 (w - (1 : Int)) - i))))
                              (IntKind.bits IntKind.u64)))]))]
            (1 : Nat)))))
  else Out.need (True ∧ True) (Out.ret out)) := by kernel_rfl

theorem t61a (x : Resp) (i : Int) : @Eq (Out (TyTup [.bool])) (aexec Try.prog codes sigs Try.f61 (pureFin [.bool]) 0 noCut 200 true (hd Try.f61 0) (L61 x i))
    (bif decide (i < (↑(List.length (Resp.list x)) : Int)) then
  Out.need (((0 : Int) ≤ i ∧ i < (↑(List.length (Resp.list x)) : Int)) ∧ True)
    (Out.need ((True ∧ True) ∧ True)
      (Out.callP (106 : Nat) [Sigma.mk Ty.int (Change.ver (List.getD (Resp.list x) (Int.toNat i) (Ty.dflt Ty.change)))]
        [Ty.bool] fun (x_1 : Bool) =>
        bif !x_1 then Out.need (True ∧ True) (Out.ret false)
        else
          bif decide (Change.by' (List.getD (Resp.list x) (Int.toNat i) (Ty.dflt Ty.change)) < (0 : Int)) then
            Out.need (True ∧ True) (Out.ret false)
          else
            bif decide (Change.by' (List.getD (Resp.list x) (Int.toNat i) (Ty.dflt Ty.change)) > (255 : Int)) then
              Out.need (True ∧ True) (Out.ret false)
            else
              Out.stop (hd Try.f61 (0 : Nat))
                (mkS (61 : Nat)
                  [((1 : Nat), AV.ptr (0 : Nat) (0 : Nat)),
                    ((3 : Nat), AV.d (D.v (Value.int IntKind.i64 (IntKind.wrap IntKind.i64 (i + (1 : Int))))))]
                  [((0 : Nat),
                      ABlk.box
                        [AV.d (D.v (Value.int IntKind.i64 (Resp.err x))),
                          AV.d (D.v (Value.int IntKind.i64 (Resp.id x))), AV.d (D.v (Value.int IntKind.i64 (Resp.n x))),
                          AV.d (D.v (Value.int IntKind.i64 (Resp.ver x))), AV.d (D.sl Ty.change (Resp.list x))])]
                  (1 : Nat))))
  else Out.need (True ∧ True) (Out.ret true)) := by kernel_rfl

theorem t62a (n : Int) (out : List Int) (i : Int) : @Eq (Out (TyTup [.sl .u8])) (aexec Try.prog codes sigs Try.f62 (pureFin [.sl .u8]) 0 noCut 200 true (hd Try.f62 0) (L62 n out i))
    (bif decide (i ≥ (0 : Int)) then
  Out.need ((0 : Int) ≤ IntKind.wrap IntKind.i64 ((8 : Int) * i))
    (Out.need ((True ∧ True) ∧ True)
      (Out.need
        ((List.length out +
                List.length
                  [IntKind.wrap IntKind.u8
                      (Int.fdiv n
                        ((2 : Int) ^
                          min (Int.toNat (IntKind.wrap IntKind.i64 ((8 : Int) * i))) (IntKind.bits IntKind.u64)))]) *
              (2 : Nat) ≤
            (35184372088832 : Nat) ∧
          True)
        (Out.stop (hd Try.f62 (0 : Nat))
          (mkS (34 : Nat)
            [((1 : Nat), AV.d (D.v (Value.int IntKind.u64 n))), ((7 : Nat), AV.own (0 : Nat) Ty.u8),
              ((8 : Nat), AV.d (D.v (Value.int IntKind.i64 (IntKind.wrap IntKind.i64 (i - (1 : Int))))))]
            [((0 : Nat),
                ABlk.row (5 : Nat) Ty.u8
                  (out ++
                    [IntKind.wrap IntKind.u8
                        (Int.fdiv n
                          ((2 : Int) ^
                            min (Int.toNat (IntKind.wrap IntKind.i64 ((8 : Int) * i))) (IntKind.bits IntKind.u64)))]))]
            (1 : Nat)))))
  else Out.need (True ∧ True) (Out.ret out)) := by kernel_rfl

theorem t15a (x : Resp) (b : List Int) (i : Int) : @Eq (Out (TyTup [.sl .u8, .int])) (aexec Try.prog codes sigs Try.f15 (pureFin [.sl .u8, .int]) 0 noCut 200 true (hd Try.f15 0) (L15 x b i))
    (bif decide (i < (↑(List.length (Resp.list x)) : Int)) then
  Out.need (((0 : Int) ≤ i ∧ i < (↑(List.length (Resp.list x)) : Int)) ∧ True)
    (Out.need ((True ∧ True) ∧ (True ∧ True) ∧ (True ∧ True) ∧ True)
      (Out.callP (62 : Nat)
        [Sigma.mk (Ty.sl Ty.u8) b,
          Sigma.mk Ty.u64
            (IntKind.wrap IntKind.u64 (Change.ver (List.getD (Resp.list x) (Int.toNat i) (Ty.dflt Ty.change)))),
          Sigma.mk Ty.int (4 : Int)]
        [Ty.sl Ty.u8] fun (x_1 : List Int) =>
        Out.need (((0 : Int) ≤ i ∧ i < (↑(List.length (Resp.list x)) : Int)) ∧ True)
          (Out.need ((True ∧ True) ∧ (True ∧ True) ∧ (True ∧ True) ∧ True)
            (Out.callP (62 : Nat)
              [Sigma.mk (Ty.sl Ty.u8) x_1,
                Sigma.mk Ty.u64
                  (IntKind.wrap IntKind.u64 (Change.by' (List.getD (Resp.list x) (Int.toNat i) (Ty.dflt Ty.change)))),
                Sigma.mk Ty.int (1 : Int)]
              [Ty.sl Ty.u8] fun (x_2 : List Int) =>
              Out.need (((0 : Int) ≤ i ∧ i < (↑(List.length (Resp.list x)) : Int)) ∧ True)
                (Out.need ((True ∧ True) ∧ (True ∧ True) ∧ (True ∧ True) ∧ True)
                  (Out.callP (62 : Nat)
                    [Sigma.mk (Ty.sl Ty.u8) x_2,
                      Sigma.mk Ty.u64
                        (IntKind.wrap IntKind.u64
                          (Change.n (List.getD (Resp.list x) (Int.toNat i) (Ty.dflt Ty.change)))),
                      Sigma.mk Ty.int (8 : Int)]
                    [Ty.sl Ty.u8] fun (x_3 : List Int) =>
                    Out.stop (hd Try.f15 (0 : Nat))
                      (mkS (69 : Nat)
                        [((1 : Nat), AV.ptr (0 : Nat) (0 : Nat)), ((4 : Nat), AV.d (D.sl Ty.u8 x_3)),
                          ((5 : Nat), AV.d (D.v (Value.int IntKind.i64 (IntKind.wrap IntKind.i64 (i + (1 : Int))))))]
                        [((0 : Nat),
                            ABlk.box
                              [AV.d (D.v (Value.int IntKind.i64 (Resp.err x))),
                                AV.d (D.v (Value.int IntKind.i64 (Resp.id x))),
                                AV.d (D.v (Value.int IntKind.i64 (Resp.n x))),
                                AV.d (D.v (Value.int IntKind.i64 (Resp.ver x))), AV.d (D.sl Ty.change (Resp.list x))])]
                        (1 : Nat))))))))
  else Out.need ((True ∧ True) ∧ True ∧ True) (Out.ret (b, (0 : Int)))) := by kernel_rfl

theorem t74a (a b : List Change) (i : Int) : @Eq (Out (TyTup [.bool])) (aexec Try.prog codes sigs Try.f74 (pureFin [.bool]) 0 noCut 200 true (hd Try.f74 0) (L74 a b i))
    (bif decide (i < (↑(List.length a) : Int)) then
  Out.need (((0 : Int) ≤ i ∧ i < (↑(List.length a) : Int)) ∧ True)
    (Out.need (((0 : Int) ≤ i ∧ i < (↑(List.length b) : Int)) ∧ True)
      (bif
          !(Change.ver (List.getD a (Int.toNat i) (Ty.dflt Ty.change)) ==
                Change.ver (List.getD b (Int.toNat i) (Ty.dflt Ty.change)) &&
              (Change.by' (List.getD a (Int.toNat i) (Ty.dflt Ty.change)) ==
                  Change.by' (List.getD b (Int.toNat i) (Ty.dflt Ty.change)) &&
                (Change.n (List.getD a (Int.toNat i) (Ty.dflt Ty.change)) ==
                    Change.n (List.getD b (Int.toNat i) (Ty.dflt Ty.change)) &&
                  true))) then
        Out.need (True ∧ True) (Out.ret false)
      else
        Out.stop (hd Try.f74 (0 : Nat))
          (mkS (26 : Nat)
            [((0 : Nat), AV.d (D.sl Ty.change a)), ((1 : Nat), AV.d (D.sl Ty.change b)),
              ((5 : Nat), AV.d (D.v (Value.int IntKind.i64 (IntKind.wrap IntKind.i64 (i + (1 : Int))))))]
            [] (0 : Nat))))
  else Out.need (True ∧ True) (Out.ret true)) := by kernel_rfl

theorem t70a (r : Rdr) (bs : List Int) (n i : Int) : @Eq (Out (TyTup [.rdr, .u64])) (aexec Try.prog codes sigs Try.f70 (pureFin [.rdr, .u64]) 0 noCut 200 true (hd Try.f70 0) (L70 r bs n i))
    (bif decide (i < (↑(List.length bs) : Int)) then
  Out.need (((0 : Int) ≤ i ∧ i < (↑(List.length bs) : Int)) ∧ True)
    (Out.stop (hd Try.f70 (0 : Nat))
      (mkS (39 : Nat)
        [((2 : Nat), AV.ptr (0 : Nat) (0 : Nat)), ((4 : Nat), AV.ptr (1 : Nat) (0 : Nat)),
          ((6 : Nat), AV.d (D.sl Ty.u8 bs)),
          ((7 : Nat),
            AV.d
              (D.v
                (Value.int IntKind.u64
                  (IntKind.wrap IntKind.u64
                    (IntKind.wrap IntKind.u64 ((256 : Int) * n) +
                      IntKind.wrap IntKind.u64 (List.getD bs (Int.toNat i) (Ty.dflt Ty.u8))))))),
          ((8 : Nat), AV.d (D.v (Value.int IntKind.i64 (IntKind.wrap IntKind.i64 (i + (1 : Int))))))]
        [((0 : Nat),
            ABlk.box
              [AV.d (D.sl Ty.u8 (Rdr.b r)), AV.d (D.v (Value.int IntKind.i64 (Rdr.at' r))),
                AV.d (D.v (Value.int IntKind.i64 (Rdr.e r)))]),
          ((1 : Nat),
            ABlk.box
              [AV.d (D.v (Value.slice none (0 : Nat) (0 : Nat))), AV.d (D.v (Value.int IntKind.i64 (0 : Int))),
                AV.d (D.v (Value.int IntKind.i64 (0 : Int)))])]
        (2 : Nat)))
  else Out.need ((True ∧ True ∧ True ∧ True) ∧ True ∧ True) (Out.ret (r, n))) := by kernel_rfl

theorem t71a (r : Rdr) (bs : List Int) (n i : Int) : @Eq (Out (TyTup [.rdr, .int])) (aexec Try.prog codes sigs Try.f71 (pureFin [.rdr, .int]) 0 noCut 200 true (hd Try.f71 0) (L71 r bs n i))
    (bif decide (i < (↑(List.length bs) : Int)) then
  bif i == (0 : Int) then
    Out.need (((0 : Int) ≤ (0 : Int) ∧ (0 : Int) < (↑(List.length bs) : Int)) ∧ True)
      (bif decide (List.getD bs (0 : Nat) (Ty.dflt Ty.u8) > (127 : Int)) then
        Out.need (((0 : Int) ≤ i ∧ i < (↑(List.length bs) : Int)) ∧ True)
          (Out.stop (hd Try.f71 (0 : Nat))
            (mkS (47 : Nat)
              [((2 : Nat), AV.ptr (0 : Nat) (0 : Nat)), ((4 : Nat), AV.ptr (1 : Nat) (0 : Nat)),
                ((6 : Nat), AV.d (D.sl Ty.u8 bs)),
                ((7 : Nat),
                  AV.d
                    (D.v
                      (Value.int IntKind.i64
                        (IntKind.wrap IntKind.i64
                          (IntKind.wrap IntKind.i64 ((256 : Int) * (-1 : Int)) +
                            IntKind.wrap IntKind.i64 (List.getD bs (Int.toNat i) (Ty.dflt Ty.u8))))))),
                ((8 : Nat), AV.d (D.v (Value.int IntKind.i64 (IntKind.wrap IntKind.i64 (i + (1 : Int))))))]
              [((0 : Nat),
                  ABlk.box
                    [AV.d (D.sl Ty.u8 (Rdr.b r)), AV.d (D.v (Value.int IntKind.i64 (Rdr.at' r))),
                      AV.d (D.v (Value.int IntKind.i64 (Rdr.e r)))]),
                ((1 : Nat),
                  ABlk.box
                    [AV.d (D.v (Value.slice none (0 : Nat) (0 : Nat))), AV.d (D.v (Value.int IntKind.i64 (0 : Int))),
                      AV.d (D.v (Value.int IntKind.i64 (0 : Int)))])]
              (2 : Nat)))
      else
        Out.need (((0 : Int) ≤ i ∧ i < (↑(List.length bs) : Int)) ∧ True)
          (Out.stop (hd Try.f71 (0 : Nat))
            (mkS (47 : Nat)
              [((2 : Nat), AV.ptr (0 : Nat) (0 : Nat)), ((4 : Nat), AV.ptr (1 : Nat) (0 : Nat)),
                ((6 : Nat), AV.d (D.sl Ty.u8 bs)),
                ((7 : Nat),
                  AV.d
                    (D.v
                      (Value.int IntKind.i64
                        (IntKind.wrap IntKind.i64
                          (IntKind.wrap IntKind.i64 ((256 : Int) * n) +
                            IntKind.wrap IntKind.i64 (List.getD bs (Int.toNat i) (Ty.dflt Ty.u8))))))),
                ((8 : Nat), AV.d (D.v (Value.int IntKind.i64 (IntKind.wrap IntKind.i64 (i + (1 : Int))))))]
              [((0 : Nat),
                  ABlk.box
                    [AV.d (D.sl Ty.u8 (Rdr.b r)), AV.d (D.v (Value.int IntKind.i64 (Rdr.at' r))),
                      AV.d (D.v (Value.int IntKind.i64 (Rdr.e r)))]),
                ((1 : Nat),
                  ABlk.box
                    [AV.d (D.v (Value.slice none (0 : Nat) (0 : Nat))), AV.d (D.v (Value.int IntKind.i64 (0 : Int))),
                      AV.d (D.v (Value.int IntKind.i64 (0 : Int)))])]
              (2 : Nat))))
  else
    Out.need (((0 : Int) ≤ i ∧ i < (↑(List.length bs) : Int)) ∧ True)
      (Out.stop (hd Try.f71 (0 : Nat))
        (mkS (47 : Nat)
          [((2 : Nat), AV.ptr (0 : Nat) (0 : Nat)), ((4 : Nat), AV.ptr (1 : Nat) (0 : Nat)),
            ((6 : Nat), AV.d (D.sl Ty.u8 bs)),
            ((7 : Nat),
              AV.d
                (D.v
                  (Value.int IntKind.i64
                    (IntKind.wrap IntKind.i64
                      (IntKind.wrap IntKind.i64 ((256 : Int) * n) +
                        IntKind.wrap IntKind.i64 (List.getD bs (Int.toNat i) (Ty.dflt Ty.u8))))))),
            ((8 : Nat), AV.d (D.v (Value.int IntKind.i64 (IntKind.wrap IntKind.i64 (i + (1 : Int))))))]
          [((0 : Nat),
              ABlk.box
                [AV.d (D.sl Ty.u8 (Rdr.b r)), AV.d (D.v (Value.int IntKind.i64 (Rdr.at' r))),
                  AV.d (D.v (Value.int IntKind.i64 (Rdr.e r)))]),
            ((1 : Nat),
              ABlk.box
                [AV.d (D.v (Value.slice none (0 : Nat) (0 : Nat))), AV.d (D.v (Value.int IntKind.i64 (0 : Int))),
                  AV.d (D.v (Value.int IntKind.i64 (0 : Int)))])]
          (2 : Nat)))
  else Out.need ((True ∧ True ∧ True ∧ True) ∧ True ∧ True) (Out.ret (r, n))) := by kernel_rfl

theorem t109a (a e : Int) (bs : List Int) (off len : Nat) (n i : Int) : @Eq (Out GRes) (aexec Try.prog codes sigs Try.f109 (gFin 2) 2 noCut 200 true (hd Try.f109 0) (L109 a e bs off len n i))
    (bif decide (i < (↑len : Int)) then
  Out.need ((0 : Int) ≤ i ∧ i < (↑len : Int))
    (Out.need (off + Int.toNat i < List.length bs)
      (Out.need ((0 : Int) ≤ (8 : Int))
        (Out.stop (hd Try.f109 (0 : Nat))
          (mkS (23 : Nat)
            [((5 : Nat),
                AV.d
                  (D.v
                    (Value.int IntKind.u64
                      (IntKind.wrap IntKind.u64
                        (↑(BitVec.toNat
                              (BitVec.ofInt (IntKind.bits IntKind.u64)
                                  (IntKind.wrap IntKind.u64
                                    (n * (2 : Int) ^ min (8 : Nat) (IntKind.bits IntKind.u64))) |||
                                BitVec.ofInt (IntKind.bits IntKind.u64)
                                  (IntKind.wrap IntKind.u64 (List.getD bs (off + Int.toNat i) (Ty.dflt Ty.u8))))) :
                          Int))))),
              ((10 : Nat), AV.view (1 : Nat) Ty.u8 off len),
              ((11 : Nat), AV.d (D.v (Value.int IntKind.i64 (↑len : Int)))),
              ((12 : Nat), AV.d (D.v (Value.int IntKind.i64 (IntKind.wrap IntKind.i64 (i + (1 : Int))))))]
            [((0 : Nat),
                ABlk.box
                  [AV.d (D.v (Value.int IntKind.i64 a)), AV.d (D.v (Value.int IntKind.i64 e)), AV.own (1 : Nat) Ty.u8]),
              ((1 : Nat), ABlk.row (5 : TypeId) Ty.u8 bs)]
            (2 : Nat)))))
  else
  Out.need True
    (Out.ret
      (GRes.mk [AV.d (D.v (Value.int IntKind.u64 n))]
        [((0 : Nat),
            ABlk.box
              [AV.d (D.v (Value.int IntKind.i64 a)), AV.d (D.v (Value.int IntKind.i64 e)), AV.own (1 : Nat) Ty.u8]),
          ((1 : Nat), ABlk.row (5 : TypeId) Ty.u8 bs)]
        (2 : Nat)))) := by kernel_rfl

theorem t18a (r : Rdr) (x : Resp) (k i : Int) : @Eq (Out (TyTup [.resp, .int])) (aexec Try.prog codes sigs Try.f18 (pureFin [.resp, .int]) 0 noCut 300 true (hd Try.f18 0) (L18 r x k i))
    (bif decide (i < k) then
  bif Rdr.e r == (0 : Int) then
    Out.need ((True ∧ True ∧ True ∧ True) ∧ (True ∧ True) ∧ True)
      (Out.callP (70 : Nat) [Sigma.mk Ty.rdr r, Sigma.mk Ty.int (4 : Int)] [Ty.rdr, Ty.u64] fun (x_1 : Rdr × Int) =>
        Out.need ((True ∧ True ∧ True ∧ True) ∧ (True ∧ True) ∧ True)
          (Out.callP (70 : Nat) [Sigma.mk Ty.rdr (Prod.fst x_1), Sigma.mk Ty.int (1 : Int)] [Ty.rdr, Ty.u64]
            fun (x_2 : Rdr × Int) =>
            Out.need ((True ∧ True ∧ True ∧ True) ∧ (True ∧ True) ∧ True)
              (Out.callP (71 : Nat) [Sigma.mk Ty.rdr (Prod.fst x_2), Sigma.mk Ty.int (8 : Int)] [Ty.rdr, Ty.int]
                fun (x_3 : Rdr × Int) =>
                Out.need ((True ∧ True ∧ True ∧ True) ∧ True)
                  (Out.need
                    ((List.length (Resp.list x) +
                            List.length
                              [Change.mk (IntKind.wrap IntKind.i64 (Prod.snd x_1))
                                  (IntKind.wrap IntKind.i64 (Prod.snd x_2)) (Prod.snd x_3)]) *
                          (25 : Nat) ≤
                        (35184372088832 : Nat) ∧
                      True)
                    (Out.stop (hd Try.f18 (0 : Nat))
                      (mkS (103 : Nat)
                        [((2 : Nat), AV.ptr (0 : Nat) (0 : Nat)), ((4 : Nat), AV.ptr (1 : Nat) (0 : Nat)),
                          ((5 : Nat), AV.ptr (2 : Nat) (0 : Nat)), ((9 : Nat), AV.d (D.v (Value.int IntKind.u64 k))),
                          ((10 : Nat), AV.d (D.v (Value.int IntKind.u64 (IntKind.wrap IntKind.u64 (i + (1 : Int))))))]
                        [((0 : Nat),
                            ABlk.box
                              [AV.d (D.v (Value.int IntKind.i64 (0 : Int))),
                                AV.d (D.v (Value.int IntKind.i64 (0 : Int))),
                                AV.d (D.v (Value.int IntKind.i64 (0 : Int))),
                                AV.d (D.v (Value.int IntKind.i64 (0 : Int))),
                                AV.d (D.v (Value.slice none (0 : Nat) (0 : Nat)))]),
                          ((1 : Nat),
                            ABlk.box
                              [AV.d (D.sl Ty.u8 (Rdr.b (Prod.fst x_3))),
                                AV.d (D.v (Value.int IntKind.i64 (Rdr.at' (Prod.fst x_3)))),
                                AV.d (D.v (Value.int IntKind.i64 (Rdr.e (Prod.fst x_3))))]),
                          ((2 : Nat),
                            ABlk.box
                              [AV.d (D.v (Value.int IntKind.i64 (Resp.err x))),
                                AV.d (D.v (Value.int IntKind.i64 (Resp.id x))),
                                AV.d (D.v (Value.int IntKind.i64 (Resp.n x))),
                                AV.d (D.v (Value.int IntKind.i64 (Resp.ver x))), AV.own (3 : Nat) Ty.change]),
                          ((3 : Nat),
                            ABlk.row (85 : Nat) Ty.change
                              (Resp.list x ++
                                [Change.mk (IntKind.wrap IntKind.i64 (Prod.snd x_1))
                                    (IntKind.wrap IntKind.i64 (Prod.snd x_2)) (Prod.snd x_3)]))]
                        (4 : Nat)))))))
  else
    Out.need ((True ∧ True ∧ True ∧ True) ∧ True)
      (Out.callP (73 : Nat) [Sigma.mk Ty.rdr r] [Ty.rdr] fun (x_1 : Rdr) =>
        bif Rdr.e x_1 != (0 : Int) then
          Out.need ((True ∧ True ∧ True ∧ True ∧ True ∧ True) ∧ True ∧ True)
            (Out.ret (Resp.mk (0 : Int) (0 : Int) (0 : Int) (0 : Int) [], Rdr.e x_1))
        else Out.need ((True ∧ True ∧ True ∧ True ∧ True ∧ True) ∧ True ∧ True) (Out.ret (x, (0 : Int))))
  else
  Out.need ((True ∧ True ∧ True ∧ True) ∧ True)
    (Out.callP (73 : Nat) [Sigma.mk Ty.rdr r] [Ty.rdr] fun (x_1 : Rdr) =>
      bif Rdr.e x_1 != (0 : Int) then
        Out.need ((True ∧ True ∧ True ∧ True ∧ True ∧ True) ∧ True ∧ True)
          (Out.ret (Resp.mk (0 : Int) (0 : Int) (0 : Int) (0 : Int) [], Rdr.e x_1))
      else Out.need ((True ∧ True ∧ True ∧ True ∧ True ∧ True) ∧ True ∧ True) (Out.ret (x, (0 : Int))))) := by kernel_rfl

theorem t14 (x : Resp) : @Eq (Out (TyTup [.sl .u8, .int])) (aexec Try.prog codes sigs Try.f14 (pureFin [.sl .u8, .int]) 0 noCut 200 false (bodyOf Try.f14) (startS Try.f14 [⟨.resp, x⟩]))
    (Out.need ((True ∧ True ∧ True ∧ True ∧ True ∧ True) ∧ True)
  (Out.callP (58 : Nat) [Sigma.mk Ty.resp x] [Ty.bool] fun (x_1 : Bool) =>
    bif !x_1 then Out.need ((True ∧ True) ∧ True ∧ True) (Out.ret ([], (4 : Int)))
    else
      Out.callG (59 : Nat)
        [AV.agg
            [AV.d (D.v (Value.int IntKind.i64 (Resp.err x))), AV.d (D.v (Value.int IntKind.i64 (Resp.id x))),
              AV.d (D.v (Value.int IntKind.i64 (Resp.n x))), AV.d (D.v (Value.int IntKind.i64 (Resp.ver x))),
              AV.d (D.sl Ty.change (Resp.list x))]]
        [] (0 : Nat) [Ty.resp]
        (fun (x : Resp) =>
          GRes.mk [AV.clo (Fn.func (104 : FuncId)) [] [AV.ptr (0 : Nat) (0 : Nat)]]
            [((0 : Nat),
                ABlk.box
                  [AV.d (D.v (Value.int IntKind.i64 (Resp.err x))), AV.d (D.v (Value.int IntKind.i64 (Resp.id x))),
                    AV.d (D.v (Value.int IntKind.i64 (Resp.n x))), AV.d (D.v (Value.int IntKind.i64 (Resp.ver x))),
                    AV.d (D.sl Ty.change (Resp.list x))])]
            (1 : Nat))
        fun (x : Resp) =>
        Out.stop (rf Try.f14 (0 : Nat))
          (mkS (19 : Nat)
            [((4 : Nat), AV.ptr (0 : Nat) (0 : Nat)),
              ((10 : Nat), AV.clo (Fn.func (104 : FuncId)) [] [AV.ptr (1 : Nat) (0 : Nat)]),
              ((11 : Nat), AV.d (D.v (Value.tuple (Array.mk []))))]
            [((0 : Nat), ABlk.box [AV.d (D.v (Value.slice none (0 : Nat) (0 : Nat)))]),
              ((1 : Nat),
                ABlk.box
                  [AV.d (D.v (Value.int IntKind.i64 (Resp.err x))), AV.d (D.v (Value.int IntKind.i64 (Resp.id x))),
                    AV.d (D.v (Value.int IntKind.i64 (Resp.n x))), AV.d (D.v (Value.int IntKind.i64 (Resp.ver x))),
                    AV.d (D.sl Ty.change (Resp.list x))])]
            (2 : Nat)))) := by kernel_rfl

end Go.Proofs.Rp

/- The answers' loops: what they come to. (Own work.) -/
namespace Go.Proofs.Rp
open Go Go.VL

/-! ### may it be written? -/
def chOK (c : Change) : Bool := decide (0 ≤ c.ver ∧ c.ver < 4294967296) && decide (0 ≤ c.by' ∧ c.by' < 256)
def mayB (x : Resp) : Bool := decide (0 ≤ x.err ∧ x.err < 65536) && (decide (-2147483648 ≤ x.id ∧ x.id < 2147483648) && (decide (0 ≤ x.ver ∧ x.ver < 4294967296) && (decide (x.list.length ≤ 32) && x.list.all chOK)))

theorem loop58 {x : Resp} (hl : x.list.length ≤ 32) {r : Bool} {A : List Item → AS → Prop} (hA : Closed Try.prog codes sigs Try.f58 (pureFin [.bool]) (fun y => y = r) 0 A)
    (i : Nat) (hi : i ≤ x.list.length) (h : (x.list.drop i).all chOK = r) : A (hd Try.f58 0) (L58 x i) := by
  refine hA.go (t58a x i) (sat_bif (fun h1 => ?_) (fun h1 => ?_))
  · have h1 := of_decide_eq_true h1
    have hil : i < x.list.length := by omega
    rw [getD_int hil]
    rw [List.drop_eq_getElem_cons hil, List.all_cons, chOK] at h
    refine ⟨⟨⟨by omega, by omega⟩, trivial⟩, ⟨⟨trivial, trivial⟩, ⟨trivial, trivial⟩, trivial⟩, _, c102_4 _, sat_bif (fun h2 => ?_) (fun h2 => ?_)⟩
    · refine ⟨⟨trivial, trivial⟩, ?_⟩
      show false = r
      have h2 : decide (0 ≤ x.list[i].ver ∧ x.list[i].ver < 4294967296) = false := nt h2
      rw [h2] at h; exact h
    · have h2 : decide (0 ≤ x.list[i].ver ∧ x.list[i].ver < 4294967296) = true := nf h2
      rw [h2, Bool.true_and] at h
      refine ⟨⟨⟨trivial, trivial⟩, ⟨trivial, trivial⟩, trivial⟩, _, c102_1 _, sat_bif (fun h3 => ?_) (fun h3 => ?_)⟩
      · refine ⟨⟨trivial, trivial⟩, ?_⟩
        show false = r
        have h3 : decide (0 ≤ x.list[i].by' ∧ x.list[i].by' < 256) = false := nt h3
        rw [h3] at h; exact h
      · have h3 : decide (0 ≤ x.list[i].by' ∧ x.list[i].by' < 256) = true := nf h3
        rw [h3, Bool.true_and] at h
        rw [wrap_succ (by omega)]
        exact loop58 hl hA (i + 1) (by omega) h
  · have h1 := of_decide_eq_false h1
    refine ⟨⟨trivial, trivial⟩, ?_⟩
    rw [List.drop_eq_nil_of_le (by omega)] at h
    exact h
termination_by x.list.length - i

theorem c58 (x : Resp) : Pure Try.prog 58 [⟨.resp, x⟩] [.bool] (mayB x) :=
  Pure.of_closed (C := codes) (S := sigs) mixed Try.func58 (by kernel_rfl) (Nat.le_of_ble_eq_true (by kernel_rfl)) fun A hA => hA.go (t58 x) (by
    have N : (True ∧ True) ∧ (True ∧ True) ∧ True := ⟨⟨trivial, trivial⟩, ⟨trivial, trivial⟩, trivial⟩
    refine ⟨N, _, c102_2 _, sat_bif (fun h => ⟨⟨trivial, trivial⟩, ?_⟩) (fun h => ⟨N, _, c103_4 _, sat_bif (fun h2 => ⟨⟨trivial, trivial⟩, ?_⟩) (fun h2 => ⟨N, _, c102_4 _, sat_bif (fun h3 => ⟨⟨trivial, trivial⟩, ?_⟩) (fun h3 => sat_bif (fun h4 => ⟨⟨trivial, trivial⟩, ?_⟩) (fun h4 => ?_))⟩)⟩)⟩
    · show false = mayB x
      have h : decide (0 ≤ x.err ∧ x.err < 65536) = false := nt h
      rw [mayB, h]; rfl
    · show false = mayB x
      have h : decide (0 ≤ x.err ∧ x.err < 65536) = true := nf h
      have h2 : decide (-2147483648 ≤ x.id ∧ x.id < 2147483648) = false := nt h2
      rw [mayB, h, h2]; rfl
    · show false = mayB x
      have h : decide (0 ≤ x.err ∧ x.err < 65536) = true := nf h
      have h2 : decide (-2147483648 ≤ x.id ∧ x.id < 2147483648) = true := nf h2
      have h3 : decide (0 ≤ x.ver ∧ x.ver < 4294967296) = false := nt h3
      rw [mayB, h, h2, h3]; rfl
    · show false = mayB x
      have h : decide (0 ≤ x.err ∧ x.err < 65536) = true := nf h
      have h2 : decide (-2147483648 ≤ x.id ∧ x.id < 2147483648) = true := nf h2
      have h3 : decide (0 ≤ x.ver ∧ x.ver < 4294967296) = true := nf h3
      have h4 := of_decide_eq_true h4
      have h5 : decide (x.list.length ≤ 32) = false := decide_eq_false (by omega)
      rw [mayB, h, h2, h3, h5]; rfl
    · have h : decide (0 ≤ x.err ∧ x.err < 65536) = true := nf h
      have h2 : decide (-2147483648 ≤ x.id ∧ x.id < 2147483648) = true := nf h2
      have h3 : decide (0 ≤ x.ver ∧ x.ver < 4294967296) = true := nf h3
      have h4 := of_decide_eq_false h4
      have h5 : decide (x.list.length ≤ 32) = true := decide_eq_true (by omega)
      refine loop58 (by omega) hA 0 (by omega) ?_
      rw [mayB, h, h2, h3, h5]; rfl)

theorem loop61 {x : Resp} (hl : x.list.length ≤ 32) {r : Bool} {A : List Item → AS → Prop} (hA : Closed Try.prog codes sigs Try.f61 (pureFin [.bool]) (fun y => y = r) 0 A)
    (i : Nat) (hi : i ≤ x.list.length) (h : (x.list.drop i).all chOK = r) : A (hd Try.f61 0) (L61 x i) := by
  refine hA.go (t61a x i) (sat_bif (fun h1 => ?_) (fun h1 => ?_))
  · have h1 := of_decide_eq_true h1
    have hil : i < x.list.length := by omega
    rw [getD_int hil]
    rw [List.drop_eq_getElem_cons hil, List.all_cons, chOK] at h
    refine ⟨⟨⟨by omega, by omega⟩, trivial⟩, ⟨⟨trivial, trivial⟩, trivial⟩, _, c106 _, sat_bif (fun h2 => ?_) (fun h2 => ?_)⟩
    · refine ⟨⟨trivial, trivial⟩, ?_⟩
      show false = r
      have h2 : decide (0 ≤ x.list[i].ver ∧ x.list[i].ver < 4294967296) = false := nt h2
      rw [h2] at h; exact h
    · have h2 : decide (0 ≤ x.list[i].ver ∧ x.list[i].ver < 4294967296) = true := nf h2
      rw [h2, Bool.true_and] at h
      refine sat_bif (fun h3 => ⟨⟨trivial, trivial⟩, ?_⟩) (fun h3 => sat_bif (fun h4 => ⟨⟨trivial, trivial⟩, ?_⟩) (fun h4 => ?_))
      · show false = r
        have h3 := of_decide_eq_true h3
        have h5 : decide (0 ≤ x.list[i].by' ∧ x.list[i].by' < 256) = false := decide_eq_false (by omega)
        rw [h5] at h; exact h
      · show false = r
        have h4 := of_decide_eq_true h4
        have h5 : decide (0 ≤ x.list[i].by' ∧ x.list[i].by' < 256) = false := decide_eq_false (by omega)
        rw [h5] at h; exact h
      · have h3 := of_decide_eq_false h3
        have h4 := of_decide_eq_false h4
        have h5 : decide (0 ≤ x.list[i].by' ∧ x.list[i].by' < 256) = true := decide_eq_true (by omega)
        rw [h5, Bool.true_and] at h
        rw [wrap_succ (by omega)]
        exact loop61 hl hA (i + 1) (by omega) h
  · have h1 := of_decide_eq_false h1
    refine ⟨⟨trivial, trivial⟩, ?_⟩
    rw [List.drop_eq_nil_of_le (by omega)] at h
    exact h
termination_by x.list.length - i

theorem c61 (x : Resp) : Pure Try.prog 61 [⟨.resp, x⟩] [.bool] (mayB x) :=
  Pure.of_closed (C := codes) (S := sigs) mixed Try.func61 (by kernel_rfl) (Nat.le_of_ble_eq_true (by kernel_rfl)) fun A hA => hA.go (t61 x) (by
    have F : ∀ b : Bool, mayB x = b → false = b → Sat Try.prog A (fun y => y = mayB x) (Out.need (True ∧ True) (Out.ret (α := TyTup [.bool]) false)) := fun b h1 h2 => ⟨⟨trivial, trivial⟩, by rw [h1]; exact h2⟩
    refine sat_bif (fun h => F false ?_ rfl) (fun h => sat_bif (fun h' => F false ?_ rfl) (fun h' => sat_bif (fun h2 => F false ?_ rfl) (fun h2 => sat_bif (fun h2' => F false ?_ rfl) (fun h2' => ?_))))
    · have := of_decide_eq_true h
      rw [mayB, decide_eq_false (by omega)]; rfl
    · have := of_decide_eq_true h'
      rw [mayB, decide_eq_false (by omega)]; rfl
    · have := of_decide_eq_true h2
      rw [mayB, decide_eq_false (p := -2147483648 ≤ x.id ∧ x.id < 2147483648) (by omega)]; simp
    · have := of_decide_eq_true h2'
      rw [mayB, decide_eq_false (p := -2147483648 ≤ x.id ∧ x.id < 2147483648) (by omega)]; simp
    · have g := of_decide_eq_false h
      have g' := of_decide_eq_false h'
      have g2 := of_decide_eq_false h2
      have g2' := of_decide_eq_false h2'
      have e1 : decide (0 ≤ x.err ∧ x.err < 65536) = true := decide_eq_true (by omega)
      have e2 : decide (-2147483648 ≤ x.id ∧ x.id < 2147483648) = true := decide_eq_true (by omega)
      refine ⟨⟨⟨trivial, trivial⟩, trivial⟩, _, c106 _, sat_bif (fun h3 => F false ?_ rfl) (fun h3 => sat_bif (fun h4 => F false ?_ rfl) (fun h4 => ?_))⟩
      · have h3 : decide (0 ≤ x.ver ∧ x.ver < 4294967296) = false := nt h3
        rw [mayB, h3]; simp
      · have h4 := of_decide_eq_true h4
        have h5 : decide (x.list.length ≤ 32) = false := decide_eq_false (by omega)
        rw [mayB, h5]; simp
      · have h3 : decide (0 ≤ x.ver ∧ x.ver < 4294967296) = true := nf h3
        have h4 := of_decide_eq_false h4
        have h5 : decide (x.list.length ≤ 32) = true := decide_eq_true (by omega)
        refine loop61 (by omega) hA 0 (by omega) ?_
        rw [mayB, e1, e2, h3, h5]; rfl)

/-! ### numbers as bytes -/
def byteAt (n : Int) (k : Nat) : Int := n / 256 ^ k % 256
def be (n : Int) (w : Nat) : List Int := (List.range w).map fun i => byteAt n (w - 1 - i)
theorem be_len (n : Int) (w : Nat) : (be n w).length = w := by simp [be]
theorem be_take (n : Int) {w i : Nat} (h : i < w) : (be n w).take (i + 1) = (be n w).take i ++ [byteAt n (w - 1 - i)] := by
  rw [List.take_succ_eq_append_getElem (by rw [be_len]; exact h)]
  simp [be]
theorem byte_eq {n : Int} (hn : 0 ≤ n) {k : Nat} (hk : k ≤ 7) : IntKind.u8.wrap (Int.fdiv n (2 ^ min (8 * k) IntKind.u64.bits)) = byteAt n k := by
  rw [wrap_u8, byteAt]
  have e : min (8 * k) IntKind.u64.bits = 8 * k := by
    have : IntKind.u64.bits = 64 := rfl
    omega
  rw [e, Int.fdiv_eq_ediv_of_nonneg _ (Int.pow_nonneg (by omega)), Int.pow_mul]
  rfl

theorem loop60 {n : Int} {b : List Int} {w : Nat} (hn : 0 ≤ n) (hw : w ≤ 8) (hb : Sb (b.length + 8)) {A : List Item → AS → Prop} (hA : Closed Try.prog codes sigs Try.f60 (pureFin [.sl .u8]) (fun y => y = b ++ be n w) 0 A)
    (i : Nat) (hi : i ≤ w) : A (hd Try.f60 0) (L60 n w (b ++ (be n w).take i) i) := by
  unfold Sb at hb
  refine hA.go (t60a n w _ i) (sat_bif (fun h1 => ?_) (fun h1 => ?_))
  · have h1 := of_decide_eq_true h1
    have hiw : i < w := by omega
    have e1 : IntKind.i64.wrap (8 * IntKind.i64.wrap (IntKind.i64.wrap ((w : Int) - 1) - (i : Int))) = ((8 * (w - 1 - i) : Nat) : Int) := by
      rw [wrap_i64 (n := (w : Int) - 1) (by omega) (by omega), wrap_i64 (n := (w : Int) - 1 - i) (by omega) (by omega), wrap_i64 (by omega) (by omega)]; omega
    have hl : (b ++ (be n w).take i).length = b.length + i := by
      rw [List.length_append, List.length_take, be_len, Nat.min_eq_left hi]
    rw [e1, Int.toNat_natCast, byte_eq hn (by omega), hl]
    refine ⟨by omega, ⟨⟨trivial, trivial⟩, trivial⟩, ⟨by simp only [List.length_cons, List.length_nil]; omega, trivial⟩, ?_⟩
    rw [wrap_succ (by omega)]
    have e2 : b ++ (be n w).take i ++ [byteAt n (w - 1 - i)] = b ++ (be n w).take (i + 1) := by rw [be_take n hiw, List.append_assoc]
    show A (hd Try.f60 0) (L60 n w (b ++ (be n w).take i ++ [byteAt n (w - 1 - i)]) ((i + 1 : Nat) : Int))
    rw [e2]
    exact loop60 hn hw (by unfold Sb; exact hb) hA (i + 1) (by omega)
  · have h1 := of_decide_eq_false h1
    refine ⟨⟨trivial, trivial⟩, ?_⟩
    show b ++ (be n w).take i = _
    rw [List.take_of_length_le (by rw [be_len]; omega)]
termination_by w - i

theorem c60 {n : Int} {b : List Int} {w : Nat} (hn : 0 ≤ n) (h1 : 1 ≤ w) (hw : w ≤ 8) (hb : Sb (b.length + 8)) : Pure Try.prog 60 [⟨.sl .u8, b⟩, ⟨.u64, n⟩, ⟨.int, (w : Int)⟩] [.sl .u8] (b ++ be n w) :=
  Pure.of_closed (C := codes) (S := sigs) mixed Try.func60 (by kernel_rfl) (Nat.le_of_ble_eq_true (by kernel_rfl)) fun A hA => hA.go (t60 b n w) (by
    refine ⟨trivial, ⟨by unfold Sb at hb; omega, trivial⟩, ⟨⟨trivial, trivial⟩, trivial⟩, _, c105 _, sat_bif (fun h => ?_) (fun h => ?_)⟩
    · have e : (bif decide ((w : Int) ≥ 1) then decide ((w : Int) ≤ 8) else false) = true := by rw [decide_eq_true (by omega : (w : Int) ≥ 1), cond_true, decide_eq_true (by omega)]
      cases (e.symm.trans (nt h))
    · have := loop60 hn hw hb hA 0 (by omega)
      rw [List.take_zero, List.append_nil] at this
      exact this)

theorem loop62 {n : Int} {b : List Int} {w : Nat} (hn : 0 ≤ n) (hw : w ≤ 8) (hb : Sb (b.length + 8)) {A : List Item → AS → Prop} (hA : Closed Try.prog codes sigs Try.f62 (pureFin [.sl .u8]) (fun y => y = b ++ be n w) 0 A)
    (i : Nat) (hi : i ≤ w) : A (hd Try.f62 0) (L62 n (b ++ (be n w).take i) ((w : Int) - 1 - i)) := by
  unfold Sb at hb
  refine hA.go (t62a n _ _) (sat_bif (fun h1 => ?_) (fun h1 => ?_))
  · have h1 := of_decide_eq_true h1
    have hiw : i < w := by omega
    have e1 : IntKind.i64.wrap (8 * ((w : Int) - 1 - i)) = ((8 * (w - 1 - i) : Nat) : Int) := by
      rw [wrap_i64 (by omega) (by omega)]; omega
    have hl : (b ++ (be n w).take i).length = b.length + i := by
      rw [List.length_append, List.length_take, be_len, Nat.min_eq_left hi]
    rw [e1, Int.toNat_natCast, byte_eq hn (by omega), hl]
    refine ⟨by omega, ⟨⟨trivial, trivial⟩, trivial⟩, ⟨by simp only [List.length_cons, List.length_nil]; omega, trivial⟩, ?_⟩
    have e3 : IntKind.i64.wrap ((w : Int) - 1 - i - 1) = (w : Int) - 1 - ((i + 1 : Nat) : Int) := by
      rw [wrap_i64 (by omega) (by omega)]; omega
    rw [e3]
    have e2 : b ++ (be n w).take i ++ [byteAt n (w - 1 - i)] = b ++ (be n w).take (i + 1) := by rw [be_take n hiw, List.append_assoc]
    show A (hd Try.f62 0) (L62 n (b ++ (be n w).take i ++ [byteAt n (w - 1 - i)]) ((w : Int) - 1 - ((i + 1 : Nat) : Int)))
    rw [e2]
    exact loop62 hn hw (by unfold Sb; exact hb) hA (i + 1) (by omega)
  · have h1 := of_decide_eq_false h1
    refine ⟨⟨trivial, trivial⟩, ?_⟩
    show b ++ (be n w).take i = _
    rw [List.take_of_length_le (by rw [be_len]; omega)]
termination_by w - i

theorem c62 {n : Int} {b : List Int} {w : Nat} (hn : 0 ≤ n) (h1 : 1 ≤ w) (hw : w ≤ 8) (hb : Sb (b.length + 8)) : Pure Try.prog 62 [⟨.sl .u8, b⟩, ⟨.u64, n⟩, ⟨.int, (w : Int)⟩] [.sl .u8] (b ++ be n w) :=
  Pure.of_closed (C := codes) (S := sigs) mixed Try.func62 (by kernel_rfl) (Nat.le_of_ble_eq_true (by kernel_rfl)) fun A hA => hA.go (t62 b n w) (by
    refine ⟨trivial, ⟨by unfold Sb at hb; omega, trivial⟩, sat_bif (fun h => absurd (of_decide_eq_true h) (by omega)) (fun _ => sat_bif (fun h => absurd (of_decide_eq_true h) (by omega)) (fun _ => ?_))⟩
    have := loop62 hn hw hb hA 0 (by omega)
    rw [List.take_zero, List.append_nil] at this
    have e : IntKind.i64.wrap ((w : Int) - 1) = (w : Int) - 1 - ((0 : Nat) : Int) := by rw [wrap_i64 (by omega) (by omega)]; omega
    rw [e]
    exact this)

/-! ### the same answers -/
theorem ch_eq (a b : Change) : (a.ver == b.ver && (a.by' == b.by' && (a.n == b.n && true))) = decide (a = b) := by
  obtain ⟨a1, a2, a3⟩ := a
  obtain ⟨b1, b2, b3⟩ := b
  simp only [Bool.and_true, Change.mk.injEq]
  by_cases h1 : a1 = b1 <;> by_cases h2 : a2 = b2 <;> by_cases h3 : a3 = b3 <;> simp [h1, h2, h3]
theorem loop74 {xs ys : List Change} (hlen : xs.length = ys.length) (hl : xs.length < 9223372036854775000) {A : List Item → AS → Prop} (hA : Closed Try.prog codes sigs Try.f74 (pureFin [.bool]) (fun y => y = decide (xs = ys)) 0 A)
    (i : Nat) (hn : i ≤ xs.length) (h : xs.take i = ys.take i) : A (hd Try.f74 0) (L74 xs ys i) := by
  refine hA.go (t74a xs ys i) (sat_bif (fun h1 => ?_) (fun h1 => ?_))
  · have h1 := of_decide_eq_true h1
    have hil : i < xs.length := by omega
    have hiy : i < ys.length := by omega
    rw [getD_int hil, getD_int hiy, ch_eq]
    refine ⟨⟨⟨by omega, by omega⟩, trivial⟩, ⟨⟨by omega, by omega⟩, trivial⟩, sat_bif (fun h2 => ⟨⟨trivial, trivial⟩, ?_⟩) (fun h2 => ?_)⟩
    · have h2 : xs[i] ≠ ys[i] := by simpa using h2
      show false = decide (xs = ys)
      rw [decide_eq_false]
      intro e
      subst e
      exact h2 rfl
    · have h2 : xs[i] = ys[i] := by simpa using h2
      rw [wrap_succ (by omega)]
      exact loop74 hlen hl hA (i + 1) (by omega) (by rw [List.take_succ_eq_append_getElem hil, List.take_succ_eq_append_getElem hiy, h, h2])
  · have h1 := of_decide_eq_false h1
    refine ⟨⟨trivial, trivial⟩, ?_⟩
    show true = decide (xs = ys)
    rw [List.take_of_length_le (by omega), List.take_of_length_le (by omega)] at h
    rw [decide_eq_true h]
termination_by xs.length - i
theorem c74 {xs ys : List Change} (hl : xs.length < 9223372036854775000) : Pure Try.prog 74 [⟨.sl .change, xs⟩, ⟨.sl .change, ys⟩] [.bool] (decide (xs = ys)) :=
  Pure.of_closed (C := codes) (S := sigs) mixed Try.func74 (by kernel_rfl) (Nat.le_of_ble_eq_true (by kernel_rfl)) fun A hA => hA.go (t74 xs ys) (by
    refine sat_bif (fun h1 => ⟨⟨trivial, trivial⟩, ?_⟩) (fun h1 => loop74 (by simp at h1; omega) hl hA 0 (by omega) rfl)
    show false = decide (xs = ys)
    rw [decide_eq_false]
    intro e
    subst e
    simp at h1)
theorem c19 {x y : Resp} (hl : x.list.length < 9223372036854775000) : Pure Try.prog 19 [⟨.resp, x⟩, ⟨.resp, y⟩] [.bool] (decide (x = y)) :=
  ofT Try.func19 (t19 x y) (by kernel_rfl) (by kernel_rfl) fun A => by
    obtain ⟨x1, x2, x3, x4, x5⟩ := x
    obtain ⟨y1, y2, y3, y4, y5⟩ := y
    have F : (Resp.mk x1 x2 x3 x4 x5) ≠ ⟨y1, y2, y3, y4, y5⟩ → Sat Try.prog A (fun z => z = decide ((Resp.mk x1 x2 x3 x4 x5) = ⟨y1, y2, y3, y4, y5⟩)) (Out.need (True ∧ True) (Out.ret (α := TyTup [.bool]) false)) :=
      fun h => ⟨⟨trivial, trivial⟩, (decide_eq_false h).symm⟩
    refine sat_bif (fun h1 => sat_bif (fun h2 => sat_bif (fun h3 => sat_bif (fun h4 => ?_) (fun h4 => F ?_)) (fun h3 => F ?_)) (fun h2 => F ?_)) (fun h1 => F ?_)
    · have g1 : x1 = y1 := by simpa using h1
      have g2 : x2 = y2 := by simpa using h2
      have g3 : x3 = y3 := by simpa using h3
      have g4 : x4 = y4 := by simpa using h4
      clear h1 h2 h3 h4
      subst g1; subst g2; subst g3; subst g4
      refine ⟨⟨⟨trivial, trivial⟩, ⟨trivial, trivial⟩, trivial⟩, _, c74 hl, ⟨trivial, trivial⟩, ?_⟩
      show decide (x5 = y5) = _
      exact decide_eq_decide.2 (by simp)
    all_goals (intro e; simp only [Resp.mk.injEq] at e; simp [e] at *)
end Go.Proofs.Rp

/- Numbers out of bytes. (Own work.) -/
namespace Go.Proofs.Rp
open Go Go.VL

def BV (bs : List Int) : Prop := ∀ c ∈ bs, 0 ≤ c ∧ c < 256
def numU (bs : List Int) : Int := bs.foldl (fun n c => 256 * n + c) 0
theorem numU_snoc (bs : List Int) (c : Int) : numU (bs ++ [c]) = 256 * numU bs + c := by simp [numU]
theorem numU_take {bs : List Int} {i : Nat} (h : i < bs.length) : numU (bs.take (i + 1)) = 256 * numU (bs.take i) + bs[i] := by
  rw [List.take_succ_eq_append_getElem h, numU_snoc]
theorem BV.take {bs : List Int} (h : BV bs) (i : Nat) : BV (bs.take i) := fun c hc => h c (List.mem_of_mem_take hc)
theorem BV.drop {bs : List Int} (h : BV bs) (i : Nat) : BV (bs.drop i) := fun c hc => h c (List.mem_of_mem_drop hc)
theorem foldU_bound : ∀ (bs : List Int) (n : Int) (k : Nat), BV bs → 0 ≤ n → n < 256 ^ k → 0 ≤ bs.foldl (fun n c => 256 * n + c) n ∧ bs.foldl (fun n c => 256 * n + c) n < 256 ^ (k + bs.length)
  | [], n, k, _, h0, h1 => ⟨h0, h1⟩
  | c :: bs, n, k, hb, h0, h1 => by
    obtain ⟨c0, c1⟩ := hb c (.head _)
    have ih := foldU_bound bs (256 * n + c) (k + 1) (fun d hd => hb d (.tail _ hd)) (by omega) (by rw [Int.pow_succ]; omega)
    have e : k + 1 + bs.length = k + (c :: bs).length := by simp; omega
    rw [e] at ih
    exact ih
theorem numU_bound {bs : List Int} (h : BV bs) : 0 ≤ numU bs ∧ numU bs < 256 ^ bs.length := by
  have := foldU_bound bs 0 0 h (Int.le_refl _) (by decide)
  rw [Nat.zero_add] at this
  exact this
theorem pow_le {k j : Nat} (h : k ≤ j) : (256 : Int) ^ k ≤ 256 ^ j := by
  obtain ⟨d, rfl⟩ := Nat.exists_eq_add_of_le h
  rw [Int.pow_add]
  have h1 : (0 : Int) < 256 ^ k := Int.pow_pos (by decide)
  have h2 : (0 : Int) < 256 ^ d := Int.pow_pos (by decide)
  have := Int.mul_le_mul_of_nonneg_left (show (1 : Int) ≤ 256 ^ d by omega) (Int.le_of_lt h1)
  omega
theorem numU_lt {bs : List Int} (h : BV bs) {k : Nat} (hk : bs.length ≤ k) : numU bs < 256 ^ k := Int.lt_of_lt_of_le (numU_bound h).2 (pow_le hk)
theorem numU_lt8 {bs : List Int} (h : BV bs) (hk : bs.length ≤ 8) : numU bs < 18446744073709551616 := numU_lt h hk

/-- A number with its sign. -/
def numI (bs : List Int) : Int := match bs with
  | [] => 0
  | c :: _ => bif decide (c > 127) then numU bs - 256 ^ bs.length else numU bs
theorem numU_cons (c : Int) (bs : List Int) : numU (c :: bs) = c * 256 ^ bs.length + numU bs := by
  have key : ∀ (bs : List Int) (n : Int), bs.foldl (fun n c => 256 * n + c) n = n * 256 ^ bs.length + numU bs := by
    intro bs
    induction bs with
    | nil => intro n; simp [numU]
    | cons d bs ih =>
      intro n
      show bs.foldl _ (256 * n + d) = _
      have e : numU (d :: bs) = bs.foldl (fun n c => 256 * n + c) d := by simp [numU]
      rw [ih, e, ih d, List.length_cons, Int.pow_succ]
      have : (256 * n + d) * 256 ^ bs.length = n * (256 ^ bs.length * 256) + d * 256 ^ bs.length := by
        rw [Int.add_mul]; congr 1; rw [Int.mul_comm 256 n, Int.mul_assoc, Int.mul_comm 256]
      omega
  have := key bs c
  simpa [numU] using this
theorem numI_bound {bs : List Int} (h : BV bs) (k : Nat) (hk : bs.length ≤ k + 1) : -(128 * 256 ^ k) ≤ numI bs ∧ numI bs < 128 * 256 ^ k := by
  cases bs with
  | nil =>
    have : (0 : Int) < 256 ^ k := Int.pow_pos (by decide)
    simp only [numI]; omega
  | cons c bs =>
    obtain ⟨c0, c1⟩ := h c (.head _)
    obtain ⟨b0, b1⟩ := numU_bound (bs := bs) (fun d hd => h d (.tail _ hd))
    have e := numU_cons c bs
    have hp : (0 : Int) < 256 ^ bs.length := Int.pow_pos (by decide)
    have hle := pow_le (k := bs.length) (j := k) (by simp at hk; omega)
    have e2 : (256 : Int) ^ (c :: bs).length = 256 * 256 ^ bs.length := by rw [List.length_cons, Int.pow_succ, Int.mul_comm]
    simp only [numI]
    generalize (256 : Int) ^ bs.length = p at *
    by_cases h7 : c > 127
    · rw [decide_eq_true h7, cond_true, e2, e]
      have h1 : 128 * p ≤ c * p := Int.mul_le_mul_of_nonneg_right (by omega) (by omega)
      have h2 : c * p ≤ 255 * p := Int.mul_le_mul_of_nonneg_right (by omega) (by omega)
      omega
    · rw [decide_eq_false h7, cond_false, e]
      have h1 : 0 ≤ c * p := Int.mul_nonneg c0 (by omega)
      have h2 : c * p ≤ 127 * p := Int.mul_le_mul_of_nonneg_right (by omega) (by omega)
      omega
theorem numI_snoc {bs : List Int} (hne : bs ≠ []) (c : Int) : numI (bs ++ [c]) = 256 * numI bs + c := by
  cases bs with
  | nil => exact absurd rfl hne
  | cons d bs =>
    have e : numU (d :: bs ++ [c]) = 256 * numU (d :: bs) + c := numU_snoc _ _
    show (bif decide (d > 127) then numU (d :: bs ++ [c]) - 256 ^ (d :: bs ++ [c]).length else numU (d :: bs ++ [c])) = 256 * (bif decide (d > 127) then numU (d :: bs) - 256 ^ (d :: bs).length else numU (d :: bs)) + c
    have e2 : (256 : Int) ^ (d :: bs ++ [c]).length = 256 * 256 ^ (d :: bs).length := by rw [List.length_append, List.length_singleton, Int.pow_succ, Int.mul_comm]
    cases decide (d > 127)
    · rw [cond_false, cond_false, e]
    · rw [cond_true, cond_true, e, e2]; omega

/-! ### the reference's reader -/
theorem loop70 {r : Rdr} {bs : List Int} (hb : BV bs) (hl : bs.length ≤ 8) {A : List Item → AS → Prop} (hA : Closed Try.prog codes sigs Try.f70 (pureFin [.rdr, .u64]) (fun y => y = (r, numU bs)) 0 A)
    (i : Nat) (hi : i ≤ bs.length) : A (hd Try.f70 0) (L70 r bs (numU (bs.take i)) i) := by
  refine hA.go (t70a r bs _ i) (sat_bif (fun h1 => ?_) (fun h1 => ?_))
  · have h1 := of_decide_eq_true h1
    have hil : i < bs.length := by omega
    refine ⟨⟨⟨by omega, by omega⟩, trivial⟩, ?_⟩
    rw [getD_int hil, wrap_succ (by omega)]
    have e : IntKind.u64.wrap (IntKind.u64.wrap (256 * numU (bs.take i)) + IntKind.u64.wrap bs[i]) = numU (bs.take (i + 1)) := by
      have h2 := numU_take hil
      have h3 := numU_lt8 (hb.take (i + 1)) (by rw [List.length_take]; omega)
      have h4 := (numU_bound (hb.take i)).1
      have h5 := hb bs[i] (List.getElem_mem _)
      rw [wrap_u64, wrap_u64, wrap_u64, h2]
      omega
    show A (hd Try.f70 0) (L70 r bs (IntKind.u64.wrap (IntKind.u64.wrap (256 * numU (bs.take i)) + IntKind.u64.wrap bs[i])) ((i + 1 : Nat) : Int))
    rw [e]
    exact loop70 hb hl hA (i + 1) (by omega)
  · have h1 := of_decide_eq_false h1
    refine ⟨⟨⟨trivial, trivial, trivial, trivial⟩, trivial, trivial⟩, ?_⟩
    show (r, numU (bs.take i)) = _
    rw [List.take_of_length_le (by omega)]
termination_by bs.length - i

/-- Where a reader stands behind the next bytes. -/
abbrev behind (r : Rdr) (n : Int) : Rdr := ⟨r.b, (takeS r.b r.at' r.e n).1, (takeS r.b r.at' r.e n).2.1⟩
abbrev bytes (r : Rdr) (n : Int) : List Int := (takeS r.b r.at' r.e n).2.2
theorem bytes_len {b : List Int} {a e : Int} {n : Nat} (h0 : 0 ≤ a) : (takeS b a e n).2.2.length ≤ n := by
  unfold takeS
  cases decide ((n : Int) > (b.length : Int) - a)
  · cases (e != 0)
    · show ((b.drop a.toNat).take n).length ≤ n
      rw [List.length_take]; omega
    · simp
  · simp
theorem bytes_bv {b : List Int} (hb : BV b) (a e n : Int) : BV (takeS b a e n).2.2 := by
  unfold takeS
  cases decide ((n : Int) > (b.length : Int) - a)
  · cases (e != 0)
    · exact (hb.drop _).take _
    · intro c hc; cases hc
  · intro c hc; cases hc
theorem behind_ok {b : List Int} {a e : Int} {n : Nat} (h : RdOK b a) : RdOK b (takeS b a e n).1 := by
  obtain ⟨h1, h2, h3⟩ := h
  unfold takeS
  by_cases hd : (n : Int) > (b.length : Int) - a
  · rw [decide_eq_true hd]; exact ⟨h1, h2, h3⟩
  · rw [decide_eq_false hd]
    cases (e != 0)
    · exact ⟨by show 0 ≤ a + n; omega, by show a + n ≤ b.length; omega, h3⟩
    · exact ⟨h1, h2, h3⟩

theorem c70 {r : Rdr} {n : Nat} (hr : RdOK r.b r.at') (hb : BV r.b) (h1 : 1 ≤ n) (h8 : n ≤ 8) : Pure Try.prog 70 [⟨.rdr, r⟩, ⟨.int, (n : Int)⟩] [.rdr, .u64] (behind r n, numU (bytes r n)) :=
  Pure.of_closed (C := codes) (S := sigs) mixed Try.func70 (by kernel_rfl) (Nat.le_of_ble_eq_true (by kernel_rfl)) fun A hA => hA.go (t70 r n) (by
    refine sat_bif (fun h => absurd (of_decide_eq_true h) (by omega)) (fun _ => sat_bif (fun h => absurd (of_decide_eq_true h) (by omega)) (fun _ => ?_))
    refine ⟨⟨⟨trivial, trivial, trivial, trivial⟩, ⟨trivial, trivial⟩, trivial⟩, _, c111 hr (by omega) (by omega), ?_⟩
    exact loop70 (r := behind r n) (bytes_bv hb _ _ _) (Nat.le_trans (bytes_len hr.lo) h8) hA 0 (by omega))

theorem loop71 {r : Rdr} {bs : List Int} (hb : BV bs) (hl : bs.length ≤ 8) {A : List Item → AS → Prop} (hA : Closed Try.prog codes sigs Try.f71 (pureFin [.rdr, .int]) (fun y => y = (r, numI bs)) 0 A)
    (i : Nat) (hi : i ≤ bs.length) : A (hd Try.f71 0) (L71 r bs (numI (bs.take i)) i) := by
  refine hA.go (t71a r bs _ i) (sat_bif (fun h1 => ?_) (fun h1 => ?_))
  · have h1 := of_decide_eq_true h1
    have hil : i < bs.length := by omega
    have hc := hb bs[i] (List.getElem_mem _)
    have hb1 := numI_bound (hb.take (i + 1)) 7 (by rw [List.length_take]; omega)
    have e7 : (128 : Int) * 256 ^ 7 = 9223372036854775808 := by decide
    rw [e7] at hb1
    -- the next round
    have next : ∀ m : Int, IntKind.i64.wrap (IntKind.i64.wrap (256 * m) + IntKind.i64.wrap bs[i]) = numI (bs.take (i + 1)) → (((0 : Int) ≤ (i : Int) ∧ (i : Int) < (bs.length : Int)) ∧ True) ∧ A (hd Try.f71 0) (L71 r bs (IntKind.i64.wrap (IntKind.i64.wrap (256 * m) + IntKind.i64.wrap bs[i])) ((i + 1 : Nat) : Int)) := fun m hm => by
      rw [hm]
      exact ⟨⟨⟨by omega, by omega⟩, trivial⟩, loop71 hb hl hA (i + 1) (by omega)⟩
    rw [getD_int hil, wrap_succ (by omega)]
    refine sat_bif (fun h2 => ?_) (fun h2 => ?_)
    · have h2 : i = 0 := by simpa using h2
      subst h2
      have e1 : bs.take (0 + 1) = [bs[0]] := by rw [List.take_succ_eq_append_getElem hil]; rfl
      have e2 : numI [bs[0]] = bif decide (bs[0] > 127) then bs[0] - 256 else bs[0] := by simp [numI, numU]
      rw [getD_at' hil]
      refine ⟨⟨⟨by omega, by omega⟩, trivial⟩, sat_bif (fun h3 => next (-1) ?_) (fun h3 => next (numI (bs.take 0)) ?_)⟩
      · rw [e1, e2, h3, cond_true, wrap_i64 (n := 256 * -1) (by omega) (by omega), wrap_i64 (n := bs[0]) (by omega) (by omega), wrap_i64 (by omega) (by omega)]; omega
      · have e3 : numI (bs.take 0) = 0 := rfl
        rw [e1, e2, h3, cond_false, e3, wrap_i64 (n := 256 * 0) (by omega) (by omega), wrap_i64 (n := bs[0]) (by omega) (by omega), wrap_i64 (by omega) (by omega)]; omega
    · have h2 : i ≠ 0 := by simpa using h2
      have hne : bs.take i ≠ [] := by
        intro e
        have := congrArg List.length e
        rw [List.length_take, List.length_nil] at this; omega
      have e1 : numI (bs.take (i + 1)) = 256 * numI (bs.take i) + bs[i] := by rw [List.take_succ_eq_append_getElem hil, numI_snoc hne]
      refine next (numI (bs.take i)) ?_
      rw [e1] at hb1
      have hb2 := numI_bound (hb.take i) 6 (by rw [List.length_take]; omega)
      have e6 : (128 : Int) * 256 ^ 6 = 36028797018963968 := by decide
      rw [e6] at hb2
      rw [e1, wrap_i64 (n := 256 * numI (bs.take i)) (by omega) (by omega), wrap_i64 (n := bs[i]) (by omega) (by omega), wrap_i64 (by omega) (by omega)]
  · have h1 := of_decide_eq_false h1
    refine ⟨⟨⟨trivial, trivial, trivial, trivial⟩, trivial, trivial⟩, ?_⟩
    show (r, numI (bs.take i)) = _
    rw [List.take_of_length_le (by omega)]
termination_by bs.length - i

theorem c71 {r : Rdr} {n : Nat} (hr : RdOK r.b r.at') (hb : BV r.b) (h1 : 1 ≤ n) (h8 : n ≤ 8) : Pure Try.prog 71 [⟨.rdr, r⟩, ⟨.int, (n : Int)⟩] [.rdr, .int] (behind r n, numI (bytes r n)) :=
  Pure.of_closed (C := codes) (S := sigs) mixed Try.func71 (by kernel_rfl) (Nat.le_of_ble_eq_true (by kernel_rfl)) fun A hA => hA.go (t71 r n) (by
    refine sat_bif (fun h => absurd (of_decide_eq_true h) (by omega)) (fun _ => sat_bif (fun h => absurd (of_decide_eq_true h) (by omega)) (fun _ => ?_))
    refine ⟨⟨⟨trivial, trivial, trivial, trivial⟩, ⟨trivial, trivial⟩, trivial⟩, _, c111 hr (by omega) (by omega), ?_⟩
    exact loop71 (r := behind r n) (bytes_bv hb _ _ _) (Nat.le_trans (bytes_len hr.lo) h8) hA 0 (by omega))

end Go.Proofs.Rp

/- The reader of the answers: numbers out of bytes. (Own work.) -/
namespace Go.Proofs.Rp
open Go Go.VL

theorem Le1 {r' r : GRes} {x y : AV} {H : Heap} {k : Nat} (e1 : r' = ⟨[x], H, k⟩) (e2 : r = ⟨[y], H, k⟩) (h : AVle H x y) : GRes.Le r' r := by
  subst e1; subst e2
  refine ⟨rfl, ?_, fun l b hb => ⟨b, hb, .refl _ b⟩, Nat.le_refl _⟩
  intro i a b ha hb
  match i with
  | 0 => cases ha; cases hb; exact h
  | i + 1 => cases ha

theorem takeS_eq {b : List Int} {a e : Int} {n : Nat} (hr : RdOK b a) : (takeS b a e n).2.2 = (b.drop a.toNat).take (takeS b a e n).2.2.length ∧ a.toNat + (takeS b a e n).2.2.length ≤ b.length := by
  obtain ⟨h1, h2, h3⟩ := hr
  unfold takeS
  by_cases hd : (n : Int) > (b.length : Int) - a
  · rw [decide_eq_true hd]; exact ⟨rfl, by show a.toNat + 0 ≤ _; omega⟩
  · rw [decide_eq_false hd]
    cases (e != 0)
    · have hl : ((b.drop a.toNat).take n).length = n := by rw [List.length_take, List.length_drop]; omega
      show (b.drop a.toNat).take n = (b.drop a.toNat).take ((b.drop a.toNat).take n).length ∧ a.toNat + ((b.drop a.toNat).take n).length ≤ _
      rw [hl]; exact ⟨rfl, by omega⟩
    · exact ⟨rfl, by show a.toNat + 0 ≤ _; omega⟩

theorem c108 {a e : Int} {bs : List Int} {n : Nat} (hr : RdOK bs a) (h8 : n ≤ 8) : Gc Try.prog 108 [.ptr 0 0, i64 n] (RH a e bs) 2 ⟨[.view 1 .u8 a.toNat (takeS bs a e n).2.2.length], RH (takeS bs a e n).1 (takeS bs a e n).2.1 bs, 2⟩ :=
  Gc.of_closed (C := codes) (S := sigs) mixed Try.func108 (by kernel_rfl) (rowsRH _ _ _ _ _) fun _ hA => hA.go (t108 n a e bs) (by
    obtain ⟨h1, h2, h3⟩ := hr
    unfold Sb at h3
    have hw : IntKind.i64.wrap ((bs.length : Int) - a) = (bs.length : Int) - a := wrap_i64 (by omega) (by omega)
    have hw2 : IntKind.i64.wrap (a + n) = a + n := wrap_i64 (by omega) (by omega)
    have hw3 : IntKind.i64.wrap (a + n - n) = a := by rw [Int.add_sub_cancel]; exact wrap_i64 (by omega) (by omega)
    refine sat_bif (fun h => absurd (of_decide_eq_true h) (by omega)) (fun _ => ?_)
    rw [hw, hw2, hw3]
    refine sat_bif (fun h => ⟨(a, fst e 250), c107 250 a e bs, ?_⟩) (fun h => sat_bif (fun h' => ⟨trivial, ?_⟩) (fun h' => ?_))
    · show Sat Try.prog _ _ (bif fst e 250 != 0 then _ else _)
      rw [fst_ne (by decide), cond_true]
      refine ⟨trivial, Le1 rfl ?_ (AVle.nilview _ 1 .u8 a.toNat)⟩
      rw [takeS, h]; rfl
    · refine Le1 rfl ?_ (AVle.nilview _ 1 .u8 a.toNat)
      rw [takeS, h, h']; rfl
    · have hh := of_decide_eq_false h
      refine ⟨⟨h1, by omega, by omega⟩, trivial, .of_eq ?_⟩
      have e1 : (a + (n : Int)).toNat - a.toNat = ((bs.drop a.toNat).take n).length := by rw [List.length_take, List.length_drop]; omega
      rw [takeS, h, h', e1]; rfl)

theorem or_eq {n c : Int} (hn : 0 ≤ n) (hn2 : n < 72057594037927936) (hc : 0 ≤ c ∧ c < 256) :
    IntKind.u64.wrap ((BitVec.toNat (BitVec.ofInt IntKind.u64.bits (IntKind.u64.wrap (n * 2 ^ min 8 IntKind.u64.bits)) ||| BitVec.ofInt IntKind.u64.bits (IntKind.u64.wrap c)) : Nat) : Int) = 256 * n + c := by
  obtain ⟨k, rfl⟩ := Int.eq_ofNat_of_zero_le hn
  obtain ⟨d, rfl⟩ := Int.eq_ofNat_of_zero_le hc.1
  have e1 : IntKind.u64.wrap ((k : Int) * 2 ^ min 8 IntKind.u64.bits) = ((k * 256 : Nat) : Int) := by
    have : (2 : Int) ^ min 8 IntKind.u64.bits = 256 := by decide
    rw [this, wrap_u64]; omega
  have e2 : IntKind.u64.wrap (d : Int) = (d : Int) := by rw [wrap_u64]; omega
  have e3 : ∀ m : Nat, m < 18446744073709551616 → (BitVec.ofInt IntKind.u64.bits (m : Int)).toNat = m := by
    intro m hm
    have : IntKind.u64.bits = 64 := rfl
    rw [BitVec.toNat_ofInt, this]
    omega
  have e4 : k * 256 ||| d = k * 256 + d := by
    have := Nat.shiftLeft_add_eq_or_of_lt (i := 8) (b := d) (by omega) k
    rw [Nat.shiftLeft_eq] at this
    exact this.symm
  rw [e1, e2, BitVec.toNat_or, e3 _ (by omega), e3 _ (by omega), e4, wrap_u64]
  omega

theorem loop109 {a e : Int} {bs xs : List Int} {off : Nat} (hb : BV xs) (hx : xs = (bs.drop off).take xs.length) (ho : off + xs.length ≤ bs.length) (hl : xs.length ≤ 8) {A : List Item → AS → Prop}
    (hA : Closed Try.prog codes sigs Try.f109 (gFin 2) (fun r' => GRes.Le r' ⟨[u64 (numU xs)], RH a e bs, 2⟩) 2 A)
    (i : Nat) (hi : i ≤ xs.length) : A (hd Try.f109 0) (L109 a e bs off xs.length (numU (xs.take i)) i) := by
  refine hA.go (t109a a e bs off xs.length _ i) (sat_bif (fun h1 => ?_) (fun h1 => ?_))
  · have h1 := of_decide_eq_true h1
    have hil : i < xs.length := by omega
    have g : bs.getD (off + i) 0 = xs[i] := by
      rw [getD_at' (show off + i < bs.length by omega)]
      have : xs[i]? = bs[off + i]? := by
        rw [hx, List.getElem?_take_of_lt hil, List.getElem?_drop]
      rw [List.getElem?_eq_getElem hil, List.getElem?_eq_getElem (by omega)] at this
      exact (Option.some.inj this).symm
    refine ⟨⟨by omega, by omega⟩, by rw [Int.toNat_natCast]; omega, by omega, ?_⟩
    rw [wrap_succ (by omega), Int.toNat_natCast]
    have h3 := numU_lt (hb.take i) (k := 7) (by rw [List.length_take]; omega)
    have h4 := (numU_bound (hb.take i)).1
    have e7 : (256 : Int) ^ 7 = 72057594037927936 := by decide
    rw [e7] at h3
    have e1 := or_eq h4 h3 (hb xs[i] (List.getElem_mem _))
    rw [← numU_take hil] at e1
    show A (hd Try.f109 0) (L109 a e bs off xs.length (IntKind.u64.wrap ((BitVec.toNat (BitVec.ofInt IntKind.u64.bits (IntKind.u64.wrap (numU (xs.take i) * 2 ^ min 8 IntKind.u64.bits)) ||| BitVec.ofInt IntKind.u64.bits (IntKind.u64.wrap (bs.getD (off + i) 0))) : Nat) : Int)) ((i + 1 : Nat) : Int))
    rw [g, e1]
    exact loop109 hb hx ho hl hA (i + 1) (by omega)
  · have h1 := of_decide_eq_false h1
    refine ⟨trivial, .of_eq ?_⟩
    rw [List.take_of_length_le (by omega)]
    rfl
termination_by xs.length - i

theorem c109 {a e : Int} {bs : List Int} {n : Nat} (hr : RdOK bs a) (hb : BV bs) (h8 : n ≤ 8) : Gc Try.prog 109 [.clo (.func 108) [.ptr 0 0] [], i64 n] (RH a e bs) 2 ⟨[u64 (numU (takeS bs a e n).2.2)], RH (takeS bs a e n).1 (takeS bs a e n).2.1 bs, 2⟩ :=
  Gc.of_closed (C := codes) (S := sigs) mixed Try.func109 (by kernel_rfl) (rowsRH _ _ _ _ _) fun _ hA => hA.go (t109 n a e bs) (by
    refine ⟨((a.toNat : Int), ((takeS bs a e n).2.2.length : Int), (takeS bs a e n).1, (takeS bs a e n).2.1), c108 hr h8, ?_⟩
    obtain ⟨g1, g2⟩ := takeS_eq (e := e) (n := n) hr
    exact loop109 (bytes_bv hb _ _ _) g1 g2 (Nat.le_trans (bytes_len hr.lo) h8) hA 0 (by omega))

theorem c64 {a e : Int} {bs : List Int} {n : Nat} (hr : RdOK bs a) (hb : BV bs) (h1 : 1 ≤ n) (h8 : n ≤ 8) : Gc Try.prog 64 [.ptr 0 0, i64 n] (RH a e bs) 2 ⟨[u64 (numU (takeS bs a e n).2.2)], RH (takeS bs a e n).1 (takeS bs a e n).2.1 bs, 2⟩ :=
  Gc.of_closed (C := codes) (S := sigs) mixed Try.func64 (by kernel_rfl) (rowsRH _ _ _ _ _) fun _ hA => hA.go (t64 n a e bs) (by
    refine ⟨⟨⟨trivial, trivial⟩, trivial⟩, _, c105 _, sat_bif (fun h => ?_) (fun h => ?_)⟩
    · have e : (bif decide ((n : Int) ≥ 1) then decide ((n : Int) ≤ 8) else false) = true := by rw [decide_eq_true (by omega : (n : Int) ≥ 1), cond_true, decide_eq_true (by omega)]
      cases (e.symm.trans (nt h))
    · exact ⟨(_, _, _), c109 hr hb h8, trivial, .of_eq rfl⟩)

def RH3 (a e : Int) (bs : List Int) : Heap := [(0, .box [.clo (.func 64) [.ptr 1 0] []]), (1, .box [i64 a, i64 e, .own 2 .u8]), (2, .row 5 .u8 bs)]
theorem rowsRH3 (a e a' e' : Int) (bs : List Int) : ∀ i T t xs, i < 3 → (RH3 a e bs).get i = some (.row T t xs) → ∃ ys, (RH3 a' e' bs).get i = some (.row T t ys) ∧ ys.length = xs.length := by
  intro i T t xs hi h
  match i, hi with
  | 0, _ => cases h
  | 1, _ => cases h
  | 2, _ => exact ⟨xs, h, rfl⟩
theorem c65 {a e : Int} {bs : List Int} {n : Nat} (hr : RdOK bs a) (hb : BV bs) (h1 : 1 ≤ n) (h8 : n ≤ 7) : Gc Try.prog 65 [i64 n, .ptr 0 0] (RH3 a e bs) 3 ⟨[i64 (numU (takeS bs a e n).2.2)], RH3 (takeS bs a e n).1 (takeS bs a e n).2.1 bs, 3⟩ :=
  Gc.of_closed (C := codes) (S := sigs) mixed Try.func65 (by kernel_rfl) (rowsRH3 _ _ _ _ _) fun _ hA => hA.go (t65 n a e bs) (by
    refine ⟨(_, _, _), c64 hr hb h1 (by omega), trivial, .of_eq ?_⟩
    have h3 := numU_lt (bytes_bv hb a e n) (k := 7) (Nat.le_trans (bytes_len hr.lo) h8)
    have h4 := (numU_bound (bytes_bv hb a e n)).1
    have e7 : (256 : Int) ^ 7 = 72057594037927936 := by decide
    rw [e7] at h3
    show (⟨[i64 (IntKind.i64.wrap (numU (takeS bs a e n).2.2))], _, _⟩ : GRes) = _
    rw [wrap_i64 (by omega) (by omega)]
    rfl)

theorem wrap_i64' {n : Int} (h1 : 9223372036854775808 ≤ n) (h2 : n < 18446744073709551616) : IntKind.i64.wrap n = n - 18446744073709551616 := by
  unfold IntKind.wrap
  have e : (2 ^ IntKind.i64.bits : Int) = 18446744073709551616 := rfl
  have e2 : (2 ^ (IntKind.i64.bits - 1) : Int) = 9223372036854775808 := rfl
  have e3 : IntKind.i64.signed = true := rfl
  simp only [e, e2, e3, Bool.true_and]
  have : n % 18446744073709551616 = n := Int.emod_eq_of_lt (by omega) h2
  rw [this, if_pos (by simpa using by omega)]
theorem numI_sign {bs : List Int} (h : BV bs) {k : Nat} (hk : bs.length = k + 1) : numI bs = bif decide (numU bs ≥ 128 * 256 ^ k) then numU bs - 256 * 256 ^ k else numU bs := by
  cases bs with
  | nil => cases hk
  | cons c bs =>
    obtain ⟨c0, c1⟩ := h c (.head _)
    obtain ⟨b0, b1⟩ := numU_bound (bs := bs) (fun d hd => h d (.tail _ hd))
    have e := numU_cons c bs
    have hl : bs.length = k := by simpa using hk
    have hp : (0 : Int) < 256 ^ bs.length := Int.pow_pos (by decide)
    have e2 : (256 : Int) ^ (c :: bs).length = 256 * 256 ^ bs.length := by rw [List.length_cons, Int.pow_succ, Int.mul_comm]
    simp only [numI]
    rw [← hl, e2]
    generalize (256 : Int) ^ bs.length = p at *
    by_cases h7 : c > 127
    · have h1 : 128 * p ≤ c * p := Int.mul_le_mul_of_nonneg_right (by omega) (by omega)
      rw [decide_eq_true h7, cond_true, decide_eq_true (by omega : numU (c :: bs) ≥ 128 * p), cond_true]
    · have h2 : c * p ≤ 127 * p := Int.mul_le_mul_of_nonneg_right (by omega) (by omega)
      rw [decide_eq_false h7, cond_false, decide_eq_false (by omega : ¬ numU (c :: bs) ≥ 128 * p), cond_false]
theorem shift4 {u : Int} (h0 : 0 ≤ u) (h1 : u < 4294967296) : Int.fdiv (IntKind.i64.wrap (IntKind.u64.wrap (u * 2 ^ min (Int.toNat (IntKind.i64.wrap (8 * IntKind.i64.wrap (8 - 4)))) (IntKind.bits IntKind.u64)))) (2 ^ min (Int.toNat (IntKind.i64.wrap (8 * IntKind.i64.wrap (8 - 4)))) (IntKind.bits IntKind.i64)) = bif decide (u ≥ 2147483648) then u - 4294967296 else u := by
  have e1 : (2 : Int) ^ min (Int.toNat (IntKind.i64.wrap (8 * IntKind.i64.wrap (8 - 4)))) (IntKind.bits IntKind.u64) = 4294967296 := by decide
  have e2 : (2 : Int) ^ min (Int.toNat (IntKind.i64.wrap (8 * IntKind.i64.wrap (8 - 4)))) (IntKind.bits IntKind.i64) = 4294967296 := by decide
  rw [e1, e2, wrap_u64, Int.fdiv_eq_ediv_of_nonneg _ (by decide)]
  have e3 : u * 4294967296 % 18446744073709551616 = u * 4294967296 := by omega
  rw [e3]
  by_cases h : u ≥ 2147483648
  · rw [decide_eq_true h, cond_true, wrap_i64' (by omega) (by omega)]; omega
  · rw [decide_eq_false h, cond_false, wrap_i64 (by omega) (by omega)]; omega
theorem shift8 {u : Int} (h0 : 0 ≤ u) (h1 : u < 18446744073709551616) : Int.fdiv (IntKind.i64.wrap (IntKind.u64.wrap (u * 2 ^ min (Int.toNat (IntKind.i64.wrap (8 * IntKind.i64.wrap (8 - 8)))) (IntKind.bits IntKind.u64)))) (2 ^ min (Int.toNat (IntKind.i64.wrap (8 * IntKind.i64.wrap (8 - 8)))) (IntKind.bits IntKind.i64)) = bif decide (u ≥ 9223372036854775808) then u - 18446744073709551616 else u := by
  have e1 : (2 : Int) ^ min (Int.toNat (IntKind.i64.wrap (8 * IntKind.i64.wrap (8 - 8)))) (IntKind.bits IntKind.u64) = 1 := by decide
  have e2 : (2 : Int) ^ min (Int.toNat (IntKind.i64.wrap (8 * IntKind.i64.wrap (8 - 8)))) (IntKind.bits IntKind.i64) = 1 := by decide
  rw [e1, e2, wrap_u64, Int.fdiv_eq_ediv_of_nonneg _ (by decide), Int.ediv_one]
  have e3 : u * 1 % 18446744073709551616 = u := by omega
  rw [e3]
  by_cases h : u ≥ 9223372036854775808
  · rw [decide_eq_true h, cond_true, wrap_i64' (by omega) (by omega)]
  · rw [decide_eq_false h, cond_false, wrap_i64 (by omega) (by omega)]

theorem takeS_len {b : List Int} {a e : Int} {n : Nat} (hr : RdOK b a) : (takeS b a e n).2.2 = [] ∨ (takeS b a e n).2.2.length = n := by
  obtain ⟨h1, h2, h3⟩ := hr
  unfold takeS
  by_cases hd : (n : Int) > (b.length : Int) - a
  · rw [decide_eq_true hd]; exact .inl rfl
  · rw [decide_eq_false hd]
    cases (e != 0)
    · right
      show ((b.drop a.toNat).take n).length = n
      rw [List.length_take, List.length_drop]; omega
    · exact .inl rfl
theorem c66_4 {a e : Int} {bs : List Int} (hr : RdOK bs a) (hb : BV bs) : Gc Try.prog 66 [.ptr 0 0, i64 4] (RH a e bs) 2 ⟨[i64 (numI (takeS bs a e 4).2.2)], RH (takeS bs a e 4).1 (takeS bs a e 4).2.1 bs, 2⟩ :=
  Gc.of_closed (C := codes) (S := sigs) mixed Try.func66 (by kernel_rfl) (rowsRH _ _ _ _ _) fun _ hA => hA.go (t66 4 a e bs) (by
    refine ⟨(_, _, _), c64 (n := 4) hr hb (by decide) (by decide), ⟨⟨trivial, trivial⟩, trivial⟩, _, c105 _, sat_bif (fun h => by cases h) (fun h => ⟨by decide, by decide, trivial, .of_eq ?_⟩)⟩
    have h3 := numU_lt (bytes_bv hb a e (4 : Nat)) (k := 4) (bytes_len hr.lo)
    have h4 := (numU_bound (bytes_bv hb a e (4 : Nat))).1
    have e1 := shift4 h4 h3
    have e2 : numI (takeS bs a e (4 : Nat)).2.2 = bif decide (numU (takeS bs a e (4 : Nat)).2.2 ≥ 2147483648) then numU (takeS bs a e (4 : Nat)).2.2 - 4294967296 else numU (takeS bs a e (4 : Nat)).2.2 := by
      rcases takeS_len (e := e) (n := 4) hr with h | h
      · rw [h]; rfl
      · exact numI_sign (bytes_bv hb a e (4 : Nat)) h
    exact congrArg (fun z => (⟨[i64 z], RH (takeS bs a e 4).1 (takeS bs a e 4).2.1 bs, 2⟩ : GRes)) (e1.trans e2.symm))
theorem c66_8 {a e : Int} {bs : List Int} (hr : RdOK bs a) (hb : BV bs) : Gc Try.prog 66 [.ptr 0 0, i64 8] (RH a e bs) 2 ⟨[i64 (numI (takeS bs a e 8).2.2)], RH (takeS bs a e 8).1 (takeS bs a e 8).2.1 bs, 2⟩ :=
  Gc.of_closed (C := codes) (S := sigs) mixed Try.func66 (by kernel_rfl) (rowsRH _ _ _ _ _) fun _ hA => hA.go (t66 8 a e bs) (by
    refine ⟨(_, _, _), c64 (n := 8) hr hb (by decide) (by decide), ⟨⟨trivial, trivial⟩, trivial⟩, _, c105 _, sat_bif (fun h => by cases h) (fun h => ⟨by decide, by decide, trivial, .of_eq ?_⟩)⟩
    have h3 := numU_lt (bytes_bv hb a e (8 : Nat)) (k := 8) (bytes_len hr.lo)
    have h4 := (numU_bound (bytes_bv hb a e (8 : Nat))).1
    have e1 := shift8 h4 h3
    have e2 : numI (takeS bs a e (8 : Nat)).2.2 = bif decide (numU (takeS bs a e (8 : Nat)).2.2 ≥ 9223372036854775808) then numU (takeS bs a e (8 : Nat)).2.2 - 18446744073709551616 else numU (takeS bs a e (8 : Nat)).2.2 := by
      rcases takeS_len (e := e) (n := 8) hr with h | h
      · rw [h]; rfl
      · exact numI_sign (bytes_bv hb a e (8 : Nat)) h
    exact congrArg (fun z => (⟨[i64 z], RH (takeS bs a e 8).1 (takeS bs a e 8).2.1 bs, 2⟩ : GRes)) (e1.trans e2.symm))
end Go.Proofs.Rp

/- The reference's answer of bytes. (Own work.) -/
namespace Go.Proofs.Rp
open Go Go.VL

/-! ### what bytes are as an answer -/
def chS (r : Rdr) : Rdr × Change := (behind (behind (behind r 4) 1) 8, ⟨numU (bytes r 4), numU (bytes (behind r 4) 1), numI (bytes (behind (behind r 4) 1) 8)⟩)
def listS : Nat → Rdr → List Change → Rdr × List Change
  | 0, r, l => (r, l)
  | m + 1, r, l => bif r.e == 0 then listS m (chS r).1 (l ++ [(chS r).2]) else (r, l)
def endS (r : Rdr) : Rdr := ⟨r.b, r.at', bif decide (r.at' < (r.b.length : Int)) then fst r.e 251 else r.e⟩
def finS (x : Resp) (p : Rdr × List Change) : Resp × Int := bif (endS p.1).e != 0 then (⟨0, 0, 0, 0, []⟩, (endS p.1).e) else (⟨x.err, x.id, x.n, x.ver, p.2⟩, 0)
def rd1 (b : List Int) : Rdr := behind ⟨b, 0, 0⟩ 2
def rd2 (b : List Int) : Rdr := behind (rd1 b) 4
def rd3 (b : List Int) : Rdr := behind (rd2 b) 8
def rd4 (b : List Int) : Rdr := behind (rd3 b) 4
def rd5 (b : List Int) : Rdr := behind (rd4 b) 1
def headS (b : List Int) : Resp := ⟨numU (bytes ⟨b, 0, 0⟩ 2), numI (bytes (rd1 b) 4), numI (bytes (rd2 b) 8), numU (bytes (rd3 b) 4), []⟩
def cntS (b : List Int) : Int := numU (bytes (rd4 b) 1)
def rd6 (b : List Int) : Rdr := bif decide (cntS b > 32) then ⟨b, (rd5 b).at', fst (rd5 b).e 251⟩ else rd5 b
def decS (b : List Int) : Resp × Int := finS (headS b) (listS (cntS b).toNat (rd6 b) [])

theorem numUb {r : Rdr} (hb : BV r.b) (hr : RdOK r.b r.at') (n k : Nat) (hn : n ≤ k) : 0 ≤ numU (bytes r n) ∧ numU (bytes r n) < 256 ^ k :=
  ⟨(numU_bound (bytes_bv hb _ _ _)).1, numU_lt (bytes_bv hb _ _ _) (Nat.le_trans (bytes_len hr.lo) hn)⟩
theorem endS_c73 (r : Rdr) : Pure Try.prog 73 [⟨.rdr, r⟩] [.rdr] (endS r) := c73 r
theorem behindOK {r : Rdr} (hr : RdOK r.b r.at') (n : Nat) : RdOK (behind r n).b (behind r n).at' := behind_ok hr

theorem loop18 (x : Resp) (k : Nat) (hk : k < 256) : ∀ (m i : Nat) (r : Rdr) (l : List Change), i + m = k → l.length ≤ i → RdOK r.b r.at' → BV r.b → ∀ {R : Resp × Int}, R = finS x (listS m r l) → ∀ {A : List Item → AS → Prop},
    Closed Try.prog codes sigs Try.f18 (pureFin [.resp, .int]) (fun y => y = R) 0 A → A (hd Try.f18 0) (L18 r ⟨x.err, x.id, x.n, x.ver, l⟩ k i) := by
  intro m
  have fin : ∀ (r : Rdr) (l : List Change) {R : Resp × Int}, R = finS x (r, l) → ∀ {A : List Item → AS → Prop}, Sat Try.prog A (fun y => y = R) (Out.need ((True ∧ True ∧ True ∧ True) ∧ True) (Out.callP 73 [⟨.rdr, r⟩] [.rdr] fun (x_1 : Rdr) => bif x_1.e != 0 then Out.need ((True ∧ True ∧ True ∧ True ∧ True ∧ True) ∧ True ∧ True) (Out.ret (α := TyTup [.resp, .int]) (show Resp × Int from (⟨0, 0, 0, 0, []⟩, x_1.e))) else Out.need ((True ∧ True ∧ True ∧ True ∧ True ∧ True) ∧ True ∧ True) (Out.ret (α := TyTup [.resp, .int]) (show Resp × Int from (⟨x.err, x.id, x.n, x.ver, l⟩, 0))))) := by
    intro r l R hR A
    subst hR
    refine ⟨⟨⟨trivial, trivial, trivial, trivial⟩, trivial⟩, _, endS_c73 r, sat_bif (fun h => ⟨⟨⟨trivial, trivial, trivial, trivial, trivial, trivial⟩, trivial, trivial⟩, ?_⟩) (fun h => ⟨⟨⟨trivial, trivial, trivial, trivial, trivial, trivial⟩, trivial, trivial⟩, ?_⟩)⟩
    · show (Resp.mk 0 0 0 0 [], (endS r).e) = _
      rw [finS, h]; rfl
    · show ((⟨x.err, x.id, x.n, x.ver, l⟩ : Resp), (0 : Int)) = _
      rw [finS, h]; rfl
  induction m with
  | zero =>
    intro i r l hi hl hr hb R hR A hA
    refine hA.go (t18a r _ k i) (sat_bif (fun h => absurd (of_decide_eq_true h) (by omega)) (fun _ => fin r l hR))
  | succ m ih =>
    intro i r l hi hl hr hb R hR A hA
    refine hA.go (t18a r _ k i) (sat_bif (fun _ => ?_) (fun h => absurd (of_decide_eq_false h) (by omega)))
    refine sat_bif (fun h => ?_) (fun h => fin r l (R := R) (by rw [hR, listS, h]; rfl))
    have hr1 := behindOK hr 4
    have hr2 := behindOK hr1 1
    have hr3 := behindOK hr2 8
    have N : (True ∧ True ∧ True ∧ True) ∧ (True ∧ True) ∧ True := ⟨⟨trivial, trivial, trivial, trivial⟩, ⟨trivial, trivial⟩, trivial⟩
    refine ⟨N, _, c70 (n := 4) hr hb (by decide) (by decide), N, _, c70 (n := 1) hr1 hb (by decide) (by decide), N, _, c71 (n := 8) hr2 hb (by decide) (by decide), ⟨⟨trivial, trivial, trivial, trivial⟩, trivial⟩, ⟨?_, trivial⟩, ?_⟩
    · show (l.length + 1) * 25 ≤ _
      omega
    · have b1 := numUb hb hr 4 4 (by decide)
      have b2 := numUb (r := behind r (4 : Nat)) hb hr1 1 1 (by decide)
      have e4 : (256 : Int) ^ 4 = 4294967296 := by decide
      have e1 : (256 : Int) ^ 1 = 256 := by decide
      rw [e4] at b1
      rw [e1] at b2
      have w1 : IntKind.i64.wrap (numU (bytes r (4 : Nat))) = numU (bytes r (4 : Nat)) := wrap_i64 (by omega) (by omega)
      have w2 : IntKind.i64.wrap (numU (bytes (behind r (4 : Nat)) (1 : Nat))) = numU (bytes (behind r (4 : Nat)) (1 : Nat)) := wrap_i64 (by omega) (by omega)
      have w3 : IntKind.u64.wrap ((i : Int) + 1) = ((i + 1 : Nat) : Int) := by rw [wrap_u64]; omega
      have := ih (i + 1) (chS r).1 (l ++ [(chS r).2]) (by omega) (by rw [List.length_append]; simp; omega) hr3 hb (by rw [hR, listS, h]; rfl) hA
      have e : (⟨IntKind.i64.wrap (numU (bytes r (4 : Nat))), IntKind.i64.wrap (numU (bytes (behind r (4 : Nat)) (1 : Nat))), numI (bytes (behind (behind r (4 : Nat)) (1 : Nat)) (8 : Nat))⟩ : Change) = (chS r).2 := by rw [w1, w2]; rfl
      show A (hd Try.f18 0) (L18 (behind (behind (behind r (4 : Nat)) (1 : Nat)) (8 : Nat)) ⟨x.err, x.id, x.n, x.ver, l ++ [⟨IntKind.i64.wrap (numU (bytes r (4 : Nat))), IntKind.i64.wrap (numU (bytes (behind r (4 : Nat)) (1 : Nat))), numI (bytes (behind (behind r (4 : Nat)) (1 : Nat)) (8 : Nat))⟩]⟩ k (IntKind.u64.wrap ((i : Int) + 1)))
      rw [e, w3]
      exact this

theorem c18 {b : List Int} (hl : Sb b.length) (hb : BV b) : Pure Try.prog 18 [⟨.sl .u8, b⟩] [.resp, .int] (decS b) :=
  Pure.of_closed (C := codes) (S := sigs) mixed Try.func18 (by kernel_rfl) (Nat.le_of_ble_eq_true (by kernel_rfl)) fun A hA => hA.go (t18 b) (by
    have N : (True ∧ True ∧ True ∧ True) ∧ (True ∧ True) ∧ True := ⟨⟨trivial, trivial, trivial, trivial⟩, ⟨trivial, trivial⟩, trivial⟩
    have hr0 : RdOK b 0 := ⟨by omega, by omega, hl⟩
    have hr1 : RdOK (rd1 b).b (rd1 b).at' := behindOK (r := ⟨b, 0, 0⟩) hr0 2
    have hr2 : RdOK (rd2 b).b (rd2 b).at' := behindOK hr1 4
    have hr3 : RdOK (rd3 b).b (rd3 b).at' := behindOK hr2 8
    have hr4 : RdOK (rd4 b).b (rd4 b).at' := behindOK hr3 4
    have hr5 : RdOK (rd5 b).b (rd5 b).at' := behindOK hr4 1
    have b1 : 0 ≤ numU (bytes ⟨b, 0, 0⟩ 2) ∧ numU (bytes ⟨b, 0, 0⟩ 2) < 256 ^ 2 := numUb (r := ⟨b, 0, 0⟩) hb hr0 2 2 (by decide)
    have b2 : 0 ≤ numU (bytes (rd3 b) 4) ∧ numU (bytes (rd3 b) 4) < 256 ^ 4 := numUb (r := rd3 b) hb hr3 4 4 (by decide)
    have b3 : 0 ≤ numU (bytes (rd4 b) 1) ∧ numU (bytes (rd4 b) 1) < 256 ^ 1 := numUb (r := rd4 b) hb hr4 1 1 (by decide)
    have e4 : (256 : Int) ^ 4 = 4294967296 := by decide
    have e2 : (256 : Int) ^ 2 = 65536 := by decide
    have e1 : (256 : Int) ^ 1 = 256 := by decide
    rw [e2] at b1
    rw [e4] at b2
    rw [e1] at b3
    have w1 : IntKind.i64.wrap (numU (bytes ⟨b, 0, 0⟩ 2)) = numU (bytes ⟨b, 0, 0⟩ 2) := wrap_i64 (by omega) (by omega)
    have w2 : IntKind.i64.wrap (numU (bytes (rd3 b) 4)) = numU (bytes (rd3 b) 4) := wrap_i64 (by omega) (by omega)
    obtain ⟨k, hk⟩ := Int.eq_ofNat_of_zero_le b3.1
    have go : ∀ r, r = rd6 b → A (hd Try.f18 0) (L18 r (headS b) k (0 : Nat)) := fun r hr => by
      have hr6 : RdOK r.b r.at' ∧ BV r.b := by
        rw [hr, rd6]
        cases decide (cntS b > 32)
        · exact ⟨hr5, hb⟩
        · exact ⟨hr5, hb⟩
      refine loop18 (headS b) k (by omega) k 0 r [] (by omega) (Nat.le_refl _) hr6.1 hr6.2 ?_ hA
      have hk' : cntS b = (k : Int) := hk
      rw [hr, decS, hk']
      rfl
    refine ⟨N, _, c70 (r := ⟨b, 0, 0⟩) (n := 2) hr0 hb (by decide) (by decide), N, _, c71 (r := rd1 b) (n := 4) hr1 hb (by decide) (by decide), N, _, c71 (r := rd2 b) (n := 8) hr2 hb (by decide) (by decide), N, _, c70 (r := rd3 b) (n := 4) hr3 hb (by decide) (by decide), N, _, c70 (r := rd4 b) (n := 1) hr4 hb (by decide) (by decide), ?_⟩
    refine sat_bif (fun h => ⟨N, _, c72 (rd5 b) 251, ?_⟩) (fun h => ?_)
    · have := go ⟨b, (rd5 b).at', fst (rd5 b).e 251⟩ (by rw [rd6]; have h' : decide (cntS b > 32) = true := h; rw [h']; rfl)
      rw [← hk] at this
      rw [headS, ← w1, ← w2] at this
      exact hA.boxrow 2 4 85 .change (by kernel_rfl) (by kernel_rfl) this
    · have := go (rd5 b) (by rw [rd6]; have h' : decide (cntS b > 32) = false := h; rw [h']; rfl)
      rw [← hk] at this
      rw [headS, ← w1, ← w2] at this
      exact hA.boxrow 2 4 85 .change (by kernel_rfl) (by kernel_rfl) this)
end Go.Proofs.Rp

namespace Go.Proofs.Rp
open Go Go.VL

def nilH : AV := .d (.v (.slice none 0 0))
def zbox : ABlk := .box [i64 0, i64 0, i64 0, i64 0, .d (.v (.slice none 0 0))]
def D17 (a e : Int) (bs : List Int) (x : Resp) : AS := mkS 67 [(2, .ptr 0 0), (4, .ptr 1 0), (6, .clo (.func 65) [] [.ptr 2 0]), (7, .ptr 3 0)] [(0, zbox), (1, .box [i64 a, i64 e, .own 4 .u8]), (2, .box [.clo (.func 64) [.ptr 1 0] []]), (3, .box [i64 x.err, i64 x.id, i64 x.n, i64 x.ver, .own 5 .change]), (4, .row 5 .u8 bs), (5, .row 85 .change x.list)] 6
def D17k (a e : Int) (bs : List Int) (x : Resp) (k : Int) : AS := mkS 67 [(2, .ptr 0 0), (4, .ptr 1 0), (6, .clo (.func 65) [] [.ptr 2 0]), (7, .ptr 3 0), (8, i64 k)] [(0, zbox), (1, .box [i64 a, i64 e, .own 4 .u8]), (2, .box [.clo (.func 64) [.ptr 1 0] []]), (3, .box [i64 x.err, i64 x.id, i64 x.n, i64 x.ver, .own 5 .change]), (4, .row 5 .u8 bs), (5, .row 85 .change x.list)] 6
def D17i (a e : Int) (bs : List Int) (x : Resp) (k i : Int) : AS := mkS 67 [(2, .ptr 0 0), (4, .ptr 1 0), (6, .clo (.func 65) [] [.ptr 2 0]), (7, .ptr 3 0), (8, i64 k), (9, i64 i)] [(0, zbox), (1, .box [i64 a, i64 e, .own 4 .u8]), (2, .box [.clo (.func 64) [.ptr 1 0] []]), (3, .box [i64 x.err, i64 x.id, i64 x.n, i64 x.ver, .own 5 .change]), (4, .row 5 .u8 bs), (5, .row 85 .change x.list)] 6
def D17c (a e : Int) (bs : List Int) (x : Resp) (k i : Int) (c : Change) : AS := mkS 67 [(2, .ptr 0 0), (4, .ptr 1 0), (6, .clo (.func 65) [] [.ptr 2 0]), (7, .ptr 3 0), (8, i64 k), (9, i64 i), (10, .ptr 4 0)] [(0, zbox), (1, .box [i64 a, i64 e, .own 5 .u8]), (2, .box [.clo (.func 64) [.ptr 1 0] []]), (3, .box [i64 x.err, i64 x.id, i64 x.n, i64 x.ver, .own 6 .change]), (4, .box [i64 c.ver, i64 c.by', i64 c.n]), (5, .row 5 .u8 bs), (6, .row 85 .change x.list)] 7
def D17e (a e : Int) (bs : List Int) (x : Resp) : AS := mkS 67 [(2, .ptr 0 0), (4, .ptr 1 0), (7, .ptr 2 0)] [(0, zbox), (1, .box [i64 a, i64 e, .own 3 .u8]), (2, .box [i64 x.err, i64 x.id, i64 x.n, i64 x.ver, .own 4 .change]), (3, .row 5 .u8 bs), (4, .row 85 .change x.list)] 5


theorem t17 (b : List Int) : @Eq (Out (TyTup [.resp, .int])) (aexec Try.prog codes sigs Try.f17 (pureFin [.resp, .int]) 0 ⟨[5,6,7,8,9,14,15,16,13,17], false⟩ 200 false (bodyOf Try.f17) (startS Try.f17 [⟨.sl .u8, b⟩]))
    (Out.callG (63 : Nat) [AV.d (D.sl Ty.u8 b)] [] (0 : Nat) [Ty.sl Ty.u8]
  (fun (x : List Int) =>
    GRes.mk [AV.ptr (0 : Nat) (0 : Nat)]
      [((0 : Nat),
          ABlk.box
            [AV.d (D.v (Value.int IntKind.i64 (0 : Int))), AV.d (D.v (Value.int IntKind.i64 (0 : Int))),
              AV.own (1 : Nat) Ty.u8]),
        ((1 : Nat), ABlk.row (5 : TypeId) Ty.u8 x)]
      (2 : Nat))
  fun (x : List Int) =>
  Out.callG (65 : Nat) [AV.d (D.v (Value.int IntKind.i64 (2 : Int))), AV.ptr (0 : Nat) (0 : Nat)]
    [((0 : Nat), ABlk.box [AV.clo (Fn.func (64 : Nat)) [AV.ptr (1 : Nat) (0 : Nat)] []]),
      ((1 : Nat),
        ABlk.box
          [AV.d (D.v (Value.int IntKind.i64 (0 : Int))), AV.d (D.v (Value.int IntKind.i64 (0 : Int))),
            AV.own (2 : Nat) Ty.u8]),
      ((2 : Nat), ABlk.row (5 : TypeId) Ty.u8 x)]
    (3 : Nat) [Ty.int, Ty.int, Ty.int]
    (fun (x_1 : Int × Int × Int) =>
      GRes.mk [AV.d (D.v (Value.int IntKind.i64 (Prod.fst x_1)))]
        [((0 : Nat), ABlk.box [AV.clo (Fn.func (64 : Nat)) [AV.ptr (1 : Nat) (0 : Nat)] []]),
          ((1 : Nat),
            ABlk.box
              [AV.d (D.v (Value.int IntKind.i64 (Prod.fst (Prod.snd x_1)))),
                AV.d (D.v (Value.int IntKind.i64 (Prod.snd (Prod.snd x_1)))), AV.own (2 : Nat) Ty.u8]),
          ((2 : Nat), ABlk.row (5 : TypeId) Ty.u8 x)]
        (3 : Nat))
    fun (x_1 : Int × Int × Int) =>
    Out.stop (rg Try.f17 (5 : Nat))
      (mkS (67 : Nat)
        [((2 : Nat), AV.ptr (0 : Nat) (0 : Nat)), ((4 : Nat), AV.ptr (1 : Nat) (0 : Nat)),
          ((6 : Nat), AV.clo (Fn.func (65 : Nat)) [] [AV.ptr (2 : Nat) (0 : Nat)]),
          ((7 : Nat), AV.ptr (3 : Nat) (0 : Nat))]
        [((0 : Nat),
            ABlk.box
              [AV.d (D.v (Value.int IntKind.i64 (0 : Int))), AV.d (D.v (Value.int IntKind.i64 (0 : Int))),
                AV.d (D.v (Value.int IntKind.i64 (0 : Int))), AV.d (D.v (Value.int IntKind.i64 (0 : Int))),
                AV.d (D.v (Value.slice none (0 : Nat) (0 : Nat)))]),
          ((1 : Nat),
            ABlk.box
              [AV.d (D.v (Value.int IntKind.i64 (Prod.fst (Prod.snd x_1)))),
                AV.d (D.v (Value.int IntKind.i64 (Prod.snd (Prod.snd x_1)))), AV.own (4 : Nat) Ty.u8]),
          ((2 : Nat), ABlk.box [AV.clo (Fn.func (64 : Nat)) [AV.ptr (1 : Nat) (0 : Nat)] []]),
          ((3 : Nat),
            ABlk.box
              [AV.d (D.v (Value.int IntKind.i64 (Prod.fst x_1))), AV.d (D.v (Value.int IntKind.i64 (0 : Int))),
                AV.d (D.v (Value.int IntKind.i64 (0 : Int))), AV.d (D.v (Value.int IntKind.i64 (0 : Int))),
                AV.d (D.v (Value.slice none (0 : Nat) (0 : Nat)))]),
          ((4 : Nat), ABlk.row (5 : TypeId) Ty.u8 x)]
        (5 : Nat))) := by kernel_rfl

theorem t17_5 (a e : Int) (bs : List Int) (x : Resp) : @Eq (Out (TyTup [.resp, .int])) (aexec Try.prog codes sigs Try.f17 (pureFin [.resp, .int]) 0 ⟨[5,6,7,8,9,14,15,16,13,17], false⟩ 200 true (rg Try.f17 5) (D17 a e bs x))
    (Out.callG (66 : Nat) [AV.ptr (0 : Nat) (0 : Nat), AV.d (D.v (Value.int IntKind.i64 (4 : Int)))]
  [((0 : Nat),
      ABlk.box [AV.d (D.v (Value.int IntKind.i64 a)), AV.d (D.v (Value.int IntKind.i64 e)), AV.own (1 : Nat) Ty.u8]),
    ((1 : Nat), ABlk.row (5 : TypeId) Ty.u8 bs)]
  (2 : Nat) [Ty.int, Ty.int, Ty.int]
  (fun (x : Int × Int × Int) =>
    GRes.mk [AV.d (D.v (Value.int IntKind.i64 (Prod.fst x)))]
      [((0 : Nat),
          ABlk.box
            [AV.d (D.v (Value.int IntKind.i64 (Prod.fst (Prod.snd x)))),
              AV.d (D.v (Value.int IntKind.i64 (Prod.snd (Prod.snd x)))), AV.own (1 : Nat) Ty.u8]),
        ((1 : Nat), ABlk.row (5 : TypeId) Ty.u8 bs)]
      (2 : Nat))
  fun (x_1 : Int × Int × Int) =>
  Out.stop (rg Try.f17 (6 : Nat))
    (mkS (67 : Nat)
      [((2 : Nat), AV.ptr (0 : Nat) (0 : Nat)), ((4 : Nat), AV.ptr (1 : Nat) (0 : Nat)),
        ((6 : Nat), AV.clo (Fn.func (65 : FuncId)) [] [AV.ptr (2 : Nat) (0 : Nat)]),
        ((7 : Nat), AV.ptr (3 : Nat) (0 : Nat))]
      [((0 : Nat),
          ABlk.box
            [AV.d (D.v (Value.int IntKind.i64 (0 : Int))), AV.d (D.v (Value.int IntKind.i64 (0 : Int))),
              AV.d (D.v (Value.int IntKind.i64 (0 : Int))), AV.d (D.v (Value.int IntKind.i64 (0 : Int))),
              AV.d (D.v (Value.slice none (0 : Nat) (0 : Nat)))]),
        ((1 : Nat),
          ABlk.box
            [AV.d (D.v (Value.int IntKind.i64 (Prod.fst (Prod.snd x_1)))),
              AV.d (D.v (Value.int IntKind.i64 (Prod.snd (Prod.snd x_1)))), AV.own (4 : Nat) Ty.u8]),
        ((2 : Nat), ABlk.box [AV.clo (Fn.func (64 : FuncId)) [AV.ptr (1 : Nat) (0 : Nat)] []]),
        ((3 : Nat),
          ABlk.box
            [AV.d (D.v (Value.int IntKind.i64 (Resp.err x))), AV.d (D.v (Value.int IntKind.i64 (Prod.fst x_1))),
              AV.d (D.v (Value.int IntKind.i64 (Resp.n x))), AV.d (D.v (Value.int IntKind.i64 (Resp.ver x))),
              AV.own (5 : Nat) Ty.change]),
        ((4 : Nat), ABlk.row (5 : TypeId) Ty.u8 bs), ((5 : Nat), ABlk.row (85 : TypeId) Ty.change (Resp.list x))]
      (6 : Nat))) := by kernel_rfl

theorem t17_6 (a e : Int) (bs : List Int) (x : Resp) : @Eq (Out (TyTup [.resp, .int])) (aexec Try.prog codes sigs Try.f17 (pureFin [.resp, .int]) 0 ⟨[5,6,7,8,9,14,15,16,13,17], false⟩ 200 true (rg Try.f17 6) (D17 a e bs x))
    (Out.callG (66 : Nat) [AV.ptr (0 : Nat) (0 : Nat), AV.d (D.v (Value.int IntKind.i64 (8 : Int)))]
  [((0 : Nat),
      ABlk.box [AV.d (D.v (Value.int IntKind.i64 a)), AV.d (D.v (Value.int IntKind.i64 e)), AV.own (1 : Nat) Ty.u8]),
    ((1 : Nat), ABlk.row (5 : TypeId) Ty.u8 bs)]
  (2 : Nat) [Ty.int, Ty.int, Ty.int]
  (fun (x : Int × Int × Int) =>
    GRes.mk [AV.d (D.v (Value.int IntKind.i64 (Prod.fst x)))]
      [((0 : Nat),
          ABlk.box
            [AV.d (D.v (Value.int IntKind.i64 (Prod.fst (Prod.snd x)))),
              AV.d (D.v (Value.int IntKind.i64 (Prod.snd (Prod.snd x)))), AV.own (1 : Nat) Ty.u8]),
        ((1 : Nat), ABlk.row (5 : TypeId) Ty.u8 bs)]
      (2 : Nat))
  fun (x_1 : Int × Int × Int) =>
  Out.stop (rg Try.f17 (7 : Nat))
    (mkS (67 : Nat)
      [((2 : Nat), AV.ptr (0 : Nat) (0 : Nat)), ((4 : Nat), AV.ptr (1 : Nat) (0 : Nat)),
        ((6 : Nat), AV.clo (Fn.func (65 : FuncId)) [] [AV.ptr (2 : Nat) (0 : Nat)]),
        ((7 : Nat), AV.ptr (3 : Nat) (0 : Nat))]
      [((0 : Nat),
          ABlk.box
            [AV.d (D.v (Value.int IntKind.i64 (0 : Int))), AV.d (D.v (Value.int IntKind.i64 (0 : Int))),
              AV.d (D.v (Value.int IntKind.i64 (0 : Int))), AV.d (D.v (Value.int IntKind.i64 (0 : Int))),
              AV.d (D.v (Value.slice none (0 : Nat) (0 : Nat)))]),
        ((1 : Nat),
          ABlk.box
            [AV.d (D.v (Value.int IntKind.i64 (Prod.fst (Prod.snd x_1)))),
              AV.d (D.v (Value.int IntKind.i64 (Prod.snd (Prod.snd x_1)))), AV.own (4 : Nat) Ty.u8]),
        ((2 : Nat), ABlk.box [AV.clo (Fn.func (64 : FuncId)) [AV.ptr (1 : Nat) (0 : Nat)] []]),
        ((3 : Nat),
          ABlk.box
            [AV.d (D.v (Value.int IntKind.i64 (Resp.err x))), AV.d (D.v (Value.int IntKind.i64 (Resp.id x))),
              AV.d (D.v (Value.int IntKind.i64 (Prod.fst x_1))), AV.d (D.v (Value.int IntKind.i64 (Resp.ver x))),
              AV.own (5 : Nat) Ty.change]),
        ((4 : Nat), ABlk.row (5 : TypeId) Ty.u8 bs), ((5 : Nat), ABlk.row (85 : TypeId) Ty.change (Resp.list x))]
      (6 : Nat))) := by kernel_rfl

theorem t17_7 (a e : Int) (bs : List Int) (x : Resp) : @Eq (Out (TyTup [.resp, .int])) (aexec Try.prog codes sigs Try.f17 (pureFin [.resp, .int]) 0 ⟨[5,6,7,8,9,14,15,16,13,17], false⟩ 200 true (rg Try.f17 7) (D17 a e bs x))
    (Out.callG (65 : Nat) [AV.d (D.v (Value.int IntKind.i64 (4 : Int))), AV.ptr (0 : Nat) (0 : Nat)]
  [((0 : Nat), ABlk.box [AV.clo (Fn.func (64 : FuncId)) [AV.ptr (1 : Nat) (0 : Nat)] []]),
    ((1 : Nat),
      ABlk.box [AV.d (D.v (Value.int IntKind.i64 a)), AV.d (D.v (Value.int IntKind.i64 e)), AV.own (2 : Nat) Ty.u8]),
    ((2 : Nat), ABlk.row (5 : TypeId) Ty.u8 bs)]
  (3 : Nat) [Ty.int, Ty.int, Ty.int]
  (fun (x : Int × Int × Int) =>
    GRes.mk [AV.d (D.v (Value.int IntKind.i64 (Prod.fst x)))]
      [((0 : Nat), ABlk.box [AV.clo (Fn.func (64 : FuncId)) [AV.ptr (1 : Nat) (0 : Nat)] []]),
        ((1 : Nat),
          ABlk.box
            [AV.d (D.v (Value.int IntKind.i64 (Prod.fst (Prod.snd x)))),
              AV.d (D.v (Value.int IntKind.i64 (Prod.snd (Prod.snd x)))), AV.own (2 : Nat) Ty.u8]),
        ((2 : Nat), ABlk.row (5 : TypeId) Ty.u8 bs)]
      (3 : Nat))
  fun (x_1 : Int × Int × Int) =>
  Out.stop (rg Try.f17 (8 : Nat))
    (mkS (67 : Nat)
      [((2 : Nat), AV.ptr (0 : Nat) (0 : Nat)), ((4 : Nat), AV.ptr (1 : Nat) (0 : Nat)),
        ((6 : Nat), AV.clo (Fn.func (65 : FuncId)) [] [AV.ptr (2 : Nat) (0 : Nat)]),
        ((7 : Nat), AV.ptr (3 : Nat) (0 : Nat))]
      [((0 : Nat),
          ABlk.box
            [AV.d (D.v (Value.int IntKind.i64 (0 : Int))), AV.d (D.v (Value.int IntKind.i64 (0 : Int))),
              AV.d (D.v (Value.int IntKind.i64 (0 : Int))), AV.d (D.v (Value.int IntKind.i64 (0 : Int))),
              AV.d (D.v (Value.slice none (0 : Nat) (0 : Nat)))]),
        ((1 : Nat),
          ABlk.box
            [AV.d (D.v (Value.int IntKind.i64 (Prod.fst (Prod.snd x_1)))),
              AV.d (D.v (Value.int IntKind.i64 (Prod.snd (Prod.snd x_1)))), AV.own (4 : Nat) Ty.u8]),
        ((2 : Nat), ABlk.box [AV.clo (Fn.func (64 : FuncId)) [AV.ptr (1 : Nat) (0 : Nat)] []]),
        ((3 : Nat),
          ABlk.box
            [AV.d (D.v (Value.int IntKind.i64 (Resp.err x))), AV.d (D.v (Value.int IntKind.i64 (Resp.id x))),
              AV.d (D.v (Value.int IntKind.i64 (Resp.n x))), AV.d (D.v (Value.int IntKind.i64 (Prod.fst x_1))),
              AV.own (5 : Nat) Ty.change]),
        ((4 : Nat), ABlk.row (5 : TypeId) Ty.u8 bs), ((5 : Nat), ABlk.row (85 : TypeId) Ty.change (Resp.list x))]
      (6 : Nat))) := by kernel_rfl

theorem t17_8 (a e : Int) (bs : List Int) (x : Resp) : @Eq (Out (TyTup [.resp, .int])) (aexec Try.prog codes sigs Try.f17 (pureFin [.resp, .int]) 0 ⟨[5,6,7,8,9,14,15,16,13,17], false⟩ 200 true (rg Try.f17 8) (D17 a e bs x))
    (Out.callG (65 : Nat) [AV.d (D.v (Value.int IntKind.i64 (1 : Int))), AV.ptr (0 : Nat) (0 : Nat)]
  [((0 : Nat), ABlk.box [AV.clo (Fn.func (64 : FuncId)) [AV.ptr (1 : Nat) (0 : Nat)] []]),
    ((1 : Nat),
      ABlk.box [AV.d (D.v (Value.int IntKind.i64 a)), AV.d (D.v (Value.int IntKind.i64 e)), AV.own (2 : Nat) Ty.u8]),
    ((2 : Nat), ABlk.row (5 : TypeId) Ty.u8 bs)]
  (3 : Nat) [Ty.int, Ty.int, Ty.int]
  (fun (x : Int × Int × Int) =>
    GRes.mk [AV.d (D.v (Value.int IntKind.i64 (Prod.fst x)))]
      [((0 : Nat), ABlk.box [AV.clo (Fn.func (64 : FuncId)) [AV.ptr (1 : Nat) (0 : Nat)] []]),
        ((1 : Nat),
          ABlk.box
            [AV.d (D.v (Value.int IntKind.i64 (Prod.fst (Prod.snd x)))),
              AV.d (D.v (Value.int IntKind.i64 (Prod.snd (Prod.snd x)))), AV.own (2 : Nat) Ty.u8]),
        ((2 : Nat), ABlk.row (5 : TypeId) Ty.u8 bs)]
      (3 : Nat))
  fun (x_1 : Int × Int × Int) =>
  Out.stop (rg Try.f17 (9 : Nat))
    (mkS (67 : Nat)
      [((2 : Nat), AV.ptr (0 : Nat) (0 : Nat)), ((4 : Nat), AV.ptr (1 : Nat) (0 : Nat)),
        ((6 : Nat), AV.clo (Fn.func (65 : FuncId)) [] [AV.ptr (2 : Nat) (0 : Nat)]),
        ((7 : Nat), AV.ptr (3 : Nat) (0 : Nat)), ((8 : Nat), AV.d (D.v (Value.int IntKind.i64 (Prod.fst x_1))))]
      [((0 : Nat),
          ABlk.box
            [AV.d (D.v (Value.int IntKind.i64 (0 : Int))), AV.d (D.v (Value.int IntKind.i64 (0 : Int))),
              AV.d (D.v (Value.int IntKind.i64 (0 : Int))), AV.d (D.v (Value.int IntKind.i64 (0 : Int))),
              AV.d (D.v (Value.slice none (0 : Nat) (0 : Nat)))]),
        ((1 : Nat),
          ABlk.box
            [AV.d (D.v (Value.int IntKind.i64 (Prod.fst (Prod.snd x_1)))),
              AV.d (D.v (Value.int IntKind.i64 (Prod.snd (Prod.snd x_1)))), AV.own (4 : Nat) Ty.u8]),
        ((2 : Nat), ABlk.box [AV.clo (Fn.func (64 : FuncId)) [AV.ptr (1 : Nat) (0 : Nat)] []]),
        ((3 : Nat),
          ABlk.box
            [AV.d (D.v (Value.int IntKind.i64 (Resp.err x))), AV.d (D.v (Value.int IntKind.i64 (Resp.id x))),
              AV.d (D.v (Value.int IntKind.i64 (Resp.n x))), AV.d (D.v (Value.int IntKind.i64 (Resp.ver x))),
              AV.own (5 : Nat) Ty.change]),
        ((4 : Nat), ABlk.row (5 : TypeId) Ty.u8 bs), ((5 : Nat), ABlk.row (85 : TypeId) Ty.change (Resp.list x))]
      (6 : Nat))) := by kernel_rfl

theorem t17_9 (a e : Int) (bs : List Int) (x : Resp) (k : Int) : @Eq (Out (TyTup [.resp, .int])) (aexec Try.prog codes sigs Try.f17 (pureFin [.resp, .int]) 0 ⟨[5,6,7,8,9,14,15,16,13,17], false⟩ 200 true (rg Try.f17 9) (D17k a e bs x k))
    (bif decide (k > (32 : Int)) then
  Out.callG (67 : Nat) [AV.ptr (0 : Nat) (0 : Nat), AV.d (D.v (Value.int IntKind.i64 (251 : Int)))]
    [((0 : Nat),
        ABlk.box [AV.d (D.v (Value.int IntKind.i64 a)), AV.d (D.v (Value.int IntKind.i64 e)), AV.own (1 : Nat) Ty.u8]),
      ((1 : Nat), ABlk.row (5 : TypeId) Ty.u8 bs)]
    (2 : Nat) [Ty.int, Ty.int]
    (fun (x : Int × Int) =>
      GRes.mk []
        [((0 : Nat),
            ABlk.box
              [AV.d (D.v (Value.int IntKind.i64 (Prod.fst x))), AV.d (D.v (Value.int IntKind.i64 (Prod.snd x))),
                AV.own (1 : Nat) Ty.u8]),
          ((1 : Nat), ABlk.row (5 : TypeId) Ty.u8 bs)]
        (2 : Nat))
    fun (x_1 : Int × Int) =>
    Out.stop (hd Try.f17 (0 : Nat))
      (mkS (67 : Nat)
        [((2 : Nat), AV.ptr (0 : Nat) (0 : Nat)), ((4 : Nat), AV.ptr (1 : Nat) (0 : Nat)),
          ((6 : Nat), AV.clo (Fn.func (65 : FuncId)) [] [AV.ptr (2 : Nat) (0 : Nat)]),
          ((7 : Nat), AV.ptr (3 : Nat) (0 : Nat)), ((8 : Nat), AV.d (D.v (Value.int IntKind.i64 k))),
          ((9 : Nat), AV.d (D.v (Value.int IntKind.i64 (0 : Int))))]
        [((0 : Nat),
            ABlk.box
              [AV.d (D.v (Value.int IntKind.i64 (0 : Int))), AV.d (D.v (Value.int IntKind.i64 (0 : Int))),
                AV.d (D.v (Value.int IntKind.i64 (0 : Int))), AV.d (D.v (Value.int IntKind.i64 (0 : Int))),
                AV.d (D.v (Value.slice none (0 : Nat) (0 : Nat)))]),
          ((1 : Nat),
            ABlk.box
              [AV.d (D.v (Value.int IntKind.i64 (Prod.fst x_1))), AV.d (D.v (Value.int IntKind.i64 (Prod.snd x_1))),
                AV.own (4 : Nat) Ty.u8]),
          ((2 : Nat), ABlk.box [AV.clo (Fn.func (64 : FuncId)) [AV.ptr (1 : Nat) (0 : Nat)] []]),
          ((3 : Nat),
            ABlk.box
              [AV.d (D.v (Value.int IntKind.i64 (Resp.err x))), AV.d (D.v (Value.int IntKind.i64 (Resp.id x))),
                AV.d (D.v (Value.int IntKind.i64 (Resp.n x))), AV.d (D.v (Value.int IntKind.i64 (Resp.ver x))),
                AV.own (5 : Nat) Ty.change]),
          ((4 : Nat), ABlk.row (5 : TypeId) Ty.u8 bs), ((5 : Nat), ABlk.row (85 : TypeId) Ty.change (Resp.list x))]
        (6 : Nat))
  else
  Out.stop (hd Try.f17 (0 : Nat))
    (mkS (67 : Nat)
      [((2 : Nat), AV.ptr (0 : Nat) (0 : Nat)), ((4 : Nat), AV.ptr (1 : Nat) (0 : Nat)),
        ((6 : Nat), AV.clo (Fn.func (65 : FuncId)) [] [AV.ptr (2 : Nat) (0 : Nat)]),
        ((7 : Nat), AV.ptr (3 : Nat) (0 : Nat)), ((8 : Nat), AV.d (D.v (Value.int IntKind.i64 k))),
        ((9 : Nat), AV.d (D.v (Value.int IntKind.i64 (0 : Int))))]
      [((0 : Nat),
          ABlk.box
            [AV.d (D.v (Value.int IntKind.i64 (0 : Int))), AV.d (D.v (Value.int IntKind.i64 (0 : Int))),
              AV.d (D.v (Value.int IntKind.i64 (0 : Int))), AV.d (D.v (Value.int IntKind.i64 (0 : Int))),
              AV.d (D.v (Value.slice none (0 : Nat) (0 : Nat)))]),
        ((1 : Nat),
          ABlk.box
            [AV.d (D.v (Value.int IntKind.i64 a)), AV.d (D.v (Value.int IntKind.i64 e)), AV.own (4 : Nat) Ty.u8]),
        ((2 : Nat), ABlk.box [AV.clo (Fn.func (64 : FuncId)) [AV.ptr (1 : Nat) (0 : Nat)] []]),
        ((3 : Nat),
          ABlk.box
            [AV.d (D.v (Value.int IntKind.i64 (Resp.err x))), AV.d (D.v (Value.int IntKind.i64 (Resp.id x))),
              AV.d (D.v (Value.int IntKind.i64 (Resp.n x))), AV.d (D.v (Value.int IntKind.i64 (Resp.ver x))),
              AV.own (5 : Nat) Ty.change]),
        ((4 : Nat), ABlk.row (5 : TypeId) Ty.u8 bs), ((5 : Nat), ABlk.row (85 : TypeId) Ty.change (Resp.list x))]
      (6 : Nat))) := by kernel_rfl

theorem t17_L (a e : Int) (bs : List Int) (x : Resp) (k i : Int) : @Eq (Out (TyTup [.resp, .int])) (aexec Try.prog codes sigs Try.f17 (pureFin [.resp, .int]) 0 ⟨[5,6,7,8,9,14,15,16,13,17], false⟩ 200 true (hd Try.f17 0) (D17i a e bs x k i))
    (bif decide (i < k) then
  Out.callG (68 : Nat) [AV.ptr (0 : Nat) (0 : Nat)]
    [((0 : Nat),
        ABlk.box [AV.d (D.v (Value.int IntKind.i64 a)), AV.d (D.v (Value.int IntKind.i64 e)), AV.own (1 : Nat) Ty.u8]),
      ((1 : Nat), ABlk.row (5 : TypeId) Ty.u8 bs)]
    (2 : Nat) [Ty.int]
    (fun (x : Int) =>
      GRes.mk [AV.d (D.v (Value.int IntKind.i64 x))]
        [((0 : Nat),
            ABlk.box
              [AV.d (D.v (Value.int IntKind.i64 a)), AV.d (D.v (Value.int IntKind.i64 e)), AV.own (1 : Nat) Ty.u8]),
          ((1 : Nat), ABlk.row (5 : TypeId) Ty.u8 bs)]
        (2 : Nat))
    fun (x_1 : Int) =>
    bif x_1 == (0 : Int) then
      Out.stop (rg Try.f17 (14 : Nat))
        (mkS (67 : Nat)
          [((2 : Nat), AV.ptr (0 : Nat) (0 : Nat)), ((4 : Nat), AV.ptr (1 : Nat) (0 : Nat)),
            ((6 : Nat), AV.clo (Fn.func (65 : FuncId)) [] [AV.ptr (2 : Nat) (0 : Nat)]),
            ((7 : Nat), AV.ptr (3 : Nat) (0 : Nat)), ((8 : Nat), AV.d (D.v (Value.int IntKind.i64 k))),
            ((9 : Nat), AV.d (D.v (Value.int IntKind.i64 i)))]
          [((0 : Nat),
              ABlk.box
                [AV.d (D.v (Value.int IntKind.i64 (0 : Int))), AV.d (D.v (Value.int IntKind.i64 (0 : Int))),
                  AV.d (D.v (Value.int IntKind.i64 (0 : Int))), AV.d (D.v (Value.int IntKind.i64 (0 : Int))),
                  AV.d (D.v (Value.slice none (0 : Nat) (0 : Nat)))]),
            ((1 : Nat),
              ABlk.box
                [AV.d (D.v (Value.int IntKind.i64 a)), AV.d (D.v (Value.int IntKind.i64 e)), AV.own (4 : Nat) Ty.u8]),
            ((2 : Nat), ABlk.box [AV.clo (Fn.func (64 : FuncId)) [AV.ptr (1 : Nat) (0 : Nat)] []]),
            ((3 : Nat),
              ABlk.box
                [AV.d (D.v (Value.int IntKind.i64 (Resp.err x))), AV.d (D.v (Value.int IntKind.i64 (Resp.id x))),
                  AV.d (D.v (Value.int IntKind.i64 (Resp.n x))), AV.d (D.v (Value.int IntKind.i64 (Resp.ver x))),
                  AV.own (5 : Nat) Ty.change]),
            ((4 : Nat), ABlk.row (5 : TypeId) Ty.u8 bs), ((5 : Nat), ABlk.row (85 : TypeId) Ty.change (Resp.list x))]
          (6 : Nat))
    else
      Out.stop (rg Try.f17 (17 : Nat))
        (mkS (67 : Nat)
          [((2 : Nat), AV.ptr (0 : Nat) (0 : Nat)), ((4 : Nat), AV.ptr (1 : Nat) (0 : Nat)),
            ((7 : Nat), AV.ptr (2 : Nat) (0 : Nat))]
          [((0 : Nat),
              ABlk.box
                [AV.d (D.v (Value.int IntKind.i64 (0 : Int))), AV.d (D.v (Value.int IntKind.i64 (0 : Int))),
                  AV.d (D.v (Value.int IntKind.i64 (0 : Int))), AV.d (D.v (Value.int IntKind.i64 (0 : Int))),
                  AV.d (D.v (Value.slice none (0 : Nat) (0 : Nat)))]),
            ((1 : Nat),
              ABlk.box
                [AV.d (D.v (Value.int IntKind.i64 a)), AV.d (D.v (Value.int IntKind.i64 e)), AV.own (3 : Nat) Ty.u8]),
            ((2 : Nat),
              ABlk.box
                [AV.d (D.v (Value.int IntKind.i64 (Resp.err x))), AV.d (D.v (Value.int IntKind.i64 (Resp.id x))),
                  AV.d (D.v (Value.int IntKind.i64 (Resp.n x))), AV.d (D.v (Value.int IntKind.i64 (Resp.ver x))),
                  AV.own (4 : Nat) Ty.change]),
            ((3 : Nat), ABlk.row (5 : TypeId) Ty.u8 bs), ((4 : Nat), ABlk.row (85 : TypeId) Ty.change (Resp.list x))]
          (5 : Nat))
  else
  Out.stop (rg Try.f17 (17 : Nat))
    (mkS (67 : Nat)
      [((2 : Nat), AV.ptr (0 : Nat) (0 : Nat)), ((4 : Nat), AV.ptr (1 : Nat) (0 : Nat)),
        ((7 : Nat), AV.ptr (2 : Nat) (0 : Nat))]
      [((0 : Nat),
          ABlk.box
            [AV.d (D.v (Value.int IntKind.i64 (0 : Int))), AV.d (D.v (Value.int IntKind.i64 (0 : Int))),
              AV.d (D.v (Value.int IntKind.i64 (0 : Int))), AV.d (D.v (Value.int IntKind.i64 (0 : Int))),
              AV.d (D.v (Value.slice none (0 : Nat) (0 : Nat)))]),
        ((1 : Nat),
          ABlk.box
            [AV.d (D.v (Value.int IntKind.i64 a)), AV.d (D.v (Value.int IntKind.i64 e)), AV.own (3 : Nat) Ty.u8]),
        ((2 : Nat),
          ABlk.box
            [AV.d (D.v (Value.int IntKind.i64 (Resp.err x))), AV.d (D.v (Value.int IntKind.i64 (Resp.id x))),
              AV.d (D.v (Value.int IntKind.i64 (Resp.n x))), AV.d (D.v (Value.int IntKind.i64 (Resp.ver x))),
              AV.own (4 : Nat) Ty.change]),
        ((3 : Nat), ABlk.row (5 : TypeId) Ty.u8 bs), ((4 : Nat), ABlk.row (85 : TypeId) Ty.change (Resp.list x))]
      (5 : Nat))) := by kernel_rfl

theorem t17_14 (a e : Int) (bs : List Int) (x : Resp) (k i : Int) : @Eq (Out (TyTup [.resp, .int])) (aexec Try.prog codes sigs Try.f17 (pureFin [.resp, .int]) 0 ⟨[5,6,7,8,9,14,15,16,13,17], false⟩ 200 true (rg Try.f17 14) (D17i a e bs x k i))
    (Out.callG (65 : Nat) [AV.d (D.v (Value.int IntKind.i64 (4 : Int))), AV.ptr (0 : Nat) (0 : Nat)]
  [((0 : Nat), ABlk.box [AV.clo (Fn.func (64 : FuncId)) [AV.ptr (1 : Nat) (0 : Nat)] []]),
    ((1 : Nat),
      ABlk.box [AV.d (D.v (Value.int IntKind.i64 a)), AV.d (D.v (Value.int IntKind.i64 e)), AV.own (2 : Nat) Ty.u8]),
    ((2 : Nat), ABlk.row (5 : TypeId) Ty.u8 bs)]
  (3 : Nat) [Ty.int, Ty.int, Ty.int]
  (fun (x : Int × Int × Int) =>
    GRes.mk [AV.d (D.v (Value.int IntKind.i64 (Prod.fst x)))]
      [((0 : Nat), ABlk.box [AV.clo (Fn.func (64 : FuncId)) [AV.ptr (1 : Nat) (0 : Nat)] []]),
        ((1 : Nat),
          ABlk.box
            [AV.d (D.v (Value.int IntKind.i64 (Prod.fst (Prod.snd x)))),
              AV.d (D.v (Value.int IntKind.i64 (Prod.snd (Prod.snd x)))), AV.own (2 : Nat) Ty.u8]),
        ((2 : Nat), ABlk.row (5 : TypeId) Ty.u8 bs)]
      (3 : Nat))
  fun (x_1 : Int × Int × Int) =>
  Out.callG (65 : Nat) [AV.d (D.v (Value.int IntKind.i64 (1 : Int))), AV.ptr (0 : Nat) (0 : Nat)]
    [((0 : Nat), ABlk.box [AV.clo (Fn.func (64 : FuncId)) [AV.ptr (1 : Nat) (0 : Nat)] []]),
      ((1 : Nat),
        ABlk.box
          [AV.d (D.v (Value.int IntKind.i64 (Prod.fst (Prod.snd x_1)))),
            AV.d (D.v (Value.int IntKind.i64 (Prod.snd (Prod.snd x_1)))), AV.own (2 : Nat) Ty.u8]),
      ((2 : Nat), ABlk.row (5 : TypeId) Ty.u8 bs)]
    (3 : Nat) [Ty.int, Ty.int, Ty.int]
    (fun (x : Int × Int × Int) =>
      GRes.mk [AV.d (D.v (Value.int IntKind.i64 (Prod.fst x)))]
        [((0 : Nat), ABlk.box [AV.clo (Fn.func (64 : FuncId)) [AV.ptr (1 : Nat) (0 : Nat)] []]),
          ((1 : Nat),
            ABlk.box
              [AV.d (D.v (Value.int IntKind.i64 (Prod.fst (Prod.snd x)))),
                AV.d (D.v (Value.int IntKind.i64 (Prod.snd (Prod.snd x)))), AV.own (2 : Nat) Ty.u8]),
          ((2 : Nat), ABlk.row (5 : TypeId) Ty.u8 bs)]
        (3 : Nat))
    fun (x_2 : Int × Int × Int) =>
    Out.stop (rg Try.f17 (15 : Nat))
      (mkS (67 : Nat)
        [((2 : Nat), AV.ptr (0 : Nat) (0 : Nat)), ((4 : Nat), AV.ptr (1 : Nat) (0 : Nat)),
          ((6 : Nat), AV.clo (Fn.func (65 : FuncId)) [] [AV.ptr (2 : Nat) (0 : Nat)]),
          ((7 : Nat), AV.ptr (3 : Nat) (0 : Nat)), ((8 : Nat), AV.d (D.v (Value.int IntKind.i64 k))),
          ((9 : Nat), AV.d (D.v (Value.int IntKind.i64 i))), ((10 : Nat), AV.ptr (4 : Nat) (0 : Nat))]
        [((0 : Nat),
            ABlk.box
              [AV.d (D.v (Value.int IntKind.i64 (0 : Int))), AV.d (D.v (Value.int IntKind.i64 (0 : Int))),
                AV.d (D.v (Value.int IntKind.i64 (0 : Int))), AV.d (D.v (Value.int IntKind.i64 (0 : Int))),
                AV.d (D.v (Value.slice none (0 : Nat) (0 : Nat)))]),
          ((1 : Nat),
            ABlk.box
              [AV.d (D.v (Value.int IntKind.i64 (Prod.fst (Prod.snd x_2)))),
                AV.d (D.v (Value.int IntKind.i64 (Prod.snd (Prod.snd x_2)))), AV.own (5 : Nat) Ty.u8]),
          ((2 : Nat), ABlk.box [AV.clo (Fn.func (64 : FuncId)) [AV.ptr (1 : Nat) (0 : Nat)] []]),
          ((3 : Nat),
            ABlk.box
              [AV.d (D.v (Value.int IntKind.i64 (Resp.err x))), AV.d (D.v (Value.int IntKind.i64 (Resp.id x))),
                AV.d (D.v (Value.int IntKind.i64 (Resp.n x))), AV.d (D.v (Value.int IntKind.i64 (Resp.ver x))),
                AV.own (6 : Nat) Ty.change]),
          ((4 : Nat),
            ABlk.box
              [AV.d (D.v (Value.int IntKind.i64 (Prod.fst x_1))), AV.d (D.v (Value.int IntKind.i64 (Prod.fst x_2))),
                AV.d (D.v (Value.int IntKind.i64 (0 : Int)))]),
          ((5 : Nat), ABlk.row (5 : TypeId) Ty.u8 bs), ((6 : Nat), ABlk.row (85 : TypeId) Ty.change (Resp.list x))]
        (7 : Nat))) := by kernel_rfl

theorem t17_15 (a e : Int) (bs : List Int) (x : Resp) (k i : Int) (c : Change) : @Eq (Out (TyTup [.resp, .int])) (aexec Try.prog codes sigs Try.f17 (pureFin [.resp, .int]) 0 ⟨[5,6,7,8,9,14,15,16,13,17], false⟩ 200 true (rg Try.f17 15) (D17c a e bs x k i c))
    (Out.callG (66 : Nat) [AV.ptr (0 : Nat) (0 : Nat), AV.d (D.v (Value.int IntKind.i64 (8 : Int)))]
  [((0 : Nat),
      ABlk.box [AV.d (D.v (Value.int IntKind.i64 a)), AV.d (D.v (Value.int IntKind.i64 e)), AV.own (1 : Nat) Ty.u8]),
    ((1 : Nat), ABlk.row (5 : TypeId) Ty.u8 bs)]
  (2 : Nat) [Ty.int, Ty.int, Ty.int]
  (fun (x : Int × Int × Int) =>
    GRes.mk [AV.d (D.v (Value.int IntKind.i64 (Prod.fst x)))]
      [((0 : Nat),
          ABlk.box
            [AV.d (D.v (Value.int IntKind.i64 (Prod.fst (Prod.snd x)))),
              AV.d (D.v (Value.int IntKind.i64 (Prod.snd (Prod.snd x)))), AV.own (1 : Nat) Ty.u8]),
        ((1 : Nat), ABlk.row (5 : TypeId) Ty.u8 bs)]
      (2 : Nat))
  fun (x_1 : Int × Int × Int) =>
  Out.stop (rg Try.f17 (16 : Nat))
    (mkS (67 : Nat)
      [((2 : Nat), AV.ptr (0 : Nat) (0 : Nat)), ((4 : Nat), AV.ptr (1 : Nat) (0 : Nat)),
        ((6 : Nat), AV.clo (Fn.func (65 : FuncId)) [] [AV.ptr (2 : Nat) (0 : Nat)]),
        ((7 : Nat), AV.ptr (3 : Nat) (0 : Nat)), ((8 : Nat), AV.d (D.v (Value.int IntKind.i64 k))),
        ((9 : Nat), AV.d (D.v (Value.int IntKind.i64 i))), ((10 : Nat), AV.ptr (4 : Nat) (0 : Nat))]
      [((0 : Nat),
          ABlk.box
            [AV.d (D.v (Value.int IntKind.i64 (0 : Int))), AV.d (D.v (Value.int IntKind.i64 (0 : Int))),
              AV.d (D.v (Value.int IntKind.i64 (0 : Int))), AV.d (D.v (Value.int IntKind.i64 (0 : Int))),
              AV.d (D.v (Value.slice none (0 : Nat) (0 : Nat)))]),
        ((1 : Nat),
          ABlk.box
            [AV.d (D.v (Value.int IntKind.i64 (Prod.fst (Prod.snd x_1)))),
              AV.d (D.v (Value.int IntKind.i64 (Prod.snd (Prod.snd x_1)))), AV.own (5 : Nat) Ty.u8]),
        ((2 : Nat), ABlk.box [AV.clo (Fn.func (64 : FuncId)) [AV.ptr (1 : Nat) (0 : Nat)] []]),
        ((3 : Nat),
          ABlk.box
            [AV.d (D.v (Value.int IntKind.i64 (Resp.err x))), AV.d (D.v (Value.int IntKind.i64 (Resp.id x))),
              AV.d (D.v (Value.int IntKind.i64 (Resp.n x))), AV.d (D.v (Value.int IntKind.i64 (Resp.ver x))),
              AV.own (6 : Nat) Ty.change]),
        ((4 : Nat),
          ABlk.box
            [AV.d (D.v (Value.int IntKind.i64 (Change.ver c))), AV.d (D.v (Value.int IntKind.i64 (Change.by' c))),
              AV.d (D.v (Value.int IntKind.i64 (Prod.fst x_1)))]),
        ((5 : Nat), ABlk.row (5 : TypeId) Ty.u8 bs), ((6 : Nat), ABlk.row (85 : TypeId) Ty.change (Resp.list x))]
      (7 : Nat))) := by kernel_rfl

theorem t17_16 (a e : Int) (bs : List Int) (x : Resp) (k i : Int) (c : Change) : @Eq (Out (TyTup [.resp, .int])) (aexec Try.prog codes sigs Try.f17 (pureFin [.resp, .int]) 0 ⟨[5,6,7,8,9,14,15,16,13,17], false⟩ 200 true (rg Try.f17 16) (D17c a e bs x k i c))
    (Out.need ((True ∧ True ∧ True ∧ True) ∧ True)
  (Out.need ((List.length (Resp.list x) + List.length [c]) * (25 : Nat) ≤ (35184372088832 : Nat) ∧ True)
    (Out.stop (rg Try.f17 (13 : Nat))
      (mkS (67 : Nat)
        [((2 : Nat), AV.ptr (0 : Nat) (0 : Nat)), ((4 : Nat), AV.ptr (1 : Nat) (0 : Nat)),
          ((6 : Nat), AV.clo (Fn.func (65 : FuncId)) [] [AV.ptr (2 : Nat) (0 : Nat)]),
          ((7 : Nat), AV.ptr (3 : Nat) (0 : Nat)), ((8 : Nat), AV.d (D.v (Value.int IntKind.i64 k))),
          ((9 : Nat), AV.d (D.v (Value.int IntKind.i64 i)))]
        [((0 : Nat),
            ABlk.box
              [AV.d (D.v (Value.int IntKind.i64 (0 : Int))), AV.d (D.v (Value.int IntKind.i64 (0 : Int))),
                AV.d (D.v (Value.int IntKind.i64 (0 : Int))), AV.d (D.v (Value.int IntKind.i64 (0 : Int))),
                AV.d (D.v (Value.slice none (0 : Nat) (0 : Nat)))]),
          ((1 : Nat),
            ABlk.box
              [AV.d (D.v (Value.int IntKind.i64 a)), AV.d (D.v (Value.int IntKind.i64 e)), AV.own (4 : Nat) Ty.u8]),
          ((2 : Nat), ABlk.box [AV.clo (Fn.func (64 : FuncId)) [AV.ptr (1 : Nat) (0 : Nat)] []]),
          ((3 : Nat),
            ABlk.box
              [AV.d (D.v (Value.int IntKind.i64 (Resp.err x))), AV.d (D.v (Value.int IntKind.i64 (Resp.id x))),
                AV.d (D.v (Value.int IntKind.i64 (Resp.n x))), AV.d (D.v (Value.int IntKind.i64 (Resp.ver x))),
                AV.own (5 : Nat) Ty.change]),
          ((4 : Nat), ABlk.row (5 : TypeId) Ty.u8 bs), ((5 : Nat), ABlk.row (85 : Nat) Ty.change (Resp.list x ++ [c]))]
        (6 : Nat))))) := by kernel_rfl

theorem t17_13 (a e : Int) (bs : List Int) (x : Resp) (k i : Int) : @Eq (Out (TyTup [.resp, .int])) (aexec Try.prog codes sigs Try.f17 (pureFin [.resp, .int]) 0 ⟨[5,6,7,8,9,14,15,16,13,17], false⟩ 200 true (rg Try.f17 13) (D17i a e bs x k i))
    (Out.stop (hd Try.f17 (0 : Nat))
  (mkS (67 : Nat)
    [((2 : Nat), AV.ptr (0 : Nat) (0 : Nat)), ((4 : Nat), AV.ptr (1 : Nat) (0 : Nat)),
      ((6 : Nat), AV.clo (Fn.func (65 : FuncId)) [] [AV.ptr (2 : Nat) (0 : Nat)]),
      ((7 : Nat), AV.ptr (3 : Nat) (0 : Nat)), ((8 : Nat), AV.d (D.v (Value.int IntKind.i64 k))),
      ((9 : Nat), AV.d (D.v (Value.int IntKind.i64 (IntKind.wrap IntKind.i64 (i + (1 : Int))))))]
    [((0 : Nat),
        ABlk.box
          [AV.d (D.v (Value.int IntKind.i64 (0 : Int))), AV.d (D.v (Value.int IntKind.i64 (0 : Int))),
            AV.d (D.v (Value.int IntKind.i64 (0 : Int))), AV.d (D.v (Value.int IntKind.i64 (0 : Int))),
            AV.d (D.v (Value.slice none (0 : Nat) (0 : Nat)))]),
      ((1 : Nat),
        ABlk.box [AV.d (D.v (Value.int IntKind.i64 a)), AV.d (D.v (Value.int IntKind.i64 e)), AV.own (4 : Nat) Ty.u8]),
      ((2 : Nat), ABlk.box [AV.clo (Fn.func (64 : FuncId)) [AV.ptr (1 : Nat) (0 : Nat)] []]),
      ((3 : Nat),
        ABlk.box
          [AV.d (D.v (Value.int IntKind.i64 (Resp.err x))), AV.d (D.v (Value.int IntKind.i64 (Resp.id x))),
            AV.d (D.v (Value.int IntKind.i64 (Resp.n x))), AV.d (D.v (Value.int IntKind.i64 (Resp.ver x))),
            AV.own (5 : Nat) Ty.change]),
      ((4 : Nat), ABlk.row (5 : TypeId) Ty.u8 bs), ((5 : Nat), ABlk.row (85 : TypeId) Ty.change (Resp.list x))]
    (6 : Nat))) := by kernel_rfl

theorem t17_17 (a e : Int) (bs : List Int) (x : Resp) : @Eq (Out (TyTup [.resp, .int])) (aexec Try.prog codes sigs Try.f17 (pureFin [.resp, .int]) 0 noCut 200 true (rg Try.f17 17) (D17e a e bs x))
    (Out.callG (69 : Nat) [AV.ptr (0 : Nat) (0 : Nat)]
  [((0 : Nat),
      ABlk.box [AV.d (D.v (Value.int IntKind.i64 a)), AV.d (D.v (Value.int IntKind.i64 e)), AV.own (1 : Nat) Ty.u8]),
    ((1 : Nat), ABlk.row (5 : TypeId) Ty.u8 bs)]
  (2 : Nat) [Ty.int, Ty.int]
  (fun (x : Int × Int) =>
    GRes.mk []
      [((0 : Nat),
          ABlk.box
            [AV.d (D.v (Value.int IntKind.i64 (Prod.fst x))), AV.d (D.v (Value.int IntKind.i64 (Prod.snd x))),
              AV.own (1 : Nat) Ty.u8]),
        ((1 : Nat), ABlk.row (5 : TypeId) Ty.u8 bs)]
      (2 : Nat))
  fun (x_1 : Int × Int) =>
  Out.callG (68 : Nat) [AV.ptr (0 : Nat) (0 : Nat)]
    [((0 : Nat),
        ABlk.box
          [AV.d (D.v (Value.int IntKind.i64 (Prod.fst x_1))), AV.d (D.v (Value.int IntKind.i64 (Prod.snd x_1))),
            AV.own (1 : Nat) Ty.u8]),
      ((1 : Nat), ABlk.row (5 : TypeId) Ty.u8 bs)]
    (2 : Nat) [Ty.int]
    (fun (x : Int) =>
      GRes.mk [AV.d (D.v (Value.int IntKind.i64 x))]
        [((0 : Nat),
            ABlk.box
              [AV.d (D.v (Value.int IntKind.i64 (Prod.fst x_1))), AV.d (D.v (Value.int IntKind.i64 (Prod.snd x_1))),
                AV.own (1 : Nat) Ty.u8]),
          ((1 : Nat), ABlk.row (5 : TypeId) Ty.u8 bs)]
        (2 : Nat))
    fun (x_2 : Int) =>
    bif x_2 != (0 : Int) then
      Out.callG (68 : Nat) [AV.ptr (0 : Nat) (0 : Nat)]
        [((0 : Nat),
            ABlk.box
              [AV.d (D.v (Value.int IntKind.i64 (Prod.fst x_1))), AV.d (D.v (Value.int IntKind.i64 (Prod.snd x_1))),
                AV.own (1 : Nat) Ty.u8]),
          ((1 : Nat), ABlk.row (5 : TypeId) Ty.u8 bs)]
        (2 : Nat) [Ty.int]
        (fun (x : Int) =>
          GRes.mk [AV.d (D.v (Value.int IntKind.i64 x))]
            [((0 : Nat),
                ABlk.box
                  [AV.d (D.v (Value.int IntKind.i64 (Prod.fst x_1))), AV.d (D.v (Value.int IntKind.i64 (Prod.snd x_1))),
                    AV.own (1 : Nat) Ty.u8]),
              ((1 : Nat), ABlk.row (5 : TypeId) Ty.u8 bs)]
            (2 : Nat))
        fun (x : Int) =>
        Out.need ((True ∧ True ∧ True ∧ True ∧ True ∧ True) ∧ True ∧ True)
          (Out.ret (Resp.mk (0 : Int) (0 : Int) (0 : Int) (0 : Int) [], x))
    else Out.need ((True ∧ True ∧ True ∧ True ∧ True ∧ True) ∧ True ∧ True) (Out.ret (x, (0 : Int)))) := by kernel_rfl

end Go.Proofs.Rp

/- The answer of bytes. (Own work.) -/
namespace Go.Proofs.Rp
open Go Go.VL

theorem end69 {a e : Int} {b : List Int} (hr : RdOK b a) : Gc Try.prog 69 [.ptr 0 0] (RH a e b) 2 ⟨[], RH a (endS ⟨b, a, e⟩).e b, 2⟩ := by
  have h := c69 a e b
  obtain ⟨h1, h2, h3⟩ := hr
  unfold Sb at h3
  have hw : IntKind.i64.wrap ((b.length : Int) - a) = (b.length : Int) - a := wrap_i64 (by omega) (by omega)
  rw [hw] at h
  have e1 : decide ((b.length : Int) - a > 0) = decide (a < (b.length : Int)) := decide_eq_decide.2 (by omega)
  rw [e1] at h
  exact h

theorem fin17 {b : List Int} (x : Resp) (r : Rdr) (hrb : r.b = b) (hr : RdOK b r.at') {R : Resp × Int} (hR : R = finS x (r, x.list)) {A : List Item → AS → Prop}
    (hA : Closed Try.prog codes sigs Try.f17 (pureFin [.resp, .int]) (fun y => y = R) 0 A) : A (rg Try.f17 17) (D17e r.at' r.e b x) := by
  subst hrb
  refine hA.go (t17_17 r.at' r.e r.b x) ⟨(_, _), end69 hr, _, c68 _ _ _, sat_bif (fun h => ⟨_, c68 _ _ _, ⟨⟨trivial, trivial, trivial, trivial, trivial, trivial⟩, trivial, trivial⟩, ?_⟩) (fun h => ⟨⟨⟨trivial, trivial, trivial, trivial, trivial, trivial⟩, trivial, trivial⟩, ?_⟩)⟩
  · show ((⟨0, 0, 0, 0, []⟩ : Resp), (endS r).e) = R
    have h : ((endS r).e != 0) = true := h
    rw [hR, finS, h]; rfl
  · show (x, (0 : Int)) = R
    have h : ((endS r).e != 0) = false := h
    rw [hR, finS, h]; rfl

theorem loop17 {b : List Int} (hb : BV b) (x : Resp) (k : Nat) (hk : k < 256) : ∀ (m i : Nat) (r : Rdr) (l : List Change), i + m = k → l.length ≤ i → r.b = b → RdOK b r.at' → ∀ {R : Resp × Int}, R = finS x (listS m r l) → ∀ {A : List Item → AS → Prop},
    Closed Try.prog codes sigs Try.f17 (pureFin [.resp, .int]) (fun y => y = R) 0 A → A (hd Try.f17 0) (D17i r.at' r.e b ⟨x.err, x.id, x.n, x.ver, l⟩ k i) := by
  intro m
  induction m with
  | zero =>
    intro i r l hi hl hrb hr R hR A hA
    exact hA.go (t17_L r.at' r.e b _ k i) (sat_bif (fun h => absurd (of_decide_eq_true h) (by omega)) (fun _ => fin17 ⟨x.err, x.id, x.n, x.ver, l⟩ r hrb hr hR hA))
  | succ m ih =>
    intro i r l hi hl hrb hr R hR A hA
    refine hA.go (t17_L r.at' r.e b _ k i) (sat_bif (fun _ => ⟨_, c68 _ _ _, ?_⟩) (fun h => absurd (of_decide_eq_false h) (by omega)))
    refine sat_bif (fun h => ?_) (fun h => fin17 ⟨x.err, x.id, x.n, x.ver, l⟩ r hrb hr (R := R) (by rw [hR, listS]; have h : (r.e == 0) = false := h; rw [h]; rfl) hA)
    have h : (r.e == 0) = true := h
    subst hrb
    have hr1 := behindOK hr 4
    have hr2 := behindOK hr1 1
    have hr3 := behindOK hr2 8
    refine hA.go (t17_14 r.at' r.e r.b _ k i) ⟨(_, _, _), c65 (n := 4) hr hb (by decide) (by decide), (_, _, _), c65 (n := 1) hr1 hb (by decide) (by decide), ?_⟩
    refine hA.go (t17_15 (behind (behind r 4) 1).at' (behind (behind r 4) 1).e r.b ⟨x.err, x.id, x.n, x.ver, l⟩ k i ⟨numU (bytes r 4), numU (bytes (behind r 4) 1), 0⟩) ⟨(_, _, _), c66_8 hr2 hb, ?_⟩
    refine hA.go (t17_16 (chS r).1.at' (chS r).1.e r.b ⟨x.err, x.id, x.n, x.ver, l⟩ k i (chS r).2) ⟨⟨⟨trivial, trivial, trivial, trivial⟩, trivial⟩, ⟨?_, trivial⟩, ?_⟩
    · show (l.length + 1) * 25 ≤ _
      omega
    · refine hA.go (t17_13 (chS r).1.at' (chS r).1.e r.b ⟨x.err, x.id, x.n, x.ver, l ++ [(chS r).2]⟩ k i) ?_
      rw [wrap_succ (by omega)]
      exact ih (i + 1) (chS r).1 (l ++ [(chS r).2]) (by omega) (by rw [List.length_append]; simp; omega) rfl hr3 (by rw [hR, listS, h]; rfl) hA

theorem c17 {b : List Int} (hl : Sb b.length) (hb : BV b) : Pure Try.prog 17 [⟨.sl .u8, b⟩] [.resp, .int] (decS b) :=
  Pure.of_closed (C := codes) (S := sigs) mixed Try.func17 (by kernel_rfl) (Nat.le_of_ble_eq_true (by kernel_rfl)) fun A hA => hA.go (t17 b) (by
    have hr0 : RdOK b 0 := ⟨by omega, by omega, hl⟩
    have hr1 : RdOK (rd1 b).b (rd1 b).at' := behindOK (r := ⟨b, 0, 0⟩) hr0 2
    have hr2 : RdOK (rd2 b).b (rd2 b).at' := behindOK hr1 4
    have hr3 : RdOK (rd3 b).b (rd3 b).at' := behindOK hr2 8
    have hr4 : RdOK (rd4 b).b (rd4 b).at' := behindOK hr3 4
    have hr5 : RdOK (rd5 b).b (rd5 b).at' := behindOK hr4 1
    have b3 : 0 ≤ cntS b ∧ cntS b < 256 ^ 1 := numUb (r := rd4 b) hb hr4 1 1 (by decide)
    have e1 : (256 : Int) ^ 1 = 256 := by decide
    rw [e1] at b3
    refine ⟨b, c63 hl, (_, _, _), c65 (n := 2) hr0 hb (by decide) (by decide), ?_⟩
    refine hA.boxrow 3 4 85 .change (by kernel_rfl) (s' := D17 (rd1 b).at' (rd1 b).e b ⟨numU (bytes ⟨b, 0, 0⟩ 2), 0, 0, 0, []⟩) (by kernel_rfl) ?_
    refine hA.go (t17_5 _ _ _ _) ⟨(_, _, _), c66_4 hr1 hb, ?_⟩
    refine hA.go (t17_6 (rd2 b).at' (rd2 b).e b ⟨numU (bytes ⟨b, 0, 0⟩ 2), numI (bytes (rd1 b) 4), 0, 0, []⟩) ⟨(_, _, _), c66_8 hr2 hb, ?_⟩
    refine hA.go (t17_7 (rd3 b).at' (rd3 b).e b ⟨numU (bytes ⟨b, 0, 0⟩ 2), numI (bytes (rd1 b) 4), numI (bytes (rd2 b) 8), 0, []⟩) ⟨(_, _, _), c65 (n := 4) hr3 hb (by decide) (by decide), ?_⟩
    refine hA.go (t17_8 (rd4 b).at' (rd4 b).e b (headS b)) ⟨(_, _, _), c65 (n := 1) hr4 hb (by decide) (by decide), ?_⟩
    obtain ⟨k, hk⟩ := Int.eq_ofNat_of_zero_le b3.1
    have go : ∀ r : Rdr, r.b = b → RdOK b r.at' → r = rd6 b → A (hd Try.f17 0) (D17i r.at' r.e b (headS b) k (0 : Nat)) := fun r hrb hr6 hr => by
      refine loop17 hb (headS b) k (by omega) k 0 r [] (by omega) (Nat.le_refl _) hrb hr6 ?_ hA
      have hk' : cntS b = (k : Int) := hk
      rw [hr, decS, hk']
      rfl
    refine hA.go (t17_9 (rd5 b).at' (rd5 b).e b (headS b) (cntS b)) (sat_bif (fun h => ⟨(_, _), c67 251 _ _ _, ?_⟩) (fun h => ?_))
    · have := go ⟨b, (rd5 b).at', fst (rd5 b).e 251⟩ rfl hr5 (by rw [rd6]; have h' : decide (cntS b > 32) = true := h; rw [h']; rfl)
      rw [← hk] at this
      exact this
    · have := go (rd5 b) rfl hr5 (by rw [rd6]; have h' : decide (cntS b > 32) = false := h; rw [h']; rfl)
      rw [← hk] at this
      exact this)
end Go.Proofs.Rp
