/- Own work: part RpB of the proof. -/
import Derived.Test.YtebbdkcocbampaaRpA
set_option linter.unusedVariables false
namespace Go.Proofs.Rp
open Go Go.VL

def EH (b : List Int) (x : Resp) : Heap := [(0, .box [.d (.sl .u8 b)]), (1, .box [i64 x.err, i64 x.id, i64 x.n, i64 x.ver, .d (.sl .change x.list)])]
def F104 (l : Nat) (b : List Int) (x : Resp) : AS := mkS 72 [(0, .clo (.yield l) [] []), (1, .ptr 1 0)] (EH b x) 2
def G1 (l : Nat) (b : List Int) (x : Resp) (ns : List Numb) (i : Int) : AS := mkS 72 [(0, .clo (.yield l) [] []), (1, .ptr 1 0), (30, .own 2 .numb), (31, i64 ns.length), (32, i64 i)] [(0, .box [.d (.sl .u8 b)]), (1, .box [i64 x.err, i64 x.id, i64 x.n, i64 x.ver, .d (.sl .change x.list)]), (2, .row 90 .numb ns)] 3
def nums1 (x : Resp) : List Numb := [⟨IntKind.u64.wrap x.err, 2⟩, ⟨IntKind.u64.wrap x.id, 4⟩, ⟨IntKind.u64.wrap x.n, 8⟩, ⟨IntKind.u64.wrap x.ver, 4⟩, ⟨IntKind.u64.wrap (x.list.length : Int), 1⟩]
def EG (b : List Int) (x : Resp) (y : Numb) (ns : List Numb) : Heap := [(0, .box [.d (.sl .u8 b)]), (1, .box [i64 x.err, i64 x.id, i64 x.n, i64 x.ver, .d (.sl .change x.list)]), (2, .box [u64 y.n, i64 y.wide]), (3, .row 90 .numb ns)]
def G2 (l : Nat) (b : List Int) (x : Resp) (ns : List Numb) (i : Int) (y : Numb) : AS := mkS 72 [(0, .clo (.yield l) [] []), (1, .ptr 1 0), (4, .ptr 2 0), (30, .own 3 .numb), (31, i64 ns.length), (32, i64 i)] (EG b x y ns) 4
def G4 (l : Nat) (b : List Int) (x : Resp) (i : Int) : AS := mkS 72 [(0, .clo (.yield l) [] []), (42, .d (.sl .change x.list)), (43, i64 x.list.length), (44, i64 i)] [(0, .box [.d (.sl .u8 b)]), (1, .box [i64 x.err, i64 x.id, i64 x.n, i64 x.ver, .d (.sl .change x.list)])] 2
def R14 (b : List Int) (x : Resp) (ns : List Numb) (y : Numb) : AS := mkS 19 [(4, .ptr 0 0), (10, .clo (.func 104) [] [.ptr 1 0]), (11, .agg [u64 y.n, i64 y.wide])] (EG b x y ns) 36
def B14 (b : List Int) (x : Resp) (ns : List Numb) (y : Numb) : AS := mkS 19 [(4, .ptr 0 0), (5, .ptr 36 0)] [(0, .box [.d (.sl .u8 b)]), (1, .box [i64 x.err, i64 x.id, i64 x.n, i64 x.ver, .d (.sl .change x.list)]), (2, .box [u64 y.n, i64 y.wide]), (3, .row 90 .numb ns), (36, .box [u64 y.n, i64 y.wide])] 37
def G5 (l : Nat) (b : List Int) (x : Resp) (i : Int) (ns : List Numb) (j : Int) : AS := mkS 72 [(0, .clo (.yield l) [] []), (42, .d (.sl .change x.list)), (43, i64 x.list.length), (44, i64 i), (60, .own 2 .numb), (61, i64 ns.length), (62, i64 j)] [(0, .box [.d (.sl .u8 b)]), (1, .box [i64 x.err, i64 x.id, i64 x.n, i64 x.ver, .d (.sl .change x.list)]), (2, .row 90 .numb ns)] 3
def G6 (l : Nat) (b : List Int) (x : Resp) (i : Int) (ns : List Numb) (j : Int) (y : Numb) : AS := mkS 72 [(0, .clo (.yield l) [] []), (8, .ptr 2 0), (42, .d (.sl .change x.list)), (43, i64 x.list.length), (44, i64 i), (60, .own 3 .numb), (61, i64 ns.length), (62, i64 j)] (EG b x y ns) 4
def G3 (l : Nat) (b : List Int) (x : Resp) (ns : List Numb) (i : Int) (y : Numb) : AS := mkS 72 [(0, .clo (.yield l) [] []), (1, .ptr 1 0), (4, .ptr 2 0), (30, .own 3 .numb), (31, i64 ns.length), (32, i64 i), (36, .clo (.yield l) [] []), (37, .agg [u64 y.n, i64 y.wide]), (38, boolA true)] (EG b x y ns) 36
def G7 (l : Nat) (b : List Int) (x : Resp) (i : Int) (ns : List Numb) (j : Int) (y : Numb) : AS := mkS 72 [(0, .clo (.yield l) [] []), (8, .ptr 2 0), (42, .d (.sl .change x.list)), (43, i64 x.list.length), (44, i64 i), (60, .own 3 .numb), (61, i64 ns.length), (62, i64 j), (66, .clo (.yield l) [] []), (67, .agg [u64 y.n, i64 y.wide]), (68, boolA true)] (EG b x y ns) 36


theorem t104 (l : Nat) (b : List Int) (x : Resp) : @Eq (Out Unit) (aexec Try.prog codes sigs Try.f104 (fun _ _ => none : Fin Unit) 2 noCut 300 false (bodyOf Try.f104) (F104 l b x))
    (Out.need
  ((True ∧ True ∧ True) ∧
    (True ∧ True ∧ True) ∧ (True ∧ True ∧ True) ∧ (True ∧ True ∧ True) ∧ (True ∧ True ∧ True) ∧ True)
  (Out.stop (hd Try.f104 (0 : Nat))
    (mkS (72 : Nat)
      [((0 : Nat), AV.clo (Fn.yield l) [] []), ((1 : Nat), AV.ptr (1 : Nat) (0 : Nat)),
        ((30 : Nat), AV.own (2 : Nat) Ty.numb),
        ((31 : Nat),
          AV.d
            (D.v
              (Value.int IntKind.i64
                (↑(List.length
                      [Numb.mk (IntKind.wrap IntKind.u64 (Resp.err x)) (2 : Int),
                        Numb.mk (IntKind.wrap IntKind.u64 (Resp.id x)) (4 : Int),
                        Numb.mk (IntKind.wrap IntKind.u64 (Resp.n x)) (8 : Int),
                        Numb.mk (IntKind.wrap IntKind.u64 (Resp.ver x)) (4 : Int),
                        Numb.mk (IntKind.wrap IntKind.u64 (↑(List.length (Resp.list x)) : Int)) (1 : Int)]) :
                  Int)))),
        ((32 : Nat), AV.d (D.v (Value.int IntKind.i64 (0 : Int))))]
      [((0 : Nat), ABlk.box [AV.d (D.sl Ty.u8 b)]),
        ((1 : Nat),
          ABlk.box
            [AV.d (D.v (Value.int IntKind.i64 (Resp.err x))), AV.d (D.v (Value.int IntKind.i64 (Resp.id x))),
              AV.d (D.v (Value.int IntKind.i64 (Resp.n x))), AV.d (D.v (Value.int IntKind.i64 (Resp.ver x))),
              AV.d (D.sl Ty.change (Resp.list x))]),
        ((2 : Nat),
          ABlk.row (90 : Nat) Ty.numb
            [Numb.mk (IntKind.wrap IntKind.u64 (Resp.err x)) (2 : Int),
              Numb.mk (IntKind.wrap IntKind.u64 (Resp.id x)) (4 : Int),
              Numb.mk (IntKind.wrap IntKind.u64 (Resp.n x)) (8 : Int),
              Numb.mk (IntKind.wrap IntKind.u64 (Resp.ver x)) (4 : Int),
              Numb.mk (IntKind.wrap IntKind.u64 (↑(List.length (Resp.list x)) : Int)) (1 : Int)])]
      (3 : Nat)))) := by kernel_rfl

theorem t104a (l : Nat) (b : List Int) (x : Resp) (ns : List Numb) (i : Int) : @Eq (Out Unit) (aexec Try.prog codes sigs Try.f104 (fun _ _ => none : Fin Unit) 2 ⟨[3], false⟩ 300 true (hd Try.f104 0) (G1 l b x ns i))
    (bif decide (i < (↑(List.length ns) : Int)) then
  Out.need ((0 : Int) ≤ i ∧ i < (↑(List.length ns) : Int))
    (Out.need (Int.toNat i < List.length ns)
      (Out.stop (rg Try.f104 (3 : Nat))
        (mkS (72 : Nat)
          [((0 : Nat), AV.clo (Fn.yield l) [] []), ((1 : Nat), AV.ptr (1 : Nat) (0 : Nat)),
            ((4 : Nat), AV.ptr (2 : Nat) (0 : Nat)), ((30 : Nat), AV.own (3 : Nat) Ty.numb),
            ((31 : Nat), AV.d (D.v (Value.int IntKind.i64 (↑(List.length ns) : Int)))),
            ((32 : Nat), AV.d (D.v (Value.int IntKind.i64 i)))]
          [((0 : Nat), ABlk.box [AV.d (D.sl Ty.u8 b)]),
            ((1 : Nat),
              ABlk.box
                [AV.d (D.v (Value.int IntKind.i64 (Resp.err x))), AV.d (D.v (Value.int IntKind.i64 (Resp.id x))),
                  AV.d (D.v (Value.int IntKind.i64 (Resp.n x))), AV.d (D.v (Value.int IntKind.i64 (Resp.ver x))),
                  AV.d (D.sl Ty.change (Resp.list x))]),
            ((2 : Nat),
              ABlk.box
                [AV.d (D.v (Value.int IntKind.u64 (Numb.n (List.getD ns (Int.toNat i) (Ty.dflt Ty.numb))))),
                  AV.d (D.v (Value.int IntKind.i64 (Numb.wide (List.getD ns (Int.toNat i) (Ty.dflt Ty.numb)))))]),
            ((3 : Nat), ABlk.row (90 : TypeId) Ty.numb ns)]
          (4 : Nat))))
  else
  Out.stop (hd Try.f104 (1 : Nat))
    (mkS (72 : Nat)
      [((0 : Nat), AV.clo (Fn.yield l) [] []), ((42 : Nat), AV.d (D.sl Ty.change (Resp.list x))),
        ((43 : Nat), AV.d (D.v (Value.int IntKind.i64 (↑(List.length (Resp.list x)) : Int)))),
        ((44 : Nat), AV.d (D.v (Value.int IntKind.i64 (0 : Int))))]
      [((0 : Nat), ABlk.box [AV.d (D.sl Ty.u8 b)]),
        ((1 : Nat),
          ABlk.box
            [AV.d (D.v (Value.int IntKind.i64 (Resp.err x))), AV.d (D.v (Value.int IntKind.i64 (Resp.id x))),
              AV.d (D.v (Value.int IntKind.i64 (Resp.n x))), AV.d (D.v (Value.int IntKind.i64 (Resp.ver x))),
              AV.d (D.sl Ty.change (Resp.list x))])]
      (2 : Nat))) := by kernel_rfl

theorem t104b (l : Nat) (b : List Int) (x : Resp) (ns : List Numb) (i : Int) (y : Numb) : @Eq (Out Unit) (aexec Try.prog codes sigs Try.f104 (fun _ _ => none : Fin Unit) 2 noCut 300 true (rg Try.f104 3) (G2 l b x ns i y))
    (Out.stop (inR Try.f104 (3 : Nat) (2 : Nat))
  (mkS (72 : Nat)
    [((0 : Nat), AV.clo (Fn.yield l) [] []), ((1 : Nat), AV.ptr (1 : Nat) (0 : Nat)),
      ((4 : Nat), AV.ptr (2 : Nat) (0 : Nat)), ((30 : Nat), AV.own (3 : Nat) Ty.numb),
      ((31 : Nat), AV.d (D.v (Value.int IntKind.i64 (↑(List.length ns) : Int)))),
      ((32 : Nat), AV.d (D.v (Value.int IntKind.i64 i))), ((36 : Nat), AV.clo (Fn.yield l) [] []),
      ((37 : Nat),
        AV.agg [AV.d (D.v (Value.int IntKind.u64 (Numb.n y))), AV.d (D.v (Value.int IntKind.i64 (Numb.wide y)))])]
    [((0 : Nat), ABlk.box [AV.d (D.sl Ty.u8 b)]),
      ((1 : Nat),
        ABlk.box
          [AV.d (D.v (Value.int IntKind.i64 (Resp.err x))), AV.d (D.v (Value.int IntKind.i64 (Resp.id x))),
            AV.d (D.v (Value.int IntKind.i64 (Resp.n x))), AV.d (D.v (Value.int IntKind.i64 (Resp.ver x))),
            AV.d (D.sl Ty.change (Resp.list x))]),
      ((2 : Nat),
        ABlk.box [AV.d (D.v (Value.int IntKind.u64 (Numb.n y))), AV.d (D.v (Value.int IntKind.i64 (Numb.wide y)))]),
      ((3 : Nat), ABlk.row (90 : TypeId) Ty.numb ns)]
    (4 : Nat))) := by kernel_rfl

theorem t104c (l : Nat) (b : List Int) (x : Resp) (i : Int) : @Eq (Out Unit) (aexec Try.prog codes sigs Try.f104 (fun _ _ => none : Fin Unit) 2 ⟨[], true⟩ 300 true (hd Try.f104 1) (G4 l b x i))
    (bif decide (i < (↑(List.length (Resp.list x)) : Int)) then
  Out.need (((0 : Int) ≤ i ∧ i < (↑(List.length (Resp.list x)) : Int)) ∧ True)
    (Out.need ((True ∧ True ∧ True) ∧ (True ∧ True ∧ True) ∧ (True ∧ True ∧ True) ∧ True)
      (Out.stop (hd Try.f104 (2 : Nat))
        (mkS (72 : Nat)
          [((0 : Nat), AV.clo (Fn.yield l) [] []), ((42 : Nat), AV.d (D.sl Ty.change (Resp.list x))),
            ((43 : Nat), AV.d (D.v (Value.int IntKind.i64 (↑(List.length (Resp.list x)) : Int)))),
            ((44 : Nat), AV.d (D.v (Value.int IntKind.i64 i))), ((60 : Nat), AV.own (2 : Nat) Ty.numb),
            ((61 : Nat),
              AV.d
                (D.v
                  (Value.int IntKind.i64
                    (↑(List.length
                          [Numb.mk
                              (IntKind.wrap IntKind.u64
                                (Change.ver (List.getD (Resp.list x) (Int.toNat i) (Ty.dflt Ty.change))))
                              (4 : Int),
                            Numb.mk
                              (IntKind.wrap IntKind.u64
                                (Change.by' (List.getD (Resp.list x) (Int.toNat i) (Ty.dflt Ty.change))))
                              (1 : Int),
                            Numb.mk
                              (IntKind.wrap IntKind.u64
                                (Change.n (List.getD (Resp.list x) (Int.toNat i) (Ty.dflt Ty.change))))
                              (8 : Int)]) :
                      Int)))),
            ((62 : Nat), AV.d (D.v (Value.int IntKind.i64 (0 : Int))))]
          [((0 : Nat), ABlk.box [AV.d (D.sl Ty.u8 b)]),
            ((1 : Nat),
              ABlk.box
                [AV.d (D.v (Value.int IntKind.i64 (Resp.err x))), AV.d (D.v (Value.int IntKind.i64 (Resp.id x))),
                  AV.d (D.v (Value.int IntKind.i64 (Resp.n x))), AV.d (D.v (Value.int IntKind.i64 (Resp.ver x))),
                  AV.d (D.sl Ty.change (Resp.list x))]),
            ((2 : Nat),
              ABlk.row (90 : Nat) Ty.numb
                [Numb.mk
                    (IntKind.wrap IntKind.u64 (Change.ver (List.getD (Resp.list x) (Int.toNat i) (Ty.dflt Ty.change))))
                    (4 : Int),
                  Numb.mk
                    (IntKind.wrap IntKind.u64 (Change.by' (List.getD (Resp.list x) (Int.toNat i) (Ty.dflt Ty.change))))
                    (1 : Int),
                  Numb.mk
                    (IntKind.wrap IntKind.u64 (Change.n (List.getD (Resp.list x) (Int.toNat i) (Ty.dflt Ty.change))))
                    (8 : Int)])]
          (3 : Nat))))
  else
  Out.stop (hd Try.f104 (3 : Nat))
    (mkS (72 : Nat) []
      [((0 : Nat), ABlk.box [AV.d (D.sl Ty.u8 b)]),
        ((1 : Nat),
          ABlk.box
            [AV.d (D.v (Value.int IntKind.i64 (Resp.err x))), AV.d (D.v (Value.int IntKind.i64 (Resp.id x))),
              AV.d (D.v (Value.int IntKind.i64 (Resp.n x))), AV.d (D.v (Value.int IntKind.i64 (Resp.ver x))),
              AV.d (D.sl Ty.change (Resp.list x))])]
      (2 : Nat))) := by kernel_rfl

theorem t14r (b : List Int) (x : Resp) (ns : List Numb) (y : Numb) : @Eq (Out Unit) (aexec Try.prog codes sigs Try.f14 (fun _ _ => none : Fin Unit) 36 ⟨[], true⟩ 300 true (rd Try.f14 0) (R14 b x ns y))
    (Out.stop (rb Try.f14 (0 : Nat))
  (mkS (19 : Nat) [((4 : Nat), AV.ptr (0 : Nat) (0 : Nat)), ((5 : Nat), AV.ptr (36 : Nat) (0 : Nat))]
    [((0 : Nat), ABlk.box [AV.d (D.sl Ty.u8 b)]),
      ((1 : Nat),
        ABlk.box
          [AV.d (D.v (Value.int IntKind.i64 (Resp.err x))), AV.d (D.v (Value.int IntKind.i64 (Resp.id x))),
            AV.d (D.v (Value.int IntKind.i64 (Resp.n x))), AV.d (D.v (Value.int IntKind.i64 (Resp.ver x))),
            AV.d (D.sl Ty.change (Resp.list x))]),
      ((2 : Nat),
        ABlk.box [AV.d (D.v (Value.int IntKind.u64 (Numb.n y))), AV.d (D.v (Value.int IntKind.i64 (Numb.wide y)))]),
      ((3 : Nat), ABlk.row (90 : TypeId) Ty.numb ns),
      ((36 : Nat),
        ABlk.box [AV.d (D.v (Value.int IntKind.u64 (Numb.n y))), AV.d (D.v (Value.int IntKind.i64 (Numb.wide y)))])]
    (37 : Nat))) := by kernel_rfl

theorem t14c (b : List Int) (x : Resp) (ns : List Numb) (y : Numb) : @Eq (Out Unit) (aexec Try.prog codes sigs Try.f14 (fun _ _ => none : Fin Unit) 36 ⟨[], true⟩ 300 true (List.tail (rb Try.f14 0)) (B14 b x ns y))
    (Out.need ((True ∧ True) ∧ (True ∧ True) ∧ (True ∧ True) ∧ True)
  (Out.callP (60 : Nat) [Sigma.mk (Ty.sl Ty.u8) b, Sigma.mk Ty.u64 (Numb.n y), Sigma.mk Ty.int (Numb.wide y)]
    [Ty.sl Ty.u8] fun (x_1 : List Int) =>
    Out.stop (hd Try.f14 (0 : Nat))
      (mkS (19 : Nat) []
        [((0 : Nat), ABlk.box [AV.d (D.sl Ty.u8 x_1)]),
          ((1 : Nat),
            ABlk.box
              [AV.d (D.v (Value.int IntKind.i64 (Resp.err x))), AV.d (D.v (Value.int IntKind.i64 (Resp.id x))),
                AV.d (D.v (Value.int IntKind.i64 (Resp.n x))), AV.d (D.v (Value.int IntKind.i64 (Resp.ver x))),
                AV.d (D.sl Ty.change (Resp.list x))]),
          ((2 : Nat),
            ABlk.box [AV.d (D.v (Value.int IntKind.u64 (Numb.n y))), AV.d (D.v (Value.int IntKind.i64 (Numb.wide y)))]),
          ((3 : Nat), ABlk.row (90 : TypeId) Ty.numb ns)]
        (36 : Nat)))) := by kernel_rfl

theorem t104e (l : Nat) (b : List Int) (x : Resp) (i : Int) (ns : List Numb) (j : Int) : @Eq (Out Unit) (aexec Try.prog codes sigs Try.f104 (fun _ _ => none : Fin Unit) 2 ⟨[11], true⟩ 300 true (hd Try.f104 2) (G5 l b x i ns j))
    (bif decide (j < (↑(List.length ns) : Int)) then
  Out.need ((0 : Int) ≤ j ∧ j < (↑(List.length ns) : Int))
    (Out.need (Int.toNat j < List.length ns)
      (Out.stop (rg Try.f104 (11 : Nat))
        (mkS (72 : Nat)
          [((0 : Nat), AV.clo (Fn.yield l) [] []), ((8 : Nat), AV.ptr (2 : Nat) (0 : Nat)),
            ((42 : Nat), AV.d (D.sl Ty.change (Resp.list x))),
            ((43 : Nat), AV.d (D.v (Value.int IntKind.i64 (↑(List.length (Resp.list x)) : Int)))),
            ((44 : Nat), AV.d (D.v (Value.int IntKind.i64 i))), ((60 : Nat), AV.own (3 : Nat) Ty.numb),
            ((61 : Nat), AV.d (D.v (Value.int IntKind.i64 (↑(List.length ns) : Int)))),
            ((62 : Nat), AV.d (D.v (Value.int IntKind.i64 j)))]
          [((0 : Nat), ABlk.box [AV.d (D.sl Ty.u8 b)]),
            ((1 : Nat),
              ABlk.box
                [AV.d (D.v (Value.int IntKind.i64 (Resp.err x))), AV.d (D.v (Value.int IntKind.i64 (Resp.id x))),
                  AV.d (D.v (Value.int IntKind.i64 (Resp.n x))), AV.d (D.v (Value.int IntKind.i64 (Resp.ver x))),
                  AV.d (D.sl Ty.change (Resp.list x))]),
            ((2 : Nat),
              ABlk.box
                [AV.d (D.v (Value.int IntKind.u64 (Numb.n (List.getD ns (Int.toNat j) (Ty.dflt Ty.numb))))),
                  AV.d (D.v (Value.int IntKind.i64 (Numb.wide (List.getD ns (Int.toNat j) (Ty.dflt Ty.numb)))))]),
            ((3 : Nat), ABlk.row (90 : TypeId) Ty.numb ns)]
          (4 : Nat))))
  else
  Out.stop (hd Try.f104 (1 : Nat))
    (mkS (72 : Nat)
      [((0 : Nat), AV.clo (Fn.yield l) [] []), ((42 : Nat), AV.d (D.sl Ty.change (Resp.list x))),
        ((43 : Nat), AV.d (D.v (Value.int IntKind.i64 (↑(List.length (Resp.list x)) : Int)))),
        ((44 : Nat), AV.d (D.v (Value.int IntKind.i64 (IntKind.wrap IntKind.i64 (i + (1 : Int))))))]
      [((0 : Nat), ABlk.box [AV.d (D.sl Ty.u8 b)]),
        ((1 : Nat),
          ABlk.box
            [AV.d (D.v (Value.int IntKind.i64 (Resp.err x))), AV.d (D.v (Value.int IntKind.i64 (Resp.id x))),
              AV.d (D.v (Value.int IntKind.i64 (Resp.n x))), AV.d (D.v (Value.int IntKind.i64 (Resp.ver x))),
              AV.d (D.sl Ty.change (Resp.list x))])]
      (2 : Nat))) := by kernel_rfl

theorem t104f (l : Nat) (b : List Int) (x : Resp) (i : Int) (ns : List Numb) (j : Int) (y : Numb) : @Eq (Out Unit) (aexec Try.prog codes sigs Try.f104 (fun _ _ => none : Fin Unit) 2 ⟨[], true⟩ 300 true (rg Try.f104 11) (G6 l b x i ns j y))
    (Out.stop (inR Try.f104 (11 : Nat) (2 : Nat))
  (mkS (72 : Nat)
    [((0 : Nat), AV.clo (Fn.yield l) [] []), ((8 : Nat), AV.ptr (2 : Nat) (0 : Nat)),
      ((42 : Nat), AV.d (D.sl Ty.change (Resp.list x))),
      ((43 : Nat), AV.d (D.v (Value.int IntKind.i64 (↑(List.length (Resp.list x)) : Int)))),
      ((44 : Nat), AV.d (D.v (Value.int IntKind.i64 i))), ((60 : Nat), AV.own (3 : Nat) Ty.numb),
      ((61 : Nat), AV.d (D.v (Value.int IntKind.i64 (↑(List.length ns) : Int)))),
      ((62 : Nat), AV.d (D.v (Value.int IntKind.i64 j))), ((66 : Nat), AV.clo (Fn.yield l) [] []),
      ((67 : Nat),
        AV.agg [AV.d (D.v (Value.int IntKind.u64 (Numb.n y))), AV.d (D.v (Value.int IntKind.i64 (Numb.wide y)))])]
    [((0 : Nat), ABlk.box [AV.d (D.sl Ty.u8 b)]),
      ((1 : Nat),
        ABlk.box
          [AV.d (D.v (Value.int IntKind.i64 (Resp.err x))), AV.d (D.v (Value.int IntKind.i64 (Resp.id x))),
            AV.d (D.v (Value.int IntKind.i64 (Resp.n x))), AV.d (D.v (Value.int IntKind.i64 (Resp.ver x))),
            AV.d (D.sl Ty.change (Resp.list x))]),
      ((2 : Nat),
        ABlk.box [AV.d (D.v (Value.int IntKind.u64 (Numb.n y))), AV.d (D.v (Value.int IntKind.i64 (Numb.wide y)))]),
      ((3 : Nat), ABlk.row (90 : TypeId) Ty.numb ns)]
    (4 : Nat))) := by kernel_rfl

theorem t104g (l : Nat) (b : List Int) (x : Resp) (ns : List Numb) (i : Int) (y : Numb) : @Eq (Out Unit) (aexec Try.prog codes sigs Try.f104 (fun _ _ => none : Fin Unit) 2 noCut 300 true (inR Try.f104 3 3) (G3 l b x ns i y))
    (Out.stop (hd Try.f104 (0 : Nat))
  (mkS (72 : Nat)
    [((0 : Nat), AV.clo (Fn.yield l) [] []), ((1 : Nat), AV.ptr (1 : Nat) (0 : Nat)),
      ((30 : Nat), AV.own (2 : Nat) Ty.numb),
      ((31 : Nat), AV.d (D.v (Value.int IntKind.i64 (↑(List.length ns) : Int)))),
      ((32 : Nat), AV.d (D.v (Value.int IntKind.i64 (IntKind.wrap IntKind.i64 (i + (1 : Int))))))]
    [((0 : Nat), ABlk.box [AV.d (D.sl Ty.u8 b)]),
      ((1 : Nat),
        ABlk.box
          [AV.d (D.v (Value.int IntKind.i64 (Resp.err x))), AV.d (D.v (Value.int IntKind.i64 (Resp.id x))),
            AV.d (D.v (Value.int IntKind.i64 (Resp.n x))), AV.d (D.v (Value.int IntKind.i64 (Resp.ver x))),
            AV.d (D.sl Ty.change (Resp.list x))]),
      ((2 : Nat), ABlk.row (90 : TypeId) Ty.numb ns)]
    (3 : Nat))) := by kernel_rfl

theorem t104h (l : Nat) (b : List Int) (x : Resp) (i : Int) (ns : List Numb) (j : Int) (y : Numb) : @Eq (Out Unit) (aexec Try.prog codes sigs Try.f104 (fun _ _ => none : Fin Unit) 2 noCut 300 true (inR Try.f104 11 3) (G7 l b x i ns j y))
    (Out.stop (hd Try.f104 (2 : Nat))
  (mkS (72 : Nat)
    [((0 : Nat), AV.clo (Fn.yield l) [] []), ((42 : Nat), AV.d (D.sl Ty.change (Resp.list x))),
      ((43 : Nat), AV.d (D.v (Value.int IntKind.i64 (↑(List.length (Resp.list x)) : Int)))),
      ((44 : Nat), AV.d (D.v (Value.int IntKind.i64 i))), ((60 : Nat), AV.own (2 : Nat) Ty.numb),
      ((61 : Nat), AV.d (D.v (Value.int IntKind.i64 (↑(List.length ns) : Int)))),
      ((62 : Nat), AV.d (D.v (Value.int IntKind.i64 (IntKind.wrap IntKind.i64 (j + (1 : Int))))))]
    [((0 : Nat), ABlk.box [AV.d (D.sl Ty.u8 b)]),
      ((1 : Nat),
        ABlk.box
          [AV.d (D.v (Value.int IntKind.i64 (Resp.err x))), AV.d (D.v (Value.int IntKind.i64 (Resp.id x))),
            AV.d (D.v (Value.int IntKind.i64 (Resp.n x))), AV.d (D.v (Value.int IntKind.i64 (Resp.ver x))),
            AV.d (D.sl Ty.change (Resp.list x))]),
      ((2 : Nat), ABlk.row (90 : TypeId) Ty.numb ns)]
    (3 : Nat))) := by kernel_rfl

end Go.Proofs.Rp

/- An answer's bytes: the plain list; the reference's. (Own work.) -/
namespace Go.Proofs.Rp
open Go Go.VL

/-! ### the bytes of numbers -/
def NOK (y : Numb) : Prop := 0 ≤ y.n ∧ ∃ w : Nat, y.wide = (w : Int) ∧ 1 ≤ w ∧ w ≤ 8
def encN (ns : List Numb) : List Int := ns.flatMap fun y => be y.n y.wide.toNat
theorem encN_take {ns : List Numb} {i : Nat} (h : i < ns.length) : encN (ns.take (i + 1)) = encN (ns.take i) ++ be ns[i].n ns[i].wide.toNat := by
  rw [List.take_succ_eq_append_getElem h, encN, List.flatMap_append]; simp [encN]
theorem encN_len : ∀ {ns : List Numb}, (∀ y ∈ ns, NOK y) → (encN ns).length ≤ 8 * ns.length
  | [], _ => Nat.le_refl _
  | y :: ns, h => by
    have ih := encN_len (ns := ns) (fun z hz => h z (.tail _ hz))
    obtain ⟨_, w, hw, _, h8⟩ := h y (.head _)
    have e : encN (y :: ns) = be y.n y.wide.toNat ++ encN ns := by simp [encN]
    rw [e, List.length_append, be_len, hw, List.length_cons, Int.toNat_natCast]; omega
theorem NOK.take {ns : List Numb} (h : ∀ y ∈ ns, NOK y) (i : Nat) : ∀ y ∈ ns.take i, NOK y := fun y hy => h y (List.mem_of_mem_take hy)
def numsC (c : Change) : List Numb := [⟨IntKind.u64.wrap c.ver, 4⟩, ⟨IntKind.u64.wrap c.by', 1⟩, ⟨IntKind.u64.wrap c.n, 8⟩]
theorem u64_lo (n : Int) : 0 ≤ IntKind.u64.wrap n := by rw [wrap_u64]; omega
theorem nums1_ok (x : Resp) : ∀ y ∈ nums1 x, NOK y := by
  intro y hy
  simp only [nums1, List.mem_cons, List.not_mem_nil, or_false] at hy
  rcases hy with rfl | rfl | rfl | rfl | rfl
  · exact ⟨u64_lo _, 2, rfl, by decide, by decide⟩
  · exact ⟨u64_lo _, 4, rfl, by decide, by decide⟩
  · exact ⟨u64_lo _, 8, rfl, by decide, by decide⟩
  · exact ⟨u64_lo _, 4, rfl, by decide, by decide⟩
  · exact ⟨u64_lo _, 1, rfl, by decide, by decide⟩
theorem numsC_ok (c : Change) : ∀ y ∈ numsC c, NOK y := by
  intro y hy
  simp only [numsC, List.mem_cons, List.not_mem_nil, or_false] at hy
  rcases hy with rfl | rfl | rfl
  · exact ⟨u64_lo _, 4, rfl, by decide, by decide⟩
  · exact ⟨u64_lo _, 1, rfl, by decide, by decide⟩
  · exact ⟨u64_lo _, 8, rfl, by decide, by decide⟩
def chB (c : Change) : List Int := encN (numsC c)
def headB (x : Resp) : List Int := encN (nums1 x)
theorem chB_eq (c : Change) : chB c = be (IntKind.u64.wrap c.ver) 4 ++ be (IntKind.u64.wrap c.by') 1 ++ be (IntKind.u64.wrap c.n) 8 := by
  simp [chB, encN, numsC]
theorem headB_eq (x : Resp) : headB x = be (IntKind.u64.wrap x.err) 2 ++ be (IntKind.u64.wrap x.id) 4 ++ be (IntKind.u64.wrap x.n) 8 ++ be (IntKind.u64.wrap x.ver) 4 ++ be (IntKind.u64.wrap (x.list.length : Int)) 1 := by
  simp [headB, encN, nums1]
theorem chB_len (c : Change) : (chB c).length = 13 := by rw [chB_eq]; simp [be_len]
theorem headB_len (x : Resp) : (headB x).length = 19 := by rw [headB_eq]; simp [be_len]
def listB (l : List Change) : List Int := l.flatMap chB
theorem listB_len : ∀ l : List Change, (listB l).length = 13 * l.length
  | [] => rfl
  | c :: l => by
    have e : listB (c :: l) = chB c ++ listB l := by simp [listB]
    rw [e, List.length_append, chB_len, listB_len l, List.length_cons]; omega
theorem listB_take {l : List Change} {i : Nat} (h : i < l.length) : listB (l.take (i + 1)) = listB (l.take i) ++ chB l[i] := by
  rw [List.take_succ_eq_append_getElem h, listB, List.flatMap_append]; simp [listB]
def encB (x : Resp) : List Int := headB x ++ listB x.list
def encS (x : Resp) : List Int × Int := bif mayB x then (encB x, 0) else ([], 4)
theorem mayB_len {x : Resp} (h : mayB x = true) : x.list.length ≤ 32 := by
  simp only [mayB, Bool.and_eq_true, decide_eq_true_eq] at h
  exact h.2.2.2.1

/-! ### the reference -/
theorem loop15 {x : Resp} (hl : x.list.length ≤ 32) {A : List Item → AS → Prop} (hA : Closed Try.prog codes sigs Try.f15 (pureFin [.sl .u8, .int]) (fun y => y = (show List Int × Int from (encB x, 0))) 0 A)
    (i : Nat) (hi : i ≤ x.list.length) : A (hd Try.f15 0) (L15 x (headB x ++ listB (x.list.take i)) i) := by
  have hlen : (headB x ++ listB (x.list.take i)).length ≤ 19 + 13 * 32 := by
    rw [List.length_append, headB_len, listB_len, List.length_take]; omega
  refine hA.go (t15a x _ i) (sat_bif (fun h1 => ?_) (fun h1 => ?_))
  · have h1 := of_decide_eq_true h1
    have hil : i < x.list.length := by omega
    rw [getD_int hil]
    have I : ((0 : Int) ≤ (i : Int) ∧ (i : Int) < (x.list.length : Int)) ∧ True := ⟨⟨by omega, by omega⟩, trivial⟩
    have N : (True ∧ True) ∧ (True ∧ True) ∧ (True ∧ True) ∧ True := ⟨⟨trivial, trivial⟩, ⟨trivial, trivial⟩, ⟨trivial, trivial⟩, trivial⟩
    refine ⟨I, N, _, c62 (w := 4) (u64_lo _) (by decide) (by decide) (by unfold Sb; omega), I, N, _, c62 (w := 1) (u64_lo _) (by decide) (by decide) (by unfold Sb; rw [List.length_append, be_len]; omega), I, N, _, c62 (w := 8) (u64_lo _) (by decide) (by decide) (by unfold Sb; rw [List.length_append, List.length_append, be_len, be_len]; omega), ?_⟩
    rw [wrap_succ (by omega)]
    have := loop15 hl hA (i + 1) (by omega)
    rw [listB_take hil, chB_eq, ← List.append_assoc, ← List.append_assoc, ← List.append_assoc] at this
    exact this
  · have h1 := of_decide_eq_false h1
    refine ⟨⟨⟨trivial, trivial⟩, trivial, trivial⟩, ?_⟩
    show (headB x ++ listB (x.list.take i), (0 : Int)) = _
    rw [List.take_of_length_le (by omega)]; rfl
termination_by x.list.length - i

theorem c15 (x : Resp) : Pure Try.prog 15 [⟨.resp, x⟩] [.sl .u8, .int] (encS x) :=
  Pure.of_closed (C := codes) (S := sigs) mixed Try.func15 (by kernel_rfl) (Nat.le_of_ble_eq_true (by kernel_rfl)) fun A hA => hA.go (t15 x) (by
    refine ⟨⟨⟨trivial, trivial, trivial, trivial, trivial, trivial⟩, trivial⟩, _, c61 x, sat_bif (fun h => ⟨⟨⟨trivial, trivial⟩, trivial, trivial⟩, ?_⟩) (fun h => ?_)⟩
    · show (([] : List Int), (4 : Int)) = _
      have h : mayB x = false := nt h
      rw [encS, h]; rfl
    · have h : mayB x = true := nf h
      have e : encS x = (encB x, 0) := by rw [encS, h]; rfl
      rw [e] at hA ⊢
      have N : (True ∧ True) ∧ (True ∧ True) ∧ (True ∧ True) ∧ True := ⟨⟨trivial, trivial⟩, ⟨trivial, trivial⟩, ⟨trivial, trivial⟩, trivial⟩
      refine ⟨N, _, c62 (w := 2) (u64_lo _) (by decide) (by decide) (by unfold Sb; simp), N, _, c62 (w := 4) (u64_lo _) (by decide) (by decide) (by unfold Sb; simp [be_len]), N, _, c62 (w := 8) (u64_lo _) (by decide) (by decide) (by unfold Sb; simp [be_len]), N, _, c62 (w := 4) (u64_lo _) (by decide) (by decide) (by unfold Sb; simp [be_len]), N, _, c62 (w := 1) (u64_lo _) (by decide) (by decide) (by unfold Sb; simp [be_len]), ?_⟩
      have := loop15 (mayB_len h) hA 0 (by omega)
      rw [List.take_zero] at this
      have e0 : headB x ++ listB [] = headB x := by simp [listB]
      rw [e0, headB_eq] at this
      exact this)
end Go.Proofs.Rp

/- Bytes held against bytes. (Own work.) -/
namespace Go.Proofs.Rp
open Go Go.VL

theorem strOf_data : ∀ (xs : List Int) (r : ByteArray), (xs.foldl (fun r n => r.push (UInt8.ofNat n.toNat)) r).data.toList = r.data.toList ++ xs.map fun n => UInt8.ofNat n.toNat
  | [], r => by simp
  | x :: xs, r => by
    rw [List.foldl_cons, strOf_data xs]
    have : (r.push (UInt8.ofNat x.toNat)).data = r.data.push (UInt8.ofNat x.toNat) := rfl
    rw [this, Array.toList_push]
    simp
theorem strOf_list (xs : List Int) : (strOf xs).toList = xs.map fun n => UInt8.ofNat n.toNat := by
  rw [Go.ByteArray.toList_eq, strOf, strOf_data]; rfl
theorem byte_inj {a b : Int} (ha : 0 ≤ a ∧ a < 256) (hb : 0 ≤ b ∧ b < 256) (h : UInt8.ofNat a.toNat = UInt8.ofNat b.toNat) : a = b := by
  have := congrArg UInt8.toNat h
  rw [UInt8.toNat_ofNat', UInt8.toNat_ofNat'] at this
  omega
theorem map_inj : ∀ {a b : List Int}, BV a → BV b → (a.map fun n => UInt8.ofNat n.toNat) = (b.map fun n => UInt8.ofNat n.toNat) → a = b
  | [], [], _, _, _ => rfl
  | [], _ :: _, _, _, h => by simp at h
  | _ :: _, [], _, _, h => by simp at h
  | x :: a, y :: b, ha, hb, h => by
    simp only [List.map_cons, List.cons.injEq] at h
    rw [byte_inj (ha x (.head _)) (hb y (.head _)) h.1, map_inj (fun c hc => ha c (.tail _ hc)) (fun c hc => hb c (.tail _ hc)) h.2]
theorem c16 {a b : List Int} (ha : BV a) (hb : BV b) : Pure Try.prog 16 [⟨.sl .u8, a⟩, ⟨.sl .u8, b⟩] [.bool] (decide (a = b)) :=
  ofT Try.func16 (t16 a b) (by kernel_rfl) (by kernel_rfl) fun _ => by
    refine ⟨⟨trivial, trivial⟩, ?_⟩
    show ((strOf a).toList == (strOf b).toList) = decide (a = b)
    rw [strOf_list, strOf_list]
    by_cases h : a = b
    · subst h; simp
    · rw [decide_eq_false h]
      have : ¬ (a.map fun n => UInt8.ofNat n.toNat) = (b.map fun n => UInt8.ofNat n.toNat) := fun e => h (map_inj ha hb e)
      simpa using this
end Go.Proofs.Rp

/- An answer's bytes, through a range over a function. (Own work.) -/
namespace Go.Proofs.Rp
open Go Go.VL

/-! ### the call of the loop's body -/
def yOK (todo : List Item) (dst : Tmp) (yt a : Tmp) : Bool := match opOf todo with
  | some o => o.guard.isNone && (o.dst == some dst) && (match callIn o with
    | some (.tmp y, args) => (match args.toList with
      | [.tmp z] => y == yt && z == a
      | _ => false)
    | _ => false)
  | none => false
theorem of_yOK {todo : List Item} {dst yt a : Tmp} (h : yOK todo dst yt a = true) : ∃ o args, opOf todo = some o ∧ o.guard = none ∧ o.dst = some dst ∧ callIn o = some (.tmp yt, args) ∧ args.toList = [.tmp a] := by
  unfold yOK at h
  split at h
  · rename_i o ho
    simp only [Bool.and_eq_true] at h
    obtain ⟨⟨hg, hd⟩, hc⟩ := h
    split at hc
    · rename_i y args hcall
      split at hc
      · rename_i z hz
        simp only [Bool.and_eq_true, beq_iff_eq] at hc
        obtain ⟨rfl, rfl⟩ := hc
        exact ⟨o, args, ho, by simpa using hg, by simpa using hd, hcall, hz⟩
      · cases hc
    · cases hc
  · cases h

def tm14 : List AV := (mkS 19 [(4, .ptr 0 0), (10, .clo (.func 104) [] [.ptr 1 0]), (11, .d (.v (.tuple #[])))] [] 2).tmps

/-- One round. -/
theorem yld {l : Nat} {b0 b : List Int} {x : Resp} {ns : List Numb} {n : Int} {w : Nat} (hn : 0 ≤ n) (hw1 : 1 ≤ w) (hw : w ≤ 8) (hb : Sb (b.length + 8)) {done : Heap → Nat → Prop} {doneJ : Code → Heap → Nat → Prop} {A : List Item → AS → Prop}
    (hG : ClG Try.prog codes sigs Try.f104 Try.f14 2 l (EH b0 x) (rfP (rf Try.f14 0)) (rfA (rf Try.f14 0)) (rfB (rf Try.f14 0)) tm14 done doneJ A) (todo : List Item) (tm : List AV) (dst yt a : Tmp) (hin : inOk todo = true) (hy : yOK todo dst yt a = true) (hz : (inOps todo).size = 4)
    (hev : tm.getD yt .dead = .clo (.yield l) [] []) (hea : tm.getD a .dead = .agg [u64 n, i64 (w : Int)]) (h : A (inNext todo) ⟨tm.set dst (boolA true), EG (b ++ be n w) x ⟨n, w⟩ ns, 36⟩) : A todo ⟨tm, EG b x ⟨n, w⟩ ns, 4⟩ := by
  obtain ⟨o, args, ho, hg, hds, hc, ha⟩ := of_yOK hy
  have hsz : args.size = (rfP (rf Try.f14 0)).size := by
    have e1 : args.size = 1 := by rw [← Array.length_toList, ha]; rfl
    have e2 : (rfP (rf Try.f14 0)).size = 1 := by kernel_rfl
    rw [e1, e2]
  refine hG.at todo ⟨tm, EG b x ⟨n, w⟩ ns, 4⟩ o (.tmp yt) args hin ho hg hc hev hsz ?_ (show 2 ≤ 4 by decide) (fun Ar hAr => ?_)
  · intro i T t xs hi hx
    match i, hi with
    | 0, _ => cases hx
    | 1, _ => cases hx
  · rw [hz] at hAr ⊢
    rw [ha]
    have e1 : (⟨putTs tm14 (rfP (rf Try.f14 0)).toList ([Operand.tmp a].map (⟨tm, EG b x ⟨n, w⟩ ns, 4⟩ : AS).ev), EG b x ⟨n, w⟩ ns, 4 + 8 * 4⟩ : AS) = R14 b x ns ⟨n, w⟩ := by
      have e2 : [Operand.tmp a].map (⟨tm, EG b x ⟨n, w⟩ ns, 4⟩ : AS).ev = [.agg [u64 n, i64 (w : Int)]] := by rw [← hea]; rfl
      rw [e2]
      have e3 : putTs tm14 (rfP (rf Try.f14 0)).toList [.agg [u64 n, i64 (w : Int)]] = (R14 b x ns ⟨n, w⟩).tmps := by kernel_rfl
      rw [e3]
      rfl
    rw [e1]
    show Ar (rd Try.f14 0) _
    refine hAr.cl.go (t14r b x ns ⟨n, w⟩) ?_
    show Ar (.beginRound :: [.code (rfB (rf Try.f14 0))]) (B14 b x ns ⟨n, w⟩)
    refine hAr.begin' _ _ (fun A3 hA3 => ?_)
    refine hA3.cl.go (t14c b x ns ⟨n, w⟩) ⟨⟨⟨trivial, trivial⟩, ⟨trivial, trivial⟩, ⟨trivial, trivial⟩, trivial⟩, _, c60 hn hw1 hw hb, ?_⟩
    have e0 : hd Try.f14 0 = [] := by kernel_rfl
    rw [e0]
    refine hA3.fine _ ⟨?_, ?_⟩
    · intro i T t xs hi hx
      match i with
      | 0 => cases hx
      | 1 => cases hx
      | 2 => cases hx
      | 3 => exact ⟨xs, hx, rfl⟩
      | i + 4 => cases hx
    · rw [hds]
      exact h

theorem loopA {l : Nat} {b0 : List Int} {x : Resp} {ns : List Numb} (hns : ∀ y ∈ ns, NOK y) {bb : List Int} (hb : bb.length + 8 * ns.length ≤ 100000) {done : Heap → Nat → Prop} {doneJ : Code → Heap → Nat → Prop} {A : List Item → AS → Prop}
    (hG : ClG Try.prog codes sigs Try.f104 Try.f14 2 l (EH b0 x) (rfP (rf Try.f14 0)) (rfA (rf Try.f14 0)) (rfB (rf Try.f14 0)) tm14 done doneJ A) (hend : A (hd Try.f104 1) (G4 l (bb ++ encN ns) x (0 : Int)))
    (i : Nat) (hi : i ≤ ns.length) : A (hd Try.f104 0) (G1 l (bb ++ encN (ns.take i)) x ns i) := by
  refine hG.cl.go (t104a l _ x ns i) (sat_bif (fun h1 => ?_) (fun h1 => ?_))
  · have h1 := of_decide_eq_true h1
    have hil : i < ns.length := by omega
    rw [getD_int hil]
    refine ⟨⟨by omega, by omega⟩, by rw [Int.toNat_natCast]; exact hil, ?_⟩
    refine hG.cl.go (t104b l (bb ++ encN (ns.take i)) x ns i ns[i]) ?_
    obtain ⟨hn, w, hw, h1', h8⟩ := hns ns[i] (List.getElem_mem _)
    have hlen : (bb ++ encN (ns.take i)).length ≤ 100000 := by
      have := encN_len (NOK.take hns i)
      rw [List.length_take] at this
      rw [List.length_append]; omega
    have ey : ns[i] = ⟨ns[i].n, (w : Int)⟩ := by rw [← hw]
    have key := loopA hns hb hG hend (i + 1) (by omega)
    have et : encN (ns.take (i + 1)) = encN (ns.take i) ++ be ns[i].n w := by rw [encN_take hil, hw, Int.toNat_natCast]
    rw [et, ← List.append_assoc] at key
    revert key
    generalize ns[i].n = n at *
    intro key
    rw [ey]
    refine yld (b := bb ++ encN (ns.take i)) (ns := ns) hn h1' h8 (by unfold Sb; omega) hG (inR Try.f104 3 2) _ 38 36 37 (by kernel_rfl) (by kernel_rfl) (by kernel_rfl) (by kernel_rfl) (by kernel_rfl) ?_
    refine hG.cl.go (t104g l (bb ++ encN (ns.take i) ++ be n w) x ns i ⟨n, w⟩) ?_
    rw [wrap_succ (by omega)]
    exact key
  · have h1 := of_decide_eq_false h1
    rw [List.take_of_length_le (by omega)]
    exact hend
termination_by ns.length - i

theorem loopB {l : Nat} {b0 : List Int} {x : Resp} {k : Nat} {ns : List Numb} (hns : ∀ y ∈ ns, NOK y) {bb : List Int} (hb : bb.length + 8 * ns.length ≤ 100000) (hk : k < 9223372036854775807) {done : Heap → Nat → Prop} {doneJ : Code → Heap → Nat → Prop} {A : List Item → AS → Prop}
    (hG : ClG Try.prog codes sigs Try.f104 Try.f14 2 l (EH b0 x) (rfP (rf Try.f14 0)) (rfA (rf Try.f14 0)) (rfB (rf Try.f14 0)) tm14 done doneJ A) (hend : A (hd Try.f104 1) (G4 l (bb ++ encN ns) x ((k + 1 : Nat) : Int)))
    (i : Nat) (hi : i ≤ ns.length) : A (hd Try.f104 2) (G5 l (bb ++ encN (ns.take i)) x k ns i) := by
  refine hG.cl.go (t104e l _ x k ns i) (sat_bif (fun h1 => ?_) (fun h1 => ?_))
  · have h1 := of_decide_eq_true h1
    have hil : i < ns.length := by omega
    rw [getD_int hil]
    refine ⟨⟨by omega, by omega⟩, by rw [Int.toNat_natCast]; exact hil, ?_⟩
    refine hG.cl.go (t104f l (bb ++ encN (ns.take i)) x k ns i ns[i]) ?_
    obtain ⟨hn, w, hw, h1', h8⟩ := hns ns[i] (List.getElem_mem _)
    have hlen : (bb ++ encN (ns.take i)).length ≤ 100000 := by
      have := encN_len (NOK.take hns i)
      rw [List.length_take] at this
      rw [List.length_append]; omega
    have ey : ns[i] = ⟨ns[i].n, (w : Int)⟩ := by rw [← hw]
    have key := loopB hns hb hk hG hend (i + 1) (by omega)
    have et : encN (ns.take (i + 1)) = encN (ns.take i) ++ be ns[i].n w := by rw [encN_take hil, hw, Int.toNat_natCast]
    rw [et, ← List.append_assoc] at key
    revert key
    generalize ns[i].n = n at *
    intro key
    rw [ey]
    refine yld (b := bb ++ encN (ns.take i)) (ns := ns) hn h1' h8 (by unfold Sb; omega) hG (inR Try.f104 11 2) _ 68 66 67 (by kernel_rfl) (by kernel_rfl) (by kernel_rfl) (by kernel_rfl) (by kernel_rfl) ?_
    refine hG.cl.go (t104h l (bb ++ encN (ns.take i) ++ be n w) x k ns i ⟨n, w⟩) ?_
    rw [wrap_succ (by omega)]
    exact key
  · have h1 := of_decide_eq_false h1
    rw [List.take_of_length_le (by omega), wrap_succ hk]
    exact hend
termination_by ns.length - i

theorem loopC {l : Nat} {b0 : List Int} {x : Resp} (hl : x.list.length ≤ 32) {done : Heap → Nat → Prop} {doneJ : Code → Heap → Nat → Prop} {A : List Item → AS → Prop}
    (hG : ClG Try.prog codes sigs Try.f104 Try.f14 2 l (EH b0 x) (rfP (rf Try.f14 0)) (rfA (rf Try.f14 0)) (rfB (rf Try.f14 0)) tm14 done doneJ A) (hend : done (EH (encB x) x) 2)
    (i : Nat) (hi : i ≤ x.list.length) : A (hd Try.f104 1) (G4 l (headB x ++ listB (x.list.take i)) x i) := by
  refine hG.cl.go (t104c l _ x i) (sat_bif (fun h1 => ?_) (fun h1 => ?_))
  · have h1 := of_decide_eq_true h1
    have hil : i < x.list.length := by omega
    rw [getD_int hil]
    have N3 : True ∧ True ∧ True := ⟨trivial, trivial, trivial⟩
    refine ⟨⟨⟨by omega, by omega⟩, trivial⟩, ⟨N3, N3, N3, trivial⟩, ?_⟩
    have key := loopC hl hG hend (i + 1) (by omega)
    have hlen : (headB x ++ listB (x.list.take i)).length ≤ 19 + 13 * 32 := by
      rw [List.length_append, headB_len, listB_len, List.length_take]; omega
    have e : headB x ++ listB (x.list.take (i + 1)) = headB x ++ listB (x.list.take i) ++ encN (numsC x.list[i]) := by
      rw [listB_take hil, List.append_assoc]; rfl
    rw [e] at key
    have := loopB (numsC_ok x.list[i]) (bb := headB x ++ listB (x.list.take i)) (by have : (numsC x.list[i]).length = 3 := rfl; omega) (by omega) hG key 0 (by omega)
    rw [List.take_zero] at this
    have e0 : headB x ++ listB (x.list.take i) ++ encN [] = headB x ++ listB (x.list.take i) := by simp [encN]
    rw [e0] at this
    exact this
  · have h1 := of_decide_eq_false h1
    rw [List.take_of_length_le (by omega)]
    have e0 : hd Try.f104 3 = [] := by kernel_rfl
    rw [e0]
    exact hG.ret _ _ (.inl rfl) hend
termination_by x.list.length - i

theorem t14z (x : Resp) (b : List Int) : @Eq (Out (TyTup [.sl .u8, .int])) (aexec Try.prog codes sigs Try.f14 (pureFin [.sl .u8, .int]) 2 noCut 200 true (rfK (rf Try.f14 0)) ⟨tm14, EH b x, 2⟩)
    (Out.need ((True ∧ True) ∧ True ∧ True) (Out.ret (α := TyTup [.sl .u8, .int]) (show List Int × Int from (b, 0)))) := by kernel_rfl

theorem c14 (x : Resp) : Pure Try.prog 14 [⟨.resp, x⟩] [.sl .u8, .int] (encS x) :=
  Pure.of_closedR (C := codes) (S := sigs) mixed Try.func14 (by kernel_rfl) (Nat.le_of_ble_eq_true (by kernel_rfl)) fun A hA => hA.cl.go (t14 x) (by
    refine ⟨⟨⟨trivial, trivial, trivial, trivial, trivial, trivial⟩, trivial⟩, _, c58 x, sat_bif (fun h => ⟨⟨⟨trivial, trivial⟩, trivial, trivial⟩, ?_⟩) (fun h => ⟨_, c59 x, ?_⟩)⟩
    · show (([] : List Int), (4 : Int)) = _
      have h : mayB x = false := nt h
      rw [encS, h]; rfl
    · have h : mayB x = true := nf h
      have e : encS x = (encB x, 0) := by rw [encS, h]; rfl
      rw [e] at hA
      refine hA.cl.le (rf Try.f14 0) _ ⟨tm14, EH [] x, 2⟩ (by kernel_rfl) ⟨rfl, ?_, ?_, Nat.le_refl _⟩ ?_
      · intro i a c ha hc
        have hc : tm14[i]? = some c := hc
        have ha : tm14[i]? = some a := ha
        rw [ha] at hc; cases hc; exact .refl _ _
      · intro k b' hb'
        match k with
        | 0 =>
          cases hb'
          refine ⟨_, rfl, rfl, ?_⟩
          intro i a c ha hc
          match i with
          | 0 => cases ha; cases hc; exact .nil _ .u8 0
          | i + 1 => cases ha
        | 1 => cases hb'; exact ⟨_, rfl, rfl, fun i a c ha hc => by rw [show ([i64 x.err, i64 x.id, i64 x.n, i64 x.ver, AV.d (.sl .change x.list)] : List AV)[i]? = some a from ha] at hc; cases hc; exact .refl _ _⟩
        | k + 2 => cases hb'
      · obtain ⟨gc, hgc⟩ : ∃ gc, Try.f104.body = some gc := Option.isSome_iff_exists.1 (by kernel_rfl)
        refine hA.at (rf Try.f14 0) ⟨tm14, EH [] x, 2⟩ 104 Try.f104 gc [] [.ptr 1 0] (by kernel_rfl) (by kernel_rfl) Try.func104 hgc (by kernel_rfl) (by kernel_rfl) (Nat.zero_le _) (fun l A' hG => ?_)
        have e1 : (F104 l [] x).tmps = .clo (.yield l) [] [] :: .ptr 1 0 :: List.replicate 70 .dead := by kernel_rfl
        have e2 : ([] ++ .clo (.yield l) [] [] :: [.ptr 1 0] ++ List.replicate (Try.f104.ntmps - (([] : List AV).length + 1 + [AV.ptr 1 0].length)) (.d (.v undef)) : List AV) = .clo (.yield l) [] [] :: .ptr 1 0 :: List.replicate 70 (.d (.v undef)) := by kernel_rfl
        rw [e2]
        refine hG.cl.le (bodyOf Try.f104) _ (F104 l [] x) (by kernel_rfl) ⟨by rw [e1]; rfl, ?_, ?_, Nat.le_refl _⟩ ?_
        · intro i a c ha hc
          rw [e1] at hc
          match i with
          | 0 => cases ha; cases hc; exact .refl _ _
          | 1 => cases ha; cases hc; exact .refl _ _
          | i + 2 =>
            have hc : (List.replicate 70 AV.dead)[i]? = some c := hc
            rw [List.getElem?_replicate] at hc
            split at hc
            · cases hc; exact .dead _ _
            · cases hc
        · intro k b' hb'
          refine ⟨b', hb', .refl _ _⟩
        have N3 : True ∧ True ∧ True := ⟨trivial, trivial, trivial⟩
        refine hG.cl.go (t104 l [] x) ⟨⟨N3, N3, N3, N3, N3, trivial⟩, ?_⟩
        have hrows : RowsLe 2 (EH [] x) (EH (encB x) x) := by
          intro i T t xs hi hx
          match i, hi with
          | 0, _ => cases hx
          | 1, _ => cases hx
        have h3 := loopC (mayB_len h) hG ⟨hrows, fun A2 hA2 => Closed.go hA2 (t14z x (encB x)) ⟨⟨⟨trivial, trivial⟩, trivial, trivial⟩, rfl⟩⟩ 0 (by omega)
        rw [List.take_zero] at h3
        have e0 : headB x ++ listB [] = [] ++ encN (nums1 x) := by simp [listB, headB]
        rw [e0] at h3
        have h4 := loopA (nums1_ok x) (bb := []) (by show 0 + 8 * 5 ≤ 100000; decide) hG h3 0 (by omega)
        exact h4)
end Go.Proofs.Rp

namespace Go.Proofs.Rp
open Go Go.VL

def K13 : AS := mkS 62 [(1, .ptr 0 0)] [(0, .box [i64 140, i64 (-2), i64 (-1), i64 3, .d (.sl .change [⟨1, 2, -3⟩])])] 1
def S4 (b c : List Int) : AS := mkS 41 [(0, .d (.sl .u8 b)), (3, .d (.sl .u8 c))] [] 0


theorem t13  : @Eq (Out (TyTup [.bool])) (aexec Try.prog codes sigs Try.f13 (pureFin [.bool]) 0 ⟨[2], false⟩ 300 false (bodyOf Try.f13) (startS Try.f13 []))
    (Out.need ((True ∧ True ∧ True ∧ True) ∧ True)
  (Out.stop (rg Try.f13 (2 : Nat))
    (mkS (62 : Nat) [((1 : Nat), AV.ptr (0 : Nat) (0 : Nat))]
      [((0 : Nat),
          ABlk.box
            [AV.d (D.v (Value.int IntKind.i64 (140 : Int))), AV.d (D.v (Value.int IntKind.i64 (-2 : Int))),
              AV.d (D.v (Value.int IntKind.i64 (-1 : Int))), AV.d (D.v (Value.int IntKind.i64 (3 : Int))),
              AV.own (1 : Nat) Ty.change]),
        ((1 : Nat), ABlk.row (85 : Nat) Ty.change [Change.mk (1 : Int) (2 : Int) (-3 : Int)])]
      (2 : Nat)))) := by kernel_rfl

theorem t13b  : @Eq (Out (TyTup [.bool])) (aexec Try.prog codes sigs Try.f13 (pureFin [.bool]) 0 noCut 300 true (rg Try.f13 2) (K13))
    (Out.need ((True ∧ True ∧ True ∧ True ∧ True ∧ True) ∧ True)
  (Out.callP (14 : Nat)
    [Sigma.mk Ty.resp (Resp.mk (140 : Int) (-2 : Int) (-1 : Int) (3 : Int) [Change.mk (1 : Int) (2 : Int) (-3 : Int)])]
    [Ty.sl Ty.u8, Ty.int] fun (x : List Int × Int) =>
    Out.need ((True ∧ True) ∧ True)
      (Out.callP (17 : Nat) [Sigma.mk (Ty.sl Ty.u8) (Prod.fst x)] [Ty.resp, Ty.int] fun (x_1 : Resp × Int) =>
        Out.need True
          (Out.need (((0 : Nat) + List.length (Prod.fst x)) * (2 : Nat) ≤ (35184372088832 : Nat) ∧ True)
            (Out.need ((True ∧ True) ∧ True)
              (Out.need
                ((List.length ([] ++ Prod.fst x) + List.length [(0 : Int)]) * (2 : Nat) ≤ (35184372088832 : Nat) ∧ True)
                (Out.need ((True ∧ True) ∧ True)
                  (Out.callP (17 : Nat) [Sigma.mk (Ty.sl Ty.u8) ([] ++ Prod.fst x ++ [(0 : Int)])] [Ty.resp, Ty.int]
                    fun (x_2 : Resp × Int) =>
                    bif Prod.snd x == (0 : Int) then
                      bif (↑(List.length (Prod.fst x)) : Int) == (32 : Int) then
                        Out.need (((0 : Int) ≤ (1 : Int) ∧ (1 : Int) < (↑(List.length (Prod.fst x)) : Int)) ∧ True)
                          (bif List.getD (Prod.fst x) (1 : Nat) (Ty.dflt Ty.u8) == (140 : Int) then
                            Out.need (((0 : Int) ≤ (2 : Int) ∧ (2 : Int) < (↑(List.length (Prod.fst x)) : Int)) ∧ True)
                              (bif List.getD (Prod.fst x) (2 : Nat) (Ty.dflt Ty.u8) == (255 : Int) then
                                bif Prod.snd x_1 == (0 : Int) then
                                  Out.need
                                    ((True ∧ True ∧ True ∧ True ∧ True ∧ True) ∧
                                      (True ∧ True ∧ True ∧ True ∧ True ∧ True) ∧ True)
                                    (Out.callP (19 : Nat)
                                      [Sigma.mk Ty.resp
                                          (Resp.mk (140 : Int) (-2 : Int) (-1 : Int) (3 : Int)
                                            [Change.mk (1 : Int) (2 : Int) (-3 : Int)]),
                                        Sigma.mk Ty.resp (Prod.fst x_1)]
                                      [Ty.bool] fun (x : Bool) =>
                                      bif x then Out.need (True ∧ True) (Out.ret (Prod.snd x_2 == (251 : Int)))
                                      else Out.need (True ∧ True) (Out.ret false))
                                else Out.need (True ∧ True) (Out.ret false)
                              else Out.need (True ∧ True) (Out.ret false))
                          else Out.need (True ∧ True) (Out.ret false))
                      else Out.need (True ∧ True) (Out.ret false)
                    else Out.need (True ∧ True) (Out.ret false))))))))) := by kernel_rfl

theorem t3 (x : Resp) : @Eq (Out (TyTup [.bool])) (aexec Try.prog codes sigs Try.f3 (pureFin [.bool]) 0 noCut 300 false (bodyOf Try.f3) (startS Try.f3 [⟨.resp, x⟩]))
    (bif decide ((↑(List.length (Resp.list x)) : Int) > (1000 : Int)) then
  Out.need True (Out.callP (13 : Nat) [] [Ty.bool] fun (x : Bool) => Out.need (True ∧ True) (Out.ret x))
  else
  Out.need ((True ∧ True ∧ True ∧ True ∧ True ∧ True) ∧ True)
    (Out.callP (14 : Nat) [Sigma.mk Ty.resp x] [Ty.sl Ty.u8, Ty.int] fun (x_1 : List Int × Int) =>
      Out.need ((True ∧ True ∧ True ∧ True ∧ True ∧ True) ∧ True)
        (Out.callP (15 : Nat) [Sigma.mk Ty.resp x] [Ty.sl Ty.u8, Ty.int] fun (x : List Int × Int) =>
          Out.need True
            (Out.callP (13 : Nat) [] [Ty.bool] fun (x_2 : Bool) =>
              bif x_2 then
                Out.need ((True ∧ True) ∧ (True ∧ True) ∧ True)
                  (Out.callP (16 : Nat) [Sigma.mk (Ty.sl Ty.u8) (Prod.fst x_1), Sigma.mk (Ty.sl Ty.u8) (Prod.fst x)]
                    [Ty.bool] fun (x_3 : Bool) =>
                    bif x_3 then
                      bif Prod.snd x_1 == Prod.snd x then
                        Out.need (True ∧ True) (Out.ret (decide ((↑(List.length (Prod.fst x_1)) : Int) ≤ (512 : Int))))
                      else Out.need (True ∧ True) (Out.ret false)
                    else Out.need (True ∧ True) (Out.ret false))
              else Out.need (True ∧ True) (Out.ret false))))) := by kernel_rfl

theorem t4 (b : List Int) : @Eq (Out (TyTup [.bool])) (aexec Try.prog codes sigs Try.f4 (pureFin [.bool]) 0 ⟨[4], false⟩ 300 false (bodyOf Try.f4) (startS Try.f4 [⟨.sl .u8, b⟩]))
    (bif decide ((↑(List.length b) : Int) > (5000 : Int)) then
  Out.need True (Out.callP (13 : Nat) [] [Ty.bool] fun (x : Bool) => Out.need (True ∧ True) (Out.ret x))
  else
  Out.need True
    (Out.need (((0 : Nat) + List.length b) * (2 : Nat) ≤ (35184372088832 : Nat) ∧ True)
      (Out.stop (rg Try.f4 (4 : Nat))
        (mkS (41 : Nat) [((0 : Nat), AV.d (D.sl Ty.u8 b)), ((3 : Nat), AV.own (0 : Nat) Ty.u8)]
          [((0 : Nat), ABlk.row (5 : Nat) Ty.u8 b)] (1 : Nat))))) := by kernel_rfl

theorem t4b (b c : List Int) : @Eq (Out (TyTup [.bool])) (aexec Try.prog codes sigs Try.f4 (pureFin [.bool]) 0 noCut 300 true (rg Try.f4 4) (S4 b c))
    (Out.need ((True ∧ True) ∧ True)
  (Out.callP (17 : Nat) [Sigma.mk (Ty.sl Ty.u8) c] [Ty.resp, Ty.int] fun (x : Resp × Int) =>
    Out.need ((True ∧ True) ∧ True)
      (Out.callP (18 : Nat) [Sigma.mk (Ty.sl Ty.u8) b] [Ty.resp, Ty.int] fun (x_1 : Resp × Int) =>
        Out.need True
          (Out.callP (13 : Nat) [] [Ty.bool] fun (x_2 : Bool) =>
            bif x_2 then
              Out.need ((True ∧ True ∧ True ∧ True ∧ True ∧ True) ∧ (True ∧ True ∧ True ∧ True ∧ True ∧ True) ∧ True)
                (Out.callP (19 : Nat) [Sigma.mk Ty.resp (Prod.fst x), Sigma.mk Ty.resp (Prod.fst x_1)] [Ty.bool]
                  fun (x_3 : Bool) =>
                  bif x_3 then
                    bif Prod.snd x == Prod.snd x_1 then
                      Out.need ((True ∧ True) ∧ (True ∧ True) ∧ True)
                        (Out.callP (16 : Nat) [Sigma.mk (Ty.sl Ty.u8) c, Sigma.mk (Ty.sl Ty.u8) b] [Ty.bool]
                          fun (x : Bool) => Out.need (True ∧ True) (Out.ret x))
                    else Out.need (True ∧ True) (Out.ret false)
                  else Out.need (True ∧ True) (Out.ret false))
            else Out.need (True ∧ True) (Out.ret false))))) := by kernel_rfl

theorem t5 (x : Resp) (b : List Int) : @Eq (Out (TyTup [.bool])) (aexec Try.prog codes sigs Try.f5 (pureFin [.bool]) 0 noCut 300 false (bodyOf Try.f5) (startS Try.f5 [⟨.resp, x⟩, ⟨.sl .u8, b⟩]))
    (bif decide ((↑(List.length (Resp.list x)) : Int) > (1000 : Int)) then
  Out.need True (Out.callP (13 : Nat) [] [Ty.bool] fun (x : Bool) => Out.need (True ∧ True) (Out.ret x))
  else
  bif decide ((↑(List.length b) : Int) > (5000 : Int)) then
    Out.need True (Out.callP (13 : Nat) [] [Ty.bool] fun (x : Bool) => Out.need (True ∧ True) (Out.ret x))
  else
    Out.need ((True ∧ True ∧ True ∧ True ∧ True ∧ True) ∧ True)
      (Out.callP (14 : Nat) [Sigma.mk Ty.resp x] [Ty.sl Ty.u8, Ty.int] fun (x_1 : List Int × Int) =>
        bif Prod.snd x_1 == (0 : Int) then
          Out.need ((True ∧ True) ∧ True)
            (Out.callP (17 : Nat) [Sigma.mk (Ty.sl Ty.u8) (Prod.fst x_1)] [Ty.resp, Ty.int] fun (x_2 : Resp × Int) =>
              bif Prod.snd x_2 != (0 : Int) then Out.need (True ∧ True) (Out.ret false)
              else
                Out.need ((True ∧ True ∧ True ∧ True ∧ True ∧ True) ∧ (True ∧ True ∧ True ∧ True ∧ True ∧ True) ∧ True)
                  (Out.callP (19 : Nat) [Sigma.mk Ty.resp x, Sigma.mk Ty.resp (Prod.fst x_2)] [Ty.bool]
                    fun (x : Bool) =>
                    bif !x then Out.need (True ∧ True) (Out.ret false)
                    else
                      Out.need ((True ∧ True) ∧ True)
                        (Out.callP (17 : Nat) [Sigma.mk (Ty.sl Ty.u8) b] [Ty.resp, Ty.int] fun (x : Resp × Int) =>
                          bif Prod.snd x != (0 : Int) then
                            Out.need True
                              (Out.callP (13 : Nat) [] [Ty.bool] fun (x : Bool) => Out.need (True ∧ True) (Out.ret x))
                          else
                            Out.need ((True ∧ True ∧ True ∧ True ∧ True ∧ True) ∧ True)
                              (Out.callP (14 : Nat) [Sigma.mk Ty.resp (Prod.fst x)] [Ty.sl Ty.u8, Ty.int]
                                fun (x : List Int × Int) =>
                                Out.need True
                                  (Out.callP (13 : Nat) [] [Ty.bool] fun (x_3 : Bool) =>
                                    bif x_3 then
                                      bif Prod.snd x == (0 : Int) then
                                        Out.need ((True ∧ True) ∧ (True ∧ True) ∧ True)
                                          (Out.callP (16 : Nat)
                                            [Sigma.mk (Ty.sl Ty.u8) (Prod.fst x), Sigma.mk (Ty.sl Ty.u8) b] [Ty.bool]
                                            fun (x : Bool) => Out.need (True ∧ True) (Out.ret x))
                                      else Out.need (True ∧ True) (Out.ret false)
                                    else Out.need (True ∧ True) (Out.ret false))))))
        else
          Out.need ((True ∧ True) ∧ True)
            (Out.callP (17 : Nat) [Sigma.mk (Ty.sl Ty.u8) b] [Ty.resp, Ty.int] fun (x : Resp × Int) =>
              bif Prod.snd x != (0 : Int) then
                Out.need True (Out.callP (13 : Nat) [] [Ty.bool] fun (x : Bool) => Out.need (True ∧ True) (Out.ret x))
              else
                Out.need ((True ∧ True ∧ True ∧ True ∧ True ∧ True) ∧ True)
                  (Out.callP (14 : Nat) [Sigma.mk Ty.resp (Prod.fst x)] [Ty.sl Ty.u8, Ty.int]
                    fun (x : List Int × Int) =>
                    Out.need True
                      (Out.callP (13 : Nat) [] [Ty.bool] fun (x_2 : Bool) =>
                        bif x_2 then
                          bif Prod.snd x == (0 : Int) then
                            Out.need ((True ∧ True) ∧ (True ∧ True) ∧ True)
                              (Out.callP (16 : Nat) [Sigma.mk (Ty.sl Ty.u8) (Prod.fst x), Sigma.mk (Ty.sl Ty.u8) b]
                                [Ty.bool] fun (x : Bool) => Out.need (True ∧ True) (Out.ret x))
                          else Out.need (True ∧ True) (Out.ret false)
                        else Out.need (True ∧ True) (Out.ret false)))))) := by kernel_rfl

end Go.Proofs.Rp

/- The answers' laws: lives; the bytes of any answer; what any bytes are. (Own work.) -/
namespace Go.Proofs.Rp
open Go Go.VL

theorem be_bv (n : Int) (w : Nat) : BV (be n w) := by
  intro c hc
  simp only [be, List.mem_map] at hc
  obtain ⟨i, _, rfl⟩ := hc
  unfold byteAt
  omega
theorem BV.app {a b : List Int} (ha : BV a) (hb : BV b) : BV (a ++ b) := fun c hc => (List.mem_append.1 hc).elim (ha c) (hb c)
theorem encN_bv (ns : List Numb) : BV (encN ns) := by
  intro c hc
  simp only [encN, List.mem_flatMap] at hc
  obtain ⟨y, _, hy⟩ := hc
  exact be_bv _ _ c hy
theorem encB_bv (x : Resp) : BV (encB x) := by
  refine BV.app (encN_bv _) ?_
  intro c hc
  simp only [listB, List.mem_flatMap] at hc
  obtain ⟨y, _, hy⟩ := hc
  exact encN_bv _ c hy
theorem encB_len (x : Resp) : (encB x).length = 19 + 13 * x.list.length := by rw [encB, List.length_append, headB_len, listB_len]
theorem encS_bv (x : Resp) : BV (encS x).1 := by
  unfold encS
  cases mayB x
  · intro c hc; cases hc
  · exact encB_bv x
theorem encS_len (x : Resp) : (encS x).1.length ≤ 512 := by
  unfold encS
  cases h : mayB x
  · exact Nat.zero_le _
  · show (encB x).length ≤ 512
    have := mayB_len h
    rw [encB_len]; omega

abbrev X13 : Resp := ⟨140, -2, -1, 3, [⟨1, 2, -3⟩]⟩
theorem e13 : encS X13 = ([0, 140, 255, 255, 255, 254, 255, 255, 255, 255, 255, 255, 255, 255, 0, 0, 0, 3, 1, 0, 0, 0, 1, 2, 255, 255, 255, 255, 255, 255, 255, 253], 0) := by kernel_rfl
abbrev B13 : List Int := [0, 140, 255, 255, 255, 254, 255, 255, 255, 255, 255, 255, 255, 255, 0, 0, 0, 3, 1, 0, 0, 0, 1, 2, 255, 255, 255, 255, 255, 255, 255, 253]
theorem d13 : decS B13 = (X13, 0) := by kernel_rfl
theorem d13' : decS ([] ++ B13 ++ [0]) = (⟨0, 0, 0, 0, []⟩, 251) := by kernel_rfl
theorem b13 : BV B13 := by
  intro c hc
  simp only [List.mem_cons, List.not_mem_nil, or_false] at hc
  omega

theorem c13 : Pure Try.prog 13 [] [.bool] true :=
  Pure.of_closed (C := codes) (S := sigs) mixed Try.func13 (by kernel_rfl) (Nat.le_of_ble_eq_true (by kernel_rfl)) fun A hA => hA.go t13 (by
    refine ⟨⟨⟨trivial, trivial, trivial, trivial⟩, trivial⟩, ?_⟩
    refine hA.frz 1 (by kernel_rfl) (s' := K13) (by kernel_rfl) (hA.go t13b ?_)
    have N2 : True ∧ True := ⟨trivial, trivial⟩
    have N6 : True ∧ True ∧ True ∧ True ∧ True ∧ True := ⟨trivial, trivial, trivial, trivial, trivial, trivial⟩
    have p1 : Pure Try.prog 14 [⟨.resp, X13⟩] [.sl .u8, .int] (show List Int × Int from (B13, 0)) := (c14 X13).eq e13
    have p2 : Pure Try.prog 17 [⟨.sl .u8, B13⟩] [.resp, .int] (show Resp × Int from (X13, 0)) := (c17 (by unfold Sb; decide) b13).eq d13
    have p3 : Pure Try.prog 17 [⟨.sl .u8, [] ++ B13 ++ [0]⟩] [.resp, .int] (show Resp × Int from (⟨0, 0, 0, 0, []⟩, 251)) := (c17 (by unfold Sb; decide) (BV.app b13 (by intro c hc; simp at hc; omega))).eq d13'
    have p4 : Pure Try.prog 19 [⟨.resp, X13⟩, ⟨.resp, X13⟩] [.bool] true := (c19 (by decide)).eq (decide_eq_true rfl)
    refine ⟨⟨N6, trivial⟩, _, p1, ⟨N2, trivial⟩, _, p2, trivial, ⟨by decide, trivial⟩, ⟨N2, trivial⟩, ⟨by decide, trivial⟩, ⟨N2, trivial⟩, _, p3, ?_⟩
    exact ⟨⟨by decide, trivial⟩, ⟨by decide, trivial⟩, ⟨N6, N6, trivial⟩, _, p4, N2, rfl⟩)

theorem law3 (x : Resp) (_ : wfT .resp x) : Pure Try.prog 3 [⟨.resp, x⟩] [.bool] true :=
  ofT Try.func3 (t3 x) (by kernel_rfl) (by kernel_rfl) fun _ => by
    have N2 : True ∧ True := ⟨trivial, trivial⟩
    have N6 : True ∧ True ∧ True ∧ True ∧ True ∧ True := ⟨trivial, trivial, trivial, trivial, trivial, trivial⟩
    refine sat_bif (fun _ => ⟨trivial, _, c13, N2, rfl⟩) (fun _ => ⟨⟨N6, trivial⟩, _, c14 x, ⟨N6, trivial⟩, _, c15 x, trivial, _, c13, ⟨N2, N2, trivial⟩, _, (c16 (encS_bv x) (encS_bv x)).eq (decide_eq_true rfl), ?_⟩)
    refine sat_bif (fun _ => sat_bif (fun _ => ⟨N2, ?_⟩) (fun h => ?_)) (fun h => by cases h)
    · have := encS_len x
      exact decide_eq_true (by show ((encS x).1.length : Int) ≤ 512; omega)
    · have h : ((encS x).2 == (encS x).2) = false := h
      simp at h

theorem listS_len : ∀ (m : Nat) (r : Rdr) (l : List Change), (listS m r l).2.length ≤ l.length + m
  | 0, r, l => Nat.le_refl _
  | m + 1, r, l => by
    rw [listS]
    cases (r.e == 0)
    · show l.length ≤ _; omega
    · have := listS_len m (chS r).1 (l ++ [(chS r).2])
      rw [List.length_append] at this
      show (listS m (chS r).1 (l ++ [(chS r).2])).2.length ≤ _
      simp at this; omega
theorem finS_len (x : Resp) (p : Rdr × List Change) : (finS x p).1.list.length ≤ p.2.length := by
  unfold finS
  cases ((endS p.1).e != 0)
  · exact Nat.le_refl _
  · exact Nat.zero_le _
theorem cnt_lt {b : List Int} (hl : Sb b.length) (hb : BV b) : 0 ≤ cntS b ∧ cntS b < 256 := by
  have hr0 : RdOK b 0 := ⟨by omega, by omega, hl⟩
  have hr1 : RdOK (rd1 b).b (rd1 b).at' := behindOK (r := ⟨b, 0, 0⟩) hr0 2
  have hr2 : RdOK (rd2 b).b (rd2 b).at' := behindOK hr1 4
  have hr3 : RdOK (rd3 b).b (rd3 b).at' := behindOK hr2 8
  have hr4 : RdOK (rd4 b).b (rd4 b).at' := behindOK hr3 4
  have b3 : 0 ≤ cntS b ∧ cntS b < 256 ^ 1 := numUb (r := rd4 b) hb hr4 1 1 (by decide)
  have e1 : (256 : Int) ^ 1 = 256 := by decide
  rw [e1] at b3
  exact b3
theorem decS_len {b : List Int} (hl : Sb b.length) (hb : BV b) : (decS b).1.list.length ≤ 255 := by
  have h1 := finS_len (headS b) (listS (cntS b).toNat (rd6 b) [])
  have h2 := listS_len (cntS b).toNat (rd6 b) []
  have h3 := cnt_lt hl hb
  rw [List.length_nil] at h2
  show (finS (headS b) (listS (cntS b).toNat (rd6 b) [])).1.list.length ≤ 255
  omega
theorem bv_of_wf {b : List Int} (wb : wfT (.sl .u8) b) : BV b := by
  intro c hc
  exact wfB (wfL (wb (.sl .u8 b) (.head _)) rfl c hc (.v (.int .u8 c)) (.head _)) rfl

theorem law4 (b : List Int) (wb : wfT (.sl .u8) b) : Pure Try.prog 4 [⟨.sl .u8, b⟩] [.bool] true :=
  Pure.of_closed (C := codes) (S := sigs) mixed Try.func4 (by kernel_rfl) (Nat.le_of_ble_eq_true (by kernel_rfl)) fun A hA => hA.go (t4 b) (by
    have N2 : True ∧ True := ⟨trivial, trivial⟩
    have N6 : True ∧ True ∧ True ∧ True ∧ True ∧ True := ⟨trivial, trivial, trivial, trivial, trivial, trivial⟩
    refine sat_bif (fun _ => ⟨trivial, _, c13, N2, rfl⟩) (fun h => ?_)
    have h := of_decide_eq_false h
    have hl : Sb b.length := by unfold Sb; omega
    have hb := bv_of_wf wb
    refine ⟨trivial, ⟨by omega, trivial⟩, ?_⟩
    refine hA.frz 0 (by kernel_rfl) (s' := S4 b b) (by kernel_rfl) (hA.go (t4b b b) ?_)
    refine ⟨⟨N2, trivial⟩, _, c17 hl hb, ⟨N2, trivial⟩, _, c18 hl hb, trivial, _, c13, ⟨N6, N6, trivial⟩, _, (c19 (by have := decS_len hl hb; omega)).eq (decide_eq_true rfl), ?_⟩
    refine sat_bif (fun _ => sat_bif (fun _ => ⟨⟨N2, N2, trivial⟩, _, (c16 hb hb).eq (decide_eq_true rfl), N2, rfl⟩) (fun h => ?_)) (fun h => by cases h)
    have h : ((decS b).2 == (decS b).2) = false := h
    simp at h)
end Go.Proofs.Rp
