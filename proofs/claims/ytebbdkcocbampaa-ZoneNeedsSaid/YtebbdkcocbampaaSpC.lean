/- Own work: part SpC of the proof. -/
import Derived.Test.YtebbdkcocbampaaSpA
import Derived.Test.YtebbdkcocbampaaSpB
set_option linter.unusedVariables false
set_option linter.unusedSimpArgs false
namespace Go.Proofs.Sp
open Go Go.VL

def L33 (xs out : List Span) (i : Int) : AS := mkS 94 [(0, .d (.sl .span xs)), (3, .own 0 .span), (4, i64 i)] [(0, .row 38 .span out)] 1
def L33b (xs out left : List Span) (x : Span) (i k : Int) : AS := mkS 94 [(0, .d (.sl .span xs)), (3, .own 0 .span), (4, i64 i), (5, .ptr 1 0), (6, .own 2 .span), (7, i64 k)] [(0, .row 38 .span out), (1, .box [i64 x.lo, i64 x.hi]), (2, .row 38 .span left)] 3
def L33c (xs left : List Span) (x : Span) (i k : Int) : AS := mkS 94 [(0, .d (.sl .span xs)), (4, i64 i), (5, .ptr 0 0), (6, .own 1 .span), (8, i64 k)] [(0, .box [i64 x.lo, i64 x.hi]), (1, .row 38 .span left)] 2
def L36 (js out : List Span) (w : Span) (i : Int) : AS := mkS 80 [(3, .ptr 0 0), (5, .own 1 .span), (6, .d (.sl .span js)), (7, i64 i)] [(0, .box [i64 w.lo, i64 w.hi]), (1, .row 38 .span out)] 2
def L32 (xs ys : List Span) (i : Int) : AS := mkS 26 [(0, .d (.sl .span xs)), (1, .d (.sl .span ys)), (5, i64 i)] [] 0
def L34 (xs : List Span) (n c i : Int) : AS := mkS 22 [(0, .d (.sl .span xs)), (1, i64 n), (5, i64 c), (6, i64 i)] [] 0
def L7 (xs js : List Span) (n : Int) (b : Bool) (i : Int) : AS := mkS 57 [(0, .d (.sl .span xs)), (1, i64 n), (5, .d (.sl .span js)), (6, .d (.v (.bool b))), (7, i64 i)] [] 0


theorem t33 (xs : List Span) : @Eq (Out (TyTup [.sl .span])) (aexec Try.prog codes sigs Try.f33 (pureFin [.sl .span]) 0 noCut 200 false (bodyOf Try.f33) (startS Try.f33 [⟨.sl .span, xs⟩]))
    (Out.stop (hd Try.f33 (0 : Nat))
  (mkS (94 : Nat)
    [((0 : Nat), AV.d (D.sl Ty.span xs)), ((3 : Nat), AV.d (D.v (Value.slice none (0 : Nat) (0 : Nat)))),
      ((4 : Nat), AV.d (D.v (Value.int IntKind.i64 (0 : Int))))]
    [] (0 : Nat))) := by kernel_rfl

theorem t33a (xs out : List Span) (i : Int) : @Eq (Out (TyTup [.sl .span])) (aexec Try.prog codes sigs Try.f33 (pureFin [.sl .span]) 0 noCut 200 true (hd Try.f33 0) (L33 xs out i))
    (bif decide (i < (↑(List.length xs) : Int)) then
  Out.need (((0 : Int) ≤ i ∧ i < (↑(List.length xs) : Int)) ∧ True)
    (bif
        decide
          (Span.lo (List.getD xs (Int.toNat i) (Ty.dflt Ty.span)) >
            Span.hi (List.getD xs (Int.toNat i) (Ty.dflt Ty.span))) then
      Out.stop (hd Try.f33 (0 : Nat))
        (mkS (94 : Nat)
          [((0 : Nat), AV.d (D.sl Ty.span xs)), ((3 : Nat), AV.own (0 : Nat) Ty.span),
            ((4 : Nat), AV.d (D.v (Value.int IntKind.i64 (IntKind.wrap IntKind.i64 (i + (1 : Int))))))]
          [((0 : Nat), ABlk.row (38 : TypeId) Ty.span out)] (1 : Nat))
    else
      Out.stop (hd Try.f33 (1 : Nat))
        (mkS (94 : Nat)
          [((0 : Nat), AV.d (D.sl Ty.span xs)), ((3 : Nat), AV.own (0 : Nat) Ty.span),
            ((4 : Nat), AV.d (D.v (Value.int IntKind.i64 i))), ((5 : Nat), AV.ptr (1 : Nat) (0 : Nat)),
            ((6 : Nat), AV.d (D.v (Value.slice none (0 : Nat) (0 : Nat)))),
            ((7 : Nat), AV.d (D.v (Value.int IntKind.i64 (0 : Int))))]
          [((0 : Nat), ABlk.row (38 : TypeId) Ty.span out),
            ((1 : Nat),
              ABlk.box
                [AV.d (D.v (Value.int IntKind.i64 (Span.lo (List.getD xs (Int.toNat i) (Ty.dflt Ty.span))))),
                  AV.d (D.v (Value.int IntKind.i64 (Span.hi (List.getD xs (Int.toNat i) (Ty.dflt Ty.span)))))])]
          (2 : Nat)))
  else Out.need (True ∧ True) (Out.ret out)) := by kernel_rfl

theorem t33b (xs out left : List Span) (x : Span) (i k : Int) : @Eq (Out (TyTup [.sl .span])) (aexec Try.prog codes sigs Try.f33 (pureFin [.sl .span]) 0 noCut 200 true (hd Try.f33 1) (L33b xs out left x i k))
    (bif decide (k < (↑(List.length out) : Int)) then
  Out.need ((0 : Int) ≤ k ∧ k < (↑(List.length out) : Int))
    (Out.need (Int.toNat k < List.length out)
      (Out.need ((True ∧ True ∧ True) ∧ (True ∧ True ∧ True) ∧ True)
        (Out.callP (26 : Nat) [Sigma.mk Ty.span (List.getD out (Int.toNat k) (Ty.dflt Ty.span)), Sigma.mk Ty.span x]
          [Ty.bool] fun (x_1 : Bool) =>
          bif x_1 then
            Out.need ((0 : Int) ≤ k ∧ k < (↑(List.length out) : Int))
              (Out.need (Int.toNat k < List.length out)
                (Out.need ((True ∧ True ∧ True) ∧ (True ∧ True ∧ True) ∧ True)
                  (Out.callP (24 : Nat)
                    [Sigma.mk Ty.span (List.getD out (Int.toNat k) (Ty.dflt Ty.span)), Sigma.mk Ty.span x] [Ty.span]
                    fun (x : Span) =>
                    Out.stop (hd Try.f33 (1 : Nat))
                      (mkS (94 : Nat)
                        [((0 : Nat), AV.d (D.sl Ty.span xs)), ((3 : Nat), AV.own (0 : Nat) Ty.span),
                          ((4 : Nat), AV.d (D.v (Value.int IntKind.i64 i))), ((5 : Nat), AV.ptr (1 : Nat) (0 : Nat)),
                          ((6 : Nat), AV.own (2 : Nat) Ty.span),
                          ((7 : Nat), AV.d (D.v (Value.int IntKind.i64 (IntKind.wrap IntKind.i64 (k + (1 : Int))))))]
                        [((0 : Nat), ABlk.row (38 : TypeId) Ty.span out),
                          ((1 : Nat),
                            ABlk.box
                              [AV.d (D.v (Value.int IntKind.i64 (Span.lo x))),
                                AV.d (D.v (Value.int IntKind.i64 (Span.hi x)))]),
                          ((2 : Nat), ABlk.row (38 : TypeId) Ty.span left)]
                        (3 : Nat)))))
          else
            Out.need ((0 : Int) ≤ k ∧ k < (↑(List.length out) : Int))
              (Out.need (Int.toNat k < List.length out)
                (Out.need ((True ∧ True ∧ True) ∧ (True ∧ True ∧ True) ∧ True)
                  (Out.callP (83 : Nat)
                    [Sigma.mk Ty.span (List.getD out (Int.toNat k) (Ty.dflt Ty.span)), Sigma.mk Ty.span x] [Ty.bool]
                    fun (x_2 : Bool) =>
                    bif x_2 then
                      Out.need ((0 : Int) ≤ k ∧ k < (↑(List.length out) : Int))
                        (Out.need (Int.toNat k < List.length out)
                          (Out.need ((True ∧ True ∧ True) ∧ (True ∧ True ∧ True) ∧ True)
                            (Out.callP (24 : Nat)
                              [Sigma.mk Ty.span (List.getD out (Int.toNat k) (Ty.dflt Ty.span)), Sigma.mk Ty.span x]
                              [Ty.span] fun (x : Span) =>
                              Out.stop (hd Try.f33 (1 : Nat))
                                (mkS (94 : Nat)
                                  [((0 : Nat), AV.d (D.sl Ty.span xs)), ((3 : Nat), AV.own (0 : Nat) Ty.span),
                                    ((4 : Nat), AV.d (D.v (Value.int IntKind.i64 i))),
                                    ((5 : Nat), AV.ptr (1 : Nat) (0 : Nat)), ((6 : Nat), AV.own (2 : Nat) Ty.span),
                                    ((7 : Nat),
                                      AV.d (D.v (Value.int IntKind.i64 (IntKind.wrap IntKind.i64 (k + (1 : Int))))))]
                                  [((0 : Nat), ABlk.row (38 : TypeId) Ty.span out),
                                    ((1 : Nat),
                                      ABlk.box
                                        [AV.d (D.v (Value.int IntKind.i64 (Span.lo x))),
                                          AV.d (D.v (Value.int IntKind.i64 (Span.hi x)))]),
                                    ((2 : Nat), ABlk.row (38 : TypeId) Ty.span left)]
                                  (3 : Nat)))))
                    else
                      Out.need ((0 : Int) ≤ k ∧ k < (↑(List.length out) : Int))
                        (Out.need (Int.toNat k < List.length out)
                          (Out.need ((True ∧ True ∧ True) ∧ (True ∧ True ∧ True) ∧ True)
                            (Out.callP (83 : Nat)
                              [Sigma.mk Ty.span x, Sigma.mk Ty.span (List.getD out (Int.toNat k) (Ty.dflt Ty.span))]
                              [Ty.bool] fun (x_3 : Bool) =>
                              bif x_3 then
                                Out.need ((0 : Int) ≤ k ∧ k < (↑(List.length out) : Int))
                                  (Out.need (Int.toNat k < List.length out)
                                    (Out.need ((True ∧ True ∧ True) ∧ (True ∧ True ∧ True) ∧ True)
                                      (Out.callP (24 : Nat)
                                        [Sigma.mk Ty.span (List.getD out (Int.toNat k) (Ty.dflt Ty.span)),
                                          Sigma.mk Ty.span x]
                                        [Ty.span] fun (x : Span) =>
                                        Out.stop (hd Try.f33 (1 : Nat))
                                          (mkS (94 : Nat)
                                            [((0 : Nat), AV.d (D.sl Ty.span xs)), ((3 : Nat), AV.own (0 : Nat) Ty.span),
                                              ((4 : Nat), AV.d (D.v (Value.int IntKind.i64 i))),
                                              ((5 : Nat), AV.ptr (1 : Nat) (0 : Nat)),
                                              ((6 : Nat), AV.own (2 : Nat) Ty.span),
                                              ((7 : Nat),
                                                AV.d
                                                  (D.v
                                                    (Value.int IntKind.i64
                                                      (IntKind.wrap IntKind.i64 (k + (1 : Int))))))]
                                            [((0 : Nat), ABlk.row (38 : TypeId) Ty.span out),
                                              ((1 : Nat),
                                                ABlk.box
                                                  [AV.d (D.v (Value.int IntKind.i64 (Span.lo x))),
                                                    AV.d (D.v (Value.int IntKind.i64 (Span.hi x)))]),
                                              ((2 : Nat), ABlk.row (38 : TypeId) Ty.span left)]
                                            (3 : Nat)))))
                              else
                                Out.need ((0 : Int) ≤ k ∧ k < (↑(List.length out) : Int))
                                  (Out.need (Int.toNat k < List.length out)
                                    (Out.need ((True ∧ True ∧ True) ∧ True)
                                      (Out.need
                                        ((List.length left +
                                                List.length [List.getD out (Int.toNat k) (Ty.dflt Ty.span)]) *
                                              (17 : Nat) ≤
                                            (35184372088832 : Nat) ∧
                                          True)
                                        (Out.stop (hd Try.f33 (1 : Nat))
                                          (mkS (94 : Nat)
                                            [((0 : Nat), AV.d (D.sl Ty.span xs)), ((3 : Nat), AV.own (0 : Nat) Ty.span),
                                              ((4 : Nat), AV.d (D.v (Value.int IntKind.i64 i))),
                                              ((5 : Nat), AV.ptr (1 : Nat) (0 : Nat)),
                                              ((6 : Nat), AV.own (2 : Nat) Ty.span),
                                              ((7 : Nat),
                                                AV.d
                                                  (D.v
                                                    (Value.int IntKind.i64
                                                      (IntKind.wrap IntKind.i64 (k + (1 : Int))))))]
                                            [((0 : Nat), ABlk.row (38 : TypeId) Ty.span out),
                                              ((1 : Nat),
                                                ABlk.box
                                                  [AV.d (D.v (Value.int IntKind.i64 (Span.lo x))),
                                                    AV.d (D.v (Value.int IntKind.i64 (Span.hi x)))]),
                                              ((2 : Nat),
                                                ABlk.row (38 : Nat) Ty.span
                                                  (left ++ [List.getD out (Int.toNat k) (Ty.dflt Ty.span)]))]
                                            (3 : Nat)))))))))))))))
  else
  Out.stop (hd Try.f33 (2 : Nat))
    (mkS (94 : Nat)
      [((0 : Nat), AV.d (D.sl Ty.span xs)), ((4 : Nat), AV.d (D.v (Value.int IntKind.i64 i))),
        ((5 : Nat), AV.ptr (0 : Nat) (0 : Nat)), ((6 : Nat), AV.own (1 : Nat) Ty.span),
        ((8 : Nat), AV.d (D.v (Value.int IntKind.i64 (0 : Int))))]
      [((0 : Nat),
          ABlk.box [AV.d (D.v (Value.int IntKind.i64 (Span.lo x))), AV.d (D.v (Value.int IntKind.i64 (Span.hi x)))]),
        ((1 : Nat), ABlk.row (38 : TypeId) Ty.span left)]
      (2 : Nat))) := by kernel_rfl

theorem t33c (xs left : List Span) (x : Span) (i k : Int) : @Eq (Out (TyTup [.sl .span])) (aexec Try.prog codes sigs Try.f33 (pureFin [.sl .span]) 0 noCut 200 true (hd Try.f33 2) (L33c xs left x i k))
    (bif decide (k < (↑(List.length left) : Int)) then
  Out.need ((0 : Int) ≤ k ∧ k < (↑(List.length left) : Int))
    (Out.need (Int.toNat k < List.length left)
      (bif decide (Span.lo (List.getD left (Int.toNat k) (Ty.dflt Ty.span)) < Span.lo x) then
        Out.stop (hd Try.f33 (2 : Nat))
          (mkS (94 : Nat)
            [((0 : Nat), AV.d (D.sl Ty.span xs)), ((4 : Nat), AV.d (D.v (Value.int IntKind.i64 i))),
              ((5 : Nat), AV.ptr (0 : Nat) (0 : Nat)), ((6 : Nat), AV.own (1 : Nat) Ty.span),
              ((8 : Nat), AV.d (D.v (Value.int IntKind.i64 (IntKind.wrap IntKind.i64 (k + (1 : Int))))))]
            [((0 : Nat),
                ABlk.box
                  [AV.d (D.v (Value.int IntKind.i64 (Span.lo x))), AV.d (D.v (Value.int IntKind.i64 (Span.hi x)))]),
              ((1 : Nat), ABlk.row (38 : TypeId) Ty.span left)]
            (2 : Nat))
      else
        Out.need True
          (Out.need ((0 : Int) ≤ (0 : Int) ∧ (0 : Int) ≤ k ∧ k ≤ (↑(List.length left) : Int))
            (Out.need
              (((0 : Nat) + List.length (List.take (Int.toNat k - (0 : Nat)) (List.drop (0 : Nat) left))) * (17 : Nat) ≤
                  (35184372088832 : Nat) ∧
                (0 : Nat) + (Int.toNat k - (0 : Nat)) ≤ List.length left)
              (Out.need ((True ∧ True ∧ True) ∧ True)
                (Out.need
                  ((List.length ([] ++ List.take (Int.toNat k - (0 : Nat)) (List.drop (0 : Nat) left)) +
                          List.length [x]) *
                        (17 : Nat) ≤
                      (35184372088832 : Nat) ∧
                    True)
                  (Out.need ((0 : Int) ≤ k ∧ k ≤ (↑(List.length left) : Int))
                    (Out.need
                      ((List.length ([] ++ List.take (Int.toNat k - (0 : Nat)) (List.drop (0 : Nat) left) ++ [x]) +
                              List.length (List.take (List.length left - Int.toNat k) (List.drop (Int.toNat k) left))) *
                            (17 : Nat) ≤
                          (35184372088832 : Nat) ∧
                        Int.toNat k + (List.length left - Int.toNat k) ≤ List.length left)
                      (Out.stop (hd Try.f33 (0 : Nat))
                        (mkS (94 : Nat)
                          [((0 : Nat), AV.d (D.sl Ty.span xs)), ((3 : Nat), AV.own (0 : Nat) Ty.span),
                            ((4 : Nat), AV.d (D.v (Value.int IntKind.i64 (IntKind.wrap IntKind.i64 (i + (1 : Int))))))]
                          [((0 : Nat),
                              ABlk.row (38 : Nat) Ty.span
                                (List.take (Int.toNat k - (0 : Nat)) (List.drop (0 : Nat) left) ++ [x] ++
                                  List.take (List.length left - Int.toNat k) (List.drop (Int.toNat k) left)))]
                          (1 : Nat)))))))))))
  else
  Out.need True
    (Out.need ((0 : Int) ≤ (0 : Int) ∧ (0 : Int) ≤ k ∧ k ≤ (↑(List.length left) : Int))
      (Out.need
        (((0 : Nat) + List.length (List.take (Int.toNat k - (0 : Nat)) (List.drop (0 : Nat) left))) * (17 : Nat) ≤
            (35184372088832 : Nat) ∧
          (0 : Nat) + (Int.toNat k - (0 : Nat)) ≤ List.length left)
        (Out.need ((True ∧ True ∧ True) ∧ True)
          (Out.need
            ((List.length ([] ++ List.take (Int.toNat k - (0 : Nat)) (List.drop (0 : Nat) left)) + List.length [x]) *
                  (17 : Nat) ≤
                (35184372088832 : Nat) ∧
              True)
            (Out.need ((0 : Int) ≤ k ∧ k ≤ (↑(List.length left) : Int))
              (Out.need
                ((List.length ([] ++ List.take (Int.toNat k - (0 : Nat)) (List.drop (0 : Nat) left) ++ [x]) +
                        List.length (List.take (List.length left - Int.toNat k) (List.drop (Int.toNat k) left))) *
                      (17 : Nat) ≤
                    (35184372088832 : Nat) ∧
                  Int.toNat k + (List.length left - Int.toNat k) ≤ List.length left)
                (Out.stop (hd Try.f33 (0 : Nat))
                  (mkS (94 : Nat)
                    [((0 : Nat), AV.d (D.sl Ty.span xs)), ((3 : Nat), AV.own (0 : Nat) Ty.span),
                      ((4 : Nat), AV.d (D.v (Value.int IntKind.i64 (IntKind.wrap IntKind.i64 (i + (1 : Int))))))]
                    [((0 : Nat),
                        ABlk.row (38 : Nat) Ty.span
                          (List.take (Int.toNat k - (0 : Nat)) (List.drop (0 : Nat) left) ++ [x] ++
                            List.take (List.length left - Int.toNat k) (List.drop (Int.toNat k) left)))]
                    (1 : Nat)))))))))) := by kernel_rfl

theorem t36 (xs : List Span) (a : Span) : @Eq (Out (TyTup [.sl .span])) (aexec Try.prog codes sigs Try.f36 (pureFin [.sl .span]) 0 noCut 200 false (bodyOf Try.f36) (startS Try.f36 [⟨.sl .span, xs⟩, ⟨.span, a⟩]))
    (bif decide (Span.lo a > Span.hi a) then Out.need (True ∧ True) (Out.ret [])
  else
  Out.need ((True ∧ True) ∧ True)
    (Out.callP (33 : Nat) [Sigma.mk (Ty.sl Ty.span) xs] [Ty.sl Ty.span] fun (x : List Span) =>
      Out.stop (hd Try.f36 (0 : Nat))
        (mkS (80 : Nat)
          [((3 : Nat), AV.ptr (0 : Nat) (0 : Nat)), ((5 : Nat), AV.d (D.v (Value.slice none (0 : Nat) (0 : Nat)))),
            ((6 : Nat), AV.d (D.sl Ty.span x)), ((7 : Nat), AV.d (D.v (Value.int IntKind.i64 (0 : Int))))]
          [((0 : Nat),
              ABlk.box
                [AV.d (D.v (Value.int IntKind.i64 (Span.lo a))), AV.d (D.v (Value.int IntKind.i64 (Span.hi a)))])]
          (1 : Nat)))) := by kernel_rfl

theorem t36a (js out : List Span) (w : Span) (i : Int) : @Eq (Out (TyTup [.sl .span])) (aexec Try.prog codes sigs Try.f36 (pureFin [.sl .span]) 0 noCut 200 true (hd Try.f36 0) (L36 js out w i))
    (bif decide (i < (↑(List.length js) : Int)) then
  Out.need (((0 : Int) ≤ i ∧ i < (↑(List.length js) : Int)) ∧ True)
    (bif decide (Span.hi (List.getD js (Int.toNat i) (Ty.dflt Ty.span)) < Span.lo w) then
      Out.stop (hd Try.f36 (0 : Nat))
        (mkS (80 : Nat)
          [((3 : Nat), AV.ptr (0 : Nat) (0 : Nat)), ((5 : Nat), AV.own (1 : Nat) Ty.span),
            ((6 : Nat), AV.d (D.sl Ty.span js)),
            ((7 : Nat), AV.d (D.v (Value.int IntKind.i64 (IntKind.wrap IntKind.i64 (i + (1 : Int))))))]
          [((0 : Nat),
              ABlk.box
                [AV.d (D.v (Value.int IntKind.i64 (Span.lo w))), AV.d (D.v (Value.int IntKind.i64 (Span.hi w)))]),
            ((1 : Nat), ABlk.row (38 : TypeId) Ty.span out)]
          (2 : Nat))
    else
      Out.need (((0 : Int) ≤ i ∧ i < (↑(List.length js) : Int)) ∧ True)
        (bif decide (Span.lo (List.getD js (Int.toNat i) (Ty.dflt Ty.span)) > Span.hi w) then
          Out.stop (hd Try.f36 (0 : Nat))
            (mkS (80 : Nat)
              [((3 : Nat), AV.ptr (0 : Nat) (0 : Nat)), ((5 : Nat), AV.own (1 : Nat) Ty.span),
                ((6 : Nat), AV.d (D.sl Ty.span js)),
                ((7 : Nat), AV.d (D.v (Value.int IntKind.i64 (IntKind.wrap IntKind.i64 (i + (1 : Int))))))]
              [((0 : Nat),
                  ABlk.box
                    [AV.d (D.v (Value.int IntKind.i64 (Span.lo w))), AV.d (D.v (Value.int IntKind.i64 (Span.hi w)))]),
                ((1 : Nat), ABlk.row (38 : TypeId) Ty.span out)]
              (2 : Nat))
        else
          Out.need (((0 : Int) ≤ i ∧ i < (↑(List.length js) : Int)) ∧ True)
            (bif decide (Span.lo (List.getD js (Int.toNat i) (Ty.dflt Ty.span)) > Span.lo w) then
              Out.need (((0 : Int) ≤ i ∧ i < (↑(List.length js) : Int)) ∧ True)
                (Out.need ((True ∧ True ∧ True) ∧ True)
                  (Out.need
                    ((List.length out +
                            List.length
                              [Span.mk (Span.lo w)
                                  (IntKind.wrap IntKind.i64
                                    (Span.lo (List.getD js (Int.toNat i) (Ty.dflt Ty.span)) - (1 : Int)))]) *
                          (17 : Nat) ≤
                        (35184372088832 : Nat) ∧
                      True)
                    (Out.need (((0 : Int) ≤ i ∧ i < (↑(List.length js) : Int)) ∧ True)
                      (bif decide (Span.hi (List.getD js (Int.toNat i) (Ty.dflt Ty.span)) ≥ Span.hi w) then
                        Out.need (True ∧ True)
                          (Out.ret
                            (out ++
                              [Span.mk (Span.lo w)
                                  (IntKind.wrap IntKind.i64
                                    (Span.lo (List.getD js (Int.toNat i) (Ty.dflt Ty.span)) - (1 : Int)))]))
                      else
                        Out.need (((0 : Int) ≤ i ∧ i < (↑(List.length js) : Int)) ∧ True)
                          (Out.stop (hd Try.f36 (0 : Nat))
                            (mkS (80 : Nat)
                              [((3 : Nat), AV.ptr (0 : Nat) (0 : Nat)), ((5 : Nat), AV.own (1 : Nat) Ty.span),
                                ((6 : Nat), AV.d (D.sl Ty.span js)),
                                ((7 : Nat),
                                  AV.d (D.v (Value.int IntKind.i64 (IntKind.wrap IntKind.i64 (i + (1 : Int))))))]
                              [((0 : Nat),
                                  ABlk.box
                                    [AV.d
                                        (D.v
                                          (Value.int IntKind.i64
                                            (IntKind.wrap IntKind.i64
                                              (Span.hi (List.getD js (Int.toNat i) (Ty.dflt Ty.span)) + (1 : Int))))),
                                      AV.d (D.v (Value.int IntKind.i64 (Span.hi w)))]),
                                ((1 : Nat),
                                  ABlk.row (38 : Nat) Ty.span
                                    (out ++
                                      [Span.mk (Span.lo w)
                                          (IntKind.wrap IntKind.i64
                                            (Span.lo (List.getD js (Int.toNat i) (Ty.dflt Ty.span)) - (1 : Int)))]))]
                              (2 : Nat)))))))
            else
              Out.need (((0 : Int) ≤ i ∧ i < (↑(List.length js) : Int)) ∧ True)
                (bif decide (Span.hi (List.getD js (Int.toNat i) (Ty.dflt Ty.span)) ≥ Span.hi w) then
                  Out.need (True ∧ True) (Out.ret out)
                else
                  Out.need (((0 : Int) ≤ i ∧ i < (↑(List.length js) : Int)) ∧ True)
                    (Out.stop (hd Try.f36 (0 : Nat))
                      (mkS (80 : Nat)
                        [((3 : Nat), AV.ptr (0 : Nat) (0 : Nat)), ((5 : Nat), AV.own (1 : Nat) Ty.span),
                          ((6 : Nat), AV.d (D.sl Ty.span js)),
                          ((7 : Nat), AV.d (D.v (Value.int IntKind.i64 (IntKind.wrap IntKind.i64 (i + (1 : Int))))))]
                        [((0 : Nat),
                            ABlk.box
                              [AV.d
                                  (D.v
                                    (Value.int IntKind.i64
                                      (IntKind.wrap IntKind.i64
                                        (Span.hi (List.getD js (Int.toNat i) (Ty.dflt Ty.span)) + (1 : Int))))),
                                AV.d (D.v (Value.int IntKind.i64 (Span.hi w)))]),
                          ((1 : Nat), ABlk.row (38 : TypeId) Ty.span out)]
                        (2 : Nat)))))))
  else
  Out.need ((True ∧ True ∧ True) ∧ True)
    (Out.need ((List.length out + List.length [w]) * (17 : Nat) ≤ (35184372088832 : Nat) ∧ True)
      (Out.need (True ∧ True) (Out.ret (out ++ [w]))))) := by kernel_rfl

theorem t32 (xs ys : List Span) : @Eq (Out (TyTup [.bool])) (aexec Try.prog codes sigs Try.f32 (pureFin [.bool]) 0 noCut 200 false (bodyOf Try.f32) (startS Try.f32 [⟨.sl .span, xs⟩, ⟨.sl .span, ys⟩]))
    (bif (↑(List.length xs) : Int) != (↑(List.length ys) : Int) then Out.need (True ∧ True) (Out.ret false)
  else
  Out.stop (hd Try.f32 (0 : Nat))
    (mkS (26 : Nat)
      [((0 : Nat), AV.d (D.sl Ty.span xs)), ((1 : Nat), AV.d (D.sl Ty.span ys)),
        ((5 : Nat), AV.d (D.v (Value.int IntKind.i64 (0 : Int))))]
      [] (0 : Nat))) := by kernel_rfl

theorem t32a (xs ys : List Span) (i : Int) : @Eq (Out (TyTup [.bool])) (aexec Try.prog codes sigs Try.f32 (pureFin [.bool]) 0 noCut 200 true (hd Try.f32 0) (L32 xs ys i))
    (bif decide (i < (↑(List.length xs) : Int)) then
  Out.need (((0 : Int) ≤ i ∧ i < (↑(List.length xs) : Int)) ∧ True)
    (Out.need (((0 : Int) ≤ i ∧ i < (↑(List.length ys) : Int)) ∧ True)
      (bif
          !(Span.lo (List.getD xs (Int.toNat i) (Ty.dflt Ty.span)) ==
                Span.lo (List.getD ys (Int.toNat i) (Ty.dflt Ty.span)) &&
              (Span.hi (List.getD xs (Int.toNat i) (Ty.dflt Ty.span)) ==
                  Span.hi (List.getD ys (Int.toNat i) (Ty.dflt Ty.span)) &&
                true)) then
        Out.need (True ∧ True) (Out.ret false)
      else
        Out.stop (hd Try.f32 (0 : Nat))
          (mkS (26 : Nat)
            [((0 : Nat), AV.d (D.sl Ty.span xs)), ((1 : Nat), AV.d (D.sl Ty.span ys)),
              ((5 : Nat), AV.d (D.v (Value.int IntKind.i64 (IntKind.wrap IntKind.i64 (i + (1 : Int))))))]
            [] (0 : Nat))))
  else Out.need (True ∧ True) (Out.ret true)) := by kernel_rfl

theorem t34 (xs : List Span) (n : Int) : @Eq (Out (TyTup [.int])) (aexec Try.prog codes sigs Try.f34 (pureFin [.int]) 0 noCut 200 false (bodyOf Try.f34) (startS Try.f34 [⟨.sl .span, xs⟩, ⟨.int, n⟩]))
    (Out.stop (hd Try.f34 (0 : Nat))
  (mkS (22 : Nat)
    [((0 : Nat), AV.d (D.sl Ty.span xs)), ((1 : Nat), AV.d (D.v (Value.int IntKind.i64 n))),
      ((5 : Nat), AV.d (D.v (Value.int IntKind.i64 (0 : Int)))),
      ((6 : Nat), AV.d (D.v (Value.int IntKind.i64 (0 : Int))))]
    [] (0 : Nat))) := by kernel_rfl

theorem t34a (xs : List Span) (n c i : Int) : @Eq (Out (TyTup [.int])) (aexec Try.prog codes sigs Try.f34 (pureFin [.int]) 0 noCut 200 true (hd Try.f34 0) (L34 xs n c i))
    (bif decide (i < (↑(List.length xs) : Int)) then
  Out.need (((0 : Int) ≤ i ∧ i < (↑(List.length xs) : Int)) ∧ True)
    (Out.need ((True ∧ True ∧ True) ∧ (True ∧ True) ∧ True)
      (Out.callP (29 : Nat) [Sigma.mk Ty.span (List.getD xs (Int.toNat i) (Ty.dflt Ty.span)), Sigma.mk Ty.int n]
        [Ty.bool] fun (x : Bool) =>
        bif x then
          Out.stop (hd Try.f34 (0 : Nat))
            (mkS (22 : Nat)
              [((0 : Nat), AV.d (D.sl Ty.span xs)), ((1 : Nat), AV.d (D.v (Value.int IntKind.i64 n))),
                ((5 : Nat), AV.d (D.v (Value.int IntKind.i64 (IntKind.wrap IntKind.i64 (c + (1 : Int)))))),
                ((6 : Nat), AV.d (D.v (Value.int IntKind.i64 (IntKind.wrap IntKind.i64 (i + (1 : Int))))))]
              [] (0 : Nat))
        else
          Out.stop (hd Try.f34 (0 : Nat))
            (mkS (22 : Nat)
              [((0 : Nat), AV.d (D.sl Ty.span xs)), ((1 : Nat), AV.d (D.v (Value.int IntKind.i64 n))),
                ((5 : Nat), AV.d (D.v (Value.int IntKind.i64 c))),
                ((6 : Nat), AV.d (D.v (Value.int IntKind.i64 (IntKind.wrap IntKind.i64 (i + (1 : Int))))))]
              [] (0 : Nat))))
  else Out.need (True ∧ True) (Out.ret c)) := by kernel_rfl

theorem t7 (xs : List Span) (n : Int) : @Eq (Out (TyTup [.bool])) (aexec Try.prog codes sigs Try.f7 (pureFin [.bool]) 0 noCut 200 false (bodyOf Try.f7) (startS Try.f7 [⟨.sl .span, xs⟩, ⟨.int, n⟩]))
    (bif decide ((↑(List.length xs) : Int) > (100 : Int)) then
  Out.need True (Out.callP (22 : Nat) [] [Ty.bool] fun (x : Bool) => Out.need (True ∧ True) (Out.ret x))
  else
  Out.need ((True ∧ True) ∧ True)
    (Out.callP (31 : Nat) [Sigma.mk (Ty.sl Ty.span) xs] [Ty.sl Ty.span] fun (x : List Span) =>
      Out.need True
        (Out.callP (22 : Nat) [] [Ty.bool] fun (x_1 : Bool) =>
          bif !x_1 then Out.need (True ∧ True) (Out.ret false)
          else
            Out.need ((True ∧ True) ∧ True)
              (Out.callP (33 : Nat) [Sigma.mk (Ty.sl Ty.span) xs] [Ty.sl Ty.span] fun (x_2 : List Span) =>
                Out.need ((True ∧ True) ∧ (True ∧ True) ∧ True)
                  (Out.callP (32 : Nat) [Sigma.mk (Ty.sl Ty.span) x, Sigma.mk (Ty.sl Ty.span) x_2] [Ty.bool]
                    fun (x_3 : Bool) =>
                    bif !x_3 then Out.need (True ∧ True) (Out.ret false)
                    else
                      Out.need ((True ∧ True) ∧ True)
                        (Out.callP (31 : Nat) [Sigma.mk (Ty.sl Ty.span) x] [Ty.sl Ty.span] fun (x_4 : List Span) =>
                          Out.need ((True ∧ True) ∧ (True ∧ True) ∧ True)
                            (Out.callP (32 : Nat) [Sigma.mk (Ty.sl Ty.span) x_4, Sigma.mk (Ty.sl Ty.span) x] [Ty.bool]
                              fun (x_5 : Bool) =>
                              bif !x_5 then Out.need (True ∧ True) (Out.ret false)
                              else
                                Out.stop (hd Try.f7 (0 : Nat))
                                  (mkS (57 : Nat)
                                    [((0 : Nat), AV.d (D.sl Ty.span xs)),
                                      ((1 : Nat), AV.d (D.v (Value.int IntKind.i64 n))),
                                      ((5 : Nat), AV.d (D.sl Ty.span x)), ((6 : Nat), AV.d (D.v (Value.bool false))),
                                      ((7 : Nat), AV.d (D.v (Value.int IntKind.i64 (0 : Int))))]
                                    [] (0 : Nat))))))))) := by kernel_rfl

theorem t7a (xs js : List Span) (n : Int) (b : Bool) (i : Int) : @Eq (Out (TyTup [.bool])) (aexec Try.prog codes sigs Try.f7 (pureFin [.bool]) 0 noCut 200 true (hd Try.f7 0) (L7 xs js n b i))
    (bif decide (i < (↑(List.length xs) : Int)) then
  bif b then
    Out.stop (hd Try.f7 (0 : Nat))
      (mkS (57 : Nat)
        [((0 : Nat), AV.d (D.sl Ty.span xs)), ((1 : Nat), AV.d (D.v (Value.int IntKind.i64 n))),
          ((5 : Nat), AV.d (D.sl Ty.span js)), ((6 : Nat), AV.d (D.v (Value.bool true))),
          ((7 : Nat), AV.d (D.v (Value.int IntKind.i64 (IntKind.wrap IntKind.i64 (i + (1 : Int))))))]
        [] (0 : Nat))
  else
    Out.need (((0 : Int) ≤ i ∧ i < (↑(List.length xs) : Int)) ∧ True)
      (Out.need ((True ∧ True ∧ True) ∧ (True ∧ True) ∧ True)
        (Out.callP (30 : Nat) [Sigma.mk Ty.span (List.getD xs (Int.toNat i) (Ty.dflt Ty.span)), Sigma.mk Ty.int n]
          [Ty.bool] fun (x : Bool) =>
          Out.stop (hd Try.f7 (0 : Nat))
            (mkS (57 : Nat)
              [((0 : Nat), AV.d (D.sl Ty.span xs)), ((1 : Nat), AV.d (D.v (Value.int IntKind.i64 n))),
                ((5 : Nat), AV.d (D.sl Ty.span js)), ((6 : Nat), AV.d (D.v (Value.bool x))),
                ((7 : Nat), AV.d (D.v (Value.int IntKind.i64 (IntKind.wrap IntKind.i64 (i + (1 : Int))))))]
              [] (0 : Nat))))
  else
  Out.need ((True ∧ True) ∧ (True ∧ True) ∧ True)
    (Out.callP (34 : Nat) [Sigma.mk (Ty.sl Ty.span) js, Sigma.mk Ty.int n] [Ty.int] fun (x : Int) =>
      bif (x == (1 : Int)) == b then
        Out.need ((True ∧ True) ∧ (True ∧ True) ∧ True)
          (Out.callP (34 : Nat) [Sigma.mk (Ty.sl Ty.span) js, Sigma.mk Ty.int n] [Ty.int] fun (x : Int) =>
            Out.need (True ∧ True) (Out.ret (decide (x < (2 : Int)))))
      else Out.need (True ∧ True) (Out.ret false))) := by kernel_rfl

theorem t8 (xs : List Span) (s : Span) (n : Int) : @Eq (Out (TyTup [.bool])) (aexec Try.prog codes sigs Try.f8 (pureFin [.bool]) 0 noCut 200 false (bodyOf Try.f8) (startS Try.f8 [⟨.sl .span, xs⟩, ⟨.span, s⟩, ⟨.int, n⟩]))
    (bif decide ((↑(List.length xs) : Int) > (100 : Int)) then
  Out.need True (Out.callP (22 : Nat) [] [Ty.bool] fun (x : Bool) => Out.need (True ∧ True) (Out.ret x))
  else
  Out.need ((True ∧ True) ∧ (True ∧ True ∧ True) ∧ True)
    (Out.callP (35 : Nat) [Sigma.mk (Ty.sl Ty.span) xs, Sigma.mk Ty.span s] [Ty.sl Ty.span] fun (x : List Span) =>
      Out.need True
        (Out.callP (22 : Nat) [] [Ty.bool] fun (x_1 : Bool) =>
          bif !x_1 then Out.need (True ∧ True) (Out.ret false)
          else
            Out.need ((True ∧ True) ∧ (True ∧ True ∧ True) ∧ True)
              (Out.callP (36 : Nat) [Sigma.mk (Ty.sl Ty.span) xs, Sigma.mk Ty.span s] [Ty.sl Ty.span]
                fun (x_2 : List Span) =>
                Out.need ((True ∧ True) ∧ (True ∧ True) ∧ True)
                  (Out.callP (32 : Nat) [Sigma.mk (Ty.sl Ty.span) x, Sigma.mk (Ty.sl Ty.span) x_2] [Ty.bool]
                    fun (x_3 : Bool) =>
                    bif !x_3 then Out.need (True ∧ True) (Out.ret false)
                    else
                      Out.need ((True ∧ True) ∧ True)
                        (Out.callP (31 : Nat) [Sigma.mk (Ty.sl Ty.span) x] [Ty.sl Ty.span] fun (x_4 : List Span) =>
                          Out.need ((True ∧ True) ∧ (True ∧ True) ∧ True)
                            (Out.callP (32 : Nat) [Sigma.mk (Ty.sl Ty.span) x_4, Sigma.mk (Ty.sl Ty.span) x] [Ty.bool]
                              fun (x_5 : Bool) =>
                              bif !x_5 then Out.need (True ∧ True) (Out.ret false)
                              else
                                Out.need ((True ∧ True ∧ True) ∧ (True ∧ True) ∧ True)
                                  (Out.callP (30 : Nat) [Sigma.mk Ty.span s, Sigma.mk Ty.int n] [Ty.bool]
                                    fun (x_6 : Bool) =>
                                    bif !x_6 then
                                      Out.need ((True ∧ True) ∧ (True ∧ True) ∧ True)
                                        (Out.callP (34 : Nat) [Sigma.mk (Ty.sl Ty.span) x, Sigma.mk Ty.int n] [Ty.int]
                                          fun (x : Int) => Out.need (True ∧ True) (Out.ret (x == (0 : Int))))
                                    else
                                      Out.need ((True ∧ True) ∧ (True ∧ True) ∧ True)
                                        (Out.callP (34 : Nat) [Sigma.mk (Ty.sl Ty.span) x, Sigma.mk Ty.int n] [Ty.int]
                                          fun (x : Int) =>
                                          Out.need ((True ∧ True) ∧ True)
                                            (Out.callP (31 : Nat) [Sigma.mk (Ty.sl Ty.span) xs] [Ty.sl Ty.span]
                                              fun (x_7 : List Span) =>
                                              Out.need ((True ∧ True) ∧ (True ∧ True) ∧ True)
                                                (Out.callP (34 : Nat) [Sigma.mk (Ty.sl Ty.span) x_7, Sigma.mk Ty.int n]
                                                  [Ty.int] fun (x_8 : Int) =>
                                                  Out.need (True ∧ True)
                                                    (Out.ret
                                                      (IntKind.wrap IntKind.i64 (x + x_8) == (1 : Int)))))))))))))) := by kernel_rfl

end Go.Proofs.Sp

/- The reference's Join and Gaps, and the law's own counts: what they come to. (Own work.) -/
namespace Go.Proofs.Sp
open Go Go.VL

theorem c26' (a b : Span) : Pure Try.prog 26 [⟨.span, a⟩, ⟨.span, b⟩] [.bool] (meets a b) := by
  rw [meets_ref]; exact c26 a b
theorem c83' (a b : Span) : Pure Try.prog 83 [⟨.span, a⟩, ⟨.span, b⟩] [.bool] (beside a b) := c83 a b

theorem goT_len : ∀ (os : List Span) (x : Span) (left : List Span), (goT os x left).2.length ≤ left.length + os.length
  | [], _, _ => Nat.le_add_right _ _
  | o :: os, x, left => by
    rw [goT]
    cases touch o x
    · have := goT_len os x (left ++ [o])
      rw [cond_false]
      simp only [List.length_append, List.length_cons, List.length_nil] at *; omega
    · have := goT_len os (hull o x) left
      rw [cond_true]
      simp only [List.length_cons] at *; omega
theorem cnt_le (l : List Span) (x : Span) : cnt l x ≤ l.length := by
  have := (List.takeWhile_prefix (l := l) fun s => decide (s.lo < x.lo)).length_le
  exact this
theorem put1_len (l : List Span) (x : Span) : (put1 l x).length = l.length + 1 := by
  have := cnt_le l x
  simp only [put1, List.length_append, List.length_take, List.length_cons, List.length_drop]; omega
theorem step1_len (out : List Span) (x : Span) : (step1 out x).length ≤ out.length + 1 := by
  unfold step1
  cases decide (x.lo > x.hi)
  · rw [cond_false, put1_len]
    have := goT_len out x []
    simp only [List.length_nil] at this; omega
  · rw [cond_true]; omega
theorem cnt_cons (s : Span) (l : List Span) (x : Span) : cnt (s :: l) x = bif decide (s.lo < x.lo) then cnt l x + 1 else 0 := by
  unfold cnt
  rw [List.takeWhile_cons]
  by_cases h : s.lo < x.lo
  · simp [h]
  · simp [h]
theorem getD_at {l : List Span} {k : Nat} (h : k < l.length) : l.getD k Ty.span.dflt = l[k] := by simp [List.getD, h]


theorem loop33c {xs left : List Span} {x : Span} {i : Nat} (hl : Sm (left.length + 1)) (hi : i < 9223372036854775000) {r : List Span} {A : List Item → AS → Prop} (hA : Closed Try.prog codes sigs Try.f33 (pureFin [.sl .span]) (fun y => y = r) 0 A)
    (k : Nat) (hk : k ≤ left.length) (hc : cnt left x = k + cnt (left.drop k) x) (h : A (hd Try.f33 0) (L33 xs (put1 left x) ((i + 1 : Nat) : Int))) : A (hd Try.f33 2) (L33c xs left x i k) := by
  have hl' := hl
  unfold Sm at hl
  have hk1 : IntKind.i64.wrap ((k : Int) + 1) = ((k + 1 : Nat) : Int) := by rw [wrap64 (by omega) (by omega)]; rfl
  have hi1 : IntKind.i64.wrap ((i : Int) + 1) = ((i + 1 : Nat) : Int) := by rw [wrap64 (by omega) (by omega)]; rfl
  refine hA.go (t33c xs left x i k) ?_
  refine sat_bif (fun h1 => ?_) (fun h1 => ?_)
  · simp only [decide_eq_true_eq] at h1
    have hkl : k < left.length := by omega
    have hg : left.getD ((k : Int).toNat) Ty.span.dflt = left[k] := getD_at hkl

    refine ⟨⟨(by first | omega | (simp; omega)), (by first | omega | (simp; omega))⟩, ?_⟩
    refine ⟨(by first | omega | (simp; omega)), ?_⟩
    refine sat_bif (fun h2 => ?_) (fun h2 => ?_)   -- decide (Span.lo (List.getD left (Int.toNat k) (Ty.dflt Ty.span)) < Span.lo x)
    · skip
      rw [hk1]
      refine loop33c hl' hi hA (k + 1) (by omega) ?_ h
      have h2 := of_decide_eq_true h2
      rw [hg] at h2
      rw [hc, List.drop_eq_getElem_cons hkl, cnt_cons, decide_eq_true h2, cond_true]; omega
    · skip
      refine ⟨trivial, ?_⟩
      refine ⟨⟨(by first | omega | (simp; omega)), ⟨(by first | omega | (simp; omega)), (by first | omega | (simp; omega))⟩⟩, ?_⟩
      refine ⟨⟨(by first | omega | (simp; omega)), (by first | omega | (simp; omega))⟩, ?_⟩
      refine ⟨⟨⟨trivial, ⟨trivial, trivial⟩⟩, trivial⟩, ?_⟩
      refine ⟨⟨(by first | omega | (simp; omega)), trivial⟩, ?_⟩
      refine ⟨⟨(by first | omega | (simp; omega)), (by first | omega | (simp; omega))⟩, ?_⟩
      refine ⟨⟨(by first | omega | (simp; omega)), (by first | omega | (simp; omega))⟩, ?_⟩
      have h2 := of_decide_eq_false h2
      rw [hg] at h2
      have hck : cnt left x = k := by rw [hc, List.drop_eq_getElem_cons hkl, cnt_cons, decide_eq_false h2, cond_false]; omega
      have e : List.take (Int.toNat (k : Int) - 0) (List.drop 0 left) ++ [x] ++ List.take (List.length left - Int.toNat (k : Int)) (List.drop (Int.toNat (k : Int)) left) = put1 left x := by
        rw [put1, hck]
        simp only [Int.toNat_natCast, Nat.sub_zero, List.drop_zero, List.append_assoc, List.singleton_append]
        rw [List.take_of_length_le (l := List.drop k left) (by rw [List.length_drop]; omega)]
      rw [hi1]
      show A (hd Try.f33 0) (L33 xs (List.take (Int.toNat (k : Int) - 0) (List.drop 0 left) ++ [x] ++ List.take (List.length left - Int.toNat (k : Int)) (List.drop (Int.toNat (k : Int)) left)) ((i + 1 : Nat) : Int))
      rw [e]; exact h
  · simp only [decide_eq_false_iff_not] at h1
    refine ⟨trivial, ?_⟩
    refine ⟨⟨(by first | omega | (simp; omega)), ⟨(by first | omega | (simp; omega)), (by first | omega | (simp; omega))⟩⟩, ?_⟩
    refine ⟨⟨(by first | omega | (simp; omega)), (by first | omega | (simp; omega))⟩, ?_⟩
    refine ⟨⟨⟨trivial, ⟨trivial, trivial⟩⟩, trivial⟩, ?_⟩
    refine ⟨⟨(by first | omega | (simp; omega)), trivial⟩, ?_⟩
    refine ⟨⟨(by first | omega | (simp; omega)), (by first | omega | (simp; omega))⟩, ?_⟩
    refine ⟨⟨(by first | omega | (simp; omega)), (by first | omega | (simp; omega))⟩, ?_⟩
    have hck : cnt left x = k := by rw [hc, List.drop_eq_nil_of_le (by omega)]; rfl
    have e : List.take (Int.toNat (k : Int) - 0) (List.drop 0 left) ++ [x] ++ List.take (List.length left - Int.toNat (k : Int)) (List.drop (Int.toNat (k : Int)) left) = put1 left x := by
      rw [put1, hck]
      simp only [Int.toNat_natCast, Nat.sub_zero, List.drop_zero, List.append_assoc, List.singleton_append]
      rw [List.take_of_length_le (l := List.drop k left) (by rw [List.length_drop]; omega)]
    rw [hi1]
    show A (hd Try.f33 0) (L33 xs (List.take (Int.toNat (k : Int) - 0) (List.drop 0 left) ++ [x] ++ List.take (List.length left - Int.toNat (k : Int)) (List.drop (Int.toNat (k : Int)) left)) ((i + 1 : Nat) : Int))
    rw [e]; exact h
termination_by left.length - k

theorem loop33b {xs out : List Span} {i : Nat} (hl : Sm (out.length + 1)) (hi : i < 9223372036854775000) {r : List Span} {A : List Item → AS → Prop} (hA : Closed Try.prog codes sigs Try.f33 (pureFin [.sl .span]) (fun y => y = r) 0 A)
    (k : Nat) (left : List Span) (x : Span) (hk : k ≤ out.length) (hll : left.length ≤ k) (h : A (hd Try.f33 2) (L33c xs (goT (out.drop k) x left).2 (goT (out.drop k) x left).1 i 0)) : A (hd Try.f33 1) (L33b xs out left x i k) := by
  have hl' := hl
  unfold Sm at hl
  have hk1 : IntKind.i64.wrap ((k : Int) + 1) = ((k + 1 : Nat) : Int) := by rw [wrap64 (by omega) (by omega)]; rfl
  refine hA.go (t33b xs out left x i k) ?_
  refine sat_bif (fun h1 => ?_) (fun h1 => ?_)
  · simp only [decide_eq_true_eq] at h1
    have hkl : k < out.length := by omega
    have hg : out.getD ((k : Int).toNat) Ty.span.dflt = out[k] := getD_at hkl
    refine ⟨⟨(by first | omega | (simp; omega)), (by first | omega | (simp; omega))⟩, ?_⟩
    refine ⟨(by first | omega | (simp; omega)), ?_⟩
    refine ⟨⟨⟨trivial, ⟨trivial, trivial⟩⟩, ⟨⟨trivial, ⟨trivial, trivial⟩⟩, trivial⟩⟩, ?_⟩
    refine ⟨_, c26' _ _, ?_⟩
    refine sat_bif (fun h2 => ?_) (fun h2 => ?_)   -- x_1
    · skip
      refine ⟨⟨(by first | omega | (simp; omega)), (by first | omega | (simp; omega))⟩, ?_⟩
      refine ⟨(by first | omega | (simp; omega)), ?_⟩
      refine ⟨⟨⟨trivial, ⟨trivial, trivial⟩⟩, ⟨⟨trivial, ⟨trivial, trivial⟩⟩, trivial⟩⟩, ?_⟩
      refine ⟨_, c24 _ _, ?_⟩
      rw [hk1]
      refine loop33b hl' hi hA (k + 1) left _ (by omega) (by omega) ?_
      have ht : touch out[k] x = true := by unfold touch; simp only [← hg]; rw [show meets _ x = true from h2, cond_true]
      rw [List.drop_eq_getElem_cons hkl, goT, ht, cond_true] at h
      rw [hg]; exact h
    · skip
      refine ⟨⟨(by first | omega | (simp; omega)), (by first | omega | (simp; omega))⟩, ?_⟩
      refine ⟨(by first | omega | (simp; omega)), ?_⟩
      refine ⟨⟨⟨trivial, ⟨trivial, trivial⟩⟩, ⟨⟨trivial, ⟨trivial, trivial⟩⟩, trivial⟩⟩, ?_⟩
      refine ⟨_, c83' _ _, ?_⟩
      refine sat_bif (fun h3 => ?_) (fun h3 => ?_)   -- x_2
      · skip
        refine ⟨⟨(by first | omega | (simp; omega)), (by first | omega | (simp; omega))⟩, ?_⟩
        refine ⟨(by first | omega | (simp; omega)), ?_⟩
        refine ⟨⟨⟨trivial, ⟨trivial, trivial⟩⟩, ⟨⟨trivial, ⟨trivial, trivial⟩⟩, trivial⟩⟩, ?_⟩
        refine ⟨_, c24 _ _, ?_⟩
        rw [hk1]
        refine loop33b hl' hi hA (k + 1) left _ (by omega) (by omega) ?_
        have ht : touch out[k] x = true := by unfold touch; simp only [← hg]; rw [show meets _ x = false from h2, show beside _ x = true from h3, cond_false, cond_true]
        rw [List.drop_eq_getElem_cons hkl, goT, ht, cond_true] at h
        rw [hg]; exact h
      · skip
        refine ⟨⟨(by first | omega | (simp; omega)), (by first | omega | (simp; omega))⟩, ?_⟩
        refine ⟨(by first | omega | (simp; omega)), ?_⟩
        refine ⟨⟨⟨trivial, ⟨trivial, trivial⟩⟩, ⟨⟨trivial, ⟨trivial, trivial⟩⟩, trivial⟩⟩, ?_⟩
        refine ⟨_, c83' _ _, ?_⟩
        refine sat_bif (fun h4 => ?_) (fun h4 => ?_)   -- x_3
        · skip
          refine ⟨⟨(by first | omega | (simp; omega)), (by first | omega | (simp; omega))⟩, ?_⟩
          refine ⟨(by first | omega | (simp; omega)), ?_⟩
          refine ⟨⟨⟨trivial, ⟨trivial, trivial⟩⟩, ⟨⟨trivial, ⟨trivial, trivial⟩⟩, trivial⟩⟩, ?_⟩
          refine ⟨_, c24 _ _, ?_⟩
          rw [hk1]
          refine loop33b hl' hi hA (k + 1) left _ (by omega) (by omega) ?_
          have ht : touch out[k] x = true := by unfold touch; simp only [← hg]; rw [show meets _ x = false from h2, show beside _ x = false from h3, show beside x _ = true from h4, cond_false, cond_false]
          rw [List.drop_eq_getElem_cons hkl, goT, ht, cond_true] at h
          rw [hg]; exact h
        · skip
          refine ⟨⟨(by first | omega | (simp; omega)), (by first | omega | (simp; omega))⟩, ?_⟩
          refine ⟨(by first | omega | (simp; omega)), ?_⟩
          refine ⟨⟨⟨trivial, ⟨trivial, trivial⟩⟩, trivial⟩, ?_⟩
          refine ⟨⟨(by first | omega | (simp; omega)), trivial⟩, ?_⟩
          rw [hk1]
          refine loop33b hl' hi hA (k + 1) (left ++ [out.getD ((k : Int).toNat) Ty.span.dflt]) x (by omega) (by simp only [List.length_append, List.length_cons, List.length_nil]; omega) ?_
          have ht : touch out[k] x = false := by unfold touch; simp only [← hg]; rw [show meets _ x = false from h2, show beside _ x = false from h3, show beside x _ = false from h4, cond_false, cond_false]
          rw [List.drop_eq_getElem_cons hkl, goT, ht, cond_false] at h
          rw [hg]; exact h
  · simp only [decide_eq_false_iff_not] at h1
    rw [List.drop_eq_nil_of_le (by omega)] at h
    exact h
termination_by out.length - k

theorem loop33 {xs : List Span} (hl : Sm xs.length) {r : List Span} {A : List Item → AS → Prop} (hA : Closed Try.prog codes sigs Try.f33 (pureFin [.sl .span]) (fun y => y = r) 0 A)
    (i : Nat) (out : List Span) (hn : i ≤ xs.length) (ho : out.length ≤ i) (h : (xs.drop i).foldl step1 out = r) : A (hd Try.f33 0) (L33 xs out i) := by
  have hl' := hl
  unfold Sm at hl
  have hi1 : IntKind.i64.wrap ((i : Int) + 1) = ((i + 1 : Nat) : Int) := by rw [wrap64 (by omega) (by omega)]; rfl
  refine hA.go (t33a xs out i) ?_
  refine sat_bif (fun h1 => ?_) (fun h1 => ?_)
  · simp only [decide_eq_true_eq] at h1
    have hil : i < xs.length := by omega
    have hg : xs.getD ((i : Int).toNat) Ty.span.dflt = xs[i] := getD_at hil
    refine ⟨⟨⟨(by first | omega | (simp; omega)), (by first | omega | (simp; omega))⟩, trivial⟩, ?_⟩
    refine sat_bif (fun h2 => ?_) (fun h2 => ?_)   -- decide           (Span.lo (List.getD xs (Int.toNat i) (Ty.dflt Ty.span)) >             Span.hi (List
    · skip
      rw [hi1]
      refine loop33 hl' hA (i + 1) out (by omega) (by omega) ?_
      have h2 := of_decide_eq_true h2
      rw [hg] at h2
      rw [List.drop_eq_getElem_cons hil, List.foldl_cons, step1, decide_eq_true h2, cond_true] at h
      exact h
    · skip
      refine hA.row 6 38 .span (by kernel_rfl) (s' := L33b xs out [] (xs.getD ((i : Int).toNat) Ty.span.dflt) i 0) (by kernel_rfl) ?_
      refine loop33b (by unfold Sm; omega) (by omega) hA 0 [] _ (by omega) (by simp) ?_
      have hgl := goT_len out (xs.getD ((i : Int).toNat) Ty.span.dflt) []
      simp only [List.length_nil] at hgl
      refine loop33c (by unfold Sm; show ((goT out _ []).2.length + 1) * 17 ≤ _; omega) (by omega) hA 0 (by omega) (Nat.zero_add _).symm ?_
      have hsl := step1_len out xs[i]
      refine loop33 hl' hA (i + 1) _ (by omega) ?_ ?_
      · rw [put1_len]; show (goT out _ []).2.length + 1 ≤ _; omega
      · have h2 := of_decide_eq_false h2
        rw [hg] at h2
        rw [List.drop_eq_getElem_cons hil, List.foldl_cons, step1, decide_eq_false h2, cond_false] at h
        rw [hg]; exact h
  · simp only [decide_eq_false_iff_not] at h1
    refine ⟨⟨trivial, trivial⟩, ?_⟩
    rw [List.drop_eq_nil_of_le (by omega)] at h
    exact h
termination_by xs.length - i

theorem c33 {xs : List Span} (hl : Sm xs.length) : Pure Try.prog 33 [⟨.sl .span, xs⟩] [.sl .span] (refJ xs) :=
  Pure.of_closed (C := codes) (S := sigs) mixed Try.func33 (by kernel_rfl) (Nat.le_of_ble_eq_true (by kernel_rfl)) fun A hA => hA.go (t33 xs)
    (hA.row 3 38 .span (by kernel_rfl) (s' := L33 xs [] 0) (by kernel_rfl) (loop33 hl hA 0 [] (by omega) (by simp) rfl))
end Go.Proofs.Sp

/- SpanJoins and SpanGaps: true. (Own work.) -/
namespace Go.Proofs.Sp
open Go Go.VL

theorem loop36 {js : List Span} (hl : Sm (js.length + 1)) {r : List Span} {A : List Item → AS → Prop} (hA : Closed Try.prog codes sigs Try.f36 (pureFin [.sl .span]) (fun y => y = r) 0 A)
    (i : Nat) (out : List Span) (w : Span) (hn : i ≤ js.length) (ho : out.length ≤ i) (h : goH (js.drop i) out w = r) : A (hd Try.f36 0) (L36 js out w i) := by
  have hl' := hl
  unfold Sm at hl
  have hi1 : IntKind.i64.wrap ((i : Int) + 1) = ((i + 1 : Nat) : Int) := by rw [wrap64 (by omega) (by omega)]; rfl
  refine hA.go (t36a js out w i) ?_
  refine sat_bif (fun h1 => ?_) (fun h1 => ?_)
  · simp only [decide_eq_true_eq] at h1
    have hil : i < js.length := by omega
    have hg : js.getD ((i : Int).toNat) Ty.span.dflt = js[i] := getD_at hil
    refine ⟨⟨⟨(by first | omega | (simp; omega)), (by first | omega | (simp; omega))⟩, trivial⟩, ?_⟩
    refine sat_bif (fun h2 => ?_) (fun h2 => ?_)   -- decide (Span.hi (List.getD js (Int.toNat i) (Ty.dflt Ty.span)) < Span.lo w)
    · skip
      rw [List.drop_eq_getElem_cons hil, goH, ← hg] at h
      rw [h2, cond_true, cond_true] at h
      rw [hi1]
      exact loop36 hl' hA (i + 1) out w (by omega) (by omega) h
    · skip
      refine ⟨⟨⟨(by first | omega | (simp; omega)), (by first | omega | (simp; omega))⟩, trivial⟩, ?_⟩
      refine sat_bif (fun h3 => ?_) (fun h3 => ?_)   -- decide (Span.lo (List.getD js (Int.toNat i) (Ty.dflt Ty.span)) > Span.hi w)
      · skip
        rw [List.drop_eq_getElem_cons hil, goH, ← hg] at h
        rw [h2, cond_false, h3, cond_true] at h
        rw [hi1]
        exact loop36 hl' hA (i + 1) out w (by omega) (by omega) h
      · skip
        refine ⟨⟨⟨(by first | omega | (simp; omega)), (by first | omega | (simp; omega))⟩, trivial⟩, ?_⟩
        refine sat_bif (fun h4 => ?_) (fun h4 => ?_)   -- decide (Span.lo (List.getD js (Int.toNat i) (Ty.dflt Ty.span)) > Span.lo w)
        · skip
          refine ⟨⟨⟨(by first | omega | (simp; omega)), (by first | omega | (simp; omega))⟩, trivial⟩, ?_⟩
          refine ⟨⟨⟨trivial, ⟨trivial, trivial⟩⟩, trivial⟩, ?_⟩
          refine ⟨⟨(by first | omega | (simp; omega)), trivial⟩, ?_⟩
          refine ⟨⟨⟨(by first | omega | (simp; omega)), (by first | omega | (simp; omega))⟩, trivial⟩, ?_⟩
          refine sat_bif (fun h5 => ?_) (fun h5 => ?_)   -- decide (Span.hi (List.getD js (Int.toNat i) (Ty.dflt Ty.span)) ≥ Span.hi w)
          · skip
            refine ⟨⟨trivial, trivial⟩, ?_⟩
            rw [List.drop_eq_getElem_cons hil, goH, ← hg] at h
            rw [h2, cond_false, h3, cond_false, h5, cond_true, h4, cond_true] at h
            exact h
          · skip
            refine ⟨⟨⟨(by first | omega | (simp; omega)), (by first | omega | (simp; omega))⟩, trivial⟩, ?_⟩
            rw [List.drop_eq_getElem_cons hil, goH, ← hg] at h
            rw [h2, cond_false, h3, cond_false, h5, cond_false, h4, cond_true] at h
            rw [hi1]
            exact loop36 hl' hA (i + 1) _ ⟨_, w.hi⟩ (by omega) (by simp; omega) h
        · skip
          refine ⟨⟨⟨(by first | omega | (simp; omega)), (by first | omega | (simp; omega))⟩, trivial⟩, ?_⟩
          refine sat_bif (fun h6 => ?_) (fun h6 => ?_)   -- decide (Span.hi (List.getD js (Int.toNat i) (Ty.dflt Ty.span)) ≥ Span.hi w)
          · skip
            refine ⟨⟨trivial, trivial⟩, ?_⟩
            rw [List.drop_eq_getElem_cons hil, goH, ← hg] at h
            rw [h2, cond_false, h3, cond_false, h6, cond_true, h4, cond_false] at h
            exact h
          · skip
            refine ⟨⟨⟨(by first | omega | (simp; omega)), (by first | omega | (simp; omega))⟩, trivial⟩, ?_⟩
            rw [List.drop_eq_getElem_cons hil, goH, ← hg] at h
            rw [h2, cond_false, h3, cond_false, h6, cond_false, h4, cond_false] at h
            rw [hi1]
            exact loop36 hl' hA (i + 1) out ⟨_, w.hi⟩ (by omega) (by omega) h
  · simp only [decide_eq_false_iff_not] at h1
    rw [List.drop_eq_nil_of_le (by omega)] at h
    refine ⟨⟨⟨trivial, ⟨trivial, trivial⟩⟩, trivial⟩, ?_⟩
    refine ⟨⟨(by first | omega | (simp; omega)), trivial⟩, ?_⟩
    refine ⟨⟨trivial, trivial⟩, ?_⟩
    exact h
termination_by js.length - i

theorem refJ_len (l : List Span) : (refJ l).length ≤ l.length := by
  have : ∀ (l out : List Span), (l.foldl step1 out).length ≤ out.length + l.length := by
    intro l
    induction l with
    | nil => intro out; simp
    | cons x l ih =>
      intro out
      have := ih (step1 out x)
      have := step1_len out x
      simp only [List.foldl_cons, List.length_cons]; omega
  have := this l []
  simpa [refJ] using this
theorem goH_len : ∀ (js out : List Span) (w : Span), (goH js out w).length ≤ out.length + js.length + 1
  | [], out, w => by simp [goH]
  | j :: js, out, w => by
    rw [goH]
    have h1 := goH_len js out w
    have key : ∀ b : Bool, (bif b then out ++ [⟨w.lo, IntKind.i64.wrap (j.lo - 1)⟩] else out).length ≤ out.length + 1 := fun b => by cases b <;> simp
    have k := key (decide (j.lo > w.lo))
    have h2 := goH_len js (bif decide (j.lo > w.lo) then out ++ [⟨w.lo, IntKind.i64.wrap (j.lo - 1)⟩] else out) ⟨IntKind.i64.wrap (j.hi + 1), w.hi⟩
    simp only [List.length_cons]
    cases (bif decide (j.hi < w.lo) then true else decide (j.lo > w.hi))
    · rw [cond_false]
      cases decide (j.hi ≥ w.hi)
      · rw [cond_false]; omega
      · rw [cond_true]; omega
    · rw [cond_true]; omega
theorem refG_len (l : List Span) (w : Span) : (refG l w).length ≤ l.length + 1 := by
  unfold refG
  cases decide (w.lo > w.hi)
  · rw [cond_false]
    have := goH_len (refJ l) [] w
    have := refJ_len l
    simp only [List.length_nil] at *; omega
  · simp

theorem c36 {xs : List Span} {a : Span} (hl : Sm (xs.length + 1)) : Pure Try.prog 36 [⟨.sl .span, xs⟩, ⟨.span, a⟩] [.sl .span] (refG xs a) :=
  Pure.of_closed (C := codes) (S := sigs) mixed Try.func36 (by kernel_rfl) (Nat.le_of_ble_eq_true (by kernel_rfl)) fun A hA => hA.go (t36 xs a) (by
    have hlen := refJ_len xs
    have hl' := hl
    unfold Sm at hl
    refine sat_bif (fun h1 => ?_) (fun h1 => ?_)
    · refine ⟨⟨trivial, trivial⟩, ?_⟩
      show [] = refG xs a
      rw [refG, h1]; rfl
    · refine ⟨⟨⟨trivial, trivial⟩, trivial⟩, _, c33 (by unfold Sm; omega), ?_⟩
      refine hA.row 5 38 .span (by kernel_rfl) (s' := L36 (refJ xs) [] a 0) (by kernel_rfl) (loop36 (by unfold Sm; omega) hA 0 [] a (by omega) (by simp) ?_)
      rw [refG, h1]; rfl)

/-! ### the same, and in how many -/
theorem sp_eq (a b : Span) : (a.lo == b.lo && (a.hi == b.hi && true)) = decide (a = b) := by
  obtain ⟨a1, a2⟩ := a
  obtain ⟨b1, b2⟩ := b
  simp only [Bool.and_true, Span.mk.injEq]
  by_cases h1 : a1 = b1 <;> by_cases h2 : a2 = b2 <;> simp [h1, h2]

theorem loop32 {xs ys : List Span} (hlen : xs.length = ys.length) (hl : xs.length < 9223372036854775000) {A : List Item → AS → Prop} (hA : Closed Try.prog codes sigs Try.f32 (pureFin [.bool]) (fun y => y = decide (xs = ys)) 0 A)
    (i : Nat) (hn : i ≤ xs.length) (h : xs.take i = ys.take i) : A (hd Try.f32 0) (L32 xs ys i) := by
  have hi1 : i < xs.length → IntKind.i64.wrap ((i : Int) + 1) = ((i + 1 : Nat) : Int) := fun hi => by rw [wrap64 (by omega) (by omega)]; rfl
  refine hA.go (t32a xs ys i) ?_
  refine sat_bif (fun h1 => ?_) (fun h1 => ?_)
  · simp only [decide_eq_true_eq] at h1
    have hil : i < xs.length := by omega
    have hiy : i < ys.length := by omega
    have hg : xs.getD ((i : Int).toNat) Ty.span.dflt = xs[i] := getD_at hil
    have hg2 : ys.getD ((i : Int).toNat) Ty.span.dflt = ys[i] := getD_at hiy
    have hi1 := hi1 hil
    refine ⟨⟨⟨(by first | omega | (simp; omega)), (by first | omega | (simp; omega))⟩, trivial⟩, ?_⟩
    refine ⟨⟨⟨(by first | omega | (simp; omega)), (by first | omega | (simp; omega))⟩, trivial⟩, ?_⟩
    refine sat_bif (fun h2 => ?_) (fun h2 => ?_)   -- !(Span.lo (List.getD xs (Int.toNat i) (Ty.dflt Ty.span)) ==                 Span.lo (List.getD ys (I
    · skip
      refine ⟨⟨trivial, trivial⟩, ?_⟩
      rw [sp_eq, hg, hg2] at h2
      have h2 : xs[i] ≠ ys[i] := by simpa using h2
      show false = decide (xs = ys)
      rw [decide_eq_false]
      intro e
      subst e
      exact h2 rfl
    · skip
      rw [sp_eq, hg, hg2] at h2
      have h2 : xs[i] = ys[i] := by simpa using h2
      rw [hi1]
      exact loop32 hlen hl hA (i + 1) (by omega) (by rw [List.take_succ_eq_append_getElem hil, List.take_succ_eq_append_getElem hiy, h, h2])
  · simp only [decide_eq_false_iff_not] at h1
    refine ⟨⟨trivial, trivial⟩, ?_⟩
    show true = decide (xs = ys)
    rw [List.take_of_length_le (by omega), List.take_of_length_le (by omega)] at h
    rw [decide_eq_true h]
termination_by xs.length - i
theorem c32 {xs ys : List Span} (hl : xs.length < 9223372036854775000) : Pure Try.prog 32 [⟨.sl .span, xs⟩, ⟨.sl .span, ys⟩] [.bool] (decide (xs = ys)) :=
  Pure.of_closed (C := codes) (S := sigs) mixed Try.func32 (by kernel_rfl) (Nat.le_of_ble_eq_true (by kernel_rfl)) fun A hA => hA.go (t32 xs ys) (by
    refine sat_bif (fun h1 => ?_) (fun h1 => ?_)
    · refine ⟨⟨trivial, trivial⟩, ?_⟩
      show false = decide (xs = ys)
      rw [decide_eq_false]
      intro e
      subst e
      simp at h1
    · exact loop32 (by simp at h1; omega) hl hA 0 (by omega) rfl)

theorem inN_succ {xs : List Span} {n : Int} {i : Nat} (h : i < xs.length) : inN (xs.take (i + 1)) n = inN (xs.take i) n + (bif has xs[i] n then 1 else 0) := by
  unfold inN
  rw [List.take_succ_eq_append_getElem h, List.filter_append, List.length_append]
  cases hh : has xs[i] n <;> simp [hh]
theorem inN_le (xs : List Span) (n : Int) : inN xs n ≤ xs.length := List.length_filter_le _ _

theorem loop34 {xs : List Span} {n : Int} (hl : xs.length < 9223372036854775000) {A : List Item → AS → Prop} (hA : Closed Try.prog codes sigs Try.f34 (pureFin [.int]) (fun y => y = (inN xs n : Int)) 0 A)
    (i : Nat) (hn : i ≤ xs.length) : A (hd Try.f34 0) (L34 xs n (inN (xs.take i) n : Nat) i) := by
  have hle := inN_le (xs.take i) n
  rw [List.length_take] at hle
  have hc1 : i < xs.length → IntKind.i64.wrap ((inN (xs.take i) n : Int) + 1) = ((inN (xs.take i) n + 1 : Nat) : Int) := fun hi => by rw [wrap64 (by omega) (by omega)]; rfl
  have hi1 : i < xs.length → IntKind.i64.wrap ((i : Int) + 1) = ((i + 1 : Nat) : Int) := fun hi => by rw [wrap64 (by omega) (by omega)]; rfl
  refine hA.go (t34a xs n _ i) ?_
  refine sat_bif (fun h1 => ?_) (fun h1 => ?_)
  · simp only [decide_eq_true_eq] at h1
    have hil : i < xs.length := by omega
    have hg : xs.getD ((i : Int).toNat) Ty.span.dflt = xs[i] := getD_at hil
    have hi1 := hi1 hil
    have hc1 := hc1 hil
    have ih := loop34 hl hA (i + 1) (by omega)
    rw [inN_succ hil, ← hg] at ih
    refine ⟨⟨⟨(by first | omega | (simp; omega)), (by first | omega | (simp; omega))⟩, trivial⟩, ?_⟩
    refine ⟨⟨⟨trivial, ⟨trivial, trivial⟩⟩, ⟨⟨trivial, trivial⟩, trivial⟩⟩, ?_⟩
    refine ⟨_, c29 _ _, ?_⟩
    refine sat_bif (fun h2 => ?_) (fun h2 => ?_)   -- x
    · skip
      have h2 : has (xs.getD ((i : Int).toNat) Ty.span.dflt) n = true := h2
      rw [h2, cond_true] at ih
      rw [hi1, hc1]; exact ih
    · skip
      have h2 : has (xs.getD ((i : Int).toNat) Ty.span.dflt) n = false := h2
      rw [h2, cond_false] at ih
      rw [hi1]; exact ih
  · simp only [decide_eq_false_iff_not] at h1
    refine ⟨⟨trivial, trivial⟩, ?_⟩
    show (inN (xs.take i) n : Int) = inN xs n
    rw [List.take_of_length_le (by omega)]
termination_by xs.length - i
theorem c34 {xs : List Span} {n : Int} (hl : xs.length < 9223372036854775000) : Pure Try.prog 34 [⟨.sl .span, xs⟩, ⟨.int, n⟩] [.int] (inN xs n : Int) :=
  Pure.of_closed (C := codes) (S := sigs) mixed Try.func34 (by kernel_rfl) (Nat.le_of_ble_eq_true (by kernel_rfl)) fun A hA => hA.go (t34 xs n) (loop34 hl hA 0 (by omega))

/-! ### SpanJoins -/

theorem loop7 {xs js : List Span} {n : Int} (hl : xs.length ≤ 100) (hjl : js.length < 9223372036854775000) (hc : Can js) (hdn : ∀ n, Den js n ↔ Den xs n) {A : List Item → AS → Prop} (hA : Closed Try.prog codes sigs Try.f7 (pureFin [.bool]) (fun y => y = true) 0 A)
    (i : Nat) (b : Bool) (hn : i ≤ xs.length) (hb : b = true ↔ Den (xs.take i) n) : A (hd Try.f7 0) (L7 xs js n b i) := by
  have hi1 : i < xs.length → IntKind.i64.wrap ((i : Int) + 1) = ((i + 1 : Nat) : Int) := fun hi => by rw [wrap64 (by omega) (by omega)]; rfl
  have hin := in_can (n := n) hc
  have succ : ∀ hil : i < xs.length, Den (xs.take (i + 1)) n ↔ b = true ∨ has xs[i] n = true := fun hil => by
    rw [List.take_succ_eq_append_getElem hil, den_app, den_one, hb, has_iff]
  refine hA.go (t7a xs js n b i) ?_
  refine sat_bif (fun h1 => ?_) (fun h1 => ?_)
  · simp only [decide_eq_true_eq] at h1
    have hil : i < xs.length := by omega
    have hg : xs.getD ((i : Int).toNat) Ty.span.dflt = xs[i] := getD_at hil
    have hi1 := hi1 hil
    have succ := succ hil
    refine sat_bif (fun h2 => ?_) (fun h2 => ?_)   -- b
    · skip
      rw [hi1]
      exact loop7 hl hjl hc hdn hA (i + 1) true (by omega) (by rw [succ]; simp [h2])
    · skip
      refine ⟨⟨⟨(by first | omega | (simp; omega)), (by first | omega | (simp; omega))⟩, trivial⟩, ?_⟩
      refine ⟨⟨⟨trivial, ⟨trivial, trivial⟩⟩, ⟨⟨trivial, trivial⟩, trivial⟩⟩, ?_⟩
      refine ⟨_, c30 _ _, ?_⟩
      rw [hi1, hg]
      exact loop7 hl hjl hc hdn hA (i + 1) _ (by omega) (by rw [succ]; simp [h2])
  · simp only [decide_eq_false_iff_not] at h1
    rw [List.take_of_length_le (by omega)] at hb
    refine ⟨⟨⟨trivial, trivial⟩, ⟨⟨trivial, trivial⟩, trivial⟩⟩, ?_⟩
    refine ⟨_, c34 hjl, ?_⟩
    refine sat_bif (fun h2 => ?_) (fun h2 => ?_)   -- (x == (1 : Int)) == b
    · skip
      refine ⟨⟨⟨trivial, trivial⟩, ⟨⟨trivial, trivial⟩, trivial⟩⟩, ?_⟩
      refine ⟨_, c34 hjl, ?_⟩
      refine ⟨⟨trivial, trivial⟩, ?_⟩
      show decide ((inN js n : Int) < 2) = true
      rw [decide_eq_true_eq]; omega
    · skip
      refine ⟨⟨trivial, trivial⟩, ?_⟩
      exfalso
      have : ((inN js n : Int) == 1) = b := by
        cases b
        · have : ¬ inN js n = 1 := fun h => by rw [hin.2, hdn, ← hb] at h; cases h
          simp; omega
        · have : inN js n = 1 := by rw [hin.2, hdn, ← hb]
          simp; omega
      rw [this] at h2
      simp at h2
termination_by xs.length - i

theorem law7 (xs : List Span) (n : Int) (hxs : wfT (.sl .span) xs) (_ : wfT .int n) : Pure Try.prog 7 [⟨.sl .span, xs⟩, ⟨.int, n⟩] [.bool] true :=
  Pure.of_closed (C := codes) (S := sigs) mixed Try.func7 (by kernel_rfl) (Nat.le_of_ble_eq_true (by kernel_rfl)) fun A hA => hA.go (t7 xs n) (by
    have hfit := wf_spans hxs
    obtain ⟨k1, k2, k3⟩ := join_spec srt_ok hfit
    have hjr := join_ref srt_ok hfit
    have hjj := join_can srt_ok k2 k1
    have hrl := refJ_len xs
    refine sat_bif (fun h1 => ?_) (fun h1 => ?_)
    · exact ⟨trivial, _, c22, ⟨trivial, trivial⟩, rfl⟩
    · simp only [decide_eq_false_iff_not] at h1
      have hsm : Sm xs.length := by unfold Sm; omega
      generalize hJ : goJ (srt (keep xs)) [] = J at k1 k2 k3 hjr hjj
      have hc := c31 hsm
      rw [hJ] at hc
      have hJl : J.length ≤ xs.length := by rw [hjr]; exact hrl
      have hc2 := c31 (xs := J) (by unfold Sm; omega)
      rw [hjj] at hc2
      refine ⟨⟨⟨trivial, trivial⟩, trivial⟩, J, hc, trivial, true, c22, sat_bif (fun h => absurd h (by decide)) (fun _ => ?_)⟩
      refine ⟨⟨⟨trivial, trivial⟩, trivial⟩, _, c33 hsm, ⟨⟨trivial, trivial⟩, ⟨trivial, trivial⟩, trivial⟩, _, c32 (by omega), sat_bif (fun h => absurd h (by simp [hjr])) (fun _ => ?_)⟩
      refine ⟨⟨⟨trivial, trivial⟩, trivial⟩, J, hc2, ⟨⟨trivial, trivial⟩, ⟨trivial, trivial⟩, trivial⟩, _, c32 (by omega), sat_bif (fun h => absurd h (by simp)) (fun _ => ?_)⟩
      exact loop7 (by omega) (by omega) k1 k3 hA 0 false (by omega) (by simp [Den]))

/-! ### SpanGaps -/
theorem gaps_eq {xs : List Span} {s : Span} (hxs : ∀ s ∈ xs, FitS s) (hs : FitS s) : (bif emp s then [] else goG (goJ (srt (keep xs)) []) [] s) = refG xs s := by
  obtain ⟨k1, k2, _⟩ := join_spec srt_ok hxs
  unfold refG
  cases he : emp s
  · have he' := emp_false.1 he
    rw [cond_false, gaps_one _ _ _ (fun t ht => ⟨k1.ne t ht, k2 t ht⟩) he' hs, decide_eq_false (by omega), cond_false, join_ref srt_ok hxs]
  · have he' := emp_true.1 he
    rw [cond_true, decide_eq_true (by omega), cond_true]

theorem law8 (xs : List Span) (s : Span) (n : Int) (hxs : wfT (.sl .span) xs) (hs : wfT .span s) (_ : wfT .int n) : Pure Try.prog 8 [⟨.sl .span, xs⟩, ⟨.span, s⟩, ⟨.int, n⟩] [.bool] true :=
  Pure.of_closed (C := codes) (S := sigs) mixed Try.func8 (by kernel_rfl) (Nat.le_of_ble_eq_true (by kernel_rfl)) fun A hA => hA.go (t8 xs s n) (by
    have hfit := wf_spans hxs
    have hsf := wf_span hs
    obtain ⟨k1, k2, k3⟩ := join_spec srt_ok hfit
    have hjr := join_ref srt_ok hfit
    obtain ⟨g1, g2, g3⟩ := refG_spec hfit hsf
    have hgj := join_can srt_ok g2 g1
    have hrl := refJ_len xs
    have hgl := refG_len xs s
    refine sat_bif (fun h1 => ?_) (fun h1 => ?_)
    · exact ⟨trivial, _, c22, ⟨trivial, trivial⟩, rfl⟩
    · simp only [decide_eq_false_iff_not] at h1
      have hsm : Sm xs.length := by unfold Sm; omega
      have hc := c31 hsm
      have hc35 : Pure Try.prog 35 [⟨.sl .span, xs⟩, ⟨.span, s⟩] [.sl .span] (refG xs s) := by
        have h35 := c35_of s hc (by rw [hjr]; unfold Sm; omega)
        have e := gaps_eq hfit hsf
        exact e ▸ h35
      generalize hG : refG xs s = G at hc35 g1 g2 g3 hgj hgl
      have hc36 := c36 (xs := xs) (a := s) (by unfold Sm; omega)
      rw [hG] at hc36
      have hc2 := c31 (xs := G) (by unfold Sm; omega)
      rw [hgj] at hc2
      have N1 : (True ∧ True) ∧ True := ⟨⟨trivial, trivial⟩, trivial⟩
      have N2 : (True ∧ True) ∧ (True ∧ True) ∧ True := ⟨⟨trivial, trivial⟩, ⟨trivial, trivial⟩, trivial⟩
      have N3 : (True ∧ True) ∧ (True ∧ True ∧ True) ∧ True := ⟨⟨trivial, trivial⟩, T3, trivial⟩
      have N4 : (True ∧ True ∧ True) ∧ (True ∧ True) ∧ True := ⟨T3, ⟨trivial, trivial⟩, trivial⟩
      refine ⟨N3, G, hc35, trivial, true, c22, sat_bif (fun h => absurd h (by decide)) (fun _ => ?_)⟩
      refine ⟨N3, G, hc36, N2, _, c32 (by omega), sat_bif (fun h => absurd h (by simp)) (fun _ => ?_)⟩
      refine ⟨N1, G, hc2, N2, _, c32 (by omega), sat_bif (fun h => absurd h (by simp)) (fun _ => ?_)⟩
      refine ⟨N4, has s n, c30 s n, sat_bif (fun h => ?_) (fun h => ?_)⟩
      · refine ⟨N2, _, c34 (by omega), ⟨trivial, trivial⟩, ?_⟩
        show ((inN G n : Int) == 0) = true
        have hno : ¬ has s n = true := by simpa using h
        have hin := in_can (n := n) g1
        have : ¬ inN G n = 1 := fun hh => by
          rw [hin.2, g3] at hh
          exact hno (has_iff.2 hh.1)
        simp; omega
      · have hyes : has s n = true := by simpa using h
        have hin := in_can (n := n) g1
        have hin2 := in_can (n := n) k1
        have hJl : (goJ (srt (keep xs)) []).length ≤ xs.length := by rw [hjr]; exact hrl
        refine ⟨N2, _, c34 (by omega), N1, _, hc, N2, _, c34 (by omega), ⟨trivial, trivial⟩, ?_⟩
        generalize goJ (srt (keep xs)) [] = J at *
        show (IntKind.i64.wrap ((inN G n : Int) + (inN J n : Int)) == 1) = true
        rw [wrap64 (by omega) (by omega)]
        have hh := has_iff.1 hyes
        have e1 : inN G n = 1 ↔ ¬ inN J n = 1 := by
          rw [hin.2, g3, hin2.2, k3]; simp [hh]
        simp; omega)
end Go.Proofs.Sp
