/- Own work: part ZnC of the proof. -/
import Derived.Test.YtebbdkcocbampaaZnB
import Derived.Test.YtebbdkcocbampaaVE
import Derived.Test.YtebbdkcocbampaaSpB
import Derived.Test.YtebbdkcocbampaaSpC
set_option linter.unusedVariables false
set_option linter.unusedSimpArgs false
namespace Go.Proofs.Zn
open Go Go.VL

def L46 (d : Deck) (x : List Part) (out : List Span) (i : Int) : AS := mkS 40 [(1, .ptr 0 0), (5, .own 1 .span), (6, .d (.sl .part x)), (7, i64 i)] [(0, .box (deckC d)), (1, .row 38 .span out)] 2
def L94 (d : Deck) (k u n : Int) (out : List Span) (c : Int) : AS := mkS 36 [(1, i64 k), (2, i64 u), (4, .ptr 0 0), (10, .own 1 .span), (14, i64 n), (15, i64 c)] [(0, .box (deckC d)), (1, .row 38 .span out)] 2
def L96 (t : List Span) (l : List Int) (out : List Span) (i : Int) : AS := mkS 42 [(6, .d (.sl .span t)), (8, .own 0 .span), (19, .d (.sl .int l)), (20, i64 l.length), (21, i64 i)] [(0, .row 38 .span out)] 1
def L98 (t : List Span) (l : List Int) (out : List Span) (i : Int) : AS := mkS 49 [(1, .d (.sl .int l)), (6, .d (.sl .span t)), (8, .own 0 .span), (9, i64 i)] [(0, .row 38 .span out)] 1
def L97 (a b : Int) (l : List Span) (out : List Int) (i : Int) : AS := mkS 44 [(5, i64 a), (6, i64 b), (8, .own 0 .int), (19, .d (.sl .span l)), (20, i64 l.length), (21, i64 i)] [(0, .row 3 .int out)] 1
def L99 (d : Deck) (s : Span) (out : List Int) (k : Int) : AS := mkS 23 [(2, .ptr 0 0), (3, .ptr 1 0), (5, .own 2 .int), (6, i64 k)] [(0, .box (deckC d)), (1, .box [i64 s.lo, i64 s.hi]), (2, .row 3 .int out)] 3
def L49 (d : Deck) (t : List Span) (e : Int) (out : List Int) (i : Int) : AS := mkS 32 [(2, .ptr 0 0), (6, .d (.sl .span t)), (7, i64 e), (8, .d (.sl .int out)), (9, i64 i)] [(0, .box (deckC d))] 1
def L55 (a b out : List Int) (i : Int) : AS := mkS 27 [(0, .d (.sl .int a)), (1, .d (.sl .int b)), (5, .own 0 .int), (6, i64 i)] [(0, .row 3 .int out)] 1
def L56 (a b out : List Int) (i : Int) : AS := mkS 28 [(0, .d (.sl .int a)), (1, .d (.sl .int b)), (5, .own 0 .int), (6, i64 i)] [(0, .row 3 .int out)] 1
def L57 (b out : List Int) (i : Int) : AS := mkS 23 [(1, .d (.sl .int b)), (5, .d (.sl .int out)), (6, i64 i)] [] 0
def L50 (a b : List Int) (i : Int) : AS := mkS 26 [(0, .d (.sl .int a)), (1, .d (.sl .int b)), (5, i64 i)] [] 0
def L100 (l : List Int) (n i : Int) : AS := mkS 18 [(0, .d (.sl .int l)), (1, i64 n), (5, i64 i)] [] 0
def L101 (l : List Int) (n i : Int) : AS := mkS 45 [(0, .d (.sl .int l)), (1, i64 n), (5, i64 i)] [] 0
def L156 (a b : List Int) (f s t : Bool) (out : List Int) (i k : Int) : AS := mkS 94 [(0, .d (.sl .int a)), (1, .d (.sl .int b)), (2, boolA f), (3, boolA s), (4, boolA t), (11, .ptr 0 0), (12, .clo (.func 159) [] [.ptr 0 0]), (13, i64 i), (14, i64 k)] [(0, .box [.own 1 .int]), (1, .row 3 .int out)] 2


theorem t46a (d : Deck) (x : List Part) (out : List Span) (i : Int) : @Eq (Out (TyTup [.sl .span, .int])) (aexec Try.prog codes sigs2 Try.f46 (pureFin [.sl .span, .int]) 0 noCut 200 true (hd Try.f46 0) (L46 d x out i))
    (bif decide (i < (↑(List.length x) : Int)) then
  Out.need (((0 : Int) ≤ i ∧ i < (↑(List.length x) : Int)) ∧ True)
    (Out.need ((True ∧ True ∧ True ∧ True ∧ True) ∧ (True ∧ True ∧ True ∧ True ∧ True) ∧ True)
      (Out.callP (86 : Nat) [Sigma.mk Ty.deck d, Sigma.mk Ty.part (List.getD x (Int.toNat i) (Ty.dflt Ty.part))]
        [Ty.span, Ty.int] fun (x_1 : Span × Int) =>
        bif Prod.snd x_1 != (0 : Int) then Out.need ((True ∧ True) ∧ True ∧ True) (Out.ret ([], Prod.snd x_1))
        else
          Out.need ((True ∧ True ∧ True) ∧ True)
            (Out.need ((List.length out + List.length [Prod.fst x_1]) * (17 : Nat) ≤ (35184372088832 : Nat) ∧ True)
              (Out.stop (hd Try.f46 (0 : Nat))
                (mkS (40 : Nat)
                  [((1 : Nat), AV.ptr (0 : Nat) (0 : Nat)), ((5 : Nat), AV.own (1 : Nat) Ty.span),
                    ((6 : Nat), AV.d (D.sl Ty.part x)),
                    ((7 : Nat), AV.d (D.v (Value.int IntKind.i64 (IntKind.wrap IntKind.i64 (i + (1 : Int))))))]
                  [((0 : Nat),
                      ABlk.box
                        [AV.d (D.sl Ty.flt (Deck.borders d)), AV.d (D.sl Ty.plate (Deck.plates d)),
                          AV.d (D.sl Ty.rack (Deck.racks d)), AV.d (D.v (Value.int IntKind.i64 (Deck.arms d)))]),
                    ((1 : Nat), ABlk.row (38 : Nat) Ty.span (out ++ [Prod.fst x_1]))]
                  (2 : Nat))))))
  else Out.need ((True ∧ True) ∧ True ∧ True) (Out.ret (out, (0 : Int)))) := by kernel_rfl

theorem t94a (d : Deck) (k u n : Int) (out : List Span) (c : Int) : @Eq (Out (TyTup [.sl .span, .int])) (aexec Try.prog codes sigs2 Try.f94 (pureFin [.sl .span, .int]) 0 noCut 200 true (hd Try.f94 0) (L94 d k u n out c))
    (bif decide (c < n) then
  Out.need ((True ∧ True ∧ True ∧ True ∧ True) ∧ (True ∧ True ∧ True ∧ True ∧ True) ∧ True)
    (Out.callP (85 : Nat) [Sigma.mk Ty.deck d, Sigma.mk Ty.part (Part.mk k u (0 : Int) c)] [Ty.span, Ty.int]
      fun (x : Span × Int) =>
      bif Prod.snd x != (0 : Int) then Out.need ((True ∧ True) ∧ True ∧ True) (Out.ret ([], Prod.snd x))
      else
        Out.need ((True ∧ True ∧ True) ∧ True)
          (Out.need ((List.length out + List.length [Prod.fst x]) * (17 : Nat) ≤ (35184372088832 : Nat) ∧ True)
            (Out.stop (hd Try.f94 (0 : Nat))
              (mkS (36 : Nat)
                [((1 : Nat), AV.d (D.v (Value.int IntKind.i64 k))), ((2 : Nat), AV.d (D.v (Value.int IntKind.i64 u))),
                  ((4 : Nat), AV.ptr (0 : Nat) (0 : Nat)), ((10 : Nat), AV.own (1 : Nat) Ty.span),
                  ((14 : Nat), AV.d (D.v (Value.int IntKind.i64 n))),
                  ((15 : Nat), AV.d (D.v (Value.int IntKind.i64 (IntKind.wrap IntKind.i64 (c + (1 : Int))))))]
                [((0 : Nat),
                    ABlk.box
                      [AV.d (D.sl Ty.flt (Deck.borders d)), AV.d (D.sl Ty.plate (Deck.plates d)),
                        AV.d (D.sl Ty.rack (Deck.racks d)), AV.d (D.v (Value.int IntKind.i64 (Deck.arms d)))]),
                  ((1 : Nat), ABlk.row (38 : Nat) Ty.span (out ++ [Prod.fst x]))]
                (2 : Nat)))))
  else Out.need ((True ∧ True) ∧ True ∧ True) (Out.ret (out, (0 : Int)))) := by kernel_rfl

theorem t96a (t : List Span) (l : List Int) (out : List Span) (i : Int) : @Eq (Out (TyTup [.sl .span, .int])) (aexec Try.prog codes sigs2 Try.f96 (pureFin [.sl .span, .int]) 0 noCut 200 true (hd Try.f96 0) (L96 t l out i))
    (bif decide (i < (↑(List.length l) : Int)) then
  Out.need (((0 : Int) ≤ i ∧ i < (↑(List.length l) : Int)) ∧ True)
    (bif decide (List.getD l (Int.toNat i) (Ty.dflt Ty.int) < (0 : Int)) then
      Out.need ((True ∧ True) ∧ True ∧ True) (Out.ret ([], (3 : Int)))
    else
      bif decide (List.getD l (Int.toNat i) (Ty.dflt Ty.int) ≥ (↑(List.length t) : Int)) then
        Out.need ((True ∧ True) ∧ True ∧ True) (Out.ret ([], (3 : Int)))
      else
        Out.need
          (((0 : Int) ≤ List.getD l (Int.toNat i) (Ty.dflt Ty.int) ∧
              List.getD l (Int.toNat i) (Ty.dflt Ty.int) < (↑(List.length t) : Int)) ∧
            True)
          (Out.need ((True ∧ True ∧ True) ∧ True)
            (Out.need
              ((List.length out +
                      List.length
                        [List.getD t (Int.toNat (List.getD l (Int.toNat i) (Ty.dflt Ty.int))) (Ty.dflt Ty.span)]) *
                    (17 : Nat) ≤
                  (35184372088832 : Nat) ∧
                True)
              (Out.stop (hd Try.f96 (0 : Nat))
                (mkS (42 : Nat)
                  [((6 : Nat), AV.d (D.sl Ty.span t)), ((8 : Nat), AV.own (0 : Nat) Ty.span),
                    ((19 : Nat), AV.d (D.sl Ty.int l)),
                    ((20 : Nat), AV.d (D.v (Value.int IntKind.i64 (↑(List.length l) : Int)))),
                    ((21 : Nat), AV.d (D.v (Value.int IntKind.i64 (IntKind.wrap IntKind.i64 (i + (1 : Int))))))]
                  [((0 : Nat),
                      ABlk.row (38 : Nat) Ty.span
                        (out ++
                          [List.getD t (Int.toNat (List.getD l (Int.toNat i) (Ty.dflt Ty.int))) (Ty.dflt Ty.span)]))]
                  (1 : Nat))))))
  else Out.need ((True ∧ True) ∧ True ∧ True) (Out.ret (out, (0 : Int)))) := by kernel_rfl

theorem t98a (t : List Span) (l : List Int) (out : List Span) (i : Int) : @Eq (Out (TyTup [.sl .span, .int])) (aexec Try.prog codes sigs2 Try.f98 (pureFin [.sl .span, .int]) 0 noCut 200 true (hd Try.f98 0) (L98 t l out i))
    (bif decide (i < (↑(List.length l) : Int)) then
  Out.need (((0 : Int) ≤ i ∧ i < (↑(List.length l) : Int)) ∧ True)
    (bif decide (List.getD l (Int.toNat i) (Ty.dflt Ty.int) < (0 : Int)) then
      Out.need ((True ∧ True) ∧ True ∧ True) (Out.ret ([], (3 : Int)))
    else
      Out.need (((0 : Int) ≤ i ∧ i < (↑(List.length l) : Int)) ∧ True)
        (bif decide (List.getD l (Int.toNat i) (Ty.dflt Ty.int) ≥ (↑(List.length t) : Int)) then
          Out.need ((True ∧ True) ∧ True ∧ True) (Out.ret ([], (3 : Int)))
        else
          Out.need (((0 : Int) ≤ i ∧ i < (↑(List.length l) : Int)) ∧ True)
            (Out.need
              (((0 : Int) ≤ List.getD l (Int.toNat i) (Ty.dflt Ty.int) ∧
                  List.getD l (Int.toNat i) (Ty.dflt Ty.int) < (↑(List.length t) : Int)) ∧
                True)
              (Out.need ((True ∧ True ∧ True) ∧ True)
                (Out.need
                  ((List.length out +
                          List.length
                            [List.getD t (Int.toNat (List.getD l (Int.toNat i) (Ty.dflt Ty.int))) (Ty.dflt Ty.span)]) *
                        (17 : Nat) ≤
                      (35184372088832 : Nat) ∧
                    True)
                  (Out.stop (hd Try.f98 (0 : Nat))
                    (mkS (49 : Nat)
                      [((1 : Nat), AV.d (D.sl Ty.int l)), ((6 : Nat), AV.d (D.sl Ty.span t)),
                        ((8 : Nat), AV.own (0 : Nat) Ty.span),
                        ((9 : Nat), AV.d (D.v (Value.int IntKind.i64 (IntKind.wrap IntKind.i64 (i + (1 : Int))))))]
                      [((0 : Nat),
                          ABlk.row (38 : Nat) Ty.span
                            (out ++
                              [List.getD t (Int.toNat (List.getD l (Int.toNat i) (Ty.dflt Ty.int)))
                                  (Ty.dflt Ty.span)]))]
                      (1 : Nat))))))))
  else Out.need ((True ∧ True) ∧ True ∧ True) (Out.ret (out, (0 : Int)))) := by kernel_rfl

theorem t97a (a b : Int) (l : List Span) (out : List Int) (i : Int) : @Eq (Out (TyTup [.sl .int])) (aexec Try.prog codes sigs2 Try.f97 (pureFin [.sl .int]) 0 noCut 200 true (hd Try.f97 0) (L97 a b l out i))
    (bif decide (i < (↑(List.length l) : Int)) then
  Out.need (((0 : Int) ≤ i ∧ i < (↑(List.length l) : Int)) ∧ True)
    (Out.stop (hd Try.f97 (1 : Nat))
      (mkS (44 : Nat)
        [((5 : Nat), AV.d (D.v (Value.int IntKind.i64 a))), ((6 : Nat), AV.d (D.v (Value.int IntKind.i64 b))),
          ((8 : Nat), AV.own (0 : Nat) Ty.int), ((10 : Nat), AV.ptr (1 : Nat) (0 : Nat)),
          ((11 : Nat), AV.d (D.v (Value.int IntKind.i64 (Span.lo (List.getD l (Int.toNat i) (Ty.dflt Ty.span)))))),
          ((19 : Nat), AV.d (D.sl Ty.span l)),
          ((20 : Nat), AV.d (D.v (Value.int IntKind.i64 (↑(List.length l) : Int)))),
          ((21 : Nat), AV.d (D.v (Value.int IntKind.i64 i)))]
        [((0 : Nat), ABlk.row (3 : TypeId) Ty.int out),
          ((1 : Nat),
            ABlk.box
              [AV.d (D.v (Value.int IntKind.i64 (Span.lo (List.getD l (Int.toNat i) (Ty.dflt Ty.span))))),
                AV.d (D.v (Value.int IntKind.i64 (Span.hi (List.getD l (Int.toNat i) (Ty.dflt Ty.span)))))])]
        (2 : Nat)))
  else
  Out.need ((True ∧ True) ∧ True)
    (Out.callP (129 : Nat) [Sigma.mk (Ty.sl Ty.int) out] [Ty.sl Ty.int] fun (x : List Int) =>
      Out.need (True ∧ True) (Out.ret x))) := by kernel_rfl

theorem t99a (d : Deck) (s : Span) (out : List Int) (k : Int) : @Eq (Out (TyTup [.sl .int])) (aexec Try.prog codes sigs2 Try.f99 (pureFin [.sl .int]) 0 noCut 200 true (hd Try.f99 0) (L99 d s out k))
    (bif decide (k ≤ Span.hi s) then
  Out.need ((True ∧ True ∧ True ∧ True ∧ True) ∧ True)
    (Out.callP (130 : Nat) [Sigma.mk Ty.deck d] [Ty.int] fun (x : Int) =>
      Out.need ((True ∧ True) ∧ True)
        (Out.need
          ((List.length out + List.length [IntKind.wrap IntKind.i64 (x + k)]) * (9 : Nat) ≤ (35184372088832 : Nat) ∧
            True)
          (Out.stop (hd Try.f99 (0 : Nat))
            (mkS (23 : Nat)
              [((2 : Nat), AV.ptr (0 : Nat) (0 : Nat)), ((3 : Nat), AV.ptr (1 : Nat) (0 : Nat)),
                ((5 : Nat), AV.own (2 : Nat) Ty.int),
                ((6 : Nat), AV.d (D.v (Value.int IntKind.i64 (IntKind.wrap IntKind.i64 (k + (1 : Int))))))]
              [((0 : Nat),
                  ABlk.box
                    [AV.d (D.sl Ty.flt (Deck.borders d)), AV.d (D.sl Ty.plate (Deck.plates d)),
                      AV.d (D.sl Ty.rack (Deck.racks d)), AV.d (D.v (Value.int IntKind.i64 (Deck.arms d)))]),
                ((1 : Nat),
                  ABlk.box
                    [AV.d (D.v (Value.int IntKind.i64 (Span.lo s))), AV.d (D.v (Value.int IntKind.i64 (Span.hi s)))]),
                ((2 : Nat), ABlk.row (3 : Nat) Ty.int (out ++ [IntKind.wrap IntKind.i64 (x + k)]))]
              (3 : Nat)))))
  else Out.need (True ∧ True) (Out.ret out)) := by kernel_rfl

theorem t49a (d : Deck) (t : List Span) (e : Int) (out : List Int) (i : Int) : @Eq (Out (TyTup [.sl .int, .int])) (aexec Try.prog codes sigs2 Try.f49 (pureFin [.sl .int, .int]) 0 noCut 200 true (hd Try.f49 0) (L49 d t e out i))
    (bif decide (i < (↑(List.length t) : Int)) then
  Out.need (((0 : Int) ≤ i ∧ i < (↑(List.length t) : Int)) ∧ True)
    (Out.need ((True ∧ True ∧ True ∧ True ∧ True) ∧ (True ∧ True ∧ True) ∧ True)
      (Out.callP (99 : Nat) [Sigma.mk Ty.deck d, Sigma.mk Ty.span (List.getD t (Int.toNat i) (Ty.dflt Ty.span))]
        [Ty.sl Ty.int] fun (x : List Int) =>
        Out.need ((True ∧ True) ∧ (True ∧ True) ∧ True)
          (Out.callP (57 : Nat) [Sigma.mk (Ty.sl Ty.int) out, Sigma.mk (Ty.sl Ty.int) x] [Ty.sl Ty.int]
            fun (x : List Int) =>
            Out.stop (hd Try.f49 (0 : Nat))
              (mkS (32 : Nat)
                [((2 : Nat), AV.ptr (0 : Nat) (0 : Nat)), ((6 : Nat), AV.d (D.sl Ty.span t)),
                  ((7 : Nat), AV.d (D.v (Value.int IntKind.i64 e))), ((8 : Nat), AV.d (D.sl Ty.int x)),
                  ((9 : Nat), AV.d (D.v (Value.int IntKind.i64 (IntKind.wrap IntKind.i64 (i + (1 : Int))))))]
                [((0 : Nat),
                    ABlk.box
                      [AV.d (D.sl Ty.flt (Deck.borders d)), AV.d (D.sl Ty.plate (Deck.plates d)),
                        AV.d (D.sl Ty.rack (Deck.racks d)), AV.d (D.v (Value.int IntKind.i64 (Deck.arms d)))])]
                (1 : Nat)))))
  else Out.need ((True ∧ True) ∧ True ∧ True) (Out.ret (out, e))) := by kernel_rfl

theorem t55a (a b out : List Int) (i : Int) : @Eq (Out (TyTup [.sl .int])) (aexec Try.prog codes sigs2 Try.f55 (pureFin [.sl .int]) 0 noCut 200 true (hd Try.f55 0) (L55 a b out i))
    (bif decide (i < (↑(List.length a) : Int)) then
  Out.need (((0 : Int) ≤ i ∧ i < (↑(List.length a) : Int)) ∧ True)
    (Out.need ((True ∧ True) ∧ (True ∧ True) ∧ True)
      (Out.callP (100 : Nat) [Sigma.mk (Ty.sl Ty.int) b, Sigma.mk Ty.int (List.getD a (Int.toNat i) (Ty.dflt Ty.int))]
        [Ty.bool] fun (x : Bool) =>
        bif x then
          Out.need (((0 : Int) ≤ i ∧ i < (↑(List.length a) : Int)) ∧ True)
            (Out.need ((True ∧ True) ∧ True)
              (Out.need
                ((List.length out + List.length [List.getD a (Int.toNat i) (Ty.dflt Ty.int)]) * (9 : Nat) ≤
                    (35184372088832 : Nat) ∧
                  True)
                (Out.stop (hd Try.f55 (0 : Nat))
                  (mkS (27 : Nat)
                    [((0 : Nat), AV.d (D.sl Ty.int a)), ((1 : Nat), AV.d (D.sl Ty.int b)),
                      ((5 : Nat), AV.own (0 : Nat) Ty.int),
                      ((6 : Nat), AV.d (D.v (Value.int IntKind.i64 (IntKind.wrap IntKind.i64 (i + (1 : Int))))))]
                    [((0 : Nat), ABlk.row (3 : Nat) Ty.int (out ++ [List.getD a (Int.toNat i) (Ty.dflt Ty.int)]))]
                    (1 : Nat)))))
        else
          Out.stop (hd Try.f55 (0 : Nat))
            (mkS (27 : Nat)
              [((0 : Nat), AV.d (D.sl Ty.int a)), ((1 : Nat), AV.d (D.sl Ty.int b)),
                ((5 : Nat), AV.own (0 : Nat) Ty.int),
                ((6 : Nat), AV.d (D.v (Value.int IntKind.i64 (IntKind.wrap IntKind.i64 (i + (1 : Int))))))]
              [((0 : Nat), ABlk.row (3 : TypeId) Ty.int out)] (1 : Nat))))
  else Out.need (True ∧ True) (Out.ret out)) := by kernel_rfl

theorem t56a (a b out : List Int) (i : Int) : @Eq (Out (TyTup [.sl .int])) (aexec Try.prog codes sigs2 Try.f56 (pureFin [.sl .int]) 0 noCut 200 true (hd Try.f56 0) (L56 a b out i))
    (bif decide (i < (↑(List.length a) : Int)) then
  Out.need (((0 : Int) ≤ i ∧ i < (↑(List.length a) : Int)) ∧ True)
    (Out.need ((True ∧ True) ∧ (True ∧ True) ∧ True)
      (Out.callP (100 : Nat) [Sigma.mk (Ty.sl Ty.int) b, Sigma.mk Ty.int (List.getD a (Int.toNat i) (Ty.dflt Ty.int))]
        [Ty.bool] fun (x : Bool) =>
        bif !x then
          Out.need (((0 : Int) ≤ i ∧ i < (↑(List.length a) : Int)) ∧ True)
            (Out.need ((True ∧ True) ∧ True)
              (Out.need
                ((List.length out + List.length [List.getD a (Int.toNat i) (Ty.dflt Ty.int)]) * (9 : Nat) ≤
                    (35184372088832 : Nat) ∧
                  True)
                (Out.stop (hd Try.f56 (0 : Nat))
                  (mkS (28 : Nat)
                    [((0 : Nat), AV.d (D.sl Ty.int a)), ((1 : Nat), AV.d (D.sl Ty.int b)),
                      ((5 : Nat), AV.own (0 : Nat) Ty.int),
                      ((6 : Nat), AV.d (D.v (Value.int IntKind.i64 (IntKind.wrap IntKind.i64 (i + (1 : Int))))))]
                    [((0 : Nat), ABlk.row (3 : Nat) Ty.int (out ++ [List.getD a (Int.toNat i) (Ty.dflt Ty.int)]))]
                    (1 : Nat)))))
        else
          Out.stop (hd Try.f56 (0 : Nat))
            (mkS (28 : Nat)
              [((0 : Nat), AV.d (D.sl Ty.int a)), ((1 : Nat), AV.d (D.sl Ty.int b)),
                ((5 : Nat), AV.own (0 : Nat) Ty.int),
                ((6 : Nat), AV.d (D.v (Value.int IntKind.i64 (IntKind.wrap IntKind.i64 (i + (1 : Int))))))]
              [((0 : Nat), ABlk.row (3 : TypeId) Ty.int out)] (1 : Nat))))
  else Out.need (True ∧ True) (Out.ret out)) := by kernel_rfl

theorem t57a (b out : List Int) (i : Int) : @Eq (Out (TyTup [.sl .int])) (aexec Try.prog codes sigs2 Try.f57 (pureFin [.sl .int]) 0 noCut 200 true (hd Try.f57 0) (L57 b out i))
    (bif decide (i < (↑(List.length b) : Int)) then
  Out.need (((0 : Int) ≤ i ∧ i < (↑(List.length b) : Int)) ∧ True)
    (Out.need ((True ∧ True) ∧ (True ∧ True) ∧ True)
      (Out.callP (101 : Nat) [Sigma.mk (Ty.sl Ty.int) out, Sigma.mk Ty.int (List.getD b (Int.toNat i) (Ty.dflt Ty.int))]
        [Ty.sl Ty.int] fun (x : List Int) =>
        Out.stop (hd Try.f57 (0 : Nat))
          (mkS (23 : Nat)
            [((1 : Nat), AV.d (D.sl Ty.int b)), ((5 : Nat), AV.d (D.sl Ty.int x)),
              ((6 : Nat), AV.d (D.v (Value.int IntKind.i64 (IntKind.wrap IntKind.i64 (i + (1 : Int))))))]
            [] (0 : Nat))))
  else Out.need (True ∧ True) (Out.ret out)) := by kernel_rfl

theorem t50a (a b : List Int) (i : Int) : @Eq (Out (TyTup [.bool])) (aexec Try.prog codes sigs2 Try.f50 (pureFin [.bool]) 0 noCut 200 true (hd Try.f50 0) (L50 a b i))
    (bif decide (i < (↑(List.length a) : Int)) then
  Out.need (((0 : Int) ≤ i ∧ i < (↑(List.length a) : Int)) ∧ True)
    (Out.need (((0 : Int) ≤ i ∧ i < (↑(List.length b) : Int)) ∧ True)
      (bif List.getD a (Int.toNat i) (Ty.dflt Ty.int) != List.getD b (Int.toNat i) (Ty.dflt Ty.int) then
        Out.need (True ∧ True) (Out.ret false)
      else
        Out.stop (hd Try.f50 (0 : Nat))
          (mkS (26 : Nat)
            [((0 : Nat), AV.d (D.sl Ty.int a)), ((1 : Nat), AV.d (D.sl Ty.int b)),
              ((5 : Nat), AV.d (D.v (Value.int IntKind.i64 (IntKind.wrap IntKind.i64 (i + (1 : Int))))))]
            [] (0 : Nat))))
  else Out.need (True ∧ True) (Out.ret true)) := by kernel_rfl

theorem t100a (l : List Int) (n i : Int) : @Eq (Out (TyTup [.bool])) (aexec Try.prog codes sigs2 Try.f100 (pureFin [.bool]) 0 noCut 200 true (hd Try.f100 0) (L100 l n i))
    (bif decide (i < (↑(List.length l) : Int)) then
  Out.need (((0 : Int) ≤ i ∧ i < (↑(List.length l) : Int)) ∧ True)
    (bif List.getD l (Int.toNat i) (Ty.dflt Ty.int) == n then Out.need (True ∧ True) (Out.ret true)
    else
      Out.stop (hd Try.f100 (0 : Nat))
        (mkS (18 : Nat)
          [((0 : Nat), AV.d (D.sl Ty.int l)), ((1 : Nat), AV.d (D.v (Value.int IntKind.i64 n))),
            ((5 : Nat), AV.d (D.v (Value.int IntKind.i64 (IntKind.wrap IntKind.i64 (i + (1 : Int))))))]
          [] (0 : Nat)))
  else Out.need (True ∧ True) (Out.ret false)) := by kernel_rfl

theorem t101a (l : List Int) (n i : Int) : @Eq (Out (TyTup [.sl .int])) (aexec Try.prog codes sigs2 Try.f101 (pureFin [.sl .int]) 0 noCut 200 true (hd Try.f101 0) (L101 l n i))
    (bif decide (i < (↑(List.length l) : Int)) then
  Out.need (((0 : Int) ≤ i ∧ i < (↑(List.length l) : Int)) ∧ True)
    (bif decide (List.getD l (Int.toNat i) (Ty.dflt Ty.int) < n) then
      Out.stop (hd Try.f101 (0 : Nat))
        (mkS (45 : Nat)
          [((0 : Nat), AV.d (D.sl Ty.int l)), ((1 : Nat), AV.d (D.v (Value.int IntKind.i64 n))),
            ((5 : Nat), AV.d (D.v (Value.int IntKind.i64 (IntKind.wrap IntKind.i64 (i + (1 : Int))))))]
          [] (0 : Nat))
    else
      bif decide (i < (↑(List.length l) : Int)) then
        Out.need (((0 : Int) ≤ i ∧ i < (↑(List.length l) : Int)) ∧ True)
          (bif List.getD l (Int.toNat i) (Ty.dflt Ty.int) == n then Out.need (True ∧ True) (Out.ret l)
          else
            Out.need True
              (Out.need (((0 : Int) ≤ (0 : Int) ∧ (0 : Int) ≤ i ∧ i ≤ (↑(List.length l) : Int)) ∧ True)
                (Out.need
                  (((0 : Nat) + List.length (List.drop (0 : Nat) (List.take (Int.toNat i) l))) * (9 : Nat) ≤
                      (35184372088832 : Nat) ∧
                    True)
                  (Out.need ((True ∧ True) ∧ True)
                    (Out.need
                      ((List.length ([] ++ List.drop (0 : Nat) (List.take (Int.toNat i) l)) + List.length [n]) *
                            (9 : Nat) ≤
                          (35184372088832 : Nat) ∧
                        True)
                      (Out.need (((0 : Int) ≤ i ∧ i ≤ (↑(List.length l) : Int)) ∧ True)
                        (Out.need
                          ((List.length ([] ++ List.drop (0 : Nat) (List.take (Int.toNat i) l) ++ [n]) +
                                  List.length (List.drop (Int.toNat i) l)) *
                                (9 : Nat) ≤
                              (35184372088832 : Nat) ∧
                            True)
                          (Out.need (True ∧ True)
                            (Out.ret
                              ([] ++ List.drop (0 : Nat) (List.take (Int.toNat i) l) ++ [n] ++
                                List.drop (Int.toNat i) l))))))))))
      else
        Out.need True
          (Out.need (((0 : Int) ≤ (0 : Int) ∧ (0 : Int) ≤ i ∧ i ≤ (↑(List.length l) : Int)) ∧ True)
            (Out.need
              (((0 : Nat) + List.length (List.drop (0 : Nat) (List.take (Int.toNat i) l))) * (9 : Nat) ≤
                  (35184372088832 : Nat) ∧
                True)
              (Out.need ((True ∧ True) ∧ True)
                (Out.need
                  ((List.length ([] ++ List.drop (0 : Nat) (List.take (Int.toNat i) l)) + List.length [n]) * (9 : Nat) ≤
                      (35184372088832 : Nat) ∧
                    True)
                  (Out.need (((0 : Int) ≤ i ∧ i ≤ (↑(List.length l) : Int)) ∧ True)
                    (Out.need
                      ((List.length ([] ++ List.drop (0 : Nat) (List.take (Int.toNat i) l) ++ [n]) +
                              List.length (List.drop (Int.toNat i) l)) *
                            (9 : Nat) ≤
                          (35184372088832 : Nat) ∧
                        True)
                      (Out.need (True ∧ True)
                        (Out.ret
                          ([] ++ List.drop (0 : Nat) (List.take (Int.toNat i) l) ++ [n] ++
                            List.drop (Int.toNat i) l))))))))))
  else
  bif decide (i < (↑(List.length l) : Int)) then
    Out.need (((0 : Int) ≤ i ∧ i < (↑(List.length l) : Int)) ∧ True)
      (bif List.getD l (Int.toNat i) (Ty.dflt Ty.int) == n then Out.need (True ∧ True) (Out.ret l)
      else
        Out.need True
          (Out.need (((0 : Int) ≤ (0 : Int) ∧ (0 : Int) ≤ i ∧ i ≤ (↑(List.length l) : Int)) ∧ True)
            (Out.need
              (((0 : Nat) + List.length (List.drop (0 : Nat) (List.take (Int.toNat i) l))) * (9 : Nat) ≤
                  (35184372088832 : Nat) ∧
                True)
              (Out.need ((True ∧ True) ∧ True)
                (Out.need
                  ((List.length ([] ++ List.drop (0 : Nat) (List.take (Int.toNat i) l)) + List.length [n]) * (9 : Nat) ≤
                      (35184372088832 : Nat) ∧
                    True)
                  (Out.need (((0 : Int) ≤ i ∧ i ≤ (↑(List.length l) : Int)) ∧ True)
                    (Out.need
                      ((List.length ([] ++ List.drop (0 : Nat) (List.take (Int.toNat i) l) ++ [n]) +
                              List.length (List.drop (Int.toNat i) l)) *
                            (9 : Nat) ≤
                          (35184372088832 : Nat) ∧
                        True)
                      (Out.need (True ∧ True)
                        (Out.ret
                          ([] ++ List.drop (0 : Nat) (List.take (Int.toNat i) l) ++ [n] ++
                            List.drop (Int.toNat i) l))))))))))
  else
    Out.need True
      (Out.need (((0 : Int) ≤ (0 : Int) ∧ (0 : Int) ≤ i ∧ i ≤ (↑(List.length l) : Int)) ∧ True)
        (Out.need
          (((0 : Nat) + List.length (List.drop (0 : Nat) (List.take (Int.toNat i) l))) * (9 : Nat) ≤
              (35184372088832 : Nat) ∧
            True)
          (Out.need ((True ∧ True) ∧ True)
            (Out.need
              ((List.length ([] ++ List.drop (0 : Nat) (List.take (Int.toNat i) l)) + List.length [n]) * (9 : Nat) ≤
                  (35184372088832 : Nat) ∧
                True)
              (Out.need (((0 : Int) ≤ i ∧ i ≤ (↑(List.length l) : Int)) ∧ True)
                (Out.need
                  ((List.length ([] ++ List.drop (0 : Nat) (List.take (Int.toNat i) l) ++ [n]) +
                          List.length (List.drop (Int.toNat i) l)) *
                        (9 : Nat) ≤
                      (35184372088832 : Nat) ∧
                    True)
                  (Out.need (True ∧ True)
                    (Out.ret
                      ([] ++ List.drop (0 : Nat) (List.take (Int.toNat i) l) ++ [n] ++
                        List.drop (Int.toNat i) l)))))))))) := by kernel_rfl

theorem t159t (n : Int) (xs : List Int) : @Eq (Out GRes) (aexec Try.prog codes sigs2 Try.f159 (gFin 2) 2 noCut 200 false (bodyOf Try.f159) (startG Try.f159 [i64 n, boolA true, .ptr 0 0] [(0, .box [.own 1 .int]), (1, .row 3 .int xs)] 2))
    (Out.need ((True ∧ True) ∧ True)
  (Out.need ((List.length xs + List.length [n]) * (9 : Nat) ≤ (35184372088832 : Nat) ∧ True)
    (Out.need True
      (Out.ret
        (GRes.mk []
          [((0 : Nat), ABlk.box [AV.own (2 : Nat) Ty.int]), ((2 : Nat), ABlk.row (3 : Nat) Ty.int (xs ++ [n]))]
          (3 : Nat)))))) := by kernel_rfl

end Go.Proofs.Zn

/- Tables of spans: contracts. (Own work.) -/
namespace Go.Proofs.Zn
open Go Go.VL

/-- What goes on with a list of spans. -/
def goS (out : List Span) (L : List (Span × Int)) : List Span × Int := bif errL L != 0 then ([], errL L) else (out ++ L.map Prod.fst, 0)
theorem goS_nil (out : List Span) : goS out [] = (out, 0) := by simp [goS, errL]
theorem goS_cons (out : List Span) (p : Span × Int) (L : List (Span × Int)) : goS out (p :: L) = bif p.2 != 0 then ([], p.2) else goS (out ++ [p.1]) L := by
  unfold goS
  simp only [errL]
  cases h : p.2 != 0
  · simp
  · simp [h]
theorem goS_start (L : List (Span × Int)) : goS [] L = tryS L := by simp [goS, tryS]

theorem loop46 {d : Deck} {l : List Part} (hv : ∀ p ∈ l, ValidP d p) (hl : l.length ≤ 1000) {r : List Span × Int} {A : List Item → AS → Prop}
    (hA : Closed Try.prog codes sigs2 Try.f46 (pureFin [.sl .span, .int]) (fun y => y = r) 0 A) (i : Nat) (hi : i ≤ l.length) (out : List Span) (ho : out.length = i) (h : goS out (covL d (l.drop i)) = r) :
    A (hd Try.f46 0) (L46 d l out i) := by
  refine hA.go (t46a d l out i) (sat_bif (fun h1 => ?_) (fun h1 => ?_))
  · have h1 := of_decide_eq_true h1
    have hil : i < l.length := by omega
    rw [getD_int hil]
    rw [List.drop_eq_getElem_cons hil, covL, List.map_cons, goS_cons] at h
    refine ⟨⟨⟨by omega, by omega⟩, trivial⟩, ⟨T5', T5', trivial⟩, _, c86 (hv _ (List.getElem_mem hil)), sat_bif (fun h2 => ?_) (fun h2 => ⟨⟨T3', trivial⟩, ⟨?_, trivial⟩, ?_⟩)⟩
    · rw [h2] at h; exact ⟨⟨T2', T2'⟩, h⟩
    · simp only [List.length_cons, List.length_nil]; omega
    · rw [h2, cond_false] at h
      rw [wrap_succ (by omega)]
      exact loop46 hv hl hA (i + 1) (by omega) _ (by simp [ho]) h
  · have h1 := of_decide_eq_false h1
    rw [List.drop_eq_nil_of_le (by omega), covL, List.map_nil, goS_nil] at h
    exact ⟨⟨T2', T2'⟩, h⟩
termination_by l.length - i
theorem c46 (d : Deck) : Pure Try.prog 46 [⟨.deck, d⟩] [.sl .span, .int] (tableS d) :=
  Pure.of_closed (C := codes) (S := sigs2) mixed Try.func46 (by kernel_rfl) (Nat.le_of_ble_eq_true (by kernel_rfl)) fun A hA => hA.go (t46 d) (by
    generalize hr : tableS d = r at hA ⊢
    unfold tableS at hr
    refine ⟨⟨T5', trivial⟩, _, c89 d, sat_bif (fun h => ?_) (fun h => ?_)⟩
    · rw [h] at hr; exact ⟨⟨T2', T2'⟩, hr⟩
    · rw [h, cond_false] at hr
      have hk : DeckOk d := deck_ok (by simpa using h)
      have hp : partsOf d = partsS d := by unfold partsOf; rw [h]; rfl
      have hf := parts_few hk
      refine ⟨⟨T5', trivial⟩, _, (c90 d).eq hp, ?_⟩
      exact hA.row 5 38 .span (s' := L46 d (partsS d) [] 0) (by kernel_rfl) (by kernel_rfl) (loop46 (fun p hp => parts_valid hp) (by omega) hA 0 (by omega) [] rfl (by rw [List.drop_zero, goS_start]; exact hr)))

theorem loop94 {d : Deck} {k u : Int} {n : Nat} (hv : ∀ c, ValidP d ⟨k, u, 0, c⟩) (hn : n ≤ 48) {r : List Span × Int} {A : List Item → AS → Prop}
    (hA : Closed Try.prog codes sigs2 Try.f94 (pureFin [.sl .span, .int]) (fun y => y = r) 0 A) (i : Nat) (hi : i ≤ n) (out : List Span) (ho : out.length = i) (h : goS out (covL d ((colsL k u n).drop i)) = r) :
    A (hd Try.f94 0) (L94 d k u n out i) := by
  have hc : (colsL k u n).length = n := by simp [colsL]
  refine hA.go (t94a d k u n out i) (sat_bif (fun h1 => ?_) (fun h1 => ?_))
  · have h1 := of_decide_eq_true h1
    have hil : i < (colsL k u n).length := by omega
    have ei : (colsL k u n)[i] = ⟨k, u, 0, (i : Int)⟩ := by simp [colsL]
    rw [List.drop_eq_getElem_cons hil, ei, covL, List.map_cons, goS_cons] at h
    refine ⟨⟨T5', T5', trivial⟩, _, c85 (hv i), sat_bif (fun h2 => ?_) (fun h2 => ⟨⟨T3', trivial⟩, ⟨?_, trivial⟩, ?_⟩)⟩
    · rw [h2] at h; exact ⟨⟨T2', T2'⟩, h⟩
    · simp only [List.length_cons, List.length_nil]; omega
    · rw [h2, cond_false] at h
      rw [wrap_succ (by omega)]
      exact loop94 hv hn hA (i + 1) (by omega) _ (by simp [ho]) h
  · have h1 := of_decide_eq_false h1
    rw [List.drop_eq_nil_of_le (by omega), covL, List.map_nil, goS_nil] at h
    exact ⟨⟨T2', T2'⟩, h⟩
termination_by n - i
theorem c94 {d : Deck} {k u : Int} {n : Nat} (hv : ∀ c, ValidP d ⟨k, u, 0, c⟩) (hn : n ≤ 48) : Pure Try.prog 94 [⟨.deck, d⟩, ⟨.int, k⟩, ⟨.int, u⟩, ⟨.int, (n : Int)⟩] [.sl .span, .int] (tryS (covL d (colsL k u n))) :=
  Pure.of_closed (C := codes) (S := sigs2) mixed Try.func94 (by kernel_rfl) (Nat.le_of_ble_eq_true (by kernel_rfl)) fun A hA => hA.go (t94 d k u n)
    (hA.row 10 38 .span (s' := L94 d k u n [] 0) (by kernel_rfl) (by kernel_rfl) (loop94 hv hn hA 0 (by omega) [] rfl (by rw [List.drop_zero, goS_start])))

theorem loop96 {t : List Span} {l : List Int} (hl : l.length ≤ 1000) {r : List Span × Int} {A : List Item → AS → Prop}
    (hA : Closed Try.prog codes sigs2 Try.f96 (pureFin [.sl .span, .int]) (fun y => y = r) 0 A) (i : Nat) (hi : i ≤ l.length) (out : List Span) (ho : out.length = i) (h : pickGo t out (l.drop i) = r) :
    A (hd Try.f96 0) (L96 t l out i) := by
  refine hA.go (t96a t l out i) (sat_bif (fun h1 => ?_) (fun h1 => ?_))
  · have h1 := of_decide_eq_true h1
    have hil : i < l.length := by omega
    rw [getD_int hil]
    rw [List.drop_eq_getElem_cons hil, pickGo] at h
    refine ⟨⟨⟨by omega, by omega⟩, trivial⟩, sat_bif (fun h2 => ?_) (fun h2 => sat_bif (fun h3 => ?_) (fun h3 => ?_))⟩
    · rw [h2] at h; exact ⟨⟨T2', T2'⟩, h⟩
    · rw [h2, h3] at h; exact ⟨⟨T2', T2'⟩, h⟩
    · rw [h2, h3, cond_false, cond_false] at h
      have h2 := of_decide_eq_false h2
      have h3 := of_decide_eq_false h3
      refine ⟨⟨⟨by omega, by omega⟩, trivial⟩, ⟨T3', trivial⟩, ⟨by simp only [List.length_cons, List.length_nil]; omega, trivial⟩, ?_⟩
      rw [wrap_succ (by omega)]
      exact loop96 hl hA (i + 1) (by omega) _ (by simp [ho]) h
  · have h1 := of_decide_eq_false h1
    rw [List.drop_eq_nil_of_le (by omega)] at h
    exact ⟨⟨T2', T2'⟩, h⟩
termination_by l.length - i
theorem loop98 {t : List Span} {l : List Int} (hl : l.length ≤ 1000) {r : List Span × Int} {A : List Item → AS → Prop}
    (hA : Closed Try.prog codes sigs2 Try.f98 (pureFin [.sl .span, .int]) (fun y => y = r) 0 A) (i : Nat) (hi : i ≤ l.length) (out : List Span) (ho : out.length = i) (h : pickGo t out (l.drop i) = r) :
    A (hd Try.f98 0) (L98 t l out i) := by
  refine hA.go (t98a t l out i) (sat_bif (fun h1 => ?_) (fun h1 => ?_))
  · have h1 := of_decide_eq_true h1
    have hil : i < l.length := by omega
    rw [getD_int hil]
    rw [List.drop_eq_getElem_cons hil, pickGo] at h
    refine ⟨⟨⟨by omega, by omega⟩, trivial⟩, sat_bif (fun h2 => ?_) (fun h2 => ⟨⟨⟨by omega, by omega⟩, trivial⟩, sat_bif (fun h3 => ?_) (fun h3 => ?_)⟩)⟩
    · rw [h2] at h; exact ⟨⟨T2', T2'⟩, h⟩
    · rw [h2, h3] at h; exact ⟨⟨T2', T2'⟩, h⟩
    · rw [h2, h3, cond_false, cond_false] at h
      have h2 := of_decide_eq_false h2
      have h3 := of_decide_eq_false h3
      refine ⟨⟨⟨by omega, by omega⟩, trivial⟩, ⟨⟨by omega, by omega⟩, trivial⟩, ⟨T3', trivial⟩, ⟨by simp only [List.length_cons, List.length_nil]; omega, trivial⟩, ?_⟩
      rw [wrap_succ (by omega)]
      exact loop98 hl hA (i + 1) (by omega) _ (by simp [ho]) h
  · have h1 := of_decide_eq_false h1
    rw [List.drop_eq_nil_of_le (by omega)] at h
    exact ⟨⟨T2', T2'⟩, h⟩
termination_by l.length - i
theorem c98 {d : Deck} {l : List Int} (hl : l.length ≤ 1000) : Pure Try.prog 98 [⟨.deck, d⟩, ⟨.sl .int, l⟩] [.sl .span, .int] (spansS d l) :=
  Pure.of_closed (C := codes) (S := sigs2) mixed Try.func98 (by kernel_rfl) (Nat.le_of_ble_eq_true (by kernel_rfl)) fun A hA => hA.go (t98 d l) (by
    generalize hr : spansS d l = r at hA ⊢
    unfold spansS at hr
    refine ⟨⟨T5', trivial⟩, _, c46 d, sat_bif (fun h => ?_) (fun h => ?_)⟩
    · rw [h] at hr; exact ⟨⟨T2', T2'⟩, hr⟩
    · rw [h, cond_false] at hr
      exact hA.row 8 38 .span (s' := L98 (tableS d).1 l [] 0) (by kernel_rfl) (by kernel_rfl) (loop98 hl hA 0 (by omega) [] rfl hr))
theorem c96_of {d : Deck} {l : List Int} (h45 : Pure Try.prog 45 [⟨.deck, d⟩] [.sl .span, .int] (tableS d)) (hl : l.length ≤ 1000) : Pure Try.prog 96 [⟨.deck, d⟩, ⟨.sl .int, l⟩] [.sl .span, .int] (spansS d l) :=
  Pure.of_closed (C := codes) (S := sigs2) mixed Try.func96 (by kernel_rfl) (Nat.le_of_ble_eq_true (by kernel_rfl)) fun A hA => hA.go (t96 d l) (by
    generalize hr : spansS d l = r at hA ⊢
    unfold spansS at hr
    refine ⟨⟨T5', trivial⟩, _, h45, sat_bif (fun h => ?_) (fun h => ?_)⟩
    · rw [h] at hr; exact ⟨⟨T2', T2'⟩, hr⟩
    · rw [h, cond_false] at hr
      exact hA.row 8 38 .span (s' := L96 (tableS d).1 l [] 0) (by kernel_rfl) (by kernel_rfl) (loop96 hl hA 0 (by omega) [] rfl hr))
end Go.Proofs.Zn

/- The functions in functions that change what is round them. (Own work.) -/
namespace Go.Proofs.Zn
open Go Go.VL

def res95 (H : Heap) (x : Int) : GRes := ⟨[boolA (x != 0)], H.put 0 (some (.box [i64 x])), 2⟩
def res93 (H : Heap) (l : List Span) (e : Int) : GRes := match H.get 0 with
  | some b => ⟨[boolA (e == 0)], [(0, b), (1, .box [.own 4 .span]), (2, .box [i64 e]), (4, .row 38 .span l)], 5⟩
  | none => ⟨[], [], 0⟩
def out95 : List AV → Heap → TyTup [Ty.int] → GRes := fun _ H x => res95 H x
def out93 : List AV → Heap → TyTup [Ty.sl Ty.span, Ty.int] → GRes := fun _ H x => res93 H x.1 x.2
def sigL3 : List (Nat × Sig) := sigL2 ++ [(93, .heap [.sl .span, .int] out93), (95, .heap [.int] out95)]
def sigs3 : Sigs := look sigL3
end Go.Proofs.Zn

namespace Go.Proofs.Zn
open Go Go.VL

def C93 (l out bad : Nat) : AV := .clo (.func 93) [] [.ptr l 0, .ptr out 0, .ptr bad 0]
def L47 (d : Deck) (x i : Int) : AS := mkS 45 [(1, .ptr 0 0), (3, .ptr 1 0), (4, .clo (.func 95) [] [.ptr 1 0, .ptr 0 0]), (16, .d (.sl .plate d.plates)), (17, i64 d.plates.length), (18, i64 i)] [(0, .box (deckC d)), (1, .box [i64 x])] 2
def H93 (d : Deck) (bad : Int) (xs : List Span) : Heap := [(0, .box (deckC d)), (1, .box [.own 3 .span]), (2, .box [i64 bad]), (3, .row 38 .span xs)]
def L45 (d : Deck) (bad : Int) (out : List Span) : AS := mkS 76 [(1, .ptr 0 0), (5, .ptr 1 0), (6, .ptr 2 0), (7, C93 0 1 2)] (H93 d bad out) 4


theorem t95 (d : Deck) (k u n e : Int) : @Eq (Out GRes) (aexec Try.prog codes sigs3 Try.f95 (gFin 2) 2 noCut 200 false (bodyOf Try.f95) (startG Try.f95 [i64 k, i64 u, i64 n, .ptr 0 0, .ptr 1 0] [(0, .box [i64 e]), (1, .box (deckC d))] 2))
    (Out.stop (hd Try.f95 (0 : Nat))
  (mkS (30 : Nat)
    [((0 : Nat), AV.d (D.v (Value.int IntKind.i64 k))), ((1 : Nat), AV.d (D.v (Value.int IntKind.i64 u))),
      ((2 : Nat), AV.d (D.v (Value.int IntKind.i64 n))), ((3 : Nat), AV.ptr (0 : Nat) (0 : Nat)),
      ((4 : Nat), AV.ptr (1 : Nat) (0 : Nat)), ((9 : Nat), AV.d (D.v (Value.int IntKind.i64 (0 : Int))))]
    [((0 : Nat), ABlk.box [AV.d (D.v (Value.int IntKind.i64 e))]),
      ((1 : Nat),
        ABlk.box
          [AV.d (D.sl Ty.flt (Deck.borders d)), AV.d (D.sl Ty.plate (Deck.plates d)),
            AV.d (D.sl Ty.rack (Deck.racks d)), AV.d (D.v (Value.int IntKind.i64 (Deck.arms d)))])]
    (2 : Nat))) := by kernel_rfl

theorem t93 (d : Deck) (k u r n bad : Int) (xs : List Span) : @Eq (Out GRes) (aexec Try.prog codes sigs3 Try.f93 (gFin 4) 4 noCut 200 false (bodyOf Try.f93) (startG Try.f93 [i64 k, i64 u, i64 r, i64 n, .ptr 0 0, .ptr 1 0, .ptr 2 0] (H93 d bad xs) 4))
    (Out.need ((True ∧ True ∧ True ∧ True ∧ True) ∧ (True ∧ True) ∧ (True ∧ True) ∧ (True ∧ True) ∧ True)
  (Out.callP (94 : Nat) [Sigma.mk Ty.deck d, Sigma.mk Ty.int k, Sigma.mk Ty.int u, Sigma.mk Ty.int n]
    [Ty.sl Ty.span, Ty.int] fun (x : List Span × Int) =>
    Out.stop (hd Try.f93 (0 : Nat))
      (mkS (32 : Nat)
        [((5 : Nat), AV.ptr (1 : Nat) (0 : Nat)), ((6 : Nat), AV.ptr (2 : Nat) (0 : Nat)),
          ((12 : Nat), AV.d (D.sl Ty.span (Prod.fst x))), ((13 : Nat), AV.d (D.v (Value.int IntKind.i64 (Prod.snd x)))),
          ((22 : Nat), AV.d (D.v (Value.int IntKind.i64 r))),
          ((23 : Nat), AV.d (D.v (Value.int IntKind.i64 (0 : Int))))]
        [((0 : Nat),
            ABlk.box
              [AV.d (D.sl Ty.flt (Deck.borders d)), AV.d (D.sl Ty.plate (Deck.plates d)),
                AV.d (D.sl Ty.rack (Deck.racks d)), AV.d (D.v (Value.int IntKind.i64 (Deck.arms d)))]),
          ((1 : Nat), ABlk.box [AV.own (3 : Nat) Ty.span]),
          ((2 : Nat), ABlk.box [AV.d (D.v (Value.int IntKind.i64 bad))]),
          ((3 : Nat), ABlk.row (38 : TypeId) Ty.span xs)]
        (4 : Nat)))) := by kernel_rfl

theorem t47a (d : Deck) (x i : Int) : @Eq (Out (TyTup [.int])) (aexec Try.prog codes sigs3 Try.f47 (pureFin [.int]) 0 noCut 200 true (hd Try.f47 0) (L47 d x i))
    (bif decide (i < (↑(List.length (Deck.plates d)) : Int)) then
  Out.need (((0 : Int) ≤ i ∧ i < (↑(List.length (Deck.plates d)) : Int)) ∧ True)
    (Out.callG (95 : Nat)
      [AV.d (D.v (Value.int IntKind.i64 (1 : Int))), AV.d (D.v (Value.int IntKind.i64 i)),
        AV.d (D.v (Value.int IntKind.i64 (Plate.cols (List.getD (Deck.plates d) (Int.toNat i) (Ty.dflt Ty.plate))))),
        AV.ptr (0 : Nat) (0 : Nat), AV.ptr (1 : Nat) (0 : Nat)]
      [((0 : Nat), ABlk.box [AV.d (D.v (Value.int IntKind.i64 x))]),
        ((1 : Nat),
          ABlk.box
            [AV.d (D.sl Ty.flt (Deck.borders d)), AV.d (D.sl Ty.plate (Deck.plates d)),
              AV.d (D.sl Ty.rack (Deck.racks d)), AV.d (D.v (Value.int IntKind.i64 (Deck.arms d)))])]
      (2 : Nat) [Ty.int]
      (fun (a : Int) =>
        GRes.mk [AV.d (D.v (Value.bool (a != (0 : Int))))]
          [((0 : Nat), ABlk.box [AV.d (D.v (Value.int IntKind.i64 a))]),
            ((1 : Nat),
              ABlk.box
                [AV.d (D.sl Ty.flt (Deck.borders d)), AV.d (D.sl Ty.plate (Deck.plates d)),
                  AV.d (D.sl Ty.rack (Deck.racks d)), AV.d (D.v (Value.int IntKind.i64 (Deck.arms d)))])]
          (2 : Nat))
      fun (x : Int) =>
      bif x != (0 : Int) then Out.need (True ∧ True) (Out.ret x)
      else
        Out.stop (hd Try.f47 (0 : Nat))
          (mkS (45 : Nat)
            [((1 : Nat), AV.ptr (0 : Nat) (0 : Nat)), ((3 : Nat), AV.ptr (1 : Nat) (0 : Nat)),
              ((4 : Nat), AV.clo (Fn.func (95 : FuncId)) [] [AV.ptr (1 : Nat) (0 : Nat), AV.ptr (0 : Nat) (0 : Nat)]),
              ((16 : Nat), AV.d (D.sl Ty.plate (Deck.plates d))),
              ((17 : Nat), AV.d (D.v (Value.int IntKind.i64 (↑(List.length (Deck.plates d)) : Int)))),
              ((18 : Nat), AV.d (D.v (Value.int IntKind.i64 (IntKind.wrap IntKind.i64 (i + (1 : Int))))))]
            [((0 : Nat),
                ABlk.box
                  [AV.d (D.sl Ty.flt (Deck.borders d)), AV.d (D.sl Ty.plate (Deck.plates d)),
                    AV.d (D.sl Ty.rack (Deck.racks d)), AV.d (D.v (Value.int IntKind.i64 (Deck.arms d)))]),
              ((1 : Nat), ABlk.box [AV.d (D.v (Value.int IntKind.i64 x))])]
            (2 : Nat)))
  else
  Out.stop (hd Try.f47 (1 : Nat))
    (mkS (45 : Nat)
      [((3 : Nat), AV.ptr (0 : Nat) (0 : Nat)),
        ((4 : Nat), AV.clo (Fn.func (95 : FuncId)) [] [AV.ptr (0 : Nat) (0 : Nat), AV.ptr (1 : Nat) (0 : Nat)]),
        ((31 : Nat), AV.d (D.sl Ty.rack (Deck.racks d))),
        ((32 : Nat), AV.d (D.v (Value.int IntKind.i64 (↑(List.length (Deck.racks d)) : Int)))),
        ((33 : Nat), AV.d (D.v (Value.int IntKind.i64 (0 : Int))))]
      [((0 : Nat), ABlk.box [AV.d (D.v (Value.int IntKind.i64 x))]),
        ((1 : Nat),
          ABlk.box
            [AV.d (D.sl Ty.flt (Deck.borders d)), AV.d (D.sl Ty.plate (Deck.plates d)),
              AV.d (D.sl Ty.rack (Deck.racks d)), AV.d (D.v (Value.int IntKind.i64 (Deck.arms d)))])]
      (2 : Nat))) := by kernel_rfl

theorem t45a (d : Deck) (bad : Int) (out : List Span) : @Eq (Out (TyTup [.sl .span, .int])) (aexec Try.prog codes sigs3 Try.f45 (pureFin [.sl .span, .int]) 0 noCut 300 true (hd Try.f45 0) (L45 d bad out))
    (Out.stop (hd Try.f45 (1 : Nat))
  (mkS (76 : Nat)
    [((1 : Nat), AV.ptr (0 : Nat) (0 : Nat)), ((5 : Nat), AV.ptr (1 : Nat) (0 : Nat)),
      ((6 : Nat), AV.ptr (2 : Nat) (0 : Nat)),
      ((7 : Nat),
        AV.clo (Fn.func (93 : FuncId)) []
          [AV.ptr (0 : Nat) (0 : Nat), AV.ptr (1 : Nat) (0 : Nat), AV.ptr (2 : Nat) (0 : Nat)]),
      ((20 : Nat), AV.d (D.sl Ty.plate (Deck.plates d))),
      ((21 : Nat), AV.d (D.v (Value.int IntKind.i64 (↑(List.length (Deck.plates d)) : Int)))),
      ((22 : Nat), AV.d (D.v (Value.int IntKind.i64 (0 : Int))))]
    [((0 : Nat),
        ABlk.box
          [AV.d (D.sl Ty.flt (Deck.borders d)), AV.d (D.sl Ty.plate (Deck.plates d)),
            AV.d (D.sl Ty.rack (Deck.racks d)), AV.d (D.v (Value.int IntKind.i64 (Deck.arms d)))]),
      ((1 : Nat), ABlk.box [AV.own (3 : Nat) Ty.span]), ((2 : Nat), ABlk.box [AV.d (D.v (Value.int IntKind.i64 bad))]),
      ((3 : Nat), ABlk.row (38 : TypeId) Ty.span out)]
    (4 : Nat))) := by kernel_rfl

end Go.Proofs.Zn

namespace Go.Proofs.Zn
open Go Go.VL

def L95 (d : Deck) (k u n e c : Int) : AS := mkS 30 [(0, i64 k), (1, i64 u), (2, i64 n), (3, .ptr 0 0), (4, .ptr 1 0), (9, i64 c)] [(0, .box [i64 e]), (1, .box (deckC d))] 2
def L93a (d : Deck) (cs : List Span) (ce r bad : Int) (xs : List Span) (j : Int) : AS := mkS 32 [(5, .ptr 1 0), (6, .ptr 2 0), (12, .d (.sl .span cs)), (13, i64 ce), (22, i64 r), (23, i64 j)] (H93 d bad xs) 4
def L93b (d : Deck) (cs : List Span) (ce r bad : Int) (xs : List Span) (j : Int) : AS := mkS 32 [(5, .ptr 1 0), (6, .ptr 2 0), (12, .d (.sl .span cs)), (13, i64 ce), (22, i64 r), (23, i64 j)] [(0, .box (deckC d)), (1, .box [.own 4 .span]), (2, .box [i64 bad]), (4, .row 38 .span xs)] 5
def L47b (d : Deck) (x i : Int) : AS := mkS 45 [(3, .ptr 0 0), (4, .clo (.func 95) [] [.ptr 0 0, .ptr 1 0]), (31, .d (.sl .rack d.racks)), (32, i64 d.racks.length), (33, i64 i)] [(0, .box [i64 x]), (1, .box (deckC d))] 2
def L45b (d : Deck) (bad : Int) (out : List Span) (i : Int) : AS := mkS 76 [(1, .ptr 0 0), (5, .ptr 1 0), (6, .ptr 2 0), (7, C93 0 1 2), (20, .d (.sl .plate d.plates)), (21, i64 d.plates.length), (22, i64 i)] (H93 d bad out) 4


theorem t95a (d : Deck) (k u n e c : Int) : @Eq (Out GRes) (aexec Try.prog codes sigs3 Try.f95 (gFin 2) 2 noCut 200 true (hd Try.f95 0) (L95 d k u n e c))
    (bif decide (c < n) then
  bif e == (0 : Int) then
    Out.need ((True ∧ True ∧ True ∧ True ∧ True) ∧ (True ∧ True ∧ True ∧ True ∧ True) ∧ True)
      (Out.callP (85 : Nat) [Sigma.mk Ty.deck d, Sigma.mk Ty.part (Part.mk k u (0 : Int) c)] [Ty.span, Ty.int]
        fun (x : Span × Int) =>
        Out.stop (hd Try.f95 (0 : Nat))
          (mkS (30 : Nat)
            [((0 : Nat), AV.d (D.v (Value.int IntKind.i64 k))), ((1 : Nat), AV.d (D.v (Value.int IntKind.i64 u))),
              ((2 : Nat), AV.d (D.v (Value.int IntKind.i64 n))), ((3 : Nat), AV.ptr (0 : Nat) (0 : Nat)),
              ((4 : Nat), AV.ptr (1 : Nat) (0 : Nat)),
              ((9 : Nat), AV.d (D.v (Value.int IntKind.i64 (IntKind.wrap IntKind.i64 (c + (1 : Int))))))]
            [((0 : Nat), ABlk.box [AV.d (D.v (Value.int IntKind.i64 (Prod.snd x)))]),
              ((1 : Nat),
                ABlk.box
                  [AV.d (D.sl Ty.flt (Deck.borders d)), AV.d (D.sl Ty.plate (Deck.plates d)),
                    AV.d (D.sl Ty.rack (Deck.racks d)), AV.d (D.v (Value.int IntKind.i64 (Deck.arms d)))])]
            (2 : Nat)))
  else
    Out.need True
      (Out.ret
        (GRes.mk [AV.d (D.v (Value.bool (e != (0 : Int))))]
          [((0 : Nat), ABlk.box [AV.d (D.v (Value.int IntKind.i64 e))]),
            ((1 : Nat),
              ABlk.box
                [AV.d (D.sl Ty.flt (Deck.borders d)), AV.d (D.sl Ty.plate (Deck.plates d)),
                  AV.d (D.sl Ty.rack (Deck.racks d)), AV.d (D.v (Value.int IntKind.i64 (Deck.arms d)))])]
          (2 : Nat)))
  else
  Out.need True
    (Out.ret
      (GRes.mk [AV.d (D.v (Value.bool (e != (0 : Int))))]
        [((0 : Nat), ABlk.box [AV.d (D.v (Value.int IntKind.i64 e))]),
          ((1 : Nat),
            ABlk.box
              [AV.d (D.sl Ty.flt (Deck.borders d)), AV.d (D.sl Ty.plate (Deck.plates d)),
                AV.d (D.sl Ty.rack (Deck.racks d)), AV.d (D.v (Value.int IntKind.i64 (Deck.arms d)))])]
        (2 : Nat)))) := by kernel_rfl

theorem t93a (d : Deck) (cs : List Span) (ce r bad : Int) (xs : List Span) (j : Int) : @Eq (Out GRes) (aexec Try.prog codes sigs3 Try.f93 (gFin 4) 4 noCut 200 true (hd Try.f93 0) (L93a d cs ce r bad xs j))
    (bif decide (j < r) then
  Out.need ((List.length xs + List.length cs) * (17 : Nat) ≤ (35184372088832 : Nat) ∧ True)
    (Out.stop (hd Try.f93 (0 : Nat))
      (mkS (32 : Nat)
        [((5 : Nat), AV.ptr (1 : Nat) (0 : Nat)), ((6 : Nat), AV.ptr (2 : Nat) (0 : Nat)),
          ((12 : Nat), AV.d (D.sl Ty.span cs)), ((13 : Nat), AV.d (D.v (Value.int IntKind.i64 ce))),
          ((22 : Nat), AV.d (D.v (Value.int IntKind.i64 r))),
          ((23 : Nat), AV.d (D.v (Value.int IntKind.i64 (IntKind.wrap IntKind.i64 (j + (1 : Int))))))]
        [((0 : Nat),
            ABlk.box
              [AV.d (D.sl Ty.flt (Deck.borders d)), AV.d (D.sl Ty.plate (Deck.plates d)),
                AV.d (D.sl Ty.rack (Deck.racks d)), AV.d (D.v (Value.int IntKind.i64 (Deck.arms d)))]),
          ((1 : Nat), ABlk.box [AV.own (4 : Nat) Ty.span]),
          ((2 : Nat), ABlk.box [AV.d (D.v (Value.int IntKind.i64 bad))]),
          ((4 : Nat), ABlk.row (38 : Nat) Ty.span (xs ++ cs))]
        (5 : Nat)))
  else
  Out.need True
    (Out.ret
      (GRes.mk [AV.d (D.v (Value.bool (ce == (0 : Int))))]
        [((0 : Nat),
            ABlk.box
              [AV.d (D.sl Ty.flt (Deck.borders d)), AV.d (D.sl Ty.plate (Deck.plates d)),
                AV.d (D.sl Ty.rack (Deck.racks d)), AV.d (D.v (Value.int IntKind.i64 (Deck.arms d)))]),
          ((1 : Nat), ABlk.box [AV.own (3 : Nat) Ty.span]),
          ((2 : Nat), ABlk.box [AV.d (D.v (Value.int IntKind.i64 ce))]), ((3 : Nat), ABlk.row (38 : TypeId) Ty.span xs)]
        (4 : Nat)))) := by kernel_rfl

theorem t93b (d : Deck) (cs : List Span) (ce r bad : Int) (xs : List Span) (j : Int) : @Eq (Out GRes) (aexec Try.prog codes sigs3 Try.f93 (gFin 4) 4 noCut 200 true (hd Try.f93 0) (L93b d cs ce r bad xs j))
    (bif decide (j < r) then
  Out.need ((List.length xs + List.length cs) * (17 : Nat) ≤ (35184372088832 : Nat) ∧ True)
    (Out.stop (hd Try.f93 (0 : Nat))
      (mkS (32 : Nat)
        [((5 : Nat), AV.ptr (1 : Nat) (0 : Nat)), ((6 : Nat), AV.ptr (2 : Nat) (0 : Nat)),
          ((12 : Nat), AV.d (D.sl Ty.span cs)), ((13 : Nat), AV.d (D.v (Value.int IntKind.i64 ce))),
          ((22 : Nat), AV.d (D.v (Value.int IntKind.i64 r))),
          ((23 : Nat), AV.d (D.v (Value.int IntKind.i64 (IntKind.wrap IntKind.i64 (j + (1 : Int))))))]
        [((0 : Nat),
            ABlk.box
              [AV.d (D.sl Ty.flt (Deck.borders d)), AV.d (D.sl Ty.plate (Deck.plates d)),
                AV.d (D.sl Ty.rack (Deck.racks d)), AV.d (D.v (Value.int IntKind.i64 (Deck.arms d)))]),
          ((1 : Nat), ABlk.box [AV.own (4 : Nat) Ty.span]),
          ((2 : Nat), ABlk.box [AV.d (D.v (Value.int IntKind.i64 bad))]),
          ((4 : Nat), ABlk.row (38 : Nat) Ty.span (xs ++ cs))]
        (5 : Nat)))
  else
  Out.need True
    (Out.ret
      (GRes.mk [AV.d (D.v (Value.bool (ce == (0 : Int))))]
        [((0 : Nat),
            ABlk.box
              [AV.d (D.sl Ty.flt (Deck.borders d)), AV.d (D.sl Ty.plate (Deck.plates d)),
                AV.d (D.sl Ty.rack (Deck.racks d)), AV.d (D.v (Value.int IntKind.i64 (Deck.arms d)))]),
          ((1 : Nat), ABlk.box [AV.own (4 : Nat) Ty.span]),
          ((2 : Nat), ABlk.box [AV.d (D.v (Value.int IntKind.i64 ce))]), ((4 : Nat), ABlk.row (38 : TypeId) Ty.span xs)]
        (5 : Nat)))) := by kernel_rfl

theorem t47b (d : Deck) (x i : Int) : @Eq (Out (TyTup [.int])) (aexec Try.prog codes sigs3 Try.f47 (pureFin [.int]) 0 noCut 200 true (hd Try.f47 1) (L47b d x i))
    (bif decide (i < (↑(List.length (Deck.racks d)) : Int)) then
  Out.need (((0 : Int) ≤ i ∧ i < (↑(List.length (Deck.racks d)) : Int)) ∧ True)
    (Out.callG (95 : Nat)
      [AV.d (D.v (Value.int IntKind.i64 (2 : Int))), AV.d (D.v (Value.int IntKind.i64 i)),
        AV.d (D.v (Value.int IntKind.i64 (Rack.cols (List.getD (Deck.racks d) (Int.toNat i) (Ty.dflt Ty.rack))))),
        AV.ptr (0 : Nat) (0 : Nat), AV.ptr (1 : Nat) (0 : Nat)]
      [((0 : Nat), ABlk.box [AV.d (D.v (Value.int IntKind.i64 x))]),
        ((1 : Nat),
          ABlk.box
            [AV.d (D.sl Ty.flt (Deck.borders d)), AV.d (D.sl Ty.plate (Deck.plates d)),
              AV.d (D.sl Ty.rack (Deck.racks d)), AV.d (D.v (Value.int IntKind.i64 (Deck.arms d)))])]
      (2 : Nat) [Ty.int]
      (fun (a : Int) =>
        GRes.mk [AV.d (D.v (Value.bool (a != (0 : Int))))]
          [((0 : Nat), ABlk.box [AV.d (D.v (Value.int IntKind.i64 a))]),
            ((1 : Nat),
              ABlk.box
                [AV.d (D.sl Ty.flt (Deck.borders d)), AV.d (D.sl Ty.plate (Deck.plates d)),
                  AV.d (D.sl Ty.rack (Deck.racks d)), AV.d (D.v (Value.int IntKind.i64 (Deck.arms d)))])]
          (2 : Nat))
      fun (x : Int) =>
      bif x != (0 : Int) then Out.need (True ∧ True) (Out.ret x)
      else
        Out.stop (hd Try.f47 (1 : Nat))
          (mkS (45 : Nat)
            [((3 : Nat), AV.ptr (0 : Nat) (0 : Nat)),
              ((4 : Nat), AV.clo (Fn.func (95 : FuncId)) [] [AV.ptr (0 : Nat) (0 : Nat), AV.ptr (1 : Nat) (0 : Nat)]),
              ((31 : Nat), AV.d (D.sl Ty.rack (Deck.racks d))),
              ((32 : Nat), AV.d (D.v (Value.int IntKind.i64 (↑(List.length (Deck.racks d)) : Int)))),
              ((33 : Nat), AV.d (D.v (Value.int IntKind.i64 (IntKind.wrap IntKind.i64 (i + (1 : Int))))))]
            [((0 : Nat), ABlk.box [AV.d (D.v (Value.int IntKind.i64 x))]),
              ((1 : Nat),
                ABlk.box
                  [AV.d (D.sl Ty.flt (Deck.borders d)), AV.d (D.sl Ty.plate (Deck.plates d)),
                    AV.d (D.sl Ty.rack (Deck.racks d)), AV.d (D.v (Value.int IntKind.i64 (Deck.arms d)))])]
            (2 : Nat)))
  else Out.need (True ∧ True) (Out.ret (0 : Int))) := by kernel_rfl

theorem t45b (d : Deck) (bad : Int) (out : List Span) (i : Int) : @Eq (Out (TyTup [.sl .span, .int])) (aexec Try.prog codes sigs3 Try.f45 (pureFin [.sl .span, .int]) 0 noCut 300 true (hd Try.f45 1) (L45b d bad out i))
    (bif decide (i < (↑(List.length (Deck.plates d)) : Int)) then
  Out.need (((0 : Int) ≤ i ∧ i < (↑(List.length (Deck.plates d)) : Int)) ∧ True)
    (Out.callG (93 : Nat)
      [AV.d (D.v (Value.int IntKind.i64 (1 : Int))), AV.d (D.v (Value.int IntKind.i64 i)),
        AV.d (D.v (Value.int IntKind.i64 (Plate.rows (List.getD (Deck.plates d) (Int.toNat i) (Ty.dflt Ty.plate))))),
        AV.d (D.v (Value.int IntKind.i64 (Plate.cols (List.getD (Deck.plates d) (Int.toNat i) (Ty.dflt Ty.plate))))),
        AV.ptr (0 : Nat) (0 : Nat), AV.ptr (1 : Nat) (0 : Nat), AV.ptr (2 : Nat) (0 : Nat)]
      [((0 : Nat),
          ABlk.box
            [AV.d (D.sl Ty.flt (Deck.borders d)), AV.d (D.sl Ty.plate (Deck.plates d)),
              AV.d (D.sl Ty.rack (Deck.racks d)), AV.d (D.v (Value.int IntKind.i64 (Deck.arms d)))]),
        ((1 : Nat), ABlk.box [AV.own (3 : Nat) Ty.span]),
        ((2 : Nat), ABlk.box [AV.d (D.v (Value.int IntKind.i64 bad))]), ((3 : Nat), ABlk.row (38 : TypeId) Ty.span out)]
      (4 : Nat) [Ty.sl Ty.span, Ty.int]
      (fun (a : List Span × Int) =>
        GRes.mk [AV.d (D.v (Value.bool (Prod.snd a == (0 : Int))))]
          [((0 : Nat),
              ABlk.box
                [AV.d (D.sl Ty.flt (Deck.borders d)), AV.d (D.sl Ty.plate (Deck.plates d)),
                  AV.d (D.sl Ty.rack (Deck.racks d)), AV.d (D.v (Value.int IntKind.i64 (Deck.arms d)))]),
            ((1 : Nat), ABlk.box [AV.own (4 : Nat) Ty.span]),
            ((2 : Nat), ABlk.box [AV.d (D.v (Value.int IntKind.i64 (Prod.snd a)))]),
            ((4 : Nat), ABlk.row (38 : TypeId) Ty.span (Prod.fst a))]
          (5 : Nat))
      fun (x : List Span × Int) =>
      bif !Prod.snd x == (0 : Int) then
        bif Prod.snd x != (0 : Int) then Out.need ((True ∧ True) ∧ True ∧ True) (Out.ret ([], Prod.snd x))
        else
          Out.stop (hd Try.f45 (3 : Nat))
            (mkS (76 : Nat)
              [((5 : Nat), AV.ptr (0 : Nat) (0 : Nat)),
                ((59 : Nat),
                  AV.d
                    (D.v
                      (Value.int IntKind.i64
                        (IntKind.wrap IntKind.i64 ((↑(List.length (Deck.borders d)) : Int) - (1 : Int)))))),
                ((60 : Nat), AV.d (D.v (Value.int IntKind.i64 (0 : Int))))]
              [((0 : Nat), ABlk.box [AV.own (1 : Nat) Ty.span]),
                ((1 : Nat), ABlk.row (38 : TypeId) Ty.span (Prod.fst x))]
              (2 : Nat))
      else
        Out.stop (hd Try.f45 (1 : Nat))
          (mkS (76 : Nat)
            [((1 : Nat), AV.ptr (0 : Nat) (0 : Nat)), ((5 : Nat), AV.ptr (1 : Nat) (0 : Nat)),
              ((6 : Nat), AV.ptr (2 : Nat) (0 : Nat)),
              ((7 : Nat),
                AV.clo (Fn.func (93 : FuncId)) []
                  [AV.ptr (0 : Nat) (0 : Nat), AV.ptr (1 : Nat) (0 : Nat), AV.ptr (2 : Nat) (0 : Nat)]),
              ((20 : Nat), AV.d (D.sl Ty.plate (Deck.plates d))),
              ((21 : Nat), AV.d (D.v (Value.int IntKind.i64 (↑(List.length (Deck.plates d)) : Int)))),
              ((22 : Nat), AV.d (D.v (Value.int IntKind.i64 (IntKind.wrap IntKind.i64 (i + (1 : Int))))))]
            [((0 : Nat),
                ABlk.box
                  [AV.d (D.sl Ty.flt (Deck.borders d)), AV.d (D.sl Ty.plate (Deck.plates d)),
                    AV.d (D.sl Ty.rack (Deck.racks d)), AV.d (D.v (Value.int IntKind.i64 (Deck.arms d)))]),
              ((1 : Nat), ABlk.box [AV.own (3 : Nat) Ty.span]),
              ((2 : Nat), ABlk.box [AV.d (D.v (Value.int IntKind.i64 (Prod.snd x)))]),
              ((3 : Nat), ABlk.row (38 : TypeId) Ty.span (Prod.fst x))]
            (4 : Nat)))
  else
  Out.stop (hd Try.f45 (2 : Nat))
    (mkS (76 : Nat)
      [((1 : Nat), AV.ptr (0 : Nat) (0 : Nat)), ((5 : Nat), AV.ptr (1 : Nat) (0 : Nat)),
        ((6 : Nat), AV.ptr (2 : Nat) (0 : Nat)),
        ((7 : Nat),
          AV.clo (Fn.func (93 : FuncId)) []
            [AV.ptr (0 : Nat) (0 : Nat), AV.ptr (1 : Nat) (0 : Nat), AV.ptr (2 : Nat) (0 : Nat)]),
        ((37 : Nat), AV.d (D.sl Ty.rack (Deck.racks d))),
        ((38 : Nat), AV.d (D.v (Value.int IntKind.i64 (↑(List.length (Deck.racks d)) : Int)))),
        ((39 : Nat), AV.d (D.v (Value.int IntKind.i64 (0 : Int))))]
      [((0 : Nat),
          ABlk.box
            [AV.d (D.sl Ty.flt (Deck.borders d)), AV.d (D.sl Ty.plate (Deck.plates d)),
              AV.d (D.sl Ty.rack (Deck.racks d)), AV.d (D.v (Value.int IntKind.i64 (Deck.arms d)))]),
        ((1 : Nat), ABlk.box [AV.own (3 : Nat) Ty.span]),
        ((2 : Nat), ABlk.box [AV.d (D.v (Value.int IntKind.i64 bad))]), ((3 : Nat), ABlk.row (38 : TypeId) Ty.span out)]
      (4 : Nat))) := by kernel_rfl

end Go.Proofs.Zn

namespace Go.Proofs.Zn
open Go Go.VL

def L45c (d : Deck) (bad : Int) (out : List Span) (i : Int) : AS := mkS 76 [(1, .ptr 0 0), (5, .ptr 1 0), (6, .ptr 2 0), (7, C93 0 1 2), (37, .d (.sl .rack d.racks)), (38, i64 d.racks.length), (39, i64 i)] (H93 d bad out) 4
def L45d (n : Int) (out : List Span) (i : Int) : AS := mkS 76 [(5, .ptr 0 0), (59, i64 n), (60, i64 i)] [(0, .box [.own 1 .span]), (1, .row 38 .span out)] 2


theorem t45c (d : Deck) (bad : Int) (out : List Span) (i : Int) : @Eq (Out (TyTup [.sl .span, .int])) (aexec Try.prog codes sigs3 Try.f45 (pureFin [.sl .span, .int]) 0 noCut 300 true (hd Try.f45 2) (L45c d bad out i))
    (bif decide (i < (↑(List.length (Deck.racks d)) : Int)) then
  Out.need (((0 : Int) ≤ i ∧ i < (↑(List.length (Deck.racks d)) : Int)) ∧ True)
    (Out.callG (93 : Nat)
      [AV.d (D.v (Value.int IntKind.i64 (2 : Int))), AV.d (D.v (Value.int IntKind.i64 i)),
        AV.d (D.v (Value.int IntKind.i64 (Rack.rows (List.getD (Deck.racks d) (Int.toNat i) (Ty.dflt Ty.rack))))),
        AV.d (D.v (Value.int IntKind.i64 (Rack.cols (List.getD (Deck.racks d) (Int.toNat i) (Ty.dflt Ty.rack))))),
        AV.ptr (0 : Nat) (0 : Nat), AV.ptr (1 : Nat) (0 : Nat), AV.ptr (2 : Nat) (0 : Nat)]
      [((0 : Nat),
          ABlk.box
            [AV.d (D.sl Ty.flt (Deck.borders d)), AV.d (D.sl Ty.plate (Deck.plates d)),
              AV.d (D.sl Ty.rack (Deck.racks d)), AV.d (D.v (Value.int IntKind.i64 (Deck.arms d)))]),
        ((1 : Nat), ABlk.box [AV.own (3 : Nat) Ty.span]),
        ((2 : Nat), ABlk.box [AV.d (D.v (Value.int IntKind.i64 bad))]), ((3 : Nat), ABlk.row (38 : TypeId) Ty.span out)]
      (4 : Nat) [Ty.sl Ty.span, Ty.int]
      (fun (a : List Span × Int) =>
        GRes.mk [AV.d (D.v (Value.bool (Prod.snd a == (0 : Int))))]
          [((0 : Nat),
              ABlk.box
                [AV.d (D.sl Ty.flt (Deck.borders d)), AV.d (D.sl Ty.plate (Deck.plates d)),
                  AV.d (D.sl Ty.rack (Deck.racks d)), AV.d (D.v (Value.int IntKind.i64 (Deck.arms d)))]),
            ((1 : Nat), ABlk.box [AV.own (4 : Nat) Ty.span]),
            ((2 : Nat), ABlk.box [AV.d (D.v (Value.int IntKind.i64 (Prod.snd a)))]),
            ((4 : Nat), ABlk.row (38 : TypeId) Ty.span (Prod.fst a))]
          (5 : Nat))
      fun (x : List Span × Int) =>
      bif !Prod.snd x == (0 : Int) then
        bif Prod.snd x != (0 : Int) then Out.need ((True ∧ True) ∧ True ∧ True) (Out.ret ([], Prod.snd x))
        else
          Out.stop (hd Try.f45 (3 : Nat))
            (mkS (76 : Nat)
              [((5 : Nat), AV.ptr (0 : Nat) (0 : Nat)),
                ((59 : Nat),
                  AV.d
                    (D.v
                      (Value.int IntKind.i64
                        (IntKind.wrap IntKind.i64 ((↑(List.length (Deck.borders d)) : Int) - (1 : Int)))))),
                ((60 : Nat), AV.d (D.v (Value.int IntKind.i64 (0 : Int))))]
              [((0 : Nat), ABlk.box [AV.own (1 : Nat) Ty.span]),
                ((1 : Nat), ABlk.row (38 : TypeId) Ty.span (Prod.fst x))]
              (2 : Nat))
      else
        Out.stop (hd Try.f45 (2 : Nat))
          (mkS (76 : Nat)
            [((1 : Nat), AV.ptr (0 : Nat) (0 : Nat)), ((5 : Nat), AV.ptr (1 : Nat) (0 : Nat)),
              ((6 : Nat), AV.ptr (2 : Nat) (0 : Nat)),
              ((7 : Nat),
                AV.clo (Fn.func (93 : FuncId)) []
                  [AV.ptr (0 : Nat) (0 : Nat), AV.ptr (1 : Nat) (0 : Nat), AV.ptr (2 : Nat) (0 : Nat)]),
              ((37 : Nat), AV.d (D.sl Ty.rack (Deck.racks d))),
              ((38 : Nat), AV.d (D.v (Value.int IntKind.i64 (↑(List.length (Deck.racks d)) : Int)))),
              ((39 : Nat), AV.d (D.v (Value.int IntKind.i64 (IntKind.wrap IntKind.i64 (i + (1 : Int))))))]
            [((0 : Nat),
                ABlk.box
                  [AV.d (D.sl Ty.flt (Deck.borders d)), AV.d (D.sl Ty.plate (Deck.plates d)),
                    AV.d (D.sl Ty.rack (Deck.racks d)), AV.d (D.v (Value.int IntKind.i64 (Deck.arms d)))]),
              ((1 : Nat), ABlk.box [AV.own (3 : Nat) Ty.span]),
              ((2 : Nat), ABlk.box [AV.d (D.v (Value.int IntKind.i64 (Prod.snd x)))]),
              ((3 : Nat), ABlk.row (38 : TypeId) Ty.span (Prod.fst x))]
            (4 : Nat)))
  else
  bif bad != (0 : Int) then Out.need ((True ∧ True) ∧ True ∧ True) (Out.ret ([], bad))
  else
    Out.stop (hd Try.f45 (3 : Nat))
      (mkS (76 : Nat)
        [((5 : Nat), AV.ptr (0 : Nat) (0 : Nat)),
          ((59 : Nat),
            AV.d
              (D.v
                (Value.int IntKind.i64
                  (IntKind.wrap IntKind.i64 ((↑(List.length (Deck.borders d)) : Int) - (1 : Int)))))),
          ((60 : Nat), AV.d (D.v (Value.int IntKind.i64 (0 : Int))))]
        [((0 : Nat), ABlk.box [AV.own (1 : Nat) Ty.span]), ((1 : Nat), ABlk.row (38 : TypeId) Ty.span out)] (2 : Nat))) := by kernel_rfl

theorem t45d (n : Int) (out : List Span) (i : Int) : @Eq (Out (TyTup [.sl .span, .int])) (aexec Try.prog codes sigs3 Try.f45 (pureFin [.sl .span, .int]) 0 noCut 300 true (hd Try.f45 3) (L45d n out i))
    (bif decide (i < n) then
  Out.need ((True ∧ True ∧ True) ∧ True)
    (Out.need ((List.length out + List.length [Span.mk i i]) * (17 : Nat) ≤ (35184372088832 : Nat) ∧ True)
      (Out.stop (hd Try.f45 (3 : Nat))
        (mkS (76 : Nat)
          [((5 : Nat), AV.ptr (0 : Nat) (0 : Nat)), ((59 : Nat), AV.d (D.v (Value.int IntKind.i64 n))),
            ((60 : Nat), AV.d (D.v (Value.int IntKind.i64 (IntKind.wrap IntKind.i64 (i + (1 : Int))))))]
          [((0 : Nat), ABlk.box [AV.own (1 : Nat) Ty.span]),
            ((1 : Nat), ABlk.row (38 : Nat) Ty.span (out ++ [Span.mk i i]))]
          (2 : Nat))))
  else
  Out.need
    ((0 : Int) ≤ (0 : Int) ∧
      (0 : Int) ≤ (↑(List.length out) : Int) ∧
        (↑(List.length out) : Int) ≤ (↑(List.length out) : Int) ∧
          (↑(List.length out) : Int) ≤ (↑(List.length out) : Int))
    (Out.need (((0 : Nat) + (Int.toNat (↑(List.length out) : Int) - (0 : Nat)) ≤ List.length out ∧ True) ∧ True ∧ True)
      (Out.ret (List.take (Int.toNat (↑(List.length out) : Int) - (0 : Nat)) (List.drop (0 : Nat) out), (0 : Int))))) := by kernel_rfl

theorem t47z (d : Deck) : @Eq (Out (TyTup [.int])) (aexec Try.prog codes sigs3 Try.f47 (pureFin [.int]) 0 noCut 300 false (bodyOf Try.f47) (startS Try.f47 [⟨.deck, d⟩]))
    (Out.need ((True ∧ True ∧ True ∧ True ∧ True) ∧ True)
  (Out.callP (92 : Nat) [Sigma.mk Ty.deck d] [Ty.int] fun (x : Int) =>
    bif x != (0 : Int) then Out.need (True ∧ True) (Out.ret x)
    else
      Out.stop (hd Try.f47 (0 : Nat))
        (mkS (45 : Nat)
          [((1 : Nat), AV.ptr (0 : Nat) (0 : Nat)), ((3 : Nat), AV.ptr (1 : Nat) (0 : Nat)),
            ((4 : Nat), AV.clo (Fn.func (95 : Nat)) [] [AV.ptr (1 : Nat) (0 : Nat), AV.ptr (0 : Nat) (0 : Nat)]),
            ((16 : Nat), AV.d (D.sl Ty.plate (Deck.plates d))),
            ((17 : Nat), AV.d (D.v (Value.int IntKind.i64 (↑(List.length (Deck.plates d)) : Int)))),
            ((18 : Nat), AV.d (D.v (Value.int IntKind.i64 (0 : Int))))]
          [((0 : Nat),
              ABlk.box
                [AV.d (D.sl Ty.flt (Deck.borders d)), AV.d (D.sl Ty.plate (Deck.plates d)),
                  AV.d (D.sl Ty.rack (Deck.racks d)), AV.d (D.v (Value.int IntKind.i64 (Deck.arms d)))]),
            ((1 : Nat), ABlk.box [AV.d (D.v (Value.int IntKind.i64 x))])]
          (2 : Nat)))) := by kernel_rfl

theorem t45z (d : Deck) : @Eq (Out (TyTup [.sl .span, .int])) (aexec Try.prog codes sigs3 Try.f45 (pureFin [.sl .span, .int]) 0 noCut 300 false (bodyOf Try.f45) (startS Try.f45 [⟨.deck, d⟩]))
    (Out.need ((True ∧ True ∧ True ∧ True ∧ True) ∧ True)
  (Out.callP (92 : Nat) [Sigma.mk Ty.deck d] [Ty.int] fun (x : Int) =>
    bif x != (0 : Int) then Out.need ((True ∧ True) ∧ True ∧ True) (Out.ret ([], x))
    else
      Out.stop (hd Try.f45 (0 : Nat))
        (mkS (76 : Nat)
          [((1 : Nat), AV.ptr (0 : Nat) (0 : Nat)), ((5 : Nat), AV.ptr (1 : Nat) (0 : Nat)),
            ((6 : Nat), AV.ptr (2 : Nat) (0 : Nat)),
            ((7 : Nat),
              AV.clo (Fn.func (93 : Nat)) []
                [AV.ptr (0 : Nat) (0 : Nat), AV.ptr (1 : Nat) (0 : Nat), AV.ptr (2 : Nat) (0 : Nat)])]
          [((0 : Nat),
              ABlk.box
                [AV.d (D.sl Ty.flt (Deck.borders d)), AV.d (D.sl Ty.plate (Deck.plates d)),
                  AV.d (D.sl Ty.rack (Deck.racks d)), AV.d (D.v (Value.int IntKind.i64 (Deck.arms d)))]),
            ((1 : Nat), ABlk.box [AV.d (D.v (Value.slice none (0 : Nat) (0 : Nat)))]),
            ((2 : Nat), ABlk.box [AV.d (D.v (Value.int IntKind.i64 (0 : Int)))])]
          (3 : Nat)))) := by kernel_rfl

end Go.Proofs.Zn

/- The table of all parts as zone tells it; what is wrong with a deck: contracts. (Own work.) -/
namespace Go.Proofs.Zn
open Go Go.VL

def H95 (d : Deck) (e : Int) : Heap := [(0, .box [i64 e]), (1, .box (deckC d))]
theorem loop95 {d : Deck} {k u : Int} {n : Nat} (hv : ∀ c, ValidP d ⟨k, u, 0, c⟩) (hn : n ≤ 48) {x : Int} {A : List Item → AS → Prop}
    (hA : Closed Try.prog codes sigs3 Try.f95 (gFin 2) (fun r' => GRes.Le r' (res95 (H95 d 0) x)) 2 A) (i : Nat) (hi : i ≤ n) (e : Int) (h : (bif e != 0 then e else errL (covL d ((colsL k u n).drop i))) = x) :
    A (hd Try.f95 0) (L95 d k u n e i) := by
  have hc : (colsL k u n).length = n := by simp [colsL]
  have fin : e = x → Sat Try.prog A (fun r' => GRes.Le r' (res95 (H95 d 0) x)) (.need True (.ret ⟨[.d (.v (.bool (e != 0)))], [(0, .box [i64 e]), (1, .box (deckC d))], 2⟩)) := fun e' => by
    subst e'
    exact ⟨trivial, .of_eq rfl⟩
  refine hA.go (t95a d k u n e i) (sat_bif (fun h1 => sat_bif (fun h2 => ?_) (fun h2 => ?_)) (fun h1 => ?_))
  · have h1 := of_decide_eq_true h1
    have he : e = 0 := by simpa using h2
    have hil : i < (colsL k u n).length := by omega
    have ei : (colsL k u n)[i] = ⟨k, u, 0, (i : Int)⟩ := by simp [colsL]
    rw [List.drop_eq_getElem_cons hil, ei, covL, List.map_cons, he] at h
    refine ⟨⟨T5', T5', trivial⟩, _, c85 (hv i), ?_⟩
    show A (hd Try.f95 0) (L95 d k u n (coverS d ⟨k, u, 0, (i : Int)⟩).2 (IntKind.i64.wrap ((i : Int) + 1)))
    rw [wrap_succ (by omega)]
    refine loop95 hv hn hA (i + 1) (by omega) _ ?_
    rw [← h]; rfl
  · refine fin ?_
    have : (e != 0) = true := by simpa using h2
    rw [this] at h; exact h
  · refine fin ?_
    have h1 := of_decide_eq_false h1
    rw [List.drop_eq_nil_of_le (by omega)] at h
    cases he : e != 0
    · rw [he] at h
      have : e = 0 := by simpa using he
      rw [this, ← h]; rfl
    · rw [he] at h; exact h
termination_by n - i
theorem c95 {d : Deck} {k u n : Int} (hv : ∀ c, ValidP d ⟨k, u, 0, c⟩) (h0 : 0 ≤ n) (hn : n ≤ 48) :
    Gc Try.prog 95 [i64 k, i64 u, i64 n, .ptr 0 0, .ptr 1 0] (H95 d 0) 2 (res95 (H95 d 0) (errL (covL d (colsL k u n.toNat)))) := by
  obtain ⟨N, rfl⟩ := Int.eq_ofNat_of_zero_le h0
  refine Gc.of_closed (C := codes) (S := sigs3) mixed Try.func95 (by kernel_rfl) (fun i T t xs hi h => ?_) fun A hA => hA.go (t95 d k u N 0) ?_
  · rcases (by omega : i = 0 ∨ i = 1) with rfl | rfl
    · have h : some (ABlk.box [i64 _]) = some (ABlk.row T t xs) := h
      cases h
    · have h : some (ABlk.box (deckC d)) = some (ABlk.row T t xs) := h
      cases h
  · exact loop95 hv (by omega) hA 0 (by omega) 0 (by rw [List.drop_zero]; rfl)

theorem err_unit (d : Deck) {k u : Int} {b : Go.VL.Box} (h : boxOk b = true) : errL (covL d (placesS k u b.rows b.cols)) = errL (covL d (colsL k u b.cols.toNat)) := by
  obtain ⟨h1, h2, h3, h4⟩ := boxOk_iff.1 h
  rw [cov_places d (by omega) (by omega)]
  obtain ⟨m, hm⟩ : ∃ m, b.rows.toNat = m + 1 := ⟨b.rows.toNat - 1, by omega⟩
  rw [hm, errL_rep]
theorem map_unit (d : Deck) {k u : Int} {b : Go.VL.Box} (h : boxOk b = true) : (covL d (placesS k u b.rows b.cols)).map Prod.fst = (List.replicate b.rows.toNat ((covL d (colsL k u b.cols.toNat)).map Prod.fst)).flatten := by
  obtain ⟨h1, h2, h3, h4⟩ := boxOk_iff.1 h
  rw [cov_places d (by omega) (by omega), List.map_flatten, List.map_replicate]
theorem try_snd (L : List (Span × Int)) : (tryS L).2 = errL L := by
  unfold tryS
  cases h : errL L != 0
  · have : errL L = 0 := by simpa using h
    rw [this]; rfl
  · rfl
theorem goS_app (out : List Span) (L M : List (Span × Int)) : goS out (L ++ M) = bif errL L != 0 then ([], errL L) else goS (out ++ L.map Prod.fst) M := by
  unfold goS
  rw [errL_app]
  cases h : errL L != 0
  · simp
  · simp [h]

theorem loop47b {d : Deck} (hk : DeckOk d) {r : Int} {A : List Item → AS → Prop} (hA : Closed Try.prog codes sigs3 Try.f47 (pureFin [.int]) (fun y => y = r) 0 A)
    (i : Nat) (hi : i ≤ d.racks.length) (h : errL (covL d (restR d i)) = r) : A (hd Try.f47 1) (L47b d 0 i) := by
  have e2 := lenR d
  have h5 := hk.racks
  refine hA.go (t47b d 0 i) (sat_bif (fun h1 => ?_) (fun h1 => ?_))
  · have h1 := of_decide_eq_true h1
    have hil : i < d.racks.length := by omega
    have hib : i < (boxesR d).length := by omega
    have eb : (boxesR d)[i] = rbox d.racks[i] := by simp [boxesR]
    have hb := hk.boxR _ (List.getElem_mem hib)
    rw [eb] at hb
    obtain ⟨b1, b2, b3, b4⟩ := boxOk_iff.1 hb
    rw [getD_int hil]
    have hu : unitsS 2 (i : Int) ((boxesR d).drop i) = placesS 2 i (rbox d.racks[i]).rows (rbox d.racks[i]).cols ++ unitsS 2 ((i + 1 : Nat) : Int) ((boxesR d).drop (i + 1)) := by
      rw [List.drop_eq_getElem_cons hib, eb, unitsS]; rfl
    rw [restR, hu, List.append_assoc, covL, List.map_append, errL_app, ← covL, ← covL, err_unit d hb] at h
    refine ⟨⟨⟨by omega, by omega⟩, trivial⟩, errL (covL d (colsL 2 i (rbox d.racks[i]).cols.toNat)), c95 (fun c => .inr (.inl ⟨rfl, by simp, by simp; omega⟩)) (n := d.racks[i].cols) (by show 0 ≤ (rbox d.racks[i]).cols; omega) (by show (rbox d.racks[i]).cols ≤ 48; omega), sat_bif (fun h2 => ?_) (fun h2 => ?_)⟩
    · rw [h2] at h; exact ⟨T2', h⟩
    · rw [h2, cond_false] at h
      have h0 : errL (covL d (colsL 2 i (rbox d.racks[i]).cols.toNat)) = 0 := by simpa using h2
      rw [h0, wrap_succ (by omega)]
      exact loop47b hk hA (i + 1) (by omega) h
  · have h1 := of_decide_eq_false h1
    rw [restR, List.drop_eq_nil_of_le (by omega)] at h
    have h : errL (covL d (lanesL (d.borders.length - 1))) = r := h
    rw [lanes_err] at h
    exact ⟨T2', h⟩
termination_by d.racks.length - i
theorem loop47a {d : Deck} (hk : DeckOk d) {r : Int} {A : List Item → AS → Prop} (hA : Closed Try.prog codes sigs3 Try.f47 (pureFin [.int]) (fun y => y = r) 0 A)
    (i : Nat) (hi : i ≤ d.plates.length) (h : errL (covL d (restS d i)) = r) : A (hd Try.f47 0) (L47 d 0 i) := by
  have e2 := lenP d
  have h5 := hk.plates
  refine hA.go (t47a d 0 i) (sat_bif (fun h1 => ?_) (fun h1 => ?_))
  · have h1 := of_decide_eq_true h1
    have hil : i < d.plates.length := by omega
    have hib : i < (boxesP d).length := by omega
    have eb : (boxesP d)[i] = pbox d.plates[i] := by simp [boxesP]
    have hb := hk.boxP _ (List.getElem_mem hib)
    rw [eb] at hb
    obtain ⟨b1, b2, b3, b4⟩ := boxOk_iff.1 hb
    rw [getD_int hil]
    have hu : unitsS 1 (i : Int) ((boxesP d).drop i) = placesS 1 i (pbox d.plates[i]).rows (pbox d.plates[i]).cols ++ unitsS 1 ((i + 1 : Nat) : Int) ((boxesP d).drop (i + 1)) := by
      rw [List.drop_eq_getElem_cons hib, eb, unitsS]; rfl
    rw [restS, hu, List.append_assoc, covL, List.map_append, errL_app, ← covL, ← covL, err_unit d hb] at h
    refine ⟨⟨⟨by omega, by omega⟩, trivial⟩, errL (covL d (colsL 1 i (pbox d.plates[i]).cols.toNat)), c95 (fun c => .inl ⟨rfl, by simp, by simp; omega⟩) (n := d.plates[i].cols) (by show 0 ≤ (pbox d.plates[i]).cols; omega) (by show (pbox d.plates[i]).cols ≤ 48; omega), sat_bif (fun h2 => ?_) (fun h2 => ?_)⟩
    · rw [h2] at h; exact ⟨T2', h⟩
    · rw [h2, cond_false] at h
      have h0 : errL (covL d (colsL 1 i (pbox d.plates[i]).cols.toNat)) = 0 := by simpa using h2
      rw [h0, wrap_succ (by omega)]
      exact loop47a hk hA (i + 1) (by omega) h
  · have h1 := of_decide_eq_false h1
    rw [restS, List.drop_eq_nil_of_le (by omega)] at h
    exact loop47b hk hA 0 (by omega) h
termination_by d.plates.length - i
theorem c47 (d : Deck) : Pure Try.prog 47 [⟨.deck, d⟩] [.int] (zoneS d) :=
  Pure.of_closed (C := codes) (S := sigs3) mixed Try.func47 (by kernel_rfl) (Nat.le_of_ble_eq_true (by kernel_rfl)) fun A hA => hA.go (t47z d) (by
    generalize hr : zoneS d = r at hA ⊢
    unfold zoneS tableS at hr
    refine ⟨⟨T5', trivial⟩, _, c92 d, sat_bif (fun h => ?_) (fun h => ?_)⟩
    · rw [h] at hr; exact ⟨T2', hr⟩
    · rw [h, cond_false, try_snd] at hr
      have h0 : deckS d = 0 := by simpa using h
      rw [h0]
      exact loop47a (deck_ok h0) hA 0 (by omega) hr)
end Go.Proofs.Zn

/- zone.Table: its contract. (Own work.) -/
namespace Go.Proofs.Zn
open Go Go.VL

theorem loop93b {d : Deck} {cs xs0 l : List Span} {ce bad bad0 : Int} {R : Nat} (hR : R ≤ 32) (hc : cs.length ≤ 48) {A : List Item → AS → Prop}
    (hA : Closed Try.prog codes sigs3 Try.f93 (gFin 4) (fun r' => GRes.Le r' (res93 (H93 d bad0 xs0) l ce)) 4 A) (j : Nat) (hj : j ≤ R) (xs : List Span) (hx : xs.length ≤ 100000 + 48 * j)
    (h : xs ++ (List.replicate (R - j) cs).flatten = l) : A (hd Try.f93 0) (L93b d cs ce R bad xs j) := by
  refine hA.go (t93b d cs ce R bad xs j) (sat_bif (fun h1 => ?_) (fun h1 => ?_))
  · have h1 := of_decide_eq_true h1
    refine ⟨⟨by omega, trivial⟩, ?_⟩
    rw [wrap_succ (by omega)]
    refine loop93b hR hc hA (j + 1) (by omega) _ (by rw [List.length_append]; omega) ?_
    have e : R - j = (R - (j + 1)) + 1 := by omega
    rw [e, List.replicate_succ, List.flatten_cons] at h
    rw [List.append_assoc]; exact h
  · have h1 := of_decide_eq_false h1
    have e : R - j = 0 := by omega
    rw [e] at h
    have h : xs = l := by simpa using h
    subst h
    exact ⟨trivial, .of_eq rfl⟩
termination_by R - j
theorem c93 {d : Deck} {k u r n bad : Int} {xs : List Span} (hv : ∀ c, ValidP d ⟨k, u, 0, c⟩) (hb : boxOk ⟨r, n⟩ = true) (hx : xs.length ≤ 90000) :
    Gc Try.prog 93 [i64 k, i64 u, i64 r, i64 n, .ptr 0 0, .ptr 1 0, .ptr 2 0] (H93 d bad xs) 4
      (res93 (H93 d bad xs) (xs ++ (List.replicate r.toNat (tryS (covL d (colsL k u n.toNat))).1).flatten) (tryS (covL d (colsL k u n.toNat))).2) := by
  obtain ⟨h1, h2, h3, h4⟩ := boxOk_iff.1 hb
  simp only at h1 h2 h3 h4
  obtain ⟨N, rfl⟩ := Int.eq_ofNat_of_zero_le (show 0 ≤ n by omega)
  obtain ⟨R, rfl⟩ := Int.eq_ofNat_of_zero_le (show 0 ≤ r by omega)
  have hc : (tryS (covL d (colsL k u N))).1.length ≤ 48 := by
    unfold tryS
    cases errL (covL d (colsL k u N)) != 0
    · simp [colsL]; omega
    · simp
  refine Gc.of_closed (C := codes) (S := sigs3) mixed Try.func93 (by kernel_rfl) (fun i T t ys hi h => ?_) fun A hA => hA.go (t93 d k u R N bad xs) ⟨⟨T5', T2', T2', T2', trivial⟩, _, c94 hv (by omega), ?_⟩
  · rcases (by omega : i = 0 ∨ i = 1 ∨ i = 2 ∨ i = 3) with rfl | rfl | rfl | rfl
    · have h : some (ABlk.box (deckC d)) = some (ABlk.row T t ys) := h
      cases h
    · have h : some (ABlk.box [.own 4 .span]) = some (ABlk.row T t ys) := h
      cases h
    · have h : some (ABlk.box [i64 _]) = some (ABlk.row T t ys) := h
      cases h
    · have h : (none : Option ABlk) = some (ABlk.row T t ys) := h
      cases h
  · show A (hd Try.f93 0) (L93a d (tryS (covL d (colsL k u N))).1 (tryS (covL d (colsL k u N))).2 R bad xs ((0 : Nat) : Int))
    refine hA.go (t93a d _ _ R bad xs ((0 : Nat) : Int)) (sat_bif (fun h1 => ⟨⟨by omega, trivial⟩, ?_⟩) (fun h1 => absurd (of_decide_eq_false h1) (by omega)))
    rw [wrap_succ (by omega)]
    refine loop93b (bad := bad) (by omega) hc hA (0 + 1) (by omega) _ (by rw [List.length_append]; omega) ?_
    obtain ⟨m, hm⟩ : ∃ m, R = m + 1 := ⟨R - 1, by omega⟩
    subst hm
    rw [List.append_assoc]
    simp only [Int.toNat_natCast, List.replicate_succ, List.flatten_cons, Nat.zero_add, Nat.add_sub_cancel]

theorem loop45d {n : Nat} (hn : n ≤ 100) {r : List Span × Int} {A : List Item → AS → Prop} (hA : Closed Try.prog codes sigs3 Try.f45 (pureFin [.sl .span, .int]) (fun y => y = r) 0 A)
    (i : Nat) (hi : i ≤ n) (out : List Span) (ho : out.length ≤ 100000 + i) (h : (out ++ ((List.range n).map fun i : Nat => (⟨(i : Int), (i : Int)⟩ : Span)).drop i, 0) = r) : A (hd Try.f45 3) (L45d n out i) := by
  refine hA.go (t45d n out i) (sat_bif (fun h1 => ?_) (fun h1 => ?_))
  · have h1 := of_decide_eq_true h1
    refine ⟨⟨T3', trivial⟩, ⟨by simp only [List.length_cons, List.length_nil]; omega, trivial⟩, ?_⟩
    rw [wrap_succ (by omega)]
    refine loop45d hn hA (i + 1) (by omega) _ (by simp; omega) ?_
    rw [List.drop_eq_getElem_cons (by simp; omega)] at h
    simpa using h
  · have h1 := of_decide_eq_false h1
    have e : i = n := by omega
    subst e
    rw [List.drop_eq_nil_of_le (by simp), List.append_nil] at h
    refine ⟨⟨by omega, by omega, by omega, by omega⟩, ⟨⟨by omega, trivial⟩, T2'⟩, ?_⟩
    show (_, _) = r
    rw [← h]
    simp
termination_by n - i
theorem fst_lanes (d : Deck) (n : Nat) : (covL d (lanesL n)).map Prod.fst = (List.range n).map fun i : Nat => (⟨(i : Int), (i : Int)⟩ : Span) := by
  rw [lanes_cov, List.map_map]; rfl
theorem loop45d' {d : Deck} (hk : DeckOk d) {r : List Span × Int} {A : List Item → AS → Prop} (hA : Closed Try.prog codes sigs3 Try.f45 (pureFin [.sl .span, .int]) (fun y => y = r) 0 A)
    (out : List Span) (ho : out.length ≤ 100000) (h : goS out (covL d (lanesL (d.borders.length - 1))) = r) : A (hd Try.f45 3) (L45d (IntKind.i64.wrap ((d.borders.length : Int) - 1)) out 0) := by
  have hl := hk.lanes
  have e : IntKind.i64.wrap ((d.borders.length : Int) - 1) = ((d.borders.length - 1 : Nat) : Int) := by rw [wrap_i64 (by omega) (by omega)]; omega
  rw [e]
  refine loop45d (by omega) hA 0 (by omega) out (by omega) ?_
  rw [← h, goS, lanes_err, fst_lanes, List.drop_zero]; rfl
theorem loop45c {d : Deck} (hk : DeckOk d) {r : List Span × Int} {A : List Item → AS → Prop} (hA : Closed Try.prog codes sigs3 Try.f45 (pureFin [.sl .span, .int]) (fun y => y = r) 0 A)
    (i : Nat) (hi : i ≤ d.racks.length) (out : List Span) (ho : out.length ≤ 10000 + 1536 * i) (h : goS out (covL d (restR d i)) = r) : A (hd Try.f45 2) (L45c d 0 out i) := by
  have e2 := lenR d
  have h5 := hk.racks
  refine hA.go (t45c d 0 out i) (sat_bif (fun h1 => ?_) (fun h1 => ?_))
  · have h1 := of_decide_eq_true h1
    have hil : i < d.racks.length := by omega
    have hib : i < (boxesR d).length := by omega
    have eb : (boxesR d)[i] = rbox d.racks[i] := by simp [boxesR]
    have hb := hk.boxR _ (List.getElem_mem hib)
    rw [eb] at hb
    rw [getD_int hil]
    have hu : unitsS 2 (i : Int) ((boxesR d).drop i) = placesS 2 i (rbox d.racks[i]).rows (rbox d.racks[i]).cols ++ unitsS 2 ((i + 1 : Nat) : Int) ((boxesR d).drop (i + 1)) := by
      rw [List.drop_eq_getElem_cons hib, eb, unitsS]; rfl
    rw [restR, hu, List.append_assoc, covL, List.map_append, goS_app, ← covL, ← covL, err_unit d hb, map_unit d hb] at h
    have hs := box_size hb
    have hpl := places_len 2 i (rbox d.racks[i]).rows (rbox d.racks[i]).cols
    have hml : ((covL d (placesS 2 i (rbox d.racks[i]).rows (rbox d.racks[i]).cols)).map Prod.fst).length ≤ 1536 := by simp only [List.length_map]; rw [hpl]; omega
    rw [map_unit d hb] at hml
    refine ⟨⟨⟨by omega, by omega⟩, trivial⟩, ((out ++ (List.replicate d.racks[i].rows.toNat (tryS (covL d (colsL 2 i d.racks[i].cols.toNat))).1).flatten, (tryS (covL d (colsL 2 i d.racks[i].cols.toNat))).2) : List Span × Int), c93 (d := d) (k := 2) (u := (i : Int)) (bad := 0) (xs := out) (fun c => .inr (.inl ⟨rfl, by simp, by simp; omega⟩)) (r := d.racks[i].rows) (n := d.racks[i].cols) hb (by omega), ?_⟩
    cases h2 : errL (covL d (colsL 2 i (rbox d.racks[i]).cols.toNat)) != 0
    · have h0 : errL (covL d (colsL 2 i (rbox d.racks[i]).cols.toNat)) = 0 := by simpa using h2
      rw [h2, cond_false] at h
      have et : tryS (covL d (colsL 2 i d.racks[i].cols.toNat)) = ((covL d (colsL 2 i (rbox d.racks[i]).cols.toNat)).map Prod.fst, 0) := by
        show tryS (covL d (colsL 2 i (rbox d.racks[i]).cols.toNat)) = _
        unfold tryS; rw [h2]; rfl
      rw [et]
      rw [wrap_succ (by omega)]
      exact loop45c hk hA (i + 1) (by omega) _ (by rw [List.length_append]; exact Nat.le_trans (Nat.add_le_add_left hml _) (by omega)) h
    · rw [h2, cond_true] at h
      have et : tryS (covL d (colsL 2 i d.racks[i].cols.toNat)) = ([], errL (covL d (colsL 2 i (rbox d.racks[i]).cols.toNat))) := by
        show tryS (covL d (colsL 2 i (rbox d.racks[i]).cols.toNat)) = _
        unfold tryS; rw [h2]; rfl
      rw [et]
      have h3 : (errL (covL d (colsL 2 i (rbox d.racks[i]).cols.toNat)) == 0) = false := by simpa using h2
      refine sat_bif (fun _ => sat_bif (fun _ => ⟨⟨T2', T2'⟩, h⟩) (fun h4 => ?_)) (fun h4 => ?_)
      · exact absurd (h2.symm.trans h4) (by decide)
      · have h4 : (errL (covL d (colsL 2 i (rbox d.racks[i]).cols.toNat)) == 0) = true := nf h4
        rw [h3] at h4; cases h4
  · have h1 := of_decide_eq_false h1
    rw [restR, List.drop_eq_nil_of_le (by omega)] at h
    exact sat_bif (fun h => by cases h) (fun _ => loop45d' hk hA out (by omega) h)
termination_by d.racks.length - i
theorem loop45b {d : Deck} (hk : DeckOk d) {r : List Span × Int} {A : List Item → AS → Prop} (hA : Closed Try.prog codes sigs3 Try.f45 (pureFin [.sl .span, .int]) (fun y => y = r) 0 A)
    (i : Nat) (hi : i ≤ d.plates.length) (out : List Span) (ho : out.length ≤ 1536 * i) (h : goS out (covL d (restS d i)) = r) : A (hd Try.f45 1) (L45b d 0 out i) := by
  have e2 := lenP d
  have h5 := hk.plates
  refine hA.go (t45b d 0 out i) (sat_bif (fun h1 => ?_) (fun h1 => ?_))
  · have h1 := of_decide_eq_true h1
    have hil : i < d.plates.length := by omega
    have hib : i < (boxesP d).length := by omega
    have eb : (boxesP d)[i] = pbox d.plates[i] := by simp [boxesP]
    have hb := hk.boxP _ (List.getElem_mem hib)
    rw [eb] at hb
    rw [getD_int hil]
    have hu : unitsS 1 (i : Int) ((boxesP d).drop i) = placesS 1 i (pbox d.plates[i]).rows (pbox d.plates[i]).cols ++ unitsS 1 ((i + 1 : Nat) : Int) ((boxesP d).drop (i + 1)) := by
      rw [List.drop_eq_getElem_cons hib, eb, unitsS]; rfl
    rw [restS, hu, List.append_assoc, covL, List.map_append, goS_app, ← covL, ← covL, err_unit d hb, map_unit d hb] at h
    have hs := box_size hb
    have hpl := places_len 1 i (pbox d.plates[i]).rows (pbox d.plates[i]).cols
    have hml : ((covL d (placesS 1 i (pbox d.plates[i]).rows (pbox d.plates[i]).cols)).map Prod.fst).length ≤ 1536 := by simp only [List.length_map]; rw [hpl]; omega
    rw [map_unit d hb] at hml
    refine ⟨⟨⟨by omega, by omega⟩, trivial⟩, ((out ++ (List.replicate d.plates[i].rows.toNat (tryS (covL d (colsL 1 i d.plates[i].cols.toNat))).1).flatten, (tryS (covL d (colsL 1 i d.plates[i].cols.toNat))).2) : List Span × Int), c93 (d := d) (k := 1) (u := (i : Int)) (bad := 0) (xs := out) (fun c => .inl ⟨rfl, by simp, by simp; omega⟩) (r := d.plates[i].rows) (n := d.plates[i].cols) hb (by omega), ?_⟩
    cases h2 : errL (covL d (colsL 1 i (pbox d.plates[i]).cols.toNat)) != 0
    · have h0 : errL (covL d (colsL 1 i (pbox d.plates[i]).cols.toNat)) = 0 := by simpa using h2
      rw [h2, cond_false] at h
      have et : tryS (covL d (colsL 1 i d.plates[i].cols.toNat)) = ((covL d (colsL 1 i (pbox d.plates[i]).cols.toNat)).map Prod.fst, 0) := by
        show tryS (covL d (colsL 1 i (pbox d.plates[i]).cols.toNat)) = _
        unfold tryS; rw [h2]; rfl
      rw [et]
      rw [wrap_succ (by omega)]
      exact loop45b hk hA (i + 1) (by omega) _ (by rw [List.length_append]; exact Nat.le_trans (Nat.add_le_add_left hml _) (by omega)) h
    · rw [h2, cond_true] at h
      have et : tryS (covL d (colsL 1 i d.plates[i].cols.toNat)) = ([], errL (covL d (colsL 1 i (pbox d.plates[i]).cols.toNat))) := by
        show tryS (covL d (colsL 1 i (pbox d.plates[i]).cols.toNat)) = _
        unfold tryS; rw [h2]; rfl
      rw [et]
      have h3 : (errL (covL d (colsL 1 i (pbox d.plates[i]).cols.toNat)) == 0) = false := by simpa using h2
      refine sat_bif (fun _ => sat_bif (fun _ => ⟨⟨T2', T2'⟩, h⟩) (fun h4 => ?_)) (fun h4 => ?_)
      · exact absurd (h2.symm.trans h4) (by decide)
      · have h4 : (errL (covL d (colsL 1 i (pbox d.plates[i]).cols.toNat)) == 0) = true := nf h4
        rw [h3] at h4; cases h4
  · have h1 := of_decide_eq_false h1
    rw [restS, List.drop_eq_nil_of_le (by omega)] at h
    exact loop45c hk hA 0 (by omega) out (by have := hk.plates; omega) h
termination_by d.plates.length - i
theorem c45 (d : Deck) : Pure Try.prog 45 [⟨.deck, d⟩] [.sl .span, .int] (tableS d) :=
  Pure.of_closed (C := codes) (S := sigs3) mixed Try.func45 (by kernel_rfl) (Nat.le_of_ble_eq_true (by kernel_rfl)) fun A hA => hA.go (t45z d) (by
    generalize hr : tableS d = r at hA ⊢
    unfold tableS at hr
    refine ⟨⟨T5', trivial⟩, _, c92 d, sat_bif (fun h => ?_) (fun h => ?_)⟩
    · rw [h] at hr; exact ⟨⟨T2', T2'⟩, hr⟩
    · rw [h, cond_false] at hr
      have hk : DeckOk d := deck_ok (by simpa using h)
      refine hA.boxrow 1 0 38 .span (s' := L45 d 0 []) (by kernel_rfl) (by kernel_rfl) (hA.go (t45a d 0 []) ?_)
      exact loop45b hk hA 0 (by omega) [] (by simp) (by rw [← hr, ← goS_start]; rfl))
theorem c96 {d : Deck} {l : List Int} (hl : l.length ≤ 1000) : Pure Try.prog 96 [⟨.deck, d⟩, ⟨.sl .int, l⟩] [.sl .span, .int] (spansS d l) := c96_of (c45 d) hl
end Go.Proofs.Zn

/- Sets by definition: contracts. (Own work.) -/
namespace Go.Proofs.Zn
open Go Go.VL

theorem loop100 {l : List Int} {n : Int} (hl : l.length ≤ 1000000) {r : Bool} {A : List Item → AS → Prop} (hA : Closed Try.prog codes sigs2 Try.f100 (pureFin [.bool]) (fun y => y = r) 0 A)
    (i : Nat) (hi : i ≤ l.length) (h : (l.drop i).elem n = r) : A (hd Try.f100 0) (L100 l n i) := by
  refine hA.go (t100a l n i) (sat_bif (fun h1 => ?_) (fun h1 => ?_))
  · have h1 := of_decide_eq_true h1
    have hil : i < l.length := by omega
    rw [getD_int hil]
    rw [List.drop_eq_getElem_cons hil, List.elem_cons] at h
    refine ⟨⟨⟨by omega, by omega⟩, trivial⟩, sat_bif (fun h2 => ?_) (fun h2 => ?_)⟩
    · have e : l[i] = n := by simpa using h2
      subst e
      refine ⟨⟨trivial, trivial⟩, ?_⟩
      have h : r = true := by simpa using h
      exact h.symm
    · have e : ¬ l[i] = n := by simpa using h2
      have e2 : (n == l[i]) = false := by simpa using fun h => e h.symm
      rw [e2] at h
      rw [wrap_succ (by omega)]
      exact loop100 hl hA (i + 1) (by omega) h
  · have h1 := of_decide_eq_false h1
    rw [List.drop_eq_nil_of_le (by omega)] at h
    exact ⟨⟨trivial, trivial⟩, h⟩
termination_by l.length - i
theorem c100 {l : List Int} {n : Int} (hl : l.length ≤ 1000000) : Pure Try.prog 100 [⟨.sl .int, l⟩, ⟨.int, n⟩] [.bool] (l.elem n) :=
  Pure.of_closed (C := codes) (S := sigs2) mixed Try.func100 (by kernel_rfl) (Nat.le_of_ble_eq_true (by kernel_rfl)) fun A hA => hA.go (t100 l n) (loop100 hl hA 0 (by omega) rfl)

theorem loop50 {a b : List Int} (he : a.length = b.length) (hl : a.length ≤ 1000000) {r : Bool} {A : List Item → AS → Prop} (hA : Closed Try.prog codes sigs2 Try.f50 (pureFin [.bool]) (fun y => y = r) 0 A)
    (i : Nat) (hi : i ≤ a.length) (h : decide (a.drop i = b.drop i) = r) : A (hd Try.f50 0) (L50 a b i) := by
  refine hA.go (t50a a b i) (sat_bif (fun h1 => ?_) (fun h1 => ?_))
  · have h1 := of_decide_eq_true h1
    have hil : i < a.length := by omega
    have hib : i < b.length := by omega
    rw [getD_int hil, getD_int hib]
    rw [List.drop_eq_getElem_cons hil, List.drop_eq_getElem_cons hib] at h
    refine ⟨⟨⟨by omega, by omega⟩, trivial⟩, ⟨⟨by omega, by omega⟩, trivial⟩, sat_bif (fun h2 => ?_) (fun h2 => ?_)⟩
    · have e : ¬ a[i] = b[i] := by simpa using h2
      rw [decide_eq_false (fun h => e (List.cons.inj h).1)] at h
      exact ⟨⟨trivial, trivial⟩, h⟩
    · have e : a[i] = b[i] := by simpa using h2
      rw [e] at h
      rw [wrap_succ (by omega)]
      exact loop50 he hl hA (i + 1) (by omega) (by rw [← h]; exact decide_eq_decide.2 ⟨fun h => by rw [h], fun h => (List.cons.inj h).2⟩)
  · have h1 := of_decide_eq_false h1
    rw [List.drop_eq_nil_of_le (by omega), List.drop_eq_nil_of_le (by omega)] at h
    exact ⟨⟨trivial, trivial⟩, h⟩
termination_by a.length - i
theorem c50 {a b : List Int} (hl : a.length ≤ 1000000) : Pure Try.prog 50 [⟨.sl .int, a⟩, ⟨.sl .int, b⟩] [.bool] (decide (a = b)) :=
  Pure.of_closed (C := codes) (S := sigs2) mixed Try.func50 (by kernel_rfl) (Nat.le_of_ble_eq_true (by kernel_rfl)) fun A hA => hA.go (t50 a b) (by
    refine sat_bif (fun h1 => ?_) (fun h1 => ?_)
    · have h1 : ¬ (a.length : Int) = (b.length : Int) := by simpa using h1
      exact ⟨⟨trivial, trivial⟩, (decide_eq_false (fun h => h1 (by rw [h]))).symm⟩
    · have h1 : (a.length : Int) = (b.length : Int) := by simpa using h1
      exact loop50 (by omega) hl hA 0 (by omega) rfl)

theorem tw_all {p : Int → Bool} : ∀ {l : List Int}, (∀ x ∈ l, p x = true) → l.takeWhile p = l
  | [], _ => rfl
  | x :: l, h => by
    rw [List.takeWhile_cons, h x (by simp), if_pos rfl, tw_all fun y hy => h y (by simp [hy])]
theorem loop101 {l : List Int} {n : Int} (hl : l.length ≤ 1000000) {r : List Int} {A : List Item → AS → Prop} (hA : Closed Try.prog codes sigs2 Try.f101 (pureFin [.sl .int]) (fun y => y = r) 0 A)
    (h : putS l n = r) (i : Nat) (hi : i ≤ l.length) (hp : ∀ j (h : j < l.length), j < i → l[j] < n) : A (hd Try.f101 0) (L101 l n i) := by
  have fin : putK l n = i → (Nat.blt i l.length && (l.getD i 0 == n)) = false → Sat Try.prog A (fun y => y = r) (.need True (.need (((0 : Int) ≤ 0 ∧ (0 : Int) ≤ (i : Int) ∧ (i : Int) ≤ (l.length : Int)) ∧ True) (.need ((0 + (List.drop 0 (List.take (Int.toNat (i : Int)) l)).length) * 9 ≤ 35184372088832 ∧ True)
      (.need ((True ∧ True) ∧ True) (.need ((([] ++ List.drop 0 (List.take (Int.toNat (i : Int)) l)).length + [n].length) * 9 ≤ 35184372088832 ∧ True) (.need ((0 ≤ (i : Int) ∧ (i : Int) ≤ (l.length : Int)) ∧ True)
      (.need ((([] ++ List.drop 0 (List.take (Int.toNat (i : Int)) l) ++ [n]).length + (List.drop (Int.toNat (i : Int)) l).length) * 9 ≤ 35184372088832 ∧ True) (.need (True ∧ True) (.ret ([] ++ List.drop 0 (List.take (Int.toNat (i : Int)) l) ++ [n] ++ List.drop (Int.toNat (i : Int)) l)))))))))) := fun hk hb => by
    rw [put_eq, hk, hb, cond_false] at h
    refine ⟨trivial, ⟨⟨by omega, by omega, by omega⟩, trivial⟩, ⟨?_, trivial⟩, ⟨⟨trivial, trivial⟩, trivial⟩, ⟨?_, trivial⟩, ⟨⟨by omega, by omega⟩, trivial⟩, ⟨?_, trivial⟩, ⟨trivial, trivial⟩, ?_⟩
    · simp; omega
    · simp; omega
    · simp; omega
    · show _ = r
      rw [← h]; simp
  refine hA.go (t101a l n i) (sat_bif (fun h1 => ?_) (fun h1 => ?_))
  · have h1' := of_decide_eq_true h1
    have hil : i < l.length := by omega
    rw [getD_int hil]
    refine ⟨⟨⟨by omega, by omega⟩, trivial⟩, sat_bif (fun h2 => ?_) (fun h2 => sat_bif (fun _ => ⟨⟨⟨by omega, by omega⟩, trivial⟩, sat_bif (fun h3 => ?_) (fun h3 => ?_)⟩) (fun h3 => absurd (of_decide_eq_false h3) (by omega)))⟩
    · have h2 := of_decide_eq_true h2
      rw [wrap_succ (by omega)]
      refine loop101 hl hA h (i + 1) (by omega) (fun j hj hji => ?_)
      rcases (by omega : j < i ∨ j = i) with e | e
      · exact hp j hj e
      · subst e; exact h2
    · have h2 := of_decide_eq_false h2
      have hk := putK_lt hil hp h2
      rw [put_eq, hk, getD_at' hil, h3] at h
      have hb : Nat.blt i l.length = true := Nat.ble_eq_true_of_le (by omega : i + 1 ≤ l.length)
      rw [hb] at h
      exact ⟨⟨trivial, trivial⟩, h⟩
    · have h2 := of_decide_eq_false h2
      exact fin (putK_lt hil hp h2) (by rw [getD_at' hil, h3, Bool.and_false])
  · have h1' := of_decide_eq_false h1
    refine sat_bif (fun h3 => absurd (of_decide_eq_true h3) h1') (fun _ => ?_)
    have e : i = l.length := by omega
    refine fin ?_ ?_
    · rw [e, putK, tw_all fun x hx => ?_]
      obtain ⟨j, hj, rfl⟩ := List.getElem_of_mem hx
      exact decide_eq_true (hp j hj (by omega))
    · rw [e]
      have : Nat.blt l.length l.length = false := by
        cases h : Nat.blt l.length l.length
        · rfl
        · have := Nat.le_of_ble_eq_true h; omega
      rw [this]; rfl
termination_by l.length - i
theorem c101 {l : List Int} {n : Int} (hl : l.length ≤ 1000000) : Pure Try.prog 101 [⟨.sl .int, l⟩, ⟨.int, n⟩] [.sl .int] (putS l n) :=
  Pure.of_closed (C := codes) (S := sigs2) mixed Try.func101 (by kernel_rfl) (Nat.le_of_ble_eq_true (by kernel_rfl)) fun A hA => hA.go (t101 l n) (loop101 hl hA rfl 0 (by omega) (fun j _ hj => by omega))
end Go.Proofs.Zn

/- Sets by definition: in one of two, in both, in one alone: contracts. (Own work.) -/
namespace Go.Proofs.Zn
open Go Go.VL

theorem loop57 {b : List Int} (hl : b.length ≤ 100000) {r : List Int} {A : List Item → AS → Prop} (hA : Closed Try.prog codes sigs2 Try.f57 (pureFin [.sl .int]) (fun y => y = r) 0 A)
    (i : Nat) (hi : i ≤ b.length) (out : List Int) (ho : out.length ≤ 100000 + i) (h : eitherS out (b.drop i) = r) : A (hd Try.f57 0) (L57 b out i) := by
  refine hA.go (t57a b out i) (sat_bif (fun h1 => ?_) (fun h1 => ?_))
  · have h1 := of_decide_eq_true h1
    have hil : i < b.length := by omega
    rw [getD_int hil]
    rw [List.drop_eq_getElem_cons hil] at h
    refine ⟨⟨⟨by omega, by omega⟩, trivial⟩, ⟨T2', T2', trivial⟩, _, c101 (by omega), ?_⟩
    show A (hd Try.f57 0) (L57 b (putS out b[i]) (IntKind.i64.wrap ((i : Int) + 1)))
    rw [wrap_succ (by omega)]
    have := put_len (n := b[i]) (l := out)
    exact loop57 hl hA (i + 1) (by omega) _ (by omega) h
  · have h1 := of_decide_eq_false h1
    rw [List.drop_eq_nil_of_le (by omega)] at h
    exact ⟨⟨trivial, trivial⟩, h⟩
termination_by b.length - i
theorem c57 {a b : List Int} (ha : a.length ≤ 100000) (hl : b.length ≤ 100000) : Pure Try.prog 57 [⟨.sl .int, a⟩, ⟨.sl .int, b⟩] [.sl .int] (eitherS a b) :=
  Pure.of_closed (C := codes) (S := sigs2) mixed Try.func57 (by kernel_rfl) (Nat.le_of_ble_eq_true (by kernel_rfl)) fun A hA => hA.go (t57 a b)
    ⟨trivial, ⟨by omega, trivial⟩, hA.frz 0 (s' := L57 b a 0) (by kernel_rfl) (by kernel_rfl) (loop57 hl hA 0 (by omega) a (by omega) rfl)⟩

theorem loop55 {a b : List Int} (ha : a.length ≤ 100000) (hl : b.length ≤ 100000) {r : List Int} {A : List Item → AS → Prop} (hA : Closed Try.prog codes sigs2 Try.f55 (pureFin [.sl .int]) (fun y => y = r) 0 A)
    (i : Nat) (hi : i ≤ a.length) (out : List Int) (ho : out.length ≤ i) (h : out ++ (a.drop i).filter (fun x => b.elem x) = r) : A (hd Try.f55 0) (L55 a b out i) := by
  refine hA.go (t55a a b out i) (sat_bif (fun h1 => ?_) (fun h1 => ?_))
  · have h1 := of_decide_eq_true h1
    have hil : i < a.length := by omega
    rw [getD_int hil]
    rw [List.drop_eq_getElem_cons hil, List.filter_cons] at h
    refine ⟨⟨⟨by omega, by omega⟩, trivial⟩, ⟨T2', T2', trivial⟩, _, c100 (by omega), sat_bif (fun h2 => ?_) (fun h2 => ?_)⟩
    · rw [if_pos h2] at h
      refine ⟨⟨⟨by omega, by omega⟩, trivial⟩, ⟨T2', trivial⟩, ⟨by simp only [List.length_cons, List.length_nil]; omega, trivial⟩, ?_⟩
      rw [wrap_succ (by omega)]
      exact loop55 ha hl hA (i + 1) (by omega) _ (by simp; omega) (by rw [← h]; simp)
    · rw [if_neg (by rw [h2]; decide)] at h
      rw [wrap_succ (by omega)]
      exact loop55 ha hl hA (i + 1) (by omega) _ (by omega) h
  · have h1 := of_decide_eq_false h1
    rw [List.drop_eq_nil_of_le (by omega)] at h
    have h : out = r := by simpa using h
    exact ⟨⟨trivial, trivial⟩, h⟩
termination_by a.length - i
theorem c55 {a b : List Int} (ha : a.length ≤ 100000) (hl : b.length ≤ 100000) : Pure Try.prog 55 [⟨.sl .int, a⟩, ⟨.sl .int, b⟩] [.sl .int] (a.filter fun x => b.elem x) :=
  Pure.of_closed (C := codes) (S := sigs2) mixed Try.func55 (by kernel_rfl) (Nat.le_of_ble_eq_true (by kernel_rfl)) fun A hA => hA.go (t55 a b)
    (hA.row 5 3 .int (s' := L55 a b [] 0) (by kernel_rfl) (by kernel_rfl) (loop55 ha hl hA 0 (by omega) [] (by simp) rfl))
theorem loop56 {a b : List Int} (ha : a.length ≤ 100000) (hl : b.length ≤ 100000) {r : List Int} {A : List Item → AS → Prop} (hA : Closed Try.prog codes sigs2 Try.f56 (pureFin [.sl .int]) (fun y => y = r) 0 A)
    (i : Nat) (hi : i ≤ a.length) (out : List Int) (ho : out.length ≤ i) (h : out ++ (a.drop i).filter (fun x => !b.elem x) = r) : A (hd Try.f56 0) (L56 a b out i) := by
  refine hA.go (t56a a b out i) (sat_bif (fun h1 => ?_) (fun h1 => ?_))
  · have h1 := of_decide_eq_true h1
    have hil : i < a.length := by omega
    rw [getD_int hil]
    rw [List.drop_eq_getElem_cons hil, List.filter_cons] at h
    refine ⟨⟨⟨by omega, by omega⟩, trivial⟩, ⟨T2', T2', trivial⟩, _, c100 (by omega), sat_bif (fun h2 => ?_) (fun h2 => ?_)⟩
    · rw [if_pos h2] at h
      refine ⟨⟨⟨by omega, by omega⟩, trivial⟩, ⟨T2', trivial⟩, ⟨by simp only [List.length_cons, List.length_nil]; omega, trivial⟩, ?_⟩
      rw [wrap_succ (by omega)]
      exact loop56 ha hl hA (i + 1) (by omega) _ (by simp; omega) (by rw [← h]; simp)
    · rw [if_neg (by rw [h2]; decide)] at h
      rw [wrap_succ (by omega)]
      exact loop56 ha hl hA (i + 1) (by omega) _ (by omega) h
  · have h1 := of_decide_eq_false h1
    rw [List.drop_eq_nil_of_le (by omega)] at h
    have h : out = r := by simpa using h
    exact ⟨⟨trivial, trivial⟩, h⟩
termination_by a.length - i
theorem c56 {a b : List Int} (ha : a.length ≤ 100000) (hl : b.length ≤ 100000) : Pure Try.prog 56 [⟨.sl .int, a⟩, ⟨.sl .int, b⟩] [.sl .int] (a.filter fun x => !b.elem x) :=
  Pure.of_closed (C := codes) (S := sigs2) mixed Try.func56 (by kernel_rfl) (Nat.le_of_ble_eq_true (by kernel_rfl)) fun A hA => hA.go (t56 a b)
    (hA.row 5 3 .int (s' := L56 a b [] 0) (by kernel_rfl) (by kernel_rfl) (loop56 ha hl hA 0 (by omega) [] (by simp) rfl))
theorem c159 {n : Int} {xs : List Int} (hx : xs.length ≤ 1000000) : Gc Try.prog 159 [i64 n, boolA true, .ptr 0 0] [(0, .box [.own 1 .int]), (1, .row 3 .int xs)] 2 ⟨[], [(0, .box [.own 2 .int]), (2, .row 3 .int (xs ++ [n]))], 3⟩ := by
  refine Gc.of_closed (C := codes) (S := sigs2) mixed Try.func159 (by kernel_rfl) (fun i T t ys hi h => ?_) fun A hA => hA.go (t159t n xs) ⟨⟨T2', trivial⟩, ⟨by simp only [List.length_cons, List.length_nil]; omega, trivial⟩, trivial, .of_eq rfl⟩
  rcases (by omega : i = 0 ∨ i = 1) with rfl | rfl
  · have h : some (ABlk.box [.own 2 .int]) = some (ABlk.row T t ys) := h
    cases h
  · have h : (none : Option ABlk) = some (ABlk.row T t ys) := h
    cases h
end Go.Proofs.Zn

namespace Go.Proofs.Zn
open Go Go.VL

def cut156 : Cuts := ⟨[5, 6, 8, 9, 11], false⟩


theorem t156a (a b out : List Int) (i k : Int) : @Eq (Out (TyTup [.sl .int])) (aexec Try.prog codes sigs2 Try.f156 (pureFin [.sl .int]) 0 cut156 300 true (hd Try.f156 0) (L156 a b true true true out i k))
    (bif decide (i < (↑(List.length a) : Int)) then
  Out.stop (rg Try.f156 (5 : Nat))
    (mkS (94 : Nat)
      [((0 : Nat), AV.d (D.sl Ty.int a)), ((1 : Nat), AV.d (D.sl Ty.int b)), ((2 : Nat), AV.d (D.v (Value.bool true))),
        ((3 : Nat), AV.d (D.v (Value.bool true))), ((4 : Nat), AV.d (D.v (Value.bool true))),
        ((11 : Nat), AV.ptr (0 : Nat) (0 : Nat)),
        ((12 : Nat), AV.clo (Fn.func (159 : FuncId)) [] [AV.ptr (0 : Nat) (0 : Nat)]),
        ((13 : Nat), AV.d (D.v (Value.int IntKind.i64 i))), ((14 : Nat), AV.d (D.v (Value.int IntKind.i64 k)))]
      [((0 : Nat), ABlk.box [AV.own (1 : Nat) Ty.int]), ((1 : Nat), ABlk.row (3 : TypeId) Ty.int out)] (2 : Nat))
  else
  bif decide (k < (↑(List.length b) : Int)) then
    Out.stop (rg Try.f156 (5 : Nat))
      (mkS (94 : Nat)
        [((0 : Nat), AV.d (D.sl Ty.int a)), ((1 : Nat), AV.d (D.sl Ty.int b)),
          ((2 : Nat), AV.d (D.v (Value.bool true))), ((3 : Nat), AV.d (D.v (Value.bool true))),
          ((4 : Nat), AV.d (D.v (Value.bool true))), ((11 : Nat), AV.ptr (0 : Nat) (0 : Nat)),
          ((12 : Nat), AV.clo (Fn.func (159 : FuncId)) [] [AV.ptr (0 : Nat) (0 : Nat)]),
          ((13 : Nat), AV.d (D.v (Value.int IntKind.i64 i))), ((14 : Nat), AV.d (D.v (Value.int IntKind.i64 k)))]
        [((0 : Nat), ABlk.box [AV.own (1 : Nat) Ty.int]), ((1 : Nat), ABlk.row (3 : TypeId) Ty.int out)] (2 : Nat))
  else Out.need (True ∧ True) (Out.ret out)) := by kernel_rfl

theorem t156b (a b out : List Int) (i k : Int) : @Eq (Out (TyTup [.sl .int])) (aexec Try.prog codes sigs2 Try.f156 (pureFin [.sl .int]) 0 cut156 300 true (rg Try.f156 5) (L156 a b true true true out i k))
    (bif k == (↑(List.length b) : Int) then
  Out.stop (rg Try.f156 (6 : Nat))
    (mkS (94 : Nat)
      [((0 : Nat), AV.d (D.sl Ty.int a)), ((1 : Nat), AV.d (D.sl Ty.int b)), ((2 : Nat), AV.d (D.v (Value.bool true))),
        ((3 : Nat), AV.d (D.v (Value.bool true))), ((4 : Nat), AV.d (D.v (Value.bool true))),
        ((11 : Nat), AV.ptr (0 : Nat) (0 : Nat)),
        ((12 : Nat), AV.clo (Fn.func (159 : FuncId)) [] [AV.ptr (0 : Nat) (0 : Nat)]),
        ((13 : Nat), AV.d (D.v (Value.int IntKind.i64 i))), ((14 : Nat), AV.d (D.v (Value.int IntKind.i64 k)))]
      [((0 : Nat), ABlk.box [AV.own (1 : Nat) Ty.int]), ((1 : Nat), ABlk.row (3 : TypeId) Ty.int out)] (2 : Nat))
  else
  bif decide (i < (↑(List.length a) : Int)) then
    Out.need (((0 : Int) ≤ i ∧ i < (↑(List.length a) : Int)) ∧ True)
      (Out.need (((0 : Int) ≤ k ∧ k < (↑(List.length b) : Int)) ∧ True)
        (bif decide (List.getD a (Int.toNat i) (Ty.dflt Ty.int) < List.getD b (Int.toNat k) (Ty.dflt Ty.int)) then
          Out.stop (rg Try.f156 (6 : Nat))
            (mkS (94 : Nat)
              [((0 : Nat), AV.d (D.sl Ty.int a)), ((1 : Nat), AV.d (D.sl Ty.int b)),
                ((2 : Nat), AV.d (D.v (Value.bool true))), ((3 : Nat), AV.d (D.v (Value.bool true))),
                ((4 : Nat), AV.d (D.v (Value.bool true))), ((11 : Nat), AV.ptr (0 : Nat) (0 : Nat)),
                ((12 : Nat), AV.clo (Fn.func (159 : FuncId)) [] [AV.ptr (0 : Nat) (0 : Nat)]),
                ((13 : Nat), AV.d (D.v (Value.int IntKind.i64 i))), ((14 : Nat), AV.d (D.v (Value.int IntKind.i64 k)))]
              [((0 : Nat), ABlk.box [AV.own (1 : Nat) Ty.int]), ((1 : Nat), ABlk.row (3 : TypeId) Ty.int out)]
              (2 : Nat))
        else
          Out.stop (rg Try.f156 (8 : Nat))
            (mkS (94 : Nat)
              [((0 : Nat), AV.d (D.sl Ty.int a)), ((1 : Nat), AV.d (D.sl Ty.int b)),
                ((2 : Nat), AV.d (D.v (Value.bool true))), ((3 : Nat), AV.d (D.v (Value.bool true))),
                ((4 : Nat), AV.d (D.v (Value.bool true))), ((11 : Nat), AV.ptr (0 : Nat) (0 : Nat)),
                ((12 : Nat), AV.clo (Fn.func (159 : FuncId)) [] [AV.ptr (0 : Nat) (0 : Nat)]),
                ((13 : Nat), AV.d (D.v (Value.int IntKind.i64 i))), ((14 : Nat), AV.d (D.v (Value.int IntKind.i64 k)))]
              [((0 : Nat), ABlk.box [AV.own (1 : Nat) Ty.int]), ((1 : Nat), ABlk.row (3 : TypeId) Ty.int out)]
              (2 : Nat))))
  else
    Out.stop (rg Try.f156 (8 : Nat))
      (mkS (94 : Nat)
        [((0 : Nat), AV.d (D.sl Ty.int a)), ((1 : Nat), AV.d (D.sl Ty.int b)),
          ((2 : Nat), AV.d (D.v (Value.bool true))), ((3 : Nat), AV.d (D.v (Value.bool true))),
          ((4 : Nat), AV.d (D.v (Value.bool true))), ((11 : Nat), AV.ptr (0 : Nat) (0 : Nat)),
          ((12 : Nat), AV.clo (Fn.func (159 : FuncId)) [] [AV.ptr (0 : Nat) (0 : Nat)]),
          ((13 : Nat), AV.d (D.v (Value.int IntKind.i64 i))), ((14 : Nat), AV.d (D.v (Value.int IntKind.i64 k)))]
        [((0 : Nat), ABlk.box [AV.own (1 : Nat) Ty.int]), ((1 : Nat), ABlk.row (3 : TypeId) Ty.int out)] (2 : Nat))) := by kernel_rfl

theorem t156c (a b out : List Int) (i k : Int) : @Eq (Out (TyTup [.sl .int])) (aexec Try.prog codes sigs2 Try.f156 (pureFin [.sl .int]) 0 cut156 300 true (rg Try.f156 6) (L156 a b true true true out i k))
    (Out.need (((0 : Int) ≤ i ∧ i < (↑(List.length a) : Int)) ∧ True)
  (Out.callG (159 : Nat)
    [AV.d (D.v (Value.int IntKind.i64 (List.getD a (Int.toNat i) (Ty.dflt Ty.int)))), AV.d (D.v (Value.bool true)),
      AV.ptr (0 : Nat) (0 : Nat)]
    [((0 : Nat), ABlk.box [AV.own (1 : Nat) Ty.int]), ((1 : Nat), ABlk.row (3 : TypeId) Ty.int out)] (2 : Nat)
    [Ty.sl Ty.int]
    (fun (a : List Int) =>
      GRes.mk [] [((0 : Nat), ABlk.box [AV.own (2 : Nat) Ty.int]), ((2 : Nat), ABlk.row (3 : TypeId) Ty.int a)]
        (3 : Nat))
    fun (x : List Int) =>
    Out.stop (hd Try.f156 (0 : Nat))
      (mkS (94 : Nat)
        [((0 : Nat), AV.d (D.sl Ty.int a)), ((1 : Nat), AV.d (D.sl Ty.int b)),
          ((2 : Nat), AV.d (D.v (Value.bool true))), ((3 : Nat), AV.d (D.v (Value.bool true))),
          ((4 : Nat), AV.d (D.v (Value.bool true))), ((11 : Nat), AV.ptr (0 : Nat) (0 : Nat)),
          ((12 : Nat), AV.clo (Fn.func (159 : FuncId)) [] [AV.ptr (0 : Nat) (0 : Nat)]),
          ((13 : Nat), AV.d (D.v (Value.int IntKind.i64 (IntKind.wrap IntKind.i64 (i + (1 : Int)))))),
          ((14 : Nat), AV.d (D.v (Value.int IntKind.i64 k)))]
        [((0 : Nat), ABlk.box [AV.own (1 : Nat) Ty.int]), ((1 : Nat), ABlk.row (3 : TypeId) Ty.int x)] (2 : Nat)))) := by kernel_rfl

theorem t156d (a b out : List Int) (i k : Int) : @Eq (Out (TyTup [.sl .int])) (aexec Try.prog codes sigs2 Try.f156 (pureFin [.sl .int]) 0 cut156 300 true (rg Try.f156 8) (L156 a b true true true out i k))
    (bif i == (↑(List.length a) : Int) then
  Out.stop (rg Try.f156 (9 : Nat))
    (mkS (94 : Nat)
      [((0 : Nat), AV.d (D.sl Ty.int a)), ((1 : Nat), AV.d (D.sl Ty.int b)), ((2 : Nat), AV.d (D.v (Value.bool true))),
        ((3 : Nat), AV.d (D.v (Value.bool true))), ((4 : Nat), AV.d (D.v (Value.bool true))),
        ((11 : Nat), AV.ptr (0 : Nat) (0 : Nat)),
        ((12 : Nat), AV.clo (Fn.func (159 : FuncId)) [] [AV.ptr (0 : Nat) (0 : Nat)]),
        ((13 : Nat), AV.d (D.v (Value.int IntKind.i64 i))), ((14 : Nat), AV.d (D.v (Value.int IntKind.i64 k)))]
      [((0 : Nat), ABlk.box [AV.own (1 : Nat) Ty.int]), ((1 : Nat), ABlk.row (3 : TypeId) Ty.int out)] (2 : Nat))
  else
  Out.need (((0 : Int) ≤ k ∧ k < (↑(List.length b) : Int)) ∧ True)
    (Out.need (((0 : Int) ≤ i ∧ i < (↑(List.length a) : Int)) ∧ True)
      (bif decide (List.getD b (Int.toNat k) (Ty.dflt Ty.int) < List.getD a (Int.toNat i) (Ty.dflt Ty.int)) then
        Out.stop (rg Try.f156 (9 : Nat))
          (mkS (94 : Nat)
            [((0 : Nat), AV.d (D.sl Ty.int a)), ((1 : Nat), AV.d (D.sl Ty.int b)),
              ((2 : Nat), AV.d (D.v (Value.bool true))), ((3 : Nat), AV.d (D.v (Value.bool true))),
              ((4 : Nat), AV.d (D.v (Value.bool true))), ((11 : Nat), AV.ptr (0 : Nat) (0 : Nat)),
              ((12 : Nat), AV.clo (Fn.func (159 : FuncId)) [] [AV.ptr (0 : Nat) (0 : Nat)]),
              ((13 : Nat), AV.d (D.v (Value.int IntKind.i64 i))), ((14 : Nat), AV.d (D.v (Value.int IntKind.i64 k)))]
            [((0 : Nat), ABlk.box [AV.own (1 : Nat) Ty.int]), ((1 : Nat), ABlk.row (3 : TypeId) Ty.int out)] (2 : Nat))
      else
        Out.stop (rg Try.f156 (11 : Nat))
          (mkS (94 : Nat)
            [((0 : Nat), AV.d (D.sl Ty.int a)), ((1 : Nat), AV.d (D.sl Ty.int b)),
              ((2 : Nat), AV.d (D.v (Value.bool true))), ((3 : Nat), AV.d (D.v (Value.bool true))),
              ((4 : Nat), AV.d (D.v (Value.bool true))), ((11 : Nat), AV.ptr (0 : Nat) (0 : Nat)),
              ((12 : Nat), AV.clo (Fn.func (159 : FuncId)) [] [AV.ptr (0 : Nat) (0 : Nat)]),
              ((13 : Nat), AV.d (D.v (Value.int IntKind.i64 i))), ((14 : Nat), AV.d (D.v (Value.int IntKind.i64 k)))]
            [((0 : Nat), ABlk.box [AV.own (1 : Nat) Ty.int]), ((1 : Nat), ABlk.row (3 : TypeId) Ty.int out)]
            (2 : Nat))))) := by kernel_rfl

theorem t156e (a b out : List Int) (i k : Int) : @Eq (Out (TyTup [.sl .int])) (aexec Try.prog codes sigs2 Try.f156 (pureFin [.sl .int]) 0 cut156 300 true (rg Try.f156 9) (L156 a b true true true out i k))
    (Out.need (((0 : Int) ≤ k ∧ k < (↑(List.length b) : Int)) ∧ True)
  (Out.callG (159 : Nat)
    [AV.d (D.v (Value.int IntKind.i64 (List.getD b (Int.toNat k) (Ty.dflt Ty.int)))), AV.d (D.v (Value.bool true)),
      AV.ptr (0 : Nat) (0 : Nat)]
    [((0 : Nat), ABlk.box [AV.own (1 : Nat) Ty.int]), ((1 : Nat), ABlk.row (3 : TypeId) Ty.int out)] (2 : Nat)
    [Ty.sl Ty.int]
    (fun (a : List Int) =>
      GRes.mk [] [((0 : Nat), ABlk.box [AV.own (2 : Nat) Ty.int]), ((2 : Nat), ABlk.row (3 : TypeId) Ty.int a)]
        (3 : Nat))
    fun (x : List Int) =>
    Out.stop (hd Try.f156 (0 : Nat))
      (mkS (94 : Nat)
        [((0 : Nat), AV.d (D.sl Ty.int a)), ((1 : Nat), AV.d (D.sl Ty.int b)),
          ((2 : Nat), AV.d (D.v (Value.bool true))), ((3 : Nat), AV.d (D.v (Value.bool true))),
          ((4 : Nat), AV.d (D.v (Value.bool true))), ((11 : Nat), AV.ptr (0 : Nat) (0 : Nat)),
          ((12 : Nat), AV.clo (Fn.func (159 : FuncId)) [] [AV.ptr (0 : Nat) (0 : Nat)]),
          ((13 : Nat), AV.d (D.v (Value.int IntKind.i64 i))),
          ((14 : Nat), AV.d (D.v (Value.int IntKind.i64 (IntKind.wrap IntKind.i64 (k + (1 : Int))))))]
        [((0 : Nat), ABlk.box [AV.own (1 : Nat) Ty.int]), ((1 : Nat), ABlk.row (3 : TypeId) Ty.int x)] (2 : Nat)))) := by kernel_rfl

theorem t156f (a b out : List Int) (i k : Int) : @Eq (Out (TyTup [.sl .int])) (aexec Try.prog codes sigs2 Try.f156 (pureFin [.sl .int]) 0 cut156 300 true (rg Try.f156 11) (L156 a b true true true out i k))
    (Out.need (((0 : Int) ≤ i ∧ i < (↑(List.length a) : Int)) ∧ True)
  (Out.callG (159 : Nat)
    [AV.d (D.v (Value.int IntKind.i64 (List.getD a (Int.toNat i) (Ty.dflt Ty.int)))), AV.d (D.v (Value.bool true)),
      AV.ptr (0 : Nat) (0 : Nat)]
    [((0 : Nat), ABlk.box [AV.own (1 : Nat) Ty.int]), ((1 : Nat), ABlk.row (3 : TypeId) Ty.int out)] (2 : Nat)
    [Ty.sl Ty.int]
    (fun (a : List Int) =>
      GRes.mk [] [((0 : Nat), ABlk.box [AV.own (2 : Nat) Ty.int]), ((2 : Nat), ABlk.row (3 : TypeId) Ty.int a)]
        (3 : Nat))
    fun (x : List Int) =>
    Out.stop (hd Try.f156 (0 : Nat))
      (mkS (94 : Nat)
        [((0 : Nat), AV.d (D.sl Ty.int a)), ((1 : Nat), AV.d (D.sl Ty.int b)),
          ((2 : Nat), AV.d (D.v (Value.bool true))), ((3 : Nat), AV.d (D.v (Value.bool true))),
          ((4 : Nat), AV.d (D.v (Value.bool true))), ((11 : Nat), AV.ptr (0 : Nat) (0 : Nat)),
          ((12 : Nat), AV.clo (Fn.func (159 : FuncId)) [] [AV.ptr (0 : Nat) (0 : Nat)]),
          ((13 : Nat), AV.d (D.v (Value.int IntKind.i64 (IntKind.wrap IntKind.i64 (i + (1 : Int)))))),
          ((14 : Nat), AV.d (D.v (Value.int IntKind.i64 (IntKind.wrap IntKind.i64 (k + (1 : Int))))))]
        [((0 : Nat), ABlk.box [AV.own (1 : Nat) Ty.int]), ((1 : Nat), ABlk.row (3 : TypeId) Ty.int x)] (2 : Nat)))) := by kernel_rfl

end Go.Proofs.Zn

/- Sets as the program makes them: along two, in one of two, the set of a list: contracts. (Own work.) -/
namespace Go.Proofs.Zn
open Go Go.VL

theorem along_x {f s t : Bool} {x : Int} {a b : List Int} (h : b = [] ∨ ∃ y m, b = y :: m ∧ x < y) : alongS f s t (x :: a) b = tk f x (alongS f s t a b) := by
  rcases h with rfl | ⟨y, m, rfl, h⟩
  · rw [alongS]
  · rw [alongS, if_pos h]
theorem along_y {f s t : Bool} {y : Int} {a b : List Int} (h : a = [] ∨ ∃ x m, a = x :: m ∧ y < x) : alongS f s t a (y :: b) = tk s y (alongS f s t a b) := by
  rcases h with rfl | ⟨x, m, rfl, h⟩
  · rw [alongS]
  · rw [alongS, if_neg (by omega), if_pos h]
theorem along_xy {f s t : Bool} {x : Int} {a b : List Int} : alongS f s t (x :: a) (x :: b) = tk t x (alongS f s t a b) := by
  rw [alongS, if_neg (by omega), if_neg (by omega)]

theorem loop156 {a b : List Int} (ha : a.length ≤ 400000) (hb : b.length ≤ 400000) {r : List Int} {A : List Item → AS → Prop} (hA : Closed Try.prog codes sigs2 Try.f156 (pureFin [.sl .int]) (fun y => y = r) 0 A)
    (i k : Nat) (hi : i ≤ a.length) (hk : k ≤ b.length) (out : List Int) (ho : out.length ≤ i + k) (h : out ++ alongS true true true (a.drop i) (b.drop k) = r) : A (hd Try.f156 0) (L156 a b true true true out i k) := by
  have h6 : ∀ hil : i < a.length, (out ++ [a[i]]) ++ alongS true true true (a.drop (i + 1)) (b.drop k) = r → A (rg Try.f156 6) (L156 a b true true true out i k) := fun hil e => by
    refine hA.go (t156c a b out i k) ?_
    rw [getD_int hil]
    refine ⟨⟨⟨by omega, by omega⟩, trivial⟩, (out ++ [a[i]] : List Int), c159 (by omega), ?_⟩
    rw [wrap_succ (by omega)]
    exact loop156 ha hb hA (i + 1) k (by omega) hk _ (by simp; omega) e
  have h9 : ∀ hkb : k < b.length, (out ++ [b[k]]) ++ alongS true true true (a.drop i) (b.drop (k + 1)) = r → A (rg Try.f156 9) (L156 a b true true true out i k) := fun hkb e => by
    refine hA.go (t156e a b out i k) ?_
    rw [getD_int hkb]
    refine ⟨⟨⟨by omega, by omega⟩, trivial⟩, (out ++ [b[k]] : List Int), c159 (by omega), ?_⟩
    rw [wrap_succ (by omega)]
    exact loop156 ha hb hA i (k + 1) hi (by omega) _ (by simp; omega) e
  have h11 : ∀ (hil : i < a.length) (_ : k < b.length), (out ++ [a[i]]) ++ alongS true true true (a.drop (i + 1)) (b.drop (k + 1)) = r → A (rg Try.f156 11) (L156 a b true true true out i k) := fun hil hkb e => by
    refine hA.go (t156f a b out i k) ?_
    rw [getD_int hil]
    refine ⟨⟨⟨by omega, by omega⟩, trivial⟩, (out ++ [a[i]] : List Int), c159 (by omega), ?_⟩
    rw [wrap_succ (by omega), wrap_succ (by omega)]
    exact loop156 ha hb hA (i + 1) (k + 1) (by omega) (by omega) _ (by simp; omega) e
  have h8 : k < b.length → (∀ hil : i < a.length, ∀ hkb : k < b.length, ¬ a[i] < b[k]) → A (rg Try.f156 8) (L156 a b true true true out i k) := fun hkb hc => by
    refine hA.go (t156d a b out i k) (sat_bif (fun c => ?_) (fun c => ?_))
    · have c : (i : Int) = (a.length : Int) := by simpa using c
      refine h9 hkb ?_
      rw [List.drop_eq_nil_of_le (by omega : a.length ≤ i), List.drop_eq_getElem_cons hkb, along_y (.inl rfl)] at h
      rw [List.drop_eq_nil_of_le (by omega : a.length ≤ i), ← h]; simp [tk]
    · have c : ¬ (i : Int) = (a.length : Int) := by simpa using c
      have hil : i < a.length := by omega
      rw [getD_int hil, getD_int hkb]
      refine ⟨⟨⟨by omega, by omega⟩, trivial⟩, ⟨⟨by omega, by omega⟩, trivial⟩, sat_bif (fun c2 => ?_) (fun c2 => ?_)⟩
      · have c2 := of_decide_eq_true c2
        refine h9 hkb ?_
        rw [List.drop_eq_getElem_cons hil, List.drop_eq_getElem_cons hkb, along_y (.inr ⟨_, _, rfl, c2⟩)] at h
        rw [← h, List.drop_eq_getElem_cons hil]; simp [tk]
      · have c2 := of_decide_eq_false c2
        have e : a[i] = b[k] := by have := hc hil hkb; omega
        refine h11 hil hkb ?_
        rw [List.drop_eq_getElem_cons hil, List.drop_eq_getElem_cons hkb, ← e, along_xy] at h
        rw [← h]; simp [tk]
  have h5 : i < a.length ∨ k < b.length → A (rg Try.f156 5) (L156 a b true true true out i k) := fun hik => by
    refine hA.go (t156b a b out i k) (sat_bif (fun c => ?_) (fun c => ?_))
    · have c : (k : Int) = (b.length : Int) := by simpa using c
      have hil : i < a.length := by omega
      refine h6 hil ?_
      rw [List.drop_eq_nil_of_le (by omega : b.length ≤ k), List.drop_eq_getElem_cons hil, along_x (.inl rfl)] at h
      rw [List.drop_eq_nil_of_le (by omega : b.length ≤ k), ← h]; simp [tk]
    · have c : ¬ (k : Int) = (b.length : Int) := by simpa using c
      have hkb : k < b.length := by omega
      refine sat_bif (fun c1 => ?_) (fun c1 => ?_)
      · have hil : i < a.length := by have := of_decide_eq_true c1; omega
        rw [getD_int hil, getD_int hkb]
        refine ⟨⟨⟨by omega, by omega⟩, trivial⟩, ⟨⟨by omega, by omega⟩, trivial⟩, sat_bif (fun c2 => ?_) (fun c2 => ?_)⟩
        · have c2 := of_decide_eq_true c2
          refine h6 hil ?_
          rw [List.drop_eq_getElem_cons hil, List.drop_eq_getElem_cons hkb, along_x (.inr ⟨_, _, rfl, c2⟩)] at h
          rw [← h, List.drop_eq_getElem_cons hkb]; simp [tk]
        · have c2 := of_decide_eq_false c2
          exact h8 hkb (fun _ _ => c2)
      · have c1 := of_decide_eq_false c1
        exact h8 hkb (fun hil => absurd hil (by omega))
  refine hA.go (t156a a b out i k) (sat_bif (fun c => ?_) (fun c => sat_bif (fun c2 => ?_) (fun c2 => ?_)))
  · exact h5 (.inl (by have := of_decide_eq_true c; omega))
  · exact h5 (.inr (by have := of_decide_eq_true c2; omega))
  · have c := of_decide_eq_false c
    have c2 := of_decide_eq_false c2
    rw [List.drop_eq_nil_of_le (by omega), List.drop_eq_nil_of_le (by omega), alongS, List.append_nil] at h
    exact ⟨T2', h⟩
termination_by a.length - i + (b.length - k)
theorem c156 {a b : List Int} (ha : a.length ≤ 400000) (hb : b.length ≤ 400000) : Pure Try.prog 156 [⟨.sl .int, a⟩, ⟨.sl .int, b⟩, ⟨.bool, true⟩, ⟨.bool, true⟩, ⟨.bool, true⟩] [.sl .int] (alongS true true true a b) :=
  Pure.of_closed (C := codes) (S := sigs2) mixed Try.func156 (by kernel_rfl) (Nat.le_of_ble_eq_true (by kernel_rfl)) fun A hA => hA.go (t156 a b true true true)
    (hA.boxrow 0 0 3 .int (s' := L156 a b true true true [] 0 0) (by kernel_rfl) (by kernel_rfl) (loop156 ha hb hA 0 0 (by omega) (by omega) [] (by simp) rfl))
theorem c147 {a b : List Int} (ha : a.length ≤ 400000) (hb : b.length ≤ 400000) : Pure Try.prog 147 [⟨.sl .int, a⟩, ⟨.sl .int, b⟩] [.sl .int] (alongS true true true a b) :=
  ofT2 Try.func147 (t147 a b) (by kernel_rfl) (by kernel_rfl) fun _ => ⟨⟨T2', T2', T2', T2', T2', trivial⟩, _, c156 ha hb, T2', rfl⟩
theorem set_len (l : List Int) : (setS l).length ≤ l.length := by have := either_len (a := []) (b := l); simpa using this
theorem c129 {l : List Int} (hl : l.length ≤ 100000) : Pure Try.prog 129 [⟨.sl .int, l⟩] [.sl .int] (setS l) :=
  ofT2 Try.func129 (t129 l) (by kernel_rfl) (by kernel_rfl) fun _ => by
    refine sat_bif (fun c => ?_) (fun c => ?_)
    · have c := of_decide_eq_true c
      refine ⟨trivial, ⟨by omega, trivial⟩, T2', ?_⟩
      match l, c with
      | [], _ => rfl
      | [n], _ => rfl
      | _ :: _ :: _, c => simp only [List.length_cons] at c; omega
    · have c := of_decide_eq_false c
      have hd : Int.tdiv (l.length : Int) 2 = ((l.length / 2 : Nat) : Int) := by
        rw [Int.tdiv_eq_ediv_of_nonneg (by omega)]; rfl
      have e : IntKind.i64.wrap (Int.tdiv (l.length : Int) 2) = ((l.length / 2 : Nat) : Int) := by rw [hd, wrap_i64 (by omega) (by omega)]
      rw [e]
      have e1 : List.drop 0 (List.take (Int.toNat ((l.length / 2 : Nat) : Int)) l) = l.take (l.length / 2) := by rw [List.drop_zero, Int.toNat_natCast]
      have e2 : List.drop (Int.toNat ((l.length / 2 : Nat) : Int)) l = l.drop (l.length / 2) := by rw [Int.toNat_natCast]
      rw [e1, e2]
      have l1 := set_len (l.take (l.length / 2))
      have l2 := set_len (l.drop (l.length / 2))
      rw [List.length_take] at l1
      rw [List.length_drop] at l2
      refine ⟨by decide, ⟨⟨by omega, by omega, by omega⟩, trivial⟩, ⟨T2', trivial⟩, _, c129 (l := l.take (l.length / 2)) (by rw [List.length_take]; omega), ⟨⟨by omega, by omega⟩, trivial⟩, ⟨T2', trivial⟩, _, c129 (l := l.drop (l.length / 2)) (by rw [List.length_drop]; omega), ⟨T2', T2', trivial⟩, _, c147 (by omega) (by omega), T2', ?_⟩
      show alongS true true true (setS (l.take (l.length / 2))) (setS (l.drop (l.length / 2))) = setS l
      rw [along_either (set_rise _) (set_rise _), ← set_app, List.take_append_drop]
termination_by l.length
decreasing_by
  all_goals simp only [List.length_take, List.length_drop]; omega
end Go.Proofs.Zn

namespace Go.Proofs.Zn
open Go Go.VL

def L97b (a b : Int) (l : List Span) (s : Span) (out : List Int) (i k : Int) : AS := mkS 44 [(5, i64 a), (6, i64 b), (8, .own 0 .int), (10, .ptr 1 0), (11, i64 k), (19, .d (.sl .span l)), (20, i64 l.length), (21, i64 i)] [(0, .row 3 .int out), (1, .box [i64 s.lo, i64 s.hi])] 2
def cut38 : Cuts := ⟨[], false⟩


theorem t97b (a b : Int) (l : List Span) (s : Span) (out : List Int) (i k : Int) : @Eq (Out (TyTup [.sl .int])) (aexec Try.prog codes sigs2 Try.f97 (pureFin [.sl .int]) 0 noCut 200 true (hd Try.f97 1) (L97b a b l s out i k))
    (bif decide (k ≤ Span.hi s) then
  Out.need ((True ∧ True) ∧ True)
    (Out.need
      ((List.length out + List.length [IntKind.wrap IntKind.i64 (IntKind.wrap IntKind.i64 (a + b) + k)]) * (9 : Nat) ≤
          (35184372088832 : Nat) ∧
        True)
      (Out.stop (hd Try.f97 (1 : Nat))
        (mkS (44 : Nat)
          [((5 : Nat), AV.d (D.v (Value.int IntKind.i64 a))), ((6 : Nat), AV.d (D.v (Value.int IntKind.i64 b))),
            ((8 : Nat), AV.own (0 : Nat) Ty.int), ((10 : Nat), AV.ptr (1 : Nat) (0 : Nat)),
            ((11 : Nat), AV.d (D.v (Value.int IntKind.i64 (IntKind.wrap IntKind.i64 (k + (1 : Int)))))),
            ((19 : Nat), AV.d (D.sl Ty.span l)),
            ((20 : Nat), AV.d (D.v (Value.int IntKind.i64 (↑(List.length l) : Int)))),
            ((21 : Nat), AV.d (D.v (Value.int IntKind.i64 i)))]
          [((0 : Nat),
              ABlk.row (3 : Nat) Ty.int (out ++ [IntKind.wrap IntKind.i64 (IntKind.wrap IntKind.i64 (a + b) + k)])),
            ((1 : Nat),
              ABlk.box
                [AV.d (D.v (Value.int IntKind.i64 (Span.lo s))), AV.d (D.v (Value.int IntKind.i64 (Span.hi s)))])]
          (2 : Nat))))
  else
  Out.stop (hd Try.f97 (0 : Nat))
    (mkS (44 : Nat)
      [((5 : Nat), AV.d (D.v (Value.int IntKind.i64 a))), ((6 : Nat), AV.d (D.v (Value.int IntKind.i64 b))),
        ((8 : Nat), AV.own (0 : Nat) Ty.int), ((19 : Nat), AV.d (D.sl Ty.span l)),
        ((20 : Nat), AV.d (D.v (Value.int IntKind.i64 (↑(List.length l) : Int)))),
        ((21 : Nat), AV.d (D.v (Value.int IntKind.i64 (IntKind.wrap IntKind.i64 (i + (1 : Int))))))]
      [((0 : Nat), ABlk.row (3 : TypeId) Ty.int out)] (1 : Nat))) := by kernel_rfl

end Go.Proofs.Zn

/- Lanes by their ids; needs, clashes, ways: contracts. (Own work.) -/
namespace Go.Proofs.Zn
open Go Go.VL

abbrev sumW (d : Deck) : Int := sumI (boxesP d) + sumI (boxesR d)
theorem count_ok {d : Deck} (h : deckS d = 0) : countS d = (sumI (boxesP d), sumI (boxesR d), (d.borders.length : Int) - 1) := by
  unfold countS; rw [h]; rfl
theorem c130 {d : Deck} (h : deckS d = 0) : Pure Try.prog 130 [⟨.deck, d⟩] [.int] (sumW d) :=
  ofT2 Try.func130 (t130 d) (by kernel_rfl) (by kernel_rfl) fun _ => ⟨⟨T5', trivial⟩, _, (c148 d).eq (count_ok h), T2', by
    have hk := deck_ok h
    have h1 := hk.wells
    have h2 := hk.tips
    show IntKind.i64.wrap (sumI (boxesP d) + sumI (boxesR d)) = _
    rw [wrap_i64 (by omega) (by omega)]⟩

def lanesN (d : Deck) (lo : Int) (n : Nat) : List Int := (List.range n).map fun k : Nat => sumW d + (lo + (k : Int))
theorem lanesN_succ (d : Deck) (lo : Int) (n : Nat) : lanesN d lo (n + 1) = lanesN d lo n ++ [sumW d + (lo + (n : Int))] := by
  simp [lanesN, List.range_succ]
theorem lanesN_len (d : Deck) (lo : Int) (n : Nat) : (lanesN d lo n).length = n := by simp [lanesN]
theorem lanes_eq (d : Deck) (s : Span) : lanesS d s = lanesN d s.lo (s.hi - s.lo + 1).toNat := rfl

theorem loop99 {d : Deck} {s : Span} (h0 : deckS d = 0) (hs : SpanOk d s) {r : List Int} {A : List Item → AS → Prop} (hA : Closed Try.prog codes sigs2 Try.f99 (pureFin [.sl .int]) (fun y => y = r) 0 A) (hr : lanesS d s = r)
    (j : Nat) (hj : (j : Int) ≤ s.hi - s.lo + 1) (k : Int) (hk : k = s.lo + (j : Int)) : A (hd Try.f99 0) (L99 d s (lanesN d s.lo j) k) := by
  have hD := deck_ok h0
  have e1 := hD.wells
  have e2 := hD.tips
  have e3 := hD.lanes
  have ew : sumW d = sumI (boxesP d) + sumI (boxesR d) := rfl
  obtain ⟨s1, s2, s3⟩ := hs
  refine hA.go (t99a d s _ k) (sat_bif (fun h1 => ?_) (fun h1 => ?_))
  · have h1 := of_decide_eq_true h1
    refine ⟨⟨T5', trivial⟩, _, c130 h0, ⟨T2', trivial⟩, ⟨by rw [lanesN_len]; simp only [List.length_cons, List.length_nil]; omega, trivial⟩, ?_⟩
    rw [wrap_i64 (by omega) (by omega), wrap_i64 (by omega) (by omega), hk, ← lanesN_succ]
    exact loop99 h0 ⟨s1, s2, s3⟩ hA hr (j + 1) (by omega) _ (by omega)
  · have h1 := of_decide_eq_false h1
    have e : (s.hi - s.lo + 1).toNat = j := by omega
    rw [lanes_eq, e] at hr
    exact ⟨T2', hr⟩
termination_by (s.hi - s.lo + 1 - (j : Int)).toNat
theorem c99 {d : Deck} {s : Span} (h0 : deckS d = 0) (hs : SpanOk d s) : Pure Try.prog 99 [⟨.deck, d⟩, ⟨.span, s⟩] [.sl .int] (lanesS d s) :=
  Pure.of_closed (C := codes) (S := sigs2) mixed Try.func99 (by kernel_rfl) (Nat.le_of_ble_eq_true (by kernel_rfl)) fun A hA => hA.go (t99 d s)
    (hA.row 5 3 .int (s' := L99 d s [] s.lo) (by kernel_rfl) (by kernel_rfl) (loop99 h0 hs hA rfl 0 (by obtain ⟨_, h, _⟩ := hs; omega) s.lo (by simp)))

theorem lanes_len {d : Deck} {s : Span} (h0 : deckS d = 0) (hs : SpanOk d s) : (lanesS d s).length ≤ 24 := by
  have hD := (deck_ok h0).lanes
  obtain ⟨s1, s2, s3⟩ := hs
  rw [lanes_eq, lanesN_len]; omega
theorem flat_len {d : Deck} {l : List Span} (h0 : deckS d = 0) (hs : ∀ s ∈ l, SpanOk d s) : (l.flatMap (lanesS d)).length ≤ 24 * l.length := by
  induction l with
  | nil => simp
  | cons s l ih =>
    have h1 := lanes_len h0 (hs s (by simp))
    have h2 := ih fun t ht => hs t (by simp [ht])
    simp only [List.flatMap_cons, List.length_append, List.length_cons]; omega

theorem loop97b {d : Deck} {l : List Span} {s : Span} (h0 : deckS d = 0) (hs : SpanOk d s) {A : List Item → AS → Prop} {i : Nat} (hi : i < 1000) {out : List Int} (ho : out.length ≤ 24000)
    {r : List Int} (hA : Closed Try.prog codes sigs2 Try.f97 (pureFin [.sl .int]) (fun y => y = r) 0 A)
    (go : A (hd Try.f97 0) (L97 (sumI (boxesP d)) (sumI (boxesR d)) l (out ++ lanesS d s) ((i + 1 : Nat) : Int)))
    (j : Nat) (hj : (j : Int) ≤ s.hi - s.lo + 1) (k : Int) (hk : k = s.lo + (j : Int)) : A (hd Try.f97 1) (L97b (sumI (boxesP d)) (sumI (boxesR d)) l s (out ++ lanesN d s.lo j) i k) := by
  have hD := deck_ok h0
  have e1 := hD.wells
  have e2 := hD.tips
  have e3 := hD.lanes
  have ew : sumW d = sumI (boxesP d) + sumI (boxesR d) := rfl
  obtain ⟨s1, s2, s3⟩ := hs
  refine hA.go (t97b _ _ l s _ i k) (sat_bif (fun h1 => ?_) (fun h1 => ?_))
  · have h1 := of_decide_eq_true h1
    refine ⟨⟨T2', trivial⟩, ⟨by rw [List.length_append, lanesN_len]; simp only [List.length_cons, List.length_nil]; omega, trivial⟩, ?_⟩
    rw [wrap_i64 (n := sumI (boxesP d) + sumI (boxesR d)) (by omega) (by omega), wrap_i64 (by omega) (by omega), wrap_i64 (by omega) (by omega), List.append_assoc, hk, ← ew, ← lanesN_succ]
    exact loop97b h0 ⟨s1, s2, s3⟩ hi ho hA go (j + 1) (by omega) _ (by omega)
  · have h1 := of_decide_eq_false h1
    have e : (s.hi - s.lo + 1).toNat = j := by omega
    rw [lanes_eq, e] at go
    rw [wrap_succ (by omega)]
    exact go
termination_by (s.hi - s.lo + 1 - (j : Int)).toNat
theorem loop97 {d : Deck} {l : List Span} (h0 : deckS d = 0) (hs : ∀ s ∈ l, SpanOk d s) (hl : l.length ≤ 999) {r : List Int} {A : List Item → AS → Prop} (hA : Closed Try.prog codes sigs2 Try.f97 (pureFin [.sl .int]) (fun y => y = r) 0 A)
    (hr : setS (l.flatMap (lanesS d)) = r) (i : Nat) (hi : i ≤ l.length) : A (hd Try.f97 0) (L97 (sumI (boxesP d)) (sumI (boxesR d)) l ((l.take i).flatMap (lanesS d)) i) := by
  have hf := flat_len h0 (l := l.take i) fun s h => hs s (List.mem_of_mem_take h)
  rw [List.length_take] at hf
  refine hA.go (t97a _ _ l _ i) (sat_bif (fun h1 => ?_) (fun h1 => ?_))
  · have h1 := of_decide_eq_true h1
    have hil : i < l.length := by omega
    have hsi := hs _ (List.getElem_mem hil)
    rw [getD_int hil]
    refine ⟨⟨⟨by omega, by omega⟩, trivial⟩, ?_⟩
    have go := loop97 h0 hs hl hA hr (i + 1) (by omega)
    rw [List.take_succ_eq_append_getElem hil, List.flatMap_append, List.flatMap_singleton] at go
    have := loop97b (l := l) h0 hsi (by omega) (by omega) hA go 0 (by obtain ⟨_, h, _⟩ := hsi; omega) l[i].lo (by simp)
    rw [show lanesN d l[i].lo 0 = [] from rfl, List.append_nil] at this
    exact this
  · have h1 := of_decide_eq_false h1
    rw [List.take_of_length_le (by omega)] at hf ⊢
    exact ⟨⟨T2', trivial⟩, _, c129 (by omega), T2', hr⟩
termination_by l.length - i

theorem goJ_len : ∀ (ys out : List Span), (Sp.goJ ys out).length ≤ out.length + ys.length
  | [], out => by simp [Sp.goJ]
  | y :: ys, out => by
    rw [Sp.goJ]
    cases (decide (0 < out.length) && Sp.follows (out.getD (out.length - 1) Ty.span.dflt) y)
    · rw [cond_false]
      have := goJ_len ys (out ++ [y])
      simp only [List.length_append, List.length_cons, List.length_nil] at this ⊢; omega
    · rw [cond_true]
      have := goJ_len ys (out.set (out.length - 1) (Sp.hull (out.getD (out.length - 1) Ty.span.dflt) y))
      simp only [List.length_set, List.length_cons] at this ⊢; omega
theorem c97 {d : Deck} {l : List Span} (h0 : deckS d = 0) (hs : ∀ s ∈ l, SpanOk d s) (hl : l.length ≤ 999) : Pure Try.prog 97 [⟨.deck, d⟩, ⟨.sl .span, l⟩] [.sl .int] (needsS d l) := by
  have hD := deck_ok h0
  have e3 := hD.lanes
  have hf : ∀ s ∈ l, Sp.FitS s := fun s h => by
    obtain ⟨s1, s2, s3⟩ := hs s h
    refine ⟨?_, ?_⟩ <;> unfold Sp.Fit <;> omega
  obtain ⟨j1, j2, j3⟩ := Sp.join_spec Sp.srt_ok hf
  have jl : (Sp.goJ (Sp.srt (Sp.keep l)) []).length ≤ 999 := by
    have h1 := goJ_len (Sp.srt (Sp.keep l)) []
    rw [Sp.srt_len] at h1
    have h2 : (Sp.keep l).length ≤ l.length := List.length_filter_le _ _
    simp only [List.length_nil] at h1; omega
  have c31 := Sp.c31 (xs := l) (by unfold Sp.Sm; omega)
  generalize Sp.goJ (Sp.srt (Sp.keep l)) [] = js at c31 j1 j2 j3 jl
  have js1 : ∀ s ∈ js, SpanOk d s := fun s h => by
    have hne := j1.ne s h
    obtain ⟨t, ht, t1, t2⟩ := (j3 s.lo).1 ⟨s, h, by omega, by omega⟩
    obtain ⟨u, hu, u1, u2⟩ := (j3 s.hi).1 ⟨s, h, by omega, by omega⟩
    obtain ⟨a1, a2, a3⟩ := hs t ht
    obtain ⟨b1, b2, b3⟩ := hs u hu
    exact ⟨by omega, hne, by omega⟩
  refine Pure.of_closed (C := codes) (S := sigs2) mixed Try.func97 (by kernel_rfl) (Nat.le_of_ble_eq_true (by kernel_rfl)) fun A hA => hA.go (t97 d l) ⟨⟨T5', trivial⟩, _, (c115 d).eq (count_ok h0), ⟨T2', trivial⟩, _, c31, ?_⟩
  exact hA.row 8 3 .int (s' := L97 (sumI (boxesP d)) (sumI (boxesR d)) js [] 0) (by kernel_rfl) (by kernel_rfl) (loop97 h0 js1 jl hA (needs_den j3) 0 (by omega))

theorem table_code {d : Deck} (h : (tableS d).2 = 0) : deckS d = 0 := by
  unfold tableS at h
  cases h1 : deckS d != 0
  · simpa using h1
  · rw [h1, cond_true] at h; exact h
theorem spans_code {d : Deck} {l : List Int} (h : (spansS d l).2 = 0) : deckS d = 0 := by
  unfold spansS at h
  cases h1 : (tableS d).2 != 0
  · exact table_code (by simpa using h1)
  · rw [h1, cond_true] at h; exact table_code h
theorem c48 {d : Deck} {l : List Int} (hl : l.length ≤ 999) : Pure Try.prog 48 [⟨.deck, d⟩, ⟨.sl .int, l⟩] [.sl .int, .int] (needsR d l) :=
  ofT2 Try.func48 (t48 d l) (by kernel_rfl) (by kernel_rfl) fun _ => by
    unfold needsR
    refine ⟨⟨T5', T2', trivial⟩, _, c96 (by omega), sat_bif (fun h => ⟨⟨T2', T2'⟩, by rw [h]; rfl⟩) (fun h => ?_)⟩
    have h0 : (spansS d l).2 = 0 := by simpa using h
    obtain ⟨a, b, c⟩ := spans_ok h0
    rw [h, cond_false]
    exact ⟨⟨T5', T2', trivial⟩, _, c97 (spans_code h0) b (by omega), ⟨T2', T2'⟩, rfl⟩

theorem needs_len {d : Deck} (h0 : deckS d = 0) : ∀ {l : List Span} (_ : ∀ s ∈ l, SpanOk d s) (out : List Int), (l.foldl (fun out s => eitherS out (lanesS d s)) out).length ≤ out.length + 24 * l.length
  | [], _, out => by simp
  | s :: l, hs, out => by
    have h1 := lanes_len h0 (hs s (by simp))
    have h2 := needs_len h0 (l := l) (fun t ht => hs t (by simp [ht])) (eitherS out (lanesS d s))
    have h3 := either_len (a := out) (b := lanesS d s)
    simp only [List.foldl_cons, List.length_cons]; omega
theorem loop49 {d : Deck} {l : List Span} {e : Int} (h0 : l ≠ [] → deckS d = 0) (hs : ∀ s ∈ l, SpanOk d s) (hl : l.length ≤ 999) {r : List Int × Int} {A : List Item → AS → Prop} (hA : Closed Try.prog codes sigs2 Try.f49 (pureFin [.sl .int, .int]) (fun y => y = r) 0 A)
    (hr : (needsS d l, e) = r) (i : Nat) (hi : i ≤ l.length) : A (hd Try.f49 0) (L49 d l e (needsS d (l.take i)) i) := by
  refine hA.go (t49a d l e _ i) (sat_bif (fun h1 => ?_) (fun h1 => ?_))
  · have h1 := of_decide_eq_true h1
    have hil : i < l.length := by omega
    have hc := h0 (fun h => by rw [h] at hil; simp at hil)
    have hn := needs_len hc (l := l.take i) (fun s h => hs s (List.mem_of_mem_take h)) []
    have hn : (needsS d (l.take i)).length ≤ 0 + 24 * (l.take i).length := hn
    rw [List.length_take] at hn
    have hsi := hs _ (List.getElem_mem hil)
    have hll := lanes_len hc hsi
    rw [getD_int hil]
    refine ⟨⟨⟨by omega, by omega⟩, trivial⟩, ⟨T5', T3', trivial⟩, _, c99 hc hsi, ⟨T2', T2', trivial⟩, _, c57 (by omega) (by omega), ?_⟩
    have e1 : eitherS (needsS d (l.take i)) (lanesS d l[i]) = needsS d (l.take (i + 1)) := by
      rw [List.take_succ_eq_append_getElem hil, needsS, needsS, List.foldl_append]; rfl
    rw [e1, wrap_succ (by omega)]
    exact loop49 h0 hs hl hA hr (i + 1) (by omega)
  · have h1 := of_decide_eq_false h1
    rw [List.take_of_length_le (by omega)]
    exact ⟨⟨T2', T2'⟩, hr⟩
termination_by l.length - i
theorem c49 {d : Deck} {l : List Int} (hl : l.length ≤ 999) : Pure Try.prog 49 [⟨.deck, d⟩, ⟨.sl .int, l⟩] [.sl .int, .int] (needsR d l) :=
  Pure.of_closed (C := codes) (S := sigs2) mixed Try.func49 (by kernel_rfl) (Nat.le_of_ble_eq_true (by kernel_rfl)) fun A hA => hA.go (t49 d l) (by
    refine ⟨⟨T5', T2', trivial⟩, _, c98 (by omega), ?_⟩
    have hq : (needsS d (spansS d l).1, (spansS d l).2) = needsR d l := by
      unfold needsR
      cases h : (spansS d l).2 != 0
      · have h0 : (spansS d l).2 = 0 := by simpa using h
        rw [cond_false, h0]
      · rw [cond_true, spans_err (by simpa using h)]; rfl
    by_cases h0 : (spansS d l).2 = 0
    · obtain ⟨a, b, c⟩ := spans_ok h0
      exact hA.slot 8 (.d (.v (.slice none 0 0))) (.d (.sl .int [])) (s' := L49 d (spansS d l).1 (spansS d l).2 [] 0) (by kernel_rfl) (by kernel_rfl) (AVle.nil _ .int 0) (by kernel_rfl) (loop49 (fun _ => spans_code h0) b (by omega) hA hq 0 (by omega))
    · have e := spans_err h0
      exact hA.slot 8 (.d (.v (.slice none 0 0))) (.d (.sl .int [])) (s' := L49 d (spansS d l).1 (spansS d l).2 [] 0) (by kernel_rfl) (by kernel_rfl) (AVle.nil _ .int 0) (by kernel_rfl) (loop49 (fun h => absurd e h) (fun s hs => by rw [e] at hs; cases hs) (by rw [e]; simp) hA hq 0 (by omega)))

theorem two_some {l : List Span} (h : l.length = 2) : ∃ a b, l = [a, b] := by
  match l, h with
  | [a, b], _ => exact ⟨a, b, rfl⟩
theorem meets_clash {a b : Span} (ha : a.lo ≤ a.hi) (hb : b.lo ≤ b.hi) : Sp.meets a b = clashS a b := by
  have h := Sp.meets_iff ha hb
  unfold clashS
  by_cases h1 : a.lo ≤ b.hi
  · rw [decide_eq_true h1, cond_true]
    by_cases h2 : b.lo ≤ a.hi
    · rw [decide_eq_true h2, h.2 ⟨h1, h2⟩]
    · rw [decide_eq_false h2]
      cases hm : Sp.meets a b
      · rfl
      · exact absurd (h.1 hm).2 h2
  · rw [decide_eq_false h1, cond_false]
    cases hm : Sp.meets a b
    · rfl
    · exact absurd (h.1 hm).1 h1
theorem hull_way {a b : Span} (ha : a.lo ≤ a.hi) (hb : b.lo ≤ b.hi) : Sp.hull a b = wayS a b := by
  unfold Sp.hull Sp.emp
  rw [decide_eq_false (by omega), decide_eq_false (by omega), cond_false, cond_false]
  unfold Sp.over wayS
  by_cases h1 : b.lo < a.lo <;> by_cases h2 : b.hi > a.hi <;> simp [h1, h2]
theorem way_ok {d : Deck} {a b : Span} (ha : SpanOk d a) (hb : SpanOk d b) : SpanOk d (wayS a b) := by
  obtain ⟨a1, a2, a3⟩ := ha
  obtain ⟨b1, b2, b3⟩ := hb
  unfold wayS SpanOk
  by_cases h1 : b.lo < a.lo <;> by_cases h2 : b.hi > a.hi <;> simp only [h1, h2, decide_true, decide_false, cond_true, cond_false] <;> omega
theorem c51 (d : Deck) (a b : Int) : Pure Try.prog 51 [⟨.deck, d⟩, ⟨.int, a⟩, ⟨.int, b⟩] [.bool, .int] (clashR d a b) :=
  ofT2 Try.func51 (t51 d a b) (by kernel_rfl) (by kernel_rfl) fun _ => by
    unfold clashR
    refine ⟨⟨T2', T2', trivial⟩, ⟨T5', T2', trivial⟩, _, c96 (by simp), sat_bif (fun h => ⟨⟨T2', T2'⟩, by rw [h]; rfl⟩) (fun h => ?_)⟩
    have h0 : (spansS d [a, b]).2 = 0 := by simpa using h
    obtain ⟨g1, g2, g3⟩ := spans_ok h0
    obtain ⟨x, y, e⟩ := two_some g3
    rw [e] at g2
    rw [h, cond_false, e]
    obtain ⟨x1, x2, x3⟩ := g2 x (by simp)
    obtain ⟨y1, y2, y3⟩ := g2 y (by simp)
    refine ⟨⟨⟨by simp, by simp⟩, trivial⟩, ⟨⟨by simp, by simp⟩, trivial⟩, ⟨T3', T3', trivial⟩, _, Sp.c25 _ _, ⟨T2', T2'⟩, ?_⟩
    show (Sp.meets x y, (0 : Int)) = (clashS x y, 0)
    rw [meets_clash x2 y2]
theorem c52 (d : Deck) (a b : Int) : Pure Try.prog 52 [⟨.deck, d⟩, ⟨.int, a⟩, ⟨.int, b⟩] [.bool, .int] (clashR d a b) :=
  ofT2 Try.func52 (t52 d a b) (by kernel_rfl) (by kernel_rfl) fun _ => by
    unfold clashR
    refine ⟨⟨T2', T2', trivial⟩, ⟨T5', T2', trivial⟩, _, c98 (by simp), sat_bif (fun h => ⟨⟨T2', T2'⟩, by rw [h]; rfl⟩) (fun h => ?_)⟩
    have h0 : (spansS d [a, b]).2 = 0 := by simpa using h
    obtain ⟨g1, g2, g3⟩ := spans_ok h0
    obtain ⟨x, y, e⟩ := two_some g3
    rw [h, cond_false, e]
    refine ⟨⟨⟨by simp, by simp⟩, trivial⟩, ⟨⟨by simp, by simp⟩, trivial⟩, ?_⟩
    show Sat _ _ _ (bif decide (x.lo ≤ y.hi) then _ else _)
    refine sat_bif (fun h2 => ⟨⟨⟨by simp, by simp⟩, trivial⟩, ⟨⟨by simp, by simp⟩, trivial⟩, ⟨T2', T2'⟩, ?_⟩) (fun h2 => ⟨⟨T2', T2'⟩, ?_⟩)
    · show (decide (y.lo ≤ x.hi), (0 : Int)) = (bif decide (x.lo ≤ y.hi) then _ else _, 0)
      rw [h2]; rfl
    · show (false, (0 : Int)) = (bif decide (x.lo ≤ y.hi) then _ else _, 0)
      rw [h2]; rfl
theorem needs_one {d : Deck} (s : Span) : needsS d [s] = lanesS d s := by
  refine rise_ext (needs_rise _ _) (lanes_rise _ _) fun n => ?_
  rw [mem_needs]; simp
theorem c53 (d : Deck) (a b : Int) : Pure Try.prog 53 [⟨.deck, d⟩, ⟨.int, a⟩, ⟨.int, b⟩] [.sl .int, .int] (pathR d a b) :=
  ofT2 Try.func53 (t53 d a b) (by kernel_rfl) (by kernel_rfl) fun _ => by
    unfold pathR
    refine ⟨⟨T2', T2', trivial⟩, ⟨T5', T2', trivial⟩, _, c96 (by simp), sat_bif (fun h => ⟨⟨T2', T2'⟩, by rw [h]; rfl⟩) (fun h => ?_)⟩
    have h0 : (spansS d [a, b]).2 = 0 := by simpa using h
    obtain ⟨g1, g2, g3⟩ := spans_ok h0
    obtain ⟨x, y, e⟩ := two_some g3
    rw [e] at g2
    rw [h, cond_false, e]
    have hx := g2 x (by simp)
    have hy := g2 y (by simp)
    have x2 := hx.2.1
    have y2 := hy.2.1
    refine ⟨⟨⟨by simp, by simp⟩, trivial⟩, ⟨⟨by simp, by simp⟩, trivial⟩, ⟨T3', T3', trivial⟩, _, (Sp.c21 x y).eq (hull_way x2 y2), ⟨T3', trivial⟩, ⟨T5', T2', trivial⟩, _, (c97 (l := [wayS x y]) (spans_code h0) (fun s hs => by rw [List.mem_singleton.1 hs]; exact way_ok hx hy) (by simp)).eq (needs_one _), ⟨T2', T2'⟩, rfl⟩
theorem c54 (d : Deck) (a b : Int) : Pure Try.prog 54 [⟨.deck, d⟩, ⟨.int, a⟩, ⟨.int, b⟩] [.sl .int, .int] (pathR d a b) :=
  ofT2 Try.func54 (t54 d a b) (by kernel_rfl) (by kernel_rfl) fun _ => by
    unfold pathR
    refine ⟨⟨T2', T2', trivial⟩, ⟨T5', T2', trivial⟩, _, c98 (by simp), sat_bif (fun h => ⟨⟨T2', T2'⟩, by rw [h]; rfl⟩) (fun h => ?_)⟩
    have h0 : (spansS d [a, b]).2 = 0 := by simpa using h
    obtain ⟨g1, g2, g3⟩ := spans_ok h0
    obtain ⟨x, y, e⟩ := two_some g3
    rw [e] at g2
    rw [h, cond_false, e]
    have hw := way_ok (g2 x (by simp)) (g2 y (by simp))
    have c := c99 (spans_code h0) hw
    refine ⟨⟨⟨by simp, by simp⟩, trivial⟩, ⟨⟨by simp, by simp⟩, trivial⟩, ?_⟩
    show Sat _ _ _ (bif decide (y.lo < x.lo) then _ else _)
    refine sat_bif (fun h2 => ⟨⟨⟨by simp, by simp⟩, trivial⟩, ⟨⟨by simp, by simp⟩, trivial⟩, ?_⟩) (fun h2 => ⟨⟨⟨by simp, by simp⟩, trivial⟩, ?_⟩)
    · show Sat _ _ _ (bif decide (y.hi > x.hi) then _ else _)
      refine sat_bif (fun h3 => ⟨⟨⟨by simp, by simp⟩, trivial⟩, ⟨T5', T3', trivial⟩, lanesS d (wayS x y), ?_, ⟨T2', T2'⟩, rfl⟩) (fun h3 => ⟨⟨T5', T3', trivial⟩, lanesS d (wayS x y), ?_, ⟨T2', T2'⟩, rfl⟩)
      all_goals (unfold wayS at c ⊢; rw [h2, h3] at c ⊢; exact c)
    · show Sat _ _ _ (bif decide (y.hi > x.hi) then _ else _)
      refine sat_bif (fun h3 => ⟨⟨⟨by simp, by simp⟩, trivial⟩, ⟨T5', T3', trivial⟩, lanesS d (wayS x y), ?_, ⟨T2', T2'⟩, rfl⟩) (fun h3 => ⟨⟨T5', T3', trivial⟩, lanesS d (wayS x y), ?_, ⟨T2', T2'⟩, rfl⟩)
      all_goals (unfold wayS at c ⊢; rw [h2, h3] at c ⊢; exact c)
end Go.Proofs.Zn

namespace Go.Proofs.Zn
open Go Go.VL

def cutL : Cuts := ⟨[2, 5], false⟩
def cut9 : Cuts := ⟨[14], false⟩


theorem t38l  : @Eq (Out (TyTup [.bool])) (aexec Try.prog codes sigs2 Try.f38 (pureFin [.bool]) 0 cutL 300 false (bodyOf Try.f38) (startS Try.f38 []))
    (Out.need ((True ∧ True) ∧ (True ∧ True) ∧ (True ∧ True) ∧ (True ∧ True) ∧ True)
  (Out.need ((True ∧ True ∧ True ∧ True ∧ True ∧ True ∧ True ∧ True) ∧ True)
    (Out.stop (rg Try.f38 (2 : Nat))
      (mkS (109 : Nat) [((1 : Nat), AV.ptr (0 : Nat) (0 : Nat))]
        [((0 : Nat),
            ABlk.box
              [AV.own (1 : Nat) Ty.flt, AV.own (2 : Nat) Ty.plate, AV.d (D.v (Value.slice none (0 : Nat) (0 : Nat))),
                AV.d (D.v (Value.int IntKind.i64 (1 : Int)))]),
          ((1 : Nat),
            ABlk.row (59 : Nat) Ty.flt
              [some (0 : Nat), some (4621256167635550208 : Nat), some (4625759767262920704 : Nat),
                some (4628293042053316608 : Nat)]),
          ((2 : Nat),
            ABlk.row (113 : Nat) Ty.plate
              [Plate.mk (1 : Int) (2 : Int) (some (4616752568008179712 : Nat)) (some (4621256167635550208 : Nat))
                  (some (4616752568008179712 : Nat)) (5 : Int) []])]
        (3 : Nat))))) := by kernel_rfl

theorem t9 (d : Deck) (i : Int) : @Eq (Out (TyTup [.bool])) (aexec Try.prog codes sigs2 Try.f9 (pureFin [.bool]) 0 cut9 300 false (bodyOf Try.f9) (startS Try.f9 [⟨.deck, d⟩, ⟨.int, i⟩]))
    (Out.need ((True ∧ True ∧ True ∧ True ∧ True) ∧ True)
  (Out.callP (37 : Nat) [Sigma.mk Ty.deck d] [Ty.bool] fun (x : Bool) =>
    bif x then Out.need True (Out.callP (38 : Nat) [] [Ty.bool] fun (x : Bool) => Out.need (True ∧ True) (Out.ret x))
    else
      Out.need ((True ∧ True ∧ True ∧ True ∧ True) ∧ (True ∧ True) ∧ True)
        (Out.callP (39 : Nat) [Sigma.mk Ty.deck d, Sigma.mk Ty.int i] [Ty.span, Ty.int] fun (x : Span × Int) =>
          Out.need ((True ∧ True ∧ True ∧ True ∧ True) ∧ (True ∧ True) ∧ True)
            (Out.callP (40 : Nat) [Sigma.mk Ty.deck d, Sigma.mk Ty.int i] [Ty.span, Ty.int] fun (x_1 : Span × Int) =>
              Out.need ((True ∧ True ∧ True ∧ True ∧ True) ∧ (True ∧ True) ∧ True)
                (Out.callP (41 : Nat) [Sigma.mk Ty.deck d, Sigma.mk Ty.int i] [Ty.flt, Ty.int]
                  fun (x_2 : Option Nat × Int) =>
                  Out.need True
                    (Out.callP (38 : Nat) [] [Ty.bool] fun (x_3 : Bool) =>
                      bif !x_3 then Out.need (True ∧ True) (Out.ret false)
                      else
                        bif
                            !(Span.lo (Prod.fst x) == Span.lo (Prod.fst x_1) &&
                                (Span.hi (Prod.fst x) == Span.hi (Prod.fst x_1) && true)) then
                          Out.need (True ∧ True) (Out.ret false)
                        else
                          bif Prod.snd x != Prod.snd x_1 then Out.need (True ∧ True) (Out.ret false)
                          else
                            Out.need ((True ∧ True ∧ True ∧ True ∧ True) ∧ (True ∧ True) ∧ True)
                              (Out.callP (42 : Nat) [Sigma.mk Ty.deck d, Sigma.mk Ty.int i] [Ty.part, Ty.int]
                                fun (x : Part × Int) =>
                                bif Prod.snd x != (0 : Int) then
                                  bif Prod.snd x_2 == Prod.snd x then
                                    Out.need ((True ∧ True) ∧ True)
                                      (Out.callP (43 : Nat) [Sigma.mk Ty.flt (Prod.fst x_2)] [Ty.u64] fun (x : Int) =>
                                        Out.need (True ∧ True) (Out.ret (x == (0 : Int))))
                                  else Out.need (True ∧ True) (Out.ret false)
                                else
                                  bif Part.kind (Prod.fst x) == (3 : Int) then
                                    bif Prod.snd x_2 == (1 : Int) then
                                      Out.need ((True ∧ True) ∧ True)
                                        (Out.callP (43 : Nat) [Sigma.mk Ty.flt (Prod.fst x_2)] [Ty.u64] fun (x : Int) =>
                                          Out.need (True ∧ True) (Out.ret (x == (0 : Int))))
                                    else Out.need (True ∧ True) (Out.ret false)
                                  else
                                    Out.need
                                      ((True ∧ True ∧ True ∧ True ∧ True) ∧ (True ∧ True ∧ True ∧ True ∧ True) ∧ True)
                                      (Out.callP (44 : Nat) [Sigma.mk Ty.deck d, Sigma.mk Ty.part (Prod.fst x)]
                                        [Ty.flt, Ty.flt] fun (x : Option Nat × Option Nat) =>
                                        Out.stop (rg Try.f9 (14 : Nat))
                                          (mkS (99 : Nat)
                                            [((9 : Nat), AV.d (D.f (Prod.fst x_2))),
                                              ((10 : Nat), AV.d (D.v (Value.int IntKind.i64 (Prod.snd x_2)))),
                                              ((13 : Nat), AV.d (D.f (Prod.fst x)))]
                                            [] (0 : Nat)))))))))) := by kernel_rfl

theorem t10 (d : Deck) : @Eq (Out (TyTup [.bool])) (aexec Try.prog codes sigs2 Try.f10 (pureFin [.bool]) 0 noCut 300 false (bodyOf Try.f10) (startS Try.f10 [⟨.deck, d⟩]))
    (Out.need ((True ∧ True ∧ True ∧ True ∧ True) ∧ True)
  (Out.callP (37 : Nat) [Sigma.mk Ty.deck d] [Ty.bool] fun (x : Bool) =>
    bif x then Out.need True (Out.callP (38 : Nat) [] [Ty.bool] fun (x : Bool) => Out.need (True ∧ True) (Out.ret x))
    else
      Out.need ((True ∧ True ∧ True ∧ True ∧ True) ∧ True)
        (Out.callP (45 : Nat) [Sigma.mk Ty.deck d] [Ty.sl Ty.span, Ty.int] fun (x : List Span × Int) =>
          Out.need ((True ∧ True ∧ True ∧ True ∧ True) ∧ True)
            (Out.callP (46 : Nat) [Sigma.mk Ty.deck d] [Ty.sl Ty.span, Ty.int] fun (x_1 : List Span × Int) =>
              Out.need True
                (Out.callP (38 : Nat) [] [Ty.bool] fun (x_2 : Bool) =>
                  bif x_2 then
                    Out.need ((True ∧ True ∧ True ∧ True ∧ True) ∧ True)
                      (Out.callP (47 : Nat) [Sigma.mk Ty.deck d] [Ty.int] fun (x_3 : Int) =>
                        bif x_3 == Prod.snd x_1 then
                          bif Prod.snd x == Prod.snd x_1 then
                            Out.need ((True ∧ True) ∧ (True ∧ True) ∧ True)
                              (Out.callP (32 : Nat)
                                [Sigma.mk (Ty.sl Ty.span) (Prod.fst x), Sigma.mk (Ty.sl Ty.span) (Prod.fst x_1)]
                                [Ty.bool] fun (x : Bool) => Out.need (True ∧ True) (Out.ret x))
                          else Out.need (True ∧ True) (Out.ret false)
                        else Out.need (True ∧ True) (Out.ret false))
                  else Out.need (True ∧ True) (Out.ret false)))))) := by kernel_rfl

theorem t11 (d : Deck) (l : List Int) : @Eq (Out (TyTup [.bool])) (aexec Try.prog codes sigs2 Try.f11 (pureFin [.bool]) 0 noCut 300 false (bodyOf Try.f11) (startS Try.f11 [⟨.deck, d⟩, ⟨.sl .int, l⟩]))
    (Out.need ((True ∧ True ∧ True ∧ True ∧ True) ∧ True)
  (Out.callP (37 : Nat) [Sigma.mk Ty.deck d] [Ty.bool] fun (x : Bool) =>
    bif x then Out.need True (Out.callP (38 : Nat) [] [Ty.bool] fun (x : Bool) => Out.need (True ∧ True) (Out.ret x))
    else
      bif decide ((↑(List.length l) : Int) > (60 : Int)) then
        Out.need True (Out.callP (38 : Nat) [] [Ty.bool] fun (x : Bool) => Out.need (True ∧ True) (Out.ret x))
      else
        Out.need ((True ∧ True ∧ True ∧ True ∧ True) ∧ (True ∧ True) ∧ True)
          (Out.callP (48 : Nat) [Sigma.mk Ty.deck d, Sigma.mk (Ty.sl Ty.int) l] [Ty.sl Ty.int, Ty.int]
            fun (x : List Int × Int) =>
            Out.need ((True ∧ True ∧ True ∧ True ∧ True) ∧ (True ∧ True) ∧ True)
              (Out.callP (49 : Nat) [Sigma.mk Ty.deck d, Sigma.mk (Ty.sl Ty.int) l] [Ty.sl Ty.int, Ty.int]
                fun (x_1 : List Int × Int) =>
                Out.need True
                  (Out.callP (38 : Nat) [] [Ty.bool] fun (x_2 : Bool) =>
                    bif x_2 then
                      Out.need ((True ∧ True) ∧ (True ∧ True) ∧ True)
                        (Out.callP (50 : Nat)
                          [Sigma.mk (Ty.sl Ty.int) (Prod.fst x), Sigma.mk (Ty.sl Ty.int) (Prod.fst x_1)] [Ty.bool]
                          fun (x_3 : Bool) =>
                          bif x_3 then Out.need (True ∧ True) (Out.ret (Prod.snd x == Prod.snd x_1))
                          else Out.need (True ∧ True) (Out.ret false))
                    else Out.need (True ∧ True) (Out.ret false)))))) := by kernel_rfl

theorem t12 (d : Deck) (a b : Int) : @Eq (Out (TyTup [.bool])) (aexec Try.prog codes sigs2 Try.f12 (pureFin [.bool]) 0 noCut 300 false (bodyOf Try.f12) (startS Try.f12 [⟨.deck, d⟩, ⟨.int, a⟩, ⟨.int, b⟩]))
    (Out.need ((True ∧ True ∧ True ∧ True ∧ True) ∧ True)
  (Out.callP (37 : Nat) [Sigma.mk Ty.deck d] [Ty.bool] fun (x : Bool) =>
    bif x then Out.need True (Out.callP (38 : Nat) [] [Ty.bool] fun (x : Bool) => Out.need (True ∧ True) (Out.ret x))
    else
      Out.need ((True ∧ True ∧ True ∧ True ∧ True) ∧ (True ∧ True) ∧ (True ∧ True) ∧ True)
        (Out.callP (51 : Nat) [Sigma.mk Ty.deck d, Sigma.mk Ty.int a, Sigma.mk Ty.int b] [Ty.bool, Ty.int]
          fun (x : Bool × Int) =>
          Out.need ((True ∧ True ∧ True ∧ True ∧ True) ∧ (True ∧ True) ∧ (True ∧ True) ∧ True)
            (Out.callP (52 : Nat) [Sigma.mk Ty.deck d, Sigma.mk Ty.int a, Sigma.mk Ty.int b] [Ty.bool, Ty.int]
              fun (x_1 : Bool × Int) =>
              Out.need ((True ∧ True ∧ True ∧ True ∧ True) ∧ (True ∧ True) ∧ (True ∧ True) ∧ True)
                (Out.callP (53 : Nat) [Sigma.mk Ty.deck d, Sigma.mk Ty.int a, Sigma.mk Ty.int b] [Ty.sl Ty.int, Ty.int]
                  fun (x_2 : List Int × Int) =>
                  Out.need ((True ∧ True ∧ True ∧ True ∧ True) ∧ (True ∧ True) ∧ (True ∧ True) ∧ True)
                    (Out.callP (54 : Nat) [Sigma.mk Ty.deck d, Sigma.mk Ty.int a, Sigma.mk Ty.int b]
                      [Ty.sl Ty.int, Ty.int] fun (x_3 : List Int × Int) =>
                      Out.need True
                        (Out.callP (38 : Nat) [] [Ty.bool] fun (x_4 : Bool) =>
                          bif !x_4 then Out.need (True ∧ True) (Out.ret false)
                          else
                            bif !Prod.fst x == Prod.fst x_1 then Out.need (True ∧ True) (Out.ret false)
                            else
                              bif Prod.snd x != Prod.snd x_1 then Out.need (True ∧ True) (Out.ret false)
                              else
                                Out.need ((True ∧ True) ∧ (True ∧ True) ∧ True)
                                  (Out.callP (50 : Nat)
                                    [Sigma.mk (Ty.sl Ty.int) (Prod.fst x_2), Sigma.mk (Ty.sl Ty.int) (Prod.fst x_3)]
                                    [Ty.bool] fun (x_5 : Bool) =>
                                    bif !x_5 then Out.need (True ∧ True) (Out.ret false)
                                    else
                                      bif Prod.snd x_2 != Prod.snd x_3 then Out.need (True ∧ True) (Out.ret false)
                                      else
                                        bif Prod.snd x != (0 : Int) then Out.need (True ∧ True) (Out.ret true)
                                        else
                                          Out.need ((True ∧ True) ∧ True)
                                            (Out.need ((True ∧ True ∧ True ∧ True ∧ True) ∧ (True ∧ True) ∧ True)
                                              (Out.callP (48 : Nat) [Sigma.mk Ty.deck d, Sigma.mk (Ty.sl Ty.int) [a]]
                                                [Ty.sl Ty.int, Ty.int] fun (x_6 : List Int × Int) =>
                                                Out.need ((True ∧ True) ∧ True)
                                                  (Out.need ((True ∧ True ∧ True ∧ True ∧ True) ∧ (True ∧ True) ∧ True)
                                                    (Out.callP (48 : Nat)
                                                      [Sigma.mk Ty.deck d, Sigma.mk (Ty.sl Ty.int) [b]]
                                                      [Ty.sl Ty.int, Ty.int] fun (x_7 : List Int × Int) =>
                                                      Out.stop (hd Try.f12 (0 : Nat))
                                                        (mkS (123 : Nat)
                                                          [((7 : Nat), AV.d (D.v (Value.bool (Prod.fst x)))),
                                                            ((11 : Nat), AV.d (D.sl Ty.int (Prod.fst x_2))),
                                                            ((15 : Nat), AV.d (D.sl Ty.int (Prod.fst x_6))),
                                                            ((17 : Nat), AV.d (D.sl Ty.int (Prod.fst x_7))),
                                                            ((19 : Nat), AV.d (D.v (Value.int IntKind.i64 (1 : Int))))]
                                                          [] (0 : Nat)))))))))))))) := by kernel_rfl

end Go.Proofs.Zn

namespace Go.Proofs.Zn
open Go Go.VL

def L9 (x y : Fl) (g : Int) : AS := mkS 99 [(9, .d (.f x)), (10, i64 g), (13, .d (.f y))] [] 0
def B38 : List Fl := [some 0, some 4621256167635550208, some 4625759767262920704, some 4628293042053316608]
def P38 : Plate := ⟨1, 2, some 4616752568008179712, some 4621256167635550208, some 4616752568008179712, 5, []⟩
def D38 : Deck := ⟨B38, [P38], [], 1⟩
def L12 (c : Bool) (p x y : List Int) (i : Int) : AS := mkS 123 [(7, boolA c), (11, .d (.sl .int p)), (15, .d (.sl .int x)), (17, .d (.sl .int y)), (19, i64 i)] [] 0
def L38 : AS := mkS 109 [(1, .ptr 0 0)] [(0, .box [.d (.sl .flt B38), .d (.sl .plate [P38]), .d (.v (.slice none 0 0)), i64 1])] 1


theorem t9b (p q : Nat) (g : Int) : @Eq (Out (TyTup [.bool])) (aexec Try.prog codes sigs2 Try.f9 (pureFin [.bool]) 0 noCut 100 true (rg Try.f9 14) (L9 (some p) (some q) g))
    (bif g == (0 : Int) then
  Out.need ((True ∧ True) ∧ True)
    (Out.callP (43 : Nat) [Sigma.mk Ty.flt (some p)] [Ty.u64] fun (x : Int) =>
      Out.need ((True ∧ True) ∧ True)
        (Out.callP (43 : Nat) [Sigma.mk Ty.flt (some q)] [Ty.u64] fun (x_1 : Int) =>
          bif x == x_1 then Out.need (True ∧ True) (Out.ret true)
          else
            bif Fl.cmp (some p) (some p) != some Ordering.eq then
              Out.need (True ∧ True) (Out.ret (Fl.cmp (some q) (some q) != some Ordering.eq))
            else Out.need (True ∧ True) (Out.ret false)))
  else Out.need (True ∧ True) (Out.ret false)) := by kernel_rfl

theorem t12a (c : Bool) (p x y : List Int) (i : Int) : @Eq (Out (TyTup [.bool])) (aexec Try.prog codes sigs2 Try.f12 (pureFin [.bool]) 0 noCut 200 true (hd Try.f12 0) (L12 c p x y i))
    (bif decide (i < (↑(List.length p) : Int)) then
  Out.need (((0 : Int) ≤ i ∧ i < (↑(List.length p) : Int)) ∧ True)
    (Out.need
      (((0 : Int) ≤ IntKind.wrap IntKind.i64 (i - (1 : Int)) ∧
          IntKind.wrap IntKind.i64 (i - (1 : Int)) < (↑(List.length p) : Int)) ∧
        True)
      (bif
          List.getD p (Int.toNat i) (Ty.dflt Ty.int) !=
            IntKind.wrap IntKind.i64
              (List.getD p (Int.toNat (IntKind.wrap IntKind.i64 (i - (1 : Int)))) (Ty.dflt Ty.int) + (1 : Int)) then
        Out.need (True ∧ True) (Out.ret false)
      else
        Out.stop (hd Try.f12 (0 : Nat))
          (mkS (123 : Nat)
            [((7 : Nat), AV.d (D.v (Value.bool c))), ((11 : Nat), AV.d (D.sl Ty.int p)),
              ((15 : Nat), AV.d (D.sl Ty.int x)), ((17 : Nat), AV.d (D.sl Ty.int y)),
              ((19 : Nat), AV.d (D.v (Value.int IntKind.i64 (IntKind.wrap IntKind.i64 (i + (1 : Int))))))]
            [] (0 : Nat))))
  else
  Out.need ((True ∧ True) ∧ (True ∧ True) ∧ True)
    (Out.callP (55 : Nat) [Sigma.mk (Ty.sl Ty.int) x, Sigma.mk (Ty.sl Ty.int) y] [Ty.sl Ty.int] fun (x_1 : List Int) =>
      bif c == decide ((↑(List.length x_1) : Int) > (0 : Int)) then
        Out.need ((True ∧ True) ∧ (True ∧ True) ∧ True)
          (Out.callP (57 : Nat) [Sigma.mk (Ty.sl Ty.int) x, Sigma.mk (Ty.sl Ty.int) y] [Ty.sl Ty.int]
            fun (x : List Int) =>
            Out.need ((True ∧ True) ∧ (True ∧ True) ∧ True)
              (Out.callP (56 : Nat) [Sigma.mk (Ty.sl Ty.int) x, Sigma.mk (Ty.sl Ty.int) p] [Ty.sl Ty.int]
                fun (x : List Int) => Out.need (True ∧ True) (Out.ret ((↑(List.length x) : Int) == (0 : Int)))))
      else Out.need (True ∧ True) (Out.ret false))) := by kernel_rfl

theorem t38b  : @Eq (Out (TyTup [.bool])) (aexec Try.prog codes sigs2 Try.f38 (pureFin [.bool]) 0 noCut 300 true (rg Try.f38 2) (L38))
    (Out.need ((True ∧ True ∧ True ∧ True ∧ True) ∧ (True ∧ True) ∧ True)
  (Out.callP (41 : Nat) [Sigma.mk Ty.deck (Deck.mk B38 [P38] [] (1 : Int)), Sigma.mk Ty.int (1 : Int)] [Ty.flt, Ty.int]
    fun (x : Option Nat × Int) =>
    Out.need ((True ∧ True ∧ True ∧ True ∧ True) ∧ (True ∧ True) ∧ True)
      (Out.callP (39 : Nat) [Sigma.mk Ty.deck (Deck.mk B38 [P38] [] (1 : Int)), Sigma.mk Ty.int (1 : Int)]
        [Ty.span, Ty.int] fun (x_1 : Span × Int) =>
        Out.need ((True ∧ True ∧ True ∧ True ∧ True) ∧ (True ∧ True) ∧ (True ∧ True) ∧ True)
          (Out.callP (51 : Nat)
            [Sigma.mk Ty.deck (Deck.mk B38 [P38] [] (1 : Int)), Sigma.mk Ty.int (0 : Int), Sigma.mk Ty.int (1 : Int)]
            [Ty.bool, Ty.int] fun (x_2 : Bool × Int) =>
            Out.need ((True ∧ True) ∧ True)
              (Out.need ((True ∧ True ∧ True ∧ True ∧ True) ∧ (True ∧ True) ∧ True)
                (Out.callP (48 : Nat)
                  [Sigma.mk Ty.deck (Deck.mk B38 [P38] [] (1 : Int)), Sigma.mk (Ty.sl Ty.int) [(0 : Int)]]
                  [Ty.sl Ty.int, Ty.int] fun (x_3 : List Int × Int) =>
                  Out.need ((True ∧ True ∧ True ∧ True ∧ True) ∧ (True ∧ True) ∧ (True ∧ True) ∧ True)
                    (Out.callP (53 : Nat)
                      [Sigma.mk Ty.deck (Deck.mk B38 [P38] [] (1 : Int)), Sigma.mk Ty.int (0 : Int),
                        Sigma.mk Ty.int (4 : Int)]
                      [Ty.sl Ty.int, Ty.int] fun (x_4 : List Int × Int) =>
                      Out.need ((True ∧ True ∧ True ∧ True ∧ True) ∧ True)
                        (Out.callP (45 : Nat) [Sigma.mk Ty.deck (Deck.mk B38 [P38] [] (1 : Int))]
                          [Ty.sl Ty.span, Ty.int] fun (x_5 : List Span × Int) =>
                          bif Fl.cmp (Prod.fst x) (some (4623789442425946112 : Nat)) == some Ordering.eq then
                            bif Prod.snd x == (0 : Int) then
                              bif
                                  Span.lo (Prod.fst x_1) == (1 : Int) &&
                                    (Span.hi (Prod.fst x_1) == (2 : Int) && true) then
                                bif Prod.snd x_1 == (0 : Int) then
                                  bif Prod.fst x_2 then
                                    bif Prod.snd x_2 == (0 : Int) then
                                      bif (↑(List.length (Prod.fst x_3)) : Int) == (2 : Int) then
                                        Out.need
                                          (((0 : Int) ≤ (0 : Int) ∧ (0 : Int) < (↑(List.length (Prod.fst x_3)) : Int)) ∧
                                            True)
                                          (bif List.getD (Prod.fst x_3) (0 : Nat) (Ty.dflt Ty.int) == (2 : Int) then
                                            bif Prod.snd x_3 == (0 : Int) then
                                              bif (↑(List.length (Prod.fst x_4)) : Int) == (3 : Int) then
                                                bif Prod.snd x_4 == (0 : Int) then
                                                  bif (↑(List.length (Prod.fst x_5)) : Int) == (5 : Int) then
                                                    bif Prod.snd x_5 == (0 : Int) then
                                                      Out.need ((True ∧ True ∧ True ∧ True ∧ True) ∧ True)
                                                        (Out.callP (47 : Nat)
                                                          [Sigma.mk Ty.deck (Deck.mk B38 [P38] [] (1 : Int))] [Ty.int]
                                                          fun (x : Int) =>
                                                          Out.need (True ∧ True) (Out.ret (x == (0 : Int))))
                                                    else Out.need (True ∧ True) (Out.ret false)
                                                  else Out.need (True ∧ True) (Out.ret false)
                                                else Out.need (True ∧ True) (Out.ret false)
                                              else Out.need (True ∧ True) (Out.ret false)
                                            else Out.need (True ∧ True) (Out.ret false)
                                          else Out.need (True ∧ True) (Out.ret false))
                                      else Out.need (True ∧ True) (Out.ret false)
                                    else Out.need (True ∧ True) (Out.ret false)
                                  else Out.need (True ∧ True) (Out.ret false)
                                else Out.need (True ∧ True) (Out.ret false)
                              else Out.need (True ∧ True) (Out.ret false)
                            else Out.need (True ∧ True) (Out.ret false)
                          else Out.need (True ∧ True) (Out.ret false))))))))) := by kernel_rfl

end Go.Proofs.Zn

/- The zone's laws come to true. (Own work.) -/
namespace Go.Proofs.Zn
open Go Go.VL

/-! ### lives -/
theorem at38 : atS D38 1 = (some 4623789442425946112, 0) := by kernel_rfl
theorem span38 : spanS D38 1 = (⟨1, 2⟩, 0) := by kernel_rfl
theorem clash38 : clashR D38 0 1 = (true, 0) := by kernel_rfl
theorem needs38 : needsR D38 [0] = ([2, 3], 0) := by kernel_rfl
theorem path38 : pathR D38 0 4 = ([2, 3, 4], 0) := by kernel_rfl
theorem table38 : tableS D38 = ([⟨0, 1⟩, ⟨1, 2⟩, ⟨0, 0⟩, ⟨1, 1⟩, ⟨2, 2⟩], 0) := by kernel_rfl
theorem zone38 : zoneS D38 = 0 := by kernel_rfl
theorem cmp38 : (Fl.cmp (some 4623789442425946112) (some 4623789442425946112) == some Ordering.eq) = true := by kernel_rfl
theorem sat_t {α : Type} {P : Program} {A : List Item → AS → Prop} {R0 : α → Prop} {b : Bool} {S T : Out α} (h : b = true) (h1 : Sat P A R0 S) : Sat P A R0 (bif b then S else T) := by rw [h]; exact h1
theorem sat_f {α : Type} {P : Program} {A : List Item → AS → Prop} {R0 : α → Prop} {b : Bool} {S T : Out α} (h : b = false) (h1 : Sat P A R0 T) : Sat P A R0 (bif b then S else T) := by rw [h]; exact h1
theorem c38 : Pure Try.prog 38 [] [.bool] true :=
  Pure.of_closed (C := codes) (S := sigs2) mixed Try.func38 (by kernel_rfl) (Nat.le_of_ble_eq_true (by kernel_rfl)) fun A hA => hA.go t38l (by
    refine ⟨⟨T2', T2', T2', T2', trivial⟩, ⟨⟨trivial, trivial, trivial, trivial, trivial, trivial, trivial, trivial⟩, trivial⟩, ?_⟩
    refine hA.frz 1 (s' := mkS 109 [(1, .ptr 0 0)] [(0, .box [.d (.sl .flt B38), .own 1 .plate, .d (.v (.slice none 0 0)), i64 1]), (1, .row 113 .plate [P38])] 2) (by kernel_rfl) (by kernel_rfl) ?_
    refine hA.frz 1 (s' := L38) (by kernel_rfl) (by kernel_rfl) (hA.go t38b ?_)
    refine ⟨⟨T5', T2', trivial⟩, _, (c41 D38 1).eq at38, ⟨T5', T2', trivial⟩, _, (c39 D38 1).eq span38, ⟨T5', T2', T2', trivial⟩, _, (c51 D38 0 1).eq clash38, ⟨T2', trivial⟩, ⟨T5', T2', trivial⟩, _, (c48 (d := D38) (l := [0]) (by decide)).eq needs38,
      ⟨T5', T2', T2', trivial⟩, _, (c53 D38 0 4).eq path38, ⟨T5', trivial⟩, _, (c45 D38).eq table38, ?_⟩
    refine sat_t cmp38 (sat_t rfl (sat_t rfl (sat_t rfl (sat_t rfl (sat_t rfl (sat_t rfl ⟨⟨⟨by decide, by decide⟩, trivial⟩, ?_⟩))))))
    exact sat_t rfl (sat_t rfl (sat_t rfl (sat_t rfl (sat_t rfl (sat_t rfl ⟨⟨T5', trivial⟩, _, (c47 D38).eq zone38, T2', rfl⟩)))))) 

/-! ### ZoneSpans -/
theorem nan_F {b : Nat} (h : nanBits b) : nanF (some b) = true := h
theorem fin9 {A : List Item → AS → Prop} (hA : Closed Try.prog codes sigs2 Try.f9 (pureFin [.bool]) (fun y => y = true) 0 A) (x : Fl) : A (rg Try.f9 14) (L9 x x 0) := by
  cases x with
  | none =>
    refine hA.nan _ _ 9 fun p hp => ?_
    rw [show (L9 none none 0).nanB 9 p = L9 (some p) none 0 by kernel_rfl]
    refine hA.nan _ _ 13 fun q hq => ?_
    rw [show (L9 (some p) none 0).nanB 13 q = L9 (some p) (some q) 0 by kernel_rfl]
    refine hA.go (t9b p q 0) (sat_t rfl ⟨⟨T2', trivial⟩, _, c43 p, ⟨T2', trivial⟩, _, c43 q, sat_bif (fun _ => ⟨T2', rfl⟩) (fun _ => ?_)⟩)
    refine sat_t ((cmp_self _).trans (nan_F hp)) ⟨T2', (cmp_self _).trans (nan_F hq)⟩
  | some p =>
    refine hA.go (t9b p p 0) (sat_t rfl ⟨⟨T2', trivial⟩, _, c43 p, ⟨T2', trivial⟩, _, c43 p, sat_t (by simp) ⟨T2', rfl⟩⟩)
theorem z9 (d : Deck) (i : Int) : Pure Try.prog 9 [⟨.deck, d⟩, ⟨.int, i⟩] [.bool] true :=
  Pure.of_closed (C := codes) (S := sigs2) mixed Try.func9 (by kernel_rfl) (Nat.le_of_ble_eq_true (by kernel_rfl)) fun A hA => hA.go (t9 d i) (by
    refine ⟨⟨T5', trivial⟩, _, c37 d, sat_bif (fun _ => ⟨trivial, _, c38, T2', rfl⟩) (fun _ => ⟨⟨T5', T2', trivial⟩, _, c39 d i, ⟨T5', T2', trivial⟩, _, c40 d i, ⟨T5', T2', trivial⟩, _, c41 d i, trivial, _, c38, ?_⟩)⟩
    refine sat_f rfl (sat_f (by simp) (sat_f (by simp) ⟨⟨T5', T2', trivial⟩, _, c42 d i, sat_bif (fun h => ?_) (fun h => sat_bif (fun h3 => ?_) (fun h3 => ?_))⟩))
    · have e : atS d i = (some 0, (partS d i).2) := by unfold atS; rw [h]; rfl
      rw [e]
      exact sat_t (by simp) ⟨⟨T2', trivial⟩, _, c43 0, T2', rfl⟩
    · have e : atS d i = (some 0, 1) := by unfold atS; rw [h, h3]; rfl
      rw [e]
      exact sat_t rfl ⟨⟨T2', trivial⟩, _, c43 0, T2', rfl⟩
    · have e : atS d i = (midS (rowS d (partS d i).1) (partS d i).1.col, 0) := by unfold atS; rw [h, h3]; rfl
      rw [e]
      exact ⟨⟨T5', T5', trivial⟩, _, c44 (part_valid (by simpa using h)).2 (by simpa using h3), fin9 hA _⟩)

/-! ### ZoneChecks -/
theorem table_len (d : Deck) : (tableS d).1.length ≤ 800 := by
  unfold tableS
  cases h : deckS d != 0
  · rw [cond_false]
    have := parts_few (deck_ok (by simpa using h))
    unfold tryS
    cases errL (covL d (partsS d)) != 0
    · rw [cond_false]; simpa using this
    · simp
  · simp
theorem z10 (d : Deck) : Pure Try.prog 10 [⟨.deck, d⟩] [.bool] true :=
  ofT2 Try.func10 (t10 d) (by kernel_rfl) (by kernel_rfl) fun _ => by
    refine ⟨⟨T5', trivial⟩, _, c37 d, sat_bif (fun _ => ⟨trivial, _, c38, T2', rfl⟩) (fun _ => ⟨⟨T5', trivial⟩, _, c45 d, ⟨T5', trivial⟩, _, c46 d, trivial, _, c38, sat_t rfl ⟨⟨T5', trivial⟩, _, c47 d, ?_⟩⟩)⟩
    have hl := table_len d
    refine sat_t (by simp [zoneS]) (sat_t (by simp) ⟨⟨T2', T2', trivial⟩, _, Sp.c32 (by omega), T2', ?_⟩)
    exact decide_eq_true rfl

/-! ### ZoneNeeds -/
theorem needsR_len {d : Deck} {l : List Int} : (needsR d l).1.length ≤ 24 * l.length := by
  unfold needsR
  cases h : (spansS d l).2 != 0
  · have h0 : (spansS d l).2 = 0 := by simpa using h
    obtain ⟨a, b, c⟩ := spans_ok h0
    have := needs_len (spans_code h0) b []
    rw [c] at this
    rw [cond_false]
    have h3 : (needsS d (spansS d l).1).length ≤ 0 + 24 * l.length := this
    show (needsS d (spansS d l).1).length ≤ _
    omega
  · simp
theorem z11 (d : Deck) (l : List Int) : Pure Try.prog 11 [⟨.deck, d⟩, ⟨.sl .int, l⟩] [.bool] true :=
  ofT2 Try.func11 (t11 d l) (by kernel_rfl) (by kernel_rfl) fun _ => by
    refine ⟨⟨T5', trivial⟩, _, c37 d, sat_bif (fun _ => ⟨trivial, _, c38, T2', rfl⟩) (fun _ => sat_bif (fun _ => ⟨trivial, _, c38, T2', rfl⟩) (fun h => ?_))⟩
    have h := of_decide_eq_false h
    have hl := needsR_len (d := d) (l := l)
    refine ⟨⟨T5', T2', trivial⟩, _, c48 (by omega), ⟨T5', T2', trivial⟩, _, c49 (by omega), trivial, _, c38, sat_t rfl ⟨⟨T2', T2', trivial⟩, _, c50 (by omega), sat_t (decide_eq_true rfl) ⟨T2', ?_⟩⟩⟩
    show ((needsR d l).2 == (needsR d l).2) = true
    simp

/-! ### ZoneClash -/
theorem pick_two {t : List Span} {a b : Int} (h : (pickGo t [] [a, b]).2 = 0) : ∃ x y, pickGo t [] [a, b] = ([x, y], 0) ∧ pickGo t [] [a] = ([x], 0) ∧ pickGo t [] [b] = ([y], 0) := by
  simp only [pickGo, List.nil_append, List.singleton_append] at h ⊢
  by_cases a1 : a < 0
  · rw [decide_eq_true a1] at h; cases h
  rw [decide_eq_false a1, cond_false] at h ⊢
  by_cases a2 : a ≥ (t.length : Int)
  · rw [decide_eq_true a2] at h; cases h
  rw [decide_eq_false a2, cond_false] at h ⊢
  by_cases b1 : b < 0
  · rw [decide_eq_true b1] at h; cases h
  rw [decide_eq_false b1, cond_false] at h ⊢
  by_cases b2 : b ≥ (t.length : Int)
  · rw [decide_eq_true b2] at h; cases h
  rw [decide_eq_false b2, cond_false]
  exact ⟨_, _, rfl, rfl, rfl⟩
theorem spans_two {d : Deck} {a b : Int} (h : (spansS d [a, b]).2 = 0) : ∃ x y, spansS d [a, b] = ([x, y], 0) ∧ spansS d [a] = ([x], 0) ∧ spansS d [b] = ([y], 0) ∧ SpanOk d x ∧ SpanOk d y := by
  have ho := (spans_ok h).2.1
  unfold spansS at h ho ⊢
  cases h1 : (tableS d).2 != 0
  · rw [h1, cond_false] at h ho
    obtain ⟨x, y, e1, e2, e3⟩ := pick_two h
    rw [e1] at ho
    exact ⟨x, y, e1, e2, e3, ho x (by simp), ho y (by simp)⟩
  · rw [h1, cond_true] at h
    have h : (tableS d).2 = 0 := h
    rw [h] at h1; cases h1
theorem both_clash {d : Deck} {x y : Span} (hx : SpanOk d x) (hy : SpanOk d y) : clashS x y = decide ((((lanesS d x).filter fun n => (lanesS d y).elem n).length : Int) > 0) := by
  obtain ⟨x1, x2, x3⟩ := hx
  obtain ⟨y1, y2, y3⟩ := hy
  have ew : sumW d = sumI (boxesP d) + sumI (boxesR d) := rfl
  have key : clashS x y = true ↔ ∃ n, n ∈ (lanesS d x).filter fun n => (lanesS d y).elem n := by
    unfold clashS
    constructor
    · intro h
      by_cases c : x.lo ≤ y.hi
      · rw [decide_eq_true c, cond_true] at h
        have c2 := of_decide_eq_true h
        by_cases c3 : x.lo ≤ y.lo
        · refine ⟨sumW d + y.lo, List.mem_filter.2 ⟨mem_lanes.2 ⟨by omega, by omega⟩, ?_⟩⟩
          exact List.elem_eq_true_of_mem (mem_lanes.2 ⟨by omega, by omega⟩)
        · refine ⟨sumW d + x.lo, List.mem_filter.2 ⟨mem_lanes.2 ⟨by omega, by omega⟩, ?_⟩⟩
          exact List.elem_eq_true_of_mem (mem_lanes.2 ⟨by omega, by omega⟩)
      · rw [decide_eq_false c] at h; cases h
    · rintro ⟨n, hn⟩
      obtain ⟨h1, h2⟩ := List.mem_filter.1 hn
      have h1 := mem_lanes.1 h1
      have h2 := mem_lanes.1 (List.mem_of_elem_eq_true h2)
      rw [decide_eq_true (by omega : x.lo ≤ y.hi), cond_true, decide_eq_true (by omega : y.lo ≤ x.hi)]
  cases hc : clashS x y
  · rw [hc] at key
    have : (lanesS d x).filter (fun n => (lanesS d y).elem n) = [] := by
      refine List.eq_nil_iff_forall_not_mem.2 fun n hn => ?_
      have := key.2 ⟨n, hn⟩
      cases this
    rw [this]; rfl
  · obtain ⟨n, hn⟩ := key.1 hc
    have := List.length_pos_of_mem hn
    rw [decide_eq_true (by omega)]
theorem less_way {d : Deck} {x y : Span} (hx : SpanOk d x) (hy : SpanOk d y) : (eitherS (lanesS d x) (lanesS d y)).filter (fun n => !(lanesS d (wayS x y)).elem n) = [] := by
  refine List.eq_nil_iff_forall_not_mem.2 fun n hn => ?_
  obtain ⟨h1, h2⟩ := List.mem_filter.1 hn
  have h3 : n ∈ lanesS d (wayS x y) := by
    obtain ⟨x1, x2, x3⟩ := hx
    obtain ⟨y1, y2, y3⟩ := hy
    refine mem_lanes.2 ?_
    have w1 : (wayS x y).lo ≤ x.lo ∧ (wayS x y).lo ≤ y.lo ∧ x.hi ≤ (wayS x y).hi ∧ y.hi ≤ (wayS x y).hi := by
      unfold wayS
      by_cases c1 : y.lo < x.lo <;> by_cases c2 : y.hi > x.hi <;> simp only [c1, c2, decide_true, decide_false, cond_true, cond_false] <;> omega
    rcases mem_either.1 h1 with h | h
    · have := mem_lanes.1 h; omega
    · have := mem_lanes.1 h; omega
  rw [List.elem_eq_true_of_mem h3] at h2
  cases h2
theorem lanes_get {d : Deck} {s : Span} {i : Nat} (h : i < (lanesS d s).length) : (lanesS d s)[i] = sumW d + (s.lo + (i : Int)) := by simp [lanesS]
theorem loop12 {d : Deck} {x y : Span} (h0 : deckS d = 0) (hx : SpanOk d x) (hy : SpanOk d y) {A : List Item → AS → Prop} (hA : Closed Try.prog codes sigs2 Try.f12 (pureFin [.bool]) (fun r => r = true) 0 A)
    (i : Nat) (h1 : 1 ≤ i) (hi : i ≤ (lanesS d (wayS x y)).length + 1) : A (hd Try.f12 0) (L12 (clashS x y) (lanesS d (wayS x y)) (lanesS d x) (lanesS d y) i) := by
  have hw := way_ok hx hy
  have hp := lanes_len h0 hw
  have hxl := lanes_len h0 hx
  have hyl := lanes_len h0 hy
  have hD := deck_ok h0
  have e1 := hD.wells
  have e2 := hD.tips
  have e3 := hD.lanes
  have ew : sumW d = sumI (boxesP d) + sumI (boxesR d) := rfl
  obtain ⟨w1, w2, w3⟩ := hw
  refine hA.go (t12a _ _ _ _ i) (sat_bif (fun c => ?_) (fun c => ?_))
  · have c := of_decide_eq_true c
    have hil : i < (lanesS d (wayS x y)).length := by omega
    have e : IntKind.i64.wrap ((i : Int) - 1) = ((i - 1 : Nat) : Int) := by rw [wrap_i64 (by omega) (by omega)]; omega
    rw [e, getD_int hil, getD_int (by omega : i - 1 < (lanesS d (wayS x y)).length), lanes_get, lanes_get]
    have e4 : IntKind.i64.wrap (sumW d + ((wayS x y).lo + ((i - 1 : Nat) : Int)) + 1) = sumW d + ((wayS x y).lo + (i : Int)) := by rw [wrap_i64 (by omega) (by omega)]; omega
    rw [e4, wrap_succ (by omega)]
    exact ⟨⟨⟨by omega, by omega⟩, trivial⟩, ⟨⟨by omega, by omega⟩, trivial⟩, sat_f (by simp) (loop12 h0 hx hy hA (i + 1) (by omega) (by omega))⟩
  · have hel := either_len (a := lanesS d x) (b := lanesS d y)
    refine ⟨⟨T2', T2', trivial⟩, _, c55 (by omega) (by omega), sat_t ?_ ⟨⟨T2', T2', trivial⟩, _, c57 (by omega) (by omega), ⟨T2', T2', trivial⟩, _, c56 (by omega) (by omega), T2', ?_⟩⟩
    · rw [both_clash hx hy]; simp
    · rw [less_way hx hy]; rfl
termination_by (lanesS d (wayS x y)).length + 1 - i
theorem path_len {d : Deck} {a b : Int} : (pathR d a b).1.length ≤ 24 := by
  unfold pathR
  cases h : (spansS d [a, b]).2 != 0
  · have h0 : (spansS d [a, b]).2 = 0 := by simpa using h
    obtain ⟨x, y, e, _, _, hx, hy⟩ := spans_two h0
    rw [cond_false, e]
    exact lanes_len (spans_code h0) (way_ok hx hy)
  · simp
theorem z12 (d : Deck) (a b : Int) : Pure Try.prog 12 [⟨.deck, d⟩, ⟨.int, a⟩, ⟨.int, b⟩] [.bool] true :=
  Pure.of_closed (C := codes) (S := sigs2) mixed Try.func12 (by kernel_rfl) (Nat.le_of_ble_eq_true (by kernel_rfl)) fun A hA => hA.go (t12 d a b) (by
    have hl := path_len (d := d) (a := a) (b := b)
    refine ⟨⟨T5', trivial⟩, _, c37 d, sat_bif (fun _ => ⟨trivial, _, c38, T2', rfl⟩) (fun _ => ⟨⟨T5', T2', T2', trivial⟩, _, c51 d a b, ⟨T5', T2', T2', trivial⟩, _, c52 d a b, ⟨T5', T2', T2', trivial⟩, _, c53 d a b, ⟨T5', T2', T2', trivial⟩, _, c54 d a b, trivial, _, c38, ?_⟩)⟩
    refine sat_f rfl (sat_f (by simp) (sat_f (by simp) ⟨⟨T2', T2', trivial⟩, _, c50 (by omega), sat_f (by simp) (sat_f (by simp) (sat_bif (fun _ => ⟨T2', rfl⟩) (fun h => ?_)))⟩))
    have h0 : (spansS d [a, b]).2 = 0 := by
      unfold clashR at h
      cases hs : (spansS d [a, b]).2 != 0
      · simpa using hs
      · rw [hs, cond_true] at h
        have h : ((spansS d [a, b]).2 != 0) = false := h
        rw [hs] at h; cases h
    obtain ⟨x, y, e, ea, eb, hx, hy⟩ := spans_two h0
    have hd0 := spans_code h0
    have na : needsR d [a] = (lanesS d x, 0) := by
      unfold needsR; rw [ea]; show (needsS d [x], (0 : Int)) = _; rw [needs_one]
    have nb : needsR d [b] = (lanesS d y, 0) := by
      unfold needsR; rw [eb]; show (needsS d [y], (0 : Int)) = _; rw [needs_one]
    have ec : clashR d a b = (clashS x y, 0) := by unfold clashR; rw [e]; rfl
    have ep : pathR d a b = (lanesS d (wayS x y), 0) := by unfold pathR; rw [e]; rfl
    rw [ec, ep]
    refine ⟨⟨T2', trivial⟩, ⟨T5', T2', trivial⟩, _, (c48 (d := d) (l := [a]) (by simp)).eq na, ⟨T2', trivial⟩, ⟨T5', T2', trivial⟩, _, (c48 (d := d) (l := [b]) (by simp)).eq nb, ?_⟩
    exact loop12 hd0 hx hy hA 1 (by omega) (by omega))
end Go.Proofs.Zn

/- The zone's laws, as the frames ask for them. (Own work.) -/
namespace Go.Proofs.Zn
open Go Go.VL
theorem gok {w : World} {K : Nat → Prop} : GOk w K := fun p hp => by
  have hp : p ∈ ([] : List (Nat × Array Value)) := hp
  cases hp
theorem law9 (d : Deck) (i : Int) (_ : wfT .deck d) (_ : wfT .int i) : Pure Try.prog 9 [⟨.deck, d⟩, ⟨.int, i⟩] [.bool] true := z9 d i
theorem law10 (d : Deck) (_ : wfT .deck d) : Pure Try.prog 10 [⟨.deck, d⟩] [.bool] true := z10 d
theorem law11 (d : Deck) (l : List Int) (_ : wfT .deck d) (_ : wfT (.sl .int) l) : Pure Try.prog 11 [⟨.deck, d⟩, ⟨.sl .int, l⟩] [.bool] true := z11 d l
theorem law12 (d : Deck) (a b : Int) (_ : wfT .deck d) (_ : wfT .int a) (_ : wfT .int b) : Pure Try.prog 12 [⟨.deck, d⟩, ⟨.int, a⟩, ⟨.int, b⟩] [.bool] true := z12 d a b
end Go.Proofs.Zn
