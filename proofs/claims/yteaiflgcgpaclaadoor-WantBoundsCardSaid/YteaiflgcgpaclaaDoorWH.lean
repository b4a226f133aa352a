/- Own work: part WH of the proof. -/
import Derived.Test.YteaiflgcgpaclaaDoorWE
import Derived.Test.YteaiflgcgpaclaaDoorWG
import Derived.Test.YteaiflgcgpaclaaDoorWF
import Derived.Test.YteaiflgcgpaclaaDoorWD
import Derived.Test.YteaiflgcgpaclaaDoorRows
import Derived.LaidMore
import Derived.MakeChecks
import Derived.FnData
import Derived.OpenShut
import Derived.ChangeArms
import Derived.ProofKit
set_option linter.unusedVariables false
set_option linter.unusedSimpArgs false
namespace Go.Proofs.Wn
open Go Go.VL

abbrev reqC (r : Req) : List AV := [i64 r.kind, .d (.sl .int r.ids), i64 r.a, i64 r.b, i64 r.ver, u64 r.vol]
abbrev fldC (f : Flds) : List AV := [boolA f.ids, boolA f.a, boolA f.b, boolA f.ver, boolA f.vol]


theorem t67 (r : Req) (f : Flds) : @Eq (Out GRes) (aexec Tryd.prog codes sigs Tryd.f29 (gFin 0) 0 noCut 100 false (bodyOf Tryd.f29) (startG Tryd.f29 [.agg (reqC r), .agg (fldC f)] [] 0)) (.need True (.ret (GRes.mk [.clo (.func 42) [] [.ptr 0 0, .ptr 1 0]] [(0, .box [.d (.v (.int .i64 (Req.kind r))), .d (.sl .int (Req.ids r)), .d (.v (.int .i64 (Req.a r))), .d (.v (.int .i64 (Req.b r))), .d (.v (.int .i64 (Req.ver r))), .d (.v (.int .u64 (Req.vol r)))]), (1, .box [.d (.v (.bool (Flds.ids f))), .d (.v (.bool (Flds.a f))), .d (.v (.bool (Flds.b f))), .d (.v (.bool (Flds.ver f))), .d (.v (.bool (Flds.vol f)))])] 2))) := by kernel_rfl

theorem t18 (d : Deck) (r : Req) : @Eq (Out (TyTup [.resp])) (aexec Tryd.prog codes sigs Tryd.f14 (pureFin [.resp]) 0 noCut 300 false (bodyOf Tryd.f14) (startS Tryd.f14 [⟨.deck, d⟩, ⟨.req, r⟩])) (.need ((True ∧ True ∧ True ∧ True ∧ True) ∧ True) (.callP 23 [⟨.deck, d⟩] [.int] fun (x : Int) => bif x != (0 : Int) then .need ((True ∧ True) ∧ True) (.callP 24 [⟨.int, x⟩] [.resp] fun (x : Resp) => .need (True ∧ True ∧ True ∧ True ∧ True ∧ True) (.ret x)) else .need ((True ∧ True) ∧ True) (.callP 25 [Sigma.mk .int (Req.kind r)] [.flds] fun (x : Flds) => bif decide (Req.kind r < (1 : Int)) then .need ((True ∧ True) ∧ True) (.callP 24 [Sigma.mk .int (150 : Int)] [.resp] fun (x : Resp) => .need (True ∧ True ∧ True ∧ True ∧ True ∧ True) (.ret x)) else bif decide (Req.kind r > (10 : Int)) then .need ((True ∧ True) ∧ True) (.callP 24 [Sigma.mk .int (150 : Int)] [.resp] fun (x : Resp) => .need (True ∧ True ∧ True ∧ True ∧ True ∧ True) (.ret x)) else .need ((True ∧ True ∧ True ∧ True ∧ True ∧ True ∧ True) ∧ True) (.callP 26 [⟨.req, r⟩] [.flds] fun (x_1 : Flds) => .need ((True ∧ True ∧ True ∧ True ∧ True ∧ True) ∧ (True ∧ True ∧ True ∧ True ∧ True ∧ True) ∧ True) (.callP 27 [⟨.flds, x_1⟩, ⟨.flds, x⟩] [.bool] fun (x_2 : Bool) => bif !x_2 then .need ((True ∧ True) ∧ True) (.callP 24 [Sigma.mk .int (151 : Int)] [.resp] fun (x : Resp) => .need (True ∧ True ∧ True ∧ True ∧ True ∧ True) (.ret x)) else bif Flds.ids x then .need ((True ∧ True ∧ True ∧ True ∧ True) ∧ (True ∧ True) ∧ True) (.callP 28 [⟨.deck, d⟩, Sigma.mk (.sl .int) (Req.ids r)] [.resp] fun (x : Resp) => .need (True ∧ True ∧ True ∧ True ∧ True ∧ True) (.ret x)) else .callG 29 [.agg [.d (.v (.int .i64 (Req.kind r))), .d (.sl .int (Req.ids r)), .d (.v (.int .i64 (Req.a r))), .d (.v (.int .i64 (Req.b r))), .d (.v (.int .i64 (Req.ver r))), .d (.v (.int .u64 (Req.vol r)))], .agg [.d (.v (.bool (Flds.ids x))), .d (.v (.bool (Flds.a x))), .d (.v (.bool (Flds.b x))), .d (.v (.bool (Flds.ver x))), .d (.v (.bool (Flds.vol x)))]] [] 0 [] (fun (a : PUnit) => GRes.mk [.clo (.func 42) [] [.ptr 0 0, .ptr 1 0]] [(0, .box [.d (.v (.int .i64 (Req.kind r))), .d (.sl .int (Req.ids r)), .d (.v (.int .i64 (Req.a r))), .d (.v (.int .i64 (Req.b r))), .d (.v (.int .i64 (Req.ver r))), .d (.v (.int .u64 (Req.vol r)))]), (1, .box [.d (.v (.bool (Flds.ids x))), .d (.v (.bool (Flds.a x))), .d (.v (.bool (Flds.b x))), .d (.v (.bool (Flds.ver x))), .d (.v (.bool (Flds.vol x)))])] 2) fun (x_3 : PUnit) => .stop (rf Tryd.f14 0) (mkS 76 [(2, .ptr 0 0), (3, .ptr 1 0), (4, .ptr 2 0), (6, .ptr 3 0), (46, .clo (.func 42) [] [.ptr 4 0, .ptr 5 0]), (47, .d (.v (.tuple (Array.mk [])))), (48, .d (.v (.tuple (Array.mk []))))] [(0, .box [.d (.sl .flt (Deck.borders d)), .d (.sl .plate (Deck.plates d)), .d (.sl .rack (Deck.racks d)), .d (.v (.int .i64 (Deck.arms d)))]), (1, .box [.d (.v (.int .i64 (Req.kind r))), .d (.sl .int (Req.ids r)), .d (.v (.int .i64 (Req.a r))), .d (.v (.int .i64 (Req.b r))), .d (.v (.int .i64 (Req.ver r))), .d (.v (.int .u64 (Req.vol r)))]), (2, .box [.d (.v (.int .i64 (0 : Int))), .d (.v (.int .i64 (0 : Int))), .d (.v (.int .i64 (0 : Int))), .d (.v (.int .i64 (0 : Int))), .d (.v (.slice none 0 0))]), (3, .box [.d (.v (.bool (Flds.ids x))), .d (.v (.bool (Flds.a x))), .d (.v (.bool (Flds.b x))), .d (.v (.bool (Flds.ver x))), .d (.v (.bool (Flds.vol x)))]), (4, .box [.d (.v (.int .i64 (Req.kind r))), .d (.sl .int (Req.ids r)), .d (.v (.int .i64 (Req.a r))), .d (.v (.int .i64 (Req.b r))), .d (.v (.int .i64 (Req.ver r))), .d (.v (.int .u64 (Req.vol r)))]), (5, .box [.d (.v (.bool (Flds.ids x))), .d (.v (.bool (Flds.a x))), .d (.v (.bool (Flds.b x))), .d (.v (.bool (Flds.ver x))), .d (.v (.bool (Flds.vol x)))])] 6)))))) := by kernel_rfl

end Go.Proofs.Wn

namespace Go.Proofs.Wn
open Go Go.VL

def respZ0 : List AV := [i64 0, i64 0, i64 0, i64 0, .d (.v (.slice none 0 0))]
def respC (x : Resp) : List AV := [i64 x.err, i64 x.id, i64 x.n, i64 x.ver, .d (.sl .change x.list)]
def H18 (d : Deck) (r : Req) (f : Flds) (x : List AV) : Heap := [(0, .box (Zn.deckC d)), (1, .box (reqC r)), (2, .box x), (3, .box (fldC f)), (4, .box (reqC r)), (5, .box (fldC f))]
def F129 (l : Nat) (d : Deck) (r : Req) (f : Flds) (x : List AV) : AS := mkS 25 [(0, .clo (.yield l) [] []), (1, .ptr 4 0), (2, .ptr 5 0)] (H18 d r f x) 6
def tm18 : List AV := (mkS 76 [(2, .ptr 0 0), (3, .ptr 1 0), (4, .ptr 2 0), (6, .ptr 3 0), (46, .clo (.func 42) [] [.ptr 4 0, .ptr 5 0]), (47, .d (.v (.tuple #[]))), (48, .d (.v (.tuple #[])))] [] 6).tmps
def R18 (d : Deck) (r : Req) (f : Flds) (i w : Int) (n : Nat) : AS := ⟨(tm18.set 47 (i64 i)).set 48 (i64 w), H18 d r f respZ0, n⟩
def B18 (d : Deck) (r : Req) (f : Flds) (i w : Int) (n : Nat) : AS := mkS 76 [(2, .ptr 0 0), (4, .ptr 2 0), (7, i64 i), (8, i64 w)] (H18 d r f respZ0) n
def K18 (d : Deck) (r : Req) (f : Flds) (x : List AV) (n : Nat) : AS := ⟨tm18, H18 d r f x, n⟩
def rtK (t : List Item) : List Item := .code .ret :: rfK t
def G129 (l : Nat) (d : Deck) (r : Req) (f : Flds) (w : Int) : AS := mkS 25 [(0, .clo (.yield l) [] []), (1, .ptr 4 0), (2, .ptr 5 0), (4, i64 w)] (H18 d r f respZ0) 6
def Y129 (l : Nat) (d : Deck) (r : Req) (f : Flds) (w : Int) : AS := mkS 25 [(0, .clo (.yield l) [] []), (1, .ptr 4 0), (2, .ptr 5 0), (4, i64 w), (8, .ptr 5 1), (9, boolA true), (10, boolA true), (11, .clo (.yield l) [] []), (12, .ptr 4 2), (13, i64 r.a), (14, i64 w)] (H18 d r f respZ0) 6
def Z129 (l : Nat) (d : Deck) (r : Req) (f : Flds) (w : Int) (b : Bool) (n : Nat) (x : List AV) : AS := mkS 25 [(0, .clo (.yield l) [] []), (1, .ptr 4 0), (2, .ptr 5 0), (4, i64 w), (8, .ptr 5 1), (9, boolA true), (10, boolA true), (11, .clo (.yield l) [] []), (12, .ptr 4 2), (13, i64 r.a), (14, i64 w), (15, boolA b)] (H18 d r f x) n
def G129b (l : Nat) (d : Deck) (r : Req) (f : Flds) (w : Int) : AS := mkS 25 [(0, .clo (.yield l) [] []), (1, .ptr 4 0), (4, i64 w)] (H18 d r f respZ0) 6
def W129 (l : Nat) (d : Deck) (r : Req) (f : Flds) (w : Int) (b : Bool) (x : List AV) : AS := mkS 25 [(0, .clo (.yield l) [] []), (1, .ptr 4 0), (4, i64 w), (20, .clo (.yield l) [] []), (21, .ptr 4 3), (22, i64 r.b), (23, i64 w), (24, boolA b)] (H18 d r f x) 46


theorem t129a (l : Nat) (d : Deck) (r : Req) (f : Flds) : @Eq (Out Unit) (aexec Tryd.prog codes sigs Tryd.f42 (fun _ _ => none : Fin Unit) 6 ⟨[3], false⟩ 300 false (bodyOf Tryd.f42) (F129 l d r f respZ0)) (bif Req.kind r == (7 : Int) then .stop (rg Tryd.f42 3) (mkS 25 [(0, .clo (.yield l) [] []), (1, .ptr 4 0), (2, .ptr 5 0), (4, .d (.v (.int .i64 (2 : Int))))] [(0, .box [.d (.sl .flt (Deck.borders d)), .d (.sl .plate (Deck.plates d)), .d (.sl .rack (Deck.racks d)), .d (.v (.int .i64 (Deck.arms d)))]), (1, .box [.d (.v (.int .i64 (Req.kind r))), .d (.sl .int (Req.ids r)), .d (.v (.int .i64 (Req.a r))), .d (.v (.int .i64 (Req.b r))), .d (.v (.int .i64 (Req.ver r))), .d (.v (.int .u64 (Req.vol r)))]), (2, .box [.d (.v (.int .i64 (0 : Int))), .d (.v (.int .i64 (0 : Int))), .d (.v (.int .i64 (0 : Int))), .d (.v (.int .i64 (0 : Int))), .d (.v (.slice none 0 0))]), (3, .box [.d (.v (.bool (Flds.ids f))), .d (.v (.bool (Flds.a f))), .d (.v (.bool (Flds.b f))), .d (.v (.bool (Flds.ver f))), .d (.v (.bool (Flds.vol f)))]), (4, .box [.d (.v (.int .i64 (Req.kind r))), .d (.sl .int (Req.ids r)), .d (.v (.int .i64 (Req.a r))), .d (.v (.int .i64 (Req.b r))), .d (.v (.int .i64 (Req.ver r))), .d (.v (.int .u64 (Req.vol r)))]), (5, .box [.d (.v (.bool (Flds.ids f))), .d (.v (.bool (Flds.a f))), .d (.v (.bool (Flds.b f))), .d (.v (.bool (Flds.ver f))), .d (.v (.bool (Flds.vol f)))])] 6) else .stop (rg Tryd.f42 3) (mkS 25 [(0, .clo (.yield l) [] []), (1, .ptr 4 0), (2, .ptr 5 0), (4, .d (.v (.int .i64 (1 : Int))))] [(0, .box [.d (.sl .flt (Deck.borders d)), .d (.sl .plate (Deck.plates d)), .d (.sl .rack (Deck.racks d)), .d (.v (.int .i64 (Deck.arms d)))]), (1, .box [.d (.v (.int .i64 (Req.kind r))), .d (.sl .int (Req.ids r)), .d (.v (.int .i64 (Req.a r))), .d (.v (.int .i64 (Req.b r))), .d (.v (.int .i64 (Req.ver r))), .d (.v (.int .u64 (Req.vol r)))]), (2, .box [.d (.v (.int .i64 (0 : Int))), .d (.v (.int .i64 (0 : Int))), .d (.v (.int .i64 (0 : Int))), .d (.v (.int .i64 (0 : Int))), .d (.v (.slice none 0 0))]), (3, .box [.d (.v (.bool (Flds.ids f))), .d (.v (.bool (Flds.a f))), .d (.v (.bool (Flds.b f))), .d (.v (.bool (Flds.ver f))), .d (.v (.bool (Flds.vol f)))]), (4, .box [.d (.v (.int .i64 (Req.kind r))), .d (.sl .int (Req.ids r)), .d (.v (.int .i64 (Req.a r))), .d (.v (.int .i64 (Req.b r))), .d (.v (.int .i64 (Req.ver r))), .d (.v (.int .u64 (Req.vol r)))]), (5, .box [.d (.v (.bool (Flds.ids f))), .d (.v (.bool (Flds.a f))), .d (.v (.bool (Flds.b f))), .d (.v (.bool (Flds.ver f))), .d (.v (.bool (Flds.vol f)))])] 6)) := by kernel_rfl

theorem t129b (l : Nat) (d : Deck) (r : Req) (fi fb fv fl : Bool) (w : Int) : @Eq (Out Unit) (aexec Tryd.prog codes sigs Tryd.f42 (fun _ _ => none : Fin Unit) 6 ⟨[5], true⟩ 300 true (rg Tryd.f42 3) (G129 l d r ⟨fi, true, fb, fv, fl⟩ w)) (.stop (inR Tryd.f42 3 7) (mkS 25 [(0, .clo (.yield l) [] []), (1, .ptr 4 0), (2, .ptr 5 0), (4, .d (.v (.int .i64 w))), (8, .ptr 5 1), (9, .d (.v (.bool true))), (10, .d (.v (.bool true))), (11, .clo (.yield l) [] []), (12, .ptr 4 2), (13, .d (.v (.int .i64 (Req.a r)))), (14, .d (.v (.int .i64 w)))] [(0, .box [.d (.sl .flt (Deck.borders d)), .d (.sl .plate (Deck.plates d)), .d (.sl .rack (Deck.racks d)), .d (.v (.int .i64 (Deck.arms d)))]), (1, .box [.d (.v (.int .i64 (Req.kind r))), .d (.sl .int (Req.ids r)), .d (.v (.int .i64 (Req.a r))), .d (.v (.int .i64 (Req.b r))), .d (.v (.int .i64 (Req.ver r))), .d (.v (.int .u64 (Req.vol r)))]), (2, .box [.d (.v (.int .i64 (0 : Int))), .d (.v (.int .i64 (0 : Int))), .d (.v (.int .i64 (0 : Int))), .d (.v (.int .i64 (0 : Int))), .d (.v (.slice none 0 0))]), (3, .box [.d (.v (.bool fi)), .d (.v (.bool true)), .d (.v (.bool fb)), .d (.v (.bool fv)), .d (.v (.bool fl))]), (4, .box [.d (.v (.int .i64 (Req.kind r))), .d (.sl .int (Req.ids r)), .d (.v (.int .i64 (Req.a r))), .d (.v (.int .i64 (Req.b r))), .d (.v (.int .i64 (Req.ver r))), .d (.v (.int .u64 (Req.vol r)))]), (5, .box [.d (.v (.bool fi)), .d (.v (.bool true)), .d (.v (.bool fb)), .d (.v (.bool fv)), .d (.v (.bool fl))])] 6)) := by kernel_rfl

theorem t129c (l : Nat) (d : Deck) (r : Req) (fi fb fv fl : Bool) (w : Int) : @Eq (Out Unit) (aexec Tryd.prog codes sigs Tryd.f42 (fun _ _ => none : Fin Unit) 6 ⟨[5], true⟩ 300 true (rg Tryd.f42 3) (G129 l d r ⟨fi, false, false, fv, fl⟩ w)) (.stop [] (mkS 25 [] [(0, .box [.d (.sl .flt (Deck.borders d)), .d (.sl .plate (Deck.plates d)), .d (.sl .rack (Deck.racks d)), .d (.v (.int .i64 (Deck.arms d)))]), (1, .box [.d (.v (.int .i64 (Req.kind r))), .d (.sl .int (Req.ids r)), .d (.v (.int .i64 (Req.a r))), .d (.v (.int .i64 (Req.b r))), .d (.v (.int .i64 (Req.ver r))), .d (.v (.int .u64 (Req.vol r)))]), (2, .box [.d (.v (.int .i64 (0 : Int))), .d (.v (.int .i64 (0 : Int))), .d (.v (.int .i64 (0 : Int))), .d (.v (.int .i64 (0 : Int))), .d (.v (.slice none 0 0))]), (3, .box [.d (.v (.bool fi)), .d (.v (.bool false)), .d (.v (.bool false)), .d (.v (.bool fv)), .d (.v (.bool fl))]), (4, .box [.d (.v (.int .i64 (Req.kind r))), .d (.sl .int (Req.ids r)), .d (.v (.int .i64 (Req.a r))), .d (.v (.int .i64 (Req.b r))), .d (.v (.int .i64 (Req.ver r))), .d (.v (.int .u64 (Req.vol r)))]), (5, .box [.d (.v (.bool fi)), .d (.v (.bool false)), .d (.v (.bool false)), .d (.v (.bool fv)), .d (.v (.bool fl))])] 6)) := by kernel_rfl

theorem t129d (l : Nat) (d : Deck) (r : Req) (fi fb fv fl : Bool) (w : Int) : @Eq (Out Unit) (aexec Tryd.prog codes sigs Tryd.f42 (fun _ _ => none : Fin Unit) 6 ⟨[5], true⟩ 300 true (inR Tryd.f42 3 8) (Z129 l d r ⟨fi, true, fb, fv, fl⟩ w true 86 respZ0)) (bif fb then .stop (rg Tryd.f42 5) (mkS 25 [(0, .clo (.yield l) [] []), (1, .ptr 4 0), (4, .d (.v (.int .i64 w)))] [(0, .box [.d (.sl .flt (Deck.borders d)), .d (.sl .plate (Deck.plates d)), .d (.sl .rack (Deck.racks d)), .d (.v (.int .i64 (Deck.arms d)))]), (1, .box [.d (.v (.int .i64 (Req.kind r))), .d (.sl .int (Req.ids r)), .d (.v (.int .i64 (Req.a r))), .d (.v (.int .i64 (Req.b r))), .d (.v (.int .i64 (Req.ver r))), .d (.v (.int .u64 (Req.vol r)))]), (2, .box [.d (.v (.int .i64 (0 : Int))), .d (.v (.int .i64 (0 : Int))), .d (.v (.int .i64 (0 : Int))), .d (.v (.int .i64 (0 : Int))), .d (.v (.slice none 0 0))]), (3, .box [.d (.v (.bool fi)), .d (.v (.bool true)), .d (.v (.bool fb)), .d (.v (.bool fv)), .d (.v (.bool fl))]), (4, .box [.d (.v (.int .i64 (Req.kind r))), .d (.sl .int (Req.ids r)), .d (.v (.int .i64 (Req.a r))), .d (.v (.int .i64 (Req.b r))), .d (.v (.int .i64 (Req.ver r))), .d (.v (.int .u64 (Req.vol r)))]), (5, .box [.d (.v (.bool fi)), .d (.v (.bool true)), .d (.v (.bool fb)), .d (.v (.bool fv)), .d (.v (.bool fl))])] 6) else .stop [] (mkS 25 [] [(0, .box [.d (.sl .flt (Deck.borders d)), .d (.sl .plate (Deck.plates d)), .d (.sl .rack (Deck.racks d)), .d (.v (.int .i64 (Deck.arms d)))]), (1, .box [.d (.v (.int .i64 (Req.kind r))), .d (.sl .int (Req.ids r)), .d (.v (.int .i64 (Req.a r))), .d (.v (.int .i64 (Req.b r))), .d (.v (.int .i64 (Req.ver r))), .d (.v (.int .u64 (Req.vol r)))]), (2, .box [.d (.v (.int .i64 (0 : Int))), .d (.v (.int .i64 (0 : Int))), .d (.v (.int .i64 (0 : Int))), .d (.v (.int .i64 (0 : Int))), .d (.v (.slice none 0 0))]), (3, .box [.d (.v (.bool fi)), .d (.v (.bool true)), .d (.v (.bool fb)), .d (.v (.bool fv)), .d (.v (.bool fl))]), (4, .box [.d (.v (.int .i64 (Req.kind r))), .d (.sl .int (Req.ids r)), .d (.v (.int .i64 (Req.a r))), .d (.v (.int .i64 (Req.b r))), .d (.v (.int .i64 (Req.ver r))), .d (.v (.int .u64 (Req.vol r)))]), (5, .box [.d (.v (.bool fi)), .d (.v (.bool true)), .d (.v (.bool fb)), .d (.v (.bool fv)), .d (.v (.bool fl))])] 6)) := by kernel_rfl

theorem t129e (l : Nat) (d : Deck) (r : Req) (fi fb fv fl : Bool) (w : Int) (x : Resp) : @Eq (Out Unit) (aexec Tryd.prog codes sigs Tryd.f42 (fun _ _ => none : Fin Unit) 6 ⟨[5], true⟩ 300 true (inR Tryd.f42 3 8) (Z129 l d r ⟨fi, true, fb, fv, fl⟩ w false 86 (respC x))) (.stop (rt Tryd.f42 0) (mkS 25 [] [(0, .box [.d (.sl .flt (Deck.borders d)), .d (.sl .plate (Deck.plates d)), .d (.sl .rack (Deck.racks d)), .d (.v (.int .i64 (Deck.arms d)))]), (1, .box [.d (.v (.int .i64 (Req.kind r))), .d (.sl .int (Req.ids r)), .d (.v (.int .i64 (Req.a r))), .d (.v (.int .i64 (Req.b r))), .d (.v (.int .i64 (Req.ver r))), .d (.v (.int .u64 (Req.vol r)))]), (2, .box [.d (.v (.int .i64 (Resp.err x))), .d (.v (.int .i64 (Resp.id x))), .d (.v (.int .i64 (Resp.n x))), .d (.v (.int .i64 (Resp.ver x))), .d (.sl .change (Resp.list x))]), (3, .box [.d (.v (.bool fi)), .d (.v (.bool true)), .d (.v (.bool fb)), .d (.v (.bool fv)), .d (.v (.bool fl))]), (4, .box [.d (.v (.int .i64 (Req.kind r))), .d (.sl .int (Req.ids r)), .d (.v (.int .i64 (Req.a r))), .d (.v (.int .i64 (Req.b r))), .d (.v (.int .i64 (Req.ver r))), .d (.v (.int .u64 (Req.vol r)))]), (5, .box [.d (.v (.bool fi)), .d (.v (.bool true)), .d (.v (.bool fb)), .d (.v (.bool fv)), .d (.v (.bool fl))])] 6)) := by kernel_rfl

theorem t129g (l : Nat) (d : Deck) (r : Req) (f : Flds) (w : Int) (x : Resp) : @Eq (Out Unit) (aexec Tryd.prog codes sigs Tryd.f42 (fun _ _ => none : Fin Unit) 6 ⟨[5], true⟩ 300 true (inR Tryd.f42 5 5) (W129 l d r f w false (respC x))) (.stop [] (mkS 25 [] [(0, .box [.d (.sl .flt (Deck.borders d)), .d (.sl .plate (Deck.plates d)), .d (.sl .rack (Deck.racks d)), .d (.v (.int .i64 (Deck.arms d)))]), (1, .box [.d (.v (.int .i64 (Req.kind r))), .d (.sl .int (Req.ids r)), .d (.v (.int .i64 (Req.a r))), .d (.v (.int .i64 (Req.b r))), .d (.v (.int .i64 (Req.ver r))), .d (.v (.int .u64 (Req.vol r)))]), (2, .box [.d (.v (.int .i64 (Resp.err x))), .d (.v (.int .i64 (Resp.id x))), .d (.v (.int .i64 (Resp.n x))), .d (.v (.int .i64 (Resp.ver x))), .d (.sl .change (Resp.list x))]), (3, .box [.d (.v (.bool (Flds.ids f))), .d (.v (.bool (Flds.a f))), .d (.v (.bool (Flds.b f))), .d (.v (.bool (Flds.ver f))), .d (.v (.bool (Flds.vol f)))]), (4, .box [.d (.v (.int .i64 (Req.kind r))), .d (.sl .int (Req.ids r)), .d (.v (.int .i64 (Req.a r))), .d (.v (.int .i64 (Req.b r))), .d (.v (.int .i64 (Req.ver r))), .d (.v (.int .u64 (Req.vol r)))]), (5, .box [.d (.v (.bool (Flds.ids f))), .d (.v (.bool (Flds.a f))), .d (.v (.bool (Flds.b f))), .d (.v (.bool (Flds.ver f))), .d (.v (.bool (Flds.vol f)))])] 6)) := by kernel_rfl

theorem t129h (l : Nat) (d : Deck) (r : Req) (f : Flds) (w : Int) : @Eq (Out Unit) (aexec Tryd.prog codes sigs Tryd.f42 (fun _ _ => none : Fin Unit) 6 ⟨[5], true⟩ 300 true (inR Tryd.f42 5 5) (W129 l d r f w true respZ0)) (.stop [] (mkS 25 [] [(0, .box [.d (.sl .flt (Deck.borders d)), .d (.sl .plate (Deck.plates d)), .d (.sl .rack (Deck.racks d)), .d (.v (.int .i64 (Deck.arms d)))]), (1, .box [.d (.v (.int .i64 (Req.kind r))), .d (.sl .int (Req.ids r)), .d (.v (.int .i64 (Req.a r))), .d (.v (.int .i64 (Req.b r))), .d (.v (.int .i64 (Req.ver r))), .d (.v (.int .u64 (Req.vol r)))]), (2, .box [.d (.v (.int .i64 (0 : Int))), .d (.v (.int .i64 (0 : Int))), .d (.v (.int .i64 (0 : Int))), .d (.v (.int .i64 (0 : Int))), .d (.v (.slice none 0 0))]), (3, .box [.d (.v (.bool (Flds.ids f))), .d (.v (.bool (Flds.a f))), .d (.v (.bool (Flds.b f))), .d (.v (.bool (Flds.ver f))), .d (.v (.bool (Flds.vol f)))]), (4, .box [.d (.v (.int .i64 (Req.kind r))), .d (.sl .int (Req.ids r)), .d (.v (.int .i64 (Req.a r))), .d (.v (.int .i64 (Req.b r))), .d (.v (.int .i64 (Req.ver r))), .d (.v (.int .u64 (Req.vol r)))]), (5, .box [.d (.v (.bool (Flds.ids f))), .d (.v (.bool (Flds.a f))), .d (.v (.bool (Flds.b f))), .d (.v (.bool (Flds.ver f))), .d (.v (.bool (Flds.vol f)))])] 6)) := by kernel_rfl

theorem t129f (l : Nat) (d : Deck) (r : Req) (f : Flds) (w : Int) : @Eq (Out Unit) (aexec Tryd.prog codes sigs Tryd.f42 (fun _ _ => none : Fin Unit) 6 ⟨[5], true⟩ 300 true (rg Tryd.f42 5) (G129b l d r f w)) (.stop (inR Tryd.f42 5 4) (mkS 25 [(0, .clo (.yield l) [] []), (1, .ptr 4 0), (4, .d (.v (.int .i64 w))), (20, .clo (.yield l) [] []), (21, .ptr 4 3), (22, .d (.v (.int .i64 (Req.b r)))), (23, .d (.v (.int .i64 w)))] [(0, .box [.d (.sl .flt (Deck.borders d)), .d (.sl .plate (Deck.plates d)), .d (.sl .rack (Deck.racks d)), .d (.v (.int .i64 (Deck.arms d)))]), (1, .box [.d (.v (.int .i64 (Req.kind r))), .d (.sl .int (Req.ids r)), .d (.v (.int .i64 (Req.a r))), .d (.v (.int .i64 (Req.b r))), .d (.v (.int .i64 (Req.ver r))), .d (.v (.int .u64 (Req.vol r)))]), (2, .box [.d (.v (.int .i64 (0 : Int))), .d (.v (.int .i64 (0 : Int))), .d (.v (.int .i64 (0 : Int))), .d (.v (.int .i64 (0 : Int))), .d (.v (.slice none 0 0))]), (3, .box [.d (.v (.bool (Flds.ids f))), .d (.v (.bool (Flds.a f))), .d (.v (.bool (Flds.b f))), .d (.v (.bool (Flds.ver f))), .d (.v (.bool (Flds.vol f)))]), (4, .box [.d (.v (.int .i64 (Req.kind r))), .d (.sl .int (Req.ids r)), .d (.v (.int .i64 (Req.a r))), .d (.v (.int .i64 (Req.b r))), .d (.v (.int .i64 (Req.ver r))), .d (.v (.int .u64 (Req.vol r)))]), (5, .box [.d (.v (.bool (Flds.ids f))), .d (.v (.bool (Flds.a f))), .d (.v (.bool (Flds.b f))), .d (.v (.bool (Flds.ver f))), .d (.v (.bool (Flds.vol f)))])] 6)) := by kernel_rfl

theorem t18r (d : Deck) (r : Req) (f : Flds) (i w : Int) : @Eq (Out Unit) (aexec Tryd.prog codes sigs Tryd.f14 (fun _ _ => none : Fin Unit) 86 ⟨[], true⟩ 300 true (rd Tryd.f14 0) (R18 d r f i w 86)) (.stop (rb Tryd.f14 0) (mkS 76 [(2, .ptr 0 0), (4, .ptr 2 0), (7, .d (.v (.int .i64 i))), (8, .d (.v (.int .i64 w)))] [(0, .box [.d (.sl .flt (Deck.borders d)), .d (.sl .plate (Deck.plates d)), .d (.sl .rack (Deck.racks d)), .d (.v (.int .i64 (Deck.arms d)))]), (1, .box [.d (.v (.int .i64 (Req.kind r))), .d (.sl .int (Req.ids r)), .d (.v (.int .i64 (Req.a r))), .d (.v (.int .i64 (Req.b r))), .d (.v (.int .i64 (Req.ver r))), .d (.v (.int .u64 (Req.vol r)))]), (2, .box [.d (.v (.int .i64 (0 : Int))), .d (.v (.int .i64 (0 : Int))), .d (.v (.int .i64 (0 : Int))), .d (.v (.int .i64 (0 : Int))), .d (.v (.slice none 0 0))]), (3, .box [.d (.v (.bool (Flds.ids f))), .d (.v (.bool (Flds.a f))), .d (.v (.bool (Flds.b f))), .d (.v (.bool (Flds.ver f))), .d (.v (.bool (Flds.vol f)))]), (4, .box [.d (.v (.int .i64 (Req.kind r))), .d (.sl .int (Req.ids r)), .d (.v (.int .i64 (Req.a r))), .d (.v (.int .i64 (Req.b r))), .d (.v (.int .i64 (Req.ver r))), .d (.v (.int .u64 (Req.vol r)))]), (5, .box [.d (.v (.bool (Flds.ids f))), .d (.v (.bool (Flds.a f))), .d (.v (.bool (Flds.b f))), .d (.v (.bool (Flds.ver f))), .d (.v (.bool (Flds.vol f)))])] 86)) := by kernel_rfl

theorem t18s (d : Deck) (r : Req) (f : Flds) (i w : Int) : @Eq (Out Unit) (aexec Tryd.prog codes sigs Tryd.f14 (fun _ _ => none : Fin Unit) 46 ⟨[], true⟩ 300 true (rd Tryd.f14 0) (R18 d r f i w 46)) (.stop (rb Tryd.f14 0) (mkS 76 [(2, .ptr 0 0), (4, .ptr 2 0), (7, .d (.v (.int .i64 i))), (8, .d (.v (.int .i64 w)))] [(0, .box [.d (.sl .flt (Deck.borders d)), .d (.sl .plate (Deck.plates d)), .d (.sl .rack (Deck.racks d)), .d (.v (.int .i64 (Deck.arms d)))]), (1, .box [.d (.v (.int .i64 (Req.kind r))), .d (.sl .int (Req.ids r)), .d (.v (.int .i64 (Req.a r))), .d (.v (.int .i64 (Req.b r))), .d (.v (.int .i64 (Req.ver r))), .d (.v (.int .u64 (Req.vol r)))]), (2, .box [.d (.v (.int .i64 (0 : Int))), .d (.v (.int .i64 (0 : Int))), .d (.v (.int .i64 (0 : Int))), .d (.v (.int .i64 (0 : Int))), .d (.v (.slice none 0 0))]), (3, .box [.d (.v (.bool (Flds.ids f))), .d (.v (.bool (Flds.a f))), .d (.v (.bool (Flds.b f))), .d (.v (.bool (Flds.ver f))), .d (.v (.bool (Flds.vol f)))]), (4, .box [.d (.v (.int .i64 (Req.kind r))), .d (.sl .int (Req.ids r)), .d (.v (.int .i64 (Req.a r))), .d (.v (.int .i64 (Req.b r))), .d (.v (.int .i64 (Req.ver r))), .d (.v (.int .u64 (Req.vol r)))]), (5, .box [.d (.v (.bool (Flds.ids f))), .d (.v (.bool (Flds.a f))), .d (.v (.bool (Flds.b f))), .d (.v (.bool (Flds.ver f))), .d (.v (.bool (Flds.vol f)))])] 46)) := by kernel_rfl

theorem t18c (d : Deck) (r : Req) (f : Flds) (i w : Int) : @Eq (Out Unit) (aexec Tryd.prog codes sigs Tryd.f14 (fun _ _ => none : Fin Unit) 86 ⟨[], true⟩ 300 true (List.tail (rb Tryd.f14 0)) (B18 d r f i w 86)) (.need ((True ∧ True ∧ True ∧ True ∧ True) ∧ (True ∧ True) ∧ True) (.callP 30 [⟨.deck, d⟩, ⟨.int, i⟩] [.int] fun (x : Int) => bif x != w then .need ((True ∧ True) ∧ (True ∧ True) ∧ True) (.callP 31 [Sigma.mk .int (3 : Int), ⟨.int, i⟩] [.resp] fun (x : Resp) => .stop [Item.code Code.ret, Item.inBlock 2] (mkS 76 [(4, .ptr 2 0)] [(0, .box [.d (.sl .flt (Deck.borders d)), .d (.sl .plate (Deck.plates d)), .d (.sl .rack (Deck.racks d)), .d (.v (.int .i64 (Deck.arms d)))]), (1, .box [.d (.v (.int .i64 (Req.kind r))), .d (.sl .int (Req.ids r)), .d (.v (.int .i64 (Req.a r))), .d (.v (.int .i64 (Req.b r))), .d (.v (.int .i64 (Req.ver r))), .d (.v (.int .u64 (Req.vol r)))]), (2, .box [.d (.v (.int .i64 (Resp.err x))), .d (.v (.int .i64 (Resp.id x))), .d (.v (.int .i64 (Resp.n x))), .d (.v (.int .i64 (Resp.ver x))), .d (.sl .change (Resp.list x))]), (3, .box [.d (.v (.bool (Flds.ids f))), .d (.v (.bool (Flds.a f))), .d (.v (.bool (Flds.b f))), .d (.v (.bool (Flds.ver f))), .d (.v (.bool (Flds.vol f)))]), (4, .box [.d (.v (.int .i64 (Req.kind r))), .d (.sl .int (Req.ids r)), .d (.v (.int .i64 (Req.a r))), .d (.v (.int .i64 (Req.b r))), .d (.v (.int .i64 (Req.ver r))), .d (.v (.int .u64 (Req.vol r)))]), (5, .box [.d (.v (.bool (Flds.ids f))), .d (.v (.bool (Flds.a f))), .d (.v (.bool (Flds.b f))), .d (.v (.bool (Flds.ver f))), .d (.v (.bool (Flds.vol f)))])] 86)) else .stop [] (mkS 76 [(4, .ptr 2 0)] [(0, .box [.d (.sl .flt (Deck.borders d)), .d (.sl .plate (Deck.plates d)), .d (.sl .rack (Deck.racks d)), .d (.v (.int .i64 (Deck.arms d)))]), (1, .box [.d (.v (.int .i64 (Req.kind r))), .d (.sl .int (Req.ids r)), .d (.v (.int .i64 (Req.a r))), .d (.v (.int .i64 (Req.b r))), .d (.v (.int .i64 (Req.ver r))), .d (.v (.int .u64 (Req.vol r)))]), (2, .box [.d (.v (.int .i64 (0 : Int))), .d (.v (.int .i64 (0 : Int))), .d (.v (.int .i64 (0 : Int))), .d (.v (.int .i64 (0 : Int))), .d (.v (.slice none 0 0))]), (3, .box [.d (.v (.bool (Flds.ids f))), .d (.v (.bool (Flds.a f))), .d (.v (.bool (Flds.b f))), .d (.v (.bool (Flds.ver f))), .d (.v (.bool (Flds.vol f)))]), (4, .box [.d (.v (.int .i64 (Req.kind r))), .d (.sl .int (Req.ids r)), .d (.v (.int .i64 (Req.a r))), .d (.v (.int .i64 (Req.b r))), .d (.v (.int .i64 (Req.ver r))), .d (.v (.int .u64 (Req.vol r)))]), (5, .box [.d (.v (.bool (Flds.ids f))), .d (.v (.bool (Flds.a f))), .d (.v (.bool (Flds.b f))), .d (.v (.bool (Flds.ver f))), .d (.v (.bool (Flds.vol f)))])] 86))) := by kernel_rfl

theorem t18d (d : Deck) (r : Req) (f : Flds) (i w : Int) : @Eq (Out Unit) (aexec Tryd.prog codes sigs Tryd.f14 (fun _ _ => none : Fin Unit) 46 ⟨[], true⟩ 300 true (List.tail (rb Tryd.f14 0)) (B18 d r f i w 46)) (.need ((True ∧ True ∧ True ∧ True ∧ True) ∧ (True ∧ True) ∧ True) (.callP 30 [⟨.deck, d⟩, ⟨.int, i⟩] [.int] fun (x : Int) => bif x != w then .need ((True ∧ True) ∧ (True ∧ True) ∧ True) (.callP 31 [Sigma.mk .int (3 : Int), ⟨.int, i⟩] [.resp] fun (x : Resp) => .stop [Item.code Code.ret, Item.inBlock 2] (mkS 76 [(4, .ptr 2 0)] [(0, .box [.d (.sl .flt (Deck.borders d)), .d (.sl .plate (Deck.plates d)), .d (.sl .rack (Deck.racks d)), .d (.v (.int .i64 (Deck.arms d)))]), (1, .box [.d (.v (.int .i64 (Req.kind r))), .d (.sl .int (Req.ids r)), .d (.v (.int .i64 (Req.a r))), .d (.v (.int .i64 (Req.b r))), .d (.v (.int .i64 (Req.ver r))), .d (.v (.int .u64 (Req.vol r)))]), (2, .box [.d (.v (.int .i64 (Resp.err x))), .d (.v (.int .i64 (Resp.id x))), .d (.v (.int .i64 (Resp.n x))), .d (.v (.int .i64 (Resp.ver x))), .d (.sl .change (Resp.list x))]), (3, .box [.d (.v (.bool (Flds.ids f))), .d (.v (.bool (Flds.a f))), .d (.v (.bool (Flds.b f))), .d (.v (.bool (Flds.ver f))), .d (.v (.bool (Flds.vol f)))]), (4, .box [.d (.v (.int .i64 (Req.kind r))), .d (.sl .int (Req.ids r)), .d (.v (.int .i64 (Req.a r))), .d (.v (.int .i64 (Req.b r))), .d (.v (.int .i64 (Req.ver r))), .d (.v (.int .u64 (Req.vol r)))]), (5, .box [.d (.v (.bool (Flds.ids f))), .d (.v (.bool (Flds.a f))), .d (.v (.bool (Flds.b f))), .d (.v (.bool (Flds.ver f))), .d (.v (.bool (Flds.vol f)))])] 46)) else .stop [] (mkS 76 [(4, .ptr 2 0)] [(0, .box [.d (.sl .flt (Deck.borders d)), .d (.sl .plate (Deck.plates d)), .d (.sl .rack (Deck.racks d)), .d (.v (.int .i64 (Deck.arms d)))]), (1, .box [.d (.v (.int .i64 (Req.kind r))), .d (.sl .int (Req.ids r)), .d (.v (.int .i64 (Req.a r))), .d (.v (.int .i64 (Req.b r))), .d (.v (.int .i64 (Req.ver r))), .d (.v (.int .u64 (Req.vol r)))]), (2, .box [.d (.v (.int .i64 (0 : Int))), .d (.v (.int .i64 (0 : Int))), .d (.v (.int .i64 (0 : Int))), .d (.v (.int .i64 (0 : Int))), .d (.v (.slice none 0 0))]), (3, .box [.d (.v (.bool (Flds.ids f))), .d (.v (.bool (Flds.a f))), .d (.v (.bool (Flds.b f))), .d (.v (.bool (Flds.ver f))), .d (.v (.bool (Flds.vol f)))]), (4, .box [.d (.v (.int .i64 (Req.kind r))), .d (.sl .int (Req.ids r)), .d (.v (.int .i64 (Req.a r))), .d (.v (.int .i64 (Req.b r))), .d (.v (.int .i64 (Req.ver r))), .d (.v (.int .u64 (Req.vol r)))]), (5, .box [.d (.v (.bool (Flds.ids f))), .d (.v (.bool (Flds.a f))), .d (.v (.bool (Flds.b f))), .d (.v (.bool (Flds.ver f))), .d (.v (.bool (Flds.vol f)))])] 46))) := by kernel_rfl

theorem t18k (d : Deck) (r : Req) (f : Flds) (n : Nat) : @Eq (Out (TyTup [.resp])) (aexec Tryd.prog codes sigs Tryd.f14 (pureFin [.resp]) 6 noCut 300 true (rfK (rf Tryd.f14 0)) (K18 d r f respZ0 n)) (bif Flds.b f then bif Req.a r == Req.b r then .need ((True ∧ True) ∧ True) (.callP 24 [Sigma.mk .int (1 : Int)] [.resp] fun (x : Resp) => .need (True ∧ True ∧ True ∧ True ∧ True ∧ True) (.ret x)) else bif Flds.vol f then .need ((True ∧ True ∧ True ∧ True ∧ True ∧ True ∧ True) ∧ True) (.callP 12 [⟨.req, r⟩] [.int, .int] fun (x : Int × Int) => .need ((True ∧ True) ∧ True) (.callP 24 [Sigma.mk .int (Prod.snd x)] [.resp] fun (x : Resp) => .need (True ∧ True ∧ True ∧ True ∧ True ∧ True) (.ret x))) else .need (True ∧ True ∧ True ∧ True ∧ True ∧ True) (.ret (Resp.mk (0 : Int) (0 : Int) (0 : Int) (0 : Int) [])) else bif Flds.vol f then .need ((True ∧ True ∧ True ∧ True ∧ True ∧ True ∧ True) ∧ True) (.callP 12 [⟨.req, r⟩] [.int, .int] fun (x : Int × Int) => .need ((True ∧ True) ∧ True) (.callP 24 [Sigma.mk .int (Prod.snd x)] [.resp] fun (x : Resp) => .need (True ∧ True ∧ True ∧ True ∧ True ∧ True) (.ret x))) else .need (True ∧ True ∧ True ∧ True ∧ True ∧ True) (.ret (Resp.mk (0 : Int) (0 : Int) (0 : Int) (0 : Int) []))) := by kernel_rfl

theorem t18q (d : Deck) (r : Req) (f : Flds) (x : Resp) (n : Nat) : @Eq (Out (TyTup [.resp])) (aexec Tryd.prog codes sigs Tryd.f14 (pureFin [.resp]) 6 noCut 300 true (rtK (rf Tryd.f14 0)) (K18 d r f (respC x) n)) (.need (True ∧ True ∧ True ∧ True ∧ True ∧ True) (.ret x)) := by kernel_rfl

end Go.Proofs.Wn

/- A request held against the deck: want.Check. (Own work.) -/
namespace Go.Proofs.Wn
open Go Go.VL
open Zn (zoneS)

theorem c67 (r : Req) (f : Flds) : Gc Tryd.prog 29 [.agg (reqC r), .agg (fldC f)] [] 0 (partsOut [.agg (reqC r), .agg (fldC f)] [] ()) :=
  Gc.of_closed (C := codes) (S := sigs) mixed Tryd.func29 (by kernel_rfl) (fun i T t ys hi _ => absurd hi (Nat.not_lt_zero _)) fun A hA =>
    hA.go (t67 r f) ⟨trivial, .of_eq rfl⟩

/-- What the parts of a request must be. -/
def wantK (r : Req) : Int := bif r.kind == 7 then 2 else 1
def endR (r : Req) (f : Flds) : Resp := bif f.b && r.a == r.b then errR 1 0 else bif f.vol then errR (volS r).2 0 else errR 0 0
def partsR (d : Deck) (r : Req) (f : Flds) : Resp := bif f.a && (kindS d r.a != wantK r) then errR 3 r.a else bif f.b && (kindS d r.b != wantK r) then errR 3 r.b else endR r f
def checkR (d : Deck) (r : Req) : Resp := bif zoneS d != 0 then errR (zoneS d) 0 else bif decide (r.kind < 1) || decide (r.kind > 10) then errR 150 0 else bif !withinS (hasS r) (flS r.kind) then errR 151 0 else bif (flS r.kind).ids then batchS d r.ids else partsR d r (flS r.kind)

theorem rowsH {d : Deck} {r : Req} {f : Flds} {x : List AV} {H : Heap} {n : Nat} : RowsLe n H (H18 d r f x) := by
  intro i T t xs hi hx
  match i, hx with
  | 0, hx => cases hx
  | 1, hx => cases hx
  | 2, hx => cases hx
  | 3, hx => cases hx
  | 4, hx => cases hx
  | 5, hx => cases hx
  | i + 6, hx => cases hx

/-! ### the call of the loop's body -/
def yOK (todo : List Item) (dst yt a b : Tmp) : Bool := match opOf todo with
  | some o => (o.dst == some dst) && (match callIn o with
    | some (.tmp y, args) => (match args.toList with
      | [.tmp z, .tmp u] => y == yt && (z == a && u == b)
      | _ => false)
    | _ => false)
  | none => false
theorem of_yOK {todo : List Item} {dst yt a b : Tmp} (h : yOK todo dst yt a b = true) : ∃ o args, opOf todo = some o ∧ o.dst = some dst ∧ callIn o = some (.tmp yt, args) ∧ args.toList = [.tmp a, .tmp b] := by
  unfold yOK at h
  split at h
  · rename_i o ho
    simp only [Bool.and_eq_true] at h
    obtain ⟨hd, hc⟩ := h
    split at hc
    · rename_i y args hcall
      split at hc
      · rename_i z u hz
        simp only [Bool.and_eq_true, beq_iff_eq] at hc
        obtain ⟨rfl, rfl, rfl⟩ := hc
        exact ⟨o, args, ho, by simpa using hd, hcall, hz⟩
      · cases hc
    · cases hc
  · cases h
def wOK (todo : List Item) (s : AS) : Bool := match opOf todo with
  | some o => wantedB (inOps todo) o s
  | none => false

abbrev GG (l : Nat) (d : Deck) (r : Req) (f : Flds) (done : Heap → Nat → Prop) (doneJ : Code → Heap → Nat → Prop) (A : List Item → AS → Prop) : Prop :=
  ClG Tryd.prog codes sigs Tryd.f42 Tryd.f14 6 l (H18 d r f respZ0) (rfP (rf Tryd.f14 0)) (rfA (rf Tryd.f14 0)) (rfB (rf Tryd.f14 0)) tm18 done doneJ A

/-- One round. -/
theorem yld {l : Nat} {d : Deck} {r : Req} {f : Flds} {i w : Int} {done : Heap → Nat → Prop} {doneJ : Code → Heap → Nat → Prop} {A : List Item → AS → Prop}
    (hG : GG l d r f done doneJ A) (todo : List Item) (tm : List AV) (dst yt a b : Tmp) (n : Nat) (hn : 6 + 8 * (inOps todo).size = n) (hin : inOk todo = true) (hy : yOK todo dst yt a b = true) (hw : wOK todo ⟨tm, H18 d r f respZ0, 6⟩ = true)
    (hev : tm.getD yt .dead = .clo (.yield l) [] []) (hea : tm.getD a .dead = i64 i) (heb : tm.getD b .dead = i64 w)
    (h18 : ∀ Ar, ClB Tryd.prog codes sigs Tryd.f14 n (fun s2 => RowsLe n (H18 d r f respZ0) s2.H ∧ A (inNext todo) ⟨tm.set dst (boolA true), s2.H, s2.next⟩)
      (fun j s2 => RowsLe n (H18 d r f respZ0) s2.H ∧ ∀ Ad, ClD Tryd.prog codes sigs Tryd.f42 6 (doneJ j) Ad → Ad (inNext todo) ⟨tm.set dst (boolA false), s2.H, s2.next⟩) Ar → Ar (rd Tryd.f14 0) (R18 d r f i w n)) : A todo ⟨tm, H18 d r f respZ0, 6⟩ := by
  obtain ⟨o, args, ho, hds, hc, ha⟩ := of_yOK hy
  have hsz : args.size = (rfP (rf Tryd.f14 0)).size := by
    have e1 : args.size = 2 := by rw [← Array.length_toList, ha]; rfl
    have e2 : (rfP (rf Tryd.f14 0)).size = 2 := by kernel_rfl
    rw [e1, e2]
  have hg : wantedB (inOps todo) o ⟨tm, H18 d r f respZ0, 6⟩ = true := by
    unfold wOK at hw; rw [ho] at hw; exact hw
  refine hG.at todo ⟨tm, H18 d r f respZ0, 6⟩ o (.tmp yt) args hin ho hg hc hev hsz rowsH (Nat.le_refl _) (fun Ar hAr => ?_)
  rw [ha]
  have e2 : [Operand.tmp a, Operand.tmp b].map (⟨tm, H18 d r f respZ0, 6⟩ : AS).ev = [i64 i, i64 w] := by rw [← hea, ← heb]; rfl
  have e3 : putTs tm18 (rfP (rf Tryd.f14 0)).toList [i64 i, i64 w] = (R18 d r f i w n).tmps := by kernel_rfl
  rw [e2, e3]
  rw [hds] at hAr
  subst hn
  exact h18 Ar hAr

theorem yld86 {l : Nat} {d : Deck} {r : Req} {f : Flds} {i w : Int} {done : Heap → Nat → Prop} {doneJ : Code → Heap → Nat → Prop} {A : List Item → AS → Prop}
    (hG : GG l d r f done doneJ A) (todo : List Item) (tm : List AV) (dst yt a b : Tmp) (hn : 6 + 8 * (inOps todo).size = 86) (hin : inOk todo = true) (hy : yOK todo dst yt a b = true) (hw : wOK todo ⟨tm, H18 d r f respZ0, 6⟩ = true)
    (hev : tm.getD yt .dead = .clo (.yield l) [] []) (hea : tm.getD a .dead = i64 i) (heb : tm.getD b .dead = i64 w)
    (hgood : kindS d i = w → A (inNext todo) ⟨tm.set dst (boolA true), H18 d r f respZ0, 86⟩)
    (hbad : kindS d i ≠ w → ∀ Ad, ClD Tryd.prog codes sigs Tryd.f42 6 (doneJ .ret) Ad → Ad (inNext todo) ⟨tm.set dst (boolA false), H18 d r f (respC (errR 3 i)), 86⟩) : A todo ⟨tm, H18 d r f respZ0, 6⟩ := by
  refine yld hG todo tm dst yt a b 86 hn hin hy hw hev hea heb (fun Ar hAr => hAr.cl.go (t18r d r f i w) ?_)
  show Ar (.beginRound :: [.code (rfB (rf Tryd.f14 0))]) (B18 d r f i w 86)
  refine hAr.begin' _ _ (fun A3 hA3 => hA3.cl.go (t18c d r f i w) ⟨⟨Zn.T5', T2', trivial⟩, _, c68 d i, sat_bif (fun h => ⟨⟨T2', T2', trivial⟩, _, c69 3 i, ?_⟩) (fun h => ?_)⟩)
  · exact hA3.ret _ _ ⟨rowsH (x := respC (errR 3 i)), hbad (by simpa using h)⟩
  · exact hA3.fine _ ⟨rowsH (x := respZ0), hgood (by simpa using h)⟩

theorem yld46 {l : Nat} {d : Deck} {r : Req} {f : Flds} {i w : Int} {done : Heap → Nat → Prop} {doneJ : Code → Heap → Nat → Prop} {A : List Item → AS → Prop}
    (hG : GG l d r f done doneJ A) (todo : List Item) (tm : List AV) (dst yt a b : Tmp) (hn : 6 + 8 * (inOps todo).size = 46) (hin : inOk todo = true) (hy : yOK todo dst yt a b = true) (hw : wOK todo ⟨tm, H18 d r f respZ0, 6⟩ = true)
    (hev : tm.getD yt .dead = .clo (.yield l) [] []) (hea : tm.getD a .dead = i64 i) (heb : tm.getD b .dead = i64 w)
    (hgood : kindS d i = w → A (inNext todo) ⟨tm.set dst (boolA true), H18 d r f respZ0, 46⟩)
    (hbad : kindS d i ≠ w → ∀ Ad, ClD Tryd.prog codes sigs Tryd.f42 6 (doneJ .ret) Ad → Ad (inNext todo) ⟨tm.set dst (boolA false), H18 d r f (respC (errR 3 i)), 46⟩) : A todo ⟨tm, H18 d r f respZ0, 6⟩ := by
  refine yld hG todo tm dst yt a b 46 hn hin hy hw hev hea heb (fun Ar hAr => hAr.cl.go (t18s d r f i w) ?_)
  show Ar (.beginRound :: [.code (rfB (rf Tryd.f14 0))]) (B18 d r f i w 46)
  refine hAr.begin' _ _ (fun A3 hA3 => hA3.cl.go (t18d d r f i w) ⟨⟨Zn.T5', T2', trivial⟩, _, c68 d i, sat_bif (fun h => ⟨⟨T2', T2', trivial⟩, _, c69 3 i, ?_⟩) (fun h => ?_)⟩)
  · exact hA3.ret _ _ ⟨rowsH (x := respC (errR 3 i)), hbad (by simpa using h)⟩
  · exact hA3.fine _ ⟨rowsH (x := respZ0), hgood (by simpa using h)⟩

theorem run129 {l : Nat} {d : Deck} {r : Req} {f : Flds} (hab : f.b = true → f.a = true) {done : Heap → Nat → Prop} {doneJ : Code → Heap → Nat → Prop} {A : List Item → AS → Prop} (hG : GG l d r f done doneJ A)
    (hok : (f.a && (kindS d r.a != wantK r)) = false → (f.b && (kindS d r.b != wantK r)) = false → done (H18 d r f respZ0) 6)
    (hba : (f.a && (kindS d r.a != wantK r)) = true → doneJ .ret (H18 d r f (respC (errR 3 r.a))) 6)
    (hbb : (f.a && (kindS d r.a != wantK r)) = false → (f.b && (kindS d r.b != wantK r)) = true → doneJ .ret (H18 d r f (respC (errR 3 r.b))) 6) : A (bodyOf Tryd.f42) (F129 l d r f respZ0) := by
  have key : ∀ w, w = wantK r → A (rg Tryd.f42 3) (G129 l d r f w) := by
    intro w hw
    obtain ⟨fi, fa, fb, fv, fl⟩ := f
    cases fa with
    | false => cases fb with
      | true => exact absurd (show false = true from hab rfl) (by decide)
      | false => exact hG.cl.go (t129c l d r fi false fv fl w) (hG.ret [] _ (.inl rfl) (hok rfl rfl))
    | true =>
      refine hG.cl.go (t129b l d r fi fb fv fl w) ?_
      refine yld86 (i := r.a) (w := w) hG (inR Tryd.f42 3 7) _ 15 11 13 14 (by kernel_rfl) (by kernel_rfl) (by kernel_rfl) (by kernel_rfl) (by kernel_rfl) (by kernel_rfl) (by kernel_rfl) (fun hk => ?_) (fun hk Ad hAd => ?_)
      · have ha : (kindS d r.a != wantK r) = false := by rw [hk, hw]; simp
        refine hG.cl.go (t129d l d r fi fb fv fl w) ?_
        cases fb with
        | false => exact hG.ret [] _ (.inl rfl) (hok ha rfl)
        | true =>
          refine hG.cl.go (t129f l d r ⟨fi, true, true, fv, fl⟩ w) ?_
          refine yld46 (i := r.b) (w := w) hG (inR Tryd.f42 5 4) _ 24 20 22 23 (by kernel_rfl) (by kernel_rfl) (by kernel_rfl) (by kernel_rfl) (by kernel_rfl) (by kernel_rfl) (by kernel_rfl) (fun hk2 => ?_) (fun hk2 Ad hAd => ?_)
          · have hb : (kindS d r.b != wantK r) = false := by rw [hk2, hw]; simp
            exact hG.cl.go (t129h l d r ⟨fi, true, true, fv, fl⟩ w) (hG.ret [] _ (.inl rfl) (hok ha hb))
          · have hb : (kindS d r.b != wantK r) = true := by rw [← hw]; simpa using hk2
            exact hAd.cl.go (t129g l d r ⟨fi, true, true, fv, fl⟩ w (errR 3 r.b)) (hAd.ret [] _ (.inl rfl) (hbb ha hb))
      · have ha : (kindS d r.a != wantK r) = true := by rw [← hw]; simpa using hk
        refine hAd.cl.go (t129e l d r fi fb fv fl w (errR 3 r.a)) (hAd.ret (rt Tryd.f42 0) _ (.inr ⟨List.tail (rt Tryd.f42 0), by kernel_rfl⟩) (hba ha))
  exact hG.cl.go (t129a l d r f) (sat_bif (fun h => key 2 (by unfold wantK; rw [h]; rfl)) (fun h => key 1 (by unfold wantK; rw [h]; rfl)))

theorem fl_ab (k : Int) : (flS k).b = true → (flS k).a = true := by
  unfold flS
  generalize (k == 1) = b1
  generalize (k == 2) = b2
  generalize (k == 4) = b4
  generalize (k == 5) = b5
  generalize (k == 6) = b6
  generalize (k == 7) = b7
  generalize (k == 9) = b9
  generalize (k == 10) = b10
  revert b1 b2 b4 b5 b6 b7 b9 b10
  decide
abbrev T7' : True ∧ True ∧ True ∧ True ∧ True ∧ True ∧ True := ⟨trivial, trivial, trivial, trivial, trivial, trivial, trivial⟩
theorem end18 {d : Deck} {r : Req} (h0 : 0 ≤ r.vol) (hv : r.vol < 18446744073709551616) (f : Flds) {A2 : List Item → AS → Prop} {y : Resp} (hy : endR r f = y) (hA2 : Closed Tryd.prog codes sigs Tryd.f14 (pureFin [.resp]) (fun x => x = y) 6 A2) (m : Nat) : A2 (rfK (rf Tryd.f14 0)) ⟨tm18, H18 d r f respZ0, m⟩ := by
  show A2 (rfK (rf Tryd.f14 0)) (K18 d r f respZ0 m)
  refine hA2.go (t18k d r f m) ?_
  unfold endR at hy
  refine sat_bif (fun h => ?_) (fun h => ?_)
  · rw [h] at hy
    refine sat_bif (fun h2 => ?_) (fun h2 => ?_)
    · rw [h2] at hy; exact ⟨⟨T2', trivial⟩, _, c62 1, T6', hy⟩
    · rw [h2] at hy
      refine sat_bif (fun h3 => ?_) (fun h3 => ?_)
      · rw [h3] at hy; exact ⟨⟨T7', trivial⟩, _, c15 h0 hv, ⟨T2', trivial⟩, _, c62 _, T6', hy⟩
      · rw [h3] at hy; exact ⟨T6', hy⟩
  · rw [h] at hy
    refine sat_bif (fun h3 => ?_) (fun h3 => ?_)
    · rw [h3] at hy; exact ⟨⟨T7', trivial⟩, _, c15 h0 hv, ⟨T2', trivial⟩, _, c62 _, T6', hy⟩
    · rw [h3] at hy; exact ⟨T6', hy⟩
theorem rf18 {d : Deck} {r : Req} (h0 : 0 ≤ r.vol) (hv : r.vol < 18446744073709551616) {f : Flds} (hab : f.b = true → f.a = true) {y : Resp} (hy : partsR d r f = y) {A : List Item → AS → Prop} (hA : ClosedR Tryd.prog codes sigs Tryd.f14 (pureFin [.resp]) (fun x => x = y) 0 A) : A (rf Tryd.f14 0) (K18 d r f respZ0 6) := by
  obtain ⟨gc, hgc⟩ : ∃ gc, Tryd.f42.body = some gc := Option.isSome_iff_exists.1 (by kernel_rfl)
  refine hA.at (rf Tryd.f14 0) (K18 d r f respZ0 6) 42 Tryd.f42 gc [] [.ptr 4 0, .ptr 5 0] (by kernel_rfl) (by kernel_rfl) Tryd.func42 hgc (by kernel_rfl) (by kernel_rfl) (Nat.zero_le _) (fun l A' hG => ?_)
  have e1 : (F129 l d r f respZ0).tmps = .clo (.yield l) [] [] :: .ptr 4 0 :: .ptr 5 0 :: List.replicate 22 .dead := by kernel_rfl
  have e2 : ([] ++ .clo (.yield l) [] [] :: [.ptr 4 0, .ptr 5 0] ++ List.replicate (Tryd.f42.ntmps - (([] : List AV).length + 1 + [AV.ptr 4 0, AV.ptr 5 0].length)) (.d (.v undef)) : List AV) = .clo (.yield l) [] [] :: .ptr 4 0 :: .ptr 5 0 :: List.replicate 22 (.d (.v undef)) := by kernel_rfl
  rw [e2]
  refine hG.cl.le (bodyOf Tryd.f42) _ (F129 l d r f respZ0) (by kernel_rfl) ⟨by rw [e1]; rfl, ?_, ?_, Nat.le_refl _⟩ ?_
  · intro i a c ha hc
    rw [e1] at hc
    match i with
    | 0 => cases ha; cases hc; exact .refl _ _
    | 1 => cases ha; cases hc; exact .refl _ _
    | 2 => cases ha; cases hc; exact .refl _ _
    | i + 3 =>
      have hc : (List.replicate 22 AV.dead)[i]? = some c := hc
      rw [List.getElem?_replicate] at hc
      split at hc
      · cases hc; exact .dead _ _
      · cases hc
  · intro k b' hb'
    refine ⟨b', hb', .refl _ _⟩
  refine run129 hab hG (fun h1 h2 => ⟨rowsH, fun A2 hA2 => ?_⟩) (fun h1 => ⟨rowsH, fun A2 hA2 => ?_⟩) (fun h1 h2 => ⟨rowsH, fun A2 hA2 => ?_⟩)
  · exact end18 h0 hv f (y := y) (by rw [← hy, partsR, h1, h2]; rfl) hA2 6
  · show A2 (rtK (rf Tryd.f14 0)) (K18 d r f (respC (errR 3 r.a)) 6)
    exact Closed.go hA2 (t18q d r f (errR 3 r.a) 6) ⟨T6', by rw [← hy, partsR, h1]; rfl⟩
  · show A2 (rtK (rf Tryd.f14 0)) (K18 d r f (respC (errR 3 r.b)) 6)
    exact Closed.go hA2 (t18q d r f (errR 3 r.b) 6) ⟨T6', by rw [← hy, partsR, h1, h2]; rfl⟩
theorem c18 {d : Deck} {r : Req} (h0 : 0 ≤ r.vol) (hv : r.vol < 18446744073709551616) : Pure Tryd.prog 14 [⟨.deck, d⟩, ⟨.req, r⟩] [.resp] (checkR d r) :=
  Pure.of_closedR (C := codes) (S := sigs) mixed Tryd.func14 (by kernel_rfl) (Nat.le_of_ble_eq_true (by kernel_rfl)) fun A hA => hA.cl.go (t18 d r) (by
    have hy : ∃ y, checkR d r = y := ⟨_, rfl⟩
    obtain ⟨y, hy⟩ := hy
    rw [hy] at hA ⊢
    unfold checkR at hy
    refine ⟨⟨Zn.T5', trivial⟩, _, Zn.c47 d, sat_bif (fun h => ?_) (fun h => ?_)⟩
    · rw [h] at hy; exact ⟨⟨T2', trivial⟩, _, c62 _, T6', hy⟩
    rw [h] at hy
    refine ⟨⟨T2', trivial⟩, _, c63 _, sat_bif (fun h1 => ?_) (fun h1 => ?_)⟩
    · rw [h1] at hy; exact ⟨⟨T2', trivial⟩, _, c62 _, T6', hy⟩
    rw [h1] at hy
    refine sat_bif (fun h2 => ?_) (fun h2 => ?_)
    · rw [h2] at hy; exact ⟨⟨T2', trivial⟩, _, c62 _, T6', hy⟩
    rw [h2] at hy
    refine ⟨⟨T7', trivial⟩, _, c64 r, ⟨T6', T6', trivial⟩, _, c65 _ _, sat_bif (fun h3 => ?_) (fun h3 => ?_)⟩
    · rw [h3] at hy; exact ⟨⟨T2', trivial⟩, _, c62 _, T6', hy⟩
    rw [h3] at hy
    refine sat_bif (fun h4 => ?_) (fun h4 => ?_)
    · rw [h4] at hy; exact ⟨⟨Zn.T5', T2', trivial⟩, _, c66 d r.ids, T6', hy⟩
    rw [h4] at hy
    exact ⟨(), c67 r (flS r.kind), rf18 h0 hv (fl_ab r.kind) hy hA⟩)
end Go.Proofs.Wn

namespace Go.Proofs.Wn
open Go Go.VL

def H19 (d : Deck) (r : Req) (f : Flds) : Heap := [(0, .box (Zn.deckC d)), (1, .box (reqC r)), (2, .box [i64 0, i64 0, i64 0, i64 0, .d (.v (.slice none 0 0))]), (3, .box (fldC f))]
def C19 (d : Deck) (r : Req) (f : Flds) : AS := mkS 132 [(2, .ptr 0 0), (3, .ptr 1 0), (4, .ptr 2 0), (6, .ptr 3 0)] (H19 d r f) 4
def D19 (d : Deck) (r : Req) (f : Flds) (w : Int) : AS := mkS 132 [(2, .ptr 0 0), (3, .ptr 1 0), (4, .ptr 2 0), (6, .ptr 3 0), (7, i64 w)] (H19 d r f) 4
def E19 (r : Req) (f : Flds) : AS := mkS 132 [(3, .ptr 0 0), (4, .ptr 1 0), (6, .ptr 2 0)] [(0, .box (reqC r)), (1, .box [i64 0, i64 0, i64 0, i64 0, .d (.v (.slice none 0 0))]), (2, .box (fldC f))] 3


end Go.Proofs.Wn

/- A request held against the deck: the other Check. (Own work.) -/
namespace Go.Proofs.Wn
open Go Go.VL
open Zn (zoneS)

theorem fl_b (k : Int) : (flS k).b = true → (k == 7) = false := by
  intro h
  cases h7 : k == 7 with
  | false => rfl
  | true =>
    have : k = 7 := by simpa using h7
    subst this
    exact absurd h (by decide)

def patS : List Flds := [⟨true, false, false, false, false⟩, ⟨false, true, true, false, true⟩, ⟨false, true, false, false, true⟩, ⟨false, true, false, false, false⟩, ⟨false, true, false, true, false⟩, ⟨false, false, false, false, false⟩]
theorem fl_pat (k : Int) : flS k ∈ patS := by
  unfold flS
  generalize (k == 1) = b1
  generalize (k == 2) = b2
  generalize (k == 4) = b4
  generalize (k == 5) = b5
  generalize (k == 6) = b6
  generalize (k == 7) = b7
  generalize (k == 9) = b9
  generalize (k == 10) = b10
  revert b1 b2 b4 b5 b6 b7 b9 b10
  decide
theorem w_ids {g f : Flds} (h : g.ids = true) (h2 : f.ids = false) : withinS g f = false := by
  unfold withinS; rw [h, h2]; simp
theorem w_a {g f : Flds} (h : g.a = true) (h2 : f.a = false) : withinS g f = false := by
  unfold withinS; rw [h, h2]; simp
theorem w_b {g f : Flds} (h : g.b = true) (h2 : f.b = false) : withinS g f = false := by
  unfold withinS; rw [h, h2]; simp
theorem w_ver {g f : Flds} (h : g.ver = true) (h2 : f.ver = false) : withinS g f = false := by
  unfold withinS; rw [h, h2]; simp
theorem w_vol {g f : Flds} (h : g.vol = true) (h2 : f.vol = false) : withinS g f = false := by
  unfold withinS; rw [h, h2]; simp
theorem w_t {g f : Flds} (h1 : g.ids = false ∨ f.ids = true) (h2 : g.a = false ∨ f.a = true) (h3 : g.b = false ∨ f.b = true) (h4 : g.ver = false ∨ f.ver = true) (h5 : g.vol = false ∨ f.vol = true) : withinS g f = true := by
  unfold withinS
  rcases h1 with h | h <;> rw [h] <;> rcases h2 with h | h <;> rw [h] <;> rcases h3 with h | h <;> rw [h] <;> rcases h4 with h | h <;> rw [h] <;> rcases h5 with h | h <;> rw [h] <;> simp
theorem c13 (d : Deck) (r : Req) : Pure Tryd.prog 4 [⟨.deck, d⟩, ⟨.req, r⟩] [.bool] (bif Zn.largeS d then true else decide ((r.ids.length : Int) > 100)) := ofT Tryd.func4 (t13 d r) (by kernel_rfl) (by kernel_rfl) fun _ => ⟨⟨Zn.T5', trivial⟩, _, Zn.c37 d, by
  cases Zn.largeS d <;> exact ⟨T2', rfl⟩⟩
end Go.Proofs.Wn

/- What a request must lock: contracts. (Own work.) -/
namespace Go.Proofs.Wn
open Go Go.VL Go.Proofs.Zn

theorem path_rise (d : Deck) (a b : Int) : Rise (pathR d a b).1 := by
  unfold pathR
  cases (spansS d [a, b]).2 != 0
  · exact lanes_rise _ _
  · exact .nil
theorem needR_rise (d : Deck) (l : List Int) : Rise (needsR d l).1 := by
  unfold needsR
  cases (spansS d l).2 != 0
  · exact needs_rise _ _
  · exact .nil
theorem path_len (d : Deck) (a b : Int) : (pathR d a b).1.length ≤ 24 := by
  unfold pathR
  cases h : (spansS d [a, b]).2 != 0
  · have h0 : (spansS d [a, b]).2 = 0 := by simpa using h
    obtain ⟨g1, g2, g3⟩ := spans_ok h0
    obtain ⟨x, y, e⟩ := two_some g3
    rw [e] at g2 ⊢
    exact lanes_len (spans_code h0) (way_ok (g2 x (by simp)) (g2 y (by simp)))
  · simp
theorem needR_len (d : Deck) (a : Int) : (needsR d [a]).1.length ≤ 24 := by
  unfold needsR
  cases h : (spansS d [a]).2 != 0
  · have h0 : (spansS d [a]).2 = 0 := by simpa using h
    obtain ⟨g1, g2, g3⟩ := spans_ok h0
    have := needs_len (spans_code h0) (l := (spansS d [a]).1) g2 []
    have h3 : (spansS d [a]).1.length = 1 := g3
    rw [h3] at this
    exact this
  · simp
theorem either_two {l : List Int} (hl : Rise l) (a b : Int) : eitherS l (setS [a, b]) = putS (putS l a) b := by
  refine rise_ext (either_rise hl) (put_rise (put_rise hl)) fun n => ?_
  rw [mem_either, mem_set, mem_put, mem_put]
  simp only [List.mem_cons, List.not_mem_nil, or_false]
  constructor
  · rintro (h | h | h)
    · exact .inr (.inr h)
    · exact .inr (.inl h)
    · exact .inl h
  · rintro (h | h | h)
    · exact .inr (.inr h)
    · exact .inr (.inl h)
    · exact .inl h
theorem one_rise (a : Int) : Rise [a] := put_rise (l := []) .nil
theorem either_one (l : List Int) (a : Int) : eitherS l [a] = putS l a := rfl

def mustS (d : Deck) (r : Req) : List Int := bif r.kind == 2 then setS r.ids else bif r.kind == 4 then putS (putS (pathR d r.a r.b).1 r.a) r.b else bif r.kind == 5 then putS (needsR d [r.a]).1 r.a else bif r.kind == 6 then putS (needsR d [r.a]).1 r.a else bif r.kind == 7 then putS (needsR d [r.a]).1 r.a else []
def mustR (d : Deck) (r : Req) : List Int := bif (checkR d r).err != 0 then [] else mustS d r
def locksR (d : Deck) (r : Req) (o : List Int) (h : Int) : List Int := bif (checkR d r).err != 0 then [] else bif r.kind == 1 then setS r.ids else bif r.kind == 3 then setS o else bif r.kind == 8 then (bif decide (h < 0) then [] else [h]) else bif r.kind == 9 then [r.a] else bif r.kind == 10 then [r.a] else mustS d r

theorem c75 {d : Deck} {r : Req} (h0 : 0 ≤ r.vol) (hv : r.vol < 18446744073709551616) : Pure Tryd.prog 16 [⟨.deck, d⟩, ⟨.req, r⟩] [.bool] ((checkR d r).err == 0) := ofT Tryd.func16 (t75 d r) (by kernel_rfl) (by kernel_rfl) fun _ => ⟨⟨Zn.T5', T7', trivial⟩, _, c18 h0 hv, T2', rfl⟩

theorem along_one {l : List Int} (hl : Rise l) (a : Int) : alongS true true true l [a] = putS l a := along_either hl (one_rise a)
theorem along_two {l : List Int} (hl : Rise l) (a b : Int) : alongS true true true l (setS [a, b]) = putS (putS l a) b := by rw [along_either hl (set_rise _), either_two hl]
theorem c76 {d : Deck} {r : Req} (hl : r.ids.length ≤ 1000) : Pure Tryd.prog 17 [⟨.deck, d⟩, ⟨.req, r⟩] [.sl .int] (mustS d r) :=
  ofT Tryd.func17 (t76 d r) (by kernel_rfl) (by kernel_rfl) fun _ => by
    unfold mustS
    have l1 := path_len d r.a r.b
    have l2 := needR_len d r.a
    have k (y : List Int) (hy : y = putS (needsR d [r.a]).1 r.a) : Pure Tryd.prog 33 [⟨.sl .int, (needsR d [r.a]).1⟩, ⟨.sl .int, [r.a]⟩] [.sl .int] y := hy ▸ (c147 (a := (needsR d [r.a]).1) (b := [r.a]) (by omega) (by simp)).eq (along_one (needR_rise d [r.a]) r.a)
    refine sat_bif (fun h => ?_) (fun h => ?_)
    · rw [h]; exact ⟨⟨T2', trivial⟩, _, c129 (by omega), T2', rfl⟩
    rw [h, cond_false]
    refine sat_bif (fun h => ?_) (fun h => ?_)
    · rw [h]; exact ⟨⟨Zn.T5', T2', T2', trivial⟩, _, c53 d r.a r.b, ⟨T2', T2', trivial⟩, ⟨T2', trivial⟩, _, c129 (by simp), ⟨T2', T2', trivial⟩, _, (c147 (by omega) (by have := either_len (a := []) (b := [r.a, r.b]); simp only [List.length_cons, List.length_nil] at this; show (eitherS [] [r.a, r.b]).length ≤ 400000; omega)).eq (along_two (path_rise d r.a r.b) r.a r.b), T2', rfl⟩
    rw [h, cond_false]
    refine sat_bif (fun h => ?_) (fun h => ?_)
    · refine sat_t h ?_
      rw [h]; exact ⟨⟨T2', trivial⟩, ⟨Zn.T5', T2', trivial⟩, _, c48 (by simp), ⟨T2', trivial⟩, ⟨T2', T2', trivial⟩, _, k _ rfl, T2', rfl⟩
    rw [h, cond_false]
    refine sat_bif (fun h => ?_) (fun h => ?_)
    · refine sat_t h ?_
      rw [h]; exact ⟨⟨T2', trivial⟩, ⟨Zn.T5', T2', trivial⟩, _, c48 (by simp), ⟨T2', trivial⟩, ⟨T2', T2', trivial⟩, _, k _ rfl, T2', rfl⟩
    rw [h, cond_false]
    refine sat_bif (fun h => ?_) (fun h => ?_)
    · rw [h]; exact ⟨⟨T2', trivial⟩, ⟨Zn.T5', T2', trivial⟩, _, c48 (by simp), ⟨T2', trivial⟩, ⟨T2', T2', trivial⟩, _, k _ rfl, T2', rfl⟩
    · rw [h]; exact ⟨T2', rfl⟩

theorem not_eq (e : Int) : (!(e == 0)) = (e != 0) := rfl
theorem c21 {d : Deck} {r : Req} (h0 : 0 ≤ r.vol) (hv : r.vol < 18446744073709551616) (hl : r.ids.length ≤ 1000) : Pure Tryd.prog 6 [⟨.deck, d⟩, ⟨.req, r⟩] [.sl .int] (mustR d r) :=
  ofT Tryd.func6 (t21 d r) (by kernel_rfl) (by kernel_rfl) fun _ => by
    refine ⟨⟨Zn.T5', T7', trivial⟩, _, c75 h0 hv, ?_⟩
    unfold mustR
    refine sat_bif (fun h => ?_) (fun h => ?_)
    · have h : ((checkR d r).err != 0) = true := h
      rw [h]; exact ⟨T2', rfl⟩
    · have h : ((checkR d r).err != 0) = false := h
      rw [h]; exact ⟨⟨Zn.T5', T7', trivial⟩, _, c76 hl, T2', rfl⟩
theorem c23 {d : Deck} {r : Req} {o : List Int} {g : Int} (h0 : 0 ≤ r.vol) (hv : r.vol < 18446744073709551616) (hl : r.ids.length ≤ 1000) (ho : o.length ≤ 1000) : Pure Tryd.prog 7 [⟨.deck, d⟩, ⟨.req, r⟩, ⟨.sl .int, o⟩, ⟨.int, g⟩] [.sl .int] (locksR d r o g) :=
  ofT Tryd.func7 (t23 d r o g) (by kernel_rfl) (by kernel_rfl) fun _ => by
    refine ⟨⟨Zn.T5', T7', trivial⟩, _, c75 h0 hv, ?_⟩
    unfold locksR
    refine sat_bif (fun h => ?_) (fun h => ?_)
    · have h : ((checkR d r).err != 0) = true := h
      rw [h]; exact ⟨T2', rfl⟩
    have he : ((checkR d r).err != 0) = false := h
    rw [he, cond_false]
    refine sat_bif (fun h => ?_) (fun h => ?_)
    · rw [h]; exact ⟨⟨T2', trivial⟩, _, c129 (by omega), T2', rfl⟩
    rw [h, cond_false]
    refine sat_bif (fun h => ?_) (fun h => ?_)
    · rw [h]; exact ⟨⟨T2', trivial⟩, _, c129 (by omega), T2', rfl⟩
    rw [h, cond_false]
    refine sat_bif (fun h => ?_) (fun h => ?_)
    · rw [h, cond_true]
      refine sat_bif (fun h => ?_) (fun h => ?_)
      · rw [h]; exact ⟨T2', rfl⟩
      · rw [h]; exact ⟨⟨T2', trivial⟩, T2', rfl⟩
    rw [h, cond_false]
    refine sat_bif (fun h => ?_) (fun h => ?_)
    · refine sat_t h ?_
      rw [h]; exact ⟨⟨T2', trivial⟩, T2', rfl⟩
    rw [h, cond_false]
    refine sat_bif (fun h => ?_) (fun h => ?_)
    · rw [h]; exact ⟨⟨T2', trivial⟩, T2', rfl⟩
    · rw [h]; exact ⟨⟨Zn.T5', T7', trivial⟩, _, c76 hl, T2', rfl⟩
theorem must_ok {d : Deck} {r : Req} (h : ((checkR d r).err != 0) = false) : mustR d r = mustS d r := by unfold mustR; rw [h]; rfl
end Go.Proofs.Wn

namespace Go.Proofs.Wn
open Go Go.VL

def L14 (d : Deck) (x y : Int) (l : List Int) : AS := mkS 56 [(1, .ptr 0 0), (2, .ptr 1 0), (3, i64 x), (4, i64 y), (5, .d (.sl .int l))] [(0, .box (Zn.deckC d)), (1, .box [i64 5, .d (.v (.slice none 0 0)), i64 0, i64 0, i64 0, u64 4607182418800017408])] 2


theorem t14 : @Eq (Out (TyTup [.bool])) (aexec Tryd.prog codes sigs Tryd.f5 (pureFin [.bool]) 0 ⟨[5], false⟩ 300 false (bodyOf Tryd.f5) (startS Tryd.f5 [])) (.need True (.callP 11 [] [.deck] fun (x : Deck) => .need ((True ∧ True ∧ True ∧ True ∧ True ∧ True ∧ True) ∧ True) (.callP 12 [Sigma.mk .req (Req.mk (5 : Int) [] (0 : Int) (0 : Int) (0 : Int) (4607182418800017408 : Int))] [.int, .int] fun (x_1 : Int × Int) => .need ((True ∧ True ∧ True ∧ True ∧ True) ∧ (True ∧ True ∧ True ∧ True ∧ True ∧ True ∧ True) ∧ True) (.callP 6 [⟨.deck, x⟩, Sigma.mk .req (Req.mk (5 : Int) [] (0 : Int) (0 : Int) (0 : Int) (4607182418800017408 : Int))] [.sl .int] fun (x_2 : List Int) => .stop (rg Tryd.f5 5) (mkS 56 [(1, .ptr 0 0), (2, .ptr 1 0), (3, .d (.v (.int .i64 (Prod.fst x_1)))), (4, .d (.v (.int .i64 (Prod.snd x_1)))), (5, .d (.sl .int x_2))] [(0, .box [.d (.sl .flt (Deck.borders x)), .d (.sl .plate (Deck.plates x)), .d (.sl .rack (Deck.racks x)), .d (.v (.int .i64 (Deck.arms x)))]), (1, .box [.d (.v (.int .i64 (5 : Int))), .d (.v (.slice none 0 0)), .d (.v (.int .i64 (0 : Int))), .d (.v (.int .i64 (0 : Int))), .d (.v (.int .i64 (0 : Int))), .d (.v (.int .u64 (4607182418800017408 : Int)))])] 2))))) := by kernel_rfl

theorem t14b (d : Deck) : @Eq (Out (TyTup [.bool])) (aexec Tryd.prog codes sigs Tryd.f5 (pureFin [.bool]) 0 ⟨[], false⟩ 300 true (rg Tryd.f5 5) (L14 d 1000 0 [0, 3, 4])) (.need ((True ∧ True ∧ True ∧ True ∧ True) ∧ (True ∧ True ∧ True ∧ True ∧ True ∧ True ∧ True) ∧ True) (.callP 14 [⟨.deck, d⟩, Sigma.mk .req (Req.mk (5 : Int) [] (0 : Int) (0 : Int) (0 : Int) (4607182418800017408 : Int))] [.resp] fun (x : Resp) => .need ((True ∧ True ∧ True ∧ True ∧ True ∧ True) ∧ (True ∧ True ∧ True ∧ True ∧ True ∧ True) ∧ True) (.callP 13 [⟨.resp, x⟩, Sigma.mk .resp (Resp.mk (0 : Int) (0 : Int) (0 : Int) (0 : Int) [])] [.bool] fun (x : Bool) => bif x then .need ((True ∧ True) ∧ (True ∧ True) ∧ (True ∧ True) ∧ True) (.need ((True ∧ True) ∧ (True ∧ True) ∧ True) (.callP 15 [Sigma.mk (.sl .int) [(0 : Int), (3 : Int), (4 : Int)], Sigma.mk (.sl .int) [(0 : Int), (3 : Int), (4 : Int)]] [.bool] fun (x : Bool) => bif x then .need ((True ∧ True ∧ True ∧ True ∧ True) ∧ (True ∧ True ∧ True ∧ True ∧ True ∧ True ∧ True) ∧ True) (.callP 14 [⟨.deck, d⟩, Sigma.mk .req (Req.mk (6 : Int) [] (1 : Int) (0 : Int) (0 : Int) (9221120237041090561 : Int))] [.resp] fun (x : Resp) => bif Resp.err x == (20 : Int) then .need ((True ∧ True ∧ True ∧ True ∧ True) ∧ (True ∧ True ∧ True ∧ True ∧ True ∧ True ∧ True) ∧ (True ∧ True) ∧ (True ∧ True) ∧ True) (.callP 7 [⟨.deck, d⟩, Sigma.mk .req (Req.mk (9 : Int) [] (1 : Int) (0 : Int) (0 : Int) (0 : Int)), Sigma.mk (.sl .int) [], Sigma.mk .int (-1 : Int)] [.sl .int] fun (x : List Int) => .need ((True ∧ True) ∧ True) (.need ((True ∧ True) ∧ (True ∧ True) ∧ True) (.callP 15 [Sigma.mk (.sl .int) x, Sigma.mk (.sl .int) [(1 : Int)]] [.bool] fun (x : Bool) => bif x then .need ((True ∧ True) ∧ (True ∧ True) ∧ True) (.need ((True ∧ True ∧ True ∧ True ∧ True) ∧ (True ∧ True ∧ True ∧ True ∧ True ∧ True ∧ True) ∧ True) (.callP 14 [⟨.deck, d⟩, Sigma.mk .req (Req.mk (1 : Int) [(1 : Int), (1 : Int)] (0 : Int) (0 : Int) (0 : Int) (0 : Int))] [.resp] fun (x : Resp) => .need (True ∧ True) (.ret (Resp.id x == (1 : Int))))) else .need (True ∧ True) (.ret false)))) else .need (True ∧ True) (.ret false)) else .need (True ∧ True) (.ret false))) else .need (True ∧ True) (.ret false)))) := by kernel_rfl

end Go.Proofs.Wn

/- The laws of wants come to true. (Own work.) -/
namespace Go.Proofs.Wn
open Go Go.VL Go.Proofs.Zn

def D14 : Deck := ⟨[some 0, some 4621256167635550208, some 4625759767262920704], [⟨1, 2, some 4621256167635550208, some 4620693217682128896, some 4602678819172646912, 100, [40]⟩], [⟨1, 1, some 4611686018427387904, some 0, some 0⟩], 2⟩
theorem c56 : Pure Tryd.prog 11 [] [.deck] D14 := ofT Tryd.func11 t56 (by kernel_rfl) (by kernel_rfl) fun _ => by
  refine ⟨by simp, by simp, by simp, by simp, by simp, rfl⟩
def R14a : Req := ⟨5, [], 0, 0, 0, 4607182418800017408⟩
theorem chk1 : checkR D14 R14a = ⟨0, 0, 0, 0, []⟩ := by kernel_rfl
theorem vol1 : volS R14a = (1000, 0) := by kernel_rfl
theorem must1 : mustR D14 R14a = [0, 3, 4] := by kernel_rfl
theorem chk2 : checkR D14 ⟨6, [], 1, 0, 0, 9221120237041090561⟩ = ⟨20, 0, 0, 0, []⟩ := by kernel_rfl
theorem lock1 : locksR D14 ⟨9, [], 1, 0, 0, 0⟩ [] (-1) = [1] := by kernel_rfl
theorem chk3 : checkR D14 ⟨1, [1, 1], 0, 0, 0, 0⟩ = ⟨152, 1, 0, 0, []⟩ := by kernel_rfl
theorem a15 : Pure Tryd.prog 12 [⟨.req, R14a⟩] [.int, .int] ((1000 : Int), (0 : Int)) := (c15 (r := R14a) (by decide) (by decide)).eq vol1
theorem a21 : Pure Tryd.prog 6 [⟨.deck, D14⟩, ⟨.req, R14a⟩] [.sl .int] [0, 3, 4] := (c21 (d := D14) (r := R14a) (by decide) (by decide) (by decide)).eq must1
theorem a18 : Pure Tryd.prog 14 [⟨.deck, D14⟩, ⟨.req, R14a⟩] [.resp] ⟨0, 0, 0, 0, []⟩ := (c18 (d := D14) (r := R14a) (by decide) (by decide)).eq chk1
theorem a18b : Pure Tryd.prog 14 [⟨.deck, D14⟩, ⟨.req, ⟨6, [], 1, 0, 0, 9221120237041090561⟩⟩] [.resp] ⟨20, 0, 0, 0, []⟩ := (c18 (d := D14) (r := ⟨6, [], 1, 0, 0, 9221120237041090561⟩) (by decide) (by decide)).eq chk2
theorem a18c : Pure Tryd.prog 14 [⟨.deck, D14⟩, ⟨.req, ⟨1, [1, 1], 0, 0, 0, 0⟩⟩] [.resp] ⟨152, 1, 0, 0, []⟩ := (c18 (d := D14) (r := ⟨1, [1, 1], 0, 0, 0, 0⟩) (by decide) (by decide)).eq chk3
theorem a23 : Pure Tryd.prog 7 [⟨.deck, D14⟩, ⟨.req, ⟨9, [], 1, 0, 0, 0⟩⟩, ⟨.sl .int, []⟩, ⟨.int, -1⟩] [.sl .int] [1] := (c23 (d := D14) (r := ⟨9, [], 1, 0, 0, 0⟩) (o := []) (g := -1) (by decide) (by decide) (by decide) (by decide)).eq lock1
theorem a17 : Pure Tryd.prog 13 [⟨.resp, ⟨0, 0, 0, 0, []⟩⟩, ⟨.resp, ⟨0, 0, 0, 0, []⟩⟩] [.bool] true := (c17 (a := ⟨0, 0, 0, 0, []⟩) (b := ⟨0, 0, 0, 0, []⟩) (by decide)).eq (decide_eq_true rfl)
theorem c14 : Pure Tryd.prog 5 [] [.bool] true :=
  Pure.of_closed (C := codes) (S := sigs) mixed Tryd.func5 (by kernel_rfl) (Nat.le_of_ble_eq_true (by kernel_rfl)) fun A hA => hA.go t14 (by
    refine ⟨trivial, D14, c56, ⟨T7', trivial⟩, _, a15, ⟨Zn.T5', T7', trivial⟩, _, a21, ?_⟩
    refine hA.go (t14b D14) ?_
    refine ⟨⟨Zn.T5', T7', trivial⟩, _, a18, ⟨T6', T6', trivial⟩, true, a17, sat_t rfl ?_⟩
    refine ⟨⟨T2', T2', T2', trivial⟩, ⟨T2', T2', trivial⟩, true, (c50 (by decide)).eq (decide_eq_true rfl), sat_t rfl ?_⟩
    refine ⟨⟨Zn.T5', T7', trivial⟩, _, a18b, sat_t rfl ?_⟩
    refine ⟨⟨Zn.T5', T7', T2', T2', trivial⟩, _, a23, ⟨T2', trivial⟩, ⟨T2', T2', trivial⟩, true, (c50 (by decide)).eq (decide_eq_true rfl), sat_t rfl ?_⟩
    exact ⟨⟨T2', T2', trivial⟩, ⟨Zn.T5', T7', trivial⟩, _, a18c, T2', rfl⟩)

theorem none_list (d : Deck) : ∀ l : List Int, (noneGo d l).list = []
  | [] => rfl
  | x :: l => by
    unfold noneGo
    have := none_list d l
    simp only [cond_eq_ite]
    split
    · rfl
    · exact this
theorem batch_list (d : Deck) (l : List Int) : (batchS d l).list = [] := by
  unfold batchS
  simp only [cond_eq_ite]
  split
  · rfl
  split
  · rfl
  split
  · rfl
  exact none_list d l
theorem check_list (d : Deck) (r : Req) : (checkR d r).list = [] := by
  unfold checkR partsR endR
  simp only [cond_eq_ite]
  repeat' split
  all_goals first | rfl | exact batch_list _ _

theorem musts_len {d : Deck} {r : Req} (hl : r.ids.length ≤ 1000) : (mustS d r).length ≤ 1000 := by
  unfold mustS
  have l1 := path_len d r.a r.b
  have l2 := needR_len d r.a
  have l3 := put_len (l := (pathR d r.a r.b).1) (n := r.a)
  have l4 := put_len (l := putS (pathR d r.a r.b).1 r.a) (n := r.b)
  have l5 := put_len (l := (needsR d [r.a]).1) (n := r.a)
  have l6 := either_len (a := []) (b := r.ids)
  have l6 : (setS r.ids).length ≤ 0 + r.ids.length := l6
  simp only [cond_eq_ite]
  repeat' split
  all_goals first | omega | simp
theorem must_len {d : Deck} {r : Req} (hl : r.ids.length ≤ 1000) : (mustR d r).length ≤ 1000 := by
  unfold mustR
  have := musts_len (d := d) hl
  simp only [cond_eq_ite]
  split
  · simp
  · exact this
theorem locks_len {d : Deck} {r : Req} {h : Int} (hl : r.ids.length ≤ 1000) {o : List Int} (ho : o.length ≤ 1000) : (locksR d r o h).length ≤ 1000 := by
  unfold locksR
  have := musts_len (d := d) hl
  have l6 : (setS r.ids).length ≤ 0 + r.ids.length := either_len (a := []) (b := r.ids)
  have l7 : (setS o).length ≤ 0 + o.length := either_len (a := []) (b := o)
  simp only [cond_eq_ite]
  repeat' split
  all_goals first | omega | simp
end Go.Proofs.Wn

/- The functions that the law of bounds reaches. (Own work.) -/
namespace Go.Proofs.Wd
open Go Go.VL

abbrev codes : Codes := Wn.codes
def sigL : List (Nat × Sig) := Wn.sigL ++ [(8, .pure [.sl .int] [.bool]), (9, .pure [.sl .int, .sl .int] [.sl .int])]
def sigs : Sigs := Wn.look sigL
theorem mixed : Tryd.prog.follows .mixedOrders = true := Tryd.checked.mixed
theorem ofT {f : FuncId} {fn : Func} (hf : Tryd.prog.funcs[f]? = some fn) {args : List Arg} {ts : List Ty} {x : TyTup ts} {cu : Cuts} {n : Nat} {fst : Bool} {T : Out (TyTup ts)}
    (he : aexec Tryd.prog codes sigs fn (pureFin ts) 0 cu n fst (bodyOf fn) (startS fn args) = T) (hb : fn.body.isSome = true) (hnt : Nat.ble args.length fn.ntmps = true) (h : ∀ A, Sat Tryd.prog A (· = x) T) : Pure Tryd.prog f args ts x :=
  Pure.of_tree mixed hf hb (Nat.le_of_ble_eq_true hnt) he h
end Go.Proofs.Wd

namespace Go.Proofs.Wd
open Go Go.VL

def L8 (l : List Int) (i : Int) : AS := mkS 20 [(0, .d (.sl .int l)), (3, i64 i)] [] 0
def L9 (a b : List Int) (i : Int) : AS := mkS 28 [(0, .d (.sl .int a)), (1, .d (.sl .int b)), (5, .d (.v (.slice none 0 0))), (6, i64 i)] [] 0


theorem t3 (d : Deck) (r : Req) (o : List Int) (h : Int) : @Eq (Out (TyTup [.bool])) (aexec Tryd.prog codes sigs Tryd.f3 (pureFin [.bool]) 0 noCut 300 false (bodyOf Tryd.f3) (startS Tryd.f3 [⟨.deck, d⟩, ⟨.req, r⟩, ⟨.sl .int, o⟩, ⟨.int, h⟩])) (.need ((True ∧ True ∧ True ∧ True ∧ True) ∧ (True ∧ True ∧ True ∧ True ∧ True ∧ True ∧ True) ∧ True) (.callP 4 [⟨.deck, d⟩, ⟨.req, r⟩] [.bool] fun (x : Bool) => bif x then .need True (.callP 5 [] [.bool] fun (x : Bool) => .need (True ∧ True) (.ret x)) else bif decide ((o.length : Int) > (1000 : Int)) then .need True (.callP 5 [] [.bool] fun (x : Bool) => .need (True ∧ True) (.ret x)) else .need ((True ∧ True ∧ True ∧ True ∧ True) ∧ (True ∧ True ∧ True ∧ True ∧ True ∧ True ∧ True) ∧ True) (.callP 6 [⟨.deck, d⟩, ⟨.req, r⟩] [.sl .int] fun (x : List Int) => .need ((True ∧ True ∧ True ∧ True ∧ True) ∧ (True ∧ True ∧ True ∧ True ∧ True ∧ True ∧ True) ∧ (True ∧ True) ∧ (True ∧ True) ∧ True) (.callP 7 [⟨.deck, d⟩, ⟨.req, r⟩, Sigma.mk (.sl .int) o, ⟨.int, h⟩] [.sl .int] fun (x_1 : List Int) => bif decide (IntKind.wrap .i64 ((↑(List.length (Deck.borders d)) : Int) + (1 : Int)) > (16 : Int)) then bif decide ((o.length : Int) > IntKind.wrap .i64 ((↑(List.length (Deck.borders d)) : Int) + (1 : Int))) then .need True (.callP 5 [] [.bool] fun (x_2 : Bool) => bif x_2 then .need ((True ∧ True) ∧ True) (.callP 8 [Sigma.mk (.sl .int) x] [.bool] fun (x_3 : Bool) => bif x_3 then .need ((True ∧ True) ∧ True) (.callP 8 [Sigma.mk (.sl .int) x_1] [.bool] fun (x_4 : Bool) => bif x_4 then .need ((True ∧ True) ∧ (True ∧ True) ∧ True) (.callP 9 [Sigma.mk (.sl .int) x, Sigma.mk (.sl .int) x_1] [.sl .int] fun (x : List Int) => bif (x.length : Int) == (0 : Int) then .need (True ∧ True) (.ret (decide ((x_1.length : Int) ≤ (o.length : Int)))) else .need (True ∧ True) (.ret false)) else .need (True ∧ True) (.ret false)) else .need (True ∧ True) (.ret false)) else .need (True ∧ True) (.ret false)) else .need True (.callP 5 [] [.bool] fun (x_2 : Bool) => bif x_2 then .need ((True ∧ True) ∧ True) (.callP 8 [Sigma.mk (.sl .int) x] [.bool] fun (x_3 : Bool) => bif x_3 then .need ((True ∧ True) ∧ True) (.callP 8 [Sigma.mk (.sl .int) x_1] [.bool] fun (x_4 : Bool) => bif x_4 then .need ((True ∧ True) ∧ (True ∧ True) ∧ True) (.callP 9 [Sigma.mk (.sl .int) x, Sigma.mk (.sl .int) x_1] [.sl .int] fun (x : List Int) => bif (x.length : Int) == (0 : Int) then .need (True ∧ True) (.ret (decide ((x_1.length : Int) ≤ IntKind.wrap .i64 ((↑(List.length (Deck.borders d)) : Int) + (1 : Int))))) else .need (True ∧ True) (.ret false)) else .need (True ∧ True) (.ret false)) else .need (True ∧ True) (.ret false)) else .need (True ∧ True) (.ret false)) else bif decide ((o.length : Int) > (16 : Int)) then .need True (.callP 5 [] [.bool] fun (x_2 : Bool) => bif x_2 then .need ((True ∧ True) ∧ True) (.callP 8 [Sigma.mk (.sl .int) x] [.bool] fun (x_3 : Bool) => bif x_3 then .need ((True ∧ True) ∧ True) (.callP 8 [Sigma.mk (.sl .int) x_1] [.bool] fun (x_4 : Bool) => bif x_4 then .need ((True ∧ True) ∧ (True ∧ True) ∧ True) (.callP 9 [Sigma.mk (.sl .int) x, Sigma.mk (.sl .int) x_1] [.sl .int] fun (x : List Int) => bif (x.length : Int) == (0 : Int) then .need (True ∧ True) (.ret (decide ((x_1.length : Int) ≤ (o.length : Int)))) else .need (True ∧ True) (.ret false)) else .need (True ∧ True) (.ret false)) else .need (True ∧ True) (.ret false)) else .need (True ∧ True) (.ret false)) else .need True (.callP 5 [] [.bool] fun (x_2 : Bool) => bif x_2 then .need ((True ∧ True) ∧ True) (.callP 8 [Sigma.mk (.sl .int) x] [.bool] fun (x_3 : Bool) => bif x_3 then .need ((True ∧ True) ∧ True) (.callP 8 [Sigma.mk (.sl .int) x_1] [.bool] fun (x_4 : Bool) => bif x_4 then .need ((True ∧ True) ∧ (True ∧ True) ∧ True) (.callP 9 [Sigma.mk (.sl .int) x, Sigma.mk (.sl .int) x_1] [.sl .int] fun (x : List Int) => bif (x.length : Int) == (0 : Int) then .need (True ∧ True) (.ret (decide ((x_1.length : Int) ≤ (16 : Int)))) else .need (True ∧ True) (.ret false)) else .need (True ∧ True) (.ret false)) else .need (True ∧ True) (.ret false)) else .need (True ∧ True) (.ret false)))))) := by kernel_rfl

theorem t8 (l : List Int) : @Eq (Out (TyTup [.bool])) (aexec Tryd.prog codes sigs Tryd.f8 (pureFin [.bool]) 0 noCut 200 false (bodyOf Tryd.f8) (startS Tryd.f8 [⟨.sl .int, l⟩])) (.stop (hd Tryd.f8 0) (mkS 20 [(0, .d (.sl .int l)), (3, .d (.v (.int .i64 (1 : Int))))] [] 0)) := by kernel_rfl

theorem t8a (l : List Int) (i : Int) : @Eq (Out (TyTup [.bool])) (aexec Tryd.prog codes sigs Tryd.f8 (pureFin [.bool]) 0 noCut 200 true (hd Tryd.f8 0) (L8 l i)) (bif decide (i < (l.length : Int)) then .need (((0 : Int) ≤ IntKind.wrap .i64 (i - (1 : Int)) ∧ IntKind.wrap .i64 (i - (1 : Int)) < (l.length : Int)) ∧ True) (.need (((0 : Int) ≤ i ∧ i < (l.length : Int)) ∧ True) (bif decide (List.getD l (Int.toNat (IntKind.wrap .i64 (i - (1 : Int)))) Ty.int.dflt ≥ l.getD i.toNat Ty.int.dflt) then .need (True ∧ True) (.ret false) else .stop (hd Tryd.f8 0) (mkS 20 [(0, .d (.sl .int l)), (3, .d (.v (.int .i64 (IntKind.wrap .i64 (i + (1 : Int))))))] [] 0))) else .need (True ∧ True) (.ret true)) := by kernel_rfl

theorem t9 (a b : List Int) : @Eq (Out (TyTup [.sl .int])) (aexec Tryd.prog codes sigs Tryd.f9 (pureFin [.sl .int]) 0 noCut 200 false (bodyOf Tryd.f9) (startS Tryd.f9 [⟨.sl .int, a⟩, ⟨.sl .int, b⟩])) (.stop (hd Tryd.f9 0) (mkS 28 [(0, .d (.sl .int a)), (1, .d (.sl .int b)), (5, .d (.v (.slice none 0 0))), (6, .d (.v (.int .i64 (0 : Int))))] [] 0)) := by kernel_rfl

theorem t9a (a b : List Int) (i : Int) : @Eq (Out (TyTup [.sl .int])) (aexec Tryd.prog codes sigs Tryd.f9 (pureFin [.sl .int]) 0 noCut 200 true (hd Tryd.f9 0) (L9 a b i)) (bif decide (i < (a.length : Int)) then .need (((0 : Int) ≤ i ∧ i < (a.length : Int)) ∧ True) (.need ((True ∧ True) ∧ (True ∧ True) ∧ True) (.callP 19 [Sigma.mk (.sl .int) b, Sigma.mk .int (a.getD i.toNat Ty.int.dflt)] [.bool] fun (x : Bool) => bif !x then .need (((0 : Int) ≤ i ∧ i < (a.length : Int)) ∧ True) (.need ((True ∧ True) ∧ True) (.need (List.length [a.getD i.toNat Ty.int.dflt] * 9 ≤ 35184372088832 ∧ True) (.stop (hd Tryd.f9 0) (mkS 28 [(0, .d (.sl .int a)), (1, .d (.sl .int b)), (5, .own 0 .int), (6, .d (.v (.int .i64 (IntKind.wrap .i64 (i + (1 : Int))))))] [(0, .row 3 .int [a.getD i.toNat Ty.int.dflt])] 1)))) else .stop (hd Tryd.f9 0) (mkS 28 [(0, .d (.sl .int a)), (1, .d (.sl .int b)), (5, .d (.v (.slice none 0 0))), (6, .d (.v (.int .i64 (IntKind.wrap .i64 (i + (1 : Int))))))] [] 0))) else .need (True ∧ True) (.ret [])) := by kernel_rfl

end Go.Proofs.Wd

/- What must be owned is locked, and how much that is at most. (Own work.) -/
namespace Go.Proofs.Wd
open Go Go.VL Go.Proofs.Zn Go.Proofs.Wn

theorem loop8 {l : List Int} (hl : l.length ≤ 1000000) (h : Rise l) {A : List Item → AS → Prop} (hA : Closed Tryd.prog codes sigs Tryd.f8 (pureFin [.bool]) (fun y => y = true) 0 A)
    (i : Nat) (hi : 1 ≤ i) : A (hd Tryd.f8 0) (L8 l i) := by
  refine hA.go (t8a l i) (sat_bif (fun h1 => ?_) (fun h1 => ⟨Wn.T2', rfl⟩))
  have h1 := of_decide_eq_true h1
  have hil : i < l.length := by omega
  have e : IntKind.i64.wrap ((i : Int) - 1) = ((i - 1 : Nat) : Int) := by
    rw [show (i : Int) - 1 = ((i - 1 : Nat) : Int) by omega, wrap_i64 (by omega) (by omega)]
  rw [e, getD_int hil, getD_int (show i - 1 < l.length by omega)]
  refine ⟨⟨⟨by omega, by omega⟩, trivial⟩, ⟨⟨by omega, by omega⟩, trivial⟩, ?_⟩
  have hlt : l[i - 1] < l[i] := List.pairwise_iff_getElem.1 h (i - 1) i (by omega) hil (by omega)
  refine sat_f (by simp; omega) ?_
  rw [wrap_succ (by omega)]
  exact loop8 hl h hA (i + 1) (by omega)
termination_by l.length - i
theorem c8 {l : List Int} (hl : l.length ≤ 1000000) (h : Rise l) : Pure Tryd.prog 8 [⟨.sl .int, l⟩] [.bool] true :=
  Pure.of_closed (C := codes) (S := sigs) mixed Tryd.func8 (by kernel_rfl) (Nat.le_of_ble_eq_true (by kernel_rfl)) fun A hA => hA.go (t8 l) (loop8 hl h hA 1 (by omega))

theorem loop9 {a b : List Int} (ha : a.length ≤ 1000000) (hb : b.length ≤ 1000000) (h : ∀ n ∈ a, n ∈ b) {A : List Item → AS → Prop} (hA : Closed Tryd.prog codes sigs Tryd.f9 (pureFin [.sl .int]) (fun y => y = []) 0 A)
    (i : Nat) : A (hd Tryd.f9 0) (L9 a b i) := by
  refine hA.go (t9a a b i) (sat_bif (fun h1 => ?_) (fun h1 => ⟨Wn.T2', rfl⟩))
  have h1 := of_decide_eq_true h1
  have hil : i < a.length := by omega
  rw [getD_int hil]
  refine ⟨⟨⟨by omega, by omega⟩, trivial⟩, ⟨Wn.T2', Wn.T2', trivial⟩, true, (c100 hb).eq (List.elem_eq_true_of_mem (h _ (List.getElem_mem hil))), sat_f rfl ?_⟩
  rw [wrap_succ (by omega)]
  exact loop9 ha hb h hA (i + 1)
termination_by a.length - i
theorem c9 {a b : List Int} (ha : a.length ≤ 1000000) (hb : b.length ≤ 1000000) (h : ∀ n ∈ a, n ∈ b) : Pure Tryd.prog 9 [⟨.sl .int, a⟩, ⟨.sl .int, b⟩] [.sl .int] [] :=
  Pure.of_closed (C := codes) (S := sigs) mixed Tryd.func9 (by kernel_rfl) (Nat.le_of_ble_eq_true (by kernel_rfl)) fun A hA => hA.go (t9 a b) (loop9 ha hb h hA 0)

/-! ### the plain law -/
theorem must_rise (d : Deck) (r : Req) : Rise (mustS d r) := by
  unfold mustS
  simp only [cond_eq_ite]
  repeat' split
  all_goals first | exact set_rise _ | exact put_rise (put_rise (path_rise ..)) | exact put_rise (needR_rise ..) | exact .nil
theorem mustR_rise (d : Deck) (r : Req) : Rise (mustR d r) := by
  unfold mustR
  simp only [cond_eq_ite]
  split
  · exact .nil
  · exact must_rise d r
theorem locks_rise (d : Deck) (r : Req) (o : List Int) (h : Int) : Rise (locksR d r o h) := by
  unfold locksR
  simp only [cond_eq_ite]
  repeat' split
  all_goals first | exact .nil | exact set_rise _ | exact one_rise _ | exact must_rise d r
theorem must_in {d : Deck} {r : Req} {o : List Int} {h : Int} : ∀ n ∈ mustR d r, n ∈ locksR d r o h := by
  intro n hn
  unfold mustR at hn
  unfold locksR
  cases he : ((checkR d r).err != 0)
  · rw [he] at hn
    have hn : n ∈ mustS d r := hn
    show n ∈ (bif r.kind == 1 then setS r.ids else bif r.kind == 3 then setS o else bif r.kind == 8 then (bif decide (h < 0) then [] else [h]) else bif r.kind == 9 then [r.a] else bif r.kind == 10 then [r.a] else mustS d r)
    have no : ∀ k : Int, (r.kind == k) = true → k ≠ 2 → k ≠ 4 → k ≠ 5 → k ≠ 6 → k ≠ 7 → False := by
      intro k hk h2 h4 h5 h6 h7
      have hk : r.kind = k := by simpa using hk
      unfold mustS at hn
      rw [hk, beq_false_of_ne h2, beq_false_of_ne h4, beq_false_of_ne h5, beq_false_of_ne h6, beq_false_of_ne h7] at hn
      exact absurd (show n ∈ ([] : List Int) from hn) (by simp)
    cases h1 : r.kind == 1
    · cases h3 : r.kind == 3
      · cases h8 : r.kind == 8
        · cases h9 : r.kind == 9
          · cases h10 : r.kind == 10
            · exact hn
            · exact (no 10 h10 (by decide) (by decide) (by decide) (by decide) (by decide)).elim
          · exact (no 9 h9 (by decide) (by decide) (by decide) (by decide) (by decide)).elim
        · exact (no 8 h8 (by decide) (by decide) (by decide) (by decide) (by decide)).elim
      · exact (no 3 h3 (by decide) (by decide) (by decide) (by decide) (by decide)).elim
    · exact (no 1 h1 (by decide) (by decide) (by decide) (by decide) (by decide)).elim
  · rw [he] at hn; cases hn

theorem lanes_lb {d : Deck} {s : Span} (hs : SpanOk d s) : (lanesS d s).length + 1 ≤ d.borders.length := by
  obtain ⟨s1, s2, s3⟩ := hs
  unfold lanesS
  rw [List.length_map, List.length_range]; omega
theorem path_lb (d : Deck) (a b : Int) : (pathR d a b).1.length ≤ d.borders.length - 1 := by
  unfold pathR
  cases h : (spansS d [a, b]).2 != 0
  · have h0 : (spansS d [a, b]).2 = 0 := by simpa using h
    obtain ⟨g1, g2, g3⟩ := spans_ok h0
    obtain ⟨x, y, e⟩ := two_some g3
    rw [e] at g2 ⊢
    have := lanes_lb (way_ok (g2 x (by simp)) (g2 y (by simp)))
    show (lanesS d (wayS x y)).length ≤ _
    omega
  · simp
theorem needR_lb (d : Deck) (a : Int) : (needsR d [a]).1.length ≤ d.borders.length - 1 := by
  unfold needsR
  cases h : (spansS d [a]).2 != 0
  · have h0 : (spansS d [a]).2 = 0 := by simpa using h
    obtain ⟨g1, g2, g3⟩ := spans_ok h0
    have h3 : (spansS d [a]).1.length = 1 := g3
    match hm : (spansS d [a]).1, h3 with
    | [s], _ =>
      rw [hm] at g2
      have := lanes_lb (g2 s (by simp))
      have e : needsS d [s] = lanesS d s := needs_one s
      show (needsS d [s]).length ≤ _
      rw [e]; omega
  · simp
theorem ids16 {d : Deck} {r : Req} (he : ((checkR d r).err != 0) = false) (hk : r.kind = 1 ∨ r.kind = 2) : r.ids.length ≤ 16 := by
  have hf : (flS r.kind).ids = true := by rcases hk with h | h <;> rw [h] <;> rfl
  unfold checkR at he
  cases h1 : zoneS d != 0
  · rw [h1] at he
    cases h2 : decide (r.kind < 1) || decide (r.kind > 10)
    · rw [h2] at he
      cases h3 : !withinS (hasS r) (flS r.kind)
      · rw [h3, hf] at he
        have he : ((batchS d r.ids).err != 0) = false := he
        unfold batchS at he
        cases h4 : (r.ids.length : Int) == 0
        · rw [h4] at he
          cases h5 : decide ((r.ids.length : Int) > 16)
          · have := of_decide_eq_false h5; omega
          · rw [h5] at he; exact absurd (show ((2 : Int) != 0) = false from he) (by decide)
        · have : (r.ids.length : Int) = 0 := by simpa using h4
          omega
      · rw [h3] at he; exact absurd (show ((151 : Int) != 0) = false from he) (by decide)
    · rw [h2] at he; exact absurd (show ((150 : Int) != 0) = false from he) (by decide)
  · rw [h1] at he
    have he : (zoneS d != 0) = false := he
    rw [h1] at he; cases he
def topS (d : Deck) (o : List Int) : Int := max 16 (max ((d.borders.length : Int) + 1) o.length)
theorem set_len (l : List Int) : (setS l).length ≤ l.length := by
  have h : (setS l).length ≤ 0 + l.length := either_len (a := []) (b := l)
  omega
theorem locks_top (d : Deck) (r : Req) (o : List Int) (h : Int) : ((locksR d r o h).length : Int) ≤ topS d o := by
  have t16 : (16 : Int) ≤ topS d o := by unfold topS; omega
  have tb : (d.borders.length : Int) + 1 ≤ topS d o := by unfold topS; omega
  have to : (o.length : Int) ≤ topS d o := by unfold topS; omega
  unfold locksR
  cases he : ((checkR d r).err != 0)
  · show ((bif r.kind == 1 then setS r.ids else bif r.kind == 3 then setS o else bif r.kind == 8 then (bif decide (h < 0) then [] else [h]) else bif r.kind == 9 then [r.a] else bif r.kind == 10 then [r.a] else mustS d r).length : Int) ≤ _
    have l1 := path_lb d r.a r.b
    have l2 := needR_lb d r.a
    have l3 := put_len (l := (pathR d r.a r.b).1) (n := r.a)
    have l4 := put_len (l := putS (pathR d r.a r.b).1 r.a) (n := r.b)
    have l5 := put_len (l := (needsR d [r.a]).1) (n := r.a)
    have l6 := set_len r.ids
    have l7 := set_len o
    have hm : ((mustS d r).length : Int) ≤ topS d o := by
      unfold mustS
      cases h2 : r.kind == 2
      · simp only [cond_eq_ite]
        repeat' split
        all_goals first | omega | (simp only [List.length_nil]; omega) | (rename_i hh; cases hh)
      · have := ids16 he (.inr (by simpa using h2))
        show ((setS r.ids).length : Int) ≤ _
        omega
    cases h1 : r.kind == 1
    · simp only [cond_eq_ite]
      repeat' split
      all_goals first | omega | exact hm | (simp only [List.length_nil, List.length_cons]; omega) | (rename_i hh; cases hh)
    · have := ids16 he (.inl (by simpa using h1))
      show ((setS r.ids).length : Int) ≤ _
      omega
  · show (([] : List Int).length : Int) ≤ _
    simp only [List.length_nil]; omega
end Go.Proofs.Wd

/- The law of bounds comes to true. (Own work.) -/
namespace Go.Proofs.Wd
open Go Go.VL Go.Proofs.Zn Go.Proofs.Wn

theorem z5 {d : Deck} {r : Req} {o : List Int} {h : Int} (h0 : 0 ≤ r.vol) (hv : r.vol < 18446744073709551616) : Pure Tryd.prog 3 [⟨.deck, d⟩, ⟨.req, r⟩, ⟨.sl .int, o⟩, ⟨.int, h⟩] [.bool] true :=
  Wd.ofT Tryd.func3 (t3 d r o h) (by kernel_rfl) (by kernel_rfl) fun _ => by
    refine ⟨⟨Zn.T5', T7', trivial⟩, _, c13 d r, sat_bif (fun _ => ⟨trivial, _, c14, Wn.T2', rfl⟩) (fun hx => sat_bif (fun _ => ⟨trivial, _, c14, Wn.T2', rfl⟩) (fun ho => ?_))⟩
    have ho := of_decide_eq_false ho
    have hlb : r.ids.length ≤ 1000 ∧ d.borders.length ≤ 60 := by
      cases hL : largeS d
      · rw [hL] at hx
        have h1 := of_decide_eq_false (show decide ((r.ids.length : Int) > 100) = false from hx)
        refine ⟨by omega, ?_⟩
        unfold largeS at hL
        cases hb : decide ((d.borders.length : Int) > 60)
        · have := of_decide_eq_false hb; omega
        · rw [hb] at hL; cases hL
      · rw [hL] at hx; cases hx
    obtain ⟨hl, hb⟩ := hlb
    have lm : (mustR d r).length ≤ 1000 := must_len hl
    have lk : (locksR d r o h).length ≤ 1000 := locks_len hl (by omega)
    have top := locks_top d r o h
    have ew : IntKind.i64.wrap ((d.borders.length : Int) + 1) = (d.borders.length : Int) + 1 := wrap_i64 (by omega) (by omega)
    refine ⟨⟨Zn.T5', T7', trivial⟩, _, c21 h0 hv hl, ⟨Zn.T5', T7', Wn.T2', Wn.T2', trivial⟩, _, c23 h0 hv hl (by omega), ?_⟩
    unfold topS at top
    rw [ew]
    have a8 := c8 (by omega) (mustR_rise d r)
    have b8 := c8 (by omega) (locks_rise d r o h)
    have a9 := c9 (by omega) (by omega) (must_in (d := d) (r := r) (o := o) (h := h))
    refine sat_bif (fun h1 => sat_bif (fun h2 => ?_) (fun h2 => ?_)) (fun h1 => sat_bif (fun h2 => ?_) (fun h2 => ?_))
    all_goals
      simp only [decide_eq_true_eq, decide_eq_false_iff_not] at h1 h2
      refine ⟨trivial, _, c14, sat_t rfl ⟨⟨Wn.T2', trivial⟩, _, a8, sat_t rfl ⟨⟨Wn.T2', trivial⟩, _, b8, sat_t rfl ⟨⟨Wn.T2', Wn.T2', trivial⟩, _, a9, sat_t rfl ⟨Wn.T2', ?_⟩⟩⟩⟩⟩
      exact decide_eq_true (by omega)
theorem wf_vol {r : Req} (h : wfT .req r) : 0 ≤ r.vol ∧ r.vol < 18446744073709551616 := by
  have h := h (.v (.int .u64 r.vol)) (by simp [enc])
  cases h with
  | int _ _ hh =>
    have hh : (decide ((0 : Int) ≤ r.vol) && decide (r.vol ≤ 18446744073709551615)) = true := hh
    simp only [Bool.and_eq_true, decide_eq_true_eq] at hh
    omega
theorem law5 (d : Deck) (r : Req) (o : List Int) (h : Int) (_ : wfT .deck d) (hr : wfT .req r) (_ : wfT (.sl .int) o) (_ : wfT .int h) : Pure Tryd.prog 3 [⟨.deck, d⟩, ⟨.req, r⟩, ⟨.sl .int, o⟩, ⟨.int, h⟩] [.bool] true := z5 (wf_vol hr).1 (wf_vol hr).2
end Go.Proofs.Wd

/- The laid table lies where it lies. (Own work.) -/
namespace Go.Proofs.Wn
open Go Go.VL Go.Proofs.YteaiflgcgpaclaaDoor
set_option linter.unusedVariables false
set_option linter.unusedSimpArgs false

theorem gTab : Tryd.prog.globalNamed "math/bits.deBruijn64tab" = some 1 := by kernel_rfl
theorem tTab : ∃ t, (Tryd.prog.globals[1]?).map (·.type) = some t ∧ Tryd.prog.underlying t = some (.array 64 5) ∧ Tryd.prog.cellsOf t = 64 :=
  ⟨((Tryd.prog.globals[1]?).map (·.type)).getD 0, by kernel_rfl, by kernel_rfl, by kernel_rfl⟩
theorem uU8 : Tryd.prog.underlying 5 = some (.int .u8) := by kernel_rfl
theorem cU8 : Tryd.prog.cellsOf 5 = 1 := by kernel_rfl
theorem laid_tab : (Rows.laid_math_bits_deBruijn64tab : DataW Unit) = .agg (tzTab.map fun n : Nat => DataW.lit (.int .u8 (n : Int))) := by rfl
theorem take_one {α : Type} {l : List α} {i : Nat} {a : α} (h : (l.drop i).take 1 = [a]) : l[i]? = some a := by
  have : ((l.drop i).take 1)[0]? = some a := by rw [h]; rfl
  simpa using this
theorem gok_laid {W : World} (h : laidMetH Tryd.prog [("math/bits.deBruijn64tab", Rows.laid_math_bits_deBruijn64tab)] W) : GOk W (fun b => b < W.heap.size) := by
  rw [MakeChecks.laidMetH_plain _ _ _ (by kernel_rfl)] at h
  obtain ⟨ps, ⟨g, t, cs, fuel, p, q, hg, ht, hv, hd, _, hps⟩, _, hfr⟩ := h
  obtain rfl := Option.some.inj (gTab.symm.trans hg)
  obtain ⟨t', ht', hu, hc⟩ := tTab
  obtain rfl := Option.some.inj (ht'.symm.trans ht)
  obtain ⟨xs, m, _, hx, hlen, hn, hel⟩ := DataW.trod_array hu hd
  rw [hc] at hlen
  rw [laid_tab] at hx
  simp only [Prod.mk.injEq, DataW.agg.injEq] at hx
  have hxs := hx.1
  have key : ∀ i, i < 64 → cs.toList[i]? = (tzTab.map fun n : Nat => Value.int .u8 (n : Int))[i]? := by
    intro i hi
    have h1 := hel i hi
    rw [cU8, Nat.mul_one] at h1
    have hix : i < xs.length := by omega
    have hxi : xs[i]? = some xs[i] := by simp [hix]
    rw [hxi] at h1
    obtain ⟨k, e1, e2, _⟩ := DataW.trod_int uU8 h1
    have e3 := take_one e1
    have e4 : (xs.map (·.1))[i]? = (tzTab.map fun n : Nat => (DataW.lit (.int .u8 (n : Int)) : DataW Unit))[i]? := by rw [hxs]
    rw [List.getElem?_map, List.getElem?_map, hxi] at e4
    rw [List.getElem?_map, e3]
    cases hz : tzTab[i]? with
    | none => rw [hz] at e4; simp at e4
    | some n =>
      rw [hz, e2] at e4
      simp only [Option.map_some, Option.some.injEq, DataW.lit.injEq, Lit.int.injEq, true_and] at e4
      rw [e4]; rfl
  have hcs : cs = (tzTab.map fun n : Nat => Value.int .u8 (n : Int)).toArray := by
    apply Array.toList_inj.1
    apply List.ext_getElem?
    intro i
    by_cases hi : i < 64
    · exact key i hi
    · rw [List.getElem?_eq_none (by omega), List.getElem?_eq_none (by show 64 ≤ i; omega)]
  intro p' hp'
  have hp' : p' = (1, (tzTab.map fun n : Nat => Value.int .u8 (n : Int)).toArray) := by simpa [glb] using hp'
  subst hp'
  have hsz : cs.size = 64 := by rw [← Array.length_toList]; exact hlen
  obtain ⟨⟨c, T, hT⟩, _⟩ := hfr 1 0 (by
    rw [hps, hsz]
    exact List.mem_append.2 (.inl (List.mem_append.2 (.inl (by simp [MemPlace.row]))))) 
  have hcc : c = cs := by
    unfold World.var? at hv
    rw [gTab] at hv
    simp only [Option.bind_some, hT, Option.some.injEq] at hv
    exact hv
  subst hcc
  refine ⟨?_, T, ?_⟩
  · exact (Array.getElem?_eq_some_iff.1 hT).1
  · rw [← hcs]; exact hT
end Go.Proofs.Wn
