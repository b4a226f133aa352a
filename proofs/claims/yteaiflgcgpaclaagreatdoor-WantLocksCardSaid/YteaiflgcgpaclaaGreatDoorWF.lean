/- Own work: part WF of the proof. -/
import Derived.Test.YteaiflgcgpaclaaGreatDoorWE
set_option linter.unusedVariables false
set_option linter.unusedSimpArgs false
namespace Go.Proofs.Wn
open Go Go.VL


theorem t63 (k : Int) : @Eq (Out (TyTup [.flds])) (aexec Tryz.prog codes sigs Tryz.f63 (pureFin [.flds]) 0 noCut 300 false (bodyOf Tryz.f63) (startS Tryz.f63 [⟨.int, k⟩])) (bif k == (1 : Int) then bif k == (1 : Int) then .need (True ∧ True ∧ True ∧ True ∧ True ∧ True) (.ret (Flds.mk true false false false false)) else bif k == (4 : Int) then .need (True ∧ True ∧ True ∧ True ∧ True ∧ True) (.ret (Flds.mk false true true false true)) else bif k == (5 : Int) then bif k == (5 : Int) then .need (True ∧ True ∧ True ∧ True ∧ True ∧ True) (.ret (Flds.mk false true false false true)) else bif k == (7 : Int) then bif k == (7 : Int) then .need (True ∧ True ∧ True ∧ True ∧ True ∧ True) (.ret (Flds.mk false true false false false)) else bif k == (10 : Int) then .need (True ∧ True ∧ True ∧ True ∧ True ∧ True) (.ret (Flds.mk false true false true false)) else .need (True ∧ True ∧ True ∧ True ∧ True ∧ True) (.ret (Flds.mk false false false false false)) else bif k == (9 : Int) then .need (True ∧ True ∧ True ∧ True ∧ True ∧ True) (.ret (Flds.mk false true false false false)) else bif k == (10 : Int) then .need (True ∧ True ∧ True ∧ True ∧ True ∧ True) (.ret (Flds.mk false true false true false)) else .need (True ∧ True ∧ True ∧ True ∧ True ∧ True) (.ret (Flds.mk false false false false false)) else bif k == (6 : Int) then .need (True ∧ True ∧ True ∧ True ∧ True ∧ True) (.ret (Flds.mk false true false false true)) else bif k == (7 : Int) then bif k == (7 : Int) then .need (True ∧ True ∧ True ∧ True ∧ True ∧ True) (.ret (Flds.mk false true false false false)) else bif k == (10 : Int) then .need (True ∧ True ∧ True ∧ True ∧ True ∧ True) (.ret (Flds.mk false true false true false)) else .need (True ∧ True ∧ True ∧ True ∧ True ∧ True) (.ret (Flds.mk false false false false false)) else bif k == (9 : Int) then .need (True ∧ True ∧ True ∧ True ∧ True ∧ True) (.ret (Flds.mk false true false false false)) else bif k == (10 : Int) then .need (True ∧ True ∧ True ∧ True ∧ True ∧ True) (.ret (Flds.mk false true false true false)) else .need (True ∧ True ∧ True ∧ True ∧ True ∧ True) (.ret (Flds.mk false false false false false)) else bif k == (2 : Int) then .need (True ∧ True ∧ True ∧ True ∧ True ∧ True) (.ret (Flds.mk true false false false false)) else bif k == (4 : Int) then .need (True ∧ True ∧ True ∧ True ∧ True ∧ True) (.ret (Flds.mk false true true false true)) else bif k == (5 : Int) then bif k == (5 : Int) then .need (True ∧ True ∧ True ∧ True ∧ True ∧ True) (.ret (Flds.mk false true false false true)) else bif k == (7 : Int) then bif k == (7 : Int) then .need (True ∧ True ∧ True ∧ True ∧ True ∧ True) (.ret (Flds.mk false true false false false)) else bif k == (10 : Int) then .need (True ∧ True ∧ True ∧ True ∧ True ∧ True) (.ret (Flds.mk false true false true false)) else .need (True ∧ True ∧ True ∧ True ∧ True ∧ True) (.ret (Flds.mk false false false false false)) else bif k == (9 : Int) then .need (True ∧ True ∧ True ∧ True ∧ True ∧ True) (.ret (Flds.mk false true false false false)) else bif k == (10 : Int) then .need (True ∧ True ∧ True ∧ True ∧ True ∧ True) (.ret (Flds.mk false true false true false)) else .need (True ∧ True ∧ True ∧ True ∧ True ∧ True) (.ret (Flds.mk false false false false false)) else bif k == (6 : Int) then .need (True ∧ True ∧ True ∧ True ∧ True ∧ True) (.ret (Flds.mk false true false false true)) else bif k == (7 : Int) then bif k == (7 : Int) then .need (True ∧ True ∧ True ∧ True ∧ True ∧ True) (.ret (Flds.mk false true false false false)) else bif k == (10 : Int) then .need (True ∧ True ∧ True ∧ True ∧ True ∧ True) (.ret (Flds.mk false true false true false)) else .need (True ∧ True ∧ True ∧ True ∧ True ∧ True) (.ret (Flds.mk false false false false false)) else bif k == (9 : Int) then .need (True ∧ True ∧ True ∧ True ∧ True ∧ True) (.ret (Flds.mk false true false false false)) else bif k == (10 : Int) then .need (True ∧ True ∧ True ∧ True ∧ True ∧ True) (.ret (Flds.mk false true false true false)) else .need (True ∧ True ∧ True ∧ True ∧ True ∧ True) (.ret (Flds.mk false false false false false))) := by kernel_rfl

theorem t64 (r : Req) : @Eq (Out (TyTup [.flds])) (aexec Tryz.prog codes sigs Tryz.f64 (pureFin [.flds]) 0 noCut 300 false (bodyOf Tryz.f64) (startS Tryz.f64 [⟨.req, r⟩])) (.need (True ∧ True ∧ True ∧ True ∧ True ∧ True) (.ret (Flds.mk (decide ((↑(List.length (Req.ids r)) : Int) > (0 : Int))) (Req.a r != (0 : Int)) (Req.b r != (0 : Int)) (Req.ver r != (0 : Int)) (Req.vol r != (0 : Int))))) := by kernel_rfl

theorem t65 (f g : Flds) : @Eq (Out (TyTup [.bool])) (aexec Tryz.prog codes sigs Tryz.f65 (pureFin [.bool]) 0 noCut 300 false (bodyOf Tryz.f65) (startS Tryz.f65 [⟨.flds, f⟩, ⟨.flds, g⟩])) (bif Flds.ids f then bif Flds.a f then bif Flds.b f then bif Flds.ver f then bif Flds.vol f then .need (True ∧ True) (.ret (Flds.ids g == Flds.ids f && (Flds.a g == Flds.a f && (Flds.b g == Flds.b f && (Flds.ver g == Flds.ver f && (Flds.vol g == Flds.vol f && true)))))) else .need (True ∧ True) (.ret (Flds.ids g == Flds.ids f && (Flds.a g == Flds.a f && (Flds.b g == Flds.b f && (Flds.ver g == Flds.ver f && (false == Flds.vol f && true)))))) else bif Flds.vol f then .need (True ∧ True) (.ret (Flds.ids g == Flds.ids f && (Flds.a g == Flds.a f && (Flds.b g == Flds.b f && (false == Flds.ver f && (Flds.vol g == Flds.vol f && true)))))) else .need (True ∧ True) (.ret (Flds.ids g == Flds.ids f && (Flds.a g == Flds.a f && (Flds.b g == Flds.b f && (false == Flds.ver f && (false == Flds.vol f && true)))))) else bif Flds.ver f then bif Flds.vol f then .need (True ∧ True) (.ret (Flds.ids g == Flds.ids f && (Flds.a g == Flds.a f && (false == Flds.b f && (Flds.ver g == Flds.ver f && (Flds.vol g == Flds.vol f && true)))))) else .need (True ∧ True) (.ret (Flds.ids g == Flds.ids f && (Flds.a g == Flds.a f && (false == Flds.b f && (Flds.ver g == Flds.ver f && (false == Flds.vol f && true)))))) else bif Flds.vol f then .need (True ∧ True) (.ret (Flds.ids g == Flds.ids f && (Flds.a g == Flds.a f && (false == Flds.b f && (false == Flds.ver f && (Flds.vol g == Flds.vol f && true)))))) else .need (True ∧ True) (.ret (Flds.ids g == Flds.ids f && (Flds.a g == Flds.a f && (false == Flds.b f && (false == Flds.ver f && (false == Flds.vol f && true)))))) else bif Flds.b f then bif Flds.ver f then bif Flds.vol f then .need (True ∧ True) (.ret (Flds.ids g == Flds.ids f && (false == Flds.a f && (Flds.b g == Flds.b f && (Flds.ver g == Flds.ver f && (Flds.vol g == Flds.vol f && true)))))) else .need (True ∧ True) (.ret (Flds.ids g == Flds.ids f && (false == Flds.a f && (Flds.b g == Flds.b f && (Flds.ver g == Flds.ver f && (false == Flds.vol f && true)))))) else bif Flds.vol f then .need (True ∧ True) (.ret (Flds.ids g == Flds.ids f && (false == Flds.a f && (Flds.b g == Flds.b f && (false == Flds.ver f && (Flds.vol g == Flds.vol f && true)))))) else .need (True ∧ True) (.ret (Flds.ids g == Flds.ids f && (false == Flds.a f && (Flds.b g == Flds.b f && (false == Flds.ver f && (false == Flds.vol f && true)))))) else bif Flds.ver f then bif Flds.vol f then .need (True ∧ True) (.ret (Flds.ids g == Flds.ids f && (false == Flds.a f && (false == Flds.b f && (Flds.ver g == Flds.ver f && (Flds.vol g == Flds.vol f && true)))))) else .need (True ∧ True) (.ret (Flds.ids g == Flds.ids f && (false == Flds.a f && (false == Flds.b f && (Flds.ver g == Flds.ver f && (false == Flds.vol f && true)))))) else bif Flds.vol f then .need (True ∧ True) (.ret (Flds.ids g == Flds.ids f && (false == Flds.a f && (false == Flds.b f && (false == Flds.ver f && (Flds.vol g == Flds.vol f && true)))))) else .need (True ∧ True) (.ret (Flds.ids g == Flds.ids f && (false == Flds.a f && (false == Flds.b f && (false == Flds.ver f && (false == Flds.vol f && true)))))) else bif Flds.a f then bif Flds.b f then bif Flds.ver f then bif Flds.vol f then .need (True ∧ True) (.ret (false == Flds.ids f && (Flds.a g == Flds.a f && (Flds.b g == Flds.b f && (Flds.ver g == Flds.ver f && (Flds.vol g == Flds.vol f && true)))))) else .need (True ∧ True) (.ret (false == Flds.ids f && (Flds.a g == Flds.a f && (Flds.b g == Flds.b f && (Flds.ver g == Flds.ver f && (false == Flds.vol f && true)))))) else bif Flds.vol f then .need (True ∧ True) (.ret (false == Flds.ids f && (Flds.a g == Flds.a f && (Flds.b g == Flds.b f && (false == Flds.ver f && (Flds.vol g == Flds.vol f && true)))))) else .need (True ∧ True) (.ret (false == Flds.ids f && (Flds.a g == Flds.a f && (Flds.b g == Flds.b f && (false == Flds.ver f && (false == Flds.vol f && true)))))) else bif Flds.ver f then bif Flds.vol f then .need (True ∧ True) (.ret (false == Flds.ids f && (Flds.a g == Flds.a f && (false == Flds.b f && (Flds.ver g == Flds.ver f && (Flds.vol g == Flds.vol f && true)))))) else .need (True ∧ True) (.ret (false == Flds.ids f && (Flds.a g == Flds.a f && (false == Flds.b f && (Flds.ver g == Flds.ver f && (false == Flds.vol f && true)))))) else bif Flds.vol f then .need (True ∧ True) (.ret (false == Flds.ids f && (Flds.a g == Flds.a f && (false == Flds.b f && (false == Flds.ver f && (Flds.vol g == Flds.vol f && true)))))) else .need (True ∧ True) (.ret (false == Flds.ids f && (Flds.a g == Flds.a f && (false == Flds.b f && (false == Flds.ver f && (false == Flds.vol f && true)))))) else bif Flds.b f then bif Flds.ver f then bif Flds.vol f then .need (True ∧ True) (.ret (false == Flds.ids f && (false == Flds.a f && (Flds.b g == Flds.b f && (Flds.ver g == Flds.ver f && (Flds.vol g == Flds.vol f && true)))))) else .need (True ∧ True) (.ret (false == Flds.ids f && (false == Flds.a f && (Flds.b g == Flds.b f && (Flds.ver g == Flds.ver f && (false == Flds.vol f && true)))))) else bif Flds.vol f then .need (True ∧ True) (.ret (false == Flds.ids f && (false == Flds.a f && (Flds.b g == Flds.b f && (false == Flds.ver f && (Flds.vol g == Flds.vol f && true)))))) else .need (True ∧ True) (.ret (false == Flds.ids f && (false == Flds.a f && (Flds.b g == Flds.b f && (false == Flds.ver f && (false == Flds.vol f && true)))))) else bif Flds.ver f then bif Flds.vol f then .need (True ∧ True) (.ret (false == Flds.ids f && (false == Flds.a f && (false == Flds.b f && (Flds.ver g == Flds.ver f && (Flds.vol g == Flds.vol f && true)))))) else .need (True ∧ True) (.ret (false == Flds.ids f && (false == Flds.a f && (false == Flds.b f && (Flds.ver g == Flds.ver f && (false == Flds.vol f && true)))))) else bif Flds.vol f then .need (True ∧ True) (.ret (false == Flds.ids f && (false == Flds.a f && (false == Flds.b f && (false == Flds.ver f && (Flds.vol g == Flds.vol f && true)))))) else .need (True ∧ True) (.ret (false == Flds.ids f && (false == Flds.a f && (false == Flds.b f && (false == Flds.ver f && (false == Flds.vol f && true))))))) := by kernel_rfl

theorem t62 (e : Int) : @Eq (Out (TyTup [.resp])) (aexec Tryz.prog codes sigs Tryz.f62 (pureFin [.resp]) 0 noCut 300 false (bodyOf Tryz.f62) (startS Tryz.f62 [⟨.int, e⟩])) (.need (True ∧ True ∧ True ∧ True ∧ True ∧ True) (.ret (Resp.mk e (0 : Int) (0 : Int) (0 : Int) []))) := by kernel_rfl

theorem t69 (e i : Int) : @Eq (Out (TyTup [.resp])) (aexec Tryz.prog codes sigs Tryz.f69 (pureFin [.resp]) 0 noCut 300 false (bodyOf Tryz.f69) (startS Tryz.f69 [⟨.int, e⟩, ⟨.int, i⟩])) (.need (True ∧ True ∧ True ∧ True ∧ True ∧ True) (.ret (Resp.mk e i (0 : Int) (0 : Int) []))) := by kernel_rfl

theorem t71 (e i : Int) : @Eq (Out (TyTup [.resp])) (aexec Tryz.prog codes sigs Tryz.f71 (pureFin [.resp]) 0 noCut 300 false (bodyOf Tryz.f71) (startS Tryz.f71 [⟨.int, e⟩, ⟨.int, i⟩])) (.need (True ∧ True ∧ True ∧ True ∧ True ∧ True) (.ret (Resp.mk e i (0 : Int) (0 : Int) []))) := by kernel_rfl

theorem t68 (d : Deck) (i : Int) : @Eq (Out (TyTup [.int])) (aexec Tryz.prog codes sigs Tryz.f68 (pureFin [.int]) 0 noCut 300 false (bodyOf Tryz.f68) (startS Tryz.f68 [⟨.deck, d⟩, ⟨.int, i⟩])) (.need ((True ∧ True ∧ True ∧ True ∧ True) ∧ (True ∧ True) ∧ True) (.callP 130 [⟨.deck, d⟩, ⟨.int, i⟩] [.part, .int] fun (x : Part × Int) => .need (True ∧ True) (.ret (Part.kind (Prod.fst x))))) := by kernel_rfl

theorem t74 (d : Deck) (i : Int) : @Eq (Out (TyTup [.int])) (aexec Tryz.prog codes sigs Tryz.f74 (pureFin [.int]) 0 noCut 300 false (bodyOf Tryz.f74) (startS Tryz.f74 [⟨.deck, d⟩, ⟨.int, i⟩])) (.need ((True ∧ True ∧ True ∧ True ∧ True) ∧ (True ∧ True) ∧ True) (.callP 132 [⟨.deck, d⟩, ⟨.int, i⟩] [.part, .int] fun (x : Part × Int) => bif Prod.snd x != (0 : Int) then .need (True ∧ True) (.ret (0 : Int)) else .need (True ∧ True) (.ret (Part.kind (Prod.fst x))))) := by kernel_rfl

theorem t72 (k : Int) : @Eq (Out (TyTup [.b5])) (aexec Tryz.prog codes sigs Tryz.f72 (pureFin [.b5]) 0 noCut 300 false (bodyOf Tryz.f72) (startS Tryz.f72 [⟨.int, k⟩])) (bif k == (1 : Int) then bif k == (1 : Int) then .need (True ∧ True ∧ True ∧ True ∧ True ∧ True) (.ret (Flds.mk true false false false false)) else bif k == (4 : Int) then .need (True ∧ True ∧ True ∧ True ∧ True ∧ True) (.ret (Flds.mk false true true false true)) else bif k == (5 : Int) then bif k == (5 : Int) then .need (True ∧ True ∧ True ∧ True ∧ True ∧ True) (.ret (Flds.mk false true false false true)) else bif k == (7 : Int) then bif k == (7 : Int) then .need (True ∧ True ∧ True ∧ True ∧ True ∧ True) (.ret (Flds.mk false true false false false)) else bif k == (10 : Int) then .need (True ∧ True ∧ True ∧ True ∧ True ∧ True) (.ret (Flds.mk false true false true false)) else .need (True ∧ True ∧ True ∧ True ∧ True ∧ True) (.ret (Flds.mk false false false false false)) else bif k == (9 : Int) then .need (True ∧ True ∧ True ∧ True ∧ True ∧ True) (.ret (Flds.mk false true false false false)) else bif k == (10 : Int) then .need (True ∧ True ∧ True ∧ True ∧ True ∧ True) (.ret (Flds.mk false true false true false)) else .need (True ∧ True ∧ True ∧ True ∧ True ∧ True) (.ret (Flds.mk false false false false false)) else bif k == (6 : Int) then .need (True ∧ True ∧ True ∧ True ∧ True ∧ True) (.ret (Flds.mk false true false false true)) else bif k == (7 : Int) then bif k == (7 : Int) then .need (True ∧ True ∧ True ∧ True ∧ True ∧ True) (.ret (Flds.mk false true false false false)) else bif k == (10 : Int) then .need (True ∧ True ∧ True ∧ True ∧ True ∧ True) (.ret (Flds.mk false true false true false)) else .need (True ∧ True ∧ True ∧ True ∧ True ∧ True) (.ret (Flds.mk false false false false false)) else bif k == (9 : Int) then .need (True ∧ True ∧ True ∧ True ∧ True ∧ True) (.ret (Flds.mk false true false false false)) else bif k == (10 : Int) then .need (True ∧ True ∧ True ∧ True ∧ True ∧ True) (.ret (Flds.mk false true false true false)) else .need (True ∧ True ∧ True ∧ True ∧ True ∧ True) (.ret (Flds.mk false false false false false)) else bif k == (2 : Int) then .need (True ∧ True ∧ True ∧ True ∧ True ∧ True) (.ret (Flds.mk true false false false false)) else bif k == (4 : Int) then .need (True ∧ True ∧ True ∧ True ∧ True ∧ True) (.ret (Flds.mk false true true false true)) else bif k == (5 : Int) then bif k == (5 : Int) then .need (True ∧ True ∧ True ∧ True ∧ True ∧ True) (.ret (Flds.mk false true false false true)) else bif k == (7 : Int) then bif k == (7 : Int) then .need (True ∧ True ∧ True ∧ True ∧ True ∧ True) (.ret (Flds.mk false true false false false)) else bif k == (10 : Int) then .need (True ∧ True ∧ True ∧ True ∧ True ∧ True) (.ret (Flds.mk false true false true false)) else .need (True ∧ True ∧ True ∧ True ∧ True ∧ True) (.ret (Flds.mk false false false false false)) else bif k == (9 : Int) then .need (True ∧ True ∧ True ∧ True ∧ True ∧ True) (.ret (Flds.mk false true false false false)) else bif k == (10 : Int) then .need (True ∧ True ∧ True ∧ True ∧ True ∧ True) (.ret (Flds.mk false true false true false)) else .need (True ∧ True ∧ True ∧ True ∧ True ∧ True) (.ret (Flds.mk false false false false false)) else bif k == (6 : Int) then .need (True ∧ True ∧ True ∧ True ∧ True ∧ True) (.ret (Flds.mk false true false false true)) else bif k == (7 : Int) then bif k == (7 : Int) then .need (True ∧ True ∧ True ∧ True ∧ True ∧ True) (.ret (Flds.mk false true false false false)) else bif k == (10 : Int) then .need (True ∧ True ∧ True ∧ True ∧ True ∧ True) (.ret (Flds.mk false true false true false)) else .need (True ∧ True ∧ True ∧ True ∧ True ∧ True) (.ret (Flds.mk false false false false false)) else bif k == (9 : Int) then .need (True ∧ True ∧ True ∧ True ∧ True ∧ True) (.ret (Flds.mk false true false false false)) else bif k == (10 : Int) then .need (True ∧ True ∧ True ∧ True ∧ True ∧ True) (.ret (Flds.mk false true false true false)) else .need (True ∧ True ∧ True ∧ True ∧ True ∧ True) (.ret (Flds.mk false false false false false))) := by kernel_rfl

theorem t15 (r : Req) : @Eq (Out (TyTup [.int, .int])) (aexec Tryz.prog codes sigs Tryz.f15 (pureFin [.int, .int]) 0 noCut 300 false (bodyOf Tryz.f15) (startS Tryz.f15 [⟨.req, r⟩])) (Out.callX 58 [.d (.v (.int .u64 (Req.vol r)))] (.d (.f (some (Int.toNat (Req.vol r))))) (.need ((True ∧ True) ∧ True) (.callP 57 [Sigma.mk .flt (some (Int.toNat (Req.vol r)))] [.int, .int] fun (x : Int × Int) => bif Prod.snd x == (0 : Int) then bif Prod.fst x == (0 : Int) then .need ((True ∧ True) ∧ True ∧ True) (.ret ((0 : Int), (1 : Int))) else .need ((True ∧ True) ∧ True ∧ True) (.ret (Prod.fst x, Prod.snd x)) else .need ((True ∧ True) ∧ True ∧ True) (.ret (Prod.fst x, Prod.snd x))))) := by kernel_rfl

theorem t16 (r : Req) : @Eq (Out (TyTup [.int, .int])) (aexec Tryz.prog codes sigs Tryz.f16 (pureFin [.int, .int]) 0 noCut 300 false (bodyOf Tryz.f16) (startS Tryz.f16 [⟨.req, r⟩])) (.need ((True ∧ True) ∧ True) (.callP 59 [Sigma.mk .u64 (Req.vol r)] [.int, .int] fun (x : Int × Int) => bif Prod.snd x == (0 : Int) then bif Prod.fst x == (0 : Int) then .need ((True ∧ True) ∧ True ∧ True) (.ret ((0 : Int), (1 : Int))) else .need ((True ∧ True) ∧ True ∧ True) (.ret (Prod.fst x, Prod.snd x)) else .need ((True ∧ True) ∧ True ∧ True) (.ret (Prod.fst x, Prod.snd x)))) := by kernel_rfl

theorem t75 (d : Deck) (r : Req) : @Eq (Out (TyTup [.bool])) (aexec Tryz.prog codes sigs Tryz.f75 (pureFin [.bool]) 0 noCut 300 false (bodyOf Tryz.f75) (startS Tryz.f75 [⟨.deck, d⟩, ⟨.req, r⟩])) (.need ((True ∧ True ∧ True ∧ True ∧ True) ∧ (True ∧ True ∧ True ∧ True ∧ True ∧ True ∧ True) ∧ True) (.callP 18 [⟨.deck, d⟩, ⟨.req, r⟩] [.resp] fun (x : Resp) => .need (True ∧ True) (.ret (Resp.err x == (0 : Int))))) := by kernel_rfl

theorem t17 (a b : Resp) : @Eq (Out (TyTup [.bool])) (aexec Tryz.prog codes sigs Tryz.f17 (pureFin [.bool]) 0 noCut 300 false (bodyOf Tryz.f17) (startS Tryz.f17 [⟨.resp, a⟩, ⟨.resp, b⟩])) (bif Resp.err a == Resp.err b then bif Resp.id a == Resp.id b then bif Resp.n a == Resp.n b then bif Resp.ver a == Resp.ver b then .need ((True ∧ True) ∧ (True ∧ True) ∧ True) (.callP 60 [Sigma.mk (.sl .change) (Resp.list a), Sigma.mk (.sl .change) (Resp.list b)] [.bool] fun (x : Bool) => .need (True ∧ True) (.ret x)) else .need (True ∧ True) (.ret false) else .need (True ∧ True) (.ret false) else .need (True ∧ True) (.ret false) else .need (True ∧ True) (.ret false)) := by kernel_rfl

theorem t60 (a b : List Change) : @Eq (Out (TyTup [.bool])) (aexec Tryz.prog codes sigs Tryz.f60 (pureFin [.bool]) 0 noCut 300 false (bodyOf Tryz.f60) (startS Tryz.f60 [⟨.sl .change, a⟩, ⟨.sl .change, b⟩])) (bif (a.length : Int) != (b.length : Int) then .need (True ∧ True) (.ret false) else .stop (hd Tryz.f60 0) (mkS 26 [(0, .d (.sl .change a)), (1, .d (.sl .change b)), (5, .d (.v (.int .i64 (0 : Int))))] [] 0)) := by kernel_rfl

theorem t66 (d : Deck) (l : List Int) : @Eq (Out (TyTup [.resp])) (aexec Tryz.prog codes sigs Tryz.f66 (pureFin [.resp]) 0 noCut 300 false (bodyOf Tryz.f66) (startS Tryz.f66 [⟨.deck, d⟩, ⟨.sl .int, l⟩])) (bif (l.length : Int) == (0 : Int) then .need ((True ∧ True) ∧ True) (.callP 62 [Sigma.mk .int (1 : Int)] [.resp] fun (x : Resp) => .need (True ∧ True ∧ True ∧ True ∧ True ∧ True) (.ret x)) else bif decide ((l.length : Int) > (16 : Int)) then .need ((True ∧ True) ∧ True) (.callP 62 [Sigma.mk .int (2 : Int)] [.resp] fun (x : Resp) => .need (True ∧ True ∧ True ∧ True ∧ True ∧ True) (.ret x)) else .need ((True ∧ True) ∧ True) (.callP 128 [Sigma.mk (.sl .int) l] [.int] fun (x : Int) => bif decide (x ≥ (0 : Int)) then .need (((0 : Int) ≤ x ∧ x < (l.length : Int)) ∧ True) (.need ((True ∧ True) ∧ (True ∧ True) ∧ True) (.callP 69 [Sigma.mk .int (152 : Int), Sigma.mk .int (l.getD x.toNat Ty.int.dflt)] [.resp] fun (x : Resp) => .need (True ∧ True ∧ True ∧ True ∧ True ∧ True) (.ret x))) else .stop (hd Tryz.f66 0) (mkS 41 [(2, .ptr 0 0), (4, .ptr 1 0), (27, .d (.sl .int l)), (28, .d (.v (.int .i64 (l.length : Int)))), (29, .d (.v (.int .i64 (0 : Int))))] [(0, .box [.d (.sl .flt (Deck.borders d)), .d (.sl .plate (Deck.plates d)), .d (.sl .rack (Deck.racks d)), .d (.v (.int .i64 (Deck.arms d)))]), (1, .box [.d (.v (.int .i64 (0 : Int))), .d (.v (.int .i64 (0 : Int))), .d (.v (.int .i64 (0 : Int))), .d (.v (.int .i64 (0 : Int))), .d (.v (.slice none 0 0))])] 2))) := by kernel_rfl

theorem t73 (d : Deck) (l : List Int) : @Eq (Out (TyTup [.resp])) (aexec Tryz.prog codes sigs Tryz.f73 (pureFin [.resp]) 0 noCut 300 false (bodyOf Tryz.f73) (startS Tryz.f73 [⟨.deck, d⟩, ⟨.sl .int, l⟩])) (bif (l.length : Int) == (0 : Int) then .need ((True ∧ True) ∧ (True ∧ True) ∧ True) (.callP 71 [Sigma.mk .int (1 : Int), Sigma.mk .int (0 : Int)] [.resp] fun (x : Resp) => .need (True ∧ True ∧ True ∧ True ∧ True ∧ True) (.ret x)) else bif decide ((l.length : Int) > (16 : Int)) then .need ((True ∧ True) ∧ (True ∧ True) ∧ True) (.callP 71 [Sigma.mk .int (2 : Int), Sigma.mk .int (0 : Int)] [.resp] fun (x : Resp) => .need (True ∧ True ∧ True ∧ True ∧ True ∧ True) (.ret x)) else .need ((True ∧ True) ∧ True) (.callP 114 [Sigma.mk (.sl .int) l] [.int] fun (x : Int) => bif decide (x ≥ (0 : Int)) then .need (((0 : Int) ≤ x ∧ x < (l.length : Int)) ∧ True) (.need ((True ∧ True) ∧ (True ∧ True) ∧ True) (.callP 71 [Sigma.mk .int (152 : Int), Sigma.mk .int (l.getD x.toNat Ty.int.dflt)] [.resp] fun (x : Resp) => .need (True ∧ True ∧ True ∧ True ∧ True ∧ True) (.ret x))) else .stop (hd Tryz.f73 0) (mkS 43 [(1, .d (.sl .int l)), (2, .ptr 0 0), (4, .ptr 1 0), (6, .d (.v (.int .i64 (0 : Int))))] [(0, .box [.d (.sl .flt (Deck.borders d)), .d (.sl .plate (Deck.plates d)), .d (.sl .rack (Deck.racks d)), .d (.v (.int .i64 (Deck.arms d)))]), (1, .box [.d (.v (.int .i64 (0 : Int))), .d (.v (.int .i64 (0 : Int))), .d (.v (.int .i64 (0 : Int))), .d (.v (.int .i64 (0 : Int))), .d (.v (.slice none 0 0))])] 2))) := by kernel_rfl

theorem t128 (l : List Int) : @Eq (Out (TyTup [.int])) (aexec Tryz.prog codes sigs Tryz.f128 (pureFin [.int]) 0 noCut 300 false (bodyOf Tryz.f128) (startS Tryz.f128 [⟨.sl .int, l⟩])) (.stop (hd Tryz.f128 0) (mkS 28 [(3, .mp 0), (9, .d (.sl .int l)), (10, .d (.v (.int .i64 (l.length : Int)))), (11, .d (.v (.int .i64 (0 : Int))))] [(0, .mp .int .int [])] 1)) := by kernel_rfl

theorem t114 (l : List Int) : @Eq (Out (TyTup [.int])) (aexec Tryz.prog codes sigs Tryz.f114 (pureFin [.int]) 0 noCut 300 false (bodyOf Tryz.f114) (startS Tryz.f114 [⟨.sl .int, l⟩])) (.stop (hd Tryz.f114 0) (mkS 19 [(0, .d (.sl .int l)), (3, .d (.v (.int .i64 (0 : Int))))] [] 0)) := by kernel_rfl

theorem t77 (l : List Int) : @Eq (Out (TyTup [.sl .int])) (aexec Tryz.prog codes sigs Tryz.f77 (pureFin [.sl .int]) 0 noCut 300 false (bodyOf Tryz.f77) (startS Tryz.f77 [⟨.sl .int, l⟩])) (.stop (hd Tryz.f77 0) (mkS 18 [(0, .d (.sl .int l)), (3, .d (.v (.slice none 0 0))), (4, .d (.v (.int .i64 (0 : Int))))] [] 0)) := by kernel_rfl

theorem t76 (d : Deck) (r : Req) : @Eq (Out (TyTup [.sl .int])) (aexec Tryz.prog codes sigs Tryz.f76 (pureFin [.sl .int]) 0 noCut 300 false (bodyOf Tryz.f76) (startS Tryz.f76 [⟨.deck, d⟩, ⟨.req, r⟩])) (bif Req.kind r == (2 : Int) then .need ((True ∧ True) ∧ True) (.callP 81 [Sigma.mk (.sl .int) (Req.ids r)] [.sl .int] fun (x : List Int) => .need (True ∧ True) (.ret x)) else bif Req.kind r == (4 : Int) then .need ((True ∧ True ∧ True ∧ True ∧ True) ∧ (True ∧ True) ∧ (True ∧ True) ∧ True) (.callP 133 [⟨.deck, d⟩, Sigma.mk .int (Req.a r), Sigma.mk .int (Req.b r)] [.sl .int, .int] fun (x : List Int × Int) => .need ((True ∧ True) ∧ (True ∧ True) ∧ True) (.need ((True ∧ True) ∧ True) (.callP 81 [Sigma.mk (.sl .int) [Req.a r, Req.b r]] [.sl .int] fun (x_1 : List Int) => .need ((True ∧ True) ∧ (True ∧ True) ∧ True) (.callP 134 [Sigma.mk (.sl .int) (Prod.fst x), Sigma.mk (.sl .int) x_1] [.sl .int] fun (x : List Int) => .need (True ∧ True) (.ret x))))) else bif Req.kind r == (5 : Int) then bif Req.kind r == (5 : Int) then .need ((True ∧ True) ∧ True) (.need ((True ∧ True ∧ True ∧ True ∧ True) ∧ (True ∧ True) ∧ True) (.callP 135 [⟨.deck, d⟩, Sigma.mk (.sl .int) [Req.a r]] [.sl .int, .int] fun (x : List Int × Int) => .need ((True ∧ True) ∧ True) (.need ((True ∧ True) ∧ (True ∧ True) ∧ True) (.callP 134 [Sigma.mk (.sl .int) (Prod.fst x), Sigma.mk (.sl .int) [Req.a r]] [.sl .int] fun (x : List Int) => .need (True ∧ True) (.ret x))))) else .need (True ∧ True) (.ret []) else bif Req.kind r == (6 : Int) then bif Req.kind r == (6 : Int) then .need ((True ∧ True) ∧ True) (.need ((True ∧ True ∧ True ∧ True ∧ True) ∧ (True ∧ True) ∧ True) (.callP 135 [⟨.deck, d⟩, Sigma.mk (.sl .int) [Req.a r]] [.sl .int, .int] fun (x : List Int × Int) => .need ((True ∧ True) ∧ True) (.need ((True ∧ True) ∧ (True ∧ True) ∧ True) (.callP 134 [Sigma.mk (.sl .int) (Prod.fst x), Sigma.mk (.sl .int) [Req.a r]] [.sl .int] fun (x : List Int) => .need (True ∧ True) (.ret x))))) else .need (True ∧ True) (.ret []) else bif Req.kind r == (7 : Int) then .need ((True ∧ True) ∧ True) (.need ((True ∧ True ∧ True ∧ True ∧ True) ∧ (True ∧ True) ∧ True) (.callP 135 [⟨.deck, d⟩, Sigma.mk (.sl .int) [Req.a r]] [.sl .int, .int] fun (x : List Int × Int) => .need ((True ∧ True) ∧ True) (.need ((True ∧ True) ∧ (True ∧ True) ∧ True) (.callP 134 [Sigma.mk (.sl .int) (Prod.fst x), Sigma.mk (.sl .int) [Req.a r]] [.sl .int] fun (x : List Int) => .need (True ∧ True) (.ret x))))) else .need (True ∧ True) (.ret [])) := by kernel_rfl

theorem t21 (d : Deck) (r : Req) : @Eq (Out (TyTup [.sl .int])) (aexec Tryz.prog codes sigs Tryz.f21 (pureFin [.sl .int]) 0 noCut 300 false (bodyOf Tryz.f21) (startS Tryz.f21 [⟨.deck, d⟩, ⟨.req, r⟩])) (.need ((True ∧ True ∧ True ∧ True ∧ True) ∧ (True ∧ True ∧ True ∧ True ∧ True ∧ True ∧ True) ∧ True) (.callP 75 [⟨.deck, d⟩, ⟨.req, r⟩] [.bool] fun (x : Bool) => bif !x then .need (True ∧ True) (.ret []) else .need ((True ∧ True ∧ True ∧ True ∧ True) ∧ (True ∧ True ∧ True ∧ True ∧ True ∧ True ∧ True) ∧ True) (.callP 76 [⟨.deck, d⟩, ⟨.req, r⟩] [.sl .int] fun (x : List Int) => .need (True ∧ True) (.ret x)))) := by kernel_rfl

theorem t22 (d : Deck) (r : Req) : @Eq (Out (TyTup [.sl .int])) (aexec Tryz.prog codes sigs Tryz.f22 (pureFin [.sl .int]) 0 noCut 300 false (bodyOf Tryz.f22) (startS Tryz.f22 [⟨.deck, d⟩, ⟨.req, r⟩])) (.need ((True ∧ True ∧ True ∧ True ∧ True) ∧ (True ∧ True ∧ True ∧ True ∧ True ∧ True ∧ True) ∧ True) (.callP 19 [⟨.deck, d⟩, ⟨.req, r⟩] [.resp] fun (x : Resp) => bif Resp.err x != (0 : Int) then .need (True ∧ True) (.ret []) else bif Req.kind r == (2 : Int) then .need ((True ∧ True) ∧ True) (.callP 77 [Sigma.mk (.sl .int) (Req.ids r)] [.sl .int] fun (x : List Int) => .need (True ∧ True) (.ret x)) else bif Req.kind r == (4 : Int) then .need ((True ∧ True ∧ True ∧ True ∧ True) ∧ (True ∧ True) ∧ (True ∧ True) ∧ True) (.callP 78 [⟨.deck, d⟩, Sigma.mk .int (Req.a r), Sigma.mk .int (Req.b r)] [.sl .int, .int] fun (x : List Int × Int) => .need ((True ∧ True) ∧ (True ∧ True) ∧ True) (.callP 79 [Sigma.mk (.sl .int) (Prod.fst x), Sigma.mk .int (Req.a r)] [.sl .int] fun (x : List Int) => .need ((True ∧ True) ∧ (True ∧ True) ∧ True) (.callP 79 [Sigma.mk (.sl .int) x, Sigma.mk .int (Req.b r)] [.sl .int] fun (x : List Int) => .need (True ∧ True) (.ret x)))) else bif Req.kind r == (5 : Int) then bif Req.kind r == (5 : Int) then .need ((True ∧ True) ∧ True) (.need ((True ∧ True ∧ True ∧ True ∧ True) ∧ (True ∧ True) ∧ True) (.callP 80 [⟨.deck, d⟩, Sigma.mk (.sl .int) [Req.a r]] [.sl .int, .int] fun (x : List Int × Int) => .need ((True ∧ True) ∧ (True ∧ True) ∧ True) (.callP 79 [Sigma.mk (.sl .int) (Prod.fst x), Sigma.mk .int (Req.a r)] [.sl .int] fun (x : List Int) => .need (True ∧ True) (.ret x)))) else .need (True ∧ True) (.ret []) else bif Req.kind r == (6 : Int) then bif Req.kind r == (6 : Int) then .need ((True ∧ True) ∧ True) (.need ((True ∧ True ∧ True ∧ True ∧ True) ∧ (True ∧ True) ∧ True) (.callP 80 [⟨.deck, d⟩, Sigma.mk (.sl .int) [Req.a r]] [.sl .int, .int] fun (x : List Int × Int) => .need ((True ∧ True) ∧ (True ∧ True) ∧ True) (.callP 79 [Sigma.mk (.sl .int) (Prod.fst x), Sigma.mk .int (Req.a r)] [.sl .int] fun (x : List Int) => .need (True ∧ True) (.ret x)))) else .need (True ∧ True) (.ret []) else bif Req.kind r == (7 : Int) then .need ((True ∧ True) ∧ True) (.need ((True ∧ True ∧ True ∧ True ∧ True) ∧ (True ∧ True) ∧ True) (.callP 80 [⟨.deck, d⟩, Sigma.mk (.sl .int) [Req.a r]] [.sl .int, .int] fun (x : List Int × Int) => .need ((True ∧ True) ∧ (True ∧ True) ∧ True) (.callP 79 [Sigma.mk (.sl .int) (Prod.fst x), Sigma.mk .int (Req.a r)] [.sl .int] fun (x : List Int) => .need (True ∧ True) (.ret x)))) else .need (True ∧ True) (.ret []))) := by kernel_rfl

theorem t23 (d : Deck) (r : Req) (o : List Int) (h : Int) : @Eq (Out (TyTup [.sl .int])) (aexec Tryz.prog codes sigs Tryz.f23 (pureFin [.sl .int]) 0 noCut 300 false (bodyOf Tryz.f23) (startS Tryz.f23 [⟨.deck, d⟩, ⟨.req, r⟩, ⟨.sl .int, o⟩, ⟨.int, h⟩])) (.need ((True ∧ True ∧ True ∧ True ∧ True) ∧ (True ∧ True ∧ True ∧ True ∧ True ∧ True ∧ True) ∧ True) (.callP 75 [⟨.deck, d⟩, ⟨.req, r⟩] [.bool] fun (x : Bool) => bif !x then .need (True ∧ True) (.ret []) else bif Req.kind r == (1 : Int) then .need ((True ∧ True) ∧ True) (.callP 81 [Sigma.mk (.sl .int) (Req.ids r)] [.sl .int] fun (x : List Int) => .need (True ∧ True) (.ret x)) else bif Req.kind r == (3 : Int) then .need ((True ∧ True) ∧ True) (.callP 81 [Sigma.mk (.sl .int) o] [.sl .int] fun (x : List Int) => .need (True ∧ True) (.ret x)) else bif Req.kind r == (8 : Int) then bif decide (h < (0 : Int)) then .need (True ∧ True) (.ret []) else .need ((True ∧ True) ∧ True) (.need (True ∧ True) (.ret [h])) else bif Req.kind r == (9 : Int) then bif Req.kind r == (9 : Int) then .need ((True ∧ True) ∧ True) (.need (True ∧ True) (.ret [Req.a r])) else .need ((True ∧ True ∧ True ∧ True ∧ True) ∧ (True ∧ True ∧ True ∧ True ∧ True ∧ True ∧ True) ∧ True) (.callP 76 [⟨.deck, d⟩, ⟨.req, r⟩] [.sl .int] fun (x : List Int) => .need (True ∧ True) (.ret x)) else bif Req.kind r == (10 : Int) then .need ((True ∧ True) ∧ True) (.need (True ∧ True) (.ret [Req.a r])) else .need ((True ∧ True ∧ True ∧ True ∧ True) ∧ (True ∧ True ∧ True ∧ True ∧ True ∧ True ∧ True) ∧ True) (.callP 76 [⟨.deck, d⟩, ⟨.req, r⟩] [.sl .int] fun (x : List Int) => .need (True ∧ True) (.ret x)))) := by kernel_rfl

theorem t24 (d : Deck) (r : Req) (o : List Int) (h : Int) : @Eq (Out (TyTup [.sl .int])) (aexec Tryz.prog codes sigs Tryz.f24 (pureFin [.sl .int]) 0 noCut 300 false (bodyOf Tryz.f24) (startS Tryz.f24 [⟨.deck, d⟩, ⟨.req, r⟩, ⟨.sl .int, o⟩, ⟨.int, h⟩])) (.need ((True ∧ True ∧ True ∧ True ∧ True) ∧ (True ∧ True ∧ True ∧ True ∧ True ∧ True ∧ True) ∧ True) (.callP 19 [⟨.deck, d⟩, ⟨.req, r⟩] [.resp] fun (x : Resp) => bif Resp.err x != (0 : Int) then .need (True ∧ True) (.ret []) else bif Req.kind r == (1 : Int) then .need ((True ∧ True) ∧ True) (.callP 77 [Sigma.mk (.sl .int) (Req.ids r)] [.sl .int] fun (x : List Int) => .need (True ∧ True) (.ret x)) else bif Req.kind r == (3 : Int) then .need ((True ∧ True) ∧ True) (.callP 77 [Sigma.mk (.sl .int) o] [.sl .int] fun (x : List Int) => .need (True ∧ True) (.ret x)) else bif Req.kind r == (8 : Int) then bif decide (h < (0 : Int)) then .need (True ∧ True) (.ret []) else .need ((True ∧ True) ∧ True) (.need (True ∧ True) (.ret [h])) else bif Req.kind r == (9 : Int) then bif Req.kind r == (9 : Int) then .need ((True ∧ True) ∧ True) (.need (True ∧ True) (.ret [Req.a r])) else .need ((True ∧ True ∧ True ∧ True ∧ True) ∧ (True ∧ True ∧ True ∧ True ∧ True ∧ True ∧ True) ∧ True) (.callP 22 [⟨.deck, d⟩, ⟨.req, r⟩] [.sl .int] fun (x : List Int) => .need (True ∧ True) (.ret x)) else bif Req.kind r == (10 : Int) then .need ((True ∧ True) ∧ True) (.need (True ∧ True) (.ret [Req.a r])) else .need ((True ∧ True ∧ True ∧ True ∧ True) ∧ (True ∧ True ∧ True ∧ True ∧ True ∧ True ∧ True) ∧ True) (.callP 22 [⟨.deck, d⟩, ⟨.req, r⟩] [.sl .int] fun (x : List Int) => .need (True ∧ True) (.ret x)))) := by kernel_rfl

theorem t13 (d : Deck) (r : Req) : @Eq (Out (TyTup [.bool])) (aexec Tryz.prog codes sigs Tryz.f13 (pureFin [.bool]) 0 noCut 300 false (bodyOf Tryz.f13) (startS Tryz.f13 [⟨.deck, d⟩, ⟨.req, r⟩])) (.need ((True ∧ True ∧ True ∧ True ∧ True) ∧ True) (.callP 25 [⟨.deck, d⟩] [.bool] fun (x : Bool) => bif x then .need (True ∧ True) (.ret true) else .need (True ∧ True) (.ret (decide ((↑(List.length (Req.ids r)) : Int) > (100 : Int)))))) := by kernel_rfl

theorem t121 (m e : Int) : @Eq (Out (TyTup [.int])) (aexec Tryz.prog codes sigs Tryz.f121 (pureFin [.int]) 0 noCut 300 false (bodyOf Tryz.f121) (startS Tryz.f121 [⟨.int, m⟩, ⟨.int, e⟩])) (bif decide (e < (-63 : Int)) then .need (True ∧ True) (.ret (0 : Int)) else .need ((0 : Int) ≤ IntKind.wrap .i64 ((0 : Int) - e)) (bif e == (-63 : Int) then .need ((0 : Int) ≤ IntKind.wrap .i64 ((64 : Int) + e)) (bif decide (IntKind.wrap .u64 (IntKind.wrap .u64 m * (2 : Int) ^ min (Int.toNat (IntKind.wrap .i64 ((64 : Int) + e))) (IntKind.bits .u64)) > (9223372036854775808 : Int)) then .need (True ∧ True) (.ret (IntKind.wrap .i64 ((0 : Int) + (1 : Int)))) else bif IntKind.wrap .u64 (IntKind.wrap .u64 m * (2 : Int) ^ min (Int.toNat (IntKind.wrap .i64 ((64 : Int) + e))) (IntKind.bits .u64)) == (9223372036854775808 : Int) then .need ((2 : Int) ≠ (0 : Int)) (.need (True ∧ True) (.ret (0 : Int))) else .need (True ∧ True) (.ret (0 : Int))) else .need ((0 : Int) ≤ IntKind.wrap .i64 ((64 : Int) + e)) (bif decide (IntKind.wrap .u64 (IntKind.wrap .u64 m * (2 : Int) ^ min (Int.toNat (IntKind.wrap .i64 ((64 : Int) + e))) (IntKind.bits .u64)) > (9223372036854775808 : Int)) then .need (True ∧ True) (.ret (IntKind.wrap .i64 (Int.fdiv m ((2 : Int) ^ min (Int.toNat (IntKind.wrap .i64 ((0 : Int) - e))) (IntKind.bits .i64)) + (1 : Int)))) else bif IntKind.wrap .u64 (IntKind.wrap .u64 m * (2 : Int) ^ min (Int.toNat (IntKind.wrap .i64 ((64 : Int) + e))) (IntKind.bits .u64)) == (9223372036854775808 : Int) then .need ((2 : Int) ≠ (0 : Int)) (bif Int.tmod (Int.fdiv m ((2 : Int) ^ min (Int.toNat (IntKind.wrap .i64 ((0 : Int) - e))) (IntKind.bits .i64))) (2 : Int) == (1 : Int) then .need (True ∧ True) (.ret (IntKind.wrap .i64 (Int.fdiv m ((2 : Int) ^ min (Int.toNat (IntKind.wrap .i64 ((0 : Int) - e))) (IntKind.bits .i64)) + (1 : Int)))) else .need (True ∧ True) (.ret (Int.fdiv m ((2 : Int) ^ min (Int.toNat (IntKind.wrap .i64 ((0 : Int) - e))) (IntKind.bits .i64))))) else .need (True ∧ True) (.ret (Int.fdiv m ((2 : Int) ^ min (Int.toNat (IntKind.wrap .i64 ((0 : Int) - e))) (IntKind.bits .i64))))))) := by kernel_rfl

theorem t124 (n s : Int) : @Eq (Out (TyTup [.u64])) (aexec Tryz.prog codes sigs Tryz.f124 (pureFin [.u64]) 0 noCut 300 false (bodyOf Tryz.f124) (startS Tryz.f124 [⟨.u64, n⟩, ⟨.int, s⟩])) (bif decide (s < (64 : Int)) then .need ((0 : Int) ≤ s) (.need ((0 : Int) ≤ s) (.need (IntKind.wrap .u64 ((1 : Int) * (2 : Int) ^ min (Int.toNat s) (IntKind.bits .u64)) ≠ (0 : Int)) (.need ((0 : Int) ≤ IntKind.wrap .i64 (s - (1 : Int))) (bif decide (Int.tmod n (IntKind.wrap .u64 ((1 : Int) * (2 : Int) ^ min (Int.toNat s) (IntKind.bits .u64))) > IntKind.wrap .u64 ((1 : Int) * (2 : Int) ^ min (Int.toNat (IntKind.wrap .i64 (s - (1 : Int)))) (IntKind.bits .u64))) then .need (True ∧ True) (.ret (IntKind.wrap .u64 (Int.fdiv n ((2 : Int) ^ min (Int.toNat s) (IntKind.bits .u64)) + (1 : Int)))) else bif Int.tmod n (IntKind.wrap .u64 ((1 : Int) * (2 : Int) ^ min (Int.toNat s) (IntKind.bits .u64))) == IntKind.wrap .u64 ((1 : Int) * (2 : Int) ^ min (Int.toNat (IntKind.wrap .i64 (s - (1 : Int)))) (IntKind.bits .u64)) then .need ((2 : Int) ≠ (0 : Int)) (bif Int.tmod (Int.fdiv n ((2 : Int) ^ min (Int.toNat s) (IntKind.bits .u64))) (2 : Int) == (1 : Int) then .need (True ∧ True) (.ret (IntKind.wrap .u64 (Int.fdiv n ((2 : Int) ^ min (Int.toNat s) (IntKind.bits .u64)) + (1 : Int)))) else .need (True ∧ True) (.ret (Int.fdiv n ((2 : Int) ^ min (Int.toNat s) (IntKind.bits .u64))))) else .need (True ∧ True) (.ret (Int.fdiv n ((2 : Int) ^ min (Int.toNat s) (IntKind.bits .u64)))))))) else .need ((0 : Int) ≤ IntKind.wrap .i64 (s - (1 : Int))) (bif decide (n > IntKind.wrap .u64 ((1 : Int) * (2 : Int) ^ min (Int.toNat (IntKind.wrap .i64 (s - (1 : Int)))) (IntKind.bits .u64))) then .need (True ∧ True) (.ret (IntKind.wrap .u64 ((0 : Int) + (1 : Int)))) else bif n == IntKind.wrap .u64 ((1 : Int) * (2 : Int) ^ min (Int.toNat (IntKind.wrap .i64 (s - (1 : Int)))) (IntKind.bits .u64)) then .need ((2 : Int) ≠ (0 : Int)) (.need (True ∧ True) (.ret (0 : Int))) else .need (True ∧ True) (.ret (0 : Int)))) := by kernel_rfl

theorem t56 : @Eq (Out (TyTup [.deck])) (aexec Tryz.prog codes sigs Tryz.f56 (pureFin [.deck]) 0 noCut 300 false (bodyOf Tryz.f56) (startS Tryz.f56 [])) (.need ((True ∧ True) ∧ (True ∧ True) ∧ (True ∧ True) ∧ True) (.need ((True ∧ True) ∧ True) (.need ((True ∧ True ∧ True ∧ True ∧ True ∧ True ∧ True ∧ True) ∧ True) (.need ((True ∧ True ∧ True ∧ True ∧ True ∧ True) ∧ True) (.need (True ∧ True ∧ True ∧ True ∧ True) (.ret (Deck.mk [some 0, some 4621256167635550208, some 4625759767262920704] [Plate.mk (1 : Int) (2 : Int) (some 4621256167635550208) (some 4620693217682128896) (some 4602678819172646912) (100 : Int) [(40 : Int)]] [Rack.mk (1 : Int) (1 : Int) (some 4611686018427387904) (some 0) (some 0)] (2 : Int)))))))) := by kernel_rfl

theorem t3 (d : Deck) (r : Req) : @Eq (Out (TyTup [.bool])) (aexec Tryz.prog codes sigs Tryz.f3 (pureFin [.bool]) 0 noCut 300 false (bodyOf Tryz.f3) (startS Tryz.f3 [⟨.deck, d⟩, ⟨.req, r⟩])) (.need ((True ∧ True ∧ True ∧ True ∧ True) ∧ (True ∧ True ∧ True ∧ True ∧ True ∧ True ∧ True) ∧ True) (.callP 13 [⟨.deck, d⟩, ⟨.req, r⟩] [.bool] fun (x : Bool) => bif x then .need True (.callP 14 [] [.bool] fun (x : Bool) => .need (True ∧ True) (.ret x)) else .need ((True ∧ True ∧ True ∧ True ∧ True ∧ True ∧ True) ∧ True) (.callP 15 [⟨.req, r⟩] [.int, .int] fun (x : Int × Int) => .need ((True ∧ True ∧ True ∧ True ∧ True ∧ True ∧ True) ∧ True) (.callP 16 [⟨.req, r⟩] [.int, .int] fun (x_1 : Int × Int) => .need True (.callP 14 [] [.bool] fun (x_2 : Bool) => bif x_2 then .need ((True ∧ True ∧ True ∧ True ∧ True) ∧ (True ∧ True ∧ True ∧ True ∧ True ∧ True ∧ True) ∧ True) (.callP 18 [⟨.deck, d⟩, ⟨.req, r⟩] [.resp] fun (x_3 : Resp) => .need ((True ∧ True ∧ True ∧ True ∧ True) ∧ (True ∧ True ∧ True ∧ True ∧ True ∧ True ∧ True) ∧ True) (.callP 19 [⟨.deck, d⟩, ⟨.req, r⟩] [.resp] fun (x_4 : Resp) => .need ((True ∧ True ∧ True ∧ True ∧ True ∧ True) ∧ (True ∧ True ∧ True ∧ True ∧ True ∧ True) ∧ True) (.callP 17 [⟨.resp, x_3⟩, ⟨.resp, x_4⟩] [.bool] fun (x_5 : Bool) => bif x_5 then bif Prod.fst x == Prod.fst x_1 then .need (True ∧ True) (.ret (Prod.snd x == Prod.snd x_1)) else .need (True ∧ True) (.ret false) else .need (True ∧ True) (.ret false)))) else .need (True ∧ True) (.ret false)))))) := by kernel_rfl

theorem t4 (d : Deck) (r : Req) (o : List Int) (h : Int) : @Eq (Out (TyTup [.bool])) (aexec Tryz.prog codes sigs Tryz.f4 (pureFin [.bool]) 0 noCut 300 false (bodyOf Tryz.f4) (startS Tryz.f4 [⟨.deck, d⟩, ⟨.req, r⟩, ⟨.sl .int, o⟩, ⟨.int, h⟩])) (.need ((True ∧ True ∧ True ∧ True ∧ True) ∧ (True ∧ True ∧ True ∧ True ∧ True ∧ True ∧ True) ∧ True) (.callP 13 [⟨.deck, d⟩, ⟨.req, r⟩] [.bool] fun (x : Bool) => bif x then .need True (.callP 14 [] [.bool] fun (x : Bool) => .need (True ∧ True) (.ret x)) else bif decide ((o.length : Int) > (1000 : Int)) then .need True (.callP 14 [] [.bool] fun (x : Bool) => .need (True ∧ True) (.ret x)) else .need True (.callP 14 [] [.bool] fun (x : Bool) => bif x then .need ((True ∧ True ∧ True ∧ True ∧ True) ∧ (True ∧ True ∧ True ∧ True ∧ True ∧ True ∧ True) ∧ True) (.callP 21 [⟨.deck, d⟩, ⟨.req, r⟩] [.sl .int] fun (x : List Int) => .need ((True ∧ True ∧ True ∧ True ∧ True) ∧ (True ∧ True ∧ True ∧ True ∧ True ∧ True ∧ True) ∧ True) (.callP 22 [⟨.deck, d⟩, ⟨.req, r⟩] [.sl .int] fun (x_1 : List Int) => .need ((True ∧ True) ∧ (True ∧ True) ∧ True) (.callP 20 [Sigma.mk (.sl .int) x, Sigma.mk (.sl .int) x_1] [.bool] fun (x : Bool) => bif x then .need ((True ∧ True ∧ True ∧ True ∧ True) ∧ (True ∧ True ∧ True ∧ True ∧ True ∧ True ∧ True) ∧ (True ∧ True) ∧ (True ∧ True) ∧ True) (.callP 23 [⟨.deck, d⟩, ⟨.req, r⟩, Sigma.mk (.sl .int) o, ⟨.int, h⟩] [.sl .int] fun (x : List Int) => .need ((True ∧ True ∧ True ∧ True ∧ True) ∧ (True ∧ True ∧ True ∧ True ∧ True ∧ True ∧ True) ∧ (True ∧ True) ∧ (True ∧ True) ∧ True) (.callP 24 [⟨.deck, d⟩, ⟨.req, r⟩, Sigma.mk (.sl .int) o, ⟨.int, h⟩] [.sl .int] fun (x_2 : List Int) => .need ((True ∧ True) ∧ (True ∧ True) ∧ True) (.callP 20 [Sigma.mk (.sl .int) x, Sigma.mk (.sl .int) x_2] [.bool] fun (x : Bool) => .need (True ∧ True) (.ret x)))) else .need (True ∧ True) (.ret false)))) else .need (True ∧ True) (.ret false)))) := by kernel_rfl

theorem t20 (a b : List Int) : @Eq (Out (TyTup [.bool])) (aexec Tryz.prog codes sigs Tryz.f20 (pureFin [.bool]) 0 noCut 300 false (bodyOf Tryz.f20) (startS Tryz.f20 [⟨.sl .int, a⟩, ⟨.sl .int, b⟩])) (bif (a.length : Int) != (b.length : Int) then .need (True ∧ True) (.ret false) else .stop (hd Tryz.f20 0) (mkS 26 [(0, .d (.sl .int a)), (1, .d (.sl .int b)), (5, .d (.v (.int .i64 (0 : Int))))] [] 0)) := by kernel_rfl

theorem t200 (n : Int) : @Eq (Out (TyTup [.int])) (aexec Tryz.prog codes sigs Tryz.f200 (pureFin [.int]) 0 noCut 300 false (bodyOf Tryz.f200) (startS Tryz.f200 [⟨.u64, n⟩])) (bif n == (0 : Int) then .need (True ∧ True) (.ret (64 : Int)) else .need ((0 : Int) ≤ (58 : Int)) (.need ((0 : Int) ≤ Int.fdiv (IntKind.wrap .u64 (IntKind.wrap .u64 (↑(BitVec.toNat (BitVec.ofInt (IntKind.bits .u64) n &&& BitVec.ofInt (IntKind.bits .u64) (IntKind.wrap .u64 ((0 : Int) - n)))) : Int) * (285870213051353865 : Int))) ((2 : Int) ^ min 58 (IntKind.bits .u64)) ∧ Int.fdiv (IntKind.wrap .u64 (IntKind.wrap .u64 (↑(BitVec.toNat (BitVec.ofInt (IntKind.bits .u64) n &&& BitVec.ofInt (IntKind.bits .u64) (IntKind.wrap .u64 ((0 : Int) - n)))) : Int) * (285870213051353865 : Int))) ((2 : Int) ^ min 58 (IntKind.bits .u64)) < (↑64 : Int)) (.need (True ∧ True) (.ret (IntKind.wrap .i64 (List.getD [(↑0 : Int), (↑1 : Int), (↑56 : Int), (↑2 : Int), (↑57 : Int), (↑49 : Int), (↑28 : Int), (↑3 : Int), (↑61 : Int), (↑58 : Int), (↑42 : Int), (↑50 : Int), (↑38 : Int), (↑29 : Int), (↑17 : Int), (↑4 : Int), (↑62 : Int), (↑47 : Int), (↑59 : Int), (↑36 : Int), (↑45 : Int), (↑43 : Int), (↑51 : Int), (↑22 : Int), (↑53 : Int), (↑39 : Int), (↑33 : Int), (↑30 : Int), (↑24 : Int), (↑18 : Int), (↑12 : Int), (↑5 : Int), (↑63 : Int), (↑55 : Int), (↑48 : Int), (↑27 : Int), (↑60 : Int), (↑41 : Int), (↑37 : Int), (↑16 : Int), (↑46 : Int), (↑35 : Int), (↑44 : Int), (↑21 : Int), (↑52 : Int), (↑32 : Int), (↑23 : Int), (↑11 : Int), (↑54 : Int), (↑26 : Int), (↑40 : Int), (↑15 : Int), (↑34 : Int), (↑20 : Int), (↑31 : Int), (↑10 : Int), (↑25 : Int), (↑14 : Int), (↑19 : Int), (↑9 : Int), (↑13 : Int), (↑8 : Int), (↑7 : Int), (↑6 : Int)] (Int.toNat (Int.fdiv (IntKind.wrap .u64 (IntKind.wrap .u64 (↑(BitVec.toNat (BitVec.ofInt (IntKind.bits .u64) n &&& BitVec.ofInt (IntKind.bits .u64) (IntKind.wrap .u64 ((0 : Int) - n)))) : Int) * (285870213051353865 : Int))) ((2 : Int) ^ min 58 (IntKind.bits .u64)))) (0 : Int))))))) := by kernel_rfl

theorem t201 (p : Nat) : @Eq (Out (TyTup [.bool])) (aexec Tryz.prog codes sigs Tryz.f201 (pureFin [.bool]) 0 noCut 300 false (bodyOf Tryz.f201) (startS Tryz.f201 [⟨.flt, some p⟩])) (Out.callX 199 [.d (.f (some p))] (.d (.v (.int .u64 (↑p : Int)))) (.need (True ∧ True) (.ret (decide (IntKind.wrap .i64 (↑p : Int) < (0 : Int)))))) := by kernel_rfl

theorem t120 (p : Nat) : @Eq (Out (TyTup [.int, .int])) (aexec Tryz.prog codes sigs Tryz.f120 (pureFin [.int, .int]) 0 noCut 300 false (bodyOf Tryz.f120) (startS Tryz.f120 [⟨.flt, some p⟩])) (.need ((True ∧ True) ∧ True) (.callP 119 [Sigma.mk .flt (some p)] [.int] fun (x : Int) => bif decide (x < (4 : Int)) then .need ((True ∧ True) ∧ True ∧ True) (.ret ((0 : Int), (0 : Int))) else Out.callX 199 [.d (.f (some p))] (.d (.v (.int .u64 (↑p : Int)))) (bif x == (5 : Int) then .need ((0 : Int) ≤ (52 : Int)) (.need ((True ∧ True) ∧ True) (.callP 200 [Sigma.mk .u64 (IntKind.wrap .u64 (↑(BitVec.toNat (BitVec.ofInt (IntKind.bits .u64) (IntKind.wrap .u64 (↑(BitVec.toNat (BitVec.ofInt (IntKind.bits .u64) (↑p : Int) &&& BitVec.ofInt (IntKind.bits .u64) (4503599627370495 : Int))) : Int)) ||| BitVec.ofInt (IntKind.bits .u64) (4503599627370496 : Int))) : Int))] [.int] fun (x : Int) => .need ((0 : Int) ≤ x) (.need ((True ∧ True) ∧ True) (.callP 201 [Sigma.mk .flt (some p)] [.bool] fun (x_1 : Bool) => bif x_1 then .need ((True ∧ True) ∧ True ∧ True) (.ret (IntKind.wrap .i64 ((0 : Int) - IntKind.wrap .i64 (Int.fdiv (IntKind.wrap .u64 (↑(BitVec.toNat (BitVec.ofInt (IntKind.bits .u64) (IntKind.wrap .u64 (↑(BitVec.toNat (BitVec.ofInt (IntKind.bits .u64) (↑p : Int) &&& BitVec.ofInt (IntKind.bits .u64) (4503599627370495 : Int))) : Int)) ||| BitVec.ofInt (IntKind.bits .u64) (4503599627370496 : Int))) : Int)) ((2 : Int) ^ min (Int.toNat x) (IntKind.bits .u64)))), IntKind.wrap .i64 (IntKind.wrap .i64 ((-1074 : Int) + IntKind.wrap .i64 (IntKind.wrap .i64 (IntKind.wrap .u64 (↑(BitVec.toNat (BitVec.ofInt (IntKind.bits .u64) (Int.fdiv (↑p : Int) ((2 : Int) ^ min 52 (IntKind.bits .u64))) &&& BitVec.ofInt (IntKind.bits .u64) (2047 : Int))) : Int)) - (1 : Int))) + x))) else .need ((True ∧ True) ∧ True ∧ True) (.ret (IntKind.wrap .i64 (Int.fdiv (IntKind.wrap .u64 (↑(BitVec.toNat (BitVec.ofInt (IntKind.bits .u64) (IntKind.wrap .u64 (↑(BitVec.toNat (BitVec.ofInt (IntKind.bits .u64) (↑p : Int) &&& BitVec.ofInt (IntKind.bits .u64) (4503599627370495 : Int))) : Int)) ||| BitVec.ofInt (IntKind.bits .u64) (4503599627370496 : Int))) : Int)) ((2 : Int) ^ min (Int.toNat x) (IntKind.bits .u64))), IntKind.wrap .i64 (IntKind.wrap .i64 ((-1074 : Int) + IntKind.wrap .i64 (IntKind.wrap .i64 (IntKind.wrap .u64 (↑(BitVec.toNat (BitVec.ofInt (IntKind.bits .u64) (Int.fdiv (↑p : Int) ((2 : Int) ^ min 52 (IntKind.bits .u64))) &&& BitVec.ofInt (IntKind.bits .u64) (2047 : Int))) : Int)) - (1 : Int))) + x))))))) else .need ((True ∧ True) ∧ True) (.callP 200 [Sigma.mk .u64 (IntKind.wrap .u64 (↑(BitVec.toNat (BitVec.ofInt (IntKind.bits .u64) (↑p : Int) &&& BitVec.ofInt (IntKind.bits .u64) (4503599627370495 : Int))) : Int))] [.int] fun (x : Int) => .need ((0 : Int) ≤ x) (.need ((True ∧ True) ∧ True) (.callP 201 [Sigma.mk .flt (some p)] [.bool] fun (x_1 : Bool) => bif x_1 then .need ((True ∧ True) ∧ True ∧ True) (.ret (IntKind.wrap .i64 ((0 : Int) - IntKind.wrap .i64 (Int.fdiv (IntKind.wrap .u64 (↑(BitVec.toNat (BitVec.ofInt (IntKind.bits .u64) (↑p : Int) &&& BitVec.ofInt (IntKind.bits .u64) (4503599627370495 : Int))) : Int)) ((2 : Int) ^ min (Int.toNat x) (IntKind.bits .u64)))), IntKind.wrap .i64 ((-1074 : Int) + x))) else .need ((True ∧ True) ∧ True ∧ True) (.ret (IntKind.wrap .i64 (Int.fdiv (IntKind.wrap .u64 (↑(BitVec.toNat (BitVec.ofInt (IntKind.bits .u64) (↑p : Int) &&& BitVec.ofInt (IntKind.bits .u64) (4503599627370495 : Int))) : Int)) ((2 : Int) ^ min (Int.toNat x) (IntKind.bits .u64))), IntKind.wrap .i64 ((-1074 : Int) + x))))))))) := by kernel_rfl

theorem t123 (n : Int) : @Eq (Out (TyTup [.int, .int])) (aexec Tryz.prog codes sigs Tryz.f123 (pureFin [.int, .int]) 0 noCut 300 false (bodyOf Tryz.f123) (startS Tryz.f123 [⟨.u64, n⟩])) (.need ((True ∧ True) ∧ True) (.callP 122 [⟨.u64, n⟩] [.int] fun (x : Int) => bif decide (x < (4 : Int)) then .need ((True ∧ True) ∧ True ∧ True) (.ret ((0 : Int), (0 : Int))) else .need ((4503599627370496 : Int) ≠ (0 : Int)) (bif x == (5 : Int) then .need ((0 : Int) ≤ (52 : Int)) (.need ((2048 : Int) ≠ (0 : Int)) (.stop (hd Tryz.f123 0) (mkS 37 [(0, .d (.v (.int .u64 n))), (5, .d (.v (.int .i64 (IntKind.wrap .i64 (IntKind.wrap .i64 (Int.tmod n (4503599627370496 : Int)) + (4503599627370496 : Int)))))), (6, .d (.v (.int .i64 (IntKind.wrap .i64 (IntKind.wrap .i64 (Int.tmod (Int.fdiv n ((2 : Int) ^ min 52 (IntKind.bits .u64))) (2048 : Int)) - (1075 : Int))))))] [] 0))) else .stop (hd Tryz.f123 0) (mkS 37 [(0, .d (.v (.int .u64 n))), (5, .d (.v (.int .i64 (IntKind.wrap .i64 (Int.tmod n (4503599627370496 : Int)))))), (6, .d (.v (.int .i64 (-1074 : Int))))] [] 0)))) := by kernel_rfl

theorem t57 (x : Fl) : @Eq (Out (TyTup [.int, .int])) (aexec Tryz.prog codes sigs Tryz.f57 (pureFin [.int, .int]) 0 noCut 300 false (bodyOf Tryz.f57) (startS Tryz.f57 [⟨.flt, x⟩])) (.need ((True ∧ True) ∧ True) (.callP 119 [⟨.flt, x⟩] [.int] fun (x_1 : Int) => bif x_1 == (1 : Int) then .need ((True ∧ True) ∧ True ∧ True) (.ret ((0 : Int), (20 : Int))) else bif x_1 == (2 : Int) then .need ((True ∧ True) ∧ True ∧ True) (.ret ((0 : Int), (21 : Int))) else bif Fl.cmp x (some 0) == some Ordering.lt then .need ((True ∧ True) ∧ True ∧ True) (.ret ((0 : Int), (22 : Int))) else bif Fl.cmp x (some 4787326403894837248) == some Ordering.gt then .need ((True ∧ True) ∧ True ∧ True) (.ret ((0 : Int), (4 : Int))) else .need ((True ∧ True) ∧ True) (.callP 120 [⟨.flt, x⟩] [.int, .int] fun (x : Int × Int) => bif decide (Prod.snd x < (0 : Int)) then .need ((True ∧ True) ∧ (True ∧ True) ∧ True) (.callP 121 [Sigma.mk .int (IntKind.wrap .i64 (Prod.fst x * (1000 : Int))), Sigma.mk .int (Prod.snd x)] [.int] fun (x : Int) => bif decide (x > (1099511627776 : Int)) then .need ((True ∧ True) ∧ True ∧ True) (.ret ((0 : Int), (4 : Int))) else .need ((True ∧ True) ∧ True ∧ True) (.ret (x, (0 : Int)))) else .need ((0 : Int) ≤ Prod.snd x) (bif decide (IntKind.wrap .i64 (IntKind.wrap .i64 (Prod.fst x * (1000 : Int)) * (2 : Int) ^ min (Int.toNat (Prod.snd x)) (IntKind.bits .i64)) > (1099511627776 : Int)) then .need ((True ∧ True) ∧ True ∧ True) (.ret ((0 : Int), (4 : Int))) else .need ((True ∧ True) ∧ True ∧ True) (.ret (IntKind.wrap .i64 (IntKind.wrap .i64 (Prod.fst x * (1000 : Int)) * (2 : Int) ^ min (Int.toNat (Prod.snd x)) (IntKind.bits .i64)), (0 : Int))))))) := by kernel_rfl

theorem t59 (n : Int) : @Eq (Out (TyTup [.int, .int])) (aexec Tryz.prog codes sigs Tryz.f59 (pureFin [.int, .int]) 0 noCut 300 false (bodyOf Tryz.f59) (startS Tryz.f59 [⟨.u64, n⟩])) (.need ((True ∧ True) ∧ True) (.callP 122 [⟨.u64, n⟩] [.int] fun (x : Int) => bif x == (1 : Int) then .need ((True ∧ True) ∧ True ∧ True) (.ret ((0 : Int), (20 : Int))) else bif x == (2 : Int) then .need ((True ∧ True) ∧ True ∧ True) (.ret ((0 : Int), (21 : Int))) else bif x == (3 : Int) then .need ((True ∧ True) ∧ True ∧ True) (.ret ((0 : Int), (0 : Int))) else .need ((True ∧ True) ∧ True) (.callP 123 [⟨.u64, n⟩] [.int, .int] fun (x : Int × Int) => bif decide (Prod.fst x < (0 : Int)) then .need ((True ∧ True) ∧ True ∧ True) (.ret ((0 : Int), (22 : Int))) else bif decide (Prod.snd x < (-64 : Int)) then .need ((True ∧ True) ∧ True ∧ True) (.ret ((0 : Int), (0 : Int))) else bif decide (Prod.snd x < (0 : Int)) then .need ((True ∧ True) ∧ (True ∧ True) ∧ True) (.callP 124 [Sigma.mk .u64 (IntKind.wrap .u64 (IntKind.wrap .u64 (Prod.fst x) * (1000 : Int))), Sigma.mk .int (IntKind.wrap .i64 ((0 : Int) - Prod.snd x))] [.u64] fun (x_1 : Int) => .stop (hd Tryz.f59 0) (mkS 49 [(5, .d (.v (.int .i64 (Prod.snd x)))), (6, .d (.v (.int .u64 x_1))), (7, .d (.v (.int .i64 (0 : Int))))] [] 0)) else .stop (hd Tryz.f59 0) (mkS 49 [(5, .d (.v (.int .i64 (Prod.snd x)))), (6, .d (.v (.int .u64 (IntKind.wrap .u64 (IntKind.wrap .u64 (Prod.fst x) * (1000 : Int)))))), (7, .d (.v (.int .i64 (0 : Int))))] [] 0)))) := by kernel_rfl

theorem t70 (d : Deck) : @Eq (Out (TyTup [.int])) (aexec Tryz.prog codes sigs Tryz.f70 (pureFin [.int]) 0 noCut 300 false (bodyOf Tryz.f70) (startS Tryz.f70 [⟨.deck, d⟩])) (.need ((True ∧ True ∧ True ∧ True ∧ True) ∧ True) (.callP 131 [⟨.deck, d⟩] [.sl .span, .int] fun (x : List Span × Int) => .need (True ∧ True) (.ret (Prod.snd x)))) := by kernel_rfl

end Go.Proofs.Wn

namespace Go.Proofs.Zn
open Go Go.VL

def plateC (p : Plate) : List AV := [i64 p.rows, i64 p.cols, .d (.f p.x), .d (.f p.pitch), .d (.f p.reach), i64 p.cap, .d (.sl .int p.start)]
def deckC (d : Deck) : List AV := [.d (.sl .flt d.borders), .d (.sl .plate d.plates), .d (.sl .rack d.racks), i64 d.arms]
def L127 (p : Plate) (i : Int) : AS := mkS 40 [(1, .ptr 0 0), (25, .d (.sl .int p.start)), (26, i64 p.start.length), (27, i64 i)] [(0, .box (plateC p))] 1
def L128 (l : List Go.VL.Box) (n i : Int) : AS := mkS 18 [(3, i64 n), (6, .d (.sl .box l)), (7, i64 l.length), (8, i64 i)] [] 0
def L117 (d : Deck) (out : List Go.VL.Box) (i : Int) : AS := mkS 23 [(3, .own 0 .box), (7, .d (.sl .plate d.plates)), (8, i64 d.plates.length), (9, i64 i)] [(0, .row 244 .box out)] 1
def L118 (d : Deck) (out : List Go.VL.Box) (i : Int) : AS := mkS 23 [(3, .own 0 .box), (7, .d (.sl .rack d.racks)), (8, i64 d.racks.length), (9, i64 i)] [(0, .row 244 .box out)] 1
def L92 (d : Deck) (x y : List Go.VL.Box) (i : Int) : AS := mkS 78 [(1, .ptr 0 0), (4, .d (.sl .box x)), (5, .d (.sl .box y)), (40, .d (.sl .box x)), (41, i64 x.length), (42, i64 i)] [(0, .box (deckC d))] 1
def L116 (l : List Go.VL.Box) (k n i : Int) : AS := mkS 41 [(2, i64 n), (6, .ptr 0 0), (7, .ptr 1 0), (12, .d (.sl .box l)), (13, i64 l.length), (14, i64 i)] [(0, .box [i64 0, i64 0, i64 0, i64 0]), (1, .box [i64 k, i64 0, i64 0, i64 0])] 2
def L122 (p : Plate) (i : Int) : AS := mkS 54 [(1, .ptr 0 0), (3, i64 i)] [(0, .box (plateC p))] 1
def L89 (d : Deck) (w t i : Int) : AS := mkS 103 [(1, .ptr 0 0), (4, i64 w), (5, i64 t), (6, i64 i)] [(0, .box (deckC d))] 1
def L124 (k u r c : Int) (out : List Part) (i : Int) : AS := mkS 31 [(0, i64 k), (1, i64 u), (2, i64 r), (3, i64 c), (9, .own 0 .part), (10, i64 i)] [(0, .row 179 .part out)] 1
def L90 (d : Deck) (out : List Part) (i : Int) : AS := mkS 71 [(1, .ptr 0 0), (3, .own 1 .part), (4, i64 i)] [(0, .box (deckC d)), (1, .row 179 .part out)] 2
def L37 (d : Deck) (i : Int) : AS := mkS 35 [(1, .ptr 0 0), (3, i64 i)] [(0, .box (deckC d))] 1


theorem t127a (p : Plate) (i : Int) : @Eq (Out (TyTup [.bool])) (aexec Tryz.prog codes sigs Tryz.f204 (pureFin [.bool]) 0 noCut 200 true (hd Tryz.f204 0) (L127 p i)) (bif decide (i < (↑(List.length (Plate.start p)) : Int)) then .need (((0 : Int) ≤ i ∧ i < (↑(List.length (Plate.start p)) : Int)) ∧ True) (bif decide (List.getD (Plate.start p) (Int.toNat i) Ty.int.dflt < (0 : Int)) then .need (True ∧ True) (.ret false) else bif decide (List.getD (Plate.start p) (Int.toNat i) Ty.int.dflt > Plate.cap p) then .need (True ∧ True) (.ret false) else .stop (hd Tryz.f204 0) (mkS 40 [(1, .ptr 0 0), (25, .d (.sl .int (Plate.start p))), (26, .d (.v (.int .i64 (↑(List.length (Plate.start p)) : Int)))), (27, .d (.v (.int .i64 (IntKind.wrap .i64 (i + (1 : Int))))))] [(0, .box [.d (.v (.int .i64 (Plate.rows p))), .d (.v (.int .i64 (Plate.cols p))), .d (.f (Plate.x p)), .d (.f (Plate.pitch p)), .d (.f (Plate.reach p)), .d (.v (.int .i64 (Plate.cap p))), .d (.sl .int (Plate.start p))])] 1)) else .need (True ∧ True) (.ret true)) := by kernel_rfl

theorem t128a (l : List Go.VL.Box) (n i : Int) : @Eq (Out (TyTup [.int])) (aexec Tryz.prog codes sigs Tryz.f141 (pureFin [.int]) 0 noCut 200 true (hd Tryz.f141 0) (L128 l n i)) (bif decide (i < (l.length : Int)) then .need (((0 : Int) ≤ i ∧ i < (l.length : Int)) ∧ True) (.need ((True ∧ True ∧ True) ∧ True) (.callP 217 [Sigma.mk .box (l.getD i.toNat Ty.box.dflt)] [.int] fun (x : Int) => .stop (hd Tryz.f141 0) (mkS 18 [(3, .d (.v (.int .i64 (IntKind.wrap .i64 (n + x))))), (6, .d (.sl .box l)), (7, .d (.v (.int .i64 (l.length : Int)))), (8, .d (.v (.int .i64 (IntKind.wrap .i64 (i + (1 : Int))))))] [] 0))) else .need (True ∧ True) (.ret n)) := by kernel_rfl

theorem t117a (d : Deck) (out : List Go.VL.Box) (i : Int) : @Eq (Out (TyTup [.sl .box])) (aexec Tryz.prog codes sigs Tryz.f142 (pureFin [.sl .box]) 0 noCut 200 true (hd Tryz.f142 0) (L117 d out i)) (bif decide (i < (↑(List.length (Deck.plates d)) : Int)) then .need (((0 : Int) ≤ i ∧ i < (↑(List.length (Deck.plates d)) : Int)) ∧ True) (.need ((True ∧ True ∧ True) ∧ True) (.need ((List.length out + List.length [Box.mk (Plate.rows (List.getD (Deck.plates d) (Int.toNat i) Ty.plate.dflt)) (Plate.cols (List.getD (Deck.plates d) (Int.toNat i) Ty.plate.dflt))]) * 17 ≤ 35184372088832 ∧ True) (.stop (hd Tryz.f142 0) (mkS 23 [(3, .own 0 .box), (7, .d (.sl .plate (Deck.plates d))), (8, .d (.v (.int .i64 (↑(List.length (Deck.plates d)) : Int)))), (9, .d (.v (.int .i64 (IntKind.wrap .i64 (i + (1 : Int))))))] [(0, .row 244 .box (out ++ [Box.mk (Plate.rows (List.getD (Deck.plates d) (Int.toNat i) Ty.plate.dflt)) (Plate.cols (List.getD (Deck.plates d) (Int.toNat i) Ty.plate.dflt))]))] 1)))) else .need (True ∧ True) (.ret out)) := by kernel_rfl

theorem t118a (d : Deck) (out : List Go.VL.Box) (i : Int) : @Eq (Out (TyTup [.sl .box])) (aexec Tryz.prog codes sigs Tryz.f143 (pureFin [.sl .box]) 0 noCut 200 true (hd Tryz.f143 0) (L118 d out i)) (bif decide (i < (↑(List.length (Deck.racks d)) : Int)) then .need (((0 : Int) ≤ i ∧ i < (↑(List.length (Deck.racks d)) : Int)) ∧ True) (.need ((True ∧ True ∧ True) ∧ True) (.need ((List.length out + List.length [Box.mk (Rack.rows (List.getD (Deck.racks d) (Int.toNat i) Ty.rack.dflt)) (Rack.cols (List.getD (Deck.racks d) (Int.toNat i) Ty.rack.dflt))]) * 17 ≤ 35184372088832 ∧ True) (.stop (hd Tryz.f143 0) (mkS 23 [(3, .own 0 .box), (7, .d (.sl .rack (Deck.racks d))), (8, .d (.v (.int .i64 (↑(List.length (Deck.racks d)) : Int)))), (9, .d (.v (.int .i64 (IntKind.wrap .i64 (i + (1 : Int))))))] [(0, .row 244 .box (out ++ [Box.mk (Rack.rows (List.getD (Deck.racks d) (Int.toNat i) Ty.rack.dflt)) (Rack.cols (List.getD (Deck.racks d) (Int.toNat i) Ty.rack.dflt))]))] 1)))) else .need (True ∧ True) (.ret out)) := by kernel_rfl

theorem t92a (d : Deck) (x y : List Go.VL.Box) (i : Int) : @Eq (Out (TyTup [.int])) (aexec Tryz.prog codes sigs Tryz.f125 (pureFin [.int]) 0 noCut 200 true (hd Tryz.f125 0) (L92 d x y i)) (bif decide (i < (x.length : Int)) then .need (((0 : Int) ≤ i ∧ i < (x.length : Int)) ∧ True) (.need ((True ∧ True ∧ True) ∧ True) (.callP 203 [Sigma.mk .box (x.getD i.toNat Ty.box.dflt)] [.bool] fun (x_1 : Bool) => bif !x_1 then .need (True ∧ True) (.ret (81 : Int)) else .need (((0 : Int) ≤ i ∧ i < (↑(List.length (Deck.plates d)) : Int)) ∧ True) (.need ((True ∧ True ∧ True ∧ True ∧ True ∧ True ∧ True ∧ True) ∧ True) (.callP 204 [Sigma.mk .plate (List.getD (Deck.plates d) (Int.toNat i) Ty.plate.dflt)] [.bool] fun (x_2 : Bool) => bif !x_2 then .need (True ∧ True) (.ret (81 : Int)) else .stop (hd Tryz.f125 0) (mkS 78 [(1, .ptr 0 0), (4, .d (.sl .box x)), (5, .d (.sl .box y)), (40, .d (.sl .box x)), (41, .d (.v (.int .i64 (x.length : Int)))), (42, .d (.v (.int .i64 (IntKind.wrap .i64 (i + (1 : Int))))))] [(0, .box [.d (.sl .flt (Deck.borders d)), .d (.sl .plate (Deck.plates d)), .d (.sl .rack (Deck.racks d)), .d (.v (.int .i64 (Deck.arms d)))])] 1))))) else .stop (hd Tryz.f125 1) (mkS 78 [(4, .d (.sl .box x)), (5, .d (.sl .box y)), (60, .d (.sl .box y)), (61, .d (.v (.int .i64 (y.length : Int)))), (62, .d (.v (.int .i64 (0 : Int))))] [] 0)) := by kernel_rfl

theorem t116a (l : List Go.VL.Box) (k n i : Int) : @Eq (Out (TyTup [.part])) (aexec Tryz.prog codes sigs Tryz.f208 (pureFin [.part]) 0 noCut 200 true (hd Tryz.f208 0) (L116 l k n i)) (bif decide (i < (l.length : Int)) then .need (((0 : Int) ≤ i ∧ i < (l.length : Int)) ∧ True) (.need ((True ∧ True ∧ True) ∧ True) (.callP 217 [Sigma.mk .box (l.getD i.toNat Ty.box.dflt)] [.int] fun (x : Int) => bif decide (n < x) then .need (Box.cols (l.getD i.toNat Ty.box.dflt) ≠ (0 : Int)) (.need (Box.cols (l.getD i.toNat Ty.box.dflt) ≠ (0 : Int)) (.need (True ∧ True ∧ True ∧ True ∧ True) (.ret (Part.mk k i (IntKind.wrap .i64 (Int.tdiv n (Box.cols (l.getD i.toNat Ty.box.dflt)))) (Int.tmod n (Box.cols (l.getD i.toNat Ty.box.dflt))))))) else .need ((True ∧ True ∧ True) ∧ True) (.callP 217 [Sigma.mk .box (l.getD i.toNat Ty.box.dflt)] [.int] fun (x : Int) => .stop (hd Tryz.f208 0) (mkS 41 [(2, .d (.v (.int .i64 (IntKind.wrap .i64 (n - x))))), (6, .ptr 0 0), (7, .ptr 1 0), (12, .d (.sl .box l)), (13, .d (.v (.int .i64 (l.length : Int)))), (14, .d (.v (.int .i64 (IntKind.wrap .i64 (i + (1 : Int))))))] [(0, .box [.d (.v (.int .i64 (0 : Int))), .d (.v (.int .i64 (0 : Int))), .d (.v (.int .i64 (0 : Int))), .d (.v (.int .i64 (0 : Int)))]), (1, .box [.d (.v (.int .i64 k)), .d (.v (.int .i64 (0 : Int))), .d (.v (.int .i64 (0 : Int))), .d (.v (.int .i64 (0 : Int)))])] 2)))) else .need (True ∧ True ∧ True ∧ True ∧ True) (.ret (Part.mk k (0 : Int) (0 : Int) (0 : Int)))) := by kernel_rfl

theorem t122a (p : Plate) (i : Int) : @Eq (Out (TyTup [.bool])) (aexec Tryz.prog codes sigs Tryz.f219 (pureFin [.bool]) 0 noCut 200 true (hd Tryz.f219 0) (L122 p i)) (bif decide (i < (↑(List.length (Plate.start p)) : Int)) then .need (((0 : Int) ≤ i ∧ i < (↑(List.length (Plate.start p)) : Int)) ∧ True) (bif decide (List.getD (Plate.start p) (Int.toNat i) Ty.int.dflt < (0 : Int)) then .need (True ∧ True) (.ret false) else .need (((0 : Int) ≤ i ∧ i < (↑(List.length (Plate.start p)) : Int)) ∧ True) (bif decide (List.getD (Plate.start p) (Int.toNat i) Ty.int.dflt > Plate.cap p) then .need (True ∧ True) (.ret false) else .stop (hd Tryz.f219 0) (mkS 54 [(1, .ptr 0 0), (3, .d (.v (.int .i64 (IntKind.wrap .i64 (i + (1 : Int))))))] [(0, .box [.d (.v (.int .i64 (Plate.rows p))), .d (.v (.int .i64 (Plate.cols p))), .d (.f (Plate.x p)), .d (.f (Plate.pitch p)), .d (.f (Plate.reach p)), .d (.v (.int .i64 (Plate.cap p))), .d (.sl .int (Plate.start p))])] 1))) else .need (True ∧ True) (.ret true)) := by kernel_rfl

theorem t89a (d : Deck) (w t i : Int) : @Eq (Out (TyTup [.int])) (aexec Tryz.prog codes sigs Tryz.f153 (pureFin [.int]) 0 noCut 200 true (hd Tryz.f153 0) (L89 d w t i)) (bif decide (i < (↑(List.length (Deck.plates d)) : Int)) then .need (((0 : Int) ≤ i ∧ i < (↑(List.length (Deck.plates d)) : Int)) ∧ True) (.need ((True ∧ True ∧ True ∧ True ∧ True ∧ True ∧ True ∧ True) ∧ True) (.callP 219 [Sigma.mk .plate (List.getD (Deck.plates d) (Int.toNat i) Ty.plate.dflt)] [.bool] fun (x : Bool) => bif !x then .need (True ∧ True) (.ret (81 : Int)) else .need (((0 : Int) ≤ i ∧ i < (↑(List.length (Deck.plates d)) : Int)) ∧ True) (.need (((0 : Int) ≤ i ∧ i < (↑(List.length (Deck.plates d)) : Int)) ∧ True) (.stop (hd Tryz.f153 0) (mkS 103 [(1, .ptr 0 0), (4, .d (.v (.int .i64 (IntKind.wrap .i64 (w + IntKind.wrap .i64 (Plate.rows (List.getD (Deck.plates d) (Int.toNat i) Ty.plate.dflt) * Plate.cols (List.getD (Deck.plates d) (Int.toNat i) Ty.plate.dflt))))))), (5, .d (.v (.int .i64 t))), (6, .d (.v (.int .i64 (IntKind.wrap .i64 (i + (1 : Int))))))] [(0, .box [.d (.sl .flt (Deck.borders d)), .d (.sl .plate (Deck.plates d)), .d (.sl .rack (Deck.racks d)), .d (.v (.int .i64 (Deck.arms d)))])] 1))))) else .stop (hd Tryz.f153 1) (mkS 103 [(1, .ptr 0 0), (4, .d (.v (.int .i64 w))), (5, .d (.v (.int .i64 t))), (7, .d (.v (.int .i64 (0 : Int))))] [(0, .box [.d (.sl .flt (Deck.borders d)), .d (.sl .plate (Deck.plates d)), .d (.sl .rack (Deck.racks d)), .d (.v (.int .i64 (Deck.arms d)))])] 1)) := by kernel_rfl

theorem t124a (k u r c : Int) (out : List Part) (i : Int) : @Eq (Out (TyTup [.sl .part])) (aexec Tryz.prog codes sigs Tryz.f154 (pureFin [.sl .part]) 0 noCut 200 true (hd Tryz.f154 0) (L124 k u r c out i)) (bif decide (i < r) then .stop (hd Tryz.f154 1) (mkS 31 [(0, .d (.v (.int .i64 k))), (1, .d (.v (.int .i64 u))), (2, .d (.v (.int .i64 r))), (3, .d (.v (.int .i64 c))), (9, .own 0 .part), (10, .d (.v (.int .i64 i))), (11, .d (.v (.int .i64 (0 : Int))))] [(0, .row 179 .part out)] 1) else .need (True ∧ True) (.ret out)) := by kernel_rfl

theorem t90a (d : Deck) (out : List Part) (i : Int) : @Eq (Out (TyTup [.sl .part])) (aexec Tryz.prog codes sigs Tryz.f88 (pureFin [.sl .part]) 0 noCut 200 true (hd Tryz.f88 0) (L90 d out i)) (bif decide (i < (↑(List.length (Deck.plates d)) : Int)) then .need (((0 : Int) ≤ i ∧ i < (↑(List.length (Deck.plates d)) : Int)) ∧ True) (.need (((0 : Int) ≤ i ∧ i < (↑(List.length (Deck.plates d)) : Int)) ∧ True) (.need ((True ∧ True) ∧ (True ∧ True) ∧ (True ∧ True) ∧ (True ∧ True) ∧ True) (.callP 154 [Sigma.mk .int (1 : Int), ⟨.int, i⟩, Sigma.mk .int (Plate.rows (List.getD (Deck.plates d) (Int.toNat i) Ty.plate.dflt)), Sigma.mk .int (Plate.cols (List.getD (Deck.plates d) (Int.toNat i) Ty.plate.dflt))] [.sl .part] fun (x : List Part) => .need ((List.length out + List.length x) * 33 ≤ 35184372088832 ∧ True) (.stop (hd Tryz.f88 0) (mkS 71 [(1, .ptr 0 0), (3, .own 1 .part), (4, .d (.v (.int .i64 (IntKind.wrap .i64 (i + (1 : Int))))))] [(0, .box [.d (.sl .flt (Deck.borders d)), .d (.sl .plate (Deck.plates d)), .d (.sl .rack (Deck.racks d)), .d (.v (.int .i64 (Deck.arms d)))]), (1, .row 179 .part (out ++ x))] 2))))) else .stop (hd Tryz.f88 1) (mkS 71 [(1, .ptr 0 0), (3, .own 1 .part), (5, .d (.v (.int .i64 (0 : Int))))] [(0, .box [.d (.sl .flt (Deck.borders d)), .d (.sl .plate (Deck.plates d)), .d (.sl .rack (Deck.racks d)), .d (.v (.int .i64 (Deck.arms d)))]), (1, .row 179 .part out)] 2)) := by kernel_rfl

theorem t37a (d : Deck) (i : Int) : @Eq (Out (TyTup [.bool])) (aexec Tryz.prog codes sigs Tryz.f25 (pureFin [.bool]) 0 noCut 200 true (hd Tryz.f25 0) (L37 d i)) (bif decide (i < (↑(List.length (Deck.plates d)) : Int)) then .need (((0 : Int) ≤ i ∧ i < (↑(List.length (Deck.plates d)) : Int)) ∧ True) (bif decide ((↑(List.length (Plate.start (List.getD (Deck.plates d) (Int.toNat i) Ty.plate.dflt))) : Int) > (500 : Int)) then .need (True ∧ True) (.ret true) else .stop (hd Tryz.f25 0) (mkS 35 [(1, .ptr 0 0), (3, .d (.v (.int .i64 (IntKind.wrap .i64 (i + (1 : Int))))))] [(0, .box [.d (.sl .flt (Deck.borders d)), .d (.sl .plate (Deck.plates d)), .d (.sl .rack (Deck.racks d)), .d (.v (.int .i64 (Deck.arms d)))])] 1)) else .need (True ∧ True) (.ret false)) := by kernel_rfl

end Go.Proofs.Zn

namespace Go.Proofs.Wn
open Go Go.VL

abbrev deckC := Zn.deckC
def respZ : List AV := [i64 0, i64 0, i64 0, i64 0, .d (.v (.slice none 0 0))]
def L60 (a b : List Change) (i : Int) : AS := mkS 26 [(0, .d (.sl .change a)), (1, .d (.sl .change b)), (5, i64 i)] [] 0
def L66 (d : Deck) (l : List Int) (i : Int) : AS := mkS 41 [(2, .ptr 0 0), (4, .ptr 1 0), (27, .d (.sl .int l)), (28, i64 l.length), (29, i64 i)] [(0, .box (deckC d)), (1, .box respZ)] 2
def L73 (d : Deck) (l : List Int) (i : Int) : AS := mkS 43 [(1, .d (.sl .int l)), (2, .ptr 0 0), (4, .ptr 1 0), (6, i64 i)] [(0, .box (deckC d)), (1, .box respZ)] 2
def L128 (kvs : List (Int × Int)) (l : List Int) (i : Int) : AS := mkS 28 [(3, .mp 0), (9, .d (.sl .int l)), (10, i64 l.length), (11, i64 i)] [(0, .mp .int .int kvs)] 1
def L114 (l : List Int) (i : Int) : AS := mkS 19 [(0, .d (.sl .int l)), (3, i64 i)] [] 0
def L77 (l out : List Int) (i : Int) : AS := mkS 18 [(0, .d (.sl .int l)), (3, .d (.sl .int out)), (4, i64 i)] [] 0
def L123 (n m e : Int) : AS := mkS 37 [(0, u64 n), (5, i64 m), (6, i64 e)] [] 0
def L59 (e n i : Int) : AS := mkS 49 [(5, i64 e), (6, u64 n), (7, i64 i)] [] 0


theorem t60a (a b : List Change) (i : Int) : @Eq (Out (TyTup [.bool])) (aexec Tryz.prog codes sigs Tryz.f60 (pureFin [.bool]) 0 noCut 200 true (hd Tryz.f60 0) (L60 a b i)) (bif decide (i < (a.length : Int)) then .need (((0 : Int) ≤ i ∧ i < (a.length : Int)) ∧ True) (.need (((0 : Int) ≤ i ∧ i < (b.length : Int)) ∧ True) (bif !(Change.ver (a.getD i.toNat Ty.change.dflt) == Change.ver (b.getD i.toNat Ty.change.dflt) && (Change.by' (a.getD i.toNat Ty.change.dflt) == Change.by' (b.getD i.toNat Ty.change.dflt) && (Change.n (a.getD i.toNat Ty.change.dflt) == Change.n (b.getD i.toNat Ty.change.dflt) && true))) then .need (True ∧ True) (.ret false) else .stop (hd Tryz.f60 0) (mkS 26 [(0, .d (.sl .change a)), (1, .d (.sl .change b)), (5, .d (.v (.int .i64 (IntKind.wrap .i64 (i + (1 : Int))))))] [] 0))) else .need (True ∧ True) (.ret true)) := by kernel_rfl

theorem t66a (d : Deck) (l : List Int) (i : Int) : @Eq (Out (TyTup [.resp])) (aexec Tryz.prog codes sigs Tryz.f66 (pureFin [.resp]) 0 noCut 200 true (hd Tryz.f66 0) (L66 d l i)) (bif decide (i < (l.length : Int)) then .need (((0 : Int) ≤ i ∧ i < (l.length : Int)) ∧ True) (.need ((True ∧ True ∧ True ∧ True ∧ True) ∧ (True ∧ True) ∧ True) (.callP 68 [⟨.deck, d⟩, Sigma.mk .int (l.getD i.toNat Ty.int.dflt)] [.int] fun (x : Int) => bif x == (0 : Int) then .need ((True ∧ True) ∧ (True ∧ True) ∧ True) (.callP 69 [Sigma.mk .int (3 : Int), Sigma.mk .int (l.getD i.toNat Ty.int.dflt)] [.resp] fun (x : Resp) => .need (True ∧ True ∧ True ∧ True ∧ True ∧ True) (.ret x)) else .stop (hd Tryz.f66 0) (mkS 41 [(2, .ptr 0 0), (4, .ptr 1 0), (27, .d (.sl .int l)), (28, .d (.v (.int .i64 (l.length : Int)))), (29, .d (.v (.int .i64 (IntKind.wrap .i64 (i + (1 : Int))))))] [(0, .box [.d (.sl .flt (Deck.borders d)), .d (.sl .plate (Deck.plates d)), .d (.sl .rack (Deck.racks d)), .d (.v (.int .i64 (Deck.arms d)))]), (1, .box [.d (.v (.int .i64 (0 : Int))), .d (.v (.int .i64 (0 : Int))), .d (.v (.int .i64 (0 : Int))), .d (.v (.int .i64 (0 : Int))), .d (.v (.slice none 0 0))])] 2))) else .need (True ∧ True ∧ True ∧ True ∧ True ∧ True) (.ret (Resp.mk (0 : Int) (0 : Int) (0 : Int) (0 : Int) []))) := by kernel_rfl

theorem t73a (d : Deck) (l : List Int) (i : Int) : @Eq (Out (TyTup [.resp])) (aexec Tryz.prog codes sigs Tryz.f73 (pureFin [.resp]) 0 noCut 200 true (hd Tryz.f73 0) (L73 d l i)) (bif decide (i < (l.length : Int)) then .need (((0 : Int) ≤ i ∧ i < (l.length : Int)) ∧ True) (.need ((True ∧ True ∧ True ∧ True ∧ True) ∧ (True ∧ True) ∧ True) (.callP 74 [⟨.deck, d⟩, Sigma.mk .int (l.getD i.toNat Ty.int.dflt)] [.int] fun (x : Int) => bif x == (0 : Int) then .need (((0 : Int) ≤ i ∧ i < (l.length : Int)) ∧ True) (.need ((True ∧ True) ∧ (True ∧ True) ∧ True) (.callP 71 [Sigma.mk .int (3 : Int), Sigma.mk .int (l.getD i.toNat Ty.int.dflt)] [.resp] fun (x : Resp) => .need (True ∧ True ∧ True ∧ True ∧ True ∧ True) (.ret x))) else .stop (hd Tryz.f73 0) (mkS 43 [(1, .d (.sl .int l)), (2, .ptr 0 0), (4, .ptr 1 0), (6, .d (.v (.int .i64 (IntKind.wrap .i64 (i + (1 : Int))))))] [(0, .box [.d (.sl .flt (Deck.borders d)), .d (.sl .plate (Deck.plates d)), .d (.sl .rack (Deck.racks d)), .d (.v (.int .i64 (Deck.arms d)))]), (1, .box [.d (.v (.int .i64 (0 : Int))), .d (.v (.int .i64 (0 : Int))), .d (.v (.int .i64 (0 : Int))), .d (.v (.int .i64 (0 : Int))), .d (.v (.slice none 0 0))])] 2))) else .need (True ∧ True ∧ True ∧ True ∧ True ∧ True) (.ret (Resp.mk (0 : Int) (0 : Int) (0 : Int) (0 : Int) []))) := by kernel_rfl

theorem t128a (kvs : List (Int × Int)) (l : List Int) (i : Int) : @Eq (Out (TyTup [.int])) (aexec Tryz.prog codes sigs Tryz.f128 (pureFin [.int]) 0 noCut 200 true (hd Tryz.f128 0) (L128 kvs l i)) (bif decide (i < (l.length : Int)) then .need (((0 : Int) ≤ i ∧ i < (l.length : Int)) ∧ True) (bif Option.isSome (getM (l.getD i.toNat Ty.int.dflt) kvs) then .need (True ∧ True) (.ret i) else .need (True ∧ True) (.stop (hd Tryz.f128 0) (mkS 28 [(3, .mp 0), (9, .d (.sl .int l)), (10, .d (.v (.int .i64 (l.length : Int)))), (11, .d (.v (.int .i64 (IntKind.wrap .i64 (i + (1 : Int))))))] [(0, .mp .int .int (putM (l.getD i.toNat Ty.int.dflt) i kvs))] 1))) else .need (True ∧ True) (.ret (-1 : Int))) := by kernel_rfl

theorem t114a (l : List Int) (i : Int) : @Eq (Out (TyTup [.int])) (aexec Tryz.prog codes sigs Tryz.f114 (pureFin [.int]) 0 noCut 200 true (hd Tryz.f114 0) (L114 l i)) (bif decide (i < (l.length : Int)) then .need (((0 : Int) ≤ (0 : Int) ∧ (0 : Int) ≤ i ∧ i ≤ (l.length : Int)) ∧ True) (.need (((0 : Int) ≤ i ∧ i < (l.length : Int)) ∧ True) (.need ((True ∧ True) ∧ (True ∧ True) ∧ True) (.callP 44 [Sigma.mk (.sl .int) (List.drop 0 (List.take (Int.toNat i) l)), Sigma.mk .int (l.getD i.toNat Ty.int.dflt)] [.bool] fun (x : Bool) => bif x then .need (True ∧ True) (.ret i) else .stop (hd Tryz.f114 0) (mkS 19 [(0, .d (.sl .int l)), (3, .d (.v (.int .i64 (IntKind.wrap .i64 (i + (1 : Int))))))] [] 0)))) else .need (True ∧ True) (.ret (-1 : Int))) := by kernel_rfl

theorem t77a (l out : List Int) (i : Int) : @Eq (Out (TyTup [.sl .int])) (aexec Tryz.prog codes sigs Tryz.f77 (pureFin [.sl .int]) 0 noCut 200 true (hd Tryz.f77 0) (L77 l out i)) (bif decide (i < (l.length : Int)) then .need (((0 : Int) ≤ i ∧ i < (l.length : Int)) ∧ True) (.need ((True ∧ True) ∧ (True ∧ True) ∧ True) (.callP 79 [Sigma.mk (.sl .int) out, Sigma.mk .int (l.getD i.toNat Ty.int.dflt)] [.sl .int] fun (x : List Int) => .stop (hd Tryz.f77 0) (mkS 18 [(0, .d (.sl .int l)), (3, .d (.sl .int x)), (4, .d (.v (.int .i64 (IntKind.wrap .i64 (i + (1 : Int))))))] [] 0))) else .need (True ∧ True) (.ret out)) := by kernel_rfl

theorem t123a (n m e : Int) : @Eq (Out (TyTup [.int, .int])) (aexec Tryz.prog codes sigs Tryz.f123 (pureFin [.int, .int]) 0 noCut 200 true (hd Tryz.f123 0) (L123 n m e)) (.need ((2 : Int) ≠ (0 : Int)) (bif Int.tmod m (2 : Int) == (0 : Int) then .need ((2 : Int) ≠ (0 : Int)) (.stop (hd Tryz.f123 0) (mkS 37 [(0, .d (.v (.int .u64 n))), (5, .d (.v (.int .i64 (IntKind.wrap .i64 (Int.tdiv m (2 : Int)))))), (6, .d (.v (.int .i64 (IntKind.wrap .i64 (e + (1 : Int))))))] [] 0)) else .need ((0 : Int) ≤ (63 : Int)) (bif Int.fdiv n ((2 : Int) ^ min 63 (IntKind.bits .u64)) == (1 : Int) then .need ((True ∧ True) ∧ True ∧ True) (.ret (IntKind.wrap .i64 ((0 : Int) - m), e)) else .need ((True ∧ True) ∧ True ∧ True) (.ret (m, e))))) := by kernel_rfl

theorem t59a (e n i : Int) : @Eq (Out (TyTup [.int, .int])) (aexec Tryz.prog codes sigs Tryz.f59 (pureFin [.int, .int]) 0 noCut 200 true (hd Tryz.f59 0) (L59 e n i)) (bif decide (i < e) then bif decide (n ≤ (1099511627776 : Int)) then .stop (hd Tryz.f59 0) (mkS 49 [(5, .d (.v (.int .i64 e))), (6, .d (.v (.int .u64 (IntKind.wrap .u64 ((2 : Int) * n))))), (7, .d (.v (.int .i64 (IntKind.wrap .i64 (i + (1 : Int))))))] [] 0) else bif decide (n > (1099511627776 : Int)) then .need ((True ∧ True) ∧ True ∧ True) (.ret ((0 : Int), (4 : Int))) else .need ((True ∧ True) ∧ True ∧ True) (.ret (IntKind.wrap .i64 n, (0 : Int))) else bif decide (n > (1099511627776 : Int)) then .need ((True ∧ True) ∧ True ∧ True) (.ret ((0 : Int), (4 : Int))) else .need ((True ∧ True) ∧ True ∧ True) (.ret (IntKind.wrap .i64 n, (0 : Int)))) := by kernel_rfl

end Go.Proofs.Wn

/- Floats taken apart; volumes: contracts. (Own work.) -/
set_option exponentiation.threshold 4096
namespace Go.Proofs.Wn
open Go Go.VL Go.Proofs.Zn
abbrev T2' : True ∧ True := ⟨trivial, trivial⟩
theorem sat_t {α : Type} {P : Program} {A : List Item → AS → Prop} {R0 : α → Prop} {b : Bool} {S T : Out α} (h : b = true) (h1 : Sat P A R0 S) : Sat P A R0 (bif b then S else T) := by rw [h]; exact h1
theorem sat_f {α : Type} {P : Program} {A : List Item → AS → Prop} {R0 : α → Prop} {b : Bool} {S T : Out α} (h : b = false) (h1 : Sat P A R0 T) : Sat P A R0 (bif b then S else T) := by rw [h]; exact h1

theorem one_arg {vs : Array Value} (hs : vs.size = 1) : ∃ v, vs = #[v] := by
  refine ⟨vs[0]'(by omega), ?_⟩
  apply Array.ext
  · exact hs
  · intro i hi hi2
    have : i = 0 := by omega
    subst this; rfl
theorem x58 (n : Int) : ExtC Tryz.prog 58 [.d (.v (.int .u64 n))] (.d (.f (some n.toNat))) := fun w K m H vs hs hr => by
  obtain ⟨v, rfl⟩ := one_arg hs
  have e : v = .int .u64 n := val_rel (hr 0 _ v rfl rfl)
  subst e
  exact ⟨.float .f64 n.toNat, run_callFunc_extern (e := Extern.MathFloatBits.float64frombits) Tryz.func58 (by kernel_rfl) (by kernel_rfl) (by kernel_rfl) (by kernel_rfl) #[.int .u64 n] w, .d _ _ (.f _ _ rfl)⟩
theorem x199 (b : Nat) : ExtC Tryz.prog 199 [.d (.f (some b))] (.d (.v (.int .u64 (b : Int)))) := fun w K m H vs hs hr => by
  obtain ⟨v, rfl⟩ := one_arg hs
  have e : v = .float .f64 b := by
    have := hr 0 _ v rfl rfl
    cases this with
    | d _ _ h => cases h with
      | f _ c h => have h : c = b := h; rw [h]
  subst e
  exact ⟨.int .u64 b, run_callFunc_extern (e := Extern.MathFloatBits.float64bits) Tryz.func199 (by kernel_rfl) (by kernel_rfl) (by kernel_rfl) (by kernel_rfl) #[.float .f64 b] w, .d _ _ (.v _)⟩

theorem c200 {n k m : Nat} (hn : n = 2 ^ k * (2 * m + 1)) (h : n < 18446744073709551616) : Pure Tryz.prog 200 [⟨.u64, (n : Int)⟩] [.int] (k : Int) :=
  ofT Tryz.func200 (t200 n) (by kernel_rfl) (by kernel_rfl) fun _ => by
    have hk := pow_lt hn h
    have hp : 0 < 2 ^ k := Nat.pow_pos (by decide)
    have hpos : 0 < n := by rw [hn]; exact Nat.mul_pos hp (by omega)
    have e64 : (2 ^ 64 : Nat) = 18446744073709551616 := by decide
    have hkl : 2 ^ k < 18446744073709551616 := by
      have : 2 ^ k ≤ 2 ^ 63 := Nat.pow_le_pow_right (by decide) (by omega)
      have e63 : (2 ^ 63 : Nat) = 9223372036854775808 := by decide
      omega
    have e1 := neg_wrap hpos h
    have e2 : (BitVec.ofInt (IntKind.bits .u64) (n : Int) &&& BitVec.ofInt (IntKind.bits .u64) (((2 ^ 64 - n : Nat)) : Int)).toNat = 2 ^ k := by
      rw [bv_and h (by omega)]; exact and_neg hn (by omega)
    have e3 : IntKind.u64.wrap (IntKind.u64.wrap ((2 ^ k : Nat) : Int) * 285870213051353865) = ((2 ^ k * 285870213051353865 % 2 ^ 64 : Nat) : Int) := by
      rw [wrapU hkl, wrap_u64, e64]; rfl
    have e4 : (2 : Int) ^ min 58 (IntKind.bits .u64) = ((2 ^ 58 : Nat) : Int) := by decide
    obtain ⟨t1, t2⟩ := tab_ok ⟨k, hk⟩
    simp only at t1 t2
    rw [e1, e2, e3, e4, fdiv_nat]
    generalize 2 ^ k * 285870213051353865 % 2 ^ 64 / 2 ^ 58 = x at t1 t2
    refine sat_f (by simp; omega) ⟨by decide, ⟨by omega, by show (x : Int) < (64 : Int); omega⟩, T2', ?_⟩
    show IntKind.i64.wrap (tab64.getD (Int.toNat (x : Int)) 0) = (k : Int)
    rw [Int.toNat_natCast, t2, wrap_i64 (by omega) (by omega)]
theorem c201 {p : Nat} (hp : p < 18446744073709551616) : Pure Tryz.prog 201 [⟨.flt, some p⟩] [.bool] (negB p) :=
  ofT Tryz.func201 (t201 p) (by kernel_rfl) (by kernel_rfl) fun _ => ⟨x199 p, T2', by
    show decide (IntKind.i64.wrap (p : Int) < 0) = decide (9223372036854775808 ≤ p)
    refine decide_eq_decide.2 ?_
    unfold IntKind.wrap
    have e : (2 ^ IntKind.i64.bits : Int) = 18446744073709551616 := rfl
    have e2 : (2 ^ (IntKind.i64.bits - 1) : Int) = 9223372036854775808 := rfl
    have e3 : IntKind.i64.signed = true := rfl
    simp only [e, e2, e3, Bool.true_and]
    rw [Int.emod_eq_of_lt (by omega) (by omega)]
    by_cases h : 9223372036854775808 ≤ p
    · rw [if_pos (by simp; omega)]; omega
    · rw [if_neg (by simp; omega)]; omega⟩

/-! ### classes -/
theorem abs_bits {b : Nat} (hb : b < 18446744073709551616) : (bits BinOp.andNot IntKind.u64 (b : Int) 9223372036854775808).toNat = b % 9223372036854775808 := by
  have h3 : (BitVec.ofInt 64 (b : Int)).toNat = b := bv_nat hb
  have h2 : (~~~ BitVec.ofInt 64 9223372036854775808).toNat = 9223372036854775807 := by decide
  have h4 : (BitVec.ofInt 64 (b : Int) &&& ~~~ BitVec.ofInt 64 9223372036854775808).toNat = b % 9223372036854775808 := by
    rw [BitVec.toNat_and, h2, h3]
    exact Nat.and_two_pow_sub_one_eq_mod b 63
  show (IntKind.u64.wrap ((BitVec.ofInt 64 (b : Int) &&& ~~~ BitVec.ofInt 64 9223372036854775808).toNat : Int)).toNat = _
  rw [h4, wrapU (by omega), Int.toNat_natCast]
theorem keyAbs {r : Nat} (hr : r ≤ 9218868437227405312) : keyF (some r) = (valR r : Int) := by
  have := key_val (b := r) (by omega) (by rw [Nat.mod_eq_of_lt (by omega)]; exact hr)
  rw [Nat.mod_eq_of_lt (by omega), decide_eq_false (by omega)] at this
  exact this
theorem nanAbs {r : Nat} (hr : r ≤ 9218868437227405312) : nanF (some r) = false := by
  rw [nan_iff, Nat.mod_eq_of_lt (by omega)]; exact decide_eq_false (by omega)
theorem cmp_abs {r q : Nat} (hr : r ≤ 9218868437227405312) (hq : q ≤ 9218868437227405312) : Fl.cmp (some r) (some q) = some (compare (r : Int) (q : Int)) := by
  rw [cmp_key (nanAbs hr) (nanAbs hq), keyAbs hr, keyAbs hq]
  congr 1
  have h1 := val_iff hr hq
  have h2 := val_iff hq hr
  rcases Nat.lt_trichotomy r q with c | c | c
  · have := h1.2 c
    rw [Int.compare_eq_lt.2 (by omega : (valR r : Int) < (valR q : Int)), Int.compare_eq_lt.2 (by omega : (r : Int) < (q : Int))]
  · subst c
    rw [Int.compare_eq_eq.2 rfl, Int.compare_eq_eq.2 rfl]
  · have := h2.2 c
    rw [Int.compare_eq_gt.2 (by omega : (valR q : Int) < (valR r : Int)), Int.compare_eq_gt.2 (by omega : (q : Int) < (r : Int))]
theorem cmp_is {a b : Int} (o : Ordering) : (some (compare a b) == some o) = decide (compare a b = o) := by
  cases compare a b <;> cases o <;> rfl
theorem cmp_gt {a b : Int} : (some (compare a b) == some Ordering.gt) = decide (b < a) := by
  rw [cmp_is]; exact decide_eq_decide.2 (by rw [Int.compare_eq_gt])
theorem cmp_lt {a b : Int} : (some (compare a b) == some Ordering.lt) = decide (a < b) := by
  rw [cmp_is]; exact decide_eq_decide.2 (by rw [Int.compare_eq_lt])
theorem cmp_eq {a b : Int} : (some (compare a b) == some Ordering.eq) = decide (a = b) := by
  rw [cmp_is]; exact decide_eq_decide.2 (by rw [Int.compare_eq_eq])
theorem c119 {b : Nat} (hb : b < 18446744073709551616) : Pure Tryz.prog 119 [⟨.flt, some b⟩] [.int] (clsN (rN b)) := by
  refine Zn.ofT Tryz.func119 (t154 (some b)) (by kernel_rfl) (by kernel_rfl) fun A => ⟨⟨⟨trivial, trivial⟩, trivial⟩, _, c158 b, ?_⟩
  rw [cmp_self, nan_iff, abs_bits hb]
  unfold clsN rN
  refine sat_if (fun _ => ⟨⟨trivial, trivial⟩, rfl⟩) (fun h => ?_)
  have h := of_decide_eq_false h
  have hr : b % 9223372036854775808 ≤ 9218868437227405312 := by omega
  rw [cmp_abs hr (by decide), cmp_abs hr (by decide), cmp_abs hr (by decide), cmp_gt, cmp_eq, cmp_lt]
  have g1 : decide (((9218868437227405311 : Nat) : Int) < ((b % 9223372036854775808 : Nat) : Int)) = decide (b % 9223372036854775808 = 9218868437227405312) := decide_eq_decide.2 (by omega)
  have g2 : decide (((b % 9223372036854775808 : Nat) : Int) = ((0 : Nat) : Int)) = decide (b % 9223372036854775808 = 0) := decide_eq_decide.2 (by omega)
  have g3 : decide (((b % 9223372036854775808 : Nat) : Int) < ((4503599627370496 : Nat) : Int)) = decide (b % 9223372036854775808 < 4503599627370496) := decide_eq_decide.2 (by omega)
  rw [g1, g2, g3]
  exact sat_if (fun _ => ⟨⟨trivial, trivial⟩, rfl⟩) (fun _ => sat_if (fun _ => ⟨⟨trivial, trivial⟩, rfl⟩) (fun _ => sat_if (fun _ => ⟨⟨trivial, trivial⟩, rfl⟩) (fun _ => ⟨⟨trivial, trivial⟩, rfl⟩)))
theorem c122 (b : Nat) : Pure Tryz.prog 122 [⟨.u64, (b : Int)⟩] [.int] (clsN (rN b)) := by
  refine Zn.ofT Tryz.func122 (t155 b) (by kernel_rfl) (by kernel_rfl) fun A => ?_
  have e1 : (2 : Int) ^ min 52 (IntKind.bits IntKind.u64) = ((4503599627370496 : Nat) : Int) := by decide
  have e2 : ((2048 : Nat) : Int) = 2048 := rfl
  have e3 : Int.tmod (Int.fdiv (b : Int) ((4503599627370496 : Nat) : Int)) 2048 = ((b / 4503599627370496 % 2048 : Nat) : Int) := by rw [fdiv_nat, ← e2, tmod_nat]
  have e4 : Int.tmod (b : Int) 4503599627370496 = ((b % 4503599627370496 : Nat) : Int) := by
    have := tmod_nat b 4503599627370496; exact this
  rw [e1, e3, e4]
  have key : ∀ (a c : Nat), a = b / 4503599627370496 % 2048 → c = b % 4503599627370496 → clsN (rN b) = cls5 ((a : Int) == 2047) ((c : Int) != 0) ((a : Int) == 0) ((c : Int) == 0) := fun a c ha hc => by
    unfold clsN rN cls5
    have r1 : decide (b % 9223372036854775808 > 9218868437227405312) = (((a : Int) == 2047) && ((c : Int) != 0)) := by
      rw [Bool.eq_iff_iff]; simp; omega
    rw [r1]
    by_cases q1 : a = 2047
    · by_cases q2 : c = 0
      · rw [decide_eq_true (by omega : b % 9223372036854775808 = 9218868437227405312)]
        subst q1; subst q2; rfl
      · have : ((c : Int) != 0) = true := by simp; omega
        rw [this]; subst q1; rfl
    · have p1 : ((a : Int) == 2047) = false := by simp; omega
      rw [p1, decide_eq_false (by omega : ¬ b % 9223372036854775808 = 9218868437227405312)]
      by_cases q3 : a = 0
      · by_cases q2 : c = 0
        · rw [decide_eq_true (by omega : b % 9223372036854775808 = 0)]
          subst q3; subst q2; rfl
        · have p2 : ((c : Int) == 0) = false := by simp; omega
          rw [p2, decide_eq_false (by omega : ¬ b % 9223372036854775808 = 0), decide_eq_true (by omega : b % 9223372036854775808 < 4503599627370496)]
          subst q3; rfl
      · have p3 : ((a : Int) == 0) = false := by simp; omega
        rw [p3, decide_eq_false (by omega : ¬ b % 9223372036854775808 = 0), decide_eq_false (by omega : ¬ b % 9223372036854775808 < 4503599627370496)]
        rfl
  rw [key _ _ rfl rfl]
  generalize (((b / 4503599627370496 % 2048 : Nat) : Int) == 2047) = p
  generalize (((b % 4503599627370496 : Nat) : Int) != 0) = q
  generalize (((b / 4503599627370496 % 2048 : Nat) : Int) == 0) = r
  generalize (((b % 4503599627370496 : Nat) : Int) == 0) = s
  refine ⟨by decide, by decide, by decide, ?_⟩
  cases p <;> cases q <;> cases r <;> cases s <;> exact ⟨⟨trivial, trivial⟩, rfl⟩
end Go.Proofs.Wn

/- Floats taken apart, rounded: contracts. (Own work.) -/
set_option exponentiation.threshold 4096
namespace Go.Proofs.Wn
open Go Go.VL Go.Proofs.Zn

theorem cls_zero {b : Nat} (h : ¬ clsN (rN b) < 4) : 0 < rN b ∧ rN b < 9218868437227405312 ∧ (clsN (rN b) = 5 ↔ ¬ rN b < 4503599627370496) := by
  unfold clsN at h ⊢
  generalize rN b = r at h ⊢
  by_cases h1 : r > 9218868437227405312
  · rw [decide_eq_true h1] at h; simp at h
  rw [decide_eq_false h1, cond_false] at h ⊢
  by_cases h2 : r = 9218868437227405312
  · rw [decide_eq_true h2] at h; simp at h
  rw [decide_eq_false h2, cond_false] at h ⊢
  by_cases h3 : r = 0
  · rw [decide_eq_true h3] at h; simp at h
  rw [decide_eq_false h3, cond_false] at h ⊢
  refine ⟨by omega, by omega, ?_⟩
  by_cases h4 : r < 4503599627370496
  · rw [decide_eq_true h4]; simp; omega
  · rw [decide_eq_false h4]; simp; omega
theorem bn_mod (b : Nat) : b % 4503599627370496 = rN b % 4503599627370496 := by unfold rN; omega
theorem bn_div {b : Nat} (hb : b < 18446744073709551616) : b / 4503599627370496 % 2048 = rN b / 4503599627370496 := by unfold rN; omega
theorem pow_min {k : Nat} (h : k < 64) : (2 : Int) ^ min (Int.toNat (k : Int)) (IntKind.bits .u64) = ((2 ^ k : Nat) : Int) := by
  have : min (Int.toNat (k : Int)) (IntKind.bits .u64) = k := by
    have e : IntKind.bits .u64 = 64 := rfl
    rw [e, Int.toNat_natCast]; omega
  rw [this]; simp
theorem pow_min' {k : Nat} (h : k < 64) : (2 : Int) ^ min (Int.toNat (k : Int)) (IntKind.bits .i64) = ((2 ^ k : Nat) : Int) := pow_min h

theorem c120 {b : Nat} (hb : b < 18446744073709551616) : Pure Tryz.prog 120 [⟨.flt, some b⟩] [.int, .int] (partsV b) :=
  ofT Tryz.func120 (t120 b) (by kernel_rfl) (by kernel_rfl) fun _ => by
    refine ⟨⟨T2', trivial⟩, _, c119 hb, ?_⟩
    show Sat _ _ _ (bif decide (clsN (rN b) < 4) then _ else _)
    unfold partsV
    by_cases hc : clsN (rN b) < 4
    · rw [decide_eq_true hc]
      exact ⟨⟨T2', T2'⟩, rfl⟩
    rw [decide_eq_false hc]
    obtain ⟨h0, hi, h5⟩ := cls_zero hc
    obtain ⟨m, o1, o2, o3⟩ := odd_spec h0
    have hM := M0_lt (rN b)
    have hol := @odd_lt (rN b)
    have e1 : (BitVec.ofInt (IntKind.bits .u64) (b : Int) &&& BitVec.ofInt (IntKind.bits .u64) 4503599627370495).toNat = rN b % 4503599627370496 := by
      have := bv_and (c := 4503599627370495) hb (by decide)
      rw [and52, bn_mod] at this; exact this
    have e2 : IntKind.u64.wrap ((rN b % 4503599627370496 : Nat) : Int) = ((rN b % 4503599627370496 : Nat) : Int) := wrapU (by omega)
    have eo : oddN (rN b) = M0 (rN b) / 2 ^ tzN (M0 (rN b)) := rfl
    have ep : powN (rN b) = E0 (rN b) + (tzN (M0 (rN b)) : Int) := rfl
    refine ⟨x199 b, ?_⟩
    show Sat _ _ _ (bif clsN (rN b) == 5 then _ else _)
    rw [e1, e2]
    by_cases hf : rN b < 4503599627370496
    · -- subnormal
      have hn5 : (clsN (rN b) == 5) = false := by
        rw [beq_eq_false_iff_ne]; exact fun e => (h5.1 e) hf
      have eM : M0 (rN b) = rN b := by unfold M0; rw [decide_eq_true hf]; rfl
      have eE : E0 (rN b) = -1074 := by unfold E0; rw [decide_eq_true hf]; rfl
      have e3 : rN b % 4503599627370496 = M0 (rN b) := by rw [eM]; exact Nat.mod_eq_of_lt hf
      rw [hn5, e3]
      refine ⟨⟨T2', trivial⟩, (tzN (M0 (rN b)) : Int), c200 o1 (by omega), by omega, ⟨T2', trivial⟩, _, c201 hb, ?_⟩
      rw [pow_min (by omega), fdiv_nat, ← eo, wrap_i64 (n := (oddN (rN b) : Int)) (by omega) (by omega), wrap_i64 (n := 0 - (oddN (rN b) : Int)) (by omega) (by omega), wrap_i64 (n := -1074 + (tzN (M0 (rN b)) : Int)) (by omega) (by omega), ep, eE]
      cases negB b
      · exact ⟨⟨T2', T2'⟩, rfl⟩
      · refine ⟨⟨T2', T2'⟩, ?_⟩
        show (0 - (oddN (rN b) : Int), -1074 + (tzN (M0 (rN b)) : Int)) = (-(oddN (rN b) : Int), -1074 + (tzN (M0 (rN b)) : Int))
        rw [Int.zero_sub]
    · have h55 : (clsN (rN b) == 5) = true := by rw [beq_iff_eq]; exact h5.2 hf
      have eM : M0 (rN b) = rN b % 4503599627370496 + 4503599627370496 := by unfold M0; rw [decide_eq_false hf]; rfl
      have eE : E0 (rN b) = ((rN b / 4503599627370496 : Nat) : Int) - 1075 := by unfold E0; rw [decide_eq_false hf]; rfl
      have e3 : (BitVec.ofInt (IntKind.bits .u64) ((rN b % 4503599627370496 : Nat) : Int) ||| BitVec.ofInt (IntKind.bits .u64) 4503599627370496).toNat = M0 (rN b) := by
        have := bv_or (a := rN b % 4503599627370496) (c := 4503599627370496) (by omega) (by decide)
        rw [or52 (by omega), ← eM] at this; exact this
      have e4 : IntKind.u64.wrap ((M0 (rN b) : Nat) : Int) = ((M0 (rN b) : Nat) : Int) := wrapU (by omega)
      have e5 : (2 : Int) ^ min 52 (IntKind.bits .u64) = ((4503599627370496 : Nat) : Int) := by decide
      have e6 : (BitVec.ofInt (IntKind.bits .u64) ((b / 4503599627370496 : Nat) : Int) &&& BitVec.ofInt (IntKind.bits .u64) 2047).toNat = rN b / 4503599627370496 := by
        have := bv_and (a := b / 4503599627370496) (c := 2047) (by omega) (by decide)
        rw [and11, bn_div hb] at this; exact this
      have e7 : IntKind.u64.wrap ((rN b / 4503599627370496 : Nat) : Int) = ((rN b / 4503599627370496 : Nat) : Int) := wrapU (by omega)
      rw [h55, e3, e4, e5, fdiv_nat, e6, e7]
      refine ⟨by decide, ⟨T2', trivial⟩, (tzN (M0 (rN b)) : Int), c200 o1 (by omega), by omega, ⟨T2', trivial⟩, _, c201 hb, ?_⟩
      rw [pow_min (by omega), fdiv_nat, ← eo, wrap_i64 (n := (oddN (rN b) : Int)) (by omega) (by omega), wrap_i64 (n := 0 - (oddN (rN b) : Int)) (by omega) (by omega), wrap_i64 (n := ((rN b / 4503599627370496 : Nat) : Int)) (by omega) (by omega),
        wrap_i64 (n := ((rN b / 4503599627370496 : Nat) : Int) - 1) (by omega) (by omega), wrap_i64 (n := -1074 + (((rN b / 4503599627370496 : Nat) : Int) - 1)) (by omega) (by omega), wrap_i64 (n := -1074 + (((rN b / 4503599627370496 : Nat) : Int) - 1) + (tzN (M0 (rN b)) : Int)) (by omega) (by omega), ep, eE]
      have e8 : -1074 + (((rN b / 4503599627370496 : Nat) : Int) - 1) + (tzN (M0 (rN b)) : Int) = ((rN b / 4503599627370496 : Nat) : Int) - 1075 + (tzN (M0 (rN b)) : Int) := by omega
      rw [e8]
      cases negB b
      · exact ⟨⟨T2', T2'⟩, rfl⟩
      · refine ⟨⟨T2', T2'⟩, ?_⟩
        show (0 - (oddN (rN b) : Int), ((rN b / 4503599627370496 : Nat) : Int) - 1075 + (tzN (M0 (rN b)) : Int)) = (-(oddN (rN b) : Int), _)
        rw [Int.zero_sub]

/-! ### by definition -/
theorem loop123 {b : Nat} (hb : b < 18446744073709551616) {m : Nat} {r : Int × Int} {A : List Item → AS → Prop} (hA : Closed Tryz.prog codes sigs Tryz.f123 (pureFin [.int, .int]) (fun y => y = r) 0 A) :
    ∀ (k : Nat) (e : Int), k < 64 → 2 ^ k * (2 * m + 1) < 9007199254740992 → -2000 ≤ e ∧ e + (k : Int) < 2000 → (bif negB b then -((2 * m + 1 : Nat) : Int) else ((2 * m + 1 : Nat) : Int), e + (k : Int)) = r → A (hd Tryz.f123 0) (L123 b ((2 ^ k * (2 * m + 1) : Nat) : Int) e)
  | 0, e, _, hl, he, h => by
    have e1 : 2 ^ 0 * (2 * m + 1) = 2 * m + 1 := by rw [Nat.pow_zero, Nat.one_mul]
    rw [e1] at hl ⊢
    have e2 : Int.tmod ((2 * m + 1 : Nat) : Int) 2 = 1 := by
      have := tmod_nat (2 * m + 1) 2
      rw [show (2 * m + 1) % 2 = 1 by omega] at this; exact this
    have e3 : (2 : Int) ^ min 63 (IntKind.bits .u64) = ((9223372036854775808 : Nat) : Int) := by decide
    refine hA.go (t123a b _ e) ⟨by decide, ?_⟩
    rw [e2, e3, fdiv_nat]
    refine sat_f (by decide) ⟨by decide, ?_⟩
    have e4 : (((b / 9223372036854775808 : Nat) : Int) == 1) = negB b := by
      unfold negB
      by_cases h : 9223372036854775808 ≤ b
      · rw [decide_eq_true h, beq_iff_eq]; omega
      · rw [decide_eq_false h, beq_eq_false_iff_ne]; omega
    rw [e4]
    have e0 : e + ((0 : Nat) : Int) = e := by omega
    rw [e0] at h
    cases hn : negB b
    · rw [hn] at h; exact ⟨⟨T2', T2'⟩, h⟩
    · rw [hn] at h
      refine ⟨⟨T2', T2'⟩, ?_⟩
      rw [wrap_i64 (by omega) (by omega), Int.zero_sub]; exact h
  | k + 1, e, hk, hl, he, h => by
    have e1 : 2 ^ (k + 1) * (2 * m + 1) = 2 * (2 ^ k * (2 * m + 1)) := by rw [Nat.pow_succ, Nat.mul_comm (2 ^ k) 2, Nat.mul_assoc]
    rw [e1] at hl ⊢
    generalize hZ : 2 ^ k * (2 * m + 1) = Z at hl ⊢
    have e2 : Int.tmod ((2 * Z : Nat) : Int) 2 = 0 := by
      have := tmod_nat (2 * Z) 2
      rw [show (2 * Z) % 2 = 0 by omega] at this; exact this
    have e3 : Int.tdiv ((2 * Z : Nat) : Int) 2 = (Z : Int) := by
      rw [Int.tdiv_eq_ediv_of_nonneg (by omega)]; omega
    refine hA.go (t123a b _ e) ⟨by decide, ?_⟩
    rw [e2, e3, wrap_i64 (n := (Z : Int)) (by omega) (by omega), wrap_i64 (n := e + 1) (by omega) (by omega)]
    refine sat_t rfl ⟨by decide, ?_⟩
    have := loop123 hb hA k (e + 1) (by omega) (by rw [hZ]; omega) ⟨by omega, by omega⟩ (by rw [← h]; congr 1; omega)
    rw [hZ] at this
    exact this
theorem c123 {b : Nat} (hb : b < 18446744073709551616) : Pure Tryz.prog 123 [⟨.u64, (b : Int)⟩] [.int, .int] (partsV b) :=
  Pure.of_closed (C := codes) (S := sigs) mixed Tryz.func123 (by kernel_rfl) (Nat.le_of_ble_eq_true (by kernel_rfl)) fun A hA => hA.go (t123 b) (by
    generalize hr : partsV b = r at hA ⊢
    unfold partsV at hr
    refine ⟨⟨T2', trivial⟩, _, c122 b, ?_⟩
    show Sat _ _ _ (bif decide (clsN (rN b) < 4) then _ else _)
    by_cases hc : clsN (rN b) < 4
    · rw [decide_eq_true hc] at hr ⊢
      exact ⟨⟨T2', T2'⟩, hr⟩
    rw [decide_eq_false hc] at hr ⊢
    obtain ⟨h0, hi, h5⟩ := cls_zero hc
    obtain ⟨m, o1, o2, o3⟩ := odd_spec h0
    have hM := M0_lt (rN b)
    have e1 : Int.tmod (b : Int) 4503599627370496 = ((rN b % 4503599627370496 : Nat) : Int) := by
      have := tmod_nat b 4503599627370496
      rw [bn_mod] at this; exact this
    refine ⟨by decide, ?_⟩
    show Sat _ _ _ (bif clsN (rN b) == 5 then _ else _)
    have hr : (bif negB b then -((2 * m + 1 : Nat) : Int) else ((2 * m + 1 : Nat) : Int), E0 (rN b) + (tzN (M0 (rN b)) : Int)) = r := by rw [← o2]; exact hr
    by_cases hf : rN b < 4503599627370496
    · have hn5 : (clsN (rN b) == 5) = false := by
        rw [beq_eq_false_iff_ne]; exact fun e => (h5.1 e) hf
      have eM : M0 (rN b) = rN b := by unfold M0; rw [decide_eq_true hf]; rfl
      have eE : E0 (rN b) = -1074 := by unfold E0; rw [decide_eq_true hf]; rfl
      have e3 : rN b % 4503599627370496 = M0 (rN b) := by rw [eM]; exact Nat.mod_eq_of_lt hf
      rw [hn5, e1, e3]
      refine sat_f rfl ?_
      rw [wrap_i64 (n := ((M0 (rN b) : Nat) : Int)) (by omega) (by omega)]
      rw [eE] at hr
      have := loop123 hb (m := m) hA (tzN (M0 (rN b))) (-1074) (by omega) (by rw [← o1]; exact hM) ⟨by omega, by omega⟩ hr
      rw [← o1] at this
      exact this
    · have h55 : (clsN (rN b) == 5) = true := by rw [beq_iff_eq]; exact h5.2 hf
      have eM : M0 (rN b) = rN b % 4503599627370496 + 4503599627370496 := by unfold M0; rw [decide_eq_false hf]; rfl
      have eE : E0 (rN b) = ((rN b / 4503599627370496 : Nat) : Int) - 1075 := by unfold E0; rw [decide_eq_false hf]; rfl
      have e5 : (2 : Int) ^ min 52 (IntKind.bits .u64) = ((4503599627370496 : Nat) : Int) := by decide
      have e6 : Int.tmod ((b / 4503599627370496 : Nat) : Int) 2048 = ((rN b / 4503599627370496 : Nat) : Int) := by
        have := tmod_nat (b / 4503599627370496) 2048
        rw [bn_div hb] at this; exact this
      rw [h55, e1, e5, fdiv_nat, e6, wrap_i64 (n := ((rN b % 4503599627370496 : Nat) : Int)) (by omega) (by omega), wrap_i64 (n := ((rN b % 4503599627370496 : Nat) : Int) + 4503599627370496) (by omega) (by omega),
        wrap_i64 (n := ((rN b / 4503599627370496 : Nat) : Int)) (by omega) (by omega), wrap_i64 (n := ((rN b / 4503599627370496 : Nat) : Int) - 1075) (by omega) (by omega)]
      have e8 : ((rN b % 4503599627370496 : Nat) : Int) + 4503599627370496 = (M0 (rN b) : Int) := by rw [eM]; omega
      rw [e8]
      refine ⟨by decide, by decide, ?_⟩
      rw [eE] at hr
      have := loop123 hb (m := m) hA (tzN (M0 (rN b))) (((rN b / 4503599627370496 : Nat) : Int) - 1075) (by omega) (by rw [← o1]; exact hM) ⟨by omega, by omega⟩ hr
      rw [← o1] at this
      exact this)
end Go.Proofs.Wn

/- Rounding; volumes: contracts. (Own work.) -/
set_option exponentiation.threshold 4096
namespace Go.Proofs.Wn
open Go Go.VL Go.Proofs.Zn

theorem p64 {s : Nat} (h1 : 1 ≤ s) (h : s ≤ 64) : 2 ^ s = 2 * 2 ^ (s - 1) ∧ 2 ^ s * 2 ^ (64 - s) = 18446744073709551616 ∧ 2 ^ (s - 1) * 2 ^ (64 - s) = 9223372036854775808 ∧ 0 < 2 ^ (64 - s) := by
  refine ⟨?_, ?_, ?_, Nat.pow_pos (by decide)⟩
  · rw [Nat.mul_comm, ← Nat.pow_succ]; congr 1; omega
  · rw [← Nat.pow_add, show s + (64 - s) = 64 by omega]
  · rw [← Nat.pow_add, show s - 1 + (64 - s) = 63 by omega]
theorem cut_top {n s : Nat} (h1 : 1 ≤ s) (h : s ≤ 64) : n * 2 ^ (64 - s) % 18446744073709551616 = n % 2 ^ s * 2 ^ (64 - s) := by
  obtain ⟨_, e, _, _⟩ := p64 h1 h
  rw [← e, Nat.mul_mod_mul_right]
theorem c121 {n s : Nat} (hn : n < 9223372036854775808) (h1 : 1 ≤ s) (hs : s ≤ 2000) : Pure Tryz.prog 121 [⟨.int, (n : Int)⟩, ⟨.int, -(s : Int)⟩] [.int] (rndN n s : Int) :=
  ofT Tryz.func121 (t121 n _) (by kernel_rfl) (by kernel_rfl) fun _ => by
    by_cases hb : 63 < s
    · refine sat_t (decide_eq_true (by omega)) ⟨T2', ?_⟩
      have : 2 ^ 64 ≤ 2 ^ s := Nat.pow_le_pow_right (by decide) hb
      have e : (2 ^ 64 : Nat) = 18446744073709551616 := by decide
      rw [rnd_zero (by omega)]; rfl
    obtain ⟨p1, p2, p3, p4⟩ := p64 h1 (by omega)
    have e1 : IntKind.i64.wrap (0 - -(s : Int)) = (s : Int) := by rw [wrap_i64 (by omega) (by omega)]; omega
    have e2 : IntKind.i64.wrap (64 + -(s : Int)) = ((64 - s : Nat) : Int) := by rw [wrap_i64 (by omega) (by omega)]; omega
    have hct := cut_top (n := n) h1 (by omega)
    have e3 : IntKind.u64.wrap (IntKind.u64.wrap (n : Int) * ((2 ^ (64 - s) : Nat) : Int)) = ((n % 2 ^ s * 2 ^ (64 - s) : Nat) : Int) := by
      rw [wrapU (by omega), wrap_u64, ← hct]; rfl
    have hq : n / 2 ^ s * 2 ≤ n := Nat.le_trans (Nat.mul_le_mul_left _ (by have : 0 < 2 ^ (s - 1) := Nat.pow_pos (by decide)
                                                                           omega)) (Nat.div_mul_le_self n (2 ^ s))
    have e6' : ∀ q : Nat, q * 2 ≤ n → IntKind.i64.wrap ((q : Int) + 1) = ((q + 1 : Nat) : Int) := fun q h => by rw [wrap_i64 (by omega) (by omega)]; rfl
    have e6 := e6' _ hq
    have g1 : decide (((n % 2 ^ s * 2 ^ (64 - s) : Nat) : Int) > 9223372036854775808) = decide (2 ^ s < 2 * (n % 2 ^ s)) := by
      refine decide_eq_decide.2 ?_
      have : (9223372036854775808 < n % 2 ^ s * 2 ^ (64 - s)) ↔ 2 ^ (s - 1) < n % 2 ^ s := by
        rw [← p3]; exact ⟨fun h => Nat.lt_of_mul_lt_mul_right h, fun h => Nat.mul_lt_mul_of_pos_right h p4⟩
      omega
    have g2 : (((n % 2 ^ s * 2 ^ (64 - s) : Nat) : Int) == 9223372036854775808) = (2 ^ s == 2 * (n % 2 ^ s)) := by
      rw [Bool.eq_iff_iff, beq_iff_eq, beq_iff_eq]
      have : (9223372036854775808 = n % 2 ^ s * 2 ^ (64 - s)) ↔ 2 ^ (s - 1) = n % 2 ^ s := by
        rw [← p3]; exact ⟨fun h => Nat.eq_of_mul_eq_mul_right p4 h, fun h => by rw [h]⟩
      omega
    have e4 : Int.fdiv (n : Int) ((2 ^ s : Nat) : Int) = ((n / 2 ^ s : Nat) : Int) := fdiv_nat _ _
    have e5 : (Int.tmod ((n / 2 ^ s : Nat) : Int) 2 == 1) = (n / 2 ^ s % 2 == 1) := by
      have := tmod_nat (n / 2 ^ s) 2
      rw [show Int.tmod ((n / 2 ^ s : Nat) : Int) 2 = ((n / 2 ^ s % 2 : Nat) : Int) from this, Bool.eq_iff_iff, beq_iff_eq, beq_iff_eq]; omega
    refine sat_f (decide_eq_false (by omega)) ?_
    rw [e1, e2, pow_min (by omega), pow_min' (by omega), e3, g1, g2, e4, e5]
    unfold rndN
    refine ⟨by omega, sat_bif (fun h63 => ⟨by omega, ?_⟩) (fun _ => ⟨by omega, ?_⟩)⟩
    · have h63 : s = 63 := by have : -(s : Int) = -63 := by simpa using h63
                              omega
      have q0 : n / 2 ^ s = 0 := by
        subst h63
        exact Nat.div_eq_of_lt (by have : (2 ^ 63 : Nat) = 9223372036854775808 := by decide
                                   omega)
      rw [q0]
      refine sat_bif (fun h => ⟨T2', ?_⟩) (fun h => sat_bif (fun h2 => ⟨by decide, T2', ?_⟩) (fun h2 => ⟨T2', ?_⟩))
      · rw [h]; rfl
      · rw [h, h2]; rfl
      · rw [h, h2]; rfl
    · rw [e6]
      refine sat_bif (fun h => ⟨T2', ?_⟩) (fun h => sat_bif (fun h2 => ⟨by decide, sat_bif (fun h3 => ⟨T2', ?_⟩) (fun h3 => ⟨T2', ?_⟩)⟩) (fun h2 => ⟨T2', ?_⟩))
      · rw [h]; rfl
      · rw [h, h2, h3]; rfl
      · rw [h, h2, h3]; rfl
      · rw [h, h2]; rfl
theorem c124 {n s : Nat} (hn : n < 9223372036854775808) (h1 : 1 ≤ s) (hs : s ≤ 64) : Pure Tryz.prog 124 [⟨.u64, (n : Int)⟩, ⟨.int, (s : Int)⟩] [.u64] (rndN n s : Int) :=
  ofT Tryz.func124 (t124 n s) (by kernel_rfl) (by kernel_rfl) fun _ => by
    obtain ⟨p1, p2, p3, p4⟩ := p64 h1 hs
    have e1 : IntKind.i64.wrap ((s : Int) - 1) = ((s - 1 : Nat) : Int) := by rw [wrap_i64 (by omega) (by omega)]; omega
    have hp : 0 < 2 ^ s := Nat.pow_pos (by decide)
    have hl1 : 2 ^ (s - 1) < 18446744073709551616 := by
      have : 2 ^ (s - 1) ≤ 2 ^ 63 := Nat.pow_le_pow_right (by decide) (by omega)
      have e63 : (2 ^ 63 : Nat) = 9223372036854775808 := by decide
      omega
    have e2 : IntKind.u64.wrap (1 * ((2 ^ (s - 1) : Nat) : Int)) = ((2 ^ (s - 1) : Nat) : Int) := by rw [Int.one_mul]; exact wrapU hl1
    by_cases hb : s < 64
    · have hl : 2 ^ s < 18446744073709551616 := by
        have : 2 ^ s ≤ 2 ^ 63 := Nat.pow_le_pow_right (by decide) (by omega)
        have e63 : (2 ^ 63 : Nat) = 9223372036854775808 := by decide
        omega
      have e3 : IntKind.u64.wrap (1 * ((2 ^ s : Nat) : Int)) = ((2 ^ s : Nat) : Int) := by rw [Int.one_mul]; exact wrapU hl
      have g1 : decide (((n % 2 ^ s : Nat) : Int) > ((2 ^ (s - 1) : Nat) : Int)) = decide (2 ^ s < 2 * (n % 2 ^ s)) := decide_eq_decide.2 (by omega)
      have g2 : (((n % 2 ^ s : Nat) : Int) == ((2 ^ (s - 1) : Nat) : Int)) = (2 ^ s == 2 * (n % 2 ^ s)) := by rw [Bool.eq_iff_iff, beq_iff_eq, beq_iff_eq]; omega
      have hq : n / 2 ^ s ≤ n := Nat.div_le_self _ _
      have e5 : (Int.tmod ((n / 2 ^ s : Nat) : Int) 2 == 1) = (n / 2 ^ s % 2 == 1) := by
        have := tmod_nat (n / 2 ^ s) 2
        rw [show Int.tmod ((n / 2 ^ s : Nat) : Int) 2 = ((n / 2 ^ s % 2 : Nat) : Int) from this, Bool.eq_iff_iff, beq_iff_eq, beq_iff_eq]; omega
      have e6 : IntKind.u64.wrap (((n / 2 ^ s : Nat) : Int) + 1) = ((n / 2 ^ s + 1 : Nat) : Int) := by
        have := wrapU (a := n / 2 ^ s + 1) (by omega); exact this
      refine sat_t (decide_eq_true (by omega)) ?_
      rw [e1, pow_min hb, pow_min (by omega), e2, e3, tmod_nat, fdiv_nat, g1, g2, e5, e6]
      unfold rndN
      refine ⟨by omega, by omega, by omega, by omega, ?_⟩
      refine sat_bif (fun h => ⟨T2', ?_⟩) (fun h => sat_bif (fun h2 => ⟨by decide, sat_bif (fun h3 => ⟨T2', ?_⟩) (fun h3 => ⟨T2', ?_⟩)⟩) (fun h2 => ⟨T2', ?_⟩))
      · rw [h]; rfl
      · rw [h, h2, h3]; rfl
      · rw [h, h2, h3]; rfl
      · rw [h, h2]; rfl
    · have h64 : s = 64 := by omega
      subst h64
      have e63 : ((2 ^ (64 - 1) : Nat) : Int) = 9223372036854775808 := by decide
      refine sat_f (decide_eq_false (by omega)) ?_
      rw [e1, pow_min (by omega), e2, e63]
      have e64 : (2 ^ 64 : Nat) = 18446744073709551616 := by decide
      rw [rnd_zero (by omega)]
      exact ⟨by decide, sat_f (decide_eq_false (by omega)) (sat_f (by rw [beq_eq_false_iff_ne]; omega) ⟨T2', rfl⟩)⟩
end Go.Proofs.Wn

/- Volumes: contracts. (Own work.) -/
set_option exponentiation.threshold 4096
namespace Go.Proofs.Wn
open Go Go.VL Go.Proofs.Zn

theorem cls_facts (r : Nat) : ((clsN r == 1) = decide (r > 9218868437227405312)) ∧ (r ≤ 9218868437227405312 → (clsN r == 2) = decide (r = 9218868437227405312)) ∧ (r < 9218868437227405312 → (clsN r == 3) = decide (r = 0)) ∧ (r < 9218868437227405312 → decide (clsN r < 4) = decide (r = 0)) := by
  unfold clsN
  by_cases h1 : r > 9218868437227405312
  · rw [decide_eq_true h1]
    exact ⟨rfl, fun h => by omega, fun h => by omega, fun h => by omega⟩
  rw [decide_eq_false h1, cond_false]
  by_cases h2 : r = 9218868437227405312
  · rw [decide_eq_true h2]
    exact ⟨rfl, fun h => rfl, fun h => by omega, fun h => by omega⟩
  rw [decide_eq_false h2, cond_false]
  by_cases h3 : r = 0
  · rw [decide_eq_true h3]
    exact ⟨rfl, fun h => rfl, fun h => rfl, fun h => rfl⟩
  rw [decide_eq_false h3, cond_false]
  cases decide (r < 4503599627370496)
  · exact ⟨rfl, fun h => rfl, fun h => rfl, fun h => rfl⟩
  · exact ⟨rfl, fun h => rfl, fun h => rfl, fun h => rfl⟩
theorem rN_nan {b : Nat} : nanF (some b) = decide (rN b > 9218868437227405312) := nan_iff b
theorem below0 {b : Nat} (hb : b < 18446744073709551616) (hr : rN b ≤ 9218868437227405312) : (Fl.cmp (some b) (some 0) == some Ordering.lt) = (negB b && decide (0 < rN b)) := by
  have h0 : nanF (some 0) = false := nanAbs (by decide)
  rw [cmp_key (by rw [rN_nan]; exact decide_eq_false (by omega)) h0, key_zero, cmp_lt, key_val hb hr]
  show decide ((bif negB b then -(valR (rN b) : Int) else (valR (rN b) : Int)) < 0) = _
  rw [Bool.eq_iff_iff]
  by_cases hz : rN b = 0
  · rw [hz, val_zero]; cases negB b <;> simp
  · have := val_pos (r := rN b) (by omega)
    cases negB b <;> simp <;> omega
theorem above {b : Nat} (hb : b < 18446744073709551616) (hr : rN b ≤ 9218868437227405312) : (Fl.cmp (some b) (some 4787326403894837248) == some Ordering.gt) = (!negB b && decide (4787326403894837248 < rN b)) := by
  rw [cmp_key (by rw [rN_nan]; exact decide_eq_false (by omega)) (nanAbs (by decide)), cmp_gt, key_val hb hr, keyAbs (by decide)]
  show decide (_ < (bif negB b then -(valR (rN b) : Int) else (valR (rN b) : Int))) = _
  have h := val_iff (r := 4787326403894837248) (q := rN b) (by decide) hr
  rw [Bool.eq_iff_iff]
  cases negB b
  · simp; try omega
  · simp; try omega

theorem vol_neg {r : Nat} (h : powN r < 0) : volN r = rndN (oddN r * 1000) (-powN r).toNat := by unfold volN; rw [decide_eq_true h]; rfl
theorem vol_pos {r : Nat} (h : ¬ powN r < 0) : volN r = oddN r * 1000 * 2 ^ (powN r).toNat := by unfold volN; rw [decide_eq_false h]; rfl
theorem c57 {b : Nat} (hb : b < 18446744073709551616) : Pure Tryz.prog 57 [⟨.flt, some b⟩] [.int, .int] (ofS b) :=
  ofT Tryz.func57 (t57 (some b)) (by kernel_rfl) (by kernel_rfl) fun _ => by
    obtain ⟨f1, f2, f3, f4⟩ := cls_facts (rN b)
    refine ⟨⟨T2', trivial⟩, _, c119 hb, ?_⟩
    show Sat _ _ _ (bif clsN (rN b) == 1 then _ else bif clsN (rN b) == 2 then _ else _)
    unfold ofS
    refine sat_if (fun _ => ⟨⟨T2', T2'⟩, rfl⟩) (fun h1 => sat_if (fun _ => ⟨⟨T2', T2'⟩, rfl⟩) (fun h2 => ?_))
    rw [f1] at h1
    have h1 := of_decide_eq_false h1
    rw [f2 (by omega)] at h2
    have h2 := of_decide_eq_false h2
    have hi : rN b < 9218868437227405312 := by omega
    rw [below0 hb (by omega), above hb (by omega), f3 hi]
    by_cases hz : rN b = 0
    · rw [decide_eq_true hz, hz]
      refine sat_f (by simp) (sat_f (by simp) ⟨⟨T2', trivial⟩, _, c120 hb, ?_⟩)
      have e : partsV b = (0, 0) := by unfold partsV; rw [hz]; rfl
      rw [e]
      exact sat_f rfl ⟨by decide, sat_f (by decide) ⟨⟨T2', T2'⟩, rfl⟩⟩
    rw [decide_eq_false hz, cond_false]
    have hd : decide (0 < rN b) = true := decide_eq_true (by omega)
    rw [hd, Bool.and_true]
    refine sat_if (fun _ => ⟨⟨T2', T2'⟩, rfl⟩) (fun hn => ?_)
    rw [hn, Bool.not_false, Bool.true_and]
    by_cases hC : 4787326403894837248 < rN b
    · rw [decide_eq_true hC, decide_eq_true (large_vol hC hi)]
      exact ⟨⟨T2', T2'⟩, rfl⟩
    rw [decide_eq_false hC]
    have hol := @odd_lt (rN b)
    have hlo := @pow_lo (rN b)
    have e : partsV b = ((oddN (rN b) : Int), powN (rN b)) := by unfold partsV; rw [f4 hi, decide_eq_false hz, hn]; rfl
    refine sat_f rfl ⟨⟨T2', trivial⟩, _, (c120 hb).eq e, ?_⟩
    have e1 : IntKind.i64.wrap ((oddN (rN b) : Int) * 1000) = ((oddN (rN b) * 1000 : Nat) : Int) := by rw [wrap_i64 (by omega) (by omega)]; rfl
    show Sat _ _ _ (bif decide (powN (rN b) < 0) then _ else _)
    by_cases hp : powN (rN b) < 0
    · rw [decide_eq_true hp, e1, vol_neg hp]
      have es : powN (rN b) = -(((-powN (rN b)).toNat : Nat) : Int) := by omega
      have c := c121 (n := oddN (rN b) * 1000) (s := (-powN (rN b)).toNat) (by omega) (by omega) (by omega)
      rw [← es] at c
      refine ⟨⟨T2', T2', trivial⟩, ((rndN (oddN (rN b) * 1000) (-powN (rN b)).toNat : Nat) : Int), c, ?_⟩
      have g : decide (((rndN (oddN (rN b) * 1000) (-powN (rN b)).toNat : Nat) : Int) > 1099511627776) = decide (rndN (oddN (rN b) * 1000) (-powN (rN b)).toNat > 1099511627776) := decide_eq_decide.2 (by omega)
      show Sat _ _ _ (bif decide (((rndN (oddN (rN b) * 1000) (-powN (rN b)).toNat : Nat) : Int) > 1099511627776) then _ else _)
      rw [g]
      exact sat_if (fun _ => ⟨⟨T2', T2'⟩, rfl⟩) (fun _ => ⟨⟨T2', T2'⟩, rfl⟩)
    · rw [decide_eq_false hp, e1, vol_pos hp]
      have hs := small_vol (r := rN b) (by omega) (by omega) (by omega)
      have ho := odd_pos (r := rN b) (by omega)
      have hp41 : (powN (rN b)).toNat < 64 := by
        rcases Nat.lt_or_ge (powN (rN b)).toNat 64 with g | g
        · exact g
        · have g1 : 2 ^ 64 ≤ 2 ^ (powN (rN b)).toNat := Nat.pow_le_pow_right (by decide) g
          have g2 : 1 * 2 ^ (powN (rN b)).toNat ≤ oddN (rN b) * 2 ^ (powN (rN b)).toNat := Nat.mul_le_mul_right _ ho
          have e64 : (2 ^ 64 : Nat) = 18446744073709551616 := by decide
          omega
      have e2 : (2 : Int) ^ min (Int.toNat (powN (rN b))) (IntKind.bits .i64) = ((2 ^ (powN (rN b)).toNat : Nat) : Int) := by
        have := pow_min' hp41
        rw [Int.toNat_natCast] at this
        exact this
      have e3 : oddN (rN b) * 1000 * 2 ^ (powN (rN b)).toNat = 1000 * (oddN (rN b) * 2 ^ (powN (rN b)).toNat) := by rw [Nat.mul_comm (oddN (rN b)) 1000, Nat.mul_assoc]
      have e4 : IntKind.i64.wrap (((oddN (rN b) * 1000 : Nat) : Int) * ((2 ^ (powN (rN b)).toNat : Nat) : Int)) = ((oddN (rN b) * 1000 * 2 ^ (powN (rN b)).toNat : Nat) : Int) := by
        rw [← Int.natCast_mul]
        exact wrap_i64 (by omega) (by omega)
      rw [e2, e4]
      have g : decide (((oddN (rN b) * 1000 * 2 ^ (powN (rN b)).toNat : Nat) : Int) > 1099511627776) = decide (oddN (rN b) * 1000 * 2 ^ (powN (rN b)).toNat > 1099511627776) := decide_eq_decide.2 (by omega)
      rw [g]
      refine ⟨by omega, ?_⟩
      exact sat_if (fun _ => ⟨⟨T2', T2'⟩, rfl⟩) (fun _ => ⟨⟨T2', T2'⟩, rfl⟩)

theorem loop59 {m e : Nat} (he : e < 2000) (hm : m < 9223372036854775808) {r : Int × Int} {A : List Item → AS → Prop} (hA : Closed Tryz.prog codes sigs Tryz.f59 (pureFin [.int, .int]) (fun y => y = r) 0 A)
    (hr : (bif decide (m * 2 ^ e > 1099511627776) then (0, 4) else (((m * 2 ^ e : Nat) : Int), 0)) = r) (i : Nat) (hi : i ≤ e) (hn : m * 2 ^ i < 9223372036854775808) : A (hd Tryz.f59 0) (L59 e ((m * 2 ^ i : Nat) : Int) i) := by
  have big : m * 2 ^ i > 1099511627776 → (0, 4) = r := fun h => by
    have : m * 2 ^ i ≤ m * 2 ^ e := Nat.mul_le_mul_left _ (Nat.pow_le_pow_right (by decide) hi)
    rw [decide_eq_true (by omega)] at hr; exact hr
  have g : decide (((m * 2 ^ i : Nat) : Int) > 1099511627776) = decide (m * 2 ^ i > 1099511627776) := decide_eq_decide.2 (by omega)
  have g' : decide (((m * 2 ^ i : Nat) : Int) ≤ 1099511627776) = decide (m * 2 ^ i ≤ 1099511627776) := decide_eq_decide.2 (by omega)
  refine hA.go (t59a e _ i) ?_
  rw [g, g']
  refine sat_bif (fun h1 => sat_bif (fun h2 => ?_) (fun h2 => sat_bif (fun h3 => ⟨⟨T2', T2'⟩, big (of_decide_eq_true h3)⟩) (fun h3 => ?_))) (fun h1 => sat_bif (fun h3 => ⟨⟨T2', T2'⟩, big (of_decide_eq_true h3)⟩) (fun h3 => ?_))
  · have h1 := of_decide_eq_true h1
    have h2 := of_decide_eq_true h2
    have e1 : IntKind.u64.wrap (2 * ((m * 2 ^ i : Nat) : Int)) = ((m * 2 ^ (i + 1) : Nat) : Int) := by
      have e2 : m * 2 ^ (i + 1) = 2 * (m * 2 ^ i) := by rw [Nat.pow_succ, ← Nat.mul_assoc, Nat.mul_comm]
      rw [e2]
      have := wrapU (a := 2 * (m * 2 ^ i)) (by omega); exact this
    rw [e1, wrap_succ (by omega)]
    exact loop59 he hm hA hr (i + 1) (by omega) (by
      have e2 : m * 2 ^ (i + 1) = 2 * (m * 2 ^ i) := by rw [Nat.pow_succ, ← Nat.mul_assoc, Nat.mul_comm]
      omega)
  · have h2 := of_decide_eq_false h2
    have h3 := of_decide_eq_false h3
    omega
  · have h1 := of_decide_eq_false h1
    have h3' := of_decide_eq_false h3
    have : i = e := by omega
    subst this
    rw [h3] at hr
    refine ⟨⟨T2', T2'⟩, ?_⟩
    rw [wrap_i64 (by omega) (by omega)]; exact hr
termination_by e - i
theorem loop59n {n : Nat} {e : Int} (he : e < 0) (hn : n < 9223372036854775808) {r : Int × Int} {A : List Item → AS → Prop} (hA : Closed Tryz.prog codes sigs Tryz.f59 (pureFin [.int, .int]) (fun y => y = r) 0 A)
    (hr : (bif decide (n > 1099511627776) then (0, 4) else ((n : Int), 0)) = r) : A (hd Tryz.f59 0) (L59 e (n : Int) 0) := by
  have g : decide ((n : Int) > 1099511627776) = decide (n > 1099511627776) := decide_eq_decide.2 (by omega)
  refine hA.go (t59a e _ 0) (sat_f (decide_eq_false (by omega)) ?_)
  rw [g]
  refine sat_bif (fun h3 => ⟨⟨T2', T2'⟩, ?_⟩) (fun h3 => ⟨⟨T2', T2'⟩, ?_⟩)
  · rw [h3] at hr; exact hr
  · rw [h3] at hr; rw [wrap_i64 (by omega) (by omega)]; exact hr
theorem rnd_lt {n s : Nat} (hn : n < 9223372036854775807) : rndN n s < 9223372036854775808 := by
  have : n / 2 ^ s ≤ n := Nat.div_le_self _ _
  unfold rndN
  cases (decide (2 ^ s < 2 * (n % 2 ^ s)) || (2 ^ s == 2 * (n % 2 ^ s) && n / 2 ^ s % 2 == 1))
  · simp only [cond_false]; omega
  · simp only [cond_true]; omega
theorem c59 {b : Nat} (hb : b < 18446744073709551616) : Pure Tryz.prog 59 [⟨.u64, (b : Int)⟩] [.int, .int] (ofS b) :=
  Pure.of_closed (C := codes) (S := sigs) mixed Tryz.func59 (by kernel_rfl) (Nat.le_of_ble_eq_true (by kernel_rfl)) fun A hA => hA.go (t59 b) (by
    obtain ⟨f1, f2, f3, f4⟩ := cls_facts (rN b)
    generalize hr : ofS b = r at hA ⊢
    unfold ofS at hr
    refine ⟨⟨T2', trivial⟩, _, c122 b, ?_⟩
    show Sat _ _ _ (bif clsN (rN b) == 1 then _ else bif clsN (rN b) == 2 then _ else bif clsN (rN b) == 3 then _ else _)
    refine sat_bif (fun h => ⟨⟨T2', T2'⟩, by rw [h] at hr; exact hr⟩) (fun h1 => sat_bif (fun h => ⟨⟨T2', T2'⟩, by rw [h1, h] at hr; exact hr⟩) (fun h2 => sat_bif (fun h => ⟨⟨T2', T2'⟩, by rw [h1, h2, h] at hr; exact hr⟩) (fun h3 => ?_)))
    rw [h1, h2, h3, cond_false, cond_false, cond_false] at hr
    rw [f1] at h1
    have h1 := of_decide_eq_false h1
    rw [f2 (by omega)] at h2
    have h2 := of_decide_eq_false h2
    have hi : rN b < 9218868437227405312 := by omega
    rw [f3 hi] at h3
    have hz := of_decide_eq_false h3
    have hol := @odd_lt (rN b)
    have hlo := @pow_lo (rN b)
    have ho := odd_pos (r := rN b) (by omega)
    have hhi := pow_hi (r := rN b) (by omega) hi
    cases hn : negB b
    · rw [hn, cond_false] at hr
      have e : partsV b = ((oddN (rN b) : Int), powN (rN b)) := by unfold partsV; rw [f4 hi, decide_eq_false hz, hn]; rfl
      refine ⟨⟨T2', trivial⟩, _, (c123 hb).eq e, ?_⟩
      show Sat _ _ _ (bif decide ((oddN (rN b) : Int) < 0) then _ else bif decide (powN (rN b) < -64) then _ else bif decide (powN (rN b) < 0) then _ else _)
      refine sat_f (decide_eq_false (by omega)) ?_
      have e1 : IntKind.u64.wrap (IntKind.u64.wrap (oddN (rN b) : Int) * 1000) = ((oddN (rN b) * 1000 : Nat) : Int) := by
        rw [wrapU (by omega)]
        have := wrapU (a := oddN (rN b) * 1000) (by omega); exact this
      by_cases h64 : powN (rN b) < -64
      · refine sat_t (decide_eq_true h64) ⟨⟨T2', T2'⟩, ?_⟩
        rw [vol_neg (by omega), rnd_zero (by
          have : 2 ^ 64 ≤ 2 ^ (-powN (rN b)).toNat := Nat.pow_le_pow_right (by decide) (by omega)
          have e64 : (2 ^ 64 : Nat) = 18446744073709551616 := by decide
          omega)] at hr
        exact hr
      refine sat_f (decide_eq_false h64) ?_
      rw [e1]
      by_cases hp : powN (rN b) < 0
      · refine sat_t (decide_eq_true hp) ⟨⟨T2', T2', trivial⟩, ((rndN (oddN (rN b) * 1000) (-powN (rN b)).toNat : Nat) : Int), ?_, ?_⟩
        · have es : IntKind.i64.wrap (0 - powN (rN b)) = (((-powN (rN b)).toNat : Nat) : Int) := by rw [wrap_i64 (by omega) (by omega)]; omega
          rw [es]
          exact c124 (by omega) (by omega) (by omega)
        · rw [vol_neg hp] at hr
          exact loop59n hp (rnd_lt (by omega)) hA hr
      · refine sat_f (decide_eq_false hp) ?_
        rw [vol_pos hp] at hr
        have es : powN (rN b) = (((powN (rN b)).toNat : Nat) : Int) := by omega
        have := loop59 (m := oddN (rN b) * 1000) (e := (powN (rN b)).toNat) (by omega) (by omega) hA hr 0 (by omega) (by rw [Nat.pow_zero]; omega)
        rw [Nat.pow_zero, Nat.mul_one, ← es] at this
        exact this
    · rw [hn, cond_true] at hr
      have e : partsV b = (-(oddN (rN b) : Int), powN (rN b)) := by unfold partsV; rw [f4 hi, decide_eq_false hz, hn]; rfl
      refine ⟨⟨T2', trivial⟩, _, (c123 hb).eq e, ?_⟩
      show Sat _ _ _ (bif decide (-(oddN (rN b) : Int) < 0) then _ else _)
      exact sat_t (decide_eq_true (by omega)) ⟨⟨T2', T2'⟩, hr⟩)

/-- The volume that a request wants. -/
def volS (r : Req) : Int × Int := bif (ofS r.vol.toNat).2 == 0 && (ofS r.vol.toNat).1 == 0 then (0, 1) else ofS r.vol.toNat
theorem c15 {r : Req} (h0 : 0 ≤ r.vol) (h : r.vol < 18446744073709551616) : Pure Tryz.prog 15 [⟨.req, r⟩] [.int, .int] (volS r) :=
  ofT Tryz.func15 (t15 r) (by kernel_rfl) (by kernel_rfl) fun _ => by
    refine ⟨x58 r.vol, ⟨T2', trivial⟩, _, c57 (by omega), ?_⟩
    unfold volS
    generalize ofS r.vol.toNat = x
    obtain ⟨a, b⟩ := x
    show Sat _ _ _ (bif b == 0 then (bif a == 0 then _ else _) else _)
    refine sat_bif (fun h1 => sat_bif (fun h2 => ⟨⟨T2', T2'⟩, ?_⟩) (fun h2 => ⟨⟨T2', T2'⟩, ?_⟩)) (fun h1 => ⟨⟨T2', T2'⟩, ?_⟩)
    · simp only [h1, h2]; rfl
    · simp only [h1, h2]; rfl
    · simp only [h1]; rfl
theorem c16 {r : Req} (h0 : 0 ≤ r.vol) (h : r.vol < 18446744073709551616) : Pure Tryz.prog 16 [⟨.req, r⟩] [.int, .int] (volS r) :=
  ofT Tryz.func16 (t16 r) (by kernel_rfl) (by kernel_rfl) fun _ => by
    have c := c59 (b := r.vol.toNat) (by omega)
    rw [Int.toNat_of_nonneg h0] at c
    refine ⟨⟨T2', trivial⟩, _, c, ?_⟩
    unfold volS
    generalize ofS r.vol.toNat = x
    obtain ⟨a, b⟩ := x
    show Sat _ _ _ (bif b == 0 then (bif a == 0 then _ else _) else _)
    refine sat_bif (fun h1 => sat_bif (fun h2 => ⟨⟨T2', T2'⟩, ?_⟩) (fun h2 => ⟨⟨T2', T2'⟩, ?_⟩)) (fun h1 => ⟨⟨T2', T2'⟩, ?_⟩)
    · simp only [h1, h2]; rfl
    · simp only [h1, h2]; rfl
    · simp only [h1]; rfl
end Go.Proofs.Wn

/- The deck and its parts: plain models. (Own work.) -/
namespace Go.Proofs.Zn
open Go Go.VL

def boxOk (b : Go.VL.Box) : Bool := bif decide (b.rows ≥ 1) then bif decide (b.rows ≤ 32) then bif decide (b.cols ≥ 1) then decide (b.cols ≤ 48) else false else false else false
theorem boxOk_iff {b : Go.VL.Box} : boxOk b = true ↔ 1 ≤ b.rows ∧ b.rows ≤ 32 ∧ 1 ≤ b.cols ∧ b.cols ≤ 48 := by
  unfold boxOk
  by_cases h1 : b.rows ≥ 1
  · rw [decide_eq_true h1, cond_true]
    by_cases h2 : b.rows ≤ 32
    · rw [decide_eq_true h2, cond_true]
      by_cases h3 : b.cols ≥ 1
      · rw [decide_eq_true h3, cond_true, decide_eq_true_eq]; omega
      · rw [decide_eq_false h3, cond_false]; simp; omega
    · rw [decide_eq_false h2, cond_false]; simp; omega
  · rw [decide_eq_false h1, cond_false]; simp; omega
theorem box_size {b : Go.VL.Box} (h : boxOk b = true) : 1 ≤ b.rows * b.cols ∧ b.rows * b.cols ≤ 1536 := by
  obtain ⟨h1, h2, h3, h4⟩ := boxOk_iff.1 h
  constructor
  · have := Int.mul_le_mul h1 h3 (by omega) (by omega); omega
  · have := Int.mul_le_mul h2 h4 (by omega) (by omega); omega

def startOk (c : Int) : List Int → Bool
  | [] => true
  | n :: l => bif decide (n < 0) then false else bif decide (n > c) then false else startOk c l
def holdsS (p : Plate) : Bool := bif decide (p.cap < 1) then false else bif decide (p.cap > 1099511627776) then false else bif decide ((p.start.length : Int) > p.rows * p.cols) then false else startOk p.cap p.start
def pbox (p : Plate) : Go.VL.Box := ⟨p.rows, p.cols⟩
def rbox (r : Rack) : Go.VL.Box := ⟨r.rows, r.cols⟩
def plateOk (p : Plate) : Bool := bif boxOk (pbox p) then holdsS p else false
def boxesP (d : Deck) : List Go.VL.Box := d.plates.map pbox
def boxesR (d : Deck) : List Go.VL.Box := d.racks.map rbox
def sumI : List Go.VL.Box → Int
  | [] => 0
  | b :: l => b.rows * b.cols + sumI l
theorem sumI_app (l m : List Go.VL.Box) : sumI (l ++ m) = sumI l + sumI m := by
  induction l with
  | nil => simp [sumI]
  | cons b l ih => simp only [List.cons_append, sumI, ih]; omega
theorem sumI_le : ∀ {l : List Go.VL.Box}, (∀ b ∈ l, boxOk b = true) → 0 ≤ sumI l ∧ sumI l ≤ 1536 * (l.length : Int)
  | [], _ => by simp [sumI]
  | b :: l, h => by
    have h1 := box_size (h b (by simp))
    have h2 := sumI_le (l := l) fun c hc => h c (by simp [hc])
    simp only [sumI, List.length_cons]; omega

/-- The code of what is wrong with a deck. -/
def deckS (d : Deck) : Int :=
  bif checkS d.borders != 0 then checkS d.borders else bif decide (d.arms < 1) then 80 else bif decide (d.arms > 8) then 80 else
  bif decide ((d.plates.length : Int) > 4) then 2 else bif decide ((d.racks.length : Int) > 4) then 2 else
  bif !d.plates.all plateOk then 81 else bif !(boxesR d).all boxOk then 82 else
  bif decide (sumI (boxesP d) > 384) then 2 else bif decide (sumI (boxesR d) > 384) then 2 else 0

structure DeckOk (d : Deck) : Prop where
  borders : checkS d.borders = 0
  arms : 1 ≤ d.arms ∧ d.arms ≤ 8
  plates : d.plates.length ≤ 4
  racks : d.racks.length ≤ 4
  plate : ∀ p ∈ d.plates, plateOk p = true
  boxP : ∀ b ∈ boxesP d, boxOk b = true
  boxR : ∀ b ∈ boxesR d, boxOk b = true
  wells : 0 ≤ sumI (boxesP d) ∧ sumI (boxesP d) ≤ 384
  tips : 0 ≤ sumI (boxesR d) ∧ sumI (boxesR d) ≤ 384
  lanes : 2 ≤ d.borders.length ∧ d.borders.length ≤ 25

theorem deck_ok {d : Deck} (h : deckS d = 0) : DeckOk d := by
  unfold deckS at h
  cases h1 : checkS d.borders != 0
  · rw [h1, cond_false] at h
    have hb : checkS d.borders = 0 := by simpa using h1
    by_cases h2 : d.arms < 1
    · rw [decide_eq_true h2] at h; cases h
    rw [decide_eq_false h2, cond_false] at h
    by_cases h3 : d.arms > 8
    · rw [decide_eq_true h3] at h; cases h
    rw [decide_eq_false h3, cond_false] at h
    by_cases h4 : (d.plates.length : Int) > 4
    · rw [decide_eq_true h4] at h; cases h
    rw [decide_eq_false h4, cond_false] at h
    by_cases h5 : (d.racks.length : Int) > 4
    · rw [decide_eq_true h5] at h; cases h
    rw [decide_eq_false h5, cond_false] at h
    cases h6 : d.plates.all plateOk
    · rw [h6] at h; cases h
    rw [h6, Bool.not_true, cond_false] at h
    cases h7 : (boxesR d).all boxOk
    · rw [h7] at h; cases h
    rw [h7, Bool.not_true, cond_false] at h
    by_cases h8 : sumI (boxesP d) > 384
    · rw [decide_eq_true h8] at h; cases h
    rw [decide_eq_false h8, cond_false] at h
    by_cases h9 : sumI (boxesR d) > 384
    · rw [decide_eq_true h9] at h; cases h
    have hp : ∀ p ∈ d.plates, plateOk p = true := List.all_eq_true.1 h6
    have hbp : ∀ b ∈ boxesP d, boxOk b = true := fun b hb => by
      obtain ⟨p, hp', rfl⟩ := List.mem_map.1 hb
      have := hp p hp'
      unfold plateOk at this
      cases hq : boxOk (pbox p)
      · rw [hq] at this; cases this
      · rfl
    have hbr : ∀ b ∈ boxesR d, boxOk b = true := List.all_eq_true.1 h7
    exact ⟨hb, ⟨by omega, by omega⟩, by omega, by omega, hp, hbp, hbr, ⟨(sumI_le hbp).1, by omega⟩, ⟨(sumI_le hbr).1, by omega⟩, check_len hb⟩
  · rw [h1, cond_true] at h
    rw [h] at h1; cases h1

/-! ### parts -/
def placesS (k u r c : Int) : List Part := (List.range (r * c).toNat).map fun n : Nat => ⟨k, u, (n : Int) / c, (n : Int) % c⟩
def unitsS (k : Int) : Int → List Go.VL.Box → List Part
  | _, [] => []
  | u, b :: l => placesS k u b.rows b.cols ++ unitsS k (u + 1) l
def lanesL (n : Nat) : List Part := (List.range n).map fun i : Nat => ⟨3, (i : Int), 0, 0⟩
def partsS (d : Deck) : List Part := unitsS 1 0 (boxesP d) ++ (unitsS 2 0 (boxesR d) ++ lanesL (d.borders.length - 1))
def partsOf (d : Deck) : List Part := bif deckS d != 0 then [] else partsS d
def placeGo (k : Int) : Int → List Go.VL.Box → Int → Part
  | _, [], _ => ⟨k, 0, 0, 0⟩
  | u, b :: l, n => bif decide (n < b.rows * b.cols) then ⟨k, u, n / b.cols, n % b.cols⟩ else placeGo k (u + 1) l (n - b.rows * b.cols)

theorem places_len (k u r c : Int) : (placesS k u r c).length = (r * c).toNat := by simp [placesS]
theorem units_len (k : Int) : ∀ (l : List Go.VL.Box) (u : Int), (∀ b ∈ l, boxOk b = true) → ((unitsS k u l).length : Int) = sumI l
  | [], _, _ => rfl
  | b :: l, u, h => by
    have h1 := box_size (h b (by simp))
    have h2 := units_len k l (u + 1) fun c hc => h c (by simp [hc])
    simp only [unitsS, List.length_append, places_len, sumI]; omega
theorem place_get (k : Int) : ∀ (l : List Go.VL.Box) (u n : Int), (∀ b ∈ l, boxOk b = true) → 0 ≤ n → n < sumI l → (unitsS k u l)[n.toNat]? = some (placeGo k u l n)
  | [], _, n, _, h0, h1 => by simp only [sumI] at h1; omega
  | b :: l, u, n, h, h0, h1 => by
    have h3 := box_size (h b (by simp))
    simp only [unitsS, placeGo]
    by_cases hn : n < b.rows * b.cols
    · rw [decide_eq_true hn, cond_true, List.getElem?_append_left (by rw [places_len]; omega)]
      simp only [placesS]
      rw [List.getElem?_map, List.getElem?_range (by omega)]
      simp only [Option.map_some, Int.toNat_of_nonneg h0]
    · rw [decide_eq_false hn, cond_false, List.getElem?_append_right (by rw [places_len]; omega), places_len]
      have e : n.toNat - (b.rows * b.cols).toNat = (n - b.rows * b.cols).toNat := by omega
      rw [e]
      exact place_get k l (u + 1) _ (fun c hc => h c (by simp [hc])) (by omega) (by simp only [sumI] at h1; omega)

theorem parts_len {d : Deck} (h : DeckOk d) : ((partsS d).length : Int) = sumI (boxesP d) + sumI (boxesR d) + ((d.borders.length : Int) - 1) := by
  have h1 := units_len 1 (boxesP d) 0 h.boxP
  have h2 := units_len 2 (boxesR d) 0 h.boxR
  have h3 := h.lanes
  simp only [partsS, List.length_append, lanesL, List.length_map, List.length_range]; omega

/-- The part of an id. -/
def partS (d : Deck) (i : Int) : Part × Int :=
  bif deckS d != 0 then (⟨0, 0, 0, 0⟩, deckS d) else bif decide (i < 0) then (⟨0, 0, 0, 0⟩, 3) else bif decide (i ≥ ((partsS d).length : Int)) then (⟨0, 0, 0, 0⟩, 3) else
  ((partsS d).getD i.toNat ⟨0, 0, 0, 0⟩, 0)
theorem parts_get {d : Deck} (h : DeckOk d) {i : Int} (h0 : 0 ≤ i) (h1 : i < ((partsS d).length : Int)) :
    (partsS d)[i.toNat]? = some (bif decide (i < sumI (boxesP d)) then placeGo 1 0 (boxesP d) i else bif decide (i < sumI (boxesP d) + sumI (boxesR d)) then placeGo 2 0 (boxesR d) (i - sumI (boxesP d)) else ⟨3, i - sumI (boxesP d) - sumI (boxesR d), 0, 0⟩) := by
  have hl := parts_len h
  have l1 := units_len 1 (boxesP d) 0 h.boxP
  have l2 := units_len 2 (boxesR d) 0 h.boxR
  have hw := h.wells
  have ht := h.tips
  have hb := h.lanes
  unfold partsS
  by_cases c1 : i < sumI (boxesP d)
  · rw [decide_eq_true c1, cond_true, List.getElem?_append_left (by omega)]
    exact place_get 1 _ 0 i h.boxP h0 c1
  · rw [decide_eq_false c1, cond_false, List.getElem?_append_right (by omega)]
    have e1 : i.toNat - (unitsS 1 0 (boxesP d)).length = (i - sumI (boxesP d)).toNat := by omega
    rw [e1]
    by_cases c2 : i < sumI (boxesP d) + sumI (boxesR d)
    · rw [decide_eq_true c2, cond_true, List.getElem?_append_left (by omega)]
      exact place_get 2 _ 0 _ h.boxR (by omega) (by omega)
    · rw [decide_eq_false c2, cond_false, List.getElem?_append_right (by omega)]
      have e2 : (i - sumI (boxesP d)).toNat - (unitsS 2 0 (boxesR d)).length = (i - sumI (boxesP d) - sumI (boxesR d)).toNat := by omega
      rw [e2, lanesL, List.getElem?_map, List.getElem?_range (by omega)]
      simp only [Option.map_some]
      rw [Int.toNat_of_nonneg (by omega)]

/-- What a part of a deck that is right may be. -/
def ValidP (d : Deck) (p : Part) : Prop :=
  (p.kind = 1 ∧ 0 ≤ p.unit ∧ p.unit < (d.plates.length : Int)) ∨ (p.kind = 2 ∧ 0 ≤ p.unit ∧ p.unit < (d.racks.length : Int)) ∨ (p.kind = 3 ∧ 0 ≤ p.unit ∧ p.unit < (d.borders.length : Int) - 1)
theorem units_mem {k : Int} : ∀ {l : List Go.VL.Box} {u : Int} {p : Part}, p ∈ unitsS k u l → p.kind = k ∧ u ≤ p.unit ∧ p.unit < u + (l.length : Int)
  | [], _, _, h => by simp [unitsS] at h
  | b :: l, u, p, h => by
    simp only [unitsS, List.mem_append] at h
    rcases h with h | h
    · obtain ⟨n, _, rfl⟩ := List.mem_map.1 h
      refine ⟨rfl, ?_, ?_⟩ <;> simp
      omega
    · obtain ⟨h1, h2, h3⟩ := units_mem h
      simp only [List.length_cons]
      exact ⟨h1, by omega, by omega⟩
theorem parts_valid {d : Deck} {p : Part} (h : p ∈ partsS d) : ValidP d p := by
  simp only [partsS, List.mem_append] at h
  rcases h with h | h | h
  · obtain ⟨h1, h2, h3⟩ := units_mem h
    simp only [boxesP, List.length_map] at h3
    exact .inl ⟨h1, h2, by omega⟩
  · obtain ⟨h1, h2, h3⟩ := units_mem h
    simp only [boxesR, List.length_map] at h3
    exact .inr (.inl ⟨h1, h2, by omega⟩)
  · obtain ⟨n, hn, rfl⟩ := List.mem_map.1 h
    have := List.mem_range.1 hn
    exact .inr (.inr ⟨rfl, by simp, by simp; omega⟩)
theorem part_valid {d : Deck} {i : Int} (h : (partS d i).2 = 0) : DeckOk d ∧ ValidP d (partS d i).1 := by
  unfold partS at h ⊢
  cases h1 : deckS d != 0
  · rw [h1, cond_false] at h
    rw [cond_false]
    have hd : DeckOk d := deck_ok (by simpa using h1)
    by_cases h2 : i < 0
    · rw [decide_eq_true h2] at h; cases h
    rw [decide_eq_false h2, cond_false] at h ⊢
    by_cases h3 : i ≥ ((partsS d).length : Int)
    · rw [decide_eq_true h3] at h; cases h
    rw [decide_eq_false h3, cond_false]
    refine ⟨hd, parts_valid ?_⟩
    rw [getD_at' (by omega)]
    exact List.getElem_mem _
  · rw [h1, cond_true] at h
    rw [show deckS d = 0 from h] at h1; cases h1

/-! ### lanes that parts cover -/
def rowS (d : Deck) (p : Part) : Row := bif p.kind == 2 then ⟨(d.racks.getD p.unit.toNat Ty.rack.dflt).x, (d.racks.getD p.unit.toNat Ty.rack.dflt).pitch, (d.racks.getD p.unit.toNat Ty.rack.dflt).reach⟩
  else ⟨(d.plates.getD p.unit.toNat Ty.plate.dflt).x, (d.plates.getD p.unit.toNat Ty.plate.dflt).pitch, (d.plates.getD p.unit.toNat Ty.plate.dflt).reach⟩
def midS (r : Row) (c : Int) : Fl := Fl.arith BinOp.add r.x (Fl.arith BinOp.mul (some (FloatKind.nearest FloatKind.f64 c)) r.pitch)
def coverS (d : Deck) (p : Part) : Span × Int := bif p.kind == 3 then (⟨p.unit, p.unit⟩, 0) else reachS d.borders (midS (rowS d p) p.col) (rowS d p).reach
def spanS (d : Deck) (i : Int) : Span × Int := bif (partS d i).2 != 0 then (⟨0, 0⟩, (partS d i).2) else coverS d (partS d i).1

theorem reach_ok {l : List Fl} {x r : Fl} (h : (reachS l x r).2 = 0) : 0 ≤ (reachS l x r).1.lo ∧ (reachS l x r).1.lo ≤ (reachS l x r).1.hi ∧ (reachS l x r).1.hi < (l.length : Int) - 1 := by
  unfold reachS at h ⊢
  cases h1 : checkS l != 0
  · have hc : checkS l = 0 := by simpa using h1
    rw [h1, cond_false] at h; rw [cond_false]
    cases h2 : nanF x
    · rw [h2, cond_false] at h; rw [cond_false]
      cases h3 : nanF r
      · rw [h3, cond_false] at h; rw [cond_false]
        cases h4 : ltF r (some 0)
        · rw [h4, cond_false] at h; rw [cond_false]
          cases h5 : nanF (loF x r)
          · rw [h5, cond_false] at h; rw [cond_false]
            cases h6 : nanF (hiF x r)
            · rw [h6, cond_false] at h; rw [cond_false]
              have hk : 0 ≤ keyF r := by
                rw [ltF_key h3 (by decide +kernel), key_zero] at h4
                have := of_decide_eq_false h4; omega
              have hle := lo_hi h2 h3 hk h5 h6
              obtain ⟨hn, hp⟩ := check_rise hc
              obtain ⟨g1, g2⟩ := check_len hc
              unfold inS at h ⊢
              cases h7 : ltF (hiF x r) (l.getD 0 (some 0))
              · rw [h7, cond_false] at h; rw [cond_false]
                cases h8 : gtF (loF x r) (l.getD (l.length - 1) (some 0))
                · rw [cond_false]
                  have hn0 : nanF (l.getD 0 (some 0)) = false := hn _ (by rw [getD_at' (by omega)]; exact List.getElem_mem _)
                  rw [ltF_key h6 hn0] at h7
                  have h7 := of_decide_eq_false h7
                  have b1 := (behind_iff h6 hn hp 0 (by omega)).1 (by omega)
                  have b2 := behind_le l (hiF x r)
                  have b3 : behindS l (loF x r) ≤ behindS l (hiF x r) := by
                    rcases Nat.lt_or_ge (behindS l (hiF x r)) (behindS l (loF x r)) with hlt | hge
                    · exfalso
                      have b4 := behind_le l (loF x r)
                      have c1 := (behind_iff h5 hn hp (behindS l (hiF x r)) (by omega)).2 hlt
                      have c2 := (behind_iff h6 hn hp (behindS l (hiF x r)) (by omega)).1 (by omega)
                      omega
                    · exact hge
                  simp only
                  omega
                · rw [h8] at h; cases h
              · rw [h7] at h; cases h
            · rw [h6] at h; cases h
          · rw [h5] at h; cases h
        · rw [h4] at h; cases h
      · rw [h3] at h; cases h
    · rw [h2] at h; cases h
  · rw [h1, cond_true] at h
    rw [show checkS l = 0 from h] at h1; cases h1
theorem cover_ok {d : Deck} {p : Part} (hv : ValidP d p) (h : (coverS d p).2 = 0) : 0 ≤ (coverS d p).1.lo ∧ (coverS d p).1.lo ≤ (coverS d p).1.hi ∧ (coverS d p).1.hi < (d.borders.length : Int) - 1 := by
  unfold coverS at h ⊢
  cases hk : p.kind == 3
  · rw [hk, cond_false] at h; rw [cond_false]
    exact reach_ok h
  · rw [cond_true]
    have hk : p.kind = 3 := by simpa using hk
    rcases hv with ⟨a, _⟩ | ⟨a, _⟩ | ⟨_, a, b⟩
    · omega
    · omega
    · simp only; omega
end Go.Proofs.Zn
