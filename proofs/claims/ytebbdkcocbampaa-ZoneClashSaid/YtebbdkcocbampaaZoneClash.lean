/- deckhand's law ZoneClash: it returns true at every input, and its arguments read afterwards as they read before. No condition. -/
import Derived.Test.YtebbdkcocbampaaZnC
import Derived.Test.YtebbdkcocbampaaRows
import Derived.Test.YtebbdkcocbampaaVD
import Derived.WalkKit
import Derived.ProofKit
import Derived.OpenShut
import Derived.ShutString
import Derived.ChangeOld
import Derived.Below
set_option linter.unusedVariables false
set_option linter.unusedSimpArgs false
namespace Go.Proofs.Ytebbdkcocbampaa.zoneClashDone
open Go.VL Go.Proofs.Zn
open Go.ChangeShapes Go.WideShapes Go.ChangeAt Go.RowKit
open Go.ChangeMaps (open_string shut_string)
set_option linter.unusedVariables false

theorem own : ownKnob Try.prog.godebug = none := by kernel_rfl
theorem laidOut : laidOutB Try.prog = true := by kernel_rfl

set_option maxRecDepth 100000 in
theorem lifted (os : Os) (started : os.Started) (H : Type) (enc : TypeId × Value → H) :
    ReturnsInHanded {} Try.checked os 12 .any (Rows.zoneClashSpec.pre6 enc Try.prog Try.f12 Rows.zoneClashRow.domain false) (Rows.zoneClashSpec.post enc Try.prog Try.f12 false true false false) := by
  refine returnsInHanded_of_change (C := Try.checked) own started (by kernel_rfl) Try.func12
    (ChangeSpec.witness6 (enc := enc) (C := Try.checked) false ⟨#[], #[.agg #[.slice none 0 0, .slice none 0 0, .slice none 0 0, .int .i64 0], .int .i64 0, .int .i64 0], []⟩ 8 (by kernel_rfl) (by kernel_rfl) (by kernel_rfl) (by kernel_rfl)) ?_
  intro W base args ds gs before hval0 hW hcnd _
  have hval : ∀ (j : Nat) t v, Try.f12.params[j]? = some t → args[j]? = some v → Value.okWide Try.prog W .any base t v := hval0
  have hW' := hW
  obtain ⟨p, q, hA0, hV, rfl, hfz, hnd⟩ := hW
  have hA : DataW.TrodAll enc Try.prog W 0 (fun _ => true) true Try.f12.params.toList args.toList ds p := hA0
  have hpar : Try.f12.params = #[55, 3, 3] := by kernel_rfl
  rw [hpar] at hA hval
  obtain ⟨v0, vs0, d0, ds0, p0, q0, hargs, rfl, rfl, k0, r0⟩ := trodAll_cons hA
  obtain ⟨v1, vs1, d1, ds1, p1, q1, rfl, rfl, rfl, k1, r1⟩ := trodAll_cons r0
  obtain ⟨v2, vs2, d2, ds2, p2, q2, rfl, rfl, rfl, k2, r2⟩ := trodAll_cons r1
  obtain ⟨rfl, rfl, rfl⟩ := trodAll_nil r2
  obtain rfl : args = #[v0, v1, v2] := by cases args; simp_all
  obtain ⟨rfl, rfl⟩ := trodVars_none hV
  have lt : ∀ (t : TypeId) (v : Value) (d : DataW H) (p : List MemPlace), DataW.Trod enc Try.prog W 0 (fun _ => true) true t v d p → ∀ x ∈ p, x.block < W.heap.size := by
    intro t v d p ht
    obtain ⟨m, hm⟩ := ht
    exact DataW.trod_lt m _ _ _ hm
  obtain ⟨x0, rx0, wx0⟩ := readArg (C := codes) (n := 12) (te := .deck) (by kernel_rfl) (by kernel_rfl) (hval 0 55 v0 rfl rfl) k0
  obtain ⟨x1, rx1, wx1⟩ := readArg (C := codes) (n := 12) (te := .int) (by kernel_rfl) (by kernel_rfl) (hval 1 3 v1 rfl rfl) k1
  obtain ⟨x2, rx2, wx2⟩ := readArg (C := codes) (n := 12) (te := .int) (by kernel_rfl) (by kernel_rfl) (hval 2 3 v2 rfl rfl) k2
  clear hA0 hval0
  refine (law_calls (law12 x0 x1 x2 wx0 wx1 wx2) gok rfl (fun i a v ha hv => match i, ha, hv with
    | 0, ha, hv => by cases ha; cases hv; exact rx0
    | 1, ha, hv => by cases ha; cases hv; exact rx1
    | 2, ha, hv => by cases ha; cases hv; exact rx2
    | i + 3, ha, hv => by cases ha)).mono fun e W' ⟨he, bel⟩ => ?_
  subst he
  exact ⟨_, rfl, _, _, _, [], _, [], hW', trodAll_mk1 (shut_bool (by kernel_rfl) _), (trodAll_cons_mk (Below.trod laidOut (by kernel_rfl) (of_decide_eq_true (by kernel_rfl)) k0 bel (lt _ _ _ _ k0)) (trodAll_cons_mk (Below.trod laidOut (by kernel_rfl) (of_decide_eq_true (by kernel_rfl)) k1 bel (lt _ _ _ _ k1)) (trodAll_cons_mk (Below.trod laidOut (by kernel_rfl) (of_decide_eq_true (by kernel_rfl)) k2 bel (lt _ _ _ _ k2)) trodAll_mk0))), rfl, bel.frame _, fun h => by cases h⟩

theorem over : Rows.zoneClashRow.holds Try.pinned (OpenSpec.ofChange Rows.zoneClashSpec) :=
  OpenClaim.holds_of_wide 12 Try.f12 rfl rfl rfl rfl rfl rfl rfl ⟨rfl, rfl, rfl, rfl, rfl⟩ rfl rfl rfl rfl rfl (by kernel_rfl) Try.func12 (by kernel_rfl)
    (of_decide_eq_true (by kernel_rfl)) (by unfold Func.isWrapper; first | (rw [if_pos (by decide +kernel)]; kernel_rfl) | (rw [if_neg (by decide +kernel)]; exact ⟨rfl, rfl⟩))
    (fun os started H enc _ => lifted os started H enc)

theorem proved : Rows.ZoneClashSaid := over
#print axioms proved
end Go.Proofs.Ytebbdkcocbampaa.zoneClashDone
