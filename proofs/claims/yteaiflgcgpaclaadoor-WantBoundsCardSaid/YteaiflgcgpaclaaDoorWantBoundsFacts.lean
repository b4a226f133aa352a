/- The closed facts of the row of wantBounds, one by one. (Own work, by program.) -/
import Derived.Test.YteaiflgcgpaclaaDoorRows
import Derived.JoinedOf
import Derived.KernelRfl
import Derived.SevenTiedAt
import Derived.Test.YteaiflgcgpaclaaDoorCards
set_option linter.unusedVariables false
set_option linter.unusedSimpArgs false
namespace Go.Proofs.YteaiflgcgpaclaaDoor.wantBoundsFacts
open Go
theorem k0 : (Rows.wantBoundsRow.wf (OpenSpec.ofChange Rows.wantBoundsSpec) : Bool) = true := by kernel_rfl
theorem k1 : (laidOutB Tryd.prog : Bool) = true := by kernel_rfl
theorem k2 : (mapsRowed Tryd.prog : Bool) = true := by kernel_rfl
theorem k3 : (Tryd.f3.params.all (Tryd.prog.readableRec ·) : Bool) = true := by kernel_rfl
theorem k4 : (namedTie Tryd.prog Rows.wantBoundsRow.named Rows.wantBoundsSpec.vars : Bool) = true := by kernel_rfl
theorem k5 : ((Rows.wantBoundsRow.stops == []) : Bool) = true := by kernel_rfl
theorem k6 : ((Tryd.prog.stops == []) : Bool) = true := by kernel_rfl
theorem k7 : ((Rows.wantBoundsRow.knobs == []) : Bool) = true := by kernel_rfl
theorem k8 : ((Tryd.prog.stopKnobs == []) : Bool) = true := by kernel_rfl
theorem k9 : ((Rows.wantBoundsRow.inPlace == Tryd.prog.inPlace (3 : FuncId)) : Bool) = true := by kernel_rfl
theorem k10 : ((Rows.wantBoundsRow.unfollowed == Tryd.prog.unfollowed (3 : FuncId)) : Bool) = true := by kernel_rfl
theorem k11 : ((Rows.wantBoundsRow.recurses == Tryd.prog.recurses (3 : FuncId)) : Bool) = true := by kernel_rfl
theorem k12 : ((Rows.wantBoundsRow.named == Tryd.prog.varsNamed (3 : FuncId)) : Bool) = true := by kernel_rfl
theorem k13 : ((Rows.wantBoundsRow.maps == (Tryd.f3.params.toList ++ Rows.wantBoundsSpec.plain.varTypes Tryd.prog).any (Tryd.prog.mapsRec ·)) : Bool) = true := by kernel_rfl
theorem k14 : ((Rows.wantBoundsRow.ifaces == (Tryd.f3.params.toList ++ Rows.wantBoundsSpec.plain.varTypes Tryd.prog).any (Tryd.prog.ifacesRec ·)) : Bool) = true := by kernel_rfl
theorem k15 : ((Rows.wantBoundsRow.mapsOut == Tryd.prog.mapsAmong Tryd.f3.resultTypes.toList) : Bool) = true := by kernel_rfl
theorem k16 : ((Rows.wantBoundsRow.loops == (Tryd.f3.params.toList ++ Rows.wantBoundsSpec.plain.varTypes Tryd.prog).any (Tryd.prog.loopsFrom ·)) : Bool) = true := by kernel_rfl
theorem k17 : ((Rows.wantBoundsRow.wideKeys == (Tryd.f3.params.toList ++ Rows.wantBoundsSpec.plain.varTypes Tryd.prog ++ Tryd.f3.resultTypes.toList).any (Tryd.prog.wideKeysFrom ·)) : Bool) = true := by kernel_rfl
theorem k18 : (Rows.wantBoundsSpec.vars.all (Tryd.prog.varReadable ·) : Bool) = true := by kernel_rfl
theorem k19 : (Tryd.f3.resultTypes.all (fun t => Tryd.prog.readableRec t && decide (t < Tryd.prog.types.size)) : Bool) = true := by kernel_rfl
theorem k20 : ((Rows.wantBoundsRow.ifacesOut == Tryd.f3.resultTypes.toList.any (Tryd.prog.ifacesRec ·)) : Bool) = true := by kernel_rfl
theorem k21 : ((Rows.wantBoundsRow.loopsOut == Tryd.f3.resultTypes.toList.any (Tryd.prog.loopsFrom ·)) : Bool) = true := by kernel_rfl
theorem k22 : ((Rows.wantBoundsRow.plainKeys == Tryd.prog.plainKeys) : Bool) = true := by kernel_rfl
theorem k23 : (Rows.wantBoundsRow.shortTexts.isNone : Bool) = true := by kernel_rfl
theorem k24 : (Tryd.prog.stopsHeard : Bool) = true := by kernel_rfl
theorem k25 : (Tryd.prog.mayEnter : Bool) = true := by kernel_rfl
theorem k26 : ((Rows.wantBoundsRow.lifted == Tryd.prog.liftsFinal) : Bool) = true := by kernel_rfl
theorem k27 : ((Tryd.prog.make == some Rows.wantBoundsRow.make) : Bool) = true := by kernel_rfl
theorem k28 : ((Rows.wantBoundsRow.kinds == (if Rows.wantBoundsRow.domain.isEmpty then [] else Tryd.f3.params.toList.map fun t => match Tryd.prog.underlying t with | some (.int k) => some k | _ => none)) : Bool) = true := by kernel_rfl
theorem k29 : ((Rows.wantBoundsRow.pinned == Rows.wantBoundsRow.pinnedBy) : Bool) = true := by kernel_rfl
theorem k30 : ((Rows.wantBoundsRow.veiled == (Tryd.f3.params.toList ++ Rows.wantBoundsSpec.plain.varTypes Tryd.prog ++ Tryd.f3.resultTypes.toList).any (Tryd.prog.veiledRec ·)) : Bool) = true := by kernel_rfl
theorem k31 : (Rows.wantBoundsRow.veiledFits Tryd.prog Tryd.f3.params.toList (Tryd.f3.params.toList ++ Rows.wantBoundsSpec.plain.varTypes Tryd.prog ++ Tryd.f3.resultTypes.toList) : Bool) = true := by kernel_rfl
theorem byText : Rows.wantBoundsRow.wfByText (OpenSpec.ofChange Rows.wantBoundsSpec) = true := by kernel_rfl
theorem mainSum : Tryd.prog.mainIs = some (true, ("ab7e2d89b40fca0f65c00463929746a1a0f39569941a9801f93a1b34d8d1b3c5" : String).toList) := by kernel_rfl
theorem looks : false = Tryd.prog.looks [] := by kernel_rfl
theorem goes : false = Rows.wantBoundsRow.goesBy Tryd.prog := by kernel_rfl
theorem named : Tryd.prog.funcNamed "deckhand/deckhandlaw15.WantBounds" = some 3 := by kernel_rfl
theorem pars : Tryd.f3.params = #[26, 30, 27, 3] := by kernel_rfl
theorem stands : ([26, 30, 27, 3].all fun u => !Tryd.prog.wantsStandIn u) = true := by kernel_rfl
theorem and_t {a b : Bool} (ha : a = true) (hb : b = true) : (a && b) = true := by rw [ha, hb]; rfl
set_option maxRecDepth 1000000 in
theorem closed : joinedFacts Tryd.prog 3 Tryd.f3 Rows.wantBoundsSpec Rows.wantBoundsRow = true := by
  unfold joinedFacts
  refine and_t ?_ k31
  refine and_t ?_ k30
  refine and_t ?_ k29
  refine and_t ?_ k28
  refine and_t ?_ k27
  refine and_t ?_ k26
  refine and_t ?_ k25
  refine and_t ?_ k24
  refine and_t ?_ k23
  refine and_t ?_ k22
  refine and_t ?_ k21
  refine and_t ?_ k20
  refine and_t ?_ k19
  refine and_t ?_ k18
  refine and_t ?_ k17
  refine and_t ?_ k16
  refine and_t ?_ k15
  refine and_t ?_ k14
  refine and_t ?_ k13
  refine and_t ?_ k12
  refine and_t ?_ k11
  refine and_t ?_ k10
  refine and_t ?_ k9
  refine and_t ?_ k8
  refine and_t ?_ k7
  refine and_t ?_ k6
  refine and_t ?_ k5
  refine and_t ?_ k4
  refine and_t ?_ k3
  refine and_t ?_ k2
  refine and_t ?_ k1
  exact k0
end Go.Proofs.YteaiflgcgpaclaaDoor.wantBoundsFacts
