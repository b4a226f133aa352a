/- The closed facts of the row of modelNew, one by one. (Own work, by program.) -/
import Derived.Test.YteaiflgcgpaclaaGreatDoorWE
import Derived.Test.YteaiflgcgpaclaaGreatDoorRows
import Derived.JoinedOf
import Derived.KernelRfl
import Derived.SevenTiedAt
import Derived.Test.YteaiflgcgpaclaaGreatDoorCards
set_option linter.unusedVariables false
set_option linter.unusedSimpArgs false
namespace Go.Proofs.YteaiflgcgpaclaaGreatDoor.modelNewFacts
open Go
theorem k0 : (Rows.modelNewRow.wf (OpenSpec.ofChange Rows.modelNewSpec) : Bool) = true := by kernel_rfl
theorem k1 : (laidOutB Tryz.prog : Bool) = true := by kernel_rfl
theorem k2 : (mapsRowed Tryz.prog : Bool) = true := by kernel_rfl
theorem k3 : (Tryz.f5.params.all (Tryz.prog.readableRec ·) : Bool) = true := by kernel_rfl
theorem k4 : (namedTie Tryz.prog Rows.modelNewRow.named Rows.modelNewSpec.vars : Bool) = true := by kernel_rfl
theorem k5 : ((Rows.modelNewRow.stops == []) : Bool) = true := by kernel_rfl
theorem k6 : ((Tryz.prog.stops == []) : Bool) = true := by kernel_rfl
theorem k7 : ((Rows.modelNewRow.knobs == []) : Bool) = true := by kernel_rfl
theorem k8 : ((Tryz.prog.stopKnobs == []) : Bool) = true := by kernel_rfl
theorem k9 : ((Rows.modelNewRow.inPlace == Tryz.prog.inPlace (5 : FuncId)) : Bool) = true := by kernel_rfl
theorem k10 : ((Rows.modelNewRow.unfollowed == Tryz.prog.unfollowed (5 : FuncId)) : Bool) = true := by kernel_rfl
theorem k11 : ((Rows.modelNewRow.recurses == Tryz.prog.recurses (5 : FuncId)) : Bool) = true := by kernel_rfl
theorem k12 : ((Rows.modelNewRow.named == Tryz.prog.varsNamed (5 : FuncId)) : Bool) = true := by kernel_rfl
theorem k13 : ((Rows.modelNewRow.maps == (Tryz.f5.params.toList ++ Rows.modelNewSpec.plain.varTypes Tryz.prog).any (Tryz.prog.mapsRec ·)) : Bool) = true := by kernel_rfl
theorem k14 : ((Rows.modelNewRow.ifaces == (Tryz.f5.params.toList ++ Rows.modelNewSpec.plain.varTypes Tryz.prog).any (Tryz.prog.ifacesRec ·)) : Bool) = true := by kernel_rfl
theorem k15 : ((Rows.modelNewRow.mapsOut == Tryz.prog.mapsAmong Tryz.f5.resultTypes.toList) : Bool) = true := by kernel_rfl
theorem k16 : ((Rows.modelNewRow.loops == (Tryz.f5.params.toList ++ Rows.modelNewSpec.plain.varTypes Tryz.prog).any (Tryz.prog.loopsFrom ·)) : Bool) = true := by kernel_rfl
theorem k17 : ((Rows.modelNewRow.wideKeys == (Tryz.f5.params.toList ++ Rows.modelNewSpec.plain.varTypes Tryz.prog ++ Tryz.f5.resultTypes.toList).any (Tryz.prog.wideKeysFrom ·)) : Bool) = true := by kernel_rfl
theorem k18 : (Rows.modelNewSpec.vars.all (Tryz.prog.varReadable ·) : Bool) = true := by kernel_rfl
theorem k19 : (Tryz.f5.resultTypes.all (fun t => Tryz.prog.readableRec t && decide (t < Tryz.prog.types.size)) : Bool) = true := by kernel_rfl
theorem k20 : ((Rows.modelNewRow.ifacesOut == Tryz.f5.resultTypes.toList.any (Tryz.prog.ifacesRec ·)) : Bool) = true := by kernel_rfl
theorem k21 : ((Rows.modelNewRow.loopsOut == Tryz.f5.resultTypes.toList.any (Tryz.prog.loopsFrom ·)) : Bool) = true := by kernel_rfl
theorem k22 : ((Rows.modelNewRow.plainKeys == Tryz.prog.plainKeys) : Bool) = true := by kernel_rfl
theorem k23 : (Rows.modelNewRow.shortTexts.isNone : Bool) = true := by kernel_rfl
theorem k24 : (Tryz.prog.stopsHeard : Bool) = true := by kernel_rfl
theorem k25 : (Tryz.prog.mayEnter : Bool) = true := by kernel_rfl
theorem k26 : ((Rows.modelNewRow.lifted == Tryz.prog.liftsFinal) : Bool) = true := by kernel_rfl
theorem k27 : ((Tryz.prog.make == some Rows.modelNewRow.make) : Bool) = true := by kernel_rfl
theorem k28 : ((Rows.modelNewRow.kinds == (if Rows.modelNewRow.domain.isEmpty then [] else Tryz.f5.params.toList.map fun t => match Tryz.prog.underlying t with | some (.int k) => some k | _ => none)) : Bool) = true := by kernel_rfl
theorem k29 : ((Rows.modelNewRow.pinned == Rows.modelNewRow.pinnedBy) : Bool) = true := by kernel_rfl
theorem k30 : ((Rows.modelNewRow.veiled == (Tryz.f5.params.toList ++ Rows.modelNewSpec.plain.varTypes Tryz.prog ++ Tryz.f5.resultTypes.toList).any (Tryz.prog.veiledRec ·)) : Bool) = true := by kernel_rfl
theorem k31 : (Rows.modelNewRow.veiledFits Tryz.prog Tryz.f5.params.toList (Tryz.f5.params.toList ++ Rows.modelNewSpec.plain.varTypes Tryz.prog ++ Tryz.f5.resultTypes.toList) : Bool) = true := by kernel_rfl
theorem byText : Rows.modelNewRow.wfByText (OpenSpec.ofChange Rows.modelNewSpec) = true := by kernel_rfl
theorem mainSum : Tryz.prog.mainIs = some (true, ("4f9251d54ae8b43513ded1dc82fb1ab0b17c30350099c70c9c5fe157696778c4" : String).toList) := by kernel_rfl
theorem looks : false = Tryz.prog.looks [] := by kernel_rfl
theorem goes : false = Rows.modelNewRow.goesBy Tryz.prog := by kernel_rfl
theorem named : Tryz.prog.funcNamed "deckhand/deckhandlaw16.ModelNew" = some 5 := by kernel_rfl
theorem pars : Tryz.f5.params = #[26, 51, 3] := by kernel_rfl
theorem stands : ([26, 51, 3].all fun u => !Tryz.prog.wantsStandIn u) = true := by kernel_rfl
theorem and_t {a b : Bool} (ha : a = true) (hb : b = true) : (a && b) = true := by rw [ha, hb]; rfl
set_option maxRecDepth 1000000 in
theorem closed : joinedFacts Tryz.prog 5 Tryz.f5 Rows.modelNewSpec Rows.modelNewRow = true := by
  unfold joinedFacts
  refine and_t ?_ k31
  refine and_t ?_ k30
  refine and_t ?_ k29
  refine and_t ?_ k28
  refine and_t ?_ k27
  refine and_t ?_ k26
  refine and_t ?_ k25
  refine and_t ?_ k24
  refine and_t ?_ k23
  refine and_t ?_ k22
  refine and_t ?_ k21
  refine and_t ?_ k20
  refine and_t ?_ k19
  refine and_t ?_ k18
  refine and_t ?_ k17
  refine and_t ?_ k16
  refine and_t ?_ k15
  refine and_t ?_ k14
  refine and_t ?_ k13
  refine and_t ?_ k12
  refine and_t ?_ k11
  refine and_t ?_ k10
  refine and_t ?_ k9
  refine and_t ?_ k8
  refine and_t ?_ k7
  refine and_t ?_ k6
  refine and_t ?_ k5
  refine and_t ?_ k4
  refine and_t ?_ k3
  refine and_t ?_ k2
  refine and_t ?_ k1
  exact k0
end Go.Proofs.YteaiflgcgpaclaaGreatDoor.modelNewFacts
