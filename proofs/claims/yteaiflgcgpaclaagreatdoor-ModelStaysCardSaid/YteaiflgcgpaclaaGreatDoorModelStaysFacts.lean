/- The closed facts of the row of modelStays, one by one. (Own work, by program.) -/
import Derived.Test.YteaiflgcgpaclaaGreatDoorWE
import Derived.Test.YteaiflgcgpaclaaGreatDoorRows
import Derived.JoinedOf
import Derived.KernelRfl
import Derived.SevenTiedAt
import Derived.Test.YteaiflgcgpaclaaGreatDoorCards
set_option linter.unusedVariables false
set_option linter.unusedSimpArgs false
namespace Go.Proofs.YteaiflgcgpaclaaGreatDoor.modelStaysFacts
open Go
theorem k0 : (Rows.modelStaysRow.wf (OpenSpec.ofChange Rows.modelStaysSpec) : Bool) = true := by kernel_rfl
theorem k1 : (laidOutB Tryz.prog : Bool) = true := by kernel_rfl
theorem k2 : (mapsRowed Tryz.prog : Bool) = true := by kernel_rfl
theorem k3 : (Tryz.f7.params.all (Tryz.prog.readableRec ·) : Bool) = true := by kernel_rfl
theorem k4 : (namedTie Tryz.prog Rows.modelStaysRow.named Rows.modelStaysSpec.vars : Bool) = true := by kernel_rfl
theorem k5 : ((Rows.modelStaysRow.stops == []) : Bool) = true := by kernel_rfl
theorem k6 : ((Tryz.prog.stops == []) : Bool) = true := by kernel_rfl
theorem k7 : ((Rows.modelStaysRow.knobs == []) : Bool) = true := by kernel_rfl
theorem k8 : ((Tryz.prog.stopKnobs == []) : Bool) = true := by kernel_rfl
theorem k9 : ((Rows.modelStaysRow.inPlace == Tryz.prog.inPlace (7 : FuncId)) : Bool) = true := by kernel_rfl
theorem k10 : ((Rows.modelStaysRow.unfollowed == Tryz.prog.unfollowed (7 : FuncId)) : Bool) = true := by kernel_rfl
theorem k11 : ((Rows.modelStaysRow.recurses == Tryz.prog.recurses (7 : FuncId)) : Bool) = true := by kernel_rfl
theorem k12 : ((Rows.modelStaysRow.named == Tryz.prog.varsNamed (7 : FuncId)) : Bool) = true := by kernel_rfl
theorem k13 : ((Rows.modelStaysRow.maps == (Tryz.f7.params.toList ++ Rows.modelStaysSpec.plain.varTypes Tryz.prog).any (Tryz.prog.mapsRec ·)) : Bool) = true := by kernel_rfl
theorem k14 : ((Rows.modelStaysRow.ifaces == (Tryz.f7.params.toList ++ Rows.modelStaysSpec.plain.varTypes Tryz.prog).any (Tryz.prog.ifacesRec ·)) : Bool) = true := by kernel_rfl
theorem k15 : ((Rows.modelStaysRow.mapsOut == Tryz.prog.mapsAmong Tryz.f7.resultTypes.toList) : Bool) = true := by kernel_rfl
theorem k16 : ((Rows.modelStaysRow.loops == (Tryz.f7.params.toList ++ Rows.modelStaysSpec.plain.varTypes Tryz.prog).any (Tryz.prog.loopsFrom ·)) : Bool) = true := by kernel_rfl
theorem k17 : ((Rows.modelStaysRow.wideKeys == (Tryz.f7.params.toList ++ Rows.modelStaysSpec.plain.varTypes Tryz.prog ++ Tryz.f7.resultTypes.toList).any (Tryz.prog.wideKeysFrom ·)) : Bool) = true := by kernel_rfl
theorem k18 : (Rows.modelStaysSpec.vars.all (Tryz.prog.varReadable ·) : Bool) = true := by kernel_rfl
theorem k19 : (Tryz.f7.resultTypes.all (fun t => Tryz.prog.readableRec t && decide (t < Tryz.prog.types.size)) : Bool) = true := by kernel_rfl
theorem k20 : ((Rows.modelStaysRow.ifacesOut == Tryz.f7.resultTypes.toList.any (Tryz.prog.ifacesRec ·)) : Bool) = true := by kernel_rfl
theorem k21 : ((Rows.modelStaysRow.loopsOut == Tryz.f7.resultTypes.toList.any (Tryz.prog.loopsFrom ·)) : Bool) = true := by kernel_rfl
theorem k22 : ((Rows.modelStaysRow.plainKeys == Tryz.prog.plainKeys) : Bool) = true := by kernel_rfl
theorem k23 : (Rows.modelStaysRow.shortTexts.isNone : Bool) = true := by kernel_rfl
theorem k24 : (Tryz.prog.stopsHeard : Bool) = true := by kernel_rfl
theorem k25 : (Tryz.prog.mayEnter : Bool) = true := by kernel_rfl
theorem k26 : ((Rows.modelStaysRow.lifted == Tryz.prog.liftsFinal) : Bool) = true := by kernel_rfl
theorem k27 : ((Tryz.prog.make == some Rows.modelStaysRow.make) : Bool) = true := by kernel_rfl
theorem k28 : ((Rows.modelStaysRow.kinds == (if Rows.modelStaysRow.domain.isEmpty then [] else Tryz.f7.params.toList.map fun t => match Tryz.prog.underlying t with | some (.int k) => some k | _ => none)) : Bool) = true := by kernel_rfl
theorem k29 : ((Rows.modelStaysRow.pinned == Rows.modelStaysRow.pinnedBy) : Bool) = true := by kernel_rfl
theorem k30 : ((Rows.modelStaysRow.veiled == (Tryz.f7.params.toList ++ Rows.modelStaysSpec.plain.varTypes Tryz.prog ++ Tryz.f7.resultTypes.toList).any (Tryz.prog.veiledRec ·)) : Bool) = true := by kernel_rfl
theorem k31 : (Rows.modelStaysRow.veiledFits Tryz.prog Tryz.f7.params.toList (Tryz.f7.params.toList ++ Rows.modelStaysSpec.plain.varTypes Tryz.prog ++ Tryz.f7.resultTypes.toList) : Bool) = true := by kernel_rfl
theorem byText : Rows.modelStaysRow.wfByText (OpenSpec.ofChange Rows.modelStaysSpec) = true := by kernel_rfl
theorem mainSum : Tryz.prog.mainIs = some (true, ("4f9251d54ae8b43513ded1dc82fb1ab0b17c30350099c70c9c5fe157696778c4" : String).toList) := by kernel_rfl
theorem looks : false = Tryz.prog.looks [] := by kernel_rfl
theorem goes : false = Rows.modelStaysRow.goesBy Tryz.prog := by kernel_rfl
theorem named : Tryz.prog.funcNamed "deckhand/deckhandlaw16.ModelStays" = some 7 := by kernel_rfl
theorem pars : Tryz.f7.params = #[51, 3, 30] := by kernel_rfl
theorem stands : ([51, 3, 30].all fun u => !Tryz.prog.wantsStandIn u) = true := by kernel_rfl
theorem and_t {a b : Bool} (ha : a = true) (hb : b = true) : (a && b) = true := by rw [ha, hb]; rfl
set_option maxRecDepth 1000000 in
theorem closed : joinedFacts Tryz.prog 7 Tryz.f7 Rows.modelStaysSpec Rows.modelStaysRow = true := by
  unfold joinedFacts
  refine and_t ?_ k31
  refine and_t ?_ k30
  refine and_t ?_ k29
  refine and_t ?_ k28
  refine and_t ?_ k27
  refine and_t ?_ k26
  refine and_t ?_ k25
  refine and_t ?_ k24
  refine and_t ?_ k23
  refine and_t ?_ k22
  refine and_t ?_ k21
  refine and_t ?_ k20
  refine and_t ?_ k19
  refine and_t ?_ k18
  refine and_t ?_ k17
  refine and_t ?_ k16
  refine and_t ?_ k15
  refine and_t ?_ k14
  refine and_t ?_ k13
  refine and_t ?_ k12
  refine and_t ?_ k11
  refine and_t ?_ k10
  refine and_t ?_ k9
  refine and_t ?_ k8
  refine and_t ?_ k7
  refine and_t ?_ k6
  refine and_t ?_ k5
  refine and_t ?_ k4
  refine and_t ?_ k3
  refine and_t ?_ k2
  refine and_t ?_ k1
  exact k0
end Go.Proofs.YteaiflgcgpaclaaGreatDoor.modelStaysFacts
