/- The closed facts of the row of modelApart, one by one. (Own work, by program.) -/
import Derived.Test.YteaiflgcgpaclaaGreatDoorWE
import Derived.Test.YteaiflgcgpaclaaGreatDoorRows
import Derived.JoinedOf
import Derived.KernelRfl
import Derived.SevenTiedAt
import Derived.Test.YteaiflgcgpaclaaGreatDoorCards
set_option linter.unusedVariables false
set_option linter.unusedSimpArgs false
namespace Go.Proofs.YteaiflgcgpaclaaGreatDoor.modelApartFacts
open Go
theorem k0:(Rows.modelApartRow.wf (OpenSpec.ofChange Rows.modelApartSpec):Bool)=true:=by kernel_rfl
theorem k1:(laidOutB Tryz.prog:Bool)=true:=by kernel_rfl
theorem k2:(mapsRowed Tryz.prog:Bool)=true:=by kernel_rfl
theorem k3:(Tryz.f8.params.all (Tryz.prog.readableRec ·):Bool)=true:=by kernel_rfl
theorem k4:(namedTie Tryz.prog Rows.modelApartRow.named Rows.modelApartSpec.vars:Bool)=true:=by kernel_rfl
theorem k5:((Rows.modelApartRow.stops==[]):Bool)=true:=by kernel_rfl
theorem k6:((Tryz.prog.stops==[]):Bool)=true:=by kernel_rfl
theorem k7:((Rows.modelApartRow.knobs==[]):Bool)=true:=by kernel_rfl
theorem k8:((Tryz.prog.stopKnobs==[]):Bool)=true:=by kernel_rfl
theorem k9:((Rows.modelApartRow.inPlace==Tryz.prog.inPlace (8:FuncId)):Bool)=true:=by kernel_rfl
theorem k10:((Rows.modelApartRow.unfollowed==Tryz.prog.unfollowed (8:FuncId)):Bool)=true:=by kernel_rfl
theorem k11:((Rows.modelApartRow.recurses==Tryz.prog.recurses (8:FuncId)):Bool)=true:=by kernel_rfl
theorem k12:((Rows.modelApartRow.named==Tryz.prog.varsNamed (8:FuncId)):Bool)=true:=by kernel_rfl
theorem k13:((Rows.modelApartRow.maps==(Tryz.f8.params.toList++Rows.modelApartSpec.plain.varTypes Tryz.prog).any (Tryz.prog.mapsRec ·)):Bool)=true:=by kernel_rfl
theorem k14:((Rows.modelApartRow.ifaces==(Tryz.f8.params.toList++Rows.modelApartSpec.plain.varTypes Tryz.prog).any (Tryz.prog.ifacesRec ·)):Bool)=true:=by kernel_rfl
theorem k15:((Rows.modelApartRow.mapsOut==Tryz.prog.mapsAmong Tryz.f8.resultTypes.toList):Bool)=true:=by kernel_rfl
theorem k16:((Rows.modelApartRow.loops==(Tryz.f8.params.toList++Rows.modelApartSpec.plain.varTypes Tryz.prog).any (Tryz.prog.loopsFrom ·)):Bool)=true:=by kernel_rfl
theorem k17:((Rows.modelApartRow.wideKeys==(Tryz.f8.params.toList++Rows.modelApartSpec.plain.varTypes Tryz.prog++Tryz.f8.resultTypes.toList).any (Tryz.prog.wideKeysFrom ·)):Bool)=true:=by kernel_rfl
theorem k18:(Rows.modelApartSpec.vars.all (Tryz.prog.varReadable ·):Bool)=true:=by kernel_rfl
theorem k19:(Tryz.f8.resultTypes.all (λ t=>Tryz.prog.readableRec t&&decide (t<Tryz.prog.types.size)):Bool)=true:=by kernel_rfl
theorem k20:((Rows.modelApartRow.ifacesOut==Tryz.f8.resultTypes.toList.any (Tryz.prog.ifacesRec ·)):Bool)=true:=by kernel_rfl
theorem k21:((Rows.modelApartRow.loopsOut==Tryz.f8.resultTypes.toList.any (Tryz.prog.loopsFrom ·)):Bool)=true:=by kernel_rfl
theorem k22:((Rows.modelApartRow.plainKeys==Tryz.prog.plainKeys):Bool)=true:=by kernel_rfl
theorem k23:(Rows.modelApartRow.shortTexts.isNone:Bool)=true:=by kernel_rfl
theorem k24:(Tryz.prog.stopsHeard:Bool)=true:=by kernel_rfl
theorem k25:(Tryz.prog.mayEnter:Bool)=true:=by kernel_rfl
theorem k26:((Rows.modelApartRow.lifted==Tryz.prog.liftsFinal):Bool)=true:=by kernel_rfl
theorem k27:((Tryz.prog.make==some Rows.modelApartRow.make):Bool)=true:=by kernel_rfl
theorem k28:((Rows.modelApartRow.kinds==(if Rows.modelApartRow.domain.isEmpty then[]else Tryz.f8.params.toList.map λ t=>match Tryz.prog.underlying t with|some (.int k)=>some k|_=>none)):Bool)=true:=by kernel_rfl
theorem k29:((Rows.modelApartRow.pinned==Rows.modelApartRow.pinnedBy):Bool)=true:=by kernel_rfl
theorem k30:((Rows.modelApartRow.veiled==(Tryz.f8.params.toList++Rows.modelApartSpec.plain.varTypes Tryz.prog++Tryz.f8.resultTypes.toList).any (Tryz.prog.veiledRec ·)):Bool)=true:=by kernel_rfl
theorem k31:(Rows.modelApartRow.veiledFits Tryz.prog Tryz.f8.params.toList (Tryz.f8.params.toList++Rows.modelApartSpec.plain.varTypes Tryz.prog++Tryz.f8.resultTypes.toList):Bool)=true:=by kernel_rfl
theorem byText:Rows.modelApartRow.wfByText (OpenSpec.ofChange Rows.modelApartSpec)=true:=by kernel_rfl
theorem mainSum : Tryz.prog.mainIs = some (true, ("4f9251d54ae8b43513ded1dc82fb1ab0b17c30350099c70c9c5fe157696778c4" : String).toList) := by kernel_rfl
theorem looks:false=Tryz.prog.looks []:=by kernel_rfl
theorem goes:false=Rows.modelApartRow.goesBy Tryz.prog:=by kernel_rfl
theorem named : Tryz.prog.funcNamed "deckhand/deckhandlaw16.ModelApart" = some 8 := by kernel_rfl
theorem pars:Tryz.f8.params=#[51,3,30,3,30]:=by kernel_rfl
theorem stands:([51,3,30,3,30].all λ u => !Tryz.prog.wantsStandIn u)=true:=by kernel_rfl
theorem and_t {a b:Bool}(ha:a=true)(hb:b=true):(a&&b)=true:=by rw[ha,hb];rfl
set_option maxRecDepth 1000000 in
theorem closed:joinedFacts Tryz.prog 8 Tryz.f8 Rows.modelApartSpec Rows.modelApartRow=true:=by
 unfold joinedFacts
 refine and_t ?_ k31
 refine and_t ?_ k30
 refine and_t ?_ k29
 refine and_t ?_ k28
 refine and_t ?_ k27
 refine and_t ?_ k26
 refine and_t ?_ k25
 refine and_t ?_ k24
 refine and_t ?_ k23
 refine and_t ?_ k22
 refine and_t ?_ k21
 refine and_t ?_ k20
 refine and_t ?_ k19
 refine and_t ?_ k18
 refine and_t ?_ k17
 refine and_t ?_ k16
 refine and_t ?_ k15
 refine and_t ?_ k14
 refine and_t ?_ k13
 refine and_t ?_ k12
 refine and_t ?_ k11
 refine and_t ?_ k10
 refine and_t ?_ k9
 refine and_t ?_ k8
 refine and_t ?_ k7
 refine and_t ?_ k6
 refine and_t ?_ k5
 refine and_t ?_ k4
 refine and_t ?_ k3
 refine and_t ?_ k2
 refine and_t ?_ k1
 exact k0
end Go.Proofs.YteaiflgcgpaclaaGreatDoor.modelApartFacts
