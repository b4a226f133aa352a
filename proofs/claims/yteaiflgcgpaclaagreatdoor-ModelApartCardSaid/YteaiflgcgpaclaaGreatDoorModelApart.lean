/- deckhand's law ModelApart: it returns true at every input, and its arguments read afterwards as they read before. No condition. -/
import Derived.Test.YteaiflgcgpaclaaGreatDoorWE
import Derived.Test.YteaiflgcgpaclaaGreatDoorWK
import Derived.Test.YteaiflgcgpaclaaGreatDoorModelApartFacts
import Derived.Test.YteaiflgcgpaclaaGreatDoorRows
import Derived.Test.YteaiflgcgpaclaaGreatDoorWD
import Derived.WalkKit
import Derived.ProofKit
import Derived.OpenShut
import Derived.ShutString
import Derived.ChangeOld
import Derived.Below
import Derived.LaidMore
import Derived.Stop.Joined
import Derived.SevenTiedAt
import Derived.Test.YteaiflgcgpaclaaGreatDoorTie
import Derived.Test.YteaiflgcgpaclaaGreatDoorCards
set_option linter.unusedVariables false
set_option linter.unusedSimpArgs false
namespace Go.Proofs.YteaiflgcgpaclaaGreatDoor.modelApartDone
open Go.VL Go.Proofs.Mo
open Go.ChangeShapes Go.WideShapes Go.ChangeAt Go.RowKit
open Go.ChangeMaps (open_string shut_string)
set_option linter.unusedVariables false
theorem own:ownKnob Tryz.prog.godebug=none:=by kernel_rfl
theorem laidOut:laidOutB Tryz.prog=true:=by kernel_rfl
abbrev laidL:List (String×DataW Unit):=Rows.modelApartRow.laid
theorem door_met (os:Os)(args:Array Value):laidMetH Tryz.prog laidL ((World.doorLaid Tryz.prog 14 os).forCall (λ _ _=>0) ⟨#[],args,[]⟩).memory:=
 laidMetH_of_parts3 (fuel:=65) (laidMet_of_run' 65 (by kernel_rfl) (by kernel_rfl)) (by kernel_rfl) (by kernel_rfl)
set_option maxRecDepth 100000 in
theorem lifted (os:Os)(started:os.Started)(H:Type)(enc:TypeId×Value->H) :
  ReturnsInHanded {} Tryz.checked os 8 .any (λ w args=>(Rows.modelApartSpec.pre enc Tryz.prog Tryz.f8 [] false w args/\laidMetH Tryz.prog laidL w)/\sizedMet enc Tryz.prog Tryz.f8 (OpenSpec.ofChange Rows.modelApartSpec) false w args)
   (Rows.modelApartSpec.post enc Tryz.prog Tryz.f8 false true false false):=by
 refine returnsInHanded_of_change_and (C:=Tryz.checked) (X:=λ w _=>laidMetH Tryz.prog laidL w) (λ _ _ _ hh h=>h.of_heap hh) own started (by kernel_rfl) Tryz.func8
  (ChangeSpec.witness_shaped (enc:=enc) (C:=Tryz.checked) (os:=os) (X:=λ w _=>laidMetH Tryz.prog laidL w) false (World.doorLaid Tryz.prog 14 os) #[.agg #[.slice none 0 0,.slice none 0 0,.slice none 0 0,.int .i64 0,.slice none 0 0,.slice none 0 0,.slice none 0 0,.int .i64 0,.int .i64 0,.int .i64 0,.slice none 0 0],.int .i64 0,.agg #[.int .i64 0,.slice none 0 0,.int .i64 0,.int .i64 0,.int .i64 0,.int .u64 0],.int .i64 0,.agg #[.int .i64 0,.slice none 0 0,.int .i64 0,.int .i64 0,.int .i64 0,.int .u64 0]] 8 rfl (World.shaped_of_RefB (by kernel_rfl) (by kernel_rfl)) (by kernel_rfl) (by kernel_rfl) (by kernel_rfl) (door_met os _)) ?_
 intro W base args ds gs before hval0 hW _ _ hL _
 have hval:∀ (j:Nat) t v,Tryz.f8.params[j]?=some t->args[j]?=some v->Value.okWide Tryz.prog W .any base t v:=hval0
 have hW':=hW
 obtain⟨p,q,hA0,hV,rfl,hfz,hnd⟩:=hW
 have hA:DataW.TrodAll enc Tryz.prog W 0 (λ _=>true) true Tryz.f8.params.toList args.toList ds p:=hA0
 have hpar:Tryz.f8.params=#[51,3,30,3,30]:=by kernel_rfl
 rw[hpar]at hA hval
 obtain⟨v0,vs0,d0,ds0,p0,q0,hargs,rfl,rfl,k0,r0⟩:=trodAll_cons hA
 obtain⟨v1,vs1,d1,ds1,p1,q1,rfl,rfl,rfl,k1,r1⟩:=trodAll_cons r0
 obtain⟨v2,vs2,d2,ds2,p2,q2,rfl,rfl,rfl,k2,r2⟩:=trodAll_cons r1
 obtain⟨v3,vs3,d3,ds3,p3,q3,rfl,rfl,rfl,k3,r3⟩:=trodAll_cons r2
 obtain⟨v4,vs4,d4,ds4,p4,q4,rfl,rfl,rfl,k4,r4⟩:=trodAll_cons r3
 obtain⟨rfl,rfl,rfl⟩:=trodAll_nil r4
 obtain rfl:args=#[v0,v1,v2,v3,v4]:=by cases args;simp_all
 obtain⟨rfl,rfl⟩:=trodVars_none hV
 have lt:∀ (t:TypeId) (v:Value) (d:DataW H) (p:List MemPlace),DataW.Trod enc Tryz.prog W 0 (λ _=>true) true t v d p->∀ x∈p,x.block<W.heap.size:=by
  intro t v d p ht
  obtain⟨m,hm⟩:=ht
  exact DataW.trod_lt m _ _ _ hm
 obtain⟨x0,rx0,wx0⟩:=readArg (C:=codes) (n:=12) (te:=.model) (by kernel_rfl) (by kernel_rfl) (hval 0 51 v0 rfl rfl) k0
 obtain⟨x1,rx1,wx1⟩:=readArg (C:=codes) (n:=12) (te:=.int) (by kernel_rfl) (by kernel_rfl) (hval 1 3 v1 rfl rfl) k1
 obtain⟨x2,rx2,wx2⟩:=readArg (C:=codes) (n:=12) (te:=.req) (by kernel_rfl) (by kernel_rfl) (hval 2 30 v2 rfl rfl) k2
 obtain⟨x3,rx3,wx3⟩:=readArg (C:=codes) (n:=12) (te:=.int) (by kernel_rfl) (by kernel_rfl) (hval 3 3 v3 rfl rfl) k3
 obtain⟨x4,rx4,wx4⟩:=readArg (C:=codes) (n:=12) (te:=.req) (by kernel_rfl) (by kernel_rfl) (hval 4 30 v4 rfl rfl) k4
 clear hA0 hval0
 refine(law_calls (law8 x0 x1 x2 x3 x4 wx0 wx1 wx2 wx3 wx4) (Go.Proofs.Wn.gok_laid hL) rfl (λ i a v ha hv=>match i,ha,hv with
  | 0,ha,hv=>by cases ha;cases hv;exact rx0
  | 1,ha,hv=>by cases ha;cases hv;exact rx1
  | 2,ha,hv=>by cases ha;cases hv;exact rx2
  | 3,ha,hv=>by cases ha;cases hv;exact rx3
  | 4,ha,hv=>by cases ha;cases hv;exact rx4
  | i+5,ha,hv=>by cases ha)).mono λ e W' ⟨he,bel⟩=>?_
 subst he
 exact⟨_,rfl,_,_,_,[],_,[],hW',trodAll_mk1 (shut_bool (by kernel_rfl) _),(trodAll_cons_mk (Below.trod laidOut (by kernel_rfl) (of_decide_eq_true (by kernel_rfl)) k0 bel (lt _ _ _ _ k0)) (trodAll_cons_mk (Below.trod laidOut (by kernel_rfl) (of_decide_eq_true (by kernel_rfl)) k1 bel (lt _ _ _ _ k1)) (trodAll_cons_mk (Below.trod laidOut (by kernel_rfl) (of_decide_eq_true (by kernel_rfl)) k2 bel (lt _ _ _ _ k2)) (trodAll_cons_mk (Below.trod laidOut (by kernel_rfl) (of_decide_eq_true (by kernel_rfl)) k3 bel (lt _ _ _ _ k3)) (trodAll_cons_mk (Below.trod laidOut (by kernel_rfl) (of_decide_eq_true (by kernel_rfl)) k4 bel (lt _ _ _ _ k4)) trodAll_mk0))))),rfl,bel.frame _,λ h=>by cases h⟩
theorem over:Rows.modelApartRow.holds Tryz.pinned (OpenSpec.ofChange Rows.modelApartSpec):=
 OpenClaim.holds_of_wide 8 Tryz.f8 rfl rfl rfl rfl rfl rfl rfl ⟨rfl,rfl,rfl,rfl,rfl⟩ rfl rfl rfl rfl rfl modelApartFacts.named Tryz.func8 modelApartFacts.closed
  (of_decide_eq_true (by kernel_rfl)) (by unfold Func.isWrapper;first|(rw[if_pos (by decide +kernel)];kernel_rfl)|(rw[if_neg (by decide +kernel)];exact⟨rfl,rfl⟩))
  (λ os started H enc _=>lifted os started H enc)
theorem proved : Rows.ModelApartCardSaid :=
 Claim7.holds_tied_plain_at .later [] [.data] true (true, "4f9251d54ae8b43513ded1dc82fb1ab0b17c30350099c70c9c5fe157696778c4") false
  over (fun _ h => by cases h) modelApartFacts.byText (fun _ h => by cases h) modelApart_row_tie rfl ⟨rfl, rfl⟩ modelApartFacts.mainSum rfl
  (fun f fn hf hfn => by
   obtain rfl : f = 8 := (Option.some.inj (modelApartFacts.named.symm.trans hf)).symm
   obtain rfl : fn = Tryz.f8 := (Option.some.inj (Tryz.func8.symm.trans hfn)).symm
   refine ⟨modelApartFacts.looks, fun j t ht => ?_⟩
   rw [modelApartFacts.pars] at ht
   have hm : t ∈ [51, 3, 30, 3, 30] := by simpa using Array.mem_of_getElem? ht
   exact (show Tryz.prog.wantsStandIn t = false by simpa using List.all_eq_true.1 modelApartFacts.stands t hm))
  modelApartFacts.goes
#print axioms proved
end Go.Proofs.YteaiflgcgpaclaaGreatDoor.modelApartDone
