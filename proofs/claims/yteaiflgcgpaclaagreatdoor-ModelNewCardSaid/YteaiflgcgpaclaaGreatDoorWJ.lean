/- Own work: part WJ of the proof. -/
import Derived.Test.YteaiflgcgpaclaaGreatDoorWE
import Derived.Test.YteaiflgcgpaclaaGreatDoorWI
import Derived.Test.YteaiflgcgpaclaaGreatDoorWH
import Derived.Test.YteaiflgcgpaclaaGreatDoorWD
import Derived.Test.YteaiflgcgpaclaaGreatDoorRows
import Derived.LaidMore
import Derived.MakeChecks
import Derived.FnData
import Derived.OpenShut
import Derived.ChangeArms
import Derived.ProofKit
set_option linter.unusedVariables false
set_option linter.unusedSimpArgs false
namespace Go.Proofs.Mo
open Go.Proofs.Tryz
open Go Go.VL
set_option maxRecDepth 20000
open Go.Proofs.Zn Go.Proofs.Mn
def lc :List Cell→Nat→(List Int)→(Int×Int)
 | [],ix,l1=>((uF l1).1,(uF l1).2)
 | z::zs,ix,l1=>lc zs (ix+1) (l1++[(z).vol])
theorem qu (s:Stock) (hb:OkS s)  {r:Int×Int} {A:Pr} (hA:CL codes sigs f165 [.int,.int] r A) (ix:Nat) (l1:List Int) (hv:l1=(s.cells.take ix).map Cell.vol) (h:lc (List.drop ix s.cells) ix l1=r):A (hd f165 0) (uy s (ix:Int) l1):=by
 refine hA.go (HW s (ix:Int) l1) (ah (fun h1=>?_) (fun h1=>?_))
 ·have h1:=oT h1
  have hil:ix < s.cells.length:=by omega
  rw [aW hil Ty.cell.dflt,lc] at h
  obtain ⟨b1,b2,b3,b4,b5⟩:=id hb
  refine ⟨⟨⟨(by omega),(by omega)⟩,trivial⟩,⟨q2,trivial⟩,⟨(by rw [hv];simp only [bu,aE,ag,al];omega),trivial⟩,?_⟩
  rw [au (by omega)]
  exact qu s hb  hA (ix+1) _ (by rw [hv];exact rj hil _ _) h
 ·have h1:=oF h1
  rw [dN (by omega),lc] at h
  exact ⟨⟨q2,trivial⟩,_,Mn.c226 (by rw [hv];simp only [bu,aE];have:=hb.cells;omega) (by rw [hv];exact DT hb.fit _),⟨q2,trivial,trivial⟩,h⟩
termination_by s.cells.length - ix
decreasing_by all_goals omega
def tT (s:Stock):Int×Int:=lc s.cells 0 []
theorem c165 (s:Stock) (hb:OkS s):Pure prog 165 [⟨.stock,s⟩] [.int,.int] (tT s):=
 Pure.of_closed (C:=codes) (S:=sigs) mixed func165 (by kernel_rfl) (ac (by kernel_rfl)) fun A hA=>hA.go (t165 s) (by
  obtain ⟨r,h⟩:∃ r,tT s=r:=⟨_,rfl⟩
  rw [h] at hA ⊢
  unfold tT at h
  refine hA.row 4 3 .int (by kernel_rfl) (s':=uy s (0:Int) []) (by kernel_rfl) ?_
  exact qu s hb  hA 0 [] (by rfl) h)
def oE (l4:List Int) (z1:Tip) (kc1:(List Int)→Bool):List Int→Nat→Bool
 | [],ix=>bif ((z1).state==(2:Int)) then kc1 (l4++[(z1).by']) else kc1 l4
 | z::zs,ix=>bif (z==(z1).by') then false else oE l4 z1 kc1 zs (ix+1)
theorem sp (d:Deck) (s:Stock) (l1:List Cell) (l2:List Log) (l3:List Tip) (i1 i2 i3 i5:Int) (l4:List Int) (hb:OkS s) (h4:l4.length≤i5.toNat∧i5 < 1000000) {r:Bool} {A:Pr} (hA:CL codes sigs f94 [.bool] r A) (kc1:(List Int)→Bool) (hkc1:∀ (l4':List Int),(l4'.length≤(i5.toNat+1))→kc1 l4'=r→A (hd f94 1) (ti d s l1 l2 l3 i1 i2 i3 (w64 (i5+(1:Int))) l4')) (ix:Nat) (h:oE l4 (s.tips.getD i5.toNat Ty.tip.dflt) kc1 (List.drop ix l4) ix=r):A (hd f94 2) (zk d s l1 l2 l3 i1 i2 i3 i5 l4 (ix:Int)):=by
 refine hA.go (JK d s l1 l2 l3 i1 i2 i3 i5 l4 (ix:Int)) (ah (fun h1=>?_) (fun h1=>?_))
 ·have h1:=oT h1
  have hil:ix < l4.length:=by omega
  rw [aW hil Ty.int.dflt,oE] at h
  obtain ⟨b1,b2,b3,b4,b5⟩:=id hb
  refine ⟨⟨(by omega),(by omega)⟩,(by omega),?_⟩
  refine ai h (fun g1 h=>?_) (fun g1 h=>?_)
  ·try replace g1:=bn g1
   exact ⟨q2,h⟩
  ·rw [au (by omega)]
   exact sp d s l1 l2 l3 i1 i2 i3 i5 l4 hb h4 hA _ hkc1 (ix+1) h
 ·have h1:=oF h1
  rw [dN (by omega),oE] at h
  refine ai h (fun g1 h=>?_) (fun g1 h=>?_)
  ·try replace g1:=bn g1
   refine ⟨⟨q2,trivial⟩,⟨(by simp only [ag,al];omega),trivial⟩,?_⟩
   exact hkc1 _ (by first | omega | (simp only [ak,ag,al];omega)) h
  ·exact hkc1 _ (by first | omega | (simp only [ak,ag,al];omega)) h
termination_by l4.length - ix
decreasing_by all_goals omega
def ng (d:Deck) (s:Stock) (i1:Int):List Tip→Nat→(List Int)→Bool
 | [],ix,l4=>bif (s.start != i1) then false else bif decide (s.inn < (0:Int)) then false else bif decide (s.inn > (1152921504606846976:Int)) then false else bif decide (s.out < (0:Int)) then false else bif decide (s.out > (1152921504606846976:Int)) then false else bif ((tT s).2==(0:Int)) then (tT s).1==w64 (w64 (s.start+s.inn) - s.out) else false
 | z::zs,ix,l4=>bif (!(hY z)) then false else bif decide ((z).by' > d.arms) then false else oE l4 z (fun l4'=>ng d s i1 zs (ix+1) l4') l4 0
theorem sq (d:Deck) (s:Stock) (l1:List Cell) (l2:List Log) (l3:List Tip) (i1 i2 i3:Int) (hb:OkS s)  {r:Bool} {A:Pr} (hA:CL codes sigs f94 [.bool] r A) (ix:Nat) (l4:List Int) (hv:l4.length≤ix) (h:ng d s i1 (List.drop ix s.tips) ix l4=r):A (hd f94 1) (ti d s l1 l2 l3 i1 i2 i3 (ix:Int) l4):=by
 refine hA.go (JL d s l1 l2 l3 i1 i2 i3 (ix:Int) l4) (ah (fun h1=>?_) (fun h1=>?_))
 ·have h1:=oT h1
  have hil:ix < s.tips.length:=by omega
  rw [aW hil Ty.tip.dflt,ng] at h
  obtain ⟨b1,b2,b3,b4,b5⟩:=id hb
  refine ⟨⟨⟨(by omega),(by omega)⟩,trivial⟩,⟨q3,trivial⟩,_,Mn.c164 _,?_⟩
  refine ai h (fun g1 h=>?_) (fun g1 h=>?_)
  ·exact ⟨q2,h⟩
  ·refine ai h (fun g2 h=>?_) (fun g2 h=>?_)
   ·have g2:=oT g2
    exact ⟨q2,h⟩
   ·have g2:=oF g2
    exact sp d s l1 l2 l3 i1 i2 i3 (ix:Int) l4 hb ⟨by omega,by omega⟩ hA _ (fun l4' hv h=>by rw [au (by omega)];exact sq d s l1 l2 l3 i1 i2 i3 hb  hA (ix+1) l4' (by first | omega | (simp only [ak,ag,al];omega)) h) 0 h
 ·have h1:=oF h1
  rw [dN (by omega),ng] at h
  refine ai h (fun g1 h=>?_) (fun g1 h=>?_)
  ·exact ⟨q2,h⟩
  ·try replace g1:=am.1 g1
   refine ai h (fun g2 h=>?_) (fun g2 h=>?_)
   ·have g2:=oT g2
    exact ⟨q2,h⟩
   ·have g2:=oF g2
    refine ai h (fun g3 h=>?_) (fun g3 h=>?_)
    ·have g3:=oT g3
     exact ⟨q2,h⟩
    ·have g3:=oF g3
     refine ai h (fun g4 h=>?_) (fun g4 h=>?_)
     ·have g4:=oT g4
      exact ⟨q2,h⟩
     ·have g4:=oF g4
      refine ai h (fun g5 h=>?_) (fun g5 h=>?_)
      ·have g5:=oT g5
       exact ⟨q2,h⟩
      ·have g5:=oF g5
       refine ⟨⟨q7,trivial⟩,_,c165 _ hb,?_⟩
       refine ai h (fun g6 h=>?_) (fun g6 h=>?_)
       ·try replace g6:=bn g6
        exact ⟨q2,h⟩
       ·exact ⟨q2,h⟩
termination_by s.tips.length - ix
decreasing_by all_goals omega
def oG (d:Deck) (s:Stock) (l1:List Cell) (i1:Int):List Cell→Nat→Bool
 | [],ix=>ng d s i1 s.tips 0 []
 | z::zs,ix=>bif (!(eN z)) then false else bif ((z).cap != (l1.getD (ix) Ty.cell.dflt).cap) then false else bif (!(ik (s.logs.getD (ix) Ty.log.dflt))) then false else bif ((s.logs.getD (ix) Ty.log.dflt).room != (8:Int)) then false else bif ((s.logs.getD (ix) Ty.log.dflt).last != (z).ver) then false else oG d s l1 i1 zs (ix+1)
theorem sr (d:Deck) (s:Stock) (l1:List Cell) (l2:List Log) (l3:List Tip) (i1 i2 i3:Int) (hb:OkS s) (he:s.cells.length=l1.length∧s.logs.length=s.cells.length) {r:Bool} {A:Pr} (hA:CL codes sigs f94 [.bool] r A) (ix:Nat) (h:oG d s l1 i1 (List.drop ix s.cells) ix=r):A (hd f94 0) (zl d s l1 l2 l3 i1 i2 i3 (ix:Int)):=by
 refine hA.go (JM d s l1 l2 l3 i1 i2 i3 (ix:Int)) (ah (fun h1=>?_) (fun h1=>?_))
 ·have h1:=oT h1
  have hil:ix < s.cells.length:=by omega
  rw [aW hil Ty.cell.dflt,oG] at h
  obtain ⟨b1,b2,b3,b4,b5⟩:=id hb
  refine ⟨⟨⟨(by omega),(by omega)⟩,trivial⟩,⟨⟨(by omega),(by omega)⟩,trivial⟩,⟨q4,trivial⟩,_,Mn.c162 _,?_⟩
  refine ai h (fun g1 h=>?_) (fun g1 h=>?_)
  ·exact ⟨q2,h⟩
  ·refine ⟨⟨⟨(by omega),(by omega)⟩,trivial⟩,?_⟩
   refine ai h (fun g2 h=>?_) (fun g2 h=>?_)
   ·exact ⟨q2,h⟩
   ·try replace g2:=am.1 g2
    refine ⟨⟨q4,trivial⟩,_,Mn.c163 _,?_⟩
    refine ai h (fun g3 h=>?_) (fun g3 h=>?_)
    ·exact ⟨q2,h⟩
    ·refine ai h (fun g4 h=>?_) (fun g4 h=>?_)
     ·exact ⟨q2,h⟩
     ·try replace g4:=am.1 g4
      refine ai h (fun g5 h=>?_) (fun g5 h=>?_)
      ·exact ⟨q2,h⟩
      ·try replace g5:=am.1 g5
       rw [au (by omega)]
       exact sr d s l1 l2 l3 i1 i2 i3 hb he hA (ix+1) h
 ·have h1:=oF h1
  rw [dN (by omega),oG] at h
  refine hA.row 10 3 .int (by kernel_rfl) (s':=ti d s l1 l2 l3 i1 i2 i3 (0:Int) []) (by kernel_rfl) ?_
  exact sq d s l1 l2 l3 i1 i2 i3 hb  hA 0 [] (by simp) h
termination_by s.cells.length - ix
decreasing_by all_goals omega
def m94 (d:Deck) (s:Stock):Bool:=bif ((m87 d).2 != (0:Int)) then false else bif ((s.cells.length:Int) != (↑(m87 d).1.cells.length:Int)) then false else bif ((s.logs.length:Int) != (↑(m87 d).1.logs.length:Int)) then false else bif ((s.tips.length:Int) != (↑(m87 d).1.tips.length:Int)) then false else oG d s (m87 d).1.cells (m87 d).1.start s.cells 0
theorem c94 (d:Deck) (s:Stock) (hb:OkS s):Pure prog 94 [⟨.deck,d⟩,⟨.stock,s⟩] [.bool] (m94 d s):=
 Pure.of_closed (C:=codes) (S:=sigs) mixed func94 (by kernel_rfl) (ac (by kernel_rfl)) fun A hA=>hA.go (t94 d s) (by
  obtain ⟨r,h⟩:∃ r,m94 d s=r:=⟨_,rfl⟩
  rw [h] at hA ⊢
  unfold m94 at h
  refine ⟨⟨q5,trivial⟩,_,Mn.c87 _,?_⟩
  refine ai h (fun g1 h=>?_) (fun g1 h=>?_)
  ·exact ⟨q2,h⟩
  ·try replace g1:=am.1 g1
   refine ai h (fun g2 h=>?_) (fun g2 h=>?_)
   ·exact ⟨q2,h⟩
   ·try replace g2:=am.1 g2
    refine ai h (fun g3 h=>?_) (fun g3 h=>?_)
    ·exact ⟨q2,h⟩
    ·try replace g3:=am.1 g3
     refine ai h (fun g4 h=>?_) (fun g4 h=>?_)
     ·exact ⟨q2,h⟩
     ·try replace g4:=am.1 g4
      exact sr d s (m87 d).1.cells (m87 d).1.logs (m87 d).1.tips (m87 d).1.start (m87 d).1.inn (m87 d).1.out hb ⟨by omega,by have:=CK (d:=d) (by rw [g1];rfl);omega⟩ hA 0 h)
def m91 (d:Deck) (s:Stock):Bool:=bif ((Zn.dc d) != (0:Int)) then false else bif ((s.cells.length:Int) != (Zn.bv d).1) then false else bif ((s.logs.length:Int) != (Zn.bv d).1) then false else bif ((s.tips.length:Int) != (Zn.bv d).2.1) then false else bif (!(xc s.tips d.arms)) then false else bif (!(wV d s).2) then false else bif (s.start != (wV d s).1) then false else bif ((uq s.inn (0:Int) (1152921504606846976:Int)) != s.inn) then false else bif ((uq s.out (0:Int) (1152921504606846976:Int)) != s.out) then false else bif ((BC s).2==(0:Int)) then (BC s).1==w64 (w64 (s.start+s.inn) - s.out) else false
theorem c91 (d:Deck) (s:Stock) (hb:OkS s):Pure prog 91 [⟨.deck,d⟩,⟨.stock,s⟩] [.bool] (m91 d s):=
 Pure.of_closed (C:=codes) (S:=sigs) mixed func91 (by kernel_rfl) (ac (by kernel_rfl)) fun A hA=>hA.go (t91 d s) (by
  obtain ⟨r,h⟩:∃ r,m91 d s=r:=⟨_,rfl⟩
  rw [h] at hA ⊢
  unfold m91 at h
  refine ⟨⟨q5,trivial⟩,_,Zn.c47 _,?_⟩
  refine ai h (fun g1 h=>?_) (fun g1 h=>?_)
  ·exact ⟨q2,h⟩
  ·try replace g1:=am.1 g1
   refine ⟨⟨q5,trivial⟩,_,Zn.Bl _,?_⟩
   refine ai h (fun g2 h=>?_) (fun g2 h=>?_)
   ·exact ⟨q2,h⟩
   ·try replace g2:=am.1 g2
    refine ai h (fun g3 h=>?_) (fun g3 h=>?_)
    ·exact ⟨q2,h⟩
    ·try replace g3:=am.1 g3
     refine ai h (fun g4 h=>?_) (fun g4 h=>?_)
     ·exact ⟨q2,h⟩
     ·try replace g4:=am.1 g4
      refine ⟨⟨q2,q2,trivial⟩,_,c157 (by have:=hb.tips;omega),?_⟩
      refine ai h (fun g5 h=>?_) (fun g5 h=>?_)
      ·exact ⟨q2,h⟩
      ·refine ⟨⟨q5,q7,trivial⟩,_,Mn.GM _ _ (cO (by rw [g1];rfl)) ⟨by rw [g2];exact lz (by rw [g1];rfl),by omega⟩,?_⟩
       refine ai h (fun g6 h=>?_) (fun g6 h=>?_)
       ·exact ⟨q2,h⟩
       ·refine ai h (fun g7 h=>?_) (fun g7 h=>?_)
        ·exact ⟨q2,h⟩
        ·try replace g7:=am.1 g7
         refine ⟨⟨q2,q2,q2,trivial⟩,_,Mn.xo _ _ _,?_⟩
         refine ai h (fun g8 h=>?_) (fun g8 h=>?_)
         ·exact ⟨q2,h⟩
         ·try replace g8:=am.1 g8
          refine ⟨⟨q2,q2,q2,trivial⟩,_,Mn.xo _ _ _,?_⟩
          refine ai h (fun g9 h=>?_) (fun g9 h=>?_)
          ·exact ⟨q2,h⟩
          ·try replace g9:=am.1 g9
           refine ⟨⟨q7,trivial⟩,_,LJ hb,?_⟩
           refine ai h (fun g10 h=>?_) (fun g10 h=>?_)
           ·try replace g10:=bn g10
            exact ⟨q2,h⟩
           ·exact ⟨q2,h⟩)
def m95 (d:Deck) (s:Stock) (b:Int):Int×Bool:=bif (!(m91 d s)) then ((-1:Int),false) else bif (!(od s.tips b).2) then ((-1:Int),false) else (w64 ((s.cells.length:Int)+(od s.tips b).1),true)
theorem c95 (d:Deck) (s:Stock) (b:Int) (hb:OkS s):Pure prog 95 [⟨.deck,d⟩,⟨.stock,s⟩,⟨.int,b⟩] [.int,.bool] (m95 d s b):=
 Pure.of_closed (C:=codes) (S:=sigs) mixed func95 (by kernel_rfl) (ac (by kernel_rfl)) fun A hA=>hA.go (t95 d s b) (by
  obtain ⟨r,h⟩:∃ r,m95 d s b=r:=⟨_,rfl⟩
  rw [h] at hA ⊢
  unfold m95 at h
  refine ⟨⟨q5,q7,trivial⟩,_,c91 _ _ (by first | exact hb | exact hb.toS),?_⟩
  refine ai h (fun g1 h=>?_) (fun g1 h=>?_)
  ·exact ⟨⟨q2,trivial,trivial⟩,h⟩
  ·refine ⟨⟨q2,q2,trivial⟩,_,Jk _ _ hb.tips,?_⟩
   refine ai h (fun g2 h=>?_) (fun g2 h=>?_)
   ·exact ⟨⟨q2,trivial,trivial⟩,h⟩
   ·exact ⟨⟨q2,trivial,trivial⟩,h⟩)
def m96 (d:Deck) (s:Stock) (b:Int):Int×Bool:=bif (!(m94 d s)) then ((-1:Int),false) else bif decide ((rG s b) < (0:Int)) then ((-1:Int),false) else (w64 ((s.cells.length:Int)+(rG s b)),true)
theorem c96 (d:Deck) (s:Stock) (b:Int) (hb:OkS s):Pure prog 96 [⟨.deck,d⟩,⟨.stock,s⟩,⟨.int,b⟩] [.int,.bool] (m96 d s b):=
 Pure.of_closed (C:=codes) (S:=sigs) mixed func96 (by kernel_rfl) (ac (by kernel_rfl)) fun A hA=>hA.go (t96 d s b) (by
  obtain ⟨r,h⟩:∃ r,m96 d s b=r:=⟨_,rfl⟩
  rw [h] at hA ⊢
  unfold m96 at h
  refine ⟨⟨q5,q7,trivial⟩,_,c94 _ _ (by first | exact hb | exact hb.toS),?_⟩
  refine ai h (fun g1 h=>?_) (fun g1 h=>?_)
  ·exact ⟨⟨q2,trivial,trivial⟩,h⟩
  ·refine ⟨⟨q7,q2,trivial⟩,_,c167 _ _ hb.tips,?_⟩
   refine ai h (fun g2 h=>?_) (fun g2 h=>?_)
   ·have g2:=oT g2
    exact ⟨⟨q2,trivial,trivial⟩,h⟩
   ·have g2:=oF g2
    exact ⟨⟨q2,trivial,trivial⟩,h⟩)
def m31 (m:Model):Bool:=bif ((m.owners.length:Int) != w64 (w64 ((Zn.bv m.deck).1+(Zn.bv m.deck).2.1)+(Zn.bv m.deck).2.2)) then false else bif (!(m91 m.deck m.stock)) then false else !(nY m m.owners)
theorem c31 (m:Model) (hb:OkM m):Pure prog 31 [⟨.model,m⟩] [.bool] (m31 m):=
 Pure.of_closed (C:=codes) (S:=sigs) mixed func31 (by kernel_rfl) (ac (by kernel_rfl)) fun A hA=>hA.go (t31 m) (by
  obtain ⟨r,h⟩:∃ r,m31 m=r:=⟨_,rfl⟩
  rw [h] at hA ⊢
  unfold m31 at h
  refine ⟨⟨q5,trivial⟩,_,Zn.Bl _,?_⟩
  refine ai h (fun g1 h=>?_) (fun g1 h=>?_)
  ·exact ⟨q2,h⟩
  ·try replace g1:=am.1 g1
   refine ⟨⟨q5,q7,trivial⟩,_,c91 _ _ (by first | exact hb | exact hb.toS),?_⟩
   refine ai h (fun g2 h=>?_) (fun g2 h=>?_)
   ·exact ⟨q2,h⟩
   ·exact ⟨nY m m.owners,Jd _ _ (by have:=hb.owners;omega),q2,h⟩)
def nk (m:Model):List Int→Nat→Bool
 | [],ix=>true
 | z::zs,ix=>bif decide (z < (0:Int)) then false else bif decide (z > m.deck.arms) then false else nk m zs (ix+1)
theorem sH (m:Model) (hb:OkM m)  {r:Bool} {A:Pr} (hA:CL codes sigs f32 [.bool] r A) (ix:Nat) (h:nk m (List.drop ix m.owners) ix=r):A (hd f32 0) (zw m (ix:Int)):=by
 refine hA.go (Kb m (ix:Int)) (ah (fun h1=>?_) (fun h1=>?_))
 ·have h1:=oT h1
  have hil:ix < m.owners.length:=by omega
  rw [aW hil Ty.int.dflt,nk] at h
  obtain ⟨b1,b2,b3,b4,b5,b6,b7,b8,b9,b10,b11⟩:=id hb
  refine ⟨⟨⟨(by omega),(by omega)⟩,trivial⟩,?_⟩
  refine ai h (fun g1 h=>?_) (fun g1 h=>?_)
  ·have g1:=oT g1
   exact ⟨q2,h⟩
  ·have g1:=oF g1
   refine ⟨⟨⟨(by omega),(by omega)⟩,trivial⟩,?_⟩
   refine ai h (fun g2 h=>?_) (fun g2 h=>?_)
   ·have g2:=oT g2
    exact ⟨q2,h⟩
   ·have g2:=oF g2
    rw [au (by omega)]
    exact sH m hb  hA (ix+1) h
 ·have h1:=oF h1
  rw [dN (by omega),nk] at h
  exact ⟨q2,h⟩
termination_by m.owners.length - ix
decreasing_by all_goals omega
def m32 (m:Model):Bool:=bif (!(m94 m.deck m.stock)) then false else bif ((m.owners.length:Int) != (↑(Zn.cN m.deck).length:Int)) then false else nk m m.owners 0
theorem c32 (m:Model) (hb:OkM m):Pure prog 32 [⟨.model,m⟩] [.bool] (m32 m):=
 Pure.of_closed (C:=codes) (S:=sigs) mixed func32 (by kernel_rfl) (ac (by kernel_rfl)) fun A hA=>hA.go (t32 m) (by
  obtain ⟨r,h⟩:∃ r,m32 m=r:=⟨_,rfl⟩
  rw [h] at hA ⊢
  unfold m32 at h
  refine ⟨⟨q5,q7,trivial⟩,_,c94 _ _ (by first | exact hb | exact hb.toS),?_⟩
  refine ai h (fun g1 h=>?_) (fun g1 h=>?_)
  ·exact ⟨q2,h⟩
  ·refine ⟨⟨q5,trivial⟩,_,Zn.c90 _,?_⟩
   refine ai h (fun g2 h=>?_) (fun g2 h=>?_)
   ·exact ⟨q2,h⟩
   ·try replace g2:=am.1 g2
    exact sH m hb  hA 0 h)
def m33 (m:Model) (w:Int):Int:=bif (!(m31 m)) then (-1:Int) else (m95 m.deck m.stock w).1
theorem c33 (m:Model) (w:Int) (hb:OkM m):Pure prog 33 [⟨.model,m⟩,⟨.int,w⟩] [.int] (m33 m w):=
 Pure.of_closed (C:=codes) (S:=sigs) mixed func33 (by kernel_rfl) (ac (by kernel_rfl)) fun A hA=>hA.go (t33 m w) (by
  obtain ⟨r,h⟩:∃ r,m33 m w=r:=⟨_,rfl⟩
  rw [h] at hA ⊢
  unfold m33 at h
  refine ⟨⟨q12,trivial⟩,_,c31 _ (by assumption),?_⟩
  refine ai h (fun g1 h=>?_) (fun g1 h=>?_)
  ·exact ⟨q2,h⟩
  ·exact ⟨⟨q5,q7,q2,trivial⟩,_,c95 _ _ _ hb.toS,q2,h⟩)
def m34 (m:Model) (w:Int):Int:=bif (!(m96 m.deck m.stock w).2) then (-1:Int) else bif (!(m32 m)) then (-1:Int) else (m96 m.deck m.stock w).1
theorem c34 (m:Model) (w:Int) (hb:OkM m):Pure prog 34 [⟨.model,m⟩,⟨.int,w⟩] [.int] (m34 m w):=
 Pure.of_closed (C:=codes) (S:=sigs) mixed func34 (by kernel_rfl) (ac (by kernel_rfl)) fun A hA=>hA.go (t34 m w) (by
  obtain ⟨r,h⟩:∃ r,m34 m w=r:=⟨_,rfl⟩
  rw [h] at hA ⊢
  unfold m34 at h
  refine ⟨⟨q5,q7,q2,trivial⟩,_,c96 _ _ _ hb.toS,?_⟩
  refine ai h (fun g1 h=>?_) (fun g1 h=>?_)
  ·exact ⟨q2,h⟩
  ·refine ⟨⟨q12,trivial⟩,_,c32 _ (by assumption),?_⟩
   refine ai h (fun g2 h=>?_) (fun g2 h=>?_)
   ·exact ⟨q2,h⟩
   ·exact ⟨q2,h⟩)
def m28 (d:Deck):Model×Int:=bif ((m83 d).2 != (0:Int)) then (Model.mk (Deck.mk [] [] [] (0:Int)) (Stock.mk [] [] [] (0:Int) (0:Int) (0:Int)) [],(m83 d).2) else ((m85 (Model.mk d (m83 d).1 (vh (w64 (w64 ((Zn.bv d).1+(Zn.bv d).2.1)+(Zn.bv d).2.2))))),(0:Int))
theorem c28 (d:Deck) :Pure prog 28 [⟨.deck,d⟩] [.model,.int] (m28 d):=
 Pure.of_closed (C:=codes) (S:=sigs) mixed func28 (by kernel_rfl) (ac (by kernel_rfl)) fun A hA=>hA.go (t28 d) (by
  obtain ⟨r,h⟩:∃ r,m28 d=r:=⟨_,rfl⟩
  rw [h] at hA ⊢
  unfold m28 at h
  refine ⟨⟨q5,trivial⟩,_,Mn.c83 _,?_⟩
  refine ai h (fun g1 h=>?_) (fun g1 h=>?_)
  ·exact ⟨⟨q12,trivial,trivial⟩,h⟩
  ·try replace g1:=am.1 g1
   exact ⟨⟨q5,trivial⟩,_,Zn.Bl _,⟨q2,trivial⟩,_,Mn.c86 (xj _),⟨q12,trivial⟩,_,c85 _ (CF (by assumption)),⟨q12,trivial,trivial⟩,h⟩)
end Go.Proofs.Mo

namespace Go.Proofs.Mo
open Go.Proofs.Tryz
open Go Go.VL
set_option maxRecDepth 20000
open Go.Proofs.Zn Go.Proofs.Mn
def IL (cs:List Cell) (ls:List Log) (ts:List Tip) (st inn out:Int) (d:Deck):Unit:=()
theorem c283 (cs:List Cell) (ls:List Log) (ts:List Tip) (st inn out:Int) (d:Deck) :Gc prog 283 [.ptr 0 0] [(0,.box ([.own 1 .cell,.own 2 .log,.own 3 .tip,i64 st,i64 inn,i64 out]++cp d)),(1,.row 76 .cell cs),(2,.row 146 .log ls),(3,.row 194 .tip ts)] 4 ((fun _:Unit=>(⟨[.ptr 0 4],[(0,.box ([.own 1 .cell,.own 2 .log,.own 3 .tip,i64 st,i64 inn,i64 out]++cp d)),(1,.row 76 .cell cs),(2,.row 146 .log ls),(3,.row 194 .tip ts)],4⟩:GRes)) (IL cs ls ts st inn out d)):=
 Gc.of_closed (C:=codes) (S:=sigs) mixed func283 (by kernel_rfl) (fun i T t ys hi h=>⟨ys,h,rfl⟩) fun A hA=>hA.go (t283 cs ls ts st inn out d) (by
  obtain ⟨r,h⟩:∃ r,IL cs ls ts st inn out d=r:=⟨_,rfl⟩
  rw [h] at hA ⊢
  unfold IL at h
  exact ⟨trivial,.of_eq rfl⟩)
def IK (cs:List Cell) (ls:List Log) (ts:List Tip) (st inn out:Int) (d:Deck):Unit:=()
theorem c285 (cs:List Cell) (ls:List Log) (ts:List Tip) (st inn out:Int) (d:Deck) :Gc prog 285 [.ptr 0 0] [(0,.box ([.own 1 .cell,.own 2 .log,.own 3 .tip,i64 st,i64 inn,i64 out]++cp d)),(1,.row 76 .cell cs),(2,.row 146 .log ls),(3,.row 194 .tip ts)] 4 ((fun _:Unit=>(⟨[.ptr 0 5],[(0,.box ([.own 1 .cell,.own 2 .log,.own 3 .tip,i64 st,i64 inn,i64 out]++cp d)),(1,.row 76 .cell cs),(2,.row 146 .log ls),(3,.row 194 .tip ts)],4⟩:GRes)) (IK cs ls ts st inn out d)):=
 Gc.of_closed (C:=codes) (S:=sigs) mixed func285 (by kernel_rfl) (fun i T t ys hi h=>⟨ys,h,rfl⟩) fun A hA=>hA.go (t285 cs ls ts st inn out d) (by
  obtain ⟨r,h⟩:∃ r,IK cs ls ts st inn out d=r:=⟨_,rfl⟩
  rw [h] at hA ⊢
  unfold IK at h
  exact ⟨trivial,.of_eq rfl⟩)
def lU (cs:List Cell) (ls:List Log) (ts:List Tip) (st inn out:Int) (d:Deck) (id:Int):Bool:=bif decide (id≥(0:Int)) then decide (id < (cs.length:Int)) else false
theorem GJ (cs:List Cell) (ls:List Log) (ts:List Tip) (st inn out:Int) (d:Deck) (id:Int) :Gc prog 278 [.ptr 0 0,i64 id] [(0,.box ([.own 1 .cell,.own 2 .log,.own 3 .tip,i64 st,i64 inn,i64 out]++cp d)),(1,.row 76 .cell cs),(2,.row 146 .log ls),(3,.row 194 .tip ts)] 4 ((fun x:Bool=>(⟨[bZ x],[(0,.box ([.own 1 .cell,.own 2 .log,.own 3 .tip,i64 st,i64 inn,i64 out]++cp d)),(1,.row 76 .cell cs),(2,.row 146 .log ls),(3,.row 194 .tip ts)],4⟩:GRes)) (lU cs ls ts st inn out d id)):=
 Gc.of_closed (C:=codes) (S:=sigs) mixed func278 (by kernel_rfl) (fun i T t ys hi h=>⟨ys,h,rfl⟩) fun A hA=>hA.go (t278 cs ls ts st inn out d id) (by
  obtain ⟨r,h⟩:∃ r,lU cs ls ts st inn out d id=r:=⟨_,rfl⟩
  rw [h] at hA ⊢
  unfold lU at h
  refine ai h (fun g1 h=>?_) (fun g1 h=>?_)
  ·have g1:=oT g1
   exact ⟨trivial,.of_eq (by rw [← h];try rfl)⟩
  ·have g1:=oF g1
   exact ⟨trivial,.of_eq (by rw [← h];try rfl)⟩)
def wR (cs:List Cell) (ls:List Log) (ts:List Tip) (st inn out:Int) (d:Deck) (id:Int):Int:=bif decide (id≥(cs.length:Int)) then bif decide (w64 (id - (cs.length:Int)) < (ts.length:Int)) then w64 (id - (cs.length:Int)) else (-1:Int) else (-1:Int)
theorem c275 (cs:List Cell) (ls:List Log) (ts:List Tip) (st inn out:Int) (d:Deck) (id:Int) (hl:cs.length≤1000000∧ts.length≤1000000):Gc prog 275 [.ptr 0 0,i64 id] [(0,.box ([.own 1 .cell,.own 2 .log,.own 3 .tip,i64 st,i64 inn,i64 out]++cp d)),(1,.row 76 .cell cs),(2,.row 146 .log ls),(3,.row 194 .tip ts)] 4 ((fun x:Int=>(⟨[i64 x],[(0,.box ([.own 1 .cell,.own 2 .log,.own 3 .tip,i64 st,i64 inn,i64 out]++cp d)),(1,.row 76 .cell cs),(2,.row 146 .log ls),(3,.row 194 .tip ts)],4⟩:GRes)) (wR cs ls ts st inn out d id)):=
 Gc.of_closed (C:=codes) (S:=sigs) mixed func275 (by kernel_rfl) (fun i T t ys hi h=>⟨ys,h,rfl⟩) fun A hA=>hA.go (t275 cs ls ts st inn out d id) (by
  obtain ⟨r,h⟩:∃ r,wR cs ls ts st inn out d id=r:=⟨_,rfl⟩
  rw [h] at hA ⊢
  unfold wR at h
  refine ai h (fun g1 h=>?_) (fun g1 h=>?_)
  ·have g1:=oT g1
   refine ai h (fun g2 h=>?_) (fun g2 h=>?_)
   ·have g2:=oT g2
    exact ⟨trivial,.of_eq (by rw [← h];try rfl)⟩
   ·have g2:=oF g2
    exact ⟨trivial,.of_eq (by rw [← h];try rfl)⟩
  ·have g1:=oF g1
   exact ⟨trivial,.of_eq (by rw [← h];try rfl)⟩)
def my (s:Stock) (d:Deck) (l2:List Cell):Nat→Nat→(List Log)→(Stock×Deck)
 | 0,ix,l1=>(Stock.mk l2 l1 s.tips s.start s.inn s.out,d)
 | n+1,ix,l1=>my s d l2 n (ix+1) (l1.set (ix) (Log.mk (l1.getD (ix) Ty.log.dflt).room (l1.getD (ix) Ty.log.dflt).last (l1.getD (ix) Ty.log.dflt).list))
theorem qp (s:Stock) (d:Deck) (i1:Int) (l2:List Cell) (hb:OkS s) (hq:i1=(s.logs.length:Int)) {r:Stock×Deck} {A:List Item→AS→Prop} (hA:Closed prog codes sigs f312 (dX 1) (fun r'=>GRes.Le r' ((fun x:Stock×Deck=>(⟨[],nI x.1 x.2,4⟩:GRes)) r)) 1 A) (ix:Nat) (l1:List Log) (hv:l1=s.logs) (h:my s d l2 (i1.toNat - ix) ix l1=r):A (hd f312 0) (uw s d i1 l1 l2 (ix:Int)):=by
 refine hA.go (HQ s d i1 l1 l2 (ix:Int)) (ah (fun h1=>?_) (fun h1=>?_))
 ·have h1:=oT h1
  have hil:i1.toNat - ix=(i1.toNat - (ix+1))+1:=by omega
  rw [hil,my] at h
  obtain ⟨b1,b2,b3,b4,b5⟩:=id hb
  have hl1:l1.length=s.logs.length:=by rw [hv]
  have hz:(l1.getD (ix:Int).toNat Ty.log.dflt).list.length≤1000000:=by rw [hv];exact hb.list' _
  refine ⟨⟨(by omega),(by omega)⟩,(by omega),_,LM (by omega),⟨(by omega),(by omega)⟩,⟨(by omega),trivial,trivial⟩,?_⟩
  rw [au (by omega)]
  exact qp s d i1 l2 hb hq hA (ix+1) _ (by rw [hv];exact hZ (getD_some (by omega))) h
 ·have h1:=oF h1
  rw [show i1.toNat - ix=0 by omega,my] at h
  obtain ⟨b1,b2,b3,b4,b5⟩:=id hb
  exact ⟨_,LL (by omega),trivial,.of_eq (by rw [← h];try rfl)⟩
termination_by i1.toNat - ix
decreasing_by all_goals omega
def wP (s:Stock) (d:Deck):Stock×Deck:=my s d s.cells ((s.logs.length:Int).toNat - 0) 0 s.logs
theorem c312 (s:Stock) (d:Deck) (hb:OkS s):Gc prog 312 [.ptr 0 0] [(0,.box (gL s++cp d))] 1 ((fun x:Stock×Deck=>(⟨[],nI x.1 x.2,4⟩:GRes)) (wP s d)):=
 Gc.of_closed (C:=codes) (S:=sigs) mixed func312 (by kernel_rfl) Lp fun A hA=>hA.go (t312 s d) (by
  obtain ⟨r,h⟩:∃ r,wP s d=r:=⟨_,rfl⟩
  rw [h] at hA ⊢
  unfold wP at h
  obtain ⟨b1,b2,b3,b4,b5⟩:=id hb
  refine ⟨_,GN (by omega),_,LN (by omega),?_⟩
  exact qp s d (s.logs.length:Int) s.cells hb rfl hA 0 s.logs (by rfl) h)
def wQ (d:Deck) (s:Stock):Stock×Deck:=((wP s d).1,(wP s d).2)
theorem c303 (d:Deck) (s:Stock) (hb:OkS s):Gc prog 303 [.agg (cp d),.agg (gL s)] [] 0 ((fun x:Stock×Deck=>(⟨[.ptr 0 0],nI x.1 x.2,4⟩:GRes)) (wQ d s)):=
 Gc.of_closed (C:=codes) (S:=sigs) mixed func303 (by kernel_rfl) (fun i T t ys hi _=>absurd hi (bA _)) fun A hA=>hA.go (t303 d s) (by
  obtain ⟨r,h⟩:∃ r,wQ d s=r:=⟨_,rfl⟩
  rw [h] at hA ⊢
  unfold wQ at h
  exact ⟨_,c312 _ _ hb,trivial,.of_eq (by rw [← h];try rfl)⟩)
def Dh (d:Deck) (s:Stock) (b:Int):Int×Stock×Deck:=bif (!(m91 d s)) then ((130:Int),s,d) else bif decide (b < (1:Int)) then ((1:Int),s,d) else bif decide (b > d.arms) then ((1:Int),s,d) else ((0:Int),(wQ d s).1,(wQ d s).2)
theorem c274 (d:Deck) (s:Stock) (b:Int) (hb:OkS s):Gc prog 274 [.agg (cp d),.agg (gL s),i64 b] [] 0 ((fun x:Int×Stock×Deck=>(bif x.1 != 0 then ⟨[.d (.v (.pointer none)),i64 x.1],[],0⟩ else ⟨[.ptr 0 0,i64 0],nI x.2.1 x.2.2,4⟩:GRes)) (Dh d s b)):=
 Gc.of_closed (C:=codes) (S:=sigs) mixed func274 (by kernel_rfl) (fun i T t ys hi _=>absurd hi (bA _)) fun A hA=>hA.go (t274 d s b) (by
  obtain ⟨r,h⟩:∃ r,Dh d s b=r:=⟨_,rfl⟩
  rw [h] at hA ⊢
  unfold Dh at h
  refine ⟨⟨q5,q7,trivial⟩,_,c91 _ _ (by first | exact hb | exact hb.toS),?_⟩
  refine ai h (fun g1 h=>?_) (fun g1 h=>?_)
  ·exact ⟨trivial,.of_eq (by rw [← h];try rfl)⟩
  ·refine ai h (fun g2 h=>?_) (fun g2 h=>?_)
   ·have g2:=oT g2
    exact ⟨trivial,.of_eq (by rw [← h];try rfl)⟩
   ·have g2:=oF g2
    refine ai h (fun g3 h=>?_) (fun g3 h=>?_)
    ·have g3:=oT g3
     exact ⟨trivial,.of_eq (by rw [← h];try rfl)⟩
    ·have g3:=oF g3
     exact ⟨_,c303 _ _ hb,trivial,.of_eq (by rw [← h];try rfl)⟩)
def iz (cs:List Cell) (ls:List Log) (ts:List Tip) (st inn out:Int) (d:Deck) (b id:Int) (c:Cell):List Cell×List Log:=(cs.set id.toNat c,ls.set id.toNat (AC (ls.getD id.toNat Ty.log.dflt) b (w64 (c.vol - (cs.getD id.toNat Ty.cell.dflt).vol))).1)
theorem GI (cs:List Cell) (ls:List Log) (ts:List Tip) (st inn out:Int) (d:Deck) (b id:Int) (c:Cell) (hi:0≤id∧id < cs.length∧id < ls.length) (hg:∀ i:Nat,(ls.getD i Ty.log.dflt).list.length≤1000000):Gc prog 280 [.ptr 0 0,i64 b,i64 id,.agg (yY c)] [(0,.box ([.own 1 .cell,.own 2 .log,.own 3 .tip,i64 st,i64 inn,i64 out]++cp d)),(1,.row 76 .cell cs),(2,.row 146 .log ls),(3,.row 194 .tip ts)] 4 ((fun x:List Cell×List Log=>(⟨[],[(0,.box ([.own 1 .cell,.own 2 .log,.own 3 .tip,i64 st,i64 inn,i64 out]++cp d)),(1,.row 76 .cell x.1),(2,.row 146 .log x.2),(3,.row 194 .tip ts)],4⟩:GRes)) (iz cs ls ts st inn out d b id c)):=
 Gc.of_closed (C:=codes) (S:=sigs) mixed func280 (by kernel_rfl) (Fw (by simp [iz]) (by simp [iz])) fun A hA=>hA.go (t280 cs ls ts st inn out d b id c) (by
  obtain ⟨r,h⟩:∃ r,iz cs ls ts st inn out d b id c=r:=⟨_,rfl⟩
  rw [h] at hA ⊢
  unfold iz at h
  exact ⟨⟨(by omega),(by omega)⟩,(by omega),⟨(by omega),(by omega)⟩,(by omega),⟨q4,q2,q2,trivial⟩,_,c305 _ _ _ (hg _),⟨(by omega),(by omega)⟩,⟨(by omega),trivial,trivial,trivial,trivial⟩,⟨(by omega),(by omega)⟩,⟨(by omega),trivial,trivial,trivial,trivial⟩,trivial,.of_eq (by rw [← h];try rfl)⟩)
end Go.Proofs.Mo

/- Models: books: what they come to. (Own work.) -/
namespace Go.Proofs.Mo
open Go.Proofs.Tryz
open Go Go.VL Go.Proofs.Zn Go.Proofs.Mn
theorem vv (s:Stock) (d:Deck) (cs:List Cell) (ls:List Log):∀ (n ix:Nat),n+ix≤ls.length→my s d cs n ix ls=(⟨cs,ls,s.tips,s.start,s.inn,s.out⟩,d)
 | 0,ix,_=>rfl
 | n + 1, ix, h => by
   unfold my
   have e:ls.set ix (Log.mk (ls.getD ix Ty.log.dflt).room (ls.getD ix Ty.log.dflt).last (ls.getD ix Ty.log.dflt).list)=ls:=hZ (getD_some (by omega))
   rw [e]
   exact vv s d cs ls n (ix+1) (by omega)
theorem FZ (s:Stock) (d:Deck):wP s d=(s,d):=by
 unfold wP
 rw [vv s d s.cells s.logs _ 0 (by omega)]
theorem Gb (s:Stock) (d:Deck):wQ d s=(s,d):=by
 unfold wQ
 rw [FZ]
def aT (d:Deck) (s:Stock) (b:Int):Int:=bif !m91 d s then 130 else bif decide (b < 1) then 1 else bif decide (b > d.arms) then 1 else 0
theorem Gh (d:Deck) (s:Stock) (b:Int):Dh d s b=(aT d s b,s,d):=by
 unfold Dh aT
 rw [Gb]
 cases m91 d s
 ·rfl
 ·by_cases h1:b < 1
  ·rw [dT h1];rfl
  ·rw [dF h1]
   by_cases h2:b > d.arms
   ·rw [dT h2];rfl
   ·rw [dF h2];rfl
theorem vV (d:Deck) (s:Stock) (b:Int) (hb:OkS s):Gc prog 274 [.agg (cp d),.agg (gL s),i64 b] [] 0 (bif aT d s b != 0 then ⟨[.d (.v (.pointer none)),i64 (aT d s b)],[],0⟩ else ⟨[.ptr 0 0,i64 0],nI s d,4⟩):=by
 have h:=c274 d s b hb
 rw [Gh] at h
 exact h
theorem Jt {d:Deck} {s:Stock} {b:Int} (h:aT d s b=0):m91 d s=true∧1≤b∧b≤d.arms:=by
 unfold aT at h
 cases hm:m91 d s
 ·rw [hm] at h;cases h
 rw [hm] at h
 by_cases h1:b < 1
 ·rw [dT h1] at h;cases h
 rw [dF h1] at h
 by_cases h2:b > d.arms
 ·rw [dT h2] at h;cases h
 exact ⟨rfl,by omega,by omega⟩
theorem mq {d:Deck} {s:Stock} (h:m91 d s=true):(dc d != 0)=false∧(s.cells.length:Int)=bk (aK d)∧s.logs.length=s.cells.length∧(s.tips.length:Int)=bk (aP d):=by
 unfold m91 at h
 cases h1:dc d != 0
 ·rw [h1,cF] at h
  have hw:=lz h1
  have ht:=kp h1
  simp only [hw,ht] at h
  cases h2:((s.cells.length:Int) != bk (aK d))
  ·rw [h2,cF] at h
   cases h3:((s.logs.length:Int) != bk (aK d))
   ·rw [h3,cF] at h
    cases h4:((s.tips.length:Int) != bk (aP d))
    ·have h2:=am.1 h2
     have h3:=am.1 h3
     have h4:=am.1 h4
     exact ⟨rfl,h2,by omega,h4⟩
    ·rw [h4] at h;cases h
   ·rw [h3] at h;cases h
  ·rw [h2] at h;cases h
 ·rw [h1] at h;cases h
theorem Fu {d:Deck} {s:Stock} {b:Int} {x:Stock} {y:Deck} (h:eB (aT d s b,x,y)=false):aT d s b=0:=am.1 h
theorem EB {d:Deck} {s:Stock} {b:Int} {x:Stock} {y:Deck} (h:eB (aT d s b,x,y)=false):s.logs.length=s.cells.length:=(mq (Jt (Fu h)).1).2.2.1
theorem fk {cs:List Cell} {ls:List Log} {ts:List Tip} {st inn out:Int} {d:Deck} {id:Int} (h:(!(lU cs ls ts st inn out d id))=false):0≤id∧id < cs.length:=by
 have h:=nf h
 unfold lU at h
 by_cases h1:id≥0
 ·rw [dT h1,cT] at h
  have:=oT h
  omega
 ·rw [dF h1] at h;cases h
theorem pl {s:Stock} {ts:List Tip} {st inn out b:Int} {d d':Deck} {id:Int} {x:Stock} {y:Deck} (h:(!(lU s.cells s.logs ts st inn out d id))=false) (h2:eB (aT d' s b,x,y)=false):0≤id∧id < s.cells.length∧id < s.logs.length:=by
 have h1:=fk h
 have h3:=EB h2
 omega
theorem rJ {α:Type} {e:Int} (h:(e != 0)=true) {a b:α}:(bif e != 0 then a else b)=a:=by rw [h];rfl
end Go.Proofs.Mo

namespace Go.Proofs.Mo
open Go.Proofs.Tryz
open Go Go.VL
set_option maxRecDepth 20000
open Go.Proofs.Zn Go.Proofs.Mn
open Wn (dD bD)
def fF (d:Deck) (s:Stock) (b id n:Int):Stock×Int:=bif (eB (aT d s b,s,d)) then (Stock.mk [] [] [] (0:Int) (0:Int) (0:Int),(aT d s b)) else bif (!(lU (s).cells (s).logs (s).tips (s).start (s).inn (s).out (d) id)) then (Stock.mk [] [] [] (0:Int) (0:Int) (0:Int),(3:Int)) else let y1:=rD ((s).cells.getD id.toNat Ty.cell.dflt) n;bif (y1.2 != (0:Int)) then (Stock.mk [] [] [] (0:Int) (0:Int) (0:Int),y1.2) else bif decide (n > w64 ((1152921504606846976:Int) - (s).inn)) then (Stock.mk [] [] [] (0:Int) (0:Int) (0:Int),(4:Int)) else (Stock.mk (iz (s).cells (s).logs (s).tips (s).start (w64 ((s).inn+n)) (s).out (d) b id y1.1).1 (iz (s).cells (s).logs (s).tips (s).start (w64 ((s).inn+n)) (s).out (d) b id y1.1).2 (s).tips (s).start (w64 ((s).inn+n)) (s).out,(0:Int))
theorem En (d:Deck) (s:Stock) (b id n:Int) (hb:OkS s):Gc prog 281 [.agg (cp d),.agg (gL s),i64 b,i64 id,i64 n,.clo (.func 282) [] [],.clo (.func 283) [] []] [] 0 ((fun x:Stock×Int=>(bif x.2 != 0 then ⟨[.agg [iK,iK,iK,i64 0,i64 0,i64 0],i64 x.2],[],0⟩ else ⟨[tw x.1,i64 0],tx x.1,3⟩:GRes)) (fF d s b id n)):=
 Gc.of_closed (C:=codes) (S:=sigs) mixed func281 (by kernel_rfl) (fun i T t ys hi _=>absurd hi (bA _)) fun A hA=>hA.go (BN d s b id n) (by
  obtain ⟨r,h⟩:∃ r,fF d s b id n=r:=⟨_,rfl⟩
  rw [h] at hA ⊢
  unfold fF at h
  refine ⟨(aT d s b,s,d),vV _ _ _ hb,?_⟩
  refine ai h (fun g1 h=>?_) (fun g1 h=>?_)
  ·refine dD g1 ?_
   exact ⟨trivial,.of_eq (by rw [← h];first | rfl | exact (rJ (by assumption)).symm)⟩
  ·refine ⟨lU (aT d s b,s,d).2.1.cells (aT d s b,s,d).2.1.logs (aT d s b,s,d).2.1.tips (aT d s b,s,d).2.1.start (aT d s b,s,d).2.1.inn (aT d s b,s,d).2.1.out (aT d s b,s,d).2.2 id,GJ _ _ _ _ _ _ _ _,?_⟩
   refine ai h (fun g2 h=>?_) (fun g2 h=>?_)
   ·exact ⟨trivial,.of_eq (by rw [← h];first | rfl | exact (rJ (by assumption)).symm)⟩
   ·refine ⟨⟨(by have hw:=fk (by assumption);(try dsimp only at hw);(try dsimp only);omega),(by have hw:=fk (by assumption);(try dsimp only at hw);(try dsimp only);omega)⟩,(by have hw:=fk (by assumption);(try dsimp only at hw);(try dsimp only);omega),⟨q4,q2,trivial⟩,_,LB _ _,?_⟩
    refine ai h (fun g3 h=>?_) (fun g3 h=>?_)
    ·exact ⟨trivial,.of_eq (by rw [← h];first | rfl | exact (rJ (by assumption)).symm)⟩
    ·try replace g3:=am.1 g3
     refine ⟨(),c283 _ _ _ _ _ _ _,?_⟩
     refine ai h (fun g4 h=>?_) (fun g4 h=>?_)
     ·have g4:=oT g4
      exact ⟨trivial,.of_eq (by rw [← h];first | rfl | exact (rJ (by assumption)).symm)⟩
     ·have g4:=oF g4
      exact ⟨iz (aT d s b,s,d).2.1.cells (aT d s b,s,d).2.1.logs (aT d s b,s,d).2.1.tips (aT d s b,s,d).2.1.start (w64 ((aT d s b,s,d).2.1.inn+n)) (aT d s b,s,d).2.1.out (aT d s b,s,d).2.2 b id (rD ((aT d s b,s,d).2.1.cells.getD id.toNat Ty.cell.dflt) n).1,GI _ _ _ _ _ _ _ _ _ _ (pl (by assumption) (by assumption)) hb.list',trivial,.of_eq (by rw [← h];first | rfl | exact (rJ (by assumption)).symm)⟩)
def fE (d:Deck) (s:Stock) (b id n:Int):Stock×Int:=bif (eB (aT d s b,s,d)) then (Stock.mk [] [] [] (0:Int) (0:Int) (0:Int),(aT d s b)) else bif (!(lU (s).cells (s).logs (s).tips (s).start (s).inn (s).out (d) id)) then (Stock.mk [] [] [] (0:Int) (0:Int) (0:Int),(3:Int)) else let y1:=rB ((s).cells.getD id.toNat Ty.cell.dflt) n;bif (y1.2 != (0:Int)) then (Stock.mk [] [] [] (0:Int) (0:Int) (0:Int),y1.2) else bif decide (n > w64 ((1152921504606846976:Int) - (s).out)) then (Stock.mk [] [] [] (0:Int) (0:Int) (0:Int),(4:Int)) else (Stock.mk (iz (s).cells (s).logs (s).tips (s).start (s).inn (w64 ((s).out+n)) (d) b id y1.1).1 (iz (s).cells (s).logs (s).tips (s).start (s).inn (w64 ((s).out+n)) (d) b id y1.1).2 (s).tips (s).start (s).inn (w64 ((s).out+n)),(0:Int))
theorem Em (d:Deck) (s:Stock) (b id n:Int) (hb:OkS s):Gc prog 281 [.agg (cp d),.agg (gL s),i64 b,i64 id,i64 n,.clo (.func 284) [] [],.clo (.func 285) [] []] [] 0 ((fun x:Stock×Int=>(bif x.2 != 0 then ⟨[.agg [iK,iK,iK,i64 0,i64 0,i64 0],i64 x.2],[],0⟩ else ⟨[tw x.1,i64 0],tx x.1,3⟩:GRes)) (fE d s b id n)):=
 Gc.of_closed (C:=codes) (S:=sigs) mixed func281 (by kernel_rfl) (fun i T t ys hi _=>absurd hi (bA _)) fun A hA=>hA.go (BM d s b id n) (by
  obtain ⟨r,h⟩:∃ r,fE d s b id n=r:=⟨_,rfl⟩
  rw [h] at hA ⊢
  unfold fE at h
  refine ⟨(aT d s b,s,d),vV _ _ _ hb,?_⟩
  refine ai h (fun g1 h=>?_) (fun g1 h=>?_)
  ·refine dD g1 ?_
   exact ⟨trivial,.of_eq (by rw [← h];first | rfl | exact (rJ (by assumption)).symm)⟩
  ·refine ⟨lU (aT d s b,s,d).2.1.cells (aT d s b,s,d).2.1.logs (aT d s b,s,d).2.1.tips (aT d s b,s,d).2.1.start (aT d s b,s,d).2.1.inn (aT d s b,s,d).2.1.out (aT d s b,s,d).2.2 id,GJ _ _ _ _ _ _ _ _,?_⟩
   refine ai h (fun g2 h=>?_) (fun g2 h=>?_)
   ·exact ⟨trivial,.of_eq (by rw [← h];first | rfl | exact (rJ (by assumption)).symm)⟩
   ·refine ⟨⟨(by have hw:=fk (by assumption);(try dsimp only at hw);(try dsimp only);omega),(by have hw:=fk (by assumption);(try dsimp only at hw);(try dsimp only);omega)⟩,(by have hw:=fk (by assumption);(try dsimp only at hw);(try dsimp only);omega),⟨q4,q2,trivial⟩,_,LA _ _,?_⟩
    refine ai h (fun g3 h=>?_) (fun g3 h=>?_)
    ·exact ⟨trivial,.of_eq (by rw [← h];first | rfl | exact (rJ (by assumption)).symm)⟩
    ·try replace g3:=am.1 g3
     refine ⟨(),c285 _ _ _ _ _ _ _,?_⟩
     refine ai h (fun g4 h=>?_) (fun g4 h=>?_)
     ·have g4:=oT g4
      exact ⟨trivial,.of_eq (by rw [← h];first | rfl | exact (rJ (by assumption)).symm)⟩
     ·have g4:=oF g4
      exact ⟨iz (aT d s b,s,d).2.1.cells (aT d s b,s,d).2.1.logs (aT d s b,s,d).2.1.tips (aT d s b,s,d).2.1.start (aT d s b,s,d).2.1.inn (w64 ((aT d s b,s,d).2.1.out+n)) (aT d s b,s,d).2.2 b id (rB ((aT d s b,s,d).2.1.cells.getD id.toNat Ty.cell.dflt) n).1,GI _ _ _ _ _ _ _ _ _ _ (pl (by assumption) (by assumption)) hb.list',trivial,.of_eq (by rw [← h];first | rfl | exact (rJ (by assumption)).symm)⟩)
def np (d:Deck) (s:Stock) (b i n:Int):Stock×Int:=let y1:=fF d s b i n;bif (jE y1) then (Stock.mk [] [] [] (0:Int) (0:Int) (0:Int),y1.2) else (y1.1,(0:Int))
theorem c237 (d:Deck) (s:Stock) (b i n:Int) (hb:OkS s):Pure prog 237 [⟨.deck,d⟩,⟨.stock,s⟩,⟨.int,b⟩,⟨.int,i⟩,⟨.int,n⟩] [.stock,.int] (np d s b i n):=
 Pure.of_closed (C:=codes) (S:=sigs) mixed func237 (by kernel_rfl) (ac (by kernel_rfl)) fun A hA=>hA.go (t237 d s b i n) (by
  obtain ⟨r,h⟩:∃ r,np d s b i n=r:=⟨_,rfl⟩
  rw [h] at hA ⊢
  unfold np at h
  refine ⟨fF d s b i n,En _ _ _ _ _ hb,?_⟩
  refine ai h (fun g1 h=>?_) (fun g1 h=>?_)
  ·exact ⟨⟨q7,trivial,trivial⟩,h⟩
  ·exact ⟨⟨q7,trivial,trivial⟩,h⟩)
def nl (d:Deck) (s:Stock) (b i n:Int):Stock×Int:=let y1:=fE d s b i n;bif (jE y1) then (Stock.mk [] [] [] (0:Int) (0:Int) (0:Int),y1.2) else (y1.1,(0:Int))
theorem c238 (d:Deck) (s:Stock) (b i n:Int) (hb:OkS s):Pure prog 238 [⟨.deck,d⟩,⟨.stock,s⟩,⟨.int,b⟩,⟨.int,i⟩,⟨.int,n⟩] [.stock,.int] (nl d s b i n):=
 Pure.of_closed (C:=codes) (S:=sigs) mixed func238 (by kernel_rfl) (ac (by kernel_rfl)) fun A hA=>hA.go (t238 d s b i n) (by
  obtain ⟨r,h⟩:∃ r,nl d s b i n=r:=⟨_,rfl⟩
  rw [h] at hA ⊢
  unfold nl at h
  refine ⟨fE d s b i n,Em _ _ _ _ _ hb,?_⟩
  refine ai h (fun g1 h=>?_) (fun g1 h=>?_)
  ·exact ⟨⟨q7,trivial,trivial⟩,h⟩
  ·exact ⟨⟨q7,trivial,trivial⟩,h⟩)
def rF (cs:List Cell) (ls:List Log) (ts:List Tip) (st inn out b id:Int) (c:Cell):List Cell×List Log:=(cs.set id.toNat c,ls.set id.toNat (IJ (ls.getD id.toNat Ty.log.dflt) b (w64 (c.vol - (cs.getD id.toNat Ty.cell.dflt).vol))).1)
def vx (d:Deck) (s:Stock) (b:Int):Int:=bif (!(m94 d s)) then (130:Int) else bif decide (b < (1:Int)) then (1:Int) else bif decide (b > d.arms) then (1:Int) else (0:Int)
end Go.Proofs.Mo

/- Models: the reference's stocks: what they come to. (Own work.) -/
namespace Go.Proofs.Mo
open Go.Proofs.Tryz
open Go Go.VL Go.Proofs.Zn Go.Proofs.Mn
theorem jM (cs:List Cell) (ls:List Log) (ts:List Tip) (st inn out:Int) (d:Deck) (id:Int):wR cs ls ts st inn out d id < ts.length:=by
 unfold wR
 by_cases h1:id≥cs.length
 ·rw [dT h1,cT]
  by_cases h2:w64 (id - cs.length) < ts.length
  ·rw [dT h2,cT];exact h2
  ·rw [dF h2,cF];omega
 ·rw [dF h1,cF];omega
theorem yQ (i:Int) (t:Tip):∀ (l:List Tip) (k:Nat),(gQ i t l k).2=true→(k:Int)≤(gQ i t l k).1∧(gQ i t l k).1 < (k:Int)+l.length
 | [],k,h=>by cases h
 | x :: l, k, h => by
   have ih:=yQ i t l (k+1)
   unfold gQ at h ⊢
   simp only [ag]
   generalize (decide ((k:Int) < i))=c1 at h ⊢
   generalize (!(x.state==t.state && (x.by'==t.by' && true)))=c2 at h ⊢
   generalize (!hY x)=c3 at h ⊢
   cases c1
   ·cases c2
    ·cases c3
     ·simp only [cF];omega
     ·have:=ih h;simp only [cF,cT];omega
    ·have:=ih h;simp only [cF,cT];omega
   ·have:=ih h;simp only [cT];omega
theorem lM {l:List Tip} {b:Int} (h:(!(od l b).2)=false):0≤(od l b).1∧(od l b).1 < l.length:=by
 have h:=nf h
 have:=yQ 0 ⟨2,b⟩ l 0 h
 unfold od Di
 simp only at this ⊢
 omega
def sf (l:Log) (b n:Int):Log×Int:=bif !(ik l) then (⟨0,0,[]⟩,110) else bif !(qO b n) then (⟨0,0,[]⟩,1) else bif l.last==2147483647 then (⟨0,0,[]⟩,101) else
 (⟨l.room,l.last+1,(bif (l.list.length:Int)==l.room then l.list.drop 1 else l.list)++[⟨l.last+1,b,n⟩]⟩,0)
theorem yd (l:Log) (b n:Int):AC l b n=sf l b n:=by
 unfold AC sf
 cases hl:ik l
 ·rfl
 obtain ⟨h1,h2,h3,h4,h5,h6,_⟩:=lK hl
 cases qO b n
 ·rfl
 cases h7:(l.last==2147483647)
 ·have h7:l.last≠2147483647:=by simpa using h7
  rw [aA (n:=l.last+1) (by omega) (by omega)]
  have e:sR l=l.list.length:=rfl
  rw [e]
  cases h8:((l.list.length:Int)==l.room)
  ·simp only [dr,cF,sR,aq,gX,bL]
  ·simp only [dr,cF,cT,sR,aq,gX]
 ·rfl
theorem Ge (l:Log) (b n:Int):IJ l b n=sf l b n:=by
 unfold IJ sf
 cases hl:ik l
 ·rfl
 obtain ⟨h1,h2,h3,h4,h5,h6,_⟩:=lK hl
 cases qO b n
 ·rfl
 cases h7:(l.last==2147483647)
 ·have h7:l.last≠2147483647:=by simpa using h7
  rw [aA (n:=l.last+1) (by omega) (by omega)]
  simp only [iq,ak,ag,al,dr,cF]
  by_cases h8:(l.list.length:Int)=l.room
  ·have e1:((l.list.length:Int)==l.room)=true:=by simpa using h8
   rw [e1,cT,dT (by omega),cT]
   have hne:l.list≠[]:=fun e=>by rw [e] at h8;simp at h8;omega
   rw [cn (by simp)]
   obtain ⟨x,xs,hx⟩:=List.exists_cons_of_ne_nil hne
   rw [hx];rfl
  ·have e1:((l.list.length:Int)==l.room)=false:=by simpa using h8
   rw [e1,cF,dF (by omega),cF]
 ·rfl
theorem Al {l:Log} {b n:Int}:(sf l b n).1.list.length≤1000000:=by
 unfold sf
 cases hl:ik l
 ·simp
 obtain ⟨h1,h2,h3,h4,h5,h6,_⟩:=lK hl
 cases qO b n
 ·simp
 cases (l.last==2147483647)
 ·cases ((l.list.length:Int)==l.room)
  ·simp only [dr,cF,ak,ag,al];omega
  ·simp only [dr,cF,cT,ak,ag,al,aQ];omega
 ·simp
theorem BW {ls:List Log} {l:Log} {k:Nat} (h:∀ i:Nat,(List.getD ls i (Ty.dflt Ty.log)).list.length≤1000000) (hl:l.list.length≤1000000):∀ i:Nat,(List.getD (ls.set k l) i (Ty.dflt Ty.log)).list.length≤1000000:=fun i=>by
 have:=h i
 simp only [List.getD,bY] at this ⊢
 split
 ·split
  ·exact hl
  ·decide
 ·exact this
theorem Ct {cs:List Cell} {ls:List Log} {ts:List Tip} {st inn out:Int} {d:Deck} {b id:Int} {c:Cell} (h:∀ i:Nat,(List.getD ls i (Ty.dflt Ty.log)).list.length≤1000000):∀ i:Nat,(List.getD (iz cs ls ts st inn out d b id c).2 i (Ty.dflt Ty.log)).list.length≤1000000:=
 BW h (by rw [yd];exact Al)
theorem FE {s:Stock} {ts:List Tip} {st inn out b:Int} {d d':Deck} {id id' b':Int} {x:Stock} {y:Deck} {c:Cell} {ts':List Tip} {st' inn' out':Int} {dd:Deck} (h:(!(lU s.cells s.logs ts st inn out d id))=false) (h2:eB (aT d' s b,x,y)=false) :
  0≤id∧id < (iz s.cells s.logs ts' st' inn' out' dd b' id' c).1.length∧id < (iz s.cells s.logs ts' st' inn' out' dd b' id' c).2.length:=by
 have:=pl h h2
 simpa [iz] using this
end Go.Proofs.Mo

namespace Go.Proofs.Mo
open Go.Proofs.Tryz
open Go Go.VL
set_option maxRecDepth 20000
open Go.Proofs.Zn Go.Proofs.Mn
open Wn (dD bD)
def wU (d:Deck) (s:Stock) (b i n:Int):Stock×Int:=bif ((vx d s b) != (0:Int)) then (Stock.mk [] [] [] (0:Int) (0:Int) (0:Int),(vx d s b)) else bif (!(vw s i)) then (Stock.mk [] [] [] (0:Int) (0:Int) (0:Int),(3:Int)) else let y1:=AH (s.cells.getD i.toNat Ty.cell.dflt) n;bif (y1.2 != (0:Int)) then (Stock.mk [] [] [] (0:Int) (0:Int) (0:Int),y1.2) else bif decide (n > w64 ((1152921504606846976:Int) - s.inn)) then (Stock.mk [] [] [] (0:Int) (0:Int) (0:Int),(4:Int)) else let y2:=rF s.cells s.logs s.tips s.start s.inn s.out b i y1.1;(Stock.mk y2.1 y2.2 s.tips s.start (w64 (s.inn+n)) s.out,(0:Int))
def wT (d:Deck) (s:Stock) (b i n:Int):Stock×Int:=bif ((vx d s b) != (0:Int)) then (Stock.mk [] [] [] (0:Int) (0:Int) (0:Int),(vx d s b)) else bif (!(vw s i)) then (Stock.mk [] [] [] (0:Int) (0:Int) (0:Int),(3:Int)) else let y1:=AG (s.cells.getD i.toNat Ty.cell.dflt) n;bif (y1.2 != (0:Int)) then (Stock.mk [] [] [] (0:Int) (0:Int) (0:Int),y1.2) else bif decide (n > w64 ((1152921504606846976:Int) - s.out)) then (Stock.mk [] [] [] (0:Int) (0:Int) (0:Int),(4:Int)) else let y2:=rF s.cells s.logs s.tips s.start s.inn s.out b i y1.1;(Stock.mk y2.1 y2.2 s.tips s.start s.inn (w64 (s.out+n)),(0:Int))
def Gk (d:Deck) (s:Stock) (b i j n:Int):Stock×Int:=bif ((vx d s b) != (0:Int)) then (Stock.mk [] [] [] (0:Int) (0:Int) (0:Int),(vx d s b)) else bif (!(vw s i)) then (Stock.mk [] [] [] (0:Int) (0:Int) (0:Int),(3:Int)) else bif (!(vw s j)) then (Stock.mk [] [] [] (0:Int) (0:Int) (0:Int),(3:Int)) else bif (i==j) then (Stock.mk [] [] [] (0:Int) (0:Int) (0:Int),(1:Int)) else let y1:=IM (s.cells.getD i.toNat Ty.cell.dflt) (s.cells.getD j.toNat Ty.cell.dflt) n;bif (y1.2.2 != (0:Int)) then (Stock.mk [] [] [] (0:Int) (0:Int) (0:Int),y1.2.2) else let y2:=rF (rF s.cells s.logs s.tips s.start s.inn s.out b i y1.1).1 (rF s.cells s.logs s.tips s.start s.inn s.out b i y1.1).2 s.tips s.start s.inn s.out b j y1.2.1;(Stock.mk y2.1 y2.2 s.tips s.start s.inn s.out,(0:Int))
def nq (d:Deck) (s:Stock) (b i j n:Int):Stock×Int:=bif (eB (aT d s b,s,d)) then (Stock.mk [] [] [] (0:Int) (0:Int) (0:Int),(aT d s b)) else bif (!(lU (s).cells (s).logs (s).tips (s).start (s).inn (s).out (d) i)) then (Stock.mk [] [] [] (0:Int) (0:Int) (0:Int),(3:Int)) else bif (!(lU (s).cells (s).logs (s).tips (s).start (s).inn (s).out (d) j)) then (Stock.mk [] [] [] (0:Int) (0:Int) (0:Int),(3:Int)) else bif (i==j) then (Stock.mk [] [] [] (0:Int) (0:Int) (0:Int),(1:Int)) else let y1:=rE ((s).cells.getD i.toNat Ty.cell.dflt) ((s).cells.getD j.toNat Ty.cell.dflt) n;bif (y1.2.2 != (0:Int)) then (Stock.mk [] [] [] (0:Int) (0:Int) (0:Int),y1.2.2) else let y2:=iz (iz (s).cells (s).logs (s).tips (s).start (s).inn (s).out (d) b i y1.1).1 (iz (s).cells (s).logs (s).tips (s).start (s).inn (s).out (d) b i y1.1).2 (s).tips (s).start (s).inn (s).out (d) b j y1.2.1;(Stock.mk y2.1 y2.2 (s).tips (s).start (s).inn (s).out,(0:Int))
theorem c236 (d:Deck) (s:Stock) (b i j n:Int) (hb:OkS s):Pure prog 236 [⟨.deck,d⟩,⟨.stock,s⟩,⟨.int,b⟩,⟨.int,i⟩,⟨.int,j⟩,⟨.int,n⟩] [.stock,.int] (nq d s b i j n):=
 Pure.of_closed (C:=codes) (S:=sigs) mixed func236 (by kernel_rfl) (ac (by kernel_rfl)) fun A hA=>hA.go (t236 d s b i j n) (by
  obtain ⟨r,h⟩:∃ r,nq d s b i j n=r:=⟨_,rfl⟩
  rw [h] at hA ⊢
  unfold nq at h
  refine ⟨(aT d s b,s,d),vV _ _ _ hb,?_⟩
  refine ai h (fun g1 h=>?_) (fun g1 h=>?_)
  ·refine dD g1 ?_
   exact ⟨⟨q7,trivial,trivial⟩,h⟩
  ·refine ⟨lU (aT d s b,s,d).2.1.cells (aT d s b,s,d).2.1.logs (aT d s b,s,d).2.1.tips (aT d s b,s,d).2.1.start (aT d s b,s,d).2.1.inn (aT d s b,s,d).2.1.out (aT d s b,s,d).2.2 i,GJ _ _ _ _ _ _ _ _,?_⟩
   refine ai h (fun g2 h=>?_) (fun g2 h=>?_)
   ·exact ⟨⟨q7,trivial,trivial⟩,h⟩
   ·refine ⟨lU (aT d s b,s,d).2.1.cells (aT d s b,s,d).2.1.logs (aT d s b,s,d).2.1.tips (aT d s b,s,d).2.1.start (aT d s b,s,d).2.1.inn (aT d s b,s,d).2.1.out (aT d s b,s,d).2.2 j,GJ _ _ _ _ _ _ _ _,?_⟩
    refine ai h (fun g3 h=>?_) (fun g3 h=>?_)
    ·exact ⟨⟨q7,trivial,trivial⟩,h⟩
    ·refine ai h (fun g4 h=>?_) (fun g4 h=>?_)
     ·try replace g4:=bn g4
      exact ⟨⟨q7,trivial,trivial⟩,h⟩
     ·refine ⟨⟨(by have hw:=fk (id:=i) (cs:=s.cells) (by assumption);(try dsimp only at hw);(try dsimp only);omega),(by have hw:=fk (id:=i) (cs:=s.cells) (by assumption);(try dsimp only at hw);(try dsimp only);omega)⟩,(by have hw:=fk (id:=i) (cs:=s.cells) (by assumption);(try dsimp only at hw);(try dsimp only);omega),⟨(by have hw:=fk (id:=j) (cs:=s.cells) (by assumption);(try dsimp only at hw);(try dsimp only);omega),(by have hw:=fk (id:=j) (cs:=s.cells) (by assumption);(try dsimp only at hw);(try dsimp only);omega)⟩,(by have hw:=fk (id:=j) (cs:=s.cells) (by assumption);(try dsimp only at hw);(try dsimp only);omega),⟨q4,q4,q2,trivial⟩,_,c279 _ _ _,?_⟩
      refine ai h (fun g5 h=>?_) (fun g5 h=>?_)
      ·exact ⟨⟨q7,trivial,trivial⟩,h⟩
      ·try replace g5:=am.1 g5
       exact ⟨iz (aT d s b,s,d).2.1.cells (aT d s b,s,d).2.1.logs (aT d s b,s,d).2.1.tips (aT d s b,s,d).2.1.start (aT d s b,s,d).2.1.inn (aT d s b,s,d).2.1.out (aT d s b,s,d).2.2 b i (rE ((aT d s b,s,d).2.1.cells.getD i.toNat Ty.cell.dflt) ((aT d s b,s,d).2.1.cells.getD j.toNat Ty.cell.dflt) n).1,GI _ _ _ _ _ _ _ _ _ _ (pl (by assumption) (by assumption)) hb.list',iz (iz (aT d s b,s,d).2.1.cells (aT d s b,s,d).2.1.logs (aT d s b,s,d).2.1.tips (aT d s b,s,d).2.1.start (aT d s b,s,d).2.1.inn (aT d s b,s,d).2.1.out (aT d s b,s,d).2.2 b i (rE ((aT d s b,s,d).2.1.cells.getD i.toNat Ty.cell.dflt) ((aT d s b,s,d).2.1.cells.getD j.toNat Ty.cell.dflt) n).1).1 (iz (aT d s b,s,d).2.1.cells (aT d s b,s,d).2.1.logs (aT d s b,s,d).2.1.tips (aT d s b,s,d).2.1.start (aT d s b,s,d).2.1.inn (aT d s b,s,d).2.1.out (aT d s b,s,d).2.2 b i (rE ((aT d s b,s,d).2.1.cells.getD i.toNat Ty.cell.dflt) ((aT d s b,s,d).2.1.cells.getD j.toNat Ty.cell.dflt) n).1).2 (aT d s b,s,d).2.1.tips (aT d s b,s,d).2.1.start (aT d s b,s,d).2.1.inn (aT d s b,s,d).2.1.out (aT d s b,s,d).2.2 b j (rE ((aT d s b,s,d).2.1.cells.getD i.toNat Ty.cell.dflt) ((aT d s b,s,d).2.1.cells.getD j.toNat Ty.cell.dflt) n).2.1,GI _ _ _ _ _ _ _ _ _ _ (FE (by assumption) (by assumption)) (Ct hb.list'),⟨q7,trivial,trivial⟩,h⟩)
def AK (d:Deck) (s:Stock) (b i:Int):Stock×Int:=bif (eB (aT d s b,s,d)) then (Stock.mk [] [] [] (0:Int) (0:Int) (0:Int),(aT d s b)) else let y1:=wR (s).cells (s).logs (s).tips (s).start (s).inn (s).out (d) i;bif decide (y1 < (0:Int)) then (Stock.mk [] [] [] (0:Int) (0:Int) (0:Int),(3:Int)) else bif (od (s).tips b).2 then (Stock.mk [] [] [] (0:Int) (0:Int) (0:Int),(131:Int)) else let y2:=Gg ((s).tips.getD y1.toNat Ty.tip.dflt) b;bif (y2.2 != (0:Int)) then (Stock.mk [] [] [] (0:Int) (0:Int) (0:Int),y2.2) else (Stock.mk (s).cells (s).logs ((s).tips.set y1.toNat y2.1) (s).start (s).inn (s).out,(0:Int))
theorem c232 (d:Deck) (s:Stock) (b i:Int) (hb:OkS s):Pure prog 232 [⟨.deck,d⟩,⟨.stock,s⟩,⟨.int,b⟩,⟨.int,i⟩] [.stock,.int] (AK d s b i):=
 Pure.of_closed (C:=codes) (S:=sigs) mixed func232 (by kernel_rfl) (ac (by kernel_rfl)) fun A hA=>hA.go (t232 d s b i) (by
  obtain ⟨r,h⟩:∃ r,AK d s b i=r:=⟨_,rfl⟩
  rw [h] at hA ⊢
  unfold AK at h
  refine ⟨(aT d s b,s,d),vV _ _ _ hb,?_⟩
  refine ai h (fun g1 h=>?_) (fun g1 h=>?_)
  ·refine dD g1 ?_
   exact ⟨⟨q7,trivial,trivial⟩,h⟩
  ·refine ⟨wR (aT d s b,s,d).2.1.cells (aT d s b,s,d).2.1.logs (aT d s b,s,d).2.1.tips (aT d s b,s,d).2.1.start (aT d s b,s,d).2.1.inn (aT d s b,s,d).2.1.out (aT d s b,s,d).2.2 i,c275 _ _ _ _ _ _ _ _ (by have h4:=hb.tips;have h5:=hb.cells;exact ⟨h5,h4⟩),?_⟩
   refine ai h (fun g2 h=>?_) (fun g2 h=>?_)
   ·have g2:=oT g2
    exact ⟨⟨q7,trivial,trivial⟩,h⟩
   ·have g2:=oF g2
    refine ⟨⟨q2,q2,trivial⟩,_,Jk _ _ hb.tips,?_⟩
    refine ai h (fun g3 h=>?_) (fun g3 h=>?_)
    ·exact ⟨⟨q7,trivial,trivial⟩,h⟩
    ·refine ⟨⟨(by have hw:=jM (aT d s b,s,d).2.1.cells (aT d s b,s,d).2.1.logs (aT d s b,s,d).2.1.tips (aT d s b,s,d).2.1.start (aT d s b,s,d).2.1.inn (aT d s b,s,d).2.1.out (aT d s b,s,d).2.2 i;omega),(by have hw:=jM (aT d s b,s,d).2.1.cells (aT d s b,s,d).2.1.logs (aT d s b,s,d).2.1.tips (aT d s b,s,d).2.1.start (aT d s b,s,d).2.1.inn (aT d s b,s,d).2.1.out (aT d s b,s,d).2.2 i;omega)⟩,(by have hw:=jM (aT d s b,s,d).2.1.cells (aT d s b,s,d).2.1.logs (aT d s b,s,d).2.1.tips (aT d s b,s,d).2.1.start (aT d s b,s,d).2.1.inn (aT d s b,s,d).2.1.out (aT d s b,s,d).2.2 i;omega),⟨q3,q2,trivial⟩,_,c276 _ _,?_⟩
     refine ai h (fun g4 h=>?_) (fun g4 h=>?_)
     ·exact ⟨⟨q7,trivial,trivial⟩,h⟩
     ·try replace g4:=am.1 g4
      exact ⟨⟨(by have hw:=jM (aT d s b,s,d).2.1.cells (aT d s b,s,d).2.1.logs (aT d s b,s,d).2.1.tips (aT d s b,s,d).2.1.start (aT d s b,s,d).2.1.inn (aT d s b,s,d).2.1.out (aT d s b,s,d).2.2 i;omega),(by have hw:=jM (aT d s b,s,d).2.1.cells (aT d s b,s,d).2.1.logs (aT d s b,s,d).2.1.tips (aT d s b,s,d).2.1.start (aT d s b,s,d).2.1.inn (aT d s b,s,d).2.1.out (aT d s b,s,d).2.2 i;omega)⟩,⟨(by have hw:=jM (aT d s b,s,d).2.1.cells (aT d s b,s,d).2.1.logs (aT d s b,s,d).2.1.tips (aT d s b,s,d).2.1.start (aT d s b,s,d).2.1.inn (aT d s b,s,d).2.1.out (aT d s b,s,d).2.2 i;omega),trivial,trivial,trivial⟩,⟨q7,trivial,trivial⟩,h⟩)
def AJ (d:Deck) (s:Stock) (b:Int):Stock×Int:=bif (eB (aT d s b,s,d)) then (Stock.mk [] [] [] (0:Int) (0:Int) (0:Int),(aT d s b)) else let y1:=od (s).tips b;bif (!y1.2) then (Stock.mk [] [] [] (0:Int) (0:Int) (0:Int),(131:Int)) else (Stock.mk (s).cells (s).logs ((s).tips.set y1.1.toNat (Gf ((s).tips.getD y1.1.toNat Ty.tip.dflt) b).1) (s).start (s).inn (s).out,(0:Int))
theorem c234 (d:Deck) (s:Stock) (b:Int) (hb:OkS s):Pure prog 234 [⟨.deck,d⟩,⟨.stock,s⟩,⟨.int,b⟩] [.stock,.int] (AJ d s b):=
 Pure.of_closed (C:=codes) (S:=sigs) mixed func234 (by kernel_rfl) (ac (by kernel_rfl)) fun A hA=>hA.go (t234 d s b) (by
  obtain ⟨r,h⟩:∃ r,AJ d s b=r:=⟨_,rfl⟩
  rw [h] at hA ⊢
  unfold AJ at h
  refine ⟨(aT d s b,s,d),vV _ _ _ hb,?_⟩
  refine ai h (fun g1 h=>?_) (fun g1 h=>?_)
  ·refine dD g1 ?_
   exact ⟨⟨q7,trivial,trivial⟩,h⟩
  ·refine ⟨⟨q2,q2,trivial⟩,_,Jk _ _ hb.tips,?_⟩
   refine ai h (fun g2 h=>?_) (fun g2 h=>?_)
   ·exact ⟨⟨q7,trivial,trivial⟩,h⟩
   ·exact ⟨⟨(by have hw:=lM (l:=(aT d s b,s,d).2.1.tips) (b:=b) (by assumption);omega),(by have hw:=lM (l:=(aT d s b,s,d).2.1.tips) (b:=b) (by assumption);omega)⟩,(by have hw:=lM (l:=(aT d s b,s,d).2.1.tips) (b:=b) (by assumption);omega),⟨q3,q2,trivial⟩,_,c277 _ _,⟨(by have hw:=lM (l:=(aT d s b,s,d).2.1.tips) (b:=b) (by assumption);omega),(by have hw:=lM (l:=(aT d s b,s,d).2.1.tips) (b:=b) (by assumption);omega)⟩,⟨(by have hw:=lM (l:=(aT d s b,s,d).2.1.tips) (b:=b) (by assumption);omega),trivial,trivial,trivial⟩,⟨q7,trivial,trivial⟩,h⟩)
end Go.Proofs.Mo

/- Models: facts that turns want. (Own work.) -/
namespace Go.Proofs.Mo
open Go.Proofs.Tryz
open Go Go.VL Go.Proofs.Zn Go.Proofs.Mn
structure OkR (r:Req):Prop where
 v0:0≤r.vol
 v1:r.vol < 18446744073709551616
 ids:r.ids.length≤1000
theorem AVle.agg {H:Heap} {cs ds:List AV} (hl:cs.length=ds.length) (h:∀ (i:Nat) x y,cs[i]?=some x→ds[i]?=some y→AVle H x y):AVle H (.agg cs) (.agg ds):=fun w K m v hG hr=>by
 cases hr with
 | agg _ vs hv hp =>
   refine .agg _ vs (hv.trans hl) fun i y u hy hu=>?_
   have hlt:i < cs.length:=by
    rw [hl]
    rcases aw i ds.length with h1 | h1
    ·exact h1
    ·rw [ax h1] at hy;cases hy
   have hx:cs[i]?=some cs[i]:=aj hlt
   exact h i _ y hx hy w K m u hG (hp i _ u hx hu)
theorem dm (a b c d:AV) (H:Heap) (n:Nat):GRes.Le ⟨[.agg [a,b,c,d,.d (.v (.slice none 0 0))]],H,n⟩ ⟨[.agg [a,b,c,d,.d (.sl .change [])]],H,n⟩:=
 ⟨rfl,(fun i x y hx hy=>by
  match i,hx,hy with
  | 0, hx, hy =>
    cases hx;cases hy
    refine AVle.agg rfl fun j x y hx hy=>?_
    match j,hx,hy with
    | 0,hx,hy=>cases hx;cases hy;exact .refl _ _
    | 1,hx,hy=>cases hx;cases hy;exact .refl _ _
    | 2,hx,hy=>cases hx;cases hy;exact .refl _ _
    | 3,hx,hy=>cases hx;cases hy;exact .refl _ _
    | 4,hx,hy=>cases hx;cases hy;exact .nil _ _ _
    | j+5,hx,hy=>cases hx
  | i+1,hx,hy=>cases hx),fun l b hb=>⟨b,hb,.refl _ b⟩,aH _⟩
theorem me {cs:List AV} {H0:Heap}:∀ (i:Nat) (T:TypeId) (t:Ty) (xs:List t.ty),i < 1→Heap.get [(0,.box cs)] i=some (.row T t xs)→∃ ys,H0.get i=some (.row T t ys)∧ys.length=xs.length:=fun i T t xs hi h=>by
 obtain rfl:i=0:=by omega
 cases h
theorem uL (to:Int):∀ (l:List Int) (k:Nat) (acc:List Int),(fV to l k acc).1.length=acc.length
 | [],k,acc=>rfl
 | x :: l, k, acc => by
   unfold fV
   rw [uL to l (k+1)]
   simp
theorem uM (to:Int):∀ (l:List Int) (k:Nat) (acc:List Int),(fU to l k acc).1.length=acc.length
 | [],k,acc=>rfl
 | x :: l, k, acc => by
   unfold fU
   rw [uM to l (k+1)]
   simp
theorem fL {c:Bool} {a b:List Int×Int×Int} {n:Nat} (h1:a.1.length≤n) (h2:b.1.length≤n):(bif c then a else b).1.length≤n:=by
 cases c
 ·exact h2
 ·exact h1
theorem BJ {o ids:List Int} {w:Int}:(pf o ids w).1.length≤o.length:=by
 unfold pf
 refine fL (be _) ?_
 show (iO o ids w w 140 w).1.length≤_
 unfold iO
 exact fL (be _) (fL (be _) (fL (be _) (fL (be _) (fL (be _) (Nat.le_of_eq (uL _ _ _ _))))))
theorem DQ {o ids:List Int} {w:Int}:(ob o ids w).1.length≤o.length:=by
 unfold ob
 refine fL (be _) ?_
 show (iN o ids w 0 141 w).1.length≤_
 unfold iN
 exact fL (be _) (fL (be _) (fL (be _) (fL (be _) (fL (be _) (Nat.le_of_eq (uM _ _ _ _))))))
theorem xG {m:Model} (hb:OkM m) {ids:List Int} {w:Int}:(pf m.owners ids w).1.length≤1000000:=bj BJ hb.owners
theorem yO {m:Model} (hb:OkM m) {ids:List Int} {w:Int}:(ob m.owners ids w).1.length≤1000000:=bj DQ hb.owners
theorem Bc {a b:List Int}:(dx a b).length≤a.length+b.length:=gR
theorem set_le {l:List Int}:(gj l).length≤l.length:=by
 have:=Bc (a:=[]) (b:=l)
 simp only [al] at this
 show (dx [] l).length≤_
 omega
theorem CH (w:Int):∀ (l:List Int) (k:Nat) (acc:List Int),(kZ w l k acc).length≤acc.length+l.length
 | [],k,acc=>jW _ _
 | x :: l, k, acc => by
   unfold kZ
   cases (x==w)
   ·have:=CH w l (k+1) acc
    simp only [cF,ag];omega
   ·have:=CH w l (k+1) (acc++[(k:Int)])
    simp only [cT,ag,ak,al] at this ⊢;omega
theorem CG {o:List Int} {w:Int}:(AF o w).length≤o.length:=by
 have:=CH w o 0 []
 unfold AF
 simpa using this
end Go.Proofs.Mo

namespace Go.Proofs.Mo
open Go.Proofs.Tryz
open Go Go.VL
set_option maxRecDepth 20000
open Go.Proofs.Zn Go.Proofs.Mn
open Wn (dD bD)
def oc (m:Model) (who:Int) (q:Req):List Int:=(AF m.owners who)
theorem Ji (m:Model) (who:Int) (q:Req) (hb:m.owners.length≤1000000):Gc prog 228 [.ptr 0 0] [(0,.box (dq m who q))] 1 ((fun x:List Int=>(⟨[.d (.sl .int x)],[(0,.box (dq m who q))],1⟩:GRes)) (oc m who q)):=
 Gc.of_closed (C:=codes) (S:=sigs) mixed func228 (by kernel_rfl) (fun i T t ys hi h=>⟨ys,h,rfl⟩) fun A hA=>hA.go (t228 m who q) (by
  obtain ⟨r,h⟩:∃ r,oc m who q=r:=⟨_,rfl⟩
  rw [h] at hA ⊢
  unfold oc at h
  exact ⟨⟨q2,q2,trivial⟩,_,c270 _ _ (by first | exact hb | exact hb.owners),trivial,.of_eq (by rw [← h];try rfl)⟩)
def mA (m:Model) (who:Int) (q:Req):Cell:=(m.stock.cells.getD q.a.toNat Ty.cell.dflt)
theorem Bj (m:Model) (who:Int) (q:Req) (hi:0≤q.a∧q.a < m.stock.cells.length):Gc prog 174 [.ptr 0 0] [(0,.box (dq m who q))] 1 ((fun x:Cell=>(⟨[.agg (yY x)],[(0,.box (dq m who q))],1⟩:GRes)) (mA m who q)):=
 Gc.of_closed (C:=codes) (S:=sigs) mixed func174 (by kernel_rfl) (fun i T t ys hi h=>⟨ys,h,rfl⟩) fun A hA=>hA.go (t174 m who q) (by
  obtain ⟨r,h⟩:∃ r,mA m who q=r:=⟨_,rfl⟩
  rw [h] at hA ⊢
  unfold mA at h
  exact ⟨⟨⟨(by omega),(by omega)⟩,trivial⟩,trivial,.of_eq (by rw [← h];try rfl)⟩)
def wS (m:Model) (who:Int) (q:Req) (o:List Int) (at' e:Int):Model×Resp:=bif (e != (0:Int)) then (m,(m98 e at')) else (Model.mk m.deck m.stock o,Resp.mk (0:Int) (0:Int) (↑(oc (Model.mk m.deck m.stock o) who q).length:Int) (0:Int) [])
theorem LG (m:Model) (who:Int) (q:Req) (o:List Int) (at' e:Int) (ho:o.length≤1000000):Gc prog 230 [.ptr 0 0,.d (.sl .int o),i64 at',i64 e] [(0,.box (dq m who q))] 1 ((fun x:Model×Resp=>(⟨[.agg (fe x.2)],[(0,.box (dq x.1 who q))],1⟩:GRes)) (wS m who q o at' e)):=
 Gc.of_closed (C:=codes) (S:=sigs) mixed func230 (by kernel_rfl) me fun A hA=>hA.go (t230 m who q o at' e) (by
  obtain ⟨r,h⟩:∃ r,wS m who q o at' e=r:=⟨_,rfl⟩
  rw [h] at hA ⊢
  unfold wS at h
  refine ai h (fun g1 h=>?_) (fun g1 h=>?_)
  ·exact ⟨⟨q2,q2,trivial⟩,_,c98 _ _,trivial,(by rw [← h];first | exact .of_eq rfl | exact dm _ _ _ _ _ _)⟩
  ·try replace g1:=am.1 g1
   exact ⟨oc (Model.mk m.deck m.stock o) who q,Ji _ _ _ (by first | exact ho | exact hb.owners),trivial,(by rw [← h];first | exact .of_eq rfl | exact dm _ _ _ _ _ _)⟩)
def ij (m:Model) (who:Int) (q:Req) (s:Stock) (e xe xi xn xv:Int):Model×Resp:=bif (e != (0:Int)) then let y1:=m98 e (0:Int);(m,y1) else (Model.mk m.deck s m.owners,Resp.mk xe xi xn xv [])
theorem Er (m:Model) (who:Int) (q:Req) (s:Stock) (e xe xi xn xv:Int) :Gc prog 233 [.ptr 0 0,.agg (gL s),i64 e,.agg [i64 xe,i64 xi,i64 xn,i64 xv,.d (.v (.slice none 0 0))]] [(0,.box (dq m who q))] 1 ((fun x:Model×Resp=>(⟨[.agg (fe x.2)],[(0,.box (dq x.1 who q))],1⟩:GRes)) (ij m who q s e xe xi xn xv)):=
 Gc.of_closed (C:=codes) (S:=sigs) mixed func233 (by kernel_rfl) me fun A hA=>hA.go (t233 m who q s e xe xi xn xv) (by
  obtain ⟨r,h⟩:∃ r,ij m who q s e xe xi xn xv=r:=⟨_,rfl⟩
  rw [h] at hA ⊢
  unfold ij at h
  refine ai h (fun g1 h=>?_) (fun g1 h=>?_)
  ·exact ⟨⟨q2,q2,trivial⟩,_,c98 _ _,trivial,(by rw [← h];first | exact .of_eq rfl | exact dm _ _ _ _ _ _)⟩
  ·try replace g1:=am.1 g1
   exact ⟨trivial,(by rw [← h];first | exact .of_eq rfl | exact dm _ _ _ _ _ _)⟩)
def Dq (m:Model) (who:Int) (q:Req):Model×Resp:=bif decide ((↑(cG true true true (oc m who q) (gj q.ids)).length:Int) > (40:Int)) then let y1:=m98 (160:Int) (0:Int);(m,y1) else let y2:=wS m who q (pf m.owners (gj q.ids) who).1 (pf m.owners (gj q.ids) who).2.1 (pf m.owners (gj q.ids) who).2.2;(y2.1,y2.2)
theorem c168 (m:Model) (who:Int) (q:Req) (hb:OkM m) (hr:OkR q):Gc prog 168 [.ptr 0 0] [(0,.box (dq m who q))] 1 ((fun x:Model×Resp=>(⟨[.agg (fe x.2)],[(0,.box (dq x.1 who q))],1⟩:GRes)) (Dq m who q)):=
 Gc.of_closed (C:=codes) (S:=sigs) mixed func168 (by kernel_rfl) me fun A hA=>hA.go (t168 m who q) (by
  obtain ⟨r,h⟩:∃ r,Dq m who q=r:=⟨_,rfl⟩
  rw [h] at hA ⊢
  unfold Dq at h
  refine ⟨⟨q2,trivial⟩,_,Zn.xq (by have:=hr.ids;omega),oc m who q,Ji _ _ _ (by first | exact ho | exact hb.owners),⟨q2,q2,trivial⟩,_,Zn.uo (by have:(oc m who q).length≤m.owners.length:=CG;have:=hb.own;omega) (by have:=@set_le q.ids;have:=hr.ids;omega),?_⟩
  refine ai h (fun g1 h=>?_) (fun g1 h=>?_)
  ·have g1:=oT g1
   exact ⟨⟨q2,q2,trivial⟩,_,c98 _ _,trivial,(by rw [← h];first | exact .of_eq rfl | exact dm _ _ _ _ _ _)⟩
  ·have g1:=oF g1
   exact ⟨⟨q2,q2,q2,trivial⟩,_,c229 _ _ _ (by have:=@set_le q.ids;have:=hr.ids;omega) hb.owners,wS m who q (pf m.owners (gj q.ids) who).1 (pf m.owners (gj q.ids) who).2.1 (pf m.owners (gj q.ids) who).2.2,LG _ _ _ _ _ _ (by first | with_reducible exact xG hb | with_reducible exact yO hb),trivial,(by rw [← h];first | exact .of_eq rfl | exact dm _ _ _ _ _ _)⟩)
def Dp (m:Model) (who:Int) (q:Req):Model×Resp:=let y1:=wS m who q (ob m.owners (gj q.ids) who).1 (ob m.owners (gj q.ids) who).2.1 (ob m.owners (gj q.ids) who).2.2;(y1.1,y1.2)
theorem c169 (m:Model) (who:Int) (q:Req) (hb:OkM m) (hr:OkR q):Gc prog 169 [.ptr 0 0] [(0,.box (dq m who q))] 1 ((fun x:Model×Resp=>(⟨[.agg (fe x.2)],[(0,.box (dq x.1 who q))],1⟩:GRes)) (Dp m who q)):=
 Gc.of_closed (C:=codes) (S:=sigs) mixed func169 (by kernel_rfl) me fun A hA=>hA.go (t169 m who q) (by
  obtain ⟨r,h⟩:∃ r,Dp m who q=r:=⟨_,rfl⟩
  rw [h] at hA ⊢
  unfold Dp at h
  exact ⟨⟨q2,trivial⟩,_,Zn.xq (by have:=hr.ids;omega),⟨q2,q2,q2,trivial⟩,_,LF _ _ _ (by first | (have:=@set_le q.ids;have:=hr.ids;omega) | (have:(oc m who q).length≤m.owners.length:=CG;have:=hb.owners;omega)) hb.owners,wS m who q (ob m.owners (gj q.ids) who).1 (ob m.owners (gj q.ids) who).2.1 (ob m.owners (gj q.ids) who).2.2,LG _ _ _ _ _ _ (by first | with_reducible exact xG hb | with_reducible exact yO hb),trivial,(by rw [← h];first | exact .of_eq rfl | exact dm _ _ _ _ _ _)⟩)
def Do (m:Model) (who:Int) (q:Req):Model×Resp:=(Model.mk m.deck m.stock (ob m.owners (oc m who q) who).1,Resp.mk (0:Int) (0:Int) (↑(oc m who q).length:Int) (0:Int) [])
theorem c170 (m:Model) (who:Int) (q:Req) (hb:OkM m) (hr:OkR q):Gc prog 170 [.ptr 0 0] [(0,.box (dq m who q))] 1 ((fun x:Model×Resp=>(⟨[.agg (fe x.2)],[(0,.box (dq x.1 who q))],1⟩:GRes)) (Do m who q)):=
 Gc.of_closed (C:=codes) (S:=sigs) mixed func170 (by kernel_rfl) me fun A hA=>hA.go (t170 m who q) (by
  obtain ⟨r,h⟩:∃ r,Do m who q=r:=⟨_,rfl⟩
  rw [h] at hA ⊢
  unfold Do at h
  exact ⟨oc m who q,Ji _ _ _ (by first | exact ho | exact hb.owners),⟨q2,q2,q2,trivial⟩,_,LF _ _ _ (by first | (have:=@set_le q.ids;have:=hr.ids;omega) | (have:(oc m who q).length≤m.owners.length:=CG;have:=hb.owners;omega)) hb.owners,trivial,(by rw [← h];first | exact .of_eq rfl | exact dm _ _ _ _ _ _)⟩)
def Dn (m:Model) (who:Int) (q:Req):Model×Resp:=let y1:=AK m.deck m.stock who q.a;let y2:=ij m who q y1.1 y1.2 (0:Int) q.a (0:Int) (0:Int);(y2.1,y2.2)
theorem c171 (m:Model) (who:Int) (q:Req) (hb:OkM m) (hr:OkR q):Gc prog 171 [.ptr 0 0] [(0,.box (dq m who q))] 1 ((fun x:Model×Resp=>(⟨[.agg (fe x.2)],[(0,.box (dq x.1 who q))],1⟩:GRes)) (Dn m who q)):=
 Gc.of_closed (C:=codes) (S:=sigs) mixed func171 (by kernel_rfl) me fun A hA=>hA.go (t171 m who q) (by
  obtain ⟨r,h⟩:∃ r,Dn m who q=r:=⟨_,rfl⟩
  rw [h] at hA ⊢
  unfold Dn at h
  exact ⟨⟨q5,q7,q2,q2,trivial⟩,_,c232 _ _ _ _ hb.toS,ij m who q (AK m.deck m.stock who q.a).1 (AK m.deck m.stock who q.a).2 (0:Int) q.a (0:Int) (0:Int),Er _ _ _ _ _ _ _ _ _,trivial,(by rw [← h];first | exact .of_eq rfl | exact dm _ _ _ _ _ _)⟩)
def Dm (m:Model) (who:Int) (q:Req):Model×Resp:=let y1:=AJ m.deck m.stock who;let y2:=ij m who q y1.1 y1.2 (0:Int) (m95 m.deck m.stock who).1 (0:Int) (0:Int);(y2.1,y2.2)
theorem c172 (m:Model) (who:Int) (q:Req) (hb:OkM m) (hr:OkR q):Gc prog 172 [.ptr 0 0] [(0,.box (dq m who q))] 1 ((fun x:Model×Resp=>(⟨[.agg (fe x.2)],[(0,.box (dq x.1 who q))],1⟩:GRes)) (Dm m who q)):=
 Gc.of_closed (C:=codes) (S:=sigs) mixed func172 (by kernel_rfl) me fun A hA=>hA.go (t172 m who q) (by
  obtain ⟨r,h⟩:∃ r,Dm m who q=r:=⟨_,rfl⟩
  rw [h] at hA ⊢
  unfold Dm at h
  exact ⟨⟨q5,q7,q2,trivial⟩,_,c95 _ _ _ hb.toS,⟨q5,q7,q2,trivial⟩,_,c234 _ _ _ hb.toS,ij m who q (AJ m.deck m.stock who).1 (AJ m.deck m.stock who).2 (0:Int) (m95 m.deck m.stock who).1 (0:Int) (0:Int),Er _ _ _ _ _ _ _ _ _,trivial,(by rw [← h];first | exact .of_eq rfl | exact dm _ _ _ _ _ _)⟩)
def Dl (m:Model) (who:Int) (q:Req):Model×Resp:=bif ((AI (m.stock.logs.getD q.a.toNat Ty.log.dflt) q.ver).2 != (0:Int)) then let y1:=m98 (AI (m.stock.logs.getD q.a.toNat Ty.log.dflt) q.ver).2 (0:Int);(m,y1) else (m,Resp.mk (0:Int) (0:Int) (0:Int) (mA m who q).ver (AI (m.stock.logs.getD q.a.toNat Ty.log.dflt) q.ver).1)
theorem c173 (m:Model) (who:Int) (q:Req) (hb:OkM m) (hr:OkR q) (hi:0≤q.a∧q.a < m.stock.cells.length) (hj:0≤q.a∧q.a < m.stock.logs.length):Gc prog 173 [.ptr 0 0] [(0,.box (dq m who q))] 1 ((fun x:Model×Resp=>(⟨[.agg (fe x.2)],[(0,.box (dq x.1 who q))],1⟩:GRes)) (Dl m who q)):=
 Gc.of_closed (C:=codes) (S:=sigs) mixed func173 (by kernel_rfl) me fun A hA=>hA.go (t173 m who q) (by
  obtain ⟨r,h⟩:∃ r,Dl m who q=r:=⟨_,rfl⟩
  rw [h] at hA ⊢
  unfold Dl at h
  refine ⟨⟨⟨(by omega),(by omega)⟩,trivial⟩,⟨q4,q2,trivial⟩,_,c235 _ _ (hb.list' _),?_⟩
  refine ai h (fun g1 h=>?_) (fun g1 h=>?_)
  ·exact ⟨⟨q2,q2,trivial⟩,_,c98 _ _,trivial,(by rw [← h];first | exact .of_eq rfl | exact dm _ _ _ _ _ _)⟩
  ·try replace g1:=am.1 g1
   exact ⟨mA m who q,Bj _ _ _ (by first | assumption | exact (hi (by omega)).1),trivial,(by rw [← h];first | exact .of_eq rfl | exact dm _ _ _ _ _ _)⟩)
end Go.Proofs.Mo

/- Models: cells and tips: the program's are the reference's. (Own work.) -/
namespace Go.Proofs.Mo
open Go.Proofs.Tryz
open Go Go.VL Go.Proofs.Zn Go.Proofs.Mn
theorem Ei (c:Cell) (n:Int):wO c n=rA c n:=by
 unfold wO rA
 cases h:eN c
 ·rfl
 ·have e:AB c=w64 (c.cap - c.vol):=by unfold AB;rw [h];rfl
  rw [e]
  cases (n==0) <;> rfl
theorem xR {c:Cell} {n:Int} (hn:cS n):rD c n=AH c n:=by
 have e:rD c n=tR c n 1:=rfl
 have e1:w64 (1 * n)=n:=by rw [Int.one_mul];exact aA hn.1 hn.2
 rw [e]
 unfold tR AH
 rw [e1,Ei]
theorem yR {c:Cell} {n:Int}:rB c n=AG c n:=by
 have e:rB c n=tR c n (-1):=rfl
 rw [e]
 unfold tR AG
 rw [Ei,show (-1:Int) * n=0 - n by omega]
 cases h:eN c
 ·rw [cF,cF]
  have e2:∀ k,rA c k=(⟨0,0,0⟩,100):=fun k=>by unfold rA;rw [h];rfl
  rw [e2]
  cases decide (n < 1) <;> rfl
 ·cases decide (n < 1) <;> rfl
theorem CO {a b:Cell} {n:Int} (hn:cS n):rE a b n=IM a b n:=by
 unfold rE IM
 rw [xR hn,yR]
def qU (l:List Tip):Prop:=∀ t∈l,hY t=true
theorem yK (b:Int):∀ (l:List Tip) (k:Nat),qU l→gQ 0 ⟨2,b⟩ l k=(bif decide (kf b l k≥0) then (kf b l k,true) else (0,false))
 | [],k,_=>rfl
 | t :: l, k, h => by
   have ih:=yK b l (k+1) fun x hx=>h x (by simp [hx])
   have ht:=h t (by simp)
   unfold gQ kf
   rw [dF (show ¬ (k:Int) < 0 by omega),cF,ht]
   cases h1:(t.state==2)
   ·exact ih
   ·cases h2:(t.by'==b)
    ·exact ih
    ·have e:(!(true && (true && true)))=false:=rfl
     show _=(bif decide ((k:Int)≥0) then _ else _)
     rw [dT (show (k:Int)≥0 by omega)]
     rfl
theorem Gs {s:Stock} (b:Int) (h:qU s.tips):od s.tips b=(bif decide (rG s b≥0) then (rG s b,true) else (0,false)):=yK b s.tips 0 h
end Go.Proofs.Mo

/- Models: the program's Right is the reference's: wells. (Own work.) -/
namespace Go.Proofs.Mo
open Go.Proofs.Tryz
open Go Go.VL Go.Proofs.Zn Go.Proofs.Mn
def eH:List Cell→List Cell→List Log→Bool
 | f::fs,c::cs,l::ls=>bif !eN c then false else bif c.cap != f.cap then false else bif !ik l then false else bif l.room != 8 then false else bif l.last != c.ver then false else eH fs cs ls
 | _,_,_=>true
theorem pA:∀ (a b cs:List Cell) (ls:List Log),a.length≤cs.length→a.length≤ls.length→eH (a++b) cs ls=bif eH a cs ls then eH b (cs.drop a.length) (ls.drop a.length) else false
 | [],b,cs,ls,_,_=>rfl
 | x::a,b,[],ls,h,_=>by simp at h
 | x::a,b,c::cs,[],_,h=>by simp at h
 | x :: a, b, c :: cs, l :: ls, h1, h2 => by
   simp only [ag] at h1 h2
   have ih:=pA a b cs ls (by omega) (by omega)
   simp only [hB,eH,ih,ag,List.drop_succ_cons]
   cases (!eN c)
   ·cases (c.cap != x.cap)
    ·cases (!ik l)
     ·cases (l.room != 8)
      ·cases (l.last != c.ver) <;> rfl
      ·rfl
     ·rfl
    ·rfl
   ·rfl
theorem BZ {s:Stock} (hl:s.logs.length=s.cells.length) (hs:s.cells.length≤1000000) {z:Plate} (hz:PlateOk z) (kc:Int→Int→Int×Bool):∀ (n ix:Nat) (i1:Int) (k:Nat),k+n≤s.cells.length→0≤i1→i1+1099511627776 * n≤4611686018427387904 →
  jG s z kc n ix i1 (k:Int)=bif eH ((List.range' ix n).map (cL z)) (s.cells.drop k) (s.logs.drop k) then kc (i1+tot (((List.range' ix n).map (cL z)).map Cell.vol)) ((k+n:Nat):Int) else (0,false)
 | 0, ix, i1, k, _, _, _ => by
   simp only [jG,List.range'_zero,de,eH,cT,tot,iD,ez]
 | n + 1, ix, i1, k, hk, h0, h1 => by
   have hv:=hz.start ix
   have hc:=hz.cap
   have e1:s.cells.drop k=s.cells.getD k (Ty.dflt .cell)::s.cells.drop (k+1):=by rw [dG (by omega),cJ (by omega)]
   have e2:s.logs.drop k=s.logs.getD k (Ty.dflt .log)::s.logs.drop (k+1):=by rw [dG (by omega),cJ (by omega)]
   have key:∀ v,v=z.start.getD ix 0→jG s z kc n (ix+1) (w64 (i1+v)) (w64 ((k:Int)+1)) =
     bif eH ((List.range' (ix+1) n).map (cL z)) (s.cells.drop (k+1)) (s.logs.drop (k+1)) then kc (i1+(v+tot (((List.range' (ix+1) n).map (cL z)).map Cell.vol))) ((k+(n+1):Nat):Int) else (0,false):=by
    intro v hv'
    have hv0:0≤v∧v≤1099511627776:=by omega
    rw [aA (n:=i1+v) (by omega) (by omega),au (by omega),BZ hl hs hz kc n (ix+1) _ (k+1) (by omega) (by omega) (by omega),fJ,show k+1+n=k+(n+1) by omega]
   have ec:(cL z ix).vol=z.start.getD ix 0:=rfl
   have ek:(cL z ix).cap=z.cap:=rfl
   unfold jG
   rw [e1,e2]
   simp only [gY,bl,eH,tot,ec,ek,aq]
   cases (!eN (s.cells.getD k (Ty.dflt .cell)))
   ·cases ((s.cells.getD k (Ty.dflt .cell)).cap != z.cap)
    ·cases (!ik (s.logs.getD k (Ty.dflt .log)))
     ·cases ((s.logs.getD k (Ty.dflt .log)).room != 8)
      ·cases ((s.logs.getD k (Ty.dflt .log)).last != (s.cells.getD k (Ty.dflt .cell)).ver)
       ·simp only [cF]
        by_cases hx:(ix:Int) < z.start.length
        ·rw [dT hx,cT]
         exact key _ rfl
        ·rw [dF hx,cF]
         have e0:z.start.getD ix 0=0:=by simp [List.getD,ax (show z.start.length≤ix by omega)]
         have:=key 0 e0.symm
         rw [e0]
         rw [iD,aA (n:=i1) (by omega) (by omega)] at this
         exact this
       ·rfl
      ·rfl
     ·rfl
    ·rfl
   ·rfl
end Go.Proofs.Mo

/- Models: the program's Right is the reference's. (Own work.) -/
namespace Go.Proofs.Mo
open Go.Proofs.Tryz
open Go Go.VL Go.Proofs.Zn Go.Proofs.Mn
theorem wm {d:Deck} {ps:List Plate} (hp:∀ z∈ps,PlateOk z):∀ c∈(ps.flatMap eC).map Cell.vol,0≤c∧c≤1099511627776:=by
 intro c hc
 obtain ⟨x,hx,rfl⟩:=aU.1 hc
 obtain ⟨z,hz,hx⟩:=gZ.1 hx
 obtain ⟨k,_,rfl⟩:=aU.1 hx
 have h1:=(hp z hz).start k
 have h2:=(hp z hz).cap
 simp only [cL];omega
theorem uN {s:Stock} (hl:s.logs.length=s.cells.length) (hs:s.cells.length≤1000000):∀ (ps:List Plate),(∀ z∈ps,PlateOk z)→∀ (ix k:Nat) (i:Int),k+(ps.flatMap eC).length≤s.cells.length→0≤i→i+1688849860263936 * ps.length≤4611686018427387904 →
  li s ps ix i (k:Int)=bif eH (ps.flatMap eC) (s.cells.drop k) (s.logs.drop k) then (i+tot ((ps.flatMap eC).map Cell.vol),true) else (0,false)
 | [], _, ix, k, i, _, _, _ => by
   simp only [li,List.flatMap_nil,eH,cT,de,tot,iD]
 | z :: ps, hp, ix, k, i, hk, h0, h1 => by
   have hz:=hp z (by simp)
   have hsz:=hz.size
   have hw:w64 (z.rows * z.cols)=z.rows * z.cols:=aA (by omega) (by omega)
   have hc:=@iU z
   simp only [ag] at h1
   simp only [eA,ak] at hk
   have hb:∀ c∈(eC z).map Cell.vol,0≤c∧c≤1099511627776:=by
    have:=wm (d:=⟨[],[],[],0⟩) (ps:=[z]) (fun y hy=>by rw [br.1 hy];exact hz)
    simpa using this
   have ht:=lD hb
   rw [bu,hc] at ht
   unfold li
   rw [hw,cU,BZ hl hs hz _ _ 0 i k (by omega) h0 (by omega)]
   have e:(List.range' 0 (z.rows * z.cols).toNat).map (cL z)=eC z:=rfl
   rw [e,uN hl hs ps (fun y hy=>hp y (by simp [hy])) (ix+1) _ _ (by omega) (by omega) (by omega)]
   simp only [eA,bH,mJ]
   rw [pA _ _ _ _ (by rw [aQ];omega) (by rw [aQ];omega),jd,jd,hc]
   cases eH (eC z) (s.cells.drop k) (s.logs.drop k)
   ·rfl
   ·simp only [cT,fJ]
theorem Bt {d:Deck} {s:Stock} (h:(dc d != 0)=false) (hc:(s.cells.length:Int)=bk (aK d)) (hl:s.logs.length=s.cells.length) (hs:s.cells.length≤1000000) :
  wV d s=bif eH (bm d) s.cells s.logs then (tot ((bm d).map Cell.vol),true) else (0,false):=by
 have hk:=cO h
 have hn:=lJ h
 unfold bm at hn
 have:=uN hl hs d.plates (fun z hz=>iJ (hk.plate z hz)) 0 0 0 (by omega) (by omega) (by have:=hk.plates;omega)
 unfold wV
 rw [Int.zero_add,bL,bL] at this
 exact this
theorem lG (d:Deck) (s:Stock) (fs:List Cell) (t:Int):∀ (zs:List Cell) (ix:Nat),zs=s.cells.drop ix→fs.length=s.cells.length→s.logs.length=s.cells.length →
  oG d s fs t zs ix=bif eH (fs.drop ix) zs (s.logs.drop ix) then ng d s t s.tips 0 [] else false
 | [], ix, hz, hf, hl => by
   unfold oG
   cases fs.drop ix <;> rfl
 | z :: zs, ix, hz, hf, hl => by
   have hlen:ix < s.cells.length:=by
    rcases aw ix s.cells.length with h | h
    ·exact h
    ·rw [dN h] at hz;cases hz
   have e:s.cells.drop ix=s.cells[ix]::s.cells.drop (ix+1):=dG hlen
   rw [e] at hz
   have hz2:zs=s.cells.drop (ix+1):=(hU hz).2
   have ih:=lG d s fs t zs (ix+1) hz2 hf hl
   have e1:fs.drop ix=fs.getD ix (Ty.dflt .cell)::fs.drop (ix+1):=by rw [dG (by omega),cJ (by omega)]
   have e2:s.logs.drop ix=s.logs.getD ix (Ty.dflt .log)::s.logs.drop (ix+1):=by rw [dG (by omega),cJ (by omega)]
   unfold oG
   rw [e1,e2,ih]
   simp only [eH]
   cases (!eN z)
   ·cases (z.cap != (fs.getD ix (Ty.dflt .cell)).cap)
    ·cases (!ik (s.logs.getD ix (Ty.dflt .log)))
     ·cases ((s.logs.getD ix (Ty.dflt .log)).room != 8)
      ·cases ((s.logs.getD ix (Ty.dflt .log)).last != z.ver) <;> rfl
      ·rfl
     ·rfl
    ·rfl
   ·rfl
def fB (n:Int):List Tip→List Int→Bool
 | [],_=>true
 | t::ts,h=>bif !hY t then false else bif decide (t.by' > n) then false else bif h.elem t.by' then false else bif t.state==2 then fB n ts (h++[t.by']) else fB n ts h
def xf (s:Stock) (t:Int):Bool:=bif s.start != t then false else bif decide (s.inn < 0) then false else bif decide (s.inn > 1152921504606846976) then false else bif decide (s.out < 0) then false else bif decide (s.out > 1152921504606846976) then false else
 bif (tT s).2==0 then (tT s).1==w64 (w64 (s.start+s.inn) - s.out) else false
theorem Ch (h:List Int) (t:Tip) (kc:List Int→Bool):∀ (l:List Int) (ix:Nat),oE h t kc l ix=bif l.elem t.by' then false else bif t.state==2 then kc (h++[t.by']) else kc h
 | [],ix=>by unfold oE;rfl
 | x :: l, ix => by
   unfold oE
   rw [Ch h t kc l (ix+1)]
   simp only [List.elem_cons]
   have e:(x==t.by')=(t.by'==x):=by rw [eV,bW,bW];exact eq_comm
   rw [e]
   cases (t.by'==x) <;> rfl
theorem lH (d:Deck) (s:Stock) (t:Int):∀ (ts:List Tip) (ix:Nat) (h:List Int),ng d s t ts ix h=bif fB d.arms ts h then xf s t else false
 | [],ix,h=>by unfold ng xf;rfl
 | x :: ts, ix, h => by
   unfold ng fB
   have ih:=lH d s t ts (ix+1)
   rw [Ch]
   simp only [ih]
   cases (!hY x)
   ·cases decide (x.by' > d.arms)
    ·cases h.elem x.by'
     ·cases (x.state==2) <;> rfl
     ·rfl
    ·rfl
   ·rfl
theorem yb:∀ (l:List Int) (k:Nat),decide (fX l k≥0)=l.any fun x=>decide (x > 1)
 | [],k=>rfl
 | x :: l, k => by
   have ih:=yb l (k+1)
   unfold fX
   have e:Dj x=decide (x > 1):=rfl
   rw [e,List.any_cons]
   by_cases h:x > 1
   ·rw [dT h,cT,Bool.true_or]
    exact dT (by omega)
   ·rw [dF h,cF,Bool.false_or]
    exact ih
theorem qh (l:List Int):nh l=l.any fun x=>decide (x > 1):=yb l 0
structure Cnt (c h:List Int) (k:Nat):Prop where
 len:c.length=9
 eq:∀ i:Nat,i < 9→c.getD i 0=(h.count (i:Int):Int)
 few:h.length≤k
theorem ui {c h:List Int} {k:Nat} (hc:Cnt c h k) (hk:k≤1000000) {b:Int} (h1:1≤b) (h8:b≤8):Cnt (c.set b.toNat (w64 (c.getD b.toNat 0+1))) (h++[b]) (k+1):=by
 have e:=hc.eq b.toNat (by omega)
 have hle:h.count b≤h.length:=List.count_le_length
 have hf:=hc.few
 rw [bB (by omega)] at e
 refine ⟨by rw [fO];exact hc.len,fun i hi=>?_,by rw [ak];simp only [ag,al];omega⟩
 rw [List.count_append]
 have hl:=hc.len
 by_cases hb:i=b.toNat
 ·subst hb
  rw [e,aA (by omega) (by omega),show (c.set b.toNat ((h.count b:Int)+1)).getD b.toNat 0=(h.count b:Int)+1 by simp [List.getD,hl,hi]]
  rw [bB (by omega)]
  simp
 ·have e2:(c.set b.toNat (w64 (c.getD b.toNat 0+1))).getD i 0=c.getD i 0:=by
   simp only [List.getD,bY]
   rw [aJ (fun e=>hb e.symm)]
  rw [e2,hc.eq i hi]
  have:([b]:List Int).count (i:Int)=0:=by
   rw [List.count_cons,List.count_nil]
   have:¬ b=(i:Int):=by omega
   simp [this]
  rw [this];simp
theorem zf {c h:List Int} {k:Nat} (hc:Cnt c h k) (hr:∀ x∈h,1≤x∧x≤8):(c.any fun x=>decide (x > 1))=false↔h.Nodup:=by
 rw [List.nodup_iff_count,List.any_eq_false]
 constructor
 ·intro hall a
  rcases aw (h.count a) 2 with h2 | h2
  ·omega
  ·exfalso
   have hm:a∈h:=List.count_pos_iff.1 (by omega)
   have:=hr a hm
   have e:=hc.eq a.toNat (by omega)
   rw [bB (by omega)] at e
   have hl:=hc.len
   have hmem:c.getD a.toNat 0∈c:=by rw [cJ (by omega)];exact aO _
   have:=hall _ hmem
   simp only [bP] at this
   omega
 ·intro hall x hx
  obtain ⟨i,hi,rfl⟩:=dI hx
  have hl:=hc.len
  have e:=hc.eq i (by omega)
  rw [cJ hi] at e
  have:=hall (i:Int)
  simp only [bP]
  omega
theorem xd (n:Int):∀ (l:List Tip) (c h:List Int) (k:Nat),Cnt c h k→k+l.length≤1000000→(∀ x∈h,1≤x∧x≤8)→¬ h.Nodup→fK n l c=false
 | [], c, h, k, hc, _, hr, hd => by
   unfold fK
   rw [qh]
   cases ha:c.any fun x=>decide (x > 1)
   ·exact absurd ((zf hc hr).1 ha) hd
   ·rfl
 | t :: l, c, h, k, hc, hk, hr, hd => by
   simp only [ag] at hk
   unfold fK
   cases g1:(!hY t)
   ·cases decide (t.by' > n)
    ·cases g3:(t.state==2)
     ·exact xd n l c h k hc (by omega) hr hd
     ·have hb:1≤t.by'∧t.by'≤8:=by
       rcases pG g1 g3 with e | e | e | e | e | e | e | e <;> omega
      exact xd n l _ (h++[t.by']) (k+1) (ui hc (by omega) hb.1 hb.2) (by omega) (fun x hx=>by
       rcases aC.1 hx with hx | hx
       ·exact hr x hx
       ·rw [br.1 hx];exact hb) (fun hn=>hd (gy.1 hn).1)
    ·rfl
   ·rfl
theorem DO (n:Int):∀ (l:List Tip) (c h:List Int) (k:Nat),Cnt c h k→k+l.length≤1000000→(∀ x∈h,1≤x∧x≤8)→h.Nodup→fK n l c=fB n l h
 | [], c, h, k, hc, _, hr, hd => by
   unfold fK fB
   rw [qh,(zf hc hr).2 hd];rfl
 | t :: l, c, h, k, hc, hk, hr, hd => by
   simp only [ag] at hk
   unfold fK fB
   cases g1:(!hY t)
   ·cases decide (t.by' > n)
    ·cases g3:(t.state==2)
     ·have hz:t.by'=0:=by
       have:=nf g1
       unfold hY at this
       rw [g3,cF] at this
       cases h1:(t.state==1)
       ·rw [h1,cF] at this
        cases h2:(t.state==3)
        ·rw [h2] at this;cases this
        ·rw [h2] at this;simpa using this
       ·rw [h1] at this;simpa using this
      have he:h.elem t.by'=false:=by
       rw [hz,jX,cW]
       intro hm
       have:=hr 0 hm
       omega
      simp only [cF,he]
      exact DO n l c h k hc (by omega) hr hd
     ·have hb:1≤t.by'∧t.by'≤8:=by
       rcases pG g1 g3 with e | e | e | e | e | e | e | e <;> omega
      have hr':∀ x∈h++[t.by'],1≤x∧x≤8:=fun x hx=>by
       rcases aC.1 hx with hx | hx
       ·exact hr x hx
       ·rw [br.1 hx];exact hb
      simp only [cF,cT]
      cases he:h.elem t.by'
      ·rw [cF]
       refine DO n l _ (h++[t.by']) (k+1) (ui hc (by omega) hb.1 hb.2) (by omega) hr' ?_
       rw [gy]
       refine ⟨hd,by simp,fun a ha b hb'=>?_⟩
       rw [br.1 hb']
       intro e
       rw [jX,cW] at he
       exact he (e ▸ ha)
      ·rw [cT]
       refine xd n l _ (h++[t.by']) (k+1) (ui hc (by omega) hb.1 hb.2) (by omega) hr' fun hn=>?_
       rw [jX,bP] at he
       exact (gy.1 hn).2.2 _ he _ (by simp) rfl
    ·rfl
   ·rfl
theorem DK {l:List Tip} (n:Int) (hl:l.length≤1000000):xc l n=fB n l []:=
 DO n l _ [] 0 ⟨rfl,fun i hi=>by
  match i,hi with
  | 0,_ | 1,_ | 2,_ | 3,_ | 4,_ | 5,_ | 6,_ | 7,_ | 8,_=>rfl,aH _⟩ (by omega) (fun x hx=>by simp at hx) .nil
end Go.Proofs.Mo

/- Models: Right, Hand: both the same. (Own work.) -/
namespace Go.Proofs.Mo
open Go.Proofs.Tryz
open Go Go.VL Go.Proofs.Zn Go.Proofs.Mn
theorem BD:∀ (l:List Cell) (ix:Nat) (acc:List Int),lc l ix acc=uF (acc++l.map Cell.vol)
 | [],ix,acc=>by unfold lc;simp
 | c :: l, ix, acc => by
   unfold lc
   rw [BD l (ix+1)]
   simp
theorem ye (s:Stock):tT s=BC s:=by
 unfold tT
 rw [BD,iq];rfl
theorem zc (x:Int):(uq x 0 1152921504606846976 != x)=bif decide (x < 0) then true else decide (x > 1152921504606846976):=by
 unfold uq
 by_cases h1:x < 0
 ·rw [dT h1,cT,cT]
  exact iZ.2 (by omega)
 ·rw [dF h1,cF,cF]
  by_cases h2:x > 1152921504606846976
  ·rw [dT h2,cT]
   exact iZ.2 (by omega)
  ·rw [dF h2,cF]
   exact am.2 rfl
theorem mS {d:Deck} {s:Stock} (hb:OkS s):m91 d s=m94 d s:=by
 unfold m91 m94
 rw [sg]
 cases hz:dc d != 0
 ·have hn:=lJ hz
  have hw:=lz hz
  have ht:=kp hz
  have htn:=(cO hz).tips
  have e0:((dw d).2 != 0)=false:=by unfold dw;rw [hz];rfl
  have e1:(dw d).1.cells=bm d:=by unfold dw;rw [hz];rfl
  have e2:((dw d).1.logs.length:Int)=(bm d).length:=by unfold dw;rw [hz];simp
  have e3:((dw d).1.tips.length:Int)=bk (aP d):=by unfold dw;rw [hz];simp;omega
  have e4:(dw d).1.start=tot ((bm d).map Cell.vol):=by unfold dw;rw [hz];rfl
  rw [e0,cF,cF,hw,ht,e1,e2,e3,e4,hn]
  cases h1:((s.cells.length:Int) != bk (aK d))
  ·cases h2:((s.logs.length:Int) != bk (aK d))
   ·cases h3:((s.tips.length:Int) != bk (aP d))
    ·have h1:=am.1 h1
     have h2:=am.1 h2
     have hl:s.logs.length=s.cells.length:=by omega
     rw [lG d s (bm d) _ s.cells 0 rfl (by omega) hl,bL,bL,lH,Bt hz h1 hl hb.cells,DK d.arms hb.tips]
     simp only [cF]
     cases eH (bm d) s.cells s.logs
     ·simp only [cF,Bool.not_false,cT]
      cases fB d.arms s.tips [] <;> rfl
     ·simp only [cT,dr,cF]
      cases fB d.arms s.tips []
      ·rfl
      ·simp only [dr,cF,cT]
       unfold xf
       rw [ye,zc,zc]
       cases (s.start != tot ((bm d).map Cell.vol))
       ·cases decide (s.inn < 0)
        ·cases decide (s.inn > 1152921504606846976)
         ·cases decide (s.out < 0)
          ·cases decide (s.out > 1152921504606846976) <;> rfl
          ·rfl
         ·rfl
        ·rfl
       ·rfl
    ·rfl
   ·rfl
  ·rfl
 ·have e0:((dw d).2 != 0)=true:=by unfold dw;rw [hz];exact hz
  rw [e0];rfl
theorem se (m:Model):∀ (l:List Int) (k:Nat),nk m l k = !(decide (ga m l k≥0))
 | [],k=>rfl
 | x :: l, k => by
   unfold nk ga m93
   have ih:=se m l (k+1)
   by_cases h1:x < 0
   ·rw [dT h1,cT,cT,cT,dT (show (k:Int)≥0 by omega)];rfl
   ·rw [dF h1,cF,cF]
    by_cases h2:x > m.deck.arms
    ·rw [dT h2,cT,cT,dT (show (k:Int)≥0 by omega)];rfl
    ·rw [dF h2,cF,cF];exact ih
theorem sd (d:Deck):((cN d).length:Int)=(bv d).1+(bv d).2.1+(bv d).2.2:=by
 unfold cN bv
 cases h:dy d != 0
 ·have hk:DeckOk d:=eR (by simpa using h)
  rw [cF,cF,lI hk]
 ·rfl
theorem nO {m:Model} (hb:OkM m):m31 m=m32 m:=by
 unfold m31 m32
 rw [px,← sd,mS hb.toS,se m m.owners 0]
 have e:(!nY m m.owners) = !decide (ga m m.owners 0≥0):=rfl
 rw [e]
 cases ((m.owners.length:Int) != ((cN m.deck).length:Int))
 ·rfl
 ·cases m94 m.deck m.stock <;> rfl
theorem lv {n:Int}:∀ {l:List Tip} {h:List Int},fB n l h=true→qU l
 | [],_,_=>fun t ht=>by simp at ht
 | t :: l, h, hr => by
   unfold fB at hr
   cases g1:(!hY t)
   ·rw [g1,cF] at hr
    cases g2:decide (t.by' > n)
    ·rw [g2,cF] at hr
     cases g3:h.elem t.by'
     ·rw [g3,cF] at hr
      have ih:qU l:=by
       cases g4:(t.state==2)
       ·rw [g4,cF] at hr;exact lv hr
       ·rw [g4,cT] at hr;exact lv hr
      intro x hx
      rcases aL.1 hx with rfl | hx
      ·exact nf g1
      ·exact ih x hx
     ·rw [g3] at hr;cases hr
    ·rw [g2] at hr;cases hr
   ·rw [g1] at hr;cases hr
theorem uQ {d:Deck} {s:Stock} (hb:OkS s) (h:m91 d s=true):fB d.arms s.tips []=true∧eH (bm d) s.cells s.logs=true∧xf s (tot ((bm d).map Cell.vol))=true:=by
 obtain ⟨hz,hc,hl,ht⟩:=mq h
 rw [mS hb] at h
 unfold m94 at h
 rw [sg] at h
 have hn:=lJ hz
 have e0:((dw d).2 != 0)=false:=by unfold dw;rw [hz];rfl
 have e1:(dw d).1.cells=bm d:=by unfold dw;rw [hz];rfl
 have e2:((dw d).1.logs.length:Int)=(bm d).length:=by unfold dw;rw [hz];simp
 have e3:((dw d).1.tips.length:Int)=bk (aP d):=by unfold dw;rw [hz];simp;have:=(cO hz).tips;omega
 have e4:(dw d).1.start=tot ((bm d).map Cell.vol):=by unfold dw;rw [hz];rfl
 rw [e0,cF,e1,e2,e3,e4,hn,am.2 hc,cF,am.2 (by omega),cF,am.2 ht,cF,lG d s (bm d) _ s.cells 0 rfl (by omega) hl,bL,bL,lH] at h
 cases hw:eH (bm d) s.cells s.logs
 ·rw [hw] at h;cases h
 rw [hw,cT] at h
 cases hh:fB d.arms s.tips []
 ·rw [hh] at h;cases h
 rw [hh,cT] at h
 exact ⟨rfl,rfl,h⟩
theorem Gt {d:Deck} {s:Stock} (hb:OkS s) (b:Int):m95 d s b=m96 d s b:=by
 unfold m95 m96
 rw [← mS hb]
 cases hr:m91 d s
 ·rfl
 ·have ht:qU s.tips:=lv (uQ hb hr).1
  rw [Gs b ht]
  by_cases h:rG s b≥0
  ·rw [dT h,dF (show ¬ rG s b < 0 by omega)];rfl
  ·rw [dF h,dT (show rG s b < 0 by omega)];rfl
theorem DL {m:Model} (hb:OkM m) (w:Int):m33 m w=m34 m w:=by
 unfold m33 m34
 rw [← Gt hb.toS,← nO hb]
 cases hr:m31 m
 ·cases (m95 m.deck m.stock w).2 <;> rfl
 ·have h95:(m95 m.deck m.stock w).2=false→(m95 m.deck m.stock w).1 = -1:=by
   unfold m95
   cases (!m91 m.deck m.stock)
   ·cases (!(od m.stock.tips w).2)
    ·intro h;cases h
    ·intro _;rfl
   ·intro _;rfl
  cases h2:(m95 m.deck m.stock w).2
  ·exact h95 h2
  ·rfl
end Go.Proofs.Mo

/- Models: Fill, Waste, Move, Take, Drop: both the same. (Own work.) -/
namespace Go.Proofs.Mo
open Go.Proofs.Tryz
open Go Go.VL Go.Proofs.Zn Go.Proofs.Mn
theorem xu {d:Deck} {s:Stock} (hb:OkS s) (b:Int):aT d s b=vx d s b:=by
 unfold aT vx
 rw [mS hb]
theorem wE (cs:List Cell) (ls:List Log) (ts ts':List Tip) (st inn out st' inn' out':Int) (d:Deck) (b id:Int) (c:Cell):iz cs ls ts st inn out d b id c=rF cs ls ts' st' inn' out' b id c:=by
 unfold iz rF
 rw [yd,Ge]
theorem wy (e:Int) (s:Stock) (d:Deck):eB (e,s,d)=(e != 0):=rfl
theorem ph (s:Stock) (st inn out:Int) (ts:List Tip) (ls:List Log) (d:Deck) (i:Int):lU s.cells ls ts st inn out d i=vw s i:=rfl
abbrev S0:Stock:=⟨[],[],[],0,0,0⟩
def wc (x:Stock×Int):Prop:=x.2≠0→x.1=S0
theorem jk {e:Int}:wc (S0,e):=fun _=>rfl
theorem Cb {s:Stock}:wc (s,0):=fun h=>absurd rfl h
theorem jm {c:Bool} {x y:Stock×Int} (hx:wc x) (hy:wc y):wc (bif c then x else y):=by
 cases c
 ·exact hy
 ·exact hx
theorem uS {x:Stock×Int} (h:wc x):(bif jE x then ((⟨[],[],[],0,0,0⟩:Stock),x.2) else (x.1,(0:Int)))=x:=by
 obtain ⟨a,e⟩:=x
 show (bif e != 0 then (S0,e) else (a,0))=(a,e)
 cases he:e != 0
 ·have:e=0:=am.1 he
  rw [this];rfl
 ·have:e≠0:=by simpa using he
  have h:=h this
  simp only at h
  rw [h];rfl
theorem Cc (d:Deck) (s:Stock) (b i n:Int):wc (wU d s b i n):=by
 unfold wU
 exact jm jk (jm jk (jm jk (jm jk Cb)))
theorem zQ (d:Deck) (s:Stock) (b i n:Int):wc (wT d s b i n):=by
 unfold wT
 exact jm jk (jm jk (jm jk (jm jk Cb)))
theorem Gw {d:Deck} {s:Stock} (hb:OkS s) (b i:Int) {n:Int} (hn:cS n):np d s b i n=wU d s b i n:=by
 have e:fF d s b i n=wU d s b i n:=by
  unfold fF wU
  rw [wy,xu hb,ph,xR hn]
  simp only [wE _ _ _ s.tips _ _ _ s.start s.inn s.out]
 have h:np d s b i n=(bif jE (fF d s b i n) then ((⟨[],[],[],0,0,0⟩:Stock),(fF d s b i n).2) else ((fF d s b i n).1,(0:Int))):=rfl
 rw [h,e]
 exact uS (Cc d s b i n)
theorem Bv {d:Deck} {s:Stock} (hb:OkS s) (b i n:Int):nl d s b i n=wT d s b i n:=by
 have e:fE d s b i n=wT d s b i n:=by
  unfold fE wT
  rw [wy,xu hb,ph,yR]
  simp only [wE _ _ _ s.tips _ _ _ s.start s.inn s.out]
 have h:nl d s b i n=(bif jE (fE d s b i n) then ((⟨[],[],[],0,0,0⟩:Stock),(fE d s b i n).2) else ((fE d s b i n).1,(0:Int))):=rfl
 rw [h,e]
 exact uS (zQ d s b i n)
theorem FW {d:Deck} {s:Stock} (hb:OkS s) (b i j:Int) {n:Int} (hn:cS n):nq d s b i j n=Gk d s b i j n:=by
 unfold nq Gk
 rw [wy,xu hb,ph,ph,CO hn]
 simp only [wE _ _ _ s.tips _ _ _ s.start s.inn s.out]
end Go.Proofs.Mo

/- Models: flow: the cell is there. (Own work.) -/
namespace Go.Proofs.Mo
open Go.Proofs.Tryz
open Go Go.VL Go.Proofs.Zn Go.Proofs.Mn
theorem IG (b:Nat):cS (Wn.ofS b).1:=by
 have h0:cS 0:=by unfold cS;omega
 unfold Wn.ofS
 cases Wn.iA (Wn.rN b)==1 with
 | true=>exact h0
 | false=>
 cases Wn.iA (Wn.rN b)==2 with
 | true=>exact h0
 | false=>
 cases Wn.iA (Wn.rN b)==3 with
 | true=>exact h0
 | false=>
 cases Wn.nX b with
 | true=>exact h0
 | false=>
 by_cases h:(Wn.rh (Wn.rN b) > 1099511627776)
 ·rw [dT h];exact h0
 ·rw [dF h]
  show cS (Wn.rh (Wn.rN b):Int)
  unfold cS;omega
theorem xB (q:Req):cS (Wn.eI q).1:=by
 unfold Wn.eI
 cases (Wn.ofS q.vol.toNat).2==0 && (Wn.ofS q.vol.toNat).1==0
 ·exact IG _
 ·show cS 0
  unfold cS;omega
def Got (s:Stock) (i:Int) (x:Stock×Int):Prop:=x.2=0→(0≤i∧i < s.cells.length)∧x.1.cells.length=s.cells.length
theorem oi {s:Stock} {i e:Int} {y:Stock×Int} (h:Got s i y):Got s i (bif e != 0 then (S0,e) else y):=by
 cases he:e != 0
 ·exact h
 ·intro h0
  exact absurd h0 (by simpa using he)
theorem qD {s:Stock} {i e:Int} {c:Bool} {y:Stock×Int} (he:e≠0) (h:c=false→Got s i y):Got s i (bif c then (S0,e) else y):=by
 cases c
 ·exact h rfl
 ·exact fun h0=>absurd h0 he
theorem pB {s:Stock} {i:Int} (h:(!vw s i)=false):0≤i∧i < s.cells.length:=by
 have h:vw s i=true:=by simpa using h
 unfold vw at h
 by_cases h0:i≥0
 ·rw [dT h0,cT] at h
  exact ⟨h0,oT h⟩
 ·rw [dF h0] at h;cases h
theorem DN (d:Deck) (s:Stock) (b i n:Int):Got s i (wU d s b i n):=by
 unfold wU
 exact oi (qD (by decide) fun hm=>oi (qD (by decide) fun _=>fun _=>⟨pB hm,by simp [rF]⟩))
theorem AW (d:Deck) (s:Stock) (b i n:Int):Got s i (wT d s b i n):=by
 unfold wT
 exact oi (qD (by decide) fun hm=>oi (qD (by decide) fun _=>fun _=>⟨pB hm,by simp [rF]⟩))
theorem DM (d:Deck) (s:Stock) (b i j n:Int):Got s i (Gk d s b i j n):=by
 unfold Gk
 exact oi (qD (by decide) fun hm=>qD (by decide) fun _=>qD (by decide) fun _=>oi (fun _=>⟨pB hm,by simp [rF]⟩))
theorem tZ {m:Model} {who:Int} {q:Req} {x:Stock×Int} {xe xi xn xv:Int} (hx:Got m.stock q.a x) (h:(ij m who q x.1 x.2 xe xi xn xv).2.err=0):0≤q.a∧q.a < (ij m who q x.1 x.2 xe xi xn xv).1.stock.cells.length:=by
 unfold ij at h ⊢
 cases he:x.2 != 0
 ·have h0:x.2=0:=am.1 he
  have:=hx h0
  exact ⟨this.1.1,by show q.a < (x.1.cells.length:Int);rw [this.2];exact this.1.2⟩
 ·rw [he] at h
  exact absurd (show x.2=0 from h) (by simpa using he)
theorem nC {m:Model} {who:Int} {q:Req} {j xe xi xn xv:Int} (hb:OkM m) (h:(ij m who q (nq m.deck m.stock who q.a j (Wn.eI q).1).1 (nq m.deck m.stock who q.a j (Wn.eI q).1).2 xe xi xn xv).2.err=0):0≤q.a∧q.a < (ij m who q (nq m.deck m.stock who q.a j (Wn.eI q).1).1 (nq m.deck m.stock who q.a j (Wn.eI q).1).2 xe xi xn xv).1.stock.cells.length:=
 tZ (by rw [FW hb.toS _ _ _ (xB q)];exact DM _ _ _ _ _ _) h
theorem nD {m:Model} {who:Int} {q:Req} {xe xi xn xv:Int} (hb:OkM m) (h:(ij m who q (np m.deck m.stock who q.a (Wn.eI q).1).1 (np m.deck m.stock who q.a (Wn.eI q).1).2 xe xi xn xv).2.err=0):0≤q.a∧q.a < (ij m who q (np m.deck m.stock who q.a (Wn.eI q).1).1 (np m.deck m.stock who q.a (Wn.eI q).1).2 xe xi xn xv).1.stock.cells.length:=
 tZ (by rw [Gw hb.toS _ _ (xB q)];exact DN _ _ _ _ _) h
theorem lw {m:Model} {who:Int} {q:Req} {xe xi xn xv:Int} (hb:OkM m) (h:(ij m who q (nl m.deck m.stock who q.a (Wn.eI q).1).1 (nl m.deck m.stock who q.a (Wn.eI q).1).2 xe xi xn xv).2.err=0):0≤q.a∧q.a < (ij m who q (nl m.deck m.stock who q.a (Wn.eI q).1).1 (nl m.deck m.stock who q.a (Wn.eI q).1).2 xe xi xn xv).1.stock.cells.length:=
 tZ (by rw [Bv hb.toS];exact AW _ _ _ _ _) h
end Go.Proofs.Mo

namespace Go.Proofs.Mo
open Go.Proofs.Tryz
open Go Go.VL
theorem t175 (m:Model) (who:Int) (q:Req):@Eq _ (yS prog codes sigs f175 1 300 [.ptr 0 0] [(0,.box (dq m who q))] 1) (.need (U5∧U7∧U2∧True) (.callP 95 [⟨.deck,m.deck⟩,⟨.stock,m.stock⟩,⟨.int,who⟩] [.int,.bool] fun (x:Int×Bool)=>bif decide (x.1 < 0) then .need (U2∧U2∧True) (.callP 98 [⟨.int,(131:Int)⟩,⟨.int,(0:Int)⟩] [.resp] fun (x:Resp)=>.need True (.ret (GRes.mk [.agg (pC x)] [(0,.box (tC m who q))] 1))) else .need (U7∧True) (.callP 15 [⟨.req,q⟩] [.int,.int] fun (x:Int×Int)=>bif q.kind==4 then .need (U5∧U7∧U2∧U2∧U2∧U2∧True) (.callP 236 [⟨.deck,m.deck⟩,⟨.stock,m.stock⟩,⟨.int,who⟩,⟨.int,q.a⟩,⟨.int,q.b⟩,⟨.int,x.1⟩] [.stock,.int] fun (x_1:Stock×Int)=>.callG 233 [.ptr 0 0,.agg (sC x_1.1),i64 x_1.2,.agg [i64 0,i64 0,i64 x.1,i64 0,nS]] [(0,.box (tC m who q))] 1 [.model,.resp] (fun (a:Model×Resp)=>GRes.mk [.agg (pC a.2)] [(0,.box (tC a.1 who q))] 1) fun (x:Model×Resp)=>bif x.2.err==0 then .callG 174 [.ptr 0 0] [(0,.box (tC x.1 who q))] 1 [.cell] (fun (a:Cell)=>GRes.mk [.agg (cC a)] [(0,.box (tC x.1 who q))] 1) fun (x_2:Cell)=>.need True (.ret (GRes.mk [.agg [i64 x.2.err,i64 x.2.id,i64 x.2.n,i64 x_2.ver,.d (.sl .change x.2.list)]] [(0,.box (tC x.1 who q))] 1)) else .need True (.ret (GRes.mk [.agg (pC x.2)] [(0,.box (tC x.1 who q))] 1))) else bif q.kind==5 then .need (U5∧U7∧U2∧U2∧U2∧True) (.callP 237 [⟨.deck,m.deck⟩,⟨.stock,m.stock⟩,⟨.int,who⟩,⟨.int,q.a⟩,⟨.int,x.1⟩] [.stock,.int] fun (x_1:Stock×Int)=>.callG 233 [.ptr 0 0,.agg (sC x_1.1),i64 x_1.2,.agg [i64 0,i64 0,i64 x.1,i64 0,nS]] [(0,.box (tC m who q))] 1 [.model,.resp] (fun (a:Model×Resp)=>GRes.mk [.agg (pC a.2)] [(0,.box (tC a.1 who q))] 1) fun (x:Model×Resp)=>bif x.2.err==0 then .callG 174 [.ptr 0 0] [(0,.box (tC x.1 who q))] 1 [.cell] (fun (a:Cell)=>GRes.mk [.agg (cC a)] [(0,.box (tC x.1 who q))] 1) fun (x_2:Cell)=>.need True (.ret (GRes.mk [.agg [i64 x.2.err,i64 x.2.id,i64 x.2.n,i64 x_2.ver,.d (.sl .change x.2.list)]] [(0,.box (tC x.1 who q))] 1)) else .need True (.ret (GRes.mk [.agg (pC x.2)] [(0,.box (tC x.1 who q))] 1))) else .need (U5∧U7∧U2∧U2∧U2∧True) (.callP 238 [⟨.deck,m.deck⟩,⟨.stock,m.stock⟩,⟨.int,who⟩,⟨.int,q.a⟩,⟨.int,x.1⟩] [.stock,.int] fun (x_1:Stock×Int)=>.callG 233 [.ptr 0 0,.agg (sC x_1.1),i64 x_1.2,.agg [i64 0,i64 0,i64 x.1,i64 0,nS]] [(0,.box (tC m who q))] 1 [.model,.resp] (fun (a:Model×Resp)=>GRes.mk [.agg (pC a.2)] [(0,.box (tC a.1 who q))] 1) fun (x:Model×Resp)=>bif x.2.err==0 then .callG 174 [.ptr 0 0] [(0,.box (tC x.1 who q))] 1 [.cell] (fun (a:Cell)=>GRes.mk [.agg (cC a)] [(0,.box (tC x.1 who q))] 1) fun (x_2:Cell)=>.need True (.ret (GRes.mk [.agg [i64 x.2.err,i64 x.2.id,i64 x.2.n,i64 x_2.ver,.d (.sl .change x.2.list)]] [(0,.box (tC x.1 who q))] 1)) else .need True (.ret (GRes.mk [.agg (pC x.2)] [(0,.box (tC x.1 who q))] 1)))))):=by kernel_rfl
theorem t100 (m:Model) (who:Int) (q:Req):@Eq _ (yS prog codes sigs f100 1 300 [.ptr 0 0] [(0,.box (dq m who q))] 1) (bif q.kind==1 then .callG 168 [.ptr 0 0] [(0,.box (tC m who q))] 1 [.model,.resp] (fun (a:Model×Resp)=>GRes.mk [.agg (pC a.2)] [(0,.box (tC a.1 who q))] 1) fun (x:Model×Resp)=>.need True (.ret (GRes.mk [.agg (pC x.2)] [(0,.box (tC x.1 who q))] 1)) else bif q.kind==2 then .callG 169 [.ptr 0 0] [(0,.box (tC m who q))] 1 [.model,.resp] (fun (a:Model×Resp)=>GRes.mk [.agg (pC a.2)] [(0,.box (tC a.1 who q))] 1) fun (x:Model×Resp)=>.need True (.ret (GRes.mk [.agg (pC x.2)] [(0,.box (tC x.1 who q))] 1)) else bif q.kind==3 then .callG 170 [.ptr 0 0] [(0,.box (tC m who q))] 1 [.model,.resp] (fun (a:Model×Resp)=>GRes.mk [.agg (pC a.2)] [(0,.box (tC a.1 who q))] 1) fun (x:Model×Resp)=>.need True (.ret (GRes.mk [.agg (pC x.2)] [(0,.box (tC x.1 who q))] 1)) else bif q.kind==7 then .callG 171 [.ptr 0 0] [(0,.box (tC m who q))] 1 [.model,.resp] (fun (a:Model×Resp)=>GRes.mk [.agg (pC a.2)] [(0,.box (tC a.1 who q))] 1) fun (x:Model×Resp)=>.need True (.ret (GRes.mk [.agg (pC x.2)] [(0,.box (tC x.1 who q))] 1)) else bif q.kind==8 then .callG 172 [.ptr 0 0] [(0,.box (tC m who q))] 1 [.model,.resp] (fun (a:Model×Resp)=>GRes.mk [.agg (pC a.2)] [(0,.box (tC a.1 who q))] 1) fun (x:Model×Resp)=>.need True (.ret (GRes.mk [.agg (pC x.2)] [(0,.box (tC x.1 who q))] 1)) else bif q.kind==10 then .callG 173 [.ptr 0 0] [(0,.box (tC m who q))] 1 [.model,.resp] (fun (a:Model×Resp)=>GRes.mk [.agg (pC a.2)] [(0,.box (tC a.1 who q))] 1) fun (x:Model×Resp)=>.need True (.ret (GRes.mk [.agg (pC x.2)] [(0,.box (tC x.1 who q))] 1)) else bif q.kind==9 then .callG 174 [.ptr 0 0] [(0,.box (tC m who q))] 1 [.cell] (fun (a:Cell)=>GRes.mk [.agg (cC a)] [(0,.box (tC m who q))] 1) fun (x:Cell)=>.callG 174 [.ptr 0 0] [(0,.box (tC m who q))] 1 [.cell] (fun (a:Cell)=>GRes.mk [.agg (cC a)] [(0,.box (tC m who q))] 1) fun (x_1:Cell)=>.need True (.ret (GRes.mk [.agg [i64 0,i64 0,i64 x.vol,i64 x_1.ver,nS]] [(0,.box (tC m who q))] 1)) else .callG 175 [.ptr 0 0] [(0,.box (tC m who q))] 1 [.model,.resp] (fun (a:Model×Resp)=>GRes.mk [.agg (pC a.2)] [(0,.box (tC a.1 who q))] 1) fun (x:Model×Resp)=>.need True (.ret (GRes.mk [.agg (pC x.2)] [(0,.box (tC x.1 who q))] 1))):=by kernel_rfl
end Go.Proofs.Mo

namespace Go.Proofs.Mo
open Go.Proofs.Tryz
open Go Go.VL
set_option maxRecDepth 20000
open Go.Proofs.Zn Go.Proofs.Mn
open Wn (dD bD)
def Dk (m:Model) (who:Int) (q:Req):Model×Resp:=bif decide ((m95 m.deck m.stock who).1 < (0:Int)) then let y1:=m98 (131:Int) (0:Int);(m,y1) else bif (q.kind==(4:Int)) then let y2:=nq m.deck m.stock who q.a q.b (Wn.eI q).1;let y3:=ij m who q y2.1 y2.2 (0:Int) (0:Int) (Wn.eI q).1 (0:Int);bif (y3.2.err==(0:Int)) then (y3.1,Resp.mk y3.2.err y3.2.id y3.2.n (mA y3.1 who q).ver y3.2.list) else (y3.1,y3.2) else bif (q.kind==(5:Int)) then let y4:=np m.deck m.stock who q.a (Wn.eI q).1;let y5:=ij m who q y4.1 y4.2 (0:Int) (0:Int) (Wn.eI q).1 (0:Int);bif (y5.2.err==(0:Int)) then (y5.1,Resp.mk y5.2.err y5.2.id y5.2.n (mA y5.1 who q).ver y5.2.list) else (y5.1,y5.2) else let y6:=nl m.deck m.stock who q.a (Wn.eI q).1;let y7:=ij m who q y6.1 y6.2 (0:Int) (0:Int) (Wn.eI q).1 (0:Int);bif (y7.2.err==(0:Int)) then (y7.1,Resp.mk y7.2.err y7.2.id y7.2.n (mA y7.1 who q).ver y7.2.list) else (y7.1,y7.2)
theorem c175 (m:Model) (who:Int) (q:Req) (hb:OkM m) (hr:OkR q):Gc prog 175 [.ptr 0 0] [(0,.box (dq m who q))] 1 ((fun x:Model×Resp=>(⟨[.agg (fe x.2)],[(0,.box (dq x.1 who q))],1⟩:GRes)) (Dk m who q)):=
 Gc.of_closed (C:=codes) (S:=sigs) mixed func175 (by kernel_rfl) me fun A hA=>hA.go (t175 m who q) (by
  obtain ⟨r,h⟩:∃ r,Dk m who q=r:=⟨_,rfl⟩
  rw [h] at hA ⊢
  unfold Dk at h
  refine ⟨⟨q5,q7,q2,trivial⟩,_,c95 _ _ _ hb.toS,?_⟩
  refine ai h (fun g1 h=>?_) (fun g1 h=>?_)
  ·have g1:=oT g1
   exact ⟨⟨q2,q2,trivial⟩,_,c98 _ _,trivial,(by rw [← h];first | exact .of_eq rfl | exact dm _ _ _ _ _ _)⟩
  ·have g1:=oF g1
   refine ⟨⟨q7,trivial⟩,_,Wn.c15 hr.v0 hr.v1,?_⟩
   refine ai h (fun g2 h=>?_) (fun g2 h=>?_)
   ·try replace g2:=bn g2
    refine ⟨⟨q5,q7,q2,q2,q2,q2,trivial⟩,_,c236 _ _ _ _ _ _ hb.toS,ij m who q (nq m.deck m.stock who q.a q.b (Wn.eI q).1).1 (nq m.deck m.stock who q.a q.b (Wn.eI q).1).2 (0:Int) (0:Int) (Wn.eI q).1 (0:Int),Er _ _ _ _ _ _ _ _ _,?_⟩
    refine ai h (fun g3 h=>?_) (fun g3 h=>?_)
    ·try replace g3:=bn g3
     exact ⟨mA (ij m who q (nq m.deck m.stock who q.a q.b (Wn.eI q).1).1 (nq m.deck m.stock who q.a q.b (Wn.eI q).1).2 (0:Int) (0:Int) (Wn.eI q).1 (0:Int)).1 who q,Bj _ _ _ (by first | assumption | exact (hi (by omega)).1 | with_reducible exact nC hb (by assumption) | with_reducible exact nD hb (by assumption) | with_reducible exact lw hb (by assumption)),trivial,(by rw [← h];first | exact .of_eq rfl | exact dm _ _ _ _ _ _)⟩
    ·exact ⟨trivial,(by rw [← h];first | exact .of_eq rfl | exact dm _ _ _ _ _ _)⟩
   ·refine ai h (fun g3 h=>?_) (fun g3 h=>?_)
    ·try replace g3:=bn g3
     refine ⟨⟨q5,q7,q2,q2,q2,trivial⟩,_,c237 _ _ _ _ _ hb.toS,ij m who q (np m.deck m.stock who q.a (Wn.eI q).1).1 (np m.deck m.stock who q.a (Wn.eI q).1).2 (0:Int) (0:Int) (Wn.eI q).1 (0:Int),Er _ _ _ _ _ _ _ _ _,?_⟩
     refine ai h (fun g4 h=>?_) (fun g4 h=>?_)
     ·try replace g4:=bn g4
      exact ⟨mA (ij m who q (np m.deck m.stock who q.a (Wn.eI q).1).1 (np m.deck m.stock who q.a (Wn.eI q).1).2 (0:Int) (0:Int) (Wn.eI q).1 (0:Int)).1 who q,Bj _ _ _ (by first | assumption | exact (hi (by omega)).1 | with_reducible exact nC hb (by assumption) | with_reducible exact nD hb (by assumption) | with_reducible exact lw hb (by assumption)),trivial,(by rw [← h];first | exact .of_eq rfl | exact dm _ _ _ _ _ _)⟩
     ·exact ⟨trivial,(by rw [← h];first | exact .of_eq rfl | exact dm _ _ _ _ _ _)⟩
    ·refine ⟨⟨q5,q7,q2,q2,q2,trivial⟩,_,c238 _ _ _ _ _ hb.toS,ij m who q (nl m.deck m.stock who q.a (Wn.eI q).1).1 (nl m.deck m.stock who q.a (Wn.eI q).1).2 (0:Int) (0:Int) (Wn.eI q).1 (0:Int),Er _ _ _ _ _ _ _ _ _,?_⟩
     refine ai h (fun g4 h=>?_) (fun g4 h=>?_)
     ·try replace g4:=bn g4
      exact ⟨mA (ij m who q (nl m.deck m.stock who q.a (Wn.eI q).1).1 (nl m.deck m.stock who q.a (Wn.eI q).1).2 (0:Int) (0:Int) (Wn.eI q).1 (0:Int)).1 who q,Bj _ _ _ (by first | assumption | exact (hi (by omega)).1 | with_reducible exact nC hb (by assumption) | with_reducible exact nD hb (by assumption) | with_reducible exact lw hb (by assumption)),trivial,(by rw [← h];first | exact .of_eq rfl | exact dm _ _ _ _ _ _)⟩
     ·exact ⟨trivial,(by rw [← h];first | exact .of_eq rfl | exact dm _ _ _ _ _ _)⟩)
def Dr (m:Model) (who:Int) (q:Req):Model×Resp:=bif (q.kind==(1:Int)) then let y1:=Dq m who q;(y1.1,y1.2) else bif (q.kind==(2:Int)) then let y2:=Dp m who q;(y2.1,y2.2) else bif (q.kind==(3:Int)) then let y3:=Do m who q;(y3.1,y3.2) else bif (q.kind==(7:Int)) then let y4:=Dn m who q;(y4.1,y4.2) else bif (q.kind==(8:Int)) then let y5:=Dm m who q;(y5.1,y5.2) else bif (q.kind==(10:Int)) then let y6:=Dl m who q;(y6.1,y6.2) else bif (q.kind==(9:Int)) then (m,Resp.mk (0:Int) (0:Int) (mA m who q).vol (mA m who q).ver []) else let y7:=Dk m who q;(y7.1,y7.2)
theorem c100 (m:Model) (who:Int) (q:Req) (hb:OkM m) (hr:OkR q) (hi:q.kind=9∨q.kind=10→(0≤q.a∧q.a < m.stock.cells.length)∧(0≤q.a∧q.a < m.stock.logs.length)):Gc prog 100 [.ptr 0 0] [(0,.box (dq m who q))] 1 ((fun x:Model×Resp=>(⟨[.agg (fe x.2)],[(0,.box (dq x.1 who q))],1⟩:GRes)) (Dr m who q)):=
 Gc.of_closed (C:=codes) (S:=sigs) mixed func100 (by kernel_rfl) me fun A hA=>hA.go (t100 m who q) (by
  obtain ⟨r,h⟩:∃ r,Dr m who q=r:=⟨_,rfl⟩
  rw [h] at hA ⊢
  unfold Dr at h
  refine ai h (fun g1 h=>?_) (fun g1 h=>?_)
  ·try replace g1:=bn g1
   exact ⟨Dq m who q,c168 _ _ _ hb hr,trivial,(by rw [← h];first | exact .of_eq rfl | exact dm _ _ _ _ _ _)⟩
  ·refine ai h (fun g2 h=>?_) (fun g2 h=>?_)
   ·try replace g2:=bn g2
    exact ⟨Dp m who q,c169 _ _ _ hb hr,trivial,(by rw [← h];first | exact .of_eq rfl | exact dm _ _ _ _ _ _)⟩
   ·refine ai h (fun g3 h=>?_) (fun g3 h=>?_)
    ·try replace g3:=bn g3
     exact ⟨Do m who q,c170 _ _ _ hb hr,trivial,(by rw [← h];first | exact .of_eq rfl | exact dm _ _ _ _ _ _)⟩
    ·refine ai h (fun g4 h=>?_) (fun g4 h=>?_)
     ·try replace g4:=bn g4
      exact ⟨Dn m who q,c171 _ _ _ hb hr,trivial,(by rw [← h];first | exact .of_eq rfl | exact dm _ _ _ _ _ _)⟩
     ·refine ai h (fun g5 h=>?_) (fun g5 h=>?_)
      ·try replace g5:=bn g5
       exact ⟨Dm m who q,c172 _ _ _ hb hr,trivial,(by rw [← h];first | exact .of_eq rfl | exact dm _ _ _ _ _ _)⟩
      ·refine ai h (fun g6 h=>?_) (fun g6 h=>?_)
       ·try replace g6:=bn g6
        exact ⟨Dl m who q,c173 _ _ _ hb hr (hi (.inr (by assumption))).1 (hi (.inr (by assumption))).2,trivial,(by rw [← h];first | exact .of_eq rfl | exact dm _ _ _ _ _ _)⟩
       ·refine ai h (fun g7 h=>?_) (fun g7 h=>?_)
        ·try replace g7:=bn g7
         exact ⟨mA m who q,Bj _ _ _ (by first | assumption | exact (hi (by omega)).1 | with_reducible exact nC hb (by assumption) | with_reducible exact nD hb (by assumption) | with_reducible exact lw hb (by assumption)),mA m who q,Bj _ _ _ (by first | assumption | exact (hi (by omega)).1 | with_reducible exact nC hb (by assumption) | with_reducible exact nD hb (by assumption) | with_reducible exact lw hb (by assumption)),trivial,(by rw [← h];first | exact .of_eq rfl | exact dm _ _ _ _ _ _)⟩
        ·exact ⟨Dk m who q,c175 _ _ _ hb hr,trivial,(by rw [← h];first | exact .of_eq rfl | exact dm _ _ _ _ _ _)⟩)
end Go.Proofs.Mo

/- Models: a copy of a model is the model; a request that is right has its parts. (Own work.) -/
namespace Go.Proofs.Mo
open Go.Proofs.Tryz
open Go Go.VL Go.Proofs.Zn Go.Proofs.Mn
theorem vt (m:Model) (l1:List (Option Nat)) (l2:List Rack) (l3:List Plate) (l4:List Cell) (ls:List Log):∀ (n ix:Nat),n+ix≤ls.length→ni m l1 l2 l3 l4 n ix ls=tQ m l1 l2 l3 l4 ls
 | 0,ix,_=>rfl
 | n + 1, ix, h => by
   unfold ni
   have e:ls.set ix (Log.mk (ls.getD ix Ty.log.dflt).room (ls.getD ix Ty.log.dflt).last (ls.getD ix Ty.log.dflt).list)=ls:=hZ (getD_some (by omega))
   show ni m l1 l2 l3 l4 n (ix+1) (ls.set ix (Log.mk (ls.getD ix Ty.log.dflt).room (ls.getD ix Ty.log.dflt).last (ls.getD ix Ty.log.dflt).list))=_
   rw [e]
   exact vt m l1 l2 l3 l4 ls n (ix+1) (by omega)
theorem qn (m:Model) (l1:List (Option Nat)) (l2:List Rack) (ls:List Plate):∀ (n ix:Nat),n+ix≤ls.length→nj m l1 l2 n ix ls=vu m l1 l2 ls
 | 0,ix,_=>rfl
 | n + 1, ix, h => by
   unfold nj
   have e:ls.set ix (Plate.mk (ls.getD ix Ty.plate.dflt).rows (ls.getD ix Ty.plate.dflt).cols (ls.getD ix Ty.plate.dflt).x (ls.getD ix Ty.plate.dflt).pitch (ls.getD ix Ty.plate.dflt).reach (ls.getD ix Ty.plate.dflt).cap (ls.getD ix Ty.plate.dflt).start)=ls:=hZ (getD_some (by omega))
   show nj m l1 l2 n (ix+1) (ls.set ix (Plate.mk (ls.getD ix Ty.plate.dflt).rows (ls.getD ix Ty.plate.dflt).cols (ls.getD ix Ty.plate.dflt).x (ls.getD ix Ty.plate.dflt).pitch (ls.getD ix Ty.plate.dflt).reach (ls.getD ix Ty.plate.dflt).cap (ls.getD ix Ty.plate.dflt).start))=_
   rw [e]
   exact qn m l1 l2 ls n (ix+1) (by omega)
theorem tP (m:Model):m85 m=m:=by
 have h1:m85 m=nj m m.deck.borders m.deck.racks ((m.deck.plates.length:Int).toNat - 0) 0 m.deck.plates:=rfl
 rw [h1,qn _ _ _ _ _ _ (by omega)]
 have h2:vu m m.deck.borders m.deck.racks m.deck.plates=ni m m.deck.borders m.deck.racks m.deck.plates m.stock.cells ((m.stock.logs.length:Int).toNat - 0) 0 m.stock.logs:=rfl
 rw [h2,vt _ _ _ _ _ _ _ _ (by omega)]
 rfl
theorem AQ {d:Deck} {i:Int} (h:Wn.fG d i=1):0≤i∧i < bk (aK d):=by
 unfold Wn.fG pY at h
 cases h1:dy d != 0
 ·rw [h1,cF] at h
  by_cases h2:i < 0
  ·rw [dT h2] at h;cases h
  rw [dF h2,cF] at h
  by_cases h3:i≥((dA d).length:Int)
  ·rw [dT h3] at h;cases h
  rw [dF h3,cF] at h
  refine ⟨by omega,?_⟩
  have hp:=sc (eR (d:=d) (am.1 h1)) (i:=i) (by omega) (by omega)
  rw [dR,hp] at h
  by_cases h4:i < bk (aK d)
  ·exact h4
  rw [dF h4,cF] at h
  exfalso
  by_cases h5:i < bk (aK d)+bk (aP d)
  ·rw [dT h5,cT] at h
   have hk:∀ (l:List Go.VL.Box) (u n:Int),(gm 2 u l n).kind=2:=by
    intro l
    induction l with
    | nil=>intro u n;rfl
    | cons b l ih =>
      intro u n
      unfold gm
      cases decide (n < b.rows * b.cols)
      ·exact ih _ _
      ·rfl
   have:(gm 2 0 (aP d) (i - bk (aK d))).kind=1:=h
   rw [hk] at this;cases this
  ·rw [dF h5,cF] at h;cases h
 ·rw [h1] at h;cases h
theorem Bh {d:Deck} {q:Req} (h:(Wn.il d q).err=0) (hk:q.kind=9∨q.kind=10):Wn.fG d q.a=1:=by
 unfold Wn.il at h
 cases h1:dc d != 0
 case true=>rw [h1] at h;exact absurd h (by simpa [Wn.gD] using h1)
 rw [h1,cF] at h
 cases h2:(decide (q.kind < 1) || decide (q.kind > 10))
 case true=>rw [h2] at h;cases (show (150:Int)=0 from h)
 rw [h2,cF] at h
 cases h3 : !Wn.tl (Wn.IV q) (Wn.flS q.kind)
 case true=>rw [h3] at h;cases (show (151:Int)=0 from h)
 rw [h3,cF] at h
 have hw:Wn.iu q=1:=by
  unfold Wn.iu
  rcases hk with e | e <;> rw [e] <;> rfl
 have hi:(Wn.flS q.kind).ids=false:=by rcases hk with e | e <;> rw [e] <;> rfl
 have ha:(Wn.flS q.kind).a=true:=by rcases hk with e | e <;> rw [e] <;> rfl
 rw [hi,cF] at h
 unfold Wn.nU at h
 rw [ha,hw,cR] at h
 cases h4:(Wn.fG d q.a != 1)
 ·exact am.1 h4
 ·rw [h4] at h;cases (show (3:Int)=0 from h)
theorem IU {m:Model} {q:Req} (g1:(!m31 m)=false) (g4:(Wn.il m.deck q).err=0):q.kind=9∨q.kind=10→(0≤q.a∧q.a < m.stock.cells.length)∧(0≤q.a∧q.a < m.stock.logs.length):=by
 intro hk
 have hw:=AQ (Bh g4 hk)
 have g1:m31 m=true:=by simpa using g1
 unfold m31 at g1
 cases h1:((m.owners.length:Int) != w64 (w64 (Prod.fst (Zn.bv (Model.deck m))+Prod.fst (Prod.snd (Zn.bv (Model.deck m))))+Prod.snd (Prod.snd (Zn.bv (Model.deck m)))))
 case true=>rw [h1] at g1;cases g1
 rw [h1,cF] at g1
 cases h2:m91 m.deck m.stock
 ·rw [h2] at g1;cases g1
 obtain ⟨_,hc,hl,_⟩:=mq h2
 omega
end Go.Proofs.Mo

namespace Go.Proofs.Mo
open Go.Proofs.Tryz
open Go Go.VL
set_option maxRecDepth 20000
open Go.Proofs.Zn Go.Proofs.Mn
open Wn (dD bD)
def m37 (m:Model) (who:Int) (q:Req):Model×Resp:=bif (!(m31 m)) then (Model.mk (Deck.mk [] [] [] (0:Int)) (Stock.mk [] [] [] (0:Int) (0:Int) (0:Int)) [],(m98 (161:Int) (0:Int))) else bif decide (who < (1:Int)) then ((m85 m),(m98 (80:Int) (0:Int))) else bif decide (who > (m85 m).deck.arms) then ((m85 m),(m98 (80:Int) (0:Int))) else bif ((Wn.il (m85 m).deck q).err != (0:Int)) then ((m85 m),(Wn.il (m85 m).deck q)) else bif (m99 (m85 m).owners (Wn.sj (m85 m).deck q) who).2 then ((m85 m),(m98 (141:Int) (m99 (m85 m).owners (Wn.sj (m85 m).deck q) who).1)) else let y1:=Dr (m85 m) who q;(y1.1,y1.2)
theorem c37 (m:Model) (who:Int) (q:Req) (hb:OkM m) (hr:OkR q):Pure prog 37 [⟨.model,m⟩,⟨.int,who⟩,⟨.req,q⟩] [.model,.resp] (m37 m who q):=
 Pure.of_closed (C:=codes) (S:=sigs) mixed func37 (by kernel_rfl) (ac (by kernel_rfl)) fun A hA=>hA.go (t37 m who q) (by
  obtain ⟨r,h⟩:∃ r,m37 m who q=r:=⟨_,rfl⟩
  rw [h] at hA ⊢
  unfold m37 at h
  refine ⟨⟨q12,trivial⟩,_,c31 _ hb,?_⟩
  refine ai h (fun g1 h=>?_) (fun g1 h=>?_)
  ·exact ⟨⟨q2,q2,trivial⟩,_,c98 _ _,⟨q12,trivial,trivial,trivial,trivial,trivial,trivial⟩,h⟩
  ·refine ⟨⟨q12,trivial⟩,_,c85 _ hb,?_⟩
   refine ai h (fun g2 h=>?_) (fun g2 h=>?_)
   ·have g2:=oT g2
    exact ⟨⟨q2,q2,trivial⟩,_,c98 _ _,⟨q12,trivial,trivial,trivial,trivial,trivial,trivial⟩,h⟩
   ·have g2:=oF g2
    refine ai h (fun g3 h=>?_) (fun g3 h=>?_)
    ·have g3:=oT g3
     exact ⟨⟨q2,q2,trivial⟩,_,c98 _ _,⟨q12,trivial,trivial,trivial,trivial,trivial,trivial⟩,h⟩
    ·have g3:=oF g3
     refine ⟨⟨q5,q7,trivial⟩,_,Wn.c18 hr.v0 hr.v1,?_⟩
     refine ai h (fun g4 h=>?_) (fun g4 h=>?_)
     ·exact ⟨⟨q12,trivial,trivial,trivial,trivial,trivial,trivial⟩,h⟩
     ·try replace g4:=am.1 g4
      refine ⟨⟨q5,q7,trivial⟩,_,Wn.c21 hr.v0 hr.v1 hr.ids,⟨q2,q2,q2,trivial⟩,_,c99 _ _ _ (by have:=@Wn.Li (m85 m).deck q hr.ids;omega),?_⟩
      refine ai h (fun g5 h=>?_) (fun g5 h=>?_)
      ·exact ⟨⟨q2,q2,trivial⟩,_,c98 _ _,⟨q12,trivial,trivial,trivial,trivial,trivial,trivial⟩,h⟩
      ·exact ⟨Dr (m85 m) who q,c100 _ _ _ (by rw [tP];exact hb) hr (by rw [tP] at g4 ⊢;exact IU g1 g4),⟨q12,trivial,trivial,trivial,trivial,trivial,trivial⟩,h⟩)
end Go.Proofs.Mo

/- Models: closed models are right. (Own work.) -/
namespace Go.Proofs.Mo
open Go.Proofs.Tryz
open Go Go.VL Go.Proofs.Zn Go.Proofs.Mn
instance (x:Int):Decidable (cS x):=by unfold cS;infer_instance
def Ld (m:Model):Bool:=Nat.ble m.deck.borders.length 100000 && Nat.ble m.deck.plates.length 100000 && Nat.ble m.deck.racks.length 100000 && Nat.ble m.stock.cells.length 100000 && Nat.ble m.stock.logs.length 100000 &&
 Nat.ble m.stock.tips.length 100000 && Nat.ble m.owners.length 100000 && m.deck.plates.all (fun p=>Nat.ble p.start.length 100000) && m.stock.logs.all (fun p=>Nat.ble p.list.length 100000) && (m.stock.cells.map Cell.vol).all (fun x=>decide (cS x))
theorem lZ {m:Model} (h:Ld m=true):OkM m:=by
 unfold Ld at h
 simp only [aR,bG,Nat.ble_eq,bP] at h
 obtain ⟨⟨⟨⟨⟨⟨⟨⟨⟨h1,h2⟩,h3⟩,h4⟩,h5⟩,h6⟩,h7⟩,h8⟩,h9⟩,h10⟩:=h
 exact ⟨by omega,by omega,by omega,by omega,by omega,by omega,by omega,fun p hp=>by have:=h8 p hp;omega,fun l hl=>by have:=h9 l hl;omega,fun x hx=>h10 x hx,by omega⟩
end Go.Proofs.Mo

namespace Go.Proofs.Mo
open Go.Proofs.Tryz
open Go Go.VL
set_option maxRecDepth 20000
set_option maxHeartbeats 4000000
open Go.Proofs.Zn Go.Proofs.Mn
open Wn (dD bD)
def Dg (x1:Int) (l1:List Fl) (l2:List Plate) (l3:List Rack) (i1:Int) (l4:List Cell) (l5:List Log) (l6:List Tip) (i2 i3 i4:Int) (l7:List Int) :Bool:=bif (x1==(0:Int)) then bif ((m37 (Model.mk (Deck.mk l1 l2 l3 i1) (Stock.mk l4 l5 l6 i2 i3 i4) l7) (1:Int) (Req.mk (1:Int) [(3:Int),(1:Int)] (0:Int) (0:Int) (0:Int) (0:Int))).2.err==(0:Int)) then bif ((m37 (Model.mk (Deck.mk l1 l2 l3 i1) (Stock.mk l4 l5 l6 i2 i3 i4) l7) (1:Int) (Req.mk (1:Int) [(3:Int),(1:Int)] (0:Int) (0:Int) (0:Int) (0:Int))).2.n==(2:Int)) then bif ((m37 (m37 (Model.mk (Deck.mk l1 l2 l3 i1) (Stock.mk l4 l5 l6 i2 i3 i4) l7) (1:Int) (Req.mk (1:Int) [(3:Int),(1:Int)] (0:Int) (0:Int) (0:Int) (0:Int))).1 (2:Int) (Req.mk (1:Int) [(3:Int),(1:Int)] (0:Int) (0:Int) (0:Int) (0:Int))).2.err==(140:Int)) then bif ((m37 (m37 (Model.mk (Deck.mk l1 l2 l3 i1) (Stock.mk l4 l5 l6 i2 i3 i4) l7) (1:Int) (Req.mk (1:Int) [(3:Int),(1:Int)] (0:Int) (0:Int) (0:Int) (0:Int))).1 (2:Int) (Req.mk (1:Int) [(3:Int),(1:Int)] (0:Int) (0:Int) (0:Int) (0:Int))).2.id==(1:Int)) then bif ((m37 (m37 (m37 (Model.mk (Deck.mk l1 l2 l3 i1) (Stock.mk l4 l5 l6 i2 i3 i4) l7) (1:Int) (Req.mk (1:Int) [(3:Int),(1:Int)] (0:Int) (0:Int) (0:Int) (0:Int))).1 (2:Int) (Req.mk (1:Int) [(3:Int),(1:Int)] (0:Int) (0:Int) (0:Int) (0:Int))).1 (1:Int) (Req.mk (3:Int) [] (0:Int) (0:Int) (0:Int) (0:Int))).2.n==(2:Int)) then bif ((m37 (m37 (m37 (m37 (Model.mk (Deck.mk l1 l2 l3 i1) (Stock.mk l4 l5 l6 i2 i3 i4) l7) (1:Int) (Req.mk (1:Int) [(3:Int),(1:Int)] (0:Int) (0:Int) (0:Int) (0:Int))).1 (2:Int) (Req.mk (1:Int) [(3:Int),(1:Int)] (0:Int) (0:Int) (0:Int) (0:Int))).1 (1:Int) (Req.mk (3:Int) [] (0:Int) (0:Int) (0:Int) (0:Int))).1 (2:Int) (Req.mk (1:Int) [(2:Int),(3:Int),(4:Int)] (0:Int) (0:Int) (0:Int) (0:Int))).2.n==(3:Int)) then bif ((m37 (m37 (m37 (m37 (m37 (Model.mk (Deck.mk l1 l2 l3 i1) (Stock.mk l4 l5 l6 i2 i3 i4) l7) (1:Int) (Req.mk (1:Int) [(3:Int),(1:Int)] (0:Int) (0:Int) (0:Int) (0:Int))).1 (2:Int) (Req.mk (1:Int) [(3:Int),(1:Int)] (0:Int) (0:Int) (0:Int) (0:Int))).1 (1:Int) (Req.mk (3:Int) [] (0:Int) (0:Int) (0:Int) (0:Int))).1 (2:Int) (Req.mk (1:Int) [(2:Int),(3:Int),(4:Int)] (0:Int) (0:Int) (0:Int) (0:Int))).1 (2:Int) (Req.mk (7:Int) [] (2:Int) (0:Int) (0:Int) (0:Int))).2.err==(0:Int)) then bif ((m37 (m37 (m37 (m37 (m37 (Model.mk (Deck.mk l1 l2 l3 i1) (Stock.mk l4 l5 l6 i2 i3 i4) l7) (1:Int) (Req.mk (1:Int) [(3:Int),(1:Int)] (0:Int) (0:Int) (0:Int) (0:Int))).1 (2:Int) (Req.mk (1:Int) [(3:Int),(1:Int)] (0:Int) (0:Int) (0:Int) (0:Int))).1 (1:Int) (Req.mk (3:Int) [] (0:Int) (0:Int) (0:Int) (0:Int))).1 (2:Int) (Req.mk (1:Int) [(2:Int),(3:Int),(4:Int)] (0:Int) (0:Int) (0:Int) (0:Int))).1 (2:Int) (Req.mk (7:Int) [] (2:Int) (0:Int) (0:Int) (0:Int))).2.id==(2:Int)) then bif ((m37 (m37 (m37 (m37 (m37 (m37 (Model.mk (Deck.mk l1 l2 l3 i1) (Stock.mk l4 l5 l6 i2 i3 i4) l7) (1:Int) (Req.mk (1:Int) [(3:Int),(1:Int)] (0:Int) (0:Int) (0:Int) (0:Int))).1 (2:Int) (Req.mk (1:Int) [(3:Int),(1:Int)] (0:Int) (0:Int) (0:Int) (0:Int))).1 (1:Int) (Req.mk (3:Int) [] (0:Int) (0:Int) (0:Int) (0:Int))).1 (2:Int) (Req.mk (1:Int) [(2:Int),(3:Int),(4:Int)] (0:Int) (0:Int) (0:Int) (0:Int))).1 (2:Int) (Req.mk (7:Int) [] (2:Int) (0:Int) (0:Int) (0:Int))).1 (2:Int) (Req.mk (9:Int) [] (0:Int) (0:Int) (0:Int) (0:Int))).2.n==(40:Int)) then bif (m31 (m37 (m37 (m37 (m37 (m37 (Model.mk (Deck.mk l1 l2 l3 i1) (Stock.mk l4 l5 l6 i2 i3 i4) l7) (1:Int) (Req.mk (1:Int) [(3:Int),(1:Int)] (0:Int) (0:Int) (0:Int) (0:Int))).1 (2:Int) (Req.mk (1:Int) [(3:Int),(1:Int)] (0:Int) (0:Int) (0:Int) (0:Int))).1 (1:Int) (Req.mk (3:Int) [] (0:Int) (0:Int) (0:Int) (0:Int))).1 (2:Int) (Req.mk (1:Int) [(2:Int),(3:Int),(4:Int)] (0:Int) (0:Int) (0:Int) (0:Int))).1 (2:Int) (Req.mk (7:Int) [] (2:Int) (0:Int) (0:Int) (0:Int))).1) then bif ((m33 (m37 (m37 (m37 (m37 (m37 (Model.mk (Deck.mk l1 l2 l3 i1) (Stock.mk l4 l5 l6 i2 i3 i4) l7) (1:Int) (Req.mk (1:Int) [(3:Int),(1:Int)] (0:Int) (0:Int) (0:Int) (0:Int))).1 (2:Int) (Req.mk (1:Int) [(3:Int),(1:Int)] (0:Int) (0:Int) (0:Int) (0:Int))).1 (1:Int) (Req.mk (3:Int) [] (0:Int) (0:Int) (0:Int) (0:Int))).1 (2:Int) (Req.mk (1:Int) [(2:Int),(3:Int),(4:Int)] (0:Int) (0:Int) (0:Int) (0:Int))).1 (2:Int) (Req.mk (7:Int) [] (2:Int) (0:Int) (0:Int) (0:Int))).1 (2:Int))==(2:Int)) then (m33 (m37 (m37 (m37 (m37 (m37 (Model.mk (Deck.mk l1 l2 l3 i1) (Stock.mk l4 l5 l6 i2 i3 i4) l7) (1:Int) (Req.mk (1:Int) [(3:Int),(1:Int)] (0:Int) (0:Int) (0:Int) (0:Int))).1 (2:Int) (Req.mk (1:Int) [(3:Int),(1:Int)] (0:Int) (0:Int) (0:Int) (0:Int))).1 (1:Int) (Req.mk (3:Int) [] (0:Int) (0:Int) (0:Int) (0:Int))).1 (2:Int) (Req.mk (1:Int) [(2:Int),(3:Int),(4:Int)] (0:Int) (0:Int) (0:Int) (0:Int))).1 (2:Int) (Req.mk (7:Int) [] (2:Int) (0:Int) (0:Int) (0:Int))).1 (1:Int))==(-1:Int) else false else false else false else false else false else false else false else false else false else false else false else false
theorem AE (x1:Int) (l1:List Fl) (l2:List Plate) (l3:List Rack) (i1:Int) (l4:List Cell) (l5:List Log) (l6:List Tip) (i2 i3 i4:Int) (l7:List Int)  (hM:Model.mk (Deck.mk l1 l2 l3 i1) (Stock.mk l4 l5 l6 i2 i3 i4) l7=(m28 Wn.D14).1) {r:Bool} {A:Pr} (hA:CL codes sigs f27 [.bool] r A) (h:Dg x1 l1 l2 l3 i1 l4 l5 l6 i2 i3 i4 l7=r):A (rg f27 3) (ES x1 l1 l2 l3 i1 l4 l5 l6 i2 i3 i4 l7):=by
 refine hA.go (Kf x1 l1 l2 l3 i1 l4 l5 l6 i2 i3 i4 l7) ?_
 unfold Dg at h
 refine ⟨⟨q12,q2,q7,trivial⟩,_,c37 _ _ _ (lZ (by rw [hM];kernel_rfl)) ⟨by decide,by decide,by decide⟩,⟨q12,q2,q7,trivial⟩,_,c37 _ _ _ (lZ (by rw [hM];kernel_rfl)) ⟨by decide,by decide,by decide⟩,⟨q12,q2,q7,trivial⟩,_,c37 _ _ _ (lZ (by rw [hM];kernel_rfl)) ⟨by decide,by decide,by decide⟩,⟨q2,q2,q2,trivial⟩,⟨q12,q2,q7,trivial⟩,_,c37 _ _ _ (lZ (by rw [hM];kernel_rfl)) ⟨by decide,by decide,by decide⟩,⟨q12,q2,q7,trivial⟩,_,c37 _ _ _ (lZ (by rw [hM];kernel_rfl)) ⟨by decide,by decide,by decide⟩,⟨q12,q2,q7,trivial⟩,_,c37 _ _ _ (lZ (by rw [hM];kernel_rfl)) ⟨by decide,by decide,by decide⟩,?_⟩
 refine ai h (fun g1 h=>?_) (fun g1 h=>?_)
 ·try replace g1:=bn g1
  refine ai h (fun g2 h=>?_) (fun g2 h=>?_)
  ·try replace g2:=bn g2
   refine ai h (fun g3 h=>?_) (fun g3 h=>?_)
   ·try replace g3:=bn g3
    refine ai h (fun g4 h=>?_) (fun g4 h=>?_)
    ·try replace g4:=bn g4
     refine ai h (fun g5 h=>?_) (fun g5 h=>?_)
     ·try replace g5:=bn g5
      refine ai h (fun g6 h=>?_) (fun g6 h=>?_)
      ·try replace g6:=bn g6
       refine ai h (fun g7 h=>?_) (fun g7 h=>?_)
       ·try replace g7:=bn g7
        refine ai h (fun g8 h=>?_) (fun g8 h=>?_)
        ·try replace g8:=bn g8
         refine ai h (fun g9 h=>?_) (fun g9 h=>?_)
         ·try replace g9:=bn g9
          refine ai h (fun g10 h=>?_) (fun g10 h=>?_)
          ·try replace g10:=bn g10
           refine ⟨⟨q12,trivial⟩,_,c31 _ (lZ (by rw [hM];kernel_rfl)),?_⟩
           refine ai h (fun g11 h=>?_) (fun g11 h=>?_)
           ·refine ⟨⟨q12,q2,trivial⟩,_,c33 _ _ (lZ (by rw [hM];kernel_rfl)),?_⟩
            refine ai h (fun g12 h=>?_) (fun g12 h=>?_)
            ·try replace g12:=bn g12
             exact ⟨⟨q12,q2,trivial⟩,_,c33 _ _ (lZ (by rw [hM];kernel_rfl)),q2,h⟩
            ·try replace g12:=bz.1 g12
             exact ⟨q2,h⟩
           ·exact ⟨q2,h⟩
          ·try replace g10:=bz.1 g10
           exact ⟨q2,h⟩
         ·try replace g9:=bz.1 g9
          exact ⟨q2,h⟩
        ·try replace g8:=bz.1 g8
         exact ⟨q2,h⟩
       ·try replace g7:=bz.1 g7
        exact ⟨q2,h⟩
      ·try replace g6:=bz.1 g6
       exact ⟨q2,h⟩
     ·try replace g5:=bz.1 g5
      exact ⟨q2,h⟩
    ·try replace g4:=bz.1 g4
     exact ⟨q2,h⟩
   ·try replace g3:=bz.1 g3
    exact ⟨q2,h⟩
  ·try replace g2:=bz.1 g2
   exact ⟨q2,h⟩
 ·try replace g1:=bz.1 g1
  exact ⟨q2,h⟩
def m27 :Bool:=Dg (m28 Wn.D14).2 (m28 Wn.D14).1.deck.borders (m28 Wn.D14).1.deck.plates (m28 Wn.D14).1.deck.racks (m28 Wn.D14).1.deck.arms (m28 Wn.D14).1.stock.cells (m28 Wn.D14).1.stock.logs (m28 Wn.D14).1.stock.tips (m28 Wn.D14).1.stock.start (m28 Wn.D14).1.stock.inn (m28 Wn.D14).1.stock.out (m28 Wn.D14).1.owners
theorem c27  :Pure prog 27 [] [.bool] (m27 ):=
 Pure.of_closed (C:=codes) (S:=sigs) mixed func27 (by kernel_rfl) (ac (by kernel_rfl)) fun A hA=>hA.go (t27 ) (by
  obtain ⟨r,h⟩:∃ r,m27 =r:=⟨_,rfl⟩
  rw [h] at hA ⊢
  unfold m27 at h
  refine ⟨trivial,_,Wn.c56,⟨q5,trivial⟩,_,c28 _,⟨q2,q2,trivial⟩,?_⟩
  refine hA.frz 2 (by kernel_rfl) (s':=ES (m28 Wn.D14).2 (m28 Wn.D14).1.deck.borders (m28 Wn.D14).1.deck.plates (m28 Wn.D14).1.deck.racks (m28 Wn.D14).1.deck.arms (m28 Wn.D14).1.stock.cells (m28 Wn.D14).1.stock.logs (m28 Wn.D14).1.stock.tips (m28 Wn.D14).1.stock.start (m28 Wn.D14).1.stock.inn (m28 Wn.D14).1.stock.out (m28 Wn.D14).1.owners) (by kernel_rfl) ?_
  exact AE (m28 Wn.D14).2 (m28 Wn.D14).1.deck.borders (m28 Wn.D14).1.deck.plates (m28 Wn.D14).1.deck.racks (m28 Wn.D14).1.deck.arms (m28 Wn.D14).1.stock.cells (m28 Wn.D14).1.stock.logs (m28 Wn.D14).1.stock.tips (m28 Wn.D14).1.stock.start (m28 Wn.D14).1.stock.inn (m28 Wn.D14).1.stock.out (m28 Wn.D14).1.owners rfl hA  h)
end Go.Proofs.Mo

/- Models: lives. (Own work.) -/
namespace Go.Proofs.Mo
open Go.Proofs.Tryz
open Go Go.VL Go.Proofs.Zn Go.Proofs.Mn
theorem IN:m27=true:=by kernel_rfl
theorem Jg:Pure prog 27 [] [.bool] true:=by
 have h:=c27
 rw [IN] at h
 exact h
end Go.Proofs.Mo

namespace Go.Proofs.Mo
open Go.Proofs.Tryz
open Go Go.VL
set_option maxRecDepth 20000
open Go.Proofs.Zn Go.Proofs.Mn
open Wn (dD bD)
def qo :List Log→Nat→Bool
 | [],ix=>false
 | z::zs,ix=>bif decide ((↑(z).list.length:Int) > (100:Int)) then true else qo zs (ix+1)
theorem sG (s:Stock) (hl:s.logs.length≤1000)  {r:Bool} {A:Pr} (hA:CL codes sigs f82 [.bool] r A) (ix:Nat) (h:qo (List.drop ix s.logs) ix=r):A (hd f82 0) (zu s (ix:Int)):=by
 refine hA.go (JX s (ix:Int)) (ah (fun h1=>?_) (fun h1=>?_))
 ·have h1:=oT h1
  have hil:ix < s.logs.length:=by omega
  rw [aW hil Ty.log.dflt,qo] at h
  refine ⟨⟨⟨(by omega),(by omega)⟩,trivial⟩,?_⟩
  refine ai h (fun g1 h=>?_) (fun g1 h=>?_)
  ·have g1:=oT g1
   exact ⟨q2,h⟩
  ·have g1:=oF g1
   rw [au (by omega)]
   exact sG s hl  hA (ix+1) h
 ·have h1:=oF h1
  rw [dN (by omega),qo] at h
  exact ⟨q2,h⟩
termination_by s.logs.length - ix
decreasing_by all_goals omega
def m82 (s:Stock):Bool:=bif decide ((s.cells.length:Int) > (400:Int)) then true else bif decide ((s.logs.length:Int) > (400:Int)) then true else bif decide ((s.tips.length:Int) > (400:Int)) then true else qo s.logs 0
theorem c82 (s:Stock) :Pure prog 82 [⟨.stock,s⟩] [.bool] (m82 s):=
 Pure.of_closed (C:=codes) (S:=sigs) mixed func82 (by kernel_rfl) (ac (by kernel_rfl)) fun A hA=>hA.go (t82 s) (by
  obtain ⟨r,h⟩:∃ r,m82 s=r:=⟨_,rfl⟩
  rw [h] at hA ⊢
  unfold m82 at h
  refine ai h (fun g1 h=>?_) (fun g1 h=>?_)
  ·have g1:=oT g1
   exact ⟨q2,h⟩
  ·have g1:=oF g1
   refine ai h (fun g2 h=>?_) (fun g2 h=>?_)
   ·have g2:=oT g2
    exact ⟨q2,h⟩
   ·have g2:=oF g2
    refine ai h (fun g3 h=>?_) (fun g3 h=>?_)
    ·have g3:=oT g3
     exact ⟨q2,h⟩
    ·have g3:=oF g3
     exact sG s (by omega)  hA 0 h)
def m26 (m:Model):Bool:=bif (Zn.mF m.deck) then true else bif (m82 m.stock) then true else decide ((m.owners.length:Int) > (1000:Int))
theorem c26 (m:Model) :Pure prog 26 [⟨.model,m⟩] [.bool] (m26 m):=
 Pure.of_closed (C:=codes) (S:=sigs) mixed func26 (by kernel_rfl) (ac (by kernel_rfl)) fun A hA=>hA.go (t26 m) (by
  obtain ⟨r,h⟩:∃ r,m26 m=r:=⟨_,rfl⟩
  rw [h] at hA ⊢
  unfold m26 at h
  refine ⟨⟨q5,trivial⟩,_,Zn.c37 _,?_⟩
  refine ai h (fun g1 h=>?_) (fun g1 h=>?_)
  ·exact ⟨q2,h⟩
  ·refine ⟨⟨q7,trivial⟩,_,c82 _,?_⟩
   refine ai h (fun g2 h=>?_) (fun g2 h=>?_)
   ·exact ⟨q2,h⟩
   ·exact ⟨q2,h⟩)
end Go.Proofs.Mo

namespace Go.Proofs.Mo
open Go.Proofs.Tryz
open Go Go.VL
set_option maxRecDepth 20000
open Go.Proofs.Zn Go.Proofs.Mn
open Wn (dD bD)
def m30 (a b:Model):Bool:=bif (m89 a.stock b.stock) then bif (eqL a.owners b.owners) then (m90 a.deck b.deck) else false else false
theorem c30 (a b:Model) (hs:a.stock.cells.length≤1000∧a.stock.logs.length≤1000∧a.stock.tips.length≤1000) (hg:∀ x∈a.stock.logs,x.list.length≤1000000) (ho:a.owners.length≤1000000) (hd:a.deck.borders.length≤1000∧a.deck.plates.length≤1000∧a.deck.racks.length≤1000∧∀ p∈a.deck.plates,p.start.length≤1000000):Pure prog 30 [⟨.model,a⟩,⟨.model,b⟩] [.bool] (m30 a b):=
 Pure.of_closed (C:=codes) (S:=sigs) mixed func30 (by kernel_rfl) (ac (by kernel_rfl)) fun A hA=>hA.go (t30 a b) (by
  obtain ⟨r,h⟩:∃ r,m30 a b=r:=⟨_,rfl⟩
  rw [h] at hA ⊢
  unfold m30 at h
  refine ⟨⟨q7,q7,trivial⟩,_,c89 _ _ hs hg,?_⟩
  refine ai h (fun g1 h=>?_) (fun g1 h=>?_)
  ·refine ⟨⟨q2,q2,trivial⟩,_,Zn.c50 ho,?_⟩
   refine ai h (fun g2 h=>?_) (fun g2 h=>?_)
   ·exact ⟨⟨q5,q5,trivial⟩,_,c90 _ _ hd,q2,h⟩
   ·exact ⟨q2,h⟩
  ·exact ⟨q2,h⟩)
end Go.Proofs.Mo

namespace Go.Proofs.Mo
open Go.Proofs.Tryz
open Go Go.VL
set_option maxRecDepth 20000
open Go.Proofs.Zn Go.Proofs.Mn
open Wn (dD bD)
def m5 (d:Deck) (m:Model) (who:Int):Bool:=bif (Zn.mF d) then true else bif (m26 m) then true else bif true then bif (m30 (m28 d).1 (m29 d).1) then bif ((m28 d).2==(m29 d).2) then bif ((m28 d).2 != (0:Int)) then bif ((m31 m)==(m32 m)) then (m33 m who)==(m34 m who) else false else bif (m31 (m28 d).1) then bif ((m31 m)==(m32 m)) then (m33 m who)==(m34 m who) else false else false else false else false else false
theorem c5 (d:Deck) (m:Model) (who:Int) (hb:m26 m=false→OkM m) (hn:OkM (m28 d).1∧((m28 d).1.stock.cells.length≤1000∧(m28 d).1.stock.logs.length≤1000∧(m28 d).1.stock.tips.length≤1000)∧(∀ x∈(m28 d).1.stock.logs,x.list.length≤1000000)∧(m28 d).1.owners.length≤1000000∧((m28 d).1.deck.borders.length≤1000∧(m28 d).1.deck.plates.length≤1000∧(m28 d).1.deck.racks.length≤1000∧∀ p∈(m28 d).1.deck.plates,p.start.length≤1000000)):Pure prog 5 [⟨.deck,d⟩,⟨.model,m⟩,⟨.int,who⟩] [.bool] (m5 d m who):=
 Pure.of_closed (C:=codes) (S:=sigs) mixed func5 (by kernel_rfl) (ac (by kernel_rfl)) fun A hA=>hA.go (t5 d m who) (by
  obtain ⟨r,h⟩:∃ r,m5 d m who=r:=⟨_,rfl⟩
  rw [h] at hA ⊢
  unfold m5 at h
  refine ⟨⟨q5,trivial⟩,_,Zn.c37 _,?_⟩
  refine ai h (fun g1 h=>?_) (fun g1 h=>?_)
  ·exact ⟨trivial,_,Jg,q2,h⟩
  ·refine ⟨⟨q12,trivial⟩,_,c26 _,?_⟩
   refine ai h (fun g2 h=>?_) (fun g2 h=>?_)
   ·exact ⟨trivial,_,Jg,q2,h⟩
   ·refine ⟨⟨q5,trivial⟩,_,c28 _,⟨q5,trivial⟩,_,c29 _,trivial,_,Jg,?_⟩
    refine ai h (fun g3 h=>?_) (fun g3 h=>?_)
    ·refine ⟨⟨q12,q12,trivial⟩,_,c30 _ _ hn.2.1 hn.2.2.1 hn.2.2.2.1 hn.2.2.2.2,?_⟩
     refine ai h (fun g4 h=>?_) (fun g4 h=>?_)
     ·refine ai h (fun g5 h=>?_) (fun g5 h=>?_)
      ·try replace g5:=bn g5
       refine ai h (fun g6 h=>?_) (fun g6 h=>?_)
       ·refine ⟨⟨q12,trivial⟩,_,c31 _ (by first | with_reducible exact hn.1 | with_reducible exact hb (by assumption)),⟨q12,trivial⟩,_,c32 _ (by first | with_reducible exact hn.1 | with_reducible exact hb (by assumption)),?_⟩
        refine ai h (fun g7 h=>?_) (fun g7 h=>?_)
        ·try replace g7:=bn g7
         exact ⟨⟨q12,q2,trivial⟩,_,c33 _ _ (by first | with_reducible exact hn.1 | with_reducible exact hb (by assumption)),⟨q12,q2,trivial⟩,_,c34 _ _ (by first | with_reducible exact hn.1 | with_reducible exact hb (by assumption)),q2,h⟩
        ·exact ⟨q2,h⟩
       ·try replace g6:=am.1 g6
        refine ⟨⟨q12,trivial⟩,_,c31 _ (by first | with_reducible exact hn.1 | with_reducible exact hb (by assumption)),?_⟩
        refine ai h (fun g7 h=>?_) (fun g7 h=>?_)
        ·refine ⟨⟨q12,trivial⟩,_,c31 _ (by first | with_reducible exact hn.1 | with_reducible exact hb (by assumption)),⟨q12,trivial⟩,_,c32 _ (by first | with_reducible exact hn.1 | with_reducible exact hb (by assumption)),?_⟩
         refine ai h (fun g8 h=>?_) (fun g8 h=>?_)
         ·try replace g8:=bn g8
          exact ⟨⟨q12,q2,trivial⟩,_,c33 _ _ (by first | with_reducible exact hn.1 | with_reducible exact hb (by assumption)),⟨q12,q2,trivial⟩,_,c34 _ _ (by first | with_reducible exact hn.1 | with_reducible exact hb (by assumption)),q2,h⟩
         ·exact ⟨q2,h⟩
        ·exact ⟨q2,h⟩
      ·exact ⟨q2,h⟩
     ·exact ⟨q2,h⟩
    ·exact ⟨q2,h⟩)
end Go.Proofs.Mo

/- Models: New: both the same. (Own work.) -/
namespace Go.Proofs.Mo
open Go.Proofs.Tryz
open Go Go.VL Go.Proofs.Zn Go.Proofs.Mn
theorem tS (d:Deck) (l1:List Cell) (l2:List Log) (l3:List Tip) (i1 i2 i3:Int):∀ (n ix:Nat) (l4:List Int),qs d l1 l2 l3 i1 i2 i3 n ix l4=(⟨d,⟨l1,l2,l3,i1,i2,i3⟩,l4++List.replicate n 0⟩,0)
 | 0,ix,l4=>by rw [List.replicate_zero,ed];rfl
 | n + 1, ix, l4 => by
   rw [qs,tS d l1 l2 l3 i1 i2 i3 n,aZ];rfl
theorem CM (d:Deck):m28 d=m29 d:=by
 unfold m28 m29
 rw [qa,sg]
 cases (dw d).2 != 0
 ·rw [cF,cF,tP,tS,px,← sd]
  have e:vh ((cN d).length:Int)=[]++List.replicate (Int.toNat ((cN d).length:Int) - 0) 0:=by
   unfold vh
   rw [dF (by omega)];rfl
  rw [e]
 ·rfl
end Go.Proofs.Mo

/- Models: a new model is small. (Own work.) -/
namespace Go.Proofs.Mo
open Go.Proofs.Tryz
open Go Go.VL Go.Proofs.Zn Go.Proofs.Mn
theorem xX (d:Deck):OkM (m28 d).1∧((m28 d).1.stock.cells.length≤1000∧(m28 d).1.stock.logs.length≤1000∧(m28 d).1.stock.tips.length≤1000)∧(∀ x∈(m28 d).1.stock.logs,x.list.length≤1000000)∧(m28 d).1.owners.length≤1000000∧((m28 d).1.deck.borders.length≤1000∧(m28 d).1.deck.plates.length≤1000∧(m28 d).1.deck.racks.length≤1000∧∀ p∈(m28 d).1.deck.plates,p.start.length≤1000000):=by
 unfold m28
 cases h:(m83 d).2 != 0
 ·rw [cF,tP]
  have h0:=am.1 h
  have ho:=CF h0
  have hz:=wH h0
  have hk:=cO hz
  have hl:=lJ hz
  have hw:=hk.wells
  have ht:=hk.tips
  have h1:=hk.lanes
  have h2:=hk.plates
  have h3:=hk.racks
  refine ⟨ho,⟨?_,?_,?_⟩,ho.list,ho.owners,by show d.borders.length≤_;omega,by show d.plates.length≤_;omega,by show d.racks.length≤_;omega,ho.start⟩
  ·show (m83 d).1.cells.length≤_
   rw [qa];unfold dw;rw [hz,cF]
   show (bm d).length≤_;omega
  ·show (m83 d).1.logs.length≤_
   rw [qa];unfold dw;rw [hz,cF]
   show (List.replicate _ kJ).length≤_;rw [bT];omega
  ·show (m83 d).1.tips.length≤_
   rw [qa];unfold dw;rw [hz,cF]
   show (List.replicate _ _).length≤_;rw [bT];omega
 ·rw [cT]
  exact ⟨lZ rfl,⟨be _,be _,be _⟩,by simp,be _,be _,be _,be _,by simp⟩
end Go.Proofs.Mo

/- Models: a model that is not large. (Own work.) -/
namespace Go.Proofs.Mo
open Go.Proofs.Tryz
open Go Go.VL Go.Proofs.Zn Go.Proofs.Mn
theorem mf {c x:Bool} (h:(bif c then true else x)=false):c=false∧x=false:=by
 cases c
 ·exact ⟨rfl,h⟩
 ·cases h
theorem DC:∀ {l:List Log} {k:Nat},qo l k=false→∀ x∈l,x.list.length≤100
 | [],_,_,x,hx=>by simp at hx
 | z :: l, k, h, x, hx => by
   unfold qo at h
   obtain ⟨h1,h2⟩:=mf h
   rcases aL.1 hx with e | hx
   ·subst e;have:=oF h1;omega
   ·exact DC h2 x hx
theorem uH:∀ {l:List Plate},lF l=false→∀ p∈l,p.start.length≤100000
 | [],_,p,hp=>by simp at hp
 | z :: l, h, p, hp => by
   unfold lF at h
   obtain ⟨h1,h2⟩:=mf h
   rcases aL.1 hp with e | hp
   ·subst e;have:=oF h1;omega
   ·exact uH h2 p hp
theorem Lf {m:Model} (hf:io (m.stock.cells.map Cell.vol)) (h:m26 m=false):OkM m:=by
 unfold m26 at h
 obtain ⟨h1,h⟩:=mf h
 obtain ⟨h2,h3⟩:=mf h
 unfold mF at h1
 obtain ⟨a1,h1⟩:=mf h1
 obtain ⟨a2,h1⟩:=mf h1
 obtain ⟨a3,h1⟩:=mf h1
 unfold m82 at h2
 obtain ⟨b1,h2⟩:=mf h2
 obtain ⟨b2,h2⟩:=mf h2
 obtain ⟨b3,h2⟩:=mf h2
 have a1:=oF a1
 have a2:=oF a2
 have a3:=oF a3
 have b1:=oF b1
 have b2:=oF b2
 have b3:=oF b3
 have h3:=oF h3
 exact ⟨by omega,by omega,by omega,by omega,by omega,by omega,by omega,fun p hp=>by have:=uH h1 p hp;omega,fun l hl=>by have:=DC h2 l hl;omega,hf,by omega⟩
end Go.Proofs.Mo

/- Models: the law ModelNew, but for Right of New and Same of equals. (Own work.) -/
namespace Go.Proofs.Mo
open Go.Proofs.Tryz
open Go Go.VL Go.Proofs.Zn Go.Proofs.Mn
theorem FY {d:Deck} {m:Model} {who:Int} (hb:m26 m=false→OkM m) (hs:m30 (m28 d).1 (m28 d).1=true) (hr:(m28 d).2=0→m31 (m28 d).1=true):m5 d m who=true:=by
 unfold m5
 cases mF d
 ·cases hm:m26 m
  ·have ho:=hb hm
   rw [← CM,hs,nO ho,DL ho]
   simp only [cT,cF,jT]
   cases he:(m28 d).2 != 0
   ·rw [hr (am.1 he)];rfl
   ·rfl
  ·rfl
 ·rfl
end Go.Proofs.Mo

/- Models: a model is the same as itself. (Own work.) -/
namespace Go.Proofs.Mo
open Go.Proofs.Tryz
open Go Go.VL Go.Proofs.Zn Go.Proofs.Mn
theorem lO {α:Type} {l:List α} {ix:Nat} {z d:α} {zs:List α} (h:z::zs=l.drop ix):l.getD ix d=z∧zs=l.drop (ix+1):=by
 constructor
 ·rw [dR,← List.head?_drop,← h];rfl
 ·rw [← List.tail_drop,← h];rfl
theorem KU (l:List Fl):∀ (zs:List Fl) (ix:Nat),zs=l.drop ix→lj l zs ix=true
 | [],_,_=>rfl
 | z :: zs, ix, h => by
   obtain ⟨h1,h2⟩:=lO (d:=Ty.dflt Ty.flt) h
   unfold lj
   rw [h1,KU l zs (ix+1) h2]
   cases hc:(Fl.cmp z z==some Ordering.eq)
   ·rw [show (Fl.cmp z z != some Ordering.eq)=true by simp [bne,hc]];rfl
   ·rfl
theorem IC (l:List Fl):vy l l=true:=by
 unfold vy
 rw [KU l l 0 rfl];simp
theorem Hk (d:Deck):∀ (zs:List Rack) (ix:Nat),zs=d.racks.drop ix→qi d zs ix=true
 | [],_,_=>rfl
 | z :: zs, ix, h => by
   obtain ⟨h1,h2⟩:=lO (d:=Ty.dflt Ty.rack) h
   unfold qi
   rw [h1,Hk d zs (ix+1) h2,IC];simp
theorem Hl (d:Deck):∀ (zs:List Plate) (ix:Nat),zs=d.plates.drop ix→qj d d zs ix=true
 | [],_,_=>Hk d d.racks 0 rfl
 | z :: zs, ix, h => by
   obtain ⟨h1,h2⟩:=lO (d:=Ty.dflt Ty.plate) h
   unfold qj
   rw [h1,Hl d zs (ix+1) h2,IC];simp [eqL]
theorem r90 (d:Deck):m90 d d=true:=by
 unfold m90
 rw [IC,Hl d d.plates 0 rfl];simp
theorem Hm (s:Stock):∀ (zs:List Tip) (ix:Nat),zs=s.tips.drop ix→qk s zs ix=true
 | [],_,_=>rfl
 | z :: zs, ix, h => by
   obtain ⟨h1,h2⟩:=lO (d:=Ty.dflt Ty.tip) h
   unfold qk
   rw [h1,Hm s zs (ix+1) h2];simp
theorem Hn (s:Stock):∀ (zs:List Log) (ix:Nat),zs=s.logs.drop ix→ql s s zs ix=true
 | [],_,_=>Hm s s.tips 0 rfl
 | z :: zs, ix, h => by
   obtain ⟨h1,h2⟩:=lO (d:=Ty.dflt Ty.log) h
   unfold ql
   rw [h1,Hn s zs (ix+1) h2];simp [DV]
theorem Ho (s:Stock):∀ (zs:List Cell) (ix:Nat),zs=s.cells.drop ix→qm s s zs ix=true
 | [],_,_=>Hn s s.logs 0 rfl
 | z :: zs, ix, h => by
   obtain ⟨h1,h2⟩:=lO (d:=Ty.dflt Ty.cell) h
   unfold qm
   rw [h1,Ho s zs (ix+1) h2];simp
theorem r89 (s:Stock):m89 s s=true:=by
 unfold m89
 rw [Ho s s.cells 0 rfl];simp
theorem r30 (m:Model):m30 m m=true:=by
 unfold m30
 rw [r89,r90];simp [eqL]
end Go.Proofs.Mo

/- Models: new wells are right. (Own work.) -/
namespace Go.Proofs.Mo
open Go.Proofs.Tryz
open Go Go.VL Go.Proofs.Zn Go.Proofs.Mn
theorem rQ:∀ (cs:List Cell),(∀ c∈cs,eN c=true∧c.ver=0)→eH cs cs (List.replicate cs.length kJ)=true
 | [],_=>rfl
 | c :: cs, h => by
   have hc:=h c (by simp)
   rw [ag,cc]
   unfold eH
   rw [hc.1,show ik kJ=true by kernel_rfl,show kJ.room=8 from rfl,show kJ.last=0 from rfl,hc.2,rQ cs fun x hx=>h x (by simp [hx])]
   simp
theorem sS (n:Int) (hn:0≤n):∀ k:Nat,fB n (List.replicate k ⟨1,0⟩) []=true
 | 0=>rfl
 | k + 1 => by
   rw [cc]
   unfold fB
   rw [show hY ⟨1,0⟩=true by kernel_rfl,sS n hn k]
   have:¬ (0:Int) > n:=by omega
   simp [this]
end Go.Proofs.Mo

/- Models: a new stock is right, but for its sum. (Own work.) -/
namespace Go.Proofs.Mo
open Go.Proofs.Tryz
open Go Go.VL Go.Proofs.Zn Go.Proofs.Mn
theorem Fx {d:Deck} (hz:(dc d != 0)=false) (hc:∀ c∈bm d,eN c=true∧c.ver=0) (he:xf (dw d).1 (dw d).1.start=true):m94 d (dw d).1=true:=by
 have e:dw d=(⟨bm d,List.replicate (bm d).length kJ,List.replicate (bk (aP d)).toNat ⟨1,0⟩,tot ((bm d).map Cell.vol),0,0⟩,0):=by unfold dw;rw [hz];rfl
 unfold m94
 rw [sg]
 rw [e] at he ⊢
 simp only [bne_self_eq_false,cF]
 rw [lG d _ (bm d) _ (bm d) 0 rfl rfl (by simp)]
 simp only [bL]
 rw [rQ _ hc,cT,lH,sS _ (by have:=(cO hz).arms;omega),cT]
 exact he
end Go.Proofs.Mo

/- Models: a new stock is right. (Own work.) -/
namespace Go.Proofs.Mo
open Go.Proofs.Tryz
open Go Go.VL Go.Proofs.Zn Go.Proofs.Mn
theorem Gy {d:Deck} (hz:(dc d != 0)=false):xf (dw d).1 (dw d).1.start=true:=by
 have e:dw d=(⟨bm d,List.replicate (bm d).length kJ,List.replicate (bk (aP d)).toNat ⟨1,0⟩,tot ((bm d).map Cell.vol),0,0⟩,0):=by unfold dw;rw [hz];rfl
 have hw:=(cO hz).wells
 have hl:=lJ hz
 have ht:=lD (l:=(bm d).map Cell.vol) (by
  intro x hx
  obtain ⟨c,hc,rfl⟩:=aU.1 hx
  have:=ya hz c hc
  omega)
 rw [bu] at ht
 have hf:cS (tot ((bm d).map Cell.vol)):=by unfold cS;omega
 rw [e]
 unfold xf
 rw [ye]
 have hs:BC ⟨bm d,List.replicate (bm d).length kJ,List.replicate (bk (aP d)).toNat ⟨1,0⟩,tot ((bm d).map Cell.vol),0,0⟩=(tot ((bm d).map Cell.vol),0):=gM hf
 simp only [hs]
 rw [iD,aA hf.1 hf.2,Int.sub_zero,aA hf.1 hf.2]
 simp
end Go.Proofs.Mo

/- Models: new cells are right. (Own work.) -/
namespace Go.Proofs.Mo
open Go.Proofs.Tryz
open Go Go.VL Go.Proofs.Zn Go.Proofs.Mn
theorem Bi {d:Deck} (hz:(dc d != 0)=false):∀ c∈bm d,eN c=true∧c.ver=0:=by
 intro c hc
 obtain ⟨z,hzz,hc⟩:=gZ.1 hc
 obtain ⟨k,_,rfl⟩:=aU.1 hc
 have hk:=iJ ((cO hz).plate z hzz)
 have h1:=hk.start k
 have h2:=hk.cap
 refine ⟨?_,rfl⟩
 have a1:z.cap≥1:=by omega
 have a2:z.cap≤1099511627776:=by omega
 have a3:0≤z.start.getD k 0:=h1.1
 have a4:z.start.getD k 0≤z.cap:=h1.2
 simp [cL,eN,a1,a2,a3,a4,-List.getD_eq_getElem?_getD]
end Go.Proofs.Mo

/- Models: a new model is right. (Own work.) -/
namespace Go.Proofs.Mo
open Go.Proofs.Tryz
open Go Go.VL Go.Proofs.Zn Go.Proofs.Mn
theorem An {d:Deck} (hz:(dc d != 0)=false):m94 d (dw d).1=true:=Fx hz (Bi hz) (Gy hz)
theorem vg {m:Model} (ha:0≤m.deck.arms):∀ (n k:Nat),nk m (List.replicate n 0) k=true
 | 0,_=>rfl
 | n + 1, k => by
   rw [cc]
   unfold nk
   rw [vg ha n]
   have:¬ (0:Int) > m.deck.arms:=by omega
   simp [this]
end Go.Proofs.Mo

/- Models: a new model is right. (Own work.) -/
namespace Go.Proofs.Mo
open Go.Proofs.Tryz
open Go Go.VL Go.Proofs.Zn Go.Proofs.Mn
theorem Fy (d:Deck) (h:(m28 d).2=0):m31 (m28 d).1=true:=by
 rw [nO (xX d).1]
 rw [CM] at h ⊢
 unfold m29 at h ⊢
 rw [sg] at h ⊢
 cases he:(dw d).2 != 0
 ·have hz:(dc d != 0)=false:=wH (by rw [qa];exact am.1 he)
  rw [cF,tS]
  unfold m32
  have hr:m94 d ⟨(dw d).1.cells,(dw d).1.logs,(dw d).1.tips,(dw d).1.start,(dw d).1.inn,(dw d).1.out⟩=true:=An hz
  simp only [hr]
  have ha:=(cO hz).arms
  simp [vg (m:=⟨d,(dw d).1,List.replicate (cN d).length 0⟩) (show 0≤d.arms by omega)]
 ·rw [he,cT] at h
  exact absurd h (by simpa using he)
end Go.Proofs.Mo

/- Models: ModelNew's law holds. (Own work.) -/
namespace Go.Proofs.Mo
open Go.Proofs.Tryz
open Go Go.VL Go.Proofs.Zn Go.Proofs.Mn
theorem z5 (d:Deck) (m:Model) (who:Int) (hf:io (m.stock.cells.map Cell.vol)):Pure prog 5 [⟨.deck,d⟩,⟨.model,m⟩,⟨.int,who⟩] [.bool] true:=by
 have h:=c5 d m who (Lf hf) (xX d)
 rw [FY (Lf hf) (r30 _) (Fy d)] at h
 exact h
end Go.Proofs.Mo

/- The law ModelNew, at arguments that are well formed. (Own work.) -/
namespace Go.Proofs.Mo
open Go.Proofs.Tryz
open Go Go.VL Go.Proofs.Zn Go.Proofs.Mn
theorem Hz {m:Model} (h:wfT .model m):io (m.stock.cells.map Cell.vol):=by
 have h:=h (.sl .cell m.stock.cells) (by simp [enc])
 intro x hx
 obtain ⟨c,hc,rfl⟩:=aU.1 hx
 cases h with
 | sl _ _ _ hh =>
   have h2:=hh c hc (.v (.int .i64 c.vol)) (by simp [enc,D.i])
   cases h2 with
   | int _ _ hh =>
     have hh:(decide ((-9223372036854775808:Int)≤c.vol) && decide (c.vol≤9223372036854775807))=true:=hh
     simp only [aR,bP] at hh
     unfold cS;omega
theorem law5 (d:Deck) (m:Model) (who:Int) (_:wfT .deck d) (hm:wfT .model m) (_:wfT .int who):Pure prog 5 [⟨.deck,d⟩,⟨.model,m⟩,⟨.int,who⟩] [.bool] true:=z5 d m who (Hz hm)
end Go.Proofs.Mo

/- The laid table lies where it lies. (Own work.) -/
namespace Go.Proofs.Wn
open Go.Proofs.Tryz
open Go Go.VL Go.Proofs.YteaiflgcgpaclaaGreatDoor
set_option linter.unusedVariables false
set_option linter.unusedSimpArgs false
theorem Lq : prog.globalNamed "math/bits.deBruijn64tab" = some 1 := by kernel_rfl
theorem tTab:∃ t,(prog.globals[1]?).map (·.type)=some t∧prog.underlying t=some (.array 64 5)∧prog.cellsOf t=64:=
 ⟨((prog.globals[1]?).map (·.type)).getD 0,by kernel_rfl,by kernel_rfl,by kernel_rfl⟩
theorem uU8:prog.underlying 5=some (.int .u8):=by kernel_rfl
theorem cU8:prog.cellsOf 5=1:=by kernel_rfl
theorem DD:(Rows.laid_math_bits_deBruijn64tab:DataW Unit)=.agg (pD.map fun n:Nat=>DataW.lit (.int .u8 (n:Int))):=by rfl
theorem BI {α:Type} {l:List α} {i:Nat} {a:α} (h:(l.drop i).take 1=[a]):l[i]?=some a:=by
 have:((l.drop i).take 1)[0]?=some a:=by rw [h];rfl
 simpa using this
theorem gok_laid {W : World} (h : laidMetH prog [("math/bits.deBruijn64tab", Rows.laid_math_bits_deBruijn64tab)] W) : GOk W (fun b => b < W.heap.size) := by
 rw [MakeChecks.laidMetH_plain _ _ _ (by kernel_rfl)] at h
 obtain ⟨ps, ⟨g, t, cs, fuel, p, q, hg, ht, hv, hd, _, hps⟩, _, hfr⟩ := h
 obtain rfl := aI (Lq.symm.trans hg)
 obtain ⟨t', ht', hu, hc⟩ := tTab
 obtain rfl := aI (ht'.symm.trans ht)
 obtain ⟨xs, m, _, hx, hlen, hn, hel⟩ := DataW.trod_array hu hd
 rw [hc] at hlen
 rw [DD] at hx
 simp only [bq, DataW.agg.injEq] at hx
 have hxs := hx.1
 have key : ∀ i, i < 64 → cs.toList[i]? = (pD.map fun n : Nat => Value.int .u8 (n : Int))[i]? := by
  intro i hi
  have h1 := hel i hi
  rw [cU8, ib] at h1
  have hix : i < xs.length := by omega
  have hxi : xs[i]? = some xs[i] := by simp [hix]
  rw [hxi] at h1
  obtain ⟨k, e1, e2, _⟩ := DataW.trod_int uU8 h1
  have e3 := BI e1
  have e4 : (xs.map (·.1))[i]? = (pD.map fun n : Nat => (DataW.lit (.int .u8 (n : Int)) : DataW Unit))[i]? := by rw [hxs]
  rw [aM, aM, hxi] at e4
  rw [aM, e3]
  cases hz : pD[i]? with
  | none => rw [hz] at e4; simp at e4
  | some n =>
    rw [hz, e2] at e4
    simp only [bi, af, DataW.lit.injEq, Lit.int.injEq, true_and] at e4
    rw [e4]; rfl
 have hcs : cs = (pD.map fun n : Nat => Value.int .u8 (n : Int)).toArray := by
  apply Array.toList_inj.1
  apply gC
  intro i
  by_cases hi : i < 64
  ·exact key i hi
  ·rw [ax (by omega), ax (by show 64 ≤ i; omega)]
 intro p' hp'
 have hp' : p' = (1, (pD.map fun n : Nat => Value.int .u8 (n : Int)).toArray) := by simpa [glb] using hp'
 subst hp'
 have hsz : cs.size = 64 := by rw [← ba]; exact hlen
 obtain ⟨⟨c, T, hT⟩, _⟩ := hfr 1 0 (by
  rw [hps, hsz]
  exact aC.2 (.inl (aC.2 (.inl (by simp [MemPlace.row])))))
 have hcc : c = cs := by
  unfold World.var? at hv
  rw [Lq] at hv
  simp only [aB, hT, af] at hv
  exact hv
 subst hcc
 refine ⟨?_, T, ?_⟩
 ·exact (cf.1 hT).1
 ·rw [← hcs]; exact hT
end Go.Proofs.Wn
