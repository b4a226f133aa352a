/- Own work: part WI of the proof. -/
import Derived.Test.YteaiflgcgpaclaaGreatDoorWE
import Derived.Test.YteaiflgcgpaclaaGreatDoorWH
import Derived.Test.YteaiflgcgpaclaaGreatDoorWD
set_option linter.unusedVariables false
set_option linter.unusedSimpArgs false
namespace Go.Proofs.Mn
open Go.Proofs.Tryz
open Go Go.VL
set_option maxRecDepth 20000
open Go.Proofs.Zn
def gQ (i:Int) (t:Tip):List Tip→Nat→(Int×Bool)
 | [],ix=>((0:Int),false)
 | z::zs,ix=>bif decide ((ix:Int) < i) then gQ i t zs (ix+1) else bif (!((z).state==t.state && ((z).by'==t.by' && true))) then gQ i t zs (ix+1) else bif (!(hY z)) then gQ i t zs (ix+1) else ((ix:Int),true)
theorem ke (l:List Tip) (i:Int) (t:Tip) (hl:l.length≤1000000)  {r:Int×Bool} {A:Pr} (hA:CL codes sigs f227 [.int,.bool] r A) (ix:Nat) (h:gQ i t (List.drop ix l) ix=r):A (hd f227 0) (ot l i t (ix:Int)):=by
 refine hA.go (Fj l i t (ix:Int)) (ah (fun h1=>?_) (fun h1=>?_))
 ·have h1:=oT h1
  have hil:ix < l.length:=by omega
  rw [aW hil Ty.tip.dflt,gQ] at h
  refine ⟨⟨⟨(by omega),(by omega)⟩,trivial⟩,?_⟩
  refine ai h (fun g1 h=>?_) (fun g1 h=>?_)
  ·have g1:=oT g1
   rw [au (by omega)]
   exact ke l i t hl  hA (ix+1) h
  ·have g1:=oF g1
   refine ai h (fun g2 h=>?_) (fun g2 h=>?_)
   ·rw [au (by omega)]
    exact ke l i t hl  hA (ix+1) h
   ·refine ⟨⟨q3,trivial⟩,_,Jj _,?_⟩
    refine ai h (fun g3 h=>?_) (fun g3 h=>?_)
    ·rw [au (by omega)]
     exact ke l i t hl  hA (ix+1) h
    ·exact ⟨⟨q2,trivial,trivial⟩,h⟩
 ·have h1:=oF h1
  rw [dN (by omega),gQ] at h
  exact ⟨⟨q2,trivial,trivial⟩,h⟩
termination_by l.length - ix
decreasing_by all_goals omega
def Di (l:List Tip) (i:Int) (t:Tip):Int×Bool:=gQ i t l 0
theorem c227 (l:List Tip) (i:Int) (t:Tip) (hl:l.length≤1000000):Pure prog 227 [⟨.sl .tip,l⟩,⟨.int,i⟩,⟨.tip,t⟩] [.int,.bool] (Di l i t):=
 Pure.of_closed (C:=codes) (S:=sigs) mixed func227 (by kernel_rfl) (ac (by kernel_rfl)) fun A hA=>hA.go (Kh l i t) (by
  obtain ⟨r,h⟩:∃ r,Di l i t=r:=⟨_,rfl⟩
  rw [h] at hA ⊢
  unfold Di at h
  exact ke l i t hl  hA 0 h)
def lj (b:List Fl):List Fl→Nat→Bool
 | [],ix=>true
 | z::zs,ix=>bif (Fl.cmp (z) (b.getD (ix) Ty.flt.dflt)==some Ordering.eq) then lj b zs (ix+1) else bif (Fl.cmp (z) (z) != some Ordering.eq) then bif (!Fl.cmp (b.getD (ix) Ty.flt.dflt) (b.getD (ix) Ty.flt.dflt) != some Ordering.eq) then false else lj b zs (ix+1) else false
theorem mE (a b:List Fl) (hl:a.length≤1000000∧b.length=a.length)  {r:Bool} {A:Pr} (hA:CL codes sigs f156 [.bool] r A) (ix:Nat) (h:lj b (List.drop ix a) ix=r):A (hd f156 0) (re a b (ix:Int)):=by
 refine hA.go (Fq a b (ix:Int)) (ah (fun h1=>?_) (fun h1=>?_))
 ·have h1:=oT h1
  have hil:ix < a.length:=by omega
  rw [aW hil Ty.flt.dflt,lj] at h
  refine ⟨⟨⟨(by omega),(by omega)⟩,trivial⟩,⟨⟨(by omega),(by omega)⟩,trivial⟩,?_⟩
  refine ai h (fun g1 h=>?_) (fun g1 h=>?_)
  ·rw [au (by omega)]
   exact mE a b hl  hA (ix+1) h
  ·refine ⟨⟨⟨(by omega),(by omega)⟩,trivial⟩,⟨⟨(by omega),(by omega)⟩,trivial⟩,?_⟩
   refine ai h (fun g2 h=>?_) (fun g2 h=>?_)
   ·refine ⟨⟨⟨(by omega),(by omega)⟩,trivial⟩,⟨⟨(by omega),(by omega)⟩,trivial⟩,?_⟩
    refine ai h (fun g3 h=>?_) (fun g3 h=>?_)
    ·exact ⟨q2,h⟩
    ·rw [au (by omega)]
     exact mE a b hl  hA (ix+1) h
   ·exact ⟨q2,h⟩
 ·have h1:=oF h1
  rw [dN (by omega),lj] at h
  exact ⟨q2,h⟩
termination_by a.length - ix
decreasing_by all_goals omega
def vy (a b:List Fl):Bool:=bif ((a.length:Int) != (b.length:Int)) then false else lj b a 0
theorem Ev (a b:List Fl) (hl:a.length≤1000000):Pure prog 156 [⟨.sl .flt,a⟩,⟨.sl .flt,b⟩] [.bool] (vy a b):=
 Pure.of_closed (C:=codes) (S:=sigs) mixed func156 (by kernel_rfl) (ac (by kernel_rfl)) fun A hA=>hA.go (Kr a b) (by
  obtain ⟨r,h⟩:∃ r,vy a b=r:=⟨_,rfl⟩
  rw [h] at hA ⊢
  unfold vy at h
  refine ai h (fun g1 h=>?_) (fun g1 h=>?_)
  ·exact ⟨q2,h⟩
  ·exact mE a b ⟨hl,by have:=g1;simp at this;omega⟩  hA 0 h)
def oH (i5:Int) (l3:List Cell) (l4:List Log):Nat→Nat→(List Tip)→(Stock×Int)
 | 0,ix,l5=>(Stock.mk l3 l4 l5 i5 (0:Int) (0:Int),(0:Int))
 | n+1,ix,l5=>oH i5 l3 l4 n (ix+1) (l5++[Tip.mk (1:Int) (0:Int)])
theorem sy (i1 i5:Int) (l3:List Cell) (l4:List Log)  (hn:i1≤1000) {r:Stock×Int} {A:Pr} (hA:CL codes sigs f87 [.stock,.int] r A) (ix:Nat) (l5:List Tip) (hv:l5.length≤ix) (h:oH i5 l3 l4 (i1.toNat - ix) ix l5=r):A (hd f87 2) (zr i1 i5 l3 l4 (ix:Int) l5):=by
 refine hA.go (HI i1 i5 l3 l4 (ix:Int) l5) (ah (fun h1=>?_) (fun h1=>?_))
 ·have h1:=oT h1
  have hil:i1.toNat - ix=(i1.toNat - (ix+1))+1:=by omega
  rw [hil,oH] at h
  refine ⟨⟨q3,trivial⟩,⟨(by simp only [ag,al];omega),trivial⟩,?_⟩
  rw [au (by omega)]
  exact sy i1 i5 l3 l4 hn hA (ix+1) _ (by simp only [ak,ag,al];omega) h
 ·have h1:=oF h1
  rw [show i1.toNat - ix=0 by omega,oH] at h
  exact ⟨⟨q7,trivial,trivial⟩,h⟩
termination_by i1.toNat - ix
decreasing_by all_goals omega
def ma (z0:Plate) (kc0:Int→(List Cell)→(List Log)→(Stock×Int)):Nat→Nat→Int→(List Cell)→(List Log)→(Stock×Int)
 | 0,ix,i3,l1,l2=>kc0 i3 l1 l2
 | n+1,ix,i3,l1,l2=>bif decide ((ix:Int) < (↑(z0).start.length:Int)) then ma z0 kc0 n (ix+1) (w64 (i3+(z0).start.getD (ix) Ty.int.dflt)) (l1++[Cell.mk (z0).cap ((z0).start.getD (ix) Ty.int.dflt) (0:Int)]) (l2++[Log.mk (8:Int) (0:Int) []]) else ma z0 kc0 n (ix+1) (w64 (i3+(0:Int))) (l1++[Cell.mk (z0).cap (0:Int) (0:Int)]) (l2++[Log.mk (8:Int) (0:Int) []])
theorem nZ (d:Deck) (i1 i4:Int)  (hk:PlB d) (hp:i4.toNat < 4) {r:Stock×Int} {A:Pr} (hA:CL codes sigs f87 [.stock,.int] r A) (kc0:Int→(List Cell)→(List Log)→(Stock×Int)) (hkc0:∀ (i5':Int) (l3':List Cell) (l4':List Log),(l3'.length≤1536 * (i4.toNat+1)∧l4'.length≤1536 * (i4.toNat+1))→kc0 i5' l3' l4'=r→A (hd f87 0) (wg d i1 (w64 (i4+(1:Int))) i5' l3' l4')) (ix:Nat) (i3:Int) (l1:List Cell) (l2:List Log) (hv:l1.length≤1536 * i4.toNat+ix∧l2.length≤1536 * i4.toNat+ix∧ix≤1536) (h:ma (d.plates.getD i4.toNat Ty.plate.dflt) kc0 ((w64 ((d.plates.getD i4.toNat Ty.plate.dflt).rows * (d.plates.getD i4.toNat Ty.plate.dflt).cols)).toNat - ix) ix i3 l1 l2=r):A (hd f87 1) (wd d i1 i4 (ix:Int) i3 l1 l2):=by
 refine hA.go (HJ d i1 i4 (ix:Int) i3 l1 l2) (ah (fun h1=>?_) (fun h1=>?_))
 ·have h1:=oT h1
  have hil:(w64 ((d.plates.getD i4.toNat Ty.plate.dflt).rows * (d.plates.getD i4.toNat Ty.plate.dflt).cols)).toNat - ix=((w64 ((d.plates.getD i4.toNat Ty.plate.dflt).rows * (d.plates.getD i4.toNat Ty.plate.dflt).cols)).toNat - (ix+1))+1:=by omega
  rw [hil,ma] at h
  refine ai h (fun g1 h=>?_) (fun g1 h=>?_)
  ·have g1:=oT g1
   refine ⟨⟨⟨(by omega),(by omega)⟩,trivial⟩,⟨q4,trivial⟩,⟨(by simp only [ag,al];omega),trivial⟩,⟨q4,trivial⟩,⟨(by simp only [ag,al];omega),trivial⟩,?_⟩
   rw [au (by omega)]
   exact nZ d i1 i4 hk hp hA _ hkc0 (ix+1) _ _ _ (by first | omega | (have:=hk.at i4.toNat;simp only [ak,ag,al];omega)) h
  ·have g1:=oF g1
   refine ⟨⟨q4,trivial⟩,⟨(by simp only [ag,al];omega),trivial⟩,⟨q4,trivial⟩,⟨(by simp only [ag,al];omega),trivial⟩,?_⟩
   rw [au (by omega)]
   exact nZ d i1 i4 hk hp hA _ hkc0 (ix+1) _ _ _ (by first | omega | (have:=hk.at i4.toNat;simp only [ak,ag,al];omega)) h
 ·have h1:=oF h1
  rw [show (w64 ((d.plates.getD i4.toNat Ty.plate.dflt).rows * (d.plates.getD i4.toNat Ty.plate.dflt).cols)).toNat - ix=0 by omega,ma] at h
  exact hkc0 _ _ _ (by first | omega | (have:=hk.at i4.toNat;simp only [ak,ag,al];omega)) h
termination_by (w64 ((d.plates.getD i4.toNat Ty.plate.dflt).rows * (d.plates.getD i4.toNat Ty.plate.dflt).cols)).toNat - ix
decreasing_by all_goals omega
def oI (i1:Int):List Plate→Nat→Int→(List Cell)→(List Log)→(Stock×Int)
 | [],ix,i5,l3,l4=>oH i5 l3 l4 (i1.toNat - 0) 0 []
 | z::zs,ix,i5,l3,l4=>ma z (fun i5' l3' l4'=>oI i1 zs (ix+1) i5' l3' l4') ((w64 ((z).rows * (z).cols)).toNat - 0) 0 i5 l3 l4
theorem sA (d:Deck) (i1:Int)  (hk:PlB d) (hp:d.plates.length≤4) (hn:i1≤1000) {r:Stock×Int} {A:Pr} (hA:CL codes sigs f87 [.stock,.int] r A) (ix:Nat) (i5:Int) (l3:List Cell) (l4:List Log) (hv:l3.length≤1536 * ix∧l4.length≤1536 * ix) (h:oI i1 (List.drop ix d.plates) ix i5 l3 l4=r):A (hd f87 0) (wg d i1 (ix:Int) i5 l3 l4):=by
 refine hA.go (HK d i1 (ix:Int) i5 l3 l4) (ah (fun h1=>?_) (fun h1=>?_))
 ·have h1:=oT h1
  have hil:ix < d.plates.length:=by omega
  rw [aW hil Ty.plate.dflt,oI] at h
  refine ⟨⟨⟨(by omega),(by omega)⟩,trivial⟩,?_⟩
  exact nZ d i1 (ix:Int) hk (by omega) hA _ (fun i5' l3' l4' hv h=>by rw [au (by omega)];exact sA d i1 hk hp hn hA (ix+1) i5' l3' l4' (by first | omega | (have:=hk.at i4.toNat;simp only [ak,ag,al];omega)) h) 0 i5 l3 l4 (by omega) h
 ·have h1:=oF h1
  rw [dN (by omega),oI] at h
  refine hA.boxrow 1 2 194 .tip (by kernel_rfl) (s':=zr i1 i5 l3 l4 (0:Int) []) (by kernel_rfl) ?_
  exact sy i1 i5 l3 l4 hn hA 0 [] (by simp) h
termination_by d.plates.length - ix
decreasing_by all_goals omega
def m87 (d:Deck):Stock×Int:=bif ((Zn.dc d) != (0:Int)) then (Stock.mk [] [] [] (0:Int) (0:Int) (0:Int),(Zn.dc d)) else oI (Zn.bv d).2.1 d.plates 0 (0:Int) [] []
theorem c87 (d:Deck) :Pure prog 87 [⟨.deck,d⟩] [.stock,.int] (m87 d):=
 Pure.of_closed (C:=codes) (S:=sigs) mixed func87 (by kernel_rfl) (ac (by kernel_rfl)) fun A hA=>hA.go (t87x d) (by
  obtain ⟨r,h⟩:∃ r,m87 d=r:=⟨_,rfl⟩
  rw [h] at hA ⊢
  unfold m87 at h
  refine ⟨⟨q5,trivial⟩,_,Wn.c70 _,?_⟩
  refine ai h (fun g1 h=>?_) (fun g1 h=>?_)
  ·exact ⟨⟨q7,trivial,trivial⟩,h⟩
  ·refine ⟨⟨q5,trivial⟩,_,Zn.GN _,?_⟩
   refine hA.boxrow 2 0 76 .cell (by kernel_rfl) rfl ?_
   refine hA.boxrow 2 1 146 .log (by kernel_rfl) (s':=wg d (Zn.bv d).2.1 (0:Int) (0:Int) [] []) (by kernel_rfl) ?_
   exact sA d (Zn.bv d).2.1 (plB (cO g1)) (cO g1).plates (by have:=qN d;omega) hA 0 (0:Int) [] [] (by simp) h)
def qs (d:Deck) (l1:List Cell) (l2:List Log) (l3:List Tip) (i1 i2 i3:Int):Nat→Nat→(List Int)→(Model×Int)
 | 0,ix,l4=>(Model.mk d (Stock.mk l1 l2 l3 i1 i2 i3) l4,(0:Int))
 | n+1,ix,l4=>qs d l1 l2 l3 i1 i2 i3 n (ix+1) (l4++[(0:Int)])
theorem sI (d:Deck) (l1:List Cell) (l2:List Log) (l3:List Tip) (i1 i2 i3:Int)  (hn:(cN d).length≤1000) {r:Model×Int} {A:Pr} (hA:CL codes sigs f29 [.model,.int] r A) (ix:Nat) (l4:List Int) (hv:l4.length≤ix) (h:qs d l1 l2 l3 i1 i2 i3 ((↑(Zn.cN d).length:Int).toNat - ix) ix l4=r):A (hd f29 0) (zx d l1 l2 l3 i1 i2 i3 (ix:Int) l4):=by
 refine hA.go (HS d l1 l2 l3 i1 i2 i3 (ix:Int) l4) ⟨⟨q5,trivial⟩,_,Zn.c90 _,ah (fun h1=>?_) (fun h1=>?_)⟩
 ·have h1:=oT h1
  have hil:(↑(Zn.cN d).length:Int).toNat - ix=((↑(Zn.cN d).length:Int).toNat - (ix+1))+1:=by omega
  rw [hil,qs] at h
  refine ⟨⟨q2,trivial⟩,⟨(by simp only [ag,al];omega),trivial⟩,?_⟩
  rw [au (by omega)]
  exact sI d l1 l2 l3 i1 i2 i3 hn hA (ix+1) _ (by simp only [ak,ag,al];omega) h
 ·have h1:=oF h1
  rw [show (↑(Zn.cN d).length:Int).toNat - ix=0 by omega,qs] at h
  exact ⟨⟨q12,trivial,trivial⟩,h⟩
termination_by (↑(Zn.cN d).length:Int).toNat - ix
decreasing_by all_goals omega
def m29 (d:Deck):Model×Int:=bif ((m87 d).2 != (0:Int)) then (Model.mk (Deck.mk [] [] [] (0:Int)) (Stock.mk [] [] [] (0:Int) (0:Int) (0:Int)) [],(m87 d).2) else qs d (m87 d).1.cells (m87 d).1.logs (m87 d).1.tips (m87 d).1.start (m87 d).1.inn (m87 d).1.out ((↑(Zn.cN d).length:Int).toNat - 0) 0 []
theorem c29 (d:Deck) :Pure prog 29 [⟨.deck,d⟩] [.model,.int] (m29 d):=
 Pure.of_closed (C:=codes) (S:=sigs) mixed func29 (by kernel_rfl) (ac (by kernel_rfl)) fun A hA=>hA.go (t29x d) (by
  obtain ⟨r,h⟩:∃ r,m29 d=r:=⟨_,rfl⟩
  rw [h] at hA ⊢
  unfold m29 at h
  refine ⟨⟨q5,trivial⟩,_,c87 _,?_⟩
  refine ai h (fun g1 h=>?_) (fun g1 h=>?_)
  ·exact ⟨⟨q12,trivial,trivial⟩,h⟩
  ·refine hA.boxrow 2 10 3 .int (by kernel_rfl) (s':=zx d (m87 d).1.cells (m87 d).1.logs (m87 d).1.tips (m87 d).1.start (m87 d).1.inn (m87 d).1.out (0:Int) []) (by kernel_rfl) ?_
   exact sI d (m87 d).1.cells (m87 d).1.logs (m87 d).1.tips (m87 d).1.start (m87 d).1.inn (m87 d).1.out (wF d) hA 0 [] (by simp) h)
def oJ (i4:Int) (l3:List Cell) (l4:List Log):Nat→Nat→(List Tip)→(Stock×Int)
 | 0,ix,l5=>(Stock.mk l3 l4 l5 i4 (0:Int) (0:Int),(0:Int))
 | n+1,ix,l5=>oJ i4 l3 l4 n (ix+1) (l5++[Tip.mk (1:Int) (0:Int)])
theorem sE (i4:Int) (l3:List Cell) (l4:List Log) (i5:Int)  (hn:i5≤1000) {r:Stock×Int} {A:Pr} (hA:CL codes sigs f83 [.stock,.int] r A) (ix:Nat) (l5:List Tip) (hv:l5.length≤ix) (h:oJ i4 l3 l4 (i5.toNat - ix) ix l5=r):A (hd f83 2) (zt i4 l3 l4 i5 (ix:Int) l5):=by
 refine hA.go (HN i4 l3 l4 i5 (ix:Int) l5) (ah (fun h1=>?_) (fun h1=>?_))
 ·have h1:=oT h1
  have hil:i5.toNat - ix=(i5.toNat - (ix+1))+1:=by omega
  rw [hil,oJ] at h
  refine ⟨⟨q3,trivial⟩,⟨(by simp only [ag,al];omega),trivial⟩,?_⟩
  rw [au (by omega)]
  exact sE i4 l3 l4 i5 hn hA (ix+1) _ (by simp only [ak,ag,al];omega) h
 ·have h1:=oF h1
  rw [show i5.toNat - ix=0 by omega,oJ] at h
  exact ⟨⟨q7,trivial,trivial⟩,h⟩
termination_by i5.toNat - ix
decreasing_by all_goals omega
def mb (z0:Plate) (kc0:Int→(List Cell)→(List Log)→(Stock×Int)):Nat→Nat→Int→(List Cell)→(List Log)→(Stock×Int)
 | 0,ix,i2,l1,l2=>kc0 i2 l1 l2
 | n+1,ix,i2,l1,l2=>bif decide ((ix:Int) < (↑(z0).start.length:Int)) then mb z0 kc0 n (ix+1) (w64 (i2+(z0).start.getD (ix) Ty.int.dflt)) (l1++[(oU (z0).cap ((z0).start.getD (ix) Ty.int.dflt)).1]) (l2++[(AL (8:Int)).1]) else mb z0 kc0 n (ix+1) (w64 (i2+(0:Int))) (l1++[(oU (z0).cap (0:Int)).1]) (l2++[(AL (8:Int)).1])
theorem oa (d:Deck) (i3:Int)  (hk:PlB d) (hp:i3.toNat < 4) {r:Stock×Int} {A:Pr} (hA:CL codes sigs f83 [.stock,.int] r A) (kc0:Int→(List Cell)→(List Log)→(Stock×Int)) (hkc0:∀ (i4':Int) (l3':List Cell) (l4':List Log),(l3'.length≤1536 * (i3.toNat+1)∧l4'.length≤1536 * (i3.toNat+1))→kc0 i4' l3' l4'=r→A (hd f83 0) (wk d (w64 (i3+(1:Int))) i4' l3' l4')) (ix:Nat) (i2:Int) (l1:List Cell) (l2:List Log) (hv:l1.length≤1536 * i3.toNat+ix∧l2.length≤1536 * i3.toNat+ix∧ix≤1536) (h:mb (d.plates.getD i3.toNat Ty.plate.dflt) kc0 ((w64 ((d.plates.getD i3.toNat Ty.plate.dflt).rows * (d.plates.getD i3.toNat Ty.plate.dflt).cols)).toNat - ix) ix i2 l1 l2=r):A (hd f83 1) (wj d i3 (ix:Int) i2 l1 l2):=by
 refine hA.go (HO d i3 (ix:Int) i2 l1 l2) (ah (fun h1=>?_) (fun h1=>?_))
 ·have h1:=oT h1
  have hil:(w64 ((d.plates.getD i3.toNat Ty.plate.dflt).rows * (d.plates.getD i3.toNat Ty.plate.dflt).cols)).toNat - ix=((w64 ((d.plates.getD i3.toNat Ty.plate.dflt).rows * (d.plates.getD i3.toNat Ty.plate.dflt).cols)).toNat - (ix+1))+1:=by omega
  rw [hil,mb] at h
  refine ai h (fun g1 h=>?_) (fun g1 h=>?_)
  ·have g1:=oT g1
   refine ⟨⟨⟨(by omega),(by omega)⟩,trivial⟩,⟨q2,q2,trivial⟩,_,LQ _ _,⟨q2,trivial⟩,_,LP _,⟨q4,trivial⟩,⟨(by simp only [ag,al];omega),trivial⟩,⟨q4,trivial⟩,⟨(by simp only [ag,al];omega),trivial⟩,?_⟩
   rw [au (by omega)]
   exact oa d i3 hk hp hA _ hkc0 (ix+1) _ _ _ (by first | omega | (have:=hk.at i3.toNat;simp only [ak,ag,al];omega)) h
  ·have g1:=oF g1
   refine ⟨⟨q2,q2,trivial⟩,_,LQ _ _,⟨q2,trivial⟩,_,LP _,⟨q4,trivial⟩,⟨(by simp only [ag,al];omega),trivial⟩,⟨q4,trivial⟩,⟨(by simp only [ag,al];omega),trivial⟩,?_⟩
   rw [au (by omega)]
   exact oa d i3 hk hp hA _ hkc0 (ix+1) _ _ _ (by first | omega | (have:=hk.at i3.toNat;simp only [ak,ag,al];omega)) h
 ·have h1:=oF h1
  rw [show (w64 ((d.plates.getD i3.toNat Ty.plate.dflt).rows * (d.plates.getD i3.toNat Ty.plate.dflt).cols)).toNat - ix=0 by omega,mb] at h
  exact hkc0 _ _ _ (by first | omega | (have:=hk.at i3.toNat;simp only [ak,ag,al];omega)) h
termination_by (w64 ((d.plates.getD i3.toNat Ty.plate.dflt).rows * (d.plates.getD i3.toNat Ty.plate.dflt).cols)).toNat - ix
decreasing_by all_goals omega
def oK (d:Deck):List Plate→Nat→Int→(List Cell)→(List Log)→(Stock×Int)
 | [],ix,i4,l3,l4=>oJ i4 l3 l4 ((Zn.bv d).2.1.toNat - 0) 0 []
 | z::zs,ix,i4,l3,l4=>mb z (fun i4' l3' l4'=>oK d zs (ix+1) i4' l3' l4') ((w64 ((z).rows * (z).cols)).toNat - 0) 0 i4 l3 l4
theorem sF (d:Deck)  (hk:PlB d) (hp:d.plates.length≤4) {r:Stock×Int} {A:Pr} (hA:CL codes sigs f83 [.stock,.int] r A) (ix:Nat) (i4:Int) (l3:List Cell) (l4:List Log) (hv:l3.length≤1536 * ix∧l4.length≤1536 * ix) (h:oK d (List.drop ix d.plates) ix i4 l3 l4=r):A (hd f83 0) (wk d (ix:Int) i4 l3 l4):=by
 refine hA.go (HP d (ix:Int) i4 l3 l4) (ah (fun h1=>?_) (fun h1=>?_))
 ·have h1:=oT h1
  have hil:ix < d.plates.length:=by omega
  rw [aW hil Ty.plate.dflt,oK] at h
  refine ⟨⟨⟨(by omega),(by omega)⟩,trivial⟩,?_⟩
  exact oa d (ix:Int) hk (by omega) hA _ (fun i4' l3' l4' hv h=>by rw [au (by omega)];exact sF d hk hp hA (ix+1) i4' l3' l4' (by first | omega | (have:=hk.at i3.toNat;simp only [ak,ag,al];omega)) h) 0 i4 l3 l4 (by omega) h
 ·have h1:=oF h1
  rw [dN (by omega),oK] at h
  refine ⟨⟨q5,trivial⟩,_,Zn.Bl _,?_⟩
  refine hA.boxrow 1 2 194 .tip (by kernel_rfl) (s':=zt i4 l3 l4 (Zn.bv d).2.1 (0:Int) []) (by kernel_rfl) ?_
  exact sE i4 l3 l4 (Zn.bv d).2.1 (by have:=qN d;omega) hA 0 [] (by simp) h
termination_by d.plates.length - ix
decreasing_by all_goals omega
def m83 (d:Deck):Stock×Int:=bif ((Zn.dc d) != (0:Int)) then (Stock.mk [] [] [] (0:Int) (0:Int) (0:Int),(Zn.dc d)) else oK d d.plates 0 (0:Int) [] []
theorem c83 (d:Deck) :Pure prog 83 [⟨.deck,d⟩] [.stock,.int] (m83 d):=
 Pure.of_closed (C:=codes) (S:=sigs) mixed func83 (by kernel_rfl) (ac (by kernel_rfl)) fun A hA=>hA.go (t83x d) (by
  obtain ⟨r,h⟩:∃ r,m83 d=r:=⟨_,rfl⟩
  rw [h] at hA ⊢
  unfold m83 at h
  refine ⟨⟨q5,trivial⟩,_,Zn.c47 _,?_⟩
  refine ai h (fun g1 h=>?_) (fun g1 h=>?_)
  ·exact ⟨⟨q7,trivial,trivial⟩,h⟩
  ·refine hA.boxrow 2 0 76 .cell (by kernel_rfl) rfl ?_
   refine hA.boxrow 2 1 146 .log (by kernel_rfl) (s':=wk d (0:Int) (0:Int) [] []) (by kernel_rfl) ?_
   exact sF d (plB (cO g1)) (cO g1).plates hA 0 (0:Int) [] [] (by simp) h)
def jG (s:Stock) (z0:Plate) (kc0:Int→Int→(Int×Bool)):Nat→Nat→Int→Int→(Int×Bool)
 | 0,ix,i1,i2=>kc0 i1 i2
 | n+1,ix,i1,i2=>bif (!(eN (s.cells.getD i2.toNat Ty.cell.dflt))) then ((0:Int),false) else bif ((s.cells.getD i2.toNat Ty.cell.dflt).cap != (z0).cap) then ((0:Int),false) else bif (!(ik (s.logs.getD i2.toNat Ty.log.dflt))) then ((0:Int),false) else bif ((s.logs.getD i2.toNat Ty.log.dflt).room != (8:Int)) then ((0:Int),false) else bif ((s.logs.getD i2.toNat Ty.log.dflt).last != (s.cells.getD i2.toNat Ty.cell.dflt).ver) then ((0:Int),false) else bif decide ((ix:Int) < (↑(z0).start.length:Int)) then jG s z0 kc0 n (ix+1) (w64 (i1+(z0).start.getD (ix) Ty.int.dflt)) (w64 (i2+(1:Int))) else jG s z0 kc0 n (ix+1) i1 (w64 (i2+(1:Int)))
theorem mD (d:Deck) (s:Stock) (i5:Int) (hk:DeckOk d) (hl:(s.cells.length:Int)=bk (aK d)∧s.logs.length=s.cells.length)  {r:Int×Bool} {A:Pr} (hA:CL codes sigs f158 [.int,.bool] r A) (kc0:Int→Int→(Int×Bool)) (hkc0:∀ (i3' i4':Int),(0≤i4'∧i4'+bk ((aK d).drop (i5.toNat+1))=s.cells.length)→kc0 i3' i4'=r→A (hd f158 0) (rc d s i3' i4' (w64 (i5+(1:Int))))) (ix:Nat) (i1 i2:Int) (hv:0≤i2∧(ix:Int)≤plN d i5.toNat∧i2+(plN d i5.toNat - ix)+bk ((aK d).drop (i5.toNat+1))=s.cells.length) (h:jG s (d.plates.getD i5.toNat Ty.plate.dflt) kc0 ((w64 ((d.plates.getD i5.toNat Ty.plate.dflt).rows * (d.plates.getD i5.toNat Ty.plate.dflt).cols)).toNat - ix) ix i1 i2=r):A (hd f158 1) (qZ d s i5 i1 i2 (ix:Int)):=by
 refine hA.go (Fo d s i5 i1 i2 (ix:Int)) (ah (fun h1=>?_) (fun h1=>?_))
 ·have h1:=oT h1
  have hil:(w64 ((d.plates.getD i5.toNat Ty.plate.dflt).rows * (d.plates.getD i5.toNat Ty.plate.dflt).cols)).toNat - ix=((w64 ((d.plates.getD i5.toNat Ty.plate.dflt).rows * (d.plates.getD i5.toNat Ty.plate.dflt).cols)).toNat - (ix+1))+1:=by omega
  rw [hil,jG] at h
  have hb:=(plB hk).at i5.toNat
  have hn:=vO hk (i5.toNat+1)
  have hp:=hk.wells
  refine ⟨⟨⟨(by omega),(by omega)⟩,trivial⟩,⟨⟨(by omega),(by omega)⟩,trivial⟩,⟨q4,trivial⟩,_,Es _,?_⟩
  refine ai h (fun g1 h=>?_) (fun g1 h=>?_)
  ·exact ⟨⟨q2,trivial,trivial⟩,h⟩
  ·refine ai h (fun g2 h=>?_) (fun g2 h=>?_)
   ·exact ⟨⟨q2,trivial,trivial⟩,h⟩
   ·refine ⟨⟨q4,trivial⟩,_,GK _,?_⟩
    refine ai h (fun g3 h=>?_) (fun g3 h=>?_)
    ·exact ⟨⟨q2,trivial,trivial⟩,h⟩
    ·refine ai h (fun g4 h=>?_) (fun g4 h=>?_)
     ·exact ⟨⟨q2,trivial,trivial⟩,h⟩
     ·refine ai h (fun g5 h=>?_) (fun g5 h=>?_)
      ·exact ⟨⟨q2,trivial,trivial⟩,h⟩
      ·refine ai h (fun g6 h=>?_) (fun g6 h=>?_)
       ·have g6:=oT g6
        refine ⟨⟨⟨(by omega),(by omega)⟩,trivial⟩,?_⟩
        rw [au (by omega)]
        exact mD d s i5 hk hl  hA _ hkc0 (ix+1) _ _ (by rw [aA (by omega) (by omega)];omega) h
       ·have g6:=oF g6
        rw [au (by omega)]
        exact mD d s i5 hk hl  hA _ hkc0 (ix+1) _ _ (by rw [aA (by omega) (by omega)];omega) h
 ·have h1:=oF h1
  rw [show (w64 ((d.plates.getD i5.toNat Ty.plate.dflt).rows * (d.plates.getD i5.toNat Ty.plate.dflt).cols)).toNat - ix=0 by omega,jG] at h
  have hb:=(plB hk).at i5.toNat
  exact hkc0 _ _ (by first | omega | (rw [aq] at hv;omega)) h
termination_by (w64 ((d.plates.getD i5.toNat Ty.plate.dflt).rows * (d.plates.getD i5.toNat Ty.plate.dflt).cols)).toNat - ix
decreasing_by all_goals omega
def li (s:Stock):List Plate→Nat→Int→Int→(Int×Bool)
 | [],ix,i3,i4=>(i3,true)
 | z::zs,ix,i3,i4=>jG s z (fun i3' i4'=>li s zs (ix+1) i3' i4') ((w64 ((z).rows * (z).cols)).toNat - 0) 0 i3 i4
theorem qv (d:Deck) (s:Stock) (hk:DeckOk d) (hl:(s.cells.length:Int)=bk (aK d)∧s.logs.length=s.cells.length)  {r:Int×Bool} {A:Pr} (hA:CL codes sigs f158 [.int,.bool] r A) (ix:Nat) (i3 i4:Int) (hv:0≤i4∧i4+bk ((aK d).drop ix)=s.cells.length) (h:li s (List.drop ix d.plates) ix i3 i4=r):A (hd f158 0) (rc d s i3 i4 (ix:Int)):=by
 refine hA.go (Fp d s i3 i4 (ix:Int)) (ah (fun h1=>?_) (fun h1=>?_))
 ·have h1:=oT h1
  have hil:ix < d.plates.length:=by omega
  rw [aW hil Ty.plate.dflt,li] at h
  have hpl:=hk.plates
  refine ⟨⟨⟨(by omega),(by omega)⟩,trivial⟩,?_⟩
  exact mD d s (ix:Int) hk hl  hA _ (fun i3' i4' hv h=>by rw [au (by omega)];exact qv d s hk hl  hA (ix+1) i3' i4' (by first | omega | (rw [aq] at hv;omega)) h) 0 i3 i4 (by have:=DY hil;have:=CC hk ix;have e:(ix:Int).toNat=ix:=rfl;rw [e];omega) h
 ·have h1:=oF h1
  rw [dN (by omega),li] at h
  exact ⟨⟨q2,trivial,trivial⟩,h⟩
termination_by d.plates.length - ix
decreasing_by all_goals omega
def wV (d:Deck) (s:Stock):Int×Bool:=li s d.plates 0 (0:Int) (0:Int)
theorem GM (d:Deck) (s:Stock) (hk:DeckOk d) (hl:(s.cells.length:Int)=bk (aK d)∧s.logs.length=s.cells.length):Pure prog 158 [⟨.deck,d⟩,⟨.stock,s⟩] [.int,.bool] (wV d s):=
 Pure.of_closed (C:=codes) (S:=sigs) mixed func158 (by kernel_rfl) (ac (by kernel_rfl)) fun A hA=>hA.go (Kq d s) (by
  obtain ⟨r,h⟩:∃ r,wV d s=r:=⟨_,rfl⟩
  rw [h] at hA ⊢
  unfold wV at h
  exact qv d s hk hl  hA 0 (0:Int) (0:Int) (by exact ⟨by decide,by simpa using hl.1.symm⟩) h)
def qk (b:Stock):List Tip→Nat→Bool
 | [],ix=>true
 | z::zs,ix=>bif (!((z).state==(b.tips.getD (ix) Ty.tip.dflt).state && ((z).by'==(b.tips.getD (ix) Ty.tip.dflt).by' && true))) then false else qk b zs (ix+1)
theorem sv (a b:Stock) (hl:(a.cells.length≤1000∧a.logs.length≤1000∧a.tips.length≤1000)∧b.cells.length=a.cells.length∧b.logs.length=a.logs.length∧b.tips.length=a.tips.length∧∀ x∈a.logs,x.list.length≤1000000)  {r:Bool} {A:Pr} (hA:CL codes sigs f89 [.bool] r A) (ix:Nat) (h:qk b (List.drop ix a.tips) ix=r):A (hd f89 2) (zo a b (ix:Int)):=by
 refine hA.go (HF a b (ix:Int)) (ah (fun h1=>?_) (fun h1=>?_))
 ·have h1:=oT h1
  have hil:ix < a.tips.length:=by omega
  rw [aW hil Ty.tip.dflt,qk] at h
  refine ⟨⟨⟨(by omega),(by omega)⟩,trivial⟩,⟨⟨(by omega),(by omega)⟩,trivial⟩,?_⟩
  refine ai h (fun g1 h=>?_) (fun g1 h=>?_)
  ·exact ⟨q2,h⟩
  ·rw [au (by omega)]
   exact sv a b hl  hA (ix+1) h
 ·have h1:=oF h1
  rw [dN (by omega),qk] at h
  exact ⟨q2,h⟩
termination_by a.tips.length - ix
decreasing_by all_goals omega
def ql (a b:Stock):List Log→Nat→Bool
 | [],ix=>qk b a.tips 0
 | z::zs,ix=>bif (!(DV z (b.logs.getD (ix) Ty.log.dflt))) then false else ql a b zs (ix+1)
theorem sw (a b:Stock) (hl:(a.cells.length≤1000∧a.logs.length≤1000∧a.tips.length≤1000)∧b.cells.length=a.cells.length∧b.logs.length=a.logs.length∧b.tips.length=a.tips.length∧∀ x∈a.logs,x.list.length≤1000000)  {r:Bool} {A:Pr} (hA:CL codes sigs f89 [.bool] r A) (ix:Nat) (h:ql a b (List.drop ix a.logs) ix=r):A (hd f89 1) (zp a b (ix:Int)):=by
 refine hA.go (HG a b (ix:Int)) (ah (fun h1=>?_) (fun h1=>?_))
 ·have h1:=oT h1
  have hil:ix < a.logs.length:=by omega
  rw [aW hil Ty.log.dflt,ql] at h
  refine ⟨⟨⟨(by omega),(by omega)⟩,trivial⟩,⟨⟨(by omega),(by omega)⟩,trivial⟩,⟨q4,q4,trivial⟩,_,LK (hl.2.2.2.2 _ (jP hil)),?_⟩
  refine ai h (fun g1 h=>?_) (fun g1 h=>?_)
  ·exact ⟨q2,h⟩
  ·rw [au (by omega)]
   exact sw a b hl  hA (ix+1) h
 ·have h1:=oF h1
  rw [dN (by omega),ql] at h
  exact sv a b hl  hA 0 h
termination_by a.logs.length - ix
decreasing_by all_goals omega
def qm (a b:Stock):List Cell→Nat→Bool
 | [],ix=>ql a b a.logs 0
 | z::zs,ix=>bif (!((z).cap==(b.cells.getD (ix) Ty.cell.dflt).cap && ((z).vol==(b.cells.getD (ix) Ty.cell.dflt).vol && ((z).ver==(b.cells.getD (ix) Ty.cell.dflt).ver && true)))) then false else qm a b zs (ix+1)
theorem sx (a b:Stock) (hl:(a.cells.length≤1000∧a.logs.length≤1000∧a.tips.length≤1000)∧b.cells.length=a.cells.length∧b.logs.length=a.logs.length∧b.tips.length=a.tips.length∧∀ x∈a.logs,x.list.length≤1000000)  {r:Bool} {A:Pr} (hA:CL codes sigs f89 [.bool] r A) (ix:Nat) (h:qm a b (List.drop ix a.cells) ix=r):A (hd f89 0) (zq a b (ix:Int)):=by
 refine hA.go (HH a b (ix:Int)) (ah (fun h1=>?_) (fun h1=>?_))
 ·have h1:=oT h1
  have hil:ix < a.cells.length:=by omega
  rw [aW hil Ty.cell.dflt,qm] at h
  refine ⟨⟨⟨(by omega),(by omega)⟩,trivial⟩,⟨⟨(by omega),(by omega)⟩,trivial⟩,?_⟩
  refine ai h (fun g1 h=>?_) (fun g1 h=>?_)
  ·exact ⟨q2,h⟩
  ·rw [au (by omega)]
   exact sx a b hl  hA (ix+1) h
 ·have h1:=oF h1
  rw [dN (by omega),qm] at h
  exact sw a b hl  hA 0 h
termination_by a.cells.length - ix
decreasing_by all_goals omega
def m89 (a b:Stock):Bool:=bif ((a.cells.length:Int) != (b.cells.length:Int)) then false else bif ((a.logs.length:Int) != (b.logs.length:Int)) then false else bif ((a.tips.length:Int) != (b.tips.length:Int)) then false else bif (a.start != b.start) then false else bif (a.inn != b.inn) then false else bif (a.out != b.out) then false else qm a b a.cells 0
theorem c89 (a b:Stock) (hl:a.cells.length≤1000∧a.logs.length≤1000∧a.tips.length≤1000) (hg:∀ x∈a.logs,x.list.length≤1000000):Pure prog 89 [⟨.stock,a⟩,⟨.stock,b⟩] [.bool] (m89 a b):=
 Pure.of_closed (C:=codes) (S:=sigs) mixed func89 (by kernel_rfl) (ac (by kernel_rfl)) fun A hA=>hA.go (t89x a b) (by
  obtain ⟨r,h⟩:∃ r,m89 a b=r:=⟨_,rfl⟩
  rw [h] at hA ⊢
  unfold m89 at h
  refine ai h (fun g1 h=>?_) (fun g1 h=>?_)
  ·exact ⟨q2,h⟩
  ·refine ai h (fun g2 h=>?_) (fun g2 h=>?_)
   ·exact ⟨q2,h⟩
   ·refine ai h (fun g3 h=>?_) (fun g3 h=>?_)
    ·exact ⟨q2,h⟩
    ·refine ai h (fun g4 h=>?_) (fun g4 h=>?_)
     ·exact ⟨q2,h⟩
     ·refine ai h (fun g5 h=>?_) (fun g5 h=>?_)
      ·exact ⟨q2,h⟩
      ·refine ai h (fun g6 h=>?_) (fun g6 h=>?_)
       ·exact ⟨q2,h⟩
       ·exact sx a b ⟨hl,by simp at g1;omega,by simp at g2;omega,by simp at g3;omega,hg⟩  hA 0 h)
def qi (b:Deck):List Rack→Nat→Bool
 | [],ix=>true
 | z::zs,ix=>bif ((z).rows != (b.racks.getD (ix) Ty.rack.dflt).rows) then false else bif ((z).cols != (b.racks.getD (ix) Ty.rack.dflt).cols) then false else bif (!(vy [(z).x,(z).pitch,(z).reach] [(b.racks.getD (ix) Ty.rack.dflt).x,(b.racks.getD (ix) Ty.rack.dflt).pitch,(b.racks.getD (ix) Ty.rack.dflt).reach])) then false else qi b zs (ix+1)
theorem ss (a b:Deck) (hl:(a.borders.length≤1000∧a.plates.length≤1000∧a.racks.length≤1000∧∀ p∈a.plates,p.start.length≤1000000)∧b.plates.length=a.plates.length∧b.racks.length=a.racks.length)  {r:Bool} {A:Pr} (hA:CL codes sigs f90 [.bool] r A) (ix:Nat) (h:qi b (List.drop ix a.racks) ix=r):A (hd f90 1) (zm a b (ix:Int)):=by
 refine hA.go (HD a b (ix:Int)) (ah (fun h1=>?_) (fun h1=>?_))
 ·have h1:=oT h1
  have hil:ix < a.racks.length:=by omega
  rw [aW hil Ty.rack.dflt,qi] at h
  refine ⟨⟨⟨(by omega),(by omega)⟩,trivial⟩,⟨⟨(by omega),(by omega)⟩,trivial⟩,?_⟩
  refine ai h (fun g1 h=>?_) (fun g1 h=>?_)
  ·exact ⟨q2,h⟩
  ·refine ai h (fun g2 h=>?_) (fun g2 h=>?_)
   ·exact ⟨q2,h⟩
   ·refine ⟨⟨q2,q2,q2,trivial⟩,⟨q2,q2,q2,trivial⟩,⟨q2,q2,trivial⟩,_,Ev _ _ (by first | omega | (simp only [ag,al];omega)),?_⟩
    refine ai h (fun g3 h=>?_) (fun g3 h=>?_)
    ·exact ⟨q2,h⟩
    ·rw [au (by omega)]
     exact ss a b hl  hA (ix+1) h
 ·have h1:=oF h1
  rw [dN (by omega),qi] at h
  exact ⟨q2,h⟩
termination_by a.racks.length - ix
decreasing_by all_goals omega
def qj (a b:Deck):List Plate→Nat→Bool
 | [],ix=>qi b a.racks 0
 | z::zs,ix=>bif ((z).rows != (b.plates.getD (ix) Ty.plate.dflt).rows) then false else bif ((z).cols != (b.plates.getD (ix) Ty.plate.dflt).cols) then false else bif ((z).cap != (b.plates.getD (ix) Ty.plate.dflt).cap) then false else bif (!(eqL (z).start (b.plates.getD (ix) Ty.plate.dflt).start)) then false else bif (!(vy [(z).x,(z).pitch,(z).reach] [(b.plates.getD (ix) Ty.plate.dflt).x,(b.plates.getD (ix) Ty.plate.dflt).pitch,(b.plates.getD (ix) Ty.plate.dflt).reach])) then false else qj a b zs (ix+1)
theorem su (a b:Deck) (hl:(a.borders.length≤1000∧a.plates.length≤1000∧a.racks.length≤1000∧∀ p∈a.plates,p.start.length≤1000000)∧b.plates.length=a.plates.length∧b.racks.length=a.racks.length)  {r:Bool} {A:Pr} (hA:CL codes sigs f90 [.bool] r A) (ix:Nat) (h:qj a b (List.drop ix a.plates) ix=r):A (hd f90 0) (zn a b (ix:Int)):=by
 refine hA.go (HE a b (ix:Int)) (ah (fun h1=>?_) (fun h1=>?_))
 ·have h1:=oT h1
  have hil:ix < a.plates.length:=by omega
  rw [aW hil Ty.plate.dflt,qj] at h
  refine ⟨⟨⟨(by omega),(by omega)⟩,trivial⟩,⟨⟨(by omega),(by omega)⟩,trivial⟩,?_⟩
  refine ai h (fun g1 h=>?_) (fun g1 h=>?_)
  ·exact ⟨q2,h⟩
  ·refine ai h (fun g2 h=>?_) (fun g2 h=>?_)
   ·exact ⟨q2,h⟩
   ·refine ai h (fun g3 h=>?_) (fun g3 h=>?_)
    ·exact ⟨q2,h⟩
    ·refine ⟨⟨q2,q2,trivial⟩,_,Zn.c50 (hl.1.2.2.2 _ (jP hil)),?_⟩
     refine ai h (fun g4 h=>?_) (fun g4 h=>?_)
     ·exact ⟨q2,h⟩
     ·refine ⟨⟨q2,q2,q2,trivial⟩,⟨q2,q2,q2,trivial⟩,⟨q2,q2,trivial⟩,_,Ev _ _ (by first | omega | (simp only [ag,al];omega)),?_⟩
      refine ai h (fun g5 h=>?_) (fun g5 h=>?_)
      ·exact ⟨q2,h⟩
      ·rw [au (by omega)]
       exact su a b hl  hA (ix+1) h
 ·have h1:=oF h1
  rw [dN (by omega),qj] at h
  exact ss a b hl  hA 0 h
termination_by a.plates.length - ix
decreasing_by all_goals omega
def m90 (a b:Deck):Bool:=bif (!(vy a.borders b.borders)) then false else bif ((a.plates.length:Int) != (b.plates.length:Int)) then false else bif ((a.racks.length:Int) != (b.racks.length:Int)) then false else bif (a.arms != b.arms) then false else qj a b a.plates 0
theorem c90 (a b:Deck) (hl:a.borders.length≤1000∧a.plates.length≤1000∧a.racks.length≤1000∧∀ p∈a.plates,p.start.length≤1000000):Pure prog 90 [⟨.deck,a⟩,⟨.deck,b⟩] [.bool] (m90 a b):=
 Pure.of_closed (C:=codes) (S:=sigs) mixed func90 (by kernel_rfl) (ac (by kernel_rfl)) fun A hA=>hA.go (t90x a b) (by
  obtain ⟨r,h⟩:∃ r,m90 a b=r:=⟨_,rfl⟩
  rw [h] at hA ⊢
  unfold m90 at h
  refine ⟨⟨q2,q2,trivial⟩,_,Ev _ _ (by first | omega | (simp only [ag,al];omega)),?_⟩
  refine ai h (fun g1 h=>?_) (fun g1 h=>?_)
  ·exact ⟨q2,h⟩
  ·refine ai h (fun g2 h=>?_) (fun g2 h=>?_)
   ·exact ⟨q2,h⟩
   ·refine ai h (fun g3 h=>?_) (fun g3 h=>?_)
    ·exact ⟨q2,h⟩
    ·refine ai h (fun g4 h=>?_) (fun g4 h=>?_)
     ·exact ⟨q2,h⟩
     ·exact su a b ⟨hl,by simp at g2;omega,by simp at g3;omega⟩  hA 0 h)
end Go.Proofs.Mn

namespace Go.Proofs.Mo
open Go.Proofs.Tryz
open Go Go.VL
set_option maxRecDepth 20000
open Go.Proofs.Zn Go.Proofs.Mn
def Gj (w x:Int):Bool:=bif (x==(0:Int)) then true else x==w
theorem c272 (w x:Int) :Gc prog 272 [i64 x,.ptr 0 0] [(0,.box [i64 w])] 1 ((fun x:Bool=>(⟨[bZ x],[(0,.box [i64 w])],1⟩:GRes)) (Gj w x)):=
 Gc.of_closed (C:=codes) (S:=sigs) mixed func272 (by kernel_rfl) (fun i T t ys hi h=>⟨ys,h,rfl⟩) fun A hA=>hA.go (t272 w x) (by
  obtain ⟨r,h⟩:∃ r,Gj w x=r:=⟨_,rfl⟩
  rw [h] at hA ⊢
  unfold Gj at h
  refine ai h (fun g1 h=>?_) (fun g1 h=>?_)
  ·exact ⟨trivial,.of_eq (by rw [← h];try rfl)⟩
  ·exact ⟨trivial,.of_eq (by rw [← h];try rfl)⟩)
def iM (o:List Int) (w x:Int):Bool := !(Gj w (o.getD x.toNat Ty.int.dflt))
theorem El (o:List Int) (w x:Int) (hx:0≤x∧x < o.length):Gc prog 302 [i64 x,.ptr 0 0,.ptr 1 0] [(0,.box [.clo (.func 272) [] [.ptr 2 0]]),(1,.box [.d (.sl .int o)]),(2,.box [i64 w])] 3 ((fun x:Bool=>(⟨[bZ x],[(0,.box [.clo (.func 272) [] [.ptr 2 0]]),(1,.box [.d (.sl .int o)]),(2,.box [i64 w])],3⟩:GRes)) (iM o w x)):=
 Gc.of_closed (C:=codes) (S:=sigs) mixed func302 (by kernel_rfl) (fun i T t ys hi h=>⟨ys,h,rfl⟩) fun A hA=>hA.go (BL o w x) (by
  obtain ⟨r,h⟩:∃ r,iM o w x=r:=⟨_,rfl⟩
  rw [h] at hA ⊢
  unfold iM at h
  exact ⟨⟨⟨(by omega),(by omega)⟩,trivial⟩,_,c272 _ _,trivial,.of_eq (by rw [← h];try rfl)⟩)
def Gi (w x:Int):Bool:=x==w
theorem c273 (w x:Int) :Gc prog 273 [i64 x,.ptr 0 0] [(0,.box [i64 w])] 1 ((fun x:Bool=>(⟨[bZ x],[(0,.box [i64 w])],1⟩:GRes)) (Gi w x)):=
 Gc.of_closed (C:=codes) (S:=sigs) mixed func273 (by kernel_rfl) (fun i T t ys hi h=>⟨ys,h,rfl⟩) fun A hA=>hA.go (t273 w x) (by
  obtain ⟨r,h⟩:∃ r,Gi w x=r:=⟨_,rfl⟩
  rw [h] at hA ⊢
  unfold Gi at h
  exact ⟨trivial,.of_eq (by rw [← h];try rfl)⟩)
def iL (o:List Int) (w x:Int):Bool := !(Gi w (o.getD x.toNat Ty.int.dflt))
theorem Ek (o:List Int) (w x:Int) (hx:0≤x∧x < o.length):Gc prog 302 [i64 x,.ptr 0 0,.ptr 1 0] [(0,.box [.clo (.func 273) [] [.ptr 2 0]]),(1,.box [.d (.sl .int o)]),(2,.box [i64 w])] 3 ((fun x:Bool=>(⟨[bZ x],[(0,.box [.clo (.func 273) [] [.ptr 2 0]]),(1,.box [.d (.sl .int o)]),(2,.box [i64 w])],3⟩:GRes)) (iL o w x)):=
 Gc.of_closed (C:=codes) (S:=sigs) mixed func302 (by kernel_rfl) (fun i T t ys hi h=>⟨ys,h,rfl⟩) fun A hA=>hA.go (BK o w x) (by
  obtain ⟨r,h⟩:∃ r,iL o w x=r:=⟨_,rfl⟩
  rw [h] at hA ⊢
  unfold iL at h
  exact ⟨⟨⟨(by omega),(by omega)⟩,trivial⟩,_,c273 _ _,trivial,.of_eq (by rw [← h];try rfl)⟩)
def dQ (o:List Int) (w:Int):List Int→Nat→Int
 | [],ix=>(-1:Int)
 | z::zs,ix=>bif (iM o w (z)) then (ix:Int) else dQ o w zs (ix+1)
theorem iR (o:List Int) (w:Int) (l:List Int) (hl:l.length≤1000000) (hb:∀ x∈l,0≤x∧x < o.length)  {r:Int} {A:List Item→AS→Prop} (hA:Closed prog codes sigs f161 (dX 3) (fun r'=>GRes.Le r' ((fun x:Int=>(⟨[i64 x],[(0,.box [.clo (.func 272) [] [.ptr 2 0]]),(1,.box [.d (.sl .int o)]),(2,.box [i64 w])],3⟩:GRes)) r)) 3 A) (ix:Nat) (h:dQ o w (List.drop ix l) ix=r):A (hd f161 0) (gv o w l (ix:Int)):=by
 refine hA.go (pK o w l (ix:Int)) (ah (fun h1=>?_) (fun h1=>?_))
 ·have h1:=oT h1
  have hil:ix < l.length:=by omega
  rw [aW hil Ty.int.dflt,dQ] at h
  refine ⟨⟨⟨(by omega),(by omega)⟩,trivial⟩,_,El _ _ _ (hb _ (jP hil)),?_⟩
  refine ai h (fun g1 h=>?_) (fun g1 h=>?_)
  ·exact ⟨trivial,.of_eq (by rw [← h];try rfl)⟩
  ·rw [au (by omega)]
   exact iR o w l hl hb  hA (ix+1) h
 ·have h1:=oF h1
  rw [dN (by omega),dQ] at h
  exact ⟨trivial,.of_eq (by rw [← h];try rfl)⟩
termination_by l.length - ix
decreasing_by all_goals omega
def dK (o:List Int) (w:Int) (l:List Int):Int:=dQ o w l 0
theorem un (o:List Int) (w:Int) (l:List Int) (hl:l.length≤1000000) (hb:∀ x∈l,0≤x∧x < o.length):Gc prog 161 [.d (.sl .int l),.clo (.func 302) [] [.ptr 0 0,.ptr 1 0]] [(0,.box [.clo (.func 272) [] [.ptr 2 0]]),(1,.box [.d (.sl .int o)]),(2,.box [i64 w])] 3 ((fun x:Int=>(⟨[i64 x],[(0,.box [.clo (.func 272) [] [.ptr 2 0]]),(1,.box [.d (.sl .int o)]),(2,.box [i64 w])],3⟩:GRes)) (dK o w l)):=
 Gc.of_closed (C:=codes) (S:=sigs) mixed func161 (by kernel_rfl) (fun i T t ys hi h=>⟨ys,h,rfl⟩) fun A hA=>hA.go (tu o w l) (by
  obtain ⟨r,h⟩:∃ r,dK o w l=r:=⟨_,rfl⟩
  rw [h] at hA ⊢
  unfold dK at h
  exact iR o w l hl hb  hA 0 h)
def dP (o:List Int) (w:Int):List Int→Nat→Int
 | [],ix=>(-1:Int)
 | z::zs,ix=>bif (iL o w (z)) then (ix:Int) else dP o w zs (ix+1)
theorem iQ (o:List Int) (w:Int) (l:List Int) (hl:l.length≤1000000) (hb:∀ x∈l,0≤x∧x < o.length)  {r:Int} {A:List Item→AS→Prop} (hA:Closed prog codes sigs f161 (dX 3) (fun r'=>GRes.Le r' ((fun x:Int=>(⟨[i64 x],[(0,.box [.clo (.func 273) [] [.ptr 2 0]]),(1,.box [.d (.sl .int o)]),(2,.box [i64 w])],3⟩:GRes)) r)) 3 A) (ix:Nat) (h:dP o w (List.drop ix l) ix=r):A (hd f161 0) (gu o w l (ix:Int)):=by
 refine hA.go (pJ o w l (ix:Int)) (ah (fun h1=>?_) (fun h1=>?_))
 ·have h1:=oT h1
  have hil:ix < l.length:=by omega
  rw [aW hil Ty.int.dflt,dP] at h
  refine ⟨⟨⟨(by omega),(by omega)⟩,trivial⟩,_,Ek _ _ _ (hb _ (jP hil)),?_⟩
  refine ai h (fun g1 h=>?_) (fun g1 h=>?_)
  ·exact ⟨trivial,.of_eq (by rw [← h];try rfl)⟩
  ·rw [au (by omega)]
   exact iQ o w l hl hb  hA (ix+1) h
 ·have h1:=oF h1
  rw [dN (by omega),dP] at h
  exact ⟨trivial,.of_eq (by rw [← h];try rfl)⟩
termination_by l.length - ix
decreasing_by all_goals omega
def dJ (o:List Int) (w:Int) (l:List Int):Int:=dP o w l 0
theorem um (o:List Int) (w:Int) (l:List Int) (hl:l.length≤1000000) (hb:∀ x∈l,0≤x∧x < o.length):Gc prog 161 [.d (.sl .int l),.clo (.func 302) [] [.ptr 0 0,.ptr 1 0]] [(0,.box [.clo (.func 273) [] [.ptr 2 0]]),(1,.box [.d (.sl .int o)]),(2,.box [i64 w])] 3 ((fun x:Int=>(⟨[i64 x],[(0,.box [.clo (.func 273) [] [.ptr 2 0]]),(1,.box [.d (.sl .int o)]),(2,.box [i64 w])],3⟩:GRes)) (dJ o w l)):=
 Gc.of_closed (C:=codes) (S:=sigs) mixed func161 (by kernel_rfl) (fun i T t ys hi h=>⟨ys,h,rfl⟩) fun A hA=>hA.go (tt o w l) (by
  obtain ⟨r,h⟩:∃ r,dJ o w l=r:=⟨_,rfl⟩
  rw [h] at hA ⊢
  unfold dJ at h
  exact iQ o w l hl hb  hA 0 h)
def rz (o:List Int) (x:Int):Bool:=bif decide (x < (0:Int)) then true else decide (x≥(o.length:Int))
theorem c301 (o:List Int) (x:Int) :Gc prog 301 [i64 x,.ptr 0 0] [(0,.box [.d (.sl .int o)])] 1 ((fun x:Bool=>(⟨[bZ x],[(0,.box [.d (.sl .int o)])],1⟩:GRes)) (rz o x)):=
 Gc.of_closed (C:=codes) (S:=sigs) mixed func301 (by kernel_rfl) (fun i T t ys hi h=>⟨ys,h,rfl⟩) fun A hA=>hA.go (t301 o x) (by
  obtain ⟨r,h⟩:∃ r,rz o x=r:=⟨_,rfl⟩
  rw [h] at hA ⊢
  unfold rz at h
  refine ai h (fun g1 h=>?_) (fun g1 h=>?_)
  ·have g1:=oT g1
   exact ⟨trivial,.of_eq (by rw [← h];try rfl)⟩
  ·have g1:=oF g1
   exact ⟨trivial,.of_eq (by rw [← h];try rfl)⟩)
def AD (w:Int):Bool:=bif decide (w≥(1:Int)) then decide (w≤(8:Int)) else false
theorem Jf (w:Int) :Pure prog 299 [⟨.int,w⟩] [.bool] (AD w):=
 Pure.of_closed (C:=codes) (S:=sigs) mixed func299 (by kernel_rfl) (ac (by kernel_rfl)) fun A hA=>hA.go (t299 w) (by
  obtain ⟨r,h⟩:∃ r,AD w=r:=⟨_,rfl⟩
  rw [h] at hA ⊢
  unfold AD at h
  refine ai h (fun g1 h=>?_) (fun g1 h=>?_)
  ·have g1:=oT g1
   exact ⟨q2,h⟩
  ·have g1:=oF g1
   exact ⟨q2,h⟩)
def Ga (x:Int):Bool:=bif (x != (0:Int)) then !(AD x) else false
theorem c311 (x:Int) :Gc prog 311 [i64 x] [] 0 ((fun x:Bool=>(⟨[bZ x],[],0⟩:GRes)) (Ga x)):=
 Gc.of_closed (C:=codes) (S:=sigs) mixed func311 (by kernel_rfl) (fun i T t ys hi h=>⟨ys,h,rfl⟩) fun A hA=>hA.go (t311 x) (by
  obtain ⟨r,h⟩:∃ r,Ga x=r:=⟨_,rfl⟩
  rw [h] at hA ⊢
  unfold Ga at h
  refine ai h (fun g1 h=>?_) (fun g1 h=>?_)
  ·exact ⟨⟨q2,trivial⟩,_,Jf _,trivial,.of_eq (by rw [← h];try rfl)⟩
  ·exact ⟨trivial,.of_eq (by rw [← h];try rfl)⟩)
def Dj (x:Int):Bool:=decide (x > (1:Int))
theorem c222 (x:Int) :Gc prog 222 [i64 x] [] 0 ((fun x:Bool=>(⟨[bZ x],[],0⟩:GRes)) (Dj x)):=
 Gc.of_closed (C:=codes) (S:=sigs) mixed func222 (by kernel_rfl) (fun i T t ys hi h=>⟨ys,h,rfl⟩) fun A hA=>hA.go (t222 x) (by
  obtain ⟨r,h⟩:∃ r,Dj x=r:=⟨_,rfl⟩
  rw [h] at hA ⊢
  unfold Dj at h
  exact ⟨trivial,.of_eq (by rw [← h];try rfl)⟩)
def m93 (m:Model) (x:Int):Bool:=bif decide (x < (0:Int)) then true else decide (x > m.deck.arms)
theorem c93 (m:Model) (x:Int) :Gc prog 93 [i64 x,.ptr 0 0] [(0,.box (ii m))] 1 ((fun x:Bool=>(⟨[bZ x],[(0,.box (ii m))],1⟩:GRes)) (m93 m x)):=
 Gc.of_closed (C:=codes) (S:=sigs) mixed func93 (by kernel_rfl) (fun i T t ys hi h=>⟨ys,h,rfl⟩) fun A hA=>hA.go (t93 m x) (by
  obtain ⟨r,h⟩:∃ r,m93 m x=r:=⟨_,rfl⟩
  rw [h] at hA ⊢
  unfold m93 at h
  refine ai h (fun g1 h=>?_) (fun g1 h=>?_)
  ·have g1:=oT g1
   exact ⟨trivial,.of_eq (by rw [← h];try rfl)⟩
  ·have g1:=oF g1
   exact ⟨trivial,.of_eq (by rw [← h];try rfl)⟩)
def iP :List Int→Nat→Int
 | [],ix=>(-1:Int)
 | z::zs,ix=>bif (Ga (z)) then (ix:Int) else iP zs (ix+1)
theorem ld (l:List Int) (hl:l.length≤1000000)  {r:Int} {A:List Item→AS→Prop} (hA:Closed prog codes sigs f161 (dX 0) (fun r'=>GRes.Le r' ((fun x:Int=>(⟨[i64 x],[],0⟩:GRes)) r)) 0 A) (ix:Nat) (h:iP (List.drop ix l) ix=r):A (hd f161 0) (ky l (ix:Int)):=by
 refine hA.go (wt l (ix:Int)) (ah (fun h1=>?_) (fun h1=>?_))
 ·have h1:=oT h1
  have hil:ix < l.length:=by omega
  rw [aW hil Ty.int.dflt,iP] at h
  refine ⟨⟨⟨(by omega),(by omega)⟩,trivial⟩,_,c311 _,?_⟩
  refine ai h (fun g1 h=>?_) (fun g1 h=>?_)
  ·exact ⟨trivial,.of_eq (by rw [← h];try rfl)⟩
  ·rw [au (by omega)]
   exact ld l hl  hA (ix+1) h
 ·have h1:=oF h1
  rw [dN (by omega),iP] at h
  exact ⟨trivial,.of_eq (by rw [← h];try rfl)⟩
termination_by l.length - ix
decreasing_by all_goals omega
def nr (l:List Int):Int:=iP l 0
theorem Et (l:List Int) (hl:l.length≤1000000):Gc prog 161 [.d (.sl .int l),.clo (.func 311) [] []] [] 0 ((fun x:Int=>(⟨[i64 x],[],0⟩:GRes)) (nr l)):=
 Gc.of_closed (C:=codes) (S:=sigs) mixed func161 (by kernel_rfl) (fun i T t ys hi h=>⟨ys,h,rfl⟩) fun A hA=>hA.go (BQ l) (by
  obtain ⟨r,h⟩:∃ r,nr l=r:=⟨_,rfl⟩
  rw [h] at hA ⊢
  unfold nr at h
  exact ld l hl  hA 0 h)
def ga (m:Model):List Int→Nat→Int
 | [],ix=>(-1:Int)
 | z::zs,ix=>bif (m93 m (z)) then (ix:Int) else ga m zs (ix+1)
theorem mc (m:Model) (l:List Int) (hl:l.length≤1000000)  {r:Int} {A:List Item→AS→Prop} (hA:Closed prog codes sigs f161 (dX 1) (fun r'=>GRes.Le r' ((fun x:Int=>(⟨[i64 x],[(0,.box (ii m))],1⟩:GRes)) r)) 1 A) (ix:Nat) (h:ga m (List.drop ix l) ix=r):A (hd f161 0) (lQ m l (ix:Int)):=by
 refine hA.go (zK m l (ix:Int)) (ah (fun h1=>?_) (fun h1=>?_))
 ·have h1:=oT h1
  have hil:ix < l.length:=by omega
  rw [aW hil Ty.int.dflt,ga] at h
  refine ⟨⟨⟨(by omega),(by omega)⟩,trivial⟩,_,c93 _ _,?_⟩
  refine ai h (fun g1 h=>?_) (fun g1 h=>?_)
  ·exact ⟨trivial,.of_eq (by rw [← h];try rfl)⟩
  ·rw [au (by omega)]
   exact mc m l hl  hA (ix+1) h
 ·have h1:=oF h1
  rw [dN (by omega),ga] at h
  exact ⟨trivial,.of_eq (by rw [← h];try rfl)⟩
termination_by l.length - ix
decreasing_by all_goals omega
def pq (m:Model) (l:List Int):Int:=ga m l 0
theorem GL (m:Model) (l:List Int) (hl:l.length≤1000000):Gc prog 161 [.d (.sl .int l),.clo (.func 93) [] [.ptr 0 0]] [(0,.box (ii m))] 1 ((fun x:Int=>(⟨[i64 x],[(0,.box (ii m))],1⟩:GRes)) (pq m l)):=
 Gc.of_closed (C:=codes) (S:=sigs) mixed func161 (by kernel_rfl) (fun i T t ys hi h=>⟨ys,h,rfl⟩) fun A hA=>hA.go (Fk m l) (by
  obtain ⟨r,h⟩:∃ r,pq m l=r:=⟨_,rfl⟩
  rw [h] at hA ⊢
  unfold pq at h
  exact mc m l hl  hA 0 h)
def fX :List Int→Nat→Int
 | [],ix=>(-1:Int)
 | z::zs,ix=>bif (Dj (z)) then (ix:Int) else fX zs (ix+1)
theorem lh (l:List Int) (hl:l.length≤1000000)  {r:Int} {A:List Item→AS→Prop} (hA:Closed prog codes sigs f161 (dX 0) (fun r'=>GRes.Le r' ((fun x:Int=>(⟨[i64 x],[],0⟩:GRes)) r)) 0 A) (ix:Nat) (h:fX (List.drop ix l) ix=r):A (hd f161 0) (kA l (ix:Int)):=by
 refine hA.go (wv l (ix:Int)) (ah (fun h1=>?_) (fun h1=>?_))
 ·have h1:=oT h1
  have hil:ix < l.length:=by omega
  rw [aW hil Ty.int.dflt,fX] at h
  refine ⟨⟨⟨(by omega),(by omega)⟩,trivial⟩,_,c222 _,?_⟩
  refine ai h (fun g1 h=>?_) (fun g1 h=>?_)
  ·exact ⟨trivial,.of_eq (by rw [← h];try rfl)⟩
  ·rw [au (by omega)]
   exact lh l hl  hA (ix+1) h
 ·have h1:=oF h1
  rw [dN (by omega),fX] at h
  exact ⟨trivial,.of_eq (by rw [← h];try rfl)⟩
termination_by l.length - ix
decreasing_by all_goals omega
def nu (l:List Int):Int:=fX l 0
theorem Eu (l:List Int) (hl:l.length≤1000000):Gc prog 161 [.d (.sl .int l),.clo (.func 222) [] []] [] 0 ((fun x:Int=>(⟨[i64 x],[],0⟩:GRes)) (nu l)):=
 Gc.of_closed (C:=codes) (S:=sigs) mixed func161 (by kernel_rfl) (fun i T t ys hi h=>⟨ys,h,rfl⟩) fun A hA=>hA.go (BS l) (by
  obtain ⟨r,h⟩:∃ r,nu l=r:=⟨_,rfl⟩
  rw [h] at hA ⊢
  unfold nu at h
  exact lh l hl  hA 0 h)
def fW (o:List Int):List Int→Nat→Int
 | [],ix=>(-1:Int)
 | z::zs,ix=>bif (rz o (z)) then (ix:Int) else fW o zs (ix+1)
theorem lf (o l:List Int) (hl:l.length≤1000000)  {r:Int} {A:List Item→AS→Prop} (hA:Closed prog codes sigs f161 (dX 1) (fun r'=>GRes.Le r' ((fun x:Int=>(⟨[i64 x],[(0,.box [.d (.sl .int o)])],1⟩:GRes)) r)) 1 A) (ix:Nat) (h:fW o (List.drop ix l) ix=r):A (hd f161 0) (kz o l (ix:Int)):=by
 refine hA.go (wu o l (ix:Int)) (ah (fun h1=>?_) (fun h1=>?_))
 ·have h1:=oT h1
  have hil:ix < l.length:=by omega
  rw [aW hil Ty.int.dflt,fW] at h
  refine ⟨⟨⟨(by omega),(by omega)⟩,trivial⟩,_,c301 _ _,?_⟩
  refine ai h (fun g1 h=>?_) (fun g1 h=>?_)
  ·exact ⟨trivial,.of_eq (by rw [← h];try rfl)⟩
  ·rw [au (by omega)]
   exact lf o l hl  hA (ix+1) h
 ·have h1:=oF h1
  rw [dN (by omega),fW] at h
  exact ⟨trivial,.of_eq (by rw [← h];try rfl)⟩
termination_by l.length - ix
decreasing_by all_goals omega
def eu (o l:List Int):Int:=fW o l 0
theorem vW (o l:List Int) (hl:l.length≤1000000):Gc prog 161 [.d (.sl .int l),.clo (.func 301) [] [.ptr 0 0]] [(0,.box [.d (.sl .int o)])] 1 ((fun x:Int=>(⟨[i64 x],[(0,.box [.d (.sl .int o)])],1⟩:GRes)) (eu o l)):=
 Gc.of_closed (C:=codes) (S:=sigs) mixed func161 (by kernel_rfl) (fun i T t ys hi h=>⟨ys,h,rfl⟩) fun A hA=>hA.go (BR o l) (by
  obtain ⟨r,h⟩:∃ r,eu o l=r:=⟨_,rfl⟩
  rw [h] at hA ⊢
  unfold eu at h
  exact lf o l hl  hA 0 h)
def pp (l:List Int):Bool:=decide ((nr l)≥(0:Int))
theorem GF (l:List Int) (hl:l.length≤1000000):Gc prog 92 [.d (.sl .int l),.clo (.func 311) [] []] [] 0 ((fun x:Bool=>(⟨[bZ x],[],0⟩:GRes)) (pp l)):=
 Gc.of_closed (C:=codes) (S:=sigs) mixed func92 (by kernel_rfl) (fun i T t ys hi h=>⟨ys,h,rfl⟩) fun A hA=>hA.go (Fh l) (by
  obtain ⟨r,h⟩:∃ r,pp l=r:=⟨_,rfl⟩
  rw [h] at hA ⊢
  unfold pp at h
  exact ⟨_,Et _ (by omega),trivial,.of_eq (by rw [← h];try rfl)⟩)
def nY (m:Model) (l:List Int):Bool:=decide ((pq m l)≥(0:Int))
theorem Jd (m:Model) (l:List Int) (hl:l.length≤1000000):Gc prog 92 [.d (.sl .int l),.clo (.func 93) [] [.ptr 0 0]] [(0,.box (ii m))] 1 ((fun x:Bool=>(⟨[bZ x],[(0,.box (ii m))],1⟩:GRes)) (nY m l)):=
 Gc.of_closed (C:=codes) (S:=sigs) mixed func92 (by kernel_rfl) (fun i T t ys hi h=>⟨ys,h,rfl⟩) fun A hA=>hA.go (HC m l) (by
  obtain ⟨r,h⟩:∃ r,nY m l=r:=⟨_,rfl⟩
  rw [h] at hA ⊢
  unfold nY at h
  exact ⟨_,GL _ _ (by omega),trivial,.of_eq (by rw [← h];try rfl)⟩)
def nh (l:List Int):Bool:=decide ((nu l)≥(0:Int))
theorem GH (l:List Int) (hl:l.length≤1000000):Gc prog 92 [.d (.sl .int l),.clo (.func 222) [] []] [] 0 ((fun x:Bool=>(⟨[bZ x],[],0⟩:GRes)) (nh l)):=
 Gc.of_closed (C:=codes) (S:=sigs) mixed func92 (by kernel_rfl) (fun i T t ys hi h=>⟨ys,h,rfl⟩) fun A hA=>hA.go (Fi l) (by
  obtain ⟨r,h⟩:∃ r,nh l=r:=⟨_,rfl⟩
  rw [h] at hA ⊢
  unfold nh at h
  exact ⟨_,Eu _ (by omega),trivial,.of_eq (by rw [← h];try rfl)⟩)
def AB (c:Cell):Int:=bif (!(eN c)) then (0:Int) else w64 (c.cap - c.vol)
theorem c326 (c:Cell) :Pure prog 326 [⟨.cell,c⟩] [.int] (AB c):=
 Pure.of_closed (C:=codes) (S:=sigs) mixed func326 (by kernel_rfl) (ac (by kernel_rfl)) fun A hA=>hA.go (t326 c) (by
  obtain ⟨r,h⟩:∃ r,AB c=r:=⟨_,rfl⟩
  rw [h] at hA ⊢
  unfold AB at h
  refine ⟨⟨q4,trivial⟩,_,Mn.Es _,?_⟩
  refine ai h (fun g1 h=>?_) (fun g1 h=>?_)
  ·exact ⟨q2,h⟩
  ·exact ⟨q2,h⟩)
def wO (c:Cell) (n:Int):Cell×Int:=bif (!(eN c)) then (Cell.mk (0:Int) (0:Int) (0:Int),(100:Int)) else bif (n==(0:Int)) then (Cell.mk (0:Int) (0:Int) (0:Int),(1:Int)) else bif (c.ver==(2147483647:Int)) then (Cell.mk (0:Int) (0:Int) (0:Int),(101:Int)) else bif decide (n < w64 ((0:Int) - c.vol)) then (Cell.mk (0:Int) (0:Int) (0:Int),(102:Int)) else bif decide (n > (AB c)) then (Cell.mk (0:Int) (0:Int) (0:Int),(103:Int)) else (Cell.mk c.cap (w64 (c.vol+n)) (w64 (c.ver+(1:Int))),(0:Int))
theorem Lv (c:Cell) (n:Int) :Pure prog 315 [⟨.cell,c⟩,⟨.int,n⟩] [.cell,.int] (wO c n):=
 Pure.of_closed (C:=codes) (S:=sigs) mixed func315 (by kernel_rfl) (ac (by kernel_rfl)) fun A hA=>hA.go (t315 c n) (by
  obtain ⟨r,h⟩:∃ r,wO c n=r:=⟨_,rfl⟩
  rw [h] at hA ⊢
  unfold wO at h
  refine ⟨⟨q4,trivial⟩,_,Mn.Es _,?_⟩
  refine ai h (fun g1 h=>?_) (fun g1 h=>?_)
  ·exact ⟨⟨q4,trivial,trivial⟩,h⟩
  ·refine ai h (fun g2 h=>?_) (fun g2 h=>?_)
   ·exact ⟨⟨q4,trivial,trivial⟩,h⟩
   ·refine ai h (fun g3 h=>?_) (fun g3 h=>?_)
    ·exact ⟨⟨q4,trivial,trivial⟩,h⟩
    ·refine ai h (fun g4 h=>?_) (fun g4 h=>?_)
     ·have g4:=oT g4
      exact ⟨⟨q4,trivial,trivial⟩,h⟩
     ·have g4:=oF g4
      refine ⟨⟨q4,trivial⟩,_,c326 _,?_⟩
      refine ai h (fun g5 h=>?_) (fun g5 h=>?_)
      ·have g5:=oT g5
       exact ⟨⟨q4,trivial,trivial⟩,h⟩
      ·have g5:=oF g5
       exact ⟨⟨q4,trivial,trivial⟩,h⟩)
def tR (c:Cell) (n s:Int):Cell×Int:=bif (eN c) then bif decide (n < (1:Int)) then (Cell.mk (0:Int) (0:Int) (0:Int),(1:Int)) else let y1:=wO c (w64 (s * n));(y1.1,y1.2) else let y2:=wO c (w64 (s * n));(y2.1,y2.2)
theorem Lw (c:Cell) (n s:Int) :Pure prog 306 [⟨.cell,c⟩,⟨.int,n⟩,⟨.int,s⟩] [.cell,.int] (tR c n s):=
 Pure.of_closed (C:=codes) (S:=sigs) mixed func306 (by kernel_rfl) (ac (by kernel_rfl)) fun A hA=>hA.go (t306 c n s) (by
  obtain ⟨r,h⟩:∃ r,tR c n s=r:=⟨_,rfl⟩
  rw [h] at hA ⊢
  unfold tR at h
  refine ⟨⟨q4,trivial⟩,_,Mn.Es _,?_⟩
  refine ai h (fun g1 h=>?_) (fun g1 h=>?_)
  ·refine ai h (fun g2 h=>?_) (fun g2 h=>?_)
   ·have g2:=oT g2
    exact ⟨⟨q4,trivial,trivial⟩,h⟩
   ·have g2:=oF g2
    exact ⟨⟨q4,q2,trivial⟩,_,Lv _ _,⟨q4,trivial,trivial⟩,h⟩
  ·exact ⟨⟨q4,q2,trivial⟩,_,Lv _ _,⟨q4,trivial,trivial⟩,h⟩)
def rD (c:Cell) (n:Int):Cell×Int:=let y1:=tR c n (1:Int);(y1.1,y1.2)
theorem LB (c:Cell) (n:Int) :Pure prog 282 [⟨.cell,c⟩,⟨.int,n⟩] [.cell,.int] (rD c n):=
 Pure.of_closed (C:=codes) (S:=sigs) mixed func282 (by kernel_rfl) (ac (by kernel_rfl)) fun A hA=>hA.go (t282 c n) (by
  obtain ⟨r,h⟩:∃ r,rD c n=r:=⟨_,rfl⟩
  rw [h] at hA ⊢
  unfold rD at h
  exact ⟨⟨q4,q2,q2,trivial⟩,_,Lw _ _ _,⟨q4,trivial,trivial⟩,h⟩)
def rB (c:Cell) (n:Int):Cell×Int:=let y1:=tR c n (-1:Int);(y1.1,y1.2)
theorem LA (c:Cell) (n:Int) :Pure prog 284 [⟨.cell,c⟩,⟨.int,n⟩] [.cell,.int] (rB c n):=
 Pure.of_closed (C:=codes) (S:=sigs) mixed func284 (by kernel_rfl) (ac (by kernel_rfl)) fun A hA=>hA.go (t284 c n) (by
  obtain ⟨r,h⟩:∃ r,rB c n=r:=⟨_,rfl⟩
  rw [h] at hA ⊢
  unfold rB at h
  exact ⟨⟨q4,q2,q2,trivial⟩,_,Lw _ _ _,⟨q4,trivial,trivial⟩,h⟩)
def rE (a b:Cell) (n:Int):Cell×Cell×Int:=bif ((rB a n).2 != (0:Int)) then (Cell.mk (0:Int) (0:Int) (0:Int),Cell.mk (0:Int) (0:Int) (0:Int),(rB a n).2) else bif ((rD b n).2 != (0:Int)) then (Cell.mk (0:Int) (0:Int) (0:Int),Cell.mk (0:Int) (0:Int) (0:Int),(rD b n).2) else ((rB a n).1,(rD b n).1,(0:Int))
theorem c279 (a b:Cell) (n:Int) :Pure prog 279 [⟨.cell,a⟩,⟨.cell,b⟩,⟨.int,n⟩] [.cell,.cell,.int] (rE a b n):=
 Pure.of_closed (C:=codes) (S:=sigs) mixed func279 (by kernel_rfl) (ac (by kernel_rfl)) fun A hA=>hA.go (t279 a b n) (by
  obtain ⟨r,h⟩:∃ r,rE a b n=r:=⟨_,rfl⟩
  rw [h] at hA ⊢
  unfold rE at h
  refine ⟨⟨q4,q2,trivial⟩,_,LA _ _,?_⟩
  refine ai h (fun g1 h=>?_) (fun g1 h=>?_)
  ·exact ⟨⟨q4,q4,trivial,trivial⟩,h⟩
  ·refine ⟨⟨q4,q2,trivial⟩,_,LB _ _,?_⟩
   refine ai h (fun g2 h=>?_) (fun g2 h=>?_)
   ·exact ⟨⟨q4,q4,trivial,trivial⟩,h⟩
   ·exact ⟨⟨q4,q4,trivial,trivial⟩,h⟩)
def Lj (c:Cell) (n:Int):Cell×Int:=bif (c.ver==(2147483647:Int)) then (Cell.mk (0:Int) (0:Int) (0:Int),(101:Int)) else bif decide (n < w64 ((0:Int) - c.vol)) then (Cell.mk (0:Int) (0:Int) (0:Int),(102:Int)) else bif decide (n > w64 (c.cap - c.vol)) then (Cell.mk (0:Int) (0:Int) (0:Int),(103:Int)) else (Cell.mk c.cap (w64 (c.vol+n)) (w64 (c.ver+(1:Int))),(0:Int))
def rA (c:Cell) (n:Int):Cell×Int:=bif (!(eN c)) then (Cell.mk (0:Int) (0:Int) (0:Int),(100:Int)) else bif (n==(0:Int)) then (Cell.mk (0:Int) (0:Int) (0:Int),(1:Int)) else ((Lj c n).1,(Lj c n).2)
def AH (c:Cell) (n:Int):Cell×Int:=bif (eN c) then bif decide (n < (1:Int)) then (Cell.mk (0:Int) (0:Int) (0:Int),(1:Int)) else ((rA c n).1,(rA c n).2) else ((rA c n).1,(rA c n).2)
def AG (c:Cell) (n:Int):Cell×Int:=bif (eN c) then bif decide (n < (1:Int)) then (Cell.mk (0:Int) (0:Int) (0:Int),(1:Int)) else bif decide (n < (1:Int)) then (Cell.mk (0:Int) (0:Int) (0:Int),(100:Int)) else let y1:=rA c (w64 ((0:Int) - n));(y1.1,y1.2) else bif decide (n < (1:Int)) then (Cell.mk (0:Int) (0:Int) (0:Int),(100:Int)) else let y2:=rA c (w64 ((0:Int) - n));(y2.1,y2.2)
def IM (a b:Cell) (n:Int):Cell×Cell×Int:=bif ((AG a n).2 != (0:Int)) then (Cell.mk (0:Int) (0:Int) (0:Int),Cell.mk (0:Int) (0:Int) (0:Int),(AG a n).2) else bif ((AH b n).2 != (0:Int)) then (Cell.mk (0:Int) (0:Int) (0:Int),Cell.mk (0:Int) (0:Int) (0:Int),(AH b n).2) else ((AG a n).1,(AH b n).1,(0:Int))
def Dc (w e:Int):Int:=bif (w==(1:Int)) then (120:Int) else bif (w==(2:Int)) then (1:Int) else bif (w==(3:Int)) then e else (0:Int)
theorem c313 (w e:Int) :Pure prog 313 [⟨.int,w⟩,⟨.int,e⟩] [.int] (Dc w e):=
 Pure.of_closed (C:=codes) (S:=sigs) mixed func313 (by kernel_rfl) (ac (by kernel_rfl)) fun A hA=>hA.go (t313 w e) (by
  obtain ⟨r,h⟩:∃ r,Dc w e=r:=⟨_,rfl⟩
  rw [h] at hA ⊢
  unfold Dc at h
  refine ai h (fun g1 h=>?_) (fun g1 h=>?_)
  ·exact ⟨q2,h⟩
  ·refine ai h (fun g2 h=>?_) (fun g2 h=>?_)
   ·exact ⟨q2,h⟩
   ·refine ai h (fun g3 h=>?_) (fun g3 h=>?_)
    ·exact ⟨q2,h⟩
    ·exact ⟨q2,h⟩)
def Db (t:Tip) (b:Int) (w:Tip):Int:=bif (!(hY t)) then (1:Int) else bif (!(wa b)) then (2:Int) else bif (!(t.state==w.state && (t.by'==w.by' && true))) then (3:Int) else (0:Int)
theorem c314 (t:Tip) (b:Int) (w:Tip) :Pure prog 314 [⟨.tip,t⟩,⟨.int,b⟩,⟨.tip,w⟩] [.int] (Db t b w):=
 Pure.of_closed (C:=codes) (S:=sigs) mixed func314 (by kernel_rfl) (ac (by kernel_rfl)) fun A hA=>hA.go (t314 t b w) (by
  obtain ⟨r,h⟩:∃ r,Db t b w=r:=⟨_,rfl⟩
  rw [h] at hA ⊢
  unfold Db at h
  refine ⟨⟨q3,trivial⟩,_,Mn.Jj _,?_⟩
  refine ai h (fun g1 h=>?_) (fun g1 h=>?_)
  ·exact ⟨q2,h⟩
  ·refine ⟨⟨q2,trivial⟩,_,Mn.LD _,?_⟩
   refine ai h (fun g2 h=>?_) (fun g2 h=>?_)
   ·exact ⟨q2,h⟩
   ·refine ai h (fun g3 h=>?_) (fun g3 h=>?_)
    ·exact ⟨q2,h⟩
    ·exact ⟨q2,h⟩)
def Dd (t:Tip) (b:Int) (f w:Tip) (e:Int):Tip×Int:=bif ((Dc (Db t b f) e) != (0:Int)) then (Tip.mk (0:Int) (0:Int),(Dc (Db t b f) e)) else (w,(0:Int))
theorem Lx (t:Tip) (b:Int) (f w:Tip) (e:Int) :Pure prog 304 [⟨.tip,t⟩,⟨.int,b⟩,⟨.tip,f⟩,⟨.tip,w⟩,⟨.int,e⟩] [.tip,.int] (Dd t b f w e):=
 Pure.of_closed (C:=codes) (S:=sigs) mixed func304 (by kernel_rfl) (ac (by kernel_rfl)) fun A hA=>hA.go (t304 t b f w e) (by
  obtain ⟨r,h⟩:∃ r,Dd t b f w e=r:=⟨_,rfl⟩
  rw [h] at hA ⊢
  unfold Dd at h
  refine ⟨⟨q3,q2,q3,trivial⟩,_,c314 _ _ _,⟨q2,q2,trivial⟩,_,c313 _ _,?_⟩
  refine ai h (fun g1 h=>?_) (fun g1 h=>?_)
  ·exact ⟨⟨q3,trivial,trivial⟩,h⟩
  ·exact ⟨⟨q3,trivial,trivial⟩,h⟩)
def Gg (t:Tip) (b:Int):Tip×Int:=let y1:=Dd t b (Tip.mk (1:Int) (0:Int)) (Tip.mk (2:Int) b) (121:Int);(y1.1,y1.2)
theorem c276 (t:Tip) (b:Int) :Pure prog 276 [⟨.tip,t⟩,⟨.int,b⟩] [.tip,.int] (Gg t b):=
 Pure.of_closed (C:=codes) (S:=sigs) mixed func276 (by kernel_rfl) (ac (by kernel_rfl)) fun A hA=>hA.go (t276 t b) (by
  obtain ⟨r,h⟩:∃ r,Gg t b=r:=⟨_,rfl⟩
  rw [h] at hA ⊢
  unfold Gg at h
  exact ⟨⟨q3,q2,q3,q3,q2,trivial⟩,_,Lx _ _ _ _ _,⟨q3,trivial,trivial⟩,h⟩)
def Gf (t:Tip) (b:Int):Tip×Int:=let y1:=Dd t b (Tip.mk (2:Int) b) (Tip.mk (3:Int) (0:Int)) (122:Int);(y1.1,y1.2)
theorem c277 (t:Tip) (b:Int) :Pure prog 277 [⟨.tip,t⟩,⟨.int,b⟩] [.tip,.int] (Gf t b):=
 Pure.of_closed (C:=codes) (S:=sigs) mixed func277 (by kernel_rfl) (ac (by kernel_rfl)) fun A hA=>hA.go (t277 t b) (by
  obtain ⟨r,h⟩:∃ r,Gf t b=r:=⟨_,rfl⟩
  rw [h] at hA ⊢
  unfold Gf at h
  exact ⟨⟨q3,q2,q3,q3,q2,trivial⟩,_,Lx _ _ _ _ _,⟨q3,trivial,trivial⟩,h⟩)
def Df (o:List Int):Bool := !(pp o)
theorem Lz (o:List Int) (hl:o.length≤1000000):Pure prog 298 [⟨.sl .int,o⟩] [.bool] (Df o):=
 Pure.of_closed (C:=codes) (S:=sigs) mixed func298 (by kernel_rfl) (ac (by kernel_rfl)) fun A hA=>hA.go (t298 o) (by
  obtain ⟨r,h⟩:∃ r,Df o=r:=⟨_,rfl⟩
  rw [h] at hA ⊢
  unfold Df at h
  exact ⟨_,GF _ (by omega),q2,h⟩)
def qr (l:List Int):List Int→Nat→Bool
 | [],ix=>true
 | z::zs,ix=>bif decide (z≤l.getD (w64 ((ix:Int) - (1:Int))).toNat Ty.int.dflt) then false else qr l zs (ix+1)
theorem qq (l:List Int) (hl:l.length≤1000000)  {r:Bool} {A:Pr} (hA:CL codes sigs f300 [.bool] r A) (ix:Nat) (hv:1≤ix) (h:qr l (List.drop ix l) ix=r):A (hd f300 0) (ux l (ix:Int)):=by
 refine hA.go (HR l (ix:Int)) (ah (fun h1=>?_) (fun h1=>?_))
 ·have h1:=oT h1
  have hil:ix < l.length:=by omega
  rw [aW hil Ty.int.dflt,qr] at h
  refine ⟨⟨⟨(by omega),(by omega)⟩,trivial⟩,⟨⟨(by first | omega | (rw [aA (by omega) (by omega)];omega)),(by first | omega | (rw [aA (by omega) (by omega)];omega))⟩,trivial⟩,?_⟩
  refine ai h (fun g1 h=>?_) (fun g1 h=>?_)
  ·have g1:=oT g1
   exact ⟨q2,h⟩
  ·have g1:=oF g1
   rw [au (by omega)]
   exact qq l hl  hA (ix+1) (by omega) h
 ·have h1:=oF h1
  rw [dN (by omega),qr] at h
  exact ⟨q2,h⟩
termination_by l.length - ix
decreasing_by all_goals omega
def De (l:List Int):Bool:=qr l (List.drop 1 l) 1
theorem Ly (l:List Int) (hl:l.length≤1000000):Pure prog 300 [⟨.sl .int,l⟩] [.bool] (De l):=
 Pure.of_closed (C:=codes) (S:=sigs) mixed func300 (by kernel_rfl) (ac (by kernel_rfl)) fun A hA=>hA.go (t300 l) (by
  obtain ⟨r,h⟩:∃ r,De l=r:=⟨_,rfl⟩
  rw [h] at hA ⊢
  unfold De at h
  exact qq l hl  hA 1 (by decide) h)
def vw (s:Stock) (i:Int):Bool:=bif decide (i≥(0:Int)) then decide (i < (s.cells.length:Int)) else false
def m98 (e i:Int):Resp:=Resp.mk e i (0:Int) (0:Int) []
theorem c98 (e i:Int) :Pure prog 98 [⟨.int,e⟩,⟨.int,i⟩] [.resp] (m98 e i):=
 Pure.of_closed (C:=codes) (S:=sigs) mixed func98 (by kernel_rfl) (ac (by kernel_rfl)) fun A hA=>hA.go (t98 e i) (by
  obtain ⟨r,h⟩:∃ r,m98 e i=r:=⟨_,rfl⟩
  rw [h] at hA ⊢
  unfold m98 at h
  exact ⟨q6,h⟩)
end Go.Proofs.Mo

/- slices.Clone, of each type: what it comes to. (Own work, by program.) -/
namespace Go.Proofs.Mo
open Go.Proofs.Tryz
open Go Go.VL
theorem Ik (xs:List Int):@Eq (Out GRes) (bf prog codes sigs f147 (dX 0) 0 ⟨[],true⟩ 100 false (cq f147) (fA f147 [.d (.sl .int xs)] [] 0)) (.ask (fun (b:Bool)=>b=true→xs.length=0) fun (b:Bool)=>bif b then .stop (rt f147 0) (mkS 8 [(2,nS)] [] 0) else .need True (.need ((0+xs.length) * 9≤35184372088832∧True) (.stop (rt f147 1) (mkS 8 [(2,.own 0 .int)] [(0,.row 3 .int ([]++xs))] 1)))):=by kernel_rfl
theorem Ij (xs:List Int):@Eq (Out GRes) (bf prog codes sigs f147 (dX 0) 0 eU 100 true (rt f147 0) (mkS 8 [(2,.own 0 .int)] [(0,.row 3 .int xs)] 1)) (.need True (.ret (GRes.mk [.own 0 .int] [(0,.row 3 .int xs)] 1))):=by kernel_rfl
theorem Ii (xs:List Int):@Eq (Out GRes) (bf prog codes sigs f147 (dX 0) 0 eU 100 true (rt f147 1) (mkS 8 [(2,.own 0 .int)] [(0,.row 3 .int xs)] 1)) (.need True (.ret (GRes.mk [.own 0 .int] [(0,.row 3 .int xs)] 1))):=by kernel_rfl
theorem uo {xs:List Int} (hl:xs.length≤1000000):Gc prog 147 [.d (.sl .int xs)] [] 0 ⟨[.own 0 .int],[(0,.row 3 .int xs)],1⟩:=
 Gc.of_closed (C:=codes) (S:=sigs) mixed func147 (by kernel_rfl) (fun i T t ys hi _=>absurd hi (bA _)) fun A hA=>
  hA.go (Ik xs) fun b hb=>ah (fun h=>by
   have hx:xs=[]:=ay (hb h)
   subst hx
   exact hA.row 2 3 .int (by kernel_rfl) (s':=mkS 8 [(2,.own 0 .int)] [(0,.row 3 .int [])] 1) (by kernel_rfl) (hA.go (Ij []) ⟨trivial,.of_eq rfl⟩))
   (fun _=>⟨trivial,⟨by omega,trivial⟩,hA.go (Ii xs) ⟨trivial,.of_eq rfl⟩⟩)
theorem Ih (xs:List Cell):@Eq (Out GRes) (bf prog codes sigs f148 (dX 0) 0 ⟨[],true⟩ 100 false (cq f148) (fA f148 [.d (.sl .cell xs)] [] 0)) (.ask (fun (b:Bool)=>b=true→xs.length=0) fun (b:Bool)=>bif b then .stop (rt f148 0) (mkS 8 [(2,nS)] [] 0) else .need True (.need ((0+xs.length) * 25≤35184372088832∧True) (.stop (rt f148 1) (mkS 8 [(2,.own 0 .cell)] [(0,.row 76 .cell ([]++xs))] 1)))):=by kernel_rfl
theorem Ig (xs:List Cell):@Eq (Out GRes) (bf prog codes sigs f148 (dX 0) 0 eU 100 true (rt f148 0) (mkS 8 [(2,.own 0 .cell)] [(0,.row 76 .cell xs)] 1)) (.need True (.ret (GRes.mk [.own 0 .cell] [(0,.row 76 .cell xs)] 1))):=by kernel_rfl
theorem If (xs:List Cell):@Eq (Out GRes) (bf prog codes sigs f148 (dX 0) 0 eU 100 true (rt f148 1) (mkS 8 [(2,.own 0 .cell)] [(0,.row 76 .cell xs)] 1)) (.need True (.ret (GRes.mk [.own 0 .cell] [(0,.row 76 .cell xs)] 1))):=by kernel_rfl
theorem GN {xs:List Cell} (hl:xs.length≤1000000):Gc prog 148 [.d (.sl .cell xs)] [] 0 ⟨[.own 0 .cell],[(0,.row 76 .cell xs)],1⟩:=
 Gc.of_closed (C:=codes) (S:=sigs) mixed func148 (by kernel_rfl) (fun i T t ys hi _=>absurd hi (bA _)) fun A hA=>
  hA.go (Ih xs) fun b hb=>ah (fun h=>by
   have hx:xs=[]:=ay (hb h)
   subst hx
   exact hA.row 2 76 .cell (by kernel_rfl) (s':=mkS 8 [(2,.own 0 .cell)] [(0,.row 76 .cell [])] 1) (by kernel_rfl) (hA.go (Ig []) ⟨trivial,.of_eq rfl⟩))
   (fun _=>⟨trivial,⟨by omega,trivial⟩,hA.go (If xs) ⟨trivial,.of_eq rfl⟩⟩)
theorem t149 (xs:List Log):@Eq (Out GRes) (bf prog codes sigs f149 (dX 0) 0 ⟨[],true⟩ 100 false (cq f149) (fA f149 [.d (.sl .log xs)] [] 0)) (.ask (fun (b:Bool)=>b=true→xs.length=0) fun (b:Bool)=>bif b then .stop (rt f149 0) (mkS 8 [(2,nS)] [] 0) else .need True (.need ((0+xs.length) * 41≤35184372088832∧True) (.stop (rt f149 1) (mkS 8 [(2,.own 0 .log)] [(0,.row 146 .log ([]++xs))] 1)))):=by kernel_rfl
theorem Ie (xs:List Log):@Eq (Out GRes) (bf prog codes sigs f149 (dX 0) 0 eU 100 true (rt f149 0) (mkS 8 [(2,.own 0 .log)] [(0,.row 146 .log xs)] 1)) (.need True (.ret (GRes.mk [.own 0 .log] [(0,.row 146 .log xs)] 1))):=by kernel_rfl
theorem Id (xs:List Log):@Eq (Out GRes) (bf prog codes sigs f149 (dX 0) 0 eU 100 true (rt f149 1) (mkS 8 [(2,.own 0 .log)] [(0,.row 146 .log xs)] 1)) (.need True (.ret (GRes.mk [.own 0 .log] [(0,.row 146 .log xs)] 1))):=by kernel_rfl
theorem LN {xs:List Log} (hl:xs.length≤1000000):Gc prog 149 [.d (.sl .log xs)] [] 0 ⟨[.own 0 .log],[(0,.row 146 .log xs)],1⟩:=
 Gc.of_closed (C:=codes) (S:=sigs) mixed func149 (by kernel_rfl) (fun i T t ys hi _=>absurd hi (bA _)) fun A hA=>
  hA.go (t149 xs) fun b hb=>ah (fun h=>by
   have hx:xs=[]:=ay (hb h)
   subst hx
   exact hA.row 2 146 .log (by kernel_rfl) (s':=mkS 8 [(2,.own 0 .log)] [(0,.row 146 .log [])] 1) (by kernel_rfl) (hA.go (Ie []) ⟨trivial,.of_eq rfl⟩))
   (fun _=>⟨trivial,⟨by omega,trivial⟩,hA.go (Id xs) ⟨trivial,.of_eq rfl⟩⟩)
theorem t150 (xs:List Change):@Eq (Out GRes) (bf prog codes sigs f150 (dX 0) 0 ⟨[],true⟩ 100 false (cq f150) (fA f150 [.d (.sl .change xs)] [] 0)) (.ask (fun (b:Bool)=>b=true→xs.length=0) fun (b:Bool)=>bif b then .stop (rt f150 0) (mkS 8 [(2,nS)] [] 0) else .need True (.need ((0+xs.length) * 25≤35184372088832∧True) (.stop (rt f150 1) (mkS 8 [(2,.own 0 .change)] [(0,.row 148 .change ([]++xs))] 1)))):=by kernel_rfl
theorem Ic (xs:List Change):@Eq (Out GRes) (bf prog codes sigs f150 (dX 0) 0 eU 100 true (rt f150 0) (mkS 8 [(2,.own 0 .change)] [(0,.row 148 .change xs)] 1)) (.need True (.ret (GRes.mk [.own 0 .change] [(0,.row 148 .change xs)] 1))):=by kernel_rfl
theorem Ib (xs:List Change):@Eq (Out GRes) (bf prog codes sigs f150 (dX 0) 0 eU 100 true (rt f150 1) (mkS 8 [(2,.own 0 .change)] [(0,.row 148 .change xs)] 1)) (.need True (.ret (GRes.mk [.own 0 .change] [(0,.row 148 .change xs)] 1))):=by kernel_rfl
theorem LM {xs:List Change} (hl:xs.length≤1000000):Gc prog 150 [.d (.sl .change xs)] [] 0 ⟨[.own 0 .change],[(0,.row 148 .change xs)],1⟩:=
 Gc.of_closed (C:=codes) (S:=sigs) mixed func150 (by kernel_rfl) (fun i T t ys hi _=>absurd hi (bA _)) fun A hA=>
  hA.go (t150 xs) fun b hb=>ah (fun h=>by
   have hx:xs=[]:=ay (hb h)
   subst hx
   exact hA.row 2 148 .change (by kernel_rfl) (s':=mkS 8 [(2,.own 0 .change)] [(0,.row 148 .change [])] 1) (by kernel_rfl) (hA.go (Ic []) ⟨trivial,.of_eq rfl⟩))
   (fun _=>⟨trivial,⟨by omega,trivial⟩,hA.go (Ib xs) ⟨trivial,.of_eq rfl⟩⟩)
theorem t151 (xs:List Tip):@Eq (Out GRes) (bf prog codes sigs f151 (dX 0) 0 ⟨[],true⟩ 100 false (cq f151) (fA f151 [.d (.sl .tip xs)] [] 0)) (.ask (fun (b:Bool)=>b=true→xs.length=0) fun (b:Bool)=>bif b then .stop (rt f151 0) (mkS 8 [(2,nS)] [] 0) else .need True (.need ((0+xs.length) * 17≤35184372088832∧True) (.stop (rt f151 1) (mkS 8 [(2,.own 0 .tip)] [(0,.row 194 .tip ([]++xs))] 1)))):=by kernel_rfl
theorem Ia (xs:List Tip):@Eq (Out GRes) (bf prog codes sigs f151 (dX 0) 0 eU 100 true (rt f151 0) (mkS 8 [(2,.own 0 .tip)] [(0,.row 194 .tip xs)] 1)) (.need True (.ret (GRes.mk [.own 0 .tip] [(0,.row 194 .tip xs)] 1))):=by kernel_rfl
theorem HZ (xs:List Tip):@Eq (Out GRes) (bf prog codes sigs f151 (dX 0) 0 eU 100 true (rt f151 1) (mkS 8 [(2,.own 0 .tip)] [(0,.row 194 .tip xs)] 1)) (.need True (.ret (GRes.mk [.own 0 .tip] [(0,.row 194 .tip xs)] 1))):=by kernel_rfl
theorem LL {xs:List Tip} (hl:xs.length≤1000000):Gc prog 151 [.d (.sl .tip xs)] [] 0 ⟨[.own 0 .tip],[(0,.row 194 .tip xs)],1⟩:=
 Gc.of_closed (C:=codes) (S:=sigs) mixed func151 (by kernel_rfl) (fun i T t ys hi _=>absurd hi (bA _)) fun A hA=>
  hA.go (t151 xs) fun b hb=>ah (fun h=>by
   have hx:xs=[]:=ay (hb h)
   subst hx
   exact hA.row 2 194 .tip (by kernel_rfl) (s':=mkS 8 [(2,.own 0 .tip)] [(0,.row 194 .tip [])] 1) (by kernel_rfl) (hA.go (Ia []) ⟨trivial,.of_eq rfl⟩))
   (fun _=>⟨trivial,⟨by omega,trivial⟩,hA.go (HZ xs) ⟨trivial,.of_eq rfl⟩⟩)
theorem It (xs:List Fl):@Eq (Out GRes) (bf prog codes sigs f144 (dX 0) 0 ⟨[],true⟩ 100 false (cq f144) (fA f144 [.d (.sl .flt xs)] [] 0)) (.ask (fun (b:Bool)=>b=true→xs.length=0) fun (b:Bool)=>bif b then .stop (rt f144 0) (mkS 8 [(2,nS)] [] 0) else .need True (.need ((0+xs.length) * 9≤35184372088832∧True) (.stop (rt f144 1) (mkS 8 [(2,.own 0 .flt)] [(0,.row 92 .flt ([]++xs))] 1)))):=by kernel_rfl
theorem Is (xs:List Fl):@Eq (Out GRes) (bf prog codes sigs f144 (dX 0) 0 eU 100 true (rt f144 0) (mkS 8 [(2,.own 0 .flt)] [(0,.row 92 .flt xs)] 1)) (.need True (.ret (GRes.mk [.own 0 .flt] [(0,.row 92 .flt xs)] 1))):=by kernel_rfl
theorem Ir (xs:List Fl):@Eq (Out GRes) (bf prog codes sigs f144 (dX 0) 0 eU 100 true (rt f144 1) (mkS 8 [(2,.own 0 .flt)] [(0,.row 92 .flt xs)] 1)) (.need True (.ret (GRes.mk [.own 0 .flt] [(0,.row 92 .flt xs)] 1))):=by kernel_rfl
theorem GO {xs:List Fl} (hl:xs.length≤1000000):Gc prog 144 [.d (.sl .flt xs)] [] 0 ⟨[.own 0 .flt],[(0,.row 92 .flt xs)],1⟩:=
 Gc.of_closed (C:=codes) (S:=sigs) mixed func144 (by kernel_rfl) (fun i T t ys hi _=>absurd hi (bA _)) fun A hA=>
  hA.go (It xs) fun b hb=>ah (fun h=>by
   have hx:xs=[]:=ay (hb h)
   subst hx
   exact hA.row 2 92 .flt (by kernel_rfl) (s':=mkS 8 [(2,.own 0 .flt)] [(0,.row 92 .flt [])] 1) (by kernel_rfl) (hA.go (Is []) ⟨trivial,.of_eq rfl⟩))
   (fun _=>⟨trivial,⟨by omega,trivial⟩,hA.go (Ir xs) ⟨trivial,.of_eq rfl⟩⟩)
theorem Iq (xs:List Rack):@Eq (Out GRes) (bf prog codes sigs f145 (dX 0) 0 ⟨[],true⟩ 100 false (cq f145) (fA f145 [.d (.sl .rack xs)] [] 0)) (.ask (fun (b:Bool)=>b=true→xs.length=0) fun (b:Bool)=>bif b then .stop (rt f145 0) (mkS 8 [(2,nS)] [] 0) else .need True (.need ((0+xs.length) * 41≤35184372088832∧True) (.stop (rt f145 1) (mkS 8 [(2,.own 0 .rack)] [(0,.row 166 .rack ([]++xs))] 1)))):=by kernel_rfl
theorem Ip (xs:List Rack):@Eq (Out GRes) (bf prog codes sigs f145 (dX 0) 0 eU 100 true (rt f145 0) (mkS 8 [(2,.own 0 .rack)] [(0,.row 166 .rack xs)] 1)) (.need True (.ret (GRes.mk [.own 0 .rack] [(0,.row 166 .rack xs)] 1))):=by kernel_rfl
theorem Io (xs:List Rack):@Eq (Out GRes) (bf prog codes sigs f145 (dX 0) 0 eU 100 true (rt f145 1) (mkS 8 [(2,.own 0 .rack)] [(0,.row 166 .rack xs)] 1)) (.need True (.ret (GRes.mk [.own 0 .rack] [(0,.row 166 .rack xs)] 1))):=by kernel_rfl
theorem xp {xs:List Rack} (hl:xs.length≤1000000):Gc prog 145 [.d (.sl .rack xs)] [] 0 ⟨[.own 0 .rack],[(0,.row 166 .rack xs)],1⟩:=
 Gc.of_closed (C:=codes) (S:=sigs) mixed func145 (by kernel_rfl) (fun i T t ys hi _=>absurd hi (bA _)) fun A hA=>
  hA.go (Iq xs) fun b hb=>ah (fun h=>by
   have hx:xs=[]:=ay (hb h)
   subst hx
   exact hA.row 2 166 .rack (by kernel_rfl) (s':=mkS 8 [(2,.own 0 .rack)] [(0,.row 166 .rack [])] 1) (by kernel_rfl) (hA.go (Ip []) ⟨trivial,.of_eq rfl⟩))
   (fun _=>⟨trivial,⟨by omega,trivial⟩,hA.go (Io xs) ⟨trivial,.of_eq rfl⟩⟩)
theorem In (xs:List Plate):@Eq (Out GRes) (bf prog codes sigs f146 (dX 0) 0 ⟨[],true⟩ 100 false (cq f146) (fA f146 [.d (.sl .plate xs)] [] 0)) (.ask (fun (b:Bool)=>b=true→xs.length=0) fun (b:Bool)=>bif b then .stop (rt f146 0) (mkS 8 [(2,nS)] [] 0) else .need True (.need ((0+xs.length) * 73≤35184372088832∧True) (.stop (rt f146 1) (mkS 8 [(2,.own 0 .plate)] [(0,.row 116 .plate ([]++xs))] 1)))):=by kernel_rfl
theorem Im (xs:List Plate):@Eq (Out GRes) (bf prog codes sigs f146 (dX 0) 0 eU 100 true (rt f146 0) (mkS 8 [(2,.own 0 .plate)] [(0,.row 116 .plate xs)] 1)) (.need True (.ret (GRes.mk [.own 0 .plate] [(0,.row 116 .plate xs)] 1))):=by kernel_rfl
theorem Il (xs:List Plate):@Eq (Out GRes) (bf prog codes sigs f146 (dX 0) 0 eU 100 true (rt f146 1) (mkS 8 [(2,.own 0 .plate)] [(0,.row 116 .plate xs)] 1)) (.need True (.ret (GRes.mk [.own 0 .plate] [(0,.row 116 .plate xs)] 1))):=by kernel_rfl
theorem Jm {xs:List Plate} (hl:xs.length≤1000000):Gc prog 146 [.d (.sl .plate xs)] [] 0 ⟨[.own 0 .plate],[(0,.row 116 .plate xs)],1⟩:=
 Gc.of_closed (C:=codes) (S:=sigs) mixed func146 (by kernel_rfl) (fun i T t ys hi _=>absurd hi (bA _)) fun A hA=>
  hA.go (In xs) fun b hb=>ah (fun h=>by
   have hx:xs=[]:=ay (hb h)
   subst hx
   exact hA.row 2 116 .plate (by kernel_rfl) (s':=mkS 8 [(2,.own 0 .plate)] [(0,.row 116 .plate [])] 1) (by kernel_rfl) (hA.go (Im []) ⟨trivial,.of_eq rfl⟩))
   (fun _=>⟨trivial,⟨by omega,trivial⟩,hA.go (Il xs) ⟨trivial,.of_eq rfl⟩⟩)
end Go.Proofs.Mo

namespace Go.Proofs.Mn
open Go.Proofs.Tryz
open Go Go.VL
theorem Kg (a b:Int):@Eq _ (xS prog codes sigs f269 [.int,.int] 300 [⟨.int,a⟩,⟨.int,b⟩]) (bif decide (b > 0) then bif decide (a > w64 ((9223372036854775807:Int) - b)) then .need (U2∧U2) (.ret ((0:Int),(4:Int))) else bif decide (b < 0) then bif decide (a < w64 ((-9223372036854775808:Int) - b)) then .need (U2∧U2) (.ret ((0:Int),(4:Int))) else .need (U2∧U2) (.ret (w64 (a+b),(0:Int))) else .need (U2∧U2) (.ret (w64 (a+b),(0:Int))) else bif decide (b < 0) then bif decide (a < w64 ((-9223372036854775808:Int) - b)) then .need (U2∧U2) (.ret ((0:Int),(4:Int))) else .need (U2∧U2) (.ret (w64 (a+b),(0:Int))) else .need (U2∧U2) (.ret (w64 (a+b),(0:Int)))):=by kernel_rfl
def gr (l3:List Int) (i2:Int) (l4:List Int):AS:=mkS 77 [(4,.d (.sl .int l4)),(5,.d (.sl .int l3)),(7,i64 i2)] [] 0
def qX (l:List Int) (i1:Int) (l1 l2:List Int):AS:=mkS 77 [(0,.d (.sl .int l)),(4,.own 0 .int),(5,.own 1 .int),(6,i64 i1)] [(0,.row 3 .int l2),(1,.row 3 .int l1)] 2
theorem Ki (l:List Int):@Eq _ (xS prog codes sigs f226 [.int,.int] 300 [⟨.sl .int,l⟩]) (.stop (hd f226 0) (mkS 77 [(0,.d (.sl .int l)),(4,nS),(5,nS),(6,i64 0)] [] 0)):=by kernel_rfl
theorem HU (l:List Int) (i1:Int) (l1 l2:List Int):@Eq _ (xL prog codes sigs f226 [.int,.int] 300 0 (qX l i1 l1 l2)) (bif decide (i1 < (l.length:Int)) then .need (((0:Int)≤i1∧i1 < (l.length:Int))∧True) (bif decide (l.getD i1.toNat (Ty.dflt .int) < 0) then .need (((0:Int)≤i1∧i1 < (l.length:Int))∧True) (.need (U2∧True) (.need ((l1.length+List.length [l.getD i1.toNat (Ty.dflt .int)]) * 9≤35184372088832∧True) (.stop (hd f226 0) (qX l (w64 (i1+1)) (l1++[l.getD i1.toNat (Ty.dflt .int)]) l2)))) else .need (((0:Int)≤i1∧i1 < (l.length:Int))∧True) (.need (U2∧True) (.need ((l2.length+List.length [l.getD i1.toNat (Ty.dflt .int)]) * 9≤35184372088832∧True) (.stop (hd f226 0) (qX l (w64 (i1+1)) l1 (l2++[l.getD i1.toNat (Ty.dflt .int)])))))) else .stop (hd f226 1) (mkS 77 [(4,.own 0 .int),(5,.own 1 .int),(7,i64 0)] [(0,.row 3 .int l2),(1,.row 3 .int l1)] 2)):=by kernel_rfl
theorem tr (l3:List Int) (i2:Int) (l4:List Int):@Eq _ (xL prog codes sigs f226 [.int,.int] 300 1 (gr l3 i2 l4)) (bif decide ((l4.length:Int) > 0) then bif decide ((l3.length:Int) > 0) then bif decide (i2≥0) then .need (((0:Int)≤0∧(0:Int) < (l3.length:Int))∧True) (.need (((0:Int)≤1∧(1:Int)≤(l3.length:Int))∧True) (.need (U2∧U2∧True) (.callP 269 [⟨.int,i2⟩,⟨.int,(l3.getD 0 (Ty.dflt .int))⟩] [.int,.int] fun (x:Int×Int)=>bif x.2 != 0 then .need (U2∧U2) (.ret ((0:Int),x.2)) else .stop (hd f226 1) (gr (List.drop 1 l3) x.1 l4)))) else bif (l4.length:Int)==0 then .need (((0:Int)≤0∧(0:Int) < (l3.length:Int))∧True) (.need (((0:Int)≤1∧(1:Int)≤(l3.length:Int))∧True) (.need (U2∧U2∧True) (.callP 269 [⟨.int,i2⟩,⟨.int,(l3.getD 0 (Ty.dflt .int))⟩] [.int,.int] fun (x:Int×Int)=>bif x.2 != 0 then .need (U2∧U2) (.ret ((0:Int),x.2)) else .stop (hd f226 1) (gr (List.drop 1 l3) x.1 l4)))) else .need (((0:Int)≤0∧(0:Int) < (l4.length:Int))∧True) (.need (((0:Int)≤1∧(1:Int)≤(l4.length:Int))∧True) (.need (U2∧U2∧True) (.callP 269 [⟨.int,i2⟩,⟨.int,(l4.getD 0 (Ty.dflt .int))⟩] [.int,.int] fun (x:Int×Int)=>bif x.2 != 0 then .need (U2∧U2) (.ret ((0:Int),x.2)) else .stop (hd f226 1) (gr l3 x.1 (List.drop 1 l4))))) else .need (((0:Int)≤0∧(0:Int) < (l4.length:Int))∧True) (.need (((0:Int)≤1∧(1:Int)≤(l4.length:Int))∧True) (.need (U2∧U2∧True) (.callP 269 [⟨.int,i2⟩,⟨.int,(l4.getD 0 (Ty.dflt .int))⟩] [.int,.int] fun (x:Int×Int)=>bif x.2 != 0 then .need (U2∧U2) (.ret ((0:Int),x.2)) else .stop (hd f226 1) (gr l3 x.1 (List.drop 1 l4))))) else bif decide ((l3.length:Int) > 0) then bif decide ((l3.length:Int) > 0) then bif decide (i2≥0) then .need (((0:Int)≤0∧(0:Int) < (l3.length:Int))∧True) (.need (((0:Int)≤1∧(1:Int)≤(l3.length:Int))∧True) (.need (U2∧U2∧True) (.callP 269 [⟨.int,i2⟩,⟨.int,(l3.getD 0 (Ty.dflt .int))⟩] [.int,.int] fun (x:Int×Int)=>bif x.2 != 0 then .need (U2∧U2) (.ret ((0:Int),x.2)) else .stop (hd f226 1) (gr (List.drop 1 l3) x.1 l4)))) else bif (l4.length:Int)==0 then .need (((0:Int)≤0∧(0:Int) < (l3.length:Int))∧True) (.need (((0:Int)≤1∧(1:Int)≤(l3.length:Int))∧True) (.need (U2∧U2∧True) (.callP 269 [⟨.int,i2⟩,⟨.int,(l3.getD 0 (Ty.dflt .int))⟩] [.int,.int] fun (x:Int×Int)=>bif x.2 != 0 then .need (U2∧U2) (.ret ((0:Int),x.2)) else .stop (hd f226 1) (gr (List.drop 1 l3) x.1 l4)))) else .need (((0:Int)≤0∧(0:Int) < (l4.length:Int))∧True) (.need (((0:Int)≤1∧(1:Int)≤(l4.length:Int))∧True) (.need (U2∧U2∧True) (.callP 269 [⟨.int,i2⟩,⟨.int,(l4.getD 0 (Ty.dflt .int))⟩] [.int,.int] fun (x:Int×Int)=>bif x.2 != 0 then .need (U2∧U2) (.ret ((0:Int),x.2)) else .stop (hd f226 1) (gr l3 x.1 (List.drop 1 l4))))) else .need (((0:Int)≤0∧(0:Int) < (l4.length:Int))∧True) (.need (((0:Int)≤1∧(1:Int)≤(l4.length:Int))∧True) (.need (U2∧U2∧True) (.callP 269 [⟨.int,i2⟩,⟨.int,(l4.getD 0 (Ty.dflt .int))⟩] [.int,.int] fun (x:Int×Int)=>bif x.2 != 0 then .need (U2∧U2) (.ret ((0:Int),x.2)) else .stop (hd f226 1) (gr l3 x.1 (List.drop 1 l4))))) else .need (U2∧U2) (.ret (i2,(0:Int)))):=by kernel_rfl
end Go.Proofs.Mn

namespace Go.Proofs.Mn
open Go.Proofs.Tryz
open Go Go.VL
set_option maxRecDepth 20000
open Go.Proofs.Zn
def qt (a b:Int):Int×Int:=bif decide (b > (0:Int)) then bif decide (a > w64 ((9223372036854775807:Int) - b)) then ((0:Int),(4:Int)) else bif decide (b < (0:Int)) then bif decide (a < w64 ((-9223372036854775808:Int) - b)) then ((0:Int),(4:Int)) else (w64 (a+b),(0:Int)) else (w64 (a+b),(0:Int)) else bif decide (b < (0:Int)) then bif decide (a < w64 ((-9223372036854775808:Int) - b)) then ((0:Int),(4:Int)) else (w64 (a+b),(0:Int)) else (w64 (a+b),(0:Int))
theorem Eq (a b:Int) :Pure prog 269 [⟨.int,a⟩,⟨.int,b⟩] [.int,.int] (qt a b):=
 Pure.of_closed (C:=codes) (S:=sigs) mixed func269 (by kernel_rfl) (ac (by kernel_rfl)) fun A hA=>hA.go (Kg a b) (by
  obtain ⟨r,h⟩:∃ r,qt a b=r:=⟨_,rfl⟩
  rw [h] at hA ⊢
  unfold qt at h
  refine ai h (fun g1 h=>?_) (fun g1 h=>?_)
  ·have g1:=oT g1
   refine ai h (fun g2 h=>?_) (fun g2 h=>?_)
   ·have g2:=oT g2
    exact ⟨⟨q2,trivial,trivial⟩,h⟩
   ·have g2:=oF g2
    refine ai h (fun g3 h=>?_) (fun g3 h=>?_)
    ·have g3:=oT g3
     refine ai h (fun g4 h=>?_) (fun g4 h=>?_)
     ·have g4:=oT g4
      exact ⟨⟨q2,trivial,trivial⟩,h⟩
     ·have g4:=oF g4
      exact ⟨⟨q2,trivial,trivial⟩,h⟩
    ·have g3:=oF g3
     exact ⟨⟨q2,trivial,trivial⟩,h⟩
  ·have g1:=oF g1
   refine ai h (fun g2 h=>?_) (fun g2 h=>?_)
   ·have g2:=oT g2
    refine ai h (fun g3 h=>?_) (fun g3 h=>?_)
    ·have g3:=oT g3
     exact ⟨⟨q2,trivial,trivial⟩,h⟩
    ·have g3:=oF g3
     exact ⟨⟨q2,trivial,trivial⟩,h⟩
   ·have g2:=oF g2
    exact ⟨⟨q2,trivial,trivial⟩,h⟩)
end Go.Proofs.Mn

/- Sums: plain laws. (Own work.) -/
namespace Go.Proofs.Mn
open Go.Proofs.Tryz
open Go Go.VL
def tot:List Int→Int
 | []=>0
 | x::l=>x+tot l
theorem mJ (l m:List Int):tot (l++m)=tot l+tot m:=by
 induction l with
 | nil=>simp [tot]
 | cons x l ih=>simp only [hB,tot,ih];omega
def fR (t:Int):Int×Int:=bif decide (t < -9223372036854775808) then (0,4) else bif decide (t > 9223372036854775807) then (0,4) else (t,0)
def uF (l:List Int):Int×Int:=fR (tot l)
theorem gM {t:Int} (h:cS t):fR t=(t,0):=by
 unfold cS at h
 unfold fR
 rw [dF (by omega),dF (by omega)];rfl
theorem kO {t:Int} (h:¬ cS t):fR t=(0,4):=by
 unfold cS at h
 unfold fR
 by_cases h1:t < -9223372036854775808
 ·rw [dT h1];rfl
 ·rw [dF h1,dT (by omega)];rfl
abbrev io (l:List Int):Prop:=∀ x∈l,cS x
theorem rR:∀ {l:List Int},io l → -(9223372036854775808 * (l.length:Int))≤tot l∧tot l≤9223372036854775808 * (l.length:Int)
 | [],_=>by simp [tot]
 | x :: l, h => by
   have h1:=rR (l:=l) fun y hy=>h y (by simp [hy])
   have h2:cS x:=h x (by simp)
   unfold cS at h2
   simp only [tot,ag]
   omega
def lS (w:Wide):Int:=w.hi * 18446744073709551616+w.lo
structure WOk (w:Wide):Prop where
 h0:0≤w.hi
 h1:w.hi < 18446744073709551616
 l0:0≤w.lo
 l1:w.lo < 18446744073709551616
theorem xA (x:Int):(di x).hi=(x / 9223372036854775808) % 18446744073709551616:=by
 have e:(2:Int) ^ min 63 (IntKind.bits .i64)=9223372036854775808:=by decide
 unfold di
 simp only [e,jJ]
 rw [fh _ (by decide)]
theorem xz (x:Int):(di x).lo=x % 18446744073709551616:=by
 unfold di
 simp only [jJ]
theorem IF {x:Int} (h:cS x):WOk (di x)∧lS (di x)=x % 340282366920938463463374607431768211456:=by
 have e1:=xA x
 have e2:=xz x
 unfold cS at h
 refine ⟨⟨by omega,by omega,by omega,by omega⟩,?_⟩
 unfold lS
 omega
theorem FI (a b:Wide):(gF a b).hi=(((a.hi.toNat+b.hi.toNat+(a.lo.toNat+b.lo.toNat) / 18446744073709551616) % 18446744073709551616:Nat):Int):=by
 unfold gF
 simp only [aq,ez]
theorem Cz (a b:Wide):(gF a b).lo=(((a.lo.toNat+b.lo.toNat) % 18446744073709551616:Nat):Int):=by
 unfold gF
 simp only [ez]
theorem Cy {a b:Wide} (ha:WOk a) (hb:WOk b):WOk (gF a b)∧lS (gF a b)=(lS a+lS b) % 340282366920938463463374607431768211456:=by
 obtain ⟨a1,a2,a3,a4⟩:=ha
 obtain ⟨b1,b2,b3,b4⟩:=hb
 have e1:=FI a b
 have e2:=Cz a b
 refine ⟨⟨by omega,by omega,by omega,by omega⟩,?_⟩
 unfold lS
 omega
theorem uA:∀ (l:List Int) (w:Wide),WOk w→io l→WOk (l.foldl (fun w x=>gF w (di x)) w)∧lS (l.foldl (fun w x=>gF w (di x)) w)=(lS w+tot l) % 340282366920938463463374607431768211456
 | [], w, hw, _ => by
   obtain ⟨a1,a2,a3,a4⟩:=hw
   refine ⟨⟨a1,a2,a3,a4⟩,?_⟩
   show lS w=(lS w+0) % _
   unfold lS
   omega
 | x :: l, w, hw, h => by
   have h2:cS x:=h x (by simp)
   obtain ⟨p1,p2⟩:=IF h2
   obtain ⟨q1,q2⟩:=Cy hw p1
   obtain ⟨r1,r2⟩:=uA l (gF w (di x)) q1 fun y hy=>h y (by simp [hy])
   refine ⟨r1,?_⟩
   show lS (l.foldl (fun w x=>gF w (di x)) (gF w (di x)))=(lS w+(x+tot l)) % _
   rw [r2,q2,p2]
   omega
theorem Bs (m:Int):cS (w64 m)∧(w64 m) % 18446744073709551616=m % 18446744073709551616:=by
 unfold w64 IntKind.wrap
 have e:(2 ^ IntKind.i64.bits:Int)=18446744073709551616:=rfl
 have e2:(2 ^ (IntKind.i64.bits - 1):Int)=9223372036854775808:=rfl
 have e3:IntKind.i64.signed=true:=rfl
 simp only [e,e2,e3,cR]
 unfold cS
 by_cases h:m % 18446744073709551616≥9223372036854775808
 ·rw [aF (by simpa using h)];omega
 ·rw [aJ (by simpa using h)];omega
theorem FU {w:Wide} (hw:WOk w) {t:Int} (h:lS w=t % 340282366920938463463374607431768211456) (h0 : -170141183460469231731687303715884105728≤t) (h1:t < 170141183460469231731687303715884105728):tL w=fR t:=by
 obtain ⟨a1,a2,a3,a4⟩:=hw
 obtain ⟨n1,n2⟩:=Bs w.lo
 have n1':=n1
 unfold cS at n1'
 unfold tL
 generalize w64 w.lo=n at n1 n2 n1'
 have e1:=xA n
 have e2:=xz n
 unfold lS at h
 by_cases hh:w.hi=(di n).hi
 ·have el:w.lo=(di n).lo:=by omega
  have e3:n / 9223372036854775808=0∨n / 9223372036854775808 = -1:=by omega
  have et:t=n:=by rcases e3 with e3 | e3 <;> omega
  have e:(w.hi==(di n).hi && (w.lo==(di n).lo && true))=true:=by rw [← hh,← el];simp
  rw [e,et,gM n1];rfl
 ·have e:(w.hi==(di n).hi && (w.lo==(di n).lo && true))=false:=by
   have:(w.hi==(di n).hi)=false:=by simpa using hh
   rw [this];rfl
  rw [e,kO (t:=t) (by unfold cS;omega)];rfl
theorem FV {l:List Int} (hl:l.length≤1000000) (hf:io l):tL (oZ l)=uF l:=by
 obtain ⟨h1,h2⟩:=uA l ⟨0,0⟩ ⟨by decide,by decide,by decide,by decide⟩ hf
 have h3:=rR hf
 have h4:lS (oZ l)=(0 * 18446744073709551616+0+tot l) % 340282366920938463463374607431768211456:=h2
 exact FU (t:=tot l) h1 (by rw [show List.foldl (fun w x=>gF w (di x)) ⟨0,0⟩ l=oZ l from rfl,h4];omega) (by omega) (by omega)
end Go.Proofs.Mn

/- ref03.Sum: what it comes to. (Own work.) -/
namespace Go.Proofs.Mn
open Go.Proofs.Tryz
open Go Go.VL
open Wn (dD bD)
theorem GZ {a b:Int} (ha:cS a) (hb:cS b):qt a b=fR (a+b):=by
 unfold cS at ha hb
 unfold qt
 by_cases h1:b > 0
 ·rw [dT h1,cT,aA (by omega) (by omega)]
  by_cases h2:a > 9223372036854775807 - b
  ·rw [dT h2,cT,kO (by unfold cS;omega)]
  ·rw [dF h2,cF,dF (by omega),cF,gM (by unfold cS;omega),aA (by omega) (by omega)]
 ·rw [dF h1,cF]
  by_cases h2:b < 0
  ·rw [dT h2,cT,aA (n := -9223372036854775808 - b) (by omega) (by omega)]
   by_cases h3:a < -9223372036854775808 - b
   ·rw [dT h3,cT,kO (by unfold cS;omega)]
   ·rw [dF h3,cF,gM (by unfold cS;omega),aA (by omega) (by omega)]
  ·rw [dF h2,cF,gM (by unfold cS;omega),aA (by omega) (by omega)]
theorem BB:∀ {l:List Int},(∀ x∈l,0≤x)→0≤tot l
 | [],_=>by simp [tot]
 | x :: l, h => by
   have h1:=h x (by simp)
   have h2:=BB (l:=l) fun y hy=>h y (by simp [hy])
   simp only [tot];omega
theorem uD:∀ {l:List Int},(∀ x∈l,x < 0)→tot l≤0
 | [],_=>by simp [tot]
 | x :: l, h => by
   have h1:=h x (by simp)
   have h2:=uD (l:=l) fun y hy=>h y (by simp [hy])
   simp only [tot];omega
theorem zU (t:Int):(fR t).2=0∧cS t∧(fR t).1=t∨(fR t).2=4∧¬ cS t∧fR t=(0,4):=by
 by_cases h:cS t
 ·rw [gM h];exact .inl ⟨rfl,h,rfl⟩
 ·rw [kO h];exact .inr ⟨rfl,h,rfl⟩
abbrev T2p:(True∧True)∧True∧True:=⟨⟨trivial,trivial⟩,trivial,trivial⟩
theorem nz (x:Int) (l:List Int):decide ((↑(List.length (x::l)):Int) > 0)=true:=by simp only [ag];exact dT (by omega)
theorem pt:decide ((↑(List.length ([]:List Int)):Int) > 0)=false:=rfl
theorem QZ (x:Int) (l:List Int):((↑(List.length (x::l)):Int)==0)=false:=by simp only [ag];exact bz.2 (by omega)
theorem mO {s y t rest:Int} {r:Int×Int} {dn up:List Int} {A:List Item→AS→Prop} (hs:cS s) (hy:cS y) (ht:t=s+y+rest) (hov:¬ cS (s+y)→¬ cS t) (h:fR t=r)
  (ih:cS (s+y)→fR (s+y+rest)=r→A (hd f226 1) (gr dn (s+y) up)) :
  Sat prog A (fun z:Int×Int=>z=r) (bif (qt s y).2 != 0 then .need ((True∧True)∧True∧True) (.ret ((0:Int),(qt s y).2)) else .stop (hd f226 1) (gr dn (qt s y).1 up)):=by
 rw [GZ hs hy]
 rcases zU (s+y) with ⟨h2,h3,h4⟩ | ⟨h2,h3,h4⟩
 ·rw [h2,h4]
  exact ih h3 (by rw [← ht];exact h)
 ·rw [h4]
  refine ⟨T2p,?_⟩
  show ((0:Int),(4:Int))=r
  rw [← h,kO (hov h3)]
theorem nv:∀ (k:Nat) (dn up:List Int) (s:Int) {r:Int×Int} {A:List Item→AS→Prop} (_:Closed prog codes sigs f226 (bh [.int,.int]) (fun y=>y=r) 0 A) (_:dn.length+up.length≤k)
  (_:∀ x∈dn,x < 0∧cS x) (_:∀ x∈up,0≤x∧cS x) (_:cS s) (_:fR (s+tot dn+tot up)=r),A (hd f226 1) (gr dn s up)
 | k, [], [], s, r, A, hA, hk, hdn, hu, hs, h => by
   refine hA.go (tr [] s []) (bD pt (bD pt ⟨T2p,?_⟩))
   rw [← h]
   show (s,0)=fR (s+0+0)
   rw [show s+0+0=s by omega,gM hs]
 | 0,x::dn,up,s,r,A,hA,hk,hdn,hu,hs,h=>by simp only [ag] at hk;omega
 | 0,[],y::up,s,r,A,hA,hk,hdn,hu,hs,h=>by simp only [ag] at hk;omega
 | k + 1, [], y :: up, s, r, A, hA, hk, hdn, hu, hs, h => by
   have hy:=hu y (by simp)
   have hu':∀ x∈up,0≤x∧cS x:=fun x hx=>hu x (by simp [hx])
   have t1:=BB (l:=up) fun x hx=>(hu' x hx).1
   refine hA.go (tr [] s (y::up)) (dD (nz _ _) (bD pt ?_))
   refine ⟨⟨⟨by omega,by simp only [ag];omega⟩,trivial⟩,⟨⟨by omega,by simp only [ag];omega⟩,trivial⟩,⟨T1,T1,trivial⟩,_,Eq _ _,?_⟩
   refine mO (s:=s) (y:=y) (t:=s+y+tot up) (rest:=tot up) hs hy.2 rfl ?_ (by rw [← h];simp only [tot];congr 1;omega) (fun h3 h4=>?_)
   ·unfold cS at hs hy ⊢;omega
   ·exact nv k [] up (s+y) hA (by simp only [ag,al] at hk ⊢;omega) (fun x hx=>by simp at hx) hu' h3 (by simp only [tot];rw [← h4];congr 1;omega)
 | k + 1, x :: dn, [], s, r, A, hA, hk, hdn, hu, hs, h => by
   have hx:=hdn x (by simp)
   have hd':∀ x∈dn,x < 0∧cS x:=fun y hy=>hdn y (by simp [hy])
   have t1:=uD (l:=dn) fun y hy=>(hd' y hy).1
   have fin:Sat prog A (fun z:Int×Int=>z=r) (bif (qt s x).2 != 0 then .need ((True∧True)∧True∧True) (.ret ((0:Int),(qt s x).2)) else .stop (hd f226 1) (gr dn (qt s x).1 [])):=by
    refine mO (s:=s) (y:=x) (t:=s+x+tot dn) (rest:=tot dn) hs hx.2 rfl ?_ (by rw [← h];simp only [tot];congr 1;omega) (fun h3 h4=>?_)
    ·unfold cS at hs hx ⊢;omega
    ·exact nv k dn [] (s+x) hA (by simp only [ag,al] at hk ⊢;omega) hd' (fun x hx=>by simp at hx) h3 (by simp only [tot];rw [← h4];congr 1;omega)
   refine hA.go (tr (x::dn) s []) (bD pt (dD (nz _ _) (dD (nz _ _) ?_)))
   refine ah (fun g=>?_) (fun g=>dD rfl ?_)
   ·exact ⟨⟨⟨by omega,by simp only [ag];omega⟩,trivial⟩,⟨⟨by omega,by simp only [ag];omega⟩,trivial⟩,⟨T1,T1,trivial⟩,_,Eq _ _,fin⟩
   ·exact ⟨⟨⟨by omega,by simp only [ag];omega⟩,trivial⟩,⟨⟨by omega,by simp only [ag];omega⟩,trivial⟩,⟨T1,T1,trivial⟩,_,Eq _ _,fin⟩
 | k + 1, x :: dn, y :: up, s, r, A, hA, hk, hdn, hu, hs, h => by
   have hx:=hdn x (by simp)
   have hd':∀ x∈dn,x < 0∧cS x:=fun y hy=>hdn y (by simp [hy])
   have hy:=hu y (by simp)
   have hu':∀ x∈up,0≤x∧cS x:=fun x hx=>hu x (by simp [hx])
   refine hA.go (tr (x::dn) s (y::up)) (dD (nz _ _) (dD (nz _ _) ?_))
   refine ah (fun g=>?_) (fun g=>bD (QZ _ _) ?_)
   ·have g:=oT g
    refine ⟨⟨⟨by omega,by simp only [ag];omega⟩,trivial⟩,⟨⟨by omega,by simp only [ag];omega⟩,trivial⟩,⟨T1,T1,trivial⟩,_,Eq _ _,?_⟩
    refine mO (s:=s) (y:=x) (t:=s+x+(tot dn+tot (y::up))) (rest:=tot dn+tot (y::up)) hs hx.2 rfl ?_ (by rw [← h];simp only [tot];congr 1;omega) (fun h3 h4=>?_)
    ·unfold cS at hs hx ⊢;omega
    ·exact nv k dn (y::up) (s+x) hA (by simp only [ag] at hk ⊢;omega) hd' hu h3 (by rw [← h4];congr 1;omega)
   ·have g:=oF g
    refine ⟨⟨⟨by omega,by simp only [ag];omega⟩,trivial⟩,⟨⟨by omega,by simp only [ag];omega⟩,trivial⟩,⟨T1,T1,trivial⟩,_,Eq _ _,?_⟩
    refine mO (s:=s) (y:=y) (t:=s+y+(tot (x::dn)+tot up)) (rest:=tot (x::dn)+tot up) hs hy.2 rfl ?_ (by rw [← h];simp only [tot];congr 1;omega) (fun h3 h4=>?_)
    ·unfold cS at hs hy ⊢;omega
    ·exact nv k (x::dn) up (s+y) hA (by simp only [ag] at hk ⊢;omega) hdn hu' h3 (by rw [← h4];congr 1;omega)
theorem qw {l:List Int} (hl:l.length≤1000000) (hf:io l) {r:Int×Int} {A:Pr} (hA:CL codes sigs f226 [.int,.int] r A) (h:uF l=r)
  (ix:Nat) (dn up:List Int) (hn:dn.length+up.length≤ix) (hdn:∀ x∈dn,x < 0∧cS x) (hu:∀ x∈up,0≤x∧cS x) (ht:tot dn+tot up+tot (l.drop ix)=tot l):A (hd f226 0) (qX l (ix:Int) dn up):=by
 refine hA.go (HU l (ix:Int) dn up) (ah (fun h1=>?_) (fun h1=>?_))
 ·have h1:=oT h1
  have hil:ix < l.length:=by omega
  have hz:cS (l.getD (Int.toNat (ix:Int)) (Ty.dflt .int)):=hf _ (by rw [bb hil];exact aO _)
  rw [aW hil (Ty.dflt .int)] at ht
  simp only [tot] at ht
  refine ⟨⟨⟨by omega,by omega⟩,trivial⟩,ah (fun g=>?_) (fun g=>?_)⟩
  ·have g:=oT g
   refine ⟨⟨⟨by omega,by omega⟩,trivial⟩,⟨T1,trivial⟩,⟨by simp only [ag,al];omega,trivial⟩,?_⟩
   rw [au (by omega)]
   refine qw hl hf hA h (ix+1) _ _ (by simp only [ak,ag,al];omega) (fun x hx=>?_) hu (by rw [mJ];simp only [tot];omega)
   rcases aC.1 hx with hx | hx
   ·exact hdn x hx
   ·obtain rfl:=br.1 hx;exact ⟨g,hz⟩
  ·have g:=oF g
   refine ⟨⟨⟨by omega,by omega⟩,trivial⟩,⟨T1,trivial⟩,⟨by simp only [ag,al];omega,trivial⟩,?_⟩
   rw [au (by omega)]
   refine qw hl hf hA h (ix+1) _ _ (by simp only [ak,ag,al];omega) hdn (fun x hx=>?_) (by rw [mJ];simp only [tot];omega)
   rcases aC.1 hx with hx | hx
   ·exact hu x hx
   ·obtain rfl:=br.1 hx;exact ⟨by omega,hz⟩
 ·have h1:=oF h1
  rw [dN (by omega)] at ht
  simp only [tot] at ht
  refine hA.frz 0 (by kernel_rfl) rfl ?_
  refine hA.frz 0 (by kernel_rfl) (s':=gr dn 0 up) (by kernel_rfl) ?_
  exact nv _ dn up 0 hA (aH _) hdn hu (by unfold cS;omega) (by rw [← h];unfold uF;congr 1;omega)
termination_by l.length - ix
decreasing_by all_goals omega
theorem c226 {l:List Int} (hl:l.length≤1000000) (hf:io l):Pure prog 226 [⟨.sl .int,l⟩] [.int,.int] (uF l):=
 Pure.of_closed (C:=codes) (S:=sigs) mixed func226 (by kernel_rfl) (ac (by kernel_rfl)) fun A hA=>hA.go (Ki l) (by
  refine hA.row 5 3 .int (by kernel_rfl) rfl ?_
  refine hA.row 4 3 .int (by kernel_rfl) (s':=qX l (0:Int) [] []) (by kernel_rfl) ?_
  exact qw hl hf hA rfl 0 [] [] (by simp) (fun x hx=>by simp at hx) (fun x hx=>by simp at hx) (by simp [tot]))
end Go.Proofs.Mn

/- A stock at first: both are the same. (Own work.) -/
namespace Go.Proofs.Mn
open Go.Proofs.Tryz
open Go Go.VL Go.Proofs.Zn
def cL (z:Plate) (k:Nat):Cell:=⟨z.cap,z.start.getD k 0,0⟩
def eC (z:Plate):List Cell:=(List.range' 0 (z.rows * z.cols).toNat).map (cL z)
def bm (d:Deck):List Cell:=d.plates.flatMap eC
def kJ:Log:=⟨8,0,[]⟩
def dw (d:Deck):Stock×Int:=bif dc d != 0 then (⟨[],[],[],0,0,0⟩,dc d) else
 (⟨bm d,List.replicate (bm d).length kJ,List.replicate (bk (aP d)).toNat ⟨1,0⟩,tot ((bm d).map Cell.vol),0,0⟩,0)
theorem uI {c:Int}:∀ {l:List Int},ji c l=true→∀ x∈l,0≤x∧x≤c
 | [],_=>by simp
 | n :: l, h => by
   unfold ji at h
   by_cases h1:n < 0
   ·rw [dT h1] at h;cases h
   rw [dF h1,cF] at h
   by_cases h2:n > c
   ·rw [dT h2] at h;cases h
   rw [dF h2,cF] at h
   intro x hx
   rcases aL.1 hx with rfl | hx
   ·omega
   ·exact uI h x hx
structure PlateOk (z:Plate):Prop where
 cap:1≤z.cap∧z.cap≤1099511627776
 start:∀ k:Nat,0≤z.start.getD k 0∧z.start.getD k 0≤z.cap
 size:1≤z.rows * z.cols∧z.rows * z.cols≤1536
theorem iJ {z:Plate} (h:dg z=true):PlateOk z:=by
 unfold dg at h
 cases hb:cE (er z)
 ·rw [hb] at h;cases h
 rw [hb,cT] at h
 unfold kn at h
 by_cases h1:z.cap < 1
 ·rw [dT h1] at h;cases h
 rw [dF h1,cF] at h
 by_cases h2:z.cap > 1099511627776
 ·rw [dT h2] at h;cases h
 rw [dF h2,cF] at h
 by_cases h3:(z.start.length:Int) > z.rows * z.cols
 ·rw [dT h3] at h;cases h
 rw [dF h3,cF] at h
 have hs:=uI h
 refine ⟨⟨by omega,by omega⟩,fun k=>?_,dH hb⟩
 rcases aw k z.start.length with hk | hk
 ·rw [cJ hk];exact hs _ (aO hk)
 ·rw [show z.start.getD k 0=0 by simp [List.getD,ax hk]];omega
theorem GE {z:Plate} (h:PlateOk z) (k:Nat):eN (cL z k)=true:=by
 obtain ⟨h1,h2⟩:=h.cap
 obtain ⟨h3,h4⟩:=h.start k
 unfold eN cL
 simp only
 rw [dT (by omega),dT (by omega),dT (by omega),dT (by omega)]
 rfl
theorem Hq {z:Plate} (hz:PlateOk z) (kc:Int→List Cell→List Log→Stock×Int):∀ (n ix:Nat) (i:Int) (l1:List Cell) (l2:List Log),0≤i→i+1099511627776 * n≤4611686018427387904 →
  ma z kc n ix i l1 l2=kc (i+tot (((List.range' ix n).map (cL z)).map Cell.vol)) (l1++(List.range' ix n).map (cL z)) (l2++List.replicate n kJ)
 | 0,ix,i,l1,l2,_,_=>by simp [ma,tot]
 | n + 1, ix, i, l1, l2, h0, h1 => by
   have hs:=hz.start ix
   have hc:=hz.cap
   unfold ma
   have e:∀ v,v=z.start.getD ix 0→ma z kc n (ix+1) (w64 (i+v)) (l1++[⟨z.cap,v,0⟩]) (l2++[⟨8,0,[]⟩]) =
     kc (i+tot (((List.range' ix (n+1)).map (cL z)).map Cell.vol)) (l1++(List.range' ix (n+1)).map (cL z)) (l2++List.replicate (n+1) kJ):=by
    intro v hv
    have hv0:0≤v∧v≤1099511627776:=by omega
    rw [aA (by omega) (by omega),Hq hz kc n (ix+1) _ _ _ (by omega) (by omega)]
    have ec:cL z ix=⟨z.cap,v,0⟩:=by unfold cL;rw [hv]
    simp only [gY,bl,tot,ec,aZ,List.singleton_append,cc,kJ]
    rw [fJ]
   by_cases hx:(ix:Int) < z.start.length
   ·rw [dT hx,cT]
    exact e _ rfl
   ·rw [dF hx,cF]
    exact e 0 (by rw [show z.start.getD ix 0=0 by simp [List.getD,ax (show z.start.length≤ix by omega)]])
theorem xJ (i5:Int) (l3:List Cell) (l4:List Log):∀ (n ix:Nat) (l5:List Tip),oH i5 l3 l4 n ix l5=(⟨l3,l4,l5++List.replicate n ⟨1,0⟩,i5,0,0⟩,0)
 | 0,ix,l5=>by simp [oH]
 | n + 1, ix, l5 => by
   unfold oH
   rw [xJ i5 l3 l4 n (ix+1)]
   simp [cc]
theorem iU {z:Plate}:(eC z).length=(z.rows * z.cols).toNat:=by simp [eC]
theorem lD {l:List Int} (h:∀ c∈l,0≤c∧c≤1099511627776):0≤tot l∧tot l≤1099511627776 * l.length:=by
 induction l with
 | nil=>simp [tot]
 | cons x l ih =>
   have h1:=h x (by simp)
   have h2:=ih fun c hc=>h c (by simp [hc])
   simp only [tot,ag];omega
theorem xK (t:Int):∀ (ps:List Plate),(∀ z∈ps,PlateOk z)→∀ (ix:Nat) (i:Int) (l3:List Cell) (l4:List Log),0≤i→i+1688849860263936 * ps.length≤4611686018427387904 →
  oI t ps ix i l3 l4=(⟨l3++ps.flatMap eC,l4++List.replicate (ps.flatMap eC).length kJ,List.replicate t.toNat ⟨1,0⟩,i+tot ((ps.flatMap eC).map Cell.vol),0,0⟩,0)
 | [], _, ix, i, l3, l4, _, _ => by
   unfold oI
   rw [xJ]
   simp [tot]
 | z :: ps, hp, ix, i, l3, l4, h0, h1 => by
   have hz:=hp z (by simp)
   have hs:=hz.size
   have hw:w64 (z.rows * z.cols)=z.rows * z.cols:=aA (by omega) (by omega)
   simp only [ag] at h1
   unfold oI
   rw [hw,cU,Hq hz _ _ _ _ _ _ h0 (by omega)]
   have hb:∀ c∈(eC z).map Cell.vol,0≤c∧c≤1099511627776:=by
    intro c hc
    obtain ⟨x,hx,rfl⟩:=aU.1 hc
    obtain ⟨k,_,rfl⟩:=aU.1 hx
    have:=hz.start k
    have:=hz.cap
    simp only [cL];omega
   have ht:=lD hb
   rw [bu,iU] at ht
   have e:(List.range' 0 (z.rows * z.cols).toNat).map (cL z)=eC z:=rfl
   rw [e,xK t ps (fun y hy=>hp y (by simp [hy])) (ix+1) _ _ _ (by omega) (by omega)]
   simp only [eA,aZ,bH,mJ,ak,gE,iU,fJ]
theorem rM {d:Deck} (h:(dc d != 0)=false):(dy d != 0)=false:=by
 cases h1:dy d != 0
 ·rfl
 ·have e:dc d=dy d:=by unfold dc dz;rw [h1];rfl
  rw [e,h1] at h;cases h
theorem kp {d:Deck} (h:(dc d != 0)=false):(bv d).2.1=bk (aP d):=by
 unfold bv
 rw [rM h];rfl
theorem sg (d:Deck):m87 d=dw d:=by
 unfold m87 dw
 cases h:dc d != 0
 ·have hk:=cO h
  rw [cF,cF,xK _ _ (fun z hz=>iJ (hk.plate z hz)) _ _ _ _ (by omega) (by have:=hk.plates;omega)]
  have hc:=kp h
  simp only [hc,bm,iq,Int.zero_add]
 ·rfl
theorem Ej {z:Plate} (hz:PlateOk z) (k:Nat):(oU z.cap (z.start.getD k 0)).1=cL z k:=by
 have h:=GE hz k
 unfold cL at h
 unfold oU cL
 rw [h];rfl
theorem Gm:(AL 8).1=kJ:=by decide +kernel
theorem Hr {z:Plate} (hz:PlateOk z) (kc:Int→List Cell→List Log→Stock×Int):∀ (n ix:Nat) (i:Int) (l1:List Cell) (l2:List Log),0≤i→i+1099511627776 * n≤4611686018427387904 →
  mb z kc n ix i l1 l2=kc (i+tot (((List.range' ix n).map (cL z)).map Cell.vol)) (l1++(List.range' ix n).map (cL z)) (l2++List.replicate n kJ)
 | 0,ix,i,l1,l2,_,_=>by simp [mb,tot]
 | n + 1, ix, i, l1, l2, h0, h1 => by
   have hs:=hz.start ix
   have hc:=hz.cap
   unfold mb
   have e:∀ v,v=z.start.getD ix 0→mb z kc n (ix+1) (w64 (i+v)) (l1++[(oU z.cap v).1]) (l2++[(AL 8).1]) =
     kc (i+tot (((List.range' ix (n+1)).map (cL z)).map Cell.vol)) (l1++(List.range' ix (n+1)).map (cL z)) (l2++List.replicate (n+1) kJ):=by
    intro v hv
    have hv0:0≤v∧v≤1099511627776:=by omega
    have e1:(oU z.cap v).1=cL z ix:=by rw [hv];exact Ej hz ix
    rw [e1,Gm,aA (by omega) (by omega),Hr hz kc n (ix+1) _ _ _ (by omega) (by omega)]
    have ec:(cL z ix).vol=v:=by unfold cL;rw [hv]
    simp only [gY,bl,tot,ec,aZ,List.singleton_append,cc]
    rw [fJ]
   by_cases hx:(ix:Int) < z.start.length
   ·rw [dT hx,cT]
    exact e _ rfl
   ·rw [dF hx,cF]
    exact e 0 (by rw [show z.start.getD ix 0=0 by simp [List.getD,ax (show z.start.length≤ix by omega)]])
theorem xM (i4:Int) (l3:List Cell) (l4:List Log):∀ (n ix:Nat) (l5:List Tip),oJ i4 l3 l4 n ix l5=(⟨l3,l4,l5++List.replicate n ⟨1,0⟩,i4,0,0⟩,0)
 | 0,ix,l5=>by simp [oJ]
 | n + 1, ix, l5 => by
   unfold oJ
   rw [xM i4 l3 l4 n (ix+1)]
   simp [cc]
theorem xN (d:Deck):∀ (ps:List Plate),(∀ z∈ps,PlateOk z)→∀ (ix:Nat) (i:Int) (l3:List Cell) (l4:List Log),0≤i→i+1688849860263936 * ps.length≤4611686018427387904 →
  oK d ps ix i l3 l4=(⟨l3++ps.flatMap eC,l4++List.replicate (ps.flatMap eC).length kJ,List.replicate (bv d).2.1.toNat ⟨1,0⟩,i+tot ((ps.flatMap eC).map Cell.vol),0,0⟩,0)
 | [], _, ix, i, l3, l4, _, _ => by
   unfold oK
   rw [xM]
   simp [tot]
 | z :: ps, hp, ix, i, l3, l4, h0, h1 => by
   have hz:=hp z (by simp)
   have hs:=hz.size
   have hw:w64 (z.rows * z.cols)=z.rows * z.cols:=aA (by omega) (by omega)
   simp only [ag] at h1
   unfold oK
   rw [hw,cU,Hr hz _ _ _ _ _ _ h0 (by omega)]
   have hb:∀ c∈(eC z).map Cell.vol,0≤c∧c≤1099511627776:=by
    intro c hc
    obtain ⟨x,hx,rfl⟩:=aU.1 hc
    obtain ⟨k,_,rfl⟩:=aU.1 hx
    have:=hz.start k
    have:=hz.cap
    simp only [cL];omega
   have ht:=lD hb
   rw [bu,iU] at ht
   have e:(List.range' 0 (z.rows * z.cols).toNat).map (cL z)=eC z:=rfl
   rw [e,xN d ps (fun y hy=>hp y (by simp [hy])) (ix+1) _ _ _ (by omega) (by omega)]
   simp only [eA,aZ,bH,mJ,ak,gE,iU,fJ]
theorem qa (d:Deck):m83 d=dw d:=by
 unfold m83 dw
 cases h:dc d != 0
 ·have hk:=cO h
  rw [cF,cF,xN _ _ (fun z hz=>iJ (hk.plate z hz)) _ _ _ _ (by omega) (by have:=hk.plates;omega)]
  have hc:=kp h
  simp only [hc,bm,iq,Int.zero_add]
 ·rfl
theorem nB:∀ (ps:List Plate),(∀ z∈ps,PlateOk z)→((ps.flatMap eC).length:Int)=bk (ps.map er)
 | [],_=>rfl
 | z :: ps, h => by
   have hz:=(h z (by simp)).size
   have ih:=nB ps fun y hy=>h y (by simp [hy])
   simp only [eA,ak,iU,bl,bk,er] at ih ⊢
   omega
theorem lJ {d:Deck} (h:(dc d != 0)=false):((bm d).length:Int)=bk (aK d):=nB d.plates fun z hz=>iJ ((cO h).plate z hz)
end Go.Proofs.Mn

/- Models: small plain facts that the contracts want. (Own work.) -/
namespace Go.Proofs.Mo
open Go.Proofs.Tryz
open Go Go.VL Go.Proofs.Zn Go.Proofs.Mn
def sR (l:Log):Int:=(l.list.length:Int)
def kK (p:Int→Bool):List Int→Nat→Int
 | [],_ => -1
 | x::xs,i=>bif p x then (i:Int) else kK p xs (i+1)
theorem lL (p:Int→Bool):∀ (l:List Int) (i:Nat),kK p l i = -1∨((i:Int)≤kK p l i∧kK p l i < (i:Int)+l.length)
 | [],i=>.inl rfl
 | x :: xs, i => by
   unfold kK
   cases p x
   ·rw [cF]
    rcases lL p xs (i+1) with h | ⟨h1,h2⟩
    ·exact .inl h
    ·exact .inr ⟨by omega,by simp only [ag];omega⟩
   ·rw [cT]
    exact .inr ⟨by omega,by simp only [ag];omega⟩
theorem vF {p:Int→Bool}:∀ {l:List Int} {i:Nat},kK p l i < 0→∀ x∈l,p x=false
 | [],i,_=>by simp
 | x :: xs, i, h => by
   unfold kK at h
   cases hp:p x
   ·rw [hp,cF] at h
    intro y hy
    rcases aL.1 hy with rfl | hy
    ·exact hp
    ·exact vF h y hy
   ·rw [hp,cT] at h;omega
theorem lg (o:List Int):∀ (l:List Int) (i:Nat),fW o l i=kK (rz o) l i
 | [],i=>rfl
 | x :: xs, i => by
   unfold fW kK
   rw [lg o xs (i+1)]
theorem xY {o l:List Int} (h:¬ eu o l≥0):∀ x∈l,0≤x∧x < o.length:=by
 have h1:kK (rz o) l 0 < 0:=by
  have e:eu o l=kK (rz o) l 0:=lg o l 0
  rw [← e];omega
 intro x hx
 have h2:=vF h1 x hx
 unfold rz at h2
 by_cases h3:x < 0
 ·rw [dT h3] at h2;cases h2
 ·rw [dF h3,cF] at h2
  have:=oF h2
  omega
theorem sL (o l:List Int):eu o l < l.length ∧ -1≤eu o l:=by
 have e:eu o l=kK (rz o) l 0:=lg o l 0
 rw [e]
 rcases lL (rz o) l 0 with h | h <;> omega
theorem oM (o:List Int) (w:Int):∀ (l:List Int) (i:Nat),dQ o w l i=kK (iM o w) l i
 | [],i=>rfl
 | x :: xs, i => by
   unfold dQ kK
   rw [oM o w xs (i+1)]
theorem oL (o:List Int) (w:Int):∀ (l:List Int) (i:Nat),dP o w l i=kK (iL o w) l i
 | [],i=>rfl
 | x :: xs, i => by
   unfold dP kK
   rw [oL o w xs (i+1)]
theorem sK (o:List Int) (w:Int) (l:List Int):dK o w l < l.length ∧ -1≤dK o w l:=by
 have e:dK o w l=kK (iM o w) l 0:=oM o w l 0
 rw [e]
 rcases lL (iM o w) l 0 with h | h <;> omega
theorem sJ (o:List Int) (w:Int) (l:List Int):dJ o w l < l.length ∧ -1≤dJ o w l:=by
 have e:dJ o w l=kK (iL o w) l 0:=oL o w l 0
 rw [e]
 rcases lL (iL o w) l 0 with h | h <;> omega
theorem hZ {α:Type} {l:List α} {i:Nat} {x:α} (h:l[i]?=some x):l.set i x=l:=by
 refine gC fun j=>?_
 rw [bY]
 split
 ·rename_i e;subst e
  obtain ⟨hi,hx⟩:=az.1 h
  simp [hi,hx]
 ·rfl
theorem getD_some {α:Type} {l:List α} {i:Nat} {d:α} (h:i < l.length):l[i]?=some (l.getD i d):=by simp [List.getD,h]
theorem yJ (w:Int) (e:Bool) (x:List Int×Int×Int):∀ (i:Nat) (T:TypeId) (t:Ty) (xs:List t.ty),i < 1→(bif e then (⟨[iK,i64 x.2.1,i64 x.2.2],[(0,.box [i64 w])],1⟩:GRes) else ⟨[.own 1 .int,i64 0,i64 0],[(0,.box [i64 w]),(1,.row 3 .int x.1)],2⟩).H.get i=some (.row T t xs)→∃ ys,Heap.get [(0,.box [i64 w])] i=some (.row T t ys)∧ys.length=xs.length:=fun i T t xs hi h=>by
 obtain rfl:i=0:=by omega
 cases e <;> cases h
theorem lK {l:Log} (h:ik l=true):1≤l.room∧l.room≤64∧0≤l.last∧l.last≤2147483647∧(l.list.length:Int)≤l.room∧(l.list.length:Int)≤l.last∧xl (nW l) l.list 0=true:=by
 unfold ik at h
 by_cases h1:l.room < 1
 ·rw [dT h1] at h;cases h
 rw [dF h1,cF] at h
 by_cases h2:l.room > 64
 ·rw [dT h2] at h;cases h
 rw [dF h2,cF] at h
 by_cases h3:l.last < 0
 ·rw [dT h3] at h;cases h
 rw [dF h3,cF] at h
 by_cases h4:l.last > 2147483647
 ·rw [dT h4] at h;cases h
 rw [dF h4,cF] at h
 by_cases h5:(l.list.length:Int) > l.room
 ·rw [dT h5] at h;cases h
 rw [dF h5,cF] at h
 by_cases h6:(l.list.length:Int) > l.last
 ·rw [dT h6] at h;cases h
 rw [dF h6,cF] at h
 exact ⟨by omega,by omega,by omega,by omega,by omega,by omega,h⟩
theorem fT {l:Log} (h:(!ik l)=false):nW l=l.last - l.list.length∧0≤nW l∧l.last≤2147483647∧l.list.length≤64∧0≤l.last∧(l.list.length:Int)≤l.room∧l.room≤64∧1≤l.room:=by
 obtain ⟨h1,h2,h3,h4,h5,h6,_⟩:=lK (nf h)
 have e:nW l=l.last - l.list.length:=by
  unfold nW
  exact aA (by omega) (by omega)
 exact ⟨e,by omega,h4,by omega,h3,h5,h2,h1⟩
structure OkM (m:Model):Prop where
 borders:m.deck.borders.length≤1000000
 plates:m.deck.plates.length≤1000000
 racks:m.deck.racks.length≤1000000
 cells:m.stock.cells.length≤1000000
 logs:m.stock.logs.length≤1000000
 tips:m.stock.tips.length≤1000000
 owners:m.owners.length≤1000000
 start:∀ p∈m.deck.plates,p.start.length≤1000000
 list:∀ l∈m.stock.logs,l.list.length≤1000000
 fit:io (m.stock.cells.map Cell.vol)
 own:m.owners.length≤100000
structure OkS (s:Stock):Prop where
 cells:s.cells.length≤1000000
 logs:s.logs.length≤1000000
 tips:s.tips.length≤1000000
 list:∀ l∈s.logs,l.list.length≤1000000
 fit:io (s.cells.map Cell.vol)
theorem OkM.toS {m:Model} (h:OkM m):OkS m.stock:=⟨h.cells,h.logs,h.tips,h.list,h.fit⟩
theorem rj {α β:Type} {l:List α} {ix:Nat} (h:ix < l.length) (f:α→β) (d:α):(l.take ix).map f++[f (l.getD (Int.toNat (ix:Int)) d)]=(l.take (ix+1)).map f:=by
 rw [bb h,aY h,bH];rfl
theorem DT {l:List Cell} (h:io (l.map Cell.vol)) (ix:Nat):io ((l.take ix).map Cell.vol):=fun x hx=>by
 obtain ⟨c,hc,rfl⟩:=aU.1 hx
 exact h _ (List.mem_map_of_mem (ie hc))
def BC (s:Stock):Int×Int:=uF (s.cells.map Cell.vol)
theorem LJ {s:Stock} (h:OkS s):Pure prog 160 [⟨.stock,s⟩] [.int,.int] (BC s):=(Mn.c160 h.cells).eq (FV (by rw [bu];exact h.cells) h.fit)
theorem CK {d:Deck} (h:((m87 d).2 != 0)=false):(m87 d).1.logs.length=(m87 d).1.cells.length:=by
 rw [sg] at h ⊢
 unfold dw at h ⊢
 cases hz:dc d != 0
 ·simp
 ·rfl
theorem OkM.start' {m:Model} (h:OkM m) (i:Nat):(m.deck.plates.getD i (Ty.dflt Ty.plate)).start.length≤1000000:=by
 rcases aw i m.deck.plates.length with hi | hi
 ·rw [cJ hi];exact h.start _ (aO hi)
 ·rw [show m.deck.plates.getD i (Ty.dflt Ty.plate)=Ty.dflt Ty.plate by simp [List.getD,ax hi]];decide
theorem OkM.list' {m:Model} (h:OkM m) (i:Nat):(m.stock.logs.getD i (Ty.dflt Ty.log)).list.length≤1000000:=by
 rcases aw i m.stock.logs.length with hi | hi
 ·rw [cJ hi];exact h.list _ (aO hi)
 ·rw [show m.stock.logs.getD i (Ty.dflt Ty.log)=Ty.dflt Ty.log by simp [List.getD,ax hi]];decide
end Go.Proofs.Mo

namespace Go.Proofs.Mo
open Go.Proofs.Tryz
open Go Go.VL
set_option maxRecDepth 20000
open Go.Proofs.Zn Go.Proofs.Mn
def fV (to:Int):List Int→Nat→(List Int)→(List Int×Int×Int)
 | [],ix,l1=>(l1,(0:Int),(0:Int))
 | z::zs,ix,l1=>fV to zs (ix+1) (l1.set (z).toNat to)
theorem kY (ids:List Int) (to w:Int) (hl:ids.length≤1000000) (o:List Int) (hb:∀ x∈ids,0≤x∧x < o.length) {r:List Int×Int×Int} {A:List Item→AS→Prop} (hA:Closed prog codes sigs f271 (dX 1) (fun r'=>GRes.Le r' ((fun x:List Int×Int×Int=>(bif x.2.2 != 0 then ⟨[iK,i64 x.2.1,i64 x.2.2],[(0,.box [i64 w])],1⟩ else ⟨[.own 1 .int,i64 0,i64 0],[(0,.box [i64 w]),(1,.row 3 .int x.1)],2⟩:GRes)) r)) 1 A) (ix:Nat) (l1:List Int) (hv:l1.length=o.length) (h:fV to (List.drop ix ids) ix l1=r):A (hd f271 0) (gV ids to w l1 (ix:Int)):=by
 refine hA.go (ws ids to w l1 (ix:Int)) (ah (fun h1=>?_) (fun h1=>?_))
 ·have h1:=oT h1
  have hil:ix < ids.length:=by omega
  rw [aW hil Ty.int.dflt,fV] at h
  have hz:=hb _ (jP hil (d:=Ty.dflt Ty.int))
  refine ⟨⟨⟨(by omega),(by first | omega | (have:=sL o ids;omega) | (have:=sK o w ids;omega) | (have:=sJ o w ids;omega))⟩,trivial⟩,⟨(by omega),(by omega)⟩,⟨(by omega),trivial,trivial⟩,?_⟩
  rw [au (by omega)]
  exact kY ids to w hl o hb hA (ix+1) _ (by simp only [fO];omega) h
 ·have h1:=oF h1
  rw [dN (by omega),fV] at h
  exact ⟨trivial,.of_eq (by rw [← h];first | rfl | (simp only [he];rfl))⟩
termination_by ids.length - ix
decreasing_by all_goals omega
def iO (o ids:List Int) (who to e w:Int):List Int×Int×Int:=bif (!(Df o)) then ([],(0:Int),(1:Int)) else bif (!(AD who)) then ([],(0:Int),(1:Int)) else bif (!(De ids)) then ([],(0:Int),(1:Int)) else bif decide ((eu o ids)≥(0:Int)) then ([],ids.getD (eu o ids).toNat Ty.int.dflt,(3:Int)) else bif decide ((dK o w ids)≥(0:Int)) then ([],ids.getD (dK o w ids).toNat Ty.int.dflt,e) else fV to ids 0 o
theorem Ep (o ids:List Int) (who to e w:Int) (hl:ids.length≤1000000) (ho:o.length≤1000000) (he:(e != 0)=true):Gc prog 271 [.d (.sl .int o),.d (.sl .int ids),i64 who,i64 to,.clo (.func 272) [] [.ptr 0 0],i64 e] [(0,.box [i64 w])] 1 ((fun x:List Int×Int×Int=>(bif x.2.2 != 0 then ⟨[iK,i64 x.2.1,i64 x.2.2],[(0,.box [i64 w])],1⟩ else ⟨[.own 1 .int,i64 0,i64 0],[(0,.box [i64 w]),(1,.row 3 .int x.1)],2⟩:GRes)) (iO o ids who to e w)):=
 Gc.of_closed (C:=codes) (S:=sigs) mixed func271 (by kernel_rfl) (yJ _ _ _) fun A hA=>hA.go (BP o ids who to e w) (by
  obtain ⟨r,h⟩:∃ r,iO o ids who to e w=r:=⟨_,rfl⟩
  rw [h] at hA ⊢
  unfold iO at h
  refine ⟨⟨q2,trivial⟩,_,Lz _ (by omega),?_⟩
  refine ai h (fun g1 h=>?_) (fun g1 h=>?_)
  ·exact ⟨trivial,.of_eq (by rw [← h];first | rfl | (simp only [he];rfl))⟩
  ·refine ⟨⟨q2,trivial⟩,_,Jf _,?_⟩
   refine ai h (fun g2 h=>?_) (fun g2 h=>?_)
   ·exact ⟨trivial,.of_eq (by rw [← h];first | rfl | (simp only [he];rfl))⟩
   ·refine ⟨⟨q2,trivial⟩,_,Ly _ (by omega),?_⟩
    refine ai h (fun g3 h=>?_) (fun g3 h=>?_)
    ·exact ⟨trivial,.of_eq (by rw [← h];first | rfl | (simp only [he];rfl))⟩
    ·refine ⟨eu o ids,vW _ _ (by omega),?_⟩
     refine ai h (fun g4 h=>?_) (fun g4 h=>?_)
     ·have g4:=oT g4
      exact ⟨⟨⟨(by omega),(by first | omega | (have:=sL o ids;omega) | (have:=sK o w ids;omega) | (have:=sJ o w ids;omega))⟩,trivial⟩,trivial,.of_eq (by rw [← h];first | rfl | (simp only [he];rfl))⟩
     ·have g4:=oF g4
      refine ⟨dK o w ids,un _ _ _ (by omega) (xY (by assumption)),?_⟩
      refine ai h (fun g5 h=>?_) (fun g5 h=>?_)
      ·have g5:=oT g5
       exact ⟨⟨⟨(by omega),(by first | omega | (have:=sL o ids;omega) | (have:=sK o w ids;omega) | (have:=sJ o w ids;omega))⟩,trivial⟩,trivial,.of_eq (by rw [← h];first | rfl | (simp only [he];rfl))⟩
      ·have g5:=oF g5
       refine ⟨o,uo (by omega),?_⟩
       exact kY ids to w hl o (xY (by assumption)) hA 0 o (by rfl) h)
def fU (to:Int):List Int→Nat→(List Int)→(List Int×Int×Int)
 | [],ix,l1=>(l1,(0:Int),(0:Int))
 | z::zs,ix,l1=>fU to zs (ix+1) (l1.set (z).toNat to)
theorem kX (ids:List Int) (to w:Int) (hl:ids.length≤1000000) (o:List Int) (hb:∀ x∈ids,0≤x∧x < o.length) {r:List Int×Int×Int} {A:List Item→AS→Prop} (hA:Closed prog codes sigs f271 (dX 1) (fun r'=>GRes.Le r' ((fun x:List Int×Int×Int=>(bif x.2.2 != 0 then ⟨[iK,i64 x.2.1,i64 x.2.2],[(0,.box [i64 w])],1⟩ else ⟨[.own 1 .int,i64 0,i64 0],[(0,.box [i64 w]),(1,.row 3 .int x.1)],2⟩:GRes)) r)) 1 A) (ix:Nat) (l1:List Int) (hv:l1.length=o.length) (h:fU to (List.drop ix ids) ix l1=r):A (hd f271 0) (qV ids to w l1 (ix:Int)):=by
 refine hA.go (wq ids to w l1 (ix:Int)) (ah (fun h1=>?_) (fun h1=>?_))
 ·have h1:=oT h1
  have hil:ix < ids.length:=by omega
  rw [aW hil Ty.int.dflt,fU] at h
  have hz:=hb _ (jP hil (d:=Ty.dflt Ty.int))
  refine ⟨⟨⟨(by omega),(by first | omega | (have:=sL o ids;omega) | (have:=sK o w ids;omega) | (have:=sJ o w ids;omega))⟩,trivial⟩,⟨(by omega),(by omega)⟩,⟨(by omega),trivial,trivial⟩,?_⟩
  rw [au (by omega)]
  exact kX ids to w hl o hb hA (ix+1) _ (by simp only [fO];omega) h
 ·have h1:=oF h1
  rw [dN (by omega),fU] at h
  exact ⟨trivial,.of_eq (by rw [← h];first | rfl | (simp only [he];rfl))⟩
termination_by ids.length - ix
decreasing_by all_goals omega
def iN (o ids:List Int) (who to e w:Int):List Int×Int×Int:=bif (!(Df o)) then ([],(0:Int),(1:Int)) else bif (!(AD who)) then ([],(0:Int),(1:Int)) else bif (!(De ids)) then ([],(0:Int),(1:Int)) else bif decide ((eu o ids)≥(0:Int)) then ([],ids.getD (eu o ids).toNat Ty.int.dflt,(3:Int)) else bif decide ((dJ o w ids)≥(0:Int)) then ([],ids.getD (dJ o w ids).toNat Ty.int.dflt,e) else fU to ids 0 o
theorem Eo (o ids:List Int) (who to e w:Int) (hl:ids.length≤1000000) (ho:o.length≤1000000) (he:(e != 0)=true):Gc prog 271 [.d (.sl .int o),.d (.sl .int ids),i64 who,i64 to,.clo (.func 273) [] [.ptr 0 0],i64 e] [(0,.box [i64 w])] 1 ((fun x:List Int×Int×Int=>(bif x.2.2 != 0 then ⟨[iK,i64 x.2.1,i64 x.2.2],[(0,.box [i64 w])],1⟩ else ⟨[.own 1 .int,i64 0,i64 0],[(0,.box [i64 w]),(1,.row 3 .int x.1)],2⟩:GRes)) (iN o ids who to e w)):=
 Gc.of_closed (C:=codes) (S:=sigs) mixed func271 (by kernel_rfl) (yJ _ _ _) fun A hA=>hA.go (BO o ids who to e w) (by
  obtain ⟨r,h⟩:∃ r,iN o ids who to e w=r:=⟨_,rfl⟩
  rw [h] at hA ⊢
  unfold iN at h
  refine ⟨⟨q2,trivial⟩,_,Lz _ (by omega),?_⟩
  refine ai h (fun g1 h=>?_) (fun g1 h=>?_)
  ·exact ⟨trivial,.of_eq (by rw [← h];first | rfl | (simp only [he];rfl))⟩
  ·refine ⟨⟨q2,trivial⟩,_,Jf _,?_⟩
   refine ai h (fun g2 h=>?_) (fun g2 h=>?_)
   ·exact ⟨trivial,.of_eq (by rw [← h];first | rfl | (simp only [he];rfl))⟩
   ·refine ⟨⟨q2,trivial⟩,_,Ly _ (by omega),?_⟩
    refine ai h (fun g3 h=>?_) (fun g3 h=>?_)
    ·exact ⟨trivial,.of_eq (by rw [← h];first | rfl | (simp only [he];rfl))⟩
    ·refine ⟨eu o ids,vW _ _ (by omega),?_⟩
     refine ai h (fun g4 h=>?_) (fun g4 h=>?_)
     ·have g4:=oT g4
      exact ⟨⟨⟨(by omega),(by first | omega | (have:=sL o ids;omega) | (have:=sK o w ids;omega) | (have:=sJ o w ids;omega))⟩,trivial⟩,trivial,.of_eq (by rw [← h];first | rfl | (simp only [he];rfl))⟩
     ·have g4:=oF g4
      refine ⟨dJ o w ids,um _ _ _ (by omega) (xY (by assumption)),?_⟩
      refine ai h (fun g5 h=>?_) (fun g5 h=>?_)
      ·have g5:=oT g5
       exact ⟨⟨⟨(by omega),(by first | omega | (have:=sL o ids;omega) | (have:=sK o w ids;omega) | (have:=sJ o w ids;omega))⟩,trivial⟩,trivial,.of_eq (by rw [← h];first | rfl | (simp only [he];rfl))⟩
      ·have g5:=oF g5
       refine ⟨o,uo (by omega),?_⟩
       exact kX ids to w hl o (xY (by assumption)) hA 0 o (by rfl) h)
def pf (o ids:List Int) (w:Int):List Int×Int×Int:=let y1:=iO o ids w w (140:Int) w;bif (mo y1) then ([],y1.2.1,y1.2.2) else (y1.1,(0:Int),(0:Int))
theorem c229 (o ids:List Int) (w:Int) (hl:ids.length≤1000000) (ho:o.length≤1000000):Pure prog 229 [⟨.sl .int,o⟩,⟨.sl .int,ids⟩,⟨.int,w⟩] [.sl .int,.int,.int] (pf o ids w):=
 Pure.of_closed (C:=codes) (S:=sigs) mixed func229 (by kernel_rfl) (ac (by kernel_rfl)) fun A hA=>hA.go (t229 o ids w) (by
  obtain ⟨r,h⟩:∃ r,pf o ids w=r:=⟨_,rfl⟩
  rw [h] at hA ⊢
  unfold pf at h
  refine ⟨iO o ids w w (140:Int) w,Ep _ _ _ _ _ _ (by omega) (by omega) (by decide),?_⟩
  refine ai h (fun g1 h=>?_) (fun g1 h=>?_)
  ·exact ⟨⟨q2,q2,trivial,trivial⟩,h⟩
  ·exact ⟨⟨q2,q2,trivial,trivial⟩,h⟩)
def ob (o ids:List Int) (w:Int):List Int×Int×Int:=let y1:=iN o ids w (0:Int) (141:Int) w;bif (mo y1) then ([],y1.2.1,y1.2.2) else (y1.1,(0:Int),(0:Int))
theorem LF (o ids:List Int) (w:Int) (hl:ids.length≤1000000) (ho:o.length≤1000000):Pure prog 231 [⟨.sl .int,o⟩,⟨.sl .int,ids⟩,⟨.int,w⟩] [.sl .int,.int,.int] (ob o ids w):=
 Pure.of_closed (C:=codes) (S:=sigs) mixed func231 (by kernel_rfl) (ac (by kernel_rfl)) fun A hA=>hA.go (t231 o ids w) (by
  obtain ⟨r,h⟩:∃ r,ob o ids w=r:=⟨_,rfl⟩
  rw [h] at hA ⊢
  unfold ob at h
  refine ⟨iN o ids w (0:Int) (141:Int) w,Eo _ _ _ _ _ _ (by omega) (by omega) (by decide),?_⟩
  refine ai h (fun g1 h=>?_) (fun g1 h=>?_)
  ·exact ⟨⟨q2,q2,trivial,trivial⟩,h⟩
  ·exact ⟨⟨q2,q2,trivial,trivial⟩,h⟩)
def kZ (w:Int):List Int→Nat→(List Int)→(List Int)
 | [],ix,l1=>l1
 | z::zs,ix,l1=>bif (z==w) then kZ w zs (ix+1) (l1++[(ix:Int)]) else kZ w zs (ix+1) l1
theorem mz (o:List Int) (w:Int) (hl:o.length≤1000000)  {r:List Int} {A:Pr} (hA:CL codes sigs f270 [.sl .int] r A) (ix:Nat) (l1:List Int) (hv:l1.length≤ix) (h:kZ w (List.drop ix o) ix l1=r):A (hd f270 0) (qW o w (ix:Int) l1):=by
 refine hA.go (HT o w (ix:Int) l1) (ah (fun h1=>?_) (fun h1=>?_))
 ·have h1:=oT h1
  have hil:ix < o.length:=by omega
  rw [aW hil Ty.int.dflt,kZ] at h
  refine ⟨⟨⟨(by omega),(by omega)⟩,trivial⟩,?_⟩
  refine ai h (fun g1 h=>?_) (fun g1 h=>?_)
  ·try replace g1:=bn g1
   refine ⟨⟨q2,trivial⟩,⟨(by simp only [ag,al];omega),trivial⟩,?_⟩
   rw [au (by omega)]
   exact mz o w hl  hA (ix+1) _ (by first | omega | (simp only [ak,ag,al];omega)) h
  ·rw [au (by omega)]
   exact mz o w hl  hA (ix+1) _ (by first | omega | (simp only [ak,ag,al];omega)) h
 ·have h1:=oF h1
  rw [dN (by omega),kZ] at h
  exact ⟨q2,h⟩
termination_by o.length - ix
decreasing_by all_goals omega
def AF (o:List Int) (w:Int):List Int:=kZ w o 0 []
theorem c270 (o:List Int) (w:Int) (hl:o.length≤1000000):Pure prog 270 [⟨.sl .int,o⟩,⟨.int,w⟩] [.sl .int] (AF o w):=
 Pure.of_closed (C:=codes) (S:=sigs) mixed func270 (by kernel_rfl) (ac (by kernel_rfl)) fun A hA=>hA.go (t270 o w) (by
  obtain ⟨r,h⟩:∃ r,AF o w=r:=⟨_,rfl⟩
  rw [h] at hA ⊢
  unfold AF at h
  refine hA.row 5 3 .int (by kernel_rfl) (s':=qW o w (0:Int) []) (by kernel_rfl) ?_
  exact mz o w hl  hA 0 [] (by simp) h)
def vr (o:List Int) (w:Int):List Int→Nat→(Int×Bool)
 | [],ix=>((0:Int),false)
 | z::zs,ix=>bif decide (z < (0:Int)) then (z,true) else bif decide (z≥(o.length:Int)) then (z,true) else bif (o.getD (z).toNat Ty.int.dflt != w) then (z,true) else vr o w zs (ix+1)
theorem so (o ids:List Int) (w:Int) (hl:ids.length≤1000000)  {r:Int×Bool} {A:Pr} (hA:CL codes sigs f99 [.int,.bool] r A) (ix:Nat) (h:vr o w (List.drop ix ids) ix=r):A (hd f99 0) (zj o ids w (ix:Int)):=by
 refine hA.go (JJ o ids w (ix:Int)) (ah (fun h1=>?_) (fun h1=>?_))
 ·have h1:=oT h1
  have hil:ix < ids.length:=by omega
  rw [aW hil Ty.int.dflt,vr] at h
  refine ⟨⟨⟨(by omega),(by omega)⟩,trivial⟩,?_⟩
  refine ai h (fun g1 h=>?_) (fun g1 h=>?_)
  ·have g1:=oT g1
   exact ⟨⟨q2,trivial,trivial⟩,h⟩
  ·have g1:=oF g1
   refine ai h (fun g2 h=>?_) (fun g2 h=>?_)
   ·have g2:=oT g2
    exact ⟨⟨q2,trivial,trivial⟩,h⟩
   ·have g2:=oF g2
    refine ⟨⟨⟨(by omega),(by omega)⟩,trivial⟩,?_⟩
    refine ai h (fun g3 h=>?_) (fun g3 h=>?_)
    ·exact ⟨⟨q2,trivial,trivial⟩,h⟩
    ·try replace g3:=am.1 g3
     rw [au (by omega)]
     exact so o ids w hl  hA (ix+1) h
 ·have h1:=oF h1
  rw [dN (by omega),vr] at h
  exact ⟨⟨q2,trivial,trivial⟩,h⟩
termination_by ids.length - ix
decreasing_by all_goals omega
def m99 (o ids:List Int) (w:Int):Int×Bool:=vr o w ids 0
theorem c99 (o ids:List Int) (w:Int) (hl:ids.length≤1000000):Pure prog 99 [⟨.sl .int,o⟩,⟨.sl .int,ids⟩,⟨.int,w⟩] [.int,.bool] (m99 o ids w):=
 Pure.of_closed (C:=codes) (S:=sigs) mixed func99 (by kernel_rfl) (ac (by kernel_rfl)) fun A hA=>hA.go (t99 o ids w) (by
  obtain ⟨r,h⟩:∃ r,m99 o ids w=r:=⟨_,rfl⟩
  rw [h] at hA ⊢
  unfold m99 at h
  exact so o ids w hl  hA 0 h)
def od (l:List Tip) (b:Int):Int×Bool:=let y1:=Di l (0:Int) (Tip.mk (2:Int) b);(y1.1,y1.2)
theorem Jk (l:List Tip) (b:Int) (hl:l.length≤1000000):Pure prog 166 [⟨.sl .tip,l⟩,⟨.int,b⟩] [.int,.bool] (od l b):=
 Pure.of_closed (C:=codes) (S:=sigs) mixed func166 (by kernel_rfl) (ac (by kernel_rfl)) fun A hA=>hA.go (t166 l b) (by
  obtain ⟨r,h⟩:∃ r,od l b=r:=⟨_,rfl⟩
  rw [h] at hA ⊢
  unfold od at h
  exact ⟨⟨q2,q2,q3,trivial⟩,_,Mn.c227 _ _ _ (by omega),⟨q2,trivial,trivial⟩,h⟩)
def kf (b:Int):List Tip→Nat→Int
 | [],ix=>(-1:Int)
 | z::zs,ix=>bif ((z).state==(2:Int)) then bif ((z).by'==b) then (ix:Int) else kf b zs (ix+1) else kf b zs (ix+1)
theorem mB (s:Stock) (b:Int) (hl:s.tips.length≤1000000)  {r:Int} {A:Pr} (hA:CL codes sigs f167 [.int] r A) (ix:Nat) (h:kf b (List.drop ix s.tips) ix=r):A (hd f167 0) (qY s b (ix:Int)):=by
 refine hA.go (HV s b (ix:Int)) (ah (fun h1=>?_) (fun h1=>?_))
 ·have h1:=oT h1
  have hil:ix < s.tips.length:=by omega
  rw [aW hil Ty.tip.dflt,kf] at h
  refine ⟨⟨⟨(by omega),(by omega)⟩,trivial⟩,?_⟩
  refine ai h (fun g1 h=>?_) (fun g1 h=>?_)
  ·try replace g1:=bn g1
   refine ⟨⟨⟨(by omega),(by omega)⟩,trivial⟩,?_⟩
   refine ai h (fun g2 h=>?_) (fun g2 h=>?_)
   ·try replace g2:=bn g2
    exact ⟨q2,h⟩
   ·rw [au (by omega)]
    exact mB s b hl  hA (ix+1) h
  ·rw [au (by omega)]
   exact mB s b hl  hA (ix+1) h
 ·have h1:=oF h1
  rw [dN (by omega),kf] at h
  exact ⟨q2,h⟩
termination_by s.tips.length - ix
decreasing_by all_goals omega
def rG (s:Stock) (b:Int):Int:=kf b s.tips 0
theorem c167 (s:Stock) (b:Int) (hl:s.tips.length≤1000000):Pure prog 167 [⟨.stock,s⟩,⟨.int,b⟩] [.int] (rG s b):=
 Pure.of_closed (C:=codes) (S:=sigs) mixed func167 (by kernel_rfl) (ac (by kernel_rfl)) fun A hA=>hA.go (t167 s b) (by
  obtain ⟨r,h⟩:∃ r,rG s b=r:=⟨_,rfl⟩
  rw [h] at hA ⊢
  unfold rG at h
  exact mB s b hl  hA 0 h)
def wN (m:Model) (l1:List (Option Nat)) (l2:List Rack) (l3:List Plate) (l4:List Cell) (l5:List Log) (l6:List Tip) :Model:=Model.mk (Deck.mk l1 l3 l2 m.deck.arms) (Stock.mk l4 l5 l6 m.stock.start m.stock.inn m.stock.out) m.owners
theorem wL (m:Model) (l1:List (Option Nat)) (l2:List Rack) (l3:List Plate) (l4:List Cell) (l5:List Log) (l6:List Tip) (hb:OkM m)  {r:Model} {A:Pr} (hA:CL codes sigs f85 [.model] r A) (h:wN m l1 l2 l3 l4 l5 l6=r):A (rg f85 19) (xw m l1 l2 l3 l4 l5 l6):=by
 refine hA.go (HL m l1 l2 l3 l4 l5 l6) ?_
 unfold wN at h
 obtain ⟨b1,b2,b3,b4,b5,b6,b7,b8,b9,b10,b11⟩:=id hb
 exact ⟨m.owners,uo (by omega),q12,h⟩
def tQ (m:Model) (l1:List (Option Nat)) (l2:List Rack) (l3:List Plate) (l4:List Cell) (l5:List Log) :Model:=wN m l1 l2 l3 l4 l5 m.stock.tips
theorem wM (m:Model) (l1:List (Option Nat)) (l2:List Rack) (l3:List Plate) (l4:List Cell) (l5:List Log) (hb:OkM m)  {r:Model} {A:Pr} (hA:CL codes sigs f85 [.model] r A) (h:tQ m l1 l2 l3 l4 l5=r):A (rg f85 18) (xx m l1 l2 l3 l4 l5):=by
 refine hA.go (HM m l1 l2 l3 l4 l5) ?_
 unfold tQ at h
 obtain ⟨b1,b2,b3,b4,b5,b6,b7,b8,b9,b10,b11⟩:=id hb
 refine ⟨m.stock.tips,LL (by omega),?_⟩
 exact wL m l1 l2 l3 l4 l5 m.stock.tips hb  hA  h
def CU (l5:List Log) (i4:Int) (kc8:(List Log)→Model) :Model:=kc8 (l5.set i4.toNat (Log.mk (l5.getD i4.toNat Ty.log.dflt).room (l5.getD i4.toNat Ty.log.dflt).last (l5.getD i4.toNat Ty.log.dflt).list))
theorem At (m:Model) (l1:List (Option Nat)) (l2:List Rack) (l3:List Plate) (l4:List Cell) (i3:Int) (l5:List Log) (i4:Int) (hb:OkM m) (hq:i3=(m.stock.logs.length:Int)) {r:Model} {A:Pr} (hA:CL codes sigs f85 [.model] r A) (kc8:(List Log)→Model) (hkc8:∀ (l5':List Log),(l5'=m.stock.logs)→kc8 l5'=r→A (hd f85 1) (wh m l1 l2 l3 l4 i3 l5' (w64 (i4+(1:Int))))) (hv:l5=m.stock.logs∧0≤i4∧i4 < i3) (h:CU l5 i4 kc8=r):A (rg f85 16) (EK m l1 l2 l3 l4 i3 l5 i4):=by
 refine hA.go (JN m l1 l2 l3 l4 i3 l5 i4) ?_
 unfold CU at h
 have hl5:l5.length=m.stock.logs.length:=by rw [hv.1]
 have hz:(l5.getD i4.toNat Ty.log.dflt).list.length≤1000000:=by rw [hv.1];exact hb.list' _
 refine ⟨(l5.getD i4.toNat Ty.log.dflt).list,LM (by omega),⟨(by omega),(by omega)⟩,⟨(by omega),trivial,trivial⟩,?_⟩
 exact hkc8 _ (by first | exact hv | (rw [hv.1];exact hZ (getD_some (by omega)))) h
def ni (m:Model) (l1:List (Option Nat)) (l2:List Rack) (l3:List Plate) (l4:List Cell):Nat→Nat→(List Log)→Model
 | 0,ix,l5=>tQ m l1 l2 l3 l4 l5
 | n+1,ix,l5=>CU l5 (ix:Int) (fun l5'=>ni m l1 l2 l3 l4 n (ix+1) l5')
theorem sB (m:Model) (l1:List (Option Nat)) (l2:List Rack) (l3:List Plate) (l4:List Cell) (i3:Int) (hb:OkM m) (hq:i3=(m.stock.logs.length:Int)) {r:Model} {A:Pr} (hA:CL codes sigs f85 [.model] r A) (ix:Nat) (l5:List Log) (hv:l5=m.stock.logs) (h:ni m l1 l2 l3 l4 (i3.toNat - ix) ix l5=r):A (hd f85 1) (wh m l1 l2 l3 l4 i3 l5 (ix:Int)):=by
 refine hA.go (JO m l1 l2 l3 l4 i3 l5 (ix:Int)) (ah (fun h1=>?_) (fun h1=>?_))
 ·have h1:=oT h1
  have hil:i3.toNat - ix=(i3.toNat - (ix+1))+1:=by omega
  rw [hil,ni] at h
  obtain ⟨b1,b2,b3,b4,b5,b6,b7,b8,b9,b10,b11⟩:=id hb
  have hl5:l5.length=m.stock.logs.length:=by rw [hv]
  refine ⟨⟨(by omega),(by omega)⟩,(by omega),?_⟩
  exact At m l1 l2 l3 l4 i3 l5 (ix:Int) hb hq hA _ (fun l5' hv h=>by rw [au (by omega)];exact sB m l1 l2 l3 l4 i3 hb hq hA (ix+1) l5' (by first | exact hv | (rw [hv.1];exact hZ (getD_some (by omega)))) h)  (by exact ⟨hv,by omega,by omega⟩) h
 ·have h1:=oF h1
  rw [show i3.toNat - ix=0 by omega,ni] at h
  exact wM m l1 l2 l3 l4 l5 hb  hA  h
termination_by i3.toNat - ix
decreasing_by all_goals omega
def CV (m:Model) (l1:List (Option Nat)) (l2:List Rack) (l3:List Plate) (l4:List Cell) :Model:=ni m l1 l2 l3 l4 ((m.stock.logs.length:Int).toNat - 0) 0 m.stock.logs
theorem Au (m:Model) (l1:List (Option Nat)) (l2:List Rack) (l3:List Plate) (l4:List Cell) (hb:OkM m)  {r:Model} {A:Pr} (hA:CL codes sigs f85 [.model] r A) (h:CV m l1 l2 l3 l4=r):A (rg f85 12) (EL m l1 l2 l3 l4):=by
 refine hA.go (JP m l1 l2 l3 l4) ?_
 unfold CV at h
 obtain ⟨b1,b2,b3,b4,b5,b6,b7,b8,b9,b10,b11⟩:=id hb
 refine ⟨m.stock.logs,LN (by omega),?_⟩
 exact sB m l1 l2 l3 l4 (m.stock.logs.length:Int) hb rfl hA 0 m.stock.logs (by rfl) h
def CW (m:Model) (l1:List (Option Nat)) (l2:List Rack) (l3:List Plate) :Model:=CV m l1 l2 l3 m.stock.cells
theorem Av (m:Model) (l1:List (Option Nat)) (l2:List Rack) (l3:List Plate) (hb:OkM m)  {r:Model} {A:Pr} (hA:CL codes sigs f85 [.model] r A) (h:CW m l1 l2 l3=r):A (rg f85 11) (EM m l1 l2 l3):=by
 refine hA.go (JQ m l1 l2 l3) ?_
 unfold CW at h
 obtain ⟨b1,b2,b3,b4,b5,b6,b7,b8,b9,b10,b11⟩:=id hb
 refine ⟨m.stock.cells,GN (by omega),?_⟩
 exact Au m l1 l2 l3 m.stock.cells hb  hA  h
def vu (m:Model) (l1:List (Option Nat)) (l2:List Rack) (l3:List Plate) :Model:=CW m l1 l2 l3
theorem Aw (m:Model) (l1:List (Option Nat)) (l2:List Rack) (l3:List Plate) (hb:OkM m)  {r:Model} {A:Pr} (hA:CL codes sigs f85 [.model] r A) (h:vu m l1 l2 l3=r):A (rg f85 10) (EN m l1 l2 l3):=by
 refine hA.go (JR m l1 l2 l3) ?_
 unfold vu at h
 obtain ⟨b1,b2,b3,b4,b5,b6,b7,b8,b9,b10,b11⟩:=id hb
 exact Av m l1 l2 l3 hb  hA  h
def CX (l3:List Plate) (i2:Int) (kc3:(List Plate)→Model) :Model:=kc3 (l3.set i2.toNat (Plate.mk (l3.getD i2.toNat Ty.plate.dflt).rows (l3.getD i2.toNat Ty.plate.dflt).cols (l3.getD i2.toNat Ty.plate.dflt).x (l3.getD i2.toNat Ty.plate.dflt).pitch (l3.getD i2.toNat Ty.plate.dflt).reach (l3.getD i2.toNat Ty.plate.dflt).cap (l3.getD i2.toNat Ty.plate.dflt).start))
theorem Ax (m:Model) (l1:List (Option Nat)) (l2:List Rack) (i1:Int) (l3:List Plate) (i2:Int) (hb:OkM m) (hq:i1=(m.deck.plates.length:Int)) {r:Model} {A:Pr} (hA:CL codes sigs f85 [.model] r A) (kc3:(List Plate)→Model) (hkc3:∀ (l3':List Plate),(l3'=m.deck.plates)→kc3 l3'=r→A (hd f85 0) (wi m l1 l2 i1 l3' (w64 (i2+(1:Int))))) (hv:l3=m.deck.plates∧0≤i2∧i2 < i1) (h:CX l3 i2 kc3=r):A (rg f85 8) (EO m l1 l2 i1 l3 i2):=by
 refine hA.go (JS m l1 l2 i1 l3 i2) ?_
 unfold CX at h
 have hl3:l3.length=m.deck.plates.length:=by rw [hv.1]
 have hz:(l3.getD i2.toNat Ty.plate.dflt).start.length≤1000000:=by rw [hv.1];exact hb.start' _
 refine ⟨(l3.getD i2.toNat Ty.plate.dflt).start,uo (by omega),⟨(by omega),(by omega)⟩,⟨(by omega),trivial,trivial⟩,?_⟩
 exact hkc3 _ (by first | exact hv | (rw [hv.1];exact hZ (getD_some (by omega)))) h
def nj (m:Model) (l1:List (Option Nat)) (l2:List Rack):Nat→Nat→(List Plate)→Model
 | 0,ix,l3=>vu m l1 l2 l3
 | n+1,ix,l3=>CX l3 (ix:Int) (fun l3'=>nj m l1 l2 n (ix+1) l3')
theorem sD (m:Model) (l1:List (Option Nat)) (l2:List Rack) (i1:Int) (hb:OkM m) (hq:i1=(m.deck.plates.length:Int)) {r:Model} {A:Pr} (hA:CL codes sigs f85 [.model] r A) (ix:Nat) (l3:List Plate) (hv:l3=m.deck.plates) (h:nj m l1 l2 (i1.toNat - ix) ix l3=r):A (hd f85 0) (wi m l1 l2 i1 l3 (ix:Int)):=by
 refine hA.go (JT m l1 l2 i1 l3 (ix:Int)) (ah (fun h1=>?_) (fun h1=>?_))
 ·have h1:=oT h1
  have hil:i1.toNat - ix=(i1.toNat - (ix+1))+1:=by omega
  rw [hil,nj] at h
  obtain ⟨b1,b2,b3,b4,b5,b6,b7,b8,b9,b10,b11⟩:=id hb
  have hl3:l3.length=m.deck.plates.length:=by rw [hv]
  refine ⟨⟨(by omega),(by omega)⟩,(by omega),?_⟩
  exact Ax m l1 l2 i1 l3 (ix:Int) hb hq hA _ (fun l3' hv h=>by rw [au (by omega)];exact sD m l1 l2 i1 hb hq hA (ix+1) l3' (by first | exact hv | (rw [hv.1];exact hZ (getD_some (by omega)))) h)  (by exact ⟨hv,by omega,by omega⟩) h
 ·have h1:=oF h1
  rw [show i1.toNat - ix=0 by omega,nj] at h
  exact Aw m l1 l2 l3 hb  hA  h
termination_by i1.toNat - ix
decreasing_by all_goals omega
def CY (m:Model) (l1:List (Option Nat)) (l2:List Rack) :Model:=nj m l1 l2 ((m.deck.plates.length:Int).toNat - 0) 0 m.deck.plates
theorem Ay (m:Model) (l1:List (Option Nat)) (l2:List Rack) (hb:OkM m)  {r:Model} {A:Pr} (hA:CL codes sigs f85 [.model] r A) (h:CY m l1 l2=r):A (rg f85 4) (EP m l1 l2):=by
 refine hA.go (JU m l1 l2) ?_
 unfold CY at h
 obtain ⟨b1,b2,b3,b4,b5,b6,b7,b8,b9,b10,b11⟩:=id hb
 refine ⟨m.deck.plates,Jm (by omega),?_⟩
 exact sD m l1 l2 (m.deck.plates.length:Int) hb rfl hA 0 m.deck.plates (by rfl) h
def CZ (m:Model) (l1:List (Option Nat)) :Model:=CY m l1 m.deck.racks
theorem Az (m:Model) (l1:List (Option Nat)) (hb:OkM m)  {r:Model} {A:Pr} (hA:CL codes sigs f85 [.model] r A) (h:CZ m l1=r):A (rg f85 3) (EQ m l1):=by
 refine hA.go (JV m l1) ?_
 unfold CZ at h
 obtain ⟨b1,b2,b3,b4,b5,b6,b7,b8,b9,b10,b11⟩:=id hb
 refine ⟨m.deck.racks,xp (by omega),?_⟩
 exact Ay m l1 m.deck.racks hb  hA  h
def Da (m:Model) :Model:=CZ m m.deck.borders
theorem AA (m:Model) (hb:OkM m)  {r:Model} {A:Pr} (hA:CL codes sigs f85 [.model] r A) (h:Da m=r):A (rg f85 2) (ER m):=by
 refine hA.go (JW m) ?_
 unfold Da at h
 obtain ⟨b1,b2,b3,b4,b5,b6,b7,b8,b9,b10,b11⟩:=id hb
 refine ⟨m.deck.borders,GO (by omega),?_⟩
 exact Az m m.deck.borders hb  hA  h
def m85 (m:Model):Model:=Da m
theorem c85 (m:Model) (hb:OkM m):Pure prog 85 [⟨.model,m⟩] [.model] (m85 m):=
 Pure.of_closed (C:=codes) (S:=sigs) mixed func85 (by kernel_rfl) (ac (by kernel_rfl)) fun A hA=>hA.go (t85 m) (by
  obtain ⟨r,h⟩:∃ r,m85 m=r:=⟨_,rfl⟩
  rw [h] at hA ⊢
  unfold m85 at h
  exact AA m hb  hA  h)
def AI (l:Log) (v:Int):List Change×Int:=bif (!(ik l)) then ([],(110:Int)) else bif decide (v < (0:Int)) then ([],(1:Int)) else bif decide (v > l.last) then ([],(1:Int)) else bif decide (v < (nW l)) then ([],(111:Int)) else ([]++List.drop (w64 (v - (nW l))).toNat l.list,(0:Int))
theorem c235 (l:Log) (v:Int) (hl:l.list.length≤1000000):Pure prog 235 [⟨.log,l⟩,⟨.int,v⟩] [.sl .change,.int] (AI l v):=
 Pure.of_closed (C:=codes) (S:=sigs) mixed func235 (by kernel_rfl) (ac (by kernel_rfl)) fun A hA=>hA.go (t235 l v) (by
  obtain ⟨r,h⟩:∃ r,AI l v=r:=⟨_,rfl⟩
  rw [h] at hA ⊢
  unfold AI at h
  refine ⟨⟨q4,trivial⟩,_,Mn.GK _,?_⟩
  refine ai h (fun g1 h=>?_) (fun g1 h=>?_)
  ·exact ⟨⟨q2,trivial,trivial⟩,h⟩
  ·refine ai h (fun g2 h=>?_) (fun g2 h=>?_)
   ·have g2:=oT g2
    exact ⟨⟨q2,trivial,trivial⟩,h⟩
   ·have g2:=oF g2
    refine ai h (fun g3 h=>?_) (fun g3 h=>?_)
    ·have g3:=oT g3
     exact ⟨⟨q2,trivial,trivial⟩,h⟩
    ·have g3:=oF g3
     refine ⟨⟨q4,trivial⟩,_,Mn.Jh _,?_⟩
     refine ai h (fun g4 h=>?_) (fun g4 h=>?_)
     ·have g4:=oT g4
      exact ⟨⟨q2,trivial,trivial⟩,h⟩
     ·have g4:=oF g4
      exact ⟨trivial,⟨q4,trivial⟩,_,Mn.Jh _,⟨⟨(by first | omega | (exact .inl (by simp)) | (have hq:=fT (by assumption);first | omega | (rw [aA (by omega) (by omega)];omega) | (simp only [ak,ag,al,aQ,aE,aq];omega))),(by first | omega | (exact .inl (by simp)) | (have hq:=fT (by assumption);first | omega | (rw [aA (by omega) (by omega)];omega) | (simp only [ak,ag,al,aQ,aE,aq];omega)))⟩,trivial⟩,⟨(by first | omega | (exact .inl (by simp)) | (have hq:=fT (by assumption);first | omega | (rw [aA (by omega) (by omega)];omega) | (simp only [ak,ag,al,aQ,aE,aq];omega))),trivial⟩,⟨q2,trivial,trivial⟩,h⟩)
def IJ (l:Log) (b n:Int):Log×Int:=bif (!(ik l)) then (Log.mk (0:Int) (0:Int) [],(110:Int)) else bif (!(qO b n)) then (Log.mk (0:Int) (0:Int) [],(1:Int)) else bif (l.last==(2147483647:Int)) then (Log.mk (0:Int) (0:Int) [],(101:Int)) else bif decide ((↑([]++l.list++[Change.mk (w64 (l.last+(1:Int))) b n]).length:Int) > l.room) then (Log.mk l.room (w64 (l.last+(1:Int))) (List.take (([]++l.list++[Change.mk (w64 (l.last+(1:Int))) b n]).length - 1) (List.drop 1 ([]++l.list++[Change.mk (w64 (l.last+(1:Int))) b n]))),(0:Int)) else (Log.mk l.room (w64 (l.last+(1:Int))) ([]++l.list++[Change.mk (w64 (l.last+(1:Int))) b n]),(0:Int))
def AC (l:Log) (b n:Int):Log×Int:=bif (!(ik l)) then (Log.mk (0:Int) (0:Int) [],(110:Int)) else bif (!(qO b n)) then (Log.mk (0:Int) (0:Int) [],(1:Int)) else bif (l.last==(2147483647:Int)) then (Log.mk (0:Int) (0:Int) [],(101:Int)) else bif ((sR l)==l.room) then let y1:=sR (Log.mk l.room (w64 (l.last+(1:Int))) l.list);(Log.mk l.room (w64 (l.last+(1:Int))) (List.drop 1 (List.take y1.toNat l.list)++[Change.mk (w64 (l.last+(1:Int))) b n]),(0:Int)) else let y2:=sR (Log.mk l.room (w64 (l.last+(1:Int))) l.list);(Log.mk l.room (w64 (l.last+(1:Int))) (List.drop 0 (List.take y2.toNat l.list)++[Change.mk (w64 (l.last+(1:Int))) b n]),(0:Int))
theorem c305 (l:Log) (b n:Int) (hl:l.list.length≤1000000):Pure prog 305 [⟨.log,l⟩,⟨.int,b⟩,⟨.int,n⟩] [.log,.int] (AC l b n):=
 Pure.of_closed (C:=codes) (S:=sigs) mixed func305 (by kernel_rfl) (ac (by kernel_rfl)) fun A hA=>hA.go (t305 l b n) (by
  obtain ⟨r,h⟩:∃ r,AC l b n=r:=⟨_,rfl⟩
  rw [h] at hA ⊢
  unfold AC at h
  refine ⟨⟨q4,trivial⟩,_,Mn.GK _,?_⟩
  refine ai h (fun g1 h=>?_) (fun g1 h=>?_)
  ·exact ⟨⟨q4,trivial,trivial⟩,h⟩
  ·refine ⟨⟨q2,q2,trivial⟩,_,Mn.LE _ _,?_⟩
   refine ai h (fun g2 h=>?_) (fun g2 h=>?_)
   ·exact ⟨⟨q4,trivial,trivial⟩,h⟩
   ·refine ai h (fun g3 h=>?_) (fun g3 h=>?_)
    ·try replace g3:=bn g3
     exact ⟨⟨q4,trivial,trivial⟩,h⟩
    ·refine ⟨⟨q4,trivial⟩,_,Mn.xm _,?_⟩
     refine ai h (fun g4 h=>?_) (fun g4 h=>?_)
     ·try replace g4:=bn g4
      exact ⟨⟨q4,trivial⟩,_,Mn.xm _,⟨q4,trivial⟩,_,Mn.xm _,⟨⟨(by first | omega | (exact .inl (by simp)) | (have hq:=fT (by assumption);first | omega | (rw [aA (by omega) (by omega)];omega) | (simp only [ak,ag,al,aQ,aE,aq];omega))),(by first | omega | (exact .inl (by simp)) | (have hq:=fT (by assumption);first | omega | (rw [aA (by omega) (by omega)];omega) | (simp only [ak,ag,al,aQ,aE,aq];omega))),(by first | omega | (exact .inl (by simp)) | (have hq:=fT (by assumption);first | omega | (rw [aA (by omega) (by omega)];omega) | (simp only [ak,ag,al,aQ,aE,aq];omega))),(by first | omega | (exact .inl (by simp)) | (have hq:=fT (by assumption);first | omega | (rw [aA (by omega) (by omega)];omega) | (simp only [ak,ag,al,aQ,aE,aq];omega)))⟩,trivial⟩,⟨q4,trivial⟩,⟨⟨(by first | omega | (exact .inl (by simp)) | (have hq:=fT (by assumption);first | omega | (rw [aA (by omega) (by omega)];omega) | (simp only [ak,ag,al,aQ,aE,aq];omega))),(by first | omega | (exact .inl (by simp)) | (have hq:=fT (by assumption);first | omega | (rw [aA (by omega) (by omega)];omega) | (simp only [ak,ag,al,aQ,aE,aq];omega)))⟩,trivial⟩,⟨q4,trivial,trivial⟩,h⟩
     ·exact ⟨⟨q4,trivial⟩,_,Mn.xm _,⟨q4,trivial⟩,_,Mn.xm _,⟨⟨(by first | omega | (exact .inl (by simp)) | (have hq:=fT (by assumption);first | omega | (rw [aA (by omega) (by omega)];omega) | (simp only [ak,ag,al,aQ,aE,aq];omega))),(by first | omega | (exact .inl (by simp)) | (have hq:=fT (by assumption);first | omega | (rw [aA (by omega) (by omega)];omega) | (simp only [ak,ag,al,aQ,aE,aq];omega))),(by first | omega | (exact .inl (by simp)) | (have hq:=fT (by assumption);first | omega | (rw [aA (by omega) (by omega)];omega) | (simp only [ak,ag,al,aQ,aE,aq];omega))),(by first | omega | (exact .inl (by simp)) | (have hq:=fT (by assumption);first | omega | (rw [aA (by omega) (by omega)];omega) | (simp only [ak,ag,al,aQ,aE,aq];omega)))⟩,trivial⟩,⟨q4,trivial⟩,⟨⟨(by first | omega | (exact .inl (by simp)) | (have hq:=fT (by assumption);first | omega | (rw [aA (by omega) (by omega)];omega) | (simp only [ak,ag,al,aQ,aE,aq];omega))),(by first | omega | (exact .inl (by simp)) | (have hq:=fT (by assumption);first | omega | (rw [aA (by omega) (by omega)];omega) | (simp only [ak,ag,al,aQ,aE,aq];omega)))⟩,trivial⟩,⟨q4,trivial,trivial⟩,h⟩)
end Go.Proofs.Mo

/- stock.hands: no arm holds two tips. (Own work; the cases by program.) -/
namespace Go.Proofs.Mo
open Go.Proofs.Tryz
open Go Go.VL Go.Proofs.Zn Go.Proofs.Mn
open Wn (dD bD)
set_option maxRecDepth 20000
def fK (n:Int):List Tip→List Int→Bool
 | [],c => !(nh c)
 | t::ts,c=>bif !(hY t) then false else bif decide (t.by' > n) then false else bif t.state==2 then fK n ts (c.set t.by'.toNat (w64 (c.getD t.by'.toNat 0+1))) else fK n ts c
def xc (l:List Tip) (n:Int):Bool:=fK n l [0,0,0,0,0,0,0,0,0]
theorem pG {t:Tip} (h:(!(hY t))=false) (h2:(t.state==2)=true):t.by'=1∨t.by'=2∨t.by'=3∨t.by'=4∨t.by'=5∨t.by'=6∨t.by'=7∨t.by'=8:=by
 have h:=nf h
 unfold hY at h
 rw [h2,cT] at h
 unfold wa at h
 by_cases h3:t.by'≥1
 ·rw [dT h3,cT] at h
  have:=oT h
  omega
 ·rw [dF h3] at h;cases h
theorem hO {l:List Tip} {n:Int} (hl:l.length≤1000000) {r:Bool} {A:Pr} (hA:CL codes sigs f157 [.bool] r A) (ix:Nat) (c0 c1 c2 c3 c4 c5 c6 c7 c8:Int)
  (h:fK n (l.drop ix) [c0,c1,c2,c3,c4,c5,c6,c7,c8]=r):A (hd f157 0) (aS l n (ix:Int) c8 c7 c6 c5 c4 c3 c2 c1 c0):=by
 refine hA.go (HX l n (ix:Int) c8 c7 c6 c5 c4 c3 c2 c1 c0) (ah (fun h1=>?_) (fun h1=>?_))
 ·have h1:=oT h1
  have hil:ix < l.length:=by omega
  rw [aW hil (Ty.dflt Ty.tip),fK] at h
  refine ⟨⟨⟨by omega,by omega⟩,trivial⟩,⟨⟨trivial,trivial,trivial⟩,trivial⟩,_,Mn.Jj _,?_⟩
  refine ai h (fun g1 h=>⟨⟨trivial,trivial⟩,h⟩) (fun g1 h=>?_)
  refine ai h (fun g2 h=>⟨⟨trivial,trivial⟩,h⟩) (fun g2 h=>?_)
  refine ai h (fun g3 h=>?_) (fun g3 h=>?_)
  ·rw [au (by omega)]
   rcases pG g1 g3 with e | e | e | e | e | e | e | e
   ·rw [e] at h
    refine bD (by rw [e];rfl) ?_
    refine bD (by rw [e];rfl) ?_
    refine bD (by rw [e];rfl) ?_
    refine bD (by rw [e];rfl) ?_
    refine bD (by rw [e];rfl) ?_
    refine bD (by rw [e];rfl) ?_
    refine bD (by rw [e];rfl) ?_
    refine dD (by rw [e];rfl) ?_
    refine bD (by rw [e];rfl) ?_
    refine bD (by rw [e];rfl) ?_
    refine bD (by rw [e];rfl) ?_
    refine bD (by rw [e];rfl) ?_
    refine bD (by rw [e];rfl) ?_
    refine bD (by rw [e];rfl) ?_
    refine bD (by rw [e];rfl) ?_
    refine dD (by rw [e];rfl) ?_
    exact hO hl hA (ix+1) c0 (w64 (c1+1)) c2 c3 c4 c5 c6 c7 c8 h
   ·rw [e] at h
    refine bD (by rw [e];rfl) ?_
    refine bD (by rw [e];rfl) ?_
    refine bD (by rw [e];rfl) ?_
    refine bD (by rw [e];rfl) ?_
    refine bD (by rw [e];rfl) ?_
    refine bD (by rw [e];rfl) ?_
    refine dD (by rw [e];rfl) ?_
    refine bD (by rw [e];rfl) ?_
    refine bD (by rw [e];rfl) ?_
    refine bD (by rw [e];rfl) ?_
    refine bD (by rw [e];rfl) ?_
    refine bD (by rw [e];rfl) ?_
    refine bD (by rw [e];rfl) ?_
    refine dD (by rw [e];rfl) ?_
    exact hO hl hA (ix+1) c0 c1 (w64 (c2+1)) c3 c4 c5 c6 c7 c8 h
   ·rw [e] at h
    refine bD (by rw [e];rfl) ?_
    refine bD (by rw [e];rfl) ?_
    refine bD (by rw [e];rfl) ?_
    refine bD (by rw [e];rfl) ?_
    refine bD (by rw [e];rfl) ?_
    refine dD (by rw [e];rfl) ?_
    refine bD (by rw [e];rfl) ?_
    refine bD (by rw [e];rfl) ?_
    refine bD (by rw [e];rfl) ?_
    refine bD (by rw [e];rfl) ?_
    refine bD (by rw [e];rfl) ?_
    refine dD (by rw [e];rfl) ?_
    exact hO hl hA (ix+1) c0 c1 c2 (w64 (c3+1)) c4 c5 c6 c7 c8 h
   ·rw [e] at h
    refine bD (by rw [e];rfl) ?_
    refine bD (by rw [e];rfl) ?_
    refine bD (by rw [e];rfl) ?_
    refine bD (by rw [e];rfl) ?_
    refine dD (by rw [e];rfl) ?_
    refine bD (by rw [e];rfl) ?_
    refine bD (by rw [e];rfl) ?_
    refine bD (by rw [e];rfl) ?_
    refine bD (by rw [e];rfl) ?_
    refine dD (by rw [e];rfl) ?_
    exact hO hl hA (ix+1) c0 c1 c2 c3 (w64 (c4+1)) c5 c6 c7 c8 h
   ·rw [e] at h
    refine bD (by rw [e];rfl) ?_
    refine bD (by rw [e];rfl) ?_
    refine bD (by rw [e];rfl) ?_
    refine dD (by rw [e];rfl) ?_
    refine bD (by rw [e];rfl) ?_
    refine bD (by rw [e];rfl) ?_
    refine bD (by rw [e];rfl) ?_
    refine dD (by rw [e];rfl) ?_
    exact hO hl hA (ix+1) c0 c1 c2 c3 c4 (w64 (c5+1)) c6 c7 c8 h
   ·rw [e] at h
    refine bD (by rw [e];rfl) ?_
    refine bD (by rw [e];rfl) ?_
    refine dD (by rw [e];rfl) ?_
    refine bD (by rw [e];rfl) ?_
    refine bD (by rw [e];rfl) ?_
    refine dD (by rw [e];rfl) ?_
    exact hO hl hA (ix+1) c0 c1 c2 c3 c4 c5 (w64 (c6+1)) c7 c8 h
   ·rw [e] at h
    refine bD (by rw [e];rfl) ?_
    refine dD (by rw [e];rfl) ?_
    refine bD (by rw [e];rfl) ?_
    refine dD (by rw [e];rfl) ?_
    exact hO hl hA (ix+1) c0 c1 c2 c3 c4 c5 c6 (w64 (c7+1)) c8 h
   ·rw [e] at h
    refine dD (by rw [e];rfl) ?_
    refine dD (by rw [e];rfl) ?_
    exact hO hl hA (ix+1) c0 c1 c2 c3 c4 c5 c6 c7 (w64 (c8+1)) h
  ·rw [au (by omega)]
   exact hO hl hA (ix+1) c0 c1 c2 c3 c4 c5 c6 c7 c8 h
 ·have h1:=oF h1
  rw [dN (by omega),fK] at h
  exact ⟨trivial,_,GH _ (by simp),⟨trivial,trivial⟩,h⟩
termination_by l.length - ix
decreasing_by all_goals omega
theorem c157 {l:List Tip} {n:Int} (hl:l.length≤1000000):Pure prog 157 [⟨.sl .tip,l⟩,⟨.int,n⟩] [.bool] (xc l n):=
 Pure.of_closed (C:=codes) (S:=sigs) mixed func157 (by kernel_rfl) (ac (by kernel_rfl)) fun A hA=>hA.go (t157 l n) (hO hl hA 0 0 0 0 0 0 0 0 0 0 rfl)
end Go.Proofs.Mo

/- Models: facts for Right, New. (Own work.) -/
namespace Go.Proofs.Mo
open Go.Proofs.Tryz
open Go Go.VL Go.Proofs.Zn Go.Proofs.Mn
theorem lz {d:Deck} (h:(dc d != 0)=false):(bv d).1=bk (aK d):=by
 unfold bv
 rw [rM h];rfl
theorem px (d:Deck):w64 (w64 ((bv d).1+(bv d).2.1)+(bv d).2.2)=(bv d).1+(bv d).2.1+(bv d).2.2:=by
 have:=qN d
 rw [aA (n:=(bv d).1+(bv d).2.1) (by omega) (by omega),aA (by omega) (by omega)]
theorem xj (d:Deck):w64 (w64 ((bv d).1+(bv d).2.1)+(bv d).2.2)≤1000000:=by
 have:=qN d
 rw [px];omega
theorem FL (n:Int):(vh n).length=n.toNat:=by
 unfold vh
 by_cases h:n < 0
 ·rw [dT h,cT,al];omega
 ·rw [dF h,cF,bT]
theorem zN {z:Plate} (h:dg z=true):z.start.length≤1536:=by
 have hs:=(iJ h).size
 unfold dg at h
 cases hb:cE (er z)
 ·rw [hb] at h;cases h
 rw [hb,cT] at h
 unfold kn at h
 by_cases h1:z.cap < 1
 ·rw [dT h1] at h;cases h
 rw [dF h1,cF] at h
 by_cases h2:z.cap > 1099511627776
 ·rw [dT h2] at h;cases h
 rw [dF h2,cF] at h
 by_cases h3:(z.start.length:Int) > z.rows * z.cols
 ·rw [dT h3] at h;cases h
 omega
theorem ya {d:Deck} (h:(dc d != 0)=false):∀ c∈bm d,0≤c.vol∧c.vol≤c.cap∧c.cap≤1099511627776:=by
 intro c hc
 obtain ⟨z,hz,hc⟩:=gZ.1 hc
 obtain ⟨k,_,rfl⟩:=aU.1 hc
 have hk:=iJ ((cO h).plate z hz)
 have h1:=hk.start k
 have h2:=hk.cap
 simp only [cL];omega
theorem Lc {d:Deck} (h:(dc d != 0)=false) {o:List Int} (ho:o.length≤100000):OkM ⟨d,(dw d).1,o⟩:=by
 have hk:=cO h
 have hl:=lJ h
 have hw:=hk.wells
 have ht:=hk.tips
 unfold dw
 rw [h,cF]
 refine ⟨?_,?_,?_,?_,?_,?_,by show o.length≤_;omega,fun p hp=>?_,fun l hl=>?_,fun x hx=>?_,ho⟩
 ·have:=hk.lanes;show d.borders.length≤_;omega
 ·have:=hk.plates;show d.plates.length≤_;omega
 ·have:=hk.racks;show d.racks.length≤_;omega
 ·show (bm d).length≤_;omega
 ·show (List.replicate _ kJ).length≤_;rw [bT];omega
 ·show (List.replicate _ _).length≤_;rw [bT];omega
 ·have:=zN (hk.plate p hp);omega
 ·obtain rfl:=(List.mem_replicate.1 hl).2;decide
 ·obtain ⟨c,hc,rfl⟩:=aU.1 hx
  have:=ya h c hc
  unfold cS;omega
theorem wH {d:Deck} (h:(m83 d).2=0):(dc d != 0)=false:=by
 rw [qa] at h
 unfold dw at h
 cases hz:dc d != 0
 ·rfl
 ·rw [hz,cT] at h
  rw [show dc d=0 from h] at hz;cases hz
theorem CF {d:Deck} (h:(m83 d).2=0):OkM ⟨d,(m83 d).1,vh (w64 (w64 ((bv d).1+(bv d).2.1)+(bv d).2.2))⟩:=by
 rw [qa]
 refine Lc (wH h) ?_
 rw [FL,px]
 have:=qN d
 omega
theorem Lp {s:Stock} {d:Deck} {H0:Heap}:∀ (i:Nat) (T:TypeId) (t:Ty) (xs:List t.ty),i < 1→Heap.get (nI s d) i=some (.row T t xs)→∃ ys,H0.get i=some (.row T t ys)∧ys.length=xs.length:=fun i T t xs hi h=>by
 obtain rfl:i=0:=by omega
 cases h
theorem Fw {b:List AV} {cs x1:List Cell} {ls x2:List Log} {ts:List Tip} (h1:x1.length=cs.length) (h2:x2.length=ls.length):∀ (i:Nat) (T:TypeId) (t:Ty) (xs:List t.ty),i < 4 →
  Heap.get [(0,.box b),(1,.row 76 .cell x1),(2,.row 146 .log x2),(3,.row 194 .tip ts)] i=some (.row T t xs)→∃ ys,Heap.get [(0,.box b),(1,.row 76 .cell cs),(2,.row 146 .log ls),(3,.row 194 .tip ts)] i=some (.row T t ys)∧ys.length=xs.length:=fun i T t xs hi h=>by
 match i,h with
 | 0,h=>cases h
 | 1,h=>cases h;exact ⟨cs,rfl,h1.symm⟩
 | 2,h=>cases h;exact ⟨ls,rfl,h2.symm⟩
 | 3,h=>cases h;exact ⟨ts,rfl,rfl⟩
 | i+4,h=>omega
theorem OkS.list' {s:Stock} (h:OkS s) (i:Nat):(s.logs.getD i (Ty.dflt Ty.log)).list.length≤1000000:=by
 rcases aw i s.logs.length with hi | hi
 ·rw [cJ hi];exact h.list _ (aO hi)
 ·rw [show s.logs.getD i (Ty.dflt Ty.log)=Ty.dflt Ty.log by simp [List.getD,ax hi]];decide
end Go.Proofs.Mo
