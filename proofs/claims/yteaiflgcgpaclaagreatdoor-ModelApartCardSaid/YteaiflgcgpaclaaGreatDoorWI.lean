/- Own work: part WI of the proof. -/
import Derived.Test.YteaiflgcgpaclaaGreatDoorWE
import Derived.Test.YteaiflgcgpaclaaGreatDoorWH
import Derived.Test.YteaiflgcgpaclaaGreatDoorWD
set_option linter.unusedVariables false
set_option linter.unusedSimpArgs false
namespace Go.Proofs.Mn
open Go.Proofs.Tryz
open Go Go.VL
set_option maxRecDepth 20000
open Go.Proofs.Zn
def jk (i:Int)(t:Tip):List Tip->Nat->(Int×Bool)
 | [],ix=>(0,false)
 | z::zs,ix=>bif decide ((ix:Int)<i)then jk i t zs (ix+1)else bif (!((z).state==t.state&&((z).by'==t.by'&&true)))then jk i t zs (ix+1)else bif (!(gl z))then jk i t zs (ix+1)else((ix:Int),true)
theorem mD (l:List Tip)(i:Int)(t:Tip)(hl:l.length<=1000000)  {r:Int×Bool}{A:Pr}(hA:CL codes sigs f227 [.int,.bool] r A)(ix:Nat)(h:jk i t (List.drop ix l) ix=r):A (hd f227 0) (qZ l i t (ix:Int)):=by
 refine hA.go (Md l i t (ix:Int)) (ae (λ h1=>?_) (λ h1=>?_))
 ·have h1:=oT h1
  have hil:ix<l.length:=by omega
  rw[be hil Ty.zV.dflt,jk]at h
  refine⟨⟨⟨(by omega),(by omega)⟩,tv⟩,?_⟩
  refine aj h (λ g1 h=>?_) (λ g1 h=>?_)
  ·have g1:=oT g1
   rw[aq (by omega)]
   exact mD l i t hl  hA (ix+1) h
  ·have g1:=oF g1
   refine aj h (λ g2 h=>?_) (λ g2 h=>?_)
   ·rw[aq (by omega)]
    exact mD l i t hl  hA (ix+1) h
   ·refine⟨⟨q3,tv⟩,_,Qs _,?_⟩
    refine aj h (λ g3 h=>?_) (λ g3 h=>?_)
    ·rw[aq (by omega)]
     exact mD l i t hl  hA (ix+1) h
    ·exact⟨⟨q2,tv,tv⟩,h⟩
 ·have h1:=oF h1
  rw[dN (by omega),jk]at h
  exact⟨⟨q2,tv,tv⟩,h⟩
termination_by l.length-ix
decreasing_by all_goals omega
def JF (l:List Tip)(i:Int)(t:Tip):Int×Bool:=jk i t l 0
theorem c227 (l:List Tip)(i:Int)(t:Tip)(hl:l.length<=1000000):yJ prog 227 [⟨.sl .zV,l⟩,⟨.int,i⟩,⟨.zV,t⟩] [.int,.bool] (JF l i t):=
 pcl codes sigs func227 (by kernel_rfl) λ A hA=>hA.go (Ru l i t) (by
  generalize h:JF l i t=r at hA ⊢
  unfold JF at h
  exact mD l i t hl  hA 0 h)
def nO (b:List Fl):List Fl->Nat->Bool
 | [],ix=>true
 | z::zs,ix=>bif (Fl.cmp (z) (b.getD (ix) Ty.zQ.dflt)==some Ordering.eq)then nO b zs (ix+1)else bif (Fl.cmp (z) (z) != some Ordering.eq)then bif (!Fl.cmp (b.getD (ix) Ty.zQ.dflt) (b.getD (ix) Ty.zQ.dflt) != some Ordering.eq)then false else nO b zs (ix+1)else false
theorem pl (a b:List Fl)(hl:a.length<=1000000/\b.length=a.length)  {r:Bool}{A:Pr}(hA:CL codes sigs f156 [.bool] r A)(ix:Nat)(h:nO b (List.drop ix a) ix=r):A (hd f156 0) (uH a b (ix:Int)):=by
 refine hA.go (Mh a b (ix:Int)) (ae (λ h1=>?_) (λ h1=>?_))
 ·have h1:=oT h1
  have hil:ix<a.length:=by omega
  rw[be hil Ty.zQ.dflt,nO]at h
  refine⟨⟨⟨(by omega),(by omega)⟩,tv⟩,⟨⟨(by omega),(by omega)⟩,tv⟩,?_⟩
  refine aj h (λ g1 h=>?_) (λ g1 h=>?_)
  ·rw[aq (by omega)]
   exact pl a b hl  hA (ix+1) h
  ·refine⟨⟨⟨(by omega),(by omega)⟩,tv⟩,⟨⟨(by omega),(by omega)⟩,tv⟩,?_⟩
   refine aj h (λ g2 h=>?_) (λ g2 h=>?_)
   ·refine⟨⟨⟨(by omega),(by omega)⟩,tv⟩,⟨⟨(by omega),(by omega)⟩,tv⟩,?_⟩
    refine aj h (λ g3 h=>?_) (λ g3 h=>?_)
    ·exact⟨q2,h⟩
    ·rw[aq (by omega)]
     exact pl a b hl  hA (ix+1) h
   ·exact⟨q2,h⟩
 ·have h1:=oF h1
  rw[dN (by omega),nO]at h
  exact⟨q2,h⟩
termination_by a.length-ix
decreasing_by all_goals omega
def AC (a b:List Fl):Bool:=bif ((a.length:Int) != (b.length:Int))then false else nO b a 0
theorem Lf (a b:List Fl)(hl:a.length<=1000000):yJ prog 156 [⟨.sl .zQ,a⟩,⟨.sl .zQ,b⟩] [.bool] (AC a b):=
 pcl codes sigs func156 (by kernel_rfl) λ A hA=>hA.go (RK a b) (by
  generalize h:AC a b=r at hA ⊢
  unfold AC at h
  refine aj h (λ g1 h=>?_) (λ g1 h=>?_)
  ·exact⟨q2,h⟩
  ·exact pl a b ⟨hl,by have:=g1;simp at this;omega⟩  hA 0 h)
def ru (i5:Int)(l3:List Cell)(l4:List Log):Nat->Nat->(List Tip)->(yC×Int)
 | 0,ix,l5=>(yC.mk l3 l4 l5 i5 0 0,0)
 | n+1,ix,l5=>ru i5 l3 l4 n (ix+1) (l5++[Tip.mk 1 0])
theorem vP (i1 i5:Int)(l3:List Cell)(l4:List Log)  (hn:i1<=1000){r:yC×Int}{A:Pr}(hA:CL codes sigs f87 [.zE,.int] r A)(ix:Nat)(l5:List Tip)(hv:l5.length<=ix)(h:ru i5 l3 l4 (i1.toNat-ix) ix l5=r):A (hd f87 2) (Fz i1 i5 l3 l4 (ix:Int) l5):=by
 refine hA.go (OL i1 i5 l3 l4 (ix:Int) l5) (ae (λ h1=>?_) (λ h1=>?_))
 ·have h1:=oT h1
  have hil:i1.toNat-ix=(i1.toNat-(ix+1))+1:=by omega
  rw[hil,ru]at h
  refine⟨⟨q3,tv⟩,⟨(by simp only[af,ak];omega),tv⟩,?_⟩
  rw[aq (by omega)]
  exact vP i1 i5 l3 l4 hn hA (ix+1) _ (by simp only[al,af,ak];omega) h
 ·have h1:=oF h1
  rw[show i1.toNat-ix=0 by omega,ru]at h
  exact⟨⟨q7,tv,tv⟩,h⟩
termination_by i1.toNat-ix
decreasing_by all_goals omega
def oK (z0:yF)(kc0:Int->(List Cell)->(List Log)->(yC×Int)):Nat->Nat->Int->(List Cell)->(List Log)->(yC×Int)
 | 0,ix,i3,l1,l2=>kc0 i3 l1 l2
 | n+1,ix,i3,l1,l2=>bif decide ((ix:Int)<(↑(z0).start.length:Int))then oK z0 kc0 n (ix+1) (w64 (i3+(z0).start.getD (ix) Ty.int.dflt)) (l1++[Cell.mk (z0).cap ((z0).start.getD (ix) Ty.int.dflt) 0]) (l2++[Log.mk 8 0 []])else oK z0 kc0 n (ix+1) (w64 (i3+0)) (l1++[Cell.mk (z0).cap 0 0]) (l2++[Log.mk 8 0 []])
theorem qF (d:yA)(i1 i4:Int)  (hk:PlB d)(hp:i4.toNat<4){r:yC×Int}{A:Pr}(hA:CL codes sigs f87 [.zE,.int] r A)(kc0:Int->(List Cell)->(List Log)->(yC×Int))(hkc0:∀ (i5':Int) (l3':List Cell) (l4':List Log),(l3'.length<=1536*(i4.toNat+1)/\l4'.length<=1536*(i4.toNat+1))->kc0 i5' l3' l4'=r->A (hd f87 0) (Bx d i1 (w64 (i4+(1:Int))) i5' l3' l4'))(ix:Nat)(i3:Int)(l1:List Cell)(l2:List Log)(hv:l1.length<=1536*i4.toNat+ix/\l2.length<=1536*i4.toNat+ix/\ix<=1536)(h:oK (d.zB.getD i4.toNat Ty.zJ.dflt) kc0 ((w64 ((d.zB.getD i4.toNat Ty.zJ.dflt).rows*(d.zB.getD i4.toNat Ty.zJ.dflt).zP)).toNat-ix) ix i3 l1 l2=r):A (hd f87 1) (Bw d i1 i4 (ix:Int) i3 l1 l2):=by
 refine hA.go (OM d i1 i4 (ix:Int) i3 l1 l2) (ae (λ h1=>?_) (λ h1=>?_))
 ·have h1:=oT h1
  have hil:(w64 ((d.zB.getD i4.toNat Ty.zJ.dflt).rows*(d.zB.getD i4.toNat Ty.zJ.dflt).zP)).toNat-ix=((w64 ((d.zB.getD i4.toNat Ty.zJ.dflt).rows*(d.zB.getD i4.toNat Ty.zJ.dflt).zP)).toNat-(ix+1))+1:=by omega
  rw[hil,oK]at h
  refine aj h (λ g1 h=>?_) (λ g1 h=>?_)
  ·have g1:=oT g1
   refine⟨⟨⟨(by omega),(by omega)⟩,tv⟩,⟨q4,tv⟩,⟨(by simp only[af,ak];omega),tv⟩,⟨q4,tv⟩,⟨(by simp only[af,ak];omega),tv⟩,?_⟩
   rw[aq (by omega)]
   exact qF d i1 i4 hk hp hA _ hkc0 (ix+1) _ _ _ (by first|omega|(have:=hk.at i4.toNat;simp only[al,af,ak];omega)) h
  ·have g1:=oF g1
   refine⟨⟨q4,tv⟩,⟨(by simp only[af,ak];omega),tv⟩,⟨q4,tv⟩,⟨(by simp only[af,ak];omega),tv⟩,?_⟩
   rw[aq (by omega)]
   exact qF d i1 i4 hk hp hA _ hkc0 (ix+1) _ _ _ (by first|omega|(have:=hk.at i4.toNat;simp only[al,af,ak];omega)) h
 ·have h1:=oF h1
  rw[show(w64 ((d.zB.getD i4.toNat Ty.zJ.dflt).rows*(d.zB.getD i4.toNat Ty.zJ.dflt).zP)).toNat-ix=0 by omega,oK]at h
  exact hkc0 _ _ _ (by first|omega|(have:=hk.at i4.toNat;simp only[al,af,ak];omega)) h
termination_by (w64 ((d.zB.getD i4.toNat Ty.zJ.dflt).rows*(d.zB.getD i4.toNat Ty.zJ.dflt).zP)).toNat-ix
decreasing_by all_goals omega
def rv (i1:Int):List yF->Nat->Int->(List Cell)->(List Log)->(yC×Int)
 | [],ix,i5,l3,l4=>ru i5 l3 l4 (i1.toNat-0) 0 []
 | z::zs,ix,i5,l3,l4=>oK z (λ i5' l3' l4'=>rv i1 zs (ix+1) i5' l3' l4') ((w64 ((z).rows*(z).zP)).toNat-0) 0 i5 l3 l4
theorem vQ (d:yA)(i1:Int)  (hk:PlB d)(hp:d.zB.length<=4)(hn:i1<=1000){r:yC×Int}{A:Pr}(hA:CL codes sigs f87 [.zE,.int] r A)(ix:Nat)(i5:Int)(l3:List Cell)(l4:List Log)(hv:l3.length<=1536*ix/\l4.length<=1536*ix)(h:rv i1 (List.drop ix d.zB) ix i5 l3 l4=r):A (hd f87 0) (Bx d i1 (ix:Int) i5 l3 l4):=by
 refine hA.go (ON d i1 (ix:Int) i5 l3 l4) (ae (λ h1=>?_) (λ h1=>?_))
 ·have h1:=oT h1
  have hil:ix<d.zB.length:=by omega
  rw[be hil Ty.zJ.dflt,rv]at h
  refine⟨⟨⟨(by omega),(by omega)⟩,tv⟩,?_⟩
  exact qF d i1 (ix:Int) hk (by omega) hA _ (λ i5' l3' l4' hv h=>by rw[aq (by omega)];exact vQ d i1 hk hp hn hA (ix+1) i5' l3' l4' (by first|omega|(have:=hk.at i4.toNat;simp only[al,af,ak];omega)) h) 0 i5 l3 l4 (by omega) h
 ·have h1:=oF h1
  rw[dN (by omega),rv]at h
  refine hA.boxrow 1 2 194 .zV (by kernel_rfl) (s':=Fz i1 i5 l3 l4 0 []) (by kernel_rfl) ?_
  exact vP i1 i5 l3 l4 hn hA 0 [] (by simp) h
termination_by d.zB.length-ix
decreasing_by all_goals omega
def m87 (d:yA):yC×Int:=bif ((Zn.df d) != 0)then(yC.mk [] [] [] 0 0 0,(Zn.df d))else rv (Zn.bx d).2.1 d.zB 0 0 [] []
theorem c87 (d:yA) :yJ prog 87 [⟨.zI,d⟩] [.zE,.int] (m87 d):=
 pcl codes sigs func87 (by kernel_rfl) λ A hA=>hA.go (t87x d) (by
  generalize h:m87 d=r at hA ⊢
  unfold m87 at h
  refine⟨⟨q5,tv⟩,_,Wn.c70 _,?_⟩
  refine aj h (λ g1 h=>?_) (λ g1 h=>?_)
  ·exact⟨⟨q7,tv,tv⟩,h⟩
  ·refine⟨⟨q5,tv⟩,_,Zn.Lg _,?_⟩
   refine hA.boxrow 2 0 76 .cell (by kernel_rfl) rfl ?_
   refine hA.boxrow 2 1 146 .zW (by kernel_rfl) (s':=Bx d (Zn.bx d).2.1 0 0 [] []) (by kernel_rfl) ?_
   exact vQ d (Zn.bx d).2.1 (plB (cp g1)) (cp g1).zB (by have:=uk d;omega) hA 0 0 [] [] (by simp) h)
def rz (i4:Int)(l3:List Cell)(l4:List Log):Nat->Nat->(List Tip)->(yC×Int)
 | 0,ix,l5=>(yC.mk l3 l4 l5 i4 0 0,0)
 | n+1,ix,l5=>rz i4 l3 l4 n (ix+1) (l5++[Tip.mk 1 0])
theorem vT (i4:Int)(l3:List Cell)(l4:List Log)(i5:Int)  (hn:i5<=1000){r:yC×Int}{A:Pr}(hA:CL codes sigs f83 [.zE,.int] r A)(ix:Nat)(l5:List Tip)(hv:l5.length<=ix)(h:rz i4 l3 l4 (i5.toNat-ix) ix l5=r):A (hd f83 2) (FA i4 l3 l4 i5 (ix:Int) l5):=by
 refine hA.go (OQ i4 l3 l4 i5 (ix:Int) l5) (ae (λ h1=>?_) (λ h1=>?_))
 ·have h1:=oT h1
  have hil:i5.toNat-ix=(i5.toNat-(ix+1))+1:=by omega
  rw[hil,rz]at h
  refine⟨⟨q3,tv⟩,⟨(by simp only[af,ak];omega),tv⟩,?_⟩
  rw[aq (by omega)]
  exact vT i4 l3 l4 i5 hn hA (ix+1) _ (by simp only[al,af,ak];omega) h
 ·have h1:=oF h1
  rw[show i5.toNat-ix=0 by omega,rz]at h
  exact⟨⟨q7,tv,tv⟩,h⟩
termination_by i5.toNat-ix
decreasing_by all_goals omega
def oL (z0:yF)(kc0:Int->(List Cell)->(List Log)->(yC×Int)):Nat->Nat->Int->(List Cell)->(List Log)->(yC×Int)
 | 0,ix,i2,l1,l2=>kc0 i2 l1 l2
 | n+1,ix,i2,l1,l2=>bif decide ((ix:Int)<(↑(z0).start.length:Int))then oL z0 kc0 n (ix+1) (w64 (i2+(z0).start.getD (ix) Ty.int.dflt)) (l1++[(rK (z0).cap ((z0).start.getD (ix) Ty.int.dflt)).1]) (l2++[(Hf 8).1])else oL z0 kc0 n (ix+1) (w64 (i2+0)) (l1++[(rK (z0).cap 0).1]) (l2++[(Hf 8).1])
theorem qG (d:yA)(i3:Int)  (hk:PlB d)(hp:i3.toNat<4){r:yC×Int}{A:Pr}(hA:CL codes sigs f83 [.zE,.int] r A)(kc0:Int->(List Cell)->(List Log)->(yC×Int))(hkc0:∀ (i4':Int) (l3':List Cell) (l4':List Log),(l3'.length<=1536*(i3.toNat+1)/\l4'.length<=1536*(i3.toNat+1))->kc0 i4' l3' l4'=r->A (hd f83 0) (BB d (w64 (i3+(1:Int))) i4' l3' l4'))(ix:Nat)(i2:Int)(l1:List Cell)(l2:List Log)(hv:l1.length<=1536*i3.toNat+ix/\l2.length<=1536*i3.toNat+ix/\ix<=1536)(h:oL (d.zB.getD i3.toNat Ty.zJ.dflt) kc0 ((w64 ((d.zB.getD i3.toNat Ty.zJ.dflt).rows*(d.zB.getD i3.toNat Ty.zJ.dflt).zP)).toNat-ix) ix i2 l1 l2=r):A (hd f83 1) (BA d i3 (ix:Int) i2 l1 l2):=by
 refine hA.go (OR d i3 (ix:Int) i2 l1 l2) (ae (λ h1=>?_) (λ h1=>?_))
 ·have h1:=oT h1
  have hil:(w64 ((d.zB.getD i3.toNat Ty.zJ.dflt).rows*(d.zB.getD i3.toNat Ty.zJ.dflt).zP)).toNat-ix=((w64 ((d.zB.getD i3.toNat Ty.zJ.dflt).rows*(d.zB.getD i3.toNat Ty.zJ.dflt).zP)).toNat-(ix+1))+1:=by omega
  rw[hil,oL]at h
  refine aj h (λ g1 h=>?_) (λ g1 h=>?_)
  ·have g1:=oT g1
   refine⟨⟨⟨(by omega),(by omega)⟩,tv⟩,⟨q2,q2,tv⟩,_,Ts _ _,⟨q2,tv⟩,_,Tq _,⟨q4,tv⟩,⟨(by simp only[af,ak];omega),tv⟩,⟨q4,tv⟩,⟨(by simp only[af,ak];omega),tv⟩,?_⟩
   rw[aq (by omega)]
   exact qG d i3 hk hp hA _ hkc0 (ix+1) _ _ _ (by first|omega|(have:=hk.at i3.toNat;simp only[al,af,ak];omega)) h
  ·have g1:=oF g1
   refine⟨⟨q2,q2,tv⟩,_,Ts _ _,⟨q2,tv⟩,_,Tq _,⟨q4,tv⟩,⟨(by simp only[af,ak];omega),tv⟩,⟨q4,tv⟩,⟨(by simp only[af,ak];omega),tv⟩,?_⟩
   rw[aq (by omega)]
   exact qG d i3 hk hp hA _ hkc0 (ix+1) _ _ _ (by first|omega|(have:=hk.at i3.toNat;simp only[al,af,ak];omega)) h
 ·have h1:=oF h1
  rw[show(w64 ((d.zB.getD i3.toNat Ty.zJ.dflt).rows*(d.zB.getD i3.toNat Ty.zJ.dflt).zP)).toNat-ix=0 by omega,oL]at h
  exact hkc0 _ _ _ (by first|omega|(have:=hk.at i3.toNat;simp only[al,af,ak];omega)) h
termination_by (w64 ((d.zB.getD i3.toNat Ty.zJ.dflt).rows*(d.zB.getD i3.toNat Ty.zJ.dflt).zP)).toNat-ix
decreasing_by all_goals omega
def rA (d:yA):List yF->Nat->Int->(List Cell)->(List Log)->(yC×Int)
 | [],ix,i4,l3,l4=>rz i4 l3 l4 ((Zn.bx d).2.1.toNat-0) 0 []
 | z::zs,ix,i4,l3,l4=>oL z (λ i4' l3' l4'=>rA d zs (ix+1) i4' l3' l4') ((w64 ((z).rows*(z).zP)).toNat-0) 0 i4 l3 l4
theorem vU (d:yA)  (hk:PlB d)(hp:d.zB.length<=4){r:yC×Int}{A:Pr}(hA:CL codes sigs f83 [.zE,.int] r A)(ix:Nat)(i4:Int)(l3:List Cell)(l4:List Log)(hv:l3.length<=1536*ix/\l4.length<=1536*ix)(h:rA d (List.drop ix d.zB) ix i4 l3 l4=r):A (hd f83 0) (BB d (ix:Int) i4 l3 l4):=by
 refine hA.go (OS d (ix:Int) i4 l3 l4) (ae (λ h1=>?_) (λ h1=>?_))
 ·have h1:=oT h1
  have hil:ix<d.zB.length:=by omega
  rw[be hil Ty.zJ.dflt,rA]at h
  refine⟨⟨⟨(by omega),(by omega)⟩,tv⟩,?_⟩
  exact qG d (ix:Int) hk (by omega) hA _ (λ i4' l3' l4' hv h=>by rw[aq (by omega)];exact vU d hk hp hA (ix+1) i4' l3' l4' (by first|omega|(have:=hk.at i3.toNat;simp only[al,af,ak];omega)) h) 0 i4 l3 l4 (by omega) h
 ·have h1:=oF h1
  rw[dN (by omega),rA]at h
  refine⟨⟨q5,tv⟩,_,Zn.HE _,?_⟩
  refine hA.boxrow 1 2 194 .zV (by kernel_rfl) (s':=FA i4 l3 l4 (Zn.bx d).2.1 0 []) (by kernel_rfl) ?_
  exact vT i4 l3 l4 (Zn.bx d).2.1 (by have:=uk d;omega) hA 0 [] (by simp) h
termination_by d.zB.length-ix
decreasing_by all_goals omega
def m83 (d:yA):yC×Int:=bif ((Zn.df d) != 0)then(yC.mk [] [] [] 0 0 0,(Zn.df d))else rA d d.zB 0 0 [] []
theorem c83 (d:yA) :yJ prog 83 [⟨.zI,d⟩] [.zE,.int] (m83 d):=
 pcl codes sigs func83 (by kernel_rfl) λ A hA=>hA.go (t83x d) (by
  generalize h:m83 d=r at hA ⊢
  unfold m83 at h
  refine⟨⟨q5,tv⟩,_,Zn.c47 _,?_⟩
  refine aj h (λ g1 h=>?_) (λ g1 h=>?_)
  ·exact⟨⟨q7,tv,tv⟩,h⟩
  ·refine hA.boxrow 2 0 76 .cell (by kernel_rfl) rfl ?_
   refine hA.boxrow 2 1 146 .zW (by kernel_rfl) (s':=BB d 0 0 [] []) (by kernel_rfl) ?_
   exact vU d (plB (cp g1)) (cp g1).zB hA 0 0 [] [] (by simp) h)
def lP (s:yC)(z0:yF)(kc0:Int->Int->(Int×Bool)):Nat->Nat->Int->Int->(Int×Bool)
 | 0,ix,i1,i2=>kc0 i1 i2
 | n+1,ix,i1,i2=>bif (!(dm (s.cells.getD i2.toNat Ty.cell.dflt)))then(0,false)else bif ((s.cells.getD i2.toNat Ty.cell.dflt).cap != (z0).cap)then(0,false)else bif (!(gL (s.zL.getD i2.toNat Ty.zW.dflt)))then(0,false)else bif ((s.zL.getD i2.toNat Ty.zW.dflt).room != 8)then(0,false)else bif ((s.zL.getD i2.toNat Ty.zW.dflt).last != (s.cells.getD i2.toNat Ty.cell.dflt).ver)then(0,false)else bif decide ((ix:Int)<(↑(z0).start.length:Int))then lP s z0 kc0 n (ix+1) (w64 (i1+(z0).start.getD (ix) Ty.int.dflt)) (w64 (i2+1))else lP s z0 kc0 n (ix+1) i1 (w64 (i2+1))
theorem pk (d:yA)(s:yC)(i5:Int)(hk:DeckOk d)(hl:(s.cells.length:Int)=br (aM d)/\s.zL.length=s.cells.length)  {r:Int×Bool}{A:Pr}(hA:CL codes sigs f158 [.int,.bool] r A)(kc0:Int->Int->(Int×Bool))(hkc0:∀ (i3' i4':Int),(0<=i4'/\i4'+br ((aM d).drop (i5.toNat+1))=s.cells.length)->kc0 i3' i4'=r->A (hd f158 0) (uG d s i3' i4' (w64 (i5+(1:Int)))))(ix:Nat)(i1 i2:Int)(hv:0<=i2/\(ix:Int)<=plN d i5.toNat/\i2+(plN d i5.toNat-ix)+br ((aM d).drop (i5.toNat+1))=s.cells.length)(h:lP s (d.zB.getD i5.toNat Ty.zJ.dflt) kc0 ((w64 ((d.zB.getD i5.toNat Ty.zJ.dflt).rows*(d.zB.getD i5.toNat Ty.zJ.dflt).zP)).toNat-ix) ix i1 i2=r):A (hd f158 1) (uF d s i5 i1 i2 (ix:Int)):=by
 refine hA.go (Mf d s i5 i1 i2 (ix:Int)) (ae (λ h1=>?_) (λ h1=>?_))
 ·have h1:=oT h1
  have hil:(w64 ((d.zB.getD i5.toNat Ty.zJ.dflt).rows*(d.zB.getD i5.toNat Ty.zJ.dflt).zP)).toNat-ix=((w64 ((d.zB.getD i5.toNat Ty.zJ.dflt).rows*(d.zB.getD i5.toNat Ty.zJ.dflt).zP)).toNat-(ix+1))+1:=by omega
  rw[hil,lP]at h
  have hb:=(plB hk).at i5.toNat
  have hn:=Bb hk (i5.toNat+1)
  have hp:=hk.wells
  refine⟨⟨⟨(by omega),(by omega)⟩,tv⟩,⟨⟨(by omega),(by omega)⟩,tv⟩,⟨q4,tv⟩,_,Lb _,?_⟩
  refine aj h (λ g1 h=>?_) (λ g1 h=>?_)
  ·exact⟨⟨q2,tv,tv⟩,h⟩
  ·refine aj h (λ g2 h=>?_) (λ g2 h=>?_)
   ·exact⟨⟨q2,tv,tv⟩,h⟩
   ·refine⟨⟨q4,tv⟩,_,NA _,?_⟩
    refine aj h (λ g3 h=>?_) (λ g3 h=>?_)
    ·exact⟨⟨q2,tv,tv⟩,h⟩
    ·refine aj h (λ g4 h=>?_) (λ g4 h=>?_)
     ·exact⟨⟨q2,tv,tv⟩,h⟩
     ·refine aj h (λ g5 h=>?_) (λ g5 h=>?_)
      ·exact⟨⟨q2,tv,tv⟩,h⟩
      ·refine aj h (λ g6 h=>?_) (λ g6 h=>?_)
       ·have g6:=oT g6
        refine⟨⟨⟨(by omega),(by omega)⟩,tv⟩,?_⟩
        rw[aq (by omega)]
        exact pk d s i5 hk hl  hA _ hkc0 (ix+1) _ _ (by rw[an (by omega) (by omega)];omega) h
       ·have g6:=oF g6
        rw[aq (by omega)]
        exact pk d s i5 hk hl  hA _ hkc0 (ix+1) _ _ (by rw[an (by omega) (by omega)];omega) h
 ·have h1:=oF h1
  rw[show(w64 ((d.zB.getD i5.toNat Ty.zJ.dflt).rows*(d.zB.getD i5.toNat Ty.zJ.dflt).zP)).toNat-ix=0 by omega,lP]at h
  have hb:=(plB hk).at i5.toNat
  exact hkc0 _ _ (by first|omega|(rw[au]at hv;omega)) h
termination_by (w64 ((d.zB.getD i5.toNat Ty.zJ.dflt).rows*(d.zB.getD i5.toNat Ty.zJ.dflt).zP)).toNat-ix
decreasing_by all_goals omega
def nN (s:yC):List yF->Nat->Int->Int->(Int×Bool)
 | [],ix,i3,i4=>(i3,true)
 | z::zs,ix,i3,i4=>lP s z (λ i3' i4'=>nN s zs (ix+1) i3' i4') ((w64 ((z).rows*(z).zP)).toNat-0) 0 i3 i4
theorem tN (d:yA)(s:yC)(hk:DeckOk d)(hl:(s.cells.length:Int)=br (aM d)/\s.zL.length=s.cells.length)  {r:Int×Bool}{A:Pr}(hA:CL codes sigs f158 [.int,.bool] r A)(ix:Nat)(i3 i4:Int)(hv:0<=i4/\i4+br ((aM d).drop ix)=s.cells.length)(h:nN s (List.drop ix d.zB) ix i3 i4=r):A (hd f158 0) (uG d s i3 i4 (ix:Int)):=by
 refine hA.go (Mg d s i3 i4 (ix:Int)) (ae (λ h1=>?_) (λ h1=>?_))
 ·have h1:=oT h1
  have hil:ix<d.zB.length:=by omega
  rw[be hil Ty.zJ.dflt,nN]at h
  have hpl:=hk.zB
  refine⟨⟨⟨(by omega),(by omega)⟩,tv⟩,?_⟩
  exact pk d s (ix:Int) hk hl  hA _ (λ i3' i4' hv h=>by rw[aq (by omega)];exact tN d s hk hl  hA (ix+1) i3' i4' (by first|omega|(rw[au]at hv;omega)) h) 0 i3 i4 (by have:=KA hil;have:=Ja hk ix;have e:(ix:Int).toNat=ix:=rfl;rw[e];omega) h
 ·have h1:=oF h1
  rw[dN (by omega),nN]at h
  exact⟨⟨q2,tv,tv⟩,h⟩
termination_by d.zB.length-ix
decreasing_by all_goals omega
def Cx (d:yA)(s:yC):Int×Bool:=nN s d.zB 0 0 0
theorem NC (d:yA)(s:yC)(hk:DeckOk d)(hl:(s.cells.length:Int)=br (aM d)/\s.zL.length=s.cells.length):yJ prog 158 [⟨.zI,d⟩,⟨.zE,s⟩] [.int,.bool] (Cx d s):=
 pcl codes sigs func158 (by kernel_rfl) λ A hA=>hA.go (RJ d s) (by
  generalize h:Cx d s=r at hA ⊢
  unfold Cx at h
  exact tN d s hk hl  hA 0 0 0 (by exact⟨by decide,by simpa using hl.1.symm⟩) h)
def tD (b:yC):List Tip->Nat->Bool
 | [],ix=>true
 | z::zs,ix=>bif (!((z).state==(b.zK.getD (ix) Ty.zV.dflt).state&&((z).by'==(b.zK.getD (ix) Ty.zV.dflt).by'&&true)))then false else tD b zs (ix+1)
theorem vM (a b:yC)(hl:(a.cells.length<=1000/\a.zL.length<=1000/\a.zK.length<=1000)/\b.cells.length=a.cells.length/\b.zL.length=a.zL.length/\b.zK.length=a.zK.length/\∀ x∈a.zL,x.list.length<=1000000)  {r:Bool}{A:Pr}(hA:CL codes sigs f89 [.bool] r A)(ix:Nat)(h:tD b (List.drop ix a.zK) ix=r):A (hd f89 2) (Fw a b (ix:Int)):=by
 refine hA.go (OI a b (ix:Int)) (ae (λ h1=>?_) (λ h1=>?_))
 ·have h1:=oT h1
  have hil:ix<a.zK.length:=by omega
  rw[be hil Ty.zV.dflt,tD]at h
  refine⟨⟨⟨(by omega),(by omega)⟩,tv⟩,⟨⟨(by omega),(by omega)⟩,tv⟩,?_⟩
  refine aj h (λ g1 h=>?_) (λ g1 h=>?_)
  ·exact⟨q2,h⟩
  ·rw[aq (by omega)]
   exact vM a b hl  hA (ix+1) h
 ·have h1:=oF h1
  rw[dN (by omega),tD]at h
  exact⟨q2,h⟩
termination_by a.zK.length-ix
decreasing_by all_goals omega
def tE (a b:yC):List Log->Nat->Bool
 | [],ix=>tD b a.zK 0
 | z::zs,ix=>bif (!(Ku z (b.zL.getD (ix) Ty.zW.dflt)))then false else tE a b zs (ix+1)
theorem vN (a b:yC)(hl:(a.cells.length<=1000/\a.zL.length<=1000/\a.zK.length<=1000)/\b.cells.length=a.cells.length/\b.zL.length=a.zL.length/\b.zK.length=a.zK.length/\∀ x∈a.zL,x.list.length<=1000000)  {r:Bool}{A:Pr}(hA:CL codes sigs f89 [.bool] r A)(ix:Nat)(h:tE a b (List.drop ix a.zL) ix=r):A (hd f89 1) (Fx a b (ix:Int)):=by
 refine hA.go (OJ a b (ix:Int)) (ae (λ h1=>?_) (λ h1=>?_))
 ·have h1:=oT h1
  have hil:ix<a.zL.length:=by omega
  rw[be hil Ty.zW.dflt,tE]at h
  refine⟨⟨⟨(by omega),(by omega)⟩,tv⟩,⟨⟨(by omega),(by omega)⟩,tv⟩,⟨q4,q4,tv⟩,_,Tl (hl.2.2.2.2 _ (me hil)),?_⟩
  refine aj h (λ g1 h=>?_) (λ g1 h=>?_)
  ·exact⟨q2,h⟩
  ·rw[aq (by omega)]
   exact vN a b hl  hA (ix+1) h
 ·have h1:=oF h1
  rw[dN (by omega),tE]at h
  exact vM a b hl  hA 0 h
termination_by a.zL.length-ix
decreasing_by all_goals omega
def tF (a b:yC):List Cell->Nat->Bool
 | [],ix=>tE a b a.zL 0
 | z::zs,ix=>bif (!((z).cap==(b.cells.getD (ix) Ty.cell.dflt).cap&&((z).zS==(b.cells.getD (ix) Ty.cell.dflt).zS&&((z).ver==(b.cells.getD (ix) Ty.cell.dflt).ver&&true))))then false else tF a b zs (ix+1)
theorem vO (a b:yC)(hl:(a.cells.length<=1000/\a.zL.length<=1000/\a.zK.length<=1000)/\b.cells.length=a.cells.length/\b.zL.length=a.zL.length/\b.zK.length=a.zK.length/\∀ x∈a.zL,x.list.length<=1000000)  {r:Bool}{A:Pr}(hA:CL codes sigs f89 [.bool] r A)(ix:Nat)(h:tF a b (List.drop ix a.cells) ix=r):A (hd f89 0) (Fy a b (ix:Int)):=by
 refine hA.go (OK a b (ix:Int)) (ae (λ h1=>?_) (λ h1=>?_))
 ·have h1:=oT h1
  have hil:ix<a.cells.length:=by omega
  rw[be hil Ty.cell.dflt,tF]at h
  refine⟨⟨⟨(by omega),(by omega)⟩,tv⟩,⟨⟨(by omega),(by omega)⟩,tv⟩,?_⟩
  refine aj h (λ g1 h=>?_) (λ g1 h=>?_)
  ·exact⟨q2,h⟩
  ·rw[aq (by omega)]
   exact vO a b hl  hA (ix+1) h
 ·have h1:=oF h1
  rw[dN (by omega),tF]at h
  exact vN a b hl  hA 0 h
termination_by a.cells.length-ix
decreasing_by all_goals omega
def m89 (a b:yC):Bool:=bif ((a.cells.length:Int) != (b.cells.length:Int))then false else bif ((a.zL.length:Int) != (b.zL.length:Int))then false else bif ((a.zK.length:Int) != (b.zK.length:Int))then false else bif (a.start != b.start)then false else bif (a.zR != b.zR)then false else bif (a.out != b.out)then false else tF a b a.cells 0
theorem c89 (a b:yC)(hl:a.cells.length<=1000/\a.zL.length<=1000/\a.zK.length<=1000)(hg:∀ x∈a.zL,x.list.length<=1000000):yJ prog 89 [⟨.zE,a⟩,⟨.zE,b⟩] [.bool] (m89 a b):=
 pcl codes sigs func89 (by kernel_rfl) λ A hA=>hA.go (t89x a b) (by
  generalize h:m89 a b=r at hA ⊢
  unfold m89 at h
  refine aj h (λ g1 h=>?_) (λ g1 h=>?_)
  ·exact⟨q2,h⟩
  ·refine aj h (λ g2 h=>?_) (λ g2 h=>?_)
   ·exact⟨q2,h⟩
   ·refine aj h (λ g3 h=>?_) (λ g3 h=>?_)
    ·exact⟨q2,h⟩
    ·refine aj h (λ g4 h=>?_) (λ g4 h=>?_)
     ·exact⟨q2,h⟩
     ·refine aj h (λ g5 h=>?_) (λ g5 h=>?_)
      ·exact⟨q2,h⟩
      ·refine aj h (λ g6 h=>?_) (λ g6 h=>?_)
       ·exact⟨q2,h⟩
       ·exact vO a b ⟨hl,by simp at g1;omega,by simp at g2;omega,by simp at g3;omega,hg⟩  hA 0 h)
def tA (b:yA):List yK->Nat->Bool
 | [],ix=>true
 | z::zs,ix=>bif ((z).rows != (b.zC.getD (ix) Ty.zN.dflt).rows)then false else bif ((z).zP != (b.zC.getD (ix) Ty.zN.dflt).zP)then false else bif (!(AC [(z).x,(z).pitch,(z).reach] [(b.zC.getD (ix) Ty.zN.dflt).x,(b.zC.getD (ix) Ty.zN.dflt).pitch,(b.zC.getD (ix) Ty.zN.dflt).reach]))then false else tA b zs (ix+1)
theorem vK (a b:yA)(hl:(a.zA.length<=1000/\a.zB.length<=1000/\a.zC.length<=1000/\∀ p∈a.zB,p.start.length<=1000000)/\b.zB.length=a.zB.length/\b.zC.length=a.zC.length)  {r:Bool}{A:Pr}(hA:CL codes sigs f90 [.bool] r A)(ix:Nat)(h:tA b (List.drop ix a.zC) ix=r):A (hd f90 1) (Fu a b (ix:Int)):=by
 refine hA.go (OG a b (ix:Int)) (ae (λ h1=>?_) (λ h1=>?_))
 ·have h1:=oT h1
  have hil:ix<a.zC.length:=by omega
  rw[be hil Ty.zN.dflt,tA]at h
  refine⟨⟨⟨(by omega),(by omega)⟩,tv⟩,⟨⟨(by omega),(by omega)⟩,tv⟩,?_⟩
  refine aj h (λ g1 h=>?_) (λ g1 h=>?_)
  ·exact⟨q2,h⟩
  ·refine aj h (λ g2 h=>?_) (λ g2 h=>?_)
   ·exact⟨q2,h⟩
   ·refine⟨⟨q2,q2,q2,tv⟩,⟨q2,q2,q2,tv⟩,⟨q2,q2,tv⟩,_,Lf _ _ (by first|omega|(simp only[af,ak];omega)),?_⟩
    refine aj h (λ g3 h=>?_) (λ g3 h=>?_)
    ·exact⟨q2,h⟩
    ·rw[aq (by omega)]
     exact vK a b hl  hA (ix+1) h
 ·have h1:=oF h1
  rw[dN (by omega),tA]at h
  exact⟨q2,h⟩
termination_by a.zC.length-ix
decreasing_by all_goals omega
def tB (a b:yA):List yF->Nat->Bool
 | [],ix=>tA b a.zC 0
 | z::zs,ix=>bif ((z).rows != (b.zB.getD (ix) Ty.zJ.dflt).rows)then false else bif ((z).zP != (b.zB.getD (ix) Ty.zJ.dflt).zP)then false else bif ((z).cap != (b.zB.getD (ix) Ty.zJ.dflt).cap)then false else bif (!(eqL (z).start (b.zB.getD (ix) Ty.zJ.dflt).start))then false else bif (!(AC [(z).x,(z).pitch,(z).reach] [(b.zB.getD (ix) Ty.zJ.dflt).x,(b.zB.getD (ix) Ty.zJ.dflt).pitch,(b.zB.getD (ix) Ty.zJ.dflt).reach]))then false else tB a b zs (ix+1)
theorem vL (a b:yA)(hl:(a.zA.length<=1000/\a.zB.length<=1000/\a.zC.length<=1000/\∀ p∈a.zB,p.start.length<=1000000)/\b.zB.length=a.zB.length/\b.zC.length=a.zC.length)  {r:Bool}{A:Pr}(hA:CL codes sigs f90 [.bool] r A)(ix:Nat)(h:tB a b (List.drop ix a.zB) ix=r):A (hd f90 0) (Fv a b (ix:Int)):=by
 refine hA.go (OH a b (ix:Int)) (ae (λ h1=>?_) (λ h1=>?_))
 ·have h1:=oT h1
  have hil:ix<a.zB.length:=by omega
  rw[be hil Ty.zJ.dflt,tB]at h
  refine⟨⟨⟨(by omega),(by omega)⟩,tv⟩,⟨⟨(by omega),(by omega)⟩,tv⟩,?_⟩
  refine aj h (λ g1 h=>?_) (λ g1 h=>?_)
  ·exact⟨q2,h⟩
  ·refine aj h (λ g2 h=>?_) (λ g2 h=>?_)
   ·exact⟨q2,h⟩
   ·refine aj h (λ g3 h=>?_) (λ g3 h=>?_)
    ·exact⟨q2,h⟩
    ·refine⟨⟨q2,q2,tv⟩,_,Zn.c50 (hl.1.2.2.2 _ (me hil)),?_⟩
     refine aj h (λ g4 h=>?_) (λ g4 h=>?_)
     ·exact⟨q2,h⟩
     ·refine⟨⟨q2,q2,q2,tv⟩,⟨q2,q2,q2,tv⟩,⟨q2,q2,tv⟩,_,Lf _ _ (by first|omega|(simp only[af,ak];omega)),?_⟩
      refine aj h (λ g5 h=>?_) (λ g5 h=>?_)
      ·exact⟨q2,h⟩
      ·rw[aq (by omega)]
       exact vL a b hl  hA (ix+1) h
 ·have h1:=oF h1
  rw[dN (by omega),tB]at h
  exact vK a b hl  hA 0 h
termination_by a.zB.length-ix
decreasing_by all_goals omega
def m90 (a b:yA):Bool:=bif (!(AC a.zA b.zA))then false else bif ((a.zB.length:Int) != (b.zB.length:Int))then false else bif ((a.zC.length:Int) != (b.zC.length:Int))then false else bif (a.zO != b.zO)then false else tB a b a.zB 0
theorem c90 (a b:yA)(hl:a.zA.length<=1000/\a.zB.length<=1000/\a.zC.length<=1000/\∀ p∈a.zB,p.start.length<=1000000):yJ prog 90 [⟨.zI,a⟩,⟨.zI,b⟩] [.bool] (m90 a b):=
 pcl codes sigs func90 (by kernel_rfl) λ A hA=>hA.go (t90x a b) (by
  generalize h:m90 a b=r at hA ⊢
  unfold m90 at h
  refine⟨⟨q2,q2,tv⟩,_,Lf _ _ (by first|omega|(simp only[af,ak];omega)),?_⟩
  refine aj h (λ g1 h=>?_) (λ g1 h=>?_)
  ·exact⟨q2,h⟩
  ·refine aj h (λ g2 h=>?_) (λ g2 h=>?_)
   ·exact⟨q2,h⟩
   ·refine aj h (λ g3 h=>?_) (λ g3 h=>?_)
    ·exact⟨q2,h⟩
    ·refine aj h (λ g4 h=>?_) (λ g4 h=>?_)
     ·exact⟨q2,h⟩
     ·exact vL a b ⟨hl,by simp at g2;omega,by simp at g3;omega⟩  hA 0 h)
end Go.Proofs.Mn
namespace Go.Proofs.Mo
open Go.Proofs.Tryz
open Go Go.VL
set_option maxRecDepth 20000
open Go.Proofs.Zn Go.Proofs.Mn
def MZ (w x:Int):Bool:=bif (x==0)then true else x==w
theorem c272 (w x:Int) :Gc prog 272 [i64 x,.ptr 0 0] [(0,.box [i64 w])] 1 ((λ x:Bool=>(⟨[ck x],[(0,.box [i64 w])],1⟩:yD)) (MZ w x)):=
 Gc.of_closed (C:=codes) (S:=sigs) mixed func272 (by kernel_rfl) (λ i T t ys hi h=>⟨ys,h,rfl⟩) λ A hA=>hA.go (t272 w x) (by
  generalize h:MZ w x=r at hA ⊢
  unfold MZ at h
  refine aj h (λ g1 h=>?_) (λ g1 h=>?_)
  ·exact⟨tv,.of_eq (by rw[<-h];try rfl)⟩
  ·exact⟨tv,.of_eq (by rw[<-h];try rfl)⟩)
def gr (o:List Int)(w x:Int):Bool := !(MZ w (o.getD x.toNat Ty.int.dflt))
theorem KU (o:List Int)(w x:Int)(hx:0<=x/\x<o.length):Gc prog 302 [i64 x,.ptr 0 0,.ptr 1 0] [(0,.box [.clo (.func 272) [] [.ptr 2 0]]),(1,.box [.d (.sl .int o)]),(2,.box [i64 w])] 3 ((λ x:Bool=>(⟨[ck x],[(0,.box [.clo (.func 272) [] [.ptr 2 0]]),(1,.box [.d (.sl .int o)]),(2,.box [i64 w])],3⟩:yD)) (gr o w x)):=
 Gc.of_closed (C:=codes) (S:=sigs) mixed func302 (by kernel_rfl) (λ i T t ys hi h=>⟨ys,h,rfl⟩) λ A hA=>hA.go (Ii o w x) (by
  generalize h:gr o w x=r at hA ⊢
  unfold gr at h
  exact⟨⟨⟨(by omega),(by omega)⟩,tv⟩,_,c272 _ _,tv,.of_eq (by rw[<-h];try rfl)⟩)
def MY (w x:Int):Bool:=x==w
theorem c273 (w x:Int) :Gc prog 273 [i64 x,.ptr 0 0] [(0,.box [i64 w])] 1 ((λ x:Bool=>(⟨[ck x],[(0,.box [i64 w])],1⟩:yD)) (MY w x)):=
 Gc.of_closed (C:=codes) (S:=sigs) mixed func273 (by kernel_rfl) (λ i T t ys hi h=>⟨ys,h,rfl⟩) λ A hA=>hA.go (t273 w x) (by
  generalize h:MY w x=r at hA ⊢
  unfold MY at h
  exact⟨tv,.of_eq (by rw[<-h];try rfl)⟩)
def gq (o:List Int)(w x:Int):Bool := !(MY w (o.getD x.toNat Ty.int.dflt))
theorem KT (o:List Int)(w x:Int)(hx:0<=x/\x<o.length):Gc prog 302 [i64 x,.ptr 0 0,.ptr 1 0] [(0,.box [.clo (.func 273) [] [.ptr 2 0]]),(1,.box [.d (.sl .int o)]),(2,.box [i64 w])] 3 ((λ x:Bool=>(⟨[ck x],[(0,.box [.clo (.func 273) [] [.ptr 2 0]]),(1,.box [.d (.sl .int o)]),(2,.box [i64 w])],3⟩:yD)) (gq o w x)):=
 Gc.of_closed (C:=codes) (S:=sigs) mixed func302 (by kernel_rfl) (λ i T t ys hi h=>⟨ys,h,rfl⟩) λ A hA=>hA.go (Ih o w x) (by
  generalize h:gq o w x=r at hA ⊢
  unfold gq at h
  exact⟨⟨⟨(by omega),(by omega)⟩,tv⟩,_,c273 _ _,tv,.of_eq (by rw[<-h];try rfl)⟩)
def eQ (o:List Int)(w:Int):List Int->Nat->Int
 | [],ix=>(-1:Int)
 | z::zs,ix=>bif (gr o w (z))then(ix:Int)else eQ o w zs (ix+1)
theorem kJ (o:List Int)(w:Int)(l:List Int)(hl:l.length<=1000000)(hb:∀ x∈l,0<=x/\x<o.length)  {r:Int}{A:List Item->AS->Prop}(hA:yP prog codes sigs f161 (eW 3) (λ r'=>yD.Le r' ((λ x:Int=>(⟨[i64 x],[(0,.box [.clo (.func 272) [] [.ptr 2 0]]),(1,.box [.d (.sl .int o)]),(2,.box [i64 w])],3⟩:yD)) r)) 3 A)(ix:Nat)(h:eQ o w (List.drop ix l) ix=r):A (hd f161 0) (iK o w l (ix:Int)):=by
 refine hA.go (sL o w l (ix:Int)) (ae (λ h1=>?_) (λ h1=>?_))
 ·have h1:=oT h1
  have hil:ix<l.length:=by omega
  rw[be hil Ty.int.dflt,eQ]at h
  refine⟨⟨⟨(by omega),(by omega)⟩,tv⟩,_,KU _ _ _ (hb _ (me hil)),?_⟩
  refine aj h (λ g1 h=>?_) (λ g1 h=>?_)
  ·exact⟨tv,.of_eq (by rw[<-h];try rfl)⟩
  ·rw[aq (by omega)]
   exact kJ o w l hl hb  hA (ix+1) h
 ·have h1:=oF h1
  rw[dN (by omega),eQ]at h
  exact⟨tv,.of_eq (by rw[<-h];try rfl)⟩
termination_by l.length-ix
decreasing_by all_goals omega
def er (o:List Int)(w:Int)(l:List Int):Int:=eQ o w l 0
theorem yl (o:List Int)(w:Int)(l:List Int)(hl:l.length<=1000000)(hb:∀ x∈l,0<=x/\x<o.length):Gc prog 161 [.d (.sl .int l),.clo (.func 302) [] [.ptr 0 0,.ptr 1 0]] [(0,.box [.clo (.func 272) [] [.ptr 2 0]]),(1,.box [.d (.sl .int o)]),(2,.box [i64 w])] 3 ((λ x:Int=>(⟨[i64 x],[(0,.box [.clo (.func 272) [] [.ptr 2 0]]),(1,.box [.d (.sl .int o)]),(2,.box [i64 w])],3⟩:yD)) (er o w l)):=
 Gc.of_closed (C:=codes) (S:=sigs) mixed func161 (by kernel_rfl) (λ i T t ys hi h=>⟨ys,h,rfl⟩) λ A hA=>hA.go (wV o w l) (by
  generalize h:er o w l=r at hA ⊢
  unfold er at h
  exact kJ o w l hl hb  hA 0 h)
def eP (o:List Int)(w:Int):List Int->Nat->Int
 | [],ix=>(-1:Int)
 | z::zs,ix=>bif (gq o w (z))then(ix:Int)else eP o w zs (ix+1)
theorem kI (o:List Int)(w:Int)(l:List Int)(hl:l.length<=1000000)(hb:∀ x∈l,0<=x/\x<o.length)  {r:Int}{A:List Item->AS->Prop}(hA:yP prog codes sigs f161 (eW 3) (λ r'=>yD.Le r' ((λ x:Int=>(⟨[i64 x],[(0,.box [.clo (.func 273) [] [.ptr 2 0]]),(1,.box [.d (.sl .int o)]),(2,.box [i64 w])],3⟩:yD)) r)) 3 A)(ix:Nat)(h:eP o w (List.drop ix l) ix=r):A (hd f161 0) (iJ o w l (ix:Int)):=by
 refine hA.go (sK o w l (ix:Int)) (ae (λ h1=>?_) (λ h1=>?_))
 ·have h1:=oT h1
  have hil:ix<l.length:=by omega
  rw[be hil Ty.int.dflt,eP]at h
  refine⟨⟨⟨(by omega),(by omega)⟩,tv⟩,_,KT _ _ _ (hb _ (me hil)),?_⟩
  refine aj h (λ g1 h=>?_) (λ g1 h=>?_)
  ·exact⟨tv,.of_eq (by rw[<-h];try rfl)⟩
  ·rw[aq (by omega)]
   exact kI o w l hl hb  hA (ix+1) h
 ·have h1:=oF h1
  rw[dN (by omega),eP]at h
  exact⟨tv,.of_eq (by rw[<-h];try rfl)⟩
termination_by l.length-ix
decreasing_by all_goals omega
def ej (o:List Int)(w:Int)(l:List Int):Int:=eP o w l 0
theorem yk (o:List Int)(w:Int)(l:List Int)(hl:l.length<=1000000)(hb:∀ x∈l,0<=x/\x<o.length):Gc prog 161 [.d (.sl .int l),.clo (.func 302) [] [.ptr 0 0,.ptr 1 0]] [(0,.box [.clo (.func 273) [] [.ptr 2 0]]),(1,.box [.d (.sl .int o)]),(2,.box [i64 w])] 3 ((λ x:Int=>(⟨[i64 x],[(0,.box [.clo (.func 273) [] [.ptr 2 0]]),(1,.box [.d (.sl .int o)]),(2,.box [i64 w])],3⟩:yD)) (ej o w l)):=
 Gc.of_closed (C:=codes) (S:=sigs) mixed func161 (by kernel_rfl) (λ i T t ys hi h=>⟨ys,h,rfl⟩) λ A hA=>hA.go (wU o w l) (by
  generalize h:ej o w l=r at hA ⊢
  unfold ej at h
  exact kI o w l hl hb  hA 0 h)
def oC (o:List Int)(x:Int):Bool:=bif decide (x<0)then true else decide (x>=(o.length:Int))
theorem c301 (o:List Int)(x:Int) :Gc prog 301 [i64 x,.ptr 0 0] [(0,.box [.d (.sl .int o)])] 1 ((λ x:Bool=>(⟨[ck x],[(0,.box [.d (.sl .int o)])],1⟩:yD)) (oC o x)):=
 Gc.of_closed (C:=codes) (S:=sigs) mixed func301 (by kernel_rfl) (λ i T t ys hi h=>⟨ys,h,rfl⟩) λ A hA=>hA.go (t301 o x) (by
  generalize h:oC o x=r at hA ⊢
  unfold oC at h
  refine aj h (λ g1 h=>?_) (λ g1 h=>?_)
  ·have g1:=oT g1
   exact⟨tv,.of_eq (by rw[<-h];try rfl)⟩
  ·have g1:=oF g1
   exact⟨tv,.of_eq (by rw[<-h];try rfl)⟩)
def xA (w:Int):Bool:=bif decide (w>=1)then decide (w<=8)else false
theorem Qp (w:Int) :yJ prog 299 [⟨.int,w⟩] [.bool] (xA w):=
 pcl codes sigs func299 (by kernel_rfl) λ A hA=>hA.go (t299 w) (by
  generalize h:xA w=r at hA ⊢
  unfold xA at h
  refine aj h (λ g1 h=>?_) (λ g1 h=>?_)
  ·have g1:=oT g1
   exact⟨q2,h⟩
  ·have g1:=oF g1
   exact⟨q2,h⟩)
def GS (x:Int):Bool:=bif (x != 0)then !(xA x)else false
theorem c311 (x:Int) :Gc prog 311 [i64 x] [] 0 ((λ x:Bool=>(⟨[ck x],[],0⟩:yD)) (GS x)):=
 Gc.of_closed (C:=codes) (S:=sigs) mixed func311 (by kernel_rfl) (λ i T t ys hi h=>⟨ys,h,rfl⟩) λ A hA=>hA.go (t311 x) (by
  generalize h:GS x=r at hA ⊢
  unfold GS at h
  refine aj h (λ g1 h=>?_) (λ g1 h=>?_)
  ·exact⟨⟨q2,tv⟩,_,Qp _,tv,.of_eq (by rw[<-h];try rfl)⟩
  ·exact⟨tv,.of_eq (by rw[<-h];try rfl)⟩)
def JG (x:Int):Bool:=decide (x>1)
theorem c222 (x:Int) :Gc prog 222 [i64 x] [] 0 ((λ x:Bool=>(⟨[ck x],[],0⟩:yD)) (JG x)):=
 Gc.of_closed (C:=codes) (S:=sigs) mixed func222 (by kernel_rfl) (λ i T t ys hi h=>⟨ys,h,rfl⟩) λ A hA=>hA.go (t222 x) (by
  generalize h:JG x=r at hA ⊢
  unfold JG at h
  exact⟨tv,.of_eq (by rw[<-h];try rfl)⟩)
def m93 (m:yE)(x:Int):Bool:=bif decide (x<0)then true else decide (x>m.zI.zO)
theorem c93 (m:yE)(x:Int) :Gc prog 93 [i64 x,.ptr 0 0] [(0,.box (jS m))] 1 ((λ x:Bool=>(⟨[ck x],[(0,.box (jS m))],1⟩:yD)) (m93 m x)):=
 Gc.of_closed (C:=codes) (S:=sigs) mixed func93 (by kernel_rfl) (λ i T t ys hi h=>⟨ys,h,rfl⟩) λ A hA=>hA.go (t93 m x) (by
  generalize h:m93 m x=r at hA ⊢
  unfold m93 at h
  refine aj h (λ g1 h=>?_) (λ g1 h=>?_)
  ·have g1:=oT g1
   exact⟨tv,.of_eq (by rw[<-h];try rfl)⟩
  ·have g1:=oF g1
   exact⟨tv,.of_eq (by rw[<-h];try rfl)⟩)
def ie :List Int->Nat->Int
 | [],ix=>(-1:Int)
 | z::zs,ix=>bif (GS (z))then(ix:Int)else ie zs (ix+1)
theorem nI (l:List Int)(hl:l.length<=1000000)  {r:Int}{A:List Item->AS->Prop}(hA:yP prog codes sigs f161 (eW 0) (λ r'=>yD.Le r' ((λ x:Int=>(⟨[i64 x],[],0⟩:yD)) r)) 0 A)(ix:Nat)(h:ie (List.drop ix l) ix=r):A (hd f161 0) (mR l (ix:Int)):=by
 refine hA.go (BL l (ix:Int)) (ae (λ h1=>?_) (λ h1=>?_))
 ·have h1:=oT h1
  have hil:ix<l.length:=by omega
  rw[be hil Ty.int.dflt,ie]at h
  refine⟨⟨⟨(by omega),(by omega)⟩,tv⟩,_,c311 _,?_⟩
  refine aj h (λ g1 h=>?_) (λ g1 h=>?_)
  ·exact⟨tv,.of_eq (by rw[<-h];try rfl)⟩
  ·rw[aq (by omega)]
   exact nI l hl  hA (ix+1) h
 ·have h1:=oF h1
  rw[dN (by omega),ie]at h
  exact⟨tv,.of_eq (by rw[<-h];try rfl)⟩
termination_by l.length-ix
decreasing_by all_goals omega
def pV (l:List Int):Int:=ie l 0
theorem Lc (l:List Int)(hl:l.length<=1000000):Gc prog 161 [.d (.sl .int l),.clo (.func 311) [] []] [] 0 ((λ x:Int=>(⟨[i64 x],[],0⟩:yD)) (pV l)):=
 Gc.of_closed (C:=codes) (S:=sigs) mixed func161 (by kernel_rfl) (λ i T t ys hi h=>⟨ys,h,rfl⟩) λ A hA=>hA.go (In l) (by
  generalize h:pV l=r at hA ⊢
  unfold pV at h
  exact nI l hl  hA 0 h)
def im (m:yE):List Int->Nat->Int
 | [],ix=>(-1:Int)
 | z::zs,ix=>bif (m93 m (z))then(ix:Int)else im m zs (ix+1)
theorem oN (m:yE)(l:List Int)(hl:l.length<=1000000)  {r:Int}{A:List Item->AS->Prop}(hA:yP prog codes sigs f161 (eW 1) (λ r'=>yD.Le r' ((λ x:Int=>(⟨[i64 x],[(0,.box (jS m))],1⟩:yD)) r)) 1 A)(ix:Nat)(h:im m (List.drop ix l) ix=r):A (hd f161 0) (oz m l (ix:Int)):=by
 refine hA.go (FQ m l (ix:Int)) (ae (λ h1=>?_) (λ h1=>?_))
 ·have h1:=oT h1
  have hil:ix<l.length:=by omega
  rw[be hil Ty.int.dflt,im]at h
  refine⟨⟨⟨(by omega),(by omega)⟩,tv⟩,_,c93 _ _,?_⟩
  refine aj h (λ g1 h=>?_) (λ g1 h=>?_)
  ·exact⟨tv,.of_eq (by rw[<-h];try rfl)⟩
  ·rw[aq (by omega)]
   exact oN m l hl  hA (ix+1) h
 ·have h1:=oF h1
  rw[dN (by omega),im]at h
  exact⟨tv,.of_eq (by rw[<-h];try rfl)⟩
termination_by l.length-ix
decreasing_by all_goals omega
def so (m:yE)(l:List Int):Int:=im m l 0
theorem NB (m:yE)(l:List Int)(hl:l.length<=1000000):Gc prog 161 [.d (.sl .int l),.clo (.func 93) [] [.ptr 0 0]] [(0,.box (jS m))] 1 ((λ x:Int=>(⟨[i64 x],[(0,.box (jS m))],1⟩:yD)) (so m l)):=
 Gc.of_closed (C:=codes) (S:=sigs) mixed func161 (by kernel_rfl) (λ i T t ys hi h=>⟨ys,h,rfl⟩) λ A hA=>hA.go (Me m l) (by
  generalize h:so m l=r at hA ⊢
  unfold so at h
  exact oN m l hl  hA 0 h)
def ii :List Int->Nat->Int
 | [],ix=>(-1:Int)
 | z::zs,ix=>bif (JG (z))then(ix:Int)else ii zs (ix+1)
theorem nM (l:List Int)(hl:l.length<=1000000)  {r:Int}{A:List Item->AS->Prop}(hA:yP prog codes sigs f161 (eW 0) (λ r'=>yD.Le r' ((λ x:Int=>(⟨[i64 x],[],0⟩:yD)) r)) 0 A)(ix:Nat)(h:ii (List.drop ix l) ix=r):A (hd f161 0) (mT l (ix:Int)):=by
 refine hA.go (BN l (ix:Int)) (ae (λ h1=>?_) (λ h1=>?_))
 ·have h1:=oT h1
  have hil:ix<l.length:=by omega
  rw[be hil Ty.int.dflt,ii]at h
  refine⟨⟨⟨(by omega),(by omega)⟩,tv⟩,_,c222 _,?_⟩
  refine aj h (λ g1 h=>?_) (λ g1 h=>?_)
  ·exact⟨tv,.of_eq (by rw[<-h];try rfl)⟩
  ·rw[aq (by omega)]
   exact nM l hl  hA (ix+1) h
 ·have h1:=oF h1
  rw[dN (by omega),ii]at h
  exact⟨tv,.of_eq (by rw[<-h];try rfl)⟩
termination_by l.length-ix
decreasing_by all_goals omega
def pW (l:List Int):Int:=ii l 0
theorem Ld (l:List Int)(hl:l.length<=1000000):Gc prog 161 [.d (.sl .int l),.clo (.func 222) [] []] [] 0 ((λ x:Int=>(⟨[i64 x],[],0⟩:yD)) (pW l)):=
 Gc.of_closed (C:=codes) (S:=sigs) mixed func161 (by kernel_rfl) (λ i T t ys hi h=>⟨ys,h,rfl⟩) λ A hA=>hA.go (Ip l) (by
  generalize h:pW l=r at hA ⊢
  unfold pW at h
  exact nM l hl  hA 0 h)
def ig (o:List Int):List Int->Nat->Int
 | [],ix=>(-1:Int)
 | z::zs,ix=>bif (oC o (z))then(ix:Int)else ig o zs (ix+1)
theorem nL (o l:List Int)(hl:l.length<=1000000)  {r:Int}{A:List Item->AS->Prop}(hA:yP prog codes sigs f161 (eW 1) (λ r'=>yD.Le r' ((λ x:Int=>(⟨[i64 x],[(0,.box [.d (.sl .int o)])],1⟩:yD)) r)) 1 A)(ix:Nat)(h:ig o (List.drop ix l) ix=r):A (hd f161 0) (mS o l (ix:Int)):=by
 refine hA.go (BM o l (ix:Int)) (ae (λ h1=>?_) (λ h1=>?_))
 ·have h1:=oT h1
  have hil:ix<l.length:=by omega
  rw[be hil Ty.int.dflt,ig]at h
  refine⟨⟨⟨(by omega),(by omega)⟩,tv⟩,_,c301 _ _,?_⟩
  refine aj h (λ g1 h=>?_) (λ g1 h=>?_)
  ·exact⟨tv,.of_eq (by rw[<-h];try rfl)⟩
  ·rw[aq (by omega)]
   exact nL o l hl  hA (ix+1) h
 ·have h1:=oF h1
  rw[dN (by omega),ig]at h
  exact⟨tv,.of_eq (by rw[<-h];try rfl)⟩
termination_by l.length-ix
decreasing_by all_goals omega
def eF (o l:List Int):Int:=ig o l 0
theorem Bo (o l:List Int)(hl:l.length<=1000000):Gc prog 161 [.d (.sl .int l),.clo (.func 301) [] [.ptr 0 0]] [(0,.box [.d (.sl .int o)])] 1 ((λ x:Int=>(⟨[i64 x],[(0,.box [.d (.sl .int o)])],1⟩:yD)) (eF o l)):=
 Gc.of_closed (C:=codes) (S:=sigs) mixed func161 (by kernel_rfl) (λ i T t ys hi h=>⟨ys,h,rfl⟩) λ A hA=>hA.go (Io o l) (by
  generalize h:eF o l=r at hA ⊢
  unfold eF at h
  exact nL o l hl  hA 0 h)
def sn (l:List Int):Bool:=decide ((pV l)>=0)
theorem Nw (l:List Int)(hl:l.length<=1000000):Gc prog 92 [.d (.sl .int l),.clo (.func 311) [] []] [] 0 ((λ x:Bool=>(⟨[ck x],[],0⟩:yD)) (sn l)):=
 Gc.of_closed (C:=codes) (S:=sigs) mixed func92 (by kernel_rfl) (λ i T t ys hi h=>⟨ys,h,rfl⟩) λ A hA=>hA.go (LY l) (by
  generalize h:sn l=r at hA ⊢
  unfold sn at h
  exact⟨_,Lc _ (by omega),tv,.of_eq (by rw[<-h];try rfl)⟩)
def qE (m:yE)(l:List Int):Bool:=decide ((so m l)>=0)
theorem Qn (m:yE)(l:List Int)(hl:l.length<=1000000):Gc prog 92 [.d (.sl .int l),.clo (.func 93) [] [.ptr 0 0]] [(0,.box (jS m))] 1 ((λ x:Bool=>(⟨[ck x],[(0,.box (jS m))],1⟩:yD)) (qE m l)):=
 Gc.of_closed (C:=codes) (S:=sigs) mixed func92 (by kernel_rfl) (λ i T t ys hi h=>⟨ys,h,rfl⟩) λ A hA=>hA.go (OF m l) (by
  generalize h:qE m l=r at hA ⊢
  unfold qE at h
  exact⟨_,NB _ _ (by omega),tv,.of_eq (by rw[<-h];try rfl)⟩)
def pO (l:List Int):Bool:=decide ((pW l)>=0)
theorem Nx (l:List Int)(hl:l.length<=1000000):Gc prog 92 [.d (.sl .int l),.clo (.func 222) [] []] [] 0 ((λ x:Bool=>(⟨[ck x],[],0⟩:yD)) (pO l)):=
 Gc.of_closed (C:=codes) (S:=sigs) mixed func92 (by kernel_rfl) (λ i T t ys hi h=>⟨ys,h,rfl⟩) λ A hA=>hA.go (LZ l) (by
  generalize h:pO l=r at hA ⊢
  unfold pO at h
  exact⟨_,Ld _ (by omega),tv,.of_eq (by rw[<-h];try rfl)⟩)
def GR (c:Cell):Int:=bif (!(dm c))then 0 else w64 (c.cap-c.zS)
theorem c326 (c:Cell) :yJ prog 326 [⟨.cell,c⟩] [.int] (GR c):=
 pcl codes sigs func326 (by kernel_rfl) λ A hA=>hA.go (t326 c) (by
  generalize h:GR c=r at hA ⊢
  unfold GR at h
  refine⟨⟨q4,tv⟩,_,Mn.Lb _,?_⟩
  refine aj h (λ g1 h=>?_) (λ g1 h=>?_)
  ·exact⟨q2,h⟩
  ·exact⟨q2,h⟩)
def Cn (c:Cell)(n:Int):Cell×Int:=bif (!(dm c))then(Cell.mk 0 0 0,100)else bif (n==0)then(Cell.mk 0 0 0,1)else bif (c.ver==2147483647)then(Cell.mk 0 0 0,101)else bif decide (n<w64 (0-c.zS))then(Cell.mk 0 0 0,102)else bif decide (n>(GR c))then(Cell.mk 0 0 0,103)else(Cell.mk c.cap (w64 (c.zS+n)) (w64 (c.ver+1)),0)
theorem SU (c:Cell)(n:Int) :yJ prog 315 [⟨.cell,c⟩,⟨.int,n⟩] [.cell,.int] (Cn c n):=
 pcl codes sigs func315 (by kernel_rfl) λ A hA=>hA.go (t315 c n) (by
  generalize h:Cn c n=r at hA ⊢
  unfold Cn at h
  refine⟨⟨q4,tv⟩,_,Mn.Lb _,?_⟩
  refine aj h (λ g1 h=>?_) (λ g1 h=>?_)
  ·exact⟨⟨q4,tv,tv⟩,h⟩
  ·refine aj h (λ g2 h=>?_) (λ g2 h=>?_)
   ·exact⟨⟨q4,tv,tv⟩,h⟩
   ·refine aj h (λ g3 h=>?_) (λ g3 h=>?_)
    ·exact⟨⟨q4,tv,tv⟩,h⟩
    ·refine aj h (λ g4 h=>?_) (λ g4 h=>?_)
     ·have g4:=oT g4
      exact⟨⟨q4,tv,tv⟩,h⟩
     ·have g4:=oF g4
      refine⟨⟨q4,tv⟩,_,c326 _,?_⟩
      refine aj h (λ g5 h=>?_) (λ g5 h=>?_)
      ·have g5:=oT g5
       exact⟨⟨q4,tv,tv⟩,h⟩
      ·have g5:=oF g5
       exact⟨⟨q4,tv,tv⟩,h⟩)
def xy (c:Cell)(n s:Int):Cell×Int:=bif (dm c)then bif decide (n<1)then(Cell.mk 0 0 0,1)else let y1:=Cn c (w64 (s*n));(y1.1,y1.2)else let y2:=Cn c (w64 (s*n));(y2.1,y2.2)
theorem SV (c:Cell)(n s:Int) :yJ prog 306 [⟨.cell,c⟩,⟨.int,n⟩,⟨.int,s⟩] [.cell,.int] (xy c n s):=
 pcl codes sigs func306 (by kernel_rfl) λ A hA=>hA.go (t306 c n s) (by
  generalize h:xy c n s=r at hA ⊢
  unfold xy at h
  refine⟨⟨q4,tv⟩,_,Mn.Lb _,?_⟩
  refine aj h (λ g1 h=>?_) (λ g1 h=>?_)
  ·refine aj h (λ g2 h=>?_) (λ g2 h=>?_)
   ·have g2:=oT g2
    exact⟨⟨q4,tv,tv⟩,h⟩
   ·have g2:=oF g2
    exact⟨⟨q4,q2,tv⟩,_,SU _ _,⟨q4,tv,tv⟩,h⟩
  ·exact⟨⟨q4,q2,tv⟩,_,SU _ _,⟨q4,tv,tv⟩,h⟩)
def uU (c:Cell)(n:Int):Cell×Int:=let y1:=xy c n 1;(y1.1,y1.2)
theorem Ta (c:Cell)(n:Int) :yJ prog 282 [⟨.cell,c⟩,⟨.int,n⟩] [.cell,.int] (uU c n):=
 pcl codes sigs func282 (by kernel_rfl) λ A hA=>hA.go (t282 c n) (by
  generalize h:uU c n=r at hA ⊢
  unfold uU at h
  exact⟨⟨q4,q2,q2,tv⟩,_,SV _ _ _,⟨q4,tv,tv⟩,h⟩)
def uT (c:Cell)(n:Int):Cell×Int:=let y1:=xy c n (-1:Int);(y1.1,y1.2)
theorem SZ (c:Cell)(n:Int) :yJ prog 284 [⟨.cell,c⟩,⟨.int,n⟩] [.cell,.int] (uT c n):=
 pcl codes sigs func284 (by kernel_rfl) λ A hA=>hA.go (t284 c n) (by
  generalize h:uT c n=r at hA ⊢
  unfold uT at h
  exact⟨⟨q4,q2,q2,tv⟩,_,SV _ _ _,⟨q4,tv,tv⟩,h⟩)
def uV (a b:Cell)(n:Int):Cell×Cell×Int:=bif ((uT a n).2 != 0)then(Cell.mk 0 0 0,Cell.mk 0 0 0,(uT a n).2)else bif ((uU b n).2 != 0)then(Cell.mk 0 0 0,Cell.mk 0 0 0,(uU b n).2)else((uT a n).1,(uU b n).1,0)
theorem c279 (a b:Cell)(n:Int) :yJ prog 279 [⟨.cell,a⟩,⟨.cell,b⟩,⟨.int,n⟩] [.cell,.cell,.int] (uV a b n):=
 pcl codes sigs func279 (by kernel_rfl) λ A hA=>hA.go (t279 a b n) (by
  generalize h:uV a b n=r at hA ⊢
  unfold uV at h
  refine⟨⟨q4,q2,tv⟩,_,SZ _ _,?_⟩
  refine aj h (λ g1 h=>?_) (λ g1 h=>?_)
  ·exact⟨⟨q4,q4,tv,tv⟩,h⟩
  ·refine⟨⟨q4,q2,tv⟩,_,Ta _ _,?_⟩
   refine aj h (λ g2 h=>?_) (λ g2 h=>?_)
   ·exact⟨⟨q4,q4,tv,tv⟩,h⟩
   ·exact⟨⟨q4,q4,tv,tv⟩,h⟩)
def MV (c:Cell)(n:Int):Cell×Int:=bif (c.ver==2147483647)then(Cell.mk 0 0 0,101)else bif decide (n<w64 (0-c.zS))then(Cell.mk 0 0 0,102)else bif decide (n>w64 (c.cap-c.zS))then(Cell.mk 0 0 0,103)else(Cell.mk c.cap (w64 (c.zS+n)) (w64 (c.ver+1)),0)
def pf (c:Cell)(n:Int):Cell×Int:=bif (!(dm c))then(Cell.mk 0 0 0,100)else bif (n==0)then(Cell.mk 0 0 0,1)else((MV c n).1,(MV c n).2)
def ph (c:Cell)(n:Int):Cell×Int:=bif (dm c)then bif decide (n<1)then(Cell.mk 0 0 0,1)else((pf c n).1,(pf c n).2)else((pf c n).1,(pf c n).2)
def nF (c:Cell)(n:Int):Cell×Int:=bif (dm c)then bif decide (n<1)then(Cell.mk 0 0 0,1)else bif decide (n<1)then(Cell.mk 0 0 0,100)else let y1:=pf c (w64 (0-n));(y1.1,y1.2)else bif decide (n<1)then(Cell.mk 0 0 0,100)else let y2:=pf c (w64 (0-n));(y2.1,y2.2)
def Cs (a b:Cell)(n:Int):Cell×Cell×Int:=bif ((nF a n).2 != 0)then(Cell.mk 0 0 0,Cell.mk 0 0 0,(nF a n).2)else bif ((ph b n).2 != 0)then(Cell.mk 0 0 0,Cell.mk 0 0 0,(ph b n).2)else((nF a n).1,(ph b n).1,0)
def JC (w e:Int):Int:=bif (w==1)then 120 else bif (w==2)then 1 else bif (w==3)then e else 0
theorem c313 (w e:Int) :yJ prog 313 [⟨.int,w⟩,⟨.int,e⟩] [.int] (JC w e):=
 pcl codes sigs func313 (by kernel_rfl) λ A hA=>hA.go (t313 w e) (by
  generalize h:JC w e=r at hA ⊢
  unfold JC at h
  refine aj h (λ g1 h=>?_) (λ g1 h=>?_)
  ·exact⟨q2,h⟩
  ·refine aj h (λ g2 h=>?_) (λ g2 h=>?_)
   ·exact⟨q2,h⟩
   ·refine aj h (λ g3 h=>?_) (λ g3 h=>?_)
    ·exact⟨q2,h⟩
    ·exact⟨q2,h⟩)
def Co (t:Tip)(b:Int)(w:Tip):Int:=bif (!(gl t))then 1 else bif (!(pp b))then 2 else bif (!(t.state==w.state&&(t.by'==w.by'&&true)))then 3 else 0
theorem c314 (t:Tip)(b:Int)(w:Tip) :yJ prog 314 [⟨.zV,t⟩,⟨.int,b⟩,⟨.zV,w⟩] [.int] (Co t b w):=
 pcl codes sigs func314 (by kernel_rfl) λ A hA=>hA.go (t314 t b w) (by
  generalize h:Co t b w=r at hA ⊢
  unfold Co at h
  refine⟨⟨q3,tv⟩,_,Mn.Qs _,?_⟩
  refine aj h (λ g1 h=>?_) (λ g1 h=>?_)
  ·exact⟨q2,h⟩
  ·refine⟨⟨q2,tv⟩,_,Mn.Tc _,?_⟩
   refine aj h (λ g2 h=>?_) (λ g2 h=>?_)
   ·exact⟨q2,h⟩
   ·refine aj h (λ g3 h=>?_) (λ g3 h=>?_)
    ·exact⟨q2,h⟩
    ·exact⟨q2,h⟩)
def xz (t:Tip)(b:Int)(f w:Tip)(e:Int):Tip×Int:=bif ((JC (Co t b f) e) != 0)then(Tip.mk 0 0,(JC (Co t b f) e))else(w,0)
theorem SW (t:Tip)(b:Int)(f w:Tip)(e:Int) :yJ prog 304 [⟨.zV,t⟩,⟨.int,b⟩,⟨.zV,f⟩,⟨.zV,w⟩,⟨.int,e⟩] [.zV,.int] (xz t b f w e):=
 pcl codes sigs func304 (by kernel_rfl) λ A hA=>hA.go (t304 t b f w e) (by
  generalize h:xz t b f w e=r at hA ⊢
  unfold xz at h
  refine⟨⟨q3,q2,q3,tv⟩,_,c314 _ _ _,⟨q2,q2,tv⟩,_,c313 _ _,?_⟩
  refine aj h (λ g1 h=>?_) (λ g1 h=>?_)
  ·exact⟨⟨q3,tv,tv⟩,h⟩
  ·exact⟨⟨q3,tv,tv⟩,h⟩)
def GY (t:Tip)(b:Int):Tip×Int:=let y1:=xz t b (Tip.mk 1 0) (Tip.mk 2 b) 121;(y1.1,y1.2)
theorem c276 (t:Tip)(b:Int) :yJ prog 276 [⟨.zV,t⟩,⟨.int,b⟩] [.zV,.int] (GY t b):=
 pcl codes sigs func276 (by kernel_rfl) λ A hA=>hA.go (t276 t b) (by
  generalize h:GY t b=r at hA ⊢
  unfold GY at h
  exact⟨⟨q3,q2,q3,q3,q2,tv⟩,_,SW _ _ _ _ _,⟨q3,tv,tv⟩,h⟩)
def GX (t:Tip)(b:Int):Tip×Int:=let y1:=xz t b (Tip.mk 2 b) (Tip.mk 3 0) 122;(y1.1,y1.2)
theorem c277 (t:Tip)(b:Int) :yJ prog 277 [⟨.zV,t⟩,⟨.int,b⟩] [.zV,.int] (GX t b):=
 pcl codes sigs func277 (by kernel_rfl) λ A hA=>hA.go (t277 t b) (by
  generalize h:GX t b=r at hA ⊢
  unfold GX at h
  exact⟨⟨q3,q2,q3,q3,q2,tv⟩,_,SW _ _ _ _ _,⟨q3,tv,tv⟩,h⟩)
def GZ (t:Tip)(b:Int):Tip×Int:=bif (!(gl t))then(Tip.mk 0 0,120)else bif (!(pp b))then(Tip.mk 0 0,1)else bif (t.state != 1)then(Tip.mk 0 0,121)else(Tip.mk 2 b,0)
def GV (o:List Int):Bool := !(sn o)
theorem SY (o:List Int)(hl:o.length<=1000000):yJ prog 298 [⟨.sl .int,o⟩] [.bool] (GV o):=
 pcl codes sigs func298 (by kernel_rfl) λ A hA=>hA.go (t298 o) (by
  generalize h:GV o=r at hA ⊢
  unfold GV at h
  exact⟨_,Nw _ (by omega),q2,h⟩)
def pe (l:List Int):List Int->Nat->Bool
 | [],ix=>true
 | z::zs,ix=>bif decide (z<=l.getD (w64 ((ix:Int)-1)).toNat Ty.int.dflt)then false else pe l zs (ix+1)
theorem tJ (l:List Int)(hl:l.length<=1000000)  {r:Bool}{A:Pr}(hA:CL codes sigs f300 [.bool] r A)(ix:Nat)(hv:1<=ix)(h:pe l (List.drop ix l) ix=r):A (hd f300 0) (yv l (ix:Int)):=by
 refine hA.go (OU l (ix:Int)) (ae (λ h1=>?_) (λ h1=>?_))
 ·have h1:=oT h1
  have hil:ix<l.length:=by omega
  rw[be hil Ty.int.dflt,pe]at h
  refine⟨⟨⟨(by omega),(by omega)⟩,tv⟩,⟨⟨(by first|omega|(rw[an (by omega) (by omega)];omega)),(by first|omega|(rw[an (by omega) (by omega)];omega))⟩,tv⟩,?_⟩
  refine aj h (λ g1 h=>?_) (λ g1 h=>?_)
  ·have g1:=oT g1
   exact⟨q2,h⟩
  ·have g1:=oF g1
   rw[aq (by omega)]
   exact tJ l hl  hA (ix+1) (by omega) h
 ·have h1:=oF h1
  rw[dN (by omega),pe]at h
  exact⟨q2,h⟩
termination_by l.length-ix
decreasing_by all_goals omega
def GU (l:List Int):Bool:=pe l (List.drop 1 l) 1
theorem SX (l:List Int)(hl:l.length<=1000000):yJ prog 300 [⟨.sl .int,l⟩] [.bool] (GU l):=
 pcl codes sigs func300 (by kernel_rfl) λ A hA=>hA.go (t300 l) (by
  generalize h:GU l=r at hA ⊢
  unfold GU at h
  exact tJ l hl  hA 1 (by decide) h)
def qL :List Int->Nat->Bool
 | [],ix=>true
 | z::zs,ix=>bif decide (z<0)then false else bif decide (z>8)then false else qL zs (ix+1)
def xB (o:List Int):Bool:=qL o 0
def qK (l:List Int):List Int->Nat->Bool
 | [],ix=>true
 | z::zs,ix=>bif decide (l.getD (w64 ((ix:Int)-1)).toNat Ty.int.dflt>=z)then false else qK l zs (ix+1)
def Ct (l:List Int):Bool:=qK l (List.drop 1 l) 1
def mB (s:yC)(i:Int):Bool:=bif decide (i>=0)then decide (i<(s.cells.length:Int))else false
def m98 (e i:Int):yH:=yH.mk e i 0 0 []
theorem c98 (e i:Int) :yJ prog 98 [⟨.int,e⟩,⟨.int,i⟩] [.zM] (m98 e i):=
 pcl codes sigs func98 (by kernel_rfl) λ A hA=>hA.go (t98 e i) (by
  generalize h:m98 e i=r at hA ⊢
  unfold m98 at h
  exact⟨q6,h⟩)
theorem Pm (xs:List Int):@Eq (Out yD) (bh prog codes sigs f147 (eW 0) 0 ⟨[],true⟩ 100 false (cB f147) (gU f147 [.d (.sl .int xs)] [] 0)) (.ask (λ(b:Bool)=>b=true->xs.length=0) λ(b:Bool)=>bif b then .stop (rt f147 0) (mkS 8 [(2,nS)] [] 0)else .zF True (.zF ((0+xs.length)*9<=35184372088832/\True) (.stop (rt f147 1) (mkS 8 [(2,.own 0 .int)] [(0,.row 3 .int ([]++xs))] 1)))):=by kernel_rfl
theorem Pl (xs:List Int):@Eq (Out yD) (bh prog codes sigs f147 (eW 0) 0 fP 100 true (rt f147 0) (mkS 8 [(2,.own 0 .int)] [(0,.row 3 .int xs)] 1)) (.zF True (.ret ⟨[.own 0 .int],[(0,.row 3 .int xs)],1⟩)):=by kernel_rfl
theorem Pk (xs:List Int):@Eq (Out yD) (bh prog codes sigs f147 (eW 0) 0 fP 100 true (rt f147 1) (mkS 8 [(2,.own 0 .int)] [(0,.row 3 .int xs)] 1)) (.zF True (.ret ⟨[.own 0 .int],[(0,.row 3 .int xs)],1⟩)):=by kernel_rfl
theorem ym {xs:List Int}(hl:xs.length<=1000000):Gc prog 147 [.d (.sl .int xs)] [] 0 ⟨[.own 0 .int],[(0,.row 3 .int xs)],1⟩:=
 Gc.of_closed (C:=codes) (S:=sigs) mixed func147 (by kernel_rfl) (λ i T t ys hi _=>absurd hi (bL _)) λ A hA=>
  hA.go (Pm xs) λ b hb=>ae (λ h=>by
   have hx:xs=[]:=ay (hb h)
   subst hx
   exact hA.row 2 3 .int (by kernel_rfl) (s':=mkS 8 [(2,.own 0 .int)] [(0,.row 3 .int [])] 1) (by kernel_rfl) (hA.go (Pl []) ⟨tv,.of_eq rfl⟩))
   (λ _=>⟨tv,⟨by omega,tv⟩,hA.go (Pk xs) ⟨tv,.of_eq rfl⟩⟩)
theorem Pj (xs:List Cell):@Eq (Out yD) (bh prog codes sigs f148 (eW 0) 0 ⟨[],true⟩ 100 false (cB f148) (gU f148 [.d (.sl .cell xs)] [] 0)) (.ask (λ(b:Bool)=>b=true->xs.length=0) λ(b:Bool)=>bif b then .stop (rt f148 0) (mkS 8 [(2,nS)] [] 0)else .zF True (.zF ((0+xs.length)*25<=35184372088832/\True) (.stop (rt f148 1) (mkS 8 [(2,.own 0 .cell)] [(0,.row 76 .cell ([]++xs))] 1)))):=by kernel_rfl
theorem Ph (xs:List Cell):@Eq (Out yD) (bh prog codes sigs f148 (eW 0) 0 fP 100 true (rt f148 0) (mkS 8 [(2,.own 0 .cell)] [(0,.row 76 .cell xs)] 1)) (.zF True (.ret ⟨[.own 0 .cell],[(0,.row 76 .cell xs)],1⟩)):=by kernel_rfl
theorem Pg (xs:List Cell):@Eq (Out yD) (bh prog codes sigs f148 (eW 0) 0 fP 100 true (rt f148 1) (mkS 8 [(2,.own 0 .cell)] [(0,.row 76 .cell xs)] 1)) (.zF True (.ret ⟨[.own 0 .cell],[(0,.row 76 .cell xs)],1⟩)):=by kernel_rfl
theorem Lg {xs:List Cell}(hl:xs.length<=1000000):Gc prog 148 [.d (.sl .cell xs)] [] 0 ⟨[.own 0 .cell],[(0,.row 76 .cell xs)],1⟩:=
 Gc.of_closed (C:=codes) (S:=sigs) mixed func148 (by kernel_rfl) (λ i T t ys hi _=>absurd hi (bL _)) λ A hA=>
  hA.go (Pj xs) λ b hb=>ae (λ h=>by
   have hx:xs=[]:=ay (hb h)
   subst hx
   exact hA.row 2 76 .cell (by kernel_rfl) (s':=mkS 8 [(2,.own 0 .cell)] [(0,.row 76 .cell [])] 1) (by kernel_rfl) (hA.go (Ph []) ⟨tv,.of_eq rfl⟩))
   (λ _=>⟨tv,⟨by omega,tv⟩,hA.go (Pg xs) ⟨tv,.of_eq rfl⟩⟩)
theorem t149 (xs:List Log):@Eq (Out yD) (bh prog codes sigs f149 (eW 0) 0 ⟨[],true⟩ 100 false (cB f149) (gU f149 [.d (.sl .zW xs)] [] 0)) (.ask (λ(b:Bool)=>b=true->xs.length=0) λ(b:Bool)=>bif b then .stop (rt f149 0) (mkS 8 [(2,nS)] [] 0)else .zF True (.zF ((0+xs.length)*41<=35184372088832/\True) (.stop (rt f149 1) (mkS 8 [(2,.own 0 .zW)] [(0,.row 146 .zW ([]++xs))] 1)))):=by kernel_rfl
theorem Pf (xs:List Log):@Eq (Out yD) (bh prog codes sigs f149 (eW 0) 0 fP 100 true (rt f149 0) (mkS 8 [(2,.own 0 .zW)] [(0,.row 146 .zW xs)] 1)) (.zF True (.ret ⟨[.own 0 .zW],[(0,.row 146 .zW xs)],1⟩)):=by kernel_rfl
theorem Pe (xs:List Log):@Eq (Out yD) (bh prog codes sigs f149 (eW 0) 0 fP 100 true (rt f149 1) (mkS 8 [(2,.own 0 .zW)] [(0,.row 146 .zW xs)] 1)) (.zF True (.ret ⟨[.own 0 .zW],[(0,.row 146 .zW xs)],1⟩)):=by kernel_rfl
theorem To {xs:List Log}(hl:xs.length<=1000000):Gc prog 149 [.d (.sl .zW xs)] [] 0 ⟨[.own 0 .zW],[(0,.row 146 .zW xs)],1⟩:=
 Gc.of_closed (C:=codes) (S:=sigs) mixed func149 (by kernel_rfl) (λ i T t ys hi _=>absurd hi (bL _)) λ A hA=>
  hA.go (t149 xs) λ b hb=>ae (λ h=>by
   have hx:xs=[]:=ay (hb h)
   subst hx
   exact hA.row 2 146 .zW (by kernel_rfl) (s':=mkS 8 [(2,.own 0 .zW)] [(0,.row 146 .zW [])] 1) (by kernel_rfl) (hA.go (Pf []) ⟨tv,.of_eq rfl⟩))
   (λ _=>⟨tv,⟨by omega,tv⟩,hA.go (Pe xs) ⟨tv,.of_eq rfl⟩⟩)
theorem t150 (xs:List yM):@Eq (Out yD) (bh prog codes sigs f150 (eW 0) 0 ⟨[],true⟩ 100 false (cB f150) (gU f150 [.d (.sl .change xs)] [] 0)) (.ask (λ(b:Bool)=>b=true->xs.length=0) λ(b:Bool)=>bif b then .stop (rt f150 0) (mkS 8 [(2,nS)] [] 0)else .zF True (.zF ((0+xs.length)*25<=35184372088832/\True) (.stop (rt f150 1) (mkS 8 [(2,.own 0 .change)] [(0,.row 148 .change ([]++xs))] 1)))):=by kernel_rfl
theorem Pd (xs:List yM):@Eq (Out yD) (bh prog codes sigs f150 (eW 0) 0 fP 100 true (rt f150 0) (mkS 8 [(2,.own 0 .change)] [(0,.row 148 .change xs)] 1)) (.zF True (.ret ⟨[.own 0 .change],[(0,.row 148 .change xs)],1⟩)):=by kernel_rfl
theorem Pc (xs:List yM):@Eq (Out yD) (bh prog codes sigs f150 (eW 0) 0 fP 100 true (rt f150 1) (mkS 8 [(2,.own 0 .change)] [(0,.row 148 .change xs)] 1)) (.zF True (.ret ⟨[.own 0 .change],[(0,.row 148 .change xs)],1⟩)):=by kernel_rfl
theorem Tn {xs:List yM}(hl:xs.length<=1000000):Gc prog 150 [.d (.sl .change xs)] [] 0 ⟨[.own 0 .change],[(0,.row 148 .change xs)],1⟩:=
 Gc.of_closed (C:=codes) (S:=sigs) mixed func150 (by kernel_rfl) (λ i T t ys hi _=>absurd hi (bL _)) λ A hA=>
  hA.go (t150 xs) λ b hb=>ae (λ h=>by
   have hx:xs=[]:=ay (hb h)
   subst hx
   exact hA.row 2 148 .change (by kernel_rfl) (s':=mkS 8 [(2,.own 0 .change)] [(0,.row 148 .change [])] 1) (by kernel_rfl) (hA.go (Pd []) ⟨tv,.of_eq rfl⟩))
   (λ _=>⟨tv,⟨by omega,tv⟩,hA.go (Pc xs) ⟨tv,.of_eq rfl⟩⟩)
theorem t151 (xs:List Tip):@Eq (Out yD) (bh prog codes sigs f151 (eW 0) 0 ⟨[],true⟩ 100 false (cB f151) (gU f151 [.d (.sl .zV xs)] [] 0)) (.ask (λ(b:Bool)=>b=true->xs.length=0) λ(b:Bool)=>bif b then .stop (rt f151 0) (mkS 8 [(2,nS)] [] 0)else .zF True (.zF ((0+xs.length)*17<=35184372088832/\True) (.stop (rt f151 1) (mkS 8 [(2,.own 0 .zV)] [(0,.row 194 .zV ([]++xs))] 1)))):=by kernel_rfl
theorem Pb (xs:List Tip):@Eq (Out yD) (bh prog codes sigs f151 (eW 0) 0 fP 100 true (rt f151 0) (mkS 8 [(2,.own 0 .zV)] [(0,.row 194 .zV xs)] 1)) (.zF True (.ret ⟨[.own 0 .zV],[(0,.row 194 .zV xs)],1⟩)):=by kernel_rfl
theorem Pa (xs:List Tip):@Eq (Out yD) (bh prog codes sigs f151 (eW 0) 0 fP 100 true (rt f151 1) (mkS 8 [(2,.own 0 .zV)] [(0,.row 194 .zV xs)] 1)) (.zF True (.ret ⟨[.own 0 .zV],[(0,.row 194 .zV xs)],1⟩)):=by kernel_rfl
theorem Tm {xs:List Tip}(hl:xs.length<=1000000):Gc prog 151 [.d (.sl .zV xs)] [] 0 ⟨[.own 0 .zV],[(0,.row 194 .zV xs)],1⟩:=
 Gc.of_closed (C:=codes) (S:=sigs) mixed func151 (by kernel_rfl) (λ i T t ys hi _=>absurd hi (bL _)) λ A hA=>
  hA.go (t151 xs) λ b hb=>ae (λ h=>by
   have hx:xs=[]:=ay (hb h)
   subst hx
   exact hA.row 2 194 .zV (by kernel_rfl) (s':=mkS 8 [(2,.own 0 .zV)] [(0,.row 194 .zV [])] 1) (by kernel_rfl) (hA.go (Pb []) ⟨tv,.of_eq rfl⟩))
   (λ _=>⟨tv,⟨by omega,tv⟩,hA.go (Pa xs) ⟨tv,.of_eq rfl⟩⟩)
theorem Pw (xs:List Fl):@Eq (Out yD) (bh prog codes sigs f144 (eW 0) 0 ⟨[],true⟩ 100 false (cB f144) (gU f144 [.d (.sl .zQ xs)] [] 0)) (.ask (λ(b:Bool)=>b=true->xs.length=0) λ(b:Bool)=>bif b then .stop (rt f144 0) (mkS 8 [(2,nS)] [] 0)else .zF True (.zF ((0+xs.length)*9<=35184372088832/\True) (.stop (rt f144 1) (mkS 8 [(2,.own 0 .zQ)] [(0,.row 92 .zQ ([]++xs))] 1)))):=by kernel_rfl
theorem Pv (xs:List Fl):@Eq (Out yD) (bh prog codes sigs f144 (eW 0) 0 fP 100 true (rt f144 0) (mkS 8 [(2,.own 0 .zQ)] [(0,.row 92 .zQ xs)] 1)) (.zF True (.ret ⟨[.own 0 .zQ],[(0,.row 92 .zQ xs)],1⟩)):=by kernel_rfl
theorem Pu (xs:List Fl):@Eq (Out yD) (bh prog codes sigs f144 (eW 0) 0 fP 100 true (rt f144 1) (mkS 8 [(2,.own 0 .zQ)] [(0,.row 92 .zQ xs)] 1)) (.zF True (.ret ⟨[.own 0 .zQ],[(0,.row 92 .zQ xs)],1⟩)):=by kernel_rfl
theorem ND {xs:List Fl}(hl:xs.length<=1000000):Gc prog 144 [.d (.sl .zQ xs)] [] 0 ⟨[.own 0 .zQ],[(0,.row 92 .zQ xs)],1⟩:=
 Gc.of_closed (C:=codes) (S:=sigs) mixed func144 (by kernel_rfl) (λ i T t ys hi _=>absurd hi (bL _)) λ A hA=>
  hA.go (Pw xs) λ b hb=>ae (λ h=>by
   have hx:xs=[]:=ay (hb h)
   subst hx
   exact hA.row 2 92 .zQ (by kernel_rfl) (s':=mkS 8 [(2,.own 0 .zQ)] [(0,.row 92 .zQ [])] 1) (by kernel_rfl) (hA.go (Pv []) ⟨tv,.of_eq rfl⟩))
   (λ _=>⟨tv,⟨by omega,tv⟩,hA.go (Pu xs) ⟨tv,.of_eq rfl⟩⟩)
theorem Pt (xs:List yK):@Eq (Out yD) (bh prog codes sigs f145 (eW 0) 0 ⟨[],true⟩ 100 false (cB f145) (gU f145 [.d (.sl .zN xs)] [] 0)) (.ask (λ(b:Bool)=>b=true->xs.length=0) λ(b:Bool)=>bif b then .stop (rt f145 0) (mkS 8 [(2,nS)] [] 0)else .zF True (.zF ((0+xs.length)*41<=35184372088832/\True) (.stop (rt f145 1) (mkS 8 [(2,.own 0 .zN)] [(0,.row 166 .zN ([]++xs))] 1)))):=by kernel_rfl
theorem Ps (xs:List yK):@Eq (Out yD) (bh prog codes sigs f145 (eW 0) 0 fP 100 true (rt f145 0) (mkS 8 [(2,.own 0 .zN)] [(0,.row 166 .zN xs)] 1)) (.zF True (.ret ⟨[.own 0 .zN],[(0,.row 166 .zN xs)],1⟩)):=by kernel_rfl
theorem Pq (xs:List yK):@Eq (Out yD) (bh prog codes sigs f145 (eW 0) 0 fP 100 true (rt f145 1) (mkS 8 [(2,.own 0 .zN)] [(0,.row 166 .zN xs)] 1)) (.zF True (.ret ⟨[.own 0 .zN],[(0,.row 166 .zN xs)],1⟩)):=by kernel_rfl
theorem CW {xs:List yK}(hl:xs.length<=1000000):Gc prog 145 [.d (.sl .zN xs)] [] 0 ⟨[.own 0 .zN],[(0,.row 166 .zN xs)],1⟩:=
 Gc.of_closed (C:=codes) (S:=sigs) mixed func145 (by kernel_rfl) (λ i T t ys hi _=>absurd hi (bL _)) λ A hA=>
  hA.go (Pt xs) λ b hb=>ae (λ h=>by
   have hx:xs=[]:=ay (hb h)
   subst hx
   exact hA.row 2 166 .zN (by kernel_rfl) (s':=mkS 8 [(2,.own 0 .zN)] [(0,.row 166 .zN [])] 1) (by kernel_rfl) (hA.go (Ps []) ⟨tv,.of_eq rfl⟩))
   (λ _=>⟨tv,⟨by omega,tv⟩,hA.go (Pq xs) ⟨tv,.of_eq rfl⟩⟩)
theorem Pp (xs:List yF):@Eq (Out yD) (bh prog codes sigs f146 (eW 0) 0 ⟨[],true⟩ 100 false (cB f146) (gU f146 [.d (.sl .zJ xs)] [] 0)) (.ask (λ(b:Bool)=>b=true->xs.length=0) λ(b:Bool)=>bif b then .stop (rt f146 0) (mkS 8 [(2,nS)] [] 0)else .zF True (.zF ((0+xs.length)*73<=35184372088832/\True) (.stop (rt f146 1) (mkS 8 [(2,.own 0 .zJ)] [(0,.row 116 .zJ ([]++xs))] 1)))):=by kernel_rfl
theorem Po (xs:List yF):@Eq (Out yD) (bh prog codes sigs f146 (eW 0) 0 fP 100 true (rt f146 0) (mkS 8 [(2,.own 0 .zJ)] [(0,.row 116 .zJ xs)] 1)) (.zF True (.ret ⟨[.own 0 .zJ],[(0,.row 116 .zJ xs)],1⟩)):=by kernel_rfl
theorem Pn (xs:List yF):@Eq (Out yD) (bh prog codes sigs f146 (eW 0) 0 fP 100 true (rt f146 1) (mkS 8 [(2,.own 0 .zJ)] [(0,.row 116 .zJ xs)] 1)) (.zF True (.ret ⟨[.own 0 .zJ],[(0,.row 116 .zJ xs)],1⟩)):=by kernel_rfl
theorem Qv {xs:List yF}(hl:xs.length<=1000000):Gc prog 146 [.d (.sl .zJ xs)] [] 0 ⟨[.own 0 .zJ],[(0,.row 116 .zJ xs)],1⟩:=
 Gc.of_closed (C:=codes) (S:=sigs) mixed func146 (by kernel_rfl) (λ i T t ys hi _=>absurd hi (bL _)) λ A hA=>
  hA.go (Pp xs) λ b hb=>ae (λ h=>by
   have hx:xs=[]:=ay (hb h)
   subst hx
   exact hA.row 2 116 .zJ (by kernel_rfl) (s':=mkS 8 [(2,.own 0 .zJ)] [(0,.row 116 .zJ [])] 1) (by kernel_rfl) (hA.go (Po []) ⟨tv,.of_eq rfl⟩))
   (λ _=>⟨tv,⟨by omega,tv⟩,hA.go (Pn xs) ⟨tv,.of_eq rfl⟩⟩)
end Go.Proofs.Mo
namespace Go.Proofs.Mn
open Go.Proofs.Tryz
open Go Go.VL
theorem Rt (a b:Int):@Eq _ (xSp prog f269 [.int,.int] 300 [⟨.int,a⟩,⟨.int,b⟩]) (bif decide (b>0)then bif decide (a>w64 ((9223372036854775807:Int)-b))then .zF (U2/\U2) (.ret ((0:Int),(4:Int)))else bif decide (b<0)then bif decide (a<w64 ((-9223372036854775808:Int)-b))then .zF (U2/\U2) (.ret ((0:Int),(4:Int)))else .zF (U2/\U2) (.ret (w64 (a+b),(0:Int)))else .zF (U2/\U2) (.ret (w64 (a+b),(0:Int)))else bif decide (b<0)then bif decide (a<w64 ((-9223372036854775808:Int)-b))then .zF (U2/\U2) (.ret ((0:Int),(4:Int)))else .zF (U2/\U2) (.ret (w64 (a+b),(0:Int)))else .zF (U2/\U2) (.ret (w64 (a+b),(0:Int)))):=by kernel_rfl
def iI (l3:List Int)(i2:Int)(l4:List Int):AS:=mkS 77 [(4,.d (.sl .int l4)),(5,.d (.sl .int l3)),(7,i64 i2)] [] 0
def uD (l:List Int)(i1:Int)(l1 l2:List Int):AS:=mkS 77 [(0,.d (.sl .int l)),(4,.own 0 .int),(5,.own 1 .int),(6,i64 i1)] [(0,.row 3 .int l2),(1,.row 3 .int l1)] 2
theorem Rv (l:List Int):@Eq _ (xSp prog f226 [.int,.int] 300 [⟨.sl .int,l⟩]) (.stop (hd f226 0) (mkS 77 [(0,.d (.sl .int l)),(4,nS),(5,nS),(6,i64 0)] [] 0)):=by kernel_rfl
theorem OW (l:List Int)(i1:Int)(l1 l2:List Int):@Eq _ (xLp prog f226 [.int,.int] 300 0 (uD l i1 l1 l2)) (bif decide (i1<(l.length:Int))then .zF (((0:Int)<=i1/\i1<(l.length:Int))/\True) (bif decide (l.getD i1.toNat (Ty.dflt .int)<0)then .zF (((0:Int)<=i1/\i1<(l.length:Int))/\True) (.zF V2 (.zF ((l1.length+List.length [l.getD i1.toNat (Ty.dflt .int)])*9<=35184372088832/\True) (.stop (hd f226 0) (uD l (w64 (i1+1)) (l1++[l.getD i1.toNat (Ty.dflt .int)]) l2))))else .zF (((0:Int)<=i1/\i1<(l.length:Int))/\True) (.zF V2 (.zF ((l2.length+List.length [l.getD i1.toNat (Ty.dflt .int)])*9<=35184372088832/\True) (.stop (hd f226 0) (uD l (w64 (i1+1)) l1 (l2++[l.getD i1.toNat (Ty.dflt .int)]))))))else .stop (hd f226 1) (mkS 77 [(4,.own 0 .int),(5,.own 1 .int),(7,i64 0)] [(0,.row 3 .int l2),(1,.row 3 .int l1)] 2)):=by kernel_rfl
theorem wT (l3:List Int)(i2:Int)(l4:List Int):@Eq _ (xLp prog f226 [.int,.int] 300 1 (iI l3 i2 l4)) (bif decide ((l4.length:Int)>0)then bif decide ((l3.length:Int)>0)then bif decide (i2>=0)then .zF (((0:Int)<=0/\(0:Int)<(l3.length:Int))/\True) (.zF (((0:Int)<=1/\(1:Int)<=(l3.length:Int))/\True) (.zF bX (.zG 269 [⟨.int,i2⟩,⟨.int,(l3.getD 0 (Ty.dflt .int))⟩] [.int,.int] λ(x:Int×Int)=>bif x.2 != 0 then .zF (U2/\U2) (.ret ((0:Int),x.2))else .stop (hd f226 1) (iI (List.drop 1 l3) x.1 l4))))else bif (l4.length:Int)==0 then .zF (((0:Int)<=0/\(0:Int)<(l3.length:Int))/\True) (.zF (((0:Int)<=1/\(1:Int)<=(l3.length:Int))/\True) (.zF bX (.zG 269 [⟨.int,i2⟩,⟨.int,(l3.getD 0 (Ty.dflt .int))⟩] [.int,.int] λ(x:Int×Int)=>bif x.2 != 0 then .zF (U2/\U2) (.ret ((0:Int),x.2))else .stop (hd f226 1) (iI (List.drop 1 l3) x.1 l4))))else .zF (((0:Int)<=0/\(0:Int)<(l4.length:Int))/\True) (.zF (((0:Int)<=1/\(1:Int)<=(l4.length:Int))/\True) (.zF bX (.zG 269 [⟨.int,i2⟩,⟨.int,(l4.getD 0 (Ty.dflt .int))⟩] [.int,.int] λ(x:Int×Int)=>bif x.2 != 0 then .zF (U2/\U2) (.ret ((0:Int),x.2))else .stop (hd f226 1) (iI l3 x.1 (List.drop 1 l4)))))else .zF (((0:Int)<=0/\(0:Int)<(l4.length:Int))/\True) (.zF (((0:Int)<=1/\(1:Int)<=(l4.length:Int))/\True) (.zF bX (.zG 269 [⟨.int,i2⟩,⟨.int,(l4.getD 0 (Ty.dflt .int))⟩] [.int,.int] λ(x:Int×Int)=>bif x.2 != 0 then .zF (U2/\U2) (.ret ((0:Int),x.2))else .stop (hd f226 1) (iI l3 x.1 (List.drop 1 l4)))))else bif decide ((l3.length:Int)>0)then bif decide ((l3.length:Int)>0)then bif decide (i2>=0)then .zF (((0:Int)<=0/\(0:Int)<(l3.length:Int))/\True) (.zF (((0:Int)<=1/\(1:Int)<=(l3.length:Int))/\True) (.zF bX (.zG 269 [⟨.int,i2⟩,⟨.int,(l3.getD 0 (Ty.dflt .int))⟩] [.int,.int] λ(x:Int×Int)=>bif x.2 != 0 then .zF (U2/\U2) (.ret ((0:Int),x.2))else .stop (hd f226 1) (iI (List.drop 1 l3) x.1 l4))))else bif (l4.length:Int)==0 then .zF (((0:Int)<=0/\(0:Int)<(l3.length:Int))/\True) (.zF (((0:Int)<=1/\(1:Int)<=(l3.length:Int))/\True) (.zF bX (.zG 269 [⟨.int,i2⟩,⟨.int,(l3.getD 0 (Ty.dflt .int))⟩] [.int,.int] λ(x:Int×Int)=>bif x.2 != 0 then .zF (U2/\U2) (.ret ((0:Int),x.2))else .stop (hd f226 1) (iI (List.drop 1 l3) x.1 l4))))else .zF (((0:Int)<=0/\(0:Int)<(l4.length:Int))/\True) (.zF (((0:Int)<=1/\(1:Int)<=(l4.length:Int))/\True) (.zF bX (.zG 269 [⟨.int,i2⟩,⟨.int,(l4.getD 0 (Ty.dflt .int))⟩] [.int,.int] λ(x:Int×Int)=>bif x.2 != 0 then .zF (U2/\U2) (.ret ((0:Int),x.2))else .stop (hd f226 1) (iI l3 x.1 (List.drop 1 l4)))))else .zF (((0:Int)<=0/\(0:Int)<(l4.length:Int))/\True) (.zF (((0:Int)<=1/\(1:Int)<=(l4.length:Int))/\True) (.zF bX (.zG 269 [⟨.int,i2⟩,⟨.int,(l4.getD 0 (Ty.dflt .int))⟩] [.int,.int] λ(x:Int×Int)=>bif x.2 != 0 then .zF (U2/\U2) (.ret ((0:Int),x.2))else .stop (hd f226 1) (iI l3 x.1 (List.drop 1 l4)))))else .zF (U2/\U2) (.ret (i2,(0:Int)))):=by kernel_rfl
set_option maxRecDepth 20000
open Go.Proofs.Zn
def tK (a b:Int):Int×Int:=bif decide (b>0)then bif decide (a>w64 (9223372036854775807-b))then(0,4)else bif decide (b<0)then bif decide (a<w64 ((-9223372036854775808:Int)-b))then(0,4)else(w64 (a+b),0)else(w64 (a+b),0)else bif decide (b<0)then bif decide (a<w64 ((-9223372036854775808:Int)-b))then(0,4)else(w64 (a+b),0)else(w64 (a+b),0)
theorem KZ (a b:Int) :yJ prog 269 [⟨.int,a⟩,⟨.int,b⟩] [.int,.int] (tK a b):=
 pcl codes sigs func269 (by kernel_rfl) λ A hA=>hA.go (Rt a b) (by
  generalize h:tK a b=r at hA ⊢
  unfold tK at h
  refine aj h (λ g1 h=>?_) (λ g1 h=>?_)
  ·have g1:=oT g1
   refine aj h (λ g2 h=>?_) (λ g2 h=>?_)
   ·have g2:=oT g2
    exact⟨⟨q2,tv,tv⟩,h⟩
   ·have g2:=oF g2
    refine aj h (λ g3 h=>?_) (λ g3 h=>?_)
    ·have g3:=oT g3
     refine aj h (λ g4 h=>?_) (λ g4 h=>?_)
     ·have g4:=oT g4
      exact⟨⟨q2,tv,tv⟩,h⟩
     ·have g4:=oF g4
      exact⟨⟨q2,tv,tv⟩,h⟩
    ·have g3:=oF g3
     exact⟨⟨q2,tv,tv⟩,h⟩
  ·have g1:=oF g1
   refine aj h (λ g2 h=>?_) (λ g2 h=>?_)
   ·have g2:=oT g2
    refine aj h (λ g3 h=>?_) (λ g3 h=>?_)
    ·have g3:=oT g3
     exact⟨⟨q2,tv,tv⟩,h⟩
    ·have g3:=oF g3
     exact⟨⟨q2,tv,tv⟩,h⟩
   ·have g2:=oF g2
    exact⟨⟨q2,tv,tv⟩,h⟩)
def tot:List Int->Int
 | []=>0
 | x::l=>x+tot l
theorem pv (l m:List Int):tot (l++m)=tot l+tot m:=by
 induction l with
 | nil=>simp[tot]
 | cons x l ih=>simp only[jA,tot,ih];omega
def ia (t:Int):Int×Int:=bif decide (t < -9223372036854775808)then(0,4)else bif decide (t>9223372036854775807)then(0,4)else(t,0)
def ze (l:List Int):Int×Int:=ia (tot l)
theorem je {t:Int}(h:cD t):ia t=(t,0):=by
 unfold cD at h
 unfold ia
 rw[dF (by omega),dF (by omega)];rfl
theorem nr {t:Int}(h:¬ cD t):ia t=(0,4):=by
 unfold cD at h
 unfold ia
 by_cases h1:t < -9223372036854775808
 ·rw[dT h1];rfl
 ·rw[dF h1,dT (by omega)];rfl
abbrev kS (l:List Int):Prop:=∀ x∈l,cD x
theorem vg:∀ {l:List Int},kS l -> -(9223372036854775808*(l.length:Int))<=tot l/\tot l<=9223372036854775808*(l.length:Int)
 | [],_=>by simp[tot]
 | x :: l, h => by
   have h1:=vg (l:=l) λ y hy=>h y (by simp[hy])
   have h2:cD x:=h x (by simp)
   unfold cD at h2
   simp only[tot,af]
   omega
def oA (w:Wide):Int:=w.hi*18446744073709551616+w.lo
structure WOk (w:Wide):Prop where
 h0:0<=w.hi
 h1:w.hi<18446744073709551616
 l0:0<=w.lo
 l1:w.lo<18446744073709551616
theorem Dh (x:Int):(dS x).hi=(x/9223372036854775808)%18446744073709551616:=by
 have e:(2:Int)^min 63 (IntKind.bits .i64)=9223372036854775808:=by decide
 unfold dS
 simp only[e,lS]
 rw[gB _ (by decide)]
theorem Dg (x:Int):(dS x).lo=x%18446744073709551616:=by
 unfold dS
 simp only[lS]
theorem PQ {x:Int}(h:cD x):WOk (dS x)/\oA (dS x)=x%340282366920938463463374607431768211456:=by
 have e1:=Dh x
 have e2:=Dg x
 unfold cD at h
 refine⟨⟨by omega,by omega,by omega,by omega⟩,?_⟩
 unfold oA
 omega
theorem MC (a b:Wide):(iU a b).hi=(((a.hi.toNat+b.hi.toNat+(a.lo.toNat+b.lo.toNat)/18446744073709551616)%18446744073709551616:Nat):Int):=by
 unfold iU
 simp only[au,fh]
theorem IX (a b:Wide):(iU a b).lo=(((a.lo.toNat+b.lo.toNat)%18446744073709551616:Nat):Int):=by
 unfold iU
 simp only[fh]
theorem IW {a b:Wide}(ha:WOk a)(hb:WOk b):WOk (iU a b)/\oA (iU a b)=(oA a+oA b)%340282366920938463463374607431768211456:=by
 obtain⟨a1,a2,a3,a4⟩:=ha
 obtain⟨b1,b2,b3,b4⟩:=hb
 have e1:=MC a b
 have e2:=IX a b
 refine⟨⟨by omega,by omega,by omega,by omega⟩,?_⟩
 unfold oA
 omega
theorem yy:∀ (l:List Int) (w:Wide),WOk w->kS l->WOk (l.foldl (λ w x=>iU w (dS x)) w)/\oA (l.foldl (λ w x=>iU w (dS x)) w)=(oA w+tot l)%340282366920938463463374607431768211456
 | [], w, hw, _ => by
   obtain⟨a1,a2,a3,a4⟩:=hw
   refine⟨⟨a1,a2,a3,a4⟩,?_⟩
   show oA w=(oA w+0)%_
   unfold oA
   omega
 | x :: l, w, hw, h => by
   have h2:cD x:=h x (by simp)
   obtain⟨p1,p2⟩:=PQ h2
   obtain⟨q1,q2⟩:=IW hw p1
   obtain⟨r1,r2⟩:=yy l (iU w (dS x)) q1 λ y hy=>h y (by simp[hy])
   refine⟨r1,?_⟩
   show oA (l.foldl (λ w x=>iU w (dS x)) (iU w (dS x)))=(oA w+(x+tot l))%_
   rw[r2,q2,p2]
   omega
theorem HM (m:Int):cD (w64 m)/\(w64 m)%18446744073709551616=m%18446744073709551616:=by
 unfold w64 IntKind.wrap
 have e:(2^IntKind.i64.bits:Int)=18446744073709551616:=rfl
 have e2:(2^(IntKind.i64.bits-1):Int)=9223372036854775808:=rfl
 have e3:IntKind.i64.signed=true:=rfl
 simp only[e,e2,e3,cn]
 unfold cD
 by_cases h:m%18446744073709551616>=9223372036854775808
 ·rw[aE (by simpa using h)];omega
 ·rw[aF (by simpa using h)];omega
theorem MN {w:Wide}(hw:WOk w){t:Int}(h:oA w=t%340282366920938463463374607431768211456)(h0 : -170141183460469231731687303715884105728<=t)(h1:t<170141183460469231731687303715884105728):xt w=ia t:=by
 obtain⟨a1,a2,a3,a4⟩:=hw
 obtain⟨n1,n2⟩:=HM w.lo
 have n1':=n1
 unfold cD at n1'
 unfold xt
 generalize w64 w.lo=n at n1 n2 n1'
 have e1:=Dh n
 have e2:=Dg n
 unfold oA at h
 by_cases hh:w.hi=(dS n).hi
 ·have el:w.lo=(dS n).lo:=by omega
  have e3:n/9223372036854775808=0\/n/9223372036854775808 = -1:=by omega
  have et:t=n:=by rcases e3 with e3|e3<;>omega
  have e:(w.hi==(dS n).hi&&(w.lo==(dS n).lo&&true))=true:=by rw[<-hh,<-el];simp
  rw[e,et,je n1];rfl
 ·have e:(w.hi==(dS n).hi&&(w.lo==(dS n).lo&&true))=false:=by
   have:(w.hi==(dS n).hi)=false:=by simpa using hh
   rw[this];rfl
  rw[e,nr (t:=t) (by unfold cD;omega)];rfl
theorem MO {l:List Int}(hl:l.length<=1000000)(hf:kS l):xt (rR l)=ze l:=by
 obtain⟨h1,h2⟩:=yy l ⟨0,0⟩ ⟨by decide,by decide,by decide,by decide⟩ hf
 have h3:=vg hf
 have h4:oA (rR l)=(0*18446744073709551616+0+tot l)%340282366920938463463374607431768211456:=h2
 exact MN (t:=tot l) h1 (by rw[show List.foldl (λ w x=>iU w (dS x)) ⟨0,0⟩ l=rR l from rfl,h4];omega) (by omega) (by omega)
open Wn (dl bz)
theorem NR {a b:Int}(ha:cD a)(hb:cD b):tK a b=ia (a+b):=by
 unfold cD at ha hb
 unfold tK
 by_cases h1:b>0
 ·rw[dT h1,cT,an (by omega) (by omega)]
  by_cases h2:a>9223372036854775807-b
  ·rw[dT h2,cT,nr (by unfold cD;omega)]
  ·rw[dF h2,cF,dF (by omega),cF,je (by unfold cD;omega),an (by omega) (by omega)]
 ·rw[dF h1,cF]
  by_cases h2:b<0
  ·rw[dT h2,cT,an (n := -9223372036854775808-b) (by omega) (by omega)]
   by_cases h3:a < -9223372036854775808-b
   ·rw[dT h3,cT,nr (by unfold cD;omega)]
   ·rw[dF h3,cF,je (by unfold cD;omega),an (by omega) (by omega)]
  ·rw[dF h2,cF,je (by unfold cD;omega),an (by omega) (by omega)]
theorem HV:∀ {l:List Int},(∀ x∈l,0<=x)->0<=tot l
 | [],_=>by simp[tot]
 | x :: l, h => by
   have h1:=h x (by simp)
   have h2:=HV (l:=l) λ y hy=>h y (by simp[hy])
   simp only[tot];omega
theorem zb:∀ {l:List Int},(∀ x∈l,x<0)->tot l<=0
 | [],_=>by simp[tot]
 | x :: l, h => by
   have h1:=h x (by simp)
   have h2:=zb (l:=l) λ y hy=>h y (by simp[hy])
   simp only[tot];omega
theorem Gf (t:Int):(ia t).2=0/\cD t/\(ia t).1=t\/(ia t).2=4/\¬ cD t/\ia t=(0,4):=by
 by_cases h:cD t
 ·rw[je h];exact .inl ⟨rfl,h,rfl⟩
 ·rw[nr h];exact .inr ⟨rfl,h,rfl⟩
abbrev T2p:(True/\True)/\True/\True:=⟨⟨tv,tv⟩,tv,tv⟩
theorem qb (x:Int)(l:List Int):decide ((↑(List.length (x::l)):Int)>0)=true:=by simp only[af];exact dT (by omega)
theorem sr:decide ((↑(List.length ([]:List Int)):Int)>0)=false:=rfl
theorem PY (x:Int)(l:List Int):((↑(List.length (x::l)):Int)==0)=false:=by simp only[af];exact aH.2 (by omega)
theorem pA {s y t rest:Int}{r:Int×Int}{dn up:List Int}{A:List Item->AS->Prop}(hs:cD s)(hy:cD y)(ht:t=s+y+rest)(hov:¬ cD (s+y)->¬ cD t)(h:ia t=r)
  (ih:cD (s+y)->ia (s+y+rest)=r->A (hd f226 1) (iI dn (s+y) up)) :
  Sat prog A (λ z:Int×Int=>z=r) (bif (tK s y).2 != 0 then .zF ((True/\True)/\True/\True) (.ret ((0:Int),(tK s y).2))else .stop (hd f226 1) (iI dn (tK s y).1 up)):=by
 rw[NR hs hy]
 rcases Gf (s+y)with⟨h2,h3,h4⟩|⟨h2,h3,h4⟩
 ·rw[h2,h4]
  exact ih h3 (by rw[<-ht];exact h)
 ·rw[h4]
  refine⟨T2p,?_⟩
  show((0:Int),(4:Int))=r
  rw[<-h,nr (hov h3)]
theorem pX:∀ (k:Nat) (dn up:List Int) (s:Int) {r:Int×Int} {A:List Item->AS->Prop} (_:yP prog codes sigs f226 (aS [.int,.int]) (λ y=>y=r) 0 A) (_:dn.length+up.length<=k)
  (_:∀ x∈dn,x<0/\cD x) (_:∀ x∈up,0<=x/\cD x) (_:cD s) (_:ia (s+tot dn+tot up)=r),A (hd f226 1) (iI dn s up)
 | k, [], [], s, r, A, hA, hk, hdn, hu, hs, h => by
   refine hA.go (wT [] s []) (bz sr (bz sr ⟨T2p,?_⟩))
   rw[<-h]
   show(s,0)=ia (s+0+0)
   rw[show s+0+0=s by omega,je hs]
 | 0,x::dn,up,s,r,A,hA,hk,hdn,hu,hs,h=>by simp only[af]at hk;omega
 | 0,[],y::up,s,r,A,hA,hk,hdn,hu,hs,h=>by simp only[af]at hk;omega
 | k + 1, [], y :: up, s, r, A, hA, hk, hdn, hu, hs, h => by
   have hy:=hu y (by simp)
   have hu':∀ x∈up,0<=x/\cD x:=λ x hx=>hu x (by simp[hx])
   have t1:=HV (l:=up) λ x hx=>(hu' x hx).1
   refine hA.go (wT [] s (y::up)) (dl (qb _ _) (bz sr ?_))
   refine⟨⟨⟨by omega,by simp only[af];omega⟩,tv⟩,⟨⟨by omega,by simp only[af];omega⟩,tv⟩,⟨T1,T1,tv⟩,_,KZ _ _,?_⟩
   refine pA (s:=s) (y:=y) (t:=s+y+tot up) (rest:=tot up) hs hy.2 rfl ?_ (by rw[<-h];simp only[tot];congr 1;omega) (λ h3 h4=>?_)
   ·unfold cD at hs hy ⊢;omega
   ·exact pX k [] up (s+y) hA (by simp only[af,ak]at hk ⊢;omega) (λ x hx=>by simp at hx) hu' h3 (by simp only[tot];rw[<-h4];congr 1;omega)
 | k + 1, x :: dn, [], s, r, A, hA, hk, hdn, hu, hs, h => by
   have hx:=hdn x (by simp)
   have hd':∀ x∈dn,x<0/\cD x:=λ y hy=>hdn y (by simp[hy])
   have t1:=zb (l:=dn) λ y hy=>(hd' y hy).1
   have fin:Sat prog A (λ z:Int×Int=>z=r) (bif (tK s x).2 != 0 then .zF ((True/\True)/\True/\True) (.ret ((0:Int),(tK s x).2))else .stop (hd f226 1) (iI dn (tK s x).1 [])):=by
    refine pA (s:=s) (y:=x) (t:=s+x+tot dn) (rest:=tot dn) hs hx.2 rfl ?_ (by rw[<-h];simp only[tot];congr 1;omega) (λ h3 h4=>?_)
    ·unfold cD at hs hx ⊢;omega
    ·exact pX k dn [] (s+x) hA (by simp only[af,ak]at hk ⊢;omega) hd' (λ x hx=>by simp at hx) h3 (by simp only[tot];rw[<-h4];congr 1;omega)
   refine hA.go (wT (x::dn) s []) (bz sr (dl (qb _ _) (dl (qb _ _) ?_)))
   refine ae (λ g=>?_) (λ g=>dl rfl ?_)
   ·exact⟨⟨⟨by omega,by simp only[af];omega⟩,tv⟩,⟨⟨by omega,by simp only[af];omega⟩,tv⟩,⟨T1,T1,tv⟩,_,KZ _ _,fin⟩
   ·exact⟨⟨⟨by omega,by simp only[af];omega⟩,tv⟩,⟨⟨by omega,by simp only[af];omega⟩,tv⟩,⟨T1,T1,tv⟩,_,KZ _ _,fin⟩
 | k + 1, x :: dn, y :: up, s, r, A, hA, hk, hdn, hu, hs, h => by
   have hx:=hdn x (by simp)
   have hd':∀ x∈dn,x<0/\cD x:=λ y hy=>hdn y (by simp[hy])
   have hy:=hu y (by simp)
   have hu':∀ x∈up,0<=x/\cD x:=λ x hx=>hu x (by simp[hx])
   refine hA.go (wT (x::dn) s (y::up)) (dl (qb _ _) (dl (qb _ _) ?_))
   refine ae (λ g=>?_) (λ g=>bz (PY _ _) ?_)
   ·have g:=oT g
    refine⟨⟨⟨by omega,by simp only[af];omega⟩,tv⟩,⟨⟨by omega,by simp only[af];omega⟩,tv⟩,⟨T1,T1,tv⟩,_,KZ _ _,?_⟩
    refine pA (s:=s) (y:=x) (t:=s+x+(tot dn+tot (y::up))) (rest:=tot dn+tot (y::up)) hs hx.2 rfl ?_ (by rw[<-h];simp only[tot];congr 1;omega) (λ h3 h4=>?_)
    ·unfold cD at hs hx ⊢;omega
    ·exact pX k dn (y::up) (s+x) hA (by simp only[af]at hk ⊢;omega) hd' hu h3 (by rw[<-h4];congr 1;omega)
   ·have g:=oF g
    refine⟨⟨⟨by omega,by simp only[af];omega⟩,tv⟩,⟨⟨by omega,by simp only[af];omega⟩,tv⟩,⟨T1,T1,tv⟩,_,KZ _ _,?_⟩
    refine pA (s:=s) (y:=y) (t:=s+y+(tot (x::dn)+tot up)) (rest:=tot (x::dn)+tot up) hs hy.2 rfl ?_ (by rw[<-h];simp only[tot];congr 1;omega) (λ h3 h4=>?_)
    ·unfold cD at hs hy ⊢;omega
    ·exact pX k (x::dn) up (s+y) hA (by simp only[af]at hk ⊢;omega) hdn hu' h3 (by rw[<-h4];congr 1;omega)
theorem tO {l:List Int}(hl:l.length<=1000000)(hf:kS l){r:Int×Int}{A:Pr}(hA:CL codes sigs f226 [.int,.int] r A)(h:ze l=r)
  (ix:Nat) (dn up:List Int) (hn:dn.length+up.length<=ix) (hdn:∀ x∈dn,x<0/\cD x) (hu:∀ x∈up,0<=x/\cD x) (ht:tot dn+tot up+tot (l.drop ix)=tot l):A (hd f226 0) (uD l (ix:Int) dn up):=by
 refine hA.go (OW l (ix:Int) dn up) (ae (λ h1=>?_) (λ h1=>?_))
 ·have h1:=oT h1
  have hil:ix<l.length:=by omega
  have hz:cD (l.getD (Int.toNat (ix:Int)) (Ty.dflt .int)):=hf _ (by rw[aY hil];exact aN _)
  rw[be hil (Ty.dflt .int)]at ht
  simp only[tot]at ht
  refine⟨⟨⟨by omega,by omega⟩,tv⟩,ae (λ g=>?_) (λ g=>?_)⟩
  ·have g:=oT g
   refine⟨⟨⟨by omega,by omega⟩,tv⟩,⟨T1,tv⟩,⟨by simp only[af,ak];omega,tv⟩,?_⟩
   rw[aq (by omega)]
   refine tO hl hf hA h (ix+1) _ _ (by simp only[al,af,ak];omega) (λ x hx=>?_) hu (by rw[pv];simp only[tot];omega)
   rcases az.1 hx with hx|hx
   ·exact hdn x hx
   ·obtain rfl:=bq.1 hx;exact⟨g,hz⟩
  ·have g:=oF g
   refine⟨⟨⟨by omega,by omega⟩,tv⟩,⟨T1,tv⟩,⟨by simp only[af,ak];omega,tv⟩,?_⟩
   rw[aq (by omega)]
   refine tO hl hf hA h (ix+1) _ _ (by simp only[al,af,ak];omega) hdn (λ x hx=>?_) (by rw[pv];simp only[tot];omega)
   rcases az.1 hx with hx|hx
   ·exact hu x hx
   ·obtain rfl:=bq.1 hx;exact⟨by omega,hz⟩
 ·have h1:=oF h1
  rw[dN (by omega)]at ht
  simp only[tot]at ht
  refine hA.frz 0 (by kernel_rfl) rfl ?_
  refine hA.frz 0 (by kernel_rfl) (s':=iI dn 0 up) (by kernel_rfl) ?_
  exact pX _ dn up 0 hA (aI _) hdn hu (by unfold cD;omega) (by rw[<-h];unfold ze;congr 1;omega)
termination_by l.length-ix
decreasing_by all_goals omega
theorem c226 {l:List Int}(hl:l.length<=1000000)(hf:kS l):yJ prog 226 [⟨.sl .int,l⟩] [.int,.int] (ze l):=
 pcl codes sigs func226 (by kernel_rfl) λ A hA=>hA.go (Rv l) (by
  refine hA.row 5 3 .int (by kernel_rfl) rfl ?_
  refine hA.row 4 3 .int (by kernel_rfl) (s':=uD l 0 [] []) (by kernel_rfl) ?_
  exact tO hl hf hA rfl 0 [] [] (by simp) (λ x hx=>by simp at hx) (λ x hx=>by simp at hx) (by simp[tot]))
open Go Go.VL Go.Proofs.Zn
def db (z:yF)(k:Nat):Cell:=⟨z.cap,z.start.getD k 0,0⟩
def fu (z:yF):List Cell:=(List.range' 0 (z.rows*z.zP).toNat).map (db z)
def bm (d:yA):List Cell:=d.zB.flatMap fu
def uX:Log:=⟨8,0,[]⟩
def fA (d:yA):yC×Int:=bif df d != 0 then(⟨[],[],[],0,0,0⟩,df d)else
 (⟨bm d,List.replicate (bm d).length uX,List.replicate (br (aU d)).toNat ⟨1,0⟩,tot ((bm d).map Cell.zS),0,0⟩,0)
theorem zi {c:Int}:∀ {l:List Int},lj c l=true->∀ x∈l,0<=x/\x<=c
 | [],_=>by simp
 | n :: l, h => by
   unfold lj at h
   by_cases h1:n<0
   ·rw[dT h1]at h;cases h
   rw[dF h1,cF]at h
   by_cases h2:n>c
   ·rw[dT h2]at h;cases h
   rw[dF h2,cF]at h
   intro x hx
   rcases aB.1 hx with rfl|hx
   ·omega
   ·exact zi h x hx
structure PlateOk (z:yF):Prop where
 cap:1<=z.cap/\z.cap<=1099511627776
 start:∀ k:Nat,0<=z.start.getD k 0/\z.start.getD k 0<=z.cap
 size:1<=z.rows*z.zP/\z.rows*z.zP<=1536
theorem kB {z:yF}(h:dO z=true):PlateOk z:=by
 unfold dO at h
 cases hb:cW (fe z)
 ·rw[hb]at h;cases h
 rw[hb,cT]at h
 unfold mJ at h
 by_cases h1:z.cap<1
 ·rw[dT h1]at h;cases h
 rw[dF h1,cF]at h
 by_cases h2:z.cap>1099511627776
 ·rw[dT h2]at h;cases h
 rw[dF h2,cF]at h
 by_cases h3:(z.start.length:Int)>z.rows*z.zP
 ·rw[dT h3]at h;cases h
 rw[dF h3,cF]at h
 have hs:=zi h
 refine⟨⟨by omega,by omega⟩,λ k=>?_,eH hb⟩
 rcases ax k z.start.length with hk|hk
 ·rw[cH hk];exact hs _ (aN hk)
 ·rw[show z.start.getD k 0=0 by simp[List.getD,aw hk]];omega
theorem Nv {z:yF}(h:PlateOk z)(k:Nat):dm (db z k)=true:=by
 obtain⟨h1,h2⟩:=h.cap
 obtain⟨h3,h4⟩:=h.start k
 unfold dm db
 simp only
 rw[dT (by omega),dT (by omega),dT (by omega),dT (by omega)]
 rfl
theorem Ok {z:yF}(hz:PlateOk z)(kc:Int->List Cell->List Log->yC×Int):∀ (n ix:Nat) (i:Int) (l1:List Cell) (l2:List Log),0<=i->i+1099511627776*n<=4611686018427387904 ->
  oK z kc n ix i l1 l2=kc (i+tot (((List.range' ix n).map (db z)).map Cell.zS)) (l1++(List.range' ix n).map (db z)) (l2++List.replicate n uX)
 | 0,ix,i,l1,l2,_,_=>by simp[oK,tot]
 | n + 1, ix, i, l1, l2, h0, h1 => by
   have hs:=hz.start ix
   have hc:=hz.cap
   unfold oK
   have e:∀ v,v=z.start.getD ix 0->oK z kc n (ix+1) (w64 (i+v)) (l1++[⟨z.cap,v,0⟩]) (l2++[⟨8,0,[]⟩]) =
     kc (i+tot (((List.range' ix (n+1)).map (db z)).map Cell.zS)) (l1++(List.range' ix (n+1)).map (db z)) (l2++List.replicate (n+1) uX):=by
    intro v hv
    have hv0:0<=v/\v<=1099511627776:=by omega
    rw[an (by omega) (by omega),Ok hz kc n (ix+1) _ _ _ (by omega) (by omega)]
    have ec:db z ix=⟨z.cap,v,0⟩:=by unfold db;rw[hv]
    simp only[jv,bn,tot,ec,bk,iW,dI,uX]
    rw[hN]
   by_cases hx:(ix:Int)<z.start.length
   ·rw[dT hx,cT]
    exact e _ rfl
   ·rw[dF hx,cF]
    exact e 0 (by rw[show z.start.getD ix 0=0 by simp[List.getD,aw (show z.start.length<=ix by omega)]])
theorem Du (i5:Int)(l3:List Cell)(l4:List Log):∀ (n ix:Nat) (l5:List Tip),ru i5 l3 l4 n ix l5=(⟨l3,l4,l5++List.replicate n ⟨1,0⟩,i5,0,0⟩,0)
 | 0,ix,l5=>by simp[ru]
 | n + 1, ix, l5 => by
   unfold ru
   rw[Du i5 l3 l4 n (ix+1)]
   simp[dI]
theorem kO {z:yF}:(fu z).length=(z.rows*z.zP).toNat:=by simp[fu]
theorem od {l:List Int}(h:∀ c∈l,0<=c/\c<=1099511627776):0<=tot l/\tot l<=1099511627776*l.length:=by
 induction l with
 | nil=>simp[tot]
 | cons x l ih =>
   have h1:=h x (by simp)
   have h2:=ih λ c hc=>h c (by simp[hc])
   simp only[tot,af];omega
theorem Dv (t:Int):∀ (ps:List yF),(∀ z∈ps,PlateOk z)->∀ (ix:Nat) (i:Int) (l3:List Cell) (l4:List Log),0<=i->i+1688849860263936*ps.length<=4611686018427387904 ->
  rv t ps ix i l3 l4=(⟨l3++ps.flatMap fu,l4++List.replicate (ps.flatMap fu).length uX,List.replicate t.toNat ⟨1,0⟩,i+tot ((ps.flatMap fu).map Cell.zS),0,0⟩,0)
 | [], _, ix, i, l3, l4, _, _ => by
   unfold rv
   rw[Du]
   simp[tot]
 | z :: ps, hp, ix, i, l3, l4, h0, h1 => by
   have hz:=hp z (by simp)
   have hs:=hz.size
   have hw:w64 (z.rows*z.zP)=z.rows*z.zP:=an (by omega) (by omega)
   simp only[af]at h1
   unfold rv
   rw[hw,di,Ok hz _ _ _ _ _ _ h0 (by omega)]
   have hb:∀ c∈(fu z).map Cell.zS,0<=c/\c<=1099511627776:=by
    intro c hc
    obtain⟨x,hx,rfl⟩:=aZ.1 hc
    obtain⟨k,_,rfl⟩:=aZ.1 hx
    have:=hz.start k
    have:=hz.cap
    simp only[db];omega
   have ht:=od hb
   rw[bH,kO]at ht
   have e:(List.range' 0 (z.rows*z.zP).toNat).map (db z)=fu z:=rfl
   rw[e,Dv t ps (λ y hy=>hp y (by simp[hy])) (ix+1) _ _ _ (by omega) (by omega)]
   simp only[fj,bk,bT,pv,al,iT,kO,hN]
theorem ve {d:yA}(h:(df d != 0)=false):(dw d != 0)=false:=by
 cases h1:dw d != 0
 ·rfl
 ·have e:df d=dw d:=by unfold df dU;rw[h1];rfl
  rw[e,h1]at h;cases h
theorem mL {d:yA}(h:(df d != 0)=false):(bx d).2.1=br (aU d):=by
 unfold bx
 rw[ve h];rfl
theorem DP (d:yA):m87 d=fA d:=by
 unfold m87 fA
 cases h:df d != 0
 ·have hk:=cp h
  rw[cF,cF,Dv _ _ (λ z hz=>kB (hk.zJ z hz)) _ _ _ _ (by omega) (by have:=hk.zB;omega)]
  have hc:=mL h
  simp only[hc,bm,fS,Int.zero_add]
 ·rfl
theorem KS {z:yF}(hz:PlateOk z)(k:Nat):(rK z.cap (z.start.getD k 0)).1=db z k:=by
 have h:=Nv hz k
 unfold db at h
 unfold rK db
 rw[h];rfl
theorem Nc:(Hf 8).1=uX:=by decide +kernel
theorem Ol {z:yF}(hz:PlateOk z)(kc:Int->List Cell->List Log->yC×Int):∀ (n ix:Nat) (i:Int) (l1:List Cell) (l2:List Log),0<=i->i+1099511627776*n<=4611686018427387904 ->
  oL z kc n ix i l1 l2=kc (i+tot (((List.range' ix n).map (db z)).map Cell.zS)) (l1++(List.range' ix n).map (db z)) (l2++List.replicate n uX)
 | 0,ix,i,l1,l2,_,_=>by simp[oL,tot]
 | n + 1, ix, i, l1, l2, h0, h1 => by
   have hs:=hz.start ix
   have hc:=hz.cap
   unfold oL
   have e:∀ v,v=z.start.getD ix 0->oL z kc n (ix+1) (w64 (i+v)) (l1++[(rK z.cap v).1]) (l2++[(Hf 8).1]) =
     kc (i+tot (((List.range' ix (n+1)).map (db z)).map Cell.zS)) (l1++(List.range' ix (n+1)).map (db z)) (l2++List.replicate (n+1) uX):=by
    intro v hv
    have hv0:0<=v/\v<=1099511627776:=by omega
    have e1:(rK z.cap v).1=db z ix:=by rw[hv];exact KS hz ix
    rw[e1,Nc,an (by omega) (by omega),Ol hz kc n (ix+1) _ _ _ (by omega) (by omega)]
    have ec:(db z ix).zS=v:=by unfold db;rw[hv]
    simp only[jv,bn,tot,ec,bk,iW,dI]
    rw[hN]
   by_cases hx:(ix:Int)<z.start.length
   ·rw[dT hx,cT]
    exact e _ rfl
   ·rw[dF hx,cF]
    exact e 0 (by rw[show z.start.getD ix 0=0 by simp[List.getD,aw (show z.start.length<=ix by omega)]])
theorem Dw (i4:Int)(l3:List Cell)(l4:List Log):∀ (n ix:Nat) (l5:List Tip),rz i4 l3 l4 n ix l5=(⟨l3,l4,l5++List.replicate n ⟨1,0⟩,i4,0,0⟩,0)
 | 0,ix,l5=>by simp[rz]
 | n + 1, ix, l5 => by
   unfold rz
   rw[Dw i4 l3 l4 n (ix+1)]
   simp[dI]
theorem Dx (d:yA):∀ (ps:List yF),(∀ z∈ps,PlateOk z)->∀ (ix:Nat) (i:Int) (l3:List Cell) (l4:List Log),0<=i->i+1688849860263936*ps.length<=4611686018427387904 ->
  rA d ps ix i l3 l4=(⟨l3++ps.flatMap fu,l4++List.replicate (ps.flatMap fu).length uX,List.replicate (bx d).2.1.toNat ⟨1,0⟩,i+tot ((ps.flatMap fu).map Cell.zS),0,0⟩,0)
 | [], _, ix, i, l3, l4, _, _ => by
   unfold rA
   rw[Dw]
   simp[tot]
 | z :: ps, hp, ix, i, l3, l4, h0, h1 => by
   have hz:=hp z (by simp)
   have hs:=hz.size
   have hw:w64 (z.rows*z.zP)=z.rows*z.zP:=an (by omega) (by omega)
   simp only[af]at h1
   unfold rA
   rw[hw,di,Ol hz _ _ _ _ _ _ h0 (by omega)]
   have hb:∀ c∈(fu z).map Cell.zS,0<=c/\c<=1099511627776:=by
    intro c hc
    obtain⟨x,hx,rfl⟩:=aZ.1 hc
    obtain⟨k,_,rfl⟩:=aZ.1 hx
    have:=hz.start k
    have:=hz.cap
    simp only[db];omega
   have ht:=od hb
   rw[bH,kO]at ht
   have e:(List.range' 0 (z.rows*z.zP).toNat).map (db z)=fu z:=rfl
   rw[e,Dx d ps (λ y hy=>hp y (by simp[hy])) (ix+1) _ _ _ (by omega) (by omega)]
   simp only[fj,bk,bT,pv,al,iT,kO,hN]
theorem Oo (d:yA):m83 d=fA d:=by
 unfold m83 fA
 cases h:df d != 0
 ·have hk:=cp h
  rw[cF,cF,Dx _ _ (λ z hz=>kB (hk.zJ z hz)) _ _ _ _ (by omega) (by have:=hk.zB;omega)]
  have hc:=mL h
  simp only[hc,bm,fS,Int.zero_add]
 ·rfl
theorem qf:∀ (ps:List yF),(∀ z∈ps,PlateOk z)->((ps.flatMap fu).length:Int)=br (ps.map fe)
 | [],_=>rfl
 | z :: ps, h => by
   have hz:=(h z (by simp)).size
   have ih:=qf ps λ y hy=>h y (by simp[hy])
   simp only[fj,al,kO,bn,br,fe]at ih ⊢
   omega
theorem jE {d:yA}(h:(df d != 0)=false):((bm d).length:Int)=br (aM d):=qf d.zB λ z hz=>kB ((cp h).zJ z hz)
end Go.Proofs.Mn
namespace Go.Proofs.Mo
open Go.Proofs.Tryz
open Go Go.VL Go.Proofs.Zn Go.Proofs.Mn
def wm (l:Log):Int:=(l.list.length:Int)
def iE (p:Int->Bool):List Int->Nat->Int
 | [],_ => -1
 | x::xs,i=>bif p x then(i:Int)else iE p xs (i+1)
theorem oq (p:Int->Bool):∀ (l:List Int) (i:Nat),iE p l i = -1\/((i:Int)<=iE p l i/\iE p l i<(i:Int)+l.length)
 | [],i=>.inl rfl
 | x :: xs, i => by
   unfold iE
   cases p x
   ·rw[cF]
    rcases oq p xs (i+1)with h|⟨h1,h2⟩
    ·exact .inl h
    ·exact .inr ⟨by omega,by simp only[af];omega⟩
   ·rw[cT]
    exact .inr ⟨by omega,by simp only[af];omega⟩
theorem AJ {p:Int->Bool}:∀ {l:List Int} {i:Nat},iE p l i<0->∀ x∈l,p x=false
 | [],i,_=>by simp
 | x :: xs, i, h => by
   unfold iE at h
   cases hp:p x
   ·rw[hp,cF]at h
    intro y hy
    rcases aB.1 hy with rfl|hy
    ·exact hp
    ·exact AJ h y hy
   ·rw[hp,cT]at h;omega
theorem jM (o:List Int):∀ (l:List Int) (i:Nat),ig o l i=iE (oC o) l i
 | [],i=>rfl
 | x :: xs, i => by
   unfold ig iE
   rw[jM o xs (i+1)]
theorem DK {o l:List Int}(h:¬ eF o l>=0):∀ x∈l,0<=x/\x<o.length:=by
 have h1:iE (oC o) l 0<0:=by
  have e:eF o l=iE (oC o) l 0:=jM o l 0
  rw[<-e];omega
 intro x hx
 have h2:=AJ h1 x hx
 unfold oC at h2
 by_cases h3:x<0
 ·rw[dT h3]at h2;cases h2
 ·rw[dF h3,cF]at h2
  have:=oF h2
  omega
theorem vZ (o l:List Int):eF o l<l.length /\ -1<=eF o l:=by
 have e:eF o l=iE (oC o) l 0:=jM o l 0
 rw[e]
 rcases oq (oC o) l 0 with h|h<;>omega
theorem nK (o:List Int)(w:Int):∀ (l:List Int) (i:Nat),eQ o w l i=iE (gr o w) l i
 | [],i=>rfl
 | x :: xs, i => by
   unfold eQ iE
   rw[nK o w xs (i+1)]
theorem nJ (o:List Int)(w:Int):∀ (l:List Int) (i:Nat),eP o w l i=iE (gq o w) l i
 | [],i=>rfl
 | x :: xs, i => by
   unfold eP iE
   rw[nJ o w xs (i+1)]
theorem vY (o:List Int)(w:Int)(l:List Int):er o w l<l.length /\ -1<=er o w l:=by
 have e:er o w l=iE (gr o w) l 0:=nK o w l 0
 rw[e]
 rcases oq (gr o w) l 0 with h|h<;>omega
theorem vX (o:List Int)(w:Int)(l:List Int):ej o w l<l.length /\ -1<=ej o w l:=by
 have e:ej o w l=iE (gq o w) l 0:=nJ o w l 0
 rw[e]
 rcases oq (gq o w) l 0 with h|h<;>omega
theorem jL {α:Type}{l:List α}{i:Nat}{x:α}(h:l[i]?=some x):l.set i x=l:=by
 refine dE λ j=>?_
 rw[aP]
 split
 ·rename_i e;subst e
  obtain⟨hi,hx⟩:=am.1 h
  simp[hi,hx]
 ·rfl
theorem getD_some {α:Type}{l:List α}{i:Nat}{d:α}(h:i<l.length):l[i]?=some (l.getD i d):=by simp[List.getD,h]
theorem EG (w:Int)(e:Bool)(x:List Int×Int×Int):∀ (i:Nat) (T:TypeId) (t:Ty) (xs:List t.ty),i<1->(bif e then(⟨[kD,i64 x.2.1,i64 x.2.2],[(0,.box [i64 w])],1⟩:yD)else⟨[.own 1 .int,i64 0,i64 0],[(0,.box [i64 w]),(1,.row 3 .int x.1)],2⟩).H.get i=some (.row T t xs)->∃ ys,Heap.get [(0,.box [i64 w])] i=some (.row T t ys)/\ys.length=xs.length:=λ i T t xs hi h=>by
 obtain rfl:i=0:=by omega
 cases e<;>cases h
theorem kp {l:Log}(h:gL l=true):1<=l.room/\l.room<=64/\0<=l.last/\l.last<=2147483647/\(l.list.length:Int)<=l.room/\(l.list.length:Int)<=l.last/\rZ (kC l) l.list 0=true:=by
 unfold gL at h
 by_cases h1:l.room<1
 ·rw[dT h1]at h;cases h
 rw[dF h1,cF]at h
 by_cases h2:l.room>64
 ·rw[dT h2]at h;cases h
 rw[dF h2,cF]at h
 by_cases h3:l.last<0
 ·rw[dT h3]at h;cases h
 rw[dF h3,cF]at h
 by_cases h4:l.last>2147483647
 ·rw[dT h4]at h;cases h
 rw[dF h4,cF]at h
 by_cases h5:(l.list.length:Int)>l.room
 ·rw[dT h5]at h;cases h
 rw[dF h5,cF]at h
 by_cases h6:(l.list.length:Int)>l.last
 ·rw[dT h6]at h;cases h
 rw[dF h6,cF]at h
 exact⟨by omega,by omega,by omega,by omega,by omega,by omega,h⟩
theorem gV {l:Log}(h:(!gL l)=false):kC l=l.last-l.list.length/\0<=kC l/\l.last<=2147483647/\l.list.length<=64/\0<=l.last/\(l.list.length:Int)<=l.room/\l.room<=64/\1<=l.room:=by
 obtain⟨h1,h2,h3,h4,h5,h6,_⟩:=kp (nf h)
 have e:kC l=l.last-l.list.length:=by
  unfold kC
  exact an (by omega) (by omega)
 exact⟨e,by omega,h4,by omega,h3,h5,h2,h1⟩
structure OkM (m:yE):Prop where
 zA:m.zI.zA.length<=1000000
 zB:m.zI.zB.length<=1000000
 zC:m.zI.zC.length<=1000000
 cells:m.zE.cells.length<=1000000
 zL:m.zE.zL.length<=1000000
 zK:m.zE.zK.length<=1000000
 zD:m.zD.length<=1000000
 start:∀ p∈m.zI.zB,p.start.length<=1000000
 list:∀ l∈m.zE.zL,l.list.length<=1000000
 fit:kS (m.zE.cells.map Cell.zS)
 own:m.zD.length<=100000
structure OkS (s:yC):Prop where
 cells:s.cells.length<=1000000
 zL:s.zL.length<=1000000
 zK:s.zK.length<=1000000
 list:∀ l∈s.zL,l.list.length<=1000000
 fit:kS (s.cells.map Cell.zS)
theorem OkM.toS {m:yE}(h:OkM m):OkS m.zE:=⟨h.cells,h.zL,h.zK,h.list,h.fit⟩
theorem uJ {α β:Type}{l:List α}{ix:Nat}(h:ix<l.length)(f:α->β)(d:α):(l.take ix).map f++[f (l.getD (Int.toNat (ix:Int)) d)]=(l.take (ix+1)).map f:=by
 rw[aY h,aW h,bT];rfl
theorem Kr {l:List Cell}(h:kS (l.map Cell.zS))(ix:Nat):kS ((l.take ix).map Cell.zS):=λ x hx=>by
 obtain⟨c,hc,rfl⟩:=aZ.1 hx
 exact h _ (List.mem_map_of_mem (gy hc))
def HW (s:yC):Int×Int:=ze (s.cells.map Cell.zS)
theorem Tk {s:yC}(h:OkS s):yJ prog 160 [⟨.zE,s⟩] [.int,.int] (HW s):=(Mn.c160 h.cells).eq (MO (by rw[bH];exact h.cells) h.fit)
theorem Jl {d:yA}(h:((m87 d).2 != 0)=false):(m87 d).1.zL.length=(m87 d).1.cells.length:=by
 rw[DP]at h ⊢
 unfold fA at h ⊢
 cases hz:df d != 0
 ·simp
 ·rfl
theorem OkM.start' {m:yE}(h:OkM m)(i:Nat):(m.zI.zB.getD i (Ty.dflt Ty.zJ)).start.length<=1000000:=by
 rcases ax i m.zI.zB.length with hi|hi
 ·rw[cH hi];exact h.start _ (aN hi)
 ·rw[show m.zI.zB.getD i (Ty.dflt Ty.zJ)=Ty.dflt Ty.zJ by simp[List.getD,aw hi]];decide
theorem OkM.list' {m:yE}(h:OkM m)(i:Nat):(m.zE.zL.getD i (Ty.dflt Ty.zW)).list.length<=1000000:=by
 rcases ax i m.zE.zL.length with hi|hi
 ·rw[cH hi];exact h.list _ (aN hi)
 ·rw[show m.zE.zL.getD i (Ty.dflt Ty.zW)=Ty.dflt Ty.zW by simp[List.getD,aw hi]];decide
open Go Go.VL
set_option maxRecDepth 20000
open Go.Proofs.Zn Go.Proofs.Mn
def fL (to:Int):List Int->Nat->(List Int)->(List Int×Int×Int)
 | [],ix,l1=>(l1,0,0)
 | z::zs,ix,l1=>fL to zs (ix+1) (l1.set (z).toNat to)
theorem nE (zU:List Int)(to w:Int)(hl:zU.length<=1000000)(o:List Int)(hb:∀ x∈zU,0<=x/\x<o.length){r:List Int×Int×Int}{A:List Item->AS->Prop}(hA:yP prog codes sigs f271 (eW 1) (λ r'=>yD.Le r' ((λ x:List Int×Int×Int=>(bif x.2.2 != 0 then⟨[kD,i64 x.2.1,i64 x.2.2],[(0,.box [i64 w])],1⟩else⟨[.own 1 .int,i64 0,i64 0],[(0,.box [i64 w]),(1,.row 3 .int x.1)],2⟩:yD)) r)) 1 A)(ix:Nat)(l1:List Int)(hv:l1.length=o.length)(h:fL to (List.drop ix zU) ix l1=r):A (hd f271 0) (jr zU to w l1 (ix:Int)):=by
 refine hA.go (BK zU to w l1 (ix:Int)) (ae (λ h1=>?_) (λ h1=>?_))
 ·have h1:=oT h1
  have hil:ix<zU.length:=by omega
  rw[be hil Ty.int.dflt,fL]at h
  have hz:=hb _ (me hil (d:=Ty.dflt Ty.int))
  refine⟨⟨⟨(by omega),(by first|omega|(have:=vZ o zU;omega)|(have:=vY o w zU;omega)|(have:=vX o w zU;omega))⟩,tv⟩,⟨(by omega),(by omega)⟩,⟨(by omega),tv,tv⟩,?_⟩
  rw[aq (by omega)]
  exact nE zU to w hl o hb hA (ix+1) _ (by simp only[co];omega) h
 ·have h1:=oF h1
  rw[dN (by omega),fL]at h
  exact⟨tv,.of_eq (by rw[<-h];first|rfl|(simp only[he];rfl))⟩
termination_by zU.length-ix
decreasing_by all_goals omega
def fG (o zU:List Int)(zT to e w:Int):List Int×Int×Int:=bif (!(GV o))then([],0,1)else bif (!(xA zT))then([],0,1)else bif (!(GU zU))then([],0,1)else bif decide ((eF o zU)>=0)then([],zU.getD (eF o zU).toNat Ty.int.dflt,3)else bif decide ((er o w zU)>=0)then([],zU.getD (er o w zU).toNat Ty.int.dflt,e)else fL to zU 0 o
theorem KY (o zU:List Int)(zT to e w:Int)(hl:zU.length<=1000000)(ho:o.length<=1000000)(he:(e != 0)=true):Gc prog 271 [.d (.sl .int o),.d (.sl .int zU),i64 zT,i64 to,.clo (.func 272) [] [.ptr 0 0],i64 e] [(0,.box [i64 w])] 1 ((λ x:List Int×Int×Int=>(bif x.2.2 != 0 then⟨[kD,i64 x.2.1,i64 x.2.2],[(0,.box [i64 w])],1⟩else⟨[.own 1 .int,i64 0,i64 0],[(0,.box [i64 w]),(1,.row 3 .int x.1)],2⟩:yD)) (fG o zU zT to e w)):=
 Gc.of_closed (C:=codes) (S:=sigs) mixed func271 (by kernel_rfl) (EG _ _ _) λ A hA=>hA.go (Im o zU zT to e w) (by
  generalize h:fG o zU zT to e w=r at hA ⊢
  unfold fG at h
  refine⟨⟨q2,tv⟩,_,SY _ (by omega),?_⟩
  refine aj h (λ g1 h=>?_) (λ g1 h=>?_)
  ·exact⟨tv,.of_eq (by rw[<-h];first|rfl|(simp only[he];rfl))⟩
  ·refine⟨⟨q2,tv⟩,_,Qp _,?_⟩
   refine aj h (λ g2 h=>?_) (λ g2 h=>?_)
   ·exact⟨tv,.of_eq (by rw[<-h];first|rfl|(simp only[he];rfl))⟩
   ·refine⟨⟨q2,tv⟩,_,SX _ (by omega),?_⟩
    refine aj h (λ g3 h=>?_) (λ g3 h=>?_)
    ·exact⟨tv,.of_eq (by rw[<-h];first|rfl|(simp only[he];rfl))⟩
    ·refine⟨eF o zU,Bo _ _ (by omega),?_⟩
     refine aj h (λ g4 h=>?_) (λ g4 h=>?_)
     ·have g4:=oT g4
      exact⟨⟨⟨(by omega),(by first|omega|(have:=vZ o zU;omega)|(have:=vY o w zU;omega)|(have:=vX o w zU;omega))⟩,tv⟩,tv,.of_eq (by rw[<-h];first|rfl|(simp only[he];rfl))⟩
     ·have g4:=oF g4
      refine⟨er o w zU,yl _ _ _ (by omega) (DK (by assumption)),?_⟩
      refine aj h (λ g5 h=>?_) (λ g5 h=>?_)
      ·have g5:=oT g5
       exact⟨⟨⟨(by omega),(by first|omega|(have:=vZ o zU;omega)|(have:=vY o w zU;omega)|(have:=vX o w zU;omega))⟩,tv⟩,tv,.of_eq (by rw[<-h];first|rfl|(simp only[he];rfl))⟩
      ·have g5:=oF g5
       refine⟨o,ym (by omega),?_⟩
       exact nE zU to w hl o (DK (by assumption)) hA 0 o (by rfl) h)
def fK (to:Int):List Int->Nat->(List Int)->(List Int×Int×Int)
 | [],ix,l1=>(l1,0,0)
 | z::zs,ix,l1=>fK to zs (ix+1) (l1.set (z).toNat to)
theorem nD (zU:List Int)(to w:Int)(hl:zU.length<=1000000)(o:List Int)(hb:∀ x∈zU,0<=x/\x<o.length){r:List Int×Int×Int}{A:List Item->AS->Prop}(hA:yP prog codes sigs f271 (eW 1) (λ r'=>yD.Le r' ((λ x:List Int×Int×Int=>(bif x.2.2 != 0 then⟨[kD,i64 x.2.1,i64 x.2.2],[(0,.box [i64 w])],1⟩else⟨[.own 1 .int,i64 0,i64 0],[(0,.box [i64 w]),(1,.row 3 .int x.1)],2⟩:yD)) r)) 1 A)(ix:Nat)(l1:List Int)(hv:l1.length=o.length)(h:fK to (List.drop ix zU) ix l1=r):A (hd f271 0) (uB zU to w l1 (ix:Int)):=by
 refine hA.go (BJ zU to w l1 (ix:Int)) (ae (λ h1=>?_) (λ h1=>?_))
 ·have h1:=oT h1
  have hil:ix<zU.length:=by omega
  rw[be hil Ty.int.dflt,fK]at h
  have hz:=hb _ (me hil (d:=Ty.dflt Ty.int))
  refine⟨⟨⟨(by omega),(by first|omega|(have:=vZ o zU;omega)|(have:=vY o w zU;omega)|(have:=vX o w zU;omega))⟩,tv⟩,⟨(by omega),(by omega)⟩,⟨(by omega),tv,tv⟩,?_⟩
  rw[aq (by omega)]
  exact nD zU to w hl o hb hA (ix+1) _ (by simp only[co];omega) h
 ·have h1:=oF h1
  rw[dN (by omega),fK]at h
  exact⟨tv,.of_eq (by rw[<-h];first|rfl|(simp only[he];rfl))⟩
termination_by zU.length-ix
decreasing_by all_goals omega
def fF (o zU:List Int)(zT to e w:Int):List Int×Int×Int:=bif (!(GV o))then([],0,1)else bif (!(xA zT))then([],0,1)else bif (!(GU zU))then([],0,1)else bif decide ((eF o zU)>=0)then([],zU.getD (eF o zU).toNat Ty.int.dflt,3)else bif decide ((ej o w zU)>=0)then([],zU.getD (ej o w zU).toNat Ty.int.dflt,e)else fK to zU 0 o
theorem KX (o zU:List Int)(zT to e w:Int)(hl:zU.length<=1000000)(ho:o.length<=1000000)(he:(e != 0)=true):Gc prog 271 [.d (.sl .int o),.d (.sl .int zU),i64 zT,i64 to,.clo (.func 273) [] [.ptr 0 0],i64 e] [(0,.box [i64 w])] 1 ((λ x:List Int×Int×Int=>(bif x.2.2 != 0 then⟨[kD,i64 x.2.1,i64 x.2.2],[(0,.box [i64 w])],1⟩else⟨[.own 1 .int,i64 0,i64 0],[(0,.box [i64 w]),(1,.row 3 .int x.1)],2⟩:yD)) (fF o zU zT to e w)):=
 Gc.of_closed (C:=codes) (S:=sigs) mixed func271 (by kernel_rfl) (EG _ _ _) λ A hA=>hA.go (Il o zU zT to e w) (by
  generalize h:fF o zU zT to e w=r at hA ⊢
  unfold fF at h
  refine⟨⟨q2,tv⟩,_,SY _ (by omega),?_⟩
  refine aj h (λ g1 h=>?_) (λ g1 h=>?_)
  ·exact⟨tv,.of_eq (by rw[<-h];first|rfl|(simp only[he];rfl))⟩
  ·refine⟨⟨q2,tv⟩,_,Qp _,?_⟩
   refine aj h (λ g2 h=>?_) (λ g2 h=>?_)
   ·exact⟨tv,.of_eq (by rw[<-h];first|rfl|(simp only[he];rfl))⟩
   ·refine⟨⟨q2,tv⟩,_,SX _ (by omega),?_⟩
    refine aj h (λ g3 h=>?_) (λ g3 h=>?_)
    ·exact⟨tv,.of_eq (by rw[<-h];first|rfl|(simp only[he];rfl))⟩
    ·refine⟨eF o zU,Bo _ _ (by omega),?_⟩
     refine aj h (λ g4 h=>?_) (λ g4 h=>?_)
     ·have g4:=oT g4
      exact⟨⟨⟨(by omega),(by first|omega|(have:=vZ o zU;omega)|(have:=vY o w zU;omega)|(have:=vX o w zU;omega))⟩,tv⟩,tv,.of_eq (by rw[<-h];first|rfl|(simp only[he];rfl))⟩
     ·have g4:=oF g4
      refine⟨ej o w zU,yk _ _ _ (by omega) (DK (by assumption)),?_⟩
      refine aj h (λ g5 h=>?_) (λ g5 h=>?_)
      ·have g5:=oT g5
       exact⟨⟨⟨(by omega),(by first|omega|(have:=vZ o zU;omega)|(have:=vY o w zU;omega)|(have:=vX o w zU;omega))⟩,tv⟩,tv,.of_eq (by rw[<-h];first|rfl|(simp only[he];rfl))⟩
      ·have g5:=oF g5
       refine⟨o,ym (by omega),?_⟩
       exact nD zU to w hl o (DK (by assumption)) hA 0 o (by rfl) h)
def pU (o zU:List Int)(w:Int):List Int×Int×Int:=let y1:=fG o zU w w 140 w;bif (lL y1)then([],y1.2.1,y1.2.2)else(y1.1,0,0)
theorem c229 (o zU:List Int)(w:Int)(hl:zU.length<=1000000)(ho:o.length<=1000000):yJ prog 229 [⟨.sl .int,o⟩,⟨.sl .int,zU⟩,⟨.int,w⟩] [.sl .int,.int,.int] (pU o zU w):=
 pcl codes sigs func229 (by kernel_rfl) λ A hA=>hA.go (t229 o zU w) (by
  generalize h:pU o zU w=r at hA ⊢
  unfold pU at h
  refine⟨fG o zU w w 140 w,KY _ _ _ _ _ _ (by omega) (by omega) (by decide),?_⟩
  refine aj h (λ g1 h=>?_) (λ g1 h=>?_)
  ·exact⟨⟨q2,q2,tv,tv⟩,h⟩
  ·exact⟨⟨q2,q2,tv,tv⟩,h⟩)
def pi (o zU:List Int)(w:Int):List Int×Int×Int:=let y1:=fF o zU w 0 141 w;bif (lL y1)then([],y1.2.1,y1.2.2)else(y1.1,0,0)
theorem Tf (o zU:List Int)(w:Int)(hl:zU.length<=1000000)(ho:o.length<=1000000):yJ prog 231 [⟨.sl .int,o⟩,⟨.sl .int,zU⟩,⟨.int,w⟩] [.sl .int,.int,.int] (pi o zU w):=
 pcl codes sigs func231 (by kernel_rfl) λ A hA=>hA.go (t231 o zU w) (by
  generalize h:pi o zU w=r at hA ⊢
  unfold pi at h
  refine⟨fF o zU w 0 141 w,KX _ _ _ _ _ _ (by omega) (by omega) (by decide),?_⟩
  refine aj h (λ g1 h=>?_) (λ g1 h=>?_)
  ·exact⟨⟨q2,q2,tv,tv⟩,h⟩
  ·exact⟨⟨q2,q2,tv,tv⟩,h⟩)
def lO (w:Int):List Int->Nat->(List Int)->(List Int)
 | [],ix,l1=>l1
 | z::zs,ix,l1=>bif (z==w)then lO w zs (ix+1) (l1++[(ix:Int)])else lO w zs (ix+1) l1
theorem pg (o:List Int)(w:Int)(hl:o.length<=1000000)  {r:List Int}{A:Pr}(hA:CL codes sigs f270 [.sl .int] r A)(ix:Nat)(l1:List Int)(hv:l1.length<=ix)(h:lO w (List.drop ix o) ix l1=r):A (hd f270 0) (uC o w (ix:Int) l1):=by
 refine hA.go (OV o w (ix:Int) l1) (ae (λ h1=>?_) (λ h1=>?_))
 ·have h1:=oT h1
  have hil:ix<o.length:=by omega
  rw[be hil Ty.int.dflt,lO]at h
  refine⟨⟨⟨(by omega),(by omega)⟩,tv⟩,?_⟩
  refine aj h (λ g1 h=>?_) (λ g1 h=>?_)
  ·try replace g1:=bo g1
   refine⟨⟨q2,tv⟩,⟨(by simp only[af,ak];omega),tv⟩,?_⟩
   rw[aq (by omega)]
   exact pg o w hl  hA (ix+1) _ (by first|omega|(simp only[al,af,ak];omega)) h
  ·rw[aq (by omega)]
   exact pg o w hl  hA (ix+1) _ (by first|omega|(simp only[al,af,ak];omega)) h
 ·have h1:=oF h1
  rw[dN (by omega),lO]at h
  exact⟨q2,h⟩
termination_by o.length-ix
decreasing_by all_goals omega
def Cr (o:List Int)(w:Int):List Int:=lO w o 0 []
theorem c270 (o:List Int)(w:Int)(hl:o.length<=1000000):yJ prog 270 [⟨.sl .int,o⟩,⟨.int,w⟩] [.sl .int] (Cr o w):=
 pcl codes sigs func270 (by kernel_rfl) λ A hA=>hA.go (t270 o w) (by
  generalize h:Cr o w=r at hA ⊢
  unfold Cr at h
  refine hA.row 5 3 .int (by kernel_rfl) (s':=uC o w 0 []) (by kernel_rfl) ?_
  exact pg o w hl  hA 0 [] (by simp) h)
def nC (w:Int):List Int->Nat->(List Int)->(List Int)
 | [],ix,l1=>l1
 | z::zs,ix,l1=>bif (z==w)then nC w zs (ix+1) (l1++[(ix:Int)])else nC w zs (ix+1) l1
theorem qH (o:List Int)(w:Int)(hl:o.length<=1000000)  {r:List Int}{A:Pr}(hA:CL codes sigs f39 [.sl .int] r A)(ix:Nat)(l1:List Int)(hv:l1.length<=ix)(h:nC w (List.drop ix o) ix l1=r):A (hd f39 0) (BC o w (ix:Int) l1):=by
 refine hA.go (Rp o w (ix:Int) l1) (ae (λ h1=>?_) (λ h1=>?_))
 ·have h1:=oT h1
  have hil:ix<o.length:=by omega
  rw[be hil Ty.int.dflt,nC]at h
  refine⟨⟨⟨(by omega),(by omega)⟩,tv⟩,?_⟩
  refine aj h (λ g1 h=>?_) (λ g1 h=>?_)
  ·try replace g1:=bo g1
   refine⟨⟨q2,tv⟩,⟨(by simp only[af,ak];omega),tv⟩,?_⟩
   rw[aq (by omega)]
   exact qH o w hl  hA (ix+1) _ (by first|omega|(simp only[al,af,ak];omega)) h
  ·rw[aq (by omega)]
   exact qH o w hl  hA (ix+1) _ (by first|omega|(simp only[al,af,ak];omega)) h
 ·have h1:=oF h1
  rw[dN (by omega),nC]at h
  exact⟨q2,h⟩
termination_by o.length-ix
decreasing_by all_goals omega
def m39 (o:List Int)(w:Int):List Int:=nC w o 0 []
theorem c39 (o:List Int)(w:Int)(hl:o.length<=1000000):yJ prog 39 [⟨.sl .int,o⟩,⟨.int,w⟩] [.sl .int] (m39 o w):=
 pcl codes sigs func39 (by kernel_rfl) λ A hA=>hA.go (t39 o w) (by
  generalize h:m39 o w=r at hA ⊢
  unfold m39 at h
  refine hA.row 5 3 .int (by kernel_rfl) (s':=BC o w 0 []) (by kernel_rfl) ?_
  exact qH o w hl  hA 0 [] (by simp) h)
def tx (o:List Int)(w:Int):List Int->Nat->(Int×Bool)
 | [],ix=>(0,false)
 | z::zs,ix=>bif decide (z<0)then(z,true)else bif decide (z>=(o.length:Int))then(z,true)else bif (o.getD (z).toNat Ty.int.dflt != w)then(z,true)else tx o w zs (ix+1)
theorem vG (o zU:List Int)(w:Int)(hl:zU.length<=1000000)  {r:Int×Bool}{A:Pr}(hA:CL codes sigs f99 [.int,.bool] r A)(ix:Nat)(h:tx o w (List.drop ix zU) ix=r):A (hd f99 0) (Fq o zU w (ix:Int)):=by
 refine hA.go (QW o zU w (ix:Int)) (ae (λ h1=>?_) (λ h1=>?_))
 ·have h1:=oT h1
  have hil:ix<zU.length:=by omega
  rw[be hil Ty.int.dflt,tx]at h
  refine⟨⟨⟨(by omega),(by omega)⟩,tv⟩,?_⟩
  refine aj h (λ g1 h=>?_) (λ g1 h=>?_)
  ·have g1:=oT g1
   exact⟨⟨q2,tv,tv⟩,h⟩
  ·have g1:=oF g1
   refine aj h (λ g2 h=>?_) (λ g2 h=>?_)
   ·have g2:=oT g2
    exact⟨⟨q2,tv,tv⟩,h⟩
   ·have g2:=oF g2
    refine⟨⟨⟨(by omega),(by omega)⟩,tv⟩,?_⟩
    refine aj h (λ g3 h=>?_) (λ g3 h=>?_)
    ·exact⟨⟨q2,tv,tv⟩,h⟩
    ·try replace g3:=ah.1 g3
     rw[aq (by omega)]
     exact vG o zU w hl  hA (ix+1) h
 ·have h1:=oF h1
  rw[dN (by omega),tx]at h
  exact⟨⟨q2,tv,tv⟩,h⟩
termination_by zU.length-ix
decreasing_by all_goals omega
def m99 (o zU:List Int)(w:Int):Int×Bool:=tx o w zU 0
theorem c99 (o zU:List Int)(w:Int)(hl:zU.length<=1000000):yJ prog 99 [⟨.sl .int,o⟩,⟨.sl .int,zU⟩,⟨.int,w⟩] [.int,.bool] (m99 o zU w):=
 pcl codes sigs func99 (by kernel_rfl) λ A hA=>hA.go (t99 o zU w) (by
  generalize h:m99 o zU w=r at hA ⊢
  unfold m99 at h
  exact vG o zU w hl  hA 0 h)
def kK (o:List Int)(w:Int):List Int->Nat->(Int×Bool)
 | [],ix=>(0,false)
 | z::zs,ix=>bif decide (z<0)then(z,true)else bif decide (z>=(o.length:Int))then(z,true)else bif (o.getD (z).toNat Ty.int.dflt != w)then(z,true)else kK o w zs (ix+1)
def xE (o zU:List Int)(w:Int):Int×Bool:=kK o w zU 0
def gW (o:List Int):List Int->Nat->(Int×Int)
 | [],ix=>(0,0)
 | z::zs,ix=>bif decide (z<0)then(z,3)else bif decide (z>=(o.length:Int))then(z,3)else gW o zs (ix+1)
def kG (o zU:List Int)(w:Int):Int×Int:=bif (!(xB o))then(0,1)else bif decide (w<1)then(0,1)else bif decide (w>8)then(0,1)else bif (!(Ct zU))then(0,1)else gW o zU 0
def kF (w:Int):List Int->Nat->(List Int)->(List Int)
 | [],ix,l1=>l1
 | z::zs,ix,l1=>kF w zs (ix+1) (l1.set (z).toNat w)
def iD (o zU:List Int)(w:Int):List Int:=kF w zU 0 o
def qM (l:List Tip)(b:Int):Int×Bool:=let y1:=JF l 0 (Tip.mk 2 b);(y1.1,y1.2)
theorem Qt (l:List Tip)(b:Int)(hl:l.length<=1000000):yJ prog 166 [⟨.sl .zV,l⟩,⟨.int,b⟩] [.int,.bool] (qM l b):=
 pcl codes sigs func166 (by kernel_rfl) λ A hA=>hA.go (t166 l b) (by
  generalize h:qM l b=r at hA ⊢
  unfold qM at h
  exact⟨⟨q2,q2,q3,tv⟩,_,Mn.c227 _ _ _ (by omega),⟨q2,tv,tv⟩,h⟩)
def eO (b:Int):List Tip->Nat->Int
 | [],ix=>(-1:Int)
 | z::zs,ix=>bif ((z).state==2)then bif ((z).by'==b)then(ix:Int)else eO b zs (ix+1)else eO b zs (ix+1)
theorem pj (s:yC)(b:Int)(hl:s.zK.length<=1000000)  {r:Int}{A:Pr}(hA:CL codes sigs f167 [.int] r A)(ix:Nat)(h:eO b (List.drop ix s.zK) ix=r):A (hd f167 0) (uE s b (ix:Int)):=by
 refine hA.go (OX s b (ix:Int)) (ae (λ h1=>?_) (λ h1=>?_))
 ·have h1:=oT h1
  have hil:ix<s.zK.length:=by omega
  rw[be hil Ty.zV.dflt,eO]at h
  refine⟨⟨⟨(by omega),(by omega)⟩,tv⟩,?_⟩
  refine aj h (λ g1 h=>?_) (λ g1 h=>?_)
  ·try replace g1:=bo g1
   refine⟨⟨⟨(by omega),(by omega)⟩,tv⟩,?_⟩
   refine aj h (λ g2 h=>?_) (λ g2 h=>?_)
   ·try replace g2:=bo g2
    exact⟨q2,h⟩
   ·rw[aq (by omega)]
    exact pj s b hl  hA (ix+1) h
  ·rw[aq (by omega)]
   exact pj s b hl  hA (ix+1) h
 ·have h1:=oF h1
  rw[dN (by omega),eO]at h
  exact⟨q2,h⟩
termination_by s.zK.length-ix
decreasing_by all_goals omega
def eC (s:yC)(b:Int):Int:=eO b s.zK 0
theorem c167 (s:yC)(b:Int)(hl:s.zK.length<=1000000):yJ prog 167 [⟨.zE,s⟩,⟨.int,b⟩] [.int] (eC s b):=
 pcl codes sigs func167 (by kernel_rfl) λ A hA=>hA.go (t167 s b) (by
  generalize h:eC s b=r at hA ⊢
  unfold eC at h
  exact pj s b hl  hA 0 h)
def Cm (m:yE)(l1:List (Option Nat))(l2:List yK)(l3:List yF)(l4:List Cell)(l5:List Log)(l6:List Tip) :yE:=yE.mk (yA.mk l1 l3 l2 m.zI.zO) (yC.mk l4 l5 l6 m.zE.start m.zE.zR m.zE.out) m.zD
theorem Ci (m:yE)(l1:List (Option Nat))(l2:List yK)(l3:List yF)(l4:List Cell)(l5:List Log)(l6:List Tip)(hb:OkM m)  {r:yE}{A:Pr}(hA:CL codes sigs f85 [.model] r A)(h:Cm m l1 l2 l3 l4 l5 l6=r):A (rg f85 19) (Dd m l1 l2 l3 l4 l5 l6):=by
 refine hA.go (OO m l1 l2 l3 l4 l5 l6) ?_
 unfold Cm at h
 obtain⟨b1,b2,b3,b4,b5,b6,b7,b8,b9,b10,b11⟩:=id hb
 exact⟨m.zD,ym (by omega),q12,h⟩
def xx (m:yE)(l1:List (Option Nat))(l2:List yK)(l3:List yF)(l4:List Cell)(l5:List Log) :yE:=Cm m l1 l2 l3 l4 l5 m.zE.zK
theorem Cj (m:yE)(l1:List (Option Nat))(l2:List yK)(l3:List yF)(l4:List Cell)(l5:List Log)(hb:OkM m)  {r:yE}{A:Pr}(hA:CL codes sigs f85 [.model] r A)(h:xx m l1 l2 l3 l4 l5=r):A (rg f85 18) (De m l1 l2 l3 l4 l5):=by
 refine hA.go (OP m l1 l2 l3 l4 l5) ?_
 unfold xx at h
 obtain⟨b1,b2,b3,b4,b5,b6,b7,b8,b9,b10,b11⟩:=id hb
 refine⟨m.zE.zK,Tm (by omega),?_⟩
 exact Ci m l1 l2 l3 l4 l5 m.zE.zK hb  hA  h
def Jv (l5:List Log)(i4:Int)(kc8:(List Log)->yE) :yE:=kc8 (l5.set i4.toNat (Log.mk (l5.getD i4.toNat Ty.zW.dflt).room (l5.getD i4.toNat Ty.zW.dflt).last (l5.getD i4.toNat Ty.zW.dflt).list))
theorem GJ (m:yE)(l1:List (Option Nat))(l2:List yK)(l3:List yF)(l4:List Cell)(i3:Int)(l5:List Log)(i4:Int)(hb:OkM m)(hq:i3=(m.zE.zL.length:Int)){r:yE}{A:Pr}(hA:CL codes sigs f85 [.model] r A)(kc8:(List Log)->yE)(hkc8:∀ (l5':List Log),(l5'=m.zE.zL)->kc8 l5'=r->A (hd f85 1) (By m l1 l2 l3 l4 i3 l5' (w64 (i4+(1:Int)))))(hv:l5=m.zE.zL/\0<=i4/\i4<i3)(h:Jv l5 i4 kc8=r):A (rg f85 16) (LC m l1 l2 l3 l4 i3 l5 i4):=by
 refine hA.go (Ra m l1 l2 l3 l4 i3 l5 i4) ?_
 unfold Jv at h
 have hl5:l5.length=m.zE.zL.length:=by rw[hv.1]
 have hz:(l5.getD i4.toNat Ty.zW.dflt).list.length<=1000000:=by rw[hv.1];exact hb.list' _
 refine⟨(l5.getD i4.toNat Ty.zW.dflt).list,Tn (by omega),⟨(by omega),(by omega)⟩,⟨(by omega),tv,tv⟩,?_⟩
 exact hkc8 _ (by first|exact hv|(rw[hv.1];exact jL (getD_some (by omega)))) h
def pP (m:yE)(l1:List (Option Nat))(l2:List yK)(l3:List yF)(l4:List Cell):Nat->Nat->(List Log)->yE
 | 0,ix,l5=>xx m l1 l2 l3 l4 l5
 | n+1,ix,l5=>Jv l5 (ix:Int) (λ l5'=>pP m l1 l2 l3 l4 n (ix+1) l5')
theorem vR (m:yE)(l1:List (Option Nat))(l2:List yK)(l3:List yF)(l4:List Cell)(i3:Int)(hb:OkM m)(hq:i3=(m.zE.zL.length:Int)){r:yE}{A:Pr}(hA:CL codes sigs f85 [.model] r A)(ix:Nat)(l5:List Log)(hv:l5=m.zE.zL)(h:pP m l1 l2 l3 l4 (i3.toNat-ix) ix l5=r):A (hd f85 1) (By m l1 l2 l3 l4 i3 l5 (ix:Int)):=by
 refine hA.go (Rb m l1 l2 l3 l4 i3 l5 (ix:Int)) (ae (λ h1=>?_) (λ h1=>?_))
 ·have h1:=oT h1
  have hil:i3.toNat-ix=(i3.toNat-(ix+1))+1:=by omega
  rw[hil,pP]at h
  obtain⟨b1,b2,b3,b4,b5,b6,b7,b8,b9,b10,b11⟩:=id hb
  have hl5:l5.length=m.zE.zL.length:=by rw[hv]
  refine⟨⟨(by omega),(by omega)⟩,(by omega),?_⟩
  exact GJ m l1 l2 l3 l4 i3 l5 (ix:Int) hb hq hA _ (λ l5' hv h=>by rw[aq (by omega)];exact vR m l1 l2 l3 l4 i3 hb hq hA (ix+1) l5' (by first|exact hv|(rw[hv.1];exact jL (getD_some (by omega)))) h)  (by exact⟨hv,by omega,by omega⟩) h
 ·have h1:=oF h1
  rw[show i3.toNat-ix=0 by omega,pP]at h
  exact Cj m l1 l2 l3 l4 l5 hb  hA  h
termination_by i3.toNat-ix
decreasing_by all_goals omega
def Jw (m:yE)(l1:List (Option Nat))(l2:List yK)(l3:List yF)(l4:List Cell) :yE:=pP m l1 l2 l3 l4 ((m.zE.zL.length:Int).toNat-0) 0 m.zE.zL
theorem GK (m:yE)(l1:List (Option Nat))(l2:List yK)(l3:List yF)(l4:List Cell)(hb:OkM m)  {r:yE}{A:Pr}(hA:CL codes sigs f85 [.model] r A)(h:Jw m l1 l2 l3 l4=r):A (rg f85 12) (LD m l1 l2 l3 l4):=by
 refine hA.go (Rc m l1 l2 l3 l4) ?_
 unfold Jw at h
 obtain⟨b1,b2,b3,b4,b5,b6,b7,b8,b9,b10,b11⟩:=id hb
 refine⟨m.zE.zL,To (by omega),?_⟩
 exact vR m l1 l2 l3 l4 (m.zE.zL.length:Int) hb rfl hA 0 m.zE.zL (by rfl) h
def Jx (m:yE)(l1:List (Option Nat))(l2:List yK)(l3:List yF) :yE:=Jw m l1 l2 l3 m.zE.cells
theorem GL (m:yE)(l1:List (Option Nat))(l2:List yK)(l3:List yF)(hb:OkM m)  {r:yE}{A:Pr}(hA:CL codes sigs f85 [.model] r A)(h:Jx m l1 l2 l3=r):A (rg f85 11) (LE m l1 l2 l3):=by
 refine hA.go (Rd m l1 l2 l3) ?_
 unfold Jx at h
 obtain⟨b1,b2,b3,b4,b5,b6,b7,b8,b9,b10,b11⟩:=id hb
 refine⟨m.zE.cells,Lg (by omega),?_⟩
 exact GK m l1 l2 l3 m.zE.cells hb  hA  h
def Aw (m:yE)(l1:List (Option Nat))(l2:List yK)(l3:List yF) :yE:=Jx m l1 l2 l3
theorem GM (m:yE)(l1:List (Option Nat))(l2:List yK)(l3:List yF)(hb:OkM m)  {r:yE}{A:Pr}(hA:CL codes sigs f85 [.model] r A)(h:Aw m l1 l2 l3=r):A (rg f85 10) (LF m l1 l2 l3):=by
 refine hA.go (Re m l1 l2 l3) ?_
 unfold Aw at h
 obtain⟨b1,b2,b3,b4,b5,b6,b7,b8,b9,b10,b11⟩:=id hb
 exact GL m l1 l2 l3 hb  hA  h
def Jy (l3:List yF)(i2:Int)(kc3:(List yF)->yE) :yE:=kc3 (l3.set i2.toNat (yF.mk (l3.getD i2.toNat Ty.zJ.dflt).rows (l3.getD i2.toNat Ty.zJ.dflt).zP (l3.getD i2.toNat Ty.zJ.dflt).x (l3.getD i2.toNat Ty.zJ.dflt).pitch (l3.getD i2.toNat Ty.zJ.dflt).reach (l3.getD i2.toNat Ty.zJ.dflt).cap (l3.getD i2.toNat Ty.zJ.dflt).start))
theorem GN (m:yE)(l1:List (Option Nat))(l2:List yK)(i1:Int)(l3:List yF)(i2:Int)(hb:OkM m)(hq:i1=(m.zI.zB.length:Int)){r:yE}{A:Pr}(hA:CL codes sigs f85 [.model] r A)(kc3:(List yF)->yE)(hkc3:∀ (l3':List yF),(l3'=m.zI.zB)->kc3 l3'=r->A (hd f85 0) (Bz m l1 l2 i1 l3' (w64 (i2+(1:Int)))))(hv:l3=m.zI.zB/\0<=i2/\i2<i1)(h:Jy l3 i2 kc3=r):A (rg f85 8) (LG m l1 l2 i1 l3 i2):=by
 refine hA.go (Rf m l1 l2 i1 l3 i2) ?_
 unfold Jy at h
 have hl3:l3.length=m.zI.zB.length:=by rw[hv.1]
 have hz:(l3.getD i2.toNat Ty.zJ.dflt).start.length<=1000000:=by rw[hv.1];exact hb.start' _
 refine⟨(l3.getD i2.toNat Ty.zJ.dflt).start,ym (by omega),⟨(by omega),(by omega)⟩,⟨(by omega),tv,tv⟩,?_⟩
 exact hkc3 _ (by first|exact hv|(rw[hv.1];exact jL (getD_some (by omega)))) h
def pQ (m:yE)(l1:List (Option Nat))(l2:List yK):Nat->Nat->(List yF)->yE
 | 0,ix,l3=>Aw m l1 l2 l3
 | n+1,ix,l3=>Jy l3 (ix:Int) (λ l3'=>pQ m l1 l2 n (ix+1) l3')
theorem vS (m:yE)(l1:List (Option Nat))(l2:List yK)(i1:Int)(hb:OkM m)(hq:i1=(m.zI.zB.length:Int)){r:yE}{A:Pr}(hA:CL codes sigs f85 [.model] r A)(ix:Nat)(l3:List yF)(hv:l3=m.zI.zB)(h:pQ m l1 l2 (i1.toNat-ix) ix l3=r):A (hd f85 0) (Bz m l1 l2 i1 l3 (ix:Int)):=by
 refine hA.go (Rg m l1 l2 i1 l3 (ix:Int)) (ae (λ h1=>?_) (λ h1=>?_))
 ·have h1:=oT h1
  have hil:i1.toNat-ix=(i1.toNat-(ix+1))+1:=by omega
  rw[hil,pQ]at h
  obtain⟨b1,b2,b3,b4,b5,b6,b7,b8,b9,b10,b11⟩:=id hb
  have hl3:l3.length=m.zI.zB.length:=by rw[hv]
  refine⟨⟨(by omega),(by omega)⟩,(by omega),?_⟩
  exact GN m l1 l2 i1 l3 (ix:Int) hb hq hA _ (λ l3' hv h=>by rw[aq (by omega)];exact vS m l1 l2 i1 hb hq hA (ix+1) l3' (by first|exact hv|(rw[hv.1];exact jL (getD_some (by omega)))) h)  (by exact⟨hv,by omega,by omega⟩) h
 ·have h1:=oF h1
  rw[show i1.toNat-ix=0 by omega,pQ]at h
  exact GM m l1 l2 l3 hb  hA  h
termination_by i1.toNat-ix
decreasing_by all_goals omega
def Jz (m:yE)(l1:List (Option Nat))(l2:List yK) :yE:=pQ m l1 l2 ((m.zI.zB.length:Int).toNat-0) 0 m.zI.zB
theorem GO (m:yE)(l1:List (Option Nat))(l2:List yK)(hb:OkM m)  {r:yE}{A:Pr}(hA:CL codes sigs f85 [.model] r A)(h:Jz m l1 l2=r):A (rg f85 4) (LH m l1 l2):=by
 refine hA.go (Rh m l1 l2) ?_
 unfold Jz at h
 obtain⟨b1,b2,b3,b4,b5,b6,b7,b8,b9,b10,b11⟩:=id hb
 refine⟨m.zI.zB,Qv (by omega),?_⟩
 exact vS m l1 l2 (m.zI.zB.length:Int) hb rfl hA 0 m.zI.zB (by rfl) h
def JA (m:yE)(l1:List (Option Nat)) :yE:=Jz m l1 m.zI.zC
theorem GP (m:yE)(l1:List (Option Nat))(hb:OkM m)  {r:yE}{A:Pr}(hA:CL codes sigs f85 [.model] r A)(h:JA m l1=r):A (rg f85 3) (LI m l1):=by
 refine hA.go (Ri m l1) ?_
 unfold JA at h
 obtain⟨b1,b2,b3,b4,b5,b6,b7,b8,b9,b10,b11⟩:=id hb
 refine⟨m.zI.zC,CW (by omega),?_⟩
 exact GO m l1 m.zI.zC hb  hA  h
def JB (m:yE) :yE:=JA m m.zI.zA
theorem GQ (m:yE)(hb:OkM m)  {r:yE}{A:Pr}(hA:CL codes sigs f85 [.model] r A)(h:JB m=r):A (rg f85 2) (LJ m):=by
 refine hA.go (Rj m) ?_
 unfold JB at h
 obtain⟨b1,b2,b3,b4,b5,b6,b7,b8,b9,b10,b11⟩:=id hb
 refine⟨m.zI.zA,ND (by omega),?_⟩
 exact GP m m.zI.zA hb  hA  h
def m85 (m:yE):yE:=JB m
theorem c85 (m:yE)(hb:OkM m):yJ prog 85 [⟨.model,m⟩] [.model] (m85 m):=
 pcl codes sigs func85 (by kernel_rfl) λ A hA=>hA.go (t85 m) (by
  generalize h:m85 m=r at hA ⊢
  unfold m85 at h
  exact GQ m hb  hA  h)
def qN (l:Log)(v:Int):List yM->Nat->(List yM)->(List yM×Int)
 | [],ix,l1=>bif ((l1.length:Int) != w64 (l.last-v))then([],111)else(l1,0)
 | z::zs,ix,l1=>bif decide ((z).ver>v)then qN l v zs (ix+1) (l1++[z])else qN l v zs (ix+1) l1
def iS (l:Log)(v:Int):List yM×Int:=bif (!(gL l))then([],110)else bif decide (v<0)then([],1)else bif decide (v>l.last)then([],1)else qN l v l.list 0 []
def tL (l:Log)(v:Int):List yM×Int:=bif (!(gL l))then([],110)else bif decide (v<0)then([],1)else bif decide (v>l.last)then([],1)else bif decide (v<(kC l))then([],111)else([]++List.drop (w64 (v-(kC l))).toNat l.list,0)
theorem c235 (l:Log)(v:Int)(hl:l.list.length<=1000000):yJ prog 235 [⟨.zW,l⟩,⟨.int,v⟩] [.sl .change,.int] (tL l v):=
 pcl codes sigs func235 (by kernel_rfl) λ A hA=>hA.go (t235 l v) (by
  generalize h:tL l v=r at hA ⊢
  unfold tL at h
  refine⟨⟨q4,tv⟩,_,Mn.NA _,?_⟩
  refine aj h (λ g1 h=>?_) (λ g1 h=>?_)
  ·exact⟨⟨q2,tv,tv⟩,h⟩
  ·refine aj h (λ g2 h=>?_) (λ g2 h=>?_)
   ·have g2:=oT g2
    exact⟨⟨q2,tv,tv⟩,h⟩
   ·have g2:=oF g2
    refine aj h (λ g3 h=>?_) (λ g3 h=>?_)
    ·have g3:=oT g3
     exact⟨⟨q2,tv,tv⟩,h⟩
    ·have g3:=oF g3
     refine⟨⟨q4,tv⟩,_,Mn.Qq _,?_⟩
     refine aj h (λ g4 h=>?_) (λ g4 h=>?_)
     ·have g4:=oT g4
      exact⟨⟨q2,tv,tv⟩,h⟩
     ·have g4:=oF g4
      exact⟨tv,⟨q4,tv⟩,_,Mn.Qq _,⟨⟨(by first|omega|(exact .inl (by simp))|(have hq:=gV (by assumption);first|omega|(rw[an (by omega) (by omega)];omega)|(simp only[al,af,ak,aL,aD,au];omega))),(by first|omega|(exact .inl (by simp))|(have hq:=gV (by assumption);first|omega|(rw[an (by omega) (by omega)];omega)|(simp only[al,af,ak,aL,aD,au];omega)))⟩,tv⟩,⟨(by first|omega|(exact .inl (by simp))|(have hq:=gV (by assumption);first|omega|(rw[an (by omega) (by omega)];omega)|(simp only[al,af,ak,aL,aD,au];omega))),tv⟩,⟨q2,tv,tv⟩,h⟩)
def PU (l:Log)(b n:Int):Log×Int:=bif (!(gL l))then(Log.mk 0 0 [],110)else bif (!(mO b n))then(Log.mk 0 0 [],1)else bif (l.last==2147483647)then(Log.mk 0 0 [],101)else bif decide ((↑([]++l.list++[yM.mk (w64 (l.last+1)) b n]).length:Int)>l.room)then(Log.mk l.room (w64 (l.last+1)) (List.take (([]++l.list++[yM.mk (w64 (l.last+1)) b n]).length-1) (List.drop 1 ([]++l.list++[yM.mk (w64 (l.last+1)) b n]))),0)else(Log.mk l.room (w64 (l.last+1)) ([]++l.list++[yM.mk (w64 (l.last+1)) b n]),0)
def GT (l:Log)(b n:Int):Log×Int:=bif (!(gL l))then(Log.mk 0 0 [],110)else bif (!(mO b n))then(Log.mk 0 0 [],1)else bif (l.last==2147483647)then(Log.mk 0 0 [],101)else bif ((wm l)==l.room)then let y1:=wm (Log.mk l.room (w64 (l.last+1)) l.list);(Log.mk l.room (w64 (l.last+1)) (List.drop 1 (List.take y1.toNat l.list)++[yM.mk (w64 (l.last+1)) b n]),0)else let y2:=wm (Log.mk l.room (w64 (l.last+1)) l.list);(Log.mk l.room (w64 (l.last+1)) (List.drop 0 (List.take y2.toNat l.list)++[yM.mk (w64 (l.last+1)) b n]),0)
theorem c305 (l:Log)(b n:Int)(hl:l.list.length<=1000000):yJ prog 305 [⟨.zW,l⟩,⟨.int,b⟩,⟨.int,n⟩] [.zW,.int] (GT l b n):=
 pcl codes sigs func305 (by kernel_rfl) λ A hA=>hA.go (t305 l b n) (by
  generalize h:GT l b n=r at hA ⊢
  unfold GT at h
  refine⟨⟨q4,tv⟩,_,Mn.NA _,?_⟩
  refine aj h (λ g1 h=>?_) (λ g1 h=>?_)
  ·exact⟨⟨q4,tv,tv⟩,h⟩
  ·refine⟨⟨q2,q2,tv⟩,_,Mn.Td _ _,?_⟩
   refine aj h (λ g2 h=>?_) (λ g2 h=>?_)
   ·exact⟨⟨q4,tv,tv⟩,h⟩
   ·refine aj h (λ g3 h=>?_) (λ g3 h=>?_)
    ·try replace g3:=bo g3
     exact⟨⟨q4,tv,tv⟩,h⟩
    ·refine⟨⟨q4,tv⟩,_,Mn.CU _,?_⟩
     refine aj h (λ g4 h=>?_) (λ g4 h=>?_)
     ·try replace g4:=bo g4
      exact⟨⟨q4,tv⟩,_,Mn.CU _,⟨q4,tv⟩,_,Mn.CU _,⟨⟨(by first|omega|(exact .inl (by simp))|(have hq:=gV (by assumption);first|omega|(rw[an (by omega) (by omega)];omega)|(simp only[al,af,ak,aL,aD,au];omega))),(by first|omega|(exact .inl (by simp))|(have hq:=gV (by assumption);first|omega|(rw[an (by omega) (by omega)];omega)|(simp only[al,af,ak,aL,aD,au];omega))),(by first|omega|(exact .inl (by simp))|(have hq:=gV (by assumption);first|omega|(rw[an (by omega) (by omega)];omega)|(simp only[al,af,ak,aL,aD,au];omega))),(by first|omega|(exact .inl (by simp))|(have hq:=gV (by assumption);first|omega|(rw[an (by omega) (by omega)];omega)|(simp only[al,af,ak,aL,aD,au];omega)))⟩,tv⟩,⟨q4,tv⟩,⟨⟨(by first|omega|(exact .inl (by simp))|(have hq:=gV (by assumption);first|omega|(rw[an (by omega) (by omega)];omega)|(simp only[al,af,ak,aL,aD,au];omega))),(by first|omega|(exact .inl (by simp))|(have hq:=gV (by assumption);first|omega|(rw[an (by omega) (by omega)];omega)|(simp only[al,af,ak,aL,aD,au];omega)))⟩,tv⟩,⟨q4,tv,tv⟩,h⟩
     ·exact⟨⟨q4,tv⟩,_,Mn.CU _,⟨q4,tv⟩,_,Mn.CU _,⟨⟨(by first|omega|(exact .inl (by simp))|(have hq:=gV (by assumption);first|omega|(rw[an (by omega) (by omega)];omega)|(simp only[al,af,ak,aL,aD,au];omega))),(by first|omega|(exact .inl (by simp))|(have hq:=gV (by assumption);first|omega|(rw[an (by omega) (by omega)];omega)|(simp only[al,af,ak,aL,aD,au];omega))),(by first|omega|(exact .inl (by simp))|(have hq:=gV (by assumption);first|omega|(rw[an (by omega) (by omega)];omega)|(simp only[al,af,ak,aL,aD,au];omega))),(by first|omega|(exact .inl (by simp))|(have hq:=gV (by assumption);first|omega|(rw[an (by omega) (by omega)];omega)|(simp only[al,af,ak,aL,aD,au];omega)))⟩,tv⟩,⟨q4,tv⟩,⟨⟨(by first|omega|(exact .inl (by simp))|(have hq:=gV (by assumption);first|omega|(rw[an (by omega) (by omega)];omega)|(simp only[al,af,ak,aL,aD,au];omega))),(by first|omega|(exact .inl (by simp))|(have hq:=gV (by assumption);first|omega|(rw[an (by omega) (by omega)];omega)|(simp only[al,af,ak,aL,aD,au];omega)))⟩,tv⟩,⟨q4,tv,tv⟩,h⟩)
open Wn (dl bz)
set_option maxRecDepth 20000
def hO (n:Int):List Tip->List Int->Bool
 | [],c => !(pO c)
 | t::ts,c=>bif !(gl t)then false else bif decide (t.by'>n)then false else bif t.state==2 then hO n ts (c.set t.by'.toNat (w64 (c.getD t.by'.toNat 0+1)))else hO n ts c
def CG (l:List Tip)(n:Int):Bool:=hO n l [0,0,0,0,0,0,0,0,0]
theorem sH {t:Tip}(h:(!(gl t))=false)(h2:(t.state==2)=true):t.by'=1\/t.by'=2\/t.by'=3\/t.by'=4\/t.by'=5\/t.by'=6\/t.by'=7\/t.by'=8:=by
 have h:=nf h
 unfold gl at h
 rw[h2,cT]at h
 unfold pp at h
 by_cases h3:t.by'>=1
 ·rw[dT h3,cT]at h
  have:=oT h
  omega
 ·rw[dF h3]at h;cases h
theorem jF {l:List Tip}{n:Int}(hl:l.length<=1000000){r:Bool}{A:Pr}(hA:CL codes sigs f157 [.bool] r A)(ix:Nat)(c0 c1 c2 c3 c4 c5 c6 c7 c8:Int)
  (h:hO n (l.drop ix) [c0,c1,c2,c3,c4,c5,c6,c7,c8]=r):A (hd f157 0) (aX l n (ix:Int) c8 c7 c6 c5 c4 c3 c2 c1 c0):=by
 refine hA.go (OZ l n (ix:Int) c8 c7 c6 c5 c4 c3 c2 c1 c0) (ae (λ h1=>?_) (λ h1=>?_))
 ·have h1:=oT h1
  have hil:ix<l.length:=by omega
  rw[be hil (Ty.dflt Ty.zV),hO]at h
  refine⟨⟨⟨by omega,by omega⟩,tv⟩,⟨⟨tv,tv,tv⟩,tv⟩,_,Mn.Qs _,?_⟩
  refine aj h (λ g1 h=>⟨⟨tv,tv⟩,h⟩) (λ g1 h=>?_)
  refine aj h (λ g2 h=>⟨⟨tv,tv⟩,h⟩) (λ g2 h=>?_)
  refine aj h (λ g3 h=>?_) (λ g3 h=>?_)
  ·rw[aq (by omega)]
   rcases sH g1 g3 with e|e|e|e|e|e|e|e
   ·rw[e]at h
    refine bz (by rw[e];rfl) ?_
    refine bz (by rw[e];rfl) ?_
    refine bz (by rw[e];rfl) ?_
    refine bz (by rw[e];rfl) ?_
    refine bz (by rw[e];rfl) ?_
    refine bz (by rw[e];rfl) ?_
    refine bz (by rw[e];rfl) ?_
    refine dl (by rw[e];rfl) ?_
    refine bz (by rw[e];rfl) ?_
    refine bz (by rw[e];rfl) ?_
    refine bz (by rw[e];rfl) ?_
    refine bz (by rw[e];rfl) ?_
    refine bz (by rw[e];rfl) ?_
    refine bz (by rw[e];rfl) ?_
    refine bz (by rw[e];rfl) ?_
    refine dl (by rw[e];rfl) ?_
    exact jF hl hA (ix+1) c0 (w64 (c1+1)) c2 c3 c4 c5 c6 c7 c8 h
   ·rw[e]at h
    refine bz (by rw[e];rfl) ?_
    refine bz (by rw[e];rfl) ?_
    refine bz (by rw[e];rfl) ?_
    refine bz (by rw[e];rfl) ?_
    refine bz (by rw[e];rfl) ?_
    refine bz (by rw[e];rfl) ?_
    refine dl (by rw[e];rfl) ?_
    refine bz (by rw[e];rfl) ?_
    refine bz (by rw[e];rfl) ?_
    refine bz (by rw[e];rfl) ?_
    refine bz (by rw[e];rfl) ?_
    refine bz (by rw[e];rfl) ?_
    refine bz (by rw[e];rfl) ?_
    refine dl (by rw[e];rfl) ?_
    exact jF hl hA (ix+1) c0 c1 (w64 (c2+1)) c3 c4 c5 c6 c7 c8 h
   ·rw[e]at h
    refine bz (by rw[e];rfl) ?_
    refine bz (by rw[e];rfl) ?_
    refine bz (by rw[e];rfl) ?_
    refine bz (by rw[e];rfl) ?_
    refine bz (by rw[e];rfl) ?_
    refine dl (by rw[e];rfl) ?_
    refine bz (by rw[e];rfl) ?_
    refine bz (by rw[e];rfl) ?_
    refine bz (by rw[e];rfl) ?_
    refine bz (by rw[e];rfl) ?_
    refine bz (by rw[e];rfl) ?_
    refine dl (by rw[e];rfl) ?_
    exact jF hl hA (ix+1) c0 c1 c2 (w64 (c3+1)) c4 c5 c6 c7 c8 h
   ·rw[e]at h
    refine bz (by rw[e];rfl) ?_
    refine bz (by rw[e];rfl) ?_
    refine bz (by rw[e];rfl) ?_
    refine bz (by rw[e];rfl) ?_
    refine dl (by rw[e];rfl) ?_
    refine bz (by rw[e];rfl) ?_
    refine bz (by rw[e];rfl) ?_
    refine bz (by rw[e];rfl) ?_
    refine bz (by rw[e];rfl) ?_
    refine dl (by rw[e];rfl) ?_
    exact jF hl hA (ix+1) c0 c1 c2 c3 (w64 (c4+1)) c5 c6 c7 c8 h
   ·rw[e]at h
    refine bz (by rw[e];rfl) ?_
    refine bz (by rw[e];rfl) ?_
    refine bz (by rw[e];rfl) ?_
    refine dl (by rw[e];rfl) ?_
    refine bz (by rw[e];rfl) ?_
    refine bz (by rw[e];rfl) ?_
    refine bz (by rw[e];rfl) ?_
    refine dl (by rw[e];rfl) ?_
    exact jF hl hA (ix+1) c0 c1 c2 c3 c4 (w64 (c5+1)) c6 c7 c8 h
   ·rw[e]at h
    refine bz (by rw[e];rfl) ?_
    refine bz (by rw[e];rfl) ?_
    refine dl (by rw[e];rfl) ?_
    refine bz (by rw[e];rfl) ?_
    refine bz (by rw[e];rfl) ?_
    refine dl (by rw[e];rfl) ?_
    exact jF hl hA (ix+1) c0 c1 c2 c3 c4 c5 (w64 (c6+1)) c7 c8 h
   ·rw[e]at h
    refine bz (by rw[e];rfl) ?_
    refine dl (by rw[e];rfl) ?_
    refine bz (by rw[e];rfl) ?_
    refine dl (by rw[e];rfl) ?_
    exact jF hl hA (ix+1) c0 c1 c2 c3 c4 c5 c6 (w64 (c7+1)) c8 h
   ·rw[e]at h
    refine dl (by rw[e];rfl) ?_
    refine dl (by rw[e];rfl) ?_
    exact jF hl hA (ix+1) c0 c1 c2 c3 c4 c5 c6 c7 (w64 (c8+1)) h
  ·rw[aq (by omega)]
   exact jF hl hA (ix+1) c0 c1 c2 c3 c4 c5 c6 c7 c8 h
 ·have h1:=oF h1
  rw[dN (by omega),hO]at h
  exact⟨tv,_,Nx _ (by simp),⟨tv,tv⟩,h⟩
termination_by l.length-ix
decreasing_by all_goals omega
theorem c157 {l:List Tip}{n:Int}(hl:l.length<=1000000):yJ prog 157 [⟨.sl .zV,l⟩,⟨.int,n⟩] [.bool] (CG l n):=
 pcl codes sigs func157 (by kernel_rfl) λ A hA=>hA.go (t157 l n) (jF hl hA 0 0 0 0 0 0 0 0 0 0 rfl)
theorem oa {d:yA}(h:(df d != 0)=false):(bx d).1=br (aM d):=by
 unfold bx
 rw[ve h];rfl
theorem yf (d:yA):w64 (w64 ((bx d).1+(bx d).2.1)+(bx d).2.2)=(bx d).1+(bx d).2.1+(bx d).2.2:=by
 have:=uk d
 rw[an (n:=(bx d).1+(bx d).2.1) (by omega) (by omega),an (by omega) (by omega)]
theorem CR (d:yA):w64 (w64 ((bx d).1+(bx d).2.1)+(bx d).2.2)<=1000000:=by
 have:=uk d
 rw[yf];omega
theorem MF (n:Int):(Gv n).length=n.toNat:=by
 unfold Gv
 by_cases h:n<0
 ·rw[dT h,cT,ak];omega
 ·rw[dF h,cF,cL]
theorem vo {z:yF}(h:dO z=true):z.start.length<=1536:=by
 have hs:=(kB h).size
 unfold dO at h
 cases hb:cW (fe z)
 ·rw[hb]at h;cases h
 rw[hb,cT]at h
 unfold mJ at h
 by_cases h1:z.cap<1
 ·rw[dT h1]at h;cases h
 rw[dF h1,cF]at h
 by_cases h2:z.cap>1099511627776
 ·rw[dT h2]at h;cases h
 rw[dF h2,cF]at h
 by_cases h3:(z.start.length:Int)>z.rows*z.zP
 ·rw[dT h3]at h;cases h
 omega
theorem MQ {d:yA}(h:(df d != 0)=false):∀ c∈bm d,0<=c.zS/\c.zS<=c.cap/\c.cap<=1099511627776:=by
 intro c hc
 obtain⟨z,hz,hc⟩:=jz.1 hc
 obtain⟨k,_,rfl⟩:=aZ.1 hc
 have hk:=kB ((cp h).zJ z hz)
 have h1:=hk.start k
 have h2:=hk.cap
 simp only[db];omega
theorem SC {d:yA}(h:(df d != 0)=false){o:List Int}(ho:o.length<=100000):OkM ⟨d,(fA d).1,o⟩:=by
 have hk:=cp h
 have hl:=jE h
 have hw:=hk.wells
 have ht:=hk.zK
 unfold fA
 rw[h,cF]
 refine⟨?_,?_,?_,?_,?_,?_,by show o.length<=_;omega,λ p hp=>?_,λ l hl=>?_,λ x hx=>?_,ho⟩
 ·have:=hk.lanes;show d.zA.length<=_;omega
 ·have:=hk.zB;show d.zB.length<=_;omega
 ·have:=hk.zC;show d.zC.length<=_;omega
 ·show(bm d).length<=_;omega
 ·show(List.replicate _ uX).length<=_;rw[cL];omega
 ·show(List.replicate _ _).length<=_;rw[cL];omega
 ·have:=vo (hk.zJ p hp);omega
 ·obtain rfl:=(List.mem_replicate.1 hl).2;decide
 ·obtain⟨c,hc,rfl⟩:=aZ.1 hx
  have:=MQ h c hc
  unfold cD;omega
theorem PS {d:yA}(h:(m83 d).2=0):(df d != 0)=false:=by
 rw[Oo]at h
 unfold fA at h
 cases hz:df d != 0
 ·rfl
 ·rw[hz,cT]at h
  rw[show df d=0 from h]at hz;cases hz
theorem PO {d:yA}(h:(m83 d).2=0):OkM ⟨d,(m83 d).1,Gv (w64 (w64 ((bx d).1+(bx d).2.1)+(bx d).2.2))⟩:=by
 rw[Oo]
 refine SC (PS h) ?_
 rw[MF,yf]
 have:=uk d
 omega
theorem SM {s:yC}{d:yA}{H0:Heap}:∀ (i:Nat) (T:TypeId) (t:Ty) (xs:List t.ty),i<1->Heap.get (qm s d) i=some (.row T t xs)->∃ ys,H0.get i=some (.row T t ys)/\ys.length=xs.length:=λ i T t xs hi h=>by
 obtain rfl:i=0:=by omega
 cases h
theorem Mq {b:List AV}{cs x1:List Cell}{ls x2:List Log}{ts:List Tip}(h1:x1.length=cs.length)(h2:x2.length=ls.length):∀ (i:Nat) (T:TypeId) (t:Ty) (xs:List t.ty),i<4 ->
  Heap.get [(0,.box b),(1,.row 76 .cell x1),(2,.row 146 .zW x2),(3,.row 194 .zV ts)] i=some (.row T t xs)->∃ ys,Heap.get [(0,.box b),(1,.row 76 .cell cs),(2,.row 146 .zW ls),(3,.row 194 .zV ts)] i=some (.row T t ys)/\ys.length=xs.length:=λ i T t xs hi h=>by
 match i,h with
 | 0,h=>cases h
 | 1,h=>cases h;exact⟨cs,rfl,h1.symm⟩
 | 2,h=>cases h;exact⟨ls,rfl,h2.symm⟩
 | 3,h=>cases h;exact⟨ts,rfl,rfl⟩
 | i+4,h=>omega
theorem OkS.list' {s:yC}(h:OkS s)(i:Nat):(s.zL.getD i (Ty.dflt Ty.zW)).list.length<=1000000:=by
 rcases ax i s.zL.length with hi|hi
 ·rw[cH hi];exact h.list _ (aN hi)
 ·rw[show s.zL.getD i (Ty.dflt Ty.zW)=Ty.dflt Ty.zW by simp[List.getD,aw hi]];decide
set_option maxRecDepth 20000
open Go.Proofs.Zn Go.Proofs.Mn
def nH :List Cell->Nat->(List Int)->(Int×Int)
 | [],ix,l1=>((ze l1).1,(ze l1).2)
 | z::zs,ix,l1=>nH zs (ix+1) (l1++[(z).zS])
theorem tM (s:yC)(hb:OkS s)  {r:Int×Int}{A:Pr}(hA:CL codes sigs f165 [.int,.int] r A)(ix:Nat)(l1:List Int)(hv:l1=(s.cells.take ix).map Cell.zS)(h:nH (List.drop ix s.cells) ix l1=r):A (hd f165 0) (yw s (ix:Int) l1):=by
 refine hA.go (OY s (ix:Int) l1) (ae (λ h1=>?_) (λ h1=>?_))
 ·have h1:=oT h1
  have hil:ix<s.cells.length:=by omega
  rw[be hil Ty.cell.dflt,nH]at h
  obtain⟨b1,b2,b3,b4,b5⟩:=id hb
  refine⟨⟨⟨(by omega),(by omega)⟩,tv⟩,⟨q2,tv⟩,⟨(by rw[hv];simp only[bH,aD,af,ak];omega),tv⟩,?_⟩
  rw[aq (by omega)]
  exact tM s hb  hA (ix+1) _ (by rw[hv];exact uJ hil _ _) h
 ·have h1:=oF h1
  rw[dN (by omega),nH]at h
  exact⟨⟨q2,tv⟩,_,Mn.c226 (by rw[hv];simp only[bH,aD];have:=hb.cells;omega) (by rw[hv];exact Kr hb.fit _),⟨q2,tv,tv⟩,h⟩
termination_by s.cells.length-ix
decreasing_by all_goals omega
def xD (s:yC):Int×Int:=nH s.cells 0 []
theorem c165 (s:yC)(hb:OkS s):yJ prog 165 [⟨.zE,s⟩] [.int,.int] (xD s):=
 pcl codes sigs func165 (by kernel_rfl) λ A hA=>hA.go (t165 s) (by
  generalize h:xD s=r at hA ⊢
  unfold xD at h
  refine hA.row 4 3 .int (by kernel_rfl) (s':=yw s 0 []) (by kernel_rfl) ?_
  exact tM s hb  hA 0 [] (by rfl) h)
def rq (l4:List Int)(z1:Tip)(kc1:(List Int)->Bool):List Int->Nat->Bool
 | [],ix=>bif ((z1).state==2)then kc1 (l4++[(z1).by'])else kc1 l4
 | z::zs,ix=>bif (z==(z1).by')then false else rq l4 z1 kc1 zs (ix+1)
theorem vH (d:yA)(s:yC)(l1:List Cell)(l2:List Log)(l3:List Tip)(i1 i2 i3 i5:Int)(l4:List Int)(hb:OkS s)(h4:l4.length<=i5.toNat/\i5<1000000){r:Bool}{A:Pr}(hA:CL codes sigs f94 [.bool] r A)(kc1:(List Int)->Bool)(hkc1:∀ (l4':List Int),(l4'.length<=(i5.toNat+1))->kc1 l4'=r->A (hd f94 1) (wJ d s l1 l2 l3 i1 i2 i3 (w64 (i5+(1:Int))) l4'))(ix:Nat)(h:rq l4 (s.zK.getD i5.toNat Ty.zV.dflt) kc1 (List.drop ix l4) ix=r):A (hd f94 2) (Fs d s l1 l2 l3 i1 i2 i3 i5 l4 (ix:Int)):=by
 refine hA.go (QX d s l1 l2 l3 i1 i2 i3 i5 l4 (ix:Int)) (ae (λ h1=>?_) (λ h1=>?_))
 ·have h1:=oT h1
  have hil:ix<l4.length:=by omega
  rw[be hil Ty.int.dflt,rq]at h
  obtain⟨b1,b2,b3,b4,b5⟩:=id hb
  refine⟨⟨(by omega),(by omega)⟩,(by omega),?_⟩
  refine aj h (λ g1 h=>?_) (λ g1 h=>?_)
  ·try replace g1:=bo g1
   exact⟨q2,h⟩
  ·rw[aq (by omega)]
   exact vH d s l1 l2 l3 i1 i2 i3 i5 l4 hb h4 hA _ hkc1 (ix+1) h
 ·have h1:=oF h1
  rw[dN (by omega),rq]at h
  refine aj h (λ g1 h=>?_) (λ g1 h=>?_)
  ·try replace g1:=bo g1
   refine⟨⟨q2,tv⟩,⟨(by simp only[af,ak];omega),tv⟩,?_⟩
   exact hkc1 _ (by first|omega|(simp only[al,af,ak];omega)) h
  ·exact hkc1 _ (by first|omega|(simp only[al,af,ak];omega)) h
termination_by l4.length-ix
decreasing_by all_goals omega
def pN (d:yA)(s:yC)(i1:Int):List Tip->Nat->(List Int)->Bool
 | [],ix,l4=>bif (s.start != i1)then false else bif decide (s.zR<0)then false else bif decide (s.zR>1152921504606846976)then false else bif decide (s.out<0)then false else bif decide (s.out>1152921504606846976)then false else bif ((xD s).2==0)then(xD s).1==w64 (w64 (s.start+s.zR)-s.out)else false
 | z::zs,ix,l4=>bif (!(gl z))then false else bif decide ((z).by'>d.zO)then false else rq l4 z (λ l4'=>pN d s i1 zs (ix+1) l4') l4 0
theorem vI (d:yA)(s:yC)(l1:List Cell)(l2:List Log)(l3:List Tip)(i1 i2 i3:Int)(hb:OkS s)  {r:Bool}{A:Pr}(hA:CL codes sigs f94 [.bool] r A)(ix:Nat)(l4:List Int)(hv:l4.length<=ix)(h:pN d s i1 (List.drop ix s.zK) ix l4=r):A (hd f94 1) (wJ d s l1 l2 l3 i1 i2 i3 (ix:Int) l4):=by
 refine hA.go (QY d s l1 l2 l3 i1 i2 i3 (ix:Int) l4) (ae (λ h1=>?_) (λ h1=>?_))
 ·have h1:=oT h1
  have hil:ix<s.zK.length:=by omega
  rw[be hil Ty.zV.dflt,pN]at h
  obtain⟨b1,b2,b3,b4,b5⟩:=id hb
  refine⟨⟨⟨(by omega),(by omega)⟩,tv⟩,⟨q3,tv⟩,_,Mn.c164 _,?_⟩
  refine aj h (λ g1 h=>?_) (λ g1 h=>?_)
  ·exact⟨q2,h⟩
  ·refine aj h (λ g2 h=>?_) (λ g2 h=>?_)
   ·have g2:=oT g2
    exact⟨q2,h⟩
   ·have g2:=oF g2
    exact vH d s l1 l2 l3 i1 i2 i3 (ix:Int) l4 hb ⟨by omega,by omega⟩ hA _ (λ l4' hv h=>by rw[aq (by omega)];exact vI d s l1 l2 l3 i1 i2 i3 hb  hA (ix+1) l4' (by first|omega|(simp only[al,af,ak];omega)) h) 0 h
 ·have h1:=oF h1
  rw[dN (by omega),pN]at h
  refine aj h (λ g1 h=>?_) (λ g1 h=>?_)
  ·exact⟨q2,h⟩
  ·try replace g1:=ah.1 g1
   refine aj h (λ g2 h=>?_) (λ g2 h=>?_)
   ·have g2:=oT g2
    exact⟨q2,h⟩
   ·have g2:=oF g2
    refine aj h (λ g3 h=>?_) (λ g3 h=>?_)
    ·have g3:=oT g3
     exact⟨q2,h⟩
    ·have g3:=oF g3
     refine aj h (λ g4 h=>?_) (λ g4 h=>?_)
     ·have g4:=oT g4
      exact⟨q2,h⟩
     ·have g4:=oF g4
      refine aj h (λ g5 h=>?_) (λ g5 h=>?_)
      ·have g5:=oT g5
       exact⟨q2,h⟩
      ·have g5:=oF g5
       refine⟨⟨q7,tv⟩,_,c165 _ hb,?_⟩
       refine aj h (λ g6 h=>?_) (λ g6 h=>?_)
       ·try replace g6:=bo g6
        exact⟨q2,h⟩
       ·exact⟨q2,h⟩
termination_by s.zK.length-ix
decreasing_by all_goals omega
def rr (d:yA)(s:yC)(l1:List Cell)(i1:Int):List Cell->Nat->Bool
 | [],ix=>pN d s i1 s.zK 0 []
 | z::zs,ix=>bif (!(dm z))then false else bif ((z).cap != (l1.getD (ix) Ty.cell.dflt).cap)then false else bif (!(gL (s.zL.getD (ix) Ty.zW.dflt)))then false else bif ((s.zL.getD (ix) Ty.zW.dflt).room != 8)then false else bif ((s.zL.getD (ix) Ty.zW.dflt).last != (z).ver)then false else rr d s l1 i1 zs (ix+1)
theorem vJ (d:yA)(s:yC)(l1:List Cell)(l2:List Log)(l3:List Tip)(i1 i2 i3:Int)(hb:OkS s)(he:s.cells.length=l1.length/\s.zL.length=s.cells.length){r:Bool}{A:Pr}(hA:CL codes sigs f94 [.bool] r A)(ix:Nat)(h:rr d s l1 i1 (List.drop ix s.cells) ix=r):A (hd f94 0) (Ft d s l1 l2 l3 i1 i2 i3 (ix:Int)):=by
 refine hA.go (QZ d s l1 l2 l3 i1 i2 i3 (ix:Int)) (ae (λ h1=>?_) (λ h1=>?_))
 ·have h1:=oT h1
  have hil:ix<s.cells.length:=by omega
  rw[be hil Ty.cell.dflt,rr]at h
  obtain⟨b1,b2,b3,b4,b5⟩:=id hb
  refine⟨⟨⟨(by omega),(by omega)⟩,tv⟩,⟨⟨(by omega),(by omega)⟩,tv⟩,⟨q4,tv⟩,_,Mn.c162 _,?_⟩
  refine aj h (λ g1 h=>?_) (λ g1 h=>?_)
  ·exact⟨q2,h⟩
  ·refine⟨⟨⟨(by omega),(by omega)⟩,tv⟩,?_⟩
   refine aj h (λ g2 h=>?_) (λ g2 h=>?_)
   ·exact⟨q2,h⟩
   ·try replace g2:=ah.1 g2
    refine⟨⟨q4,tv⟩,_,Mn.c163 _,?_⟩
    refine aj h (λ g3 h=>?_) (λ g3 h=>?_)
    ·exact⟨q2,h⟩
    ·refine aj h (λ g4 h=>?_) (λ g4 h=>?_)
     ·exact⟨q2,h⟩
     ·try replace g4:=ah.1 g4
      refine aj h (λ g5 h=>?_) (λ g5 h=>?_)
      ·exact⟨q2,h⟩
      ·try replace g5:=ah.1 g5
       rw[aq (by omega)]
       exact vJ d s l1 l2 l3 i1 i2 i3 hb he hA (ix+1) h
 ·have h1:=oF h1
  rw[dN (by omega),rr]at h
  refine hA.row 10 3 .int (by kernel_rfl) (s':=wJ d s l1 l2 l3 i1 i2 i3 0 []) (by kernel_rfl) ?_
  exact vI d s l1 l2 l3 i1 i2 i3 hb  hA 0 [] (by simp) h
termination_by s.cells.length-ix
decreasing_by all_goals omega
def m94 (d:yA)(s:yC):Bool:=bif ((m87 d).2 != 0)then false else bif ((s.cells.length:Int) != (↑(m87 d).1.cells.length:Int))then false else bif ((s.zL.length:Int) != (↑(m87 d).1.zL.length:Int))then false else bif ((s.zK.length:Int) != (↑(m87 d).1.zK.length:Int))then false else rr d s (m87 d).1.cells (m87 d).1.start s.cells 0
theorem c94 (d:yA)(s:yC)(hb:OkS s):yJ prog 94 [⟨.zI,d⟩,⟨.zE,s⟩] [.bool] (m94 d s):=
 pcl codes sigs func94 (by kernel_rfl) λ A hA=>hA.go (t94 d s) (by
  generalize h:m94 d s=r at hA ⊢
  unfold m94 at h
  refine⟨⟨q5,tv⟩,_,Mn.c87 _,?_⟩
  refine aj h (λ g1 h=>?_) (λ g1 h=>?_)
  ·exact⟨q2,h⟩
  ·try replace g1:=ah.1 g1
   refine aj h (λ g2 h=>?_) (λ g2 h=>?_)
   ·exact⟨q2,h⟩
   ·try replace g2:=ah.1 g2
    refine aj h (λ g3 h=>?_) (λ g3 h=>?_)
    ·exact⟨q2,h⟩
    ·try replace g3:=ah.1 g3
     refine aj h (λ g4 h=>?_) (λ g4 h=>?_)
     ·exact⟨q2,h⟩
     ·try replace g4:=ah.1 g4
      exact vJ d s (m87 d).1.cells (m87 d).1.zL (m87 d).1.zK (m87 d).1.start (m87 d).1.zR (m87 d).1.out hb ⟨by omega,by have:=Jl (d:=d) (by rw[g1];rfl);omega⟩ hA 0 h)
def m91 (d:yA)(s:yC):Bool:=bif ((Zn.df d) != 0)then false else bif ((s.cells.length:Int) != (Zn.bx d).1)then false else bif ((s.zL.length:Int) != (Zn.bx d).1)then false else bif ((s.zK.length:Int) != (Zn.bx d).2.1)then false else bif (!(CG s.zK d.zO))then false else bif (!(Cx d s).2)then false else bif (s.start != (Cx d s).1)then false else bif ((yn s.zR 0 1152921504606846976) != s.zR)then false else bif ((yn s.out 0 1152921504606846976) != s.out)then false else bif ((HW s).2==0)then(HW s).1==w64 (w64 (s.start+s.zR)-s.out)else false
theorem c91 (d:yA)(s:yC)(hb:OkS s):yJ prog 91 [⟨.zI,d⟩,⟨.zE,s⟩] [.bool] (m91 d s):=
 pcl codes sigs func91 (by kernel_rfl) λ A hA=>hA.go (t91 d s) (by
  generalize h:m91 d s=r at hA ⊢
  unfold m91 at h
  refine⟨⟨q5,tv⟩,_,Zn.c47 _,?_⟩
  refine aj h (λ g1 h=>?_) (λ g1 h=>?_)
  ·exact⟨q2,h⟩
  ·try replace g1:=ah.1 g1
   refine⟨⟨q5,tv⟩,_,Zn.HE _,?_⟩
   refine aj h (λ g2 h=>?_) (λ g2 h=>?_)
   ·exact⟨q2,h⟩
   ·try replace g2:=ah.1 g2
    refine aj h (λ g3 h=>?_) (λ g3 h=>?_)
    ·exact⟨q2,h⟩
    ·try replace g3:=ah.1 g3
     refine aj h (λ g4 h=>?_) (λ g4 h=>?_)
     ·exact⟨q2,h⟩
     ·try replace g4:=ah.1 g4
      refine⟨⟨q2,q2,tv⟩,_,c157 (by have:=hb.zK;omega),?_⟩
      refine aj h (λ g5 h=>?_) (λ g5 h=>?_)
      ·exact⟨q2,h⟩
      ·refine⟨⟨q5,q7,tv⟩,_,Mn.NC _ _ (cp (by rw[g1];rfl)) ⟨by rw[g2];exact oa (by rw[g1];rfl),by omega⟩,?_⟩
       refine aj h (λ g6 h=>?_) (λ g6 h=>?_)
       ·exact⟨q2,h⟩
       ·refine aj h (λ g7 h=>?_) (λ g7 h=>?_)
        ·exact⟨q2,h⟩
        ·try replace g7:=ah.1 g7
         refine⟨⟨q2,q2,q2,tv⟩,_,Mn.CV _ _ _,?_⟩
         refine aj h (λ g8 h=>?_) (λ g8 h=>?_)
         ·exact⟨q2,h⟩
         ·try replace g8:=ah.1 g8
          refine⟨⟨q2,q2,q2,tv⟩,_,Mn.CV _ _ _,?_⟩
          refine aj h (λ g9 h=>?_) (λ g9 h=>?_)
          ·exact⟨q2,h⟩
          ·try replace g9:=ah.1 g9
           refine⟨⟨q7,tv⟩,_,Tk hb,?_⟩
           refine aj h (λ g10 h=>?_) (λ g10 h=>?_)
           ·try replace g10:=bo g10
            exact⟨q2,h⟩
           ·exact⟨q2,h⟩)
def m95 (d:yA)(s:yC)(b:Int):Int×Bool:=bif (!(m91 d s))then((-1:Int),false)else bif (!(qM s.zK b).2)then((-1:Int),false)else(w64 ((s.cells.length:Int)+(qM s.zK b).1),true)
theorem c95 (d:yA)(s:yC)(b:Int)(hb:OkS s):yJ prog 95 [⟨.zI,d⟩,⟨.zE,s⟩,⟨.int,b⟩] [.int,.bool] (m95 d s b):=
 pcl codes sigs func95 (by kernel_rfl) λ A hA=>hA.go (t95 d s b) (by
  generalize h:m95 d s b=r at hA ⊢
  unfold m95 at h
  refine⟨⟨q5,q7,tv⟩,_,c91 _ _ (by first|exact hb|exact hb.toS),?_⟩
  refine aj h (λ g1 h=>?_) (λ g1 h=>?_)
  ·exact⟨⟨q2,tv,tv⟩,h⟩
  ·refine⟨⟨q2,q2,tv⟩,_,Qt _ _ hb.zK,?_⟩
   refine aj h (λ g2 h=>?_) (λ g2 h=>?_)
   ·exact⟨⟨q2,tv,tv⟩,h⟩
   ·exact⟨⟨q2,tv,tv⟩,h⟩)
def m96 (d:yA)(s:yC)(b:Int):Int×Bool:=bif (!(m94 d s))then((-1:Int),false)else bif decide ((eC s b)<0)then((-1:Int),false)else(w64 ((s.cells.length:Int)+(eC s b)),true)
theorem c96 (d:yA)(s:yC)(b:Int)(hb:OkS s):yJ prog 96 [⟨.zI,d⟩,⟨.zE,s⟩,⟨.int,b⟩] [.int,.bool] (m96 d s b):=
 pcl codes sigs func96 (by kernel_rfl) λ A hA=>hA.go (t96 d s b) (by
  generalize h:m96 d s b=r at hA ⊢
  unfold m96 at h
  refine⟨⟨q5,q7,tv⟩,_,c94 _ _ (by first|exact hb|exact hb.toS),?_⟩
  refine aj h (λ g1 h=>?_) (λ g1 h=>?_)
  ·exact⟨⟨q2,tv,tv⟩,h⟩
  ·refine⟨⟨q7,q2,tv⟩,_,c167 _ _ hb.zK,?_⟩
   refine aj h (λ g2 h=>?_) (λ g2 h=>?_)
   ·have g2:=oT g2
    exact⟨⟨q2,tv,tv⟩,h⟩
   ·have g2:=oF g2
    exact⟨⟨q2,tv,tv⟩,h⟩)
def m31 (m:yE):Bool:=bif ((m.zD.length:Int) != w64 (w64 ((Zn.bx m.zI).1+(Zn.bx m.zI).2.1)+(Zn.bx m.zI).2.2))then false else bif (!(m91 m.zI m.zE))then false else !(qE m m.zD)
theorem c31 (m:yE)(hb:OkM m):yJ prog 31 [⟨.model,m⟩] [.bool] (m31 m):=
 pcl codes sigs func31 (by kernel_rfl) λ A hA=>hA.go (t31 m) (by
  generalize h:m31 m=r at hA ⊢
  unfold m31 at h
  refine⟨⟨q5,tv⟩,_,Zn.HE _,?_⟩
  refine aj h (λ g1 h=>?_) (λ g1 h=>?_)
  ·exact⟨q2,h⟩
  ·try replace g1:=ah.1 g1
   refine⟨⟨q5,q7,tv⟩,_,c91 _ _ (by first|exact hb|exact hb.toS),?_⟩
   refine aj h (λ g2 h=>?_) (λ g2 h=>?_)
   ·exact⟨q2,h⟩
   ·exact⟨qE m m.zD,Qn _ _ (by have:=hb.zD;omega),q2,h⟩)
def oM (m:yE):List Int->Nat->Bool
 | [],ix=>true
 | z::zs,ix=>bif decide (z<0)then false else bif decide (z>m.zI.zO)then false else oM m zs (ix+1)
theorem vW (m:yE)(hb:OkM m)  {r:Bool}{A:Pr}(hA:CL codes sigs f32 [.bool] r A)(ix:Nat)(h:oM m (List.drop ix m.zD) ix=r):A (hd f32 0) (FC m (ix:Int)):=by
 refine hA.go (Rq m (ix:Int)) (ae (λ h1=>?_) (λ h1=>?_))
 ·have h1:=oT h1
  have hil:ix<m.zD.length:=by omega
  rw[be hil Ty.int.dflt,oM]at h
  obtain⟨b1,b2,b3,b4,b5,b6,b7,b8,b9,b10,b11⟩:=id hb
  refine⟨⟨⟨(by omega),(by omega)⟩,tv⟩,?_⟩
  refine aj h (λ g1 h=>?_) (λ g1 h=>?_)
  ·have g1:=oT g1
   exact⟨q2,h⟩
  ·have g1:=oF g1
   refine⟨⟨⟨(by omega),(by omega)⟩,tv⟩,?_⟩
   refine aj h (λ g2 h=>?_) (λ g2 h=>?_)
   ·have g2:=oT g2
    exact⟨q2,h⟩
   ·have g2:=oF g2
    rw[aq (by omega)]
    exact vW m hb  hA (ix+1) h
 ·have h1:=oF h1
  rw[dN (by omega),oM]at h
  exact⟨q2,h⟩
termination_by m.zD.length-ix
decreasing_by all_goals omega
def m32 (m:yE):Bool:=bif (!(m94 m.zI m.zE))then false else bif ((m.zD.length:Int) != (↑(Zn.dP m.zI).length:Int))then false else oM m m.zD 0
theorem c32 (m:yE)(hb:OkM m):yJ prog 32 [⟨.model,m⟩] [.bool] (m32 m):=
 pcl codes sigs func32 (by kernel_rfl) λ A hA=>hA.go (t32 m) (by
  generalize h:m32 m=r at hA ⊢
  unfold m32 at h
  refine⟨⟨q5,q7,tv⟩,_,c94 _ _ (by first|exact hb|exact hb.toS),?_⟩
  refine aj h (λ g1 h=>?_) (λ g1 h=>?_)
  ·exact⟨q2,h⟩
  ·refine⟨⟨q5,tv⟩,_,Zn.c90 _,?_⟩
   refine aj h (λ g2 h=>?_) (λ g2 h=>?_)
   ·exact⟨q2,h⟩
   ·try replace g2:=ah.1 g2
    exact vW m hb  hA 0 h)
def m33 (m:yE)(w:Int):Int:=bif (!(m31 m))then(-1:Int)else(m95 m.zI m.zE w).1
theorem c33 (m:yE)(w:Int)(hb:OkM m):yJ prog 33 [⟨.model,m⟩,⟨.int,w⟩] [.int] (m33 m w):=
 pcl codes sigs func33 (by kernel_rfl) λ A hA=>hA.go (t33 m w) (by
  generalize h:m33 m w=r at hA ⊢
  unfold m33 at h
  refine⟨⟨q12,tv⟩,_,c31 _ (by assumption),?_⟩
  refine aj h (λ g1 h=>?_) (λ g1 h=>?_)
  ·exact⟨q2,h⟩
  ·exact⟨⟨q5,q7,q2,tv⟩,_,c95 _ _ _ hb.toS,q2,h⟩)
def m34 (m:yE)(w:Int):Int:=bif (!(m96 m.zI m.zE w).2)then(-1:Int)else bif (!(m32 m))then(-1:Int)else(m96 m.zI m.zE w).1
theorem c34 (m:yE)(w:Int)(hb:OkM m):yJ prog 34 [⟨.model,m⟩,⟨.int,w⟩] [.int] (m34 m w):=
 pcl codes sigs func34 (by kernel_rfl) λ A hA=>hA.go (t34 m w) (by
  generalize h:m34 m w=r at hA ⊢
  unfold m34 at h
  refine⟨⟨q5,q7,q2,tv⟩,_,c96 _ _ _ hb.toS,?_⟩
  refine aj h (λ g1 h=>?_) (λ g1 h=>?_)
  ·exact⟨q2,h⟩
  ·refine⟨⟨q12,tv⟩,_,c32 _ (by assumption),?_⟩
   refine aj h (λ g2 h=>?_) (λ g2 h=>?_)
   ·exact⟨q2,h⟩
   ·exact⟨q2,h⟩)
def m28 (d:yA):yE×Int:=bif ((m83 d).2 != 0)then(yE.mk (yA.mk [] [] [] 0) (yC.mk [] [] [] 0 0 0) [],(m83 d).2)else((m85 (yE.mk d (m83 d).1 (Gv (w64 (w64 ((Zn.bx d).1+(Zn.bx d).2.1)+(Zn.bx d).2.2))))),0)
theorem c28 (d:yA) :yJ prog 28 [⟨.zI,d⟩] [.model,.int] (m28 d):=
 pcl codes sigs func28 (by kernel_rfl) λ A hA=>hA.go (t28 d) (by
  generalize h:m28 d=r at hA ⊢
  unfold m28 at h
  refine⟨⟨q5,tv⟩,_,Mn.c83 _,?_⟩
  refine aj h (λ g1 h=>?_) (λ g1 h=>?_)
  ·exact⟨⟨q12,tv,tv⟩,h⟩
  ·try replace g1:=ah.1 g1
   exact⟨⟨q5,tv⟩,_,Zn.HE _,⟨q2,tv⟩,_,Mn.c86 (CR _),⟨q12,tv⟩,_,c85 _ (PO (by assumption)),⟨q12,tv,tv⟩,h⟩)
end Go.Proofs.Mo
