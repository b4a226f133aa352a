/- Own work: part WJ of the proof. -/
import Derived.Test.YteaiflgcgpaclaaGreatDoorWE
import Derived.Test.YteaiflgcgpaclaaGreatDoorWI
import Derived.Test.YteaiflgcgpaclaaGreatDoorWH
set_option linter.unusedVariables false
set_option linter.unusedSimpArgs false
namespace Go.Proofs.Mo
open Go.Proofs.Tryz
open Go Go.VL Go.Proofs.Zn Go.Proofs.Mn
theorem zu {d:Deck}{s:Stock}{b:Int}(h:iQ d s b=0):m94 d s=true/\1<=b/\b<=d.arms:=by
 unfold iQ at h
 cases hm:m94 d s
 ·rw[hm]at h;cases h
 rw[hm]at h
 by_cases h1:b<1
 ·rw[dT h1]at h;cases h
 rw[dF h1]at h
 by_cases h2:b>d.arms
 ·rw[dT h2]at h;cases h
 exact⟨rfl,by omega,by omega⟩
theorem kQ (cs:List Cell)(ls:List Log)(ts:List Tip)(st inn out:Int)(d:Deck)(id:Int):xP cs ls ts st inn out d id<ts.length:=by
 unfold xP
 by_cases h1:id>=cs.length
 ·rw[dT h1,cT]
  by_cases h2:w64 (id-cs.length)<ts.length
  ·rw[dT h2,cT];exact h2
  ·rw[dF h2,cF];omega
 ·rw[dF h1,cF];omega
theorem BN (i:Int)(t:Tip):∀ (l:List Tip) (k:Nat),(iu i t l k).2=true->(k:Int)<=(iu i t l k).1/\(iu i t l k).1<(k:Int)+l.length
 | [],k,h=>by cases h
 | x :: l, k, h => by
   have ih:=BN i t l (k+1)
   unfold iu at h ⊢
   simp only[ag]
   generalize (decide ((k:Int)<i))=c1 at h ⊢
   generalize (!(x.state==t.state&&(x.by'==t.by'&&true)))=c2 at h ⊢
   generalize (!fJ x)=c3 at h ⊢
   cases c1
   ·cases c2
    ·cases c3
     ·simp only[cF];omega
     ·have:=ih h;simp only[cF,cT];omega
    ·have:=ih h;simp only[cF,cT];omega
   ·have:=ih h;simp only[cT];omega
theorem nc {l:List Tip}{b:Int}(h:(!(pJ l b).2)=false):0<=(pJ l b).1/\(pJ l b).1<l.length:=by
 have h:=nf h
 have:=BN 0 ⟨2,b⟩ l 0 h
 unfold pJ GB
 simp only at this ⊢
 omega
theorem BH (b:Int):∀ (l:List Tip) (k:Nat),eQ b l k = -1\/((k:Int)<=eQ b l k/\eQ b l k<(k:Int)+l.length)
 | [],k=>.inl rfl
 | x :: l, k => by
   have ih:=BH b l (k+1)
   unfold eQ
   simp only[ag]
   cases (x.state==(2:Int))
   ·simp only[cF];omega
   ·cases (x.by'==b)
    ·simp only[cF,cT];omega
    ·simp only[cT];omega
theorem JK (s:Stock)(b:Int):gD s b<s.tips.length:=by
 have:=BH b s.tips 0
 unfold gD
 omega
theorem zw {o ids:List Int}{w:Int}(h:(lT o ids w).2=0):∀ x∈ids,0<=x/\x<o.length:=by
 have go:∀ (l:List Int) (k:Nat),(iv o l k).2=0->∀ x∈l,0<=x/\x<o.length:=by
  intro l
  induction l with
  | nil=>intro k _ x hx;simp at hx
  | cons y l ih =>
    intro k h
    unfold iv at h
    by_cases h1:y<0
    ·rw[dT h1]at h;cases h
    rw[dF h1,cF]at h
    by_cases h2:y>=o.length
    ·rw[dT h2]at h;cases h
    rw[dF h2,cF]at h
    intro x hx
    rcases aD.1 hx with rfl|hx
    ·omega
    ·exact ih _ h x hx
 unfold lT at h
 cases h1:xQ o
 ·rw[h1]at h;cases h
 rw[h1]at h
 by_cases h2:w<1
 ·rw[dT h2]at h;cases h
 rw[dF h2]at h
 by_cases h3:w>8
 ·rw[dT h3]at h;cases h
 rw[dF h3]at h
 cases h4:zG ids
 ·rw[h4]at h;cases h
 rw[h4]at h
 exact go ids 0 h
def kV (l:Log)(b n:Int):Log×Int:=bif !(fX l)then(⟨0,0,[]⟩,110)else bif !(lB b n)then(⟨0,0,[]⟩,1)else bif l.last==2147483647 then(⟨0,0,[]⟩,101)else
 (⟨l.room,l.last+1,(bif (l.list.length:Int)==l.room then l.list.drop 1 else l.list)++[⟨l.last+1,b,n⟩]⟩,0)
theorem AX (l:Log)(b n:Int):DI l b n=kV l b n:=by
 unfold DI kV
 cases hl:fX l
 ·rfl
 obtain⟨h1,h2,h3,h4,h5,h6,_⟩:=jo hl
 cases lB b n
 ·rfl
 cases h7:(l.last==2147483647)
 ·have h7:l.last≠2147483647:=by simpa using h7
  rw[ax (n:=l.last+1) (by omega) (by omega)]
  have e:uW l=l.list.length:=rfl
  rw[e]
  cases h8:((l.list.length:Int)==l.room)
  ·simp only[bc,cF,uW,aq,iD,bD]
  ·simp only[bc,cF,cT,uW,aq,iD]
 ·rfl
theorem AY (l:Log)(b n:Int):Mr l b n=kV l b n:=by
 unfold Mr kV
 cases hl:fX l
 ·rfl
 obtain⟨h1,h2,h3,h4,h5,h6,_⟩:=jo hl
 cases lB b n
 ·rfl
 cases h7:(l.last==2147483647)
 ·have h7:l.last≠2147483647:=by simpa using h7
  rw[ax (n:=l.last+1) (by omega) (by omega)]
  simp only[fw,al,ag,am,bc,cF]
  by_cases h8:(l.list.length:Int)=l.room
  ·have e1:((l.list.length:Int)==l.room)=true:=by simpa using h8
   rw[e1,cT,dT (by omega),cT]
   have hne:l.list≠[]:=fun e=>by rw[e]at h8;simp at h8;omega
   rw[ct (by simp)]
   obtain⟨x,xs,hx⟩:=List.exists_cons_of_ne_nil hne
   rw[hx];rfl
  ·have e1:((l.list.length:Int)==l.room)=false:=by simpa using h8
   rw[e1,cF,dF (by omega),cF]
 ·rfl
theorem Dt {l:Log}{b n:Int}:(kV l b n).1.list.length<=1000000:=by
 unfold kV
 cases hl:fX l
 ·simp
 obtain⟨h1,h2,h3,h4,h5,h6,_⟩:=jo hl
 cases lB b n
 ·simp
 cases (l.last==2147483647)
 ·cases ((l.list.length:Int)==l.room)
  ·simp only[bc,cF,al,ag,am];omega
  ·simp only[bc,cF,cT,al,ag,am,aK];omega
 ·simp
theorem Fj {ls:List Log}{l:Log}{k:Nat}(h:∀ i:Nat,(List.getD ls i (Ty.dflt Ty.log)).list.length<=1000000)(hl:l.list.length<=1000000):∀ i:Nat,(List.getD (ls.set k l) i (Ty.dflt Ty.log)).list.length<=1000000:=fun i=>by
 have:=h i
 simp only[List.getD,bF]at this ⊢
 split
 ·split
  ·exact hl
  ·decide
 ·exact this
theorem FJ {cs:List Cell}{ls:List Log}{ts:List Tip}{st inn out:Int}{d:Deck}{b id:Int}{c:Cell}(h:∀ i:Nat,(List.getD ls i (Ty.dflt Ty.log)).list.length<=1000000):∀ i:Nat,(List.getD (ji cs ls ts st inn out d b id c).2 i (Ty.dflt Ty.log)).list.length<=1000000:=
 Fj h (by rw[AX];exact Dt)
theorem IY {s:Stock}{ts:List Tip}{st inn out b:Int}{d d':Deck}{id id' b':Int}{x:Stock}{y:Deck}{c:Cell}{ts':List Tip}{st' inn' out':Int}{dd:Deck}(h:(!(nq s.cells s.logs ts st inn out d id))=false)(h2:eP (aU d' s b,x,y)=false) :
  0<=id/\id<(ji s.cells s.logs ts' st' inn' out' dd b' id' c).1.length/\id<(ji s.cells s.logs ts' st' inn' out' dd b' id' c).2.length:=by
 have:=qP h h2
 simpa[ji]using this
end Go.Proofs.Mo

namespace Go.Proofs.Mo
open Go.Proofs.Tryz
open Go Go.VL
set_option maxRecDepth 20000
open Go.Proofs.Zn Go.Proofs.Mn
open Wn (dR bK)
def ka (d:Deck)(s:Stock)(b i n:Int):Stock×Int:=bif ((iQ d s b) != (0:Int))then(Stock.mk [] [] [] (0:Int) (0:Int) (0:Int),(iQ d s b))else bif (!(qF s i))then(Stock.mk [] [] [] (0:Int) (0:Int) (0:Int),(3:Int))else let y1:=pG (s.cells.getD i.toNat Ty.cell.dflt) n;bif (y1.2 != (0:Int))then(Stock.mk [] [] [] (0:Int) (0:Int) (0:Int),y1.2)else bif decide (n>w64 ((1152921504606846976:Int)-s.inn))then(Stock.mk [] [] [] (0:Int) (0:Int) (0:Int),(4:Int))else let y2:=qE s.cells s.logs s.tips s.start s.inn s.out b i y1.1;(Stock.mk y2.1 y2.2 s.tips s.start (w64 (s.inn+n)) s.out,(0:Int))
def jZ (d:Deck)(s:Stock)(b i n:Int):Stock×Int:=bif ((iQ d s b) != (0:Int))then(Stock.mk [] [] [] (0:Int) (0:Int) (0:Int),(iQ d s b))else bif (!(qF s i))then(Stock.mk [] [] [] (0:Int) (0:Int) (0:Int),(3:Int))else let y1:=nX (s.cells.getD i.toNat Ty.cell.dflt) n;bif (y1.2 != (0:Int))then(Stock.mk [] [] [] (0:Int) (0:Int) (0:Int),y1.2)else bif decide (n>w64 ((1152921504606846976:Int)-s.out))then(Stock.mk [] [] [] (0:Int) (0:Int) (0:Int),(4:Int))else let y2:=qE s.cells s.logs s.tips s.start s.inn s.out b i y1.1;(Stock.mk y2.1 y2.2 s.tips s.start s.inn (w64 (s.out+n)),(0:Int))
def lq (d:Deck)(s:Stock)(b i j n:Int):Stock×Int:=bif ((iQ d s b) != (0:Int))then(Stock.mk [] [] [] (0:Int) (0:Int) (0:Int),(iQ d s b))else bif (!(qF s i))then(Stock.mk [] [] [] (0:Int) (0:Int) (0:Int),(3:Int))else bif (!(qF s j))then(Stock.mk [] [] [] (0:Int) (0:Int) (0:Int),(3:Int))else bif (i==j)then(Stock.mk [] [] [] (0:Int) (0:Int) (0:Int),(1:Int))else let y1:=GA (s.cells.getD i.toNat Ty.cell.dflt) (s.cells.getD j.toNat Ty.cell.dflt) n;bif (y1.2.2 != (0:Int))then(Stock.mk [] [] [] (0:Int) (0:Int) (0:Int),y1.2.2)else let y2:=qE (qE s.cells s.logs s.tips s.start s.inn s.out b i y1.1).1 (qE s.cells s.logs s.tips s.start s.inn s.out b i y1.1).2 s.tips s.start s.inn s.out b j y1.2.1;(Stock.mk y2.1 y2.2 s.tips s.start s.inn s.out,(0:Int))
def gI (d:Deck)(s:Stock)(b i:Int):Stock×Int:=bif ((iQ d s b) != (0:Int))then(Stock.mk [] [] [] (0:Int) (0:Int) (0:Int),(iQ d s b))else bif decide (i>=(s.cells.length:Int))then bif decide (i<w64 ((s.cells.length:Int)+(s.tips.length:Int)))then bif decide (w64 (i-(s.cells.length:Int))<(0:Int))then(Stock.mk [] [] [] (0:Int) (0:Int) (0:Int),(3:Int))else bif decide ((gD s b)>=(0:Int))then(Stock.mk [] [] [] (0:Int) (0:Int) (0:Int),(131:Int))else let y1:=GD (s.tips.getD (w64 (i-(s.cells.length:Int))).toNat Ty.tip.dflt) b;bif (y1.2 != (0:Int))then(Stock.mk [] [] [] (0:Int) (0:Int) (0:Int),y1.2)else(Stock.mk s.cells s.logs (s.tips.set (w64 (i-(s.cells.length:Int))).toNat y1.1) s.start s.inn s.out,(0:Int))else(Stock.mk [] [] [] (0:Int) (0:Int) (0:Int),(3:Int))else(Stock.mk [] [] [] (0:Int) (0:Int) (0:Int),(3:Int))
def gH (d:Deck)(s:Stock)(b:Int):Stock×Int:=bif ((iQ d s b) != (0:Int))then(Stock.mk [] [] [] (0:Int) (0:Int) (0:Int),(iQ d s b))else bif decide ((gD s b)<(0:Int))then(Stock.mk [] [] [] (0:Int) (0:Int) (0:Int),(131:Int))else(Stock.mk s.cells s.logs (s.tips.set (gD s b).toNat (Tip.mk (3:Int) (0:Int))) s.start s.inn s.out,(0:Int))
def oQ (d:Deck)(s:Stock)(b i j n:Int):Stock×Int:=bif (eP (aU d s b,s,d))then(Stock.mk [] [] [] (0:Int) (0:Int) (0:Int),(aU d s b))else bif (!(nq (s).cells (s).logs (s).tips (s).start (s).inn (s).out (d) i))then(Stock.mk [] [] [] (0:Int) (0:Int) (0:Int),(3:Int))else bif (!(nq (s).cells (s).logs (s).tips (s).start (s).inn (s).out (d) j))then(Stock.mk [] [] [] (0:Int) (0:Int) (0:Int),(3:Int))else bif (i==j)then(Stock.mk [] [] [] (0:Int) (0:Int) (0:Int),(1:Int))else let y1:=tH ((s).cells.getD i.toNat Ty.cell.dflt) ((s).cells.getD j.toNat Ty.cell.dflt) n;bif (y1.2.2 != (0:Int))then(Stock.mk [] [] [] (0:Int) (0:Int) (0:Int),y1.2.2)else let y2:=ji (ji (s).cells (s).logs (s).tips (s).start (s).inn (s).out (d) b i y1.1).1 (ji (s).cells (s).logs (s).tips (s).start (s).inn (s).out (d) b i y1.1).2 (s).tips (s).start (s).inn (s).out (d) b j y1.2.1;(Stock.mk y2.1 y2.2 (s).tips (s).start (s).inn (s).out,(0:Int))
theorem c236 (d:Deck)(s:Stock)(b i j n:Int)(hb:OkS s):Pure prog 236 [⟨.deck,d⟩,⟨.stock,s⟩,⟨.int,b⟩,⟨.int,i⟩,⟨.int,j⟩,⟨.int,n⟩] [.stock,.int] (oQ d s b i j n):=
 Pure.of_closed (C:=codes) (S:=sigs) mixed func236 (by kernel_rfl) (ac (by kernel_rfl)) fun A hA=>hA.go (t236 d s b i j n) (by
  generalize h:oQ d s b i j n=r at hA ⊢
  unfold oQ at h
  refine⟨(aU d s b,s,d),yA _ _ _ hb,?_⟩
  refine ah h (fun g1 h=>?_) (fun g1 h=>?_)
  ·refine dR g1 ?_
   exact⟨⟨q7,tv,tv⟩,h⟩
  ·refine⟨nq (aU d s b,s,d).2.1.cells (aU d s b,s,d).2.1.logs (aU d s b,s,d).2.1.tips (aU d s b,s,d).2.1.start (aU d s b,s,d).2.1.inn (aU d s b,s,d).2.1.out (aU d s b,s,d).2.2 i,Ke _ _ _ _ _ _ _ _,?_⟩
   refine ah h (fun g2 h=>?_) (fun g2 h=>?_)
   ·exact⟨⟨q7,tv,tv⟩,h⟩
   ·refine⟨nq (aU d s b,s,d).2.1.cells (aU d s b,s,d).2.1.logs (aU d s b,s,d).2.1.tips (aU d s b,s,d).2.1.start (aU d s b,s,d).2.1.inn (aU d s b,s,d).2.1.out (aU d s b,s,d).2.2 j,Ke _ _ _ _ _ _ _ _,?_⟩
    refine ah h (fun g3 h=>?_) (fun g3 h=>?_)
    ·exact⟨⟨q7,tv,tv⟩,h⟩
    ·refine ah h (fun g4 h=>?_) (fun g4 h=>?_)
     ·try replace g4:=aV g4
      exact⟨⟨q7,tv,tv⟩,h⟩
     ·refine⟨⟨(by have hw:=fS (id:=i) (cs:=s.cells) (by assumption);(try dsimp only at hw);(try dsimp only);omega),(by have hw:=fS (id:=i) (cs:=s.cells) (by assumption);(try dsimp only at hw);(try dsimp only);omega)⟩,(by have hw:=fS (id:=i) (cs:=s.cells) (by assumption);(try dsimp only at hw);(try dsimp only);omega),⟨(by have hw:=fS (id:=j) (cs:=s.cells) (by assumption);(try dsimp only at hw);(try dsimp only);omega),(by have hw:=fS (id:=j) (cs:=s.cells) (by assumption);(try dsimp only at hw);(try dsimp only);omega)⟩,(by have hw:=fS (id:=j) (cs:=s.cells) (by assumption);(try dsimp only at hw);(try dsimp only);omega),⟨q4,q4,q2,tv⟩,_,c279 _ _ _,?_⟩
      refine ah h (fun g5 h=>?_) (fun g5 h=>?_)
      ·exact⟨⟨q7,tv,tv⟩,h⟩
      ·try replace g5:=ai.1 g5
       exact⟨ji (aU d s b,s,d).2.1.cells (aU d s b,s,d).2.1.logs (aU d s b,s,d).2.1.tips (aU d s b,s,d).2.1.start (aU d s b,s,d).2.1.inn (aU d s b,s,d).2.1.out (aU d s b,s,d).2.2 b i (tH ((aU d s b,s,d).2.1.cells.getD i.toNat Ty.cell.dflt) ((aU d s b,s,d).2.1.cells.getD j.toNat Ty.cell.dflt) n).1,Kb _ _ _ _ _ _ _ _ _ _ (qP (by assumption) (by assumption)) hb.list',ji (ji (aU d s b,s,d).2.1.cells (aU d s b,s,d).2.1.logs (aU d s b,s,d).2.1.tips (aU d s b,s,d).2.1.start (aU d s b,s,d).2.1.inn (aU d s b,s,d).2.1.out (aU d s b,s,d).2.2 b i (tH ((aU d s b,s,d).2.1.cells.getD i.toNat Ty.cell.dflt) ((aU d s b,s,d).2.1.cells.getD j.toNat Ty.cell.dflt) n).1).1 (ji (aU d s b,s,d).2.1.cells (aU d s b,s,d).2.1.logs (aU d s b,s,d).2.1.tips (aU d s b,s,d).2.1.start (aU d s b,s,d).2.1.inn (aU d s b,s,d).2.1.out (aU d s b,s,d).2.2 b i (tH ((aU d s b,s,d).2.1.cells.getD i.toNat Ty.cell.dflt) ((aU d s b,s,d).2.1.cells.getD j.toNat Ty.cell.dflt) n).1).2 (aU d s b,s,d).2.1.tips (aU d s b,s,d).2.1.start (aU d s b,s,d).2.1.inn (aU d s b,s,d).2.1.out (aU d s b,s,d).2.2 b j (tH ((aU d s b,s,d).2.1.cells.getD i.toNat Ty.cell.dflt) ((aU d s b,s,d).2.1.cells.getD j.toNat Ty.cell.dflt) n).2.1,Kb _ _ _ _ _ _ _ _ _ _ (IY (by assumption) (by assumption)) (FJ hb.list'),⟨q7,tv,tv⟩,h⟩)
def xT (d:Deck)(s:Stock)(b i:Int):Stock×Int:=bif (eP (aU d s b,s,d))then(Stock.mk [] [] [] (0:Int) (0:Int) (0:Int),(aU d s b))else let y1:=xP (s).cells (s).logs (s).tips (s).start (s).inn (s).out (d) i;bif decide (y1<(0:Int))then(Stock.mk [] [] [] (0:Int) (0:Int) (0:Int),(3:Int))else bif (pJ (s).tips b).2 then(Stock.mk [] [] [] (0:Int) (0:Int) (0:Int),(131:Int))else let y2:=DN ((s).tips.getD y1.toNat Ty.tip.dflt) b;bif (y2.2 != (0:Int))then(Stock.mk [] [] [] (0:Int) (0:Int) (0:Int),y2.2)else(Stock.mk (s).cells (s).logs ((s).tips.set y1.toNat y2.1) (s).start (s).inn (s).out,(0:Int))
theorem c232 (d:Deck)(s:Stock)(b i:Int)(hb:OkS s):Pure prog 232 [⟨.deck,d⟩,⟨.stock,s⟩,⟨.int,b⟩,⟨.int,i⟩] [.stock,.int] (xT d s b i):=
 Pure.of_closed (C:=codes) (S:=sigs) mixed func232 (by kernel_rfl) (ac (by kernel_rfl)) fun A hA=>hA.go (t232 d s b i) (by
  generalize h:xT d s b i=r at hA ⊢
  unfold xT at h
  refine⟨(aU d s b,s,d),yA _ _ _ hb,?_⟩
  refine ah h (fun g1 h=>?_) (fun g1 h=>?_)
  ·refine dR g1 ?_
   exact⟨⟨q7,tv,tv⟩,h⟩
  ·refine⟨xP (aU d s b,s,d).2.1.cells (aU d s b,s,d).2.1.logs (aU d s b,s,d).2.1.tips (aU d s b,s,d).2.1.start (aU d s b,s,d).2.1.inn (aU d s b,s,d).2.1.out (aU d s b,s,d).2.2 i,c275 _ _ _ _ _ _ _ _ (by have h4:=hb.tips;have h5:=hb.cells;exact⟨h5,h4⟩),?_⟩
   refine ah h (fun g2 h=>?_) (fun g2 h=>?_)
   ·have g2:=oT g2
    exact⟨⟨q7,tv,tv⟩,h⟩
   ·have g2:=oF g2
    refine⟨⟨q2,q2,tv⟩,_,MR _ _ hb.tips,?_⟩
    refine ah h (fun g3 h=>?_) (fun g3 h=>?_)
    ·exact⟨⟨q7,tv,tv⟩,h⟩
    ·refine⟨⟨(by have hw:=kQ (aU d s b,s,d).2.1.cells (aU d s b,s,d).2.1.logs (aU d s b,s,d).2.1.tips (aU d s b,s,d).2.1.start (aU d s b,s,d).2.1.inn (aU d s b,s,d).2.1.out (aU d s b,s,d).2.2 i;omega),(by have hw:=kQ (aU d s b,s,d).2.1.cells (aU d s b,s,d).2.1.logs (aU d s b,s,d).2.1.tips (aU d s b,s,d).2.1.start (aU d s b,s,d).2.1.inn (aU d s b,s,d).2.1.out (aU d s b,s,d).2.2 i;omega)⟩,(by have hw:=kQ (aU d s b,s,d).2.1.cells (aU d s b,s,d).2.1.logs (aU d s b,s,d).2.1.tips (aU d s b,s,d).2.1.start (aU d s b,s,d).2.1.inn (aU d s b,s,d).2.1.out (aU d s b,s,d).2.2 i;omega),⟨q3,q2,tv⟩,_,c276 _ _,?_⟩
     refine ah h (fun g4 h=>?_) (fun g4 h=>?_)
     ·exact⟨⟨q7,tv,tv⟩,h⟩
     ·try replace g4:=ai.1 g4
      exact⟨⟨(by have hw:=kQ (aU d s b,s,d).2.1.cells (aU d s b,s,d).2.1.logs (aU d s b,s,d).2.1.tips (aU d s b,s,d).2.1.start (aU d s b,s,d).2.1.inn (aU d s b,s,d).2.1.out (aU d s b,s,d).2.2 i;omega),(by have hw:=kQ (aU d s b,s,d).2.1.cells (aU d s b,s,d).2.1.logs (aU d s b,s,d).2.1.tips (aU d s b,s,d).2.1.start (aU d s b,s,d).2.1.inn (aU d s b,s,d).2.1.out (aU d s b,s,d).2.2 i;omega)⟩,⟨(by have hw:=kQ (aU d s b,s,d).2.1.cells (aU d s b,s,d).2.1.logs (aU d s b,s,d).2.1.tips (aU d s b,s,d).2.1.start (aU d s b,s,d).2.1.inn (aU d s b,s,d).2.1.out (aU d s b,s,d).2.2 i;omega),tv,tv,tv⟩,⟨q7,tv,tv⟩,h⟩)
def xR (d:Deck)(s:Stock)(b:Int):Stock×Int:=bif (eP (aU d s b,s,d))then(Stock.mk [] [] [] (0:Int) (0:Int) (0:Int),(aU d s b))else let y1:=pJ (s).tips b;bif (!y1.2)then(Stock.mk [] [] [] (0:Int) (0:Int) (0:Int),(131:Int))else(Stock.mk (s).cells (s).logs ((s).tips.set y1.1.toNat (DM ((s).tips.getD y1.1.toNat Ty.tip.dflt) b).1) (s).start (s).inn (s).out,(0:Int))
theorem c234 (d:Deck)(s:Stock)(b:Int)(hb:OkS s):Pure prog 234 [⟨.deck,d⟩,⟨.stock,s⟩,⟨.int,b⟩] [.stock,.int] (xR d s b):=
 Pure.of_closed (C:=codes) (S:=sigs) mixed func234 (by kernel_rfl) (ac (by kernel_rfl)) fun A hA=>hA.go (t234 d s b) (by
  generalize h:xR d s b=r at hA ⊢
  unfold xR at h
  refine⟨(aU d s b,s,d),yA _ _ _ hb,?_⟩
  refine ah h (fun g1 h=>?_) (fun g1 h=>?_)
  ·refine dR g1 ?_
   exact⟨⟨q7,tv,tv⟩,h⟩
  ·refine⟨⟨q2,q2,tv⟩,_,MR _ _ hb.tips,?_⟩
   refine ah h (fun g2 h=>?_) (fun g2 h=>?_)
   ·exact⟨⟨q7,tv,tv⟩,h⟩
   ·exact⟨⟨(by have hw:=nc (l:=(aU d s b,s,d).2.1.tips) (b:=b) (by assumption);omega),(by have hw:=nc (l:=(aU d s b,s,d).2.1.tips) (b:=b) (by assumption);omega)⟩,(by have hw:=nc (l:=(aU d s b,s,d).2.1.tips) (b:=b) (by assumption);omega),⟨q3,q2,tv⟩,_,c277 _ _,⟨(by have hw:=nc (l:=(aU d s b,s,d).2.1.tips) (b:=b) (by assumption);omega),(by have hw:=nc (l:=(aU d s b,s,d).2.1.tips) (b:=b) (by assumption);omega)⟩,⟨(by have hw:=nc (l:=(aU d s b,s,d).2.1.tips) (b:=b) (by assumption);omega),tv,tv,tv⟩,⟨q7,tv,tv⟩,h⟩)
def gW (o ids:List Int)(w:Int):List Int->Nat->(List Int×Int×Int)
 | [],ix=>((lS o ids w),(0:Int),(0:Int))
 | z::zs,ix=>bif (o.getD (z).toNat Ty.int.dflt != (0:Int))then bif (o.getD (z).toNat Ty.int.dflt != w)then([],z,(140:Int))else gW o ids w zs (ix+1)else gW o ids w zs (ix+1)
def lU (o ids:List Int)(w:Int):List Int×Int×Int:=let y1:=lT o ids w;bif (y1.2 != (0:Int))then([],y1.1,y1.2)else gW o ids w ids 0
def gJ (o ids:List Int)(w:Int):List Int->Nat->(List Int×Int×Int)
 | [],ix=>((lS o ids (0:Int)),(0:Int),(0:Int))
 | z::zs,ix=>bif (o.getD (z).toNat Ty.int.dflt != w)then([],z,(141:Int))else gJ o ids w zs (ix+1)
def kb (o ids:List Int)(w:Int):List Int×Int×Int:=let y1:=lT o ids w;bif (y1.2 != (0:Int))then([],y1.1,y1.2)else gJ o ids w ids 0
end Go.Proofs.Mo

namespace Go.Proofs.Mo
open Go.Proofs.Tryz
open Go Go.VL Go.Proofs.Zn Go.Proofs.Mn
structure OkR (r:Req):Prop where
 v0:0<=r.vol
 v1:r.vol<18446744073709551616
 ids:r.ids.length<=1000
theorem AVle.agg {H:Heap}{cs ds:List AV}(hl:cs.length=ds.length)(h:∀ (i:Nat) x y,cs[i]?=some x->ds[i]?=some y->AVle H x y):AVle H (.agg cs) (.agg ds):=fun w K m v hG hr=>by
 cases hr with
 | agg _ vs hv hp =>
   refine .agg _ vs (hv.trans hl) fun i y u hy hu=>?_
   have hlt:i<cs.length:=by
    rw[hl]
    rcases ay i ds.length with h1|h1
    ·exact h1
    ·rw[au h1]at hy;cases hy
   have hx:cs[i]?=some cs[i]:=aj hlt
   exact h i _ y hx hy w K m u hG (hp i _ u hx hu)
theorem dy (a b c d:AV)(H:Heap)(n:Nat):GRes.Le ⟨[.agg [a,b,c,d,.d (.v (.slice none 0 0))]],H,n⟩ ⟨[.agg [a,b,c,d,.d (.sl .change [])]],H,n⟩:=
 ⟨rfl,(fun i x y hx hy=>by
  match i,hx,hy with
  | 0, hx, hy =>
    cases hx;cases hy
    refine AVle.agg rfl fun j x y hx hy=>?_
    match j,hx,hy with
    | 0,hx,hy=>cases hx;cases hy;exact .refl _ _
    | 1,hx,hy=>cases hx;cases hy;exact .refl _ _
    | 2,hx,hy=>cases hx;cases hy;exact .refl _ _
    | 3,hx,hy=>cases hx;cases hy;exact .refl _ _
    | 4,hx,hy=>cases hx;cases hy;exact .nil _ _ _
    | j+5,hx,hy=>cases hx
  | i+1,hx,hy=>cases hx),fun l b hb=>⟨b,hb,.refl _ b⟩,aI _⟩
theorem nE {cs:List AV}{H0:Heap}:∀ (i:Nat) (T:TypeId) (t:Ty) (xs:List t.ty),i<1->Heap.get [(0,.box cs)] i=some (.row T t xs)->∃ ys,H0.get i=some (.row T t ys)/\ys.length=xs.length:=fun i T t xs hi h=>by
 obtain rfl:i=0:=by omega
 cases h
theorem wY (to:Int):∀ (l:List Int) (k:Nat) (acc:List Int),(fk to l k acc).1.length=acc.length
 | [],k,acc=>rfl
 | x :: l, k, acc => by
   unfold fk
   rw[wY to l (k+1)]
   simp
theorem wZ (to:Int):∀ (l:List Int) (k:Nat) (acc:List Int),(fj to l k acc).1.length=acc.length
 | [],k,acc=>rfl
 | x :: l, k, acc => by
   unfold fj
   rw[wZ to l (k+1)]
   simp
theorem gu {c:Bool}{a b:List Int×Int×Int}{n:Nat}(h1:a.1.length<=n)(h2:b.1.length<=n):(bif c then a else b).1.length<=n:=by
 cases c
 ·exact h2
 ·exact h1
theorem ET {o ids:List Int}{w:Int}:(oR o ids w).1.length<=o.length:=by
 unfold oR
 refine gu (bE _) ?_
 show(fc o ids w w 140 w).1.length<=_
 unfold fc
 exact gu (bE _) (gu (bE _) (gu (bE _) (gu (bE _) (gu (bE _) (Nat.le_of_eq (wY _ _ _ _))))))
theorem Hf {o ids:List Int}{w:Int}:(nY o ids w).1.length<=o.length:=by
 unfold nY
 refine gu (bE _) ?_
 show(eZ o ids w 0 141 w).1.length<=_
 unfold eZ
 exact gu (bE _) (gu (bE _) (gu (bE _) (gu (bE _) (gu (bE _) (Nat.le_of_eq (wZ _ _ _ _))))))
theorem At {m:Model}(hb:OkM m){ids:List Int}{w:Int}:(oR m.owners ids w).1.length<=1000000:=aZ ET hb.owners
theorem BK {m:Model}(hb:OkM m){ids:List Int}{w:Int}:(nY m.owners ids w).1.length<=1000000:=aZ Hf hb.owners
theorem Ek {a b:List Int}:(dj a b).length<=a.length+b.length:=iy
theorem set_le {l:List Int}:(dJ l).length<=l.length:=by
 have:=Ek (a:=[]) (b:=l)
 simp only[am]at this
 show(dj [] l).length<=_
 omega
theorem Ga (w:Int):∀ (l:List Int) (k:Nat) (acc:List Int),(kJ w l k acc).length<=acc.length+l.length
 | [],k,acc=>lg _ _
 | x :: l, k, acc => by
   unfold kJ
   cases (x==w)
   ·have:=Ga w l (k+1) acc
    simp only[cF,ag];omega
   ·have:=Ga w l (k+1) (acc++[(k:Int)])
    simp only[cT,ag,al,am]at this ⊢;omega
theorem AO {o:List Int}{w:Int}:(zF o w).length<=o.length:=by
 have:=Ga w o 0 []
 unfold zF
 simpa using this
end Go.Proofs.Mo

namespace Go.Proofs.Mo
open Go.Proofs.Tryz
open Go Go.VL
set_option maxRecDepth 20000
open Go.Proofs.Zn Go.Proofs.Mn
open Wn (dR bK)
def nr (m:Model)(who:Int)(q:Req):List Int:=(zF m.owners who)
theorem MP (m:Model)(who:Int)(q:Req)(hb:m.owners.length<=1000000):Gc prog 228 [.ptr 0 0] [(0,.box (dD m who q))] 1 ((fun x:List Int=>(⟨[.d (.sl .int x)],[(0,.box (dD m who q))],1⟩:GRes)) (nr m who q)):=
 Gc.of_closed (C:=codes) (S:=sigs) mixed func228 (by kernel_rfl) (fun i T t ys hi h=>⟨ys,h,rfl⟩) fun A hA=>hA.go (t228 m who q) (by
  generalize h:nr m who q=r at hA ⊢
  unfold nr at h
  exact⟨⟨q2,q2,tv⟩,_,c270 _ _ (by first|exact hb|exact hb.owners),tv,.of_eq (by rw[← h];try rfl)⟩)
def ml (m:Model)(who:Int)(q:Req):Cell:=(m.stock.cells.getD q.a.toNat Ty.cell.dflt)
theorem Er (m:Model)(who:Int)(q:Req)(hi:0<=q.a/\q.a<m.stock.cells.length):Gc prog 174 [.ptr 0 0] [(0,.box (dD m who q))] 1 ((fun x:Cell=>(⟨[.agg (BZ x)],[(0,.box (dD m who q))],1⟩:GRes)) (ml m who q)):=
 Gc.of_closed (C:=codes) (S:=sigs) mixed func174 (by kernel_rfl) (fun i T t ys hi h=>⟨ys,h,rfl⟩) fun A hA=>hA.go (t174 m who q) (by
  generalize h:ml m who q=r at hA ⊢
  unfold ml at h
  exact⟨⟨⟨(by omega),(by omega)⟩,tv⟩,tv,.of_eq (by rw[← h];try rfl)⟩)
def vU (m:Model)(who:Int)(q:Req)(o:List Int)(at' e:Int):Model×Resp:=bif (e != (0:Int))then(m,(m98 e at'))else(Model.mk m.deck m.stock o,Resp.mk (0:Int) (0:Int) (↑(nr (Model.mk m.deck m.stock o) who q).length:Int) (0:Int) [])
theorem Pp (m:Model)(who:Int)(q:Req)(o:List Int)(at' e:Int)(ho:o.length<=1000000):Gc prog 230 [.ptr 0 0,.d (.sl .int o),i64 at',i64 e] [(0,.box (dD m who q))] 1 ((fun x:Model×Resp=>(⟨[.agg (fL x.2)],[(0,.box (dD x.1 who q))],1⟩:GRes)) (vU m who q o at' e)):=
 Gc.of_closed (C:=codes) (S:=sigs) mixed func230 (by kernel_rfl) nE fun A hA=>hA.go (t230 m who q o at' e) (by
  generalize h:vU m who q o at' e=r at hA ⊢
  unfold vU at h
  refine ah h (fun g1 h=>?_) (fun g1 h=>?_)
  ·exact⟨⟨q2,q2,tv⟩,_,c98 _ _,tv,(by rw[← h];first|exact .of_eq rfl|exact dy _ _ _ _ _ _)⟩
  ·try replace g1:=ai.1 g1
   exact⟨nr (Model.mk m.deck m.stock o) who q,MP _ _ _ (by first|exact ho|exact hb.owners),tv,(by rw[← h];first|exact .of_eq rfl|exact dy _ _ _ _ _ _)⟩)
def ib (m:Model)(who:Int)(q:Req)(s:Stock)(e xe xi xn xv:Int):Model×Resp:=bif (e != (0:Int))then let y1:=m98 e (0:Int);(m,y1)else(Model.mk m.deck s m.owners,Resp.mk xe xi xn xv [])
theorem HM (m:Model)(who:Int)(q:Req)(s:Stock)(e xe xi xn xv:Int) :Gc prog 233 [.ptr 0 0,.agg (im s),i64 e,.agg [i64 xe,i64 xi,i64 xn,i64 xv,.d (.v (.slice none 0 0))]] [(0,.box (dD m who q))] 1 ((fun x:Model×Resp=>(⟨[.agg (fL x.2)],[(0,.box (dD x.1 who q))],1⟩:GRes)) (ib m who q s e xe xi xn xv)):=
 Gc.of_closed (C:=codes) (S:=sigs) mixed func233 (by kernel_rfl) nE fun A hA=>hA.go (t233 m who q s e xe xi xn xv) (by
  generalize h:ib m who q s e xe xi xn xv=r at hA ⊢
  unfold ib at h
  refine ah h (fun g1 h=>?_) (fun g1 h=>?_)
  ·exact⟨⟨q2,q2,tv⟩,_,c98 _ _,tv,(by rw[← h];first|exact .of_eq rfl|exact dy _ _ _ _ _ _)⟩
  ·try replace g1:=ai.1 g1
   exact⟨tv,(by rw[← h];first|exact .of_eq rfl|exact dy _ _ _ _ _ _)⟩)
def zJ (m:Model)(who:Int)(q:Req):Model×Resp:=bif decide ((↑(cP true true true (nr m who q) (dJ q.ids)).length:Int)>(40:Int))then let y1:=m98 (160:Int) (0:Int);(m,y1)else let y2:=vU m who q (oR m.owners (dJ q.ids) who).1 (oR m.owners (dJ q.ids) who).2.1 (oR m.owners (dJ q.ids) who).2.2;(y2.1,y2.2)
theorem c168 (m:Model)(who:Int)(q:Req)(hb:OkM m)(hr:OkR q):Gc prog 168 [.ptr 0 0] [(0,.box (dD m who q))] 1 ((fun x:Model×Resp=>(⟨[.agg (fL x.2)],[(0,.box (dD x.1 who q))],1⟩:GRes)) (zJ m who q)):=
 Gc.of_closed (C:=codes) (S:=sigs) mixed func168 (by kernel_rfl) nE fun A hA=>hA.go (t168 m who q) (by
  generalize h:zJ m who q=r at hA ⊢
  unfold zJ at h
  refine⟨⟨q2,tv⟩,_,Zn.Ae (by have:=hr.ids;omega),nr m who q,MP _ _ _ (by first|exact ho|exact hb.owners),⟨q2,q2,tv⟩,_,Zn.wB (by have:(nr m who q).length<=m.owners.length:=AO;have:=hb.own;omega) (by have:=@set_le q.ids;have:=hr.ids;omega),?_⟩
  refine ah h (fun g1 h=>?_) (fun g1 h=>?_)
  ·have g1:=oT g1
   exact⟨⟨q2,q2,tv⟩,_,c98 _ _,tv,(by rw[← h];first|exact .of_eq rfl|exact dy _ _ _ _ _ _)⟩
  ·have g1:=oF g1
   exact⟨⟨q2,q2,q2,tv⟩,_,c229 _ _ _ (by have:=@set_le q.ids;have:=hr.ids;omega) hb.owners,vU m who q (oR m.owners (dJ q.ids) who).1 (oR m.owners (dJ q.ids) who).2.1 (oR m.owners (dJ q.ids) who).2.2,Pp _ _ _ _ _ _ (by first|with_reducible exact At hb|with_reducible exact BK hb),tv,(by rw[← h];first|exact .of_eq rfl|exact dy _ _ _ _ _ _)⟩)
def zI (m:Model)(who:Int)(q:Req):Model×Resp:=let y1:=vU m who q (nY m.owners (dJ q.ids) who).1 (nY m.owners (dJ q.ids) who).2.1 (nY m.owners (dJ q.ids) who).2.2;(y1.1,y1.2)
theorem c169 (m:Model)(who:Int)(q:Req)(hb:OkM m)(hr:OkR q):Gc prog 169 [.ptr 0 0] [(0,.box (dD m who q))] 1 ((fun x:Model×Resp=>(⟨[.agg (fL x.2)],[(0,.box (dD x.1 who q))],1⟩:GRes)) (zI m who q)):=
 Gc.of_closed (C:=codes) (S:=sigs) mixed func169 (by kernel_rfl) nE fun A hA=>hA.go (t169 m who q) (by
  generalize h:zI m who q=r at hA ⊢
  unfold zI at h
  exact⟨⟨q2,tv⟩,_,Zn.Ae (by have:=hr.ids;omega),⟨q2,q2,q2,tv⟩,_,Po _ _ _ (by first|(have:=@set_le q.ids;have:=hr.ids;omega)|(have:(nr m who q).length<=m.owners.length:=AO;have:=hb.owners;omega)) hb.owners,vU m who q (nY m.owners (dJ q.ids) who).1 (nY m.owners (dJ q.ids) who).2.1 (nY m.owners (dJ q.ids) who).2.2,Pp _ _ _ _ _ _ (by first|with_reducible exact At hb|with_reducible exact BK hb),tv,(by rw[← h];first|exact .of_eq rfl|exact dy _ _ _ _ _ _)⟩)
def DR (m:Model)(who:Int)(q:Req):Model×Resp:=(Model.mk m.deck m.stock (nY m.owners (nr m who q) who).1,Resp.mk (0:Int) (0:Int) (↑(nr m who q).length:Int) (0:Int) [])
theorem c170 (m:Model)(who:Int)(q:Req)(hb:OkM m)(hr:OkR q):Gc prog 170 [.ptr 0 0] [(0,.box (dD m who q))] 1 ((fun x:Model×Resp=>(⟨[.agg (fL x.2)],[(0,.box (dD x.1 who q))],1⟩:GRes)) (DR m who q)):=
 Gc.of_closed (C:=codes) (S:=sigs) mixed func170 (by kernel_rfl) nE fun A hA=>hA.go (t170 m who q) (by
  generalize h:DR m who q=r at hA ⊢
  unfold DR at h
  exact⟨nr m who q,MP _ _ _ (by first|exact ho|exact hb.owners),⟨q2,q2,q2,tv⟩,_,Po _ _ _ (by first|(have:=@set_le q.ids;have:=hr.ids;omega)|(have:(nr m who q).length<=m.owners.length:=AO;have:=hb.owners;omega)) hb.owners,tv,(by rw[← h];first|exact .of_eq rfl|exact dy _ _ _ _ _ _)⟩)
def DQ (m:Model)(who:Int)(q:Req):Model×Resp:=let y1:=xT m.deck m.stock who q.a;let y2:=ib m who q y1.1 y1.2 (0:Int) q.a (0:Int) (0:Int);(y2.1,y2.2)
theorem c171 (m:Model)(who:Int)(q:Req)(hb:OkM m)(hr:OkR q):Gc prog 171 [.ptr 0 0] [(0,.box (dD m who q))] 1 ((fun x:Model×Resp=>(⟨[.agg (fL x.2)],[(0,.box (dD x.1 who q))],1⟩:GRes)) (DQ m who q)):=
 Gc.of_closed (C:=codes) (S:=sigs) mixed func171 (by kernel_rfl) nE fun A hA=>hA.go (t171 m who q) (by
  generalize h:DQ m who q=r at hA ⊢
  unfold DQ at h
  exact⟨⟨q5,q7,q2,q2,tv⟩,_,c232 _ _ _ _ hb.toS,ib m who q (xT m.deck m.stock who q.a).1 (xT m.deck m.stock who q.a).2 (0:Int) q.a (0:Int) (0:Int),HM _ _ _ _ _ _ _ _ _,tv,(by rw[← h];first|exact .of_eq rfl|exact dy _ _ _ _ _ _)⟩)
def DP (m:Model)(who:Int)(q:Req):Model×Resp:=let y1:=xR m.deck m.stock who;let y2:=ib m who q y1.1 y1.2 (0:Int) (m95 m.deck m.stock who).1 (0:Int) (0:Int);(y2.1,y2.2)
theorem c172 (m:Model)(who:Int)(q:Req)(hb:OkM m)(hr:OkR q):Gc prog 172 [.ptr 0 0] [(0,.box (dD m who q))] 1 ((fun x:Model×Resp=>(⟨[.agg (fL x.2)],[(0,.box (dD x.1 who q))],1⟩:GRes)) (DP m who q)):=
 Gc.of_closed (C:=codes) (S:=sigs) mixed func172 (by kernel_rfl) nE fun A hA=>hA.go (t172 m who q) (by
  generalize h:DP m who q=r at hA ⊢
  unfold DP at h
  exact⟨⟨q5,q7,q2,tv⟩,_,c95 _ _ _ hb.toS,⟨q5,q7,q2,tv⟩,_,c234 _ _ _ hb.toS,ib m who q (xR m.deck m.stock who).1 (xR m.deck m.stock who).2 (0:Int) (m95 m.deck m.stock who).1 (0:Int) (0:Int),HM _ _ _ _ _ _ _ _ _,tv,(by rw[← h];first|exact .of_eq rfl|exact dy _ _ _ _ _ _)⟩)
def DO (m:Model)(who:Int)(q:Req):Model×Resp:=bif ((ss (m.stock.logs.getD q.a.toNat Ty.log.dflt) q.ver).2 != (0:Int))then let y1:=m98 (ss (m.stock.logs.getD q.a.toNat Ty.log.dflt) q.ver).2 (0:Int);(m,y1)else(m,Resp.mk (0:Int) (0:Int) (0:Int) (ml m who q).ver (ss (m.stock.logs.getD q.a.toNat Ty.log.dflt) q.ver).1)
theorem c173 (m:Model)(who:Int)(q:Req)(hb:OkM m)(hr:OkR q)(hi:0<=q.a/\q.a<m.stock.cells.length)(hj:0<=q.a/\q.a<m.stock.logs.length):Gc prog 173 [.ptr 0 0] [(0,.box (dD m who q))] 1 ((fun x:Model×Resp=>(⟨[.agg (fL x.2)],[(0,.box (dD x.1 who q))],1⟩:GRes)) (DO m who q)):=
 Gc.of_closed (C:=codes) (S:=sigs) mixed func173 (by kernel_rfl) nE fun A hA=>hA.go (t173 m who q) (by
  generalize h:DO m who q=r at hA ⊢
  unfold DO at h
  refine⟨⟨⟨(by omega),(by omega)⟩,tv⟩,⟨q4,q2,tv⟩,_,c235 _ _ (hb.list' _),?_⟩
  refine ah h (fun g1 h=>?_) (fun g1 h=>?_)
  ·exact⟨⟨q2,q2,tv⟩,_,c98 _ _,tv,(by rw[← h];first|exact .of_eq rfl|exact dy _ _ _ _ _ _)⟩
  ·try replace g1:=ai.1 g1
   exact⟨ml m who q,Er _ _ _ (by first|assumption|exact(hi (by omega)).1),tv,(by rw[← h];first|exact .of_eq rfl|exact dy _ _ _ _ _ _)⟩)
end Go.Proofs.Mo

namespace Go.Proofs.Mo
open Go.Proofs.Tryz
open Go Go.VL Go.Proofs.Zn Go.Proofs.Mn
theorem fp {c:Cell}(h:dc c=true):1<=c.cap/\c.cap<=1099511627776/\0<=c.vol/\c.vol<=c.cap/\0<=c.ver/\c.ver<=2147483647:=by
 unfold dc at h
 by_cases h1:c.cap>=1
 ·rw[dT h1,cT]at h
  by_cases h2:c.cap<=1099511627776
  ·rw[dT h2,cT]at h
   by_cases h3:c.vol>=0
   ·rw[dT h3,cT]at h
    by_cases h4:c.vol<=c.cap
    ·rw[dT h4,cT]at h
     by_cases h5:c.ver>=0
     ·rw[dT h5,cT]at h
      have:=oT h
      omega
     ·rw[dF h5]at h;cases h
    ·rw[dF h4]at h;cases h
   ·rw[dF h3]at h;cases h
  ·rw[dF h2]at h;cases h
 ·rw[dF h1]at h;cases h
theorem HC (c:Cell)(n:Int):zB c n=nV c n:=by
 unfold zB nV
 cases h:dc c
 ·rfl
 ·have e:DG c=w64 (c.cap-c.vol):=by unfold DG;rw[h];rfl
  rw[e]
  cases (n==0)<;>rfl
theorem AG {c:Cell}{n:Int}(hn:cy n):tG c n=pG c n:=by
 have e:tG c n=vR c n 1:=rfl
 have e1:w64 (1*n)=n:=by rw[Int.one_mul];exact ax hn.1 hn.2
 rw[e]
 unfold vR pG
 rw[e1,HC]
theorem BR {c:Cell}{n:Int}:tF c n=nX c n:=by
 have e:tF c n=vR c n (-1):=rfl
 rw[e]
 unfold vR nX
 rw[HC,show(-1:Int)*n=0-n by omega]
 cases h:dc c
 ·rw[cF,cF]
  have e2:∀ k,nV c k=(⟨0,0,0⟩,100):=fun k=>by unfold nV;rw[h];rfl
  rw[e2]
  cases decide (n<1)<;>rfl
 ·cases decide (n<1)<;>rfl
theorem Gj {a b:Cell}{n:Int}(hn:cy n):tH a b n=GA a b n:=by
 unfold tH GA
 rw[AG hn,BR]
theorem IC (t:Tip)(b:Int):DN t b=GD t b:=by
 have e:DN t b=vS t b ⟨1,0⟩ ⟨2,b⟩ 121:=rfl
 rw[e]
 unfold vS zC GD
 cases h:fJ t
 ·rfl
 cases oh b
 ·rfl
 cases h1:(t.state==1)
 ·have:(t.state != 1)=true:=by unfold bne;rw[h1];rfl
  rw[this];rfl
 ·have e1:(t.state != 1)=false:=by unfold bne;rw[h1];rfl
  have h2:(t.state==2)=false:=by
   have:t.state=1:=by simpa using h1
   rw[this];rfl
  have h3:(t.by'==0)=true:=by
   unfold fJ at h
   rw[h2,h1]at h
   exact h
  rw[e1,h3];rfl
theorem JS {t:Tip}{b:Int}(h:fJ t=true)(ht:t=⟨2,b⟩):(DM t b).1=⟨3,0⟩:=by
 subst ht
 have e:DM ⟨2,b⟩ b=vS ⟨2,b⟩ b ⟨2,b⟩ ⟨3,0⟩ 122:=rfl
 rw[e]
 unfold vS zC
 rw[h]
 have ha:oh b=true:=h
 rw[ha]
 have:((2:Int)==2&&(b==b&&true))=true:=by simp
 simp only[this]
 rfl
def td (l:List Tip):Prop:=∀ t∈l,fJ t=true
theorem BF (b:Int):∀ (l:List Tip) (k:Nat),td l->iu 0 ⟨2,b⟩ l k=(bif decide (eQ b l k>=0)then(eQ b l k,true)else(0,false))
 | [],k,_=>rfl
 | t :: l, k, h => by
   have ih:=BF b l (k+1) fun x hx=>h x (by simp[hx])
   have ht:=h t (by simp)
   unfold iu eQ
   rw[dF (show ¬ (k:Int)<0 by omega),cF,ht]
   cases h1:(t.state==2)
   ·exact ih
   ·cases h2:(t.by'==b)
    ·exact ih
    ·have e:(!(true&&(true&&true)))=false:=rfl
     show _=(bif decide ((k:Int)>=0)then _ else _)
     rw[dT (show(k:Int)>=0 by omega)]
     rfl
theorem wc {s:Stock}(b:Int)(h:td s.tips):pJ s.tips b=(bif decide (gD s b>=0)then(gD s b,true)else(0,false)):=BF b s.tips 0 h
theorem qZ (b:Int):∀ (l:List Tip) (k:Nat),eQ b l k>=0->∃ i:Nat,eQ b l k=(k+i:Nat)/\l[i]?=some ⟨2,b⟩
 | [],k,h=>by simp[eQ]at h
 | t :: l, k, h => by
   unfold eQ at h ⊢
   cases h1:(t.state==2)
   ·rw[h1,cF]at h
    obtain⟨i,h2,h3⟩:=qZ b l (k+1) h
    exact⟨i+1,by rw[cF,h2];omega,h3⟩
   ·rw[h1,cT]at h
    cases h2:(t.by'==b)
    ·rw[h2,cF]at h
     obtain⟨i,h2,h3⟩:=qZ b l (k+1) h
     exact⟨i+1,by rw[cT,cF,h2];omega,h3⟩
    ·refine⟨0,by rw[cT,cT];rfl,?_⟩
     have e1:t.state=2:=by simpa using h1
     have e2:t.by'=b:=by simpa using h2
     obtain⟨x,y⟩:=t
     simp only at e1 e2
     rw[e1,e2];rfl
end Go.Proofs.Mo

namespace Go.Proofs.Mo
open Go.Proofs.Tryz
open Go Go.VL Go.Proofs.Zn Go.Proofs.Mn
def dW:List Cell->List Cell->List Log->Bool
 | f::fs,c::cs,l::ls=>bif !dc c then false else bif c.cap != f.cap then false else bif !fX l then false else bif l.room != 8 then false else bif l.last != c.ver then false else dW fs cs ls
 | _,_,_=>true
theorem rl:∀ (a b cs:List Cell) (ls:List Log),a.length<=cs.length->a.length<=ls.length->dW (a++b) cs ls=bif dW a cs ls then dW b (cs.drop a.length) (ls.drop a.length)else false
 | [],b,cs,ls,_,_=>rfl
 | x::a,b,[],ls,h,_=>by simp at h
 | x::a,b,c::cs,[],_,h=>by simp at h
 | x :: a, b, c :: cs, l :: ls, h1, h2 => by
   simp only[ag]at h1 h2
   have ih:=rl a b cs ls (by omega) (by omega)
   simp only[iG,dW,ih,ag,List.drop_succ_cons]
   cases (!dc c)
   ·cases (c.cap != x.cap)
    ·cases (!fX l)
     ·cases (l.room != 8)
      ·cases (l.last != c.ver)<;>rfl
      ·rfl
     ·rfl
    ·rfl
   ·rfl
theorem Fp {s:Stock}(hl:s.logs.length=s.cells.length)(hs:s.cells.length<=1000000){z:Plate}(hz:PlateOk z)(kc:Int->Int->Int×Bool):∀ (n ix:Nat) (i1:Int) (k:Nat),k+n<=s.cells.length->0<=i1->i1+1099511627776*n<=4611686018427387904 ->
  kK s z kc n ix i1 (k:Int)=bif dW ((List.range' ix n).map (cU z)) (s.cells.drop k) (s.logs.drop k)then kc (i1+tot (((List.range' ix n).map (cU z)).map Cell.vol)) ((k+n:Nat):Int)else(0,false)
 | 0, ix, i1, k, _, _, _ => by
   simp only[kK,List.range'_zero,dm,dW,cT,tot,lJ,eN]
 | n + 1, ix, i1, k, hk, h0, h1 => by
   have hv:=hz.start ix
   have hc:=hz.cap
   have e1:s.cells.drop k=s.cells.getD k (Ty.dflt .cell)::s.cells.drop (k+1):=by rw[dG (by omega),cJ (by omega)]
   have e2:s.logs.drop k=s.logs.getD k (Ty.dflt .log)::s.logs.drop (k+1):=by rw[dG (by omega),cJ (by omega)]
   have key:∀ v,v=z.start.getD ix 0->kK s z kc n (ix+1) (w64 (i1+v)) (w64 ((k:Int)+1)) =
     bif dW ((List.range' (ix+1) n).map (cU z)) (s.cells.drop (k+1)) (s.logs.drop (k+1))then kc (i1+(v+tot (((List.range' (ix+1) n).map (cU z)).map Cell.vol))) ((k+(n+1):Nat):Int)else(0,false):=by
    intro v hv'
    have hv0:0<=v/\v<=1099511627776:=by omega
    rw[ax (n:=i1+v) (by omega) (by omega),aw (by omega),Fp hl hs hz kc n (ix+1) _ (k+1) (by omega) (by omega) (by omega),gq,show k+1+n=k+(n+1) by omega]
   have ec:(cU z ix).vol=z.start.getD ix 0:=rfl
   have ek:(cU z ix).cap=z.cap:=rfl
   unfold kK
   rw[e1,e2]
   simp only[iE,bk,dW,tot,ec,ek,aq]
   cases (!dc (s.cells.getD k (Ty.dflt .cell)))
   ·cases ((s.cells.getD k (Ty.dflt .cell)).cap != z.cap)
    ·cases (!fX (s.logs.getD k (Ty.dflt .log)))
     ·cases ((s.logs.getD k (Ty.dflt .log)).room != 8)
      ·cases ((s.logs.getD k (Ty.dflt .log)).last != (s.cells.getD k (Ty.dflt .cell)).ver)
       ·simp only[cF]
        by_cases hx:(ix:Int)<z.start.length
        ·rw[dT hx,cT]
         exact key _ rfl
        ·rw[dF hx,cF]
         have e0:z.start.getD ix 0=0:=by simp[List.getD,au (show z.start.length<=ix by omega)]
         have:=key 0 e0.symm
         rw[e0]
         rw[lJ,ax (n:=i1) (by omega) (by omega)]at this
         exact this
       ·rfl
      ·rfl
     ·rfl
    ·rfl
   ·rfl
end Go.Proofs.Mo

namespace Go.Proofs.Mo
open Go.Proofs.Tryz
open Go Go.VL Go.Proofs.Zn Go.Proofs.Mn
theorem yQ {d:Deck}{ps:List Plate}(hp:∀ z∈ps,PlateOk z):∀ c∈(ps.flatMap eS).map Cell.vol,0<=c/\c<=1099511627776:=by
 intro c hc
 obtain⟨x,hx,rfl⟩:=aT.1 hc
 obtain⟨z,hz,hx⟩:=iF.1 hx
 obtain⟨k,_,rfl⟩:=aT.1 hx
 have h1:=(hp z hz).start k
 have h2:=(hp z hz).cap
 simp only[cU];omega
theorem xc {s:Stock}(hl:s.logs.length=s.cells.length)(hs:s.cells.length<=1000000):∀ (ps:List Plate),(∀ z∈ps,PlateOk z)->∀ (ix k:Nat) (i:Int),k+(ps.flatMap eS).length<=s.cells.length->0<=i->i+1688849860263936*ps.length<=4611686018427387904 ->
  mu s ps ix i (k:Int)=bif dW (ps.flatMap eS) (s.cells.drop k) (s.logs.drop k)then(i+tot ((ps.flatMap eS).map Cell.vol),true)else(0,false)
 | [], _, ix, k, i, _, _, _ => by
   simp only[mu,List.flatMap_nil,dW,cT,dm,tot,lJ]
 | z :: ps, hp, ix, k, i, hk, h0, h1 => by
   have hz:=hp z (by simp)
   have hsz:=hz.size
   have hw:w64 (z.rows*z.cols)=z.rows*z.cols:=ax (by omega) (by omega)
   have hc:=@jL z
   simp only[ag]at h1
   simp only[eO,al]at hk
   have hb:∀ c∈(eS z).map Cell.vol,0<=c/\c<=1099511627776:=by
    have:=yQ (d:=⟨[],[],[],0⟩) (ps:=[z]) (fun y hy=>by rw[bz.1 hy];exact hz)
    simpa using this
   have ht:=mQ hb
   rw[bB,hc]at ht
   unfold mu
   rw[hw,cZ,Fp hl hs hz _ _ 0 i k (by omega) h0 (by omega)]
   have e:(List.range' 0 (z.rows*z.cols).toNat).map (cU z)=eS z:=rfl
   rw[e,xc hl hs ps (fun y hy=>hp y (by simp[hy])) (ix+1) _ _ (by omega) (by omega) (by omega)]
   simp only[eO,bO,oj]
   rw[rl _ _ _ _ (by rw[aK];omega) (by rw[aK];omega),jT,jT,hc]
   cases dW (eS z) (s.cells.drop k) (s.logs.drop k)
   ·rfl
   ·simp only[cT,gq]
theorem ED {d:Deck}{s:Stock}(h:(cW d != 0)=false)(hc:(s.cells.length:Int)=bp (aL d))(hl:s.logs.length=s.cells.length)(hs:s.cells.length<=1000000) :
  zK d s=bif dW (bi d) s.cells s.logs then(tot ((bi d).map Cell.vol),true)else(0,false):=by
 have hk:=cf h
 have hn:=iK h
 unfold bi at hn
 have:=xc hl hs d.plates (fun z hz=>jA (hk.plate z hz)) 0 0 0 (by omega) (by omega) (by have:=hk.plates;omega)
 unfold zK
 rw[Int.zero_add,bD,bD]at this
 exact this
theorem mU (d:Deck)(s:Stock)(fs:List Cell)(t:Int):∀ (zs:List Cell) (ix:Nat),zs=s.cells.drop ix->fs.length=s.cells.length->s.logs.length=s.cells.length ->
  qg d s fs t zs ix=bif dW (fs.drop ix) zs (s.logs.drop ix)then oK d s t s.tips 0 []else false
 | [], ix, hz, hf, hl => by
   unfold qg
   cases fs.drop ix<;>rfl
 | z :: zs, ix, hz, hf, hl => by
   have hlen:ix<s.cells.length:=by
    rcases ay ix s.cells.length with h|h
    ·exact h
    ·rw[dN h]at hz;cases hz
   have e:s.cells.drop ix=s.cells[ix]::s.cells.drop (ix+1):=dG hlen
   rw[e]at hz
   have hz2:zs=s.cells.drop (ix+1):=(iN hz).2
   have ih:=mU d s fs t zs (ix+1) hz2 hf hl
   have e1:fs.drop ix=fs.getD ix (Ty.dflt .cell)::fs.drop (ix+1):=by rw[dG (by omega),cJ (by omega)]
   have e2:s.logs.drop ix=s.logs.getD ix (Ty.dflt .log)::s.logs.drop (ix+1):=by rw[dG (by omega),cJ (by omega)]
   unfold qg
   rw[e1,e2,ih]
   simp only[dW]
   cases (!dc z)
   ·cases (z.cap != (fs.getD ix (Ty.dflt .cell)).cap)
    ·cases (!fX (s.logs.getD ix (Ty.dflt .log)))
     ·cases ((s.logs.getD ix (Ty.dflt .log)).room != 8)
      ·cases ((s.logs.getD ix (Ty.dflt .log)).last != z.ver)<;>rfl
      ·rfl
     ·rfl
    ·rfl
   ·rfl
def eR (n:Int):List Tip->List Int->Bool
 | [],_=>true
 | t::ts,h=>bif !fJ t then false else bif decide (t.by'>n)then false else bif h.elem t.by' then false else bif t.state==2 then eR n ts (h++[t.by'])else eR n ts h
def Ho (s:Stock)(t:Int):Bool:=bif s.start != t then false else bif decide (s.inn<0)then false else bif decide (s.inn>1152921504606846976)then false else bif decide (s.out<0)then false else bif decide (s.out>1152921504606846976)then false else
 bif (vV s).2==0 then(vV s).1==w64 (w64 (s.start+s.inn)-s.out)else false
theorem Fy (h:List Int)(t:Tip)(kc:List Int->Bool):∀ (l:List Int) (ix:Nat),qf h t kc l ix=bif l.elem t.by' then false else bif t.state==2 then kc (h++[t.by'])else kc h
 | [],ix=>by unfold qf;rfl
 | x :: l, ix => by
   unfold qf
   rw[Fy h t kc l (ix+1)]
   simp only[List.elem_cons]
   have e:(x==t.by')=(t.by'==x):=by rw[fy,bV,bV];exact eq_comm
   rw[e]
   cases (t.by'==x)<;>rfl
theorem mV (d:Deck)(s:Stock)(t:Int):∀ (ts:List Tip) (ix:Nat) (h:List Int),oK d s t ts ix h=bif eR d.arms ts h then Ho s t else false
 | [],ix,h=>by unfold oK Ho;rfl
 | x :: ts, ix, h => by
   unfold oK eR
   have ih:=mV d s t ts (ix+1)
   rw[Fy]
   simp only[ih]
   cases (!fJ x)
   ·cases decide (x.by'>d.arms)
    ·cases h.elem x.by'
     ·cases (x.state==2)<;>rfl
     ·rfl
    ·rfl
   ·rfl
theorem AU:∀ (l:List Int) (k:Nat),decide (gG l k>=0)=l.any fun x=>decide (x>1)
 | [],k=>rfl
 | x :: l, k => by
   have ih:=AU l (k+1)
   unfold gG
   have e:GC x=decide (x>1):=rfl
   rw[e,List.any_cons]
   by_cases h:x>1
   ·rw[dT h,cT,Bool.true_or]
    exact dT (by omega)
   ·rw[dF h,cF,Bool.false_or]
    exact ih
theorem sg (l:List Int):oL l=l.any fun x=>decide (x>1):=AU l 0
structure Cnt (c h:List Int) (k:Nat):Prop where
 len:c.length=9
 eq:∀ i:Nat,i<9->c.getD i 0=(h.count (i:Int):Int)
 few:h.length<=k
theorem wu {c h:List Int}{k:Nat}(hc:Cnt c h k)(hk:k<=1000000){b:Int}(h1:1<=b)(h8:b<=8):Cnt (c.set b.toNat (w64 (c.getD b.toNat 0+1))) (h++[b]) (k+1):=by
 have e:=hc.eq b.toNat (by omega)
 have hle:h.count b<=h.length:=List.count_le_length
 have hf:=hc.few
 rw[bH (by omega)]at e
 refine⟨by rw[cM];exact hc.len,fun i hi=>?_,by rw[al];simp only[ag,am];omega⟩
 rw[List.count_append]
 have hl:=hc.len
 by_cases hb:i=b.toNat
 ·subst hb
  rw[e,ax (by omega) (by omega),show(c.set b.toNat ((h.count b:Int)+1)).getD b.toNat 0=(h.count b:Int)+1 by simp[List.getD,hl,hi]]
  rw[bH (by omega)]
  simp
 ·have e2:(c.set b.toNat (w64 (c.getD b.toNat 0+1))).getD i 0=c.getD i 0:=by
   simp only[List.getD,bF]
   rw[aH (fun e=>hb e.symm)]
  rw[e2,hc.eq i hi]
  have:([b]:List Int).count (i:Int)=0:=by
   rw[List.count_cons,List.count_nil]
   have:¬ b=(i:Int):=by omega
   simp[this]
  rw[this];simp
theorem Cg {c h:List Int}{k:Nat}(hc:Cnt c h k)(hr:∀ x∈h,1<=x/\x<=8):(c.any fun x=>decide (x>1))=false↔h.Nodup:=by
 rw[List.nodup_iff_count,List.any_eq_false]
 constructor
 ·intro hall a
  rcases ay (h.count a) 2 with h2|h2
  ·omega
  ·exfalso
   have hm:a∈h:=List.count_pos_iff.1 (by omega)
   have:=hr a hm
   have e:=hc.eq a.toNat (by omega)
   rw[bH (by omega)]at e
   have hl:=hc.len
   have hmem:c.getD a.toNat 0∈c:=by rw[cJ (by omega)];exact aQ _
   have:=hall _ hmem
   simp only[bx]at this
   omega
 ·intro hall x hx
  obtain⟨i,hi,rfl⟩:=dV hx
  have hl:=hc.len
  have e:=hc.eq i (by omega)
  rw[cJ hi]at e
  have:=hall (i:Int)
  simp only[bx]
  omega
theorem zR (n:Int):∀ (l:List Tip) (c h:List Int) (k:Nat),Cnt c h k->k+l.length<=1000000->(∀ x∈h,1<=x/\x<=8)->¬ h.Nodup->gr n l c=false
 | [], c, h, k, hc, _, hr, hd => by
   unfold gr
   rw[sg]
   cases ha:c.any fun x=>decide (x>1)
   ·exact absurd ((Cg hc hr).1 ha) hd
   ·rfl
 | t :: l, c, h, k, hc, hk, hr, hd => by
   simp only[ag]at hk
   unfold gr
   cases g1:(!fJ t)
   ·cases decide (t.by'>n)
    ·cases g3:(t.state==2)
     ·exact zR n l c h k hc (by omega) hr hd
     ·have hb:1<=t.by'/\t.by'<=8:=by
       rcases rr g1 g3 with e|e|e|e|e|e|e|e<;>omega
      exact zR n l _ (h++[t.by']) (k+1) (wu hc (by omega) hb.1 hb.2) (by omega) (fun x hx=>by
       rcases aA.1 hx with hx|hx
       ·exact hr x hx
       ·rw[bz.1 hx];exact hb) (fun hn=>hd (hX.1 hn).1)
    ·rfl
   ·rfl
theorem Hd (n:Int):∀ (l:List Tip) (c h:List Int) (k:Nat),Cnt c h k->k+l.length<=1000000->(∀ x∈h,1<=x/\x<=8)->h.Nodup->gr n l c=eR n l h
 | [], c, h, k, hc, _, hr, hd => by
   unfold gr eR
   rw[sg,(Cg hc hr).2 hd];rfl
 | t :: l, c, h, k, hc, hk, hr, hd => by
   simp only[ag]at hk
   unfold gr eR
   cases g1:(!fJ t)
   ·cases decide (t.by'>n)
    ·cases g3:(t.state==2)
     ·have hz:t.by'=0:=by
       have:=nf g1
       unfold fJ at this
       rw[g3,cF]at this
       cases h1:(t.state==1)
       ·rw[h1,cF]at this
        cases h2:(t.state==3)
        ·rw[h2]at this;cases this
        ·rw[h2]at this;simpa using this
       ·rw[h1]at this;simpa using this
      have he:h.elem t.by'=false:=by
       rw[hz,lh,cE]
       intro hm
       have:=hr 0 hm
       omega
      simp only[cF,he]
      exact Hd n l c h k hc (by omega) hr hd
     ·have hb:1<=t.by'/\t.by'<=8:=by
       rcases rr g1 g3 with e|e|e|e|e|e|e|e<;>omega
      have hr':∀ x∈h++[t.by'],1<=x/\x<=8:=fun x hx=>by
       rcases aA.1 hx with hx|hx
       ·exact hr x hx
       ·rw[bz.1 hx];exact hb
      simp only[cF,cT]
      cases he:h.elem t.by'
      ·rw[cF]
       refine Hd n l _ (h++[t.by']) (k+1) (wu hc (by omega) hb.1 hb.2) (by omega) hr' ?_
       rw[hX]
       refine⟨hd,by simp,fun a ha b hb'=>?_⟩
       rw[bz.1 hb']
       intro e
       rw[lh,cE]at he
       exact he (e ▸ ha)
      ·rw[cT]
       refine zR n l _ (h++[t.by']) (k+1) (wu hc (by omega) hb.1 hb.2) (by omega) hr' fun hn=>?_
       rw[lh,bx]at he
       exact(hX.1 hn).2.2 _ he _ (by simp) rfl
    ·rfl
   ·rfl
theorem GZ {l:List Tip}(n:Int)(hl:l.length<=1000000):zQ l n=eR n l []:=
 Hd n l _ [] 0 ⟨rfl,fun i hi=>by
  match i,hi with
  | 0,_|1,_|2,_|3,_|4,_|5,_|6,_|7,_|8,_=>rfl,aI _⟩ (by omega) (fun x hx=>by simp at hx) .nil
end Go.Proofs.Mo

namespace Go.Proofs.Mo
open Go.Proofs.Tryz
open Go Go.VL Go.Proofs.Zn Go.Proofs.Mn
theorem EM:∀ (l:List Cell) (ix:Nat) (acc:List Int),mm l ix acc=wS (acc++l.map Cell.vol)
 | [],ix,acc=>by unfold mm;simp
 | c :: l, ix, acc => by
   unfold mm
   rw[EM l (ix+1)]
   simp
theorem AZ (s:Stock):vV s=EL s:=by
 unfold vV
 rw[EM,fw];rfl
theorem Cd (x:Int):(wC x 0 1152921504606846976 != x)=bif decide (x<0)then true else decide (x>1152921504606846976):=by
 unfold wC
 by_cases h1:x<0
 ·rw[dT h1,cT,cT]
  exact dl.2 (by omega)
 ·rw[dF h1,cF,cF]
  by_cases h2:x>1152921504606846976
  ·rw[dT h2,cT]
   exact dl.2 (by omega)
  ·rw[dF h2,cF]
   exact ai.2 rfl
theorem kT {d:Deck}{s:Stock}(hb:OkS s):m91 d s=m94 d s:=by
 unfold m91 m94
 rw[AR]
 cases hz:cW d != 0
 ·have hn:=iK hz
  have hw:=mL hz
  have ht:=ly hz
  have htn:=(cf hz).tips
  have e0:((eW d).2 != 0)=false:=by unfold eW;rw[hz];rfl
  have e1:(eW d).1.cells=bi d:=by unfold eW;rw[hz];rfl
  have e2:((eW d).1.logs.length:Int)=(bi d).length:=by unfold eW;rw[hz];simp
  have e3:((eW d).1.tips.length:Int)=bp (aR d):=by unfold eW;rw[hz];simp;omega
  have e4:(eW d).1.start=tot ((bi d).map Cell.vol):=by unfold eW;rw[hz];rfl
  rw[e0,cF,cF,hw,ht,e1,e2,e3,e4,hn]
  cases h1:((s.cells.length:Int) != bp (aL d))
  ·cases h2:((s.logs.length:Int) != bp (aL d))
   ·cases h3:((s.tips.length:Int) != bp (aR d))
    ·have h1:=ai.1 h1
     have h2:=ai.1 h2
     have hl:s.logs.length=s.cells.length:=by omega
     rw[mU d s (bi d) _ s.cells 0 rfl (by omega) hl,bD,bD,mV,ED hz h1 hl hb.cells,GZ d.arms hb.tips]
     simp only[cF]
     cases dW (bi d) s.cells s.logs
     ·simp only[cF,jU,cT]
      cases eR d.arms s.tips []<;>rfl
     ·simp only[cT,bc,cF]
      cases eR d.arms s.tips []
      ·rfl
      ·simp only[bc,cF,cT]
       unfold Ho
       rw[AZ,Cd,Cd]
       cases (s.start != tot ((bi d).map Cell.vol))
       ·cases decide (s.inn<0)
        ·cases decide (s.inn>1152921504606846976)
         ·cases decide (s.out<0)
          ·cases decide (s.out>1152921504606846976)<;>rfl
          ·rfl
         ·rfl
        ·rfl
       ·rfl
    ·rfl
   ·rfl
  ·rfl
 ·have e0:((eW d).2 != 0)=true:=by unfold eW;rw[hz];exact hz
  rw[e0];rfl
theorem uj (m:Model):∀ (l:List Int) (k:Nat),nB m l k = !(decide (gM m l k>=0))
 | [],k=>rfl
 | x :: l, k => by
   unfold nB gM m93
   have ih:=uj m l (k+1)
   by_cases h1:x<0
   ·rw[dT h1,cT,cT,cT,dT (show(k:Int)>=0 by omega)];rfl
   ·rw[dF h1,cF,cF]
    by_cases h2:x>m.deck.arms
    ·rw[dT h2,cT,cT,dT (show(k:Int)>=0 by omega)];rfl
    ·rw[dF h2,cF,cF];exact ih
theorem Dn (d:Deck):((cO d).length:Int)=(bu d).1+(bu d).2.1+(bu d).2.2:=by
 unfold cO bu
 cases h:dE d != 0
 ·have hk:DeckOk d:=fm (by simpa using h)
  rw[cF,cF,mW hk]
 ·rfl
theorem pr {m:Model}(hb:OkM m):m31 m=m32 m:=by
 unfold m31 m32
 rw[wt,← Dn,kT hb.toS,uj m m.owners 0]
 have e:(!pD m m.owners) = !decide (gM m m.owners 0>=0):=rfl
 rw[e]
 cases ((m.owners.length:Int) != ((cO m.deck).length:Int))
 ·rfl
 ·cases m94 m.deck m.stock<;>rfl
theorem iS {n:Int}:∀ {l:List Tip} {h:List Int},eR n l h=true->td l
 | [],_,_=>fun t ht=>by simp at ht
 | t :: l, h, hr => by
   unfold eR at hr
   cases g1:(!fJ t)
   ·rw[g1,cF]at hr
    cases g2:decide (t.by'>n)
    ·rw[g2,cF]at hr
     cases g3:h.elem t.by'
     ·rw[g3,cF]at hr
      have ih:td l:=by
       cases g4:(t.state==2)
       ·rw[g4,cF]at hr;exact iS hr
       ·rw[g4,cT]at hr;exact iS hr
      intro x hx
      rcases aD.1 hx with rfl|hx
      ·exact nf g1
      ·exact ih x hx
     ·rw[g3]at hr;cases hr
    ·rw[g2]at hr;cases hr
   ·rw[g1]at hr;cases hr
theorem ki {d:Deck}{s:Stock}(hb:OkS s)(h:m91 d s=true):eR d.arms s.tips []=true/\dW (bi d) s.cells s.logs=true/\Ho s (tot ((bi d).map Cell.vol))=true:=by
 obtain⟨hz,hc,hl,ht⟩:=jw h
 rw[kT hb]at h
 unfold m94 at h
 rw[AR]at h
 have hn:=iK hz
 have e0:((eW d).2 != 0)=false:=by unfold eW;rw[hz];rfl
 have e1:(eW d).1.cells=bi d:=by unfold eW;rw[hz];rfl
 have e2:((eW d).1.logs.length:Int)=(bi d).length:=by unfold eW;rw[hz];simp
 have e3:((eW d).1.tips.length:Int)=bp (aR d):=by unfold eW;rw[hz];simp;have:=(cf hz).tips;omega
 have e4:(eW d).1.start=tot ((bi d).map Cell.vol):=by unfold eW;rw[hz];rfl
 rw[e0,cF,e1,e2,e3,e4,hn,ai.2 hc,cF,ai.2 (by omega),cF,ai.2 ht,cF,mU d s (bi d) _ s.cells 0 rfl (by omega) hl,bD,bD,mV]at h
 cases hw:dW (bi d) s.cells s.logs
 ·rw[hw]at h;cases h
 rw[hw,cT]at h
 cases hh:eR d.arms s.tips []
 ·rw[hh]at h;cases h
 rw[hh,cT]at h
 exact⟨rfl,rfl,h⟩
theorem JL {d:Deck}{s:Stock}(hb:OkS s)(b:Int):m95 d s b=m96 d s b:=by
 unfold m95 m96
 rw[← kT hb]
 cases hr:m91 d s
 ·rfl
 ·have ht:td s.tips:=iS (ki hb hr).1
  rw[wc b ht]
  by_cases h:gD s b>=0
  ·rw[dT h,dF (show ¬ gD s b<0 by omega)];rfl
  ·rw[dF h,dT (show gD s b<0 by omega)];rfl
theorem Ha {m:Model}(hb:OkM m)(w:Int):m33 m w=m34 m w:=by
 unfold m33 m34
 rw[← JL hb.toS,← pr hb]
 cases hr:m31 m
 ·cases (m95 m.deck m.stock w).2<;>rfl
 ·have h95:(m95 m.deck m.stock w).2=false->(m95 m.deck m.stock w).1 = -1:=by
   unfold m95
   cases (!m91 m.deck m.stock)
   ·cases (!(pJ m.stock.tips w).2)
    ·intro h;cases h
    ·intro _;rfl
   ·intro _;rfl
  cases h2:(m95 m.deck m.stock w).2
  ·exact h95 h2
  ·rfl
end Go.Proofs.Mo

namespace Go.Proofs.Mo
open Go.Proofs.Tryz
open Go Go.VL Go.Proofs.Zn Go.Proofs.Mn
theorem tb {d:Deck}{s:Stock}(hb:OkS s)(b:Int):aU d s b=iQ d s b:=by
 unfold aU iQ
 rw[kT hb]
theorem zm (cs:List Cell)(ls:List Log)(ts ts':List Tip)(st inn out st' inn' out':Int)(d:Deck)(b id:Int)(c:Cell):ji cs ls ts st inn out d b id c=qE cs ls ts' st' inn' out' b id c:=by
 unfold ji qE
 rw[AX,AY]
theorem rI (e:Int)(s:Stock)(d:Deck):eP (e,s,d)=(e != 0):=rfl
theorem qJ (s:Stock)(st inn out:Int)(ts:List Tip)(ls:List Log)(d:Deck)(i:Int):nq s.cells ls ts st inn out d i=qF s i:=rfl
abbrev S0:Stock:=⟨[],[],[],0,0,0⟩
def yG (x:Stock×Int):Prop:=x.2≠0->x.1=S0
theorem kj {e:Int}:yG (S0,e):=fun _=>rfl
theorem Fs {s:Stock}:yG (s,0):=fun h=>absurd rfl h
theorem kn {c:Bool}{x y:Stock×Int}(hx:yG x)(hy:yG y):yG (bif c then x else y):=by
 cases c
 ·exact hy
 ·exact hx
theorem xh {x:Stock×Int}(h:yG x):(bif kF x then((⟨[],[],[],0,0,0⟩:Stock),x.2)else(x.1,(0:Int)))=x:=by
 obtain⟨a,e⟩:=x
 show(bif e != 0 then(S0,e)else(a,0))=(a,e)
 cases he:e != 0
 ·have:e=0:=ai.1 he
  rw[this];rfl
 ·have:e≠0:=by simpa using he
  have h:=h this
  simp only at h
  rw[h];rfl
theorem Ft (d:Deck)(s:Stock)(b i n:Int):yG (ka d s b i n):=by
 unfold ka
 exact kn kj (kn kj (kn kj (kn kj Fs)))
theorem CV (d:Deck)(s:Stock)(b i n:Int):yG (jZ d s b i n):=by
 unfold jZ
 exact kn kj (kn kj (kn kj (kn kj Fs)))
theorem BO {d:Deck}{s:Stock}(hb:OkS s)(b i:Int){n:Int}(hn:cy n):oP d s b i n=ka d s b i n:=by
 have e:gm d s b i n=ka d s b i n:=by
  unfold gm ka
  rw[rI,tb hb,qJ,AG hn]
  simp only[zm _ _ _ s.tips _ _ _ s.start s.inn s.out]
 have h:oP d s b i n=(bif kF (gm d s b i n)then((⟨[],[],[],0,0,0⟩:Stock),(gm d s b i n).2)else((gm d s b i n).1,(0:Int))):=rfl
 rw[h,e]
 exact xh (Ft d s b i n)
theorem wM {d:Deck}{s:Stock}(hb:OkS s)(b i n:Int):oO d s b i n=jZ d s b i n:=by
 have e:gl d s b i n=jZ d s b i n:=by
  unfold gl jZ
  rw[rI,tb hb,qJ,BR]
  simp only[zm _ _ _ s.tips _ _ _ s.start s.inn s.out]
 have h:oO d s b i n=(bif kF (gl d s b i n)then((⟨[],[],[],0,0,0⟩:Stock),(gl d s b i n).2)else((gl d s b i n).1,(0:Int))):=rfl
 rw[h,e]
 exact xh (CV d s b i n)
theorem AT {d:Deck}{s:Stock}(hb:OkS s)(b i j:Int){n:Int}(hn:cy n):oQ d s b i j n=lq d s b i j n:=by
 unfold oQ lq
 rw[rI,tb hb,qJ,qJ,Gj hn]
 simp only[zm _ _ _ s.tips _ _ _ s.start s.inn s.out]
theorem ER {d:Deck}{s:Stock}(hb:OkS s)(b i:Int)(hi:cy i):xT d s b i=gI d s b i:=by
 unfold xT gI
 rw[rI,tb hb]
 cases h:(iQ d s b != 0)
 ·have h0:iQ d s b=0:=ai.1 h
  have hr:=ki hb (d:=d) (by rw[kT hb];exact(zu h0).1)
  have ht:=iS hr.1
  have hc:=hb.cells
  have hl:=hb.tips
  unfold cy at hi
  rw[cF,cF,wc b ht,ax (n:=(s.cells.length:Int)+s.tips.length) (by omega) (by omega)]
  unfold xP
  by_cases h1:i>=(s.cells.length:Int)
  ·rw[dT h1,cT,cT,ax (n:=i-s.cells.length) (by omega) (by omega)]
   by_cases h2:i<(s.cells.length:Int)+s.tips.length
   ·have h3:i-(s.cells.length:Int)<s.tips.length:=by omega
    rw[dT h2,dT h3]
    simp only[cT,IC]
    by_cases h4:gD s b>=0
    ·rw[dT h4]
     rfl
    ·rw[dF h4]
     rfl
   ·have h3:¬ i-(s.cells.length:Int)<s.tips.length:=by omega
    rw[dF h2,dF h3]
    rfl
  ·rw[dF h1]
   rfl
 ·rfl
theorem Hq {d:Deck}{s:Stock}(hb:OkS s)(b:Int):xR d s b=gH d s b:=by
 unfold xR gH
 rw[rI,tb hb]
 cases h:(iQ d s b != 0)
 ·have h0:iQ d s b=0:=ai.1 h
  have hr:=ki hb (d:=d) (by rw[kT hb];exact(zu h0).1)
  have ht:=iS hr.1
  rw[cF,cF,wc b ht]
  by_cases h4:gD s b>=0
  ·rw[dT h4,dF (show ¬ gD s b<0 by omega)]
   obtain⟨k,hk,hg⟩:=qZ b s.tips 0 h4
   have hk:gD s b=(k:Int):=by rw[show gD s b=eQ b s.tips 0 from rfl,hk];omega
   simp only[cT,cF,bc,hk,aq]
   have hkl:k<s.tips.length:=(an.1 hg).1
   have hz:s.tips.getD k (Ty.dflt .tip)=⟨2,b⟩:=by
    rw[cJ hkl]
    exact(an.1 hg).2
   rw[hz,JS (ht _ (bq hg)) rfl]
  ·rw[dF h4,dT (show gD s b<0 by omega)]
   rfl
 ·rfl
end Go.Proofs.Mo

namespace Go.Proofs.Mo
open Go.Proofs.Tryz
open Go Go.VL Go.Proofs.Zn Go.Proofs.Mn
theorem rV (w:Int):∀ (l:List Int) (k:Nat) (acc:List Int),kJ w l k acc=ql w l k acc
 | [],_,_=>rfl
 | z :: l, k, acc => by
   unfold kJ ql
   rw[rV w l,rV w l]
theorem AP (o:List Int)(w:Int):zF o w=m39 o w:=rV w o 0 []
theorem yb (o:List Int)(w:Int):∀ (l:List Int) (k:Nat),sf o w l k=my o w l k
 | [],_=>rfl
 | z :: l, k => by
   unfold sf my
   rw[yb o w l]
theorem GR (o ids:List Int)(w:Int):m99 o ids w=DS o ids w:=yb o w ids 0
theorem FX:∀ (l:List Int) (k:Nat),(!decide (gE l k>=0))=pI l k
 | [],k=>rfl
 | z :: l, k => by
   have ih:=FX l (k+1)
   unfold gE pI
   have e:DH z=bif decide (z<0)then true else decide (z>8):=by
    unfold DH vT
    by_cases h0:z=0
    ·subst h0;rfl
    ·rw[show(z != 0)=true by simpa using h0,cT]
     by_cases h1:z<0
     ·rw[dT h1,dF (show ¬ z>=1 by omega)];rfl
     ·rw[dF h1,dT (show z>=1 by omega),cT,cF]
      by_cases h2:z>8
      ·rw[dT h2,dF (show ¬ z<=8 by omega)];rfl
      ·rw[dF h2,dT (show z<=8 by omega)];rfl
   rw[e]
   by_cases h1:z<0
   ·rw[dT h1,cT,cT,cT,dT (show(k:Int)>=0 by omega)];rfl
   ·rw[dF h1,cF,cF]
    by_cases h2:z>8
    ·rw[dT h2,cT,cT,dT (show(k:Int)>=0 by omega)];rfl
    ·rw[dF h2,cF,cF];exact ih
theorem FW (o:List Int):DK o=xQ o:=FX o 0
theorem FZ (l:List Int):∀ (zs:List Int) (k:Nat),nU l zs k=pH l zs k
 | [],_=>rfl
 | z :: zs, k => by
   unfold nU pH
   rw[FZ l zs]
theorem FY (l:List Int):DJ l=zG l:=FZ l (l.drop 1) 1
theorem sG (p:Int->Bool):∀ (l:List Int) (k:Nat),(match l.find? p with
  | some z=>gY p l k>=0/\∃ i:Nat,gY p l k=(k+i:Nat)/\l[i]?=some z
  | none=>gY p l k = -1)
 | [],k=>rfl
 | x :: l, k => by
   have ih:=sG p l (k+1)
   unfold gY
   rw[jd]
   cases hp:p x
   ·rw[cF]
    simp only
    cases hf:l.find? p with
    | none=>rw[hf]at ih;exact ih
    | some z =>
      rw[hf]at ih
      obtain⟨h1,i,h2,h3⟩:=ih
      exact⟨h1,i+1,by rw[h2];omega,h3⟩
   ·rw[cT]
    exact⟨by omega,0,rfl,rfl⟩
theorem na {p:Int->Bool}{l:List Int}(h:l.find? p=none):gY p l 0 = -1:=by
 have:=sG p l 0
 rw[h]at this
 exact this
theorem pa {p:Int->Bool}{l:List Int}{z:Int}(h:l.find? p=some z):gY p l 0>=0/\l.getD (gY p l 0).toNat (Ty.dflt .int)=z:=by
 have:=sG p l 0
 rw[h]at this
 obtain⟨h1,i,h2,h3⟩:=this
 refine⟨h1,?_⟩
 rw[h2,aq,cq]
 simp[List.getD,h3]
theorem sb (o:List Int):∀ (l:List Int) (k:Nat),iv o l k=(match l.find? (np o)with|some z=>(z,3)|none=>(0,0))
 | [],k=>rfl
 | x :: l, k => by
   have ih:=sb o l (k+1)
   unfold iv
   rw[jd]
   have e:np o x=bif decide (x<0)then true else decide (x>=o.length):=rfl
   rw[e]
   by_cases h1:x<0
   ·rw[dT h1];rfl
   ·rw[dF h1,cF,cF]
    by_cases h2:x>=(o.length:Int)
    ·rw[dT h2];rfl
    ·rw[dF h2,cF];exact ih
theorem Aw (to:Int):∀ (l:List Int) (k k':Nat) (acc:List Int),fk to l k acc=(jF to l k' acc,0,0)
 | [],_,_,_=>rfl
 | x :: l, k, k', acc => by
   unfold fk jF
   rw[Aw to l (k+1) (k'+1)]
theorem Ax (to:Int):∀ (l:List Int) (k k':Nat) (acc:List Int),fj to l k acc=(jF to l k' acc,0,0)
 | [],_,_,_=>rfl
 | x :: l, k, k', acc => by
   unfold fj jF
   rw[Ax to l (k+1) (k'+1)]
theorem tX (o ids:List Int)(w:Int):∀ (l:List Int) (k:Nat),gW o ids w l k=(match l.find? (fP o w)with|some z=>([],z,140)|none=>(lS o ids w,0,0))
 | [],k=>rfl
 | x :: l, k => by
   have ih:=tX o ids w l (k+1)
   unfold gW
   rw[jd]
   have e:fP o w x = !(bif o.getD x.toNat (Ty.dflt .int)==0 then true else o.getD x.toNat (Ty.dflt .int)==w):=rfl
   rw[e]
   unfold bne
   cases (o.getD x.toNat (Ty.dflt .int)==(0:Int))
   ·cases (o.getD x.toNat (Ty.dflt .int)==w)
    ·rfl
    ·exact ih
   ·exact ih
theorem uY (o ids:List Int)(w:Int):∀ (l:List Int) (k:Nat),gJ o ids w l k=(match l.find? (fO o w)with|some z=>([],z,141)|none=>(lS o ids 0,0,0))
 | [],k=>rfl
 | x :: l, k => by
   have ih:=uY o ids w l (k+1)
   unfold gJ
   rw[jd]
   have e:fO o w x = !(o.getD x.toNat (Ty.dflt .int)==w):=rfl
   rw[e]
   unfold bne
   cases (o.getD x.toNat (Ty.dflt .int)==w)
   ·rfl
   ·exact ih
def Nb (x:List Int×Int×Int):Prop:=(x.2.2≠0->x.1=[])/\(x.2.2=0->x.2.1=0)
theorem ue {x:List Int×Int×Int}(h:Nb x):(bif kG x then(([]:List Int),x.2.1,x.2.2)else(x.1,(0:Int),(0:Int)))=x:=by
 obtain⟨a,i,e⟩:=x
 obtain⟨h1,h2⟩:=h
 show(bif e != 0 then(([]:List Int),i,e)else(a,(0:Int),(0:Int)))=(a,i,e)
 cases he:e != 0
 ·have he:e=0:=ai.1 he
  have:=h2 he
  simp only at this
  rw[this,he];rfl
 ·have he:e≠0:=by simpa using he
  have:=h1 he
  simp only at this
  rw[this];rfl
theorem Ia (w:Int):(!vT w)=bif decide (w<1)then true else decide (w>8):=by
 unfold vT
 by_cases h1:w<1
 ·rw[dT h1,dF (show ¬ w>=1 by omega)];rfl
 ·rw[dF h1,dT (show w>=1 by omega),cT,cF]
  by_cases h2:w>8
  ·rw[dT h2,dF (show ¬ w<=8 by omega)];rfl
  ·rw[dF h2,dT (show w<=8 by omega)];rfl
theorem EV (o ids:List Int)(w:Int):oR o ids w=lU o ids w:=by
 have e:fc o ids w w 140 w=lU o ids w/\Nb (lU o ids w):=by
  unfold fc lU lT
  rw[FW,FY,Ia]
  have i1:dS o ids=gY (np o) ids 0:=iR o ids 0
  have i2:dI o w ids=gY (fP o w) ids 0:=mq o w ids 0
  rw[i1,i2]
  cases xQ o
  ·exact⟨rfl,⟨fun _=>rfl,fun h=>by cases h⟩⟩
  by_cases h1:w<1
  ·rw[dT h1]
   exact⟨rfl,⟨fun _=>rfl,fun h=>by cases h⟩⟩
  rw[dF h1]
  by_cases h2:w>8
  ·rw[dT h2]
   exact⟨rfl,⟨fun _=>rfl,fun h=>by cases h⟩⟩
  rw[dF h2]
  cases zG ids
  ·exact⟨rfl,⟨fun _=>rfl,fun h=>by cases h⟩⟩
  simp only[bc,cF,sb,tX]
  cases hf:ids.find? (np o)with
  | some z =>
    obtain⟨g1,g2⟩:=pa hf
    rw[dT g1,g2]
    exact⟨rfl,⟨fun _=>rfl,fun h=>by cases h⟩⟩
  | none =>
    rw[na hf]
    cases hf2:ids.find? (fP o w)with
    | some z =>
      obtain⟨g1,g2⟩:=pa hf2
      rw[dT g1,g2]
      exact⟨rfl,⟨fun _=>rfl,fun h=>by cases h⟩⟩
    | none =>
      rw[na hf2,Aw w ids 0 0 o]
      exact⟨rfl,⟨fun h=>absurd rfl h,fun _=>rfl⟩⟩
 have h:oR o ids w=(bif kG (fc o ids w w 140 w)then(([]:List Int),(fc o ids w w 140 w).2.1,(fc o ids w w 140 w).2.2)else((fc o ids w w 140 w).1,(0:Int),(0:Int))):=rfl
 rw[h,e.1]
 exact ue e.2
theorem yi (o ids:List Int)(w:Int):nY o ids w=kb o ids w:=by
 have e:eZ o ids w 0 141 w=kb o ids w/\Nb (kb o ids w):=by
  unfold eZ kb lT
  rw[FW,FY,Ia]
  have i1:dS o ids=gY (np o) ids 0:=iR o ids 0
  have i2:dH o w ids=gY (fO o w) ids 0:=mo o w ids 0
  rw[i1,i2]
  cases xQ o
  ·exact⟨rfl,⟨fun _=>rfl,fun h=>by cases h⟩⟩
  by_cases h1:w<1
  ·rw[dT h1]
   exact⟨rfl,⟨fun _=>rfl,fun h=>by cases h⟩⟩
  rw[dF h1]
  by_cases h2:w>8
  ·rw[dT h2]
   exact⟨rfl,⟨fun _=>rfl,fun h=>by cases h⟩⟩
  rw[dF h2]
  cases zG ids
  ·exact⟨rfl,⟨fun _=>rfl,fun h=>by cases h⟩⟩
  simp only[bc,cF,sb,uY]
  cases hf:ids.find? (np o)with
  | some z =>
    obtain⟨g1,g2⟩:=pa hf
    rw[dT g1,g2]
    exact⟨rfl,⟨fun _=>rfl,fun h=>by cases h⟩⟩
  | none =>
    rw[na hf]
    cases hf2:ids.find? (fO o w)with
    | some z =>
      obtain⟨g1,g2⟩:=pa hf2
      rw[dT g1,g2]
      exact⟨rfl,⟨fun _=>rfl,fun h=>by cases h⟩⟩
    | none =>
      rw[na hf2,Ax 0 ids 0 0 o]
      exact⟨rfl,⟨fun h=>absurd rfl h,fun _=>rfl⟩⟩
 have h:nY o ids w=(bif kG (eZ o ids w 0 141 w)then(([]:List Int),(eZ o ids w 0 141 w).2.1,(eZ o ids w 0 141 w).2.2)else((eZ o ids w 0 141 w).1,(0:Int),(0:Int))):=rfl
 rw[h,e.1]
 exact ue e.2
end Go.Proofs.Mo

namespace Go.Proofs.Mo
open Go.Proofs.Tryz
open Go Go.VL Go.Proofs.Zn Go.Proofs.Mn
theorem Ml (b:Nat):cy (Wn.ofS b).1:=by
 have h0:cy 0:=by unfold cy;omega
 unfold Wn.ofS
 cases Wn.jj (Wn.rN b)==1 with
 | true=>exact h0
 | false=>
 cases Wn.jj (Wn.rN b)==2 with
 | true=>exact h0
 | false=>
 cases Wn.jj (Wn.rN b)==3 with
 | true=>exact h0
 | false=>
 cases Wn.pz b with
 | true=>exact h0
 | false=>
 by_cases h:(Wn.tp (Wn.rN b)>1099511627776)
 ·rw[dT h];exact h0
 ·rw[dF h]
  show cy (Wn.tp (Wn.rN b):Int)
  unfold cy;omega
theorem mP (q:Req):cy (Wn.cB q).1:=by
 unfold Wn.cB
 cases (Wn.ofS q.vol.toNat).2==0&&(Wn.ofS q.vol.toNat).1==0
 ·exact Ml _
 ·show cy 0
  unfold cy;omega
def Got (s:Stock)(i:Int)(x:Stock×Int):Prop:=x.2=0->(0<=i/\i<s.cells.length)/\x.1.cells.length=s.cells.length
theorem pP {s:Stock}{i e:Int}{y:Stock×Int}(h:Got s i y):Got s i (bif e != 0 then(S0,e)else y):=by
 cases he:e != 0
 ·exact h
 ·intro h0
  exact absurd h0 (by simpa using he)
theorem sH {s:Stock}{i e:Int}{c:Bool}{y:Stock×Int}(he:e≠0)(h:c=false->Got s i y):Got s i (bif c then(S0,e)else y):=by
 cases c
 ·exact h rfl
 ·exact fun h0=>absurd h0 he
theorem jt {s:Stock}{i:Int}(h:(!qF s i)=false):0<=i/\i<s.cells.length:=by
 have h:qF s i=true:=by simpa using h
 unfold qF at h
 by_cases h0:i>=0
 ·rw[dT h0,cT]at h
  exact⟨h0,oT h⟩
 ·rw[dF h0]at h;cases h
theorem Hc (d:Deck)(s:Stock)(b i n:Int):Got s i (ka d s b i n):=by
 unfold ka
 exact pP (sH (by decide) fun hm=>pP (sH (by decide) fun _=>fun _=>⟨jt hm,by simp[qE]⟩))
theorem Ed (d:Deck)(s:Stock)(b i n:Int):Got s i (jZ d s b i n):=by
 unfold jZ
 exact pP (sH (by decide) fun hm=>pP (sH (by decide) fun _=>fun _=>⟨jt hm,by simp[qE]⟩))
theorem Hb (d:Deck)(s:Stock)(b i j n:Int):Got s i (lq d s b i j n):=by
 unfold lq
 exact pP (sH (by decide) fun hm=>sH (by decide) fun _=>sH (by decide) fun _=>pP (fun _=>⟨jt hm,by simp[qE]⟩))
theorem wb {m:Model}{who:Int}{q:Req}{x:Stock×Int}{xe xi xn xv:Int}(hx:Got m.stock q.a x)(h:(ib m who q x.1 x.2 xe xi xn xv).2.err=0):0<=q.a/\q.a<(ib m who q x.1 x.2 xe xi xn xv).1.stock.cells.length:=by
 unfold ib at h ⊢
 cases he:x.2 != 0
 ·have h0:x.2=0:=ai.1 he
  have:=hx h0
  exact⟨this.1.1,by show q.a<(x.1.cells.length:Int);rw[this.2];exact this.1.2⟩
 ·rw[he]at h
  exact absurd (show x.2=0 from h) (by simpa using he)
theorem pe {m:Model}{who:Int}{q:Req}{j xe xi xn xv:Int}(hb:OkM m)(h:(ib m who q (oQ m.deck m.stock who q.a j (Wn.cB q).1).1 (oQ m.deck m.stock who q.a j (Wn.cB q).1).2 xe xi xn xv).2.err=0):0<=q.a/\q.a<(ib m who q (oQ m.deck m.stock who q.a j (Wn.cB q).1).1 (oQ m.deck m.stock who q.a j (Wn.cB q).1).2 xe xi xn xv).1.stock.cells.length:=
 wb (by rw[AT hb.toS _ _ _ (mP q)];exact Hb _ _ _ _ _ _) h
theorem pf {m:Model}{who:Int}{q:Req}{xe xi xn xv:Int}(hb:OkM m)(h:(ib m who q (oP m.deck m.stock who q.a (Wn.cB q).1).1 (oP m.deck m.stock who q.a (Wn.cB q).1).2 xe xi xn xv).2.err=0):0<=q.a/\q.a<(ib m who q (oP m.deck m.stock who q.a (Wn.cB q).1).1 (oP m.deck m.stock who q.a (Wn.cB q).1).2 xe xi xn xv).1.stock.cells.length:=
 wb (by rw[BO hb.toS _ _ (mP q)];exact Hc _ _ _ _ _) h
theorem mH {m:Model}{who:Int}{q:Req}{xe xi xn xv:Int}(hb:OkM m)(h:(ib m who q (oO m.deck m.stock who q.a (Wn.cB q).1).1 (oO m.deck m.stock who q.a (Wn.cB q).1).2 xe xi xn xv).2.err=0):0<=q.a/\q.a<(ib m who q (oO m.deck m.stock who q.a (Wn.cB q).1).1 (oO m.deck m.stock who q.a (Wn.cB q).1).2 xe xi xn xv).1.stock.cells.length:=
 wb (by rw[wM hb.toS];exact Ed _ _ _ _ _) h
end Go.Proofs.Mo

namespace Go.Proofs.Mo
open Go.Proofs.Tryz
open Go Go.VL
theorem t175 (m:Model)(who:Int)(q:Req):@Eq _ (yS prog codes sigs f175 1 300 [.ptr 0 0] [(0,.box (dD m who q))] 1) (.need (U5/\U7/\U2/\True) (.callP 95 [⟨.deck,m.deck⟩,⟨.stock,m.stock⟩,⟨.int,who⟩] [.int,.bool] fun(x:Int×Bool)=>bif decide (x.1<0)then .need (U2/\U2/\True) (.callP 98 [⟨.int,(131:Int)⟩,⟨.int,(0:Int)⟩] [.resp] fun(x:Resp)=>.need True (.ret ⟨[.agg (pC x)],[(0,.box (tC m who q))],1⟩))else .need (U7/\True) (.callP 15 [⟨.req,q⟩] [.int,.int] fun(x:Int×Int)=>bif q.kind==4 then .need (U5/\U7/\U2/\U2/\U2/\U2/\True) (.callP 236 [⟨.deck,m.deck⟩,⟨.stock,m.stock⟩,⟨.int,who⟩,⟨.int,q.a⟩,⟨.int,q.b⟩,⟨.int,x.1⟩] [.stock,.int] fun(x_1:Stock×Int)=>.callG 233 [.ptr 0 0,.agg (sC x_1.1),i64 x_1.2,.agg [i64 0,i64 0,i64 x.1,i64 0,nS]] [(0,.box (tC m who q))] 1 [.model,.resp] (fun(a:Model×Resp)=>GRes.mk [.agg (pC a.2)] [(0,.box (tC a.1 who q))] 1) fun(x:Model×Resp)=>bif x.2.err==0 then .callG 174 [.ptr 0 0] [(0,.box (tC x.1 who q))] 1 [.cell] (fun(a:Cell)=>GRes.mk [.agg (cC a)] [(0,.box (tC x.1 who q))] 1) fun(x_2:Cell)=>.need True (.ret ⟨[.agg [i64 x.2.err,i64 x.2.id,i64 x.2.n,i64 x_2.ver,.d (.sl .change x.2.list)]],[(0,.box (tC x.1 who q))],1⟩)else .need True (.ret ⟨[.agg (pC x.2)],[(0,.box (tC x.1 who q))],1⟩))else bif q.kind==5 then .need (U5/\U7/\U2/\U2/\U2/\True) (.callP 237 [⟨.deck,m.deck⟩,⟨.stock,m.stock⟩,⟨.int,who⟩,⟨.int,q.a⟩,⟨.int,x.1⟩] [.stock,.int] fun(x_1:Stock×Int)=>.callG 233 [.ptr 0 0,.agg (sC x_1.1),i64 x_1.2,.agg [i64 0,i64 0,i64 x.1,i64 0,nS]] [(0,.box (tC m who q))] 1 [.model,.resp] (fun(a:Model×Resp)=>GRes.mk [.agg (pC a.2)] [(0,.box (tC a.1 who q))] 1) fun(x:Model×Resp)=>bif x.2.err==0 then .callG 174 [.ptr 0 0] [(0,.box (tC x.1 who q))] 1 [.cell] (fun(a:Cell)=>GRes.mk [.agg (cC a)] [(0,.box (tC x.1 who q))] 1) fun(x_2:Cell)=>.need True (.ret ⟨[.agg [i64 x.2.err,i64 x.2.id,i64 x.2.n,i64 x_2.ver,.d (.sl .change x.2.list)]],[(0,.box (tC x.1 who q))],1⟩)else .need True (.ret ⟨[.agg (pC x.2)],[(0,.box (tC x.1 who q))],1⟩))else .need (U5/\U7/\U2/\U2/\U2/\True) (.callP 238 [⟨.deck,m.deck⟩,⟨.stock,m.stock⟩,⟨.int,who⟩,⟨.int,q.a⟩,⟨.int,x.1⟩] [.stock,.int] fun(x_1:Stock×Int)=>.callG 233 [.ptr 0 0,.agg (sC x_1.1),i64 x_1.2,.agg [i64 0,i64 0,i64 x.1,i64 0,nS]] [(0,.box (tC m who q))] 1 [.model,.resp] (fun(a:Model×Resp)=>GRes.mk [.agg (pC a.2)] [(0,.box (tC a.1 who q))] 1) fun(x:Model×Resp)=>bif x.2.err==0 then .callG 174 [.ptr 0 0] [(0,.box (tC x.1 who q))] 1 [.cell] (fun(a:Cell)=>GRes.mk [.agg (cC a)] [(0,.box (tC x.1 who q))] 1) fun(x_2:Cell)=>.need True (.ret ⟨[.agg [i64 x.2.err,i64 x.2.id,i64 x.2.n,i64 x_2.ver,.d (.sl .change x.2.list)]],[(0,.box (tC x.1 who q))],1⟩)else .need True (.ret ⟨[.agg (pC x.2)],[(0,.box (tC x.1 who q))],1⟩))))):=by kernel_rfl
theorem t100 (m:Model)(who:Int)(q:Req):@Eq _ (yS prog codes sigs f100 1 300 [.ptr 0 0] [(0,.box (dD m who q))] 1) (bif q.kind==1 then .callG 168 [.ptr 0 0] [(0,.box (tC m who q))] 1 [.model,.resp] (fun(a:Model×Resp)=>GRes.mk [.agg (pC a.2)] [(0,.box (tC a.1 who q))] 1) fun(x:Model×Resp)=>.need True (.ret ⟨[.agg (pC x.2)],[(0,.box (tC x.1 who q))],1⟩)else bif q.kind==2 then .callG 169 [.ptr 0 0] [(0,.box (tC m who q))] 1 [.model,.resp] (fun(a:Model×Resp)=>GRes.mk [.agg (pC a.2)] [(0,.box (tC a.1 who q))] 1) fun(x:Model×Resp)=>.need True (.ret ⟨[.agg (pC x.2)],[(0,.box (tC x.1 who q))],1⟩)else bif q.kind==3 then .callG 170 [.ptr 0 0] [(0,.box (tC m who q))] 1 [.model,.resp] (fun(a:Model×Resp)=>GRes.mk [.agg (pC a.2)] [(0,.box (tC a.1 who q))] 1) fun(x:Model×Resp)=>.need True (.ret ⟨[.agg (pC x.2)],[(0,.box (tC x.1 who q))],1⟩)else bif q.kind==7 then .callG 171 [.ptr 0 0] [(0,.box (tC m who q))] 1 [.model,.resp] (fun(a:Model×Resp)=>GRes.mk [.agg (pC a.2)] [(0,.box (tC a.1 who q))] 1) fun(x:Model×Resp)=>.need True (.ret ⟨[.agg (pC x.2)],[(0,.box (tC x.1 who q))],1⟩)else bif q.kind==8 then .callG 172 [.ptr 0 0] [(0,.box (tC m who q))] 1 [.model,.resp] (fun(a:Model×Resp)=>GRes.mk [.agg (pC a.2)] [(0,.box (tC a.1 who q))] 1) fun(x:Model×Resp)=>.need True (.ret ⟨[.agg (pC x.2)],[(0,.box (tC x.1 who q))],1⟩)else bif q.kind==10 then .callG 173 [.ptr 0 0] [(0,.box (tC m who q))] 1 [.model,.resp] (fun(a:Model×Resp)=>GRes.mk [.agg (pC a.2)] [(0,.box (tC a.1 who q))] 1) fun(x:Model×Resp)=>.need True (.ret ⟨[.agg (pC x.2)],[(0,.box (tC x.1 who q))],1⟩)else bif q.kind==9 then .callG 174 [.ptr 0 0] [(0,.box (tC m who q))] 1 [.cell] (fun(a:Cell)=>GRes.mk [.agg (cC a)] [(0,.box (tC m who q))] 1) fun(x:Cell)=>.callG 174 [.ptr 0 0] [(0,.box (tC m who q))] 1 [.cell] (fun(a:Cell)=>GRes.mk [.agg (cC a)] [(0,.box (tC m who q))] 1) fun(x_1:Cell)=>.need True (.ret ⟨[.agg [i64 0,i64 0,i64 x.vol,i64 x_1.ver,nS]],[(0,.box (tC m who q))],1⟩)else .callG 175 [.ptr 0 0] [(0,.box (tC m who q))] 1 [.model,.resp] (fun(a:Model×Resp)=>GRes.mk [.agg (pC a.2)] [(0,.box (tC a.1 who q))] 1) fun(x:Model×Resp)=>.need True (.ret ⟨[.agg (pC x.2)],[(0,.box (tC x.1 who q))],1⟩)):=by kernel_rfl
end Go.Proofs.Mo

namespace Go.Proofs.Mo
open Go.Proofs.Tryz
open Go Go.VL
set_option maxRecDepth 20000
open Go.Proofs.Zn Go.Proofs.Mn
open Wn (dR bK)
def zH (m:Model)(who:Int)(q:Req):Model×Resp:=bif decide ((m95 m.deck m.stock who).1<(0:Int))then let y1:=m98 (131:Int) (0:Int);(m,y1)else bif (q.kind==(4:Int))then let y2:=oQ m.deck m.stock who q.a q.b (Wn.cB q).1;let y3:=ib m who q y2.1 y2.2 (0:Int) (0:Int) (Wn.cB q).1 (0:Int);bif (y3.2.err==(0:Int))then(y3.1,Resp.mk y3.2.err y3.2.id y3.2.n (ml y3.1 who q).ver y3.2.list)else(y3.1,y3.2)else bif (q.kind==(5:Int))then let y4:=oP m.deck m.stock who q.a (Wn.cB q).1;let y5:=ib m who q y4.1 y4.2 (0:Int) (0:Int) (Wn.cB q).1 (0:Int);bif (y5.2.err==(0:Int))then(y5.1,Resp.mk y5.2.err y5.2.id y5.2.n (ml y5.1 who q).ver y5.2.list)else(y5.1,y5.2)else let y6:=oO m.deck m.stock who q.a (Wn.cB q).1;let y7:=ib m who q y6.1 y6.2 (0:Int) (0:Int) (Wn.cB q).1 (0:Int);bif (y7.2.err==(0:Int))then(y7.1,Resp.mk y7.2.err y7.2.id y7.2.n (ml y7.1 who q).ver y7.2.list)else(y7.1,y7.2)
theorem c175 (m:Model)(who:Int)(q:Req)(hb:OkM m)(hr:OkR q):Gc prog 175 [.ptr 0 0] [(0,.box (dD m who q))] 1 ((fun x:Model×Resp=>(⟨[.agg (fL x.2)],[(0,.box (dD x.1 who q))],1⟩:GRes)) (zH m who q)):=
 Gc.of_closed (C:=codes) (S:=sigs) mixed func175 (by kernel_rfl) nE fun A hA=>hA.go (t175 m who q) (by
  generalize h:zH m who q=r at hA ⊢
  unfold zH at h
  refine⟨⟨q5,q7,q2,tv⟩,_,c95 _ _ _ hb.toS,?_⟩
  refine ah h (fun g1 h=>?_) (fun g1 h=>?_)
  ·have g1:=oT g1
   exact⟨⟨q2,q2,tv⟩,_,c98 _ _,tv,(by rw[← h];first|exact .of_eq rfl|exact dy _ _ _ _ _ _)⟩
  ·have g1:=oF g1
   refine⟨⟨q7,tv⟩,_,Wn.c15 hr.v0 hr.v1,?_⟩
   refine ah h (fun g2 h=>?_) (fun g2 h=>?_)
   ·try replace g2:=aV g2
    refine⟨⟨q5,q7,q2,q2,q2,q2,tv⟩,_,c236 _ _ _ _ _ _ hb.toS,ib m who q (oQ m.deck m.stock who q.a q.b (Wn.cB q).1).1 (oQ m.deck m.stock who q.a q.b (Wn.cB q).1).2 (0:Int) (0:Int) (Wn.cB q).1 (0:Int),HM _ _ _ _ _ _ _ _ _,?_⟩
    refine ah h (fun g3 h=>?_) (fun g3 h=>?_)
    ·try replace g3:=aV g3
     exact⟨ml (ib m who q (oQ m.deck m.stock who q.a q.b (Wn.cB q).1).1 (oQ m.deck m.stock who q.a q.b (Wn.cB q).1).2 (0:Int) (0:Int) (Wn.cB q).1 (0:Int)).1 who q,Er _ _ _ (by first|assumption|exact(hi (by omega)).1|with_reducible exact pe hb (by assumption)|with_reducible exact pf hb (by assumption)|with_reducible exact mH hb (by assumption)),tv,(by rw[← h];first|exact .of_eq rfl|exact dy _ _ _ _ _ _)⟩
    ·exact⟨tv,(by rw[← h];first|exact .of_eq rfl|exact dy _ _ _ _ _ _)⟩
   ·refine ah h (fun g3 h=>?_) (fun g3 h=>?_)
    ·try replace g3:=aV g3
     refine⟨⟨q5,q7,q2,q2,q2,tv⟩,_,c237 _ _ _ _ _ hb.toS,ib m who q (oP m.deck m.stock who q.a (Wn.cB q).1).1 (oP m.deck m.stock who q.a (Wn.cB q).1).2 (0:Int) (0:Int) (Wn.cB q).1 (0:Int),HM _ _ _ _ _ _ _ _ _,?_⟩
     refine ah h (fun g4 h=>?_) (fun g4 h=>?_)
     ·try replace g4:=aV g4
      exact⟨ml (ib m who q (oP m.deck m.stock who q.a (Wn.cB q).1).1 (oP m.deck m.stock who q.a (Wn.cB q).1).2 (0:Int) (0:Int) (Wn.cB q).1 (0:Int)).1 who q,Er _ _ _ (by first|assumption|exact(hi (by omega)).1|with_reducible exact pe hb (by assumption)|with_reducible exact pf hb (by assumption)|with_reducible exact mH hb (by assumption)),tv,(by rw[← h];first|exact .of_eq rfl|exact dy _ _ _ _ _ _)⟩
     ·exact⟨tv,(by rw[← h];first|exact .of_eq rfl|exact dy _ _ _ _ _ _)⟩
    ·refine⟨⟨q5,q7,q2,q2,q2,tv⟩,_,c238 _ _ _ _ _ hb.toS,ib m who q (oO m.deck m.stock who q.a (Wn.cB q).1).1 (oO m.deck m.stock who q.a (Wn.cB q).1).2 (0:Int) (0:Int) (Wn.cB q).1 (0:Int),HM _ _ _ _ _ _ _ _ _,?_⟩
     refine ah h (fun g4 h=>?_) (fun g4 h=>?_)
     ·try replace g4:=aV g4
      exact⟨ml (ib m who q (oO m.deck m.stock who q.a (Wn.cB q).1).1 (oO m.deck m.stock who q.a (Wn.cB q).1).2 (0:Int) (0:Int) (Wn.cB q).1 (0:Int)).1 who q,Er _ _ _ (by first|assumption|exact(hi (by omega)).1|with_reducible exact pe hb (by assumption)|with_reducible exact pf hb (by assumption)|with_reducible exact mH hb (by assumption)),tv,(by rw[← h];first|exact .of_eq rfl|exact dy _ _ _ _ _ _)⟩
     ·exact⟨tv,(by rw[← h];first|exact .of_eq rfl|exact dy _ _ _ _ _ _)⟩)
def DT (m:Model)(who:Int)(q:Req):Model×Resp:=bif (q.kind==(1:Int))then let y1:=zJ m who q;(y1.1,y1.2)else bif (q.kind==(2:Int))then let y2:=zI m who q;(y2.1,y2.2)else bif (q.kind==(3:Int))then let y3:=DR m who q;(y3.1,y3.2)else bif (q.kind==(7:Int))then let y4:=DQ m who q;(y4.1,y4.2)else bif (q.kind==(8:Int))then let y5:=DP m who q;(y5.1,y5.2)else bif (q.kind==(10:Int))then let y6:=DO m who q;(y6.1,y6.2)else bif (q.kind==(9:Int))then(m,Resp.mk (0:Int) (0:Int) (ml m who q).vol (ml m who q).ver [])else let y7:=zH m who q;(y7.1,y7.2)
theorem c100 (m:Model)(who:Int)(q:Req)(hb:OkM m)(hr:OkR q)(hi:q.kind=9\/q.kind=10->(0<=q.a/\q.a<m.stock.cells.length)/\(0<=q.a/\q.a<m.stock.logs.length)):Gc prog 100 [.ptr 0 0] [(0,.box (dD m who q))] 1 ((fun x:Model×Resp=>(⟨[.agg (fL x.2)],[(0,.box (dD x.1 who q))],1⟩:GRes)) (DT m who q)):=
 Gc.of_closed (C:=codes) (S:=sigs) mixed func100 (by kernel_rfl) nE fun A hA=>hA.go (t100 m who q) (by
  generalize h:DT m who q=r at hA ⊢
  unfold DT at h
  refine ah h (fun g1 h=>?_) (fun g1 h=>?_)
  ·try replace g1:=aV g1
   exact⟨zJ m who q,c168 _ _ _ hb hr,tv,(by rw[← h];first|exact .of_eq rfl|exact dy _ _ _ _ _ _)⟩
  ·refine ah h (fun g2 h=>?_) (fun g2 h=>?_)
   ·try replace g2:=aV g2
    exact⟨zI m who q,c169 _ _ _ hb hr,tv,(by rw[← h];first|exact .of_eq rfl|exact dy _ _ _ _ _ _)⟩
   ·refine ah h (fun g3 h=>?_) (fun g3 h=>?_)
    ·try replace g3:=aV g3
     exact⟨DR m who q,c170 _ _ _ hb hr,tv,(by rw[← h];first|exact .of_eq rfl|exact dy _ _ _ _ _ _)⟩
    ·refine ah h (fun g4 h=>?_) (fun g4 h=>?_)
     ·try replace g4:=aV g4
      exact⟨DQ m who q,c171 _ _ _ hb hr,tv,(by rw[← h];first|exact .of_eq rfl|exact dy _ _ _ _ _ _)⟩
     ·refine ah h (fun g5 h=>?_) (fun g5 h=>?_)
      ·try replace g5:=aV g5
       exact⟨DP m who q,c172 _ _ _ hb hr,tv,(by rw[← h];first|exact .of_eq rfl|exact dy _ _ _ _ _ _)⟩
      ·refine ah h (fun g6 h=>?_) (fun g6 h=>?_)
       ·try replace g6:=aV g6
        exact⟨DO m who q,c173 _ _ _ hb hr (hi (.inr (by assumption))).1 (hi (.inr (by assumption))).2,tv,(by rw[← h];first|exact .of_eq rfl|exact dy _ _ _ _ _ _)⟩
       ·refine ah h (fun g7 h=>?_) (fun g7 h=>?_)
        ·try replace g7:=aV g7
         exact⟨ml m who q,Er _ _ _ (by first|assumption|exact(hi (by omega)).1|with_reducible exact pe hb (by assumption)|with_reducible exact pf hb (by assumption)|with_reducible exact mH hb (by assumption)),ml m who q,Er _ _ _ (by first|assumption|exact(hi (by omega)).1|with_reducible exact pe hb (by assumption)|with_reducible exact pf hb (by assumption)|with_reducible exact mH hb (by assumption)),tv,(by rw[← h];first|exact .of_eq rfl|exact dy _ _ _ _ _ _)⟩
        ·exact⟨zH m who q,c175 _ _ _ hb hr,tv,(by rw[← h];first|exact .of_eq rfl|exact dy _ _ _ _ _ _)⟩)
end Go.Proofs.Mo

namespace Go.Proofs.Mo
open Go.Proofs.Tryz
open Go Go.VL Go.Proofs.Zn Go.Proofs.Mn
theorem xK (m:Model)(l1:List (Option Nat))(l2:List Rack)(l3:List Plate)(l4:List Cell)(ls:List Log):∀ (n ix:Nat),n+ix<=ls.length->oM m l1 l2 l3 l4 n ix ls=vP m l1 l2 l3 l4 ls
 | 0,ix,_=>rfl
 | n + 1, ix, h => by
   unfold oM
   have e:ls.set ix (Log.mk (ls.getD ix Ty.log.dflt).room (ls.getD ix Ty.log.dflt).last (ls.getD ix Ty.log.dflt).list)=ls:=iP (getD_some (by omega))
   show oM m l1 l2 l3 l4 n (ix+1) (ls.set ix (Log.mk (ls.getD ix Ty.log.dflt).room (ls.getD ix Ty.log.dflt).last (ls.getD ix Ty.log.dflt).list))=_
   rw[e]
   exact xK m l1 l2 l3 l4 ls n (ix+1) (by omega)
theorem sn (m:Model)(l1:List (Option Nat))(l2:List Rack)(ls:List Plate):∀ (n ix:Nat),n+ix<=ls.length->oN m l1 l2 n ix ls=xM m l1 l2 ls
 | 0,ix,_=>rfl
 | n + 1, ix, h => by
   unfold oN
   have e:ls.set ix (Plate.mk (ls.getD ix Ty.plate.dflt).rows (ls.getD ix Ty.plate.dflt).cols (ls.getD ix Ty.plate.dflt).x (ls.getD ix Ty.plate.dflt).pitch (ls.getD ix Ty.plate.dflt).reach (ls.getD ix Ty.plate.dflt).cap (ls.getD ix Ty.plate.dflt).start)=ls:=iP (getD_some (by omega))
   show oN m l1 l2 n (ix+1) (ls.set ix (Plate.mk (ls.getD ix Ty.plate.dflt).rows (ls.getD ix Ty.plate.dflt).cols (ls.getD ix Ty.plate.dflt).x (ls.getD ix Ty.plate.dflt).pitch (ls.getD ix Ty.plate.dflt).reach (ls.getD ix Ty.plate.dflt).cap (ls.getD ix Ty.plate.dflt).start))=_
   rw[e]
   exact sn m l1 l2 ls n (ix+1) (by omega)
theorem zz (m:Model):m85 m=m:=by
 have h1:m85 m=oN m m.deck.borders m.deck.racks ((m.deck.plates.length:Int).toNat-0) 0 m.deck.plates:=rfl
 rw[h1,sn _ _ _ _ _ _ (by omega)]
 have h2:xM m m.deck.borders m.deck.racks m.deck.plates=oM m m.deck.borders m.deck.racks m.deck.plates m.stock.cells ((m.stock.logs.length:Int).toNat-0) 0 m.stock.logs:=rfl
 rw[h2,xK _ _ _ _ _ _ _ _ (by omega)]
 rfl
theorem DZ {d:Deck}{i:Int}(h:Wn.eH d i=1):0<=i/\i<bp (aL d):=by
 unfold Wn.eH kU at h
 cases h1:dE d != 0
 ·rw[h1,cF]at h
  by_cases h2:i<0
  ·rw[dT h2]at h;cases h
  rw[dF h2,cF]at h
  by_cases h3:i>=((dz d).length:Int)
  ·rw[dT h3]at h;cases h
  rw[dF h3,cF]at h
  refine⟨by omega,?_⟩
  have hp:=ui (fm (d:=d) (ai.1 h1)) (i:=i) (by omega) (by omega)
  rw[bn,hp]at h
  by_cases h4:i<bp (aL d)
  ·exact h4
  rw[dF h4,cF]at h
  exfalso
  by_cases h5:i<bp (aL d)+bp (aR d)
  ·rw[dT h5,cT]at h
   have hk:∀ (l:List Go.VL.Box) (u n:Int),(gV 2 u l n).kind=2:=by
    intro l
    induction l with
    | nil=>intro u n;rfl
    | cons b l ih =>
      intro u n
      unfold gV
      cases decide (n<b.rows*b.cols)
      ·exact ih _ _
      ·rfl
   have:(gV 2 0 (aR d) (i-bp (aL d))).kind=1:=h
   rw[hk]at this;cases this
  ·rw[dF h5,cF]at h;cases h
 ·rw[h1]at h;cases h
theorem Ep {d:Deck}{q:Req}(h:(Wn.dr d q).err=0)(hk:q.kind=9\/q.kind=10):Wn.eH d q.a=1:=by
 unfold Wn.dr at h
 cases h1:cW d != 0
 case true=>rw[h1]at h;exact absurd h (by simpa[Wn.fD]using h1)
 rw[h1,cF]at h
 cases h2:(decide (q.kind<1)||decide (q.kind>10))
 case true=>rw[h2]at h;cases (show(150:Int)=0 from h)
 rw[h2,cF]at h
 cases h3 : !Wn.qI (Wn.JJ q) (Wn.flS q.kind)
 case true=>rw[h3]at h;cases (show(151:Int)=0 from h)
 rw[h3,cF]at h
 have hw:Wn.fI q=1:=by
  unfold Wn.fI
  rcases hk with e|e<;>rw[e]<;>rfl
 have hi:(Wn.flS q.kind).ids=false:=by rcases hk with e|e<;>rw[e]<;>rfl
 have ha:(Wn.flS q.kind).a=true:=by rcases hk with e|e<;>rw[e]<;>rfl
 rw[hi,cF]at h
 unfold Wn.kI at h
 rw[ha,hw,cm]at h
 cases h4:(Wn.eH d q.a != 1)
 ·exact ai.1 h4
 ·rw[h4]at h;cases (show(3:Int)=0 from h)
theorem GX {m:Model}{q:Req}(g1:(!m31 m)=false)(g4:(Wn.dr m.deck q).err=0):q.kind=9\/q.kind=10->(0<=q.a/\q.a<m.stock.cells.length)/\(0<=q.a/\q.a<m.stock.logs.length):=by
 intro hk
 have hw:=DZ (Ep g4 hk)
 have g1:m31 m=true:=by simpa using g1
 unfold m31 at g1
 cases h1:((m.owners.length:Int) != w64 (w64 (Prod.fst (Zn.bu (Model.deck m))+Prod.fst (Prod.snd (Zn.bu (Model.deck m))))+Prod.snd (Prod.snd (Zn.bu (Model.deck m)))))
 case true=>rw[h1]at g1;cases g1
 rw[h1,cF]at g1
 cases h2:m91 m.deck m.stock
 ·rw[h2]at g1;cases g1
 obtain⟨_,hc,hl,_⟩:=jw h2
 omega
end Go.Proofs.Mo

namespace Go.Proofs.Mo
open Go.Proofs.Tryz
open Go Go.VL
set_option maxRecDepth 20000
open Go.Proofs.Zn Go.Proofs.Mn
open Wn (dR bK)
def m37 (m:Model)(who:Int)(q:Req):Model×Resp:=bif (!(m31 m))then(Model.mk (Deck.mk [] [] [] (0:Int)) (Stock.mk [] [] [] (0:Int) (0:Int) (0:Int)) [],(m98 (161:Int) (0:Int)))else bif decide (who<(1:Int))then((m85 m),(m98 (80:Int) (0:Int)))else bif decide (who>(m85 m).deck.arms)then((m85 m),(m98 (80:Int) (0:Int)))else bif ((Wn.dr (m85 m).deck q).err != (0:Int))then((m85 m),(Wn.dr (m85 m).deck q))else bif (m99 (m85 m).owners (Wn.kW (m85 m).deck q) who).2 then((m85 m),(m98 (141:Int) (m99 (m85 m).owners (Wn.kW (m85 m).deck q) who).1))else let y1:=DT (m85 m) who q;(y1.1,y1.2)
theorem c37 (m:Model)(who:Int)(q:Req)(hb:OkM m)(hr:OkR q):Pure prog 37 [⟨.model,m⟩,⟨.int,who⟩,⟨.req,q⟩] [.model,.resp] (m37 m who q):=
 Pure.of_closed (C:=codes) (S:=sigs) mixed func37 (by kernel_rfl) (ac (by kernel_rfl)) fun A hA=>hA.go (t37 m who q) (by
  generalize h:m37 m who q=r at hA ⊢
  unfold m37 at h
  refine⟨⟨q12,tv⟩,_,c31 _ hb,?_⟩
  refine ah h (fun g1 h=>?_) (fun g1 h=>?_)
  ·exact⟨⟨q2,q2,tv⟩,_,c98 _ _,⟨q12,tv,tv,tv,tv,tv,tv⟩,h⟩
  ·refine⟨⟨q12,tv⟩,_,c85 _ hb,?_⟩
   refine ah h (fun g2 h=>?_) (fun g2 h=>?_)
   ·have g2:=oT g2
    exact⟨⟨q2,q2,tv⟩,_,c98 _ _,⟨q12,tv,tv,tv,tv,tv,tv⟩,h⟩
   ·have g2:=oF g2
    refine ah h (fun g3 h=>?_) (fun g3 h=>?_)
    ·have g3:=oT g3
     exact⟨⟨q2,q2,tv⟩,_,c98 _ _,⟨q12,tv,tv,tv,tv,tv,tv⟩,h⟩
    ·have g3:=oF g3
     refine⟨⟨q5,q7,tv⟩,_,Wn.c18 hr.v0 hr.v1,?_⟩
     refine ah h (fun g4 h=>?_) (fun g4 h=>?_)
     ·exact⟨⟨q12,tv,tv,tv,tv,tv,tv⟩,h⟩
     ·try replace g4:=ai.1 g4
      refine⟨⟨q5,q7,tv⟩,_,Wn.c21 hr.v0 hr.v1 hr.ids,⟨q2,q2,q2,tv⟩,_,c99 _ _ _ (by have:=@Wn.OR (m85 m).deck q hr.ids;omega),?_⟩
      refine ah h (fun g5 h=>?_) (fun g5 h=>?_)
      ·exact⟨⟨q2,q2,tv⟩,_,c98 _ _,⟨q12,tv,tv,tv,tv,tv,tv⟩,h⟩
      ·exact⟨DT (m85 m) who q,c100 _ _ _ (by rw[zz];exact hb) hr (by rw[zz]at g4 ⊢;exact GX g1 g4),⟨q12,tv,tv,tv,tv,tv,tv⟩,h⟩)
end Go.Proofs.Mo

namespace Go.Proofs.Mo
open Go.Proofs.Tryz
open Go Go.VL Go.Proofs.Zn Go.Proofs.Mn
theorem Mm {o:List Int}{w:Int}:(m39 o w).length<=o.length:=by rw[← AP];exact AO
theorem BB {d:Deck}{q:Req}(h:(Wn.dr d q).err=0):1<=q.kind/\q.kind<=10:=by
 unfold Wn.dr at h
 cases k1:cW d != 0
 case true=>rw[k1]at h;exact absurd h (by simpa[Wn.fD]using k1)
 rw[k1,cF]at h
 cases k2:(decide (q.kind<1)||decide (q.kind>10))
 case true=>rw[k2]at h;cases (show(150:Int)=0 from h)
 simp only[Bool.or_eq_false_iff,cE]at k2
 omega
end Go.Proofs.Mo

namespace Go.Proofs.Mo
open Go.Proofs.Tryz
open Go Go.VL
set_option maxRecDepth 20000
open Go.Proofs.Zn Go.Proofs.Mn
open Wn (dR bK)
def dP (m:Model)(e i:Int):Model×Resp:=(m,Resp.mk e i (0:Int) (0:Int) [])
def xU (m:Model)(o:List Int)(who:Int):Model×Resp:=(Model.mk m.deck m.stock o,Resp.mk (0:Int) (0:Int) (↑(m39 o who).length:Int) (0:Int) [])
def tI (m:Model)(who:Int)(q:Req):Model×Resp:=bif (q.kind==(1:Int))then bif decide ((↑(Zn.dj (m39 m.owners who) (Zn.dJ q.ids)).length:Int)>(40:Int))then let y1:=dP m (160:Int) (0:Int);(y1.1,y1.2)else bif ((lU m.owners (Zn.dJ q.ids) who).2.2 != (0:Int))then let y2:=dP m (lU m.owners (Zn.dJ q.ids) who).2.2 (lU m.owners (Zn.dJ q.ids) who).2.1;(y2.1,y2.2)else let y3:=xU m (lU m.owners (Zn.dJ q.ids) who).1 who;(y3.1,y3.2)else bif ((kb m.owners (Zn.dJ q.ids) who).2.2 != (0:Int))then let y4:=dP m (kb m.owners (Zn.dJ q.ids) who).2.2 (kb m.owners (Zn.dJ q.ids) who).2.1;(y4.1,y4.2)else let y5:=xU m (kb m.owners (Zn.dJ q.ids) who).1 who;(y5.1,y5.2)
def oV (m:Model)(who:Int)(q:Req):Model×Resp:=bif decide ((m34 m who)<(0:Int))then let y1:=dP m (131:Int) (0:Int);(y1.1,y1.2)else bif (q.kind==(4:Int))then let y2:=lq m.deck m.stock who q.a q.b (Wn.cB q).1;bif (y2.2 != (0:Int))then let y3:=dP m y2.2 (0:Int);(y3.1,y3.2)else(Model.mk m.deck y2.1 m.owners,Resp.mk (0:Int) (0:Int) (Wn.cB q).1 (y2.1.cells.getD q.a.toNat Ty.cell.dflt).ver [])else bif (q.kind==(5:Int))then let y4:=ka m.deck m.stock who q.a (Wn.cB q).1;bif (y4.2 != (0:Int))then let y5:=dP m y4.2 (0:Int);(y5.1,y5.2)else(Model.mk m.deck y4.1 m.owners,Resp.mk (0:Int) (0:Int) (Wn.cB q).1 (y4.1.cells.getD q.a.toNat Ty.cell.dflt).ver [])else let y6:=jZ m.deck m.stock who q.a (Wn.cB q).1;bif (y6.2 != (0:Int))then let y7:=dP m y6.2 (0:Int);(y7.1,y7.2)else(Model.mk m.deck y6.1 m.owners,Resp.mk (0:Int) (0:Int) (Wn.cB q).1 (y6.1.cells.getD q.a.toNat Ty.cell.dflt).ver [])
end Go.Proofs.Mo

namespace Go.Proofs.Mo
open Go.Proofs.Tryz
open Go Go.VL
set_option maxRecDepth 20000
open Go.Proofs.Zn Go.Proofs.Mn
open Wn (dR bK)
def m38 (m:Model)(who:Int)(q:Req):Model×Resp:=bif (!(m32 m))then let y1:=dP (Model.mk (Deck.mk [] [] [] (0:Int)) (Stock.mk [] [] [] (0:Int) (0:Int) (0:Int)) []) (161:Int) (0:Int);(y1.1,y1.2)else bif decide (who<(1:Int))then let y2:=dP m (80:Int) (0:Int);(y2.1,y2.2)else bif decide (who>m.deck.arms)then let y3:=dP m (80:Int) (0:Int);(y3.1,y3.2)else bif ((Wn.dr m.deck q).err != (0:Int))then(m,(Wn.dr m.deck q))else bif (DS m.owners (Wn.kW m.deck q) who).2 then let y4:=dP m (141:Int) (DS m.owners (Wn.kW m.deck q) who).1;(y4.1,y4.2)else bif (q.kind==(1:Int))then bif (q.kind==(1:Int))then let y5:=tI m who q;(y5.1,y5.2)else bif (q.kind==(3:Int))then(Model.mk m.deck m.stock (kb m.owners (m39 m.owners who) who).1,Resp.mk (0:Int) (0:Int) (↑(m39 m.owners who).length:Int) (0:Int) [])else bif (q.kind==(4:Int))then bif (q.kind==(4:Int))then let y6:=oV m who q;(y6.1,y6.2)else bif (q.kind==(7:Int))then bif ((gI m.deck m.stock who q.a).2 != (0:Int))then let y7:=dP m (gI m.deck m.stock who q.a).2 (0:Int);(y7.1,y7.2)else(Model.mk m.deck (gI m.deck m.stock who q.a).1 m.owners,Resp.mk (0:Int) q.a (0:Int) (0:Int) [])else bif (q.kind==(8:Int))then bif ((gH m.deck m.stock who).2 != (0:Int))then let y8:=dP m (gH m.deck m.stock who).2 (0:Int);(y8.1,y8.2)else(Model.mk m.deck (gH m.deck m.stock who).1 m.owners,Resp.mk (0:Int) (m34 m who) (0:Int) (0:Int) [])else bif (q.kind==(9:Int))then(m,Resp.mk (0:Int) (0:Int) (m.stock.cells.getD q.a.toNat Ty.cell.dflt).vol (m.stock.cells.getD q.a.toNat Ty.cell.dflt).ver [])else bif ((iw (m.stock.logs.getD q.a.toNat Ty.log.dflt) q.ver).2 != (0:Int))then let y9:=dP m (iw (m.stock.logs.getD q.a.toNat Ty.log.dflt) q.ver).2 (0:Int);(y9.1,y9.2)else(m,Resp.mk (0:Int) (0:Int) (0:Int) (m.stock.logs.getD q.a.toNat Ty.log.dflt).last (iw (m.stock.logs.getD q.a.toNat Ty.log.dflt) q.ver).1)else bif (q.kind==(5:Int))then bif (q.kind==(5:Int))then let y10:=oV m who q;(y10.1,y10.2)else bif (q.kind==(7:Int))then bif ((gI m.deck m.stock who q.a).2 != (0:Int))then let y11:=dP m (gI m.deck m.stock who q.a).2 (0:Int);(y11.1,y11.2)else(Model.mk m.deck (gI m.deck m.stock who q.a).1 m.owners,Resp.mk (0:Int) q.a (0:Int) (0:Int) [])else bif (q.kind==(8:Int))then bif ((gH m.deck m.stock who).2 != (0:Int))then let y12:=dP m (gH m.deck m.stock who).2 (0:Int);(y12.1,y12.2)else(Model.mk m.deck (gH m.deck m.stock who).1 m.owners,Resp.mk (0:Int) (m34 m who) (0:Int) (0:Int) [])else bif (q.kind==(9:Int))then(m,Resp.mk (0:Int) (0:Int) (m.stock.cells.getD q.a.toNat Ty.cell.dflt).vol (m.stock.cells.getD q.a.toNat Ty.cell.dflt).ver [])else bif ((iw (m.stock.logs.getD q.a.toNat Ty.log.dflt) q.ver).2 != (0:Int))then let y13:=dP m (iw (m.stock.logs.getD q.a.toNat Ty.log.dflt) q.ver).2 (0:Int);(y13.1,y13.2)else(m,Resp.mk (0:Int) (0:Int) (0:Int) (m.stock.logs.getD q.a.toNat Ty.log.dflt).last (iw (m.stock.logs.getD q.a.toNat Ty.log.dflt) q.ver).1)else bif (q.kind==(6:Int))then let y14:=oV m who q;(y14.1,y14.2)else bif (q.kind==(7:Int))then bif ((gI m.deck m.stock who q.a).2 != (0:Int))then let y15:=dP m (gI m.deck m.stock who q.a).2 (0:Int);(y15.1,y15.2)else(Model.mk m.deck (gI m.deck m.stock who q.a).1 m.owners,Resp.mk (0:Int) q.a (0:Int) (0:Int) [])else bif (q.kind==(8:Int))then bif ((gH m.deck m.stock who).2 != (0:Int))then let y16:=dP m (gH m.deck m.stock who).2 (0:Int);(y16.1,y16.2)else(Model.mk m.deck (gH m.deck m.stock who).1 m.owners,Resp.mk (0:Int) (m34 m who) (0:Int) (0:Int) [])else bif (q.kind==(9:Int))then(m,Resp.mk (0:Int) (0:Int) (m.stock.cells.getD q.a.toNat Ty.cell.dflt).vol (m.stock.cells.getD q.a.toNat Ty.cell.dflt).ver [])else bif ((iw (m.stock.logs.getD q.a.toNat Ty.log.dflt) q.ver).2 != (0:Int))then let y17:=dP m (iw (m.stock.logs.getD q.a.toNat Ty.log.dflt) q.ver).2 (0:Int);(y17.1,y17.2)else(m,Resp.mk (0:Int) (0:Int) (0:Int) (m.stock.logs.getD q.a.toNat Ty.log.dflt).last (iw (m.stock.logs.getD q.a.toNat Ty.log.dflt) q.ver).1)else bif (q.kind==(2:Int))then let y18:=tI m who q;(y18.1,y18.2)else bif (q.kind==(3:Int))then(Model.mk m.deck m.stock (kb m.owners (m39 m.owners who) who).1,Resp.mk (0:Int) (0:Int) (↑(m39 m.owners who).length:Int) (0:Int) [])else bif (q.kind==(4:Int))then bif (q.kind==(4:Int))then let y19:=oV m who q;(y19.1,y19.2)else bif (q.kind==(7:Int))then bif ((gI m.deck m.stock who q.a).2 != (0:Int))then let y20:=dP m (gI m.deck m.stock who q.a).2 (0:Int);(y20.1,y20.2)else(Model.mk m.deck (gI m.deck m.stock who q.a).1 m.owners,Resp.mk (0:Int) q.a (0:Int) (0:Int) [])else bif (q.kind==(8:Int))then bif ((gH m.deck m.stock who).2 != (0:Int))then let y21:=dP m (gH m.deck m.stock who).2 (0:Int);(y21.1,y21.2)else(Model.mk m.deck (gH m.deck m.stock who).1 m.owners,Resp.mk (0:Int) (m34 m who) (0:Int) (0:Int) [])else bif (q.kind==(9:Int))then(m,Resp.mk (0:Int) (0:Int) (m.stock.cells.getD q.a.toNat Ty.cell.dflt).vol (m.stock.cells.getD q.a.toNat Ty.cell.dflt).ver [])else bif ((iw (m.stock.logs.getD q.a.toNat Ty.log.dflt) q.ver).2 != (0:Int))then let y22:=dP m (iw (m.stock.logs.getD q.a.toNat Ty.log.dflt) q.ver).2 (0:Int);(y22.1,y22.2)else(m,Resp.mk (0:Int) (0:Int) (0:Int) (m.stock.logs.getD q.a.toNat Ty.log.dflt).last (iw (m.stock.logs.getD q.a.toNat Ty.log.dflt) q.ver).1)else bif (q.kind==(5:Int))then bif (q.kind==(5:Int))then let y23:=oV m who q;(y23.1,y23.2)else bif (q.kind==(7:Int))then bif ((gI m.deck m.stock who q.a).2 != (0:Int))then let y24:=dP m (gI m.deck m.stock who q.a).2 (0:Int);(y24.1,y24.2)else(Model.mk m.deck (gI m.deck m.stock who q.a).1 m.owners,Resp.mk (0:Int) q.a (0:Int) (0:Int) [])else bif (q.kind==(8:Int))then bif ((gH m.deck m.stock who).2 != (0:Int))then let y25:=dP m (gH m.deck m.stock who).2 (0:Int);(y25.1,y25.2)else(Model.mk m.deck (gH m.deck m.stock who).1 m.owners,Resp.mk (0:Int) (m34 m who) (0:Int) (0:Int) [])else bif (q.kind==(9:Int))then(m,Resp.mk (0:Int) (0:Int) (m.stock.cells.getD q.a.toNat Ty.cell.dflt).vol (m.stock.cells.getD q.a.toNat Ty.cell.dflt).ver [])else bif ((iw (m.stock.logs.getD q.a.toNat Ty.log.dflt) q.ver).2 != (0:Int))then let y26:=dP m (iw (m.stock.logs.getD q.a.toNat Ty.log.dflt) q.ver).2 (0:Int);(y26.1,y26.2)else(m,Resp.mk (0:Int) (0:Int) (0:Int) (m.stock.logs.getD q.a.toNat Ty.log.dflt).last (iw (m.stock.logs.getD q.a.toNat Ty.log.dflt) q.ver).1)else bif (q.kind==(6:Int))then let y27:=oV m who q;(y27.1,y27.2)else bif (q.kind==(7:Int))then bif ((gI m.deck m.stock who q.a).2 != (0:Int))then let y28:=dP m (gI m.deck m.stock who q.a).2 (0:Int);(y28.1,y28.2)else(Model.mk m.deck (gI m.deck m.stock who q.a).1 m.owners,Resp.mk (0:Int) q.a (0:Int) (0:Int) [])else bif (q.kind==(8:Int))then bif ((gH m.deck m.stock who).2 != (0:Int))then let y29:=dP m (gH m.deck m.stock who).2 (0:Int);(y29.1,y29.2)else(Model.mk m.deck (gH m.deck m.stock who).1 m.owners,Resp.mk (0:Int) (m34 m who) (0:Int) (0:Int) [])else bif (q.kind==(9:Int))then(m,Resp.mk (0:Int) (0:Int) (m.stock.cells.getD q.a.toNat Ty.cell.dflt).vol (m.stock.cells.getD q.a.toNat Ty.cell.dflt).ver [])else bif ((iw (m.stock.logs.getD q.a.toNat Ty.log.dflt) q.ver).2 != (0:Int))then let y30:=dP m (iw (m.stock.logs.getD q.a.toNat Ty.log.dflt) q.ver).2 (0:Int);(y30.1,y30.2)else(m,Resp.mk (0:Int) (0:Int) (0:Int) (m.stock.logs.getD q.a.toNat Ty.log.dflt).last (iw (m.stock.logs.getD q.a.toNat Ty.log.dflt) q.ver).1)
end Go.Proofs.Mo

namespace Go.Proofs.Mo
open Go.Proofs.Tryz
open Go Go.VL Go.Proofs.Zn Go.Proofs.Mn
instance (x:Int):Decidable (cy x):=by unfold cy;infer_instance
def ON (m:Model):Bool:=Nat.ble m.deck.borders.length 100000&&Nat.ble m.deck.plates.length 100000&&Nat.ble m.deck.racks.length 100000&&Nat.ble m.stock.cells.length 100000&&Nat.ble m.stock.logs.length 100000 &&
 Nat.ble m.stock.tips.length 100000&&Nat.ble m.owners.length 100000&&m.deck.plates.all (fun p=>Nat.ble p.start.length 100000)&&m.stock.logs.all (fun p=>Nat.ble p.list.length 100000)&&(m.stock.cells.map Cell.vol).all (fun x=>decide (cy x))
theorem oD {m:Model}(h:ON m=true):OkM m:=by
 unfold ON at h
 simp only[aM,bM,Nat.ble_eq,bx]at h
 obtain⟨⟨⟨⟨⟨⟨⟨⟨⟨h1,h2⟩,h3⟩,h4⟩,h5⟩,h6⟩,h7⟩,h8⟩,h9⟩,h10⟩:=h
 exact⟨by omega,by omega,by omega,by omega,by omega,by omega,by omega,fun p hp=>by have:=h8 p hp;omega,fun l hl=>by have:=h9 l hl;omega,fun x hx=>h10 x hx,by omega⟩
end Go.Proofs.Mo

namespace Go.Proofs.Mo
open Go.Proofs.Tryz
open Go Go.VL
set_option maxRecDepth 20000
set_option maxHeartbeats 4000000
open Go.Proofs.Zn Go.Proofs.Mn
open Wn (dR bK)
def Gy (x1:Int)(l1:List Fl)(l2:List Plate)(l3:List Rack)(i1:Int)(l4:List Cell)(l5:List Log)(l6:List Tip)(i2 i3 i4:Int)(l7:List Int) :Bool:=bif (x1==(0:Int))then bif ((m37 (Model.mk (Deck.mk l1 l2 l3 i1) (Stock.mk l4 l5 l6 i2 i3 i4) l7) (1:Int) (Req.mk (1:Int) [(3:Int),(1:Int)] (0:Int) (0:Int) (0:Int) (0:Int))).2.err==(0:Int))then bif ((m37 (Model.mk (Deck.mk l1 l2 l3 i1) (Stock.mk l4 l5 l6 i2 i3 i4) l7) (1:Int) (Req.mk (1:Int) [(3:Int),(1:Int)] (0:Int) (0:Int) (0:Int) (0:Int))).2.n==(2:Int))then bif ((m37 (m37 (Model.mk (Deck.mk l1 l2 l3 i1) (Stock.mk l4 l5 l6 i2 i3 i4) l7) (1:Int) (Req.mk (1:Int) [(3:Int),(1:Int)] (0:Int) (0:Int) (0:Int) (0:Int))).1 (2:Int) (Req.mk (1:Int) [(3:Int),(1:Int)] (0:Int) (0:Int) (0:Int) (0:Int))).2.err==(140:Int))then bif ((m37 (m37 (Model.mk (Deck.mk l1 l2 l3 i1) (Stock.mk l4 l5 l6 i2 i3 i4) l7) (1:Int) (Req.mk (1:Int) [(3:Int),(1:Int)] (0:Int) (0:Int) (0:Int) (0:Int))).1 (2:Int) (Req.mk (1:Int) [(3:Int),(1:Int)] (0:Int) (0:Int) (0:Int) (0:Int))).2.id==(1:Int))then bif ((m37 (m37 (m37 (Model.mk (Deck.mk l1 l2 l3 i1) (Stock.mk l4 l5 l6 i2 i3 i4) l7) (1:Int) (Req.mk (1:Int) [(3:Int),(1:Int)] (0:Int) (0:Int) (0:Int) (0:Int))).1 (2:Int) (Req.mk (1:Int) [(3:Int),(1:Int)] (0:Int) (0:Int) (0:Int) (0:Int))).1 (1:Int) (Req.mk (3:Int) [] (0:Int) (0:Int) (0:Int) (0:Int))).2.n==(2:Int))then bif ((m37 (m37 (m37 (m37 (Model.mk (Deck.mk l1 l2 l3 i1) (Stock.mk l4 l5 l6 i2 i3 i4) l7) (1:Int) (Req.mk (1:Int) [(3:Int),(1:Int)] (0:Int) (0:Int) (0:Int) (0:Int))).1 (2:Int) (Req.mk (1:Int) [(3:Int),(1:Int)] (0:Int) (0:Int) (0:Int) (0:Int))).1 (1:Int) (Req.mk (3:Int) [] (0:Int) (0:Int) (0:Int) (0:Int))).1 (2:Int) (Req.mk (1:Int) [(2:Int),(3:Int),(4:Int)] (0:Int) (0:Int) (0:Int) (0:Int))).2.n==(3:Int))then bif ((m37 (m37 (m37 (m37 (m37 (Model.mk (Deck.mk l1 l2 l3 i1) (Stock.mk l4 l5 l6 i2 i3 i4) l7) (1:Int) (Req.mk (1:Int) [(3:Int),(1:Int)] (0:Int) (0:Int) (0:Int) (0:Int))).1 (2:Int) (Req.mk (1:Int) [(3:Int),(1:Int)] (0:Int) (0:Int) (0:Int) (0:Int))).1 (1:Int) (Req.mk (3:Int) [] (0:Int) (0:Int) (0:Int) (0:Int))).1 (2:Int) (Req.mk (1:Int) [(2:Int),(3:Int),(4:Int)] (0:Int) (0:Int) (0:Int) (0:Int))).1 (2:Int) (Req.mk (7:Int) [] (2:Int) (0:Int) (0:Int) (0:Int))).2.err==(0:Int))then bif ((m37 (m37 (m37 (m37 (m37 (Model.mk (Deck.mk l1 l2 l3 i1) (Stock.mk l4 l5 l6 i2 i3 i4) l7) (1:Int) (Req.mk (1:Int) [(3:Int),(1:Int)] (0:Int) (0:Int) (0:Int) (0:Int))).1 (2:Int) (Req.mk (1:Int) [(3:Int),(1:Int)] (0:Int) (0:Int) (0:Int) (0:Int))).1 (1:Int) (Req.mk (3:Int) [] (0:Int) (0:Int) (0:Int) (0:Int))).1 (2:Int) (Req.mk (1:Int) [(2:Int),(3:Int),(4:Int)] (0:Int) (0:Int) (0:Int) (0:Int))).1 (2:Int) (Req.mk (7:Int) [] (2:Int) (0:Int) (0:Int) (0:Int))).2.id==(2:Int))then bif ((m37 (m37 (m37 (m37 (m37 (m37 (Model.mk (Deck.mk l1 l2 l3 i1) (Stock.mk l4 l5 l6 i2 i3 i4) l7) (1:Int) (Req.mk (1:Int) [(3:Int),(1:Int)] (0:Int) (0:Int) (0:Int) (0:Int))).1 (2:Int) (Req.mk (1:Int) [(3:Int),(1:Int)] (0:Int) (0:Int) (0:Int) (0:Int))).1 (1:Int) (Req.mk (3:Int) [] (0:Int) (0:Int) (0:Int) (0:Int))).1 (2:Int) (Req.mk (1:Int) [(2:Int),(3:Int),(4:Int)] (0:Int) (0:Int) (0:Int) (0:Int))).1 (2:Int) (Req.mk (7:Int) [] (2:Int) (0:Int) (0:Int) (0:Int))).1 (2:Int) (Req.mk (9:Int) [] (0:Int) (0:Int) (0:Int) (0:Int))).2.n==(40:Int))then bif (m31 (m37 (m37 (m37 (m37 (m37 (Model.mk (Deck.mk l1 l2 l3 i1) (Stock.mk l4 l5 l6 i2 i3 i4) l7) (1:Int) (Req.mk (1:Int) [(3:Int),(1:Int)] (0:Int) (0:Int) (0:Int) (0:Int))).1 (2:Int) (Req.mk (1:Int) [(3:Int),(1:Int)] (0:Int) (0:Int) (0:Int) (0:Int))).1 (1:Int) (Req.mk (3:Int) [] (0:Int) (0:Int) (0:Int) (0:Int))).1 (2:Int) (Req.mk (1:Int) [(2:Int),(3:Int),(4:Int)] (0:Int) (0:Int) (0:Int) (0:Int))).1 (2:Int) (Req.mk (7:Int) [] (2:Int) (0:Int) (0:Int) (0:Int))).1)then bif ((m33 (m37 (m37 (m37 (m37 (m37 (Model.mk (Deck.mk l1 l2 l3 i1) (Stock.mk l4 l5 l6 i2 i3 i4) l7) (1:Int) (Req.mk (1:Int) [(3:Int),(1:Int)] (0:Int) (0:Int) (0:Int) (0:Int))).1 (2:Int) (Req.mk (1:Int) [(3:Int),(1:Int)] (0:Int) (0:Int) (0:Int) (0:Int))).1 (1:Int) (Req.mk (3:Int) [] (0:Int) (0:Int) (0:Int) (0:Int))).1 (2:Int) (Req.mk (1:Int) [(2:Int),(3:Int),(4:Int)] (0:Int) (0:Int) (0:Int) (0:Int))).1 (2:Int) (Req.mk (7:Int) [] (2:Int) (0:Int) (0:Int) (0:Int))).1 (2:Int))==(2:Int))then(m33 (m37 (m37 (m37 (m37 (m37 (Model.mk (Deck.mk l1 l2 l3 i1) (Stock.mk l4 l5 l6 i2 i3 i4) l7) (1:Int) (Req.mk (1:Int) [(3:Int),(1:Int)] (0:Int) (0:Int) (0:Int) (0:Int))).1 (2:Int) (Req.mk (1:Int) [(3:Int),(1:Int)] (0:Int) (0:Int) (0:Int) (0:Int))).1 (1:Int) (Req.mk (3:Int) [] (0:Int) (0:Int) (0:Int) (0:Int))).1 (2:Int) (Req.mk (1:Int) [(2:Int),(3:Int),(4:Int)] (0:Int) (0:Int) (0:Int) (0:Int))).1 (2:Int) (Req.mk (7:Int) [] (2:Int) (0:Int) (0:Int) (0:Int))).1 (1:Int))==(-1:Int)else false else false else false else false else false else false else false else false else false else false else false else false
theorem DL (x1:Int)(l1:List Fl)(l2:List Plate)(l3:List Rack)(i1:Int)(l4:List Cell)(l5:List Log)(l6:List Tip)(i2 i3 i4:Int)(l7:List Int)  (hM:Model.mk (Deck.mk l1 l2 l3 i1) (Stock.mk l4 l5 l6 i2 i3 i4) l7=(m28 Wn.D14).1){r:Bool}{A:Pr}(hA:CL codes sigs f27 [.bool] r A)(h:Gy x1 l1 l2 l3 i1 l4 l5 l6 i2 i3 i4 l7=r):A (rg f27 3) (Io x1 l1 l2 l3 i1 l4 l5 l6 i2 i3 i4 l7):=by
 refine hA.go (NN x1 l1 l2 l3 i1 l4 l5 l6 i2 i3 i4 l7) ?_
 unfold Gy at h
 refine⟨⟨q12,q2,q7,tv⟩,_,c37 _ _ _ (oD (by rw[hM];kernel_rfl)) ⟨by decide,by decide,by decide⟩,⟨q12,q2,q7,tv⟩,_,c37 _ _ _ (oD (by rw[hM];kernel_rfl)) ⟨by decide,by decide,by decide⟩,⟨q12,q2,q7,tv⟩,_,c37 _ _ _ (oD (by rw[hM];kernel_rfl)) ⟨by decide,by decide,by decide⟩,⟨q2,q2,q2,tv⟩,⟨q12,q2,q7,tv⟩,_,c37 _ _ _ (oD (by rw[hM];kernel_rfl)) ⟨by decide,by decide,by decide⟩,⟨q12,q2,q7,tv⟩,_,c37 _ _ _ (oD (by rw[hM];kernel_rfl)) ⟨by decide,by decide,by decide⟩,⟨q12,q2,q7,tv⟩,_,c37 _ _ _ (oD (by rw[hM];kernel_rfl)) ⟨by decide,by decide,by decide⟩,?_⟩
 refine ah h (fun g1 h=>?_) (fun g1 h=>?_)
 ·try replace g1:=aV g1
  refine ah h (fun g2 h=>?_) (fun g2 h=>?_)
  ·try replace g2:=aV g2
   refine ah h (fun g3 h=>?_) (fun g3 h=>?_)
   ·try replace g3:=aV g3
    refine ah h (fun g4 h=>?_) (fun g4 h=>?_)
    ·try replace g4:=aV g4
     refine ah h (fun g5 h=>?_) (fun g5 h=>?_)
     ·try replace g5:=aV g5
      refine ah h (fun g6 h=>?_) (fun g6 h=>?_)
      ·try replace g6:=aV g6
       refine ah h (fun g7 h=>?_) (fun g7 h=>?_)
       ·try replace g7:=aV g7
        refine ah h (fun g8 h=>?_) (fun g8 h=>?_)
        ·try replace g8:=aV g8
         refine ah h (fun g9 h=>?_) (fun g9 h=>?_)
         ·try replace g9:=aV g9
          refine ah h (fun g10 h=>?_) (fun g10 h=>?_)
          ·try replace g10:=aV g10
           refine⟨⟨q12,tv⟩,_,c31 _ (oD (by rw[hM];kernel_rfl)),?_⟩
           refine ah h (fun g11 h=>?_) (fun g11 h=>?_)
           ·refine⟨⟨q12,q2,tv⟩,_,c33 _ _ (oD (by rw[hM];kernel_rfl)),?_⟩
            refine ah h (fun g12 h=>?_) (fun g12 h=>?_)
            ·try replace g12:=aV g12
             exact⟨⟨q12,q2,tv⟩,_,c33 _ _ (oD (by rw[hM];kernel_rfl)),q2,h⟩
            ·try replace g12:=aN.1 g12
             exact⟨q2,h⟩
           ·exact⟨q2,h⟩
          ·try replace g10:=aN.1 g10
           exact⟨q2,h⟩
         ·try replace g9:=aN.1 g9
          exact⟨q2,h⟩
        ·try replace g8:=aN.1 g8
         exact⟨q2,h⟩
       ·try replace g7:=aN.1 g7
        exact⟨q2,h⟩
      ·try replace g6:=aN.1 g6
       exact⟨q2,h⟩
     ·try replace g5:=aN.1 g5
      exact⟨q2,h⟩
    ·try replace g4:=aN.1 g4
     exact⟨q2,h⟩
   ·try replace g3:=aN.1 g3
    exact⟨q2,h⟩
  ·try replace g2:=aN.1 g2
   exact⟨q2,h⟩
 ·try replace g1:=aN.1 g1
  exact⟨q2,h⟩
def m27 :Bool:=Gy (m28 Wn.D14).2 (m28 Wn.D14).1.deck.borders (m28 Wn.D14).1.deck.plates (m28 Wn.D14).1.deck.racks (m28 Wn.D14).1.deck.arms (m28 Wn.D14).1.stock.cells (m28 Wn.D14).1.stock.logs (m28 Wn.D14).1.stock.tips (m28 Wn.D14).1.stock.start (m28 Wn.D14).1.stock.inn (m28 Wn.D14).1.stock.out (m28 Wn.D14).1.owners
theorem c27  :Pure prog 27 [] [.bool] (m27 ):=
 Pure.of_closed (C:=codes) (S:=sigs) mixed func27 (by kernel_rfl) (ac (by kernel_rfl)) fun A hA=>hA.go (t27 ) (by
  generalize h:m27 =r at hA ⊢
  unfold m27 at h
  refine⟨tv,_,Wn.c56,⟨q5,tv⟩,_,c28 _,⟨q2,q2,tv⟩,?_⟩
  refine hA.frz 2 (by kernel_rfl) (s':=Io (m28 Wn.D14).2 (m28 Wn.D14).1.deck.borders (m28 Wn.D14).1.deck.plates (m28 Wn.D14).1.deck.racks (m28 Wn.D14).1.deck.arms (m28 Wn.D14).1.stock.cells (m28 Wn.D14).1.stock.logs (m28 Wn.D14).1.stock.tips (m28 Wn.D14).1.stock.start (m28 Wn.D14).1.stock.inn (m28 Wn.D14).1.stock.out (m28 Wn.D14).1.owners) (by kernel_rfl) ?_
  exact DL (m28 Wn.D14).2 (m28 Wn.D14).1.deck.borders (m28 Wn.D14).1.deck.plates (m28 Wn.D14).1.deck.racks (m28 Wn.D14).1.deck.arms (m28 Wn.D14).1.stock.cells (m28 Wn.D14).1.stock.logs (m28 Wn.D14).1.stock.tips (m28 Wn.D14).1.stock.start (m28 Wn.D14).1.stock.inn (m28 Wn.D14).1.stock.out (m28 Wn.D14).1.owners rfl hA  h)
end Go.Proofs.Mo

namespace Go.Proofs.Mo
open Go.Proofs.Tryz
open Go Go.VL Go.Proofs.Zn Go.Proofs.Mn
theorem Mv:m27=true:=by kernel_rfl
theorem wy:Pure prog 27 [] [.bool] true:=by
 have h:=c27
 rw[Mv]at h
 exact h
end Go.Proofs.Mo

namespace Go.Proofs.Mo
open Go.Proofs.Tryz
open Go Go.VL
set_option maxRecDepth 20000
open Go.Proofs.Zn Go.Proofs.Mn
open Wn (dR bK)
def so :List Log->Nat->Bool
 | [],ix=>false
 | z::zs,ix=>bif decide ((↑(z).list.length:Int)>(100:Int))then true else so zs (ix+1)
theorem uK (s:Stock)(hl:s.logs.length<=1000)  {r:Bool}{A:Pr}(hA:CL codes sigs f82 [.bool] r A)(ix:Nat)(h:so (List.drop ix s.logs) ix=r):A (hd f82 0) (Cw s (ix:Int)):=by
 refine hA.go (NH s (ix:Int)) (ak (fun h1=>?_) (fun h1=>?_))
 ·have h1:=oT h1
  have hil:ix<s.logs.length:=by omega
  rw[aX hil Ty.log.dflt,so]at h
  refine⟨⟨⟨(by omega),(by omega)⟩,tv⟩,?_⟩
  refine ah h (fun g1 h=>?_) (fun g1 h=>?_)
  ·have g1:=oT g1
   exact⟨q2,h⟩
  ·have g1:=oF g1
   rw[aw (by omega)]
   exact uK s hl  hA (ix+1) h
 ·have h1:=oF h1
  rw[dN (by omega),so]at h
  exact⟨q2,h⟩
termination_by s.logs.length-ix
decreasing_by all_goals omega
def m82 (s:Stock):Bool:=bif decide ((s.cells.length:Int)>(400:Int))then true else bif decide ((s.logs.length:Int)>(400:Int))then true else bif decide ((s.tips.length:Int)>(400:Int))then true else so s.logs 0
theorem c82 (s:Stock) :Pure prog 82 [⟨.stock,s⟩] [.bool] (m82 s):=
 Pure.of_closed (C:=codes) (S:=sigs) mixed func82 (by kernel_rfl) (ac (by kernel_rfl)) fun A hA=>hA.go (t82 s) (by
  generalize h:m82 s=r at hA ⊢
  unfold m82 at h
  refine ah h (fun g1 h=>?_) (fun g1 h=>?_)
  ·have g1:=oT g1
   exact⟨q2,h⟩
  ·have g1:=oF g1
   refine ah h (fun g2 h=>?_) (fun g2 h=>?_)
   ·have g2:=oT g2
    exact⟨q2,h⟩
   ·have g2:=oF g2
    refine ah h (fun g3 h=>?_) (fun g3 h=>?_)
    ·have g3:=oT g3
     exact⟨q2,h⟩
    ·have g3:=oF g3
     exact uK s (by omega)  hA 0 h)
def m26 (m:Model):Bool:=bif (Zn.oc m.deck)then true else bif (m82 m.stock)then true else decide ((m.owners.length:Int)>(1000:Int))
theorem c26 (m:Model) :Pure prog 26 [⟨.model,m⟩] [.bool] (m26 m):=
 Pure.of_closed (C:=codes) (S:=sigs) mixed func26 (by kernel_rfl) (ac (by kernel_rfl)) fun A hA=>hA.go (t26 m) (by
  generalize h:m26 m=r at hA ⊢
  unfold m26 at h
  refine⟨⟨q5,tv⟩,_,Zn.c37 _,?_⟩
  refine ah h (fun g1 h=>?_) (fun g1 h=>?_)
  ·exact⟨q2,h⟩
  ·refine⟨⟨q7,tv⟩,_,c82 _,?_⟩
   refine ah h (fun g2 h=>?_) (fun g2 h=>?_)
   ·exact⟨q2,h⟩
   ·exact⟨q2,h⟩)
end Go.Proofs.Mo

namespace Go.Proofs.Mo
open Go.Proofs.Tryz
open Go Go.VL
set_option maxRecDepth 20000
open Go.Proofs.Zn Go.Proofs.Mn
open Wn (dR bK)
def m30 (a b:Model):Bool:=bif (m89 a.stock b.stock)then bif (eqL a.owners b.owners)then(m90 a.deck b.deck)else false else false
theorem c30 (a b:Model)(hs:a.stock.cells.length<=1000/\a.stock.logs.length<=1000/\a.stock.tips.length<=1000)(hg:∀ x∈a.stock.logs,x.list.length<=1000000)(ho:a.owners.length<=1000000)(hd:a.deck.borders.length<=1000/\a.deck.plates.length<=1000/\a.deck.racks.length<=1000/\∀ p∈a.deck.plates,p.start.length<=1000000):Pure prog 30 [⟨.model,a⟩,⟨.model,b⟩] [.bool] (m30 a b):=
 Pure.of_closed (C:=codes) (S:=sigs) mixed func30 (by kernel_rfl) (ac (by kernel_rfl)) fun A hA=>hA.go (t30 a b) (by
  generalize h:m30 a b=r at hA ⊢
  unfold m30 at h
  refine⟨⟨q7,q7,tv⟩,_,c89 _ _ hs hg,?_⟩
  refine ah h (fun g1 h=>?_) (fun g1 h=>?_)
  ·refine⟨⟨q2,q2,tv⟩,_,Zn.c50 ho,?_⟩
   refine ah h (fun g2 h=>?_) (fun g2 h=>?_)
   ·exact⟨⟨q5,q5,tv⟩,_,c90 _ _ hd,q2,h⟩
   ·exact⟨q2,h⟩
  ·exact⟨q2,h⟩)
end Go.Proofs.Mo

namespace Go.Proofs.Mo
open Go.Proofs.Tryz
open Go Go.VL
set_option maxRecDepth 20000
open Go.Proofs.Zn Go.Proofs.Mn
open Wn (dR bK)
def m5 (d:Deck)(m:Model)(who:Int):Bool:=bif (Zn.oc d)then true else bif (m26 m)then true else bif true then bif (m30 (m28 d).1 (m29 d).1)then bif ((m28 d).2==(m29 d).2)then bif ((m28 d).2 != (0:Int))then bif ((m31 m)==(m32 m))then(m33 m who)==(m34 m who)else false else bif (m31 (m28 d).1)then bif ((m31 m)==(m32 m))then(m33 m who)==(m34 m who)else false else false else false else false else false
theorem c5 (d:Deck)(m:Model)(who:Int)(hb:m26 m=false->OkM m)(hn:OkM (m28 d).1/\((m28 d).1.stock.cells.length<=1000/\(m28 d).1.stock.logs.length<=1000/\(m28 d).1.stock.tips.length<=1000)/\(∀ x∈(m28 d).1.stock.logs,x.list.length<=1000000)/\(m28 d).1.owners.length<=1000000/\((m28 d).1.deck.borders.length<=1000/\(m28 d).1.deck.plates.length<=1000/\(m28 d).1.deck.racks.length<=1000/\∀ p∈(m28 d).1.deck.plates,p.start.length<=1000000)):Pure prog 5 [⟨.deck,d⟩,⟨.model,m⟩,⟨.int,who⟩] [.bool] (m5 d m who):=
 Pure.of_closed (C:=codes) (S:=sigs) mixed func5 (by kernel_rfl) (ac (by kernel_rfl)) fun A hA=>hA.go (t5 d m who) (by
  generalize h:m5 d m who=r at hA ⊢
  unfold m5 at h
  refine⟨⟨q5,tv⟩,_,Zn.c37 _,?_⟩
  refine ah h (fun g1 h=>?_) (fun g1 h=>?_)
  ·exact⟨tv,_,wy,q2,h⟩
  ·refine⟨⟨q12,tv⟩,_,c26 _,?_⟩
   refine ah h (fun g2 h=>?_) (fun g2 h=>?_)
   ·exact⟨tv,_,wy,q2,h⟩
   ·refine⟨⟨q5,tv⟩,_,c28 _,⟨q5,tv⟩,_,c29 _,tv,_,wy,?_⟩
    refine ah h (fun g3 h=>?_) (fun g3 h=>?_)
    ·refine⟨⟨q12,q12,tv⟩,_,c30 _ _ hn.2.1 hn.2.2.1 hn.2.2.2.1 hn.2.2.2.2,?_⟩
     refine ah h (fun g4 h=>?_) (fun g4 h=>?_)
     ·refine ah h (fun g5 h=>?_) (fun g5 h=>?_)
      ·try replace g5:=aV g5
       refine ah h (fun g6 h=>?_) (fun g6 h=>?_)
       ·refine⟨⟨q12,tv⟩,_,c31 _ (by first|with_reducible exact hn.1|with_reducible exact hb (by assumption)),⟨q12,tv⟩,_,c32 _ (by first|with_reducible exact hn.1|with_reducible exact hb (by assumption)),?_⟩
        refine ah h (fun g7 h=>?_) (fun g7 h=>?_)
        ·try replace g7:=aV g7
         exact⟨⟨q12,q2,tv⟩,_,c33 _ _ (by first|with_reducible exact hn.1|with_reducible exact hb (by assumption)),⟨q12,q2,tv⟩,_,c34 _ _ (by first|with_reducible exact hn.1|with_reducible exact hb (by assumption)),q2,h⟩
        ·exact⟨q2,h⟩
       ·try replace g6:=ai.1 g6
        refine⟨⟨q12,tv⟩,_,c31 _ (by first|with_reducible exact hn.1|with_reducible exact hb (by assumption)),?_⟩
        refine ah h (fun g7 h=>?_) (fun g7 h=>?_)
        ·refine⟨⟨q12,tv⟩,_,c31 _ (by first|with_reducible exact hn.1|with_reducible exact hb (by assumption)),⟨q12,tv⟩,_,c32 _ (by first|with_reducible exact hn.1|with_reducible exact hb (by assumption)),?_⟩
         refine ah h (fun g8 h=>?_) (fun g8 h=>?_)
         ·try replace g8:=aV g8
          exact⟨⟨q12,q2,tv⟩,_,c33 _ _ (by first|with_reducible exact hn.1|with_reducible exact hb (by assumption)),⟨q12,q2,tv⟩,_,c34 _ _ (by first|with_reducible exact hn.1|with_reducible exact hb (by assumption)),q2,h⟩
         ·exact⟨q2,h⟩
        ·exact⟨q2,h⟩
      ·exact⟨q2,h⟩
     ·exact⟨q2,h⟩
    ·exact⟨q2,h⟩)
end Go.Proofs.Mo

namespace Go.Proofs.Mo
open Go.Proofs.Tryz
open Go Go.VL Go.Proofs.Zn Go.Proofs.Mn
theorem hB {c x:Bool}(h:(bif c then true else x)=false):c=false/\x=false:=by
 cases c
 ·exact⟨rfl,h⟩
 ·cases h
theorem zO:∀ {l:List Log} {k:Nat},so l k=false->∀ x∈l,x.list.length<=100
 | [],_,_,x,hx=>by simp at hx
 | z :: l, k, h, x, hx => by
   unfold so at h
   obtain⟨h1,h2⟩:=hB h
   rcases aD.1 hx with e|hx
   ·subst e;have:=oF h1;omega
   ·exact zO h2 x hx
theorem rD:∀ {l:List Plate},mS l=false->∀ p∈l,p.start.length<=100000
 | [],_,p,hp=>by simp at hp
 | z :: l, h, p, hp => by
   unfold mS at h
   obtain⟨h1,h2⟩:=hB h
   rcases aD.1 hp with e|hp
   ·subst e;have:=oF h1;omega
   ·exact rD h2 p hp
theorem OO {m:Model}(hf:jP (m.stock.cells.map Cell.vol))(h:m26 m=false):OkM m:=by
 unfold m26 at h
 obtain⟨h1,h⟩:=hB h
 obtain⟨h2,h3⟩:=hB h
 unfold oc at h1
 obtain⟨a1,h1⟩:=hB h1
 obtain⟨a2,h1⟩:=hB h1
 obtain⟨a3,h1⟩:=hB h1
 unfold m82 at h2
 obtain⟨b1,h2⟩:=hB h2
 obtain⟨b2,h2⟩:=hB h2
 obtain⟨b3,h2⟩:=hB h2
 have a1:=oF a1
 have a2:=oF a2
 have a3:=oF a3
 have b1:=oF b1
 have b2:=oF b2
 have b3:=oF b3
 have h3:=oF h3
 exact⟨by omega,by omega,by omega,by omega,by omega,by omega,by omega,fun p hp=>by have:=rD h1 p hp;omega,fun l hl=>by have:=zO h2 l hl;omega,hf,by omega⟩
end Go.Proofs.Mo

namespace Go.Proofs.Mo
open Go.Proofs.Tryz
open Go Go.VL Go.Proofs.Zn Go.Proofs.Mn
theorem ng {α:Type}{l:List α}{ix:Nat}{z d:α}{zs:List α}(h:z::zs=l.drop ix):l.getD ix d=z/\zs=l.drop (ix+1):=by
 constructor
 ·rw[bn,← lQ,← h];rfl
 ·rw[← List.tail_drop,← h];rfl
theorem OE (l:List Fl):∀ (zs:List Fl) (ix:Nat),zs=l.drop ix->mw l zs ix=true
 | [],_,_=>rfl
 | z :: zs, ix, h => by
   obtain⟨h1,h2⟩:=ng (d:=Ty.dflt Ty.flt) h
   unfold mw
   rw[h1,OE l zs (ix+1) h2]
   cases hc:(Fl.cmp z z==some Ordering.eq)
   ·rw[show(Fl.cmp z z != some Ordering.eq)=true by simp[bne,hc]];rfl
   ·rfl
theorem Mf (l:List Fl):xV l l=true:=by
 unfold xV
 rw[OE l l 0 rfl];simp
theorem KG (d:Deck):∀ (zs:List Rack) (ix:Nat),zs=d.racks.drop ix->sh d zs ix=true
 | [],_,_=>rfl
 | z :: zs, ix, h => by
   obtain⟨h1,h2⟩:=ng (d:=Ty.dflt Ty.rack) h
   unfold sh
   rw[h1,KG d zs (ix+1) h2,Mf];simp
theorem KH (d:Deck):∀ (zs:List Plate) (ix:Nat),zs=d.plates.drop ix->si d d zs ix=true
 | [],_,_=>KG d d.racks 0 rfl
 | z :: zs, ix, h => by
   obtain⟨h1,h2⟩:=ng (d:=Ty.dflt Ty.plate) h
   unfold si
   rw[h1,KH d zs (ix+1) h2,Mf];simp[eqL]
theorem r90 (d:Deck):m90 d d=true:=by
 unfold m90
 rw[Mf,KH d d.plates 0 rfl];simp
theorem KI (s:Stock):∀ (zs:List Tip) (ix:Nat),zs=s.tips.drop ix->sj s zs ix=true
 | [],_,_=>rfl
 | z :: zs, ix, h => by
   obtain⟨h1,h2⟩:=ng (d:=Ty.dflt Ty.tip) h
   unfold sj
   rw[h1,KI s zs (ix+1) h2];simp
theorem KJ (s:Stock):∀ (zs:List Log) (ix:Nat),zs=s.logs.drop ix->sk s s zs ix=true
 | [],_,_=>KI s s.tips 0 rfl
 | z :: zs, ix, h => by
   obtain⟨h1,h2⟩:=ng (d:=Ty.dflt Ty.log) h
   unfold sk
   rw[h1,KJ s zs (ix+1) h2];simp[Hl]
theorem KK (s:Stock):∀ (zs:List Cell) (ix:Nat),zs=s.cells.drop ix->sm s s zs ix=true
 | [],_,_=>KJ s s.logs 0 rfl
 | z :: zs, ix, h => by
   obtain⟨h1,h2⟩:=ng (d:=Ty.dflt Ty.cell) h
   unfold sm
   rw[h1,KK s zs (ix+1) h2];simp
theorem r89 (s:Stock):m89 s s=true:=by
 unfold m89
 rw[KK s s.cells 0 rfl];simp
theorem r30 (m:Model):m30 m m=true:=by
 unfold m30
 rw[r89,r90];simp[eqL]
end Go.Proofs.Mo

namespace Go.Proofs.Mo
open Go.Proofs.Tryz
open Go Go.VL Go.Proofs.Zn Go.Proofs.Mn
def qA (w:Int):List Int->Nat->List Int
 | [],_=>[]
 | z::zs,k=>bif z==w then(k:Int)::qA w zs (k+1)else qA w zs (k+1)
theorem zn (w:Int):∀ (l:List Int) (k:Nat) (acc:List Int),ql w l k acc=acc++qA w l k
 | [],k,acc=>by simp[ql,qA]
 | z :: l, k, acc => by
   unfold ql qA
   rw[zn w l,zn w l]
   cases z==w
   ·rfl
   ·simp only[cT,bb,ij]
theorem vJ (w:Int):∀ (l:List Int) (k:Nat) (x:Int),x∈qA w l k↔∃ i:Nat,l[i]?=some w/\x=((k+i:Nat):Int)
 | [],k,x=>by simp[qA]
 | z :: l, k, x => by
   have ih:=vJ w l (k+1) x
   unfold qA
   cases h:z==w
   ·have hz:z≠w:=by simpa using h
    rw[cF,ih]
    constructor
    ·rintro⟨i,h1,h2⟩;exact⟨i+1,by simpa using h1,by omega⟩
    ·rintro⟨i,h1,h2⟩
     cases i with
     | zero=>simp at h1;exact absurd h1 hz
     | succ i=>exact⟨i,by simpa using h1,by omega⟩
   ·have hz:z=w:=by simpa using h
    rw[cT,aD,ih]
    constructor
    ·rintro(h1|⟨i,h1,h2⟩)
     ·exact⟨0,by simp[hz],by omega⟩
     ·exact⟨i+1,by simpa using h1,by omega⟩
    ·rintro⟨i,h1,h2⟩
     cases i with
     | zero=>exact .inl (by omega)
     | succ i=>exact .inr ⟨i,by simpa using h1,by omega⟩
theorem Mg {w:Int}{l:List Int}{k:Nat}{x:Int}(h:x∈qA w l k):(k:Int)<=x:=by
 obtain⟨i,_,h2⟩:=(vJ w l k x).1 h
 omega
theorem oC (w:Int):∀ (l:List Int) (k:Nat),iU (qA w l k)
 | [],_=>.nil
 | z :: l, k => by
   unfold qA
   cases z==w
   ·exact oC w l (k+1)
   ·exact .cons (fun x hx=>by have:=Mg hx;omega) (oC w l (k+1))
theorem vQ (o:List Int)(w:Int):m39 o w=qA w o 0:=by
 unfold m39;rw[zn];rfl
theorem BY {old:Int}(h0:0<=old):∀ (l:List Change) (i:Nat),qG old l i=true->old+i+l.length<=2147483647->∀ (k:Nat) (c:Change),l[k]?=some c->c.ver=old+1+i+k
 | [],_,_,_,k,c,hc=>by simp at hc
 | x :: l, i, h, hl, k, c, hc => by
   simp only[ag]at hl
   unfold qG at h
   rw[ax (n:=old+1) (by omega) (by omega),ax (by omega) (by omega)]at h
   cases h1:(x.ver != old+1+(i:Int))
   ·rw[h1,cF]at h
    cases h2:(!lB x.by' x.n)
    ·rw[h2,cF]at h
     cases k with
     | zero =>
       simp only[bl,af]at hc
       subst hc
       have:x.ver=old+1+(i:Int):=ai.1 h1
       omega
     | succ k =>
       have:=BY h0 l (i+1) h (by omega) k c (by simpa using hc)
       omega
    ·rw[h2]at h;cases h
   ·rw[h1]at h;cases h
theorem rF (l:Log)(v:Int):∀ (zs:List Change) (ix:Nat) (acc:List Change),pK l v zs ix acc=(let r:=acc++zs.filter (fun z=>decide (z.ver>v));bif ((r.length:Int) != w64 (l.last-v))then([],111)else(r,0))
 | [],ix,acc=>by simp[pK]
 | z :: zs, ix, acc => by
   unfold pK
   rw[rF l v zs,rF l v zs]
   cases h:decide (z.ver>v)
   ·simp[h]
   ·simp[h]
theorem qp (v a:Int):∀ (l:List Change),(∀ (k:Nat) (c:Change),l[k]?=some c->c.ver=a+1+k)->a<=v->l.filter (fun z=>decide (z.ver>v))=l.drop (v-a).toNat
 | [],_,_=>by simp
 | x :: l, h, hv => by
   have hx:=h 0 x rfl
   by_cases he:v=a
   ·subst he
    rw[show(v-v).toNat=0 by omega,bD,List.filter_eq_self]
    intro c hc
    obtain⟨k,hk⟩:=du.1 hc
    have:=h k c hk
    exact dT (by omega)
   ·have ih:=qp v (a+1) l (fun k c hc=>by have:=h (k+1) c (by simpa using hc);omega) (by omega)
    rw[List.filter_cons,show decide (x.ver>v)=false from dF (by omega),aH (by simp),ih,show(v-a).toNat=(v-(a+1)).toNat+1 by omega,List.drop_succ_cons]
theorem ou (l:Log)(v:Int):ss l v=iw l v:=by
 unfold ss iw
 cases hl : !fX l
 case true=>rfl
 rw[cF,cF]
 cases h1:decide (v<0)
 case true=>rfl
 rw[cF,cF]
 cases h2:decide (v>l.last)
 case true=>rfl
 rw[cF,cF,rF]
 obtain⟨ho,ho0,hl1,hl2,hl3,hl4,hl5,hl6⟩:=gi hl
 have h1:=oF h1
 have h2:=oF h2
 have hc:=(jo (nf hl)).2.2.2.2.2.2
 have hv:=BY ho0 l.list 0 hc (by omega)
 simp only[fw]
 rw[ax (n:=l.last-v) (by omega) (by omega)]
 by_cases h3:v<jC l
 ·rw[dT h3,cT]
  have hlen:(l.list.filter fun z=>decide (z.ver>v)).length<=l.list.length:=fE _ _
  rw[show(((l.list.filter fun z=>decide (z.ver>v)).length:Int) != l.last-v)=true from dl.2 (by omega)]
  rfl
 ·rw[dF h3,cF,ax (by omega) (by omega)]
  rw[qp v (jC l) l.list (fun k c h=>by have:=hv k c h;omega) (by omega)]
  rw[show(((l.list.drop (v-jC l).toNat).length:Int) != l.last-v)=false from ai.2 (by rw[aK];omega)]
  rfl
end Go.Proofs.Mo

namespace Go.Proofs.Mo
open Go.Proofs.Tryz
open Go Go.VL Go.Proofs.Zn Go.Proofs.Mn
def Cj (f c:Cell)(l:Log):Prop:=dc c=true/\c.cap=f.cap/\fX l=true/\l.room=8/\l.last=c.ver
theorem nI:∀ (fs cs:List Cell) (ls:List Log),fs.length=cs.length->ls.length=cs.length ->
  (dW fs cs ls=true↔∀ (i:Nat) (f c:Cell) (l:Log),fs[i]?=some f->cs[i]?=some c->ls[i]?=some l->Cj f c l)
 | [], cs, ls, h1, h2 => by
   simp only[dW,true_iff]
   intro i f c l h;simp at h
 | f::fs,[],ls,h1,h2=>by simp at h1
 | f::fs,c::cs,[],h1,h2=>by simp at h2
 | f :: fs, c :: cs, l :: ls, h1, h2 => by
   have ih:=nI fs cs ls (by simpa using h1) (by simpa using h2)
   have e:dW (f::fs) (c::cs) (l::ls)=true↔Cj f c l/\dW fs cs ls=true:=by
    unfold Cj
    simp only[dW]
    cases g1:dc c
    ·simp
    cases g3:fX l
    ·cases g2:(c.cap != f.cap)<;>simp
    cases g2:(c.cap != f.cap)
    ·cases g4:(l.room != 8)
     ·cases g5:(l.last != c.ver)
      ·simp at g2 g4 g5;simp[g2,g4,g5]
      ·simp at g5;simp[g5]
     ·simp at g4;simp[g4]
    ·simp at g2;simp[g2]
   rw[e,ih]
   constructor
   ·rintro⟨h,hr⟩ i f' c' l' hf hc hl
    cases i with
    | zero=>simp at hf hc hl;subst hf hc hl;exact h
    | succ i=>exact hr i f' c' l' (by simpa using hf) (by simpa using hc) (by simpa using hl)
   ·intro h
    exact⟨h 0 f c l rfl rfl rfl,fun i f' c' l' hf hc hl=>h (i+1) f' c' l' (by simpa using hf) (by simpa using hc) (by simpa using hl)⟩
theorem Me {m:Model}(h:m31 m=true):m91 m.deck m.stock=true:=by
 unfold m31 at h
 cases h1:((m.owners.length:Int) != w64 (w64 (Prod.fst (Zn.bu (Model.deck m))+Prod.fst (Prod.snd (Zn.bu (Model.deck m))))+Prod.snd (Prod.snd (Zn.bu (Model.deck m)))))
 case true=>rw[h1]at h;cases h
 rw[h1,cF]at h
 cases h2:m91 m.deck m.stock
 ·rw[h2]at h;cases h
 ·rfl
theorem xF {d:Deck}{s:Stock}(h:m91 d s=true):(bi d).length=s.cells.length:=by
 obtain⟨hz,hc,hl,ht⟩:=jw h
 have hn:=iK hz
 omega
theorem GP {m:Model}(hb:OkM m)(h:m31 m=true){i:Int}(h0:0<=i)(h1:i<m.stock.cells.length):(List.getD m.stock.logs i.toNat (Ty.dflt Ty.log)).last=(List.getD m.stock.cells i.toNat (Ty.dflt Ty.cell)).ver:=by
 have hs:=Me h
 obtain⟨hz,hc,hl,ht⟩:=jw hs
 have hw:=(nI _ _ _ (xF hs) hl).1 (ki hb.toS hs).2.1
 have k1:i.toNat<m.stock.cells.length:=by omega
 have k2:i.toNat<m.stock.logs.length:=by omega
 have k3:i.toNat<(bi m.deck).length:=by rw[xF hs];exact k1
 have:=hw i.toNat _ _ _ (aj k3) (aj k1) (aj k2)
 rw[bn,bn,aj k1,aj k2]
 exact this.2.2.2.2
theorem BG {m:Model}(hb:OkM m)(h:m31 m=true)(w:Int):(m95 m.deck m.stock w).1=m34 m w:=by
 rw[← Ha hb]
 unfold m33
 rw[h]
 rfl
theorem zh {m:Model}{who:Int}{q:Req}(hk:q.kind=1):zJ m who q=tI m who q:=by
 unfold zJ tI vU xU dP m98 nr
 simp only[hk,EV,AP,vQ,jk (oC who m.owners 0) (jv q.ids),dA,cT]
theorem zj {m:Model}{who:Int}{q:Req}(hk:q.kind=2):zI m who q=tI m who q:=by
 unfold zI tI vU xU dP m98 nr
 simp only[hk,yi,AP,vQ,Int.reduceBEq,cF]
theorem wj {m:Model}{who:Int}{q:Req}(hb:OkM m)(h:m31 m=true):zH m who q=oV m who q:=by
 unfold zH oV ib dP m98 ml
 rw[BG hb h,AT hb.toS _ _ _ (mP q),BO hb.toS _ _ (mP q),wM hb.toS]
 cases decide (m34 m who<0)
 case true=>rfl
 rw[cF,cF]
 cases q.kind==4
 case true=>
  rw[cT,cT]
  cases hx:((lq m.deck m.stock who q.a q.b (Wn.cB q).1).2 != 0)
  ·simp only[hx,cF];rfl
  ·simp only[hx,show((lq m.deck m.stock who q.a q.b (Wn.cB q).1).2==0)=false from aN.2 (by simpa using hx),cT,cF]
 rw[cF,cF]
 cases q.kind==5
 case true=>
  rw[cT,cT]
  cases hx:((ka m.deck m.stock who q.a (Wn.cB q).1).2 != 0)
  ·simp only[hx,cF];rfl
  ·simp only[hx,show((ka m.deck m.stock who q.a (Wn.cB q).1).2==0)=false from aN.2 (by simpa using hx),cT,cF]
 rw[cF,cF]
 cases hx:((jZ m.deck m.stock who q.a (Wn.cB q).1).2 != 0)
 ·simp only[hx,cF];rfl
 ·simp only[hx,show((jZ m.deck m.stock who q.a (Wn.cB q).1).2==0)=false from aN.2 (by simpa using hx),cT,cF]
theorem Pc {m:Model}{who:Int}{q:Req}(hb:OkM m)(ha:cy q.a):m37 m who q=m38 m who q:=by
 unfold m37 m38
 rw[zz,pr hb]
 cases h1:m32 m
 case false=>rfl
 have h1':m31 m=true:=by rw[pr hb];exact h1
 rw[bc,cF,cF]
 cases decide (who<1)
 case true=>rfl
 rw[cF,cF]
 cases decide (who>m.deck.arms)
 case true=>rfl
 rw[cF,cF]
 cases h4:((Wn.dr m.deck q).err != 0)
 case true=>rfl
 rw[cF,cF,GR]
 cases (DS m.owners (Wn.kW m.deck q) who).2
 case true=>rfl
 rw[cF,cF]
 have h4:(Wn.dr m.deck q).err=0:=ai.1 h4
 have hk:=BB h4
 have hi:=GX (q:=q) (by rw[h1'];rfl) h4
 unfold DT
 have hk:q.kind=1\/q.kind=2\/q.kind=3\/q.kind=4\/q.kind=5\/q.kind=6\/q.kind=7\/q.kind=8\/q.kind=9\/q.kind=10:=by omega
 rcases hk with hk|hk|hk|hk|hk|hk|hk|hk|hk|hk
 ·simp only[hk,dA,cT,zh hk]
 ·simp only[hk,Int.reduceBEq,cT,cF,zj hk]
 ·simp only[hk,Int.reduceBEq,cT,cF]
  unfold DR nr
  rw[yi,AP]
 ·simp only[hk,Int.reduceBEq,cT,cF,wj hb h1']
 ·simp only[hk,Int.reduceBEq,cT,cF,wj hb h1']
 ·simp only[hk,Int.reduceBEq,cT,cF,wj hb h1']
 ·simp only[hk,Int.reduceBEq,cT,cF]
  unfold DQ ib dP m98
  rw[ER hb.toS _ _ ha]
 ·simp only[hk,Int.reduceBEq,cT,cF]
  unfold DP ib dP m98
  rw[Hq hb.toS,BG hb h1']
 ·simp only[hk,Int.reduceBEq,cT,cF]
  rfl
 ·simp only[hk,Int.reduceBEq,cT,cF]
  unfold DO ml dP m98
  rw[ou,← GP hb h1' (hi (.inr hk)).1.1 (hi (.inr hk)).1.2]
end Go.Proofs.Mo

namespace Go.Proofs.Mo
open Go.Proofs.Tryz
open Go Go.VL Go.Proofs.Zn Go.Proofs.Mn
theorem Eq {d:Deck}(hz:(cW d != 0)=false):∀ c∈bi d,dc c=true/\c.ver=0:=by
 intro c hc
 obtain⟨z,hzz,hc⟩:=iF.1 hc
 obtain⟨k,_,rfl⟩:=aT.1 hc
 have hk:=jA ((cf hz).plate z hzz)
 have h1:=hk.start k
 have h2:=hk.cap
 refine⟨?_,rfl⟩
 have a1:z.cap>=1:=by omega
 have a2:z.cap<=1099511627776:=by omega
 have a3:0<=z.start.getD k 0:=h1.1
 have a4:z.start.getD k 0<=z.cap:=h1.2
 simp[cU,dc,a1,a2,a3,a4,-List.getD_eq_getElem?_getD]
end Go.Proofs.Mo

namespace Go.Proofs.Mo
open Go.Proofs.Tryz
open Go Go.VL Go.Proofs.Zn Go.Proofs.Mn
def oi (fs cs:List Cell)(ls:List Log):Prop:=∀ (i:Nat) (f c:Cell) (l:Log),fs[i]?=some f->cs[i]?=some c->ls[i]?=some l->Cj f c l
structure TipsP (n:Int) (l:List Tip):Prop where
 ok:∀ t∈l,fJ t=true/\t.by'<=n
 one:∀ (i j:Nat) (b:Int),l[i]?=some ⟨2,b⟩->l[j]?=some ⟨2,b⟩->i=j
structure RightP (d:Deck) (s:Stock):Prop where
 zone:(cW d != 0)=false
 lenC:(bi d).length=s.cells.length
 lenL:s.logs.length=s.cells.length
 lenT:(s.tips.length:Int)=bp (aR d)
 wells:oi (bi d) s.cells s.logs
 tips:TipsP d.arms s.tips
 start:s.start=tot ((bi d).map Cell.vol)
 inn0:0<=s.inn
 inn1:s.inn<=1152921504606846976
 out0:0<=s.out
 out1:s.out<=1152921504606846976
 sum:tot (s.cells.map Cell.vol)=s.start+s.inn-s.out
theorem qK {t:Tip}(h:fJ t=true):t.state=2/\1<=t.by'/\t.by'<=8\/(t.state=1\/t.state=3)/\t.by'=0:=by
 unfold fJ oh at h
 cases h1:t.state==2
 ·rw[h1,cF]at h
  cases h2:t.state==1
  ·rw[h2,cF]at h
   cases h3:t.state==3
   ·rw[h3]at h;cases h
   ·rw[h3,cT]at h
    simp at h2 h3 h
    exact .inr ⟨.inr h3,h⟩
  ·rw[h2,cT]at h
   simp at h2 h
   exact .inr ⟨.inl h2,h⟩
 ·rw[h1,cT]at h
  simp at h1
  refine .inl ⟨h1,?_⟩
  by_cases h2:t.by'>=1
  ·rw[dT h2,cT]at h
   exact⟨h2,by simpa using h⟩
  ·rw[dF h2]at h;cases h
theorem jI (n:Int):∀ (l:List Tip) (h:List Int),(∀ x∈h,1<=x)->(eR n l h=true↔TipsP n l/\∀ b,⟨2,b⟩∈l->b ∉ h)
 | [], h, _ => by
   simp only[eR,true_iff]
   exact⟨⟨fun t ht=>by simp at ht,fun i j b hi=>by simp at hi⟩,fun b hb=>by simp at hb⟩
 | t :: l, h, hh => by
   have e:eR n (t::l) h=true↔fJ t=true/\t.by'<=n/\t.by' ∉ h/\eR n l (if t.state=2 then h++[t.by']else h)=true:=by
    simp only[eR]
    cases g1:fJ t
    ·simp
    rw[bc,cF]
    by_cases g2:t.by'>n
    ·rw[dT g2];simp;intro hx;omega
    rw[dF g2,cF]
    cases g3:h.elem t.by'
    ·have g3':t.by' ∉ h:=by simpa using g3
     rw[cF]
     by_cases g4:t.state=2
     ·rw[show(t.state==2)=true by simpa using g4,cT,aE g4]
      exact⟨fun k=>⟨rfl,by omega,g3',k⟩,fun k=>k.2.2.2⟩
     ·rw[show(t.state==2)=false by simpa using g4,cF,aH g4]
      exact⟨fun k=>⟨rfl,by omega,g3',k⟩,fun k=>k.2.2.2⟩
    ·have g3':t.by'∈h:=by simpa using g3
     rw[cT]
     exact⟨fun k=>(by cases k),fun k=>absurd g3' k.2.2.1⟩
   rw[e]
   by_cases hs:t.state=2
   ·rw[aE hs]
    constructor
    ·rintro⟨k1,k2,k3,k4⟩
     have hb1:1<=t.by':=by rcases qK k1 with h|h<;>omega
     obtain⟨⟨p1,p2⟩,p3⟩:=(jI n l _ (fun x hx=>by rcases aA.1 hx with hx|hx;exact hh x hx;simp at hx;omega)).1 k4
     refine⟨⟨fun u hu=>?_,fun i j b hi hj=>?_⟩,fun b hb=>?_⟩
     ·rcases aD.1 hu with rfl|hu
      ·exact⟨k1,k2⟩
      ·exact p1 u hu
     ·cases i with
      | zero =>
        cases j with
        | zero=>rfl
        | succ j =>
          simp at hi hj
          have:=p3 b (bq hj)
          subst hi
          simp at this
      | succ i =>
        cases j with
        | zero =>
          simp at hi hj
          have:=p3 b (bq hi)
          subst hj
          simp at this
        | succ j=>simp at hi hj;rw[p2 i j b hi hj]
     ·rcases aD.1 hb with hb|hb
      ·subst hb;exact k3
      ·have:=p3 b hb
       simp at this;exact this.1
    ·rintro⟨⟨p1,p2⟩,p3⟩
     obtain⟨k1,k2⟩:=p1 t (by simp)
     have hb1:1<=t.by':=by rcases qK k1 with h|h<;>omega
     have ht:t=⟨2,t.by'⟩:=by cases t;simp at hs;subst hs;rfl
     refine⟨k1,k2,p3 _ (by rw[← ht];simp),(jI n l _ (fun x hx=>by rcases aA.1 hx with hx|hx;exact hh x hx;simp at hx;omega)).2 ⟨⟨fun u hu=>p1 u (by simp[hu]),fun i j b hi hj=>?_⟩,fun b hb=>?_⟩⟩
     ·have:=p2 (i+1) (j+1) b (by simpa using hi) (by simpa using hj)
      omega
     ·intro hm
      rcases aA.1 hm with hm|hm
      ·exact p3 b (by simp[hb]) hm
      ·simp at hm
       obtain⟨i,hi⟩:=du.1 hb
       have:=p2 0 (i+1) b (by rw[hm,← ht];rfl) (by simpa using hi)
       omega
   ·rw[aH hs]
    constructor
    ·rintro⟨k1,k2,k3,k4⟩
     obtain⟨⟨p1,p2⟩,p3⟩:=(jI n l h hh).1 k4
     refine⟨⟨fun u hu=>?_,fun i j b hi hj=>?_⟩,fun b hb=>?_⟩
     ·rcases aD.1 hu with rfl|hu
      ·exact⟨k1,k2⟩
      ·exact p1 u hu
     ·cases i with
      | zero=>simp at hi;subst hi;exact absurd rfl hs
      | succ i =>
        cases j with
        | zero=>simp at hj;subst hj;exact absurd rfl hs
        | succ j=>simp at hi hj;rw[p2 i j b hi hj]
     ·rcases aD.1 hb with hb|hb
      ·subst hb;exact absurd rfl hs
      ·exact p3 b hb
    ·rintro⟨⟨p1,p2⟩,p3⟩
     obtain⟨k1,k2⟩:=p1 t (by simp)
     have h0:t.by'=0:=by rcases qK k1 with h|h;exact absurd h.1 hs;exact h.2
     refine⟨k1,k2,fun hm=>by have:=hh _ hm;omega,(jI n l h hh).2 ⟨⟨fun u hu=>p1 u (by simp[hu]),fun i j b hi hj=>?_⟩,fun b hb=>p3 b (by simp[hb])⟩⟩
     have:=p2 (i+1) (j+1) b (by simpa using hi) (by simpa using hj)
     omega
theorem uX (n:Int)(l:List Tip):eR n l []=true↔TipsP n l:=by
 rw[jI n l [] (fun x hx=>by simp at hx)]
 exact⟨fun h=>h.1,fun h=>⟨h,fun b _=>by simp⟩⟩
theorem pn {fs cs:List Cell}{ls:List Log}(h1:fs.length=cs.length)(h2:ls.length=cs.length)(h:oi fs cs ls):∀ c∈cs,dc c=true:=by
 intro c hc
 obtain⟨i,hi⟩:=du.1 hc
 have hlt:i<cs.length:=(an.1 hi).1
 exact(h i _ c _ (aj (by omega)) hi (aj (by omega))).1
theorem wN {cs:List Cell}(h:∀ c∈cs,dc c=true):0<=tot (cs.map Cell.vol)/\tot (cs.map Cell.vol)<=1099511627776*cs.length:=by
 have:=mQ (l:=cs.map Cell.vol) (by
  intro x hx
  obtain⟨c,hc,rfl⟩:=aT.1 hx
  have:=fp (h c hc)
  omega)
 rwa [bB]at this
theorem mT {d:Deck}{s:Stock}:m94 d s=true↔RightP d s:=by
 unfold m94
 rw[AR]
 cases hz:cW d != 0
 case true=>
  have e0:((eW d).2 != 0)=true:=by unfold eW;rw[hz];exact hz
  rw[e0,cT]
  exact⟨fun h=>(by cases h),fun h=>by have:=h.zone;rw[hz]at this;cases this⟩
 have hn:=iK hz
 have hw:=(cf hz).wells
 have ht:=(cf hz).tips
 have hv0:∀ c∈bi d,dc c=true:=fun c hc=>(Eq hz c hc).1
 have ht0:=wN hv0
 have e0:((eW d).2 != 0)=false:=by unfold eW;rw[hz];rfl
 have e1:(eW d).1.cells=bi d:=by unfold eW;rw[hz];rfl
 have e2:((eW d).1.logs.length:Int)=(bi d).length:=by unfold eW;rw[hz];simp
 have e3:((eW d).1.tips.length:Int)=bp (aR d):=by unfold eW;rw[hz];simp;omega
 have e4:(eW d).1.start=tot ((bi d).map Cell.vol):=by unfold eW;rw[hz];rfl
 rw[e0,cF,e1,e2,e3,e4]
 cases k1:((s.cells.length:Int) != ((bi d).length:Int))
 case true=>
  rw[cT]
  exact⟨fun h=>(by cases h),fun h=>by have:=h.lenC;simp at k1;omega⟩
 have k1:(s.cells.length:Int)=((bi d).length:Int):=ai.1 k1
 rw[cF]
 cases k2:((s.logs.length:Int) != ((bi d).length:Int))
 case true=>
  rw[cT]
  exact⟨fun h=>(by cases h),fun h=>by have:=h.lenL;simp at k2;omega⟩
 have k2:(s.logs.length:Int)=((bi d).length:Int):=ai.1 k2
 rw[cF]
 cases k3:((s.tips.length:Int) != bp (aR d))
 case true=>
  rw[cT]
  exact⟨fun h=>(by cases h),fun h=>by have:=h.lenT;simp at k3;omega⟩
 have k3:(s.tips.length:Int)=bp (aR d):=ai.1 k3
 rw[cF,mU d s (bi d) _ s.cells 0 rfl (by omega) (by omega),bD,bD,mV]
 have wi:=nI (bi d) s.cells s.logs (by omega) (by omega)
 cases k4:dW (bi d) s.cells s.logs
 case false=>
  rw[cF]
  exact⟨fun h=>(by cases h),fun h=>by have:=wi.2 h.wells;rw[k4]at this;cases this⟩
 have k4:oi (bi d) s.cells s.logs:=wi.1 k4
 rw[cT]
 cases k5:eR d.arms s.tips []
 case false=>
  rw[cF]
  exact⟨fun h=>(by cases h),fun h=>by have:=(uX _ _).2 h.tips;rw[k5]at this;cases this⟩
 have k5:TipsP d.arms s.tips:=(uX _ _).1 k5
 rw[cT]
 have hv:=wN (pn (by omega) (by omega) k4)
 unfold Ho
 cases k6:(s.start != tot ((bi d).map Cell.vol))
 case true=>
  rw[cT]
  exact⟨fun h=>(by cases h),fun h=>by have:=h.start;simp at k6;omega⟩
 have k6:s.start=tot ((bi d).map Cell.vol):=ai.1 k6
 rw[cF]
 by_cases k7:s.inn<0
 ·rw[dT k7,cT]
  exact⟨fun h=>(by cases h),fun h=>by have:=h.inn0;omega⟩
 rw[dF k7,cF]
 by_cases k8:s.inn>1152921504606846976
 ·rw[dT k8,cT]
  exact⟨fun h=>(by cases h),fun h=>by have:=h.inn1;omega⟩
 rw[dF k8,cF]
 by_cases k9:s.out<0
 ·rw[dT k9,cT]
  exact⟨fun h=>(by cases h),fun h=>by have:=h.out0;omega⟩
 rw[dF k9,cF]
 by_cases k10:s.out>1152921504606846976
 ·rw[dT k10,cT]
  exact⟨fun h=>(by cases h),fun h=>by have:=h.out1;omega⟩
 rw[dF k10,cF,AZ]
 have hf:cy (tot (s.cells.map Cell.vol)):=by unfold cy;omega
 have hs:EL s=(tot (s.cells.map Cell.vol),0):=io hf
 rw[hs,ax (n:=s.start+s.inn) (by omega) (by omega),ax (by omega) (by omega)]
 simp only[dA,cT,bV]
 exact⟨fun h=>⟨hz,by omega,by omega,k3,k4,k5,k6,by omega,by omega,by omega,by omega,h⟩,fun h=>h.sum⟩
end Go.Proofs.Mo

namespace Go.Proofs.Mo
open Go.Proofs.Tryz
open Go Go.VL Go.Proofs.Zn Go.Proofs.Mn
theorem vg {b n:Int}:lB b n=true↔1<=b/\b<=8/\n≠0 /\ -1099511627776<=n/\n<=1099511627776:=by
 unfold lB
 by_cases h1:b>=1
 ·rw[dT h1,cT]
  by_cases h2:b<=8
  ·rw[dT h2,cT]
   by_cases h3:n=0
   ·subst h3;simp
   ·rw[show(n != 0)=true by simpa using h3,cT]
    by_cases h4:n >= -1099511627776
    ·rw[dT h4,cT,bx];omega
    ·rw[dF h4,cF];simp;omega
  ·rw[dF h2,cF];simp;omega
 ·rw[dF h1,cF];simp;omega
theorem zZ {old:Int}(h0:0<=old):∀ (l:List Change) (i:Nat),old+i+l.length<=2147483647->(qG old l i=true↔∀ (k:Nat) (c:Change),l[k]?=some c->c.ver=old+1+i+k/\lB c.by' c.n=true)
 | [], _, _ => by
   simp only[qG,true_iff]
   intro k c hc;simp at hc
 | x :: l, i, hl => by
   simp only[ag]at hl
   have ih:=zZ h0 l (i+1) (by omega)
   unfold qG
   rw[ax (n:=old+1) (by omega) (by omega),ax (by omega) (by omega)]
   constructor
   ·intro h k c hc
    cases h1:(x.ver != old+1+(i:Int))
    ·rw[h1,cF]at h
     cases h2:(!lB x.by' x.n)
     ·rw[h2,cF]at h
      cases k with
      | zero =>
        simp only[bl,af]at hc
        subst hc
        have:x.ver=old+1+(i:Int):=ai.1 h1
        exact⟨by omega,by simpa using h2⟩
      | succ k =>
        have:=ih.1 h k c (by simpa using hc)
        exact⟨by omega,this.2⟩
     ·rw[h2]at h;cases h
    ·rw[h1]at h;cases h
   ·intro h
    have hx:=h 0 x rfl
    rw[show(x.ver != old+1+(i:Int))=false from ai.2 (by omega),cF,hx.2,bc,cF]
    exact ih.2 fun k c hc=>by
     have:=h (k+1) c (by simpa using hc)
     exact⟨by omega,this.2⟩
theorem qW {l:Log}:fX l=true↔1<=l.room/\l.room<=64/\0<=l.last/\l.last<=2147483647/\(l.list.length:Int)<=l.room/\(l.list.length:Int)<=l.last/\∀ (k:Nat) (c:Change),l.list[k]?=some c->c.ver=l.last-l.list.length+1+k/\lB c.by' c.n=true:=by
 constructor
 ·intro h
  obtain⟨h1,h2,h3,h4,h5,h6,h7⟩:=jo h
  refine⟨h1,h2,h3,h4,h5,h6,fun k c hc=>?_⟩
  have ho:jC l=l.last-l.list.length:=by unfold jC;exact ax (by omega) (by omega)
  have:=(zZ (old:=jC l) (by omega) l.list 0 (by omega)).1 h7 k c hc
  exact⟨by omega,this.2⟩
 ·rintro⟨h1,h2,h3,h4,h5,h6,h7⟩
  have ho:jC l=l.last-l.list.length:=by unfold jC;exact ax (by omega) (by omega)
  unfold fX
  rw[dF (show ¬ l.room<1 by omega),dF (show ¬ l.room>64 by omega),dF (show ¬ l.last<0 by omega),dF (show ¬ l.last>2147483647 by omega),dF (show ¬ (l.list.length:Int)>l.room by omega),dF (show ¬ (l.list.length:Int)>l.last by omega)]
  simp only[cF]
  exact(zZ (by omega) l.list 0 (by omega)).2 fun k c hc=>by
   have:=h7 k c hc
   exact⟨by omega,this.2⟩
theorem Js {l:Log}{b n:Int}(hl:fX l=true)(hc:lB b n=true)(hm:l.last<2147483647):(kV l b n).2=0/\fX (kV l b n).1=true/\(kV l b n).1.room=l.room/\(kV l b n).1.last=l.last+1:=by
 unfold kV
 rw[hl,hc,show(l.last==2147483647)=false from aN.2 (by omega)]
 simp only[bc,cF,true_and,mN]
 obtain⟨h1,h2,h3,h4,h5,h6,h7⟩:=qW.1 hl
 rw[qW]
 cases he:((l.list.length:Int)==l.room)
 ·have he:(l.list.length:Int)≠l.room:=aN.1 he
  simp only[cF,al,List.length_singleton]
  refine⟨h1,h2,by omega,by omega,by omega,by omega,fun k c hk=>?_⟩
  rw[br]at hk
  split at hk
  ·have:=h7 k c hk
   exact⟨by omega,this.2⟩
  ·have h0:k-l.list.length=0:=by
    rcases eA (k-l.list.length)with h|h
    ·exact h
    ·rw[au (by simp;omega)]at hk;cases hk
   rw[h0]at hk
   simp at hk
   subst hk
   exact⟨by simp only[];omega,hc⟩
 ·have he:(l.list.length:Int)=l.room:=by simpa using he
  simp only[cT,al,List.length_singleton,aK]
  refine⟨h1,h2,by omega,by omega,by omega,by omega,fun k c hk=>?_⟩
  rw[br]at hk
  split at hk
  ·rw[cc]at hk
   have:=h7 (1+k) c hk
   exact⟨by omega,this.2⟩
  ·rename_i hlt
   rw[aK]at hlt hk
   have h0:k-(l.list.length-1)=0:=by
    rcases eA (k-(l.list.length-1))with h|h
    ·exact h
    ·rw[au (by simp;omega)]at hk;cases hk
   rw[h0]at hk
   simp at hk
   subst hk
   exact⟨by simp only[];omega,hc⟩
structure ChgC (c c':Cell) (k:Int):Prop where
 old:dc c=true
 cap:c'.cap=c.cap
 vol:c'.vol=c.vol+k
 ver:c'.ver=c.ver+1
 ok:dc c'=true
 lo:c.ver<2147483647
 ne:k≠0
theorem HD {c:Cell}:dc c=true↔1<=c.cap/\c.cap<=1099511627776/\0<=c.vol/\c.vol<=c.cap/\0<=c.ver/\c.ver<=2147483647:=by
 refine⟨fp,fun⟨h1,h2,h3,h4,h5,h6⟩=>?_⟩
 unfold dc
 rw[dT (show c.cap>=1 by omega),dT h2,dT (show c.vol>=0 by omega),dT h4,dT (show c.ver>=0 by omega),dT h6]
 rfl
theorem rj {c:Cell}{n:Int}(h:(nV c n).2=0):ChgC c (nV c n).1 n:=by
 unfold nV Jy at h ⊢
 cases h1:dc c
 ·rw[h1]at h;cases (show(100:Int)=0 from h)
 obtain⟨c1,c2,c3,c4,c5,c6⟩:=fp h1
 rw[h1,bc,cF]at h
 rw[bc,cF]
 cases h2:(n==0)
 case true=>rw[h2]at h;cases (show(1:Int)=0 from h)
 rw[h2,cF]at h
 rw[cF]
 rw[ax (n:=0-c.vol) (by omega) (by omega),ax (n:=c.cap-c.vol) (by omega) (by omega)]at h ⊢
 cases h3:(c.ver==2147483647)
 case true=>rw[h3]at h;cases (show(101:Int)=0 from h)
 rw[h3,cF]at h
 rw[cF]
 by_cases h4:n<0-c.vol
 ·rw[dT h4]at h;cases (show(102:Int)=0 from h)
 rw[dF h4,cF]at h ⊢
 by_cases h5:n>c.cap-c.vol
 ·rw[dT h5]at h;cases (show(103:Int)=0 from h)
 rw[dF h5,cF]at h ⊢
 have h2:n≠0:=aN.1 h2
 have h3:c.ver≠2147483647:=aN.1 h3
 rw[ax (n:=c.vol+n) (by omega) (by omega),ax (n:=c.ver+1) (by omega) (by omega)]
 exact⟨h1,rfl,rfl,rfl,HD.2 ⟨c1,c2,by simp only[];omega,by simp only[];omega,by simp only[];omega,by simp only[];omega⟩,by omega,h2⟩
theorem AF {c:Cell}{n:Int}(h:(pG c n).2=0):ChgC c (pG c n).1 n/\1<=n:=by
 unfold pG at h ⊢
 cases h1:dc c
 ·rw[h1,cF]at h
  have:=(rj h).old
  rw[h1]at this;cases this
 rw[h1,cT]at h
 rw[cT]
 by_cases h2:n<1
 ·rw[dT h2]at h;cases (show(1:Int)=0 from h)
 rw[dF h2,cF]at h ⊢
 exact⟨rj h,by omega⟩
theorem BQ {c:Cell}{n:Int}(hn:cy n)(h:(nX c n).2=0):ChgC c (nX c n).1 (-n)/\1<=n:=by
 unfold cy at hn
 unfold nX at h ⊢
 cases h1:dc c
 ·rw[h1,cF]at h
  by_cases h2:n<1
  ·rw[dT h2]at h;cases (show(100:Int)=0 from h)
  rw[dF h2,cF]at h
  have:=(rj h).old
  rw[h1]at this;cases this
 rw[h1,cT]at h
 rw[cT]
 by_cases h2:n<1
 ·rw[dT h2]at h;cases (show(1:Int)=0 from h)
 rw[dF h2,cF,cF]at h ⊢
 have e:w64 (0-n) = -n:=by rw[ax (by omega) (by omega)];omega
 rw[e]at h ⊢
 exact⟨rj h,by omega⟩
theorem An:∀ {cs:List Cell} {i:Nat} {c c':Cell} {k:Int},cs[i]?=some c->c'.vol=c.vol+k->tot ((cs.set i c').map Cell.vol)=tot (cs.map Cell.vol)+k
 | [],i,c,c',k,h,_=>by simp at h
 | x :: cs, 0, c, c', k, h, hv => by
   simp at h;subst h
   simp only[List.set_cons_zero,bk,tot,hv];omega
 | x :: cs, i + 1, c, c', k, h, hv => by
   have:=An (cs:=cs) (i:=i) (by simpa using h) hv
   simp only[List.set_cons_succ,bk,tot,this];omega
theorem JX {c c':Cell}{k b:Int}(h:ChgC c c' k)(h1:1<=b)(h8:b<=8):lB b k=true:=by
 have a:=fp h.old
 have a':=fp h.ok
 have:=h.vol
 have:=h.cap
 exact vg.2 ⟨h1,h8,h.ne,by omega,by omega⟩
theorem Dj {fs cs:List Cell}{ls:List Log}{i:Nat}{c c':Cell}{l:Log}{k b:Int}(h:oi fs cs ls)(hc:cs[i]?=some c)(hl:ls[i]?=some l)(hk:ChgC c c' k)(h1:1<=b)(h8:b<=8) :
  oi fs (cs.set i c') (ls.set i (kV l b k).1):=by
 intro j f x y hj hx hy
 by_cases he:i=j
 ·subst he
  have w:=h i f c l hj hc hl
  have n:=Js (l:=l) (b:=b) (n:=k) w.2.2.1 (JX hk h1 h8) (by rw[w.2.2.2.2];exact hk.lo)
  rw[List.getElem?_set_self ((an.1 hc).1)]at hx
  rw[List.getElem?_set_self ((an.1 hl).1)]at hy
  simp only[af]at hx hy
  subst hx hy
  exact⟨hk.ok,by rw[hk.cap];exact w.2.1,n.2.1,by rw[n.2.2.1];exact w.2.2.2.1,by rw[n.2.2.2,hk.ver,w.2.2.2.2]⟩
 ·rw[iY he]at hx hy
  exact h j f x y hj hx hy
end Go.Proofs.Mo
