/- Own work: part WJ of the proof. -/
import Derived.Test.YteaiflgcgpaclaaGreatDoorWE
import Derived.Test.YteaiflgcgpaclaaGreatDoorWI
import Derived.Test.YteaiflgcgpaclaaGreatDoorWH
set_option linter.unusedVariables false
set_option linter.unusedSimpArgs false
namespace Go.Proofs.Mo
open Go.Proofs.Tryz
open Go Go.VL
set_option maxRecDepth 20000
open Go.Proofs.Zn Go.Proofs.Mn
def PW (cs:List Cell)(ls:List Log)(ts:List Tip)(st zR out:Int)(d:yA):Unit:=()
theorem c283 (cs:List Cell)(ls:List Log)(ts:List Tip)(st zR out:Int)(d:yA) :Gc prog 283 [.ptr 0 0] [(0,.box ([.own 1 .cell,.own 2 .zW,.own 3 .zV,i64 st,i64 zR,i64 out]++cq d)),(1,.row 76 .cell cs),(2,.row 146 .zW ls),(3,.row 194 .zV ts)] 4 ((λ _:Unit=>(⟨[.ptr 0 4],[(0,.box ([.own 1 .cell,.own 2 .zW,.own 3 .zV,i64 st,i64 zR,i64 out]++cq d)),(1,.row 76 .cell cs),(2,.row 146 .zW ls),(3,.row 194 .zV ts)],4⟩:yD)) (PW cs ls ts st zR out d)):=
 Gc.of_closed (C:=codes) (S:=sigs) mixed func283 (by kernel_rfl) (λ i T t ys hi h=>⟨ys,h,rfl⟩) λ A hA=>hA.go (t283 cs ls ts st zR out d) (by
  generalize h:PW cs ls ts st zR out d=r at hA ⊢
  unfold PW at h
  exact⟨tv,.of_eq rfl⟩)
def PV (cs:List Cell)(ls:List Log)(ts:List Tip)(st zR out:Int)(d:yA):Unit:=()
theorem c285 (cs:List Cell)(ls:List Log)(ts:List Tip)(st zR out:Int)(d:yA) :Gc prog 285 [.ptr 0 0] [(0,.box ([.own 1 .cell,.own 2 .zW,.own 3 .zV,i64 st,i64 zR,i64 out]++cq d)),(1,.row 76 .cell cs),(2,.row 146 .zW ls),(3,.row 194 .zV ts)] 4 ((λ _:Unit=>(⟨[.ptr 0 5],[(0,.box ([.own 1 .cell,.own 2 .zW,.own 3 .zV,i64 st,i64 zR,i64 out]++cq d)),(1,.row 76 .cell cs),(2,.row 146 .zW ls),(3,.row 194 .zV ts)],4⟩:yD)) (PV cs ls ts st zR out d)):=
 Gc.of_closed (C:=codes) (S:=sigs) mixed func285 (by kernel_rfl) (λ i T t ys hi h=>⟨ys,h,rfl⟩) λ A hA=>hA.go (t285 cs ls ts st zR out d) (by
  generalize h:PV cs ls ts st zR out d=r at hA ⊢
  unfold PV at h
  exact⟨tv,.of_eq rfl⟩)
def oD (cs:List Cell)(ls:List Log)(ts:List Tip)(st zR out:Int)(d:yA)(id:Int):Bool:=bif decide (id>=0)then decide (id<(cs.length:Int))else false
theorem Nz (cs:List Cell)(ls:List Log)(ts:List Tip)(st zR out:Int)(d:yA)(id:Int) :Gc prog 278 [.ptr 0 0,i64 id] [(0,.box ([.own 1 .cell,.own 2 .zW,.own 3 .zV,i64 st,i64 zR,i64 out]++cq d)),(1,.row 76 .cell cs),(2,.row 146 .zW ls),(3,.row 194 .zV ts)] 4 ((λ x:Bool=>(⟨[ck x],[(0,.box ([.own 1 .cell,.own 2 .zW,.own 3 .zV,i64 st,i64 zR,i64 out]++cq d)),(1,.row 76 .cell cs),(2,.row 146 .zW ls),(3,.row 194 .zV ts)],4⟩:yD)) (oD cs ls ts st zR out d id)):=
 Gc.of_closed (C:=codes) (S:=sigs) mixed func278 (by kernel_rfl) (λ i T t ys hi h=>⟨ys,h,rfl⟩) λ A hA=>hA.go (t278 cs ls ts st zR out d id) (by
  generalize h:oD cs ls ts st zR out d id=r at hA ⊢
  unfold oD at h
  refine aj h (λ g1 h=>?_) (λ g1 h=>?_)
  ·have g1:=oT g1
   exact⟨tv,.of_eq (by rw[<-h];try rfl)⟩
  ·have g1:=oF g1
   exact⟨tv,.of_eq (by rw[<-h];try rfl)⟩)
def Ay (cs:List Cell)(ls:List Log)(ts:List Tip)(st zR out:Int)(d:yA)(id:Int):Int:=bif decide (id>=(cs.length:Int))then bif decide (w64 (id-(cs.length:Int))<(ts.length:Int))then w64 (id-(cs.length:Int))else(-1:Int)else(-1:Int)
theorem c275 (cs:List Cell)(ls:List Log)(ts:List Tip)(st zR out:Int)(d:yA)(id:Int)(hl:cs.length<=1000000/\ts.length<=1000000):Gc prog 275 [.ptr 0 0,i64 id] [(0,.box ([.own 1 .cell,.own 2 .zW,.own 3 .zV,i64 st,i64 zR,i64 out]++cq d)),(1,.row 76 .cell cs),(2,.row 146 .zW ls),(3,.row 194 .zV ts)] 4 ((λ x:Int=>(⟨[i64 x],[(0,.box ([.own 1 .cell,.own 2 .zW,.own 3 .zV,i64 st,i64 zR,i64 out]++cq d)),(1,.row 76 .cell cs),(2,.row 146 .zW ls),(3,.row 194 .zV ts)],4⟩:yD)) (Ay cs ls ts st zR out d id)):=
 Gc.of_closed (C:=codes) (S:=sigs) mixed func275 (by kernel_rfl) (λ i T t ys hi h=>⟨ys,h,rfl⟩) λ A hA=>hA.go (t275 cs ls ts st zR out d id) (by
  generalize h:Ay cs ls ts st zR out d id=r at hA ⊢
  unfold Ay at h
  refine aj h (λ g1 h=>?_) (λ g1 h=>?_)
  ·have g1:=oT g1
   refine aj h (λ g2 h=>?_) (λ g2 h=>?_)
   ·have g2:=oT g2
    exact⟨tv,.of_eq (by rw[<-h];try rfl)⟩
   ·have g2:=oF g2
    exact⟨tv,.of_eq (by rw[<-h];try rfl)⟩
  ·have g1:=oF g1
   exact⟨tv,.of_eq (by rw[<-h];try rfl)⟩)
def pc (s:yC)(d:yA)(l2:List Cell):Nat->Nat->(List Log)->(yC×yA)
 | 0,ix,l1=>(yC.mk l2 l1 s.zK s.start s.zR s.out,d)
 | n+1,ix,l1=>pc s d l2 n (ix+1) (l1.set (ix) (Log.mk (l1.getD (ix) Ty.zW.dflt).room (l1.getD (ix) Ty.zW.dflt).last (l1.getD (ix) Ty.zW.dflt).list))
theorem tI (s:yC)(d:yA)(i1:Int)(l2:List Cell)(hb:OkS s)(hq:i1=(s.zL.length:Int)){r:yC×yA}{A:List Item->AS->Prop}(hA:yP prog codes sigs f312 (eW 1) (λ r'=>yD.Le r' ((λ x:yC×yA=>(⟨[],qm x.1 x.2,4⟩:yD)) r)) 1 A)(ix:Nat)(l1:List Log)(hv:l1=s.zL)(h:pc s d l2 (i1.toNat-ix) ix l1=r):A (hd f312 0) (yu s d i1 l1 l2 (ix:Int)):=by
 refine hA.go (OT s d i1 l1 l2 (ix:Int)) (ae (λ h1=>?_) (λ h1=>?_))
 ·have h1:=oT h1
  have hil:i1.toNat-ix=(i1.toNat-(ix+1))+1:=by omega
  rw[hil,pc]at h
  obtain⟨b1,b2,b3,b4,b5⟩:=id hb
  have hl1:l1.length=s.zL.length:=by rw[hv]
  have hz:(l1.getD (ix:Int).toNat Ty.zW.dflt).list.length<=1000000:=by rw[hv];exact hb.list' _
  refine⟨⟨(by omega),(by omega)⟩,(by omega),_,Tn (by omega),⟨(by omega),(by omega)⟩,⟨(by omega),tv,tv⟩,?_⟩
  rw[aq (by omega)]
  exact tI s d i1 l2 hb hq hA (ix+1) _ (by rw[hv];exact jL (getD_some (by omega))) h
 ·have h1:=oF h1
  rw[show i1.toNat-ix=0 by omega,pc]at h
  obtain⟨b1,b2,b3,b4,b5⟩:=id hb
  exact⟨_,Tm (by omega),tv,.of_eq (by rw[<-h];try rfl)⟩
termination_by i1.toNat-ix
decreasing_by all_goals omega
def Cp (s:yC)(d:yA):yC×yA:=pc s d s.cells ((s.zL.length:Int).toNat-0) 0 s.zL
theorem c312 (s:yC)(d:yA)(hb:OkS s):Gc prog 312 [.ptr 0 0] [(0,.box (jb s++cq d))] 1 ((λ x:yC×yA=>(⟨[],qm x.1 x.2,4⟩:yD)) (Cp s d)):=
 Gc.of_closed (C:=codes) (S:=sigs) mixed func312 (by kernel_rfl) SM λ A hA=>hA.go (t312 s d) (by
  generalize h:Cp s d=r at hA ⊢
  unfold Cp at h
  obtain⟨b1,b2,b3,b4,b5⟩:=id hb
  refine⟨_,Lg (by omega),_,To (by omega),?_⟩
  exact tI s d (s.zL.length:Int) s.cells hb rfl hA 0 s.zL (by rfl) h)
def Cq (d:yA)(s:yC):yC×yA:=((Cp s d).1,(Cp s d).2)
theorem c303 (d:yA)(s:yC)(hb:OkS s):Gc prog 303 [.agg (cq d),.agg (jb s)] [] 0 ((λ x:yC×yA=>(⟨[.ptr 0 0],qm x.1 x.2,4⟩:yD)) (Cq d s)):=
 Gc.of_closed (C:=codes) (S:=sigs) mixed func303 (by kernel_rfl) (λ i T t ys hi _=>absurd hi (bL _)) λ A hA=>hA.go (t303 d s) (by
  generalize h:Cq d s=r at hA ⊢
  unfold Cq at h
  exact⟨_,c312 _ _ hb,tv,.of_eq (by rw[<-h];try rfl)⟩)
def JE (d:yA)(s:yC)(b:Int):Int×yC×yA:=bif (!(m91 d s))then(130,s,d)else bif decide (b<1)then(1,s,d)else bif decide (b>d.zO)then(1,s,d)else(0,(Cq d s).1,(Cq d s).2)
theorem c274 (d:yA)(s:yC)(b:Int)(hb:OkS s):Gc prog 274 [.agg (cq d),.agg (jb s),i64 b] [] 0 ((λ x:Int×yC×yA=>(bif x.1 != 0 then⟨[.d (.v (.pointer none)),i64 x.1],[],0⟩else⟨[.ptr 0 0,i64 0],qm x.2.1 x.2.2,4⟩:yD)) (JE d s b)):=
 Gc.of_closed (C:=codes) (S:=sigs) mixed func274 (by kernel_rfl) (λ i T t ys hi _=>absurd hi (bL _)) λ A hA=>hA.go (t274 d s b) (by
  generalize h:JE d s b=r at hA ⊢
  unfold JE at h
  refine⟨⟨q5,q7,tv⟩,_,c91 _ _ (by first|exact hb|exact hb.toS),?_⟩
  refine aj h (λ g1 h=>?_) (λ g1 h=>?_)
  ·exact⟨tv,.of_eq (by rw[<-h];try rfl)⟩
  ·refine aj h (λ g2 h=>?_) (λ g2 h=>?_)
   ·have g2:=oT g2
    exact⟨tv,.of_eq (by rw[<-h];try rfl)⟩
   ·have g2:=oF g2
    refine aj h (λ g3 h=>?_) (λ g3 h=>?_)
    ·have g3:=oT g3
     exact⟨tv,.of_eq (by rw[<-h];try rfl)⟩
    ·have g3:=oF g3
     exact⟨_,c303 _ _ hb,tv,.of_eq (by rw[<-h];try rfl)⟩)
def ki (cs:List Cell)(ls:List Log)(ts:List Tip)(st zR out:Int)(d:yA)(b id:Int)(c:Cell):List Cell×List Log:=(cs.set id.toNat c,ls.set id.toNat (GT (ls.getD id.toNat Ty.zW.dflt) b (w64 (c.zS-(cs.getD id.toNat Ty.cell.dflt).zS))).1)
theorem Ny (cs:List Cell)(ls:List Log)(ts:List Tip)(st zR out:Int)(d:yA)(b id:Int)(c:Cell)(hi:0<=id/\id<cs.length/\id<ls.length)(hg:∀ i:Nat,(ls.getD i Ty.zW.dflt).list.length<=1000000):Gc prog 280 [.ptr 0 0,i64 b,i64 id,.agg (Fa c)] [(0,.box ([.own 1 .cell,.own 2 .zW,.own 3 .zV,i64 st,i64 zR,i64 out]++cq d)),(1,.row 76 .cell cs),(2,.row 146 .zW ls),(3,.row 194 .zV ts)] 4 ((λ x:List Cell×List Log=>(⟨[],[(0,.box ([.own 1 .cell,.own 2 .zW,.own 3 .zV,i64 st,i64 zR,i64 out]++cq d)),(1,.row 76 .cell x.1),(2,.row 146 .zW x.2),(3,.row 194 .zV ts)],4⟩:yD)) (ki cs ls ts st zR out d b id c)):=
 Gc.of_closed (C:=codes) (S:=sigs) mixed func280 (by kernel_rfl) (Mq (by simp[ki]) (by simp[ki])) λ A hA=>hA.go (t280 cs ls ts st zR out d b id c) (by
  generalize h:ki cs ls ts st zR out d b id c=r at hA ⊢
  unfold ki at h
  exact⟨⟨(by omega),(by omega)⟩,(by omega),⟨(by omega),(by omega)⟩,(by omega),⟨q4,q2,q2,tv⟩,_,c305 _ _ _ (hg _),⟨(by omega),(by omega)⟩,⟨(by omega),tv,tv,tv,tv⟩,⟨(by omega),(by omega)⟩,⟨(by omega),tv,tv,tv,tv⟩,tv,.of_eq (by rw[<-h];try rfl)⟩)
open Go Go.VL Go.Proofs.Zn Go.Proofs.Mn
theorem Ax (s:yC)(d:yA)(cs:List Cell)(ls:List Log):∀ (n ix:Nat),n+ix<=ls.length->pc s d cs n ix ls=(⟨cs,ls,s.zK,s.start,s.zR,s.out⟩,d)
 | 0,ix,_=>rfl
 | n + 1, ix, h => by
   unfold pc
   have e:ls.set ix (Log.mk (ls.getD ix Ty.zW.dflt).room (ls.getD ix Ty.zW.dflt).last (ls.getD ix Ty.zW.dflt).list)=ls:=jL (getD_some (by omega))
   rw[e]
   exact Ax s d cs ls n (ix+1) (by omega)
theorem MU (s:yC)(d:yA):Cp s d=(s,d):=by
 unfold Cp
 rw[Ax s d s.cells s.zL _ 0 (by omega)]
theorem MW (s:yC)(d:yA):Cq d s=(s,d):=by
 unfold Cq
 rw[MU]
def bb (d:yA)(s:yC)(b:Int):Int:=bif !m91 d s then 130 else bif decide (b<1)then 1 else bif decide (b>d.zO)then 1 else 0
theorem MX (d:yA)(s:yC)(b:Int):JE d s b=(bb d s b,s,d):=by
 unfold JE bb
 rw[MW]
 cases m91 d s
 ·rfl
 ·by_cases h1:b<1
  ·rw[dT h1];rfl
  ·rw[dF h1]
   by_cases h2:b>d.zO
   ·rw[dT h2];rfl
   ·rw[dF h2];rfl
theorem Bn (d:yA)(s:yC)(b:Int)(hb:OkS s):Gc prog 274 [.agg (cq d),.agg (jb s),i64 b] [] 0 (bif bb d s b != 0 then⟨[.d (.v (.pointer none)),i64 (bb d s b)],[],0⟩else⟨[.ptr 0 0,i64 0],qm s d,4⟩):=by
 have h:=c274 d s b hb
 rw[MX]at h
 exact h
theorem QA {d:yA}{s:yC}{b:Int}(h:bb d s b=0):m91 d s=true/\1<=b/\b<=d.zO:=by
 unfold bb at h
 cases hm:m91 d s
 ·rw[hm]at h;cases h
 rw[hm]at h
 by_cases h1:b<1
 ·rw[dT h1]at h;cases h
 rw[dF h1]at h
 by_cases h2:b>d.zO
 ·rw[dT h2]at h;cases h
 exact⟨rfl,by omega,by omega⟩
theorem kz {d:yA}{s:yC}(h:m91 d s=true):(df d != 0)=false/\(s.cells.length:Int)=br (aM d)/\s.zL.length=s.cells.length/\(s.zK.length:Int)=br (aU d):=by
 unfold m91 at h
 cases h1:df d != 0
 ·rw[h1,cF]at h
  have hw:=oa h1
  have ht:=mL h1
  simp only[hw,ht]at h
  cases h2:((s.cells.length:Int) != br (aM d))
  ·rw[h2,cF]at h
   cases h3:((s.zL.length:Int) != br (aM d))
   ·rw[h3,cF]at h
    cases h4:((s.zK.length:Int) != br (aU d))
    ·have h2:=ah.1 h2
     have h3:=ah.1 h3
     have h4:=ah.1 h4
     exact⟨rfl,h2,by omega,h4⟩
    ·rw[h4]at h;cases h
   ·rw[h3]at h;cases h
  ·rw[h2]at h;cases h
 ·rw[h1]at h;cases h
theorem Mm {d:yA}{s:yC}{b:Int}{x:yC}{y:yA}(h:fk (bb d s b,x,y)=false):bb d s b=0:=ah.1 h
theorem Lp {d:yA}{s:yC}{b:Int}{x:yC}{y:yA}(h:fk (bb d s b,x,y)=false):s.zL.length=s.cells.length:=(kz (QA (Mm h)).1).2.2.1
theorem gD {cs:List Cell}{ls:List Log}{ts:List Tip}{st zR out:Int}{d:yA}{id:Int}(h:(!(oD cs ls ts st zR out d id))=false):0<=id/\id<cs.length:=by
 have h:=nf h
 unfold oD at h
 by_cases h1:id>=0
 ·rw[dT h1,cT]at h
  have:=oT h
  omega
 ·rw[dF h1]at h;cases h
theorem si {s:yC}{ts:List Tip}{st zR out b:Int}{d d':yA}{id:Int}{x:yC}{y:yA}(h:(!(oD s.cells s.zL ts st zR out d id))=false)(h2:fk (bb d' s b,x,y)=false):0<=id/\id<s.cells.length/\id<s.zL.length:=by
 have h1:=gD h
 have h3:=Lp h2
 omega
theorem va {α:Type}{e:Int}(h:(e != 0)=true){a b:α}:(bif e != 0 then a else b)=a:=by rw[h];rfl
set_option maxRecDepth 20000
open Go.Proofs.Zn Go.Proofs.Mn
open Wn (dl bz)
def hB (d:yA)(s:yC)(b id n:Int):yC×Int:=bif (fk (bb d s b,s,d))then(yC.mk [] [] [] 0 0 0,(bb d s b))else bif (!(oD (s).cells (s).zL (s).zK (s).start (s).zR (s).out (d) id))then(yC.mk [] [] [] 0 0 0,3)else let y1:=uU ((s).cells.getD id.toNat Ty.cell.dflt) n;bif (y1.2 != 0)then(yC.mk [] [] [] 0 0 0,y1.2)else bif decide (n>w64 (1152921504606846976-(s).zR))then(yC.mk [] [] [] 0 0 0,4)else(yC.mk (ki (s).cells (s).zL (s).zK (s).start (w64 ((s).zR+n)) (s).out (d) b id y1.1).1 (ki (s).cells (s).zL (s).zK (s).start (w64 ((s).zR+n)) (s).out (d) b id y1.1).2 (s).zK (s).start (w64 ((s).zR+n)) (s).out,0)
theorem KW (d:yA)(s:yC)(b id n:Int)(hb:OkS s):Gc prog 281 [.agg (cq d),.agg (jb s),i64 b,i64 id,i64 n,.clo (.func 282) [] [],.clo (.func 283) [] []] [] 0 ((λ x:yC×Int=>(bif x.2 != 0 then⟨[.agg [kD,kD,kD,i64 0,i64 0,i64 0],i64 x.2],[],0⟩else⟨[wW x.1,i64 0],wX x.1,3⟩:yD)) (hB d s b id n)):=
 Gc.of_closed (C:=codes) (S:=sigs) mixed func281 (by kernel_rfl) (λ i T t ys hi _=>absurd hi (bL _)) λ A hA=>hA.go (Ik d s b id n) (by
  generalize h:hB d s b id n=r at hA ⊢
  unfold hB at h
  refine⟨(bb d s b,s,d),Bn _ _ _ hb,?_⟩
  refine aj h (λ g1 h=>?_) (λ g1 h=>?_)
  ·refine dl g1 ?_
   exact⟨tv,.of_eq (by rw[<-h];first|rfl|exact(va (by assumption)).symm)⟩
  ·refine⟨oD (bb d s b,s,d).2.1.cells (bb d s b,s,d).2.1.zL (bb d s b,s,d).2.1.zK (bb d s b,s,d).2.1.start (bb d s b,s,d).2.1.zR (bb d s b,s,d).2.1.out (bb d s b,s,d).2.2 id,Nz _ _ _ _ _ _ _ _,?_⟩
   refine aj h (λ g2 h=>?_) (λ g2 h=>?_)
   ·exact⟨tv,.of_eq (by rw[<-h];first|rfl|exact(va (by assumption)).symm)⟩
   ·refine⟨⟨(by have hw:=gD (by assumption);(try dsimp only at hw);(try dsimp only);omega),(by have hw:=gD (by assumption);(try dsimp only at hw);(try dsimp only);omega)⟩,(by have hw:=gD (by assumption);(try dsimp only at hw);(try dsimp only);omega),⟨q4,q2,tv⟩,_,Ta _ _,?_⟩
    refine aj h (λ g3 h=>?_) (λ g3 h=>?_)
    ·exact⟨tv,.of_eq (by rw[<-h];first|rfl|exact(va (by assumption)).symm)⟩
    ·try replace g3:=ah.1 g3
     refine⟨(),c283 _ _ _ _ _ _ _,?_⟩
     refine aj h (λ g4 h=>?_) (λ g4 h=>?_)
     ·have g4:=oT g4
      exact⟨tv,.of_eq (by rw[<-h];first|rfl|exact(va (by assumption)).symm)⟩
     ·have g4:=oF g4
      exact⟨ki (bb d s b,s,d).2.1.cells (bb d s b,s,d).2.1.zL (bb d s b,s,d).2.1.zK (bb d s b,s,d).2.1.start (w64 ((bb d s b,s,d).2.1.zR+n)) (bb d s b,s,d).2.1.out (bb d s b,s,d).2.2 b id (uU ((bb d s b,s,d).2.1.cells.getD id.toNat Ty.cell.dflt) n).1,Ny _ _ _ _ _ _ _ _ _ _ (si (by assumption) (by assumption)) hb.list',tv,.of_eq (by rw[<-h];first|rfl|exact(va (by assumption)).symm)⟩)
def gZ (d:yA)(s:yC)(b id n:Int):yC×Int:=bif (fk (bb d s b,s,d))then(yC.mk [] [] [] 0 0 0,(bb d s b))else bif (!(oD (s).cells (s).zL (s).zK (s).start (s).zR (s).out (d) id))then(yC.mk [] [] [] 0 0 0,3)else let y1:=uT ((s).cells.getD id.toNat Ty.cell.dflt) n;bif (y1.2 != 0)then(yC.mk [] [] [] 0 0 0,y1.2)else bif decide (n>w64 (1152921504606846976-(s).out))then(yC.mk [] [] [] 0 0 0,4)else(yC.mk (ki (s).cells (s).zL (s).zK (s).start (s).zR (w64 ((s).out+n)) (d) b id y1.1).1 (ki (s).cells (s).zL (s).zK (s).start (s).zR (w64 ((s).out+n)) (d) b id y1.1).2 (s).zK (s).start (s).zR (w64 ((s).out+n)),0)
theorem KV (d:yA)(s:yC)(b id n:Int)(hb:OkS s):Gc prog 281 [.agg (cq d),.agg (jb s),i64 b,i64 id,i64 n,.clo (.func 284) [] [],.clo (.func 285) [] []] [] 0 ((λ x:yC×Int=>(bif x.2 != 0 then⟨[.agg [kD,kD,kD,i64 0,i64 0,i64 0],i64 x.2],[],0⟩else⟨[wW x.1,i64 0],wX x.1,3⟩:yD)) (gZ d s b id n)):=
 Gc.of_closed (C:=codes) (S:=sigs) mixed func281 (by kernel_rfl) (λ i T t ys hi _=>absurd hi (bL _)) λ A hA=>hA.go (Ij d s b id n) (by
  generalize h:gZ d s b id n=r at hA ⊢
  unfold gZ at h
  refine⟨(bb d s b,s,d),Bn _ _ _ hb,?_⟩
  refine aj h (λ g1 h=>?_) (λ g1 h=>?_)
  ·refine dl g1 ?_
   exact⟨tv,.of_eq (by rw[<-h];first|rfl|exact(va (by assumption)).symm)⟩
  ·refine⟨oD (bb d s b,s,d).2.1.cells (bb d s b,s,d).2.1.zL (bb d s b,s,d).2.1.zK (bb d s b,s,d).2.1.start (bb d s b,s,d).2.1.zR (bb d s b,s,d).2.1.out (bb d s b,s,d).2.2 id,Nz _ _ _ _ _ _ _ _,?_⟩
   refine aj h (λ g2 h=>?_) (λ g2 h=>?_)
   ·exact⟨tv,.of_eq (by rw[<-h];first|rfl|exact(va (by assumption)).symm)⟩
   ·refine⟨⟨(by have hw:=gD (by assumption);(try dsimp only at hw);(try dsimp only);omega),(by have hw:=gD (by assumption);(try dsimp only at hw);(try dsimp only);omega)⟩,(by have hw:=gD (by assumption);(try dsimp only at hw);(try dsimp only);omega),⟨q4,q2,tv⟩,_,SZ _ _,?_⟩
    refine aj h (λ g3 h=>?_) (λ g3 h=>?_)
    ·exact⟨tv,.of_eq (by rw[<-h];first|rfl|exact(va (by assumption)).symm)⟩
    ·try replace g3:=ah.1 g3
     refine⟨(),c285 _ _ _ _ _ _ _,?_⟩
     refine aj h (λ g4 h=>?_) (λ g4 h=>?_)
     ·have g4:=oT g4
      exact⟨tv,.of_eq (by rw[<-h];first|rfl|exact(va (by assumption)).symm)⟩
     ·have g4:=oF g4
      exact⟨ki (bb d s b,s,d).2.1.cells (bb d s b,s,d).2.1.zL (bb d s b,s,d).2.1.zK (bb d s b,s,d).2.1.start (bb d s b,s,d).2.1.zR (w64 ((bb d s b,s,d).2.1.out+n)) (bb d s b,s,d).2.2 b id (uT ((bb d s b,s,d).2.1.cells.getD id.toNat Ty.cell.dflt) n).1,Ny _ _ _ _ _ _ _ _ _ _ (si (by assumption) (by assumption)) hb.list',tv,.of_eq (by rw[<-h];first|rfl|exact(va (by assumption)).symm)⟩)
def pS (d:yA)(s:yC)(b i n:Int):yC×Int:=let y1:=hB d s b i n;bif (lK y1)then(yC.mk [] [] [] 0 0 0,y1.2)else(y1.1,0)
theorem c237 (d:yA)(s:yC)(b i n:Int)(hb:OkS s):yJ prog 237 [⟨.zI,d⟩,⟨.zE,s⟩,⟨.int,b⟩,⟨.int,i⟩,⟨.int,n⟩] [.zE,.int] (pS d s b i n):=
 pcl codes sigs func237 (by kernel_rfl) λ A hA=>hA.go (t237 d s b i n) (by
  generalize h:pS d s b i n=r at hA ⊢
  unfold pS at h
  refine⟨hB d s b i n,KW _ _ _ _ _ hb,?_⟩
  refine aj h (λ g1 h=>?_) (λ g1 h=>?_)
  ·exact⟨⟨q7,tv,tv⟩,h⟩
  ·exact⟨⟨q7,tv,tv⟩,h⟩)
def pR (d:yA)(s:yC)(b i n:Int):yC×Int:=let y1:=gZ d s b i n;bif (lK y1)then(yC.mk [] [] [] 0 0 0,y1.2)else(y1.1,0)
theorem c238 (d:yA)(s:yC)(b i n:Int)(hb:OkS s):yJ prog 238 [⟨.zI,d⟩,⟨.zE,s⟩,⟨.int,b⟩,⟨.int,i⟩,⟨.int,n⟩] [.zE,.int] (pR d s b i n):=
 pcl codes sigs func238 (by kernel_rfl) λ A hA=>hA.go (t238 d s b i n) (by
  generalize h:pR d s b i n=r at hA ⊢
  unfold pR at h
  refine⟨gZ d s b i n,KV _ _ _ _ _ hb,?_⟩
  refine aj h (λ g1 h=>?_) (λ g1 h=>?_)
  ·exact⟨⟨q7,tv,tv⟩,h⟩
  ·exact⟨⟨q7,tv,tv⟩,h⟩)
def kE (cs:List Cell)(ls:List Log)(ts:List Tip)(st zR out b id:Int)(c:Cell):List Cell×List Log:=(cs.set id.toNat c,ls.set id.toNat (PU (ls.getD id.toNat Ty.zW.dflt) b (w64 (c.zS-(cs.getD id.toNat Ty.cell.dflt).zS))).1)
def iR (d:yA)(s:yC)(b:Int):Int:=bif (!(m94 d s))then 130 else bif decide (b<1)then 1 else bif decide (b>d.zO)then 1 else 0
theorem Ch {d:yA}{s:yC}{b:Int}(h:iR d s b=0):m94 d s=true/\1<=b/\b<=d.zO:=by
 unfold iR at h
 cases hm:m94 d s
 ·rw[hm]at h;cases h
 rw[hm]at h
 by_cases h1:b<1
 ·rw[dT h1]at h;cases h
 rw[dF h1]at h
 by_cases h2:b>d.zO
 ·rw[dT h2]at h;cases h
 exact⟨rfl,by omega,by omega⟩
theorem lV (cs:List Cell)(ls:List Log)(ts:List Tip)(st zR out:Int)(d:yA)(id:Int):Ay cs ls ts st zR out d id<ts.length:=by
 unfold Ay
 by_cases h1:id>=cs.length
 ·rw[dT h1,cT]
  by_cases h2:w64 (id-cs.length)<ts.length
  ·rw[dT h2,cT];exact h2
  ·rw[dF h2,cF];omega
 ·rw[dF h1,cF];omega
theorem EO (i:Int)(t:Tip):∀ (l:List Tip) (k:Nat),(jk i t l k).2=true->(k:Int)<=(jk i t l k).1/\(jk i t l k).1<(k:Int)+l.length
 | [],k,h=>by cases h
 | x :: l, k, h => by
   have ih:=EO i t l (k+1)
   unfold jk at h ⊢
   simp only[af]
   generalize (decide ((k:Int)<i))=c1 at h ⊢
   generalize (!(x.state==t.state&&(x.by'==t.by'&&true)))=c2 at h ⊢
   generalize (!gl x)=c3 at h ⊢
   cases c1
   ·cases c2
    ·cases c3
     ·simp only[cF];omega
     ·have:=ih h;simp only[cF,cT];omega
    ·have:=ih h;simp only[cF,cT];omega
   ·have:=ih h;simp only[cT];omega
theorem ot {l:List Tip}{b:Int}(h:(!(qM l b).2)=false):0<=(qM l b).1/\(qM l b).1<l.length:=by
 have h:=nf h
 have:=EO 0 ⟨2,b⟩ l 0 h
 unfold qM JF
 simp only at this ⊢
 omega
theorem xO (b:Int):∀ (l:List Tip) (k:Nat),eO b l k = -1\/((k:Int)<=eO b l k/\eO b l k<(k:Int)+l.length)
 | [],k=>.inl rfl
 | x :: l, k => by
   have ih:=xO b l (k+1)
   unfold eO
   simp only[af]
   cases (x.state==(2:Int))
   ·simp only[cF];omega
   ·cases (x.by'==b)
    ·simp only[cF,cT];omega
    ·simp only[cT];omega
theorem Ni (s:yC)(b:Int):eC s b<s.zK.length:=by
 have:=xO b s.zK 0
 unfold eC
 omega
theorem tr {o zU:List Int}{w:Int}(h:(kG o zU w).2=0):∀ x∈zU,0<=x/\x<o.length:=by
 have go:∀ (l:List Int) (k:Nat),(gW o l k).2=0->∀ x∈l,0<=x/\x<o.length:=by
  intro l
  induction l with
  | nil=>intro k _ x hx;simp at hx
  | cons y l ih =>
    intro k h
    unfold gW at h
    by_cases h1:y<0
    ·rw[dT h1]at h;cases h
    rw[dF h1,cF]at h
    by_cases h2:y>=o.length
    ·rw[dT h2]at h;cases h
    rw[dF h2,cF]at h
    intro x hx
    rcases aB.1 hx with rfl|hx
    ·omega
    ·exact ih _ h x hx
 unfold kG at h
 cases h1:xB o
 ·rw[h1]at h;cases h
 rw[h1]at h
 by_cases h2:w<1
 ·rw[dT h2]at h;cases h
 rw[dF h2]at h
 by_cases h3:w>8
 ·rw[dT h3]at h;cases h
 rw[dF h3]at h
 cases h4:Ct zU
 ·rw[h4]at h;cases h
 rw[h4]at h
 exact go zU 0 h
def mc (l:Log)(b n:Int):Log×Int:=bif !(gL l)then(⟨0,0,[]⟩,110)else bif !(mO b n)then(⟨0,0,[]⟩,1)else bif l.last==2147483647 then(⟨0,0,[]⟩,101)else
 (⟨l.room,l.last+1,(bif (l.list.length:Int)==l.room then l.list.drop 1 else l.list)++[⟨l.last+1,b,n⟩]⟩,0)
theorem DV (l:Log)(b n:Int):GT l b n=mc l b n:=by
 unfold GT mc
 cases hl:gL l
 ·rfl
 obtain⟨h1,h2,h3,h4,h5,h6,_⟩:=kp hl
 cases mO b n
 ·rfl
 cases h7:(l.last==2147483647)
 ·have h7:l.last≠2147483647:=by simpa using h7
  rw[an (n:=l.last+1) (by omega) (by omega)]
  have e:wm l=l.list.length:=rfl
  rw[e]
  cases h8:((l.list.length:Int)==l.room)
  ·simp only[ba,cF,wm,au,ju,bE]
  ·simp only[ba,cF,cT,wm,au,ju]
 ·rfl
theorem DW (l:Log)(b n:Int):PU l b n=mc l b n:=by
 unfold PU mc
 cases hl:gL l
 ·rfl
 obtain⟨h1,h2,h3,h4,h5,h6,_⟩:=kp hl
 cases mO b n
 ·rfl
 cases h7:(l.last==2147483647)
 ·have h7:l.last≠2147483647:=by simpa using h7
  rw[an (n:=l.last+1) (by omega) (by omega)]
  simp only[fS,al,af,ak,ba,cF]
  by_cases h8:(l.list.length:Int)=l.room
  ·have e1:((l.list.length:Int)==l.room)=true:=by simpa using h8
   rw[e1,cT,dT (by omega),cT]
   have hne:l.list≠[]:=λ e=>by rw[e]at h8;simp at h8;omega
   rw[cj (by simp)]
   obtain⟨x,xs,hx⟩:=List.exists_cons_of_ne_nil hne
   rw[hx];rfl
  ·have e1:((l.list.length:Int)==l.room)=false:=by simpa using h8
   rw[e1,cF,dF (by omega),cF]
 ·rfl
theorem GB {l:Log}{b n:Int}:(mc l b n).1.list.length<=1000000:=by
 unfold mc
 cases hl:gL l
 ·simp
 obtain⟨h1,h2,h3,h4,h5,h6,_⟩:=kp hl
 cases mO b n
 ·simp
 cases (l.last==2147483647)
 ·cases ((l.list.length:Int)==l.room)
  ·simp only[ba,cF,al,af,ak];omega
  ·simp only[ba,cF,cT,al,af,ak,aL];omega
 ·simp
theorem Iu {ls:List Log}{l:Log}{k:Nat}(h:∀ i:Nat,(List.getD ls i (Ty.dflt Ty.zW)).list.length<=1000000)(hl:l.list.length<=1000000):∀ i:Nat,(List.getD (ls.set k l) i (Ty.dflt Ty.zW)).list.length<=1000000:=λ i=>by
 have:=h i
 simp only[List.getD,aP]at this ⊢
 split
 ·split
  ·exact hl
  ·decide
 ·exact this
theorem IR {cs:List Cell}{ls:List Log}{ts:List Tip}{st zR out:Int}{d:yA}{b id:Int}{c:Cell}(h:∀ i:Nat,(List.getD ls i (Ty.dflt Ty.zW)).list.length<=1000000):∀ i:Nat,(List.getD (ki cs ls ts st zR out d b id c).2 i (Ty.dflt Ty.zW)).list.length<=1000000:=
 Iu h (by rw[DV];exact GB)
theorem My {s:yC}{ts:List Tip}{st zR out b:Int}{d d':yA}{id id' b':Int}{x:yC}{y:yA}{c:Cell}{ts':List Tip}{st' inn' out':Int}{dd:yA}(h:(!(oD s.cells s.zL ts st zR out d id))=false)(h2:fk (bb d' s b,x,y)=false) :
  0<=id/\id<(ki s.cells s.zL ts' st' inn' out' dd b' id' c).1.length/\id<(ki s.cells s.zL ts' st' inn' out' dd b' id' c).2.length:=by
 have:=si h h2
 simpa[ki]using this
set_option maxRecDepth 20000
open Go.Proofs.Zn Go.Proofs.Mn
open Wn (dl bz)
def jU (d:yA)(s:yC)(b i n:Int):yC×Int:=bif ((iR d s b) != 0)then(yC.mk [] [] [] 0 0 0,(iR d s b))else bif (!(mB s i))then(yC.mk [] [] [] 0 0 0,3)else let y1:=ph (s.cells.getD i.toNat Ty.cell.dflt) n;bif (y1.2 != 0)then(yC.mk [] [] [] 0 0 0,y1.2)else bif decide (n>w64 (1152921504606846976-s.zR))then(yC.mk [] [] [] 0 0 0,4)else let y2:=kE s.cells s.zL s.zK s.start s.zR s.out b i y1.1;(yC.mk y2.1 y2.2 s.zK s.start (w64 (s.zR+n)) s.out,0)
def jT (d:yA)(s:yC)(b i n:Int):yC×Int:=bif ((iR d s b) != 0)then(yC.mk [] [] [] 0 0 0,(iR d s b))else bif (!(mB s i))then(yC.mk [] [] [] 0 0 0,3)else let y1:=nF (s.cells.getD i.toNat Ty.cell.dflt) n;bif (y1.2 != 0)then(yC.mk [] [] [] 0 0 0,y1.2)else bif decide (n>w64 (1152921504606846976-s.out))then(yC.mk [] [] [] 0 0 0,4)else let y2:=kE s.cells s.zL s.zK s.start s.zR s.out b i y1.1;(yC.mk y2.1 y2.2 s.zK s.start s.zR (w64 (s.out+n)),0)
def lf (d:yA)(s:yC)(b i j n:Int):yC×Int:=bif ((iR d s b) != 0)then(yC.mk [] [] [] 0 0 0,(iR d s b))else bif (!(mB s i))then(yC.mk [] [] [] 0 0 0,3)else bif (!(mB s j))then(yC.mk [] [] [] 0 0 0,3)else bif (i==j)then(yC.mk [] [] [] 0 0 0,1)else let y1:=Cs (s.cells.getD i.toNat Ty.cell.dflt) (s.cells.getD j.toNat Ty.cell.dflt) n;bif (y1.2.2 != 0)then(yC.mk [] [] [] 0 0 0,y1.2.2)else let y2:=kE (kE s.cells s.zL s.zK s.start s.zR s.out b i y1.1).1 (kE s.cells s.zL s.zK s.start s.zR s.out b i y1.1).2 s.zK s.start s.zR s.out b j y1.2.1;(yC.mk y2.1 y2.2 s.zK s.start s.zR s.out,0)
def gK (d:yA)(s:yC)(b i:Int):yC×Int:=bif ((iR d s b) != 0)then(yC.mk [] [] [] 0 0 0,(iR d s b))else bif decide (i>=(s.cells.length:Int))then bif decide (i<w64 ((s.cells.length:Int)+(s.zK.length:Int)))then bif decide (w64 (i-(s.cells.length:Int))<0)then(yC.mk [] [] [] 0 0 0,3)else bif decide ((eC s b)>=0)then(yC.mk [] [] [] 0 0 0,131)else let y1:=GZ (s.zK.getD (w64 (i-(s.cells.length:Int))).toNat Ty.zV.dflt) b;bif (y1.2 != 0)then(yC.mk [] [] [] 0 0 0,y1.2)else(yC.mk s.cells s.zL (s.zK.set (w64 (i-(s.cells.length:Int))).toNat y1.1) s.start s.zR s.out,0)else(yC.mk [] [] [] 0 0 0,3)else(yC.mk [] [] [] 0 0 0,3)
def gJ (d:yA)(s:yC)(b:Int):yC×Int:=bif ((iR d s b) != 0)then(yC.mk [] [] [] 0 0 0,(iR d s b))else bif decide ((eC s b)<0)then(yC.mk [] [] [] 0 0 0,131)else(yC.mk s.cells s.zL (s.zK.set (eC s b).toNat (Tip.mk 3 0)) s.start s.zR s.out,0)
def pT (d:yA)(s:yC)(b i j n:Int):yC×Int:=bif (fk (bb d s b,s,d))then(yC.mk [] [] [] 0 0 0,(bb d s b))else bif (!(oD (s).cells (s).zL (s).zK (s).start (s).zR (s).out (d) i))then(yC.mk [] [] [] 0 0 0,3)else bif (!(oD (s).cells (s).zL (s).zK (s).start (s).zR (s).out (d) j))then(yC.mk [] [] [] 0 0 0,3)else bif (i==j)then(yC.mk [] [] [] 0 0 0,1)else let y1:=uV ((s).cells.getD i.toNat Ty.cell.dflt) ((s).cells.getD j.toNat Ty.cell.dflt) n;bif (y1.2.2 != 0)then(yC.mk [] [] [] 0 0 0,y1.2.2)else let y2:=ki (ki (s).cells (s).zL (s).zK (s).start (s).zR (s).out (d) b i y1.1).1 (ki (s).cells (s).zL (s).zK (s).start (s).zR (s).out (d) b i y1.1).2 (s).zK (s).start (s).zR (s).out (d) b j y1.2.1;(yC.mk y2.1 y2.2 (s).zK (s).start (s).zR (s).out,0)
theorem c236 (d:yA)(s:yC)(b i j n:Int)(hb:OkS s):yJ prog 236 [⟨.zI,d⟩,⟨.zE,s⟩,⟨.int,b⟩,⟨.int,i⟩,⟨.int,j⟩,⟨.int,n⟩] [.zE,.int] (pT d s b i j n):=
 pcl codes sigs func236 (by kernel_rfl) λ A hA=>hA.go (t236 d s b i j n) (by
  generalize h:pT d s b i j n=r at hA ⊢
  unfold pT at h
  refine⟨(bb d s b,s,d),Bn _ _ _ hb,?_⟩
  refine aj h (λ g1 h=>?_) (λ g1 h=>?_)
  ·refine dl g1 ?_
   exact⟨⟨q7,tv,tv⟩,h⟩
  ·refine⟨oD (bb d s b,s,d).2.1.cells (bb d s b,s,d).2.1.zL (bb d s b,s,d).2.1.zK (bb d s b,s,d).2.1.start (bb d s b,s,d).2.1.zR (bb d s b,s,d).2.1.out (bb d s b,s,d).2.2 i,Nz _ _ _ _ _ _ _ _,?_⟩
   refine aj h (λ g2 h=>?_) (λ g2 h=>?_)
   ·exact⟨⟨q7,tv,tv⟩,h⟩
   ·refine⟨oD (bb d s b,s,d).2.1.cells (bb d s b,s,d).2.1.zL (bb d s b,s,d).2.1.zK (bb d s b,s,d).2.1.start (bb d s b,s,d).2.1.zR (bb d s b,s,d).2.1.out (bb d s b,s,d).2.2 j,Nz _ _ _ _ _ _ _ _,?_⟩
    refine aj h (λ g3 h=>?_) (λ g3 h=>?_)
    ·exact⟨⟨q7,tv,tv⟩,h⟩
    ·refine aj h (λ g4 h=>?_) (λ g4 h=>?_)
     ·try replace g4:=bo g4
      exact⟨⟨q7,tv,tv⟩,h⟩
     ·refine⟨⟨(by have hw:=gD (id:=i) (cs:=s.cells) (by assumption);(try dsimp only at hw);(try dsimp only);omega),(by have hw:=gD (id:=i) (cs:=s.cells) (by assumption);(try dsimp only at hw);(try dsimp only);omega)⟩,(by have hw:=gD (id:=i) (cs:=s.cells) (by assumption);(try dsimp only at hw);(try dsimp only);omega),⟨(by have hw:=gD (id:=j) (cs:=s.cells) (by assumption);(try dsimp only at hw);(try dsimp only);omega),(by have hw:=gD (id:=j) (cs:=s.cells) (by assumption);(try dsimp only at hw);(try dsimp only);omega)⟩,(by have hw:=gD (id:=j) (cs:=s.cells) (by assumption);(try dsimp only at hw);(try dsimp only);omega),⟨q4,q4,q2,tv⟩,_,c279 _ _ _,?_⟩
      refine aj h (λ g5 h=>?_) (λ g5 h=>?_)
      ·exact⟨⟨q7,tv,tv⟩,h⟩
      ·try replace g5:=ah.1 g5
       exact⟨ki (bb d s b,s,d).2.1.cells (bb d s b,s,d).2.1.zL (bb d s b,s,d).2.1.zK (bb d s b,s,d).2.1.start (bb d s b,s,d).2.1.zR (bb d s b,s,d).2.1.out (bb d s b,s,d).2.2 b i (uV ((bb d s b,s,d).2.1.cells.getD i.toNat Ty.cell.dflt) ((bb d s b,s,d).2.1.cells.getD j.toNat Ty.cell.dflt) n).1,Ny _ _ _ _ _ _ _ _ _ _ (si (by assumption) (by assumption)) hb.list',ki (ki (bb d s b,s,d).2.1.cells (bb d s b,s,d).2.1.zL (bb d s b,s,d).2.1.zK (bb d s b,s,d).2.1.start (bb d s b,s,d).2.1.zR (bb d s b,s,d).2.1.out (bb d s b,s,d).2.2 b i (uV ((bb d s b,s,d).2.1.cells.getD i.toNat Ty.cell.dflt) ((bb d s b,s,d).2.1.cells.getD j.toNat Ty.cell.dflt) n).1).1 (ki (bb d s b,s,d).2.1.cells (bb d s b,s,d).2.1.zL (bb d s b,s,d).2.1.zK (bb d s b,s,d).2.1.start (bb d s b,s,d).2.1.zR (bb d s b,s,d).2.1.out (bb d s b,s,d).2.2 b i (uV ((bb d s b,s,d).2.1.cells.getD i.toNat Ty.cell.dflt) ((bb d s b,s,d).2.1.cells.getD j.toNat Ty.cell.dflt) n).1).2 (bb d s b,s,d).2.1.zK (bb d s b,s,d).2.1.start (bb d s b,s,d).2.1.zR (bb d s b,s,d).2.1.out (bb d s b,s,d).2.2 b j (uV ((bb d s b,s,d).2.1.cells.getD i.toNat Ty.cell.dflt) ((bb d s b,s,d).2.1.cells.getD j.toNat Ty.cell.dflt) n).2.1,Ny _ _ _ _ _ _ _ _ _ _ (My (by assumption) (by assumption)) (IR hb.list'),⟨q7,tv,tv⟩,h⟩)
def AA (d:yA)(s:yC)(b i:Int):yC×Int:=bif (fk (bb d s b,s,d))then(yC.mk [] [] [] 0 0 0,(bb d s b))else let y1:=Ay (s).cells (s).zL (s).zK (s).start (s).zR (s).out (d) i;bif decide (y1<0)then(yC.mk [] [] [] 0 0 0,3)else bif (qM (s).zK b).2 then(yC.mk [] [] [] 0 0 0,131)else let y2:=GY ((s).zK.getD y1.toNat Ty.zV.dflt) b;bif (y2.2 != 0)then(yC.mk [] [] [] 0 0 0,y2.2)else(yC.mk (s).cells (s).zL ((s).zK.set y1.toNat y2.1) (s).start (s).zR (s).out,0)
theorem c232 (d:yA)(s:yC)(b i:Int)(hb:OkS s):yJ prog 232 [⟨.zI,d⟩,⟨.zE,s⟩,⟨.int,b⟩,⟨.int,i⟩] [.zE,.int] (AA d s b i):=
 pcl codes sigs func232 (by kernel_rfl) λ A hA=>hA.go (t232 d s b i) (by
  generalize h:AA d s b i=r at hA ⊢
  unfold AA at h
  refine⟨(bb d s b,s,d),Bn _ _ _ hb,?_⟩
  refine aj h (λ g1 h=>?_) (λ g1 h=>?_)
  ·refine dl g1 ?_
   exact⟨⟨q7,tv,tv⟩,h⟩
  ·refine⟨Ay (bb d s b,s,d).2.1.cells (bb d s b,s,d).2.1.zL (bb d s b,s,d).2.1.zK (bb d s b,s,d).2.1.start (bb d s b,s,d).2.1.zR (bb d s b,s,d).2.1.out (bb d s b,s,d).2.2 i,c275 _ _ _ _ _ _ _ _ (by have h4:=hb.zK;have h5:=hb.cells;exact⟨h5,h4⟩),?_⟩
   refine aj h (λ g2 h=>?_) (λ g2 h=>?_)
   ·have g2:=oT g2
    exact⟨⟨q7,tv,tv⟩,h⟩
   ·have g2:=oF g2
    refine⟨⟨q2,q2,tv⟩,_,Qt _ _ hb.zK,?_⟩
    refine aj h (λ g3 h=>?_) (λ g3 h=>?_)
    ·exact⟨⟨q7,tv,tv⟩,h⟩
    ·refine⟨⟨(by have hw:=lV (bb d s b,s,d).2.1.cells (bb d s b,s,d).2.1.zL (bb d s b,s,d).2.1.zK (bb d s b,s,d).2.1.start (bb d s b,s,d).2.1.zR (bb d s b,s,d).2.1.out (bb d s b,s,d).2.2 i;omega),(by have hw:=lV (bb d s b,s,d).2.1.cells (bb d s b,s,d).2.1.zL (bb d s b,s,d).2.1.zK (bb d s b,s,d).2.1.start (bb d s b,s,d).2.1.zR (bb d s b,s,d).2.1.out (bb d s b,s,d).2.2 i;omega)⟩,(by have hw:=lV (bb d s b,s,d).2.1.cells (bb d s b,s,d).2.1.zL (bb d s b,s,d).2.1.zK (bb d s b,s,d).2.1.start (bb d s b,s,d).2.1.zR (bb d s b,s,d).2.1.out (bb d s b,s,d).2.2 i;omega),⟨q3,q2,tv⟩,_,c276 _ _,?_⟩
     refine aj h (λ g4 h=>?_) (λ g4 h=>?_)
     ·exact⟨⟨q7,tv,tv⟩,h⟩
     ·try replace g4:=ah.1 g4
      exact⟨⟨(by have hw:=lV (bb d s b,s,d).2.1.cells (bb d s b,s,d).2.1.zL (bb d s b,s,d).2.1.zK (bb d s b,s,d).2.1.start (bb d s b,s,d).2.1.zR (bb d s b,s,d).2.1.out (bb d s b,s,d).2.2 i;omega),(by have hw:=lV (bb d s b,s,d).2.1.cells (bb d s b,s,d).2.1.zL (bb d s b,s,d).2.1.zK (bb d s b,s,d).2.1.start (bb d s b,s,d).2.1.zR (bb d s b,s,d).2.1.out (bb d s b,s,d).2.2 i;omega)⟩,⟨(by have hw:=lV (bb d s b,s,d).2.1.cells (bb d s b,s,d).2.1.zL (bb d s b,s,d).2.1.zK (bb d s b,s,d).2.1.start (bb d s b,s,d).2.1.zR (bb d s b,s,d).2.1.out (bb d s b,s,d).2.2 i;omega),tv,tv,tv⟩,⟨q7,tv,tv⟩,h⟩)
def Az (d:yA)(s:yC)(b:Int):yC×Int:=bif (fk (bb d s b,s,d))then(yC.mk [] [] [] 0 0 0,(bb d s b))else let y1:=qM (s).zK b;bif (!y1.2)then(yC.mk [] [] [] 0 0 0,131)else(yC.mk (s).cells (s).zL ((s).zK.set y1.1.toNat (GX ((s).zK.getD y1.1.toNat Ty.zV.dflt) b).1) (s).start (s).zR (s).out,0)
theorem c234 (d:yA)(s:yC)(b:Int)(hb:OkS s):yJ prog 234 [⟨.zI,d⟩,⟨.zE,s⟩,⟨.int,b⟩] [.zE,.int] (Az d s b):=
 pcl codes sigs func234 (by kernel_rfl) λ A hA=>hA.go (t234 d s b) (by
  generalize h:Az d s b=r at hA ⊢
  unfold Az at h
  refine⟨(bb d s b,s,d),Bn _ _ _ hb,?_⟩
  refine aj h (λ g1 h=>?_) (λ g1 h=>?_)
  ·refine dl g1 ?_
   exact⟨⟨q7,tv,tv⟩,h⟩
  ·refine⟨⟨q2,q2,tv⟩,_,Qt _ _ hb.zK,?_⟩
   refine aj h (λ g2 h=>?_) (λ g2 h=>?_)
   ·exact⟨⟨q7,tv,tv⟩,h⟩
   ·exact⟨⟨(by have hw:=ot (l:=(bb d s b,s,d).2.1.zK) (b:=b) (by assumption);omega),(by have hw:=ot (l:=(bb d s b,s,d).2.1.zK) (b:=b) (by assumption);omega)⟩,(by have hw:=ot (l:=(bb d s b,s,d).2.1.zK) (b:=b) (by assumption);omega),⟨q3,q2,tv⟩,_,c277 _ _,⟨(by have hw:=ot (l:=(bb d s b,s,d).2.1.zK) (b:=b) (by assumption);omega),(by have hw:=ot (l:=(bb d s b,s,d).2.1.zK) (b:=b) (by assumption);omega)⟩,⟨(by have hw:=ot (l:=(bb d s b,s,d).2.1.zK) (b:=b) (by assumption);omega),tv,tv,tv⟩,⟨q7,tv,tv⟩,h⟩)
def gu (o zU:List Int)(w:Int):List Int->Nat->(List Int×Int×Int)
 | [],ix=>((iD o zU w),0,0)
 | z::zs,ix=>bif (o.getD (z).toNat Ty.int.dflt != 0)then bif (o.getD (z).toNat Ty.int.dflt != w)then([],z,140)else gu o zU w zs (ix+1)else gu o zU w zs (ix+1)
def kH (o zU:List Int)(w:Int):List Int×Int×Int:=let y1:=kG o zU w;bif (y1.2 != 0)then([],y1.1,y1.2)else gu o zU w zU 0
def fY (o zU:List Int)(w:Int):List Int->Nat->(List Int×Int×Int)
 | [],ix=>((iD o zU 0),0,0)
 | z::zs,ix=>bif (o.getD (z).toNat Ty.int.dflt != w)then([],z,141)else fY o zU w zs (ix+1)
def jm (o zU:List Int)(w:Int):List Int×Int×Int:=let y1:=kG o zU w;bif (y1.2 != 0)then([],y1.1,y1.2)else fY o zU w zU 0
structure OkR (r:yT):Prop where
 v0:0<=r.zS
 v1:r.zS<18446744073709551616
 zU:r.zU.length<=1000
theorem AVle.agg {H:Heap}{cs ds:List AV}(hl:cs.length=ds.length)(h:∀ (i:Nat) x y,cs[i]?=some x->ds[i]?=some y->AVle H x y):AVle H (.agg cs) (.agg ds):=λ w K m v hG hr=>by
 cases hr with
 | agg _ vs hv hp =>
   refine .agg _ vs (hv.trans hl) λ i y u hy hu=>?_
   have hlt:i<cs.length:=by
    rw[hl]
    rcases ax i ds.length with h1|h1
    ·exact h1
    ·rw[aw h1]at hy;cases hy
   have hx:cs[i]?=some cs[i]:=ai hlt
   exact h i _ y hx hy w K m u hG (hp i _ u hx hu)
theorem dX (a b c d:AV)(H:Heap)(n:Nat):yD.Le ⟨[.agg [a,b,c,d,.d (.v (.slice none 0 0))]],H,n⟩ ⟨[.agg [a,b,c,d,.d (.sl .change [])]],H,n⟩:=
 ⟨rfl,(λ i x y hx hy=>by
  match i,hx,hy with
  | 0, hx, hy =>
    cases hx;cases hy
    refine AVle.agg rfl λ j x y hx hy=>?_
    match j,hx,hy with
    | 0,hx,hy=>cases hx;cases hy;exact .refl _ _
    | 1,hx,hy=>cases hx;cases hy;exact .refl _ _
    | 2,hx,hy=>cases hx;cases hy;exact .refl _ _
    | 3,hx,hy=>cases hx;cases hy;exact .refl _ _
    | 4,hx,hy=>cases hx;cases hy;exact .nil _ _ _
    | j+5,hx,hy=>cases hx
  | i+1,hx,hy=>cases hx),λ l b hb=>⟨b,hb,.refl _ b⟩,aI _⟩
theorem oP {cs:List AV}{H0:Heap}:∀ (i:Nat) (T:TypeId) (t:Ty) (xs:List t.ty),i<1->Heap.get [(0,.box cs)] i=some (.row T t xs)->∃ ys,H0.get i=some (.row T t ys)/\ys.length=xs.length:=λ i T t xs hi h=>by
 obtain rfl:i=0:=by omega
 cases h
theorem zm (to:Int):∀ (l:List Int) (k:Nat) (acc:List Int),(fL to l k acc).1.length=acc.length
 | [],k,acc=>rfl
 | x :: l, k, acc => by
   unfold fL
   rw[zm to l (k+1)]
   simp
theorem zn (to:Int):∀ (l:List Int) (k:Nat) (acc:List Int),(fK to l k acc).1.length=acc.length
 | [],k,acc=>rfl
 | x :: l, k, acc => by
   unfold fK
   rw[zn to l (k+1)]
   simp
theorem hP {c:Bool}{a b:List Int×Int×Int}{n:Nat}(h1:a.1.length<=n)(h2:b.1.length<=n):(bif c then a else b).1.length<=n:=by
 cases c
 ·exact h2
 ·exact h1
theorem Ie {o zU:List Int}{w:Int}:(pU o zU w).1.length<=o.length:=by
 unfold pU
 refine hP (bK _) ?_
 show(fG o zU w w 140 w).1.length<=_
 unfold fG
 exact hP (bK _) (hP (bK _) (hP (bK _) (hP (bK _) (hP (bK _) (Nat.le_of_eq (zm _ _ _ _))))))
theorem Kp {o zU:List Int}{w:Int}:(pi o zU w).1.length<=o.length:=by
 unfold pi
 refine hP (bK _) ?_
 show(fF o zU w 0 141 w).1.length<=_
 unfold fF
 exact hP (bK _) (hP (bK _) (hP (bK _) (hP (bK _) (hP (bK _) (Nat.le_of_eq (zn _ _ _ _))))))
theorem Dp {m:yE}(hb:OkM m){zU:List Int}{w:Int}:(pU m.zD zU w).1.length<=1000000:=bj Ie hb.zD
theorem EL {m:yE}(hb:OkM m){zU:List Int}{w:Int}:(pi m.zD zU w).1.length<=1000000:=bj Kp hb.zD
theorem Hu {a b:List Int}:(cP a b).length<=a.length+b.length:=jo
theorem Iv {l:List Int}:(cV l).length<=l.length:=by
 have:=Hu (a:=[]) (b:=l)
 simp only[ak]at this
 show(cP [] l).length<=_
 omega
theorem Jh (w:Int):∀ (l:List Int) (k:Nat) (acc:List Int),(lO w l k acc).length<=acc.length+l.length
 | [],k,acc=>mo _ _
 | x :: l, k, acc => by
   unfold lO
   cases (x==w)
   ·have:=Jh w l (k+1) acc
    simp only[cF,af];omega
   ·have:=Jh w l (k+1) (acc++[(k:Int)])
    simp only[cT,af,al,ak]at this ⊢;omega
theorem DL {o:List Int}{w:Int}:(Cr o w).length<=o.length:=by
 have:=Jh w o 0 []
 unfold Cr
 simpa using this
set_option maxRecDepth 20000
open Go.Proofs.Zn Go.Proofs.Mn
open Wn (dl bz)
def oE (m:yE)(zT:Int)(q:yT):List Int:=(Cr m.zD zT)
theorem Qr (m:yE)(zT:Int)(q:yT)(hb:m.zD.length<=1000000):Gc prog 228 [.ptr 0 0] [(0,.box (ed m zT q))] 1 ((λ x:List Int=>(⟨[.d (.sl .int x)],[(0,.box (ed m zT q))],1⟩:yD)) (oE m zT q)):=
 Gc.of_closed (C:=codes) (S:=sigs) mixed func228 (by kernel_rfl) (λ i T t ys hi h=>⟨ys,h,rfl⟩) λ A hA=>hA.go (t228 m zT q) (by
  generalize h:oE m zT q=r at hA ⊢
  unfold oE at h
  exact⟨⟨q2,q2,tv⟩,_,c270 _ _ (by first|exact hb|exact hb.zD),tv,.of_eq (by rw[<-h];try rfl)⟩)
def nG (m:yE)(zT:Int)(q:yT):Cell:=(m.zE.cells.getD q.a.toNat Ty.cell.dflt)
theorem HC (m:yE)(zT:Int)(q:yT)(hi:0<=q.a/\q.a<m.zE.cells.length):Gc prog 174 [.ptr 0 0] [(0,.box (ed m zT q))] 1 ((λ x:Cell=>(⟨[.agg (Fa x)],[(0,.box (ed m zT q))],1⟩:yD)) (nG m zT q)):=
 Gc.of_closed (C:=codes) (S:=sigs) mixed func174 (by kernel_rfl) (λ i T t ys hi h=>⟨ys,h,rfl⟩) λ A hA=>hA.go (t174 m zT q) (by
  generalize h:nG m zT q=r at hA ⊢
  unfold nG at h
  exact⟨⟨⟨(by omega),(by omega)⟩,tv⟩,tv,.of_eq (by rw[<-h];try rfl)⟩)
def xC (m:yE)(zT:Int)(q:yT)(o:List Int)(at' e:Int):yE×yH:=bif (e != 0)then(m,(m98 e at'))else(yE.mk m.zI m.zE o,yH.mk 0 0 (↑(oE (yE.mk m.zI m.zE o) zT q).length:Int) 0 [])
theorem Tg (m:yE)(zT:Int)(q:yT)(o:List Int)(at' e:Int)(ho:o.length<=1000000):Gc prog 230 [.ptr 0 0,.d (.sl .int o),i64 at',i64 e] [(0,.box (ed m zT q))] 1 ((λ x:yE×yH=>(⟨[.agg (gm x.2)],[(0,.box (ed x.1 zT q))],1⟩:yD)) (xC m zT q o at' e)):=
 Gc.of_closed (C:=codes) (S:=sigs) mixed func230 (by kernel_rfl) oP λ A hA=>hA.go (t230 m zT q o at' e) (by
  generalize h:xC m zT q o at' e=r at hA ⊢
  unfold xC at h
  refine aj h (λ g1 h=>?_) (λ g1 h=>?_)
  ·exact⟨⟨q2,q2,tv⟩,_,c98 _ _,tv,(by rw[<-h];first|exact .of_eq rfl|exact dX _ _ _ _ _ _)⟩
  ·try replace g1:=ah.1 g1
   exact⟨oE (yE.mk m.zI m.zE o) zT q,Qr _ _ _ (by first|exact ho|exact hb.zD),tv,(by rw[<-h];first|exact .of_eq rfl|exact dX _ _ _ _ _ _)⟩)
def iQ (m:yE)(zT:Int)(q:yT)(s:yC)(e xe xi xn xv:Int):yE×yH:=bif (e != 0)then let y1:=m98 e 0;(m,y1)else(yE.mk m.zI s m.zD,yH.mk xe xi xn xv [])
theorem La (m:yE)(zT:Int)(q:yT)(s:yC)(e xe xi xn xv:Int) :Gc prog 233 [.ptr 0 0,.agg (jb s),i64 e,.agg [i64 xe,i64 xi,i64 xn,i64 xv,.d (.v (.slice none 0 0))]] [(0,.box (ed m zT q))] 1 ((λ x:yE×yH=>(⟨[.agg (gm x.2)],[(0,.box (ed x.1 zT q))],1⟩:yD)) (iQ m zT q s e xe xi xn xv)):=
 Gc.of_closed (C:=codes) (S:=sigs) mixed func233 (by kernel_rfl) oP λ A hA=>hA.go (t233 m zT q s e xe xi xn xv) (by
  generalize h:iQ m zT q s e xe xi xn xv=r at hA ⊢
  unfold iQ at h
  refine aj h (λ g1 h=>?_) (λ g1 h=>?_)
  ·exact⟨⟨q2,q2,tv⟩,_,c98 _ _,tv,(by rw[<-h];first|exact .of_eq rfl|exact dX _ _ _ _ _ _)⟩
  ·try replace g1:=ah.1 g1
   exact⟨tv,(by rw[<-h];first|exact .of_eq rfl|exact dX _ _ _ _ _ _)⟩)
def Cw (m:yE)(zT:Int)(q:yT):yE×yH:=bif decide ((↑(cX true true true (oE m zT q) (cV q.zU)).length:Int)>40)then let y1:=m98 160 0;(m,y1)else let y2:=xC m zT q (pU m.zD (cV q.zU) zT).1 (pU m.zD (cV q.zU) zT).2.1 (pU m.zD (cV q.zU) zT).2.2;(y2.1,y2.2)
theorem c168 (m:yE)(zT:Int)(q:yT)(hb:OkM m)(hr:OkR q):Gc prog 168 [.ptr 0 0] [(0,.box (ed m zT q))] 1 ((λ x:yE×yH=>(⟨[.agg (gm x.2)],[(0,.box (ed x.1 zT q))],1⟩:yD)) (Cw m zT q)):=
 Gc.of_closed (C:=codes) (S:=sigs) mixed func168 (by kernel_rfl) oP λ A hA=>hA.go (t168 m zT q) (by
  generalize h:Cw m zT q=r at hA ⊢
  unfold Cw at h
  refine⟨⟨q2,tv⟩,_,Zn.CX (by have:=hr.zU;omega),oE m zT q,Qr _ _ _ (by first|exact ho|exact hb.zD),⟨q2,q2,tv⟩,_,Zn.ym (by have:(oE m zT q).length<=m.zD.length:=DL;have:=hb.own;omega) (by have:=@Iv q.zU;have:=hr.zU;omega),?_⟩
  refine aj h (λ g1 h=>?_) (λ g1 h=>?_)
  ·have g1:=oT g1
   exact⟨⟨q2,q2,tv⟩,_,c98 _ _,tv,(by rw[<-h];first|exact .of_eq rfl|exact dX _ _ _ _ _ _)⟩
  ·have g1:=oF g1
   exact⟨⟨q2,q2,q2,tv⟩,_,c229 _ _ _ (by have:=@Iv q.zU;have:=hr.zU;omega) hb.zD,xC m zT q (pU m.zD (cV q.zU) zT).1 (pU m.zD (cV q.zU) zT).2.1 (pU m.zD (cV q.zU) zT).2.2,Tg _ _ _ _ _ _ (by first|with_reducible exact Dp hb|with_reducible exact EL hb),tv,(by rw[<-h];first|exact .of_eq rfl|exact dX _ _ _ _ _ _)⟩)
def Cv (m:yE)(zT:Int)(q:yT):yE×yH:=let y1:=xC m zT q (pi m.zD (cV q.zU) zT).1 (pi m.zD (cV q.zU) zT).2.1 (pi m.zD (cV q.zU) zT).2.2;(y1.1,y1.2)
theorem c169 (m:yE)(zT:Int)(q:yT)(hb:OkM m)(hr:OkR q):Gc prog 169 [.ptr 0 0] [(0,.box (ed m zT q))] 1 ((λ x:yE×yH=>(⟨[.agg (gm x.2)],[(0,.box (ed x.1 zT q))],1⟩:yD)) (Cv m zT q)):=
 Gc.of_closed (C:=codes) (S:=sigs) mixed func169 (by kernel_rfl) oP λ A hA=>hA.go (t169 m zT q) (by
  generalize h:Cv m zT q=r at hA ⊢
  unfold Cv at h
  exact⟨⟨q2,tv⟩,_,Zn.CX (by have:=hr.zU;omega),⟨q2,q2,q2,tv⟩,_,Tf _ _ _ (by first|(have:=@Iv q.zU;have:=hr.zU;omega)|(have:(oE m zT q).length<=m.zD.length:=DL;have:=hb.zD;omega)) hb.zD,xC m zT q (pi m.zD (cV q.zU) zT).1 (pi m.zD (cV q.zU) zT).2.1 (pi m.zD (cV q.zU) zT).2.2,Tg _ _ _ _ _ _ (by first|with_reducible exact Dp hb|with_reducible exact EL hb),tv,(by rw[<-h];first|exact .of_eq rfl|exact dX _ _ _ _ _ _)⟩)
def Hd (m:yE)(zT:Int)(q:yT):yE×yH:=(yE.mk m.zI m.zE (pi m.zD (oE m zT q) zT).1,yH.mk 0 0 (↑(oE m zT q).length:Int) 0 [])
theorem c170 (m:yE)(zT:Int)(q:yT)(hb:OkM m)(hr:OkR q):Gc prog 170 [.ptr 0 0] [(0,.box (ed m zT q))] 1 ((λ x:yE×yH=>(⟨[.agg (gm x.2)],[(0,.box (ed x.1 zT q))],1⟩:yD)) (Hd m zT q)):=
 Gc.of_closed (C:=codes) (S:=sigs) mixed func170 (by kernel_rfl) oP λ A hA=>hA.go (t170 m zT q) (by
  generalize h:Hd m zT q=r at hA ⊢
  unfold Hd at h
  exact⟨oE m zT q,Qr _ _ _ (by first|exact ho|exact hb.zD),⟨q2,q2,q2,tv⟩,_,Tf _ _ _ (by first|(have:=@Iv q.zU;have:=hr.zU;omega)|(have:(oE m zT q).length<=m.zD.length:=DL;have:=hb.zD;omega)) hb.zD,tv,(by rw[<-h];first|exact .of_eq rfl|exact dX _ _ _ _ _ _)⟩)
def Hc (m:yE)(zT:Int)(q:yT):yE×yH:=let y1:=AA m.zI m.zE zT q.a;let y2:=iQ m zT q y1.1 y1.2 0 q.a 0 0;(y2.1,y2.2)
theorem c171 (m:yE)(zT:Int)(q:yT)(hb:OkM m)(hr:OkR q):Gc prog 171 [.ptr 0 0] [(0,.box (ed m zT q))] 1 ((λ x:yE×yH=>(⟨[.agg (gm x.2)],[(0,.box (ed x.1 zT q))],1⟩:yD)) (Hc m zT q)):=
 Gc.of_closed (C:=codes) (S:=sigs) mixed func171 (by kernel_rfl) oP λ A hA=>hA.go (t171 m zT q) (by
  generalize h:Hc m zT q=r at hA ⊢
  unfold Hc at h
  exact⟨⟨q5,q7,q2,q2,tv⟩,_,c232 _ _ _ _ hb.toS,iQ m zT q (AA m.zI m.zE zT q.a).1 (AA m.zI m.zE zT q.a).2 0 q.a 0 0,La _ _ _ _ _ _ _ _ _,tv,(by rw[<-h];first|exact .of_eq rfl|exact dX _ _ _ _ _ _)⟩)
def Hb (m:yE)(zT:Int)(q:yT):yE×yH:=let y1:=Az m.zI m.zE zT;let y2:=iQ m zT q y1.1 y1.2 0 (m95 m.zI m.zE zT).1 0 0;(y2.1,y2.2)
theorem c172 (m:yE)(zT:Int)(q:yT)(hb:OkM m)(hr:OkR q):Gc prog 172 [.ptr 0 0] [(0,.box (ed m zT q))] 1 ((λ x:yE×yH=>(⟨[.agg (gm x.2)],[(0,.box (ed x.1 zT q))],1⟩:yD)) (Hb m zT q)):=
 Gc.of_closed (C:=codes) (S:=sigs) mixed func172 (by kernel_rfl) oP λ A hA=>hA.go (t172 m zT q) (by
  generalize h:Hb m zT q=r at hA ⊢
  unfold Hb at h
  exact⟨⟨q5,q7,q2,tv⟩,_,c95 _ _ _ hb.toS,⟨q5,q7,q2,tv⟩,_,c234 _ _ _ hb.toS,iQ m zT q (Az m.zI m.zE zT).1 (Az m.zI m.zE zT).2 0 (m95 m.zI m.zE zT).1 0 0,La _ _ _ _ _ _ _ _ _,tv,(by rw[<-h];first|exact .of_eq rfl|exact dX _ _ _ _ _ _)⟩)
def Ha (m:yE)(zT:Int)(q:yT):yE×yH:=bif ((tL (m.zE.zL.getD q.a.toNat Ty.zW.dflt) q.ver).2 != 0)then let y1:=m98 (tL (m.zE.zL.getD q.a.toNat Ty.zW.dflt) q.ver).2 0;(m,y1)else(m,yH.mk 0 0 0 (nG m zT q).ver (tL (m.zE.zL.getD q.a.toNat Ty.zW.dflt) q.ver).1)
theorem c173 (m:yE)(zT:Int)(q:yT)(hb:OkM m)(hr:OkR q)(hi:0<=q.a/\q.a<m.zE.cells.length)(hj:0<=q.a/\q.a<m.zE.zL.length):Gc prog 173 [.ptr 0 0] [(0,.box (ed m zT q))] 1 ((λ x:yE×yH=>(⟨[.agg (gm x.2)],[(0,.box (ed x.1 zT q))],1⟩:yD)) (Ha m zT q)):=
 Gc.of_closed (C:=codes) (S:=sigs) mixed func173 (by kernel_rfl) oP λ A hA=>hA.go (t173 m zT q) (by
  generalize h:Ha m zT q=r at hA ⊢
  unfold Ha at h
  refine⟨⟨⟨(by omega),(by omega)⟩,tv⟩,⟨q4,q2,tv⟩,_,c235 _ _ (hb.list' _),?_⟩
  refine aj h (λ g1 h=>?_) (λ g1 h=>?_)
  ·exact⟨⟨q2,q2,tv⟩,_,c98 _ _,tv,(by rw[<-h];first|exact .of_eq rfl|exact dX _ _ _ _ _ _)⟩
  ·try replace g1:=ah.1 g1
   exact⟨nG m zT q,HC _ _ _ (by first|assumption|exact(hi (by omega)).1),tv,(by rw[<-h];first|exact .of_eq rfl|exact dX _ _ _ _ _ _)⟩)
theorem fM {c:Cell}(h:dm c=true):1<=c.cap/\c.cap<=1099511627776/\0<=c.zS/\c.zS<=c.cap/\0<=c.ver/\c.ver<=2147483647:=by
 unfold dm at h
 by_cases h1:c.cap>=1
 ·rw[dT h1,cT]at h
  by_cases h2:c.cap<=1099511627776
  ·rw[dT h2,cT]at h
   by_cases h3:c.zS>=0
   ·rw[dT h3,cT]at h
    by_cases h4:c.zS<=c.cap
    ·rw[dT h4,cT]at h
     by_cases h5:c.ver>=0
     ·rw[dT h5,cT]at h
      have:=oT h
      omega
     ·rw[dF h5]at h;cases h
    ·rw[dF h4]at h;cases h
   ·rw[dF h3]at h;cases h
  ·rw[dF h2]at h;cases h
 ·rw[dF h1]at h;cases h
theorem KQ (c:Cell)(n:Int):Cn c n=pf c n:=by
 unfold Cn pf
 cases h:dm c
 ·rfl
 ·have e:GR c=w64 (c.cap-c.zS):=by unfold GR;rw[h];rfl
  rw[e]
  cases (n==0)<;>rfl
theorem DD {c:Cell}{n:Int}(hn:cD n):uU c n=ph c n:=by
 have e:uU c n=xy c n 1:=rfl
 have e1:w64 (1*n)=n:=by rw[Int.one_mul];exact an hn.1 hn.2
 rw[e]
 unfold xy ph
 rw[e1,KQ]
theorem ES {c:Cell}{n:Int}:uT c n=nF c n:=by
 have e:uT c n=xy c n (-1):=rfl
 rw[e]
 unfold xy nF
 rw[KQ,show(-1:Int)*n=0-n by omega]
 cases h:dm c
 ·rw[cF,cF]
  have e2:∀ k,pf c k=(⟨0,0,0⟩,100):=λ k=>by unfold pf;rw[h];rfl
  rw[e2]
  cases decide (n<1)<;>rfl
 ·cases decide (n<1)<;>rfl
theorem Jp {a b:Cell}{n:Int}(hn:cD n):uV a b n=Cs a b n:=by
 unfold uV Cs
 rw[DD hn,ES]
theorem LW (t:Tip)(b:Int):GY t b=GZ t b:=by
 have e:GY t b=xz t b ⟨1,0⟩ ⟨2,b⟩ 121:=rfl
 rw[e]
 unfold xz Co GZ
 cases h:gl t
 ·rfl
 cases pp b
 ·rfl
 cases h1:(t.state==1)
 ·have:(t.state != 1)=true:=by unfold bne;rw[h1];rfl
  rw[this];rfl
 ·have e1:(t.state != 1)=false:=by unfold bne;rw[h1];rfl
  have h2:(t.state==2)=false:=by
   have:t.state=1:=by simpa using h1
   rw[this];rfl
  have h3:(t.by'==0)=true:=by
   unfold gl at h
   rw[h2,h1]at h
   exact h
  rw[e1,h3];rfl
theorem Np {t:Tip}{b:Int}(h:gl t=true)(ht:t=⟨2,b⟩):(GX t b).1=⟨3,0⟩:=by
 subst ht
 have e:GX ⟨2,b⟩ b=xz ⟨2,b⟩ b ⟨2,b⟩ ⟨3,0⟩ 122:=rfl
 rw[e]
 unfold xz Co
 rw[h]
 have ha:pp b=true:=h
 rw[ha]
 have:((2:Int)==2&&(b==b&&true))=true:=by simp
 simp only[this]
 rfl
def uA (l:List Tip):Prop:=∀ t∈l,gl t=true
theorem EH (b:Int):∀ (l:List Tip) (k:Nat),uA l->jk 0 ⟨2,b⟩ l k=(bif decide (eO b l k>=0)then(eO b l k,true)else(0,false))
 | [],k,_=>rfl
 | t :: l, k, h => by
   have ih:=EH b l (k+1) λ x hx=>h x (by simp[hx])
   have ht:=h t (by simp)
   unfold jk eO
   rw[dF (show ¬ (k:Int)<0 by omega),cF,ht]
   cases h1:(t.state==2)
   ·exact ih
   ·cases h2:(t.by'==b)
    ·exact ih
    ·have e:(!(true&&(true&&true)))=false:=rfl
     show _=(bif decide ((k:Int)>=0)then _ else _)
     rw[dT (show(k:Int)>=0 by omega)]
     rfl
theorem xN {s:yC}(b:Int)(h:uA s.zK):qM s.zK b=(bif decide (eC s b>=0)then(eC s b,true)else(0,false)):=EH b s.zK 0 h
theorem qe (b:Int):∀ (l:List Tip) (k:Nat),eO b l k>=0->∃ i:Nat,eO b l k=(k+i:Nat)/\l[i]?=some ⟨2,b⟩
 | [],k,h=>by simp[eO]at h
 | t :: l, k, h => by
   unfold eO at h ⊢
   cases h1:(t.state==2)
   ·rw[h1,cF]at h
    obtain⟨i,h2,h3⟩:=qe b l (k+1) h
    exact⟨i+1,by rw[cF,h2];omega,h3⟩
   ·rw[h1,cT]at h
    cases h2:(t.by'==b)
    ·rw[h2,cF]at h
     obtain⟨i,h2,h3⟩:=qe b l (k+1) h
     exact⟨i+1,by rw[cT,cF,h2];omega,h3⟩
    ·refine⟨0,by rw[cT,cT];rfl,?_⟩
     have e1:t.state=2:=by simpa using h1
     have e2:t.by'=b:=by simpa using h2
     obtain⟨x,y⟩:=t
     simp only at e1 e2
     rw[e1,e2];rfl
def eI:List Cell->List Cell->List Log->Bool
 | f::fs,c::cs,l::ls=>bif !dm c then false else bif c.cap != f.cap then false else bif !gL l then false else bif l.room != 8 then false else bif l.last != c.ver then false else eI fs cs ls
 | _,_,_=>true
theorem sB:∀ (a b cs:List Cell) (ls:List Log),a.length<=cs.length->a.length<=ls.length->eI (a++b) cs ls=bif eI a cs ls then eI b (cs.drop a.length) (ls.drop a.length)else false
 | [],b,cs,ls,_,_=>rfl
 | x::a,b,[],ls,h,_=>by simp at h
 | x::a,b,c::cs,[],_,h=>by simp at h
 | x :: a, b, c :: cs, l :: ls, h1, h2 => by
   simp only[af]at h1 h2
   have ih:=sB a b cs ls (by omega) (by omega)
   simp only[jA,eI,ih,af,List.drop_succ_cons]
   cases (!dm c)
   ·cases (c.cap != x.cap)
    ·cases (!gL l)
     ·cases (l.room != 8)
      ·cases (l.last != c.ver)<;>rfl
      ·rfl
     ·rfl
    ·rfl
   ·rfl
theorem Ix {s:yC}(hl:s.zL.length=s.cells.length)(hs:s.cells.length<=1000000){z:yF}(hz:PlateOk z)(kc:Int->Int->Int×Bool):∀ (n ix:Nat) (i1:Int) (k:Nat),k+n<=s.cells.length->0<=i1->i1+1099511627776*n<=4611686018427387904 ->
  lP s z kc n ix i1 (k:Int)=bif eI ((List.range' ix n).map (db z)) (s.cells.drop k) (s.zL.drop k)then kc (i1+tot (((List.range' ix n).map (db z)).map Cell.zS)) ((k+n:Nat):Int)else(0,false)
 | 0, ix, i1, k, _, _, _ => by
   simp only[lP,List.range'_zero,dD,eI,cT,tot,iP,fh]
 | n + 1, ix, i1, k, hk, h0, h1 => by
   have hv:=hz.start ix
   have hc:=hz.cap
   have e1:s.cells.drop k=s.cells.getD k (Ty.dflt .cell)::s.cells.drop (k+1):=by rw[dG (by omega),cH (by omega)]
   have e2:s.zL.drop k=s.zL.getD k (Ty.dflt .zW)::s.zL.drop (k+1):=by rw[dG (by omega),cH (by omega)]
   have key:∀ v,v=z.start.getD ix 0->lP s z kc n (ix+1) (w64 (i1+v)) (w64 ((k:Int)+1)) =
     bif eI ((List.range' (ix+1) n).map (db z)) (s.cells.drop (k+1)) (s.zL.drop (k+1))then kc (i1+(v+tot (((List.range' (ix+1) n).map (db z)).map Cell.zS))) ((k+(n+1):Nat):Int)else(0,false):=by
    intro v hv'
    have hv0:0<=v/\v<=1099511627776:=by omega
    rw[an (n:=i1+v) (by omega) (by omega),aq (by omega),Ix hl hs hz kc n (ix+1) _ (k+1) (by omega) (by omega) (by omega),hN,show k+1+n=k+(n+1) by omega]
   have ec:(db z ix).zS=z.start.getD ix 0:=rfl
   have ek:(db z ix).cap=z.cap:=rfl
   unfold lP
   rw[e1,e2]
   simp only[jv,bn,eI,tot,ec,ek,au]
   cases (!dm (s.cells.getD k (Ty.dflt .cell)))
   ·cases ((s.cells.getD k (Ty.dflt .cell)).cap != z.cap)
    ·cases (!gL (s.zL.getD k (Ty.dflt .zW)))
     ·cases ((s.zL.getD k (Ty.dflt .zW)).room != 8)
      ·cases ((s.zL.getD k (Ty.dflt .zW)).last != (s.cells.getD k (Ty.dflt .cell)).ver)
       ·simp only[cF]
        by_cases hx:(ix:Int)<z.start.length
        ·rw[dT hx,cT]
         exact key _ rfl
        ·rw[dF hx,cF]
         have e0:z.start.getD ix 0=0:=by simp[List.getD,aw (show z.start.length<=ix by omega)]
         have:=key 0 e0.symm
         rw[e0]
         rw[iP,an (n:=i1) (by omega) (by omega)]at this
         exact this
       ·rfl
      ·rfl
     ·rfl
    ·rfl
   ·rfl
theorem BE {d:yA}{ps:List yF}(hp:∀ z∈ps,PlateOk z):∀ c∈(ps.flatMap fu).map Cell.zS,0<=c/\c<=1099511627776:=by
 intro c hc
 obtain⟨x,hx,rfl⟩:=aZ.1 hc
 obtain⟨z,hz,hx⟩:=jz.1 hx
 obtain⟨k,_,rfl⟩:=aZ.1 hx
 have h1:=(hp z hz).start k
 have h2:=(hp z hz).cap
 simp only[db];omega
theorem zp {s:yC}(hl:s.zL.length=s.cells.length)(hs:s.cells.length<=1000000):∀ (ps:List yF),(∀ z∈ps,PlateOk z)->∀ (ix k:Nat) (i:Int),k+(ps.flatMap fu).length<=s.cells.length->0<=i->i+1688849860263936*ps.length<=4611686018427387904 ->
  nN s ps ix i (k:Int)=bif eI (ps.flatMap fu) (s.cells.drop k) (s.zL.drop k)then(i+tot ((ps.flatMap fu).map Cell.zS),true)else(0,false)
 | [], _, ix, k, i, _, _, _ => by
   simp only[nN,List.flatMap_nil,eI,cT,dD,tot,iP]
 | z :: ps, hp, ix, k, i, hk, h0, h1 => by
   have hz:=hp z (by simp)
   have hsz:=hz.size
   have hw:w64 (z.rows*z.zP)=z.rows*z.zP:=an (by omega) (by omega)
   have hc:=@kO z
   simp only[af]at h1
   simp only[fj,al]at hk
   have hb:∀ c∈(fu z).map Cell.zS,0<=c/\c<=1099511627776:=by
    have:=BE (d:=⟨[],[],[],0⟩) (ps:=[z]) (λ y hy=>by rw[bq.1 hy];exact hz)
    simpa using this
   have ht:=od hb
   rw[bH,hc]at ht
   unfold nN
   rw[hw,di,Ix hl hs hz _ _ 0 i k (by omega) h0 (by omega)]
   have e:(List.range' 0 (z.rows*z.zP).toNat).map (db z)=fu z:=rfl
   rw[e,zp hl hs ps (λ y hy=>hp y (by simp[hy])) (ix+1) _ _ (by omega) (by omega) (by omega)]
   simp only[fj,bT,pv]
   rw[sB _ _ _ _ (by rw[aL];omega) (by rw[aL];omega),kW,kW,hc]
   cases eI (fu z) (s.cells.drop k) (s.zL.drop k)
   ·rfl
   ·simp only[cT,hN]
theorem HP {d:yA}{s:yC}(h:(df d != 0)=false)(hc:(s.cells.length:Int)=br (aM d))(hl:s.zL.length=s.cells.length)(hs:s.cells.length<=1000000) :
  Cx d s=bif eI (bm d) s.cells s.zL then(tot ((bm d).map Cell.zS),true)else(0,false):=by
 have hk:=cp h
 have hn:=jE h
 unfold bm at hn
 have:=zp hl hs d.zB (λ z hz=>kB (hk.zJ z hz)) 0 0 0 (by omega) (by omega) (by have:=hk.zB;omega)
 unfold Cx
 rw[Int.zero_add,bE,bE]at this
 exact this
theorem oi (d:yA)(s:yC)(fs:List Cell)(t:Int):∀ (zs:List Cell) (ix:Nat),zs=s.cells.drop ix->fs.length=s.cells.length->s.zL.length=s.cells.length ->
  rr d s fs t zs ix=bif eI (fs.drop ix) zs (s.zL.drop ix)then pN d s t s.zK 0 []else false
 | [], ix, hz, hf, hl => by
   unfold rr
   cases fs.drop ix<;>rfl
 | z :: zs, ix, hz, hf, hl => by
   have hlen:ix<s.cells.length:=by
    rcases ax ix s.cells.length with h|h
    ·exact h
    ·rw[dN h]at hz;cases hz
   have e:s.cells.drop ix=s.cells[ix]::s.cells.drop (ix+1):=dG hlen
   rw[e]at hz
   have hz2:zs=s.cells.drop (ix+1):=(jI hz).2
   have ih:=oi d s fs t zs (ix+1) hz2 hf hl
   have e1:fs.drop ix=fs.getD ix (Ty.dflt .cell)::fs.drop (ix+1):=by rw[dG (by omega),cH (by omega)]
   have e2:s.zL.drop ix=s.zL.getD ix (Ty.dflt .zW)::s.zL.drop (ix+1):=by rw[dG (by omega),cH (by omega)]
   unfold rr
   rw[e1,e2,ih]
   simp only[eI]
   cases (!dm z)
   ·cases (z.cap != (fs.getD ix (Ty.dflt .cell)).cap)
    ·cases (!gL (s.zL.getD ix (Ty.dflt .zW)))
     ·cases ((s.zL.getD ix (Ty.dflt .zW)).room != 8)
      ·cases ((s.zL.getD ix (Ty.dflt .zW)).last != z.ver)<;>rfl
      ·rfl
     ·rfl
    ·rfl
   ·rfl
def ft (n:Int):List Tip->List Int->Bool
 | [],_=>true
 | t::ts,h=>bif !gl t then false else bif decide (t.by'>n)then false else bif h.elem t.by' then false else bif t.state==2 then ft n ts (h++[t.by'])else ft n ts h
def Kw (s:yC)(t:Int):Bool:=bif s.start != t then false else bif decide (s.zR<0)then false else bif decide (s.zR>1152921504606846976)then false else bif decide (s.out<0)then false else bif decide (s.out>1152921504606846976)then false else
 bif (xD s).2==0 then(xD s).1==w64 (w64 (s.start+s.zR)-s.out)else false
theorem IE (h:List Int)(t:Tip)(kc:List Int->Bool):∀ (l:List Int) (ix:Nat),rq h t kc l ix=bif l.elem t.by' then false else bif t.state==2 then kc (h++[t.by'])else kc h
 | [],ix=>by unfold rq;rfl
 | x :: l, ix => by
   unfold rq
   rw[IE h t kc l (ix+1)]
   simp only[List.elem_cons]
   have e:(x==t.by')=(t.by'==x):=by rw[dL,bD,bD];exact eq_comm
   rw[e]
   cases (t.by'==x)<;>rfl
theorem oj (d:yA)(s:yC)(t:Int):∀ (ts:List Tip) (ix:Nat) (h:List Int),pN d s t ts ix h=bif ft d.zO ts h then Kw s t else false
 | [],ix,h=>by unfold pN Kw;rfl
 | x :: ts, ix, h => by
   unfold pN ft
   have ih:=oj d s t ts (ix+1)
   rw[IE]
   simp only[ih]
   cases (!gl x)
   ·cases decide (x.by'>d.zO)
    ·cases h.elem x.by'
     ·cases (x.state==2)<;>rfl
     ·rfl
    ·rfl
   ·rfl
theorem DT:∀ (l:List Int) (k:Nat),decide (ii l k>=0)=l.any λ x=>decide (x>1)
 | [],k=>rfl
 | x :: l, k => by
   have ih:=DT l (k+1)
   unfold ii
   have e:JG x=decide (x>1):=rfl
   rw[e,List.any_cons]
   by_cases h:x>1
   ·rw[dT h,cT,Bool.true_or]
    exact dT (by omega)
   ·rw[dF h,cF,Bool.false_or]
    exact ih
theorem tz (l:List Int):pO l=l.any λ x=>decide (x>1):=DT l 0
structure Cnt (c h:List Int) (k:Nat):Prop where
 len:c.length=9
 eq:∀ i:Nat,i<9->c.getD i 0=(h.count (i:Int):Int)
 few:h.length<=k
theorem yg {c h:List Int}{k:Nat}(hc:Cnt c h k)(hk:k<=1000000){b:Int}(h1:1<=b)(h8:b<=8):Cnt (c.set b.toNat (w64 (c.getD b.toNat 0+1))) (h++[b]) (k+1):=by
 have e:=hc.eq b.toNat (by omega)
 have hle:h.count b<=h.length:=List.count_le_length
 have hf:=hc.few
 rw[aK (by omega)]at e
 refine⟨by rw[co];exact hc.len,λ i hi=>?_,by rw[al];simp only[af,ak];omega⟩
 rw[List.count_append]
 have hl:=hc.len
 by_cases hb:i=b.toNat
 ·subst hb
  rw[e,an (by omega) (by omega),show(c.set b.toNat ((h.count b:Int)+1)).getD b.toNat 0=(h.count b:Int)+1 by simp[List.getD,hl,hi]]
  rw[aK (by omega)]
  simp
 ·have e2:(c.set b.toNat (w64 (c.getD b.toNat 0+1))).getD i 0=c.getD i 0:=by
   simp only[List.getD,aP]
   rw[aF (λ e=>hb e.symm)]
  rw[e2,hc.eq i hi]
  have:([b]:List Int).count (i:Int)=0:=by
   rw[List.count_cons,List.count_nil]
   have:¬ b=(i:Int):=by omega
   simp[this]
  rw[this];simp
theorem Fi {c h:List Int}{k:Nat}(hc:Cnt c h k)(hr:∀ x∈h,1<=x/\x<=8):(c.any λ x=>decide (x>1))=false↔h.Nodup:=by
 rw[List.nodup_iff_count,List.any_eq_false]
 constructor
 ·intro hall a
  rcases ax (h.count a) 2 with h2|h2
  ·omega
  ·exfalso
   have hm:a∈h:=List.count_pos_iff.1 (by omega)
   have:=hr a hm
   have e:=hc.eq a.toNat (by omega)
   rw[aK (by omega)]at e
   have hl:=hc.len
   have hmem:c.getD a.toNat 0∈c:=by rw[cH (by omega)];exact aN _
   have:=hall _ hmem
   simp only[bC]at this
   omega
 ·intro hall x hx
  obtain⟨i,hi,rfl⟩:=dJ hx
  have hl:=hc.len
  have e:=hc.eq i (by omega)
  rw[cH hi]at e
  have:=hall (i:Int)
  simp only[bC]
  omega
theorem CH (n:Int):∀ (l:List Tip) (c h:List Int) (k:Nat),Cnt c h k->k+l.length<=1000000->(∀ x∈h,1<=x/\x<=8)->¬ h.Nodup->hO n l c=false
 | [], c, h, k, hc, _, hr, hd => by
   unfold hO
   rw[tz]
   cases ha:c.any λ x=>decide (x>1)
   ·exact absurd ((Fi hc hr).1 ha) hd
   ·rfl
 | t :: l, c, h, k, hc, hk, hr, hd => by
   simp only[af]at hk
   unfold hO
   cases g1:(!gl t)
   ·cases decide (t.by'>n)
    ·cases g3:(t.state==2)
     ·exact CH n l c h k hc (by omega) hr hd
     ·have hb:1<=t.by'/\t.by'<=8:=by
       rcases sH g1 g3 with e|e|e|e|e|e|e|e<;>omega
      exact CH n l _ (h++[t.by']) (k+1) (yg hc (by omega) hb.1 hb.2) (by omega) (λ x hx=>by
       rcases az.1 hx with hx|hx
       ·exact hr x hx
       ·rw[bq.1 hx];exact hb) (λ hn=>hd (iM.1 hn).1)
    ·rfl
   ·rfl
theorem Kn (n:Int):∀ (l:List Tip) (c h:List Int) (k:Nat),Cnt c h k->k+l.length<=1000000->(∀ x∈h,1<=x/\x<=8)->h.Nodup->hO n l c=ft n l h
 | [], c, h, k, hc, _, hr, hd => by
   unfold hO ft
   rw[tz,(Fi hc hr).2 hd];rfl
 | t :: l, c, h, k, hc, hk, hr, hd => by
   simp only[af]at hk
   unfold hO ft
   cases g1:(!gl t)
   ·cases decide (t.by'>n)
    ·cases g3:(t.state==2)
     ·have hz:t.by'=0:=by
       have:=nf g1
       unfold gl at this
       rw[g3,cF]at this
       cases h1:(t.state==1)
       ·rw[h1,cF]at this
        cases h2:(t.state==3)
        ·rw[h2]at this;cases this
        ·rw[h2]at this;simpa using this
       ·rw[h1]at this;simpa using this
      have he:h.elem t.by'=false:=by
       rw[hz,mq,cN]
       intro hm
       have:=hr 0 hm
       omega
      simp only[cF,he]
      exact Kn n l c h k hc (by omega) hr hd
     ·have hb:1<=t.by'/\t.by'<=8:=by
       rcases sH g1 g3 with e|e|e|e|e|e|e|e<;>omega
      have hr':∀ x∈h++[t.by'],1<=x/\x<=8:=λ x hx=>by
       rcases az.1 hx with hx|hx
       ·exact hr x hx
       ·rw[bq.1 hx];exact hb
      simp only[cF,cT]
      cases he:h.elem t.by'
      ·rw[cF]
       refine Kn n l _ (h++[t.by']) (k+1) (yg hc (by omega) hb.1 hb.2) (by omega) hr' ?_
       rw[iM]
       refine⟨hd,by simp,λ a ha b hb'=>?_⟩
       rw[bq.1 hb']
       intro e
       rw[mq,cN]at he
       exact he (e ▸ ha)
      ·rw[cT]
       refine CH n l _ (h++[t.by']) (k+1) (yg hc (by omega) hb.1 hb.2) (by omega) hr' λ hn=>?_
       rw[mq,bC]at he
       exact(iM.1 hn).2.2 _ he _ (by simp) rfl
    ·rfl
   ·rfl
theorem Kl {l:List Tip}(n:Int)(hl:l.length<=1000000):CG l n=ft n l []:=
 Kn n l _ [] 0 ⟨rfl,λ i hi=>by
  match i,hi with
  | 0,_|1,_|2,_|3,_|4,_|5,_|6,_|7,_|8,_=>rfl,aI _⟩ (by omega) (λ x hx=>by simp at hx) .nil
theorem HX:∀ (l:List Cell) (ix:Nat) (acc:List Int),nH l ix acc=ze (acc++l.map Cell.zS)
 | [],ix,acc=>by unfold nH;simp
 | c :: l, ix, acc => by
   unfold nH
   rw[HX l (ix+1)]
   simp
theorem DX (s:yC):xD s=HW s:=by
 unfold xD
 rw[HX,fS];rfl
theorem Fe (x:Int):(yn x 0 1152921504606846976 != x)=bif decide (x<0)then true else decide (x>1152921504606846976):=by
 unfold yn
 by_cases h1:x<0
 ·rw[dT h1,cT,cT]
  exact cK.2 (by omega)
 ·rw[dF h1,cF,cF]
  by_cases h2:x>1152921504606846976
  ·rw[dT h2,cT]
   exact cK.2 (by omega)
  ·rw[dF h2,cF]
   exact ah.2 rfl
theorem lW {d:yA}{s:yC}(hb:OkS s):m91 d s=m94 d s:=by
 unfold m91 m94
 rw[DP]
 cases hz:df d != 0
 ·have hn:=jE hz
  have hw:=oa hz
  have ht:=mL hz
  have htn:=(cp hz).zK
  have e0:((fA d).2 != 0)=false:=by unfold fA;rw[hz];rfl
  have e1:(fA d).1.cells=bm d:=by unfold fA;rw[hz];rfl
  have e2:((fA d).1.zL.length:Int)=(bm d).length:=by unfold fA;rw[hz];simp
  have e3:((fA d).1.zK.length:Int)=br (aU d):=by unfold fA;rw[hz];simp;omega
  have e4:(fA d).1.start=tot ((bm d).map Cell.zS):=by unfold fA;rw[hz];rfl
  rw[e0,cF,cF,hw,ht,e1,e2,e3,e4,hn]
  cases h1:((s.cells.length:Int) != br (aM d))
  ·cases h2:((s.zL.length:Int) != br (aM d))
   ·cases h3:((s.zK.length:Int) != br (aU d))
    ·have h1:=ah.1 h1
     have h2:=ah.1 h2
     have hl:s.zL.length=s.cells.length:=by omega
     rw[oi d s (bm d) _ s.cells 0 rfl (by omega) hl,bE,bE,oj,HP hz h1 hl hb.cells,Kl d.zO hb.zK]
     simp only[cF]
     cases eI (bm d) s.cells s.zL
     ·simp only[cF,kX,cT]
      cases ft d.zO s.zK []<;>rfl
     ·simp only[cT,ba,cF]
      cases ft d.zO s.zK []
      ·rfl
      ·simp only[ba,cF,cT]
       unfold Kw
       rw[DX,Fe,Fe]
       cases (s.start != tot ((bm d).map Cell.zS))
       ·cases decide (s.zR<0)
        ·cases decide (s.zR>1152921504606846976)
         ·cases decide (s.out<0)
          ·cases decide (s.out>1152921504606846976)<;>rfl
          ·rfl
         ·rfl
        ·rfl
       ·rfl
    ·rfl
   ·rfl
  ·rfl
 ·have e0:((fA d).2 != 0)=true:=by unfold fA;rw[hz];exact hz
  rw[e0];rfl
theorem vz (m:yE):∀ (l:List Int) (k:Nat),oM m l k = !(decide (im m l k>=0))
 | [],k=>rfl
 | x :: l, k => by
   unfold oM im m93
   have ih:=vz m l (k+1)
   by_cases h1:x<0
   ·rw[dT h1,cT,cT,cT,dT (show(k:Int)>=0 by omega)];rfl
   ·rw[dF h1,cF,cF]
    by_cases h2:x>m.zI.zO
    ·rw[dT h2,cT,cT,dT (show(k:Int)>=0 by omega)];rfl
    ·rw[dF h2,cF,cF];exact ih
theorem Gu (d:yA):((dP d).length:Int)=(bx d).1+(bx d).2.1+(bx d).2.2:=by
 unfold dP bx
 cases h:dw d != 0
 ·have hk:DeckOk d:=ff (by simpa using h)
  rw[cF,cF,ol hk]
 ·rfl
theorem oh {m:yE}(hb:OkM m):m31 m=m32 m:=by
 unfold m31 m32
 rw[yf,<-Gu,lW hb.toS,vz m m.zD 0]
 have e:(!qE m m.zD) = !decide (im m m.zD 0>=0):=rfl
 rw[e]
 cases ((m.zD.length:Int) != ((dP m.zI).length:Int))
 ·rfl
 ·cases m94 m.zI m.zE<;>rfl
theorem jN {n:Int}:∀ {l:List Tip} {h:List Int},ft n l h=true->uA l
 | [],_,_=>λ t ht=>by simp at ht
 | t :: l, h, hr => by
   unfold ft at hr
   cases g1:(!gl t)
   ·rw[g1,cF]at hr
    cases g2:decide (t.by'>n)
    ·rw[g2,cF]at hr
     cases g3:h.elem t.by'
     ·rw[g3,cF]at hr
      have ih:uA l:=by
       cases g4:(t.state==2)
       ·rw[g4,cF]at hr;exact jN hr
       ·rw[g4,cT]at hr;exact jN hr
      intro x hx
      rcases aB.1 hx with rfl|hx
      ·exact nf g1
      ·exact ih x hx
     ·rw[g3]at hr;cases hr
    ·rw[g2]at hr;cases hr
   ·rw[g1]at hr;cases hr
theorem ll {d:yA}{s:yC}(hb:OkS s)(h:m91 d s=true):ft d.zO s.zK []=true/\eI (bm d) s.cells s.zL=true/\Kw s (tot ((bm d).map Cell.zS))=true:=by
 obtain⟨hz,hc,hl,ht⟩:=kz h
 rw[lW hb]at h
 unfold m94 at h
 rw[DP]at h
 have hn:=jE hz
 have e0:((fA d).2 != 0)=false:=by unfold fA;rw[hz];rfl
 have e1:(fA d).1.cells=bm d:=by unfold fA;rw[hz];rfl
 have e2:((fA d).1.zL.length:Int)=(bm d).length:=by unfold fA;rw[hz];simp
 have e3:((fA d).1.zK.length:Int)=br (aU d):=by unfold fA;rw[hz];simp;have:=(cp hz).zK;omega
 have e4:(fA d).1.start=tot ((bm d).map Cell.zS):=by unfold fA;rw[hz];rfl
 rw[e0,cF,e1,e2,e3,e4,hn,ah.2 hc,cF,ah.2 (by omega),cF,ah.2 ht,cF,oi d s (bm d) _ s.cells 0 rfl (by omega) hl,bE,bE,oj]at h
 cases hw:eI (bm d) s.cells s.zL
 ·rw[hw]at h;cases h
 rw[hw,cT]at h
 cases hh:ft d.zO s.zK []
 ·rw[hh]at h;cases h
 rw[hh,cT]at h
 exact⟨rfl,rfl,h⟩
theorem Nj {d:yA}{s:yC}(hb:OkS s)(b:Int):m95 d s b=m96 d s b:=by
 unfold m95 m96
 rw[<-lW hb]
 cases hr:m91 d s
 ·rfl
 ·have ht:uA s.zK:=jN (ll hb hr).1
  rw[xN b ht]
  by_cases h:eC s b>=0
  ·rw[dT h,dF (show ¬ eC s b<0 by omega)];rfl
  ·rw[dF h,dT (show eC s b<0 by omega)];rfl
theorem Km {m:yE}(hb:OkM m)(w:Int):m33 m w=m34 m w:=by
 unfold m33 m34
 rw[<-Nj hb.toS,<-oh hb]
 cases hr:m31 m
 ·cases (m95 m.zI m.zE w).2<;>rfl
 ·have h95:(m95 m.zI m.zE w).2=false->(m95 m.zI m.zE w).1 = -1:=by
   unfold m95
   cases (!m91 m.zI m.zE)
   ·cases (!(qM m.zE.zK w).2)
    ·intro h;cases h
    ·intro _;rfl
   ·intro _;rfl
  cases h2:(m95 m.zI m.zE w).2
  ·exact h95 h2
  ·rfl
theorem ut {d:yA}{s:yC}(hb:OkS s)(b:Int):bb d s b=iR d s b:=by
 unfold bb iR
 rw[lW hb]
theorem BY (cs:List Cell)(ls:List Log)(ts ts':List Tip)(st zR out st' inn' out':Int)(d:yA)(b id:Int)(c:Cell):ki cs ls ts st zR out d b id c=kE cs ls ts' st' inn' out' b id c:=by
 unfold ki kE
 rw[DV,DW]
theorem sR (e:Int)(s:yC)(d:yA):fk (e,s,d)=(e != 0):=rfl
theorem sb (s:yC)(st zR out:Int)(ts:List Tip)(ls:List Log)(d:yA)(i:Int):oD s.cells ls ts st zR out d i=mB s i:=rfl
abbrev S0:yC:=⟨[],[],[],0,0,0⟩
def Bu (x:yC×Int):Prop:=x.2≠0->x.1=S0
theorem ln {e:Int}:Bu (S0,e):=λ _=>rfl
theorem Iy {s:yC}:Bu (s,0):=λ h=>absurd rfl h
theorem lp {c:Bool}{x y:yC×Int}(hx:Bu x)(hy:Bu y):Bu (bif c then x else y):=by
 cases c
 ·exact hy
 ·exact hx
theorem zu {x:yC×Int}(h:Bu x):(bif lK x then((⟨[],[],[],0,0,0⟩:yC),x.2)else(x.1,(0:Int)))=x:=by
 obtain⟨a,e⟩:=x
 show(bif e != 0 then(S0,e)else(a,0))=(a,e)
 cases he:e != 0
 ·have:e=0:=ah.1 he
  rw[this];rfl
 ·have:e≠0:=by simpa using he
  have h:=h this
  simp only at h
  rw[h];rfl
theorem Iz (d:yA)(s:yC)(b i n:Int):Bu (jU d s b i n):=by
 unfold jU
 exact lp ln (lp ln (lp ln (lp ln Iy)))
theorem FZ (d:yA)(s:yC)(b i n:Int):Bu (jT d s b i n):=by
 unfold jT
 exact lp ln (lp ln (lp ln (lp ln Iy)))
theorem EQ {d:yA}{s:yC}(hb:OkS s)(b i:Int){n:Int}(hn:cD n):pS d s b i n=jU d s b i n:=by
 have e:hB d s b i n=jU d s b i n:=by
  unfold hB jU
  rw[sR,ut hb,sb,DD hn]
  simp only[BY _ _ _ s.zK _ _ _ s.start s.zR s.out]
 have h:pS d s b i n=(bif lK (hB d s b i n)then((⟨[],[],[],0,0,0⟩:yC),(hB d s b i n).2)else((hB d s b i n).1,(0:Int))):=rfl
 rw[h,e]
 exact zu (Iz d s b i n)
theorem yV {d:yA}{s:yC}(hb:OkS s)(b i n:Int):pR d s b i n=jT d s b i n:=by
 have e:gZ d s b i n=jT d s b i n:=by
  unfold gZ jT
  rw[sR,ut hb,sb,ES]
  simp only[BY _ _ _ s.zK _ _ _ s.start s.zR s.out]
 have h:pR d s b i n=(bif lK (gZ d s b i n)then((⟨[],[],[],0,0,0⟩:yC),(gZ d s b i n).2)else((gZ d s b i n).1,(0:Int))):=rfl
 rw[h,e]
 exact zu (FZ d s b i n)
theorem DR {d:yA}{s:yC}(hb:OkS s)(b i j:Int){n:Int}(hn:cD n):pT d s b i j n=lf d s b i j n:=by
 unfold pT lf
 rw[sR,ut hb,sb,sb,Jp hn]
 simp only[BY _ _ _ s.zK _ _ _ s.start s.zR s.out]
theorem Ib {d:yA}{s:yC}(hb:OkS s)(b i:Int)(hi:cD i):AA d s b i=gK d s b i:=by
 unfold AA gK
 rw[sR,ut hb]
 cases h:(iR d s b != 0)
 ·have h0:iR d s b=0:=ah.1 h
  have hr:=ll hb (d:=d) (by rw[lW hb];exact(Ch h0).1)
  have ht:=jN hr.1
  have hc:=hb.cells
  have hl:=hb.zK
  unfold cD at hi
  rw[cF,cF,xN b ht,an (n:=(s.cells.length:Int)+s.zK.length) (by omega) (by omega)]
  unfold Ay
  by_cases h1:i>=(s.cells.length:Int)
  ·rw[dT h1,cT,cT,an (n:=i-s.cells.length) (by omega) (by omega)]
   by_cases h2:i<(s.cells.length:Int)+s.zK.length
   ·have h3:i-(s.cells.length:Int)<s.zK.length:=by omega
    rw[dT h2,dT h3]
    simp only[cT,LW]
    by_cases h4:eC s b>=0
    ·rw[dT h4]
     rfl
    ·rw[dF h4]
     rfl
   ·have h3:¬ i-(s.cells.length:Int)<s.zK.length:=by omega
    rw[dF h2,dF h3]
    rfl
  ·rw[dF h1]
   rfl
 ·rfl
theorem Ky {d:yA}{s:yC}(hb:OkS s)(b:Int):Az d s b=gJ d s b:=by
 unfold Az gJ
 rw[sR,ut hb]
 cases h:(iR d s b != 0)
 ·have h0:iR d s b=0:=ah.1 h
  have hr:=ll hb (d:=d) (by rw[lW hb];exact(Ch h0).1)
  have ht:=jN hr.1
  rw[cF,cF,xN b ht]
  by_cases h4:eC s b>=0
  ·rw[dT h4,dF (show ¬ eC s b<0 by omega)]
   obtain⟨k,hk,hg⟩:=qe b s.zK 0 h4
   have hk:eC s b=(k:Int):=by rw[show eC s b=eO b s.zK 0 from rfl,hk];omega
   simp only[cT,cF,ba,hk,au]
   have hkl:k<s.zK.length:=(am.1 hg).1
   have hz:s.zK.getD k (Ty.dflt .zV)=⟨2,b⟩:=by
    rw[cH hkl]
    exact(am.1 hg).2
   rw[hz,Np (ht _ (bu hg)) rfl]
  ·rw[dF h4,dT (show eC s b<0 by omega)]
   rfl
 ·rfl
theorem th (w:Int):∀ (l:List Int) (k:Nat) (acc:List Int),lO w l k acc=nC w l k acc
 | [],_,_=>rfl
 | z :: l, k, acc => by
   unfold lO nC
   rw[th w l,th w l]
theorem DM (o:List Int)(w:Int):Cr o w=m39 o w:=th w o 0 []
theorem AH (o:List Int)(w:Int):∀ (l:List Int) (k:Nat),tx o w l k=kK o w l k
 | [],_=>rfl
 | z :: l, k => by
   unfold tx kK
   rw[AH o w l]
theorem Ke (o zU:List Int)(w:Int):m99 o zU w=xE o zU w:=AH o w zU 0
theorem Je:∀ (l:List Int) (k:Nat),(!decide (ie l k>=0))=qL l k
 | [],k=>rfl
 | z :: l, k => by
   have ih:=Je l (k+1)
   unfold ie qL
   have e:GS z=bif decide (z<0)then true else decide (z>8):=by
    unfold GS xA
    by_cases h0:z=0
    ·subst h0;rfl
    ·rw[show(z != 0)=true by simpa using h0,cT]
     by_cases h1:z<0
     ·rw[dT h1,dF (show ¬ z>=1 by omega)];rfl
     ·rw[dF h1,dT (show z>=1 by omega),cT,cF]
      by_cases h2:z>8
      ·rw[dT h2,dF (show ¬ z<=8 by omega)];rfl
      ·rw[dF h2,dT (show z<=8 by omega)];rfl
   rw[e]
   by_cases h1:z<0
   ·rw[dT h1,cT,cT,cT,dT (show(k:Int)>=0 by omega)];rfl
   ·rw[dF h1,cF,cF]
    by_cases h2:z>8
    ·rw[dT h2,cT,cT,dT (show(k:Int)>=0 by omega)];rfl
    ·rw[dF h2,cF,cF];exact ih
theorem Jd (o:List Int):GV o=xB o:=Je o 0
theorem Jg (l:List Int):∀ (zs:List Int) (k:Nat),pe l zs k=qK l zs k
 | [],_=>rfl
 | z :: zs, k => by
   unfold pe qK
   rw[Jg l zs]
theorem Jf (l:List Int):GU l=Ct l:=Jg l (l.drop 1) 1
theorem tX (p:Int->Bool):∀ (l:List Int) (k:Nat),(match l.find? p with
  | some z=>iE p l k>=0/\∃ i:Nat,iE p l k=(k+i:Nat)/\l[i]?=some z
  | none=>iE p l k = -1)
 | [],k=>rfl
 | x :: l, k => by
   have ih:=tX p l (k+1)
   unfold iE
   rw[jX]
   cases hp:p x
   ·rw[cF]
    simp only
    cases hf:l.find? p with
    | none=>rw[hf]at ih;exact ih
    | some z =>
      rw[hf]at ih
      obtain⟨h1,i,h2,h3⟩:=ih
      exact⟨h1,i+1,by rw[h2];omega,h3⟩
   ·rw[cT]
    exact⟨by omega,0,rfl,rfl⟩
theorem or {p:Int->Bool}{l:List Int}(h:l.find? p=none):iE p l 0 = -1:=by
 have:=tX p l 0
 rw[h]at this
 exact this
theorem qc {p:Int->Bool}{l:List Int}{z:Int}(h:l.find? p=some z):iE p l 0>=0/\l.getD (iE p l 0).toNat (Ty.dflt .int)=z:=by
 have:=tX p l 0
 rw[h]at this
 obtain⟨h1,i,h2,h3⟩:=this
 refine⟨h1,?_⟩
 rw[h2,au,cE]
 simp[List.getD,h3]
theorem tq (o:List Int):∀ (l:List Int) (k:Nat),gW o l k=(match l.find? (oC o)with|some z=>(z,3)|none=>(0,0))
 | [],k=>rfl
 | x :: l, k => by
   have ih:=tq o l (k+1)
   unfold gW
   rw[jX]
   have e:oC o x=bif decide (x<0)then true else decide (x>=o.length):=rfl
   rw[e]
   by_cases h1:x<0
   ·rw[dT h1];rfl
   ·rw[dF h1,cF,cF]
    by_cases h2:x>=(o.length:Int)
    ·rw[dT h2];rfl
    ·rw[dF h2,cF];exact ih
theorem Ds (to:Int):∀ (l:List Int) (k k':Nat) (acc:List Int),fL to l k acc=(kF to l k' acc,0,0)
 | [],_,_,_=>rfl
 | x :: l, k, k', acc => by
   unfold fL kF
   rw[Ds to l (k+1) (k'+1)]
theorem Dt (to:Int):∀ (l:List Int) (k k':Nat) (acc:List Int),fK to l k acc=(kF to l k' acc,0,0)
 | [],_,_,_=>rfl
 | x :: l, k, k', acc => by
   unfold fK kF
   rw[Dt to l (k+1) (k'+1)]
theorem vk (o zU:List Int)(w:Int):∀ (l:List Int) (k:Nat),gu o zU w l k=(match l.find? (gr o w)with|some z=>([],z,140)|none=>(iD o zU w,0,0))
 | [],k=>rfl
 | x :: l, k => by
   have ih:=vk o zU w l (k+1)
   unfold gu
   rw[jX]
   have e:gr o w x = !(bif o.getD x.toNat (Ty.dflt .int)==0 then true else o.getD x.toNat (Ty.dflt .int)==w):=rfl
   rw[e]
   unfold bne
   cases (o.getD x.toNat (Ty.dflt .int)==(0:Int))
   ·cases (o.getD x.toNat (Ty.dflt .int)==w)
    ·rfl
    ·exact ih
   ·exact ih
theorem wq (o zU:List Int)(w:Int):∀ (l:List Int) (k:Nat),fY o zU w l k=(match l.find? (gq o w)with|some z=>([],z,141)|none=>(iD o zU 0,0,0))
 | [],k=>rfl
 | x :: l, k => by
   have ih:=wq o zU w l (k+1)
   unfold fY
   rw[jX]
   have e:gq o w x = !(o.getD x.toNat (Ty.dflt .int)==w):=rfl
   rw[e]
   unfold bne
   cases (o.getD x.toNat (Ty.dflt .int)==w)
   ·rfl
   ·exact ih
def QG (x:List Int×Int×Int):Prop:=(x.2.2≠0->x.1=[])/\(x.2.2=0->x.2.1=0)
theorem vu {x:List Int×Int×Int}(h:QG x):(bif lL x then(([]:List Int),x.2.1,x.2.2)else(x.1,(0:Int),(0:Int)))=x:=by
 obtain⟨a,i,e⟩:=x
 obtain⟨h1,h2⟩:=h
 show(bif e != 0 then(([]:List Int),i,e)else(a,(0:Int),(0:Int)))=(a,i,e)
 cases he:e != 0
 ·have he:e=0:=ah.1 he
  have:=h2 he
  simp only at this
  rw[this,he];rfl
 ·have he:e≠0:=by simpa using he
  have:=h1 he
  simp only at this
  rw[this];rfl
theorem Lt (w:Int):(!xA w)=bif decide (w<1)then true else decide (w>8):=by
 unfold xA
 by_cases h1:w<1
 ·rw[dT h1,dF (show ¬ w>=1 by omega)];rfl
 ·rw[dF h1,dT (show w>=1 by omega),cT,cF]
  by_cases h2:w>8
  ·rw[dT h2,dF (show ¬ w<=8 by omega)];rfl
  ·rw[dF h2,dT (show w<=8 by omega)];rfl
theorem Ig (o zU:List Int)(w:Int):pU o zU w=kH o zU w:=by
 have e:fG o zU w w 140 w=kH o zU w/\QG (kH o zU w):=by
  unfold fG kH kG
  rw[Jd,Jf,Lt]
  have i1:eF o zU=iE (oC o) zU 0:=jM o zU 0
  have i2:er o w zU=iE (gr o w) zU 0:=nK o w zU 0
  rw[i1,i2]
  cases xB o
  ·exact⟨rfl,⟨λ _=>rfl,λ h=>by cases h⟩⟩
  by_cases h1:w<1
  ·rw[dT h1]
   exact⟨rfl,⟨λ _=>rfl,λ h=>by cases h⟩⟩
  rw[dF h1]
  by_cases h2:w>8
  ·rw[dT h2]
   exact⟨rfl,⟨λ _=>rfl,λ h=>by cases h⟩⟩
  rw[dF h2]
  cases Ct zU
  ·exact⟨rfl,⟨λ _=>rfl,λ h=>by cases h⟩⟩
  simp only[ba,cF,tq,vk]
  cases hf:zU.find? (oC o)with
  | some z =>
    obtain⟨g1,g2⟩:=qc hf
    rw[dT g1,g2]
    exact⟨rfl,⟨λ _=>rfl,λ h=>by cases h⟩⟩
  | none =>
    rw[or hf]
    cases hf2:zU.find? (gr o w)with
    | some z =>
      obtain⟨g1,g2⟩:=qc hf2
      rw[dT g1,g2]
      exact⟨rfl,⟨λ _=>rfl,λ h=>by cases h⟩⟩
    | none =>
      rw[or hf2,Ds w zU 0 0 o]
      exact⟨rfl,⟨λ h=>absurd rfl h,λ _=>rfl⟩⟩
 have h:pU o zU w=(bif lL (fG o zU w w 140 w)then(([]:List Int),(fG o zU w w 140 w).2.1,(fG o zU w w 140 w).2.2)else((fG o zU w w 140 w).1,(0:Int),(0:Int))):=rfl
 rw[h,e.1]
 exact vu e.2
theorem AT (o zU:List Int)(w:Int):pi o zU w=jm o zU w:=by
 have e:fF o zU w 0 141 w=jm o zU w/\QG (jm o zU w):=by
  unfold fF jm kG
  rw[Jd,Jf,Lt]
  have i1:eF o zU=iE (oC o) zU 0:=jM o zU 0
  have i2:ej o w zU=iE (gq o w) zU 0:=nJ o w zU 0
  rw[i1,i2]
  cases xB o
  ·exact⟨rfl,⟨λ _=>rfl,λ h=>by cases h⟩⟩
  by_cases h1:w<1
  ·rw[dT h1]
   exact⟨rfl,⟨λ _=>rfl,λ h=>by cases h⟩⟩
  rw[dF h1]
  by_cases h2:w>8
  ·rw[dT h2]
   exact⟨rfl,⟨λ _=>rfl,λ h=>by cases h⟩⟩
  rw[dF h2]
  cases Ct zU
  ·exact⟨rfl,⟨λ _=>rfl,λ h=>by cases h⟩⟩
  simp only[ba,cF,tq,wq]
  cases hf:zU.find? (oC o)with
  | some z =>
    obtain⟨g1,g2⟩:=qc hf
    rw[dT g1,g2]
    exact⟨rfl,⟨λ _=>rfl,λ h=>by cases h⟩⟩
  | none =>
    rw[or hf]
    cases hf2:zU.find? (gq o w)with
    | some z =>
      obtain⟨g1,g2⟩:=qc hf2
      rw[dT g1,g2]
      exact⟨rfl,⟨λ _=>rfl,λ h=>by cases h⟩⟩
    | none =>
      rw[or hf2,Dt 0 zU 0 0 o]
      exact⟨rfl,⟨λ h=>absurd rfl h,λ _=>rfl⟩⟩
 have h:pi o zU w=(bif lL (fF o zU w 0 141 w)then(([]:List Int),(fF o zU w 0 141 w).2.1,(fF o zU w 0 141 w).2.2)else((fF o zU w 0 141 w).1,(0:Int),(0:Int))):=rfl
 rw[h,e.1]
 exact vu e.2
theorem PR (b:Nat):cD (Wn.ofS b).1:=by
 have h0:cD 0:=by unfold cD;omega
 unfold Wn.ofS
 cases Wn.gw (Wn.rN b)==1 with
 | true=>exact h0
 | false=>
 cases Wn.gw (Wn.rN b)==2 with
 | true=>exact h0
 | false=>
 cases Wn.gw (Wn.rN b)==3 with
 | true=>exact h0
 | false=>
 cases Wn.my b with
 | true=>exact h0
 | false=>
 by_cases h:(Wn.uI (Wn.rN b)>1099511627776)
 ·rw[dT h];exact h0
 ·rw[dF h]
  show cD (Wn.uI (Wn.rN b):Int)
  unfold cD;omega
theorem lh (q:yT):cD (Wn.cy q).1:=by
 unfold Wn.cy
 cases (Wn.ofS q.zS.toNat).2==0&&(Wn.ofS q.zS.toNat).1==0
 ·exact PR _
 ·show cD 0
  unfold cD;omega
def Got (s:yC)(i:Int)(x:yC×Int):Prop:=x.2=0->(0<=i/\i<s.cells.length)/\x.1.cells.length=s.cells.length
theorem qR {s:yC}{i e:Int}{y:yC×Int}(h:Got s i y):Got s i (bif e != 0 then(S0,e)else y):=by
 cases he:e != 0
 ·exact h
 ·intro h0
  exact absurd h0 (by simpa using he)
theorem tZ {s:yC}{i e:Int}{c:Bool}{y:yC×Int}(he:e≠0)(h:c=false->Got s i y):Got s i (bif c then(S0,e)else y):=by
 cases c
 ·exact h rfl
 ·exact λ h0=>absurd h0 he
theorem gk {s:yC}{i:Int}(h:(!mB s i)=false):0<=i/\i<s.cells.length:=by
 have h:mB s i=true:=by simpa using h
 unfold mB at h
 by_cases h0:i>=0
 ·rw[dT h0,cT]at h
  exact⟨h0,oT h⟩
 ·rw[dF h0]at h;cases h
theorem AO (d:yA)(s:yC)(b i n:Int):Got s i (jU d s b i n):=by
 unfold jU
 exact qR (tZ (by decide) λ hm=>qR (tZ (by decide) λ _=>λ _=>⟨gk hm,by simp[kE]⟩))
theorem wo (d:yA)(s:yC)(b i n:Int):Got s i (jT d s b i n):=by
 unfold jT
 exact qR (tZ (by decide) λ hm=>qR (tZ (by decide) λ _=>λ _=>⟨gk hm,by simp[kE]⟩))
theorem AN (d:yA)(s:yC)(b i j n:Int):Got s i (lf d s b i j n):=by
 unfold lf
 exact qR (tZ (by decide) λ hm=>tZ (by decide) λ _=>tZ (by decide) λ _=>qR (λ _=>⟨gk hm,by simp[kE]⟩))
theorem xM {m:yE}{zT:Int}{q:yT}{x:yC×Int}{xe xi xn xv:Int}(hx:Got m.zE q.a x)(h:(iQ m zT q x.1 x.2 xe xi xn xv).2.err=0):0<=q.a/\q.a<(iQ m zT q x.1 x.2 xe xi xn xv).1.zE.cells.length:=by
 unfold iQ at h ⊢
 cases he:x.2 != 0
 ·have h0:x.2=0:=ah.1 he
  have:=hx h0
  exact⟨this.1.1,by show q.a<(x.1.cells.length:Int);rw[this.2];exact this.1.2⟩
 ·rw[he]at h
  exact absurd (show x.2=0 from h) (by simpa using he)
theorem qg {m:yE}{zT:Int}{q:yT}{j xe xi xn xv:Int}(hb:OkM m)(h:(iQ m zT q (pT m.zI m.zE zT q.a j (Wn.cy q).1).1 (pT m.zI m.zE zT q.a j (Wn.cy q).1).2 xe xi xn xv).2.err=0):0<=q.a/\q.a<(iQ m zT q (pT m.zI m.zE zT q.a j (Wn.cy q).1).1 (pT m.zI m.zE zT q.a j (Wn.cy q).1).2 xe xi xn xv).1.zE.cells.length:=
 xM (by rw[DR hb.toS _ _ _ (lh q)];exact AN _ _ _ _ _ _) h
theorem qh {m:yE}{zT:Int}{q:yT}{xe xi xn xv:Int}(hb:OkM m)(h:(iQ m zT q (pS m.zI m.zE zT q.a (Wn.cy q).1).1 (pS m.zI m.zE zT q.a (Wn.cy q).1).2 xe xi xn xv).2.err=0):0<=q.a/\q.a<(iQ m zT q (pS m.zI m.zE zT q.a (Wn.cy q).1).1 (pS m.zI m.zE zT q.a (Wn.cy q).1).2 xe xi xn xv).1.zE.cells.length:=
 xM (by rw[EQ hb.toS _ _ (lh q)];exact AO _ _ _ _ _) h
theorem nY {m:yE}{zT:Int}{q:yT}{xe xi xn xv:Int}(hb:OkM m)(h:(iQ m zT q (pR m.zI m.zE zT q.a (Wn.cy q).1).1 (pR m.zI m.zE zT q.a (Wn.cy q).1).2 xe xi xn xv).2.err=0):0<=q.a/\q.a<(iQ m zT q (pR m.zI m.zE zT q.a (Wn.cy q).1).1 (pR m.zI m.zE zT q.a (Wn.cy q).1).2 xe xi xn xv).1.zE.cells.length:=
 xM (by rw[yV hb.toS];exact wo _ _ _ _ _) h
theorem t175 (m:yE)(zT:Int)(q:yT):@Eq _ (ySp prog f175 1 300 [.ptr 0 0] [(0,.box (ed m zT q))] 1) (.zF ux (.zG 95 [⟨.zI,m.zI⟩,⟨.zE,m.zE⟩,⟨.int,zT⟩] [.int,.bool] λ(x:Int×Bool)=>bif decide (x.1<0)then .zF bX (.zG 98 [⟨.int,(131:Int)⟩,⟨.int,(0:Int)⟩] [.zM] λ(x:yH)=>.zF True (.ret ⟨[.agg (pC x)],[(0,.box (tC m zT q))],1⟩))else .zF V7 (.zG 15 [⟨.req,q⟩] [.int,.int] λ(x:Int×Int)=>bif q.kind==4 then .zF yp (.zG 236 [⟨.zI,m.zI⟩,⟨.zE,m.zE⟩,⟨.int,zT⟩,⟨.int,q.a⟩,⟨.int,q.b⟩,⟨.int,x.1⟩] [.zE,.int] λ(x_1:yC×Int)=>.zH 233 [.ptr 0 0,.agg (sC x_1.1),i64 x_1.2,.agg [i64 0,i64 0,i64 x.1,i64 0,nS]] [(0,.box (tC m zT q))] 1 [.model,.zM] (λ(a:yE×yH)=>yD.mk [.agg (pC a.2)] [(0,.box (tC a.1 zT q))] 1) λ(x:yE×yH)=>bif x.2.err==0 then .zH 174 [.ptr 0 0] [(0,.box (tC x.1 zT q))] 1 [.cell] (λ(a:Cell)=>yD.mk [.agg (cC a)] [(0,.box (tC x.1 zT q))] 1) λ(x_2:Cell)=>.zF True (.ret ⟨[.agg [i64 x.2.err,i64 x.2.id,i64 x.2.n,i64 x_2.ver,.d (.sl .change x.2.list)]],[(0,.box (tC x.1 zT q))],1⟩)else .zF True (.ret ⟨[.agg (pC x.2)],[(0,.box (tC x.1 zT q))],1⟩))else bif q.kind==5 then .zF uv (.zG 237 [⟨.zI,m.zI⟩,⟨.zE,m.zE⟩,⟨.int,zT⟩,⟨.int,q.a⟩,⟨.int,x.1⟩] [.zE,.int] λ(x_1:yC×Int)=>.zH 233 [.ptr 0 0,.agg (sC x_1.1),i64 x_1.2,.agg [i64 0,i64 0,i64 x.1,i64 0,nS]] [(0,.box (tC m zT q))] 1 [.model,.zM] (λ(a:yE×yH)=>yD.mk [.agg (pC a.2)] [(0,.box (tC a.1 zT q))] 1) λ(x:yE×yH)=>bif x.2.err==0 then .zH 174 [.ptr 0 0] [(0,.box (tC x.1 zT q))] 1 [.cell] (λ(a:Cell)=>yD.mk [.agg (cC a)] [(0,.box (tC x.1 zT q))] 1) λ(x_2:Cell)=>.zF True (.ret ⟨[.agg [i64 x.2.err,i64 x.2.id,i64 x.2.n,i64 x_2.ver,.d (.sl .change x.2.list)]],[(0,.box (tC x.1 zT q))],1⟩)else .zF True (.ret ⟨[.agg (pC x.2)],[(0,.box (tC x.1 zT q))],1⟩))else .zF uv (.zG 238 [⟨.zI,m.zI⟩,⟨.zE,m.zE⟩,⟨.int,zT⟩,⟨.int,q.a⟩,⟨.int,x.1⟩] [.zE,.int] λ(x_1:yC×Int)=>.zH 233 [.ptr 0 0,.agg (sC x_1.1),i64 x_1.2,.agg [i64 0,i64 0,i64 x.1,i64 0,nS]] [(0,.box (tC m zT q))] 1 [.model,.zM] (λ(a:yE×yH)=>yD.mk [.agg (pC a.2)] [(0,.box (tC a.1 zT q))] 1) λ(x:yE×yH)=>bif x.2.err==0 then .zH 174 [.ptr 0 0] [(0,.box (tC x.1 zT q))] 1 [.cell] (λ(a:Cell)=>yD.mk [.agg (cC a)] [(0,.box (tC x.1 zT q))] 1) λ(x_2:Cell)=>.zF True (.ret ⟨[.agg [i64 x.2.err,i64 x.2.id,i64 x.2.n,i64 x_2.ver,.d (.sl .change x.2.list)]],[(0,.box (tC x.1 zT q))],1⟩)else .zF True (.ret ⟨[.agg (pC x.2)],[(0,.box (tC x.1 zT q))],1⟩))))):=by kernel_rfl
theorem PC (m:yE)(zT:Int)(q:yT):@Eq _ (ySp prog f100 1 300 [.ptr 0 0] [(0,.box (ed m zT q))] 1) (bif q.kind==1 then .zH 168 [.ptr 0 0] [(0,.box (tC m zT q))] 1 [.model,.zM] (λ(a:yE×yH)=>yD.mk [.agg (pC a.2)] [(0,.box (tC a.1 zT q))] 1) λ(x:yE×yH)=>.zF True (.ret ⟨[.agg (pC x.2)],[(0,.box (tC x.1 zT q))],1⟩)else bif q.kind==2 then .zH 169 [.ptr 0 0] [(0,.box (tC m zT q))] 1 [.model,.zM] (λ(a:yE×yH)=>yD.mk [.agg (pC a.2)] [(0,.box (tC a.1 zT q))] 1) λ(x:yE×yH)=>.zF True (.ret ⟨[.agg (pC x.2)],[(0,.box (tC x.1 zT q))],1⟩)else bif q.kind==3 then .zH 170 [.ptr 0 0] [(0,.box (tC m zT q))] 1 [.model,.zM] (λ(a:yE×yH)=>yD.mk [.agg (pC a.2)] [(0,.box (tC a.1 zT q))] 1) λ(x:yE×yH)=>.zF True (.ret ⟨[.agg (pC x.2)],[(0,.box (tC x.1 zT q))],1⟩)else bif q.kind==7 then .zH 171 [.ptr 0 0] [(0,.box (tC m zT q))] 1 [.model,.zM] (λ(a:yE×yH)=>yD.mk [.agg (pC a.2)] [(0,.box (tC a.1 zT q))] 1) λ(x:yE×yH)=>.zF True (.ret ⟨[.agg (pC x.2)],[(0,.box (tC x.1 zT q))],1⟩)else bif q.kind==8 then .zH 172 [.ptr 0 0] [(0,.box (tC m zT q))] 1 [.model,.zM] (λ(a:yE×yH)=>yD.mk [.agg (pC a.2)] [(0,.box (tC a.1 zT q))] 1) λ(x:yE×yH)=>.zF True (.ret ⟨[.agg (pC x.2)],[(0,.box (tC x.1 zT q))],1⟩)else bif q.kind==10 then .zH 173 [.ptr 0 0] [(0,.box (tC m zT q))] 1 [.model,.zM] (λ(a:yE×yH)=>yD.mk [.agg (pC a.2)] [(0,.box (tC a.1 zT q))] 1) λ(x:yE×yH)=>.zF True (.ret ⟨[.agg (pC x.2)],[(0,.box (tC x.1 zT q))],1⟩)else bif q.kind==9 then .zH 174 [.ptr 0 0] [(0,.box (tC m zT q))] 1 [.cell] (λ(a:Cell)=>yD.mk [.agg (cC a)] [(0,.box (tC m zT q))] 1) λ(x:Cell)=>.zH 174 [.ptr 0 0] [(0,.box (tC m zT q))] 1 [.cell] (λ(a:Cell)=>yD.mk [.agg (cC a)] [(0,.box (tC m zT q))] 1) λ(x_1:Cell)=>.zF True (.ret ⟨[.agg [i64 0,i64 0,i64 x.zS,i64 x_1.ver,nS]],[(0,.box (tC m zT q))],1⟩)else .zH 175 [.ptr 0 0] [(0,.box (tC m zT q))] 1 [.model,.zM] (λ(a:yE×yH)=>yD.mk [.agg (pC a.2)] [(0,.box (tC a.1 zT q))] 1) λ(x:yE×yH)=>.zF True (.ret ⟨[.agg (pC x.2)],[(0,.box (tC x.1 zT q))],1⟩)):=by kernel_rfl
set_option maxRecDepth 20000
open Go.Proofs.Zn Go.Proofs.Mn
open Wn (dl bz)
def Cu (m:yE)(zT:Int)(q:yT):yE×yH:=bif decide ((m95 m.zI m.zE zT).1<0)then let y1:=m98 131 0;(m,y1)else bif (q.kind==4)then let y2:=pT m.zI m.zE zT q.a q.b (Wn.cy q).1;let y3:=iQ m zT q y2.1 y2.2 0 0 (Wn.cy q).1 0;bif (y3.2.err==0)then(y3.1,yH.mk y3.2.err y3.2.id y3.2.n (nG y3.1 zT q).ver y3.2.list)else(y3.1,y3.2)else bif (q.kind==5)then let y4:=pS m.zI m.zE zT q.a (Wn.cy q).1;let y5:=iQ m zT q y4.1 y4.2 0 0 (Wn.cy q).1 0;bif (y5.2.err==0)then(y5.1,yH.mk y5.2.err y5.2.id y5.2.n (nG y5.1 zT q).ver y5.2.list)else(y5.1,y5.2)else let y6:=pR m.zI m.zE zT q.a (Wn.cy q).1;let y7:=iQ m zT q y6.1 y6.2 0 0 (Wn.cy q).1 0;bif (y7.2.err==0)then(y7.1,yH.mk y7.2.err y7.2.id y7.2.n (nG y7.1 zT q).ver y7.2.list)else(y7.1,y7.2)
theorem c175 (m:yE)(zT:Int)(q:yT)(hb:OkM m)(hr:OkR q):Gc prog 175 [.ptr 0 0] [(0,.box (ed m zT q))] 1 ((λ x:yE×yH=>(⟨[.agg (gm x.2)],[(0,.box (ed x.1 zT q))],1⟩:yD)) (Cu m zT q)):=
 Gc.of_closed (C:=codes) (S:=sigs) mixed func175 (by kernel_rfl) oP λ A hA=>hA.go (t175 m zT q) (by
  generalize h:Cu m zT q=r at hA ⊢
  unfold Cu at h
  refine⟨⟨q5,q7,q2,tv⟩,_,c95 _ _ _ hb.toS,?_⟩
  refine aj h (λ g1 h=>?_) (λ g1 h=>?_)
  ·have g1:=oT g1
   exact⟨⟨q2,q2,tv⟩,_,c98 _ _,tv,(by rw[<-h];first|exact .of_eq rfl|exact dX _ _ _ _ _ _)⟩
  ·have g1:=oF g1
   refine⟨⟨q7,tv⟩,_,Wn.c15 hr.v0 hr.v1,?_⟩
   refine aj h (λ g2 h=>?_) (λ g2 h=>?_)
   ·try replace g2:=bo g2
    refine⟨⟨q5,q7,q2,q2,q2,q2,tv⟩,_,c236 _ _ _ _ _ _ hb.toS,iQ m zT q (pT m.zI m.zE zT q.a q.b (Wn.cy q).1).1 (pT m.zI m.zE zT q.a q.b (Wn.cy q).1).2 0 0 (Wn.cy q).1 0,La _ _ _ _ _ _ _ _ _,?_⟩
    refine aj h (λ g3 h=>?_) (λ g3 h=>?_)
    ·try replace g3:=bo g3
     exact⟨nG (iQ m zT q (pT m.zI m.zE zT q.a q.b (Wn.cy q).1).1 (pT m.zI m.zE zT q.a q.b (Wn.cy q).1).2 0 0 (Wn.cy q).1 0).1 zT q,HC _ _ _ (by first|assumption|exact(hi (by omega)).1|with_reducible exact qg hb (by assumption)|with_reducible exact qh hb (by assumption)|with_reducible exact nY hb (by assumption)),tv,(by rw[<-h];first|exact .of_eq rfl|exact dX _ _ _ _ _ _)⟩
    ·exact⟨tv,(by rw[<-h];first|exact .of_eq rfl|exact dX _ _ _ _ _ _)⟩
   ·refine aj h (λ g3 h=>?_) (λ g3 h=>?_)
    ·try replace g3:=bo g3
     refine⟨⟨q5,q7,q2,q2,q2,tv⟩,_,c237 _ _ _ _ _ hb.toS,iQ m zT q (pS m.zI m.zE zT q.a (Wn.cy q).1).1 (pS m.zI m.zE zT q.a (Wn.cy q).1).2 0 0 (Wn.cy q).1 0,La _ _ _ _ _ _ _ _ _,?_⟩
     refine aj h (λ g4 h=>?_) (λ g4 h=>?_)
     ·try replace g4:=bo g4
      exact⟨nG (iQ m zT q (pS m.zI m.zE zT q.a (Wn.cy q).1).1 (pS m.zI m.zE zT q.a (Wn.cy q).1).2 0 0 (Wn.cy q).1 0).1 zT q,HC _ _ _ (by first|assumption|exact(hi (by omega)).1|with_reducible exact qg hb (by assumption)|with_reducible exact qh hb (by assumption)|with_reducible exact nY hb (by assumption)),tv,(by rw[<-h];first|exact .of_eq rfl|exact dX _ _ _ _ _ _)⟩
     ·exact⟨tv,(by rw[<-h];first|exact .of_eq rfl|exact dX _ _ _ _ _ _)⟩
    ·refine⟨⟨q5,q7,q2,q2,q2,tv⟩,_,c238 _ _ _ _ _ hb.toS,iQ m zT q (pR m.zI m.zE zT q.a (Wn.cy q).1).1 (pR m.zI m.zE zT q.a (Wn.cy q).1).2 0 0 (Wn.cy q).1 0,La _ _ _ _ _ _ _ _ _,?_⟩
     refine aj h (λ g4 h=>?_) (λ g4 h=>?_)
     ·try replace g4:=bo g4
      exact⟨nG (iQ m zT q (pR m.zI m.zE zT q.a (Wn.cy q).1).1 (pR m.zI m.zE zT q.a (Wn.cy q).1).2 0 0 (Wn.cy q).1 0).1 zT q,HC _ _ _ (by first|assumption|exact(hi (by omega)).1|with_reducible exact qg hb (by assumption)|with_reducible exact qh hb (by assumption)|with_reducible exact nY hb (by assumption)),tv,(by rw[<-h];first|exact .of_eq rfl|exact dX _ _ _ _ _ _)⟩
     ·exact⟨tv,(by rw[<-h];first|exact .of_eq rfl|exact dX _ _ _ _ _ _)⟩)
def He (m:yE)(zT:Int)(q:yT):yE×yH:=bif (q.kind==1)then let y1:=Cw m zT q;(y1.1,y1.2)else bif (q.kind==2)then let y2:=Cv m zT q;(y2.1,y2.2)else bif (q.kind==3)then let y3:=Hd m zT q;(y3.1,y3.2)else bif (q.kind==7)then let y4:=Hc m zT q;(y4.1,y4.2)else bif (q.kind==8)then let y5:=Hb m zT q;(y5.1,y5.2)else bif (q.kind==10)then let y6:=Ha m zT q;(y6.1,y6.2)else bif (q.kind==9)then(m,yH.mk 0 0 (nG m zT q).zS (nG m zT q).ver [])else let y7:=Cu m zT q;(y7.1,y7.2)
theorem NJ (m:yE)(zT:Int)(q:yT)(hb:OkM m)(hr:OkR q)(hi:q.kind=9\/q.kind=10->(0<=q.a/\q.a<m.zE.cells.length)/\(0<=q.a/\q.a<m.zE.zL.length)):Gc prog 100 [.ptr 0 0] [(0,.box (ed m zT q))] 1 ((λ x:yE×yH=>(⟨[.agg (gm x.2)],[(0,.box (ed x.1 zT q))],1⟩:yD)) (He m zT q)):=
 Gc.of_closed (C:=codes) (S:=sigs) mixed func100 (by kernel_rfl) oP λ A hA=>hA.go (PC m zT q) (by
  generalize h:He m zT q=r at hA ⊢
  unfold He at h
  refine aj h (λ g1 h=>?_) (λ g1 h=>?_)
  ·try replace g1:=bo g1
   exact⟨Cw m zT q,c168 _ _ _ hb hr,tv,(by rw[<-h];first|exact .of_eq rfl|exact dX _ _ _ _ _ _)⟩
  ·refine aj h (λ g2 h=>?_) (λ g2 h=>?_)
   ·try replace g2:=bo g2
    exact⟨Cv m zT q,c169 _ _ _ hb hr,tv,(by rw[<-h];first|exact .of_eq rfl|exact dX _ _ _ _ _ _)⟩
   ·refine aj h (λ g3 h=>?_) (λ g3 h=>?_)
    ·try replace g3:=bo g3
     exact⟨Hd m zT q,c170 _ _ _ hb hr,tv,(by rw[<-h];first|exact .of_eq rfl|exact dX _ _ _ _ _ _)⟩
    ·refine aj h (λ g4 h=>?_) (λ g4 h=>?_)
     ·try replace g4:=bo g4
      exact⟨Hc m zT q,c171 _ _ _ hb hr,tv,(by rw[<-h];first|exact .of_eq rfl|exact dX _ _ _ _ _ _)⟩
     ·refine aj h (λ g5 h=>?_) (λ g5 h=>?_)
      ·try replace g5:=bo g5
       exact⟨Hb m zT q,c172 _ _ _ hb hr,tv,(by rw[<-h];first|exact .of_eq rfl|exact dX _ _ _ _ _ _)⟩
      ·refine aj h (λ g6 h=>?_) (λ g6 h=>?_)
       ·try replace g6:=bo g6
        exact⟨Ha m zT q,c173 _ _ _ hb hr (hi (.inr (by assumption))).1 (hi (.inr (by assumption))).2,tv,(by rw[<-h];first|exact .of_eq rfl|exact dX _ _ _ _ _ _)⟩
       ·refine aj h (λ g7 h=>?_) (λ g7 h=>?_)
        ·try replace g7:=bo g7
         exact⟨nG m zT q,HC _ _ _ (by first|assumption|exact(hi (by omega)).1|with_reducible exact qg hb (by assumption)|with_reducible exact qh hb (by assumption)|with_reducible exact nY hb (by assumption)),nG m zT q,HC _ _ _ (by first|assumption|exact(hi (by omega)).1|with_reducible exact qg hb (by assumption)|with_reducible exact qh hb (by assumption)|with_reducible exact nY hb (by assumption)),tv,(by rw[<-h];first|exact .of_eq rfl|exact dX _ _ _ _ _ _)⟩
        ·exact⟨Cu m zT q,c175 _ _ _ hb hr,tv,(by rw[<-h];first|exact .of_eq rfl|exact dX _ _ _ _ _ _)⟩)
theorem Av (m:yE)(l1:List (Option Nat))(l2:List yK)(l3:List yF)(l4:List Cell)(ls:List Log):∀ (n ix:Nat),n+ix<=ls.length->pP m l1 l2 l3 l4 n ix ls=xx m l1 l2 l3 l4 ls
 | 0,ix,_=>rfl
 | n + 1, ix, h => by
   unfold pP
   have e:ls.set ix (Log.mk (ls.getD ix Ty.zW.dflt).room (ls.getD ix Ty.zW.dflt).last (ls.getD ix Ty.zW.dflt).list)=ls:=jL (getD_some (by omega))
   show pP m l1 l2 l3 l4 n (ix+1) (ls.set ix (Log.mk (ls.getD ix Ty.zW.dflt).room (ls.getD ix Ty.zW.dflt).last (ls.getD ix Ty.zW.dflt).list))=_
   rw[e]
   exact Av m l1 l2 l3 l4 ls n (ix+1) (by omega)
theorem tG (m:yE)(l1:List (Option Nat))(l2:List yK)(ls:List yF):∀ (n ix:Nat),n+ix<=ls.length->pQ m l1 l2 n ix ls=Aw m l1 l2 ls
 | 0,ix,_=>rfl
 | n + 1, ix, h => by
   unfold pQ
   have e:ls.set ix (yF.mk (ls.getD ix Ty.zJ.dflt).rows (ls.getD ix Ty.zJ.dflt).zP (ls.getD ix Ty.zJ.dflt).x (ls.getD ix Ty.zJ.dflt).pitch (ls.getD ix Ty.zJ.dflt).reach (ls.getD ix Ty.zJ.dflt).cap (ls.getD ix Ty.zJ.dflt).start)=ls:=jL (getD_some (by omega))
   show pQ m l1 l2 n (ix+1) (ls.set ix (yF.mk (ls.getD ix Ty.zJ.dflt).rows (ls.getD ix Ty.zJ.dflt).zP (ls.getD ix Ty.zJ.dflt).x (ls.getD ix Ty.zJ.dflt).pitch (ls.getD ix Ty.zJ.dflt).reach (ls.getD ix Ty.zJ.dflt).cap (ls.getD ix Ty.zJ.dflt).start))=_
   rw[e]
   exact tG m l1 l2 ls n (ix+1) (by omega)
theorem Ck (m:yE):m85 m=m:=by
 have h1:m85 m=pQ m m.zI.zA m.zI.zC ((m.zI.zB.length:Int).toNat-0) 0 m.zI.zB:=rfl
 rw[h1,tG _ _ _ _ _ _ (by omega)]
 have h2:Aw m m.zI.zA m.zI.zC m.zI.zB=pP m m.zI.zA m.zI.zC m.zI.zB m.zE.cells ((m.zE.zL.length:Int).toNat-0) 0 m.zE.zL:=rfl
 rw[h2,Av _ _ _ _ _ _ _ _ (by omega)]
 rfl
theorem Hl {d:yA}{i:Int}(h:Wn.eG d i=1):0<=i/\i<br (aM d):=by
 unfold Wn.eG jZ at h
 cases h1:dw d != 0
 ·rw[h1,cF]at h
  by_cases h2:i<0
  ·rw[dT h2]at h;cases h
  rw[dF h2,cF]at h
  by_cases h3:i>=((dM d).length:Int)
  ·rw[dT h3]at h;cases h
  rw[dF h3,cF]at h
  refine⟨by omega,?_⟩
  have hp:=vy (ff (d:=d) (ah.1 h1)) (i:=i) (by omega) (by omega)
  rw[bi,hp]at h
  by_cases h4:i<br (aM d)
  ·exact h4
  rw[dF h4,cF]at h
  exfalso
  by_cases h5:i<br (aM d)+br (aU d)
  ·rw[dT h5,cT]at h
   have hk:∀ (l:List Go.VL.Box) (u n:Int),(iC 2 u l n).kind=2:=by
    intro l
    induction l with
    | nil=>intro u n;rfl
    | cons b l ih =>
      intro u n
      unfold iC
      cases decide (n<b.rows*b.zP)
      ·exact ih _ _
      ·rfl
   have:(iC 2 0 (aU d) (i-br (aM d))).kind=1:=h
   rw[hk]at this;cases this
  ·rw[dF h5,cF]at h;cases h
 ·rw[h1]at h;cases h
theorem HA {d:yA}{q:yT}(h:(Wn.bS d q).err=0)(hk:q.kind=9\/q.kind=10):Wn.eG d q.a=1:=by
 unfold Wn.bS at h
 cases h1:df d != 0
 case true=>rw[h1]at h;exact absurd h (by simpa[Wn.eX]using h1)
 rw[h1,cF]at h
 cases h2:(decide (q.kind<1)||decide (q.kind>10))
 case true=>rw[h2]at h;cases (show(150:Int)=0 from h)
 rw[h2,cF]at h
 cases h3 : !Wn.dy (Wn.fQ q) (Wn.flS q.kind)
 case true=>rw[h3]at h;cases (show(151:Int)=0 from h)
 rw[h3,cF]at h
 have hw:Wn.fc q=1:=by
  unfold Wn.fc
  rcases hk with e|e<;>rw[e]<;>rfl
 have hi:(Wn.flS q.kind).zU=false:=by rcases hk with e|e<;>rw[e]<;>rfl
 have ha:(Wn.flS q.kind).a=true:=by rcases hk with e|e<;>rw[e]<;>rfl
 rw[hi,cF]at h
 unfold Wn.fm at h
 rw[ha,hw,cn]at h
 cases h4:(Wn.eG d q.a != 1)
 ·exact ah.1 h4
 ·rw[h4]at h;cases (show(3:Int)=0 from h)
theorem CF {m:yE}{q:yT}(g1:(!m31 m)=false)(g4:(Wn.bS m.zI q).err=0):q.kind=9\/q.kind=10->(0<=q.a/\q.a<m.zE.cells.length)/\(0<=q.a/\q.a<m.zE.zL.length):=by
 intro hk
 have hw:=Hl (HA g4 hk)
 have g1:m31 m=true:=by simpa using g1
 unfold m31 at g1
 cases h1:((m.zD.length:Int) != w64 (w64 (Prod.fst (Zn.bx (yE.zI m))+Prod.fst (Prod.snd (Zn.bx (yE.zI m))))+Prod.snd (Prod.snd (Zn.bx (yE.zI m)))))
 case true=>rw[h1]at g1;cases g1
 rw[h1,cF]at g1
 cases h2:m91 m.zI m.zE
 ·rw[h2]at g1;cases g1
 obtain⟨_,hc,hl,_⟩:=kz h2
 omega
set_option maxRecDepth 20000
open Go.Proofs.Zn Go.Proofs.Mn
open Wn (dl bz)
def m37 (m:yE)(zT:Int)(q:yT):yE×yH:=bif (!(m31 m))then(yE.mk (yA.mk [] [] [] 0) (yC.mk [] [] [] 0 0 0) [],(m98 161 0))else bif decide (zT<1)then((m85 m),(m98 80 0))else bif decide (zT>(m85 m).zI.zO)then((m85 m),(m98 80 0))else bif ((Wn.bS (m85 m).zI q).err != 0)then((m85 m),(Wn.bS (m85 m).zI q))else bif (m99 (m85 m).zD (Wn.gp (m85 m).zI q) zT).2 then((m85 m),(m98 141 (m99 (m85 m).zD (Wn.gp (m85 m).zI q) zT).1))else let y1:=He (m85 m) zT q;(y1.1,y1.2)
theorem c37 (m:yE)(zT:Int)(q:yT)(hb:OkM m)(hr:OkR q):yJ prog 37 [⟨.model,m⟩,⟨.int,zT⟩,⟨.req,q⟩] [.model,.zM] (m37 m zT q):=
 pcl codes sigs func37 (by kernel_rfl) λ A hA=>hA.go (t37 m zT q) (by
  generalize h:m37 m zT q=r at hA ⊢
  unfold m37 at h
  refine⟨⟨q12,tv⟩,_,c31 _ hb,?_⟩
  refine aj h (λ g1 h=>?_) (λ g1 h=>?_)
  ·exact⟨⟨q2,q2,tv⟩,_,c98 _ _,⟨q12,tv,tv,tv,tv,tv,tv⟩,h⟩
  ·refine⟨⟨q12,tv⟩,_,c85 _ hb,?_⟩
   refine aj h (λ g2 h=>?_) (λ g2 h=>?_)
   ·have g2:=oT g2
    exact⟨⟨q2,q2,tv⟩,_,c98 _ _,⟨q12,tv,tv,tv,tv,tv,tv⟩,h⟩
   ·have g2:=oF g2
    refine aj h (λ g3 h=>?_) (λ g3 h=>?_)
    ·have g3:=oT g3
     exact⟨⟨q2,q2,tv⟩,_,c98 _ _,⟨q12,tv,tv,tv,tv,tv,tv⟩,h⟩
    ·have g3:=oF g3
     refine⟨⟨q5,q7,tv⟩,_,Wn.c18 hr.v0 hr.v1,?_⟩
     refine aj h (λ g4 h=>?_) (λ g4 h=>?_)
     ·exact⟨⟨q12,tv,tv,tv,tv,tv,tv⟩,h⟩
     ·try replace g4:=ah.1 g4
      refine⟨⟨q5,q7,tv⟩,_,Wn.c21 hr.v0 hr.v1 hr.zU,⟨q2,q2,q2,tv⟩,_,c99 _ _ _ (by have:=@Wn.SG (m85 m).zI q hr.zU;omega),?_⟩
      refine aj h (λ g5 h=>?_) (λ g5 h=>?_)
      ·exact⟨⟨q2,q2,tv⟩,_,c98 _ _,⟨q12,tv,tv,tv,tv,tv,tv⟩,h⟩
      ·exact⟨He (m85 m) zT q,NJ _ _ _ (by rw[Ck];exact hb) hr (by rw[Ck]at g4 ⊢;exact CF g1 g4),⟨q12,tv,tv,tv,tv,tv,tv⟩,h⟩)
theorem Ji {o:List Int}{w:Int}:(m39 o w).length<=o.length:=by rw[<-DM];exact DL
theorem wk {d:yA}{q:yT}(h:(Wn.bS d q).err=0):1<=q.kind/\q.kind<=10:=by
 unfold Wn.bS at h
 cases k1:df d != 0
 case true=>rw[k1]at h;exact absurd h (by simpa[Wn.eX]using k1)
 rw[k1,cF]at h
 cases k2:(decide (q.kind<1)||decide (q.kind>10))
 case true=>rw[k2]at h;cases (show(150:Int)=0 from h)
 simp only[Bool.or_eq_false_iff,cN]at k2
 omega
theorem idxR {m:yE}{q:yT}(hb:OkM m)(g1:(!m32 m)=false)(g4:(Wn.bS m.zI q).err=0)(hk:q.kind=9\/q.kind=10):(0<=q.a/\q.a<m.zE.cells.length)/\(0<=q.a/\q.a<m.zE.zL.length):=
 CF (by rw[oh hb];exact g1) g4 hk
set_option maxRecDepth 20000
open Go.Proofs.Zn Go.Proofs.Mn
open Wn (dl bz)
def dA (m:yE)(e i:Int):yE×yH:=(m,yH.mk e i 0 0 [])
def uW (m:yE)(o:List Int)(zT:Int):yE×yH:=(yE.mk m.zI m.zE o,yH.mk 0 0 (↑(m39 o zT).length:Int) 0 [])
def rY (m:yE)(zT:Int)(q:yT):yE×yH:=bif (q.kind==1)then bif decide ((↑(Zn.cP (m39 m.zD zT) (Zn.cV q.zU)).length:Int)>40)then let y1:=dA m 160 0;(y1.1,y1.2)else bif ((kH m.zD (Zn.cV q.zU) zT).2.2 != 0)then let y2:=dA m (kH m.zD (Zn.cV q.zU) zT).2.2 (kH m.zD (Zn.cV q.zU) zT).2.1;(y2.1,y2.2)else let y3:=uW m (kH m.zD (Zn.cV q.zU) zT).1 zT;(y3.1,y3.2)else bif ((jm m.zD (Zn.cV q.zU) zT).2.2 != 0)then let y4:=dA m (jm m.zD (Zn.cV q.zU) zT).2.2 (jm m.zD (Zn.cV q.zU) zT).2.1;(y4.1,y4.2)else let y5:=uW m (jm m.zD (Zn.cV q.zU) zT).1 zT;(y5.1,y5.2)
def nP (m:yE)(zT:Int)(q:yT):yE×yH:=bif decide ((m34 m zT)<0)then let y1:=dA m 131 0;(y1.1,y1.2)else bif (q.kind==4)then let y2:=lf m.zI m.zE zT q.a q.b (Wn.cy q).1;bif (y2.2 != 0)then let y3:=dA m y2.2 0;(y3.1,y3.2)else(yE.mk m.zI y2.1 m.zD,yH.mk 0 0 (Wn.cy q).1 (y2.1.cells.getD q.a.toNat Ty.cell.dflt).ver [])else bif (q.kind==5)then let y4:=jU m.zI m.zE zT q.a (Wn.cy q).1;bif (y4.2 != 0)then let y5:=dA m y4.2 0;(y5.1,y5.2)else(yE.mk m.zI y4.1 m.zD,yH.mk 0 0 (Wn.cy q).1 (y4.1.cells.getD q.a.toNat Ty.cell.dflt).ver [])else let y6:=jT m.zI m.zE zT q.a (Wn.cy q).1;bif (y6.2 != 0)then let y7:=dA m y6.2 0;(y7.1,y7.2)else(yE.mk m.zI y6.1 m.zD,yH.mk 0 0 (Wn.cy q).1 (y6.1.cells.getD q.a.toNat Ty.cell.dflt).ver [])
set_option maxRecDepth 20000
open Go.Proofs.Zn Go.Proofs.Mn
open Wn (dl bz)
def m38 (m:yE)(zT:Int)(q:yT):yE×yH:=bif (!(m32 m))then let y1:=dA (yE.mk (yA.mk [] [] [] 0) (yC.mk [] [] [] 0 0 0) []) 161 0;(y1.1,y1.2)else bif decide (zT<1)then let y2:=dA m 80 0;(y2.1,y2.2)else bif decide (zT>m.zI.zO)then let y3:=dA m 80 0;(y3.1,y3.2)else bif ((Wn.bS m.zI q).err != 0)then(m,(Wn.bS m.zI q))else bif (xE m.zD (Wn.gp m.zI q) zT).2 then let y4:=dA m 141 (xE m.zD (Wn.gp m.zI q) zT).1;(y4.1,y4.2)else bif (q.kind==1)then bif (q.kind==1)then let y5:=rY m zT q;(y5.1,y5.2)else bif (q.kind==3)then(yE.mk m.zI m.zE (jm m.zD (m39 m.zD zT) zT).1,yH.mk 0 0 (↑(m39 m.zD zT).length:Int) 0 [])else bif (q.kind==4)then bif (q.kind==4)then let y6:=nP m zT q;(y6.1,y6.2)else bif (q.kind==7)then bif ((gK m.zI m.zE zT q.a).2 != 0)then let y7:=dA m (gK m.zI m.zE zT q.a).2 0;(y7.1,y7.2)else(yE.mk m.zI (gK m.zI m.zE zT q.a).1 m.zD,yH.mk 0 q.a 0 0 [])else bif (q.kind==8)then bif ((gJ m.zI m.zE zT).2 != 0)then let y8:=dA m (gJ m.zI m.zE zT).2 0;(y8.1,y8.2)else(yE.mk m.zI (gJ m.zI m.zE zT).1 m.zD,yH.mk 0 (m34 m zT) 0 0 [])else bif (q.kind==9)then(m,yH.mk 0 0 (m.zE.cells.getD q.a.toNat Ty.cell.dflt).zS (m.zE.cells.getD q.a.toNat Ty.cell.dflt).ver [])else bif ((iS (m.zE.zL.getD q.a.toNat Ty.zW.dflt) q.ver).2 != 0)then let y9:=dA m (iS (m.zE.zL.getD q.a.toNat Ty.zW.dflt) q.ver).2 0;(y9.1,y9.2)else(m,yH.mk 0 0 0 (m.zE.zL.getD q.a.toNat Ty.zW.dflt).last (iS (m.zE.zL.getD q.a.toNat Ty.zW.dflt) q.ver).1)else bif (q.kind==5)then bif (q.kind==5)then let y10:=nP m zT q;(y10.1,y10.2)else bif (q.kind==7)then bif ((gK m.zI m.zE zT q.a).2 != 0)then let y11:=dA m (gK m.zI m.zE zT q.a).2 0;(y11.1,y11.2)else(yE.mk m.zI (gK m.zI m.zE zT q.a).1 m.zD,yH.mk 0 q.a 0 0 [])else bif (q.kind==8)then bif ((gJ m.zI m.zE zT).2 != 0)then let y12:=dA m (gJ m.zI m.zE zT).2 0;(y12.1,y12.2)else(yE.mk m.zI (gJ m.zI m.zE zT).1 m.zD,yH.mk 0 (m34 m zT) 0 0 [])else bif (q.kind==9)then(m,yH.mk 0 0 (m.zE.cells.getD q.a.toNat Ty.cell.dflt).zS (m.zE.cells.getD q.a.toNat Ty.cell.dflt).ver [])else bif ((iS (m.zE.zL.getD q.a.toNat Ty.zW.dflt) q.ver).2 != 0)then let y13:=dA m (iS (m.zE.zL.getD q.a.toNat Ty.zW.dflt) q.ver).2 0;(y13.1,y13.2)else(m,yH.mk 0 0 0 (m.zE.zL.getD q.a.toNat Ty.zW.dflt).last (iS (m.zE.zL.getD q.a.toNat Ty.zW.dflt) q.ver).1)else bif (q.kind==6)then let y14:=nP m zT q;(y14.1,y14.2)else bif (q.kind==7)then bif ((gK m.zI m.zE zT q.a).2 != 0)then let y15:=dA m (gK m.zI m.zE zT q.a).2 0;(y15.1,y15.2)else(yE.mk m.zI (gK m.zI m.zE zT q.a).1 m.zD,yH.mk 0 q.a 0 0 [])else bif (q.kind==8)then bif ((gJ m.zI m.zE zT).2 != 0)then let y16:=dA m (gJ m.zI m.zE zT).2 0;(y16.1,y16.2)else(yE.mk m.zI (gJ m.zI m.zE zT).1 m.zD,yH.mk 0 (m34 m zT) 0 0 [])else bif (q.kind==9)then(m,yH.mk 0 0 (m.zE.cells.getD q.a.toNat Ty.cell.dflt).zS (m.zE.cells.getD q.a.toNat Ty.cell.dflt).ver [])else bif ((iS (m.zE.zL.getD q.a.toNat Ty.zW.dflt) q.ver).2 != 0)then let y17:=dA m (iS (m.zE.zL.getD q.a.toNat Ty.zW.dflt) q.ver).2 0;(y17.1,y17.2)else(m,yH.mk 0 0 0 (m.zE.zL.getD q.a.toNat Ty.zW.dflt).last (iS (m.zE.zL.getD q.a.toNat Ty.zW.dflt) q.ver).1)else bif (q.kind==2)then let y18:=rY m zT q;(y18.1,y18.2)else bif (q.kind==3)then(yE.mk m.zI m.zE (jm m.zD (m39 m.zD zT) zT).1,yH.mk 0 0 (↑(m39 m.zD zT).length:Int) 0 [])else bif (q.kind==4)then bif (q.kind==4)then let y19:=nP m zT q;(y19.1,y19.2)else bif (q.kind==7)then bif ((gK m.zI m.zE zT q.a).2 != 0)then let y20:=dA m (gK m.zI m.zE zT q.a).2 0;(y20.1,y20.2)else(yE.mk m.zI (gK m.zI m.zE zT q.a).1 m.zD,yH.mk 0 q.a 0 0 [])else bif (q.kind==8)then bif ((gJ m.zI m.zE zT).2 != 0)then let y21:=dA m (gJ m.zI m.zE zT).2 0;(y21.1,y21.2)else(yE.mk m.zI (gJ m.zI m.zE zT).1 m.zD,yH.mk 0 (m34 m zT) 0 0 [])else bif (q.kind==9)then(m,yH.mk 0 0 (m.zE.cells.getD q.a.toNat Ty.cell.dflt).zS (m.zE.cells.getD q.a.toNat Ty.cell.dflt).ver [])else bif ((iS (m.zE.zL.getD q.a.toNat Ty.zW.dflt) q.ver).2 != 0)then let y22:=dA m (iS (m.zE.zL.getD q.a.toNat Ty.zW.dflt) q.ver).2 0;(y22.1,y22.2)else(m,yH.mk 0 0 0 (m.zE.zL.getD q.a.toNat Ty.zW.dflt).last (iS (m.zE.zL.getD q.a.toNat Ty.zW.dflt) q.ver).1)else bif (q.kind==5)then bif (q.kind==5)then let y23:=nP m zT q;(y23.1,y23.2)else bif (q.kind==7)then bif ((gK m.zI m.zE zT q.a).2 != 0)then let y24:=dA m (gK m.zI m.zE zT q.a).2 0;(y24.1,y24.2)else(yE.mk m.zI (gK m.zI m.zE zT q.a).1 m.zD,yH.mk 0 q.a 0 0 [])else bif (q.kind==8)then bif ((gJ m.zI m.zE zT).2 != 0)then let y25:=dA m (gJ m.zI m.zE zT).2 0;(y25.1,y25.2)else(yE.mk m.zI (gJ m.zI m.zE zT).1 m.zD,yH.mk 0 (m34 m zT) 0 0 [])else bif (q.kind==9)then(m,yH.mk 0 0 (m.zE.cells.getD q.a.toNat Ty.cell.dflt).zS (m.zE.cells.getD q.a.toNat Ty.cell.dflt).ver [])else bif ((iS (m.zE.zL.getD q.a.toNat Ty.zW.dflt) q.ver).2 != 0)then let y26:=dA m (iS (m.zE.zL.getD q.a.toNat Ty.zW.dflt) q.ver).2 0;(y26.1,y26.2)else(m,yH.mk 0 0 0 (m.zE.zL.getD q.a.toNat Ty.zW.dflt).last (iS (m.zE.zL.getD q.a.toNat Ty.zW.dflt) q.ver).1)else bif (q.kind==6)then let y27:=nP m zT q;(y27.1,y27.2)else bif (q.kind==7)then bif ((gK m.zI m.zE zT q.a).2 != 0)then let y28:=dA m (gK m.zI m.zE zT q.a).2 0;(y28.1,y28.2)else(yE.mk m.zI (gK m.zI m.zE zT q.a).1 m.zD,yH.mk 0 q.a 0 0 [])else bif (q.kind==8)then bif ((gJ m.zI m.zE zT).2 != 0)then let y29:=dA m (gJ m.zI m.zE zT).2 0;(y29.1,y29.2)else(yE.mk m.zI (gJ m.zI m.zE zT).1 m.zD,yH.mk 0 (m34 m zT) 0 0 [])else bif (q.kind==9)then(m,yH.mk 0 0 (m.zE.cells.getD q.a.toNat Ty.cell.dflt).zS (m.zE.cells.getD q.a.toNat Ty.cell.dflt).ver [])else bif ((iS (m.zE.zL.getD q.a.toNat Ty.zW.dflt) q.ver).2 != 0)then let y30:=dA m (iS (m.zE.zL.getD q.a.toNat Ty.zW.dflt) q.ver).2 0;(y30.1,y30.2)else(m,yH.mk 0 0 0 (m.zE.zL.getD q.a.toNat Ty.zW.dflt).last (iS (m.zE.zL.getD q.a.toNat Ty.zW.dflt) q.ver).1)
theorem t30 (a b:yE):@Eq _ (xSp prog f30 [.bool] 300 [⟨.model,a⟩,⟨.model,b⟩]) (.zF V7_7 (.zG 89 [⟨.zE,a.zE⟩,⟨.zE,b.zE⟩] [.bool] λ(x:Bool)=>bif x then .zF bX (.zG 20 [⟨.sl .int,a.zD⟩,⟨.sl .int,b.zD⟩] [.bool] λ(x:Bool)=>bif x then .zF HJ (.zG 90 [⟨.zI,a.zI⟩,⟨.zI,b.zI⟩] [.bool] λ(x:Bool)=>.zF U2 (.ret x))else .zF U2 (.ret false))else .zF U2 (.ret false))):=by kernel_rfl
def FB (s:yC)(i1:Int):AS:=mkS 35 [(1,.ptr 0 0),(3,i64 i1)] [(0,.box (sC s))] 1
theorem t82 (s:yC):@Eq _ (xSp prog f82 [.bool] 300 [⟨.zE,s⟩]) (bif decide ((s.cells.length:Int)>400)then .zF U2 (.ret true)else bif decide ((s.zL.length:Int)>400)then .zF U2 (.ret true)else bif decide ((s.zK.length:Int)>400)then .zF U2 (.ret true)else .stop (hd f82 0) (FB s 0)):=by kernel_rfl
theorem Rk (s:yC)(i1:Int):@Eq _ (xLp prog f82 [.bool] 300 0 (FB s i1)) (bif decide (i1<(s.zL.length:Int))then .zF (((0:Int)<=i1/\i1<(s.zL.length:Int))/\True) (bif decide ((↑(s.zL.getD i1.toNat (Ty.dflt .zW)).list.length:Int)>100)then .zF U2 (.ret true)else .stop (hd f82 0) (FB s (w64 (i1+1))))else .zF U2 (.ret false)):=by kernel_rfl
theorem t26 (m:yE):@Eq _ (xSp prog f26 [.bool] 300 [⟨.model,m⟩]) (.zF V5 (.zG 25 [⟨.zI,m.zI⟩] [.bool] λ(x:Bool)=>bif x then .zF U2 (.ret true)else .zF V7 (.zG 82 [⟨.zE,m.zE⟩] [.bool] λ(x:Bool)=>bif x then .zF U2 (.ret true)else .zF U2 (.ret (decide ((m.zD.length:Int)>1000)))))):=by kernel_rfl
def LK (x1:Int)(l1:List Fl)(l2:List yF)(l3:List yK)(i1:Int)(l4:List Cell)(l5:List Log)(l6:List Tip)(i2 i3 i4:Int)(l7:List Int):AS:=mkS 116 [(1,.ptr 0 0),(2,i64 x1),(3,.ptr 1 0)] [(0,.box [.d (.sl .zQ l1),.d (.sl .zJ l2),.d (.sl .zN l3),i64 i1,.d (.sl .cell l4),.d (.sl .zW l5),.d (.sl .zV l6),i64 i2,i64 i3,i64 i4,.d (.sl .int l7)]),(1,.box [i64 1,.d (.sl .int [(3:Int),(1:Int)]),i64 0,i64 0,i64 0,.d (.v (.int .u64 (0:Int)))])] 2
theorem t27:@Eq (Out (bc [.bool])) (bh prog codes sigs f27 (aS [.bool]) 0 ⟨[3],false⟩ 300 false (cB f27) (fB f27 [])) (.zF True (.zG 56 [] [.zI] λ(x:yA)=>.zF V5 (.zG 28 [⟨.zI,x⟩] [.model,.int] λ(x:yE×Int)=>.zF bX (.stop (rg f27 3) (mkS 116 [(1,.ptr 0 0),(2,i64 x.2),(3,.ptr 1 0)] [(0,.box (mC x.1)),(1,.box [i64 1,.own 2 .int,i64 0,i64 0,i64 0,.d (.v (.int .u64 0))]),(2,.row 3 .int [(3:Int),(1:Int)])] 3))))):=by kernel_rfl
theorem Rs (x1:Int)(l1:List Fl)(l2:List yF)(l3:List yK)(i1:Int)(l4:List Cell)(l5:List Log)(l6:List Tip)(i2 i3 i4:Int)(l7:List Int):@Eq (Out (bc [.bool])) (bh prog codes sigs f27 (aS [.bool]) 0 ⟨[3],false⟩ 300 true (rg f27 3) (LK x1 l1 l2 l3 i1 l4 l5 l6 i2 i3 i4 l7)) (.zF jH (.zG 37 [⟨.model,(yE.mk (yA.mk l1 l2 l3 i1) (yC.mk l4 l5 l6 i2 i3 i4) l7)⟩,⟨.int,(1:Int)⟩,Sigma.mk .req (yT.mk 1 [(3:Int),(1:Int)] 0 0 0 0)] [.model,.zM] λ(x:yE×yH)=>.zF jH (.zG 37 [⟨.model,x.1⟩,⟨.int,(2:Int)⟩,Sigma.mk .req (yT.mk 1 [(3:Int),(1:Int)] 0 0 0 0)] [.model,.zM] λ(x_1:yE×yH)=>.zF jH (.zG 37 [⟨.model,x_1.1⟩,⟨.int,(1:Int)⟩,Sigma.mk .req (yT.mk 3 [] 0 0 0 0)] [.model,.zM] λ(x_2:yE×yH)=>.zF gx (.zF jH (.zG 37 [⟨.model,x_2.1⟩,⟨.int,(2:Int)⟩,Sigma.mk .req (yT.mk 1 [(2:Int),(3:Int),(4:Int)] 0 0 0 0)] [.model,.zM] λ(x_3:yE×yH)=>.zF jH (.zG 37 [⟨.model,x_3.1⟩,⟨.int,(2:Int)⟩,Sigma.mk .req (yT.mk 7 [] 2 0 0 0)] [.model,.zM] λ(x_4:yE×yH)=>.zF jH (.zG 37 [⟨.model,x_4.1⟩,⟨.int,(2:Int)⟩,Sigma.mk .req (yT.mk 9 [] 0 0 0 0)] [.model,.zM] λ(x_5:yE×yH)=>bif x1==0 then bif x.2.err==0 then bif x.2.n==2 then bif x_1.2.err==140 then bif x_1.2.id==1 then bif x_2.2.n==2 then bif x_3.2.n==3 then bif x_4.2.err==0 then bif x_4.2.id==2 then bif x_5.2.n==40 then .zF V12 (.zG 31 [⟨.model,x_4.1⟩] [.bool] λ(x:Bool)=>bif x then .zF Fp (.zG 33 [⟨.model,x_4.1⟩,⟨.int,(2:Int)⟩] [.int] λ(x:Int)=>bif x==2 then .zF Fp (.zG 33 [⟨.model,x_4.1⟩,⟨.int,(1:Int)⟩] [.int] λ(x:Int)=>.zF U2 (.ret (x==(-1:Int))))else .zF U2 (.ret false))else .zF U2 (.ret false))else .zF U2 (.ret false)else .zF U2 (.ret false)else .zF U2 (.ret false)else .zF U2 (.ret false)else .zF U2 (.ret false)else .zF U2 (.ret false)else .zF U2 (.ret false)else .zF U2 (.ret false)else .zF U2 (.ret false)else .zF U2 (.ret false))))))))):=by kernel_rfl
def Dz (a b:yH):Bool:=decide (a=b)
theorem Tj {a b:yH}(hl:a.list.length<=1000000):yJ prog 17 [⟨.zM,a⟩,⟨.zM,b⟩] [.bool] (Dz a b):=Wn.c17 hl
instance (x:Int):Decidable (cD x):=by unfold cD;infer_instance
def SD (m:yE):Bool:=Nat.ble m.zI.zA.length 100000&&Nat.ble m.zI.zB.length 100000&&Nat.ble m.zI.zC.length 100000&&Nat.ble m.zE.cells.length 100000&&Nat.ble m.zE.zL.length 100000 &&
 Nat.ble m.zE.zK.length 100000&&Nat.ble m.zD.length 100000&&m.zI.zB.all (λ p=>Nat.ble p.start.length 100000)&&m.zE.zL.all (λ p=>Nat.ble p.list.length 100000)&&(m.zE.cells.map Cell.zS).all (λ x=>decide (cD x))
theorem pI {m:yE}(h:SD m=true):OkM m:=by
 unfold SD at h
 simp only[aO,bR,Nat.ble_eq,bC]at h
 obtain⟨⟨⟨⟨⟨⟨⟨⟨⟨h1,h2⟩,h3⟩,h4⟩,h5⟩,h6⟩,h7⟩,h8⟩,h9⟩,h10⟩:=h
 exact⟨by omega,by omega,by omega,by omega,by omega,by omega,by omega,λ p hp=>by have:=h8 p hp;omega,λ l hl=>by have:=h9 l hl;omega,λ x hx=>h10 x hx,by omega⟩
set_option maxRecDepth 20000
set_option maxHeartbeats 4000000
open Go.Proofs.Zn Go.Proofs.Mn
open Wn (dl bz)
def JD (x1:Int)(l1:List Fl)(l2:List yF)(l3:List yK)(i1:Int)(l4:List Cell)(l5:List Log)(l6:List Tip)(i2 i3 i4:Int)(l7:List Int) :Bool:=bif (x1==0)then bif ((m37 (yE.mk (yA.mk l1 l2 l3 i1) (yC.mk l4 l5 l6 i2 i3 i4) l7) 1 (yT.mk 1 [3,1] 0 0 0 0)).2.err==0)then bif ((m37 (yE.mk (yA.mk l1 l2 l3 i1) (yC.mk l4 l5 l6 i2 i3 i4) l7) 1 (yT.mk 1 [3,1] 0 0 0 0)).2.n==2)then bif ((m37 (m37 (yE.mk (yA.mk l1 l2 l3 i1) (yC.mk l4 l5 l6 i2 i3 i4) l7) 1 (yT.mk 1 [3,1] 0 0 0 0)).1 2 (yT.mk 1 [3,1] 0 0 0 0)).2.err==140)then bif ((m37 (m37 (yE.mk (yA.mk l1 l2 l3 i1) (yC.mk l4 l5 l6 i2 i3 i4) l7) 1 (yT.mk 1 [3,1] 0 0 0 0)).1 2 (yT.mk 1 [3,1] 0 0 0 0)).2.id==1)then bif ((m37 (m37 (m37 (yE.mk (yA.mk l1 l2 l3 i1) (yC.mk l4 l5 l6 i2 i3 i4) l7) 1 (yT.mk 1 [3,1] 0 0 0 0)).1 2 (yT.mk 1 [3,1] 0 0 0 0)).1 1 (yT.mk 3 [] 0 0 0 0)).2.n==2)then bif ((m37 (m37 (m37 (m37 (yE.mk (yA.mk l1 l2 l3 i1) (yC.mk l4 l5 l6 i2 i3 i4) l7) 1 (yT.mk 1 [3,1] 0 0 0 0)).1 2 (yT.mk 1 [3,1] 0 0 0 0)).1 1 (yT.mk 3 [] 0 0 0 0)).1 2 (yT.mk 1 [2,3,4] 0 0 0 0)).2.n==3)then bif ((m37 (m37 (m37 (m37 (m37 (yE.mk (yA.mk l1 l2 l3 i1) (yC.mk l4 l5 l6 i2 i3 i4) l7) 1 (yT.mk 1 [3,1] 0 0 0 0)).1 2 (yT.mk 1 [3,1] 0 0 0 0)).1 1 (yT.mk 3 [] 0 0 0 0)).1 2 (yT.mk 1 [2,3,4] 0 0 0 0)).1 2 (yT.mk 7 [] 2 0 0 0)).2.err==0)then bif ((m37 (m37 (m37 (m37 (m37 (yE.mk (yA.mk l1 l2 l3 i1) (yC.mk l4 l5 l6 i2 i3 i4) l7) 1 (yT.mk 1 [3,1] 0 0 0 0)).1 2 (yT.mk 1 [3,1] 0 0 0 0)).1 1 (yT.mk 3 [] 0 0 0 0)).1 2 (yT.mk 1 [2,3,4] 0 0 0 0)).1 2 (yT.mk 7 [] 2 0 0 0)).2.id==2)then bif ((m37 (m37 (m37 (m37 (m37 (m37 (yE.mk (yA.mk l1 l2 l3 i1) (yC.mk l4 l5 l6 i2 i3 i4) l7) 1 (yT.mk 1 [3,1] 0 0 0 0)).1 2 (yT.mk 1 [3,1] 0 0 0 0)).1 1 (yT.mk 3 [] 0 0 0 0)).1 2 (yT.mk 1 [2,3,4] 0 0 0 0)).1 2 (yT.mk 7 [] 2 0 0 0)).1 2 (yT.mk 9 [] 0 0 0 0)).2.n==40)then bif (m31 (m37 (m37 (m37 (m37 (m37 (yE.mk (yA.mk l1 l2 l3 i1) (yC.mk l4 l5 l6 i2 i3 i4) l7) 1 (yT.mk 1 [3,1] 0 0 0 0)).1 2 (yT.mk 1 [3,1] 0 0 0 0)).1 1 (yT.mk 3 [] 0 0 0 0)).1 2 (yT.mk 1 [2,3,4] 0 0 0 0)).1 2 (yT.mk 7 [] 2 0 0 0)).1)then bif ((m33 (m37 (m37 (m37 (m37 (m37 (yE.mk (yA.mk l1 l2 l3 i1) (yC.mk l4 l5 l6 i2 i3 i4) l7) 1 (yT.mk 1 [3,1] 0 0 0 0)).1 2 (yT.mk 1 [3,1] 0 0 0 0)).1 1 (yT.mk 3 [] 0 0 0 0)).1 2 (yT.mk 1 [2,3,4] 0 0 0 0)).1 2 (yT.mk 7 [] 2 0 0 0)).1 2)==2)then(m33 (m37 (m37 (m37 (m37 (m37 (yE.mk (yA.mk l1 l2 l3 i1) (yC.mk l4 l5 l6 i2 i3 i4) l7) 1 (yT.mk 1 [3,1] 0 0 0 0)).1 2 (yT.mk 1 [3,1] 0 0 0 0)).1 1 (yT.mk 3 [] 0 0 0 0)).1 2 (yT.mk 1 [2,3,4] 0 0 0 0)).1 2 (yT.mk 7 [] 2 0 0 0)).1 1)==(-1:Int)else false else false else false else false else false else false else false else false else false else false else false else false
theorem GW (x1:Int)(l1:List Fl)(l2:List yF)(l3:List yK)(i1:Int)(l4:List Cell)(l5:List Log)(l6:List Tip)(i2 i3 i4:Int)(l7:List Int)  (hM:yE.mk (yA.mk l1 l2 l3 i1) (yC.mk l4 l5 l6 i2 i3 i4) l7=(m28 Wn.D14).1){r:Bool}{A:Pr}(hA:CL codes sigs f27 [.bool] r A)(h:JD x1 l1 l2 l3 i1 l4 l5 l6 i2 i3 i4 l7=r):A (rg f27 3) (LK x1 l1 l2 l3 i1 l4 l5 l6 i2 i3 i4 l7):=by
 refine hA.go (Rs x1 l1 l2 l3 i1 l4 l5 l6 i2 i3 i4 l7) ?_
 unfold JD at h
 refine⟨⟨q12,q2,q7,tv⟩,_,c37 _ _ _ (pI (by rw[hM];kernel_rfl)) ⟨by decide,by decide,by decide⟩,⟨q12,q2,q7,tv⟩,_,c37 _ _ _ (pI (by rw[hM];kernel_rfl)) ⟨by decide,by decide,by decide⟩,⟨q12,q2,q7,tv⟩,_,c37 _ _ _ (pI (by rw[hM];kernel_rfl)) ⟨by decide,by decide,by decide⟩,⟨q2,q2,q2,tv⟩,⟨q12,q2,q7,tv⟩,_,c37 _ _ _ (pI (by rw[hM];kernel_rfl)) ⟨by decide,by decide,by decide⟩,⟨q12,q2,q7,tv⟩,_,c37 _ _ _ (pI (by rw[hM];kernel_rfl)) ⟨by decide,by decide,by decide⟩,⟨q12,q2,q7,tv⟩,_,c37 _ _ _ (pI (by rw[hM];kernel_rfl)) ⟨by decide,by decide,by decide⟩,?_⟩
 refine aj h (λ g1 h=>?_) (λ g1 h=>?_)
 ·try replace g1:=bo g1
  refine aj h (λ g2 h=>?_) (λ g2 h=>?_)
  ·try replace g2:=bo g2
   refine aj h (λ g3 h=>?_) (λ g3 h=>?_)
   ·try replace g3:=bo g3
    refine aj h (λ g4 h=>?_) (λ g4 h=>?_)
    ·try replace g4:=bo g4
     refine aj h (λ g5 h=>?_) (λ g5 h=>?_)
     ·try replace g5:=bo g5
      refine aj h (λ g6 h=>?_) (λ g6 h=>?_)
      ·try replace g6:=bo g6
       refine aj h (λ g7 h=>?_) (λ g7 h=>?_)
       ·try replace g7:=bo g7
        refine aj h (λ g8 h=>?_) (λ g8 h=>?_)
        ·try replace g8:=bo g8
         refine aj h (λ g9 h=>?_) (λ g9 h=>?_)
         ·try replace g9:=bo g9
          refine aj h (λ g10 h=>?_) (λ g10 h=>?_)
          ·try replace g10:=bo g10
           refine⟨⟨q12,tv⟩,_,c31 _ (pI (by rw[hM];kernel_rfl)),?_⟩
           refine aj h (λ g11 h=>?_) (λ g11 h=>?_)
           ·refine⟨⟨q12,q2,tv⟩,_,c33 _ _ (pI (by rw[hM];kernel_rfl)),?_⟩
            refine aj h (λ g12 h=>?_) (λ g12 h=>?_)
            ·try replace g12:=bo g12
             exact⟨⟨q12,q2,tv⟩,_,c33 _ _ (pI (by rw[hM];kernel_rfl)),q2,h⟩
            ·try replace g12:=aH.1 g12
             exact⟨q2,h⟩
           ·exact⟨q2,h⟩
          ·try replace g10:=aH.1 g10
           exact⟨q2,h⟩
         ·try replace g9:=aH.1 g9
          exact⟨q2,h⟩
        ·try replace g8:=aH.1 g8
         exact⟨q2,h⟩
       ·try replace g7:=aH.1 g7
        exact⟨q2,h⟩
      ·try replace g6:=aH.1 g6
       exact⟨q2,h⟩
     ·try replace g5:=aH.1 g5
      exact⟨q2,h⟩
    ·try replace g4:=aH.1 g4
     exact⟨q2,h⟩
   ·try replace g3:=aH.1 g3
    exact⟨q2,h⟩
  ·try replace g2:=aH.1 g2
   exact⟨q2,h⟩
 ·try replace g1:=aH.1 g1
  exact⟨q2,h⟩
def m27 :Bool:=JD (m28 Wn.D14).2 (m28 Wn.D14).1.zI.zA (m28 Wn.D14).1.zI.zB (m28 Wn.D14).1.zI.zC (m28 Wn.D14).1.zI.zO (m28 Wn.D14).1.zE.cells (m28 Wn.D14).1.zE.zL (m28 Wn.D14).1.zE.zK (m28 Wn.D14).1.zE.start (m28 Wn.D14).1.zE.zR (m28 Wn.D14).1.zE.out (m28 Wn.D14).1.zD
theorem c27  :yJ prog 27 [] [.bool] (m27 ):=
 pcl codes sigs func27 (by kernel_rfl) λ A hA=>hA.go (t27 ) (by
  generalize h:m27 =r at hA ⊢
  unfold m27 at h
  refine⟨tv,_,Wn.c56,⟨q5,tv⟩,_,c28 _,⟨q2,q2,tv⟩,?_⟩
  refine hA.frz 2 (by kernel_rfl) (s':=LK (m28 Wn.D14).2 (m28 Wn.D14).1.zI.zA (m28 Wn.D14).1.zI.zB (m28 Wn.D14).1.zI.zC (m28 Wn.D14).1.zI.zO (m28 Wn.D14).1.zE.cells (m28 Wn.D14).1.zE.zL (m28 Wn.D14).1.zE.zK (m28 Wn.D14).1.zE.start (m28 Wn.D14).1.zE.zR (m28 Wn.D14).1.zE.out (m28 Wn.D14).1.zD) (by kernel_rfl) ?_
  exact GW (m28 Wn.D14).2 (m28 Wn.D14).1.zI.zA (m28 Wn.D14).1.zI.zB (m28 Wn.D14).1.zI.zC (m28 Wn.D14).1.zI.zO (m28 Wn.D14).1.zE.cells (m28 Wn.D14).1.zE.zL (m28 Wn.D14).1.zE.zK (m28 Wn.D14).1.zE.start (m28 Wn.D14).1.zE.zR (m28 Wn.D14).1.zE.out (m28 Wn.D14).1.zD rfl hA  h)
theorem PX:m27=true:=by kernel_rfl
theorem vd:yJ prog 27 [] [.bool] true:=by
 have h:=c27
 rw[PX]at h
 exact h
set_option maxRecDepth 20000
open Go.Proofs.Zn Go.Proofs.Mn
open Wn (dl bz)
def tH :List Log->Nat->Bool
 | [],ix=>false
 | z::zs,ix=>bif decide ((↑(z).list.length:Int)>100)then true else tH zs (ix+1)
theorem vV (s:yC)(hl:s.zL.length<=1000)  {r:Bool}{A:Pr}(hA:CL codes sigs f82 [.bool] r A)(ix:Nat)(h:tH (List.drop ix s.zL) ix=r):A (hd f82 0) (FB s (ix:Int)):=by
 refine hA.go (Rk s (ix:Int)) (ae (λ h1=>?_) (λ h1=>?_))
 ·have h1:=oT h1
  have hil:ix<s.zL.length:=by omega
  rw[be hil Ty.zW.dflt,tH]at h
  refine⟨⟨⟨(by omega),(by omega)⟩,tv⟩,?_⟩
  refine aj h (λ g1 h=>?_) (λ g1 h=>?_)
  ·have g1:=oT g1
   exact⟨q2,h⟩
  ·have g1:=oF g1
   rw[aq (by omega)]
   exact vV s hl  hA (ix+1) h
 ·have h1:=oF h1
  rw[dN (by omega),tH]at h
  exact⟨q2,h⟩
termination_by s.zL.length-ix
decreasing_by all_goals omega
def m82 (s:yC):Bool:=bif decide ((s.cells.length:Int)>400)then true else bif decide ((s.zL.length:Int)>400)then true else bif decide ((s.zK.length:Int)>400)then true else tH s.zL 0
theorem c82 (s:yC) :yJ prog 82 [⟨.zE,s⟩] [.bool] (m82 s):=
 pcl codes sigs func82 (by kernel_rfl) λ A hA=>hA.go (t82 s) (by
  generalize h:m82 s=r at hA ⊢
  unfold m82 at h
  refine aj h (λ g1 h=>?_) (λ g1 h=>?_)
  ·have g1:=oT g1
   exact⟨q2,h⟩
  ·have g1:=oF g1
   refine aj h (λ g2 h=>?_) (λ g2 h=>?_)
   ·have g2:=oT g2
    exact⟨q2,h⟩
   ·have g2:=oF g2
    refine aj h (λ g3 h=>?_) (λ g3 h=>?_)
    ·have g3:=oT g3
     exact⟨q2,h⟩
    ·have g3:=oF g3
     exact vV s (by omega)  hA 0 h)
def m26 (m:yE):Bool:=bif (Zn.tP m.zI)then true else bif (m82 m.zE)then true else decide ((m.zD.length:Int)>1000)
theorem c26 (m:yE) :yJ prog 26 [⟨.model,m⟩] [.bool] (m26 m):=
 pcl codes sigs func26 (by kernel_rfl) λ A hA=>hA.go (t26 m) (by
  generalize h:m26 m=r at hA ⊢
  unfold m26 at h
  refine⟨⟨q5,tv⟩,_,Zn.c37 _,?_⟩
  refine aj h (λ g1 h=>?_) (λ g1 h=>?_)
  ·exact⟨q2,h⟩
  ·refine⟨⟨q7,tv⟩,_,c82 _,?_⟩
   refine aj h (λ g2 h=>?_) (λ g2 h=>?_)
   ·exact⟨q2,h⟩
   ·exact⟨q2,h⟩)
set_option maxRecDepth 20000
open Go.Proofs.Zn Go.Proofs.Mn
open Wn (dl bz)
def m30 (a b:yE):Bool:=bif (m89 a.zE b.zE)then bif (eqL a.zD b.zD)then(m90 a.zI b.zI)else false else false
theorem c30 (a b:yE)(hs:a.zE.cells.length<=1000/\a.zE.zL.length<=1000/\a.zE.zK.length<=1000)(hg:∀ x∈a.zE.zL,x.list.length<=1000000)(ho:a.zD.length<=1000000)(hd:a.zI.zA.length<=1000/\a.zI.zB.length<=1000/\a.zI.zC.length<=1000/\∀ p∈a.zI.zB,p.start.length<=1000000):yJ prog 30 [⟨.model,a⟩,⟨.model,b⟩] [.bool] (m30 a b):=
 pcl codes sigs func30 (by kernel_rfl) λ A hA=>hA.go (t30 a b) (by
  generalize h:m30 a b=r at hA ⊢
  unfold m30 at h
  refine⟨⟨q7,q7,tv⟩,_,c89 _ _ hs hg,?_⟩
  refine aj h (λ g1 h=>?_) (λ g1 h=>?_)
  ·refine⟨⟨q2,q2,tv⟩,_,Zn.c50 ho,?_⟩
   refine aj h (λ g2 h=>?_) (λ g2 h=>?_)
   ·exact⟨⟨q5,q5,tv⟩,_,c90 _ _ hd,q2,h⟩
   ·exact⟨q2,h⟩
  ·exact⟨q2,h⟩)
theorem mi {c x:Bool}(h:(bif c then true else x)=false):c=false/\x=false:=by
 cases c
 ·exact⟨rfl,h⟩
 ·cases h
theorem JX:∀ {l:List Log} {k:Nat},tH l k=false->∀ x∈l,x.list.length<=100
 | [],_,_,x,hx=>by simp at hx
 | z :: l, k, h, x, hx => by
   unfold tH at h
   obtain⟨h1,h2⟩:=mi h
   rcases aB.1 hx with e|hx
   ·subst e;have:=oF h1;omega
   ·exact JX h2 x hx
theorem zh:∀ {l:List yF},og l=false->∀ p∈l,p.start.length<=100000
 | [],_,p,hp=>by simp at hp
 | z :: l, h, p, hp => by
   unfold og at h
   obtain⟨h1,h2⟩:=mi h
   rcases aB.1 hp with e|hp
   ·subst e;have:=oF h1;omega
   ·exact zh h2 p hp
theorem ok26 {m:yE}(hf:kS (m.zE.cells.map Cell.zS))(h:m26 m=false):OkM m:=by
 unfold m26 at h
 obtain⟨h1,h⟩:=mi h
 obtain⟨h2,h3⟩:=mi h
 unfold tP at h1
 obtain⟨a1,h1⟩:=mi h1
 obtain⟨a2,h1⟩:=mi h1
 obtain⟨a3,h1⟩:=mi h1
 unfold m82 at h2
 obtain⟨b1,h2⟩:=mi h2
 obtain⟨b2,h2⟩:=mi h2
 obtain⟨b3,h2⟩:=mi h2
 have a1:=oF a1
 have a2:=oF a2
 have a3:=oF a3
 have b1:=oF b1
 have b2:=oF b2
 have b3:=oF b3
 have h3:=oF h3
 exact⟨by omega,by omega,by omega,by omega,by omega,by omega,by omega,λ p hp=>by have:=zh h1 p hp;omega,λ l hl=>by have:=JX h2 l hl;omega,hf,by omega⟩
theorem ov {α:Type}{l:List α}{ix:Nat}{z d:α}{zs:List α}(h:z::zs=l.drop ix):l.getD ix d=z/\zs=l.drop (ix+1):=by
 constructor
 ·rw[bi,<-ng,<-h];rfl
 ·rw[<-List.tail_drop,<-h];rfl
theorem Ss (l:List Fl):∀ (zs:List Fl) (ix:Nat),zs=l.drop ix->nO l zs ix=true
 | [],_,_=>rfl
 | z :: zs, ix, h => by
   obtain⟨h1,h2⟩:=ov (d:=Ty.dflt Ty.zQ) h
   unfold nO
   rw[h1,Ss l zs (ix+1) h2]
   cases hc:(Fl.cmp z z==some Ordering.eq)
   ·rw[show(Fl.cmp z z != some Ordering.eq)=true by simp[bne,hc]];rfl
   ·rfl
theorem PJ (l:List Fl):AC l l=true:=by
 unfold AC
 rw[Ss l l 0 rfl];simp
theorem Oe (d:yA):∀ (zs:List yK) (ix:Nat),zs=d.zC.drop ix->tA d zs ix=true
 | [],_,_=>rfl
 | z :: zs, ix, h => by
   obtain⟨h1,h2⟩:=ov (d:=Ty.dflt Ty.zN) h
   unfold tA
   rw[h1,Oe d zs (ix+1) h2,PJ];simp
theorem Of (d:yA):∀ (zs:List yF) (ix:Nat),zs=d.zB.drop ix->tB d d zs ix=true
 | [],_,_=>Oe d d.zC 0 rfl
 | z :: zs, ix, h => by
   obtain⟨h1,h2⟩:=ov (d:=Ty.dflt Ty.zJ) h
   unfold tB
   rw[h1,Of d zs (ix+1) h2,PJ];simp[eqL]
theorem r90 (d:yA):m90 d d=true:=by
 unfold m90
 rw[PJ,Of d d.zB 0 rfl];simp
theorem Og (s:yC):∀ (zs:List Tip) (ix:Nat),zs=s.zK.drop ix->tD s zs ix=true
 | [],_,_=>rfl
 | z :: zs, ix, h => by
   obtain⟨h1,h2⟩:=ov (d:=Ty.dflt Ty.zV) h
   unfold tD
   rw[h1,Og s zs (ix+1) h2];simp
theorem Oh (s:yC):∀ (zs:List Log) (ix:Nat),zs=s.zL.drop ix->tE s s zs ix=true
 | [],_,_=>Og s s.zK 0 rfl
 | z :: zs, ix, h => by
   obtain⟨h1,h2⟩:=ov (d:=Ty.dflt Ty.zW) h
   unfold tE
   rw[h1,Oh s zs (ix+1) h2];simp[Ku]
theorem Oi (s:yC):∀ (zs:List Cell) (ix:Nat),zs=s.cells.drop ix->tF s s zs ix=true
 | [],_,_=>Oh s s.zL 0 rfl
 | z :: zs, ix, h => by
   obtain⟨h1,h2⟩:=ov (d:=Ty.dflt Ty.cell) h
   unfold tF
   rw[h1,Oi s zs (ix+1) h2];simp
theorem r89 (s:yC):m89 s s=true:=by
 unfold m89
 rw[Oi s s.cells 0 rfl];simp
theorem r30 (m:yE):m30 m m=true:=by
 unfold m30
 rw[r89,r90];simp[eqL]
def rU (w:Int):List Int->Nat->List Int
 | [],_=>[]
 | z::zs,k=>bif z==w then(k:Int)::rU w zs (k+1)else rU w zs (k+1)
theorem Ca (w:Int):∀ (l:List Int) (k:Nat) (acc:List Int),nC w l k acc=acc++rU w l k
 | [],k,acc=>by simp[nC,rU]
 | z :: l, k, acc => by
   unfold nC rU
   rw[Ca w l,Ca w l]
   cases z==w
   ·rfl
   ·simp only[cT,bk,iW]
theorem pH (w:Int):∀ (l:List Int) (k:Nat) (x:Int),x∈rU w l k↔∃ i:Nat,l[i]?=some w/\x=((k+i:Nat):Int)
 | [],k,x=>by simp[rU]
 | z :: l, k, x => by
   have ih:=pH w l (k+1) x
   unfold rU
   cases h:z==w
   ·have hz:z≠w:=by simpa using h
    rw[cF,ih]
    constructor
    ·rintro⟨i,h1,h2⟩;exact⟨i+1,by simpa using h1,by omega⟩
    ·rintro⟨i,h1,h2⟩
     cases i with
     | zero=>simp at h1;exact absurd h1 hz
     | succ i=>exact⟨i,by simpa using h1,by omega⟩
   ·have hz:z=w:=by simpa using h
    rw[cT,aB,ih]
    constructor
    ·rintro(h1|⟨i,h1,h2⟩)
     ·exact⟨0,by simp[hz],by omega⟩
     ·exact⟨i+1,by simpa using h1,by omega⟩
    ·rintro⟨i,h1,h2⟩
     cases i with
     | zero=>exact .inl (by omega)
     | succ i=>exact .inr ⟨i,by simpa using h1,by omega⟩
theorem PM {w:Int}{l:List Int}{k:Nat}{x:Int}(h:x∈rU w l k):(k:Int)<=x:=by
 obtain⟨i,_,h2⟩:=(pH w l k x).1 h
 omega
theorem ma (w:Int):∀ (l:List Int) (k:Nat),jP (rU w l k)
 | [],_=>.nil
 | z :: l, k => by
   unfold rU
   cases z==w
   ·exact ma w l (k+1)
   ·exact .cons (λ x hx=>by have:=PM hx;omega) (ma w l (k+1))
theorem qI (o:List Int)(w:Int):m39 o w=rU w o 0:=by
 unfold m39;rw[Ca];rfl
theorem EZ {old:Int}(h0:0<=old):∀ (l:List yM) (i:Nat),rZ old l i=true->old+i+l.length<=2147483647->∀ (k:Nat) (c:yM),l[k]?=some c->c.ver=old+1+i+k
 | [],_,_,_,k,c,hc=>by simp at hc
 | x :: l, i, h, hl, k, c, hc => by
   simp only[af]at hl
   unfold rZ at h
   rw[an (n:=old+1) (by omega) (by omega),an (by omega) (by omega)]at h
   cases h1:(x.ver != old+1+(i:Int))
   ·rw[h1,cF]at h
    cases h2:(!mO x.by' x.n)
    ·rw[h2,cF]at h
     cases k with
     | zero =>
       simp only[bp,ag]at hc
       subst hc
       have:x.ver=old+1+(i:Int):=ah.1 h1
       omega
     | succ k =>
       have:=EZ h0 l (i+1) h (by omega) k c (by simpa using hc)
       omega
    ·rw[h2]at h;cases h
   ·rw[h1]at h;cases h
theorem sO (l:Log)(v:Int):∀ (zs:List yM) (ix:Nat) (acc:List yM),qN l v zs ix acc=(let r:=acc++zs.filter (λ z=>decide (z.ver>v));bif ((r.length:Int) != w64 (l.last-v))then([],111)else(r,0))
 | [],ix,acc=>by simp[qN]
 | z :: zs, ix, acc => by
   unfold qN
   rw[sO l v zs,sO l v zs]
   cases h:decide (z.ver>v)
   ·simp[h]
   ·simp[h]
theorem rG (v a:Int):∀ (l:List yM),(∀ (k:Nat) (c:yM),l[k]?=some c->c.ver=a+1+k)->a<=v->l.filter (λ z=>decide (z.ver>v))=l.drop (v-a).toNat
 | [],_,_=>by simp
 | x :: l, h, hv => by
   have hx:=h 0 x rfl
   by_cases he:v=a
   ·subst he
    rw[show(v-v).toNat=0 by omega,bE,List.filter_eq_self]
    intro c hc
    obtain⟨k,hk⟩:=dQ.1 hc
    have:=h k c hk
    exact dT (by omega)
   ·have ih:=rG v (a+1) l (λ k c hc=>by have:=h (k+1) c (by simpa using hc);omega) (by omega)
    rw[List.filter_cons,show decide (x.ver>v)=false from dF (by omega),aF (by simp),ih,show(v-a).toNat=(v-(a+1)).toNat+1 by omega,List.drop_succ_cons]
theorem pD (l:Log)(v:Int):tL l v=iS l v:=by
 unfold tL iS
 cases hl : !gL l
 case true=>rfl
 rw[cF,cF]
 cases h1:decide (v<0)
 case true=>rfl
 rw[cF,cF]
 cases h2:decide (v>l.last)
 case true=>rfl
 rw[cF,cF,sO]
 obtain⟨ho,ho0,hl1,hl2,hl3,hl4,hl5,hl6⟩:=gV hl
 have h1:=oF h1
 have h2:=oF h2
 have hc:=(kp (nf hl)).2.2.2.2.2.2
 have hv:=EZ ho0 l.list 0 hc (by omega)
 simp only[fS]
 rw[an (n:=l.last-v) (by omega) (by omega)]
 by_cases h3:v<kC l
 ·rw[dT h3,cT]
  have hlen:(l.list.filter λ z=>decide (z.ver>v)).length<=l.list.length:=ge _ _
  rw[show(((l.list.filter λ z=>decide (z.ver>v)).length:Int) != l.last-v)=true from cK.2 (by omega)]
  rfl
 ·rw[dF h3,cF,an (by omega) (by omega)]
  rw[rG v (kC l) l.list (λ k c h=>by have:=hv k c h;omega) (by omega)]
  rw[show(((l.list.drop (v-kC l).toNat).length:Int) != l.last-v)=false from ah.2 (by rw[aL];omega)]
  rfl
def Fo (f c:Cell)(l:Log):Prop:=dm c=true/\c.cap=f.cap/\gL l=true/\l.room=8/\l.last=c.ver
theorem oU:∀ (fs cs:List Cell) (ls:List Log),fs.length=cs.length->ls.length=cs.length ->
  (eI fs cs ls=true↔∀ (i:Nat) (f c:Cell) (l:Log),fs[i]?=some f->cs[i]?=some c->ls[i]?=some l->Fo f c l)
 | [], cs, ls, h1, h2 => by
   simp only[eI,true_iff]
   intro i f c l h;simp at h
 | f::fs,[],ls,h1,h2=>by simp at h1
 | f::fs,c::cs,[],h1,h2=>by simp at h2
 | f :: fs, c :: cs, l :: ls, h1, h2 => by
   have ih:=oU fs cs ls (by simpa using h1) (by simpa using h2)
   have e:eI (f::fs) (c::cs) (l::ls)=true↔Fo f c l/\eI fs cs ls=true:=by
    unfold Fo
    simp only[eI]
    cases g1:dm c
    ·simp
    cases g3:gL l
    ·cases g2:(c.cap != f.cap)<;>simp
    cases g2:(c.cap != f.cap)
    ·cases g4:(l.room != 8)
     ·cases g5:(l.last != c.ver)
      ·simp at g2 g4 g5;simp[g2,g4,g5]
      ·simp at g5;simp[g5]
     ·simp at g4;simp[g4]
    ·simp at g2;simp[g2]
   rw[e,ih]
   constructor
   ·rintro⟨h,hr⟩ i f' c' l' hf hc hl
    cases i with
    | zero=>simp at hf hc hl;subst hf hc hl;exact h
    | succ i=>exact hr i f' c' l' (by simpa using hf) (by simpa using hc) (by simpa using hl)
   ·intro h
    exact⟨h 0 f c l rfl rfl rfl,λ i f' c' l' hf hc hl=>h (i+1) f' c' l' (by simpa using hf) (by simpa using hc) (by simpa using hl)⟩
theorem PI {m:yE}(h:m31 m=true):m91 m.zI m.zE=true:=by
 unfold m31 at h
 cases h1:((m.zD.length:Int) != w64 (w64 (Prod.fst (Zn.bx (yE.zI m))+Prod.fst (Prod.snd (Zn.bx (yE.zI m))))+Prod.snd (Prod.snd (Zn.bx (yE.zI m)))))
 case true=>rw[h1]at h;cases h
 rw[h1,cF]at h
 cases h2:m91 m.zI m.zE
 ·rw[h2]at h;cases h
 ·rfl
theorem Ao {d:yA}{s:yC}(h:m91 d s=true):(bm d).length=s.cells.length:=by
 obtain⟨hz,hc,hl,ht⟩:=kz h
 have hn:=jE hz
 omega
theorem Ka {m:yE}(hb:OkM m)(h:m31 m=true){i:Int}(h0:0<=i)(h1:i<m.zE.cells.length):(List.getD m.zE.zL i.toNat (Ty.dflt Ty.zW)).last=(List.getD m.zE.cells i.toNat (Ty.dflt Ty.cell)).ver:=by
 have hs:=PI h
 obtain⟨hz,hc,hl,ht⟩:=kz hs
 have hw:=(oU _ _ _ (Ao hs) hl).1 (ll hb.toS hs).2.1
 have k1:i.toNat<m.zE.cells.length:=by omega
 have k2:i.toNat<m.zE.zL.length:=by omega
 have k3:i.toNat<(bm m.zI).length:=by rw[Ao hs];exact k1
 have:=hw i.toNat _ _ _ (ai k3) (ai k1) (ai k2)
 rw[bi,bi,ai k1,ai k2]
 exact this.2.2.2.2
theorem EI {m:yE}(hb:OkM m)(h:m31 m=true)(w:Int):(m95 m.zI m.zE w).1=m34 m w:=by
 rw[<-Km hb]
 unfold m33
 rw[h]
 rfl
theorem BU {m:yE}{zT:Int}{q:yT}(hk:q.kind=1):Cw m zT q=rY m zT q:=by
 unfold Cw rY xC uW dA m98 oE
 simp only[hk,Ig,DM,qI,kj (ma zT m.zD 0) (kx q.zU),dY,cT]
theorem BV {m:yE}{zT:Int}{q:yT}(hk:q.kind=2):Cv m zT q=rY m zT q:=by
 unfold Cv rY xC uW dA m98 oE
 simp only[hk,AT,DM,qI,Int.reduceBEq,cF]
theorem xU {m:yE}{zT:Int}{q:yT}(hb:OkM m)(h:m31 m=true):Cu m zT q=nP m zT q:=by
 unfold Cu nP iQ dA m98 nG
 rw[EI hb h,DR hb.toS _ _ _ (lh q),EQ hb.toS _ _ (lh q),yV hb.toS]
 cases decide (m34 m zT<0)
 case true=>rfl
 rw[cF,cF]
 cases q.kind==4
 case true=>
  rw[cT,cT]
  cases hx:((lf m.zI m.zE zT q.a q.b (Wn.cy q).1).2 != 0)
  ·simp only[hx,cF];rfl
  ·simp only[hx,show((lf m.zI m.zE zT q.a q.b (Wn.cy q).1).2==0)=false from aH.2 (by simpa using hx),cT,cF]
 rw[cF,cF]
 cases q.kind==5
 case true=>
  rw[cT,cT]
  cases hx:((jU m.zI m.zE zT q.a (Wn.cy q).1).2 != 0)
  ·simp only[hx,cF];rfl
  ·simp only[hx,show((jU m.zI m.zE zT q.a (Wn.cy q).1).2==0)=false from aH.2 (by simpa using hx),cT,cF]
 rw[cF,cF]
 cases hx:((jT m.zI m.zE zT q.a (Wn.cy q).1).2 != 0)
 ·simp only[hx,cF];rfl
 ·simp only[hx,show((jT m.zI m.zE zT q.a (Wn.cy q).1).2==0)=false from aH.2 (by simpa using hx),cT,cF]
theorem Be {m:yE}{zT:Int}{q:yT}(hb:OkM m)(ha:cD q.a):m37 m zT q=m38 m zT q:=by
 unfold m37 m38
 rw[Ck,oh hb]
 cases h1:m32 m
 case false=>rfl
 have h1':m31 m=true:=by rw[oh hb];exact h1
 rw[ba,cF,cF]
 cases decide (zT<1)
 case true=>rfl
 rw[cF,cF]
 cases decide (zT>m.zI.zO)
 case true=>rfl
 rw[cF,cF]
 cases h4:((Wn.bS m.zI q).err != 0)
 case true=>rfl
 rw[cF,cF,Ke]
 cases (xE m.zD (Wn.gp m.zI q) zT).2
 case true=>rfl
 rw[cF,cF]
 have h4:(Wn.bS m.zI q).err=0:=ah.1 h4
 have hk:=wk h4
 have hi:=CF (q:=q) (by rw[h1'];rfl) h4
 unfold He
 have hk:q.kind=1\/q.kind=2\/q.kind=3\/q.kind=4\/q.kind=5\/q.kind=6\/q.kind=7\/q.kind=8\/q.kind=9\/q.kind=10:=by omega
 rcases hk with hk|hk|hk|hk|hk|hk|hk|hk|hk|hk
 ·simp only[hk,dY,cT,BU hk]
 ·simp only[hk,Int.reduceBEq,cT,cF,BV hk]
 ·simp only[hk,Int.reduceBEq,cT,cF]
  unfold Hd oE
  rw[AT,DM]
 ·simp only[hk,Int.reduceBEq,cT,cF,xU hb h1']
 ·simp only[hk,Int.reduceBEq,cT,cF,xU hb h1']
 ·simp only[hk,Int.reduceBEq,cT,cF,xU hb h1']
 ·simp only[hk,Int.reduceBEq,cT,cF]
  unfold Hc iQ dA m98
  rw[Ib hb.toS _ _ ha]
 ·simp only[hk,Int.reduceBEq,cT,cF]
  unfold Hb iQ dA m98
  rw[Ky hb.toS,EI hb h1']
 ·simp only[hk,Int.reduceBEq,cT,cF]
  rfl
 ·simp only[hk,Int.reduceBEq,cT,cF]
  unfold Ha nG dA m98
  rw[pD,<-Ka hb h1' (hi (.inr hk)).1.1 (hi (.inr hk)).1.2]
theorem HB {d:yA}(hz:(df d != 0)=false):∀ c∈bm d,dm c=true/\c.ver=0:=by
 intro c hc
 obtain⟨z,hzz,hc⟩:=jz.1 hc
 obtain⟨k,_,rfl⟩:=aZ.1 hc
 have hk:=kB ((cp hz).zJ z hzz)
 have h1:=hk.start k
 have h2:=hk.cap
 refine⟨?_,rfl⟩
 have a1:z.cap>=1:=by omega
 have a2:z.cap<=1099511627776:=by omega
 have a3:0<=z.start.getD k 0:=h1.1
 have a4:z.start.getD k 0<=z.cap:=h1.2
 simp[db,dm,a1,a2,a3,a4,-List.getD_eq_getElem?_getD]
def pq (fs cs:List Cell)(ls:List Log):Prop:=∀ (i:Nat) (f c:Cell) (l:Log),fs[i]?=some f->cs[i]?=some c->ls[i]?=some l->Fo f c l
structure TipsP (n:Int) (l:List Tip):Prop where
 ok:∀ t∈l,gl t=true/\t.by'<=n
 one:∀ (i j:Nat) (b:Int),l[i]?=some ⟨2,b⟩->l[j]?=some ⟨2,b⟩->i=j
structure RightP (d:yA) (s:yC):Prop where
 zone:(df d != 0)=false
 lenC:(bm d).length=s.cells.length
 lenL:s.zL.length=s.cells.length
 lenT:(s.zK.length:Int)=br (aU d)
 wells:pq (bm d) s.cells s.zL
 zK:TipsP d.zO s.zK
 start:s.start=tot ((bm d).map Cell.zS)
 inn0:0<=s.zR
 inn1:s.zR<=1152921504606846976
 out0:0<=s.out
 out1:s.out<=1152921504606846976
 sum:tot (s.cells.map Cell.zS)=s.start+s.zR-s.out
theorem sc {t:Tip}(h:gl t=true):t.state=2/\1<=t.by'/\t.by'<=8\/(t.state=1\/t.state=3)/\t.by'=0:=by
 unfold gl pp at h
 cases h1:t.state==2
 ·rw[h1,cF]at h
  cases h2:t.state==1
  ·rw[h2,cF]at h
   cases h3:t.state==3
   ·rw[h3]at h;cases h
   ·rw[h3,cT]at h
    simp at h2 h3 h
    exact .inr ⟨.inr h3,h⟩
  ·rw[h2,cT]at h
   simp at h2 h
   exact .inr ⟨.inl h2,h⟩
 ·rw[h1,cT]at h
  simp at h1
  refine .inl ⟨h1,?_⟩
  by_cases h2:t.by'>=1
  ·rw[dT h2,cT]at h
   exact⟨h2,by simpa using h⟩
  ·rw[dF h2]at h;cases h
theorem kL (n:Int):∀ (l:List Tip) (h:List Int),(∀ x∈h,1<=x)->(ft n l h=true↔TipsP n l/\∀ b,⟨2,b⟩∈l->b ∉ h)
 | [], h, _ => by
   simp only[ft,true_iff]
   exact⟨⟨λ t ht=>by simp at ht,λ i j b hi=>by simp at hi⟩,λ b hb=>by simp at hb⟩
 | t :: l, h, hh => by
   have e:ft n (t::l) h=true↔gl t=true/\t.by'<=n/\t.by' ∉ h/\ft n l (if t.state=2 then h++[t.by']else h)=true:=by
    simp only[ft]
    cases g1:gl t
    ·simp
    rw[ba,cF]
    by_cases g2:t.by'>n
    ·rw[dT g2];simp;intro hx;omega
    rw[dF g2,cF]
    cases g3:h.elem t.by'
    ·have g3':t.by' ∉ h:=by simpa using g3
     rw[cF]
     by_cases g4:t.state=2
     ·rw[show(t.state==2)=true by simpa using g4,cT,aE g4]
      exact⟨λ k=>⟨rfl,by omega,g3',k⟩,λ k=>k.2.2.2⟩
     ·rw[show(t.state==2)=false by simpa using g4,cF,aF g4]
      exact⟨λ k=>⟨rfl,by omega,g3',k⟩,λ k=>k.2.2.2⟩
    ·have g3':t.by'∈h:=by simpa using g3
     rw[cT]
     exact⟨λ k=>(by cases k),λ k=>absurd g3' k.2.2.1⟩
   rw[e]
   by_cases hs:t.state=2
   ·rw[aE hs]
    constructor
    ·rintro⟨k1,k2,k3,k4⟩
     have hb1:1<=t.by':=by rcases sc k1 with h|h<;>omega
     obtain⟨⟨p1,p2⟩,p3⟩:=(kL n l _ (λ x hx=>by rcases az.1 hx with hx|hx;exact hh x hx;simp at hx;omega)).1 k4
     refine⟨⟨λ u hu=>?_,λ i j b hi hj=>?_⟩,λ b hb=>?_⟩
     ·rcases aB.1 hu with rfl|hu
      ·exact⟨k1,k2⟩
      ·exact p1 u hu
     ·cases i with
      | zero =>
        cases j with
        | zero=>rfl
        | succ j =>
          simp at hi hj
          have:=p3 b (bu hj)
          subst hi
          simp at this
      | succ i =>
        cases j with
        | zero =>
          simp at hi hj
          have:=p3 b (bu hi)
          subst hj
          simp at this
        | succ j=>simp at hi hj;rw[p2 i j b hi hj]
     ·rcases aB.1 hb with hb|hb
      ·subst hb;exact k3
      ·have:=p3 b hb
       simp at this;exact this.1
    ·rintro⟨⟨p1,p2⟩,p3⟩
     obtain⟨k1,k2⟩:=p1 t (by simp)
     have hb1:1<=t.by':=by rcases sc k1 with h|h<;>omega
     have ht:t=⟨2,t.by'⟩:=by cases t;simp at hs;subst hs;rfl
     refine⟨k1,k2,p3 _ (by rw[<-ht];simp),(kL n l _ (λ x hx=>by rcases az.1 hx with hx|hx;exact hh x hx;simp at hx;omega)).2 ⟨⟨λ u hu=>p1 u (by simp[hu]),λ i j b hi hj=>?_⟩,λ b hb=>?_⟩⟩
     ·have:=p2 (i+1) (j+1) b (by simpa using hi) (by simpa using hj)
      omega
     ·intro hm
      rcases az.1 hm with hm|hm
      ·exact p3 b (by simp[hb]) hm
      ·simp at hm
       obtain⟨i,hi⟩:=dQ.1 hb
       have:=p2 0 (i+1) b (by rw[hm,<-ht];rfl) (by simpa using hi)
       omega
   ·rw[aF hs]
    constructor
    ·rintro⟨k1,k2,k3,k4⟩
     obtain⟨⟨p1,p2⟩,p3⟩:=(kL n l h hh).1 k4
     refine⟨⟨λ u hu=>?_,λ i j b hi hj=>?_⟩,λ b hb=>?_⟩
     ·rcases aB.1 hu with rfl|hu
      ·exact⟨k1,k2⟩
      ·exact p1 u hu
     ·cases i with
      | zero=>simp at hi;subst hi;exact absurd rfl hs
      | succ i =>
        cases j with
        | zero=>simp at hj;subst hj;exact absurd rfl hs
        | succ j=>simp at hi hj;rw[p2 i j b hi hj]
     ·rcases aB.1 hb with hb|hb
      ·subst hb;exact absurd rfl hs
      ·exact p3 b hb
    ·rintro⟨⟨p1,p2⟩,p3⟩
     obtain⟨k1,k2⟩:=p1 t (by simp)
     have h0:t.by'=0:=by rcases sc k1 with h|h;exact absurd h.1 hs;exact h.2
     refine⟨k1,k2,λ hm=>by have:=hh _ hm;omega,(kL n l h hh).2 ⟨⟨λ u hu=>p1 u (by simp[hu]),λ i j b hi hj=>?_⟩,λ b hb=>p3 b (by simp[hb])⟩⟩
     have:=p2 (i+1) (j+1) b (by simpa using hi) (by simpa using hj)
     omega
theorem wn (n:Int)(l:List Tip):ft n l []=true↔TipsP n l:=by
 rw[kL n l [] (λ x hx=>by simp at hx)]
 exact⟨λ h=>h.1,λ h=>⟨h,λ b _=>by simp⟩⟩
theorem qp {fs cs:List Cell}{ls:List Log}(h1:fs.length=cs.length)(h2:ls.length=cs.length)(h:pq fs cs ls):∀ c∈cs,dm c=true:=by
 intro c hc
 obtain⟨i,hi⟩:=dQ.1 hc
 have hlt:i<cs.length:=(am.1 hi).1
 exact(h i _ c _ (ai (by omega)) hi (ai (by omega))).1
theorem yY {cs:List Cell}(h:∀ c∈cs,dm c=true):0<=tot (cs.map Cell.zS)/\tot (cs.map Cell.zS)<=1099511627776*cs.length:=by
 have:=od (l:=cs.map Cell.zS) (by
  intro x hx
  obtain⟨c,hc,rfl⟩:=aZ.1 hx
  have:=fM (h c hc)
  omega)
 rwa [bH]at this
theorem lX {d:yA}{s:yC}:m94 d s=true↔RightP d s:=by
 unfold m94
 rw[DP]
 cases hz:df d != 0
 case true=>
  have e0:((fA d).2 != 0)=true:=by unfold fA;rw[hz];exact hz
  rw[e0,cT]
  exact⟨λ h=>(by cases h),λ h=>by have:=h.zone;rw[hz]at this;cases this⟩
 have hn:=jE hz
 have hw:=(cp hz).wells
 have ht:=(cp hz).zK
 have hv0:∀ c∈bm d,dm c=true:=λ c hc=>(HB hz c hc).1
 have ht0:=yY hv0
 have e0:((fA d).2 != 0)=false:=by unfold fA;rw[hz];rfl
 have e1:(fA d).1.cells=bm d:=by unfold fA;rw[hz];rfl
 have e2:((fA d).1.zL.length:Int)=(bm d).length:=by unfold fA;rw[hz];simp
 have e3:((fA d).1.zK.length:Int)=br (aU d):=by unfold fA;rw[hz];simp;omega
 have e4:(fA d).1.start=tot ((bm d).map Cell.zS):=by unfold fA;rw[hz];rfl
 rw[e0,cF,e1,e2,e3,e4]
 cases k1:((s.cells.length:Int) != ((bm d).length:Int))
 case true=>
  rw[cT]
  exact⟨λ h=>(by cases h),λ h=>by have:=h.lenC;simp at k1;omega⟩
 have k1:(s.cells.length:Int)=((bm d).length:Int):=ah.1 k1
 rw[cF]
 cases k2:((s.zL.length:Int) != ((bm d).length:Int))
 case true=>
  rw[cT]
  exact⟨λ h=>(by cases h),λ h=>by have:=h.lenL;simp at k2;omega⟩
 have k2:(s.zL.length:Int)=((bm d).length:Int):=ah.1 k2
 rw[cF]
 cases k3:((s.zK.length:Int) != br (aU d))
 case true=>
  rw[cT]
  exact⟨λ h=>(by cases h),λ h=>by have:=h.lenT;simp at k3;omega⟩
 have k3:(s.zK.length:Int)=br (aU d):=ah.1 k3
 rw[cF,oi d s (bm d) _ s.cells 0 rfl (by omega) (by omega),bE,bE,oj]
 have wi:=oU (bm d) s.cells s.zL (by omega) (by omega)
 cases k4:eI (bm d) s.cells s.zL
 case false=>
  rw[cF]
  exact⟨λ h=>(by cases h),λ h=>by have:=wi.2 h.wells;rw[k4]at this;cases this⟩
 have k4:pq (bm d) s.cells s.zL:=wi.1 k4
 rw[cT]
 cases k5:ft d.zO s.zK []
 case false=>
  rw[cF]
  exact⟨λ h=>(by cases h),λ h=>by have:=(wn _ _).2 h.zK;rw[k5]at this;cases this⟩
 have k5:TipsP d.zO s.zK:=(wn _ _).1 k5
 rw[cT]
 have hv:=yY (qp (by omega) (by omega) k4)
 unfold Kw
 cases k6:(s.start != tot ((bm d).map Cell.zS))
 case true=>
  rw[cT]
  exact⟨λ h=>(by cases h),λ h=>by have:=h.start;simp at k6;omega⟩
 have k6:s.start=tot ((bm d).map Cell.zS):=ah.1 k6
 rw[cF]
 by_cases k7:s.zR<0
 ·rw[dT k7,cT]
  exact⟨λ h=>(by cases h),λ h=>by have:=h.inn0;omega⟩
 rw[dF k7,cF]
 by_cases k8:s.zR>1152921504606846976
 ·rw[dT k8,cT]
  exact⟨λ h=>(by cases h),λ h=>by have:=h.inn1;omega⟩
 rw[dF k8,cF]
 by_cases k9:s.out<0
 ·rw[dT k9,cT]
  exact⟨λ h=>(by cases h),λ h=>by have:=h.out0;omega⟩
 rw[dF k9,cF]
 by_cases k10:s.out>1152921504606846976
 ·rw[dT k10,cT]
  exact⟨λ h=>(by cases h),λ h=>by have:=h.out1;omega⟩
 rw[dF k10,cF,DX]
 have hf:cD (tot (s.cells.map Cell.zS)):=by unfold cD;omega
 have hs:HW s=(tot (s.cells.map Cell.zS),0):=je hf
 rw[hs,an (n:=s.start+s.zR) (by omega) (by omega),an (by omega) (by omega)]
 simp only[dY,cT,bD]
 exact⟨λ h=>⟨hz,by omega,by omega,k3,k4,k5,k6,by omega,by omega,by omega,by omega,h⟩,λ h=>h.sum⟩
end Go.Proofs.Mo
