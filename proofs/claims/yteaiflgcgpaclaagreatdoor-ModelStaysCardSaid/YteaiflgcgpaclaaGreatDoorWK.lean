/- Own work: part WK of the proof. -/
import Derived.Test.YteaiflgcgpaclaaGreatDoorWE
import Derived.Test.YteaiflgcgpaclaaGreatDoorWJ
import Derived.Test.YteaiflgcgpaclaaGreatDoorWG
import Derived.Test.YteaiflgcgpaclaaGreatDoorWD
import Derived.Test.YteaiflgcgpaclaaGreatDoorWH
import Derived.Test.YteaiflgcgpaclaaGreatDoorRows
import Derived.LaidMore
import Derived.MakeChecks
import Derived.FnData
import Derived.OpenShut
import Derived.ChangeArms
import Derived.ProofKit
set_option linter.unusedVariables false
set_option linter.unusedSimpArgs false
namespace Go.Proofs.Mo
open Go.Proofs.Tryz
open Go Go.VL Go.Proofs.Zn Go.Proofs.Mn
theorem pN (b:Int):∀ (l:List Tip) (k:Nat),eQ b l k<0->∀ i:Nat,l[i]?≠some ⟨2,b⟩
 | [],k,_,i=>by simp
 | t :: l, k, h, i => by
   unfold eQ at h
   cases i with
   | zero =>
     intro hi
     simp at hi;subst hi
     simp at h;omega
   | succ i =>
     rw[gR]
     cases h1:(t.state==2)
     ·rw[h1,cF]at h;exact pN b l (k+1) h i
     ·rw[h1,cT]at h
      cases h2:(t.by'==b)
      ·rw[h2,cF]at h;exact pN b l (k+1) h i
      ·rw[h2,cT]at h;omega
theorem wh {α:Type}{l:List α}{i:Int}{d:α}(h0:0<=i)(h1:i<l.length):l[i.toNat]?=some (l.getD i.toNat d):=getD_some (by omega)
def li (s:Stock)(i:Int)(c':Cell)(k b:Int):Stock:={ s with cells:=s.cells.set i.toNat c',logs:=s.logs.set i.toNat (kV (s.logs.getD i.toNat (Ty.dflt Ty.log)) b k).1 }
theorem qO {s:Stock}{i:Int}{c':Cell}{k b:Int}{ts:List Tip}{st inn out:Int}(h:ChgC (s.cells.getD i.toNat (Ty.dflt Ty.cell)) c' k):qE s.cells s.logs ts st inn out b i c'=((li s i c' k b).cells,(li s i c' k b).logs):=by
 unfold qE li
 have a:=fp h.old
 have a':=fp h.ok
 have:=h.vol
 rw[ax (by omega) (by omega),show c'.vol-(s.cells.getD i.toNat (Ty.dflt Ty.cell)).vol=k by omega,AY]
structure UpdP (d:Deck) (s s':Stock) (k:Int):Prop where
 lenC:s'.cells.length=s.cells.length
 lenL:s'.logs.length=s.logs.length
 wells:oi (bi d) s'.cells s'.logs
 tot:tot (s'.cells.map Cell.vol)=tot (s.cells.map Cell.vol)+k
theorem vr {d:Deck}{s:Stock}{i:Int}{c':Cell}{k b:Int}(hw:oi (bi d) s.cells s.logs)(hl:s.logs.length=s.cells.length)(h0:0<=i)(h1:i<s.cells.length)(hk:ChgC (s.cells.getD i.toNat (Ty.dflt Ty.cell)) c' k)(hb1:1<=b)(hb8:b<=8):UpdP d s (li s i c' k b) k where
 lenC:=cM
 lenL:=cM
 wells:=fun j f x y hj hx hy=>by
  exact Dj hw (wh h0 h1) (wh h0 (by omega)) hk hb1 hb8 j f x y hj hx hy
 tot:=An (wh h0 h1) hk.vol
theorem sa {d:Deck}{s:Stock}{b:Int}(h:((iQ d s b) != 0)=false):RightP d s/\1<=b/\b<=d.arms:=by
 obtain⟨h1,h2,h3⟩:=zu (ai.1 h)
 exact⟨mT.1 h1,h2,h3⟩
theorem RightP.arms {d:Deck}{s:Stock}(h:RightP d s):1<=d.arms/\d.arms<=8:=(cf h.zone).arms
theorem JP {d:Deck}{s:Stock}{b i n:Int}(h:(ka d s b i n).2=0):RightP d s/\1<=b/\b<=d.arms/\0<=i/\i<s.cells.length/\1<=n/\n<=1152921504606846976-s.inn /\
  ∃ c',ChgC (s.cells.getD i.toNat (Ty.dflt Ty.cell)) c' n/\(ka d s b i n).1={ li s i c' n b with inn:=s.inn+n }:=by
 unfold ka at h ⊢
 cases h1:((iQ d s b) != 0)
 case true=>rw[h1,cT]at h;simp only at h;rw[h]at h1;cases h1
 rw[h1,cF]at h
 rw[cF]
 obtain⟨hr,hb1,hb2⟩:=sa h1
 cases h2:(!qF s i)
 case true=>rw[h2]at h;cases (show(3:Int)=0 from h)
 rw[h2,cF]at h
 rw[cF]
 obtain⟨hi0,hi1⟩:=jt h2
 simp only at h ⊢
 cases h3:((pG (List.getD s.cells i.toNat (Ty.dflt Ty.cell)) n).2 != 0)
 case true=>rw[h3,cT]at h;simp only at h;rw[h]at h3;cases h3
 rw[h3,cF]at h
 rw[cF]
 obtain⟨hc,hn⟩:=AF (ai.1 h3)
 have q1:=hr.inn0
 have q2:=hr.inn1
 rw[ax (n:=1152921504606846976-s.inn) (by omega) (by omega)]at h ⊢
 by_cases h4:n>1152921504606846976-s.inn
 ·rw[dT h4]at h;cases (show(4:Int)=0 from h)
 rw[dF h4,cF]
 refine⟨hr,hb1,hb2,hi0,hi1,hn,by omega,_,hc,?_⟩
 rw[qO hc,ax (n:=s.inn+n) (by omega) (by omega)]
 rfl
theorem EE {d:Deck}{s:Stock}{b i n:Int}(hn:cy n)(h:(jZ d s b i n).2=0):RightP d s/\1<=b/\b<=d.arms/\0<=i/\i<s.cells.length/\1<=n/\n<=1152921504606846976-s.out /\
  ∃ c',ChgC (s.cells.getD i.toNat (Ty.dflt Ty.cell)) c' (-n)/\(jZ d s b i n).1={ li s i c' (-n) b with out:=s.out+n }:=by
 unfold jZ at h ⊢
 cases h1:((iQ d s b) != 0)
 case true=>rw[h1,cT]at h;simp only at h;rw[h]at h1;cases h1
 rw[h1,cF]at h
 rw[cF]
 obtain⟨hr,hb1,hb2⟩:=sa h1
 cases h2:(!qF s i)
 case true=>rw[h2]at h;cases (show(3:Int)=0 from h)
 rw[h2,cF]at h
 rw[cF]
 obtain⟨hi0,hi1⟩:=jt h2
 simp only at h ⊢
 cases h3:((nX (List.getD s.cells i.toNat (Ty.dflt Ty.cell)) n).2 != 0)
 case true=>rw[h3,cT]at h;simp only at h;rw[h]at h3;cases h3
 rw[h3,cF]at h
 rw[cF]
 obtain⟨hc,hn1⟩:=BQ hn (ai.1 h3)
 have q1:=hr.out0
 have q2:=hr.out1
 rw[ax (n:=1152921504606846976-s.out) (by omega) (by omega)]at h ⊢
 by_cases h4:n>1152921504606846976-s.out
 ·rw[dT h4]at h;cases (show(4:Int)=0 from h)
 rw[dF h4,cF]
 refine⟨hr,hb1,hb2,hi0,hi1,hn1,by omega,_,hc,?_⟩
 rw[qO hc,ax (n:=s.out+n) (by omega) (by omega)]
 rfl
theorem Ju {d:Deck}{s:Stock}{b i j n:Int}(hn:cy n)(h:(lq d s b i j n).2=0):RightP d s/\1<=b/\b<=d.arms/\0<=i/\i<s.cells.length/\0<=j/\j<s.cells.length/\i≠j/\1<=n /\
  ∃ c1 c2,ChgC (s.cells.getD i.toNat (Ty.dflt Ty.cell)) c1 (-n)/\ChgC (s.cells.getD j.toNat (Ty.dflt Ty.cell)) c2 n/\(lq d s b i j n).1=li (li s i c1 (-n) b) j c2 n b:=by
 unfold lq at h ⊢
 cases h1:((iQ d s b) != 0)
 case true=>rw[h1,cT]at h;simp only at h;rw[h]at h1;cases h1
 rw[h1,cF]at h
 rw[cF]
 obtain⟨hr,hb1,hb2⟩:=sa h1
 cases h2:(!qF s i)
 case true=>rw[h2]at h;cases (show(3:Int)=0 from h)
 rw[h2,cF]at h
 rw[cF]
 obtain⟨hi0,hi1⟩:=jt h2
 cases h2:(!qF s j)
 case true=>rw[h2]at h;cases (show(3:Int)=0 from h)
 rw[h2,cF]at h
 rw[cF]
 obtain⟨hj0,hj1⟩:=jt h2
 cases h3:(i==j)
 case true=>rw[h3]at h;cases (show(1:Int)=0 from h)
 rw[h3,cF]at h
 rw[cF]
 have h3:i≠j:=aN.1 h3
 unfold GA at h ⊢
 simp only at h ⊢
 cases h4:((nX (List.getD s.cells i.toNat (Ty.dflt Ty.cell)) n).2 != 0)
 case true=>
  rw[h4]at h;simp only[cT,h4]at h
  rw[h]at h4;cases h4
 rw[h4]at h
 simp only[cF]at h ⊢
 cases h5:((pG (List.getD s.cells j.toNat (Ty.dflt Ty.cell)) n).2 != 0)
 case true=>
  rw[h5]at h;simp only[cT,h5]at h
  rw[h]at h5;cases h5
 simp only[cF,kw]
 obtain⟨hc1,hn1⟩:=BQ hn (ai.1 h4)
 obtain⟨hc2,_⟩:=AF (ai.1 h5)
 refine⟨hr,hb1,hb2,hi0,hi1,hj0,hj1,h3,hn1,_,_,hc1,hc2,?_⟩
 rw[qO hc1]
 have e:(li s i (nX (List.getD s.cells i.toNat (Ty.dflt Ty.cell)) n).1 (-n) b).cells.getD j.toNat (Ty.dflt Ty.cell)=s.cells.getD j.toNat (Ty.dflt Ty.cell):=by
  unfold li
  simp only[bn]
  rw[iY (by omega)]
 rw[qO (s:=li s i (nX (List.getD s.cells i.toNat (Ty.dflt Ty.cell)) n).1 (-n) b) (by rw[e];exact hc2)]
 rfl
theorem zT {d:Deck}{s:Stock}{b i n:Int}(h:(ka d s b i n).2=0):RightP d (ka d s b i n).1:=by
 obtain⟨hr,hb1,hb2,hi0,hi1,hn,hlim,c',hc,e⟩:=JP h
 have u:=vr hr.wells hr.lenL hi0 hi1 hc hb1 (by have:=hr.arms;omega)
 rw[e]
 exact⟨hr.zone,hr.lenC.trans u.lenC.symm,by show(li s i c' n b).logs.length=(li s i c' n b).cells.length;rw[u.lenL,u.lenC];exact hr.lenL,hr.lenT,u.wells,hr.tips,hr.start,by have:=hr.inn0;simp only[];omega,by simp only[];omega,hr.out0,hr.out1,by
  show tot ((li s i c' n b).cells.map Cell.vol)=s.start+(s.inn+n)-s.out
  rw[u.tot];have:=hr.sum;omega⟩
theorem wL {d:Deck}{s:Stock}{b i n:Int}(hf:cy n)(h:(jZ d s b i n).2=0):RightP d (jZ d s b i n).1:=by
 obtain⟨hr,hb1,hb2,hi0,hi1,hn,hlim,c',hc,e⟩:=EE hf h
 have u:=vr hr.wells hr.lenL hi0 hi1 hc hb1 (by have:=hr.arms;omega)
 rw[e]
 exact⟨hr.zone,hr.lenC.trans u.lenC.symm,by show(li s i c' (-n) b).logs.length=(li s i c' (-n) b).cells.length;rw[u.lenL,u.lenC];exact hr.lenL,hr.lenT,u.wells,hr.tips,hr.start,hr.inn0,hr.inn1,by have:=hr.out0;simp only[];omega,by simp only[];omega,by
  show tot ((li s i c' (-n) b).cells.map Cell.vol)=s.start+s.inn-(s.out+n)
  rw[u.tot];have:=hr.sum;omega⟩
theorem zt {d:Deck}{s:Stock}{b i j n:Int}(hf:cy n)(h:(lq d s b i j n).2=0):RightP d (lq d s b i j n).1:=by
 obtain⟨hr,hb1,hb2,hi0,hi1,hj0,hj1,hij,hn,c1,c2,hc1,hc2,e⟩:=Ju hf h
 have h8:b<=8:=by have:=hr.arms;omega
 have u:=vr hr.wells hr.lenL hi0 hi1 hc1 hb1 h8
 have e2:(li s i c1 (-n) b).cells.getD j.toNat (Ty.dflt Ty.cell)=s.cells.getD j.toNat (Ty.dflt Ty.cell):=by
  unfold li
  simp only[bn]
  rw[iY (by omega)]
 have v:=vr u.wells (by rw[u.lenL,u.lenC];exact hr.lenL) hj0 (by rw[u.lenC];exact hj1) (by rw[e2];exact hc2) hb1 h8
 rw[e]
 exact⟨hr.zone,hr.lenC.trans (v.lenC.trans u.lenC).symm,by rw[v.lenL,v.lenC,u.lenL,u.lenC];exact hr.lenL,hr.lenT,v.wells,hr.tips,hr.start,hr.inn0,hr.inn1,hr.out0,hr.out1,by
  show _=s.start+s.inn-s.out
  rw[v.tot,u.tot];have:=hr.sum;omega⟩
def tU (s:Stock)(k:Nat)(t:Tip):Stock:={ s with tips:=s.tips.set k t }
theorem As {d:Deck}{s:Stock}{b i:Int}(h:(gI d s b i).2=0):RightP d s/\1<=b/\b<=d.arms/\(s.cells.length:Int)<=i/\i<s.cells.length+s.tips.length/\(∀ j:Nat,s.tips[j]?≠some ⟨2,b⟩)/\gD s b<0 /\
  s.tips[(i-s.cells.length).toNat]?=some ⟨1,0⟩/\(gI d s b i).1=tU s (i-s.cells.length).toNat ⟨2,b⟩:=by
 unfold gI at h ⊢
 cases h1:((iQ d s b) != 0)
 case true=>rw[h1,cT]at h;simp only at h;rw[h]at h1;cases h1
 rw[h1,cF]at h
 rw[cF]
 obtain⟨hr,hb1,hb2⟩:=sa h1
 have q1:=(cf hr.zone).wells
 have q2:=(cf hr.zone).tips
 have q3:=iK hr.zone
 have q4:=hr.lenC
 have q5:=hr.lenT
 rw[ax (n:=(s.cells.length:Int)+s.tips.length) (by omega) (by omega)]at h ⊢
 by_cases h2:i>=s.cells.length
 case neg=>rw[dF h2]at h;cases (show(3:Int)=0 from h)
 rw[dT h2,cT]at h ⊢
 by_cases h3:i<s.cells.length+s.tips.length
 case neg=>rw[dF h3]at h;cases (show(3:Int)=0 from h)
 rw[dT h3,cT]at h ⊢
 rw[ax (n:=i-(s.cells.length:Int)) (by omega) (by omega)]at h ⊢
 rw[dF (show ¬ i-(s.cells.length:Int)<0 by omega),cF]at h ⊢
 by_cases h4:gD s b>=0
 ·rw[dT h4]at h;cases (show(131:Int)=0 from h)
 rw[dF h4,cF]at h ⊢
 simp only at h ⊢
 have ht:s.tips[(i-(s.cells.length:Int)).toNat]?=some (s.tips.getD (i-(s.cells.length:Int)).toNat (Ty.dflt Ty.tip)):=getD_some (by omega)
 have htt:=(hr.tips.ok _ (bq ht)).1
 generalize hg:s.tips.getD (i-(s.cells.length:Int)).toNat (Ty.dflt Ty.tip)=t at *
 have ha:oh b=true:=by
  unfold oh
  have:=hr.arms
  rw[dT (show b>=1 by omega),cT,dT (show b<=8 by omega)]
 unfold GD at h ⊢
 rw[htt,ha]at h ⊢
 simp only[bc,cF]at h ⊢
 cases h5:(t.state != 1)
 case true=>rw[h5]at h;cases (show(121:Int)=0 from h)
 have h5:t.state=1:=ai.1 h5
 have h6:t=⟨1,0⟩:=by
  rcases qK htt with hx|hx
  ·omega
  ·cases t;simp at h5 hx;simp[h5,hx.2]
 simp only[cF,kw]
 have hlt:gD s b<0:=by omega
 exact⟨hr,hb1,hb2,h2,h3,pN b s.tips 0 hlt,hlt,by rw[ht,h6],rfl⟩
theorem yV {d:Deck}{s:Stock}{b i:Int}(h:(gI d s b i).2=0):RightP d (gI d s b i).1:=by
 obtain⟨hr,hb1,hb2,h1,h2,hno,_,ht,e⟩:=As h
 rw[e]
 refine⟨hr.zone,hr.lenC,hr.lenL,by unfold tU;simp only[cM];exact hr.lenT,hr.wells,⟨fun t ht=>?_,fun j k a hj hk=>?_⟩,hr.start,hr.inn0,hr.inn1,hr.out0,hr.out1,hr.sum⟩
 ·rcases List.mem_or_eq_of_mem_set ht with ht|rfl
  ·exact hr.tips.ok t ht
  ·refine⟨?_,hb2⟩
   unfold fJ oh
   have:=hr.arms
   simp only[dA,cT]
   rw[dT (show b>=1 by omega),cT,dT (show b<=8 by omega)]
 ·unfold tU at hj hk
  simp only[bF]at hj hk
  split at hj
  ·split at hk
   ·omega
   ·split at hj
    ·simp only[af,Tip.mk.injEq,true_and]at hj
     subst hj
     exact absurd hk (hno k)
    ·cases hj
  ·split at hk
   ·split at hk
    ·simp only[af,Tip.mk.injEq,true_and]at hk
     subst hk
     exact absurd hj (hno j)
    ·cases hk
   ·exact hr.tips.one j k a hj hk
theorem BP {d:Deck}{s:Stock}{b:Int}(h:(gH d s b).2=0):RightP d s/\1<=b/\b<=d.arms/\∃ k:Nat,gD s b=k/\s.tips[k]?=some ⟨2,b⟩/\(gH d s b).1=tU s k ⟨3,0⟩:=by
 unfold gH at h ⊢
 cases h1:((iQ d s b) != 0)
 case true=>rw[h1,cT]at h;simp only at h;rw[h]at h1;cases h1
 rw[h1,cF]at h
 rw[cF]
 obtain⟨hr,hb1,hb2⟩:=sa h1
 by_cases h2:gD s b<0
 ·rw[dT h2]at h;cases (show(131:Int)=0 from h)
 rw[dF h2,cF]
 have hge:gD s b>=0:=by omega
 obtain⟨k,hk,ht⟩:=qZ b s.tips 0 hge
 have e:gD s b=(k:Int):=by
  show eQ b s.tips 0=_
  rw[hk];omega
 refine⟨hr,hb1,hb2,k,e,ht,?_⟩
 rw[e];rfl
theorem zV {d:Deck}{s:Stock}{b:Int}(h:(gH d s b).2=0):RightP d (gH d s b).1:=by
 obtain⟨hr,hb1,hb2,i,_,ht,e⟩:=BP h
 rw[e]
 refine⟨hr.zone,hr.lenC,hr.lenL,by unfold tU;simp only[cM];exact hr.lenT,hr.wells,⟨fun t ht=>?_,fun j k a hj hk=>?_⟩,hr.start,hr.inn0,hr.inn1,hr.out0,hr.out1,hr.sum⟩
 ·rcases List.mem_or_eq_of_mem_set ht with ht|rfl
  ·exact hr.tips.ok t ht
  ·exact⟨rfl,by have:=hr.arms;simp only[];omega⟩
 ·unfold tU at hj hk
  simp only[bF]at hj hk
  split at hj
  ·split at hj
   ·simp at hj
   ·cases hj
  ·split at hk
   ·split at hk
    ·simp at hk
    ·cases hk
   ·exact hr.tips.one j k a hj hk
end Go.Proofs.Mo

namespace Go.Proofs.Mo
open Go.Proofs.Tryz
open Go Go.VL Go.Proofs.Zn Go.Proofs.Mn
theorem rH (w:Int):∀ (l:List Int) (k:Nat) (o:List Int),(jF w l k o).length=o.length
 | [],_,_=>rfl
 | z::l,k,o=>by unfold jF;rw[rH w l,cM]
theorem ub (w:Int):∀ (l:List Int) (k:Nat) (o:List Int),(∀ x∈l,0<=x)->∀ i:Nat,(jF w l k o)[i]?=if(i:Int)∈l/\i<o.length then some w else o[i]?
 | [],_,o,_,i=>by simp[jF]
 | z :: l, k, o, h, i => by
   unfold jF
   have hz:=h z (by simp)
   rw[ub w l (k+1) _ (fun x hx=>h x (by simp[hx])) i,cM,bF]
   by_cases h2:i<o.length
   ·by_cases h1:(i:Int)∈l
    ·simp[h1,h2]
    ·by_cases h3:z.toNat=i
     ·have e:(i:Int)=z:=by omega
      rw[aH (fun h=>h1 h.1),aE h3,aE (by omega),aE ⟨by simp[e],h2⟩]
     ·have e:(i:Int)≠z:=by omega
      rw[aH (fun h=>h1 h.1),aH h3,aH (fun h=>by simp[h1,e]at h)]
   ·rw[aH (fun h=>h2 h.2),aH (c:=(i:Int)∈z::l/\i<o.length) (fun h=>h2 h.2)]
    split
    ·rw[aH (by omega),au (by omega)]
    ·rfl
theorem ut {o ids:List Int}{w:Int}(h:(lT o ids w).2=0):1<=w/\w<=8/\∀ x∈ids,0<=x/\x<o.length:=by
 refine⟨?_,?_,zw h⟩
 all_goals
  unfold lT at h
  cases h1 : !xQ o
  case true=>rw[h1]at h;cases (show(1:Int)=0 from h)
  rw[h1,cF]at h
  by_cases h2:w<1
  ·rw[dT h2]at h;cases (show(1:Int)=0 from h)
  rw[dF h2,cF]at h
  by_cases h3:w>8
  ·rw[dT h3]at h;cases (show(1:Int)=0 from h)
  omega
theorem vu {o ids:List Int}{w:Int}:∀ (l:List Int) (k:Nat),(gW o ids w l k).2.2=0->(∀ z∈l,o.getD z.toNat (Ty.dflt .int)=0\/o.getD z.toNat (Ty.dflt .int)=w)/\gW o ids w l k=(lS o ids w,0,0)
 | [],_,_=>⟨fun z hz=>by simp at hz,rfl⟩
 | z :: l, k, h => by
   unfold gW at h ⊢
   cases h1:(o.getD z.toNat (Ty.dflt .int) != 0)
   ·rw[h1,cF]at h
    obtain⟨a,b⟩:=vu l (k+1) h
    refine⟨fun x hx=>?_,by rw[cF];exact b⟩
    rcases aD.1 hx with rfl|hx
    ·exact .inl (ai.1 h1)
    ·exact a x hx
   ·rw[h1,cT]at h
    cases h2:(o.getD z.toNat (Ty.dflt .int) != w)
    ·rw[h2,cF]at h
     obtain⟨a,b⟩:=vu l (k+1) h
     refine⟨fun x hx=>?_,by rw[cT,cF];exact b⟩
     rcases aD.1 hx with rfl|hx
     ·exact .inr (ai.1 h2)
     ·exact a x hx
    ·rw[h2]at h;cases (show(140:Int)=0 from h)
theorem BL {o ids:List Int}{w:Int}:∀ (l:List Int) (k:Nat),(gJ o ids w l k).2.2=0->(∀ z∈l,o.getD z.toNat (Ty.dflt .int)=w)/\gJ o ids w l k=(lS o ids 0,0,0)
 | [],_,_=>⟨fun z hz=>by simp at hz,rfl⟩
 | z :: l, k, h => by
   unfold gJ at h ⊢
   cases h1:(o.getD z.toNat (Ty.dflt .int) != w)
   ·rw[h1,cF]at h
    obtain⟨a,b⟩:=BL l (k+1) h
    refine⟨fun x hx=>?_,by rw[cF];exact b⟩
    rcases aD.1 hx with rfl|hx
    ·exact ai.1 h1
    ·exact a x hx
   ·rw[h1]at h;cases (show(141:Int)=0 from h)
theorem wQ {o ids:List Int}{w:Int}(h:(lU o ids w).2.2=0):1<=w/\w<=8/\(∀ x∈ids,0<=x/\x<o.length)/\(∀ z∈ids,o.getD z.toNat (Ty.dflt .int)=0\/o.getD z.toNat (Ty.dflt .int)=w)/\(lU o ids w).1=lS o ids w:=by
 unfold lU at h ⊢
 cases h1:((lT o ids w).2 != 0)
 ·simp only[h1,cF]at h ⊢
  obtain⟨a,b⟩:=vu ids 0 h
  obtain⟨c1,c2,c3⟩:=ut (ai.1 h1)
  exact⟨c1,c2,c3,a,by rw[b]⟩
 ·simp only[h1,cT]at h
  rw[h]at h1;cases h1
theorem yh {o ids:List Int}{w:Int}(h:(kb o ids w).2.2=0):1<=w/\w<=8/\(∀ x∈ids,0<=x/\x<o.length)/\(∀ z∈ids,o.getD z.toNat (Ty.dflt .int)=w)/\(kb o ids w).1=lS o ids 0:=by
 unfold kb at h ⊢
 cases h1:((lT o ids w).2 != 0)
 ·simp only[h1,cF]at h ⊢
  obtain⟨a,b⟩:=BL ids 0 h
  obtain⟨c1,c2,c3⟩:=ut (ai.1 h1)
  exact⟨c1,c2,c3,a,by rw[b]⟩
 ·simp only[h1,cT]at h
  rw[h]at h1;cases h1
theorem ze {o ids:List Int}{w:Int}(hi:∀ x∈ids,0<=x/\x<o.length){x:Int}(h:x∈lS o ids w):x=w\/x∈o:=by
 obtain⟨i,hx⟩:=du.1 h
 unfold lS at hx
 rw[ub w ids 0 o (fun x hx=>(hi x hx).1) i]at hx
 split at hx
 ·simp at hx;exact .inl hx.symm
 ·exact .inr (bq hx)
structure RightM (m:Model):Prop where
 st:RightP m.deck m.stock
 len:m.owners.length=(cO m.deck).length
 own:∀ x∈m.owners,0<=x/\x<=m.deck.arms
theorem AI (m:Model):∀ (l:List Int) (k:Nat),nB m l k=true↔∀ x∈l,0<=x/\x<=m.deck.arms
 | [],_=>by simp[nB]
 | z :: l, k => by
   unfold nB
   have ih:=AI m l (k+1)
   by_cases h1:z<0
   ·rw[dT h1,cT];simp;intro h;omega
   ·rw[dF h1,cF]
    by_cases h2:z>m.deck.arms
    ·rw[dT h2,cT];simp;intro h;omega
    ·rw[dF h2,cF,ih]
     simp only[aD,forall_eq_or_imp]
     exact⟨fun h=>⟨⟨by omega,by omega⟩,h⟩,fun h=>h.2⟩
theorem fK {m:Model}:m32 m=true↔RightM m:=by
 unfold m32
 cases h1:m94 m.deck m.stock
 ·simp only[jU,cT]
  exact⟨fun h=>(by cases h),fun h=>by have:=mT.2 h.st;rw[h1]at this;cases this⟩
 have h1:=mT.1 h1
 rw[bc,cF]
 cases h2:((m.owners.length:Int) != ((cO m.deck).length:Int))
 ·have h2:(m.owners.length:Int)=((cO m.deck).length:Int):=ai.1 h2
  rw[cF,AI]
  exact⟨fun h=>⟨h1,by omega,h⟩,fun h=>h.own⟩
 ·rw[cT]
  exact⟨fun h=>(by cases h),fun h=>by have:=h.len;simp at h2;omega⟩
theorem uk (d:Deck):∀ l:List Int,∃ e i,Wn.jD d l=Wn.fD e i
 | []=>⟨_,_,rfl⟩
 | z :: l => by
   obtain⟨e,i,h⟩:=uk d l
   unfold Wn.jD
   rw[ch]
   split
   ·exact⟨_,_,rfl⟩
   ·exact⟨e,i,h⟩
theorem sV (d:Deck)(q:Req):∃ e i,Wn.dr d q=Wn.fD e i:=by
 unfold Wn.dr Wn.kI Wn.Hm Wn.og
 repeat' (first|exact⟨_,_,rfl⟩|exact uk _ _|(rw[ch];split))
inductive Step (m:Model) (who:Int) (q:Req):Model->Resp->Prop
 | refuse (e i:Int) (he:e≠0):Step m who q m ⟨e,i,0,0,[]⟩
 | reserve (hk:q.kind=1) (h:(lU m.owners (dJ q.ids) who).2.2=0):Step m who q { m with owners:=lS m.owners (dJ q.ids) who } ⟨0,0,((m39 (lS m.owners (dJ q.ids) who) who).length:Int),0,[]⟩
 | release (hk:q.kind=2) (h:(kb m.owners (dJ q.ids) who).2.2=0):Step m who q { m with owners:=lS m.owners (dJ q.ids) 0 } ⟨0,0,((m39 (lS m.owners (dJ q.ids) 0) who).length:Int),0,[]⟩
 | free (hk:q.kind=3):Step m who q { m with owners:=lS m.owners (m39 m.owners who) 0 } ⟨0,0,((m39 m.owners who).length:Int),0,[]⟩
 | move (hk:q.kind=4) (h:(lq m.deck m.stock who q.a q.b (Wn.cB q).1).2=0):Step m who q { m with stock:=(lq m.deck m.stock who q.a q.b (Wn.cB q).1).1 } ⟨0,0,(Wn.cB q).1,(List.getD (lq m.deck m.stock who q.a q.b (Wn.cB q).1).1.cells q.a.toNat (Ty.dflt Ty.cell)).ver,[]⟩
 | fill (hk:q.kind=5) (h:(ka m.deck m.stock who q.a (Wn.cB q).1).2=0):Step m who q { m with stock:=(ka m.deck m.stock who q.a (Wn.cB q).1).1 } ⟨0,0,(Wn.cB q).1,(List.getD (ka m.deck m.stock who q.a (Wn.cB q).1).1.cells q.a.toNat (Ty.dflt Ty.cell)).ver,[]⟩
 | waste (hk:q.kind=6) (h:(jZ m.deck m.stock who q.a (Wn.cB q).1).2=0):Step m who q { m with stock:=(jZ m.deck m.stock who q.a (Wn.cB q).1).1 } ⟨0,0,(Wn.cB q).1,(List.getD (jZ m.deck m.stock who q.a (Wn.cB q).1).1.cells q.a.toNat (Ty.dflt Ty.cell)).ver,[]⟩
 | take (hk:q.kind=7) (h:(gI m.deck m.stock who q.a).2=0):Step m who q { m with stock:=(gI m.deck m.stock who q.a).1 } ⟨0,q.a,0,0,[]⟩
 | drop (hk:q.kind=8) (h:(gH m.deck m.stock who).2=0):Step m who q { m with stock:=(gH m.deck m.stock who).1 } ⟨0,m34 m who,0,0,[]⟩
 | ask (hk:q.kind=9):Step m who q m ⟨0,0,(List.getD m.stock.cells q.a.toNat (Ty.dflt Ty.cell)).vol,(List.getD m.stock.cells q.a.toNat (Ty.dflt Ty.cell)).ver,[]⟩
 | since (hk:q.kind=10) (h:(iw (List.getD m.stock.logs q.a.toNat (Ty.dflt Ty.log)) q.ver).2=0):Step m who q m ⟨0,0,0,(List.getD m.stock.logs q.a.toNat (Ty.dflt Ty.log)).last,(iw (List.getD m.stock.logs q.a.toNat (Ty.dflt Ty.log)) q.ver).1⟩
theorem oB {o:List Int}{w x:Int}(h:x∈m39 o w):0<=x/\x<o.length/\o.getD x.toNat (Ty.dflt .int)=w:=by
 rw[vQ]at h
 obtain⟨i,h1,h2⟩:=(vJ w o 0 x).1 h
 have:=(an.1 h1).1
 refine⟨by omega,by omega,?_⟩
 rw[show x.toNat=i by omega,bn,h1];rfl
theorem yg {o ids:List Int}{w:Int}:∀ (l:List Int) (k:Nat),(∀ z∈l,o.getD z.toNat (Ty.dflt .int)=w)->gJ o ids w l k=(lS o ids 0,0,0)
 | [],_,_=>rfl
 | z :: l, k, h => by
   unfold gJ
   rw[show(o.getD z.toNat (Ty.dflt .int) != w)=false from ai.2 (h z (by simp)),cF]
   exact yg l (k+1) fun x hx=>h x (by simp[hx])
theorem AM {o:List Int}:∀ {l:List Int} {k:Nat},(∀ x∈l,0<=x/\x<=8)->pI l k=true
 | [],_,_=>rfl
 | z :: l, k, h => by
   unfold pI
   have:=h z (by simp)
   rw[dF (by omega),cF,dF (by omega),cF]
   exact AM (o:=o) fun x hx=>h x (by simp[hx])
theorem IS {l:List Int}(h:iU l){i j:Nat}{x y:Int}(hij:i<j)(hx:l[i]?=some x)(hy:l[j]?=some y):x<y:=by
 obtain⟨h1,rfl⟩:=an.1 hx
 obtain⟨h2,rfl⟩:=an.1 hy
 exact ge.1 h i j h1 h2 hij
theorem xD (l:List Int)(h:iU l)(hl:l.length<=1000000):∀ (zs:List Int) (k:Nat),1<=k->zs=l.drop k->pH l zs k=true
 | [],_,_,_=>rfl
 | z :: zs, k, hk, e => by
   have hlt:k<l.length:=by
    rcases ay k l.length with h|h
    ·exact h
    ·rw[dN h]at e;cases e
   have ez:l[k]?=some z:=by rw[← lQ,← e];rfl
   have et:zs=l.drop (k+1):=by rw[← List.tail_drop,← e];rfl
   unfold pH
   rw[ax (by omega) (by omega),show((k:Int)-1).toNat=k-1 by omega]
   have e1:l[k-1]?=some (l.getD (k-1) (Ty.dflt .int)):=getD_some (by omega)
   have:=IS h (i:=k-1) (j:=k) (by omega) e1 ez
   rw[dF (by omega),cF]
   exact xD l h hl zs (k+1) (by omega) et
theorem JO {m:Model}{who:Int}(hr:RightM m)(h1:1<=who)(h2:who<=m.deck.arms):kb m.owners (m39 m.owners who) who=(lS m.owners (m39 m.owners who) 0,0,0):=by
 have ha:=hr.st.arms
 have hl:(m39 m.owners who).length<=1000000:=aZ Mm (by rw[hr.len];exact aZ (jB _) (by omega))
 have e1:xQ m.owners=true:=AM (o:=m.owners) fun x hx=>by have:=hr.own x hx;omega
 have e2:zG (m39 m.owners who)=true:=xD _ (by rw[vQ];exact oC who _ 0) hl _ 1 (by omega) rfl
 have e3:∀ (l:List Int) (k:Nat),(∀ x∈l,0<=x/\x<m.owners.length)->iv m.owners l k=(0,0):=by
  intro l
  induction l with
  | nil=>intro k _;rfl
  | cons z l ih =>
    intro k h
    unfold iv
    have:=h z (by simp)
    rw[dF (by omega),cF,dF (by omega),cF]
    exact ih (k+1) fun x hx=>h x (by simp[hx])
 unfold kb lT
 rw[e1,e2,dF (show ¬ who<1 by omega),dF (show ¬ who>8 by omega),e3 _ 0 fun x hx=>⟨(oB hx).1,(oB hx).2.1⟩]
 simp only[bc,cF,kw]
 exact yg _ 0 fun z hz=>(oB hz).2.2
theorem wm {m:Model}{who:Int}{q:Req}(hr:RightM m):Step m who q (m38 m who q).1 (m38 m who q).2:=by
 unfold m38
 rw[fK.2 hr]
 rw[bc,cF]
 by_cases h1:who<1
 ·rw[dT h1,cT];exact .refuse 80 0 (by decide)
 rw[dF h1,cF]
 by_cases h2:who>m.deck.arms
 ·rw[dT h2,cT];exact .refuse 80 0 (by decide)
 rw[dF h2,cF]
 cases h4:((Wn.dr m.deck q).err != 0)
 case true=>
  rw[cT]
  obtain⟨e,i,he⟩:=sV m.deck q
  rw[he]at h4 ⊢
  exact .refuse e i (by simpa[Wn.fD]using h4)
 rw[cF]
 cases (DS m.owners (Wn.kW m.deck q) who).2
 case true=>rw[cT];exact .refuse 141 _ (by decide)
 rw[cF]
 have hk:=BB (ai.1 h4)
 have hk:q.kind=1\/q.kind=2\/q.kind=3\/q.kind=4\/q.kind=5\/q.kind=6\/q.kind=7\/q.kind=8\/q.kind=9\/q.kind=10:=by omega
 rcases hk with hk|hk|hk|hk|hk|hk|hk|hk|hk|hk
 ·simp only[hk,dA,cT]
  unfold tI dP xU
  simp only[hk,dA,cT]
  by_cases h5:((Zn.dj (m39 m.owners who) (dJ q.ids)).length:Int)>40
  ·rw[dT h5,cT];exact .refuse 160 0 (by decide)
  rw[dF h5,cF]
  cases h6:((lU m.owners (dJ q.ids) who).2.2 != 0)
  ·have h6:(lU m.owners (dJ q.ids) who).2.2=0:=ai.1 h6
   rw[cF,(wQ h6).2.2.2.2]
   exact .reserve hk h6
  ·rw[cT];exact .refuse _ _ (dl.1 h6)
 ·simp only[hk,Int.reduceBEq,cT,cF]
  unfold tI dP xU
  simp only[hk,Int.reduceBEq,cF]
  cases h6:((kb m.owners (dJ q.ids) who).2.2 != 0)
  ·have h6:(kb m.owners (dJ q.ids) who).2.2=0:=ai.1 h6
   rw[cF,(yh h6).2.2.2.2]
   exact .release hk h6
  ·rw[cT];exact .refuse _ _ (dl.1 h6)
 ·simp only[hk,Int.reduceBEq,cT,cF]
  rw[JO hr (by omega) (by omega)]
  exact .free hk
 all_goals
  simp only[hk,Int.reduceBEq,cT,cF]
 ·unfold oV dP
  simp only[hk,Int.reduceBEq,cT]
  cases decide (m34 m who<0)
  case true=>exact .refuse 131 0 (by decide)
  rw[cF]
  cases h6:((lq m.deck m.stock who q.a q.b (Wn.cB q).1).2 != 0)
  ·rw[cF];exact .move hk (ai.1 h6)
  ·rw[cT];exact .refuse _ _ (dl.1 h6)
 ·unfold oV dP
  simp only[hk,Int.reduceBEq,cT,cF]
  cases decide (m34 m who<0)
  case true=>exact .refuse 131 0 (by decide)
  rw[cF]
  cases h6:((ka m.deck m.stock who q.a (Wn.cB q).1).2 != 0)
  ·rw[cF];exact .fill hk (ai.1 h6)
  ·rw[cT];exact .refuse _ _ (dl.1 h6)
 ·unfold oV dP
  simp only[hk,Int.reduceBEq,cF]
  cases decide (m34 m who<0)
  case true=>exact .refuse 131 0 (by decide)
  rw[cF]
  cases h6:((jZ m.deck m.stock who q.a (Wn.cB q).1).2 != 0)
  ·rw[cF];exact .waste hk (ai.1 h6)
  ·rw[cT];exact .refuse _ _ (dl.1 h6)
 ·unfold dP
  cases h6:((gI m.deck m.stock who q.a).2 != 0)
  ·rw[cF];exact .take hk (ai.1 h6)
  ·rw[cT];exact .refuse _ _ (dl.1 h6)
 ·unfold dP
  cases h6:((gH m.deck m.stock who).2 != 0)
  ·rw[cF];exact .drop hk (ai.1 h6)
  ·rw[cT];exact .refuse _ _ (dl.1 h6)
 ·exact .ask hk
 ·unfold dP
  cases h6:((iw (List.getD m.stock.logs q.a.toNat (Ty.dflt Ty.log)) q.ver).2 != 0)
  ·rw[cF];exact .since hk (ai.1 h6)
  ·rw[cT];exact .refuse _ _ (dl.1 h6)
theorem px {m:Model}{ids:List Int}{w:Int}(hr:RightM m)(hi:∀ x∈ids,0<=x/\x<m.owners.length)(h1:0<=w)(h2:w<=m.deck.arms):RightM { m with owners:=lS m.owners ids w } where
 st:=hr.st
 len:=(rH w ids 0 m.owners).trans hr.len
 own:=fun x hx=>by
  rcases ze hi hx with rfl|h
  ·exact⟨h1,h2⟩
  ·exact hr.own x h
theorem zb {m n:Model}{who:Int}{q:Req}{x:Resp}(hr:RightM m)(hw:x.err=0->who<=m.deck.arms)(h:Step m who q n x):RightM n:=by
 have ha:=hr.st.arms
 cases h with
 | refuse e i he=>exact hr
 | reserve hk h =>
   obtain⟨c1,c2,c3,c4,c5⟩:=wQ h
   exact px hr c3 (by omega) (hw rfl)
 | release hk h =>
   obtain⟨c1,c2,c3,c4,c5⟩:=yh h
   exact px hr c3 (by omega) (by omega)
 | free hk=>exact px hr (fun x hx=>⟨(oB hx).1,(oB hx).2.1⟩) (by omega) (by omega)
 | move hk h=>exact⟨zt (mP q) h,hr.len,hr.own⟩
 | fill hk h=>exact⟨zT h,hr.len,hr.own⟩
 | waste hk h=>exact⟨wL (mP q) h,hr.len,hr.own⟩
 | take hk h=>exact⟨yV h,hr.len,hr.own⟩
 | drop hk h=>exact⟨zV h,hr.len,hr.own⟩
 | ask hk=>exact hr
 | since hk h=>exact hr
theorem BS {m:Model}{who:Int}{q:Req}(h:(m38 m who q).2.err=0):RightM m/\1<=who/\who<=m.deck.arms:=by
 unfold m38 at h
 cases h0:m32 m
 ·rw[h0]at h;cases (show(161:Int)=0 from h)
 rw[h0,bc,cF]at h
 by_cases h1:who<1
 ·rw[dT h1]at h;cases (show(80:Int)=0 from h)
 rw[dF h1,cF]at h
 by_cases h2:who>m.deck.arms
 ·rw[dT h2]at h;cases (show(80:Int)=0 from h)
 exact⟨fK.1 h0,by omega,by omega⟩
theorem sQ {m:Model}{who:Int}{q:Req}(hr:RightM m):RightM (m38 m who q).1:=zb hr (fun h=>(BS h).2.2) (wm hr)
end Go.Proofs.Mo

namespace Go.Proofs.Mo
open Go.Proofs.Tryz
open Go Go.VL Go.Proofs.Zn Go.Proofs.Mn
theorem RightM.ok {m:Model}(h:RightM m):OkM m:=by
 have hd:=cf h.st.zone
 have hc:=iK h.st.zone
 have c1:=h.st.lenC
 have c2:=h.st.lenL
 have c3:=h.st.lenT
 have c4:=jB m.deck
 have c5:=h.len
 have hw:=pn h.st.lenC h.st.lenL h.st.wells
 have:=hd.wells
 have:=hd.tips
 have:=hd.lanes
 have:=hd.plates
 have:=hd.racks
 refine⟨by omega,by omega,by omega,by omega,by omega,by omega,by omega,fun p hp=>aZ (ua (hd.plate p hp)) (by omega),fun l hl=>?_,fun x hx=>?_,by omega⟩
 ·obtain⟨i,hi⟩:=du.1 hl
  have hlt:i<m.stock.logs.length:=(an.1 hi).1
  have:=qW.1 (h.st.wells i _ _ l (aj (by omega)) (aj (by omega)) hi).2.2.1
  omega
 ·obtain⟨c,hc,rfl⟩:=aT.1 hx
  have:=fp (hw c hc)
  unfold cy;omega
theorem MC {m:Model}(h:RightM m)(w:Int):m34 m w=if gD m.stock w<0 then -1 else(m.stock.cells.length:Int)+gD m.stock w:=by
 have h1:=mT.2 h.st
 have h2:=fK.2 h
 have ho:=h.ok
 unfold m34 m96
 rw[h1,h2]
 by_cases hn:gD m.stock w<0
 ·rw[dT hn,aE hn];rfl
 ·rw[dF hn,aH hn]
  simp only[bc,cF]
  have:=JK m.stock w
  have:=ho.cells
  have:=ho.tips
  exact ax (by omega) (by omega)
end Go.Proofs.Mo

namespace Go.Proofs.Mo
open Go.Proofs.Tryz
open Go Go.VL Go.Proofs.Zn Go.Proofs.Mn
def dX (e i:Int):Prop:=0<=e/\e<65536/\(e=3\/e=152\/(-2147483648<=i/\i<2147483648))
def jc (e:Int):Prop:=0<=e/\e<65536
theorem Iv (q:Req):jc (Wn.cB q).2:=by
 unfold Wn.cB Wn.ofS jc
 repeat' (first|omega|(rw[ch];split))
theorem sX (c:Cell)(n:Int):jc (nV c n).2:=by
 unfold nV Jy jc
 repeat' (first|omega|(simp only[];omega)|(rw[ch];split))
theorem xu (c:Cell)(n:Int):jc (pG c n).2:=by
 unfold pG
 cases dc c
 ·exact sX c n
 ·cases decide (n<1)
  ·exact sX c n
  ·unfold jc;simp
theorem yq (c:Cell)(n:Int):jc (nX c n).2:=by
 unfold nX
 cases dc c<;>cases decide (n<1)<;>first|exact sX c _|(unfold jc;simp)
theorem rW {d:Deck}:∀ (l:List Int) {e i:Int},Wn.jD d l=Wn.fD e i->dX e i
 | [], e, i, h => by
   unfold Wn.jD Wn.fD at h
   simp only[Resp.mk.injEq]at h
   unfold dX;omega
 | z :: l, e, i, h => by
   unfold Wn.jD at h
   rw[ch]at h
   split at h
   ·unfold Wn.fD at h
    simp only[Resp.mk.injEq]at h
    unfold dX;omega
   ·exact rW l h
theorem yx {d:Deck}(hz:(cW d != 0)=false)(q:Req):∃ e i,Wn.dr d q=Wn.fD e i/\dX e i:=by
 obtain⟨e,i,h⟩:=sV d q
 refine⟨e,i,h,?_⟩
 have hv:=Iv q
 unfold jc at hv
 unfold Wn.dr at h
 rw[hz,cF]at h
 unfold Wn.kI Wn.Hm Wn.og at h
 repeat' (first|exact rW _ h|(unfold Wn.fD at h;simp only[Resp.mk.injEq]at h;unfold dX;omega)|(rw[ch]at h;split at h))
theorem uU {o:List Int}{w:Int}:∀ (l:List Int) (k:Nat),(my o w l k).2=true->(my o w l k).1∈l
 | [],_,h=>by simp[my]at h
 | z :: l, k, h => by
   unfold my at h ⊢
   by_cases h1:z<0
   ·rw[dT h1];simp
   rw[dF h1,cF]at h ⊢
   by_cases h2:z>=(o.length:Int)
   ·rw[dT h2];simp
   rw[dF h2,cF]at h ⊢
   cases h3:(o.getD z.toNat (Ty.dflt .int) != w)
   ·rw[h3,cF]at h
    rw[cF]
    exact List.mem_cons_of_mem _ (uU l (k+1) h)
   ·simp
theorem wV {d:Deck}(hz:(cW d != 0)=false){s:Span}(hs:gL d s){n:Int}(h:n∈eu d s):0<=n/\n<=1000:=by
 have hd:=cf hz
 have:=hd.wells
 have:=hd.tips
 have:=hd.lanes
 have h:=uo.1 h
 unfold gL at hs
 omega
theorem pA {d:Deck}(hz:(cW d != 0)=false){a n:Int}(h:n∈(gC d [a]).1):0<=n/\n<=1000:=by
 unfold gC at h
 cases h1:(da d [a]).2 != 0
 ·rw[h1,cF]at h
  have h0:(da d [a]).2=0:=by simpa using h1
  obtain⟨g1,g2,g3⟩:=kR h0
  obtain⟨s,hs,hn⟩:=pB.1 h
  exact wV hz (g2 s hs) hn
 ·rw[h1]at h;cases h
theorem Dm {d:Deck}(hz:(cW d != 0)=false){a b n:Int}(h:n∈(md d a b).1):0<=n/\n<=1000:=by
 unfold md at h
 cases h1:(da d [a,b]).2 != 0
 ·rw[h1,cF]at h
  have h0:(da d [a,b]).2=0:=by simpa using h1
  obtain⟨g1,g2,g3⟩:=kR h0
  obtain⟨x,y,e⟩:=rn g3
  rw[e]at h g2
  exact wV hz (yP (g2 x (by simp)) (g2 y (by simp))) h
 ·rw[h1]at h;cases h
theorem sA {d:Deck}{i:Int}(h:Wn.eH d i≠0):0<=i/\i<=1000:=by
 unfold Wn.eH at h
 have hp:(kU d i).2=0:=by
  by_cases h1:(kU d i).2=0
  ·exact h1
  ·rw[Wn.FT h1]at h;exact absurd rfl h
 unfold kU at hp
 cases h1:dE d != 0
 case true=>rw[h1,cT]at hp;simp only at hp;rw[hp]at h1;cases h1
 rw[h1,cF]at hp
 by_cases h2:i<0
 ·rw[dT h2]at hp;cases (show(3:Int)=0 from hp)
 rw[dF h2,cF]at hp
 by_cases h3:i>=((dz d).length:Int)
 ·rw[dT h3]at hp;cases (show(3:Int)=0 from hp)
 have:=jB d
 unfold cO at this
 rw[h1,cF]at this
 omega
theorem BD {d:Deck}:∀ {l:List Int},(Wn.jD d l).err=0->∀ x∈l,Wn.eH d x≠0
 | [],_,x,hx=>by simp at hx
 | z :: l, h, x, hx => by
   unfold Wn.jD at h
   cases h1:(Wn.eH d z==0)
   ·rw[h1,cF]at h
    rcases aD.1 hx with rfl|hx
    ·exact aN.1 h1
    ·exact BD h x hx
   ·rw[h1]at h;cases (show(3:Int)=0 from h)
theorem Gh {d:Deck}{q:Req}(hz:(cW d != 0)=false)(h:(Wn.dr d q).err=0){x:Int}(hx:x∈Wn.kW d q):0<=x/\x<=1000:=by
 unfold Wn.kW at hx
 rw[show((Wn.dr d q).err != 0)=false from ai.2 h,cF]at hx
 have hk:=BB h
 unfold Wn.dr at h
 rw[hz,cF]at h
 cases k2:(decide (q.kind<1)||decide (q.kind>10))
 case true=>rw[k2]at h;cases (show(150:Int)=0 from h)
 rw[k2,cF]at h
 cases k3:(!Wn.qI (Wn.JJ q) (Wn.flS q.kind))
 case true=>rw[k3]at h;cases (show(151:Int)=0 from h)
 rw[k3,cF]at h
 have hk:q.kind=1\/q.kind=2\/q.kind=3\/q.kind=4\/q.kind=5\/q.kind=6\/q.kind=7\/q.kind=8\/q.kind=9\/q.kind=10:=by omega
 have ha:q.kind=4\/q.kind=5\/q.kind=6\/q.kind=7->0<=q.a/\q.a<=1000:=by
  intro hk
  have hf:(Wn.flS q.kind).ids=false/\(Wn.flS q.kind).a=true:=by rcases hk with hk|hk|hk|hk<;>rw[hk]<;>exact⟨rfl,rfl⟩
  rw[hf.1,cF]at h
  unfold Wn.kI at h
  rw[hf.2,cm]at h
  cases h1:(Wn.eH d q.a != Wn.fI q)
  ·apply sA
   have h1:Wn.eH d q.a=Wn.fI q:=ai.1 h1
   rw[h1]
   unfold Wn.fI
   cases (q.kind==7)<;>simp
  ·rw[h1]at h;cases (show(3:Int)=0 from h)
 have hb:q.kind=4->0<=q.b/\q.b<=1000:=by
  intro hk
  have hf:(Wn.flS q.kind).ids=false/\(Wn.flS q.kind).a=true/\(Wn.flS q.kind).b=true:=by rw[hk];exact⟨rfl,rfl,rfl⟩
  rw[hf.1,cF]at h
  unfold Wn.kI at h
  rw[hf.2.1,hf.2.2,cm,cm]at h
  cases h1:(Wn.eH d q.a != Wn.fI q)
  ·rw[h1,cF]at h
   cases h2:(Wn.eH d q.b != Wn.fI q)
   ·apply sA
    have h2:Wn.eH d q.b=Wn.fI q:=ai.1 h2
    rw[h2]
    unfold Wn.fI
    cases (q.kind==7)<;>simp
   ·rw[h2]at h;cases (show(3:Int)=0 from h)
  ·rw[h1]at h;cases (show(3:Int)=0 from h)
 unfold Wn.un at hx
 rcases hk with hk|hk|hk|hk|hk|hk|hk|hk|hk|hk<;>simp only[hk,Int.reduceBEq,cT,cF,List.not_mem_nil,mY]at hx
 ·have hf:(Wn.flS q.kind).ids=true:=by rw[hk];rfl
  rw[hf,cT]at h
  unfold Wn.og at h
  cases h1:((q.ids.length:Int)==0)
  case true=>rw[h1]at h;cases (show(1:Int)=0 from h)
  rw[h1,cF]at h
  cases h2:decide ((q.ids.length:Int)>16)
  case true=>rw[h2]at h;cases (show(2:Int)=0 from h)
  rw[h2,cF]at h
  cases h3:decide (Wn.nJ q.ids>=0)
  case true=>rw[h3]at h;cases (show(152:Int)=0 from h)
  rw[h3,cF]at h
  exact sA (BD h x (mX.1 hx))
 ·rcases hx with rfl|rfl|hx
  ·exact hb hk
  ·exact ha (.inl hk)
  ·exact Dm hz hx
 ·rcases hx with rfl|hx
  ·exact ha (.inr (.inl hk))
  ·exact pA hz hx
 ·rcases hx with rfl|hx
  ·exact ha (.inr (.inr (.inl hk)))
  ·exact pA hz hx
 ·rcases hx with rfl|hx
  ·exact ha (.inr (.inr (.inr hk)))
  ·exact pA hz hx
end Go.Proofs.Mo

namespace Go.Proofs.Mo
open Go.Proofs.Tryz
open Go Go.VL Go.Proofs.Zn Go.Proofs.Mn
theorem ur {o ids:List Int}{w:Int}:(lT o ids w).2=0\/(lT o ids w).2=1/\(lT o ids w).1=0\/(lT o ids w).2=3:=by
 have go:∀ (l:List Int) (k:Nat),(iv o l k).2=0\/(iv o l k).2=1/\(iv o l k).1=0\/(iv o l k).2=3:=by
  intro l
  induction l with
  | nil=>intro k;exact .inl rfl
  | cons z l ih =>
    intro k
    unfold iv
    cases decide (z<0)
    ·cases decide (z>=(o.length:Int))
     ·exact ih (k+1)
     ·exact .inr (.inr rfl)
    ·exact .inr (.inr rfl)
 unfold lT
 cases !xQ o
 case true=>exact .inr (.inl ⟨rfl,rfl⟩)
 cases decide (w<1)
 case true=>exact .inr (.inl ⟨rfl,rfl⟩)
 cases decide (w>8)
 case true=>exact .inr (.inl ⟨rfl,rfl⟩)
 cases !zG ids
 case true=>exact .inr (.inl ⟨rfl,rfl⟩)
 exact go ids 0
theorem yU {o ids:List Int}{w:Int}(hl:o.length<=1000):dX (lU o ids w).2.2 (lU o ids w).2.1:=by
 unfold lU
 cases h1:((lT o ids w).2 != 0)
 ·simp only[h1,cF]
  have hi:=zw (ai.1 h1)
  have go:∀ (l:List Int) (k:Nat),(∀ x∈l,0<=x/\x<o.length)->dX (gW o ids w l k).2.2 (gW o ids w l k).2.1:=by
   intro l
   induction l with
   | nil=>intro k _;exact⟨by simp[gW],by simp[gW],.inr (.inr (by simp[gW]))⟩
   | cons z l ih =>
     intro k hl'
     unfold gW
     have hz:=hl' z (by simp)
     have ih:=ih (k+1) fun x hx=>hl' x (by simp[hx])
     cases (o.getD z.toNat (Ty.dflt .int) != 0)
     ·exact ih
     ·cases (o.getD z.toNat (Ty.dflt .int) != w)
      ·exact ih
      ·exact⟨by simp,by simp,.inr (.inr (by simp only[cT];omega))⟩
  exact go ids 0 hi
 ·simp only[h1,cT]
  rcases ur (o:=o) (ids:=ids) (w:=w)with h|⟨h,h'⟩|h
  ·rw[h]at h1;cases h1
  ·rw[h,h'];unfold dX;omega
  ·rw[h];unfold dX;omega
theorem zS {o ids:List Int}{w:Int}(hl:o.length<=1000):dX (kb o ids w).2.2 (kb o ids w).2.1:=by
 unfold kb
 cases h1:((lT o ids w).2 != 0)
 ·simp only[h1,cF]
  have hi:=zw (ai.1 h1)
  have go:∀ (l:List Int) (k:Nat),(∀ x∈l,0<=x/\x<o.length)->dX (gJ o ids w l k).2.2 (gJ o ids w l k).2.1:=by
   intro l
   induction l with
   | nil=>intro k _;exact⟨by simp[gJ],by simp[gJ],.inr (.inr (by simp[gJ]))⟩
   | cons z l ih =>
     intro k hl'
     unfold gJ
     have hz:=hl' z (by simp)
     have ih:=ih (k+1) fun x hx=>hl' x (by simp[hx])
     cases (o.getD z.toNat (Ty.dflt .int) != w)
     ·exact ih
     ·exact⟨by simp,by simp,.inr (.inr (by simp only[cT];omega))⟩
  exact go ids 0 hi
 ·simp only[h1,cT]
  rcases ur (o:=o) (ids:=ids) (w:=w)with h|⟨h,h'⟩|h
  ·rw[h]at h1;cases h1
  ·rw[h,h'];unfold dX;omega
  ·rw[h];unfold dX;omega
theorem po {e:Int}(h:jc e):dX e 0:=by unfold jc at h;unfold dX;omega
theorem oG (d:Deck)(s:Stock)(b:Int):jc (iQ d s b):=by
 unfold iQ jc
 cases (!m94 d s)<;>cases decide (b<1)<;>cases decide (b>d.arms)<;>simp
theorem Hj (d:Deck)(s:Stock)(b i n:Int):jc (ka d s b i n).2:=by
 have h1:=oG d s b
 have h2:=xu (List.getD s.cells i.toNat (Ty.dflt Ty.cell)) n
 unfold ka jc at *
 repeat' (first|omega|(simp only[];omega)|(rw[ch];split))
theorem CD (d:Deck)(s:Stock)(b i n:Int):jc (jZ d s b i n).2:=by
 have h1:=oG d s b
 have h2:=yq (List.getD s.cells i.toNat (Ty.dflt Ty.cell)) n
 unfold jZ jc at *
 repeat' (first|omega|(simp only[];omega)|(rw[ch];split))
theorem Gi (d:Deck)(s:Stock)(b i j n:Int):jc (lq d s b i j n).2:=by
 have h1:=oG d s b
 have h2:=yq (List.getD s.cells i.toNat (Ty.dflt Ty.cell)) n
 have h3:=xu (List.getD s.cells j.toNat (Ty.dflt Ty.cell)) n
 unfold lq GA jc at *
 repeat' (first|omega|(simp only[];omega)|(rw[ch];split))
theorem EU (d:Deck)(s:Stock)(b i:Int):jc (gI d s b i).2:=by
 have h1:=oG d s b
 unfold gI GD jc at *
 repeat' (first|omega|(simp only[];omega)|(rw[ch];split))
theorem Hr (d:Deck)(s:Stock)(b:Int):jc (gH d s b).2:=by
 have h1:=oG d s b
 unfold gH jc at *
 repeat' (first|omega|(simp only[];omega)|(rw[ch];split))
theorem CT (l:Log)(v:Int):jc (iw l v).2:=by
 rw[← ou]
 unfold ss jc
 repeat' (first|omega|(simp only[];omega)|(rw[ch];split))
theorem MD {m:Model}{who:Int}{q:Req}(hr:RightM m):dX (m38 m who q).2.err (m38 m who q).2.id\/(m38 m who q).2.err=0:=by
 have ho:m.owners.length<=1000:=by rw[hr.len];exact jB _
 have hc:∀ i,dX 131 0/\dX 80 0/\dX 160 0/\(0<=i/\i<=1000->dX 141 i):=fun i=>by unfold dX;omega
 unfold m38
 rw[fK.2 hr,bc,cF]
 cases decide (who<1)
 case true=>exact .inl (hc 0).2.1
 rw[cF]
 cases decide (who>m.deck.arms)
 case true=>exact .inl (hc 0).2.1
 rw[cF]
 obtain⟨e,i,he,hs⟩:=yx hr.st.zone q
 cases h4:((Wn.dr m.deck q).err != 0)
 case true=>rw[cT];rw[he];exact .inl hs
 have h4:(Wn.dr m.deck q).err=0:=ai.1 h4
 rw[cF]
 cases h5:(DS m.owners (Wn.kW m.deck q) who).2
 case true=>exact .inl ((hc _).2.2.2 (Gh hr.st.zone h4 (uU _ 0 h5)))
 rw[cF]
 have hk:=BB h4
 have hk:q.kind=1\/q.kind=2\/q.kind=3\/q.kind=4\/q.kind=5\/q.kind=6\/q.kind=7\/q.kind=8\/q.kind=9\/q.kind=10:=by omega
 rcases hk with hk|hk|hk|hk|hk|hk|hk|hk|hk|hk
 all_goals simp only[hk,Int.reduceBEq,cT,cF]
 ·unfold tI dP xU
  simp only[hk,Int.reduceBEq,cT]
  cases decide (((Zn.dj (m39 m.owners who) (dJ q.ids)).length:Int)>40)
  case true=>exact .inl (hc 0).2.2.1
  cases ((lU m.owners (dJ q.ids) who).2.2 != 0)
  ·exact .inr rfl
  ·exact .inl (yU ho)
 ·unfold tI dP xU
  simp only[hk,Int.reduceBEq,cF]
  cases ((kb m.owners (dJ q.ids) who).2.2 != 0)
  ·exact .inr rfl
  ·exact .inl (zS ho)
 ·exact .inr (by first|rfl|trivial)
 ·unfold oV dP
  simp only[hk,Int.reduceBEq,cT]
  cases decide (m34 m who<0)
  case true=>exact .inl (hc 0).1
  cases ((lq m.deck m.stock who q.a q.b (Wn.cB q).1).2 != 0)
  ·exact .inr rfl
  ·exact .inl (po (Gi _ _ _ _ _ _))
 ·unfold oV dP
  simp only[hk,Int.reduceBEq,cT,cF]
  cases decide (m34 m who<0)
  case true=>exact .inl (hc 0).1
  cases ((ka m.deck m.stock who q.a (Wn.cB q).1).2 != 0)
  ·exact .inr rfl
  ·exact .inl (po (Hj _ _ _ _ _))
 ·unfold oV dP
  simp only[hk,Int.reduceBEq,cF]
  cases decide (m34 m who<0)
  case true=>exact .inl (hc 0).1
  cases ((jZ m.deck m.stock who q.a (Wn.cB q).1).2 != 0)
  ·exact .inr rfl
  ·exact .inl (po (CD _ _ _ _ _))
 ·unfold dP
  cases ((gI m.deck m.stock who q.a).2 != 0)
  ·exact .inr rfl
  ·exact .inl (po (EU _ _ _ _))
 ·unfold dP
  cases ((gH m.deck m.stock who).2 != 0)
  ·exact .inr rfl
  ·exact .inl (po (Hr _ _ _))
 ·exact .inr (by first|rfl|trivial)
 ·unfold dP
  cases ((iw (List.getD m.stock.logs q.a.toNat (Ty.dflt Ty.log)) q.ver).2 != 0)
  ·exact .inr rfl
  ·exact .inl (po (CT _ _))
structure SmallR (x:Resp):Prop where
 err:dX x.err x.id
 ver0:0<=x.ver
 ver1:x.ver<4294967296
 len:x.list.length<=32
 list:∀ c∈x.list,0<=c.ver/\c.ver<4294967296/\0<=c.by'/\c.by'<256
theorem ke {m:Model}(hr:RightM m)(i:Nat):0<=(List.getD m.stock.cells i (Ty.dflt Ty.cell)).ver/\(List.getD m.stock.cells i (Ty.dflt Ty.cell)).ver<4294967296:=by
 by_cases h:i<m.stock.cells.length
 ·have hc:=pn hr.st.lenC hr.st.lenL hr.st.wells
  have:=fp (hc _ (bq (getD_some (d:=Ty.dflt Ty.cell) h)))
  omega
 ·rw[bn,au (by omega)]
  exact⟨gS 0,by decide⟩
theorem CR (l:Log)(v:Int):∀ c∈(iw l v).1,c∈l.list:=by
 rw[← ou]
 unfold ss
 intro c hc
 cases h1 : !fX l
 case true=>rw[h1]at hc;cases hc
 rw[h1,cF]at hc
 cases h2:decide (v<0)
 case true=>rw[h2]at hc;cases hc
 rw[h2,cF]at hc
 cases h3:decide (v>l.last)
 case true=>rw[h3]at hc;cases hc
 rw[h3,cF]at hc
 cases h4:decide (v<jC l)
 ·rw[h4,cF,fw]at hc
  exact List.mem_of_mem_drop hc
 ·rw[h4]at hc;cases hc
theorem CS (l:Log)(v:Int):(iw l v).1.length<=l.list.length:=by
 rw[← ou]
 unfold ss
 cases !fX l<;>cases decide (v<0)<;>cases decide (v>l.last)<;>cases decide (v<jC l)<;>simp
theorem Ht {m:Model}{who:Int}{q:Req}(hr:RightM m):SmallR (m38 m who q).2:=by
 have hs:=wm (who:=who) (q:=q) hr
 have hn:=sQ (who:=who) (q:=q) hr
 have he:=MD (who:=who) (q:=q) hr
 have ha:=BS (m:=m) (who:=who) (q:=q)
 generalize (m38 m who q).1=n at *
 generalize (m38 m who q).2=x at *
 have hd:=cf hr.st.zone
 have:=hd.wells
 have:=hd.tips
 have:=iK hr.st.zone
 have:=hr.st.lenC
 have:=hr.st.lenT
 have s0:∀ i,-1<=i/\i<=1000->dX 0 i:=fun i h=>by unfold dX;omega
 cases hs with
 | refuse e i h0=>exact⟨he.resolve_right h0,by simp,by simp,by simp,by simp⟩
 | reserve hk h=>exact⟨s0 0 (by omega),by simp,by simp,by simp,by simp⟩
 | release hk h=>exact⟨s0 0 (by omega),by simp,by simp,by simp,by simp⟩
 | free hk=>exact⟨s0 0 (by omega),by simp,by simp,by simp,by simp⟩
 | move hk h=>exact⟨s0 0 (by omega),(ke hn _).1,(ke hn _).2,by simp,by simp⟩
 | fill hk h=>exact⟨s0 0 (by omega),(ke hn _).1,(ke hn _).2,by simp,by simp⟩
 | waste hk h=>exact⟨s0 0 (by omega),(ke hn _).1,(ke hn _).2,by simp,by simp⟩
 | take hk h =>
   obtain⟨_,_,_,h1,h2,_,_,ht,e⟩:=As h
   exact⟨s0 q.a (by omega),by simp,by simp,by simp,by simp⟩
 | drop hk h =>
   obtain⟨_,_,_,k0,hk0,ht,e⟩:=BP h
   have:=(an.1 ht).1
   have h34:m34 m who=(m.stock.cells.length:Int)+k0:=by rw[MC hr,aH (by omega),hk0]
   exact⟨s0 (m34 m who) (by omega),by simp,by simp,by simp,by simp⟩
 | ask hk=>exact⟨s0 0 (by omega),(ke hr _).1,(ke hr _).2,by simp,by simp⟩
 | since hk h =>
   have hl:∃ l,List.getD m.stock.logs q.a.toNat (Ty.dflt Ty.log)=l/\0<=l.last/\l.last<=2147483647/\l.list.length<=32/\∀ c∈l.list,0<=c.ver/\c.ver<4294967296/\0<=c.by'/\c.by'<256:=by
    refine⟨_,rfl,?_⟩
    by_cases hi:q.a.toNat<m.stock.logs.length
    ·have hlen:=hr.st.lenL
     have w:=hr.st.wells q.a.toNat _ _ _ (aj (by omega)) (aj (by omega)) (getD_some (d:=Ty.dflt Ty.log) hi)
     obtain⟨l1,l2,l3,l4,l5,l6,l7⟩:=qW.1 w.2.2.1
     have w8:=w.2.2.2.1
     refine⟨l3,l4,by omega,fun c hc=>?_⟩
     obtain⟨k,hk⟩:=du.1 hc
     have hkl:=(an.1 hk).1
     obtain⟨v1,v2⟩:=l7 k c hk
     have:=vg.1 v2
     omega
    ·rw[bn,au (by omega)]
     exact⟨gS 0,by decide,by decide,fun c hc=>by cases hc⟩
   obtain⟨l,e,l1,l2,l3,l4⟩:=hl
   rw[e]
   exact⟨s0 0 (by omega),l1,by simp only[];omega,aZ (CS l q.ver) l3,fun c hc=>l4 c (CR l q.ver c hc)⟩
end Go.Proofs.Mo

namespace Go.Proofs.Mo
open Go.Proofs.Tryz
open Go Go.VL Go.Proofs.Zn Go.Proofs.Mn
def Sz (a:Model):Prop:=(a.stock.cells.length<=1000/\a.stock.logs.length<=1000/\a.stock.tips.length<=1000)/\(∀ x∈a.stock.logs,x.list.length<=1000000)/\a.owners.length<=1000000/\(a.deck.borders.length<=1000/\a.deck.plates.length<=1000/\a.deck.racks.length<=1000/\∀ p∈a.deck.plates,p.start.length<=1000000)
theorem sz26 {m:Model}(h:m26 m=false):Sz m:=by
 unfold m26 at h
 obtain⟨h1,h⟩:=hB h
 obtain⟨h2,h3⟩:=hB h
 unfold oc at h1
 obtain⟨a1,h1⟩:=hB h1
 obtain⟨a2,h1⟩:=hB h1
 obtain⟨a3,h1⟩:=hB h1
 unfold m82 at h2
 obtain⟨b1,h2⟩:=hB h2
 obtain⟨b2,h2⟩:=hB h2
 obtain⟨b3,h2⟩:=hB h2
 have a1:=oF a1
 have a2:=oF a2
 have a3:=oF a3
 have b1:=oF b1
 have b2:=oF b2
 have b3:=oF b3
 have h3:=oF h3
 exact⟨⟨by omega,by omega,by omega⟩,fun l hl=>by have:=zO h2 l hl;omega,by omega,by omega,by omega,by omega,fun p hp=>by have:=rD h1 p hp;omega⟩
theorem RightM.sz {m:Model}(h:RightM m):Sz m:=by
 have hd:=cf h.st.zone
 have hc:=iK h.st.zone
 have c1:=h.st.lenC
 have c2:=h.st.lenL
 have c3:=h.st.lenT
 have:=hd.wells
 have:=hd.tips
 have:=hd.lanes
 have:=hd.plates
 have:=hd.racks
 have hk:=h.ok
 exact⟨⟨by omega,by omega,by omega⟩,hk.list,hk.owners,by omega,by omega,by omega,hk.start⟩
theorem IM:Sz ⟨⟨[],[],[],0⟩,⟨[],[],[],0,0,0⟩,[]⟩:=⟨⟨by simp,by simp,by simp⟩,fun x hx=>(by cases hx),by simp,by simp,by simp,by simp,fun x hx=>(by cases hx)⟩
theorem Jm:OkM ⟨⟨[],[],[],0⟩,⟨[],[],[],0,0,0⟩,[]⟩:=⟨by simp,by simp,by simp,by simp,by simp,by simp,by simp,fun x hx=>by(cases hx),fun x hx=>by(cases hx),fun x hx=>by(cases hx),by simp⟩
theorem sP {m:Model}{who:Int}{q:Req}(h:m32 m=false):m38 m who q=(⟨⟨[],[],[],0⟩,⟨[],[],[],0,0,0⟩,[]⟩,⟨161,0,0,0,[]⟩):=by
 unfold m38;rw[h];rfl
structure DoP (m:Model) (who:Int) (q:Req):Prop where
 eq:m37 m who q=m38 m who q
 sz:Sz (m37 m who q).1
 ok:OkM (m37 m who q).1
 list:(m37 m who q).2.list.length<=1000000
theorem ME {m:Model}{who:Int}{q:Req}(hb:OkM m)(ha:cy q.a):DoP m who q:=by
 have e:=Pc (who:=who) hb ha
 refine⟨e,?_,?_,?_⟩<;>rw[e]
 ·cases h:m32 m
  ·rw[sP h];exact IM
  ·exact(sQ (fK.1 h)).sz
 ·cases h:m32 m
  ·rw[sP h];exact Jm
  ·exact(sQ (fK.1 h)).ok
 ·cases h:m32 m
  ·rw[sP h];simp
  ·have:=(Ht (who:=who) (q:=q) (fK.1 h)).len;omega
end Go.Proofs.Mo

namespace Go.Proofs.Mo
open Go.Proofs.Tryz
open Go Go.VL
theorem LV {a b:Model}(h:Sz a):Pure prog 30 [⟨.model,a⟩,⟨.model,b⟩] [.bool] (m30 a b):=c30 _ _ h.1 h.2.1 h.2.2.1 h.2.2.2
end Go.Proofs.Mo

namespace Go.Proofs.Mo
open Go.Proofs.Tryz
open Go Go.VL
set_option maxRecDepth 20000
open Go.Proofs.Zn Go.Proofs.Mn
open Wn (dR bK)
def tE (m:Model)(q:Req):Bool:=bif (m26 m)then true else decide ((q.ids.length:Int)>(100:Int))
theorem c35b (m:Model)(q:Req) :Pure prog 35 [⟨.model,m⟩,⟨.req,q⟩] [.bool] (tE m q):=
 Pure.of_closed (C:=codes) (S:=sigs) mixed func35 (by kernel_rfl) (ac (by kernel_rfl)) fun A hA=>hA.go (t35b m q) (by
  generalize h:tE m q=r at hA ⊢
  unfold tE at h
  refine⟨⟨q12,tv⟩,_,c26 _,?_⟩
  refine ah h (fun g1 h=>?_) (fun g1 h=>?_)
  ·exact⟨q2,h⟩
  ·exact⟨q2,h⟩)
def m7 (m:Model)(who:Int)(q:Req):Bool:=bif (tE m q)then true else bif (!(m32 m))then true else bif ((m37 m who q).2.err==(0:Int))then bif (q.kind != (9:Int))then bif (q.kind != (10:Int))then true else bif true then bif (m30 (m37 m who q).1 m)then bif ((m37 m who q).2.err==(0:Int))then true else bif ((m37 m who q).2.n==(0:Int))then bif ((m37 m who q).2.ver==(0:Int))then(↑(m37 m who q).2.list.length:Int)==(0:Int)else false else false else false else false else bif true then bif (m30 (m37 m who q).1 m)then bif ((m37 m who q).2.err==(0:Int))then true else bif ((m37 m who q).2.n==(0:Int))then bif ((m37 m who q).2.ver==(0:Int))then(↑(m37 m who q).2.list.length:Int)==(0:Int)else false else false else false else false else bif true then bif (m30 (m37 m who q).1 m)then bif ((m37 m who q).2.err==(0:Int))then true else bif ((m37 m who q).2.n==(0:Int))then bif ((m37 m who q).2.ver==(0:Int))then(↑(m37 m who q).2.list.length:Int)==(0:Int)else false else false else false else false
theorem c7 (m:Model)(who:Int)(q:Req)(hb:tE m q=false->OkM m/\OkR q/\Sz m/\Sz (m37 m who q).1/\OkM (m37 m who q).1/\(m37 m who q).2.list.length<=1000000):Pure prog 7 [⟨.model,m⟩,⟨.int,who⟩,⟨.req,q⟩] [.bool] (m7 m who q):=
 Pure.of_closed (C:=codes) (S:=sigs) mixed func7 (by kernel_rfl) (ac (by kernel_rfl)) fun A hA=>hA.go (t7 m who q) (by
  generalize h:m7 m who q=r at hA ⊢
  unfold m7 at h
  refine⟨⟨q12,q7,tv⟩,_,c35b _ _,?_⟩
  refine ah h (fun g1 h=>?_) (fun g1 h=>?_)
  ·exact⟨tv,_,wy,q2,h⟩
  ·refine⟨⟨q12,tv⟩,_,c32 _ (hb (by assumption)).1,?_⟩
   refine ah h (fun g2 h=>?_) (fun g2 h=>?_)
   ·exact⟨tv,_,wy,q2,h⟩
   ·refine⟨⟨q12,q2,q7,tv⟩,_,c37 _ _ _ (hb (by assumption)).1 (hb (by assumption)).2.1,?_⟩
    refine ah h (fun g3 h=>?_) (fun g3 h=>?_)
    ·try replace g3:=aV g3
     refine ah h (fun g4 h=>?_) (fun g4 h=>?_)
     ·refine ah h (fun g5 h=>?_) (fun g5 h=>?_)
      ·exact⟨tv,_,wy,q2,h⟩
      ·try replace g5:=ai.1 g5
       refine⟨tv,_,wy,?_⟩
       refine ah h (fun g6 h=>?_) (fun g6 h=>?_)
       ·refine⟨⟨q12,q12,tv⟩,_,LV (by first|exact(hb (by assumption)).2.2.1|exact(hb (by assumption)).2.2.2.1),?_⟩
        refine ah h (fun g7 h=>?_) (fun g7 h=>?_)
        ·refine ah h (fun g8 h=>?_) (fun g8 h=>?_)
         ·try replace g8:=aV g8
          exact⟨q2,h⟩
         ·refine ah h (fun g9 h=>?_) (fun g9 h=>?_)
          ·try replace g9:=aV g9
           refine ah h (fun g10 h=>?_) (fun g10 h=>?_)
           ·try replace g10:=aV g10
            exact⟨q2,h⟩
           ·exact⟨q2,h⟩
          ·exact⟨q2,h⟩
        ·exact⟨q2,h⟩
       ·exact⟨q2,h⟩
     ·try replace g4:=ai.1 g4
      refine⟨tv,_,wy,?_⟩
      refine ah h (fun g5 h=>?_) (fun g5 h=>?_)
      ·refine⟨⟨q12,q12,tv⟩,_,LV (by first|exact(hb (by assumption)).2.2.1|exact(hb (by assumption)).2.2.2.1),?_⟩
       refine ah h (fun g6 h=>?_) (fun g6 h=>?_)
       ·refine ah h (fun g7 h=>?_) (fun g7 h=>?_)
        ·try replace g7:=aV g7
         exact⟨q2,h⟩
        ·refine ah h (fun g8 h=>?_) (fun g8 h=>?_)
         ·try replace g8:=aV g8
          refine ah h (fun g9 h=>?_) (fun g9 h=>?_)
          ·try replace g9:=aV g9
           exact⟨q2,h⟩
          ·exact⟨q2,h⟩
         ·exact⟨q2,h⟩
       ·exact⟨q2,h⟩
      ·exact⟨q2,h⟩
    ·refine⟨tv,_,wy,?_⟩
     refine ah h (fun g4 h=>?_) (fun g4 h=>?_)
     ·refine⟨⟨q12,q12,tv⟩,_,LV (by first|exact(hb (by assumption)).2.2.1|exact(hb (by assumption)).2.2.2.1),?_⟩
      refine ah h (fun g5 h=>?_) (fun g5 h=>?_)
      ·refine ah h (fun g6 h=>?_) (fun g6 h=>?_)
       ·try replace g6:=aV g6
        exact⟨q2,h⟩
       ·refine ah h (fun g7 h=>?_) (fun g7 h=>?_)
        ·try replace g7:=aV g7
         refine ah h (fun g8 h=>?_) (fun g8 h=>?_)
         ·try replace g8:=aV g8
          exact⟨q2,h⟩
         ·exact⟨q2,h⟩
        ·exact⟨q2,h⟩
      ·exact⟨q2,h⟩
     ·exact⟨q2,h⟩)
end Go.Proofs.Mo

namespace Go.Proofs.Mo
open Go.Proofs.Tryz
open Go Go.VL Go.Proofs.Zn Go.Proofs.Mn
theorem EC {m:Model}(h:wfT .model m):jP (m.stock.cells.map Cell.vol):=by
 have h:=h (.sl .cell m.stock.cells) (by simp[enc])
 intro x hx
 obtain⟨c,hc,rfl⟩:=aT.1 hx
 cases h with
 | sl _ _ _ hh =>
   have h2:=hh c hc (.v (.int .i64 c.vol)) (by simp[enc,D.i])
   cases h2 with
   | int _ _ hh =>
     have hh:(decide ((-9223372036854775808:Int)<=c.vol)&&decide (c.vol<=9223372036854775807))=true:=hh
     simp only[aM,bx]at hh
     unfold cy;omega
end Go.Proofs.Mo

namespace Go.Proofs.Wn
open Go.Proofs.Tryz
open Go Go.VL
theorem EB {r:Req}(h:wfT .req r):0<=r.vol/\r.vol<18446744073709551616:=by
 have h:=h (.v (.int .u64 r.vol)) (by simp[enc])
 cases h with
 | int _ _ hh =>
   have hh:(decide ((0:Int)<=r.vol)&&decide (r.vol<=18446744073709551615))=true:=hh
   simp only[aM,bx]at hh
   omega
end Go.Proofs.Wn

namespace Go.Proofs.Mo
open Go.Proofs.Tryz
open Go Go.VL Go.Proofs.Zn Go.Proofs.Mn
theorem Jw {m:Model}{who:Int}{q:Req}(h:tE m q=false->DoP m who q):m7 m who q=true:=by
 unfold m7
 cases hl:tE m q
 case true=>rfl
 rw[cF]
 cases hr:m32 m
 case false=>rfl
 rw[bc,cF,(h hl).eq]
 have hs:=wm (who:=who) (q:=q) (fK.1 hr)
 generalize (m38 m who q).1=n at *
 generalize (m38 m who q).2=x at *
 cases hs with
 | refuse e i he =>
   simp only[r30,show(e==0)=false from aN.2 he]
   simp
 | ask hk=>simp[hk,r30]
 | since hk h=>simp[hk,r30]
 | reserve hk h=>simp[hk]
 | release hk h=>simp[hk]
 | free hk=>simp[hk]
 | move hk h=>simp[hk]
 | fill hk h=>simp[hk]
 | waste hk h=>simp[hk]
 | take hk h=>simp[hk]
 | drop hk h=>simp[hk]
theorem wf_a {q:Req}(h:wfT .req q):cy q.a:=by
 have h:=h (.v (.int .i64 q.a)) (by simp[enc,D.i])
 cases h with
 | int _ _ hh =>
   have hh:(decide ((-9223372036854775808:Int)<=q.a)&&decide (q.a<=9223372036854775807))=true:=hh
   simp only[aM,bx]at hh
   unfold cy;omega
theorem KW {q:Req}(h:wfT .req q)(hl:q.ids.length<=100):OkR q:=⟨(Wn.EB h).1,(Wn.EB h).2,by omega⟩
theorem Jo {m:Model}{q:Req}(h:tE m q=false):m26 m=false/\q.ids.length<=100:=by
 unfold tE at h
 obtain⟨h1,h2⟩:=hB h
 have:=oF h2
 exact⟨h1,by omega⟩
theorem law7 (m:Model)(who:Int)(q:Req)(hm:wfT .model m)(_:wfT .int who)(hq:wfT .req q):Pure prog 7 [⟨.model,m⟩,⟨.int,who⟩,⟨.req,q⟩] [.bool] true:=by
 have h:tE m q=false->OkM m/\DoP m who q:=fun hl=>⟨OO (EC hm) (Jo hl).1,ME (OO (EC hm) (Jo hl).1) (wf_a hq)⟩
 have c:=c7 m who q fun hl=>⟨(h hl).1,KW hq (Jo hl).2,sz26 (Jo hl).1,(h hl).2.sz,(h hl).2.ok,(h hl).2.list⟩
 rwa [Jw (fun hl=>(h hl).2)]at c
end Go.Proofs.Mo

namespace Go.Proofs.Wn
open Go.Proofs.Tryz
open Go Go.VL Go.Proofs.YteaiflgcgpaclaaGreatDoor
set_option linter.unusedVariables false
set_option linter.unusedSimpArgs false
theorem OY : prog.globalNamed "math/bits.deBruijn64tab" = some 1 := by kernel_rfl
theorem tTab:∃ t,(prog.globals[1]?).map (·.type)=some t/\prog.underlying t=some (.array 64 5)/\prog.cellsOf t=64:=
 ⟨((prog.globals[1]?).map (·.type)).getD 0,by kernel_rfl,by kernel_rfl,by kernel_rfl⟩
theorem uU8:prog.underlying 5=some (.int .u8):=by kernel_rfl
theorem cU8:prog.cellsOf 5=1:=by kernel_rfl
theorem GQ:(Rows.laid_math_bits_deBruijn64tab:DataW Unit)=.agg (rm.map fun n:Nat=>DataW.lit (.int .u8 (n:Int))):=by rfl
theorem ES {α:Type}{l:List α}{i:Nat}{a:α}(h:(l.drop i).take 1=[a]):l[i]?=some a:=by
 have:((l.drop i).take 1)[0]?=some a:=by rw[h];rfl
 simpa using this
theorem gok_laid {W : World} (h : laidMetH prog [("math/bits.deBruijn64tab", Rows.laid_math_bits_deBruijn64tab)] W) : GOk W (fun b => b < W.heap.size) := by
 rw [MakeChecks.laidMetH_plain _ _ _ (by kernel_rfl)] at h
 obtain ⟨ps, ⟨g, t, cs, fuel, p, q, hg, ht, hv, hd, _, hps⟩, _, hfr⟩ := h
 obtain rfl := aJ (OY.symm.trans hg)
 obtain ⟨t', ht', hu, hc⟩ := tTab
 obtain rfl := aJ (ht'.symm.trans ht)
 obtain ⟨xs, m, _, hx, hlen, hn, hel⟩ := DataW.trod_array hu hd
 rw [hc] at hlen
 rw [GQ] at hx
 simp only [bw, DataW.agg.injEq] at hx
 have hxs := hx.1
 have key : ∀ i, i < 64 → cs.toList[i]? = (rm.map fun n : Nat => Value.int .u8 (n : Int))[i]? := by
  intro i hi
  have h1 := hel i hi
  rw [cU8, iV] at h1
  have hix : i < xs.length := by omega
  have hxi : xs[i]? = some xs[i] := by simp [hix]
  rw [hxi] at h1
  obtain ⟨k, e1, e2, _⟩ := DataW.trod_int uU8 h1
  have e3 := ES e1
  have e4 : (xs.map (·.1))[i]? = (rm.map fun n : Nat => (DataW.lit (.int .u8 (n : Int)) : DataW Unit))[i]? := by rw [hxs]
  rw [aO, aO, hxi] at e4
  rw [aO, e3]
  cases hz : rm[i]? with
  | none => rw [hz] at e4; simp at e4
  | some n =>
    rw [hz, e2] at e4
    simp only [bo, af, DataW.lit.injEq, Lit.int.injEq, true_and] at e4
    rw [e4]; rfl
 have hcs : cs = (rm.map fun n : Nat => Value.int .u8 (n : Int)).toArray := by
  apply Array.toList_inj.1
  apply ia
  intro i
  by_cases hi : i < 64
  ·exact key i hi
  ·rw [au (by omega), au (by show 64 ≤ i; omega)]
 intro p' hp'
 have hp' : p' = (1, (rm.map fun n : Nat => Value.int .u8 (n : Int)).toArray) := by simpa [glb] using hp'
 subst hp'
 have hsz : cs.size = 64 := by rw [← be]; exact hlen
 obtain ⟨⟨c, T, hT⟩, _⟩ := hfr 1 0 (by
  rw [hps, hsz]
  exact aA.2 (.inl (aA.2 (.inl (by simp [MemPlace.row])))))
 have hcc : c = cs := by
  unfold World.var? at hv
  rw [OY] at hv
  simp only [aB, hT, af] at hv
  exact hv
 subst hcc
 refine ⟨?_, T, ?_⟩
 ·exact (ci.1 hT).1
 ·rw [← hcs]; exact hT
end Go.Proofs.Wn
