/- Own work: part WK of the proof. -/
import Derived.Test.YteaiflgcgpaclaaGreatDoorWE
import Derived.Test.YteaiflgcgpaclaaGreatDoorWJ
import Derived.Test.YteaiflgcgpaclaaGreatDoorWG
import Derived.Test.YteaiflgcgpaclaaGreatDoorWD
import Derived.Test.YteaiflgcgpaclaaGreatDoorWH
import Derived.Test.YteaiflgcgpaclaaGreatDoorRows
import Derived.LaidMore
import Derived.MakeChecks
import Derived.FnData
import Derived.OpenShut
import Derived.ChangeArms
import Derived.ProofKit
set_option linter.unusedVariables false
set_option linter.unusedSimpArgs false
namespace Go.Proofs.Mo
open Go.Proofs.Tryz
open Go Go.VL Go.Proofs.Zn Go.Proofs.Mn
theorem wB {b n:Int}:mO b n=true↔1<=b/\b<=8/\n≠0 /\ -1099511627776<=n/\n<=1099511627776:=by
 unfold mO
 by_cases h1:b>=1
 ·rw[dT h1,cT]
  by_cases h2:b<=8
  ·rw[dT h2,cT]
   by_cases h3:n=0
   ·subst h3;simp
   ·rw[show(n != 0)=true by simpa using h3,cT]
    by_cases h4:n >= -1099511627776
    ·rw[dT h4,cT,bC];omega
    ·rw[dF h4,cF];simp;omega
  ·rw[dF h2,cF];simp;omega
 ·rw[dF h1,cF];simp;omega
theorem CT {old:Int}(h0:0<=old):∀ (l:List yM) (i:Nat),old+i+l.length<=2147483647->(rZ old l i=true↔∀ (k:Nat) (c:yM),l[k]?=some c->c.ver=old+1+i+k/\mO c.by' c.n=true)
 | [], _, _ => by
   simp only[rZ,true_iff]
   intro k c hc;simp at hc
 | x :: l, i, hl => by
   simp only[af]at hl
   have ih:=CT h0 l (i+1) (by omega)
   unfold rZ
   rw[an (n:=old+1) (by omega) (by omega),an (by omega) (by omega)]
   constructor
   ·intro h k c hc
    cases h1:(x.ver != old+1+(i:Int))
    ·rw[h1,cF]at h
     cases h2:(!mO x.by' x.n)
     ·rw[h2,cF]at h
      cases k with
      | zero =>
        simp only[bp,ag]at hc
        subst hc
        have:x.ver=old+1+(i:Int):=ah.1 h1
        exact⟨by omega,by simpa using h2⟩
      | succ k =>
        have:=ih.1 h k c (by simpa using hc)
        exact⟨by omega,this.2⟩
     ·rw[h2]at h;cases h
    ·rw[h1]at h;cases h
   ·intro h
    have hx:=h 0 x rfl
    rw[show(x.ver != old+1+(i:Int))=false from ah.2 (by omega),cF,hx.2,ba,cF]
    exact ih.2 λ k c hc=>by
     have:=h (k+1) c (by simpa using hc)
     exact⟨by omega,this.2⟩
theorem sq {l:Log}:gL l=true↔1<=l.room/\l.room<=64/\0<=l.last/\l.last<=2147483647/\(l.list.length:Int)<=l.room/\(l.list.length:Int)<=l.last/\∀ (k:Nat) (c:yM),l.list[k]?=some c->c.ver=l.last-l.list.length+1+k/\mO c.by' c.n=true:=by
 constructor
 ·intro h
  obtain⟨h1,h2,h3,h4,h5,h6,h7⟩:=kp h
  refine⟨h1,h2,h3,h4,h5,h6,λ k c hc=>?_⟩
  have ho:kC l=l.last-l.list.length:=by unfold kC;exact an (by omega) (by omega)
  have:=(CT (old:=kC l) (by omega) l.list 0 (by omega)).1 h7 k c hc
  exact⟨by omega,this.2⟩
 ·rintro⟨h1,h2,h3,h4,h5,h6,h7⟩
  have ho:kC l=l.last-l.list.length:=by unfold kC;exact an (by omega) (by omega)
  unfold gL
  rw[dF (show ¬ l.room<1 by omega),dF (show ¬ l.room>64 by omega),dF (show ¬ l.last<0 by omega),dF (show ¬ l.last>2147483647 by omega),dF (show ¬ (l.list.length:Int)>l.room by omega),dF (show ¬ (l.list.length:Int)>l.last by omega)]
  simp only[cF]
  exact(CT (by omega) l.list 0 (by omega)).2 λ k c hc=>by
   have:=h7 k c hc
   exact⟨by omega,this.2⟩
theorem MP {l:Log}{b n:Int}(hl:gL l=true)(hc:mO b n=true)(hm:l.last<2147483647):(mc l b n).2=0/\gL (mc l b n).1=true/\(mc l b n).1.room=l.room/\(mc l b n).1.last=l.last+1:=by
 unfold mc
 rw[hl,hc,show(l.last==2147483647)=false from aH.2 (by omega)]
 simp only[ba,cF,true_and,ob]
 obtain⟨h1,h2,h3,h4,h5,h6,h7⟩:=sq.1 hl
 rw[sq]
 cases he:((l.list.length:Int)==l.room)
 ·have he:(l.list.length:Int)≠l.room:=aH.1 he
  simp only[cF,al,iX]
  refine⟨h1,h2,by omega,by omega,by omega,by omega,λ k c hk=>?_⟩
  rw[bv]at hk
  split at hk
  ·have:=h7 k c hk
   exact⟨by omega,this.2⟩
  ·have h0:k-l.list.length=0:=by
    rcases eR (k-l.list.length)with h|h
    ·exact h
    ·rw[aw (by simp;omega)]at hk;cases hk
   rw[h0]at hk
   simp at hk
   subst hk
   exact⟨by simp only[];omega,hc⟩
 ·have he:(l.list.length:Int)=l.room:=by simpa using he
  simp only[cT,al,iX,aL]
  refine⟨h1,h2,by omega,by omega,by omega,by omega,λ k c hk=>?_⟩
  rw[bv]at hk
  split at hk
  ·rw[cm]at hk
   have:=h7 (1+k) c hk
   exact⟨by omega,this.2⟩
  ·rename_i hlt
   rw[aL]at hlt hk
   have h0:k-(l.list.length-1)=0:=by
    rcases eR (k-(l.list.length-1))with h|h
    ·exact h
    ·rw[aw (by simp;omega)]at hk;cases hk
   rw[h0]at hk
   simp at hk
   subst hk
   exact⟨by simp only[];omega,hc⟩
structure ChgC (c c':Cell) (k:Int):Prop where
 old:dm c=true
 cap:c'.cap=c.cap
 zS:c'.zS=c.zS+k
 ver:c'.ver=c.ver+1
 ok:dm c'=true
 lo:c.ver<2147483647
 ne:k≠0
theorem KR {c:Cell}:dm c=true↔1<=c.cap/\c.cap<=1099511627776/\0<=c.zS/\c.zS<=c.cap/\0<=c.ver/\c.ver<=2147483647:=by
 refine⟨fM,λ⟨h1,h2,h3,h4,h5,h6⟩=>?_⟩
 unfold dm
 rw[dT (show c.cap>=1 by omega),dT h2,dT (show c.zS>=0 by omega),dT h4,dT (show c.ver>=0 by omega),dT h6]
 rfl
theorem sy {c:Cell}{n:Int}(h:(pf c n).2=0):ChgC c (pf c n).1 n:=by
 unfold pf MV at h ⊢
 cases h1:dm c
 ·rw[h1]at h;cases (show(100:Int)=0 from h)
 obtain⟨c1,c2,c3,c4,c5,c6⟩:=fM h1
 rw[h1,ba,cF]at h
 rw[ba,cF]
 cases h2:(n==0)
 case true=>rw[h2]at h;cases (show(1:Int)=0 from h)
 rw[h2,cF]at h
 rw[cF]
 rw[an (n:=0-c.zS) (by omega) (by omega),an (n:=c.cap-c.zS) (by omega) (by omega)]at h ⊢
 cases h3:(c.ver==2147483647)
 case true=>rw[h3]at h;cases (show(101:Int)=0 from h)
 rw[h3,cF]at h
 rw[cF]
 by_cases h4:n<0-c.zS
 ·rw[dT h4]at h;cases (show(102:Int)=0 from h)
 rw[dF h4,cF]at h ⊢
 by_cases h5:n>c.cap-c.zS
 ·rw[dT h5]at h;cases (show(103:Int)=0 from h)
 rw[dF h5,cF]at h ⊢
 have h2:n≠0:=aH.1 h2
 have h3:c.ver≠2147483647:=aH.1 h3
 rw[an (n:=c.zS+n) (by omega) (by omega),an (n:=c.ver+1) (by omega) (by omega)]
 exact⟨h1,rfl,rfl,rfl,KR.2 ⟨c1,c2,by simp only[];omega,by simp only[];omega,by simp only[];omega,by simp only[];omega⟩,by omega,h2⟩
theorem DC {c:Cell}{n:Int}(h:(ph c n).2=0):ChgC c (ph c n).1 n/\1<=n:=by
 unfold ph at h ⊢
 cases h1:dm c
 ·rw[h1,cF]at h
  have:=(sy h).old
  rw[h1]at this;cases this
 rw[h1,cT]at h
 rw[cT]
 by_cases h2:n<1
 ·rw[dT h2]at h;cases (show(1:Int)=0 from h)
 rw[dF h2,cF]at h ⊢
 exact⟨sy h,by omega⟩
theorem ER {c:Cell}{n:Int}(hn:cD n)(h:(nF c n).2=0):ChgC c (nF c n).1 (-n)/\1<=n:=by
 unfold cD at hn
 unfold nF at h ⊢
 cases h1:dm c
 ·rw[h1,cF]at h
  by_cases h2:n<1
  ·rw[dT h2]at h;cases (show(100:Int)=0 from h)
  rw[dF h2,cF]at h
  have:=(sy h).old
  rw[h1]at this;cases this
 rw[h1,cT]at h
 rw[cT]
 by_cases h2:n<1
 ·rw[dT h2]at h;cases (show(1:Int)=0 from h)
 rw[dF h2,cF,cF]at h ⊢
 have e:w64 (0-n) = -n:=by rw[an (by omega) (by omega)];omega
 rw[e]at h ⊢
 exact⟨sy h,by omega⟩
theorem Dl:∀ {cs:List Cell} {i:Nat} {c c':Cell} {k:Int},cs[i]?=some c->c'.zS=c.zS+k->tot ((cs.set i c').map Cell.zS)=tot (cs.map Cell.zS)+k
 | [],i,c,c',k,h,_=>by simp at h
 | x :: cs, 0, c, c', k, h, hv => by
   simp at h;subst h
   simp only[List.set_cons_zero,bn,tot,hv];omega
 | x :: cs, i + 1, c, c', k, h, hv => by
   have:=Dl (cs:=cs) (i:=i) (by simpa using h) hv
   simp only[List.set_cons_succ,bn,tot,this];omega
theorem Nu {c c':Cell}{k b:Int}(h:ChgC c c' k)(h1:1<=b)(h8:b<=8):mO b k=true:=by
 have a:=fM h.old
 have a':=fM h.ok
 have:=h.zS
 have:=h.cap
 exact wB.2 ⟨h1,h8,h.ne,by omega,by omega⟩
theorem Gq {fs cs:List Cell}{ls:List Log}{i:Nat}{c c':Cell}{l:Log}{k b:Int}(h:pq fs cs ls)(hc:cs[i]?=some c)(hl:ls[i]?=some l)(hk:ChgC c c' k)(h1:1<=b)(h8:b<=8) :
  pq fs (cs.set i c') (ls.set i (mc l b k).1):=by
 intro j f x y hj hx hy
 by_cases he:i=j
 ·subst he
  have w:=h i f c l hj hc hl
  have n:=MP (l:=l) (b:=b) (n:=k) w.2.2.1 (Nu hk h1 h8) (by rw[w.2.2.2.2];exact hk.lo)
  rw[List.getElem?_set_self ((am.1 hc).1)]at hx
  rw[List.getElem?_set_self ((am.1 hl).1)]at hy
  simp only[ag]at hx hy
  subst hx hy
  exact⟨hk.ok,by rw[hk.cap];exact w.2.1,n.2.1,by rw[n.2.2.1];exact w.2.2.2.1,by rw[n.2.2.2,hk.ver,w.2.2.2.2]⟩
 ·rw[dp he]at hx hy
  exact h j f x y hj hx hy
theorem md (b:Int):∀ (l:List Tip) (k:Nat),eO b l k<0->∀ i:Nat,l[i]?≠some ⟨2,b⟩
 | [],k,_,i=>by simp
 | t :: l, k, h, i => by
   unfold eO at h
   cases i with
   | zero =>
     intro hi
     simp at hi;subst hi
     simp at h;omega
   | succ i =>
     rw[iw]
     cases h1:(t.state==2)
     ·rw[h1,cF]at h;exact md b l (k+1) h i
     ·rw[h1,cT]at h
      cases h2:(t.by'==b)
      ·rw[h2,cF]at h;exact md b l (k+1) h i
      ·rw[h2,cT]at h;omega
theorem xR {α:Type}{l:List α}{i:Int}{d:α}(h0:0<=i)(h1:i<l.length):l[i.toNat]?=some (l.getD i.toNat d):=getD_some (by omega)
def iZ (s:yC)(i:Int)(c':Cell)(k b:Int):yC:={ s with cells:=s.cells.set i.toNat c',zL:=s.zL.set i.toNat (mc (s.zL.getD i.toNat (Ty.dflt Ty.zW)) b k).1 }
theorem sh {s:yC}{i:Int}{c':Cell}{k b:Int}{ts:List Tip}{st zR out:Int}(h:ChgC (s.cells.getD i.toNat (Ty.dflt Ty.cell)) c' k):kE s.cells s.zL ts st zR out b i c'=((iZ s i c' k b).cells,(iZ s i c' k b).zL):=by
 unfold kE iZ
 have a:=fM h.old
 have a':=fM h.ok
 have:=h.zS
 rw[an (by omega) (by omega),show c'.zS-(s.cells.getD i.toNat (Ty.dflt Ty.cell)).zS=k by omega,DW]
structure UpdP (d:yA) (s s':yC) (k:Int):Prop where
 lenC:s'.cells.length=s.cells.length
 lenL:s'.zL.length=s.zL.length
 wells:pq (bm d) s'.cells s'.zL
 tot:tot (s'.cells.map Cell.zS)=tot (s.cells.map Cell.zS)+k
theorem wP {d:yA}{s:yC}{i:Int}{c':Cell}{k b:Int}(hw:pq (bm d) s.cells s.zL)(hl:s.zL.length=s.cells.length)(h0:0<=i)(h1:i<s.cells.length)(hk:ChgC (s.cells.getD i.toNat (Ty.dflt Ty.cell)) c' k)(hb1:1<=b)(hb8:b<=8):UpdP d s (iZ s i c' k b) k where
 lenC:=co
 lenL:=co
 wells:=λ j f x y hj hx hy=>by
  exact Gq hw (xR h0 h1) (xR h0 (by omega)) hk hb1 hb8 j f x y hj hx hy
 tot:=Dl (xR h0 h1) hk.zS
theorem tp {d:yA}{s:yC}{b:Int}(h:((iR d s b) != 0)=false):RightP d s/\1<=b/\b<=d.zO:=by
 obtain⟨h1,h2,h3⟩:=Ch (ah.1 h)
 exact⟨lX.1 h1,h2,h3⟩
theorem RightP.zO {d:yA}{s:yC}(h:RightP d s):1<=d.zO/\d.zO<=8:=(cp h.zone).zO
theorem EP {d:yA}{s:yC}{b i n:Int}(h:(jU d s b i n).2=0):RightP d s/\1<=b/\b<=d.zO/\0<=i/\i<s.cells.length/\1<=n/\n<=1152921504606846976-s.zR /\
  ∃ c',ChgC (s.cells.getD i.toNat (Ty.dflt Ty.cell)) c' n/\(jU d s b i n).1={ iZ s i c' n b with zR:=s.zR+n }:=by
 unfold jU at h ⊢
 cases h1:((iR d s b) != 0)
 case true=>rw[h1,cT]at h;simp only at h;rw[h]at h1;cases h1
 rw[h1,cF]at h
 rw[cF]
 obtain⟨hr,hb1,hb2⟩:=tp h1
 cases h2:(!mB s i)
 case true=>rw[h2]at h;cases (show(3:Int)=0 from h)
 rw[h2,cF]at h
 rw[cF]
 obtain⟨hi0,hi1⟩:=gk h2
 simp only at h ⊢
 cases h3:((ph (List.getD s.cells i.toNat (Ty.dflt Ty.cell)) n).2 != 0)
 case true=>rw[h3,cT]at h;simp only at h;rw[h]at h3;cases h3
 rw[h3,cF]at h
 rw[cF]
 obtain⟨hc,hn⟩:=DC (ah.1 h3)
 have q1:=hr.inn0
 have q2:=hr.inn1
 rw[an (n:=1152921504606846976-s.zR) (by omega) (by omega)]at h ⊢
 by_cases h4:n>1152921504606846976-s.zR
 ·rw[dT h4]at h;cases (show(4:Int)=0 from h)
 rw[dF h4,cF]
 refine⟨hr,hb1,hb2,hi0,hi1,hn,by omega,_,hc,?_⟩
 rw[sh hc,an (n:=s.zR+n) (by omega) (by omega)]
 rfl
theorem yU {d:yA}{s:yC}{b i n:Int}(hn:cD n)(h:(jT d s b i n).2=0):RightP d s/\1<=b/\b<=d.zO/\0<=i/\i<s.cells.length/\1<=n/\n<=1152921504606846976-s.out /\
  ∃ c',ChgC (s.cells.getD i.toNat (Ty.dflt Ty.cell)) c' (-n)/\(jT d s b i n).1={ iZ s i c' (-n) b with out:=s.out+n }:=by
 unfold jT at h ⊢
 cases h1:((iR d s b) != 0)
 case true=>rw[h1,cT]at h;simp only at h;rw[h]at h1;cases h1
 rw[h1,cF]at h
 rw[cF]
 obtain⟨hr,hb1,hb2⟩:=tp h1
 cases h2:(!mB s i)
 case true=>rw[h2]at h;cases (show(3:Int)=0 from h)
 rw[h2,cF]at h
 rw[cF]
 obtain⟨hi0,hi1⟩:=gk h2
 simp only at h ⊢
 cases h3:((nF (List.getD s.cells i.toNat (Ty.dflt Ty.cell)) n).2 != 0)
 case true=>rw[h3,cT]at h;simp only at h;rw[h]at h3;cases h3
 rw[h3,cF]at h
 rw[cF]
 obtain⟨hc,hn1⟩:=ER hn (ah.1 h3)
 have q1:=hr.out0
 have q2:=hr.out1
 rw[an (n:=1152921504606846976-s.out) (by omega) (by omega)]at h ⊢
 by_cases h4:n>1152921504606846976-s.out
 ·rw[dT h4]at h;cases (show(4:Int)=0 from h)
 rw[dF h4,cF]
 refine⟨hr,hb1,hb2,hi0,hi1,hn1,by omega,_,hc,?_⟩
 rw[sh hc,an (n:=s.out+n) (by omega) (by omega)]
 rfl
theorem DQ {d:yA}{s:yC}{b i j n:Int}(hn:cD n)(h:(lf d s b i j n).2=0):RightP d s/\1<=b/\b<=d.zO/\0<=i/\i<s.cells.length/\0<=j/\j<s.cells.length/\i≠j/\1<=n /\
  ∃ c1 c2,ChgC (s.cells.getD i.toNat (Ty.dflt Ty.cell)) c1 (-n)/\ChgC (s.cells.getD j.toNat (Ty.dflt Ty.cell)) c2 n/\(lf d s b i j n).1=iZ (iZ s i c1 (-n) b) j c2 n b:=by
 unfold lf at h ⊢
 cases h1:((iR d s b) != 0)
 case true=>rw[h1,cT]at h;simp only at h;rw[h]at h1;cases h1
 rw[h1,cF]at h
 rw[cF]
 obtain⟨hr,hb1,hb2⟩:=tp h1
 cases h2:(!mB s i)
 case true=>rw[h2]at h;cases (show(3:Int)=0 from h)
 rw[h2,cF]at h
 rw[cF]
 obtain⟨hi0,hi1⟩:=gk h2
 cases h2:(!mB s j)
 case true=>rw[h2]at h;cases (show(3:Int)=0 from h)
 rw[h2,cF]at h
 rw[cF]
 obtain⟨hj0,hj1⟩:=gk h2
 cases h3:(i==j)
 case true=>rw[h3]at h;cases (show(1:Int)=0 from h)
 rw[h3,cF]at h
 rw[cF]
 have h3:i≠j:=aH.1 h3
 unfold Cs at h ⊢
 simp only at h ⊢
 cases h4:((nF (List.getD s.cells i.toNat (Ty.dflt Ty.cell)) n).2 != 0)
 case true=>
  rw[h4]at h;simp only[cT,h4]at h
  rw[h]at h4;cases h4
 rw[h4]at h
 simp only[cF]at h ⊢
 cases h5:((ph (List.getD s.cells j.toNat (Ty.dflt Ty.cell)) n).2 != 0)
 case true=>
  rw[h5]at h;simp only[cT,h5]at h
  rw[h]at h5;cases h5
 simp only[cF,dB]
 obtain⟨hc1,hn1⟩:=ER hn (ah.1 h4)
 obtain⟨hc2,_⟩:=DC (ah.1 h5)
 refine⟨hr,hb1,hb2,hi0,hi1,hj0,hj1,h3,hn1,_,_,hc1,hc2,?_⟩
 rw[sh hc1]
 have e:(iZ s i (nF (List.getD s.cells i.toNat (Ty.dflt Ty.cell)) n).1 (-n) b).cells.getD j.toNat (Ty.dflt Ty.cell)=s.cells.getD j.toNat (Ty.dflt Ty.cell):=by
  unfold iZ
  simp only[bi]
  rw[dp (by omega)]
 rw[sh (s:=iZ s i (nF (List.getD s.cells i.toNat (Ty.dflt Ty.cell)) n).1 (-n) b) (by rw[e];exact hc2)]
 rfl
theorem CM {d:yA}{s:yC}{b i n:Int}(h:(jU d s b i n).2=0):RightP d (jU d s b i n).1:=by
 obtain⟨hr,hb1,hb2,hi0,hi1,hn,hlim,c',hc,e⟩:=EP h
 have u:=wP hr.wells hr.lenL hi0 hi1 hc hb1 (by have:=hr.zO;omega)
 rw[e]
 exact⟨hr.zone,hr.lenC.trans u.lenC.symm,by show(iZ s i c' n b).zL.length=(iZ s i c' n b).cells.length;rw[u.lenL,u.lenC];exact hr.lenL,hr.lenT,u.wells,hr.zK,hr.start,by have:=hr.inn0;simp only[];omega,by simp only[];omega,hr.out0,hr.out1,by
  show tot ((iZ s i c' n b).cells.map Cell.zS)=s.start+(s.zR+n)-s.out
  rw[u.tot];have:=hr.sum;omega⟩
theorem yz {d:yA}{s:yC}{b i n:Int}(hf:cD n)(h:(jT d s b i n).2=0):RightP d (jT d s b i n).1:=by
 obtain⟨hr,hb1,hb2,hi0,hi1,hn,hlim,c',hc,e⟩:=yU hf h
 have u:=wP hr.wells hr.lenL hi0 hi1 hc hb1 (by have:=hr.zO;omega)
 rw[e]
 exact⟨hr.zone,hr.lenC.trans u.lenC.symm,by show(iZ s i c' (-n) b).zL.length=(iZ s i c' (-n) b).cells.length;rw[u.lenL,u.lenC];exact hr.lenL,hr.lenT,u.wells,hr.zK,hr.start,hr.inn0,hr.inn1,by have:=hr.out0;simp only[];omega,by simp only[];omega,by
  show tot ((iZ s i c' (-n) b).cells.map Cell.zS)=s.start+s.zR-(s.out+n)
  rw[u.tot];have:=hr.sum;omega⟩
theorem Cg {d:yA}{s:yC}{b i j n:Int}(hf:cD n)(h:(lf d s b i j n).2=0):RightP d (lf d s b i j n).1:=by
 obtain⟨hr,hb1,hb2,hi0,hi1,hj0,hj1,hij,hn,c1,c2,hc1,hc2,e⟩:=DQ hf h
 have h8:b<=8:=by have:=hr.zO;omega
 have u:=wP hr.wells hr.lenL hi0 hi1 hc1 hb1 h8
 have e2:(iZ s i c1 (-n) b).cells.getD j.toNat (Ty.dflt Ty.cell)=s.cells.getD j.toNat (Ty.dflt Ty.cell):=by
  unfold iZ
  simp only[bi]
  rw[dp (by omega)]
 have v:=wP u.wells (by rw[u.lenL,u.lenC];exact hr.lenL) hj0 (by rw[u.lenC];exact hj1) (by rw[e2];exact hc2) hb1 h8
 rw[e]
 exact⟨hr.zone,hr.lenC.trans (v.lenC.trans u.lenC).symm,by rw[v.lenL,v.lenC,u.lenL,u.lenC];exact hr.lenL,hr.lenT,v.wells,hr.zK,hr.start,hr.inn0,hr.inn1,hr.out0,hr.out1,by
  show _=s.start+s.zR-s.out
  rw[v.tot,u.tot];have:=hr.sum;omega⟩
def rh (s:yC)(k:Nat)(t:Tip):yC:={ s with zK:=s.zK.set k t }
theorem wR {d:yA}{s:yC}{b i:Int}(h:(gK d s b i).2=0):RightP d s/\1<=b/\b<=d.zO/\(s.cells.length:Int)<=i/\i<s.cells.length+s.zK.length/\(∀ j:Nat,s.zK[j]?≠some ⟨2,b⟩)/\eC s b<0 /\
  s.zK[(i-s.cells.length).toNat]?=some ⟨1,0⟩/\(gK d s b i).1=rh s (i-s.cells.length).toNat ⟨2,b⟩:=by
 unfold gK at h ⊢
 cases h1:((iR d s b) != 0)
 case true=>rw[h1,cT]at h;simp only at h;rw[h]at h1;cases h1
 rw[h1,cF]at h
 rw[cF]
 obtain⟨hr,hb1,hb2⟩:=tp h1
 have q1:=(cp hr.zone).wells
 have q2:=(cp hr.zone).zK
 have q3:=jE hr.zone
 have q4:=hr.lenC
 have q5:=hr.lenT
 rw[an (n:=(s.cells.length:Int)+s.zK.length) (by omega) (by omega)]at h ⊢
 by_cases h2:i>=s.cells.length
 case neg=>rw[dF h2]at h;cases (show(3:Int)=0 from h)
 rw[dT h2,cT]at h ⊢
 by_cases h3:i<s.cells.length+s.zK.length
 case neg=>rw[dF h3]at h;cases (show(3:Int)=0 from h)
 rw[dT h3,cT]at h ⊢
 rw[an (n:=i-(s.cells.length:Int)) (by omega) (by omega)]at h ⊢
 rw[dF (show ¬ i-(s.cells.length:Int)<0 by omega),cF]at h ⊢
 by_cases h4:eC s b>=0
 ·rw[dT h4]at h;cases (show(131:Int)=0 from h)
 rw[dF h4,cF]at h ⊢
 simp only at h ⊢
 have ht:s.zK[(i-(s.cells.length:Int)).toNat]?=some (s.zK.getD (i-(s.cells.length:Int)).toNat (Ty.dflt Ty.zV)):=getD_some (by omega)
 have htt:=(hr.zK.ok _ (bu ht)).1
 generalize hg:s.zK.getD (i-(s.cells.length:Int)).toNat (Ty.dflt Ty.zV)=t at *
 have ha:pp b=true:=by
  unfold pp
  have:=hr.zO
  rw[dT (show b>=1 by omega),cT,dT (show b<=8 by omega)]
 unfold GZ at h ⊢
 rw[htt,ha]at h ⊢
 simp only[ba,cF]at h ⊢
 cases h5:(t.state != 1)
 case true=>rw[h5]at h;cases (show(121:Int)=0 from h)
 have h5:t.state=1:=ah.1 h5
 have h6:t=⟨1,0⟩:=by
  rcases sc htt with hx|hx
  ·omega
  ·cases t;simp at h5 hx;simp[h5,hx.2]
 simp only[cF,dB]
 have hlt:eC s b<0:=by omega
 exact⟨hr,hb1,hb2,h2,h3,md b s.zK 0 hlt,hlt,by rw[ht,h6],rfl⟩
theorem BI {d:yA}{s:yC}{b i:Int}(h:(gK d s b i).2=0):RightP d (gK d s b i).1:=by
 obtain⟨hr,hb1,hb2,h1,h2,hno,_,ht,e⟩:=wR h
 rw[e]
 refine⟨hr.zone,hr.lenC,hr.lenL,by unfold rh;simp only[co];exact hr.lenT,hr.wells,⟨λ t ht=>?_,λ j k a hj hk=>?_⟩,hr.start,hr.inn0,hr.inn1,hr.out0,hr.out1,hr.sum⟩
 ·rcases List.mem_or_eq_of_mem_set ht with ht|rfl
  ·exact hr.zK.ok t ht
  ·refine⟨?_,hb2⟩
   unfold gl pp
   have:=hr.zO
   simp only[dY,cT]
   rw[dT (show b>=1 by omega),cT,dT (show b<=8 by omega)]
 ·unfold rh at hj hk
  simp only[aP]at hj hk
  split at hj
  ·split at hk
   ·omega
   ·split at hj
    ·simp only[ag,Tip.mk.injEq,true_and]at hj
     subst hj
     exact absurd hk (hno k)
    ·cases hj
  ·split at hk
   ·split at hk
    ·simp only[ag,Tip.mk.injEq,true_and]at hk
     subst hk
     exact absurd hj (hno j)
    ·cases hk
   ·exact hr.zK.one j k a hj hk
theorem xX {d:yA}{s:yC}{b:Int}(h:(gJ d s b).2=0):RightP d s/\1<=b/\b<=d.zO/\∃ k:Nat,eC s b=k/\s.zK[k]?=some ⟨2,b⟩/\(gJ d s b).1=rh s k ⟨3,0⟩:=by
 unfold gJ at h ⊢
 cases h1:((iR d s b) != 0)
 case true=>rw[h1,cT]at h;simp only at h;rw[h]at h1;cases h1
 rw[h1,cF]at h
 rw[cF]
 obtain⟨hr,hb1,hb2⟩:=tp h1
 by_cases h2:eC s b<0
 ·rw[dT h2]at h;cases (show(131:Int)=0 from h)
 rw[dF h2,cF]
 have hge:eC s b>=0:=by omega
 obtain⟨k,hk,ht⟩:=qe b s.zK 0 hge
 have e:eC s b=(k:Int):=by
  show eO b s.zK 0=_
  rw[hk];omega
 refine⟨hr,hb1,hb2,k,e,ht,?_⟩
 rw[e];rfl
theorem CP {d:yA}{s:yC}{b:Int}(h:(gJ d s b).2=0):RightP d (gJ d s b).1:=by
 obtain⟨hr,hb1,hb2,i,_,ht,e⟩:=xX h
 rw[e]
 refine⟨hr.zone,hr.lenC,hr.lenL,by unfold rh;simp only[co];exact hr.lenT,hr.wells,⟨λ t ht=>?_,λ j k a hj hk=>?_⟩,hr.start,hr.inn0,hr.inn1,hr.out0,hr.out1,hr.sum⟩
 ·rcases List.mem_or_eq_of_mem_set ht with ht|rfl
  ·exact hr.zK.ok t ht
  ·exact⟨rfl,by have:=hr.zO;simp only[];omega⟩
 ·unfold rh at hj hk
  simp only[aP]at hj hk
  split at hj
  ·split at hj
   ·simp at hj
   ·cases hj
  ·split at hk
   ·split at hk
    ·simp at hk
    ·cases hk
   ·exact hr.zK.one j k a hj hk
theorem sQ (w:Int):∀ (l:List Int) (k:Nat) (o:List Int),(kF w l k o).length=o.length
 | [],_,_=>rfl
 | z::l,k,o=>by unfold kF;rw[sQ w l,co]
theorem jd (w:Int):∀ (l:List Int) (k:Nat) (o:List Int),(∀ x∈l,0<=x)->∀ i:Nat,(kF w l k o)[i]?=if(i:Int)∈l/\i<o.length then some w else o[i]?
 | [],_,o,_,i=>by simp[kF]
 | z :: l, k, o, h, i => by
   unfold kF
   have hz:=h z (by simp)
   rw[jd w l (k+1) _ (λ x hx=>h x (by simp[hx])) i,co,aP]
   by_cases h2:i<o.length
   ·by_cases h1:(i:Int)∈l
    ·simp[h1,h2]
    ·by_cases h3:z.toNat=i
     ·have e:(i:Int)=z:=by omega
      rw[aF (λ h=>h1 h.1),aE h3,aE (by omega),aE ⟨by simp[e],h2⟩]
     ·have e:(i:Int)≠z:=by omega
      rw[aF (λ h=>h1 h.1),aF h3,aF (λ h=>by simp[h1,e]at h)]
   ·rw[aF (λ h=>h2 h.2),aF (c:=(i:Int)∈z::l/\i<o.length) (λ h=>h2 h.2)]
    split
    ·rw[aF (by omega),aw (by omega)]
    ·rfl
theorem vE {o zU:List Int}{w:Int}(h:(kG o zU w).2=0):1<=w/\w<=8/\∀ x∈zU,0<=x/\x<o.length:=by
 refine⟨?_,?_,tr h⟩
 all_goals
  unfold kG at h
  cases h1 : !xB o
  case true=>rw[h1]at h;cases (show(1:Int)=0 from h)
  rw[h1,cF]at h
  by_cases h2:w<1
  ·rw[dT h2]at h;cases (show(1:Int)=0 from h)
  rw[dF h2,cF]at h
  by_cases h3:w>8
  ·rw[dT h3]at h;cases (show(1:Int)=0 from h)
  omega
theorem wS {o zU:List Int}{w:Int}:∀ (l:List Int) (k:Nat),(gu o zU w l k).2.2=0->(∀ z∈l,o.getD z.toNat (Ty.dflt .int)=0\/o.getD z.toNat (Ty.dflt .int)=w)/\gu o zU w l k=(iD o zU w,0,0)
 | [],_,_=>⟨λ z hz=>by simp at hz,rfl⟩
 | z :: l, k, h => by
   unfold gu at h ⊢
   cases h1:(o.getD z.toNat (Ty.dflt .int) != 0)
   ·rw[h1,cF]at h
    obtain⟨a,b⟩:=wS l (k+1) h
    refine⟨λ x hx=>?_,by rw[cF];exact b⟩
    rcases aB.1 hx with rfl|hx
    ·exact .inl (ah.1 h1)
    ·exact a x hx
   ·rw[h1,cT]at h
    cases h2:(o.getD z.toNat (Ty.dflt .int) != w)
    ·rw[h2,cF]at h
     obtain⟨a,b⟩:=wS l (k+1) h
     refine⟨λ x hx=>?_,by rw[cT,cF];exact b⟩
     rcases aB.1 hx with rfl|hx
     ·exact .inr (ah.1 h2)
     ·exact a x hx
    ·rw[h2]at h;cases (show(140:Int)=0 from h)
theorem EM {o zU:List Int}{w:Int}:∀ (l:List Int) (k:Nat),(fY o zU w l k).2.2=0->(∀ z∈l,o.getD z.toNat (Ty.dflt .int)=w)/\fY o zU w l k=(iD o zU 0,0,0)
 | [],_,_=>⟨λ z hz=>by simp at hz,rfl⟩
 | z :: l, k, h => by
   unfold fY at h ⊢
   cases h1:(o.getD z.toNat (Ty.dflt .int) != w)
   ·rw[h1,cF]at h
    obtain⟨a,b⟩:=EM l (k+1) h
    refine⟨λ x hx=>?_,by rw[cF];exact b⟩
    rcases aB.1 hx with rfl|hx
    ·exact ah.1 h1
    ·exact a x hx
   ·rw[h1]at h;cases (show(141:Int)=0 from h)
theorem nk {o zU:List Int}{w:Int}(h:(kH o zU w).2.2=0):1<=w/\w<=8/\(∀ x∈zU,0<=x/\x<o.length)/\(∀ z∈zU,o.getD z.toNat (Ty.dflt .int)=0\/o.getD z.toNat (Ty.dflt .int)=w)/\(kH o zU w).1=iD o zU w:=by
 unfold kH at h ⊢
 cases h1:((kG o zU w).2 != 0)
 ·simp only[h1,cF]at h ⊢
  obtain⟨a,b⟩:=wS zU 0 h
  obtain⟨c1,c2,c3⟩:=vE (ah.1 h1)
  exact⟨c1,c2,c3,a,by rw[b]⟩
 ·simp only[h1,cT]at h
  rw[h]at h1;cases h1
theorem nX {o zU:List Int}{w:Int}(h:(jm o zU w).2.2=0):1<=w/\w<=8/\(∀ x∈zU,0<=x/\x<o.length)/\(∀ z∈zU,o.getD z.toNat (Ty.dflt .int)=w)/\(jm o zU w).1=iD o zU 0:=by
 unfold jm at h ⊢
 cases h1:((kG o zU w).2 != 0)
 ·simp only[h1,cF]at h ⊢
  obtain⟨a,b⟩:=EM zU 0 h
  obtain⟨c1,c2,c3⟩:=vE (ah.1 h1)
  exact⟨c1,c2,c3,a,by rw[b]⟩
 ·simp only[h1,cT]at h
  rw[h]at h1;cases h1
theorem BR {o zU:List Int}{w:Int}(hi:∀ x∈zU,0<=x/\x<o.length){x:Int}(h:x∈iD o zU w):x=w\/x∈o:=by
 obtain⟨i,hx⟩:=dQ.1 h
 unfold iD at hx
 rw[jd w zU 0 o (λ x hx=>(hi x hx).1) i]at hx
 split at hx
 ·simp at hx;exact .inl hx.symm
 ·exact .inr (bu hx)
structure RightM (m:yE):Prop where
 st:RightP m.zI m.zE
 len:m.zD.length=(dP m.zI).length
 own:∀ x∈m.zD,0<=x/\x<=m.zI.zO
theorem DF (m:yE):∀ (l:List Int) (k:Nat),oM m l k=true↔∀ x∈l,0<=x/\x<=m.zI.zO
 | [],_=>by simp[oM]
 | z :: l, k => by
   unfold oM
   have ih:=DF m l (k+1)
   by_cases h1:z<0
   ·rw[dT h1,cT];simp;intro h;omega
   ·rw[dF h1,cF]
    by_cases h2:z>m.zI.zO
    ·rw[dT h2,cT];simp;intro h;omega
    ·rw[dF h2,cF,ih]
     simp only[aB,forall_eq_or_imp]
     exact⟨λ h=>⟨⟨by omega,by omega⟩,h⟩,λ h=>h.2⟩
theorem dW {m:yE}:m32 m=true↔RightM m:=by
 unfold m32
 cases h1:m94 m.zI m.zE
 ·simp only[kX,cT]
  exact⟨λ h=>(by cases h),λ h=>by have:=lX.2 h.st;rw[h1]at this;cases this⟩
 have h1:=lX.1 h1
 rw[ba,cF]
 cases h2:((m.zD.length:Int) != ((dP m.zI).length:Int))
 ·have h2:(m.zD.length:Int)=((dP m.zI).length:Int):=ah.1 h2
  rw[cF,DF]
  exact⟨λ h=>⟨h1,by omega,h⟩,λ h=>h.own⟩
 ·rw[cT]
  exact⟨λ h=>(by cases h),λ h=>by have:=h.len;simp at h2;omega⟩
theorem vA (d:yA):∀ l:List Int,∃ e i,Wn.ji d l=Wn.eX e i
 | []=>⟨_,_,rfl⟩
 | z :: l => by
   obtain⟨e,i,h⟩:=vA d l
   unfold Wn.ji
   rw[cr]
   split
   ·exact⟨_,_,rfl⟩
   ·exact⟨e,i,h⟩
theorem um (d:yA)(q:yT):∃ e i,Wn.bS d q=Wn.eX e i:=by
 unfold Wn.bS Wn.fm Wn.CN Wn.fZ
 repeat' (first|exact⟨_,_,rfl⟩|exact vA _ _|(rw[cr];split))
inductive Step (m:yE) (zT:Int) (q:yT):yE->yH->Prop
 | refuse (e i:Int) (he:e≠0):Step m zT q m ⟨e,i,0,0,[]⟩
 | reserve (hk:q.kind=1) (h:(kH m.zD (cV q.zU) zT).2.2=0):Step m zT q { m with zD:=iD m.zD (cV q.zU) zT } ⟨0,0,((m39 (iD m.zD (cV q.zU) zT) zT).length:Int),0,[]⟩
 | release (hk:q.kind=2) (h:(jm m.zD (cV q.zU) zT).2.2=0):Step m zT q { m with zD:=iD m.zD (cV q.zU) 0 } ⟨0,0,((m39 (iD m.zD (cV q.zU) 0) zT).length:Int),0,[]⟩
 | free (hk:q.kind=3):Step m zT q { m with zD:=iD m.zD (m39 m.zD zT) 0 } ⟨0,0,((m39 m.zD zT).length:Int),0,[]⟩
 | move (hk:q.kind=4) (h:(lf m.zI m.zE zT q.a q.b (Wn.cy q).1).2=0):Step m zT q { m with zE:=(lf m.zI m.zE zT q.a q.b (Wn.cy q).1).1 } ⟨0,0,(Wn.cy q).1,(List.getD (lf m.zI m.zE zT q.a q.b (Wn.cy q).1).1.cells q.a.toNat (Ty.dflt Ty.cell)).ver,[]⟩
 | fill (hk:q.kind=5) (h:(jU m.zI m.zE zT q.a (Wn.cy q).1).2=0):Step m zT q { m with zE:=(jU m.zI m.zE zT q.a (Wn.cy q).1).1 } ⟨0,0,(Wn.cy q).1,(List.getD (jU m.zI m.zE zT q.a (Wn.cy q).1).1.cells q.a.toNat (Ty.dflt Ty.cell)).ver,[]⟩
 | waste (hk:q.kind=6) (h:(jT m.zI m.zE zT q.a (Wn.cy q).1).2=0):Step m zT q { m with zE:=(jT m.zI m.zE zT q.a (Wn.cy q).1).1 } ⟨0,0,(Wn.cy q).1,(List.getD (jT m.zI m.zE zT q.a (Wn.cy q).1).1.cells q.a.toNat (Ty.dflt Ty.cell)).ver,[]⟩
 | take (hk:q.kind=7) (h:(gK m.zI m.zE zT q.a).2=0):Step m zT q { m with zE:=(gK m.zI m.zE zT q.a).1 } ⟨0,q.a,0,0,[]⟩
 | drop (hk:q.kind=8) (h:(gJ m.zI m.zE zT).2=0):Step m zT q { m with zE:=(gJ m.zI m.zE zT).1 } ⟨0,m34 m zT,0,0,[]⟩
 | ask (hk:q.kind=9):Step m zT q m ⟨0,0,(List.getD m.zE.cells q.a.toNat (Ty.dflt Ty.cell)).zS,(List.getD m.zE.cells q.a.toNat (Ty.dflt Ty.cell)).ver,[]⟩
 | since (hk:q.kind=10) (h:(iS (List.getD m.zE.zL q.a.toNat (Ty.dflt Ty.zW)) q.ver).2=0):Step m zT q m ⟨0,0,0,(List.getD m.zE.zL q.a.toNat (Ty.dflt Ty.zW)).last,(iS (List.getD m.zE.zL q.a.toNat (Ty.dflt Ty.zW)) q.ver).1⟩
theorem kg {o:List Int}{w x:Int}(h:x∈m39 o w):0<=x/\x<o.length/\o.getD x.toNat (Ty.dflt .int)=w:=by
 rw[qI]at h
 obtain⟨i,h1,h2⟩:=(pH w o 0 x).1 h
 have:=(am.1 h1).1
 refine⟨by omega,by omega,?_⟩
 rw[show x.toNat=i by omega,bi,h1];rfl
theorem AR {o zU:List Int}{w:Int}:∀ (l:List Int) (k:Nat),(∀ z∈l,o.getD z.toNat (Ty.dflt .int)=w)->fY o zU w l k=(iD o zU 0,0,0)
 | [],_,_=>rfl
 | z :: l, k, h => by
   unfold fY
   rw[show(o.getD z.toNat (Ty.dflt .int) != w)=false from ah.2 (h z (by simp)),cF]
   exact AR l (k+1) λ x hx=>h x (by simp[hx])
theorem xr {o:List Int}:∀ {l:List Int} {k:Nat},(∀ x∈l,0<=x/\x<=8)->qL l k=true
 | [],_,_=>rfl
 | z :: l, k, h => by
   unfold qL
   have:=h z (by simp)
   rw[dF (by omega),cF,dF (by omega),cF]
   exact xr (o:=o) λ x hx=>h x (by simp[hx])
theorem Mr {l:List Int}(h:jP l){i j:Nat}{x y:Int}(hij:i<j)(hx:l[i]?=some x)(hy:l[j]?=some y):x<y:=by
 obtain⟨h1,rfl⟩:=am.1 hx
 obtain⟨h2,rfl⟩:=am.1 hy
 exact gT.1 h i j h1 h2 hij
theorem Am (l:List Int)(h:jP l)(hl:l.length<=1000000):∀ (zs:List Int) (k:Nat),1<=k->zs=l.drop k->qK l zs k=true
 | [],_,_,_=>rfl
 | z :: zs, k, hk, e => by
   have hlt:k<l.length:=by
    rcases ax k l.length with h|h
    ·exact h
    ·rw[dN h]at e;cases e
   have ez:l[k]?=some z:=by rw[<-ng,<-e];rfl
   have et:zs=l.drop (k+1):=by rw[<-List.tail_drop,<-e];rfl
   unfold qK
   rw[an (by omega) (by omega),show((k:Int)-1).toNat=k-1 by omega]
   have e1:l[k-1]?=some (l.getD (k-1) (Ty.dflt .int)):=getD_some (by omega)
   have:=Mr h (i:=k-1) (j:=k) (by omega) e1 ez
   rw[dF (by omega),cF]
   exact Am l h hl zs (k+1) (by omega) et
theorem xT {m:yE}{zT:Int}(hr:RightM m)(h1:1<=zT)(h2:zT<=m.zI.zO):jm m.zD (m39 m.zD zT) zT=(iD m.zD (m39 m.zD zT) 0,0,0):=by
 have ha:=hr.st.zO
 have hl:(m39 m.zD zT).length<=1000000:=bj Ji (by rw[hr.len];exact bj (mw _) (by omega))
 have e1:xB m.zD=true:=xr (o:=m.zD) λ x hx=>by have:=hr.own x hx;omega
 have e2:Ct (m39 m.zD zT)=true:=Am _ (by rw[qI];exact ma zT _ 0) hl _ 1 (by omega) rfl
 have e3:∀ (l:List Int) (k:Nat),(∀ x∈l,0<=x/\x<m.zD.length)->gW m.zD l k=(0,0):=by
  intro l
  induction l with
  | nil=>intro k _;rfl
  | cons z l ih =>
    intro k h
    unfold gW
    have:=h z (by simp)
    rw[dF (by omega),cF,dF (by omega),cF]
    exact ih (k+1) λ x hx=>h x (by simp[hx])
 unfold jm kG
 rw[e1,e2,dF (show ¬ zT<1 by omega),dF (show ¬ zT>8 by omega),e3 _ 0 λ x hx=>⟨(kg hx).1,(kg hx).2.1⟩]
 simp only[ba,cF,dB]
 exact AR _ 0 λ z hz=>(kg hz).2.2
theorem xZ {m:yE}{zT:Int}{q:yT}(hr:RightM m):Step m zT q (m38 m zT q).1 (m38 m zT q).2:=by
 unfold m38
 rw[dW.2 hr]
 rw[ba,cF]
 by_cases h1:zT<1
 ·rw[dT h1,cT];exact .refuse 80 0 (by decide)
 rw[dF h1,cF]
 by_cases h2:zT>m.zI.zO
 ·rw[dT h2,cT];exact .refuse 80 0 (by decide)
 rw[dF h2,cF]
 cases h4:((Wn.bS m.zI q).err != 0)
 case true=>
  rw[cT]
  obtain⟨e,i,he⟩:=um m.zI q
  rw[he]at h4 ⊢
  exact .refuse e i (by simpa[Wn.eX]using h4)
 rw[cF]
 cases (xE m.zD (Wn.gp m.zI q) zT).2
 case true=>rw[cT];exact .refuse 141 _ (by decide)
 rw[cF]
 have hk:=wk (ah.1 h4)
 have hk:q.kind=1\/q.kind=2\/q.kind=3\/q.kind=4\/q.kind=5\/q.kind=6\/q.kind=7\/q.kind=8\/q.kind=9\/q.kind=10:=by omega
 rcases hk with hk|hk|hk|hk|hk|hk|hk|hk|hk|hk
 ·simp only[hk,dY,cT]
  unfold rY dA uW
  simp only[hk,dY,cT]
  by_cases h5:((Zn.cP (m39 m.zD zT) (cV q.zU)).length:Int)>40
  ·rw[dT h5,cT];exact .refuse 160 0 (by decide)
  rw[dF h5,cF]
  cases h6:((kH m.zD (cV q.zU) zT).2.2 != 0)
  ·have h6:(kH m.zD (cV q.zU) zT).2.2=0:=ah.1 h6
   rw[cF,(nk h6).2.2.2.2]
   exact .reserve hk h6
  ·rw[cT];exact .refuse _ _ (cK.1 h6)
 ·simp only[hk,Int.reduceBEq,cT,cF]
  unfold rY dA uW
  simp only[hk,Int.reduceBEq,cF]
  cases h6:((jm m.zD (cV q.zU) zT).2.2 != 0)
  ·have h6:(jm m.zD (cV q.zU) zT).2.2=0:=ah.1 h6
   rw[cF,(nX h6).2.2.2.2]
   exact .release hk h6
  ·rw[cT];exact .refuse _ _ (cK.1 h6)
 ·simp only[hk,Int.reduceBEq,cT,cF]
  rw[xT hr (by omega) (by omega)]
  exact .free hk
 all_goals
  simp only[hk,Int.reduceBEq,cT,cF]
 ·unfold nP dA
  simp only[hk,Int.reduceBEq,cT]
  cases decide (m34 m zT<0)
  case true=>exact .refuse 131 0 (by decide)
  rw[cF]
  cases h6:((lf m.zI m.zE zT q.a q.b (Wn.cy q).1).2 != 0)
  ·rw[cF];exact .move hk (ah.1 h6)
  ·rw[cT];exact .refuse _ _ (cK.1 h6)
 ·unfold nP dA
  simp only[hk,Int.reduceBEq,cT,cF]
  cases decide (m34 m zT<0)
  case true=>exact .refuse 131 0 (by decide)
  rw[cF]
  cases h6:((jU m.zI m.zE zT q.a (Wn.cy q).1).2 != 0)
  ·rw[cF];exact .fill hk (ah.1 h6)
  ·rw[cT];exact .refuse _ _ (cK.1 h6)
 ·unfold nP dA
  simp only[hk,Int.reduceBEq,cF]
  cases decide (m34 m zT<0)
  case true=>exact .refuse 131 0 (by decide)
  rw[cF]
  cases h6:((jT m.zI m.zE zT q.a (Wn.cy q).1).2 != 0)
  ·rw[cF];exact .waste hk (ah.1 h6)
  ·rw[cT];exact .refuse _ _ (cK.1 h6)
 ·unfold dA
  cases h6:((gK m.zI m.zE zT q.a).2 != 0)
  ·rw[cF];exact .take hk (ah.1 h6)
  ·rw[cT];exact .refuse _ _ (cK.1 h6)
 ·unfold dA
  cases h6:((gJ m.zI m.zE zT).2 != 0)
  ·rw[cF];exact .drop hk (ah.1 h6)
  ·rw[cT];exact .refuse _ _ (cK.1 h6)
 ·exact .ask hk
 ·unfold dA
  cases h6:((iS (List.getD m.zE.zL q.a.toNat (Ty.dflt Ty.zW)) q.ver).2 != 0)
  ·rw[cF];exact .since hk (ah.1 h6)
  ·rw[cT];exact .refuse _ _ (cK.1 h6)
theorem qw {m:yE}{zU:List Int}{w:Int}(hr:RightM m)(hi:∀ x∈zU,0<=x/\x<m.zD.length)(h1:0<=w)(h2:w<=m.zI.zO):RightM { m with zD:=iD m.zD zU w } where
 st:=hr.st
 len:=(sQ w zU 0 m.zD).trans hr.len
 own:=λ x hx=>by
  rcases BR hi hx with rfl|h
  ·exact⟨h1,h2⟩
  ·exact hr.own x h
theorem BO {m n:yE}{zT:Int}{q:yT}{x:yH}(hr:RightM m)(hw:x.err=0->zT<=m.zI.zO)(h:Step m zT q n x):RightM n:=by
 have ha:=hr.st.zO
 cases h with
 | refuse e i he=>exact hr
 | reserve hk h =>
   obtain⟨c1,c2,c3,c4,c5⟩:=nk h
   exact qw hr c3 (by omega) (hw rfl)
 | release hk h =>
   obtain⟨c1,c2,c3,c4,c5⟩:=nX h
   exact qw hr c3 (by omega) (by omega)
 | free hk=>exact qw hr (λ x hx=>⟨(kg hx).1,(kg hx).2.1⟩) (by omega) (by omega)
 | move hk h=>exact⟨Cg (lh q) h,hr.len,hr.own⟩
 | fill hk h=>exact⟨CM h,hr.len,hr.own⟩
 | waste hk h=>exact⟨yz (lh q) h,hr.len,hr.own⟩
 | take hk h=>exact⟨BI h,hr.len,hr.own⟩
 | drop hk h=>exact⟨CP h,hr.len,hr.own⟩
 | ask hk=>exact hr
 | since hk h=>exact hr
theorem sw {m:yE}{zT:Int}{q:yT}(h:(m38 m zT q).2.err=0):RightM m/\1<=zT/\zT<=m.zI.zO:=by
 unfold m38 at h
 cases h0:m32 m
 ·rw[h0]at h;cases (show(161:Int)=0 from h)
 rw[h0,ba,cF]at h
 by_cases h1:zT<1
 ·rw[dT h1]at h;cases (show(80:Int)=0 from h)
 rw[dF h1,cF]at h
 by_cases h2:zT>m.zI.zO
 ·rw[dT h2]at h;cases (show(80:Int)=0 from h)
 exact⟨dW.1 h0,by omega,by omega⟩
theorem gv {m:yE}{zT:Int}{q:yT}(hr:RightM m):RightM (m38 m zT q).1:=BO hr (λ h=>(sw h).2.2) (xZ hr)
theorem RightM.ok {m:yE}(h:RightM m):OkM m:=by
 have hd:=cp h.st.zone
 have hc:=jE h.st.zone
 have c1:=h.st.lenC
 have c2:=h.st.lenL
 have c3:=h.st.lenT
 have c4:=mw m.zI
 have c5:=h.len
 have hw:=qp h.st.lenC h.st.lenL h.st.wells
 have:=hd.wells
 have:=hd.zK
 have:=hd.lanes
 have:=hd.zB
 have:=hd.zC
 refine⟨by omega,by omega,by omega,by omega,by omega,by omega,by omega,λ p hp=>bj (vo (hd.zJ p hp)) (by omega),λ l hl=>?_,λ x hx=>?_,by omega⟩
 ·obtain⟨i,hi⟩:=dQ.1 hl
  have hlt:i<m.zE.zL.length:=(am.1 hi).1
  have:=sq.1 (h.st.wells i _ _ l (ai (by omega)) (ai (by omega)) hi).2.2.1
  omega
 ·obtain⟨c,hc,rfl⟩:=aZ.1 hx
  have:=fM (hw c hc)
  unfold cD;omega
theorem qP {m:yE}(h:RightM m)(w:Int):m34 m w=if eC m.zE w<0 then -1 else(m.zE.cells.length:Int)+eC m.zE w:=by
 have h1:=lX.2 h.st
 have h2:=dW.2 h
 have ho:=h.ok
 unfold m34 m96
 rw[h1,h2]
 by_cases hn:eC m.zE w<0
 ·rw[dT hn,aE hn];rfl
 ·rw[dF hn,aF hn]
  simp only[ba,cF]
  have:=Ni m.zE w
  have:=ho.cells
  have:=ho.zK
  exact an (by omega) (by omega)
theorem tY {s:yC}{w:Int}(h:¬ eC s w<0):∃ k:Nat,eC s w=k/\s.zK[k]?=some ⟨2,w⟩:=by
 have hge:eC s w>=0:=by omega
 obtain⟨k,hk,ht⟩:=qe w s.zK 0 hge
 refine⟨k,?_,ht⟩
 show eO w s.zK 0=_
 rw[hk];omega
theorem AK {s:yC}{w:Int}(h:eC s w<0):eC s w = -1:=by
 rcases xO w s.zK 0 with h1|h1
 ·exact h1
 ·have:eC s w=eO w s.zK 0:=rfl
  omega
theorem AL {d:yA}{s s':yC}{w:Int}(h:RightP d s)(he:∀ k:Nat,s.zK[k]?=some ⟨2,w⟩↔s'.zK[k]?=some ⟨2,w⟩):eC s w=eC s' w:=by
 by_cases h1:eC s w<0
 ·by_cases h2:eC s' w<0
  ·rw[AK h1,AK h2]
  ·obtain⟨k,_,hk⟩:=tY h2
   exact absurd ((he k).2 hk) (md w s.zK 0 h1 k)
 ·obtain⟨k,e,hk⟩:=tY h1
  by_cases h2:eC s' w<0
  ·exact absurd ((he k).1 hk) (md w s'.zK 0 h2 k)
  ·obtain⟨j,e',hj⟩:=tY h2
   rw[e,e',h.zK.one k j w hk ((he j).2 hj)]
theorem sk {o o':List Int}{w:Int}(h:∀ i:Nat,o[i]?=some w↔o'[i]?=some w):m39 o w=m39 o' w:=by
 rw[qI,qI]
 refine ky (ma w o 0) (ma w o' 0) λ x=>?_
 rw[pH,pH]
 constructor
 ·rintro⟨i,h1,h2⟩;exact⟨i,(h i).1 h1,h2⟩
 ·rintro⟨i,h1,h2⟩;exact⟨i,(h i).2 h1,h2⟩
def da (m:yE)(w:Int)(q:yT):List Int:=Wn.ij m.zI q (m39 m.zD w) (m34 m w)
def inD (q:yT)(x:yH):Int:=if x.err=0/\q.kind=5 then(Wn.cy q).1 else 0
def qx (q:yT)(x:yH):Int:=if x.err=0/\q.kind=6 then(Wn.cy q).1 else 0
structure Frame (L:List Int) (w:Int) (m n:yE):Prop where
 zI:n.zI=m.zI
 own:∀ i:Nat,(i:Int) ∉ L->n.zD[i]?=m.zD[i]?
 others:∀ v,v≠w->v≠0->∀ i:Nat,(m.zD[i]?=some v↔n.zD[i]?=some v)
 cell:∀ i:Nat,(i:Int) ∉ L->n.zE.cells[i]?=m.zE.cells[i]?
 zW:∀ i:Nat,(i:Int) ∉ L->n.zE.zL[i]?=m.zE.zL[i]?
 zV:∀ k:Nat,((m.zE.cells.length+k:Nat):Int) ∉ L->n.zE.zK[k]?=m.zE.zK[k]?
 hands:∀ v,v≠w->∀ k:Nat,(m.zE.zK[k]?=some ⟨2,v⟩↔n.zE.zK[k]?=some ⟨2,v⟩)
 start:n.zE.start=m.zE.start
theorem Frame.refl {L:List Int}{w:Int}{m:yE}:Frame L w m m:=⟨rfl,λ _ _=>rfl,λ _ _ _ _=>.rfl,λ _ _=>rfl,λ _ _=>rfl,λ _ _=>rfl,λ _ _ _=>.rfl,rfl⟩
theorem KD {m:yE}{zT:Int}{q:yT}(h:(m38 m zT q).2.err=0):(Wn.bS m.zI q).err=0:=by
 obtain⟨hr,h1,h2⟩:=sw h
 unfold m38 at h
 rw[dW.2 hr,ba,cF,dF (show ¬ zT<1 by omega),cF,dF (show ¬ zT>m.zI.zO by omega),cF]at h
 cases h4:((Wn.bS m.zI q).err != 0)
 ·exact ah.1 h4
 ·rw[h4,cT]at h
  rw[h]at h4;cases h4
theorem qT {L:List Int}{w u:Int}{m:yE}{zU:List Int}(hi:∀ x∈zU,0<=x/\x<m.zD.length)(hL:∀ x,x∈zU->x∈L)(hu:u=0\/u=w)(ho:∀ z∈zU,m.zD.getD z.toNat (Ty.dflt .int)=0\/m.zD.getD z.toNat (Ty.dflt .int)=w):Frame L w m { m with zD:=iD m.zD zU u }:=by
 have hs:∀ i:Nat,(iD m.zD zU u)[i]?=if(i:Int)∈zU/\i<m.zD.length then some u else m.zD[i]?:=jd u zU 0 m.zD (λ x hx=>(hi x hx).1)
 refine { Frame.refl (L:=L) (w:=w) (m:=m)with own:=λ i h=>?_,others:=λ v h1 h2 i=>?_ }
 ·show(iD m.zD zU u)[i]?=_
  rw[hs,aF (λ h'=>h (hL _ h'.1))]
 ·show _↔(iD m.zD zU u)[i]?=_
  rw[hs]
  split
  ·rename_i h3
   have e:m.zD[i]?=some (m.zD.getD i (Ty.dflt .int)):=getD_some h3.2
   have:=ho _ h3.1
   rw[au]at this
   rw[e]
   simp only[ag]
   constructor
   ·intro h4;omega
   ·intro h4;omega
  ·exact .rfl
theorem sD {s:yC}{i:Int}{c':Cell}{k b:Int}(h0:0<=i){j:Nat}(h:(j:Int)≠i):(iZ s i c' k b).cells[j]?=s.cells[j]?:=by
 unfold iZ;simp only;rw[dp (by omega)]
theorem wQ {s:yC}{i:Int}{c':Cell}{k b:Int}(h0:0<=i){j:Nat}(h:(j:Int)≠i):(iZ s i c' k b).zL[j]?=s.zL[j]?:=by
 unfold iZ;simp only;rw[dp (by omega)]
theorem om {m:yE}{w:Int}{q:yT}(h:(Wn.bS m.zI q).err=0):da m w q=bif q.kind==1 then cV q.zU else bif q.kind==3 then cV (m39 m.zD w)else bif q.kind==8 then(bif decide (m34 m w<0)then[]else[m34 m w])else bif q.kind==9 then[q.a]else bif q.kind==10 then[q.a]else Wn.lw m.zI q:=by
 unfold da Wn.ij
 rw[show((Wn.bS m.zI q).err != 0)=false from ah.2 h];rfl
theorem CD {m:yE}{w:Int}{q:yT}(h:(Wn.bS m.zI q).err=0){x:Int}(hx:x∈Wn.gp m.zI q):x∈da m w q:=by
 rw[om h]
 unfold Wn.gp at hx
 rw[show((Wn.bS m.zI q).err != 0)=false from ah.2 h,cF]at hx
 have hk:=wk h
 have hk:q.kind=1\/q.kind=2\/q.kind=3\/q.kind=4\/q.kind=5\/q.kind=6\/q.kind=7\/q.kind=8\/q.kind=9\/q.kind=10:=by omega
 have hx':=hx
 unfold Wn.lw at hx
 rcases hk with hk|hk|hk|hk|hk|hk|hk|hk|hk|hk<;>simp only[hk,Int.reduceBEq,cT,cF,jw]at hx ⊢<;>exact hx'
theorem jn {m:yE}{w:Int}{q:yT}(h:(Wn.bS m.zI q).err=0)(hk:q.kind=4\/q.kind=5\/q.kind=6\/q.kind=7\/q.kind=9\/q.kind=10):q.a∈da m w q:=by
 rw[om h]
 unfold Wn.lw
 rcases hk with hk|hk|hk|hk|hk|hk<;>simp only[hk,Int.reduceBEq,cT,cF,lx,bq,true_or,or_true]
theorem JZ {m:yE}{w:Int}{q:yT}(h:(Wn.bS m.zI q).err=0)(hk:q.kind=4):q.b∈da m w q:=by
 rw[om h]
 unfold Wn.lw
 simp only[hk,Int.reduceBEq,cT,cF,lx,true_or]
theorem qa {m:yE}{w:Int}{q:yT}(h:(Wn.bS m.zI q).err=0)(hk:q.kind=1\/q.kind=2){x:Int}(hx:x∈cV q.zU):x∈da m w q:=by
 rw[om h]
 unfold Wn.lw
 rcases hk with hk|hk<;>simp only[hk,Int.reduceBEq,cT,cF]<;>exact hx
theorem JY {m:yE}{w:Int}{q:yT}(h:(Wn.bS m.zI q).err=0)(hk:q.kind=3){x:Int}(hx:x∈m39 m.zD w):x∈da m w q:=by
 rw[om h]
 simp only[hk,Int.reduceBEq,cT,cF]
 exact mz.2 hx
theorem Hh {m:yE}{w:Int}{q:yT}(h:(Wn.bS m.zI q).err=0)(hk:q.kind=8)(hh:¬ m34 m w<0):m34 m w∈da m w q:=by
 rw[om h]
 simp only[hk,Int.reduceBEq,cT,cF,dF hh,bq]
theorem wt {L:List Int}{w:Int}{m:yE}{i:Int}{c':Cell}{k b zR out:Int}(h0:0<=i)(hL:i∈L):Frame L w m { m with zE:={ iZ m.zE i c' k b with zR:=zR,out:=out } }:=
 { Frame.refl (L := L) (w := w) (m := m) with
   cell:=λ _ h=>sD (c':=c') (k:=k) (b:=b) h0 λ e=>h (e ▸ hL)
   zW:=λ _ h=>wQ (c':=c') (k:=k) (b:=b) h0 λ e=>h (e ▸ hL) }
theorem CJ {m n:yE}{w:Int}{q:yT}{x:yH}(hr:RightM m)(hw:x.err=0->1<=w/\w<=m.zI.zO)(hc:x.err=0->(Wn.bS m.zI q).err=0)(h:Step m w q n x):Frame (da m w q) w m n/\n.zE.zR=m.zE.zR+inD q x/\n.zE.out=m.zE.out+qx q x:=by
 cases h with
 | refuse e i he =>
   have e1:inD q ⟨e,i,0,0,[]⟩=0:=aF λ h=>he h.1
   have e2:qx q ⟨e,i,0,0,[]⟩=0:=aF λ h=>he h.1
   rw[e1,e2]
   exact⟨.refl,(iP _).symm,(iP _).symm⟩
 | reserve hk h =>
   obtain⟨c1,c2,c3,c4,c5⟩:=nk h
   refine⟨qT c3 (λ x hx=>qa (hc rfl) (.inl hk) hx) (.inr rfl) c4,?_,?_⟩<;>simp[inD,qx,hk]
 | release hk h =>
   obtain⟨c1,c2,c3,c4,c5⟩:=nX h
   refine⟨qT c3 (λ x hx=>qa (hc rfl) (.inr hk) hx) (.inl rfl) (λ z hz=>.inr (c4 z hz)),?_,?_⟩<;>simp[inD,qx,hk]
 | free hk =>
   refine⟨qT (λ x hx=>⟨(kg hx).1,(kg hx).2.1⟩) (λ x hx=>JY (hc rfl) hk hx) (.inl rfl) (λ z hz=>.inr (kg hz).2.2),?_,?_⟩<;>simp[inD,qx,hk]
 | move hk h =>
   obtain⟨_,hb1,hb2,hi0,hi1,hj0,hj1,hij,hn,c1,c2,hc1,hc2,e⟩:=DQ (lh q) h
   rw[e]
   refine⟨?_,?_,?_⟩
   ·have ha:=jn (w:=w) (hc rfl) (.inl hk)
    have hb:=JZ (w:=w) (hc rfl) hk
    exact { Frame.refl (L:=da m w q) (w:=w) (m:=m)with
     cell:=λ _ h=>(sD hj0 λ e=>h (e ▸ hb)).trans (sD hi0 λ e=>h (e ▸ ha))
     zW:=λ _ h=>(wQ hj0 λ e=>h (e ▸ hb)).trans (wQ hi0 λ e=>h (e ▸ ha)) }
   all_goals simp[inD,qx,hk,iZ]
 | fill hk h =>
   obtain⟨_,hb1,hb2,hi0,hi1,hn,hlim,c',hcc,e⟩:=EP h
   rw[e]
   refine⟨wt hi0 (jn (hc rfl) (.inr (.inl hk))),?_,?_⟩<;>simp[inD,qx,hk,iZ]
 | waste hk h =>
   obtain⟨_,hb1,hb2,hi0,hi1,hn,hlim,c',hcc,e⟩:=yU (lh q) h
   rw[e]
   refine⟨wt hi0 (jn (hc rfl) (.inr (.inr (.inl hk)))),?_,?_⟩<;>simp[inD,qx,hk,iZ]
 | take hk h =>
   obtain⟨_,hb1,hb2,h1,h2,hno,_,ht,e⟩:=wR h
   rw[e]
   have ha:=jn (w:=w) (hc rfl) (.inr (.inr (.inr (.inl hk))))
   refine⟨{ Frame.refl (L:=da m w q) (w:=w) (m:=m)with zV:=λ k h=>?_,hands:=λ v hv k=>?_ },?_,?_⟩
   ·show(m.zE.zK.set _ _)[k]?=_
    rw[dp]
    intro he
    apply h
    rw[show((m.zE.cells.length+k:Nat):Int)=q.a by omega]
    exact ha
   ·show _↔(m.zE.zK.set _ _)[k]?=_
    rw[aP]
    split
    ·rename_i he
     subst he
     rw[ht]
     split
     ·simp;omega
     ·simp
    ·exact .rfl
   all_goals simp[inD,qx,hk,rh]
 | drop hk h =>
   obtain⟨_,hb1,hb2,k0,hk0,ht,e⟩:=xX h
   rw[e]
   have hge:¬ eC m.zE w<0:=by omega
   have h34:m34 m w=(m.zE.cells.length:Int)+k0:=by rw[qP hr,aF hge,hk0]
   have ha:=Hh (m:=m) (w:=w) (q:=q) (hc rfl) hk (by omega)
   refine⟨{ Frame.refl (L:=da m w q) (w:=w) (m:=m)with zV:=λ k h=>?_,hands:=λ v hv k=>?_ },?_,?_⟩
   ·show(m.zE.zK.set _ _)[k]?=_
    rw[dp]
    intro he
    apply h
    rw[show((m.zE.cells.length+k:Nat):Int)=m34 m w by omega]
    exact ha
   ·show _↔(m.zE.zK.set _ _)[k]?=_
    rw[aP]
    split
    ·rename_i he
     subst he
     rw[ht]
     split
     ·simp;omega
     ·simp;omega
    ·exact .rfl
   all_goals simp[inD,qx,hk,rh]
 | ask hk=>exact⟨.refl,by simp[inD,hk],by simp[qx,hk]⟩
 | since hk h=>exact⟨.refl,by simp[inD,hk],by simp[qx,hk]⟩
theorem mf {m:yE}{w:Int}{q:yT}(hr:RightM m):Frame (da m w q) w m (m38 m w q).1/\(m38 m w q).1.zE.zR=m.zE.zR+inD q (m38 m w q).2/\(m38 m w q).1.zE.out=m.zE.out+qx q (m38 m w q).2:=
 CJ hr (λ h=>(sw h).2) KD (xZ hr)
structure Agree (L:List Int) (w:Int) (m n:yE):Prop where
 zI:n.zI=m.zI
 own:∀ i:Nat,(i:Int)∈L->n.zD[i]?=m.zD[i]?
 mine:∀ i:Nat,(m.zD[i]?=some w↔n.zD[i]?=some w)
 cell:∀ i:Nat,(i:Int)∈L->n.zE.cells[i]?=m.zE.cells[i]?
 zW:∀ i:Nat,(i:Int)∈L->n.zE.zL[i]?=m.zE.zL[i]?
 zV:∀ k:Nat,((m.zE.cells.length+k:Nat):Int)∈L->n.zE.zK[k]?=m.zE.zK[k]?
 hand:∀ k:Nat,(m.zE.zK[k]?=some ⟨2,w⟩↔n.zE.zK[k]?=some ⟨2,w⟩)
structure On (L:List Int) (m n:yE):Prop where
 own:∀ i:Nat,(i:Int)∈L->n.zD[i]?=m.zD[i]?
 cell:∀ i:Nat,(i:Int)∈L->n.zE.cells[i]?=m.zE.cells[i]?
 zW:∀ i:Nat,(i:Int)∈L->n.zE.zL[i]?=m.zE.zL[i]?
 zV:∀ k:Nat,((m.zE.cells.length+k:Nat):Int)∈L->n.zE.zK[k]?=m.zE.zK[k]?
theorem Agree.on {L:List Int}{w:Int}{m n:yE}(h:Agree L w m n):On L m n:=⟨h.own,h.cell,h.zW,h.zV⟩
structure Lens (m n:yE):Prop where
 own:n.zD.length=m.zD.length
 cell:n.zE.cells.length=m.zE.cells.length
 zW:n.zE.zL.length=m.zE.zL.length
 zV:n.zE.zK.length=m.zE.zK.length
 start:n.zE.start=m.zE.start
theorem gM {m n:yE}(hm:RightM m)(hn:RightM n)(hd:n.zI=m.zI):Lens m n:=by
 have a:=hm.st.lenC
 have b:=hn.st.lenC
 have c:=hm.st.lenL
 have d:=hn.st.lenL
 have e:=hm.st.lenT
 have f:=hn.st.lenT
 have g:=hm.len
 have h:=hn.len
 have i:=hm.st.start
 have j:=hn.st.start
 rw[hd]at b f h j
 exact⟨by omega,by omega,by omega,by omega,by omega⟩
theorem gO {α:Type}{l l':List α}{i:Nat}{d:α}(h:l'[i]?=l[i]?):l'.getD i d=l.getD i d:=by
 rw[bi,bi,h]
theorem wj {o o':List Int}{w:Int}(hl:o'.length=o.length):∀ (l:List Int) (k:Nat),(∀ x∈l,∀ i:Nat,(i:Int)=x->o'[i]?=o[i]?)->kK o' w l k=kK o w l k
 | [],_,_=>rfl
 | z :: l, k, h => by
   unfold kK
   rw[wj hl l (k+1) λ x hx=>h x (by simp[hx]),hl]
   by_cases h1:z<0
   ·rw[dT h1];rfl
   ·rw[gO (h z (by simp) z.toNat (by omega))]
theorem DS {o o':List Int}(hl:o'.length=o.length):∀ (l:List Int) (k:Nat),gW o' l k=gW o l k
 | [],_=>rfl
 | z :: l, k => by
   unfold gW
   rw[DS hl l (k+1),hl]
theorem zc {o o' zU:List Int}{w:Int}:∀ (l:List Int) (k:Nat),(∀ x∈l,o'.getD x.toNat (Ty.dflt .int)=o.getD x.toNat (Ty.dflt .int))->(gu o' zU w l k).2=(gu o zU w l k).2
 | [],_,_=>rfl
 | z :: l, k, h => by
   unfold gu
   have ih:=zc (o:=o) (o':=o') (zU:=zU) (w:=w) l (k+1) λ x hx=>h x (by simp[hx])
   rw[h z (by simp)]
   cases (o.getD z.toNat (Ty.dflt .int) != 0)
   ·exact ih
   ·cases (o.getD z.toNat (Ty.dflt .int) != w)
    ·exact ih
    ·rfl
theorem AQ {o o' zU:List Int}{w:Int}:∀ (l:List Int) (k:Nat),(∀ x∈l,o'.getD x.toNat (Ty.dflt .int)=o.getD x.toNat (Ty.dflt .int))->(fY o' zU w l k).2=(fY o zU w l k).2
 | [],_,_=>rfl
 | z :: l, k, h => by
   unfold fY
   have ih:=AQ (o:=o) (o':=o') (zU:=zU) (w:=w) l (k+1) λ x hx=>h x (by simp[hx])
   rw[h z (by simp)]
   cases (o.getD z.toNat (Ty.dflt .int) != w)
   ·exact ih
   ·rfl
theorem Sx {m:yE}(h:RightM m):xB m.zD=true:=xr (o:=m.zD) λ x hx=>by
 have:=h.own x hx
 have:=h.st.zO
 omega
theorem AB {m n:yE}{zU:List Int}{w:Int}(hm:RightM m)(hn:RightM n)(hl:n.zD.length=m.zD.length):kG n.zD zU w=kG m.zD zU w:=by
 unfold kG
 rw[Sx hm,Sx hn,DS hl]
theorem KE {L:List Int}{w:Int}{m n:yE}{zU:List Int}(hm:RightM m)(hn:RightM n)(hd:n.zI=m.zI)(ho:On L m n)(hi:∀ x∈zU,x∈L):(kH n.zD zU w).2=(kH m.zD zU w).2:=by
 have hl:=(gM hm hn hd).own
 unfold kH
 rw[AB hm hn hl]
 cases h1:((kG m.zD zU w).2 != 0)
 ·simp only[h1,cF]
  refine zc zU 0 λ x hx=>?_
  have:=tr (ah.1 h1) x hx
  exact gO (ho.own x.toNat (by rw[aK this.1];exact hi x hx))
 ·simp only[h1,cT]
theorem KH {L:List Int}{w:Int}{m n:yE}{zU:List Int}(hm:RightM m)(hn:RightM n)(hd:n.zI=m.zI)(ho:On L m n)(hi:∀ x∈zU,x∈L):(jm n.zD zU w).2=(jm m.zD zU w).2:=by
 have hl:=(gM hm hn hd).own
 unfold jm
 rw[AB hm hn hl]
 cases h1:((kG m.zD zU w).2 != 0)
 ·simp only[h1,cF]
  refine AQ zU 0 λ x hx=>?_
  have:=tr (ah.1 h1) x hx
  exact gO (ho.own x.toNat (by rw[aK this.1];exact hi x hx))
 ·simp only[h1,cT]
theorem Cc {L:List Int}{u:Int}{m n:yE}{zU:List Int}(hl:n.zD.length=m.zD.length)(ho:On L m n)(hi:∀ x∈zU,0<=x):On L { m with zD:=iD m.zD zU u } { n with zD:=iD n.zD zU u }:=by
 refine⟨λ i h=>?_,ho.cell,ho.zW,ho.zV⟩
 show(iD n.zD zU u)[i]?=(iD m.zD zU u)[i]?
 have a:=jd u zU 0 m.zD hi i
 have b:=jd u zU 0 n.zD hi i
 rw[hl,ho.own i h]at b
 exact b.trans a.symm
theorem As {w u:Int}{m n:yE}{zU:List Int}(hl:n.zD.length=m.zD.length)(h:∀ i:Nat,(m.zD[i]?=some w↔n.zD[i]?=some w))(hi:∀ x∈zU,0<=x)(i:Nat):(iD m.zD zU u)[i]?=some w↔(iD n.zD zU u)[i]?=some w:=by
 have a:=jd u zU 0 m.zD hi i
 have b:=jd u zU 0 n.zD hi i
 rw[hl]at b
 unfold iD
 rw[a,b]
 split
 ·exact .rfl
 ·exact h i
theorem lN {m:yE}{w:Int}(hm:RightM m)(h1:¬ w<1)(h2:¬ w>m.zI.zO):iR m.zI m.zE w=0:=by
 unfold iR
 rw[lX.2 hm.st,dF h1,dF h2];rfl
theorem pt {m n:yE}(h:n.zE.cells.length=m.zE.cells.length)(i:Int):mB n.zE i=mB m.zE i:=by
 unfold mB;rw[h]
theorem xj {L:List Int}{m n:yE}{b i:Int}{c':Cell}{ts ts':List Tip}{st zR out st' inn' out':Int}(ho:On L m n)(hl:Lens m n)(h0:0<=i)(hi:i∈L) :
  (∀ j:Nat,(j:Int)∈L->(kE n.zE.cells n.zE.zL ts' st' inn' out' b i c').1[j]?=(kE m.zE.cells m.zE.zL ts st zR out b i c').1[j]?)/\(∀ j:Nat,(j:Int)∈L->(kE n.zE.cells n.zE.zL ts' st' inn' out' b i c').2[j]?=(kE m.zE.cells m.zE.zL ts st zR out b i c').2[j]?):=by
 have e:(i.toNat:Int)=i:=aK h0
 have h1:=gO (d:=Ty.dflt Ty.cell) (ho.cell i.toNat (by rw[e];exact hi))
 have h2:=gO (d:=Ty.dflt Ty.zW) (ho.zW i.toNat (by rw[e];exact hi))
 unfold kE
 simp only
 rw[h1,h2]
 refine⟨λ j hj=>?_,λ j hj=>?_⟩
 ·rw[aP,aP,hl.cell,ho.cell j hj]
 ·rw[aP,aP,hl.zW,ho.zW j hj]
theorem lY {cs:List Cell}{ls:List Log}{ts:List Tip}{st zR out b i:Int}{c':Cell}:(kE cs ls ts st zR out b i c').1.length=cs.length/\(kE cs ls ts st zR out b i c').2.length=ls.length:=⟨co,co⟩
def StO (L:List Int)(m n:yE)(x y:yC×Int):Prop:=x.2≠4->y.2≠4->y.2=x.2/\(x.2=0->On L { m with zE:=x.1 } { n with zE:=y.1 })
theorem gG {L:List Int}{m n:yE}{s s':yC}{e:Int}(he:e≠0):StO L m n (s,e) (s',e):=λ _ _=>⟨rfl,λ h=>absurd h he⟩
theorem zg {L:List Int}{m n:yE}{s:yC}{y:yC×Int}:StO L m n (s,4) y:=λ h=>absurd rfl h
theorem vn {L:List Int}{m n:yE}{s:yC}{x:yC×Int}:StO L m n x (s,4):=λ _ h=>absurd rfl h
theorem KI {L:List Int}{w i v:Int}{m n:yE}(hm:RightM m)(hn:RightM n)(hd:n.zI=m.zI)(ho:On L m n)(h1:¬ w<1)(h2:¬ w>m.zI.zO)(hi:i∈L):StO L m n (jU m.zI m.zE w i v) (jU n.zI n.zE w i v):=by
 have hl:=gM hm hn hd
 unfold jU
 rw[lN hm h1 h2,lN hn h1 (by rw[hd];exact h2),pt hl.cell]
 simp only[dB,cF]
 cases hw : !mB m.zE i
 case true=>exact gG (by decide)
 obtain⟨h0,hi1⟩:=gk hw
 rw[cF,cF]
 have e:(i.toNat:Int)=i:=aK h0
 rw[gO (d:=Ty.dflt Ty.cell) (ho.cell i.toNat (by rw[e];exact hi))]
 cases h3:((ph (List.getD m.zE.cells i.toNat (Ty.dflt Ty.cell)) v).2 != 0)
 case true=>exact gG (cK.1 h3)
 simp only[cF]
 cases decide (v>w64 (1152921504606846976-m.zE.zR))
 case true=>exact zg
 cases decide (v>w64 (1152921504606846976-n.zE.zR))
 case true=>exact vn
 simp only[cF]
 intro _ _
 refine⟨rfl,λ _=>?_⟩
 obtain⟨p1,p2⟩:=xj (b:=w) (c':=(ph (List.getD m.zE.cells i.toNat (Ty.dflt Ty.cell)) v).1) (ts:=m.zE.zK) (ts':=n.zE.zK) (st:=m.zE.start) (zR:=m.zE.zR) (out:=m.zE.out) (st':=n.zE.start) (inn':=n.zE.zR) (out':=n.zE.out) ho hl h0 hi
 exact { own:=ho.own,cell:=p1,zW:=p2,zV:=λ k h=>ho.zV k (by simpa only[lY.1]using h) }
theorem Hv {L:List Int}{w i v:Int}{m n:yE}(hm:RightM m)(hn:RightM n)(hd:n.zI=m.zI)(ho:On L m n)(h1:¬ w<1)(h2:¬ w>m.zI.zO)(hi:i∈L):StO L m n (jT m.zI m.zE w i v) (jT n.zI n.zE w i v):=by
 have hl:=gM hm hn hd
 unfold jT
 rw[lN hm h1 h2,lN hn h1 (by rw[hd];exact h2),pt hl.cell]
 simp only[dB,cF]
 cases hw : !mB m.zE i
 case true=>exact gG (by decide)
 obtain⟨h0,hi1⟩:=gk hw
 rw[cF,cF]
 have e:(i.toNat:Int)=i:=aK h0
 rw[gO (d:=Ty.dflt Ty.cell) (ho.cell i.toNat (by rw[e];exact hi))]
 cases h3:((nF (List.getD m.zE.cells i.toNat (Ty.dflt Ty.cell)) v).2 != 0)
 case true=>exact gG (cK.1 h3)
 simp only[cF]
 cases decide (v>w64 (1152921504606846976-m.zE.out))
 case true=>exact zg
 cases decide (v>w64 (1152921504606846976-n.zE.out))
 case true=>exact vn
 simp only[cF]
 intro _ _
 refine⟨rfl,λ _=>?_⟩
 obtain⟨p1,p2⟩:=xj (b:=w) (c':=(nF (List.getD m.zE.cells i.toNat (Ty.dflt Ty.cell)) v).1) (ts:=m.zE.zK) (ts':=n.zE.zK) (st:=m.zE.start) (zR:=m.zE.zR) (out:=m.zE.out) (st':=n.zE.start) (inn':=n.zE.zR) (out':=n.zE.out) ho hl h0 hi
 exact { own:=ho.own,cell:=p1,zW:=p2,zV:=λ k h=>ho.zV k (by simpa only[lY.1]using h) }
theorem KG {L:List Int}{w i j v:Int}{m n:yE}(hm:RightM m)(hn:RightM n)(hd:n.zI=m.zI)(ho:On L m n)(h1:¬ w<1)(h2:¬ w>m.zI.zO)(hi:i∈L)(hj:j∈L):StO L m n (lf m.zI m.zE w i j v) (lf n.zI n.zE w i j v):=by
 have hl:=gM hm hn hd
 unfold lf
 rw[lN hm h1 h2,lN hn h1 (by rw[hd];exact h2),pt hl.cell,pt hl.cell]
 simp only[dB,cF]
 cases hw : !mB m.zE i
 case true=>exact gG (by decide)
 obtain⟨h0,hi1⟩:=gk hw
 cases hw : !mB m.zE j
 case true=>exact gG (by decide)
 obtain⟨hj0,hj1⟩:=gk hw
 simp only[cF]
 cases (i==j)
 case true=>exact gG (by decide)
 simp only[cF]
 have e:(i.toNat:Int)=i:=aK h0
 have e':(j.toNat:Int)=j:=aK hj0
 rw[gO (d:=Ty.dflt Ty.cell) (ho.cell i.toNat (by rw[e];exact hi)),gO (d:=Ty.dflt Ty.cell) (ho.cell j.toNat (by rw[e'];exact hj))]
 cases h3:((Cs (List.getD m.zE.cells i.toNat (Ty.dflt Ty.cell)) (List.getD m.zE.cells j.toNat (Ty.dflt Ty.cell)) v).2.2 != 0)
 case true=>exact gG (cK.1 h3)
 simp only[cF]
 intro _ _
 refine⟨rfl,λ _=>?_⟩
 generalize Cs (List.getD m.zE.cells i.toNat (Ty.dflt Ty.cell)) (List.getD m.zE.cells j.toNat (Ty.dflt Ty.cell)) v=y
 obtain⟨p1,p2⟩:=xj (b:=w) (c':=y.1) (ts:=m.zE.zK) (ts':=n.zE.zK) (st:=m.zE.start) (zR:=m.zE.zR) (out:=m.zE.out) (st':=n.zE.start) (inn':=n.zE.zR) (out':=n.zE.out) ho hl h0 hi
 obtain⟨q1,q2⟩:=xj (m:=⟨m.zI,⟨(kE m.zE.cells m.zE.zL m.zE.zK m.zE.start m.zE.zR m.zE.out w i y.1).1,(kE m.zE.cells m.zE.zL m.zE.zK m.zE.start m.zE.zR m.zE.out w i y.1).2,m.zE.zK,m.zE.start,m.zE.zR,m.zE.out⟩,m.zD⟩) (n:=⟨n.zI,⟨(kE n.zE.cells n.zE.zL n.zE.zK n.zE.start n.zE.zR n.zE.out w i y.1).1,(kE n.zE.cells n.zE.zL n.zE.zK n.zE.start n.zE.zR n.zE.out w i y.1).2,n.zE.zK,n.zE.start,n.zE.zR,n.zE.out⟩,n.zD⟩) (b:=w) (c':=y.2.1) (ts:=m.zE.zK) (ts':=n.zE.zK) (st:=m.zE.start) (zR:=m.zE.zR) (out:=m.zE.out) (st':=n.zE.start) (inn':=n.zE.zR) (out':=n.zE.out) { own:=ho.own,cell:=p1,zW:=p2,zV:=λ k h=>ho.zV k (by simpa only[lY.1]using h) } ⟨hl.own,by simp only[lY.1];exact hl.cell,by simp only[lY.2];exact hl.zW,hl.zV,hl.start⟩ hj0 hj
 exact { own:=ho.own,cell:=q1,zW:=q2,zV:=λ k h=>ho.zV k (by simpa only[lY.1]using h) }
theorem Hw {L:List Int}{w i:Int}{m n:yE}(hm:RightM m)(hn:RightM n)(hd:n.zI=m.zI)(ho:On L m n)(hh:eC n.zE w=eC m.zE w)(h1:¬ w<1)(h2:¬ w>m.zI.zO)(hi:i∈L):StO L m n (gK m.zI m.zE w i) (gK n.zI n.zE w i):=by
 have hl:=gM hm hn hd
 have hk:=hm.ok
 have:=hk.cells
 have:=hk.zK
 unfold gK
 rw[lN hm h1 h2,lN hn h1 (by rw[hd];exact h2),hl.cell,hl.zV,hh]
 simp only[dB,cF]
 rw[an (n:=(m.zE.cells.length:Int)+m.zE.zK.length) (by omega) (by omega)]
 by_cases h3:i>=m.zE.cells.length
 case neg=>rw[dF h3];exact gG (by decide)
 rw[dT h3,cT,cT]
 by_cases h4:i<m.zE.cells.length+m.zE.zK.length
 case neg=>rw[dF h4];exact gG (by decide)
 rw[dT h4,cT,cT]
 rw[an (n:=i-(m.zE.cells.length:Int)) (by omega) (by omega)]
 rw[dF (show ¬ i-(m.zE.cells.length:Int)<0 by omega),cF,cF]
 cases decide (eC m.zE w>=0)
 case true=>exact gG (by decide)
 rw[cF,cF]
 have ht:=ho.zV (i-m.zE.cells.length).toNat (by
  rw[show((m.zE.cells.length+(i-m.zE.cells.length).toNat:Nat):Int)=i by omega];exact hi)
 rw[gO (d:=Ty.dflt Ty.zV) ht]
 cases h5:((GZ (List.getD m.zE.zK (i-m.zE.cells.length).toNat (Ty.dflt Ty.zV)) w).2 != 0)
 case true=>exact gG (cK.1 h5)
 simp only[cF]
 intro _ _
 refine⟨rfl,λ _=>{ own:=ho.own,cell:=ho.cell,zW:=ho.zW,zV:=λ k h=>?_ }⟩
 show(n.zE.zK.set _ _)[k]?=(m.zE.zK.set _ _)[k]?
 rw[aP,aP,hl.zV,ho.zV k h]
theorem KJ {L:List Int}{w:Int}{m n:yE}(hm:RightM m)(hn:RightM n)(hd:n.zI=m.zI)(ho:On L m n)(hh:eC n.zE w=eC m.zE w)(h1:¬ w<1)(h2:¬ w>m.zI.zO):StO L m n (gJ m.zI m.zE w) (gJ n.zI n.zE w):=by
 have hl:=gM hm hn hd
 unfold gJ
 rw[lN hm h1 h2,lN hn h1 (by rw[hd];exact h2),hh]
 simp only[dB,cF]
 cases decide (eC m.zE w<0)
 case true=>exact gG (by decide)
 simp only[cF]
 intro _ _
 refine⟨rfl,λ _=>{ own:=ho.own,cell:=ho.cell,zW:=ho.zW,zV:=λ k h=>?_ }⟩
 show(n.zE.zK.set _ _)[k]?=(m.zE.zK.set _ _)[k]?
 rw[aP,aP,hl.zV,ho.zV k h]
def DoO (L:List Int)(X Y:yE×yH):Prop:=X.2.err≠4->Y.2.err≠4->Y.2=X.2/\On L X.1 Y.1
theorem fR {L:List Int}{m n:yE}{x:yH}(h:On L m n):DoO L (m,x) (n,x):=λ _ _=>⟨rfl,h⟩
theorem xY {L:List Int}{m n:yE}{x y:yC×Int}{i v:Int}(ho:On L m n)(h:StO L m n x y)(hi:i∈L)(h0:x.2=0->0<=i) :
  DoO L (bif x.2 != 0 then(m,⟨x.2,0,0,0,[]⟩)else(⟨m.zI,x.1,m.zD⟩,⟨0,0,v,(List.getD x.1.cells i.toNat (Ty.dflt Ty.cell)).ver,[]⟩))
   (bif y.2 != 0 then(n,⟨y.2,0,0,0,[]⟩)else(⟨m.zI,y.1,n.zD⟩,⟨0,0,v,(List.getD y.1.cells i.toNat (Ty.dflt Ty.cell)).ver,[]⟩)):=by
 intro h4 h4'
 have k1:x.2≠4:=λ e=>by rw[e]at h4;exact h4 rfl
 have k2:y.2≠4:=λ e=>by rw[e]at h4';exact h4' rfl
 obtain⟨e,hon⟩:=h k1 k2
 rw[e]
 cases hx:(x.2 != 0)
 ·have hx:x.2=0:=ah.1 hx
  have on:=hon hx
  simp only[cF]
  have e1:(i.toNat:Int)=i:=aK (h0 hx)
  have e2:List.getD y.1.cells i.toNat (Ty.dflt Ty.cell)=List.getD x.1.cells i.toNat (Ty.dflt Ty.cell):=gO (on.cell i.toNat (by rw[e1];exact hi))
  rw[e2]
  exact⟨by first|rfl|trivial,⟨on.own,on.cell,on.zW,on.zV⟩⟩
 ·simp only[cT]
  exact⟨by first|rfl|trivial,ho⟩
theorem ET {L:List Int}{m n:yE}{x y:yC×Int}{i:Int}(ho:On L m n)(h:StO L m n x y) :
  DoO L (bif x.2 != 0 then(m,⟨x.2,0,0,0,[]⟩)else(⟨m.zI,x.1,m.zD⟩,⟨0,i,0,0,[]⟩))
   (bif y.2 != 0 then(n,⟨y.2,0,0,0,[]⟩)else(⟨m.zI,y.1,n.zD⟩,⟨0,i,0,0,[]⟩)):=by
 intro h4 h4'
 have k1:x.2≠4:=λ e=>by rw[e]at h4;exact h4 rfl
 have k2:y.2≠4:=λ e=>by rw[e]at h4';exact h4' rfl
 obtain⟨e,hon⟩:=h k1 k2
 rw[e]
 cases hx:(x.2 != 0)
 ·have on:=hon (ah.1 hx)
  simp only[cF]
  exact⟨by first|rfl|trivial,⟨on.own,on.cell,on.zW,on.zV⟩⟩
 ·simp only[cT]
  exact⟨by first|rfl|trivial,ho⟩
theorem KC {L:List Int}{w:Int}{m n:yE}{q:yT}(hm:RightM m)(hn:RightM n)(h:Agree L w m n)(hL:∀ x,x∈da m w q->x∈L):DoO L (m38 m w q) (m38 n w q):=by
 have hl:=gM hm hn h.zI
 have ho:=h.on
 have e39:m39 n.zD w=m39 m.zD w:=(sk h.mine).symm
 have e167:eC n.zE w=eC m.zE w:=(AL hm.st h.hand).symm
 have e34:m34 n w=m34 m w:=by rw[qP hm,qP hn,e167,hl.cell]
 unfold m38
 rw[dW.2 hm,dW.2 hn,h.zI,e39]
 simp only[ba,cF]
 by_cases h1:w<1
 ·rw[dT h1];exact fR ho
 rw[dF h1,cF,cF]
 by_cases h2:w>m.zI.zO
 ·rw[dT h2];exact fR ho
 rw[dF h2,cF,cF]
 cases h4:((Wn.bS m.zI q).err != 0)
 case true=>exact fR ho
 rw[cF,cF]
 have h4:(Wn.bS m.zI q).err=0:=ah.1 h4
 have el:xE n.zD (Wn.gp m.zI q) w=xE m.zD (Wn.gp m.zI q) w:=wj hl.own _ 0 λ x hx i hi=>h.own i (by rw[hi];exact hL _ (CD h4 hx))
 rw[el]
 cases (xE m.zD (Wn.gp m.zI q) w).2
 case true=>exact fR ho
 rw[cF,cF]
 have hk:=wk h4
 have hi:=idxR hm.ok (q:=q) (by rw[dW.2 hm];rfl) h4
 have hk:q.kind=1\/q.kind=2\/q.kind=3\/q.kind=4\/q.kind=5\/q.kind=6\/q.kind=7\/q.kind=8\/q.kind=9\/q.kind=10:=by omega
 rcases hk with hk|hk|hk|hk|hk|hk|hk|hk|hk|hk
 all_goals simp only[hk,Int.reduceBEq,cT,cF]
 ·unfold rY dA uW
  simp only[hk,Int.reduceBEq,cT,e39]
  cases decide (((Zn.cP (m39 m.zD w) (cV q.zU)).length:Int)>40)
  case true=>exact fR ho
  simp only[cF]
  have e2:=KE (w:=w) (zU:=cV q.zU) hm hn h.zI ho (λ x hx=>hL _ (qa h4 (.inl hk) hx))
  rw[e2]
  cases h6:((kH m.zD (cV q.zU) w).2.2 != 0)
  case true=>exact fR ho
  have h6:(kH m.zD (cV q.zU) w).2.2=0:=ah.1 h6
  obtain⟨_,_,c3,_,c5⟩:=nk h6
  obtain⟨_,_,_,_,d5⟩:=nk (o:=n.zD) (zU:=cV q.zU) (w:=w) (by rw[e2];exact h6)
  rw[c5,d5]
  simp only[cF]
  rw[<-sk (As (u:=w) hl.own h.mine λ x hx=>(c3 x hx).1)]
  exact λ _ _=>⟨rfl,Cc hl.own ho λ x hx=>(c3 x hx).1⟩
 ·unfold rY dA uW
  simp only[hk,Int.reduceBEq,cF]
  have e2:=KH (w:=w) (zU:=cV q.zU) hm hn h.zI ho (λ x hx=>hL _ (qa h4 (.inr hk) hx))
  rw[e2]
  cases h6:((jm m.zD (cV q.zU) w).2.2 != 0)
  case true=>exact fR ho
  have h6:(jm m.zD (cV q.zU) w).2.2=0:=ah.1 h6
  obtain⟨_,_,c3,_,c5⟩:=nX h6
  obtain⟨_,_,_,_,d5⟩:=nX (o:=n.zD) (zU:=cV q.zU) (w:=w) (by rw[e2];exact h6)
  rw[c5,d5]
  simp only[cF]
  rw[<-sk (As (u:=0) hl.own h.mine λ x hx=>(c3 x hx).1)]
  exact λ _ _=>⟨rfl,Cc hl.own ho λ x hx=>(c3 x hx).1⟩
 ·have f1:=xT hm (by omega) (show w<=m.zI.zO by omega)
  have f2:=xT hn (by omega) (show w<=n.zI.zO by rw[h.zI];omega)
  rw[e39]at f2
  rw[f1,f2]
  have z:=Cc (u:=0) (zU:=m39 m.zD w) hl.own ho λ x hx=>(kg hx).1
  exact λ _ _=>⟨rfl,⟨z.own,z.cell,z.zW,z.zV⟩⟩
 ·unfold nP dA
  simp only[hk,Int.reduceBEq,cT,e34]
  cases decide (m34 m w<0)
  case true=>exact fR ho
  simp only[cF]
  rw[h.zI]
  have hs:=KG (v:=(Wn.cy q).1) hm hn h.zI ho h1 h2 (hL _ (jn h4 (.inl hk))) (hL _ (JZ h4 hk))
  rw[h.zI]at hs
  exact xY ho hs (hL _ (jn h4 (.inl hk))) λ hx=>(AN _ _ _ _ _ _ hx).1.1
 ·unfold nP dA
  simp only[hk,Int.reduceBEq,cT,cF,e34]
  cases decide (m34 m w<0)
  case true=>exact fR ho
  simp only[cF]
  rw[h.zI]
  have hs:=KI (v:=(Wn.cy q).1) hm hn h.zI ho h1 h2 (hL _ (jn h4 (.inr (.inl hk))))
  rw[h.zI]at hs
  exact xY ho hs (hL _ (jn h4 (.inr (.inl hk)))) λ hx=>(AO _ _ _ _ _ hx).1.1
 ·unfold nP dA
  simp only[hk,Int.reduceBEq,cF,e34]
  cases decide (m34 m w<0)
  case true=>exact fR ho
  simp only[cF]
  rw[h.zI]
  have hs:=Hv (v:=(Wn.cy q).1) hm hn h.zI ho h1 h2 (hL _ (jn h4 (.inr (.inr (.inl hk)))))
  rw[h.zI]at hs
  exact xY ho hs (hL _ (jn h4 (.inr (.inr (.inl hk))))) λ hx=>(wo _ _ _ _ _ hx).1.1
 ·unfold dA
  have hs:=Hw hm hn h.zI ho e167 h1 h2 (hL _ (jn h4 (.inr (.inr (.inr (.inl hk))))))
  rw[h.zI]at hs
  exact ET ho hs
 ·unfold dA
  have hs:=KJ hm hn h.zI ho e167 h1 h2
  rw[h.zI]at hs
  rw[e34]
  exact ET ho hs
 ·have ha:=hL _ (jn h4 (.inr (.inr (.inr (.inr (.inl hk))))))
  have e1:(q.a.toNat:Int)=q.a:=aK (hi (.inl hk)).1.1
  rw[gO (d:=Ty.dflt Ty.cell) (ho.cell q.a.toNat (by rw[e1];exact ha))]
  exact fR ho
 ·unfold dA
  have ha:=hL _ (jn h4 (.inr (.inr (.inr (.inr (.inr hk))))))
  have e1:(q.a.toNat:Int)=q.a:=aK (hi (.inr hk)).1.1
  rw[gO (d:=Ty.dflt Ty.zW) (ho.zW q.a.toNat (by rw[e1];exact ha))]
  cases ((iS (List.getD m.zE.zL q.a.toNat (Ty.dflt Ty.zW)) q.ver).2 != 0)<;>exact fR ho
theorem rP {S T:List Int}{a b:Int}{m n:yE}(hne:a≠b)(hb:1<=b)(hST:∀ x,x∈S->x ∉ T)(h:Frame S a m n):Agree T b m n where
 zI:=h.zI
 own:=λ i hi=>h.own i λ hs=>hST _ hs hi
 mine:=h.others b (λ e=>hne e.symm) (by omega)
 cell:=λ i hi=>h.cell i λ hs=>hST _ hs hi
 zW:=λ i hi=>h.zW i λ hs=>hST _ hs hi
 zV:=λ i hi=>h.zV i λ hs=>hST _ hs hi
 hand:=h.hands b (λ e=>hne e.symm)
theorem FS {s t:yC}(h1:s.cells=t.cells)(h2:s.zL=t.zL)(h3:s.zK=t.zK)(h4:s.start=t.start)(h5:s.zR=t.zR)(h6:s.out=t.out):s=t:=by
 cases s;cases t;simp at *;simp[*]
theorem GI {m n:yE}(h1:m.zI=n.zI)(h2:m.zE=n.zE)(h3:m.zD=n.zD):m=n:=by
 cases m;cases n;simp at *;simp[*]
theorem AE {L:List Int}{w:Int}{m n:yE}{q:yT}(hm:RightM m)(hn:RightM n)(h:Agree L w m n):da n w q=da m w q:=by
 have hl:=gM hm hn h.zI
 unfold da
 rw[h.zI,<-sk h.mine,qP hm,qP hn,<-AL hm.st h.hand,hl.cell]
theorem sg {m:yE}{w:Int}{q:yT}(hr:RightM m)(h:w<1\/w>m.zI.zO):m38 m w q=(m,⟨80,0,0,0,[]⟩):=by
 unfold m38
 rw[dW.2 hr,ba,cF]
 rcases h with h|h
 ·rw[dT h];rfl
 ·cases decide (w<1)
  ·rw[cF,dT h];rfl
  ·rfl
theorem apart {m:yE}{a b:Int}{r q:yT}(hr:RightM m)(hne:a≠b)(hST:∀ x,x∈da m a r->x ∉ da m b q)
  (hx:(m38 m a r).2.err≠4) (hy:(m38 (m38 m a r).1 b q).2.err≠4) (hz:(m38 m b q).2.err≠4) (hw:(m38 (m38 m b q).1 a r).2.err≠4) :
  (m38 (m38 m a r).1 b q).1=(m38 (m38 m b q).1 a r).1/\(m38 m a r).2=(m38 (m38 m b q).1 a r).2/\(m38 (m38 m a r).1 b q).2=(m38 m b q).2:=by
 by_cases ha:a<1\/a>m.zI.zO
 ·rw[sg hr ha]
  have e:=sg (q:=r) (gv (zT:=b) (q:=q) hr) (by rw[(mf hr).1.zI];exact ha)
  rw[e]
  exact⟨rfl,rfl,rfl⟩
 by_cases hb:b<1\/b>m.zI.zO
 ·rw[sg hr hb]
  have e:=sg (q:=q) (gv (zT:=a) (q:=r) hr) (by rw[(mf hr).1.zI];exact hb)
  rw[e]
  exact⟨rfl,rfl,rfl⟩
 have hr1:RightM (m38 m a r).1:=gv hr
 have hr2:RightM (m38 m b q).1:=gv hr
 obtain⟨f1,i1,o1⟩:=mf (w:=a) (q:=r) hr
 obtain⟨f2,i2,o2⟩:=mf (w:=b) (q:=q) hr
 have g1:=rP (b:=b) hne (by omega) hST f1
 have g2:=rP (b:=a) (λ e=>hne e.symm) (by omega) (λ x hx hx'=>hST x hx' hx) f2
 obtain⟨y1,on1⟩:=KC (q:=q) hr hr1 g1 (λ _ h=>h) hz hy
 obtain⟨x1,on2⟩:=KC (q:=r) hr hr2 g2 (λ _ h=>h) hx hw
 have e1:=AE (q:=q) hr hr1 g1
 have e2:=AE (q:=r) hr hr2 g2
 obtain⟨f3,i3,o3⟩:=mf (w:=b) (q:=q) hr1
 obtain⟨f4,i4,o4⟩:=mf (w:=a) (q:=r) hr2
 rw[e1]at f3
 rw[e2]at f4
 have l1:=gM hr hr1 f1.zI
 have l2:=gM hr hr2 f2.zI
 refine⟨GI ?_ (FS ?_ ?_ ?_ ?_ ?_ ?_) ?_,x1.symm,y1⟩
 ·rw[f3.zI,f4.zI,f1.zI,f2.zI]
 ·apply dE
  intro i
  by_cases hS:(i:Int)∈da m a r
  ·rw[f3.cell i (hST _ hS),on2.cell i hS]
  ·rw[f4.cell i hS]
   by_cases hT:(i:Int)∈da m b q
   ·exact on1.cell i hT
   ·rw[f3.cell i hT,f1.cell i hS,f2.cell i hT]
 ·apply dE
  intro i
  by_cases hS:(i:Int)∈da m a r
  ·rw[f3.zW i (hST _ hS),on2.zW i hS]
  ·rw[f4.zW i hS]
   by_cases hT:(i:Int)∈da m b q
   ·exact on1.zW i hT
   ·rw[f3.zW i hT,f1.zW i hS,f2.zW i hT]
 ·apply dE
  intro i
  have j1:=gM hr (gv (zT:=a) (q:=r) hr) f1.zI
  have j2:=gM hr (gv (zT:=b) (q:=q) hr) f2.zI
  by_cases hS:((m.zE.cells.length+i:Nat):Int)∈da m a r
  ·rw[f3.zV i (by rw[l1.cell];exact hST _ hS),on2.zV i (by rw[j1.cell];exact hS)]
  ·rw[f4.zV i (by rw[l2.cell];exact hS)]
   by_cases hT:((m.zE.cells.length+i:Nat):Int)∈da m b q
   ·exact on1.zV i (by rw[j2.cell];exact hT)
   ·rw[f3.zV i (by rw[l1.cell];exact hT),f1.zV i hS,f2.zV i hT]
 ·rw[f3.start,f4.start,f1.start,f2.start]
 ·rw[i3,i4,i1,i2,x1,y1];omega
 ·rw[o3,o4,o1,o2,x1,y1];omega
 ·apply dE
  intro i
  by_cases hS:(i:Int)∈da m a r
  ·rw[f3.own i (hST _ hS),on2.own i hS]
  ·rw[f4.own i hS]
   by_cases hT:(i:Int)∈da m b q
   ·exact on1.own i hT
   ·rw[f3.own i hT,f1.own i hS,f2.own i hT]
def eJ (e i:Int):Prop:=0<=e/\e<65536/\(e=3\/e=152\/(-2147483648<=i/\i<2147483648))
def jW (e:Int):Prop:=0<=e/\e<65536
theorem LP (q:yT):jW (Wn.cy q).2:=by
 unfold Wn.cy Wn.ofS jW
 repeat' (first|omega|(rw[cr];split))
theorem un (c:Cell)(n:Int):jW (pf c n).2:=by
 unfold pf MV jW
 repeat' (first|omega|(simp only[];omega)|(rw[cr];split))
theorem Ac (c:Cell)(n:Int):jW (ph c n).2:=by
 unfold ph
 cases dm c
 ·exact un c n
 ·cases decide (n<1)
  ·exact un c n
  ·unfold jW;simp
theorem Bc (c:Cell)(n:Int):jW (nF c n).2:=by
 unfold nF
 cases dm c<;>cases decide (n<1)<;>first|exact un c _|(unfold jW;simp)
theorem ti {d:yA}:∀ (l:List Int) {e i:Int},Wn.ji d l=Wn.eX e i->eJ e i
 | [], e, i, h => by
   unfold Wn.ji Wn.eX at h
   simp only[yH.mk.injEq]at h
   unfold eJ;omega
 | z :: l, e, i, h => by
   unfold Wn.ji at h
   rw[cr]at h
   split at h
   ·unfold Wn.eX at h
    simp only[yH.mk.injEq]at h
    unfold eJ;omega
   ·exact ti l h
theorem Bk {d:yA}(hz:(df d != 0)=false)(q:yT):∃ e i,Wn.bS d q=Wn.eX e i/\eJ e i:=by
 obtain⟨e,i,h⟩:=um d q
 refine⟨e,i,h,?_⟩
 have hv:=LP q
 unfold jW at hv
 unfold Wn.bS at h
 rw[hz,cF]at h
 unfold Wn.fm Wn.CN Wn.fZ at h
 repeat' (first|exact ti _ h|(unfold Wn.eX at h;simp only[yH.mk.injEq]at h;unfold eJ;omega)|(rw[cr]at h;split at h))
theorem wh {o:List Int}{w:Int}:∀ (l:List Int) (k:Nat),(kK o w l k).2=true->(kK o w l k).1∈l
 | [],_,h=>by simp[kK]at h
 | z :: l, k, h => by
   unfold kK at h ⊢
   by_cases h1:z<0
   ·rw[dT h1];simp
   rw[dF h1,cF]at h ⊢
   by_cases h2:z>=(o.length:Int)
   ·rw[dT h2];simp
   rw[dF h2,cF]at h ⊢
   cases h3:(o.getD z.toNat (Ty.dflt .int) != w)
   ·rw[h3,cF]at h
    rw[cF]
    exact List.mem_cons_of_mem _ (wh l (k+1) h)
   ·simp
theorem zj {d:yA}(hz:(df d != 0)=false){s:yG}(hs:ga d s){n:Int}(h:n∈dv d s):0<=n/\n<=1000:=by
 have hd:=cp hz
 have:=hd.wells
 have:=hd.zK
 have:=hd.lanes
 have h:=vB.1 h
 unfold ga at hs
 omega
theorem qB {d:yA}(hz:(df d != 0)=false){a n:Int}(h:n∈(fX d [a]).1):0<=n/\n<=1000:=by
 unfold fX at h
 cases h1:(cc d [a]).2 != 0
 ·rw[h1,cF]at h
  have h0:(cc d [a]).2=0:=by simpa using h1
  obtain⟨g1,g2,g3⟩:=jK h0
  obtain⟨s,hs,hn⟩:=qD.1 h
  exact zj hz (g2 s hs) hn
 ·rw[h1]at h;cases h
theorem Gt {d:yA}(hz:(df d != 0)=false){a b n:Int}(h:n∈(lr d a b).1):0<=n/\n<=1000:=by
 unfold lr at h
 cases h1:(cc d [a,b]).2 != 0
 ·rw[h1,cF]at h
  have h0:(cc d [a,b]).2=0:=by simpa using h1
  obtain⟨g1,g2,g3⟩:=jK h0
  obtain⟨x,y,e⟩:=pu g3
  rw[e]at h g2
  exact zj hz (wL (g2 x (by simp)) (g2 y (by simp))) h
 ·rw[h1]at h;cases h
theorem tS {d:yA}{i:Int}(h:Wn.eG d i≠0):0<=i/\i<=1000:=by
 unfold Wn.eG at h
 have hp:(jZ d i).2=0:=by
  by_cases h1:(jZ d i).2=0
  ·exact h1
  ·rw[Wn.Ai h1]at h;exact absurd rfl h
 unfold jZ at hp
 cases h1:dw d != 0
 case true=>rw[h1,cT]at hp;simp only at hp;rw[hp]at h1;cases h1
 rw[h1,cF]at hp
 by_cases h2:i<0
 ·rw[dT h2]at hp;cases (show(3:Int)=0 from hp)
 rw[dF h2,cF]at hp
 by_cases h3:i>=((dM d).length:Int)
 ·rw[dT h3]at hp;cases (show(3:Int)=0 from hp)
 have:=mw d
 unfold dP at this
 rw[h1,cF]at this
 omega
theorem EF {d:yA}:∀ {l:List Int},(Wn.ji d l).err=0->∀ x∈l,Wn.eG d x≠0
 | [],_,x,hx=>by simp at hx
 | z :: l, h, x, hx => by
   unfold Wn.ji at h
   cases h1:(Wn.eG d z==0)
   ·rw[h1,cF]at h
    rcases aB.1 hx with rfl|hx
    ·exact aH.1 h1
    ·exact EF h x hx
   ·rw[h1]at h;cases (show(3:Int)=0 from h)
theorem Jn {d:yA}{q:yT}(hz:(df d != 0)=false)(h:(Wn.bS d q).err=0){x:Int}(hx:x∈Wn.gp d q):0<=x/\x<=1000:=by
 unfold Wn.gp at hx
 rw[show((Wn.bS d q).err != 0)=false from ah.2 h,cF]at hx
 have hk:=wk h
 unfold Wn.bS at h
 rw[hz,cF]at h
 cases k2:(decide (q.kind<1)||decide (q.kind>10))
 case true=>rw[k2]at h;cases (show(150:Int)=0 from h)
 rw[k2,cF]at h
 cases k3:(!Wn.dy (Wn.fQ q) (Wn.flS q.kind))
 case true=>rw[k3]at h;cases (show(151:Int)=0 from h)
 rw[k3,cF]at h
 have hk:q.kind=1\/q.kind=2\/q.kind=3\/q.kind=4\/q.kind=5\/q.kind=6\/q.kind=7\/q.kind=8\/q.kind=9\/q.kind=10:=by omega
 have ha:q.kind=4\/q.kind=5\/q.kind=6\/q.kind=7->0<=q.a/\q.a<=1000:=by
  intro hk
  have hf:(Wn.flS q.kind).zU=false/\(Wn.flS q.kind).a=true:=by rcases hk with hk|hk|hk|hk<;>rw[hk]<;>exact⟨rfl,rfl⟩
  rw[hf.1,cF]at h
  unfold Wn.fm at h
  rw[hf.2,cn]at h
  cases h1:(Wn.eG d q.a != Wn.fc q)
  ·apply tS
   have h1:Wn.eG d q.a=Wn.fc q:=ah.1 h1
   rw[h1]
   unfold Wn.fc
   cases (q.kind==7)<;>simp
  ·rw[h1]at h;cases (show(3:Int)=0 from h)
 have hb:q.kind=4->0<=q.b/\q.b<=1000:=by
  intro hk
  have hf:(Wn.flS q.kind).zU=false/\(Wn.flS q.kind).a=true/\(Wn.flS q.kind).b=true:=by rw[hk];exact⟨rfl,rfl,rfl⟩
  rw[hf.1,cF]at h
  unfold Wn.fm at h
  rw[hf.2.1,hf.2.2,cn,cn]at h
  cases h1:(Wn.eG d q.a != Wn.fc q)
  ·rw[h1,cF]at h
   cases h2:(Wn.eG d q.b != Wn.fc q)
   ·apply tS
    have h2:Wn.eG d q.b=Wn.fc q:=ah.1 h2
    rw[h2]
    unfold Wn.fc
    cases (q.kind==7)<;>simp
   ·rw[h2]at h;cases (show(3:Int)=0 from h)
  ·rw[h1]at h;cases (show(3:Int)=0 from h)
 unfold Wn.lw at hx
 rcases hk with hk|hk|hk|hk|hk|hk|hk|hk|hk|hk<;>simp only[hk,Int.reduceBEq,cT,cF,jw,lx]at hx
 ·have hf:(Wn.flS q.kind).zU=true:=by rw[hk];rfl
  rw[hf,cT]at h
  unfold Wn.fZ at h
  cases h1:((q.zU.length:Int)==0)
  case true=>rw[h1]at h;cases (show(1:Int)=0 from h)
  rw[h1,cF]at h
  cases h2:decide ((q.zU.length:Int)>16)
  case true=>rw[h2]at h;cases (show(2:Int)=0 from h)
  rw[h2,cF]at h
  cases h3:decide (Wn.nj q.zU>=0)
  case true=>rw[h3]at h;cases (show(152:Int)=0 from h)
  rw[h3,cF]at h
  exact tS (EF h x (mz.1 hx))
 ·rcases hx with rfl|rfl|hx
  ·exact hb hk
  ·exact ha (.inl hk)
  ·exact Gt hz hx
 ·rcases hx with rfl|hx
  ·exact ha (.inr (.inl hk))
  ·exact qB hz hx
 ·rcases hx with rfl|hx
  ·exact ha (.inr (.inr (.inl hk)))
  ·exact qB hz hx
 ·rcases hx with rfl|hx
  ·exact ha (.inr (.inr (.inr hk)))
  ·exact qB hz hx
theorem vD {o zU:List Int}{w:Int}:(kG o zU w).2=0\/(kG o zU w).2=1/\(kG o zU w).1=0\/(kG o zU w).2=3:=by
 have go:∀ (l:List Int) (k:Nat),(gW o l k).2=0\/(gW o l k).2=1/\(gW o l k).1=0\/(gW o l k).2=3:=by
  intro l
  induction l with
  | nil=>intro k;exact .inl rfl
  | cons z l ih =>
    intro k
    unfold gW
    cases decide (z<0)
    ·cases decide (z>=(o.length:Int))
     ·exact ih (k+1)
     ·exact .inr (.inr rfl)
    ·exact .inr (.inr rfl)
 unfold kG
 cases !xB o
 case true=>exact .inr (.inl ⟨rfl,rfl⟩)
 cases decide (w<1)
 case true=>exact .inr (.inl ⟨rfl,rfl⟩)
 cases decide (w>8)
 case true=>exact .inr (.inl ⟨rfl,rfl⟩)
 cases !Ct zU
 case true=>exact .inr (.inl ⟨rfl,rfl⟩)
 exact go zU 0
theorem BH {o zU:List Int}{w:Int}(hl:o.length<=1000):eJ (kH o zU w).2.2 (kH o zU w).2.1:=by
 unfold kH
 cases h1:((kG o zU w).2 != 0)
 ·simp only[h1,cF]
  have hi:=tr (ah.1 h1)
  have go:∀ (l:List Int) (k:Nat),(∀ x∈l,0<=x/\x<o.length)->eJ (gu o zU w l k).2.2 (gu o zU w l k).2.1:=by
   intro l
   induction l with
   | nil=>intro k _;exact⟨by simp[gu],by simp[gu],.inr (.inr (by simp[gu]))⟩
   | cons z l ih =>
     intro k hl'
     unfold gu
     have hz:=hl' z (by simp)
     have ih:=ih (k+1) λ x hx=>hl' x (by simp[hx])
     cases (o.getD z.toNat (Ty.dflt .int) != 0)
     ·exact ih
     ·cases (o.getD z.toNat (Ty.dflt .int) != w)
      ·exact ih
      ·exact⟨by simp,by simp,.inr (.inr (by simp only[cT];omega))⟩
  exact go zU 0 hi
 ·simp only[h1,cT]
  rcases vD (o:=o) (zU:=zU) (w:=w)with h|⟨h,h'⟩|h
  ·rw[h]at h1;cases h1
  ·rw[h,h'];unfold eJ;omega
  ·rw[h];unfold eJ;omega
theorem CI {o zU:List Int}{w:Int}(hl:o.length<=1000):eJ (jm o zU w).2.2 (jm o zU w).2.1:=by
 unfold jm
 cases h1:((kG o zU w).2 != 0)
 ·simp only[h1,cF]
  have hi:=tr (ah.1 h1)
  have go:∀ (l:List Int) (k:Nat),(∀ x∈l,0<=x/\x<o.length)->eJ (fY o zU w l k).2.2 (fY o zU w l k).2.1:=by
   intro l
   induction l with
   | nil=>intro k _;exact⟨by simp[fY],by simp[fY],.inr (.inr (by simp[fY]))⟩
   | cons z l ih =>
     intro k hl'
     unfold fY
     have hz:=hl' z (by simp)
     have ih:=ih (k+1) λ x hx=>hl' x (by simp[hx])
     cases (o.getD z.toNat (Ty.dflt .int) != w)
     ·exact ih
     ·exact⟨by simp,by simp,.inr (.inr (by simp only[cT];omega))⟩
  exact go zU 0 hi
 ·simp only[h1,cT]
  rcases vD (o:=o) (zU:=zU) (w:=w)with h|⟨h,h'⟩|h
  ·rw[h]at h1;cases h1
  ·rw[h,h'];unfold eJ;omega
  ·rw[h];unfold eJ;omega
theorem qq {e:Int}(h:jW e):eJ e 0:=by unfold jW at h;unfold eJ;omega
theorem pJ (d:yA)(s:yC)(b:Int):jW (iR d s b):=by
 unfold iR jW
 cases (!m94 d s)<;>cases decide (b<1)<;>cases decide (b>d.zO)<;>simp
theorem Ks (d:yA)(s:yC)(b i n:Int):jW (jU d s b i n).2:=by
 have h1:=pJ d s b
 have h2:=Ac (List.getD s.cells i.toNat (Ty.dflt Ty.cell)) n
 unfold jU jW at *
 repeat' (first|omega|(simp only[];omega)|(rw[cr];split))
theorem FH (d:yA)(s:yC)(b i n:Int):jW (jT d s b i n).2:=by
 have h1:=pJ d s b
 have h2:=Bc (List.getD s.cells i.toNat (Ty.dflt Ty.cell)) n
 unfold jT jW at *
 repeat' (first|omega|(simp only[];omega)|(rw[cr];split))
theorem Jo (d:yA)(s:yC)(b i j n:Int):jW (lf d s b i j n).2:=by
 have h1:=pJ d s b
 have h2:=Bc (List.getD s.cells i.toNat (Ty.dflt Ty.cell)) n
 have h3:=Ac (List.getD s.cells j.toNat (Ty.dflt Ty.cell)) n
 unfold lf Cs jW at *
 repeat' (first|omega|(simp only[];omega)|(rw[cr];split))
theorem If (d:yA)(s:yC)(b i:Int):jW (gK d s b i).2:=by
 have h1:=pJ d s b
 unfold gK GZ jW at *
 repeat' (first|omega|(simp only[];omega)|(rw[cr];split))
theorem Kz (d:yA)(s:yC)(b:Int):jW (gJ d s b).2:=by
 have h1:=pJ d s b
 unfold gJ jW at *
 repeat' (first|omega|(simp only[];omega)|(rw[cr];split))
theorem FX (l:Log)(v:Int):jW (iS l v).2:=by
 rw[<-pD]
 unfold tL jW
 repeat' (first|omega|(simp only[];omega)|(rw[cr];split))
theorem Qf {m:yE}{zT:Int}{q:yT}(hr:RightM m):eJ (m38 m zT q).2.err (m38 m zT q).2.id\/(m38 m zT q).2.err=0:=by
 have ho:m.zD.length<=1000:=by rw[hr.len];exact mw _
 have hc:∀ i,eJ 131 0/\eJ 80 0/\eJ 160 0/\(0<=i/\i<=1000->eJ 141 i):=λ i=>by unfold eJ;omega
 unfold m38
 rw[dW.2 hr,ba,cF]
 cases decide (zT<1)
 case true=>exact .inl (hc 0).2.1
 rw[cF]
 cases decide (zT>m.zI.zO)
 case true=>exact .inl (hc 0).2.1
 rw[cF]
 obtain⟨e,i,he,hs⟩:=Bk hr.st.zone q
 cases h4:((Wn.bS m.zI q).err != 0)
 case true=>rw[cT];rw[he];exact .inl hs
 have h4:(Wn.bS m.zI q).err=0:=ah.1 h4
 rw[cF]
 cases h5:(xE m.zD (Wn.gp m.zI q) zT).2
 case true=>exact .inl ((hc _).2.2.2 (Jn hr.st.zone h4 (wh _ 0 h5)))
 rw[cF]
 have hk:=wk h4
 have hk:q.kind=1\/q.kind=2\/q.kind=3\/q.kind=4\/q.kind=5\/q.kind=6\/q.kind=7\/q.kind=8\/q.kind=9\/q.kind=10:=by omega
 rcases hk with hk|hk|hk|hk|hk|hk|hk|hk|hk|hk
 all_goals simp only[hk,Int.reduceBEq,cT,cF]
 ·unfold rY dA uW
  simp only[hk,Int.reduceBEq,cT]
  cases decide (((Zn.cP (m39 m.zD zT) (cV q.zU)).length:Int)>40)
  case true=>exact .inl (hc 0).2.2.1
  cases ((kH m.zD (cV q.zU) zT).2.2 != 0)
  ·exact .inr rfl
  ·exact .inl (BH ho)
 ·unfold rY dA uW
  simp only[hk,Int.reduceBEq,cF]
  cases ((jm m.zD (cV q.zU) zT).2.2 != 0)
  ·exact .inr rfl
  ·exact .inl (CI ho)
 ·exact .inr (by first|rfl|trivial)
 ·unfold nP dA
  simp only[hk,Int.reduceBEq,cT]
  cases decide (m34 m zT<0)
  case true=>exact .inl (hc 0).1
  cases ((lf m.zI m.zE zT q.a q.b (Wn.cy q).1).2 != 0)
  ·exact .inr rfl
  ·exact .inl (qq (Jo _ _ _ _ _ _))
 ·unfold nP dA
  simp only[hk,Int.reduceBEq,cT,cF]
  cases decide (m34 m zT<0)
  case true=>exact .inl (hc 0).1
  cases ((jU m.zI m.zE zT q.a (Wn.cy q).1).2 != 0)
  ·exact .inr rfl
  ·exact .inl (qq (Ks _ _ _ _ _))
 ·unfold nP dA
  simp only[hk,Int.reduceBEq,cF]
  cases decide (m34 m zT<0)
  case true=>exact .inl (hc 0).1
  cases ((jT m.zI m.zE zT q.a (Wn.cy q).1).2 != 0)
  ·exact .inr rfl
  ·exact .inl (qq (FH _ _ _ _ _))
 ·unfold dA
  cases ((gK m.zI m.zE zT q.a).2 != 0)
  ·exact .inr rfl
  ·exact .inl (qq (If _ _ _ _))
 ·unfold dA
  cases ((gJ m.zI m.zE zT).2 != 0)
  ·exact .inr rfl
  ·exact .inl (qq (Kz _ _ _))
 ·exact .inr (by first|rfl|trivial)
 ·unfold dA
  cases ((iS (List.getD m.zE.zL q.a.toNat (Ty.dflt Ty.zW)) q.ver).2 != 0)
  ·exact .inr rfl
  ·exact .inl (qq (FX _ _))
structure SmallR (x:yH):Prop where
 err:eJ x.err x.id
 ver0:0<=x.ver
 ver1:x.ver<4294967296
 len:x.list.length<=32
 list:∀ c∈x.list,0<=c.ver/\c.ver<4294967296/\0<=c.by'/\c.by'<256
theorem li {m:yE}(hr:RightM m)(i:Nat):0<=(List.getD m.zE.cells i (Ty.dflt Ty.cell)).ver/\(List.getD m.zE.cells i (Ty.dflt Ty.cell)).ver<4294967296:=by
 by_cases h:i<m.zE.cells.length
 ·have hc:=qp hr.st.lenC hr.st.lenL hr.st.wells
  have:=fM (hc _ (bu (getD_some (d:=Ty.dflt Ty.cell) h)))
  omega
 ·rw[bi,aw (by omega)]
  exact⟨iy 0,by decide⟩
theorem FV (l:Log)(v:Int):∀ c∈(iS l v).1,c∈l.list:=by
 rw[<-pD]
 unfold tL
 intro c hc
 cases h1 : !gL l
 case true=>rw[h1]at hc;cases hc
 rw[h1,cF]at hc
 cases h2:decide (v<0)
 case true=>rw[h2]at hc;cases hc
 rw[h2,cF]at hc
 cases h3:decide (v>l.last)
 case true=>rw[h3]at hc;cases hc
 rw[h3,cF]at hc
 cases h4:decide (v<kC l)
 ·rw[h4,cF,fS]at hc
  exact List.mem_of_mem_drop hc
 ·rw[h4]at hc;cases hc
theorem FW (l:Log)(v:Int):(iS l v).1.length<=l.list.length:=by
 rw[<-pD]
 unfold tL
 cases !gL l<;>cases decide (v<0)<;>cases decide (v>l.last)<;>cases decide (v<kC l)<;>simp
theorem KB {m:yE}{zT:Int}{q:yT}(hr:RightM m):SmallR (m38 m zT q).2:=by
 have hs:=xZ (zT:=zT) (q:=q) hr
 have hn:=gv (zT:=zT) (q:=q) hr
 have he:=Qf (zT:=zT) (q:=q) hr
 have ha:=sw (m:=m) (zT:=zT) (q:=q)
 generalize (m38 m zT q).1=n at *
 generalize (m38 m zT q).2=x at *
 have hd:=cp hr.st.zone
 have:=hd.wells
 have:=hd.zK
 have:=jE hr.st.zone
 have:=hr.st.lenC
 have:=hr.st.lenT
 have s0:∀ i,-1<=i/\i<=1000->eJ 0 i:=λ i h=>by unfold eJ;omega
 cases hs with
 | refuse e i h0=>exact⟨he.resolve_right h0,by simp,by simp,by simp,by simp⟩
 | reserve hk h=>exact⟨s0 0 (by omega),by simp,by simp,by simp,by simp⟩
 | release hk h=>exact⟨s0 0 (by omega),by simp,by simp,by simp,by simp⟩
 | free hk=>exact⟨s0 0 (by omega),by simp,by simp,by simp,by simp⟩
 | move hk h=>exact⟨s0 0 (by omega),(li hn _).1,(li hn _).2,by simp,by simp⟩
 | fill hk h=>exact⟨s0 0 (by omega),(li hn _).1,(li hn _).2,by simp,by simp⟩
 | waste hk h=>exact⟨s0 0 (by omega),(li hn _).1,(li hn _).2,by simp,by simp⟩
 | take hk h =>
   obtain⟨_,_,_,h1,h2,_,_,ht,e⟩:=wR h
   exact⟨s0 q.a (by omega),by simp,by simp,by simp,by simp⟩
 | drop hk h =>
   obtain⟨_,_,_,k0,hk0,ht,e⟩:=xX h
   have:=(am.1 ht).1
   have h34:m34 m zT=(m.zE.cells.length:Int)+k0:=by rw[qP hr,aF (by omega),hk0]
   exact⟨s0 (m34 m zT) (by omega),by simp,by simp,by simp,by simp⟩
 | ask hk=>exact⟨s0 0 (by omega),(li hr _).1,(li hr _).2,by simp,by simp⟩
 | since hk h =>
   have hl:∃ l,List.getD m.zE.zL q.a.toNat (Ty.dflt Ty.zW)=l/\0<=l.last/\l.last<=2147483647/\l.list.length<=32/\∀ c∈l.list,0<=c.ver/\c.ver<4294967296/\0<=c.by'/\c.by'<256:=by
    refine⟨_,rfl,?_⟩
    by_cases hi:q.a.toNat<m.zE.zL.length
    ·have hlen:=hr.st.lenL
     have w:=hr.st.wells q.a.toNat _ _ _ (ai (by omega)) (ai (by omega)) (getD_some (d:=Ty.dflt Ty.zW) hi)
     obtain⟨l1,l2,l3,l4,l5,l6,l7⟩:=sq.1 w.2.2.1
     have w8:=w.2.2.2.1
     refine⟨l3,l4,by omega,λ c hc=>?_⟩
     obtain⟨k,hk⟩:=dQ.1 hc
     have hkl:=(am.1 hk).1
     obtain⟨v1,v2⟩:=l7 k c hk
     have:=wB.1 v2
     omega
    ·rw[bi,aw (by omega)]
     exact⟨iy 0,by decide,by decide,λ c hc=>by cases hc⟩
   obtain⟨l,e,l1,l2,l3,l4⟩:=hl
   rw[e]
   exact⟨s0 0 (by omega),l1,by simp only[];omega,bj (FW l q.ver) l3,λ c hc=>l4 c (FV l q.ver c hc)⟩
def Sz (a:yE):Prop:=(a.zE.cells.length<=1000/\a.zE.zL.length<=1000/\a.zE.zK.length<=1000)/\(∀ x∈a.zE.zL,x.list.length<=1000000)/\a.zD.length<=1000000/\(a.zI.zA.length<=1000/\a.zI.zB.length<=1000/\a.zI.zC.length<=1000/\∀ p∈a.zI.zB,p.start.length<=1000000)
theorem RightM.sz {m:yE}(h:RightM m):Sz m:=by
 have hd:=cp h.st.zone
 have hc:=jE h.st.zone
 have c1:=h.st.lenC
 have c2:=h.st.lenL
 have c3:=h.st.lenT
 have:=hd.wells
 have:=hd.zK
 have:=hd.lanes
 have:=hd.zB
 have:=hd.zC
 have hk:=h.ok
 exact⟨⟨by omega,by omega,by omega⟩,hk.list,hk.zD,by omega,by omega,by omega,hk.start⟩
theorem Mj:Sz ⟨⟨[],[],[],0⟩,⟨[],[],[],0,0,0⟩,[]⟩:=⟨⟨by simp,by simp,by simp⟩,λ x hx=>(by cases hx),by simp,by simp,by simp,by simp,λ x hx=>(by cases hx)⟩
theorem MM:OkM ⟨⟨[],[],[],0⟩,⟨[],[],[],0,0,0⟩,[]⟩:=⟨by simp,by simp,by simp,by simp,by simp,by simp,by simp,λ x hx=>by(cases hx),λ x hx=>by(cases hx),λ x hx=>by(cases hx),by simp⟩
theorem uh {m:yE}{zT:Int}{q:yT}(h:m32 m=false):m38 m zT q=(⟨⟨[],[],[],0⟩,⟨[],[],[],0,0,0⟩,[]⟩,⟨161,0,0,0,[]⟩):=by
 unfold m38;rw[h];rfl
structure DoP (m:yE) (zT:Int) (q:yT):Prop where
 eq:m37 m zT q=m38 m zT q
 sz:Sz (m37 m zT q).1
 ok:OkM (m37 m zT q).1
 list:(m37 m zT q).2.list.length<=1000000
theorem ya {m:yE}{zT:Int}{q:yT}(hb:OkM m)(ha:cD q.a):DoP m zT q:=by
 have e:=Be (zT:=zT) hb ha
 refine⟨e,?_,?_,?_⟩<;>rw[e]
 ·cases h:m32 m
  ·rw[uh h];exact Mj
  ·exact(gv (dW.1 h)).sz
 ·cases h:m32 m
  ·rw[uh h];exact MM
  ·exact(gv (dW.1 h)).ok
 ·cases h:m32 m
  ·rw[uh h];simp
  ·have:=(KB (zT:=zT) (q:=q) (dW.1 h)).len;omega
open Go Go.VL
theorem sz30 {a b:yE}(h:Sz a):yJ prog 30 [⟨.model,a⟩,⟨.model,b⟩] [.bool] (m30 a b):=c30 _ _ h.1 h.2.1 h.2.2.1 h.2.2.2
def wE (a b:List Int):List Int:=a.filter λ x=>b.elem x
theorem c40' {a b:List Int}(ha:a.length<=100000)(hl:b.length<=100000):yJ prog 40 [⟨.sl .int,a⟩,⟨.sl .int,b⟩] [.sl .int] (wE a b):=Zn.c55 ha hl
theorem Te {d:yA}{r:yT}{o:List Int}{g:Int}(hr:OkR r)(ho:o.length<=1000):yJ prog 24 [⟨.zI,d⟩,⟨.req,r⟩,⟨.sl .int,o⟩,⟨.int,g⟩] [.sl .int] (Wn.ij d r o g):=Wn.c24 hr.v0 hr.v1 hr.zU ho
theorem SS {m:yE}{w:Int}(hb:OkM m):yJ prog 39 [⟨.sl .int,m.zD⟩,⟨.int,w⟩] [.sl .int] (m39 m.zD w):=c39 _ _ hb.zD
set_option maxRecDepth 20000
open Go.Proofs.Zn Go.Proofs.Mn
open Wn (dl bz)
def qJ (m:yE)(q:yT):Bool:=bif (m26 m)then true else decide ((q.zU.length:Int)>100)
theorem ST (m:yE)(q:yT) :yJ prog 35 [⟨.model,m⟩,⟨.req,q⟩] [.bool] (qJ m q):=
 pcl codes sigs func35 (by kernel_rfl) λ A hA=>hA.go (t35b m q) (by
  generalize h:qJ m q=r at hA ⊢
  unfold qJ at h
  refine⟨⟨q12,tv⟩,_,c26 _,?_⟩
  refine aj h (λ g1 h=>?_) (λ g1 h=>?_)
  ·exact⟨q2,h⟩
  ·exact⟨q2,h⟩)
set_option maxRecDepth 20000
open Go.Proofs.Zn Go.Proofs.Mn
open Wn (dl bz)
def m8 (m:yE)(a:Int)(p:yT)(b:Int)(q:yT):Bool:=bif (qJ m p)then true else bif (qJ m q)then true else bif (!(m32 m))then true else bif (a==b)then true else bif decide ((↑(wE (Wn.ij m.zI p (m39 m.zD a) (m34 m a)) (Wn.ij m.zI q (m39 m.zD b) (m34 m b))).length:Int)>0)then true else bif ((m37 m a p).2.err==4)then true else bif ((m37 (m37 m a p).1 b q).2.err==4)then true else bif ((m37 m b q).2.err==4)then true else bif ((m37 (m37 m b q).1 a p).2.err==4)then true else bif true then bif (m30 (m37 (m37 m a p).1 b q).1 (m37 (m37 m b q).1 a p).1)then bif (Dz (m37 m a p).2 (m37 (m37 m b q).1 a p).2)then(Dz (m37 (m37 m a p).1 b q).2 (m37 m b q).2)else false else false else false
theorem c8 (m:yE)(a:Int)(p:yT)(b:Int)(q:yT)(h1:qJ m p=false->OkM m/\OkR p/\OkM (m37 m a p).1/\(m37 m a p).2.list.length<=1000000/\(m39 m.zD a).length<=1000/\(m39 m.zD b).length<=1000/\(Wn.ij m.zI p (m39 m.zD a) (m34 m a)).length<=100000)(h2:qJ m q=false->OkR q/\OkM (m37 m b q).1/\(m37 (m37 m a p).1 b q).2.list.length<=1000000/\Sz (m37 (m37 m a p).1 b q).1/\(Wn.ij m.zI q (m39 m.zD b) (m34 m b)).length<=100000):yJ prog 8 [⟨.model,m⟩,⟨.int,a⟩,⟨.req,p⟩,⟨.int,b⟩,⟨.req,q⟩] [.bool] (m8 m a p b q):=
 pcl codes sigs func8 (by kernel_rfl) λ A hA=>hA.go (t8 m a p b q) (by
  generalize h:m8 m a p b q=r at hA ⊢
  unfold m8 at h
  refine⟨⟨q12,q7,tv⟩,_,ST _ _,?_⟩
  refine aj h (λ g1 h=>?_) (λ g1 h=>?_)
  ·exact⟨tv,_,vd,q2,h⟩
  ·refine⟨⟨q12,q7,tv⟩,_,ST _ _,?_⟩
   refine aj h (λ g2 h=>?_) (λ g2 h=>?_)
   ·exact⟨tv,_,vd,q2,h⟩
   ·refine⟨⟨q12,tv⟩,_,c32 _ (by first|exact(h1 (by assumption)).1|exact(h1 (by assumption)).2.2.1|exact(h2 (by assumption)).2.1),?_⟩
    refine aj h (λ g3 h=>?_) (λ g3 h=>?_)
    ·exact⟨tv,_,vd,q2,h⟩
    ·refine aj h (λ g4 h=>?_) (λ g4 h=>?_)
     ·try replace g4:=bo g4
      exact⟨tv,_,vd,q2,h⟩
     ·refine⟨⟨q2,q2,tv⟩,_,SS (by first|exact(h1 (by assumption)).1|exact(h1 (by assumption)).2.2.1|exact(h2 (by assumption)).2.1),⟨q12,q2,tv⟩,_,c34 _ _ (by first|exact(h1 (by assumption)).1|exact(h1 (by assumption)).2.2.1|exact(h2 (by assumption)).2.1),⟨q5,q7,q2,q2,tv⟩,_,Te (by first|exact(h1 (by assumption)).2.1|exact(h2 (by assumption)).1) (by first|exact(h1 (by assumption)).2.2.2.2.1|exact(h1 (by assumption)).2.2.2.2.2.1),⟨q2,q2,tv⟩,_,SS (by first|exact(h1 (by assumption)).1|exact(h1 (by assumption)).2.2.1|exact(h2 (by assumption)).2.1),⟨q12,q2,tv⟩,_,c34 _ _ (by first|exact(h1 (by assumption)).1|exact(h1 (by assumption)).2.2.1|exact(h2 (by assumption)).2.1),⟨q5,q7,q2,q2,tv⟩,_,Te (by first|exact(h1 (by assumption)).2.1|exact(h2 (by assumption)).1) (by first|exact(h1 (by assumption)).2.2.2.2.1|exact(h1 (by assumption)).2.2.2.2.2.1),⟨q2,q2,tv⟩,_,c40' (h1 (by assumption)).2.2.2.2.2.2 (h2 (by assumption)).2.2.2.2,?_⟩
      refine aj h (λ g5 h=>?_) (λ g5 h=>?_)
      ·have g5:=oT g5
       exact⟨tv,_,vd,q2,h⟩
      ·have g5:=oF g5
       refine⟨⟨q12,q2,q7,tv⟩,_,c37 _ _ _ (by first|exact(h1 (by assumption)).1|exact(h1 (by assumption)).2.2.1|exact(h2 (by assumption)).2.1) (by first|exact(h1 (by assumption)).2.1|exact(h2 (by assumption)).1),⟨q12,q2,q7,tv⟩,_,c37 _ _ _ (by first|exact(h1 (by assumption)).1|exact(h1 (by assumption)).2.2.1|exact(h2 (by assumption)).2.1) (by first|exact(h1 (by assumption)).2.1|exact(h2 (by assumption)).1),⟨q12,q2,q7,tv⟩,_,c37 _ _ _ (by first|exact(h1 (by assumption)).1|exact(h1 (by assumption)).2.2.1|exact(h2 (by assumption)).2.1) (by first|exact(h1 (by assumption)).2.1|exact(h2 (by assumption)).1),⟨q12,q2,q7,tv⟩,_,c37 _ _ _ (by first|exact(h1 (by assumption)).1|exact(h1 (by assumption)).2.2.1|exact(h2 (by assumption)).2.1) (by first|exact(h1 (by assumption)).2.1|exact(h2 (by assumption)).1),?_⟩
       refine aj h (λ g6 h=>?_) (λ g6 h=>?_)
       ·try replace g6:=bo g6
        exact⟨tv,_,vd,q2,h⟩
       ·refine aj h (λ g7 h=>?_) (λ g7 h=>?_)
        ·try replace g7:=bo g7
         exact⟨tv,_,vd,q2,h⟩
        ·refine aj h (λ g8 h=>?_) (λ g8 h=>?_)
         ·try replace g8:=bo g8
          exact⟨tv,_,vd,q2,h⟩
         ·refine aj h (λ g9 h=>?_) (λ g9 h=>?_)
          ·try replace g9:=bo g9
           exact⟨tv,_,vd,q2,h⟩
          ·refine⟨tv,_,vd,?_⟩
           refine aj h (λ g10 h=>?_) (λ g10 h=>?_)
           ·refine⟨⟨q12,q12,tv⟩,_,sz30 (h2 (by assumption)).2.2.2.1,?_⟩
            refine aj h (λ g11 h=>?_) (λ g11 h=>?_)
            ·refine⟨⟨q6,q6,tv⟩,_,Tj (by first|exact(h1 (by assumption)).2.2.2.1|exact(h2 (by assumption)).2.2.1),?_⟩
             refine aj h (λ g12 h=>?_) (λ g12 h=>?_)
             ·exact⟨⟨q6,q6,tv⟩,_,Tj (by first|exact(h1 (by assumption)).2.2.2.1|exact(h2 (by assumption)).2.2.1),q2,h⟩
             ·exact⟨q2,h⟩
            ·exact⟨q2,h⟩
           ·exact⟨q2,h⟩)
theorem OC {m:yE}(h:wfT .model m):kS (m.zE.cells.map Cell.zS):=by
 have h:=h (.sl .cell m.zE.cells) (by simp[enc])
 intro x hx
 obtain⟨c,hc,rfl⟩:=aZ.1 hx
 cases h with
 | sl _ _ _ hh =>
   have h2:=hh c hc (.v (.int .i64 c.zS)) (by simp[enc,D.i])
   cases h2 with
   | int _ _ hh =>
     have hh:(decide ((-9223372036854775808:Int)<=c.zS)&&decide (c.zS<=9223372036854775807))=true:=hh
     simp only[aO,bC]at hh
     unfold cD;omega
end Go.Proofs.Mo
namespace Go.Proofs.Wn
open Go.Proofs.Tryz
open Go Go.VL
theorem HN {r:yT}(h:wfT .req r):0<=r.zS/\r.zS<18446744073709551616:=by
 have h:=h (.v (.int .u64 r.zS)) (by simp[enc])
 cases h with
 | int _ _ hh =>
   have hh:(decide ((0:Int)<=r.zS)&&decide (r.zS<=18446744073709551615))=true:=hh
   simp only[aO,bC]at hh
   omega
end Go.Proofs.Wn
namespace Go.Proofs.Mo
open Go.Proofs.Tryz
open Go Go.VL Go.Proofs.Zn Go.Proofs.Mn
theorem vt (x:yH):Dz x x=true:=dT rfl
theorem MT {m:yE}{a b:Int}{p q:yT}(h1:qJ m p=false->OkM m/\cD p.a)(h2:qJ m q=false->cD q.a):m8 m a p b q=true:=by
 unfold m8
 cases hp:qJ m p
 case true=>rfl
 cases hq:qJ m q
 case true=>rfl
 obtain⟨ho,fp⟩:=h1 hp
 have fq:=h2 hq
 simp only[cF]
 cases hr:m32 m
 case false=>rfl
 have hR:=dW.1 hr
 have ra:=gv (zT:=a) (q:=p) hR
 have rb:=gv (zT:=b) (q:=q) hR
 have ea:=Be (zT:=a) hR.ok fp
 have eb:=Be (zT:=b) hR.ok fq
 have eab:=Be (zT:=b) ra.ok fq
 have eba:=Be (zT:=a) rb.ok fp
 simp only[ba,cF,ea,eb,eab,eba]
 cases hab:a==b
 case true=>rfl
 have hab:a≠b:=aH.1 hab
 rw[cF]
 by_cases hL:(((wE (Wn.ij m.zI p (m39 m.zD a) (m34 m a)) (Wn.ij m.zI q (m39 m.zD b) (m34 m b))).length:Int)>0)
 ·rw[dT hL];rfl
 rw[dF hL,cF]
 have hST:∀ x,x∈da m a p->x ∉ da m b q:=by
  intro x hx hx'
  have hm:x∈wE (da m a p) (da m b q):=fT.2 ⟨hx,by simpa using hx'⟩
  have hpos:=List.length_pos_of_mem hm
  have:(wE (da m a p) (da m b q)).length=(wE (Wn.ij m.zI p (m39 m.zD a) (m34 m a)) (Wn.ij m.zI q (m39 m.zD b) (m34 m b))).length:=rfl
  omega
 cases k1:((m38 m a p).2.err==4)
 case true=>rfl
 cases k2:((m38 (m38 m a p).1 b q).2.err==4)
 case true=>rfl
 cases k3:((m38 m b q).2.err==4)
 case true=>rfl
 cases k4:((m38 (m38 m b q).1 a p).2.err==4)
 case true=>rfl
 obtain⟨z1,z2,z3⟩:=apart hR hab hST (aH.1 k1) (aH.1 k2) (aH.1 k3) (aH.1 k4)
 rw[z1,r30,<-z2,z3,vt,vt]
 rfl
theorem FG {q:yT}(h:wfT .req q):cD q.a:=by
 have h:=h (.v (.int .i64 q.a)) (by simp[enc,D.i])
 cases h with
 | int _ _ hh =>
   have hh:(decide ((-9223372036854775808:Int)<=q.a)&&decide (q.a<=9223372036854775807))=true:=hh
   simp only[aO,bC]at hh
   unfold cD;omega
theorem HO {q:yT}(h:wfT .req q)(hl:q.zU.length<=100):OkR q:=⟨(Wn.HN h).1,(Wn.HN h).2,by omega⟩
theorem qz {m:yE}{q:yT}(h:qJ m q=false):m26 m=false/\q.zU.length<=100:=by
 unfold qJ at h
 obtain⟨h1,h2⟩:=mi h
 have:=oF h2
 exact⟨h1,by omega⟩
theorem DG {m:yE}(h:m26 m=false)(w:Int):(m39 m.zD w).length<=1000:=by
 unfold m26 at h
 obtain⟨_,h⟩:=mi h
 obtain⟨_,h⟩:=mi h
 have:=oF h
 exact bj Ji (by omega)
theorem wb {d:yA}{q:yT}{o:List Int}{g:Int}(hq:q.zU.length<=100)(ho:o.length<=1000):(Wn.ij d q o g).length<=100000:=by
 have h1:(cV q.zU).length<=q.zU.length:=Iv
 have h2:(cV o).length<=o.length:=Iv
 have h3:=@Wn.SG d q (by omega)
 unfold Wn.gp at h3
 unfold Wn.ij
 cases h:((Wn.bS d q).err != 0)
 ·rw[h,cF]at h3
  rw[cF]
  cases (q.kind==1)<;>cases (q.kind==3)<;>cases (q.kind==8)<;>cases (decide (g<0))<;>cases (q.kind==9)<;>cases (q.kind==10)<;>simp only[cT,cF,ak,iX]<;>omega
 ·simp
theorem law8 (m:yE)(a:Int)(p:yT)(b:Int)(q:yT)(hm:wfT .model m)(_:wfT .int a)(hp:wfT .req p)(_:wfT .int b)(hq:wfT .req q):yJ prog 8 [⟨.model,m⟩,⟨.int,a⟩,⟨.req,p⟩,⟨.int,b⟩,⟨.req,q⟩] [.bool] true:=by
 have hok:m26 m=false->OkM m:=ok26 (OC hm)
 have c:=c8 m a p b q
  (λ hl=>by
   have d1:=ya (zT:=a) (hok (qz hl).1) (FG hp)
   exact⟨hok (qz hl).1,HO hp (qz hl).2,d1.ok,d1.list,DG (qz hl).1 a,DG (qz hl).1 b,wb (qz hl).2 (DG (qz hl).1 a)⟩)
  (λ hl=>by
   have d1:=ya (zT:=a) (hok (qz hl).1) (FG hp)
   have d2:=ya (zT:=b) (hok (qz hl).1) (FG hq)
   have d3:=ya (zT:=b) d1.ok (FG hq)
   exact⟨HO hq (qz hl).2,d2.ok,d3.list,d3.sz,wb (qz hl).2 (DG (qz hl).1 b)⟩)
 rwa [MT (λ hl=>⟨hok (qz hl).1,FG hp⟩) (λ _=>FG hq)]at c
end Go.Proofs.Mo
namespace Go.Proofs.Wn
open Go.Proofs.Tryz
open Go Go.VL Go.Proofs.YteaiflgcgpaclaaGreatDoor
set_option linter.unusedVariables false
set_option linter.unusedSimpArgs false
theorem SN : prog.globalNamed "math/bits.deBruijn64tab" = some 1 := by kernel_rfl
theorem tTab:∃ t,(prog.globals[1]?).map (·.type)=some t/\prog.underlying t=some (.array 64 5)/\prog.cellsOf t=64:=
 ⟨((prog.globals[1]?).map (·.type)).getD 0,by kernel_rfl,by kernel_rfl,by kernel_rfl⟩
theorem uU8:prog.underlying 5=some (.int .u8):=by kernel_rfl
theorem cU8:prog.cellsOf 5=1:=by kernel_rfl
theorem Kb:(Rows.laid_math_bits_deBruijn64tab:DataW Unit)=.agg (sE.map λ n:Nat=>DataW.lit (.int .u8 (n:Int))):=by rfl
theorem Ic {α:Type}{l:List α}{i:Nat}{a:α}(h:(l.drop i).take 1=[a]):l[i]?=some a:=by
 have:((l.drop i).take 1)[0]?=some a:=by rw[h];rfl
 simpa using this
theorem gok_laid {W : World} (h : laidMetH prog [("math/bits.deBruijn64tab", Rows.laid_math_bits_deBruijn64tab)] W) : GOk W (fun b => b < W.heap.size) := by
 rw [MakeChecks.laidMetH_plain _ _ _ (by kernel_rfl)] at h
 obtain ⟨ps, ⟨g, t, cs, fuel, p, q, hg, ht, hv, hd, _, hps⟩, _, hfr⟩ := h
 obtain rfl := aJ (SN.symm.trans hg)
 obtain ⟨t', ht', hu, hc⟩ := tTab
 obtain rfl := aJ (ht'.symm.trans ht)
 obtain ⟨xs, m, _, hx, hlen, hn, hel⟩ := DataW.trod_array hu hd
 rw [hc] at hlen
 rw [Kb] at hx
 simp only [bB, DataW.agg.injEq] at hx
 have hxs := hx.1
 have key : ∀ i, i < 64 → cs.toList[i]? = (sE.map fun n : Nat => Value.int .u8 (n : Int))[i]? := by
  intro i hi
  have h1 := hel i hi
  rw [cU8, iu] at h1
  have hix : i < xs.length := by omega
  have hxi : xs[i]? = some xs[i] := by simp [hix]
  rw [hxi] at h1
  obtain ⟨k, e1, e2, _⟩ := DataW.trod_int uU8 h1
  have e3 := Ic e1
  have e4 : (xs.map (·.1))[i]? = (sE.map fun n : Nat => (DataW.lit (.int .u8 (n : Int)) : DataW Unit))[i]? := by rw [hxs]
  rw [aQ, aQ, hxi] at e4
  rw [aQ, e3]
  cases hz : sE[i]? with
  | none => rw [hz] at e4; simp at e4
  | some n =>
    rw [hz, e2] at e4
    simp only [bt, ag, DataW.lit.injEq, Lit.int.injEq, true_and] at e4
    rw [e4]; rfl
 have hcs : cs = (sE.map fun n : Nat => Value.int .u8 (n : Int)).toArray := by
  apply Array.toList_inj.1
  apply dE
  intro i
  by_cases hi : i < 64
  ·exact key i hi
  ·rw [aw (by omega), aw (by show 64 ≤ i; omega)]
 intro p' hp'
 have hp' : p' = (1, (sE.map fun n : Nat => Value.int .u8 (n : Int)).toArray) := by simpa [glb] using hp'
 subst hp'
 have hsz : cs.size = 64 := by rw [← bl]; exact hlen
 obtain ⟨⟨c, T, hT⟩, _⟩ := hfr 1 0 (by
  rw [hps, hsz]
  exact az.2 (.inl (az.2 (.inl (by simp [MemPlace.row])))))
 have hcc : c = cs := by
  unfold World.var? at hv
  rw [SN] at hv
  simp only [aA, hT, ag] at hv
  exact hv
 subst hcc
 refine ⟨?_, T, ?_⟩
 ·exact (ct.1 hT).1
 ·rw [← hcs]; exact hT
end Go.Proofs.Wn
