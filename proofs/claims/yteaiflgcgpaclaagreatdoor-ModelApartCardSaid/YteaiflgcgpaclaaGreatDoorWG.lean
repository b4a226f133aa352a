/- Own work: part WG of the proof. -/
import Derived.Test.YteaiflgcgpaclaaGreatDoorWE
import Derived.Test.YteaiflgcgpaclaaGreatDoorWF
set_option linter.unusedVariables false
set_option linter.unusedSimpArgs false
namespace Go.Proofs.Zn
open Go.Proofs.Tryz
open Go Go.VL
abbrev jP (l:List Int):Prop:=l.Pairwise (· < ·)
theorem ky:∀ {l m:List Int},jP l->jP m->(∀ n,n∈l↔n∈m)->l=m
 | [],[],_,_,_=>rfl
 | [],b::m,_,_,h=>absurd ((h b).2 (by simp)) (by simp)
 | a::l,[],_,_,h=>absurd ((h a).1 (by simp)) (by simp)
 | a :: l, b :: m, hl, hm, h => by
   obtain⟨h1,h2⟩:=aR.1 hl
   obtain⟨g1,g2⟩:=aR.1 hm
   have hab:a=b:=by
    rcases aB.1 ((h a).1 (by simp))with e|e
    ·exact e
    ·rcases aB.1 ((h b).2 (by simp))with e'|e'
     ·exact e'.symm
     ·have:=g1 a e;have:=h1 b e';omega
   subst hab
   rw[ky h2 g2 λ n=>⟨λ hn=>?_,λ hn=>?_⟩]
   ·have:=h1 n hn
    rcases aB.1 ((h n).1 (by simp[hn]))with e|e
    ·omega
    ·exact e
   ·have:=g1 n hn
    rcases aB.1 ((h n).2 (by simp[hn]))with e|e
    ·omega
    ·exact e
def fJ:List Int->Int->List Int
 | [],n=>[n]
 | x::l,n=>bif decide (x<n)then x::fJ l n else bif x==n then x::l else n::x::l
theorem lx {m n:Int}:∀ {l:List Int},m∈fJ l n↔m=n\/m∈l
 | []=>by simp[fJ]
 | x :: l => by
   unfold fJ
   by_cases h1:x<n
   ·rw[dT h1,cT,aB,lx (l:=l),aB]
    constructor
    ·rintro(h|h|h)
     ·exact .inr (.inl h)
     ·exact .inl h
     ·exact .inr (.inr h)
    ·rintro(h|h|h)
     ·exact .inr (.inl h)
     ·exact .inl h
     ·exact .inr (.inr h)
   ·rw[dF h1,cF]
    cases h2:x==n
    ·rw[cF];simp
    ·rw[cT]
     have:x=n:=by simpa using h2
     subst this
     simp
theorem nu {n:Int}:∀ {l:List Int},jP l->jP (fJ l n)
 | [],_=>by simp[fJ]
 | x :: l, h => by
   obtain⟨h1,h2⟩:=aR.1 h
   unfold fJ
   by_cases h3:x<n
   ·rw[dT h3,cT]
    refine aR.2 ⟨λ y hy=>?_,nu h2⟩
    rcases lx.1 hy with e|e
    ·omega
    ·exact h1 y e
   ·rw[dF h3,cF]
    cases h4:x==n
    ·rw[cF]
     have h4:¬ x=n:=by simpa using h4
     refine aR.2 ⟨λ y hy=>?_,h⟩
     rcases aB.1 hy with e|e
     ·omega
     ·have:=h1 y e;omega
    ·rw[cT];exact h
theorem lq {n:Int}:∀ {l:List Int},(fJ l n).length<=l.length+1
 | []=>by simp[fJ]
 | x :: l => by
   unfold fJ
   cases decide (x<n)
   ·cases x==n<;>simp
   ·have:=lq (n:=n) (l:=l)
    simp only[cT,af];omega
def lZ (l:List Int)(n:Int):Nat:=(l.takeWhile λ x=>decide (x<n)).length
theorem xk:∀ {l:List Int} {n:Int} {k:Nat} (hk:k<l.length),(∀ j (h:j<l.length),j<k->l[j]<n)->¬ l[k]<n->lZ l n=k
 | [],_,_,hk,_,_=>by simp at hk
 | x :: l, n, 0, _, _, h => by
   have h:¬ x<n:=h
   simp[lZ,dH,h]
 | x :: l, n, k + 1, hk, h1, h2 => by
   have hx:x<n:=h1 0 (by simp) (by omega)
   have:=xk (l:=l) (n:=n) (k:=k) (by simpa using hk) (λ j hj hjk=>h1 (j+1) (by simp;omega) (by omega)) h2
   simp only[lZ,dH,dT hx,mU,af]at this ⊢
   omega
theorem BZ:∀ (l:List Int) (n:Int),fJ l n=bif Nat.blt (lZ l n) l.length&&(l.getD (lZ l n) 0==n)then l else l.take (lZ l n)++n::l.drop (lZ l n)
 | [],n=>rfl
 | x :: l, n => by
   unfold fJ
   have ih:=BZ l n
   by_cases h1:x<n
   ·have e:lZ (x::l) n=lZ l n+1:=by simp[lZ,dH,h1]
    rw[dT h1,cT,e,ih]
    have e2:Nat.blt (lZ l n+1) (x::l).length=Nat.blt (lZ l n) l.length:=by
     simp only[Nat.blt,af];rfl
    have e3:(x::l).getD (lZ l n+1) 0=l.getD (lZ l n) 0:=by simp
    rw[e2,e3]
    cases Nat.blt (lZ l n) l.length&&(l.getD (lZ l n) 0==n)<;>simp
   ·have e:lZ (x::l) n=0:=by simp[lZ,dH,h1]
    rw[dF h1,cF,e]
    have e2:Nat.blt 0 (x::l).length=true:=by rfl
    have e3:(x::l).getD 0 0=x:=rfl
    rw[e2,e3,cn]
    cases x==n<;>simp
def cP (a b:List Int):List Int:=b.foldl fJ a
theorem jj {n:Int}:∀ {b a:List Int},n∈cP a b↔n∈a\/n∈b
 | [],a=>by simp[cP]
 | x :: b, a => by
   have:=jj (n:=n) (b:=b) (a:=fJ a x)
   unfold cP at this ⊢
   rw[hX,this,lx,aB]
   constructor
   ·rintro((h|h)|h)
    ·exact .inr (.inl h)
    ·exact .inl h
    ·exact .inr (.inr h)
   ·rintro(h|h|h)
    ·exact .inl (.inr h)
    ·exact .inl (.inl h)
    ·exact .inr h
theorem iq:∀ {b a:List Int},jP a->jP (cP a b)
 | [],_,h=>h
 | x::b,a,h=>iq (b:=b) (a:=fJ a x) (nu h)
theorem jo:∀ {b a:List Int},(cP a b).length<=a.length+b.length
 | [],_=>by simp[cP]
 | x :: b, a => by
   have h1:=jo (b:=b) (a:=fJ a x)
   have h2:=lq (n:=x) (l:=a)
   unfold cP at h1 ⊢
   rw[hX,af];omega
abbrev cV (l:List Int):List Int:=cP [] l
theorem kx (l:List Int):jP (cV l):=iq .nil
theorem mz {n:Int}{l:List Int}:n∈cV l↔n∈l:=by
 rw[jj];simp
def tk (w:Bool)(x:Int)(l:List Int):List Int:=bif w then x::l else l
theorem tl {w:Bool}{x n:Int}{l:List Int}:n∈tk w x l↔(w=true/\n=x)\/n∈l:=by
 cases w<;>simp[tk]
def cX (f s t:Bool):List Int->List Int->List Int
 | [],[]=>[]
 | x::a,[]=>tk f x (cX f s t a [])
 | [],y::b=>tk s y (cX f s t [] b)
 | x::a,y::b=>if x<y then tk f x (cX f s t a (y::b))else if y<x then tk s y (cX f s t (x::a) b)else tk t x (cX f s t a b)
termination_by a b=>a.length+b.length
theorem jq (f s t:Bool):∀ (a b:List Int),jP a->jP b ->
  (∀ n,n∈cX f s t a b↔(f=true/\n∈a/\n ∉ b)\/(s=true/\n ∉ a/\n∈b)\/(t=true/\n∈a/\n∈b))/\jP (cX f s t a b)
 | [],[],_,_=>by rw[cX];simp
 | x :: a, [], ha, hb => by
   obtain⟨h1,h2⟩:=aR.1 ha
   obtain⟨i1,i2⟩:=jq f s t a [] h2 hb
   rw[cX]
   refine⟨λ n=>?_,?_⟩
   ·rw[tl,i1];simp only[aB]
    cases f<;>simp
   ·cases f
    ·exact i2
    ·refine aR.2 ⟨λ y hy=>?_,i2⟩
     have:=(i1 y).1 hy
     simp at this
     exact h1 y this
 | [], y :: b, ha, hb => by
   obtain⟨h1,h2⟩:=aR.1 hb
   obtain⟨i1,i2⟩:=jq f s t [] b ha h2
   rw[cX]
   refine⟨λ n=>?_,?_⟩
   ·rw[tl,i1];simp only[aB]
    cases s<;>simp
   ·cases s
    ·exact i2
    ·refine aR.2 ⟨λ z hz=>?_,i2⟩
     have:=(i1 z).1 hz
     simp at this
     exact h1 z this
 | x :: a, y :: b, ha, hb => by
   obtain⟨h1,h2⟩:=aR.1 ha
   obtain⟨g1,g2⟩:=aR.1 hb
   rw[cX]
   by_cases c1:x<y
   ·rw[aE c1]
    obtain⟨i1,i2⟩:=jq f s t a (y::b) h2 hb
    have hx:∀ n,n∈y::b->n≠x:=λ n hn e=>by
     subst e
     rcases aB.1 hn with e|e
     ·omega
     ·have:=g1 n e;omega
    have hxa:x ∉ a:=λ e=>by have:=h1 x e;omega
    refine⟨λ n=>?_,?_⟩
    ·rw[tl,i1]
     by_cases hn:n=x
     ·subst hn
      have hny:n ∉ y::b:=λ e=>hx n e rfl
      simp only[hny,hxa,aB,true_or,lA,ob,and_false,ml]
      try simp
     ·have e:n∈x::a↔n∈a:=by simp[hn]
      rw[e];simp[hn]
    ·cases f
     ·exact i2
     ·refine aR.2 ⟨λ z hz=>?_,i2⟩
      have hz:=(i1 z).1 hz
      have:z∈a\/z∈y::b:=by
       rcases hz with⟨_,h,_⟩|⟨_,_,h⟩|⟨_,h,_⟩
       ·exact .inl h
       ·exact .inr h
       ·exact .inl h
      rcases this with h|h
      ·exact h1 z h
      ·rcases aB.1 h with e|e
       ·omega
       ·have:=g1 z e;omega
   ·rw[aF c1]
    by_cases c2:y<x
    ·rw[aE c2]
     obtain⟨i1,i2⟩:=jq f s t (x::a) b ha g2
     have hy:∀ n,n∈x::a->n≠y:=λ n hn e=>by
      subst e
      rcases aB.1 hn with e|e
      ·omega
      ·have:=h1 n e;omega
     have hyb:y ∉ b:=λ e=>by have:=g1 y e;omega
     refine⟨λ n=>?_,?_⟩
     ·rw[tl,i1]
      by_cases hn:n=y
      ·subst hn
       have hny:n ∉ x::a:=λ e=>hy n e rfl
       simp only[hny,hyb,aB,true_or,lA,ob,and_false,ml]
       try simp
      ·have e:n∈y::b↔n∈b:=by simp[hn]
       rw[e];simp[hn]
     ·cases s
      ·exact i2
      ·refine aR.2 ⟨λ z hz=>?_,i2⟩
       have hz:=(i1 z).1 hz
       have:z∈x::a\/z∈b:=by
        rcases hz with⟨_,h,_⟩|⟨_,_,h⟩|⟨_,h,_⟩
        ·exact .inl h
        ·exact .inr h
        ·exact .inl h
       rcases this with h|h
       ·rcases aB.1 h with e|e
        ·omega
        ·have:=h1 z e;omega
       ·exact g1 z h
    ·rw[aF c2]
     have hxy:x=y:=by omega
     subst hxy
     obtain⟨i1,i2⟩:=jq f s t a b h2 g2
     have hxa:x ∉ a:=λ e=>by have:=h1 x e;omega
     have hxb:x ∉ b:=λ e=>by have:=g1 x e;omega
     refine⟨λ n=>?_,?_⟩
     ·rw[tl,i1]
      by_cases hn:n=x
      ·subst hn
       simp only[hxa,hxb,aB,true_or,iL,ob,and_false,ml,false_or]
       try simp
      ·have e:n∈x::a↔n∈a:=by simp[hn]
       have e':n∈x::b↔n∈b:=by simp[hn]
       rw[e,e'];simp[hn]
     ·cases t
      ·exact i2
      ·refine aR.2 ⟨λ z hz=>?_,i2⟩
       have hz:=(i1 z).1 hz
       rcases hz with⟨_,h,_⟩|⟨_,_,h⟩|⟨_,h,_⟩
       ·exact h1 z h
       ·exact g1 z h
       ·exact h1 z h
termination_by a b=>a.length+b.length
theorem kj {a b:List Int}(ha:jP a)(hb:jP b):cX true true true a b=cP a b:=by
 obtain⟨h1,h2⟩:=jq true true true a b ha hb
 refine ky h2 (iq ha) λ n=>?_
 rw[h1,jj]
 by_cases c1:n∈a<;>by_cases c2:n∈b<;>simp[c1,c2]
theorem Ml (l m:List Int):cV (l++m)=cP (cV l) (cV m):=by
 refine ky (kx _) (iq (kx _)) λ n=>?_
 rw[mz,jj,mz,mz,az]
def dv (d:yA)(s:yG):List Int:=(List.range (s.hi-s.lo+1).toNat).map λ k:Nat=>br (aM d)+br (aU d)+(s.lo+(k:Int))
theorem vB {d:yA}{s:yG}{n:Int}:n∈dv d s↔s.lo<=n-(br (aM d)+br (aU d))/\n-(br (aM d)+br (aU d))<=s.hi:=by
 unfold dv
 rw[aZ]
 constructor
 ·rintro⟨k,hk,rfl⟩
  have:=cI.1 hk
  omega
 ·rintro⟨h1,h2⟩
  refine⟨(n-(br (aM d)+br (aU d))-s.lo).toNat,cI.2 (by omega),by omega⟩
theorem tQ (d:yA)(s:yG):jP (dv d s):=by
 unfold dv
 rw[jP,List.pairwise_map]
 exact List.pairwise_lt_range.imp λ h=>by omega
def ic (d:yA)(l:List yG):List Int:=l.foldl (λ out s=>cP out (dv d s)) []
theorem tj (d:yA):∀ (l:List yG) (out:List Int),jP out->jP (l.foldl (λ out s=>cP out (dv d s)) out) /\
  ∀ n,n∈l.foldl (λ out s=>cP out (dv d s)) out↔n∈out\/∃ s∈l,n∈dv d s
 | [],out,h=>⟨h,λ n=>by simp⟩
 | s :: l, out, h => by
   obtain⟨h1,h2⟩:=tj d l (cP out (dv d s)) (iq h)
   refine⟨h1,λ n=>?_⟩
   rw[hX,h2,jj]
   constructor
   ·rintro((h|h)|⟨t,ht,h⟩)
    ·exact .inl h
    ·exact .inr ⟨s,by simp,h⟩
    ·exact .inr ⟨t,by simp[ht],h⟩
   ·rintro(h|⟨t,ht,h⟩)
    ·exact .inl (.inl h)
    ·rcases aB.1 ht with e|e
     ·subst e;exact .inl (.inr h)
     ·exact .inr ⟨t,e,h⟩
theorem pa (d:yA)(l:List yG):jP (ic d l):=(tj d l [] .nil).1
theorem qD {d:yA}{l:List yG}{n:Int}:n∈ic d l↔∃ s∈l,n∈dv d s:=by
 have:=(tj d l [] .nil).2 n
 unfold ic;rw[this];simp
theorem GF {d:yA}{l m:List yG}(h:∀ n:Int,(∃ s∈m,s.lo<=n/\n<=s.hi)↔∃ s∈l,s.lo<=n/\n<=s.hi):cV (m.flatMap (dv d))=ic d l:=by
 refine ky (kx _) (pa _ _) λ n=>?_
 rw[mz,qD,jz]
 simp only[vB]
 exact h _
def eD:List (yG×Int)->Int
 | []=>0
 | p::l=>bif p.2 != 0 then p.2 else eD l
theorem nZ:∀ (l m:List (yG×Int)),eD (l++m)=bif eD l != 0 then eD l else eD m
 | [],m=>rfl
 | p :: l, m => by
   simp only[jA,eD,nZ l m]
   cases h:p.2 != 0
   ·rfl
   ·simp[h]
theorem wx:∀ {l:List (yG×Int)},eD l=0->∀ p∈l,p.2=0
 | [],_,_,h=>by cases h
 | q :: l, h, p, hp => by
   simp only[eD]at h
   cases hq:q.2 != 0
   ·rw[hq,cF]at h
    rcases aB.1 hp with e|e
    ·subst e;simpa using hq
    ·exact wx h p e
   ·rw[hq,cT]at h
    rw[h]at hq;cases hq
theorem AZ {L:List (yG×Int)}:∀ n:Nat,eD (List.replicate (n+1) L).flatten=eD L
 | 0=>by simp[List.replicate]
 | n + 1 => by
   rw[dI,iO,nZ,AZ n]
   cases h:eD L != 0<;>rfl
def iz (L:List (yG×Int)):List yG×Int:=bif eD L != 0 then([],eD L)else(L.map Prod.fst,0)
abbrev cz (d:yA)(l:List Part):List (yG×Int):=l.map (jp d)
def cA (k u:Int)(n:Nat):List Part:=(List.range n).map λ c:Nat=>⟨k,u,0,(c:Int)⟩
theorem vv {α:Type}(C:Nat)(f:Nat->α):∀ R:Nat,(List.range (R*C)).map (λ n=>f (n%C))=(List.replicate R ((List.range C).map f)).flatten
 | 0=>by simp
 | R + 1 => by
   rw[Nat.succ_mul,List.range_add,bT,vv C f R,List.replicate_succ',List.flatten_append,iN]
   congr 1
   simp only[iO,List.flatten_nil,fU]
   refine gX λ n hn=>?_
   have:=cI.1 hn
   simp only[Function.comp]
   rw[bO,na,cJ this]
theorem uj (d:yA){k u r c:Int}(hr:0<=r)(hc:0<=c):cz d (dc k u r c)=(List.replicate r.toNat (cz d (cA k u c.toNat))).flatten:=by
 obtain⟨R,rfl⟩:=cO hr
 obtain⟨C,rfl⟩:=cO hc
 have e:(((R:Nat):Int)*((C:Nat):Int)).toNat=R*C:=by rw[<-jY];rfl
 simp only[cz,dc,cA,iN,e,au]
 rw[<-vv C _ R]
 refine gX λ n _=>?_
 simp only[Function.comp,jp,zq,Int.natCast_emod]
def dU (d:yA):List yG×Int:=bif dw d != 0 then([],dw d)else iz (cz d (dM d))
def df (d:yA):Int:=(dU d).2
def oJ (d:yA)(i:Nat):List Part:=dr 1 i ((aM d).drop i)++(dr 2 0 (aU d)++fH (d.zA.length-1))
def vr (d:yA)(i:Nat):List Part:=dr 2 i ((aU d).drop i)++fH (d.zA.length-1)
theorem wg (d:yA)(n:Nat):cz d (fH n)=(List.range n).map λ i:Nat=>(⟨(i:Int),(i:Int)⟩,0):=by
 simp only[cz,fH,iN];rfl
theorem wd (d:yA)(n:Nat):eD (cz d (fH n))=0:=by
 rw[wg]
 have:∀ l:List Nat,eD (l.map λ i:Nat=>((⟨(i:Int),(i:Int)⟩:yG),(0:Int)))=0:=λ l=>by
  induction l with
  | nil=>rfl
  | cons a l ih=>simp only[bn,eD];exact ih
 exact this _
theorem sI {d:yA}(h:(dU d).2=0):DeckOk d/\eD (cz d (dM d))=0/\(dU d).1=(cz d (dM d)).map Prod.fst:=by
 unfold dU at h ⊢
 cases h1:dw d != 0
 ·rw[h1,cF]at h
  rw[cF]
  have hd:DeckOk d:=ff (by simpa using h1)
  unfold iz at h ⊢
  cases h2:eD (cz d (dM d)) != 0
  ·exact⟨hd,by simpa using h2,rfl⟩
  ·rw[h2,cT]at h
   have h:eD (cz d (dM d))=0:=h
   rw[h]at h2;cases h2
 ·rw[h1,cT]at h
  have h:dw d=0:=h
  rw[h]at h1;cases h1
def ga (d:yA)(s:yG):Prop:=0<=s.lo/\s.lo<=s.hi/\s.hi<(d.zA.length:Int)-1
theorem zd {d:yA}(h:(dU d).2=0):∀ s∈(dU d).1,ga d s:=by
 obtain⟨_,h2,h3⟩:=sI h
 intro s hs
 rw[h3]at hs
 obtain⟨q,hq,rfl⟩:=aZ.1 hs
 have h0:=wx h2 q hq
 obtain⟨p,hp,rfl⟩:=aZ.1 hq
 exact KL (ny hp) h0
def jf (t:List yG):List yG->List Int->List yG×Int
 | acc,[]=>(acc,0)
 | acc,i::l=>bif decide (i<0)then([],3)else bif decide (i>=(t.length:Int))then([],3)else jf t (acc++[t.getD i.toNat Ty.span.dflt]) l
def cc (d:yA)(zU:List Int):List yG×Int:=bif (dU d).2 != 0 then([],(dU d).2)else jf (dU d).1 [] zU
theorem DE {t:List yG}{Q:yG->Prop}(ht:∀ s∈t,Q s):∀ {l:List Int} {acc:List yG},(∀ s∈acc,Q s)->(jf t acc l).2=0->(∀ s∈(jf t acc l).1,Q s)/\(jf t acc l).1.length=acc.length+l.length
 | [],acc,ha,_=>⟨ha,rfl⟩
 | i :: l, acc, ha, h => by
   unfold jf at h ⊢
   by_cases h1:i<0
   ·rw[dT h1]at h;cases h
   rw[dF h1,cF]at h ⊢
   by_cases h2:i>=(t.length:Int)
   ·rw[dT h2]at h;cases h
   rw[dF h2,cF]at h ⊢
   have hi:i.toNat<t.length:=by omega
   obtain⟨g1,g2⟩:=DE ht (l:=l) (acc:=acc++[t.getD i.toNat Ty.span.dflt]) (λ s hs=>by
    rcases az.1 hs with e|e
    ·exact ha s e
    ·rw[cH hi]at e
     rw[bq.1 e]
     exact ht _ (aN _)) h
   exact⟨g1,by rw[g2];simp;omega⟩
theorem Af {t:List yG}:∀ {l:List Int} {acc:List yG},(jf t acc l).2≠0->jf t acc l=([],3)
 | [],acc,h=>absurd rfl h
 | i :: l, acc, h => by
   unfold jf at h ⊢
   by_cases h1:i<0
   ·rw[dT h1];rfl
   rw[dF h1,cF]at h ⊢
   by_cases h2:i>=(t.length:Int)
   ·rw[dT h2];rfl
   rw[dF h2,cF]at h ⊢
   exact Af h
theorem jK {d:yA}{zU:List Int}(h:(cc d zU).2=0):DeckOk d/\(∀ s∈(cc d zU).1,ga d s)/\(cc d zU).1.length=zU.length:=by
 unfold cc at h ⊢
 cases h1:(dU d).2 != 0
 ·rw[h1,cF]at h
  rw[cF]
  have h0:(dU d).2=0:=by simpa using h1
  obtain⟨g1,g2⟩:=DE (zd h0) (acc:=[]) (λ s hs=>by cases hs) h
  exact⟨(sI h0).1,g1,by simpa using g2⟩
 ·rw[h1,cT]at h
  have h:(dU d).2=0:=h
  rw[h]at h1;cases h1
theorem vp {d:yA}{zU:List Int}(h:(cc d zU).2≠0):(cc d zU).1=[]:=by
 unfold cc at h ⊢
 cases h1:(dU d).2 != 0
 ·rw[h1,cF]at h
  rw[cF,Af h]
 ·rfl
def fX (d:yA)(zU:List Int):List Int×Int:=bif (cc d zU).2 != 0 then([],(cc d zU).2)else(ic d (cc d zU).1,0)
def two (l:List yG):yG×yG:=(l.getD 0 Ty.span.dflt,l.getD 1 Ty.span.dflt)
def rS (a b:yG):yG:=⟨bif decide (b.lo<a.lo)then b.lo else a.lo,bif decide (b.hi>a.hi)then b.hi else a.hi⟩
def lr (d:yA)(a b:Int):List Int×Int:=bif (cc d [a,b]).2 != 0 then([],(cc d [a,b]).2)else(dv d (rS (two (cc d [a,b]).1).1 (two (cc d [a,b]).1).2),0)
theorem Qw {b:Go.VL.Box}(h:cW b=true):yJ prog 217 [⟨.box,b⟩] [.int] (b.rows*b.zP):=
 ofT func217 (t141 b) (by kernel_rfl) (by kernel_rfl) λ _=>⟨q2,by have:=eH h;exact an (by omega) (by omega)⟩
theorem Tt (b:Go.VL.Box):yJ prog 203 [⟨.box,b⟩] [.bool] (cW b):=
 ofT func203 (t126 b) (by kernel_rfl) (by kernel_rfl) λ _=>
  cZ (λ _=>cZ (λ _=>cZ (λ _=>⟨q2,rfl⟩) (λ _=>⟨q2,rfl⟩)) (λ _=>⟨q2,rfl⟩)) (λ _=>⟨q2,rfl⟩)
theorem Li (r c:Int):yJ prog 220 [⟨.int,r⟩,⟨.int,c⟩] [.bool] (cW ⟨r,c⟩):=
 ofT func220 (Pz r c) (by kernel_rfl) (by kernel_rfl) λ _=>
  cZ (λ _=>cZ (λ _=>cZ (λ _=>⟨q2,rfl⟩) (λ _=>⟨q2,rfl⟩)) (λ _=>⟨q2,rfl⟩)) (λ _=>⟨q2,rfl⟩)
theorem pZ {l:List Go.VL.Box}(hl:l.length<=1000)(hb:∀ b∈l,cW b=true){r:Int}{A:Pr}(hA:CL codes sigs f141 [.int] r A)
  (i:Nat) (hi:i<=l.length) (n:Int) (hn:0<=n/\n<=1536*(i:Int)) (h:n+br (l.drop i)=r):A (hd f141 0) (HK l n i):=by
 refine hA.go (Iq l n i) (ae (λ h1=>?_) (λ h1=>?_))
 ·have h1:=oT h1
  have hil:i<l.length:=by omega
  have hbi:=hb l[i] (aN _)
  have hs:=eH hbi
  rw[aY hil]
  rw[dG hil,br]at h
  refine⟨⟨⟨by omega,by omega⟩,tv⟩,⟨T3',tv⟩,_,Qw hbi,?_⟩
  show A (hd f141 0) (HK l (w64 (n+l[i].rows*l[i].zP)) (w64 ((i:Int)+1)))
  rw[aq (by omega),an (by omega) (by omega)]
  exact pZ hl hb hA (i+1) (by omega) _ ⟨by omega,by omega⟩ (by omega)
 ·have h1:=oF h1
  refine⟨⟨tv,tv⟩,?_⟩
  rw[dN (by omega)]at h
  have h:n=r:=by simpa[br]using h
  exact h
termination_by l.length-i
theorem HD {l:List Go.VL.Box}(hl:l.length<=1000)(hb:∀ b∈l,cW b=true):yJ prog 141 [⟨.sl .box,l⟩] [.int] (br l):=
 pcl codes sigs func141 (by kernel_rfl) λ A hA=>hA.go (Px l)
  (pZ hl hb hA 0 (by omega) 0 ⟨by omega,by omega⟩ (by simp))
theorem Ex {d:yA}(hl:d.zB.length<=1000){r:List Go.VL.Box}{A:Pr}(hA:CL codes sigs f142 [.sl .box] r A)
  (i:Nat) (hi:i<=d.zB.length) (out:List Go.VL.Box) (ho:out.length=i) (h:out++(d.zB.drop i).map fe=r):A (hd f142 0) (QO d out i):=by
 refine hA.go (Sk d out i) (ae (λ h1=>?_) (λ h1=>?_))
 ·have h1:=oT h1
  have hil:i<d.zB.length:=by omega
  rw[aY hil]
  rw[dG hil,bn]at h
  refine⟨⟨⟨by omega,by omega⟩,tv⟩,⟨T3',tv⟩,⟨by simp only[af,ak];omega,tv⟩,?_⟩
  rw[aq (by omega)]
  exact Ex hl hA (i+1) (by omega) (out++[fe d.zB[i]]) (by simp[ho]) (by rw[<-h];simp)
 ·have h1:=oF h1
  refine⟨⟨tv,tv⟩,?_⟩
  rw[dN (by omega)]at h
  have h:out=r:=by simpa using h
  exact h
termination_by d.zB.length-i
theorem Qy {d:yA}(hl:d.zB.length<=1000):yJ prog 142 [⟨.zI,d⟩] [.sl .box] (aM d):=
 pcl codes sigs func142 (by kernel_rfl) λ A hA=>hA.go (t117 d)
  (hA.row 3 244 .box (s':=QO d [] 0) (by kernel_rfl) (by kernel_rfl) (Ex hl hA 0 (by omega) [] rfl rfl))
theorem Ew {d:yA}(hl:d.zC.length<=1000){r:List Go.VL.Box}{A:Pr}(hA:CL codes sigs f143 [.sl .box] r A)
  (i:Nat) (hi:i<=d.zC.length) (out:List Go.VL.Box) (ho:out.length=i) (h:out++(d.zC.drop i).map iB=r):A (hd f143 0) (QN d out i):=by
 refine hA.go (Sj d out i) (ae (λ h1=>?_) (λ h1=>?_))
 ·have h1:=oT h1
  have hil:i<d.zC.length:=by omega
  rw[aY hil]
  rw[dG hil,bn]at h
  refine⟨⟨⟨by omega,by omega⟩,tv⟩,⟨T3',tv⟩,⟨by simp only[af,ak];omega,tv⟩,?_⟩
  rw[aq (by omega)]
  exact Ew hl hA (i+1) (by omega) (out++[iB d.zC[i]]) (by simp[ho]) (by rw[<-h];simp)
 ·have h1:=oF h1
  refine⟨⟨tv,tv⟩,?_⟩
  rw[dN (by omega)]at h
  have h:out=r:=by simpa using h
  exact h
termination_by d.zC.length-i
theorem Qx {d:yA}(hl:d.zC.length<=1000):yJ prog 143 [⟨.zI,d⟩] [.sl .box] (aU d):=
 pcl codes sigs func143 (by kernel_rfl) λ A hA=>hA.go (t118 d)
  (hA.row 3 244 .box (s':=QN d [] 0) (by kernel_rfl) (by kernel_rfl) (Ew hl hA 0 (by omega) [] rfl rfl))
theorem Bp {p:yF}(h:cW (fe p)=true):w64 (p.rows*p.zP)=p.rows*p.zP:=by
 have:1<=p.rows*p.zP/\p.rows*p.zP<=1536:=eH h
 exact an (by omega) (by omega)
theorem Et {p:yF}(hl:(p.start.length:Int)<=1536){r:Bool}{A:Pr}(hA:CL codes sigs f204 [.bool] r A)
  (i:Nat) (hi:i<=p.start.length) (h:lj p.cap (p.start.drop i)=r):A (hd f204 0) (TV p i):=by
 refine hA.go (Sc p i) (ae (λ h1=>?_) (λ h1=>?_))
 ·have h1:=oT h1
  have hil:i<p.start.length:=by omega
  rw[aY hil]
  rw[dG hil,lj]at h
  refine⟨⟨⟨by omega,by omega⟩,tv⟩,ae (λ h2=>?_) (λ h2=>ae (λ h3=>?_) (λ h3=>?_))⟩
  ·rw[h2]at h;exact⟨⟨tv,tv⟩,h⟩
  ·rw[h2,h3]at h;exact⟨⟨tv,tv⟩,h⟩
  ·rw[h2,h3]at h
   rw[aq (by omega)]
   exact Et hl hA (i+1) (by omega) h
 ·have h1:=oF h1
  refine⟨⟨tv,tv⟩,?_⟩
  rw[dN (by omega)]at h
  exact h
termination_by p.start.length-i
theorem c127 {p:yF}(h:cW (fe p)=true):yJ prog 204 [⟨.zJ,p⟩] [.bool] (mJ p):=
 pcl codes sigs func204 (by kernel_rfl) λ A hA=>hA.go (t127 p) (by
  have hs:1<=p.rows*p.zP/\p.rows*p.zP<=1536:=eH h
  unfold mJ
  rw[Bp h]
  refine ae (λ h1=>?_) (λ h1=>ae (λ h2=>?_) (λ h2=>ae (λ h3=>?_) (λ h3=>?_)))
  ·rw[h1];exact⟨q2,rfl⟩
  ·rw[h1,h2];exact⟨q2,rfl⟩
  ·rw[h1,h2,h3];exact⟨q2,rfl⟩
  ·have:=oF h3
   exact Et (by omega) hA 0 (by omega) (by unfold mJ;rw[h1,h2,h3];rfl))
theorem Ev {p:yF}(hl:(p.start.length:Int)<=1536){r:Bool}{A:Pr}(hA:CL codes sigs f219 [.bool] r A)
  (i:Nat) (hi:i<=p.start.length) (h:lj p.cap (p.start.drop i)=r):A (hd f219 0) (TY p i):=by
 refine hA.go (Sg p i) (ae (λ h1=>?_) (λ h1=>?_))
 ·have h1:=oT h1
  have hil:i<p.start.length:=by omega
  rw[aY hil]
  rw[dG hil,lj]at h
  refine⟨⟨⟨by omega,by omega⟩,tv⟩,ae (λ h2=>?_) (λ h2=>⟨⟨⟨by omega,by omega⟩,tv⟩,ae (λ h3=>?_) (λ h3=>?_)⟩)⟩
  ·rw[h2]at h;exact⟨⟨tv,tv⟩,h⟩
  ·rw[h2,h3]at h;exact⟨⟨tv,tv⟩,h⟩
  ·rw[h2,h3]at h
   rw[aq (by omega)]
   exact Ev hl hA (i+1) (by omega) h
 ·have h1:=oF h1
  refine⟨⟨tv,tv⟩,?_⟩
  rw[dN (by omega)]at h
  exact h
termination_by p.start.length-i
theorem NF (p:yF):yJ prog 219 [⟨.zJ,p⟩] [.bool] (dO p):=
 pcl codes sigs func219 (by kernel_rfl) λ A hA=>hA.go (t122 p) (by
  refine⟨⟨q2,q2,tv⟩,_,Li _ _,?_⟩
  show Sat _ _ _ (bif !cW (fe p)then _ else _)
  unfold dO
  cases h:cW (fe p)
  ·exact⟨q2,rfl⟩
  have hs:1<=p.rows*p.zP/\p.rows*p.zP<=1536:=eH h
  rw[cT,ba,cF]
  unfold mJ
  rw[Bp h]
  refine ae (λ h1=>?_) (λ h1=>ae (λ h2=>?_) (λ h2=>ae (λ h3=>?_) (λ h3=>?_)))
  ·rw[h1];exact⟨q2,rfl⟩
  ·rw[h1,h2];exact⟨q2,rfl⟩
  ·rw[h1,h2,h3];exact⟨q2,rfl⟩
  ·have:=oF h3
   exact Ev (by omega) hA 0 (by omega) (by unfold dO mJ;rw[h,h1,h2,h3];rfl))
def TK (x y:List Go.VL.Box)(i:Int):AS:=mkS 78 [(4,.d (.sl .box x)),(5,.d (.sl .box y)),(60,.d (.sl .box y)),(61,i64 y.length),(62,i64 i)] [] 0
def TM (d:yA)(w t i:Int):AS:=mkS 103 [(1,.ptr 0 0),(4,i64 w),(5,i64 t),(7,i64 i)] [(0,.box (cq d))] 1
def OB (k u r c:Int)(out:List Part)(i j:Int):AS:=mkS 31 [(0,i64 k),(1,i64 u),(2,i64 r),(3,i64 c),(9,.own 0 .part),(10,i64 i),(11,i64 j)] [(0,.row 179 .part out)] 1
def QI (d:yA)(out:List Part)(i:Int):AS:=mkS 71 [(1,.ptr 0 0),(3,.own 1 .part),(5,i64 i)] [(0,.box (cq d)),(1,.row 179 .part out)] 2
def TL (d:yA)(out:List Part)(i:Int):AS:=mkS 71 [(1,.ptr 0 0),(3,.own 1 .part),(6,i64 i)] [(0,.box (cq d)),(1,.row 179 .part out)] 2
def QL (l:List Part)(a b c e i:Int):AS:=mkS 31 [(5,.ptr 0 0),(6,.d (.sl .part l)),(7,i64 i)] [(0,.box [i64 a,i64 b,i64 c,i64 e])] 1
theorem t92b (x y:List Go.VL.Box)(i:Int):@Eq _ (xLp prog f125 [.int] 200 1 (TK x y i)) (bif decide (i<(y.length:Int))then .zF (((0:Int)<=i/\i<(y.length:Int))/\True) (.zF V3 (.zG 203 [⟨.box,(y.getD i.toNat Ty.box.dflt)⟩] [.bool] λ(x_1:Bool)=>bif !x_1 then .zF U2 (.ret (82:Int))else .stop (hd f125 1) (mkS 78 [(4,.d (.sl .box x)),(5,.d (.sl .box y)),(60,.d (.sl .box y)),(61,i64 (y.length:Int)),(62,i64 (w64 (i+1)))] [] 0)))else .zF V2 (.zG 141 [⟨.sl .box,x⟩] [.int] λ(x:Int)=>bif decide (x>384)then .zF U2 (.ret (2:Int))else .zF V2 (.zG 141 [⟨.sl .box,y⟩] [.int] λ(x:Int)=>bif decide (x>384)then .zF U2 (.ret (2:Int))else .zF U2 (.ret (0:Int))))):=by kernel_rfl
theorem t89b (d:yA)(w t i:Int):@Eq _ (xLp prog f153 [.int] 200 1 (TM d w t i)) (bif decide (i<(d.zC.length:Int))then .zF (((0:Int)<=i/\i<(d.zC.length:Int))/\True) (.zF (((0:Int)<=i/\i<(d.zC.length:Int))/\True) (.zF bX (.zG 220 [Sigma.mk .int (d.zC.getD i.toNat Ty.zN.dflt).rows,Sigma.mk .int (d.zC.getD i.toNat Ty.zN.dflt).zP] [.bool] λ(x:Bool)=>bif !x then .zF U2 (.ret (82:Int))else .zF (((0:Int)<=i/\i<(d.zC.length:Int))/\True) (.zF (((0:Int)<=i/\i<(d.zC.length:Int))/\True) (.stop (hd f153 1) (mkS 103 [(1,.ptr 0 0),(4,i64 w),(5,i64 (w64 (t+w64 ((d.zC.getD i.toNat Ty.zN.dflt).rows*(d.zC.getD i.toNat Ty.zN.dflt).zP)))),(7,i64 (w64 (i+1)))] [(0,.box (dC d))] 1))))))else bif decide (w>384)then .zF U2 (.ret (2:Int))else bif decide (t>384)then .zF U2 (.ret (2:Int))else .zF U2 (.ret (0:Int))):=by kernel_rfl
theorem Se (k u r c:Int)(out:List Part)(i j:Int):@Eq _ (xLp prog f154 [.sl .part] 200 1 (OB k u r c out i j)) (bif decide (j<c)then .zF V5 (.zF ((out.length+List.length [Part.mk k u i j])*33<=35184372088832/\True) (.stop (hd f154 1) (mkS 31 [(0,i64 k),(1,i64 u),(2,i64 r),(3,i64 c),(9,.own 0 .part),(10,i64 i),(11,i64 (w64 (j+1)))] [(0,.row 179 .part (out++[Part.mk k u i j]))] 1)))else .stop (hd f154 0) (mkS 31 [(0,i64 k),(1,i64 u),(2,i64 r),(3,i64 c),(9,.own 0 .part),(10,i64 (w64 (i+1)))] [(0,.row 179 .part out)] 1)):=by kernel_rfl
theorem t90b (d:yA)(out:List Part)(i:Int):@Eq _ (xLp prog f88 [.sl .part] 200 1 (QI d out i)) (bif decide (i<(d.zC.length:Int))then .zF (((0:Int)<=i/\i<(d.zC.length:Int))/\True) (.zF (((0:Int)<=i/\i<(d.zC.length:Int))/\True) (.zF uz (.zG 154 [⟨.int,(2:Int)⟩,⟨.int,i⟩,Sigma.mk .int (d.zC.getD i.toNat Ty.zN.dflt).rows,Sigma.mk .int (d.zC.getD i.toNat Ty.zN.dflt).zP] [.sl .part] λ(x:List Part)=>.zF ((out.length+x.length)*33<=35184372088832/\True) (.stop (hd f88 1) (mkS 71 [(1,.ptr 0 0),(3,.own 1 .part),(5,i64 (w64 (i+1)))] [(0,.box (dC d)),(1,.row 179 .part (out++x))] 2)))))else .stop (hd f88 2) (mkS 71 [(1,.ptr 0 0),(3,.own 1 .part),(6,i64 0)] [(0,.box (dC d)),(1,.row 179 .part out)] 2)):=by kernel_rfl
theorem t90c (d:yA)(out:List Part)(i:Int):@Eq _ (xLp prog f88 [.sl .part] 200 2 (TL d out i)) (bif decide (i<w64 ((d.zA.length:Int)-(1:Int)))then .zF V5 (.zF ((out.length+List.length [Part.mk 3 i 0 0])*33<=35184372088832/\True) (.stop (hd f88 2) (mkS 71 [(1,.ptr 0 0),(3,.own 1 .part),(6,i64 (w64 (i+1)))] [(0,.box (dC d)),(1,.row 179 .part (out++[Part.mk 3 i 0 0]))] 2)))else .zF U2 (.ret out)):=by kernel_rfl
theorem RS (l:List Part)(a b c e i:Int):@Eq _ (xLp prog f152 [.int,.int,.int] 200 0 (QL l a b c e i)) (bif decide (i<(l.length:Int))then .zF (((0:Int)<=i/\i<(l.length:Int))/\True) (bif (l.getD i.toNat Ty.part.dflt).kind==(3:Int)then bif (l.getD i.toNat Ty.part.dflt).kind==(3:Int)then .stop (hd f152 0) (mkS 31 [(5,.ptr 0 0),(6,.d (.sl .part l)),(7,i64 (w64 (i+1)))] [(0,.box [i64 a,i64 b,i64 c,i64 (w64 (e+1))])] 1)else bif (l.getD i.toNat Ty.part.dflt).kind==(2:Int)then .stop (hd f152 0) (mkS 31 [(5,.ptr 0 0),(6,.d (.sl .part l)),(7,i64 (w64 (i+1)))] [(0,.box [i64 a,i64 b,i64 (w64 (e+1)),i64 e])] 1)else bif (l.getD i.toNat Ty.part.dflt).kind==(1:Int)then .stop (hd f152 0) (mkS 31 [(5,.ptr 0 0),(6,.d (.sl .part l)),(7,i64 (w64 (i+1)))] [(0,.box [i64 a,i64 (w64 (e+1)),i64 c,i64 e])] 1)else bif (l.getD i.toNat Ty.part.dflt).kind==(0:Int)then .stop (hd f152 0) (mkS 31 [(5,.ptr 0 0),(6,.d (.sl .part l)),(7,i64 (w64 (i+1)))] [(0,.box [i64 (w64 (e+1)),i64 b,i64 c,i64 e])] 1)else .fail else bif (l.getD i.toNat Ty.part.dflt).kind==(2:Int)then bif (l.getD i.toNat Ty.part.dflt).kind==(3:Int)then .stop (hd f152 0) (mkS 31 [(5,.ptr 0 0),(6,.d (.sl .part l)),(7,i64 (w64 (i+1)))] [(0,.box [i64 a,i64 b,i64 c,i64 (w64 (c+1))])] 1)else bif (l.getD i.toNat Ty.part.dflt).kind==(2:Int)then .stop (hd f152 0) (mkS 31 [(5,.ptr 0 0),(6,.d (.sl .part l)),(7,i64 (w64 (i+1)))] [(0,.box [i64 a,i64 b,i64 (w64 (c+1)),i64 e])] 1)else bif (l.getD i.toNat Ty.part.dflt).kind==(1:Int)then .stop (hd f152 0) (mkS 31 [(5,.ptr 0 0),(6,.d (.sl .part l)),(7,i64 (w64 (i+1)))] [(0,.box [i64 a,i64 (w64 (c+1)),i64 c,i64 e])] 1)else bif (l.getD i.toNat Ty.part.dflt).kind==(0:Int)then .stop (hd f152 0) (mkS 31 [(5,.ptr 0 0),(6,.d (.sl .part l)),(7,i64 (w64 (i+1)))] [(0,.box [i64 (w64 (c+1)),i64 b,i64 c,i64 e])] 1)else .fail else bif (l.getD i.toNat Ty.part.dflt).kind==(1:Int)then bif (l.getD i.toNat Ty.part.dflt).kind==(3:Int)then .stop (hd f152 0) (mkS 31 [(5,.ptr 0 0),(6,.d (.sl .part l)),(7,i64 (w64 (i+1)))] [(0,.box [i64 a,i64 b,i64 c,i64 (w64 (b+1))])] 1)else bif (l.getD i.toNat Ty.part.dflt).kind==(2:Int)then .stop (hd f152 0) (mkS 31 [(5,.ptr 0 0),(6,.d (.sl .part l)),(7,i64 (w64 (i+1)))] [(0,.box [i64 a,i64 b,i64 (w64 (b+1)),i64 e])] 1)else bif (l.getD i.toNat Ty.part.dflt).kind==(1:Int)then .stop (hd f152 0) (mkS 31 [(5,.ptr 0 0),(6,.d (.sl .part l)),(7,i64 (w64 (i+1)))] [(0,.box [i64 a,i64 (w64 (b+1)),i64 c,i64 e])] 1)else bif (l.getD i.toNat Ty.part.dflt).kind==(0:Int)then .stop (hd f152 0) (mkS 31 [(5,.ptr 0 0),(6,.d (.sl .part l)),(7,i64 (w64 (i+1)))] [(0,.box [i64 (w64 (b+1)),i64 b,i64 c,i64 e])] 1)else .fail else bif (l.getD i.toNat Ty.part.dflt).kind==(0:Int)then bif (l.getD i.toNat Ty.part.dflt).kind==(3:Int)then .stop (hd f152 0) (mkS 31 [(5,.ptr 0 0),(6,.d (.sl .part l)),(7,i64 (w64 (i+1)))] [(0,.box [i64 a,i64 b,i64 c,i64 (w64 (a+1))])] 1)else bif (l.getD i.toNat Ty.part.dflt).kind==(2:Int)then .stop (hd f152 0) (mkS 31 [(5,.ptr 0 0),(6,.d (.sl .part l)),(7,i64 (w64 (i+1)))] [(0,.box [i64 a,i64 b,i64 (w64 (a+1)),i64 e])] 1)else bif (l.getD i.toNat Ty.part.dflt).kind==(1:Int)then .stop (hd f152 0) (mkS 31 [(5,.ptr 0 0),(6,.d (.sl .part l)),(7,i64 (w64 (i+1)))] [(0,.box [i64 a,i64 (w64 (a+1)),i64 c,i64 e])] 1)else bif (l.getD i.toNat Ty.part.dflt).kind==(0:Int)then .stop (hd f152 0) (mkS 31 [(5,.ptr 0 0),(6,.d (.sl .part l)),(7,i64 (w64 (i+1)))] [(0,.box [i64 (w64 (a+1)),i64 b,i64 c,i64 e])] 1)else .fail else .fail)else .zF (U2/\U2/\U2) (.ret (b,c,e))):=by kernel_rfl
theorem AG (d:yA):(aM d).length=d.zB.length:=by simp[aM]
theorem AF (d:yA):(aU d).length=d.zC.length:=by simp[aU]
def xW (d:yA):Int:=bif decide (br (aM d)>384)then 2 else bif decide (br (aU d)>384)then 2 else 0
theorem EU (d:yA):dw d=bif dj d.zA != 0 then dj d.zA else bif decide (d.zO<1)then 80 else bif decide (d.zO>8)then 80 else
 bif decide ((d.zB.length:Int)>4)then 2 else bif decide ((d.zC.length:Int)>4)then 2 else bif !d.zB.all dO then 81 else bif !(aU d).all cW then 82 else xW d:=rfl
theorem Ea {d:yA}(hp:d.zB.length<=4)(hr:d.zC.length<=4)(hbp:∀ b∈aM d,cW b=true){r:Int}{A:List Item->AS->Prop}
  (hA:yP prog codes sigs f125 (aS [.int]) (λ y=>y=r) 0 A) (i:Nat) (hi:i<=(aU d).length) (hpre:∀ b∈(aU d).take i,cW b=true)
  (h:(bif !((aU d).drop i).all cW then 82 else xW d)=r):A (hd f125 1) (TK (aM d) (aU d) i):=by
 have e1:=AG d
 have e2:=AF d
 refine hA.go (t92b _ _ i) (ae (λ h1=>?_) (λ h1=>?_))
 ·have h1:=oT h1
  have hil:i<(aU d).length:=by omega
  rw[aY hil]
  rw[dG hil,jJ]at h
  refine⟨⟨⟨by omega,by omega⟩,tv⟩,⟨T3',tv⟩,_,Tt _,ae (λ h2=>?_) (λ h2=>?_)⟩
  ·rw[nt h2]at h;exact⟨⟨tv,tv⟩,h⟩
  ·have h2:=nf h2
   rw[h2,cn]at h
   rw[aq (by omega)]
   refine Ea hp hr hbp hA (i+1) (by omega) (λ b hb=>?_) h
   rw[aW hil]at hb
   rcases az.1 hb with e|e
   ·exact hpre b e
   ·rw[bq.1 e];exact h2
 ·have h1:=oF h1
  rw[dN (by omega)]at h
  have h:xW d=r:=h
  have hbr:∀ b∈aU d,cW b=true:=λ b hb=>hpre b (by rw[cj (by omega)];exact hb)
  unfold xW at h
  refine⟨⟨⟨tv,tv⟩,tv⟩,_,HD (by omega) hbp,ae (λ h3=>?_) (λ h3=>⟨⟨⟨tv,tv⟩,tv⟩,_,HD (by omega) hbr,ae (λ h4=>?_) (λ h4=>?_)⟩)⟩
  ·rw[h3]at h;exact⟨⟨tv,tv⟩,h⟩
  ·rw[h3,h4]at h;exact⟨⟨tv,tv⟩,h⟩
  ·rw[h3,h4]at h;exact⟨⟨tv,tv⟩,h⟩
termination_by (aU d).length-i
theorem Eb {d:yA}(hp:d.zB.length<=4)(hr:d.zC.length<=4){r:Int}{A:List Item->AS->Prop}
  (hA:yP prog codes sigs f125 (aS [.int]) (λ y=>y=r) 0 A) (i:Nat) (hi:i<=d.zB.length) (hpre:∀ p∈d.zB.take i,dO p=true)
  (h:(bif !(d.zB.drop i).all dO then 81 else bif !(aU d).all cW then 82 else xW d)=r):A (hd f125 0) (L92 d (aM d) (aU d) i):=by
 have e1:=AG d
 have e2:=AF d
 refine hA.go (t92a d _ _ i) (ae (λ h1=>?_) (λ h1=>?_))
 ·have h1:=oT h1
  have hil:i<d.zB.length:=by omega
  have hib:i<(aM d).length:=by omega
  have eb:(aM d)[i]=fe d.zB[i]:=by simp[aM]
  rw[aY hil,aY hib,eb]
  rw[dG hil,jJ]at h
  refine⟨⟨⟨by omega,by omega⟩,tv⟩,⟨T3',tv⟩,_,Tt _,ae (λ h2=>?_) (λ h2=>?_)⟩
  ·have h2:=nt h2
   have:dO d.zB[i]=false:=by unfold dO;rw[h2];rfl
   rw[this]at h;exact⟨⟨tv,tv⟩,h⟩
  ·have h2:=nf h2
   have e3:dO d.zB[i]=mJ d.zB[i]:=by unfold dO;rw[h2];rfl
   refine⟨⟨⟨by omega,by omega⟩,tv⟩,⟨⟨tv,tv,tv,tv,tv,tv,tv,tv⟩,tv⟩,_,c127 h2,ae (λ h3=>?_) (λ h3=>?_)⟩
   ·rw[e3,nt h3]at h;exact⟨⟨tv,tv⟩,h⟩
   ·have h3:=nf h3
    rw[e3,h3,cn]at h
    rw[aq (by omega)]
    refine Eb hp hr hA (i+1) (by omega) (λ b hb=>?_) h
    rw[aW hil]at hb
    rcases az.1 hb with e|e
    ·exact hpre b e
    ·rw[bq.1 e,e3];exact h3
 ·have h1:=oF h1
  rw[dN (by omega)]at h
  refine Ea hp hr (λ b hb=>?_) hA 0 (by omega) (λ b hb=>by simp at hb) h
  obtain⟨p,hp',rfl⟩:=aZ.1 hb
  have:=hpre p (by rw[cj (by omega)];exact hp')
  unfold dO at this
  cases hq:cW (fe p)
  ·rw[hq]at this;cases this
  ·rfl
termination_by d.zB.length-i
theorem c92 (d:yA):yJ prog 125 [⟨.zI,d⟩] [.int] (dw d):=
 pcl codes sigs func125 (by kernel_rfl) λ A hA=>hA.go (t92 d) (by
  have hr:=EU d
  generalize dw d=r at hr hA ⊢
  refine⟨⟨q2,tv⟩,_,Tu _,ae (λ h1=>?_) (λ h1=>ae (λ h2=>?_) (λ h2=>ae (λ h3=>?_) (λ h3=>ae (λ h4=>?_) (λ h4=>ae (λ h5=>?_) (λ h5=>?_)))))⟩
  ·rw[h1]at hr;exact⟨q2,hr.symm⟩
  ·rw[h1,h2]at hr;exact⟨q2,hr.symm⟩
  ·rw[h1,h2,h3]at hr;exact⟨q2,hr.symm⟩
  ·rw[h1,h2,h3,h4]at hr;exact⟨q2,hr.symm⟩
  ·rw[h1,h2,h3,h4,h5]at hr;exact⟨q2,hr.symm⟩
  ·rw[h1,h2,h3,h4,h5]at hr
   have h4:=oF h4
   have h5:=oF h5
   refine⟨⟨q5,tv⟩,_,Qy (by omega),⟨q5,tv⟩,_,Qx (by omega),?_⟩
   exact Eb (by omega) (by omega) hA 0 (by omega) (λ p hp=>by simp at hp) hr.symm)
abbrev T5':True/\True/\True/\True/\True:=⟨tv,tv,tv,tv,tv⟩
abbrev T2':True/\True:=⟨tv,tv⟩
def bx (d:yA):Int×Int×Int:=bif dw d != 0 then(0,0,0)else(br (aM d),br (aU d),(d.zA.length:Int)-1)
theorem HE (d:yA):yJ prog 84 [⟨.zI,d⟩] [.int,.int,.int] (bx d):=
 ofT func84 (t115 d) (by kernel_rfl) (by kernel_rfl) λ A=>by
  unfold bx
  refine⟨⟨T5',tv⟩,_,c92 d,ae (λ h=>?_) (λ h=>?_)⟩
  ·rw[h];exact⟨⟨T2',T2',T2'⟩,rfl⟩
  ·rw[h]
   have hd:DeckOk d:=ff (by simpa using h)
   have e1:=AG d
   have e2:=AF d
   have h3:=hd.lanes
   have h4:=hd.zB
   have h5:=hd.zC
   refine⟨⟨T5',tv⟩,_,Qy (by omega),⟨T2',tv⟩,_,HD (by omega) hd.boxP,⟨T5',tv⟩,_,Qx (by omega),⟨T2',tv⟩,_,HD (by omega) hd.boxR,⟨T2',T2',T2'⟩,?_⟩
   rw[an (by omega) (by omega)];rfl
theorem Ey {l:List Go.VL.Box}{k:Int}(hl:l.length<=1000)(hb:∀ b∈l,cW b=true){r:Part}{A:List Item->AS->Prop}
  (hA:yP prog codes sigs f208 (aS [.part]) (λ y=>y=r) 0 A) (i:Nat) (hi:i<=l.length) (n:Int) (h0:0<=n) (h9:n<=1000000)
  (h:iC k i (l.drop i) n=r):A (hd f208 0) (QP l k n i):=by
 refine hA.go (Sl l k n i) (ae (λ h1=>?_) (λ h1=>?_))
 ·have h1:=oT h1
  have hil:i<l.length:=by omega
  have hbi:=hb l[i] (aN _)
  have hs:=eH hbi
  obtain⟨b1,b2,b3,b4⟩:=ir.1 hbi
  rw[aY hil]
  rw[dG hil,iC]at h
  refine⟨⟨⟨by omega,by omega⟩,tv⟩,⟨T3',tv⟩,_,Qw hbi,ae (λ h2=>?_) (λ h2=>?_)⟩
  ·rw[h2]at h
   have hq:0<=n/l[i].zP:=Int.ediv_nonneg h0 (by omega)
   have hq2:n/l[i].zP<=n:=Int.ediv_le_self _ h0
   refine⟨by omega,by omega,T5',?_⟩
   rw[gA h0,eS h0,an (by omega) (by omega)]
   exact h
  ·rw[h2,cF]at h
   have h2:=oF h2
   refine⟨⟨T3',tv⟩,_,Qw hbi,?_⟩
   show A (hd f208 0) (QP l k (w64 (n-l[i].rows*l[i].zP)) (w64 ((i:Int)+1)))
   rw[aq (by omega),an (by omega) (by omega)]
   exact Ey hl hb hA (i+1) (by omega) _ (by omega) (by omega) h
 ·have h1:=oF h1
  refine⟨T5',?_⟩
  rw[dN (by omega)]at h
  exact h
termination_by l.length-i
theorem Tv {l:List Go.VL.Box}{k n:Int}(hl:l.length<=1000)(hb:∀ b∈l,cW b=true)(h0:0<=n)(h9:n<=1000000):yJ prog 208 [⟨.sl .box,l⟩,⟨.int,k⟩,⟨.int,n⟩] [.part] (iC k 0 l n):=
 pcl codes sigs func208 (by kernel_rfl) λ A hA=>hA.go (t116 l k n)
  (Ey hl hb hA 0 (by omega) n h0 h9 rfl)
theorem c84 (d:yA)(i:Int):yJ prog 130 [⟨.zI,d⟩,⟨.int,i⟩] [.part,.int] (jZ d i):=
 ofT func130 (t84 d i) (by kernel_rfl) (by kernel_rfl) λ A=>by
  have hr:jZ d i=jZ d i:=rfl
  generalize hp:jZ d i=r at hr ⊢
  unfold jZ at hp
  refine⟨⟨T5',tv⟩,_,c92 d,ae (λ h=>?_) (λ h=>?_)⟩
  ·rw[h]at hp;exact⟨⟨T5',T2'⟩,hp⟩
  ·rw[h,cF]at hp
   have hd:DeckOk d:=ff (by simpa using h)
   have hc:bx d=(br (aM d),br (aU d),(d.zA.length:Int)-1):=by unfold bx;rw[h];rfl
   have e1:=AG d
   have e2:=AF d
   have hl:=hd.lanes
   have hw:=hd.wells
   have ht:=hd.zK
   have h4:=hd.zB
   have h5:=hd.zC
   have hn:=ol hd
   refine⟨⟨T5',tv⟩,_,(HE d).eq hc,ae (λ h1=>?_) (λ h1=>?_)⟩
   ·rw[h1]at hp;exact⟨⟨T5',T2'⟩,hp⟩
   ·rw[h1,cF]at hp
    have h1:=oF h1
    have ew:w64 (w64 (br (aM d)+br (aU d))+((d.zA.length:Int)-1))=((dM d).length:Int):=by
     rw[an (n:=br (aM d)+br (aU d)) (by omega) (by omega),an (by omega) (by omega)];omega
    simp only
    rw[ew]
    refine ae (λ h2=>?_) (λ h2=>?_)
    ·rw[h2]at hp;exact⟨⟨T5',T2'⟩,hp⟩
    ·rw[h2,cF]at hp
     have h2:=oF h2
     have hg:=vy hd (i:=i) (by omega) (by omega)
     rw[bi,hg,gQ]at hp
     rw[an (n:=br (aM d)+br (aU d)) (by omega) (by omega)]
     refine ae (λ h6=>?_) (λ h6=>ae (λ h7=>?_) (λ h7=>?_))
     ·rw[h6,cT]at hp
      have h6:=oT h6
      exact⟨⟨T5',tv⟩,_,Qy (by omega),⟨T2',T2',T2',tv⟩,_,Tv (by omega) hd.boxP (by omega) (by omega),⟨T5',T2'⟩,hp⟩
     ·rw[h6,h7,cF,cT]at hp
      have h6:=oF h6
      have h7:=oT h7
      rw[an (by omega) (by omega)]
      exact⟨⟨T5',tv⟩,_,Qx (by omega),⟨T2',T2',T2',tv⟩,_,Tv (by omega) hd.boxR (by omega) (by omega),⟨T5',T2'⟩,hp⟩
     ·rw[h6,h7,cF,cF]at hp
      have h6:=oF h6
      have h7:=oF h7
      rw[an (n:=i-br (aM d)) (by omega) (by omega),an (by omega) (by omega)]
      exact⟨⟨T5',T2'⟩,hp⟩
theorem Eg {d:yA}(hr:d.zC.length<=4){w:Int}(hw:w=br (aM d)){r:Int}{A:List Item->AS->Prop}
  (hA:yP prog codes sigs f153 (aS [.int]) (λ y=>y=r) 0 A) (i:Nat) (hi:i<=d.zC.length) (t:Int) (ht:0<=t/\t<=1536*(i:Int)) (hs:t+br ((aU d).drop i)=br (aU d))
  (h:(bif !((aU d).drop i).all cW then 82 else xW d)=r):A (hd f153 1) (TM d w t i):=by
 have e2:=AF d
 refine hA.go (t89b d w t i) (ae (λ h1=>?_) (λ h1=>?_))
 ·have h1:=oT h1
  have hil:i<d.zC.length:=by omega
  have hib:i<(aU d).length:=by omega
  have eb:(aU d)[i]=iB d.zC[i]:=by simp[aU]
  rw[aY hil]
  rw[dG hib,jJ,eb]at h
  rw[dG hib,eb,br]at hs
  refine⟨⟨⟨by omega,by omega⟩,tv⟩,⟨⟨by omega,by omega⟩,tv⟩,⟨T2',T2',tv⟩,_,Li _ _,ae (λ h2=>?_) (λ h2=>?_)⟩
  ·have h2:cW (iB d.zC[i])=false:=nt h2
   rw[h2]at h;exact⟨⟨tv,tv⟩,h⟩
  ·have h2:cW (iB d.zC[i])=true:=nf h2
   rw[h2,cn]at h
   have hb:1<=d.zC[i].rows*d.zC[i].zP/\d.zC[i].rows*d.zC[i].zP<=1536:=eH h2
   have hs:t+(d.zC[i].rows*d.zC[i].zP+br ((aU d).drop (i+1)))=br (aU d):=hs
   refine⟨⟨⟨by omega,by omega⟩,tv⟩,⟨⟨by omega,by omega⟩,tv⟩,?_⟩
   rw[aq (by omega),an (n:=d.zC[i].rows*d.zC[i].zP) (by omega) (by omega),an (by omega) (by omega)]
   exact Eg hr hw hA (i+1) (by omega) _ ⟨by omega,by omega⟩ (by omega) h
 ·have h1:=oF h1
  rw[dN (by omega)]at h hs
  have h:xW d=r:=h
  have ht:t=br (aU d):=by simpa[br]using hs
  unfold xW at h
  rw[hw,ht]
  refine ae (λ h3=>?_) (λ h3=>ae (λ h4=>?_) (λ h4=>?_))
  ·rw[h3]at h;exact⟨⟨tv,tv⟩,h⟩
  ·rw[h3,h4]at h;exact⟨⟨tv,tv⟩,h⟩
  ·rw[h3,h4]at h;exact⟨⟨tv,tv⟩,h⟩
termination_by d.zC.length-i
theorem Eh {d:yA}(hp:d.zB.length<=4)(hr:d.zC.length<=4){r:Int}{A:List Item->AS->Prop}
  (hA:yP prog codes sigs f153 (aS [.int]) (λ y=>y=r) 0 A) (i:Nat) (hi:i<=d.zB.length) (w:Int) (hw:0<=w/\w<=1536*(i:Int)) (hs:w+br ((aM d).drop i)=br (aM d))
  (h:(bif !(d.zB.drop i).all dO then 81 else bif !(aU d).all cW then 82 else xW d)=r):A (hd f153 0) (L89 d w 0 i):=by
 have e1:=AG d
 refine hA.go (t89a d w 0 i) (ae (λ h1=>?_) (λ h1=>?_))
 ·have h1:=oT h1
  have hil:i<d.zB.length:=by omega
  have hib:i<(aM d).length:=by omega
  have eb:(aM d)[i]=fe d.zB[i]:=by simp[aM]
  rw[aY hil]
  rw[dG hil,jJ]at h
  rw[dG hib,eb,br]at hs
  refine⟨⟨⟨by omega,by omega⟩,tv⟩,⟨⟨tv,tv,tv,tv,tv,tv,tv,tv⟩,tv⟩,_,NF _,ae (λ h2=>?_) (λ h2=>?_)⟩
  ·rw[nt h2]at h;exact⟨⟨tv,tv⟩,h⟩
  ·have h2:=nf h2
   rw[h2,cn]at h
   have hq:cW (fe d.zB[i])=true:=by
    unfold dO at h2
    cases hq:cW (fe d.zB[i])
    ·rw[hq]at h2;cases h2
    ·rfl
   have hb:1<=d.zB[i].rows*d.zB[i].zP/\d.zB[i].rows*d.zB[i].zP<=1536:=eH hq
   have hs:w+(d.zB[i].rows*d.zB[i].zP+br ((aM d).drop (i+1)))=br (aM d):=hs
   refine⟨⟨⟨by omega,by omega⟩,tv⟩,⟨⟨by omega,by omega⟩,tv⟩,?_⟩
   rw[aq (by omega),an (n:=d.zB[i].rows*d.zB[i].zP) (by omega) (by omega),an (by omega) (by omega)]
   exact Eh hp hr hA (i+1) (by omega) _ ⟨by omega,by omega⟩ (by omega) h
 ·have h1:=oF h1
  rw[dN (by omega)]at h hs
  exact Eg hr (by simpa[br]using hs) hA 0 (by omega) 0 ⟨by omega,by omega⟩ (by simp) h
termination_by d.zB.length-i
theorem c89 (d:yA):yJ prog 153 [⟨.zI,d⟩] [.int] (dw d):=
 pcl codes sigs func153 (by kernel_rfl) λ A hA=>hA.go (t89 d) (by
  have hr:=EU d
  generalize dw d=r at hr hA ⊢
  refine⟨⟨q2,tv⟩,_,NG _,ae (λ h1=>?_) (λ h1=>ae (λ h2=>?_) (λ h2=>ae (λ h3=>?_) (λ h3=>ae (λ h4=>?_) (λ h4=>ae (λ h5=>?_) (λ h5=>?_)))))⟩
  ·rw[h1]at hr;exact⟨q2,hr.symm⟩
  ·rw[h1,h2]at hr;exact⟨q2,hr.symm⟩
  ·rw[h1,h2,h3]at hr;exact⟨q2,hr.symm⟩
  ·rw[h1,h2,h3,h4]at hr;exact⟨q2,hr.symm⟩
  ·rw[h1,h2,h3,h4,h5]at hr;exact⟨q2,hr.symm⟩
  ·rw[h1,h2,h3,h4,h5]at hr
   have h4:=oF h4
   have h5:=oF h5
   exact Eh (by omega) (by omega) hA 0 (by omega) 0 ⟨by omega,by omega⟩ (by simp) hr.symm)
def plN (k u:Int)(c n:Nat):List Part:=(List.range n).map λ m:Nat=>⟨k,u,((m/c:Nat):Int),((m%c:Nat):Int)⟩
theorem IZ (k u:Int){c i j:Nat}(hj:j<c):plN k u c (i*c+j+1)=plN k u c (i*c+j)++[⟨k,u,(i:Int),(j:Int)⟩]:=by
 unfold plN
 rw[List.range_succ,bT]
 congr 1
 have h1:(i*c+j)/c=i:=by rw[bO,Nat.mul_add_div (by omega),jt hj,fh]
 have h2:(i*c+j)%c=j:=by rw[bO,na,cJ hj]
 simp only[bn,dD,h1,h2]
theorem MD (k u:Int)(c n:Nat):(plN k u c n).length=n:=by simp[plN]
theorem AD {k u:Int}{R C:Nat}(hR:R<=32)(hC:C<=48){r:List Part}{A:Pr}(hA:CL codes sigs f154 [.sl .part] r A)
  (i:Nat) (hi:i<R) (hn:A (hd f154 0) (NV k u R C (plN k u C ((i+1)*C)) ((i+1:Nat):Int))) (j:Nat) (hj:j<=C):A (hd f154 1) (OB k u R C (plN k u C (i*C+j)) i j):=by
 have hle:i*C<=32*48:=kT (by omega) hC
 refine hA.go (Se k u R C _ i j) (ae (λ h1=>?_) (λ h1=>?_))
 ·have h1:=oT h1
  refine⟨⟨T5',tv⟩,⟨by rw[MD];simp only[af,ak];omega,tv⟩,?_⟩
  rw[aq (by omega),<-IZ k u (by omega:j<C)]
  exact AD hR hC hA i hi hn (j+1) (by omega)
 ·have h1:=oF h1
  have:j=C:=by omega
  subst this
  rw[aq (by omega)]
  have e:i*j+j=(i+1)*j:=by rw[Nat.succ_mul]
  rw[e]
  exact hn
termination_by C-j
theorem Eu {k u:Int}{R C:Nat}(hR:R<=32)(hC:C<=48){r:List Part}(h:plN k u C (R*C)=r){A:Pr}(hA:CL codes sigs f154 [.sl .part] r A)
  (i:Nat) (hi:i<=R):A (hd f154 0) (NV k u R C (plN k u C (i*C)) i):=by
 refine hA.go (Sf k u R C _ i) (ae (λ h1=>?_) (λ h1=>?_))
 ·have h1:=oT h1
  exact AD hR hC hA i (by omega) (Eu hR hC h hA (i+1) (by omega)) 0 (by omega)
 ·have h1:=oF h1
  have:i=R:=by omega
  subst this
  exact⟨⟨tv,tv⟩,h⟩
termination_by R-i
theorem NE {k u r c:Int}(h:cW ⟨r,c⟩=true):yJ prog 154 [⟨.int,k⟩,⟨.int,u⟩,⟨.int,r⟩,⟨.int,c⟩] [.sl .part] (dc k u r c):=by
 obtain⟨h1,h2,h3,h4⟩:=ir.1 h
 simp only at h1 h2 h3 h4
 obtain⟨R,rfl⟩:=cO (show 0<=r by omega)
 obtain⟨C,rfl⟩:=cO (show 0<=c by omega)
 have e:dc k u R C=plN k u C (R*C):=by
  have e:(((R:Nat):Int)*((C:Nat):Int)).toNat=R*C:=by rw[<-jY];rfl
  unfold dc plN
  rw[e];rfl
 exact pcl codes sigs func154 (by kernel_rfl) λ A hA=>hA.go (Py k u R C)
  (hA.row 9 179 .part (s':=NV k u R C [] 0) (by kernel_rfl) (by kernel_rfl) (by
   have:=Eu (k:=k) (u:=u) (R:=R) (C:=C) (by omega) (by omega) e.symm hA 0 (by omega)
   rw[gR]at this
   exact this))
theorem vx {k u:Int}{b:Go.VL.Box}(h:cW b=true):(dc k u b.rows b.zP).length<=1536:=by
 have:=eH h
 rw[ib];omega
theorem Ec {d:yA}(hk:DeckOk d){r:List Part}{A:Pr}(hA:CL codes sigs f88 [.sl .part] r A)
  (i:Nat) (hi:i<=d.zA.length-1) (out:List Part) (ho:out.length<=12288+i) (h:out++(fH (d.zA.length-1)).drop i=r):A (hd f88 2) (TL d out i):=by
 have hl:=hk.lanes
 refine hA.go (t90c d out i) (ae (λ h1=>?_) (λ h1=>?_))
 ·rw[an (by omega) (by omega)]at h1
  have h1:=oT h1
  have hil:i<(fH (d.zA.length-1)).length:=by simp[fH];omega
  have ei:(fH (d.zA.length-1))[i]=⟨3,(i:Int),0,0⟩:=by simp[fH]
  rw[dG hil,ei]at h
  refine⟨⟨T5',tv⟩,⟨by simp only[af,ak];omega,tv⟩,?_⟩
  rw[aq (by omega)]
  exact Ec hk hA (i+1) (by omega) (out++[⟨3,(i:Int),0,0⟩]) (by simp;omega) (by rw[<-h];simp)
 ·rw[an (by omega) (by omega)]at h1
  have h1:=oF h1
  rw[dN (by simp[fH];omega),fU]at h
  exact⟨⟨tv,tv⟩,h⟩
termination_by d.zA.length-i
theorem Ed {d:yA}(hk:DeckOk d){r:List Part}{A:Pr}(hA:CL codes sigs f88 [.sl .part] r A)
  (i:Nat) (hi:i<=d.zC.length) (out:List Part) (ho:out.length<=6144+1536*i) (h:out++(dr 2 i ((aU d).drop i)++fH (d.zA.length-1))=r):A (hd f88 1) (QI d out i):=by
 have e2:=AF d
 have h5:=hk.zC
 refine hA.go (t90b d out i) (ae (λ h1=>?_) (λ h1=>?_))
 ·have h1:=oT h1
  have hil:i<d.zC.length:=by omega
  have hib:i<(aU d).length:=by omega
  have eb:(aU d)[i]=iB d.zC[i]:=by simp[aU]
  have hb:=hk.boxR _ (aN hib)
  have hpl:=vx (k:=2) (u:=i) hb
  rw[eb]at hb hpl
  rw[aY hil]
  rw[dG hib,eb,dr]at h
  refine⟨⟨⟨by omega,by omega⟩,tv⟩,⟨⟨by omega,by omega⟩,tv⟩,⟨T2',T2',T2',T2',tv⟩,_,NE hb,⟨?_,tv⟩,?_⟩
  ·have:(dc 2 i d.zC[i].rows d.zC[i].zP).length<=1536:=hpl
   show(out.length+(dc 2 i d.zC[i].rows d.zC[i].zP).length)*33<=_
   omega
  ·show A (hd f88 1) (QI d (out++dc 2 i d.zC[i].rows d.zC[i].zP) (w64 ((i:Int)+1)))
   rw[aq (by omega)]
   refine Ed hk hA (i+1) (by omega) _ ?_ ?_
   ·have:(dc 2 i d.zC[i].rows d.zC[i].zP).length<=1536:=hpl
    rw[al];omega
   ·rw[<-h,bk,bk];rfl
 ·have h1:=oF h1
  rw[dN (by omega)]at h
  exact Ec hk hA 0 (by omega) out (by omega) h
termination_by d.zC.length-i
theorem Ee {d:yA}(hk:DeckOk d){r:List Part}{A:Pr}(hA:CL codes sigs f88 [.sl .part] r A)
  (i:Nat) (hi:i<=d.zB.length) (out:List Part) (ho:out.length<=1536*i) (h:out++oJ d i=r):A (hd f88 0) (L90 d out i):=by
 have e1:=AG d
 have h5:=hk.zB
 refine hA.go (t90a d out i) (ae (λ h1=>?_) (λ h1=>?_))
 ·have h1:=oT h1
  have hil:i<d.zB.length:=by omega
  have hib:i<(aM d).length:=by omega
  have eb:(aM d)[i]=fe d.zB[i]:=by simp[aM]
  have hb:=hk.boxP _ (aN hib)
  have hpl:=vx (k:=1) (u:=i) hb
  rw[eb]at hb hpl
  rw[aY hil]
  rw[oJ,dG hib,eb,dr]at h
  refine⟨⟨⟨by omega,by omega⟩,tv⟩,⟨⟨by omega,by omega⟩,tv⟩,⟨T2',T2',T2',T2',tv⟩,_,NE hb,⟨?_,tv⟩,?_⟩
  ·have:(dc 1 i d.zB[i].rows d.zB[i].zP).length<=1536:=hpl
   show(out.length+(dc 1 i d.zB[i].rows d.zB[i].zP).length)*33<=_
   omega
  ·show A (hd f88 0) (L90 d (out++dc 1 i d.zB[i].rows d.zB[i].zP) (w64 ((i:Int)+1)))
   rw[aq (by omega)]
   refine Ee hk hA (i+1) (by omega) _ ?_ ?_
   ·have:(dc 1 i d.zB[i].rows d.zB[i].zP).length<=1536:=hpl
    rw[al];omega
   ·rw[<-h,oJ,bk,bk];rfl
 ·have h1:=oF h1
  rw[oJ,dN (by omega)]at h
  exact Ed hk hA 0 (by omega) out (by omega) h
termination_by d.zB.length-i
theorem c90 (d:yA):yJ prog 88 [⟨.zI,d⟩] [.sl .part] (dP d):=
 pcl codes sigs func88 (by kernel_rfl) λ A hA=>hA.go (t90 d) (by
  generalize hr:dP d=r at hA ⊢
  unfold dP at hr
  refine⟨⟨T5',tv⟩,_,c89 d,ae (λ h=>?_) (λ h=>?_)⟩
  ·rw[h]at hr;exact⟨q2,hr⟩
  ·rw[h,cF]at hr
   exact hA.row 3 179 .part (s':=L90 d [] 0) (by kernel_rfl) (by kernel_rfl) (Ee (ff (by simpa using h)) hA 0 (by omega) [] (by simp) hr))
theorem c42 (d:yA)(i:Int):yJ prog 132 [⟨.zI,d⟩,⟨.int,i⟩] [.part,.int] (jZ d i):=
 ofT func132 (t42 d i) (by kernel_rfl) (by kernel_rfl) λ A=>by
  generalize hp:jZ d i=r
  unfold jZ at hp
  refine⟨⟨T5',tv⟩,_,c89 d,ae (λ h=>?_) (λ h=>?_)⟩
  ·rw[h]at hp;exact⟨⟨T5',T2'⟩,hp⟩
  ·rw[h,cF]at hp
   have hc:dP d=dM d:=by unfold dP;rw[h];rfl
   refine⟨⟨T5',tv⟩,_,(c90 d).eq hc,ae (λ h1=>?_) (λ h1=>ae (λ h2=>?_) (λ h2=>?_))⟩
   ·rw[h1]at hp;exact⟨⟨T5',T2'⟩,hp⟩
   ·rw[h1,h2]at hp;exact⟨⟨T5',T2'⟩,hp⟩
   ·rw[h1,h2]at hp
    have h1:=oF h1
    have h2:=oF h2
    exact⟨⟨⟨by omega,by omega⟩,tv⟩,⟨T5',T2'⟩,hp⟩
def og:List yF->Bool
 | []=>false
 | p::l=>bif decide ((p.start.length:Int)>500)then true else og l
def tP (d:yA):Bool:=bif decide ((d.zA.length:Int)>60)then true else bif decide ((d.zB.length:Int)>8)then true else bif decide ((d.zC.length:Int)>8)then true else og d.zB
theorem JW {d:yA}(hl:d.zB.length<=8){r:Bool}{A:Pr}(hA:CL codes sigs f25 [.bool] r A)
  (i:Nat) (hi:i<=d.zB.length) (h:og (d.zB.drop i)=r):A (hd f25 0) (L37 d i):=by
 refine hA.go (t37a d i) (ae (λ h1=>?_) (λ h1=>?_))
 ·have h1:=oT h1
  have hil:i<d.zB.length:=by omega
  rw[aY hil]
  rw[dG hil,og]at h
  refine⟨⟨⟨by omega,by omega⟩,tv⟩,ae (λ h2=>?_) (λ h2=>?_)⟩
  ·rw[h2]at h;exact⟨⟨tv,tv⟩,h⟩
  ·rw[h2]at h
   rw[aq (by omega)]
   exact JW hl hA (i+1) (by omega) h
 ·have h1:=oF h1
  rw[dN (by omega)]at h
  exact⟨⟨tv,tv⟩,h⟩
termination_by d.zB.length-i
theorem c37 (d:yA):yJ prog 25 [⟨.zI,d⟩] [.bool] (tP d):=
 pcl codes sigs func25 (by kernel_rfl) λ A hA=>hA.go (t37 d) (by
  generalize hr:tP d=r at hA ⊢
  unfold tP at hr
  refine ae (λ h1=>?_) (λ h1=>ae (λ h2=>?_) (λ h2=>ae (λ h3=>?_) (λ h3=>?_)))
  ·rw[h1]at hr;exact⟨q2,hr⟩
  ·rw[h1,h2]at hr;exact⟨q2,hr⟩
  ·rw[h1,h2,h3]at hr;exact⟨q2,hr⟩
  ·rw[h1,h2,h3]at hr
   have h2:=oF h2
   exact JW (by omega) hA 0 (by omega) hr)
def ni (k:Int):List Part->Int
 | []=>0
 | p::l=>(bif p.kind==k then 1 else 0)+ni k l
theorem mM (k:Int):∀ (l m:List Part),ni k (l++m)=ni k l+ni k m
 | [],m=>by simp[ni]
 | p::l,m=>by simp only[jA,ni,mM k l m];omega
theorem sx {k:Int}:∀ {l:List Part},(∀ p∈l,p.kind=k)->ni k l=(l.length:Int)
 | [],_=>rfl
 | p :: l, h => by
   have h1:(p.kind==k)=true:=by simpa using h p (by simp)
   simp only[ni,h1,cT,af,sx (l:=l) λ q hq=>h q (by simp[hq])];omega
theorem kN {k:Int}:∀ {l:List Part},(∀ p∈l,p.kind≠k)->ni k l=0
 | [],_=>rfl
 | p :: l, h => by
   have h1:(p.kind==k)=false:=by simpa using h p (by simp)
   simp only[ni,h1,cF,kN (l:=l) λ q hq=>h q (by simp[hq])];omega
theorem Hx {d:yA}(h:DeckOk d):ni 1 (dM d)=br (aM d)/\ni 2 (dM d)=br (aU d)/\ni 3 (dM d)=(d.zA.length:Int)-1:=by
 have l1:=ja 1 (aM d) 0 h.boxP
 have l2:=ja 2 (aU d) 0 h.boxR
 have l3:=h.lanes
 have k3:∀ p∈fH (d.zA.length-1),p.kind=3:=λ p hp=>by
  obtain⟨n,_,rfl⟩:=aZ.1 hp
  rfl
 unfold dM
 refine⟨?_,?_,?_⟩
 ·rw[mM,mM,sx λ p hp=>(gF hp).1,kN λ p hp=>by rw[(gF hp).1];decide,kN λ p hp=>by rw[k3 p hp];decide];omega
 ·rw[mM,mM,kN λ p hp=>by rw[(gF hp).1];decide,sx λ p hp=>(gF hp).1,kN λ p hp=>by rw[k3 p hp];decide];omega
 ·rw[mM,mM,kN λ p hp=>by rw[(gF hp).1];decide,kN λ p hp=>by rw[(gF hp).1];decide,sx k3]
  simp only[fH,bH,lD];omega
theorem pY {l:List Part}(hl:l.length<=100000)(hv:∀ p∈l,p.kind=1\/p.kind=2\/p.kind=3){r:Int×Int×Int}{A:List Item->AS->Prop}
  (hA:yP prog codes sigs f152 (aS [.int,.int,.int]) (λ y=>y=r) 0 A) (i:Nat) (hi:i<=l.length) (a b c e:Int) (hb:0<=b/\b<=i) (hc:0<=c/\c<=i) (he:0<=e/\e<=i)
  (h:(b+ni 1 (l.drop i),c+ni 2 (l.drop i),e+ni 3 (l.drop i))=r):A (hd f152 0) (QL l a b c e i):=by
 refine hA.go (RS l a b c e i) (ae (λ h1=>?_) (λ h1=>?_))
 ·have h1:=oT h1
  have hil:i<l.length:=by omega
  rw[aY hil]
  rw[dG hil]at h
  simp only[ni]at h
  refine⟨⟨⟨by omega,by omega⟩,tv⟩,?_⟩
  rcases hv l[i] (aN hil)with hk|hk|hk<;>rw[hk]at h ⊢
  ·refine ae (λ h=>absurd h (by decide)) (λ _=>ae (λ h=>absurd h (by decide)) (λ _=>ae (λ _=>?_) (λ h=>absurd h (by decide))))
   refine ae (λ h=>absurd h (by decide)) (λ _=>ae (λ h=>absurd h (by decide)) (λ _=>ae (λ _=>?_) (λ h=>absurd h (by decide))))
   rw[aq (by omega),an (by omega) (by omega)]
   refine pY hl hv hA (i+1) (by omega) a (b+1) c e (by omega) (by omega) (by omega) ?_
   rw[<-h]
   refine Prod.ext ?_ (Prod.ext ?_ ?_)
   ·show b+1+_=b+(1+_);omega
   ·show c+_=c+(0+_);omega
   ·show e+_=e+(0+_);omega
  ·refine ae (λ h=>absurd h (by decide)) (λ _=>ae (λ _=>?_) (λ h=>absurd h (by decide)))
   refine ae (λ h=>absurd h (by decide)) (λ _=>ae (λ _=>?_) (λ h=>absurd h (by decide)))
   rw[aq (by omega),an (by omega) (by omega)]
   refine pY hl hv hA (i+1) (by omega) a b (c+1) e (by omega) (by omega) (by omega) ?_
   rw[<-h]
   refine Prod.ext ?_ (Prod.ext ?_ ?_)
   ·show b+_=b+(0+_);omega
   ·show c+1+_=c+(1+_);omega
   ·show e+_=e+(0+_);omega
  ·refine ae (λ _=>?_) (λ h=>absurd h (by decide))
   refine ae (λ _=>?_) (λ h=>absurd h (by decide))
   rw[aq (by omega),an (by omega) (by omega)]
   refine pY hl hv hA (i+1) (by omega) a b c (e+1) (by omega) (by omega) (by omega) ?_
   rw[<-h]
   refine Prod.ext ?_ (Prod.ext ?_ ?_)
   ·show b+_=b+(0+_);omega
   ·show c+_=c+(0+_);omega
   ·show e+1+_=e+(1+_);omega
 ·have h1:=oF h1
  rw[dN (by omega)]at h
  simp only[ni,iP]at h
  exact⟨⟨T2',T2',T2'⟩,h⟩
termination_by l.length-i
theorem qv {d:yA}(h:DeckOk d):(dM d).length<=800:=by
 have:=ol h
 have h1:=h.wells
 have h2:=h.zK
 have h3:=h.lanes
 omega
theorem Lg (d:yA):yJ prog 152 [⟨.zI,d⟩] [.int,.int,.int] (bx d):=
 pcl codes sigs func152 (by kernel_rfl) λ A hA=>hA.go (Pj d) (by
  refine⟨⟨T5',tv⟩,_,c90 d,?_⟩
  show A (hd f152 0) (QL (dP d) 0 0 0 0 (0:Nat))
  cases h:dw d != 0
  ·have hk:DeckOk d:=ff (by simpa using h)
   have hp:dP d=dM d:=by unfold dP;rw[h];rfl
   have hf:=qv hk
   rw[hp]
   refine pY (by omega) (λ p hp=>?_) hA 0 (by omega) 0 0 0 0 (by omega) (by omega) (by omega) ?_
   ·rcases ny hp with⟨h,_⟩|⟨h,_⟩|⟨h,_⟩
    ·exact .inl h
    ·exact .inr (.inl h)
    ·exact .inr (.inr h)
   ·obtain⟨h1,h2,h3⟩:=Hx hk
    rw[bE,h1,h2,h3]
    unfold bx
    rw[h,cF]
    refine Prod.ext ?_ (Prod.ext ?_ ?_)<;>simp
  ·have hp:dP d=[]:=by unfold dP;rw[h];rfl
   rw[hp]
   refine pY (by simp) (λ p hp=>by cases hp) hA 0 (by omega) 0 0 0 0 (by omega) (by omega) (by omega) ?_
   unfold bx
   rw[h];rfl)
theorem c88 (r:Row)(c:Int):yJ prog 207 [⟨.row,r⟩,⟨.int,c⟩] [.zQ] (PT r c):=ofT func207 (t88 r c) (by kernel_rfl) (by kernel_rfl) λ _=>⟨T2',rfl⟩
theorem c87 {d:yA}{p:Part}(hv:jV d p)(h3:p.kind≠3):yJ prog 205 [⟨.zI,d⟩,⟨.part,p⟩] [.row] (zq d p):=
 ofT func205 (t87 d p) (by kernel_rfl) (by kernel_rfl) λ A=>by
  unfold zq
  refine cZ (λ h=>?_) (λ h=>?_)
  ·have hk:p.kind=2:=by simpa using h
   rcases hv with⟨h,_⟩|⟨_,h1,h2⟩|⟨h,_⟩
   ·omega
   ·exact⟨⟨⟨h1,h2⟩,tv⟩,q4,rfl⟩
   ·omega
  ·have hk:p.kind≠2:=by simpa using h
   rcases hv with⟨_,h1,h2⟩|⟨h,_⟩|⟨h,_⟩
   ·exact⟨⟨⟨h1,h2⟩,tv⟩,q4,rfl⟩
   ·omega
   ·omega
theorem c44 {d:yA}{p:Part}(hv:jV d p)(h3:p.kind≠3):yJ prog 254 [⟨.zI,d⟩,⟨.part,p⟩] [.zQ,.zQ] (PT (zq d p) p.col,(zq d p).reach):=
 ofT func254 (t44 d p) (by kernel_rfl) (by kernel_rfl) λ A=>by
  unfold zq
  refine ae (λ h=>?_) (λ h=>?_)
  ·have hk:p.kind=1:=by simpa using h
   rcases hv with⟨_,h1,h2⟩|⟨h,_⟩|⟨h,_⟩
   ·refine⟨⟨⟨h1,h2⟩,tv⟩,⟨T2',T2'⟩,?_⟩
    rw[hk];rfl
   ·omega
   ·omega
  ·have hk:p.kind≠1:=by simpa using h
   rcases hv with⟨h,_⟩|⟨h,h1,h2⟩|⟨h,_⟩
   ·omega
   ·refine⟨⟨⟨h1,h2⟩,tv⟩,⟨T2',T2'⟩,?_⟩
    rw[h];rfl
   ·omega
theorem c85 {d:yA}{p:Part}(hv:jV d p):yJ prog 127 [⟨.zI,d⟩,⟨.part,p⟩] [.span,.int] (jp d p):=
 ofT func127 (t85 d p) (by kernel_rfl) (by kernel_rfl) λ A=>by
  unfold jp
  refine cZ (λ h=>⟨⟨T3',T2'⟩,rfl⟩) (λ h=>?_)
  have h3:p.kind≠3:=by simpa using h
  exact⟨⟨T5',T5',tv⟩,_,c87 hv h3,⟨q4,T2',tv⟩,_,c88 _ _,⟨T2',T2',T2',tv⟩,_,NI _ _ _,⟨T3',T2'⟩,rfl⟩
theorem c86 {d:yA}{p:Part}(hv:jV d p):yJ prog 209 [⟨.zI,d⟩,⟨.part,p⟩] [.span,.int] (jp d p):=
 ofT func209 (t86 d p) (by kernel_rfl) (by kernel_rfl) λ A=>by
  unfold jp
  refine cZ (λ h=>⟨⟨T3',T2'⟩,rfl⟩) (λ h=>?_)
  have h3:p.kind≠3:=by simpa using h
  exact⟨⟨T5',T5',tv⟩,_,c44 hv h3,⟨T2',T2',T2',tv⟩,_,NH _ _ _,⟨T3',T2'⟩,(IG _ _ _).symm⟩
theorem t46 (d:yA):@Eq _ (xS prog codes bU f131 [.sl .span,.int] 300 [⟨.zI,d⟩]) (.zF V5 (.zG 153 [⟨.zI,d⟩] [.int] λ(x:Int)=>bif x != 0 then .zF (U2/\U2) (.ret ([],x))else .zF V5 (.zG 88 [⟨.zI,d⟩] [.sl .part] λ(x:List Part)=>.stop (hd f131 0) (mkS 40 [(1,.ptr 0 0),(5,nS),(6,.d (.sl .part x)),(7,i64 0)] [(0,.box (dC d))] 1)))):=by kernel_rfl
theorem t48 (d:yA)(l:List Int):@Eq _ (xS prog codes bU f135 [.sl .int,.int] 300 [⟨.zI,d⟩,⟨.sl .int,l⟩]) (.zF lg (.zG 210 [⟨.zI,d⟩,⟨.sl .int,l⟩] [.sl .span,.int] λ(x:List yG×Int)=>bif x.2 != 0 then .zF (U2/\U2) (.ret ([],x.2))else .zF lg (.zG 211 [⟨.zI,d⟩,⟨.sl .span,x.1⟩] [.sl .int] λ(x:List Int)=>.zF (U2/\U2) (.ret (x,(0:Int)))))):=by kernel_rfl
theorem t49 (d:yA)(l:List Int):@Eq _ (xS prog codes bU f80 [.sl .int,.int] 300 [⟨.zI,d⟩,⟨.sl .int,l⟩]) (.zF lg (.zG 136 [⟨.zI,d⟩,⟨.sl .int,l⟩] [.sl .span,.int] λ(x:List yG×Int)=>.stop (hd f80 0) (mkS 32 [(2,.ptr 0 0),(6,.d (.sl .span x.1)),(7,i64 x.2),(8,nS),(9,i64 0)] [(0,.box (dC d))] 1))):=by kernel_rfl
theorem t53 (d:yA)(a b:Int):@Eq _ (xS prog codes bU f133 [.sl .int,.int] 300 [⟨.zI,d⟩,⟨.int,a⟩,⟨.int,b⟩]) (.zF bX (.zF lg (.zG 210 [⟨.zI,d⟩,Sigma.mk (.sl .int) [a,b]] [.sl .span,.int] λ(x:List yG×Int)=>bif x.2 != 0 then .zF (U2/\U2) (.ret ([],x.2))else .zF (((0:Int)<=0/\(0:Int)<(x.1.length:Int))/\True) (.zF (((0:Int)<=1/\(1:Int)<(x.1.length:Int))/\True) (.zF NT (.zG 212 [⟨.span,(x.1.getD 0 Ty.span.dflt)⟩,⟨.span,(x.1.getD 1 Ty.span.dflt)⟩] [.span] λ(x:yG)=>.zF V3 (.zF lg (.zG 211 [⟨.zI,d⟩,Sigma.mk (.sl .span) [x]] [.sl .int] λ(x:List Int)=>.zF (U2/\U2) (.ret (x,(0:Int))))))))))):=by kernel_rfl
theorem t54 (d:yA)(a b:Int):@Eq _ (xS prog codes bU f78 [.sl .int,.int] 300 [⟨.zI,d⟩,⟨.int,a⟩,⟨.int,b⟩]) (.zF bX (.zF lg (.zG 136 [⟨.zI,d⟩,Sigma.mk (.sl .int) [a,b]] [.sl .span,.int] λ(x:List yG×Int)=>bif x.2 != 0 then .zF (U2/\U2) (.ret ([],x.2))else .zF (((0:Int)<=0/\(0:Int)<(x.1.length:Int))/\True) (.zF (((0:Int)<=1/\(1:Int)<(x.1.length:Int))/\True) (bif decide ((x.1.getD 1 Ty.span.dflt).lo<(x.1.getD 0 Ty.span.dflt).lo)then .zF (((0:Int)<=1/\(1:Int)<(x.1.length:Int))/\True) (.zF (((0:Int)<=1/\(1:Int)<(x.1.length:Int))/\True) (bif decide ((x.1.getD 1 Ty.span.dflt).hi>(x.1.getD 0 Ty.span.dflt).hi)then .zF (((0:Int)<=1/\(1:Int)<(x.1.length:Int))/\True) (.zF Lz (.zG 137 [⟨.zI,d⟩,⟨.span,(x.1.getD 1 Ty.span.dflt)⟩] [.sl .int] λ(x:List Int)=>.zF (U2/\U2) (.ret (x,(0:Int)))))else .zF Lz (.zG 137 [⟨.zI,d⟩,⟨.span,(yG.mk (x.1.getD 1 Ty.span.dflt).lo (x.1.getD 0 Ty.span.dflt).hi)⟩] [.sl .int] λ(x:List Int)=>.zF (U2/\U2) (.ret (x,(0:Int))))))else .zF (((0:Int)<=1/\(1:Int)<(x.1.length:Int))/\True) (bif decide ((x.1.getD 1 Ty.span.dflt).hi>(x.1.getD 0 Ty.span.dflt).hi)then .zF (((0:Int)<=1/\(1:Int)<(x.1.length:Int))/\True) (.zF Lz (.zG 137 [⟨.zI,d⟩,⟨.span,(yG.mk (x.1.getD 0 Ty.span.dflt).lo (x.1.getD 1 Ty.span.dflt).hi)⟩] [.sl .int] λ(x:List Int)=>.zF (U2/\U2) (.ret (x,(0:Int)))))else .zF Lz (.zG 137 [⟨.zI,d⟩,⟨.span,(x.1.getD 0 Ty.span.dflt)⟩] [.sl .int] λ(x:List Int)=>.zF (U2/\U2) (.ret (x,(0:Int)))))))))):=by kernel_rfl
theorem t55 (a b:List Int):@Eq _ (xS prog codes bU f40 [.sl .int] 300 [⟨.sl .int,a⟩,⟨.sl .int,b⟩]) (.stop (hd f40 0) (mkS 27 [(0,.d (.sl .int a)),(1,.d (.sl .int b)),(5,nS),(6,i64 0)] [] 0)):=by kernel_rfl
theorem t57 (a b:List Int):@Eq _ (xS prog codes bU f138 [.sl .int] 300 [⟨.sl .int,a⟩,⟨.sl .int,b⟩]) (.zF True (.zF ((0+a.length)*9<=35184372088832/\True) (.stop (hd f138 0) (mkS 23 [(1,.d (.sl .int b)),(5,.own 0 .int),(6,i64 0)] [(0,.row 3 .int a)] 1)))):=by kernel_rfl
theorem t50 (a b:List Int):@Eq _ (xS prog codes bU f20 [.bool] 300 [⟨.sl .int,a⟩,⟨.sl .int,b⟩]) (bif (a.length:Int) != (b.length:Int)then .zF U2 (.ret false)else .stop (hd f20 0) (mkS 26 [(0,.d (.sl .int a)),(1,.d (.sl .int b)),(5,i64 0)] [] 0)):=by kernel_rfl
theorem t94 (d:yA)(k u n:Int):@Eq _ (xS prog codes bU f290 [.sl .span,.int] 300 [⟨.zI,d⟩,⟨.int,k⟩,⟨.int,u⟩,⟨.int,n⟩]) (.stop (hd f290 0) (mkS 36 [(1,i64 k),(2,i64 u),(4,.ptr 0 0),(10,nS),(14,i64 n),(15,i64 0)] [(0,.box (dC d))] 1)):=by kernel_rfl
theorem t96 (d:yA)(l:List Int):@Eq _ (xS prog codes bU f210 [.sl .span,.int] 300 [⟨.zI,d⟩,⟨.sl .int,l⟩]) (.zF V5 (.zG 256 [⟨.zI,d⟩] [.sl .span,.int] λ(x:List yG×Int)=>bif x.2 != 0 then .zF (U2/\U2) (.ret ([],x.2))else .stop (hd f210 0) (mkS 42 [(6,.d (.sl .span x.1)),(8,nS),(19,.d (.sl .int l)),(20,i64 (l.length:Int)),(21,i64 0)] [] 0))):=by kernel_rfl
theorem t98 (d:yA)(l:List Int):@Eq _ (xS prog codes bU f136 [.sl .span,.int] 300 [⟨.zI,d⟩,⟨.sl .int,l⟩]) (.zF V5 (.zG 131 [⟨.zI,d⟩] [.sl .span,.int] λ(x:List yG×Int)=>bif x.2 != 0 then .zF (U2/\U2) (.ret ([],x.2))else .stop (hd f136 0) (mkS 49 [(1,.d (.sl .int l)),(6,.d (.sl .span x.1)),(8,nS),(9,i64 0)] [] 0))):=by kernel_rfl
theorem t97 (d:yA)(l:List yG):@Eq _ (xS prog codes bU f211 [.sl .int] 300 [⟨.zI,d⟩,⟨.sl .span,l⟩]) (.zF V5 (.zG 84 [⟨.zI,d⟩] [.int,.int,.int] λ(x:Int×Int×Int)=>.zF V2 (.zG 257 [⟨.sl .span,l⟩] [.sl .span] λ(x_1:List yG)=>.stop (hd f211 0) (mkS 44 [(5,i64 x.1),(6,i64 x.2.1),(8,nS),(19,.d (.sl .span x_1)),(20,i64 (x_1.length:Int)),(21,i64 0)] [] 0)))):=by kernel_rfl
theorem t99 (d:yA)(s:yG):@Eq _ (xS prog codes bU f137 [.sl .int] 300 [⟨.zI,d⟩,⟨.span,s⟩]) (.stop (hd f137 0) (mkS 23 [(2,.ptr 0 0),(3,.ptr 1 0),(5,nS),(6,i64 s.lo)] [(0,.box (dC d)),(1,.box [i64 s.lo,i64 s.hi])] 2)):=by kernel_rfl
theorem t130 (d:yA):@Eq _ (xS prog codes bU f214 [.int] 300 [⟨.zI,d⟩]) (.zF V5 (.zG 152 [⟨.zI,d⟩] [.int,.int,.int] λ(x:Int×Int×Int)=>.zF U2 (.ret (w64 (x.1+x.2.1))))):=by kernel_rfl
theorem PC (l:List Int)(n:Int):@Eq _ (xS prog codes bU f44 [.bool] 300 [⟨.sl .int,l⟩,⟨.int,n⟩]) (.stop (hd f44 0) (mkS 18 [(0,.d (.sl .int l)),(1,i64 n),(5,i64 0)] [] 0)):=by kernel_rfl
theorem t101 (l:List Int)(n:Int):@Eq _ (xS prog codes bU f79 [.sl .int] 300 [⟨.sl .int,l⟩,⟨.int,n⟩]) (.stop (hd f79 0) (mkS 45 [(0,.d (.sl .int l)),(1,i64 n),(5,i64 0)] [] 0)):=by kernel_rfl
theorem t129 (l:List Int):@Eq _ (xS prog codes bU f81 [.sl .int] 300 [⟨.sl .int,l⟩]) (bif decide ((l.length:Int)<2)then .zF True (.zF ((0+l.length)*9<=35184372088832/\True) (.zF U2 (.ret ([]++l))))else .zF ((2:Int)≠(0:Int)) (.zF (((0:Int)<=0/\(0:Int)<=w64 (Int.tdiv (l.length:Int) 2)/\w64 (Int.tdiv (l.length:Int) 2)<=(l.length:Int))/\True) (.zF V2 (.zG 81 [Sigma.mk (.sl .int) (List.drop 0 (List.take (w64 (Int.tdiv (l.length:Int) 2)).toNat l))] [.sl .int] λ(x:List Int)=>.zF (((0:Int)<=w64 (Int.tdiv (l.length:Int) 2)/\w64 (Int.tdiv (l.length:Int) 2)<=(l.length:Int))/\True) (.zF V2 (.zG 81 [Sigma.mk (.sl .int) (List.drop (w64 (Int.tdiv (l.length:Int) 2)).toNat l)] [.sl .int] λ(x_1:List Int)=>.zF bX (.zG 134 [⟨.sl .int,x⟩,⟨.sl .int,x_1⟩] [.sl .int] λ(x:List Int)=>.zF U2 (.ret x)))))))):=by kernel_rfl
theorem Pm (a b:List Int):@Eq _ (xS prog codes bU f134 [.sl .int] 300 [⟨.sl .int,a⟩,⟨.sl .int,b⟩]) (.zF Dc (.zG 213 [⟨.sl .int,a⟩,⟨.sl .int,b⟩,⟨.bool,true⟩,⟨.bool,true⟩,⟨.bool,true⟩] [.sl .int] λ(x:List Int)=>.zF U2 (.ret x))):=by kernel_rfl
theorem t156 (a b:List Int)(f s t:Bool):@Eq _ (xS prog codes bU f213 [.sl .int] 300 [⟨.sl .int,a⟩,⟨.sl .int,b⟩,⟨.bool,f⟩,⟨.bool,s⟩,⟨.bool,t⟩]) (.stop (hd f213 0) (mkS 94 [(0,.d (.sl .int a)),(1,.d (.sl .int b)),(2,.d (.v (.bool f))),(3,.d (.v (.bool s))),(4,.d (.v (.bool t))),(11,.ptr 0 0),(12,.clo (.func 260) [] [.ptr 0 0]),(13,i64 0),(14,i64 0)] [(0,.box [nS])] 1)):=by kernel_rfl
def L46 (d:yA)(x:List Part)(out:List yG)(i:Int):AS:=mkS 40 [(1,.ptr 0 0),(5,.own 1 .span),(6,.d (.sl .part x)),(7,i64 i)] [(0,.box (cq d)),(1,.row 175 .span out)] 2
def L94 (d:yA)(k u n:Int)(out:List yG)(c:Int):AS:=mkS 36 [(1,i64 k),(2,i64 u),(4,.ptr 0 0),(10,.own 1 .span),(14,i64 n),(15,i64 c)] [(0,.box (cq d)),(1,.row 175 .span out)] 2
def L96 (t:List yG)(l:List Int)(out:List yG)(i:Int):AS:=mkS 42 [(6,.d (.sl .span t)),(8,.own 0 .span),(19,.d (.sl .int l)),(20,i64 l.length),(21,i64 i)] [(0,.row 175 .span out)] 1
def L98 (t:List yG)(l:List Int)(out:List yG)(i:Int):AS:=mkS 49 [(1,.d (.sl .int l)),(6,.d (.sl .span t)),(8,.own 0 .span),(9,i64 i)] [(0,.row 175 .span out)] 1
def L97 (a b:Int)(l:List yG)(out:List Int)(i:Int):AS:=mkS 44 [(5,i64 a),(6,i64 b),(8,.own 0 .int),(19,.d (.sl .span l)),(20,i64 l.length),(21,i64 i)] [(0,.row 3 .int out)] 1
def L99 (d:yA)(s:yG)(out:List Int)(k:Int):AS:=mkS 23 [(2,.ptr 0 0),(3,.ptr 1 0),(5,.own 2 .int),(6,i64 k)] [(0,.box (cq d)),(1,.box [i64 s.lo,i64 s.hi]),(2,.row 3 .int out)] 3
def L49 (d:yA)(t:List yG)(e:Int)(out:List Int)(i:Int):AS:=mkS 32 [(2,.ptr 0 0),(6,.d (.sl .span t)),(7,i64 e),(8,.d (.sl .int out)),(9,i64 i)] [(0,.box (cq d))] 1
def L55 (a b out:List Int)(i:Int):AS:=mkS 27 [(0,.d (.sl .int a)),(1,.d (.sl .int b)),(5,.own 0 .int),(6,i64 i)] [(0,.row 3 .int out)] 1
def L57 (b out:List Int)(i:Int):AS:=mkS 23 [(1,.d (.sl .int b)),(5,.d (.sl .int out)),(6,i64 i)] [] 0
def L50 (a b:List Int)(i:Int):AS:=mkS 26 [(0,.d (.sl .int a)),(1,.d (.sl .int b)),(5,i64 i)] [] 0
def Ud (l:List Int)(n i:Int):AS:=mkS 18 [(0,.d (.sl .int l)),(1,i64 n),(5,i64 i)] [] 0
def Uc (l:List Int)(n i:Int):AS:=mkS 45 [(0,.d (.sl .int l)),(1,i64 n),(5,i64 i)] [] 0
def rc (a b:List Int)(f s t:Bool)(out:List Int)(i k:Int):AS:=mkS 94 [(0,.d (.sl .int a)),(1,.d (.sl .int b)),(2,ck f),(3,ck s),(4,ck t),(11,.ptr 0 0),(12,.clo (.func 260) [] [.ptr 0 0]),(13,i64 i),(14,i64 k)] [(0,.box [.own 1 .int]),(1,.row 3 .int out)] 2
theorem t46a (d:yA)(x:List Part)(out:List yG)(i:Int):@Eq _ (xL prog codes bU f131 [.sl .span,.int] 200 0 (L46 d x out i)) (bif decide (i<(x.length:Int))then .zF (((0:Int)<=i/\i<(x.length:Int))/\True) (.zF HJ (.zG 209 [⟨.zI,d⟩,⟨.part,(x.getD i.toNat Ty.part.dflt)⟩] [.span,.int] λ(x_1:yG×Int)=>bif x_1.2 != 0 then .zF (U2/\U2) (.ret ([],x_1.2))else .zF V3 (.zF ((out.length+List.length [x_1.1])*17<=35184372088832/\True) (.stop (hd f131 0) (mkS 40 [(1,.ptr 0 0),(5,.own 1 .span),(6,.d (.sl .part x)),(7,i64 (w64 (i+1)))] [(0,.box (dC d)),(1,.row 175 .span (out++[x_1.1]))] 2)))))else .zF (U2/\U2) (.ret (out,(0:Int)))):=by kernel_rfl
theorem t94a (d:yA)(k u n:Int)(out:List yG)(c:Int):@Eq _ (xL prog codes bU f290 [.sl .span,.int] 200 0 (L94 d k u n out c)) (bif decide (c<n)then .zF HJ (.zG 127 [⟨.zI,d⟩,⟨.part,(Part.mk k u 0 c)⟩] [.span,.int] λ(x:yG×Int)=>bif x.2 != 0 then .zF (U2/\U2) (.ret ([],x.2))else .zF V3 (.zF ((out.length+List.length [x.1])*17<=35184372088832/\True) (.stop (hd f290 0) (mkS 36 [(1,i64 k),(2,i64 u),(4,.ptr 0 0),(10,.own 1 .span),(14,i64 n),(15,i64 (w64 (c+1)))] [(0,.box (dC d)),(1,.row 175 .span (out++[x.1]))] 2))))else .zF (U2/\U2) (.ret (out,(0:Int)))):=by kernel_rfl
theorem t96a (t:List yG)(l:List Int)(out:List yG)(i:Int):@Eq _ (xL prog codes bU f210 [.sl .span,.int] 200 0 (L96 t l out i)) (bif decide (i<(l.length:Int))then .zF (((0:Int)<=i/\i<(l.length:Int))/\True) (bif decide (l.getD i.toNat Ty.int.dflt<0)then .zF (U2/\U2) (.ret ([],(3:Int)))else bif decide (l.getD i.toNat Ty.int.dflt>=(t.length:Int))then .zF (U2/\U2) (.ret ([],(3:Int)))else .zF (((0:Int)<=l.getD i.toNat Ty.int.dflt/\l.getD i.toNat Ty.int.dflt<(t.length:Int))/\True) (.zF V3 (.zF ((out.length+List.length [t.getD (l.getD i.toNat Ty.int.dflt).toNat Ty.span.dflt])*17<=35184372088832/\True) (.stop (hd f210 0) (mkS 42 [(6,.d (.sl .span t)),(8,.own 0 .span),(19,.d (.sl .int l)),(20,i64 (l.length:Int)),(21,i64 (w64 (i+1)))] [(0,.row 175 .span (out++[t.getD (l.getD i.toNat Ty.int.dflt).toNat Ty.span.dflt]))] 1)))))else .zF (U2/\U2) (.ret (out,(0:Int)))):=by kernel_rfl
theorem t98a (t:List yG)(l:List Int)(out:List yG)(i:Int):@Eq _ (xL prog codes bU f136 [.sl .span,.int] 200 0 (L98 t l out i)) (bif decide (i<(l.length:Int))then .zF (((0:Int)<=i/\i<(l.length:Int))/\True) (bif decide (l.getD i.toNat Ty.int.dflt<0)then .zF (U2/\U2) (.ret ([],(3:Int)))else .zF (((0:Int)<=i/\i<(l.length:Int))/\True) (bif decide (l.getD i.toNat Ty.int.dflt>=(t.length:Int))then .zF (U2/\U2) (.ret ([],(3:Int)))else .zF (((0:Int)<=i/\i<(l.length:Int))/\True) (.zF (((0:Int)<=l.getD i.toNat Ty.int.dflt/\l.getD i.toNat Ty.int.dflt<(t.length:Int))/\True) (.zF V3 (.zF ((out.length+List.length [t.getD (l.getD i.toNat Ty.int.dflt).toNat Ty.span.dflt])*17<=35184372088832/\True) (.stop (hd f136 0) (mkS 49 [(1,.d (.sl .int l)),(6,.d (.sl .span t)),(8,.own 0 .span),(9,i64 (w64 (i+1)))] [(0,.row 175 .span (out++[t.getD (l.getD i.toNat Ty.int.dflt).toNat Ty.span.dflt]))] 1)))))))else .zF (U2/\U2) (.ret (out,(0:Int)))):=by kernel_rfl
theorem t97a (a b:Int)(l:List yG)(out:List Int)(i:Int):@Eq _ (xL prog codes bU f211 [.sl .int] 200 0 (L97 a b l out i)) (bif decide (i<(l.length:Int))then .zF (((0:Int)<=i/\i<(l.length:Int))/\True) (.stop (hd f211 1) (mkS 44 [(5,i64 a),(6,i64 b),(8,.own 0 .int),(10,.ptr 1 0),(11,i64 (l.getD i.toNat Ty.span.dflt).lo),(19,.d (.sl .span l)),(20,i64 (l.length:Int)),(21,i64 i)] [(0,.row 3 .int out),(1,.box [i64 (l.getD i.toNat Ty.span.dflt).lo,i64 (l.getD i.toNat Ty.span.dflt).hi])] 2))else .zF V2 (.zG 81 [⟨.sl .int,out⟩] [.sl .int] λ(x:List Int)=>.zF U2 (.ret x))):=by kernel_rfl
theorem t99a (d:yA)(s:yG)(out:List Int)(k:Int):@Eq _ (xL prog codes bU f137 [.sl .int] 200 0 (L99 d s out k)) (bif decide (k<=s.hi)then .zF V5 (.zG 214 [⟨.zI,d⟩] [.int] λ(x:Int)=>.zF V2 (.zF ((out.length+List.length [w64 (x+k)])*9<=35184372088832/\True) (.stop (hd f137 0) (mkS 23 [(2,.ptr 0 0),(3,.ptr 1 0),(5,.own 2 .int),(6,i64 (w64 (k+1)))] [(0,.box (dC d)),(1,.box [i64 s.lo,i64 s.hi]),(2,.row 3 .int (out++[w64 (x+k)]))] 3))))else .zF U2 (.ret out)):=by kernel_rfl
theorem t49a (d:yA)(t:List yG)(e:Int)(out:List Int)(i:Int):@Eq _ (xL prog codes bU f80 [.sl .int,.int] 200 0 (L49 d t e out i)) (bif decide (i<(t.length:Int))then .zF (((0:Int)<=i/\i<(t.length:Int))/\True) (.zF Lz (.zG 137 [⟨.zI,d⟩,⟨.span,(t.getD i.toNat Ty.span.dflt)⟩] [.sl .int] λ(x:List Int)=>.zF bX (.zG 138 [⟨.sl .int,out⟩,⟨.sl .int,x⟩] [.sl .int] λ(x:List Int)=>.stop (hd f80 0) (mkS 32 [(2,.ptr 0 0),(6,.d (.sl .span t)),(7,i64 e),(8,.d (.sl .int x)),(9,i64 (w64 (i+1)))] [(0,.box (dC d))] 1))))else .zF (U2/\U2) (.ret (out,e))):=by kernel_rfl
theorem t55a (a b out:List Int)(i:Int):@Eq _ (xL prog codes bU f40 [.sl .int] 200 0 (L55 a b out i)) (bif decide (i<(a.length:Int))then .zF (((0:Int)<=i/\i<(a.length:Int))/\True) (.zF bX (.zG 44 [⟨.sl .int,b⟩,⟨.int,(a.getD i.toNat Ty.int.dflt)⟩] [.bool] λ(x:Bool)=>bif x then .zF (((0:Int)<=i/\i<(a.length:Int))/\True) (.zF V2 (.zF ((out.length+List.length [a.getD i.toNat Ty.int.dflt])*9<=35184372088832/\True) (.stop (hd f40 0) (mkS 27 [(0,.d (.sl .int a)),(1,.d (.sl .int b)),(5,.own 0 .int),(6,i64 (w64 (i+1)))] [(0,.row 3 .int (out++[a.getD i.toNat Ty.int.dflt]))] 1))))else .stop (hd f40 0) (mkS 27 [(0,.d (.sl .int a)),(1,.d (.sl .int b)),(5,.own 0 .int),(6,i64 (w64 (i+1)))] [(0,.row 3 .int out)] 1)))else .zF U2 (.ret out)):=by kernel_rfl
theorem t57a (b out:List Int)(i:Int):@Eq _ (xL prog codes bU f138 [.sl .int] 200 0 (L57 b out i)) (bif decide (i<(b.length:Int))then .zF (((0:Int)<=i/\i<(b.length:Int))/\True) (.zF bX (.zG 79 [⟨.sl .int,out⟩,⟨.int,(b.getD i.toNat Ty.int.dflt)⟩] [.sl .int] λ(x:List Int)=>.stop (hd f138 0) (mkS 23 [(1,.d (.sl .int b)),(5,.d (.sl .int x)),(6,i64 (w64 (i+1)))] [] 0)))else .zF U2 (.ret out)):=by kernel_rfl
theorem t50a (a b:List Int)(i:Int):@Eq _ (xL prog codes bU f20 [.bool] 200 0 (L50 a b i)) (bif decide (i<(a.length:Int))then .zF (((0:Int)<=i/\i<(a.length:Int))/\True) (.zF (((0:Int)<=i/\i<(b.length:Int))/\True) (bif a.getD i.toNat Ty.int.dflt != b.getD i.toNat Ty.int.dflt then .zF U2 (.ret false)else .stop (hd f20 0) (mkS 26 [(0,.d (.sl .int a)),(1,.d (.sl .int b)),(5,i64 (w64 (i+1)))] [] 0)))else .zF U2 (.ret true)):=by kernel_rfl
theorem Sq (l:List Int)(n i:Int):@Eq _ (xL prog codes bU f44 [.bool] 200 0 (Ud l n i)) (bif decide (i<(l.length:Int))then .zF (((0:Int)<=i/\i<(l.length:Int))/\True) (bif l.getD i.toNat Ty.int.dflt==n then .zF U2 (.ret true)else .stop (hd f44 0) (mkS 18 [(0,.d (.sl .int l)),(1,i64 n),(5,i64 (w64 (i+1)))] [] 0))else .zF U2 (.ret false)):=by kernel_rfl
theorem So (l:List Int)(n i:Int):@Eq _ (xL prog codes bU f79 [.sl .int] 200 0 (Uc l n i)) (bif decide (i<(l.length:Int))then .zF (((0:Int)<=i/\i<(l.length:Int))/\True) (bif decide (l.getD i.toNat Ty.int.dflt<n)then .stop (hd f79 0) (mkS 45 [(0,.d (.sl .int l)),(1,i64 n),(5,i64 (w64 (i+1)))] [] 0)else bif decide (i<(l.length:Int))then .zF (((0:Int)<=i/\i<(l.length:Int))/\True) (bif l.getD i.toNat Ty.int.dflt==n then .zF U2 (.ret l)else .zF True (.zF (((0:Int)<=0/\(0:Int)<=i/\i<=(l.length:Int))/\True) (.zF ((0+(List.drop 0 (List.take i.toNat l)).length)*9<=35184372088832/\True) (.zF V2 (.zF ((([]++List.drop 0 (List.take i.toNat l)).length+List.length [n])*9<=35184372088832/\True) (.zF (((0:Int)<=i/\i<=(l.length:Int))/\True) (.zF ((([]++List.drop 0 (List.take i.toNat l)++[n]).length+(List.drop i.toNat l).length)*9<=35184372088832/\True) (.zF U2 (.ret ([]++List.drop 0 (List.take i.toNat l)++[n]++List.drop i.toNat l))))))))))else .zF True (.zF (((0:Int)<=0/\(0:Int)<=i/\i<=(l.length:Int))/\True) (.zF ((0+(List.drop 0 (List.take i.toNat l)).length)*9<=35184372088832/\True) (.zF V2 (.zF ((([]++List.drop 0 (List.take i.toNat l)).length+List.length [n])*9<=35184372088832/\True) (.zF (((0:Int)<=i/\i<=(l.length:Int))/\True) (.zF ((([]++List.drop 0 (List.take i.toNat l)++[n]).length+(List.drop i.toNat l).length)*9<=35184372088832/\True) (.zF U2 (.ret ([]++List.drop 0 (List.take i.toNat l)++[n]++List.drop i.toNat l))))))))))else bif decide (i<(l.length:Int))then .zF (((0:Int)<=i/\i<(l.length:Int))/\True) (bif l.getD i.toNat Ty.int.dflt==n then .zF U2 (.ret l)else .zF True (.zF (((0:Int)<=0/\(0:Int)<=i/\i<=(l.length:Int))/\True) (.zF ((0+(List.drop 0 (List.take i.toNat l)).length)*9<=35184372088832/\True) (.zF V2 (.zF ((([]++List.drop 0 (List.take i.toNat l)).length+List.length [n])*9<=35184372088832/\True) (.zF (((0:Int)<=i/\i<=(l.length:Int))/\True) (.zF ((([]++List.drop 0 (List.take i.toNat l)++[n]).length+(List.drop i.toNat l).length)*9<=35184372088832/\True) (.zF U2 (.ret ([]++List.drop 0 (List.take i.toNat l)++[n]++List.drop i.toNat l))))))))))else .zF True (.zF (((0:Int)<=0/\(0:Int)<=i/\i<=(l.length:Int))/\True) (.zF ((0+(List.drop 0 (List.take i.toNat l)).length)*9<=35184372088832/\True) (.zF V2 (.zF ((([]++List.drop 0 (List.take i.toNat l)).length+List.length [n])*9<=35184372088832/\True) (.zF (((0:Int)<=i/\i<=(l.length:Int))/\True) (.zF ((([]++List.drop 0 (List.take i.toNat l)++[n]).length+(List.drop i.toNat l).length)*9<=35184372088832/\True) (.zF U2 (.ret ([]++List.drop 0 (List.take i.toNat l)++[n]++List.drop i.toNat l)))))))))):=by kernel_rfl
theorem RI (n:Int)(xs:List Int):@Eq _ (yS prog codes bU f260 2 200 [i64 n,ck true,.ptr 0 0] [(0,.box [.own 1 .int]),(1,.row 3 .int xs)] 2) (.zF V2 (.zF ((xs.length+List.length [n])*9<=35184372088832/\True) (.zF True (.ret ⟨[],[(0,.box [.own 2 .int]),(2,.row 3 .int (xs++[n]))],3⟩)))):=by kernel_rfl
def goS (out:List yG)(L:List (yG×Int)):List yG×Int:=bif eD L != 0 then([],eD L)else(out++L.map Prod.fst,0)
theorem EJ (out:List yG):goS out []=(out,0):=by simp[goS,eD]
theorem AP (out:List yG)(p:yG×Int)(L:List (yG×Int)):goS out (p::L)=bif p.2 != 0 then([],p.2)else goS (out++[p.1]) L:=by
 unfold goS
 simp only[eD]
 cases h:p.2 != 0
 ·simp
 ·simp[h]
theorem qS (L:List (yG×Int)):goS [] L=iz L:=by simp[goS,iz]
theorem JU {d:yA}{l:List Part}(hv:∀ p∈l,jV d p)(hl:l.length<=1000){r:List yG×Int}{A:List Item->AS->Prop}
  (hA:yP prog codes bU f131 (aS [.sl .span,.int]) (λ y=>y=r) 0 A) (i:Nat) (hi:i<=l.length) (out:List yG) (ho:out.length=i) (h:goS out (cz d (l.drop i))=r) :
  A (hd f131 0) (L46 d l out i):=by
 refine hA.go (t46a d l out i) (ae (λ h1=>?_) (λ h1=>?_))
 ·have h1:=oT h1
  have hil:i<l.length:=by omega
  rw[aY hil]
  rw[dG hil,cz,bn,AP]at h
  refine⟨⟨⟨by omega,by omega⟩,tv⟩,⟨T5',T5',tv⟩,_,c86 (hv _ (aN hil)),ae (λ h2=>?_) (λ h2=>⟨⟨T3',tv⟩,⟨?_,tv⟩,?_⟩)⟩
  ·rw[h2]at h;exact⟨⟨T2',T2'⟩,h⟩
  ·simp only[af,ak];omega
  ·rw[h2,cF]at h
   rw[aq (by omega)]
   exact JU hv hl hA (i+1) (by omega) _ (by simp[ho]) h
 ·have h1:=oF h1
  rw[dN (by omega),cz,dD,EJ]at h
  exact⟨⟨T2',T2'⟩,h⟩
termination_by l.length-i
theorem c46 (d:yA):yJ prog 131 [⟨.zI,d⟩] [.sl .span,.int] (dU d):=
 pcl codes bU func131 (by kernel_rfl) λ A hA=>hA.go (t46 d) (by
  generalize hr:dU d=r at hA ⊢
  unfold dU at hr
  refine⟨⟨T5',tv⟩,_,c89 d,ae (λ h=>?_) (λ h=>?_)⟩
  ·rw[h]at hr;exact⟨⟨T2',T2'⟩,hr⟩
  ·rw[h,cF]at hr
   have hk:DeckOk d:=ff (by simpa using h)
   have hp:dP d=dM d:=by unfold dP;rw[h];rfl
   have hf:=qv hk
   refine⟨⟨T5',tv⟩,_,(c90 d).eq hp,?_⟩
   exact hA.row 5 175 .span (s':=L46 d (dM d) [] 0) (by kernel_rfl) (by kernel_rfl) (JU (λ p hp=>ny hp) (by omega) hA 0 (by omega) [] rfl (by rw[bE,qS];exact hr)))
theorem JM {d:yA}{k u:Int}{n:Nat}(hv:∀ c,jV d ⟨k,u,0,c⟩)(hn:n<=48){r:List yG×Int}{A:List Item->AS->Prop}
  (hA:yP prog codes bU f290 (aS [.sl .span,.int]) (λ y=>y=r) 0 A) (i:Nat) (hi:i<=n) (out:List yG) (ho:out.length=i) (h:goS out (cz d ((cA k u n).drop i))=r) :
  A (hd f290 0) (L94 d k u n out i):=by
 have hc:(cA k u n).length=n:=by simp[cA]
 refine hA.go (t94a d k u n out i) (ae (λ h1=>?_) (λ h1=>?_))
 ·have h1:=oT h1
  have hil:i<(cA k u n).length:=by omega
  have ei:(cA k u n)[i]=⟨k,u,0,(i:Int)⟩:=by simp[cA]
  rw[dG hil,ei,cz,bn,AP]at h
  refine⟨⟨T5',T5',tv⟩,_,c85 (hv i),ae (λ h2=>?_) (λ h2=>⟨⟨T3',tv⟩,⟨?_,tv⟩,?_⟩)⟩
  ·rw[h2]at h;exact⟨⟨T2',T2'⟩,h⟩
  ·simp only[af,ak];omega
  ·rw[h2,cF]at h
   rw[aq (by omega)]
   exact JM hv hn hA (i+1) (by omega) _ (by simp[ho]) h
 ·have h1:=oF h1
  rw[dN (by omega),cz,dD,EJ]at h
  exact⟨⟨T2',T2'⟩,h⟩
termination_by n-i
theorem c94 {d:yA}{k u:Int}{n:Nat}(hv:∀ c,jV d ⟨k,u,0,c⟩)(hn:n<=48):yJ prog 290 [⟨.zI,d⟩,⟨.int,k⟩,⟨.int,u⟩,⟨.int,(n:Int)⟩] [.sl .span,.int] (iz (cz d (cA k u n))):=
 pcl codes bU func290 (by kernel_rfl) λ A hA=>hA.go (t94 d k u n)
  (hA.row 10 175 .span (s':=L94 d k u n [] 0) (by kernel_rfl) (by kernel_rfl) (JM hv hn hA 0 (by omega) [] rfl (by rw[bE,qS])))
theorem JK {t:List yG}{l:List Int}(hl:l.length<=1000){r:List yG×Int}{A:List Item->AS->Prop}
  (hA:yP prog codes bU f210 (aS [.sl .span,.int]) (λ y=>y=r) 0 A) (i:Nat) (hi:i<=l.length) (out:List yG) (ho:out.length=i) (h:jf t out (l.drop i)=r) :
  A (hd f210 0) (L96 t l out i):=by
 refine hA.go (t96a t l out i) (ae (λ h1=>?_) (λ h1=>?_))
 ·have h1:=oT h1
  have hil:i<l.length:=by omega
  rw[aY hil]
  rw[dG hil,jf]at h
  refine⟨⟨⟨by omega,by omega⟩,tv⟩,ae (λ h2=>?_) (λ h2=>ae (λ h3=>?_) (λ h3=>?_))⟩
  ·rw[h2]at h;exact⟨⟨T2',T2'⟩,h⟩
  ·rw[h2,h3]at h;exact⟨⟨T2',T2'⟩,h⟩
  ·rw[h2,h3,cF,cF]at h
   have h2:=oF h2
   have h3:=oF h3
   refine⟨⟨⟨by omega,by omega⟩,tv⟩,⟨T3',tv⟩,⟨by simp only[af,ak];omega,tv⟩,?_⟩
   rw[aq (by omega)]
   exact JK hl hA (i+1) (by omega) _ (by simp[ho]) h
 ·have h1:=oF h1
  rw[dN (by omega)]at h
  exact⟨⟨T2',T2'⟩,h⟩
termination_by l.length-i
theorem JI {t:List yG}{l:List Int}(hl:l.length<=1000){r:List yG×Int}{A:List Item->AS->Prop}
  (hA:yP prog codes bU f136 (aS [.sl .span,.int]) (λ y=>y=r) 0 A) (i:Nat) (hi:i<=l.length) (out:List yG) (ho:out.length=i) (h:jf t out (l.drop i)=r) :
  A (hd f136 0) (L98 t l out i):=by
 refine hA.go (t98a t l out i) (ae (λ h1=>?_) (λ h1=>?_))
 ·have h1:=oT h1
  have hil:i<l.length:=by omega
  rw[aY hil]
  rw[dG hil,jf]at h
  refine⟨⟨⟨by omega,by omega⟩,tv⟩,ae (λ h2=>?_) (λ h2=>⟨⟨⟨by omega,by omega⟩,tv⟩,ae (λ h3=>?_) (λ h3=>?_)⟩)⟩
  ·rw[h2]at h;exact⟨⟨T2',T2'⟩,h⟩
  ·rw[h2,h3]at h;exact⟨⟨T2',T2'⟩,h⟩
  ·rw[h2,h3,cF,cF]at h
   have h2:=oF h2
   have h3:=oF h3
   refine⟨⟨⟨by omega,by omega⟩,tv⟩,⟨⟨by omega,by omega⟩,tv⟩,⟨T3',tv⟩,⟨by simp only[af,ak];omega,tv⟩,?_⟩
   rw[aq (by omega)]
   exact JI hl hA (i+1) (by omega) _ (by simp[ho]) h
 ·have h1:=oF h1
  rw[dN (by omega)]at h
  exact⟨⟨T2',T2'⟩,h⟩
termination_by l.length-i
theorem c98 {d:yA}{l:List Int}(hl:l.length<=1000):yJ prog 136 [⟨.zI,d⟩,⟨.sl .int,l⟩] [.sl .span,.int] (cc d l):=
 pcl codes bU func136 (by kernel_rfl) λ A hA=>hA.go (t98 d l) (by
  generalize hr:cc d l=r at hA ⊢
  unfold cc at hr
  refine⟨⟨T5',tv⟩,_,c46 d,ae (λ h=>?_) (λ h=>?_)⟩
  ·rw[h]at hr;exact⟨⟨T2',T2'⟩,hr⟩
  ·rw[h,cF]at hr
   exact hA.row 8 175 .span (s':=L98 (dU d).1 l [] 0) (by kernel_rfl) (by kernel_rfl) (JI hl hA 0 (by omega) [] rfl hr))
theorem Qm {d:yA}{l:List Int}(h45:yJ prog 256 [⟨.zI,d⟩] [.sl .span,.int] (dU d))(hl:l.length<=1000):yJ prog 210 [⟨.zI,d⟩,⟨.sl .int,l⟩] [.sl .span,.int] (cc d l):=
 pcl codes bU func210 (by kernel_rfl) λ A hA=>hA.go (t96 d l) (by
  generalize hr:cc d l=r at hA ⊢
  unfold cc at hr
  refine⟨⟨T5',tv⟩,_,h45,ae (λ h=>?_) (λ h=>?_)⟩
  ·rw[h]at hr;exact⟨⟨T2',T2'⟩,hr⟩
  ·rw[h,cF]at hr
   exact hA.row 8 175 .span (s':=L96 (dU d).1 l [] 0) (by kernel_rfl) (by kernel_rfl) (JK hl hA 0 (by omega) [] rfl hr))
def C93 (l out bad:Nat):AV:=.clo (.func 289) [] [.ptr l 0,.ptr out 0,.ptr bad 0]
def L47 (d:yA)(x i:Int):AS:=mkS 45 [(1,.ptr 0 0),(3,.ptr 1 0),(4,.clo (.func 126) [] [.ptr 1 0,.ptr 0 0]),(16,.d (.sl .zJ d.zB)),(17,i64 d.zB.length),(18,i64 i)] [(0,.box (cq d)),(1,.box [i64 x])] 2
def H93 (d:yA)(bad:Int)(xs:List yG):Heap:=[(0,.box (cq d)),(1,.box [.own 3 .span]),(2,.box [i64 bad]),(3,.row 175 .span xs)]
def L45 (d:yA)(bad:Int)(out:List yG):AS:=mkS 76 [(1,.ptr 0 0),(5,.ptr 1 0),(6,.ptr 2 0),(7,C93 0 1 2)] (H93 d bad out) 4
theorem t95 (d:yA)(k u n e:Int):@Eq _ (yS prog codes fN f126 2 200 [i64 k,i64 u,i64 n,.ptr 0 0,.ptr 1 0] [(0,.box [i64 e]),(1,.box (cq d))] 2) (.stop (hd f126 0) (mkS 30 [(0,i64 k),(1,i64 u),(2,i64 n),(3,.ptr 0 0),(4,.ptr 1 0),(9,i64 0)] [(0,.box [i64 e]),(1,.box (dC d))] 2)):=by kernel_rfl
theorem t93 (d:yA)(k u r n bad:Int)(xs:List yG):@Eq _ (yS prog codes fN f289 4 200 [i64 k,i64 u,i64 r,i64 n,.ptr 0 0,.ptr 1 0,.ptr 2 0] (H93 d bad xs) 4) (.zF LA (.zG 290 [⟨.zI,d⟩,⟨.int,k⟩,⟨.int,u⟩,⟨.int,n⟩] [.sl .span,.int] λ(x:List yG×Int)=>.stop (hd f289 0) (mkS 32 [(5,.ptr 1 0),(6,.ptr 2 0),(12,.d (.sl .span x.1)),(13,i64 x.2),(22,i64 r),(23,i64 0)] [(0,.box (dC d)),(1,.box [.own 3 .span]),(2,.box [i64 bad]),(3,.row 175 .span xs)] 4))):=by kernel_rfl
theorem t47a (d:yA)(x i:Int):@Eq _ (xL prog codes fN f61 [.int] 200 0 (L47 d x i)) (bif decide (i<(d.zB.length:Int))then .zF (((0:Int)<=i/\i<(d.zB.length:Int))/\True) (.zH 126 [i64 1,i64 i,i64 (d.zB.getD i.toNat Ty.zJ.dflt).zP,.ptr 0 0,.ptr 1 0] [(0,.box [i64 x]),(1,.box (dC d))] 2 [.int] (λ(a:Int)=>yD.mk [.d (.v (.bool (a != 0)))] [(0,.box [i64 a]),(1,.box (dC d))] 2) λ(x:Int)=>bif x != 0 then .zF U2 (.ret x)else .stop (hd f61 0) (mkS 45 [(1,.ptr 0 0),(3,.ptr 1 0),(4,.clo (.func 126) [] [.ptr 1 0,.ptr 0 0]),(16,.d (.sl .zJ d.zB)),(17,i64 (d.zB.length:Int)),(18,i64 (w64 (i+1)))] [(0,.box (dC d)),(1,.box [i64 x])] 2))else .stop (hd f61 1) (mkS 45 [(3,.ptr 0 0),(4,.clo (.func 126) [] [.ptr 0 0,.ptr 1 0]),(31,.d (.sl .zN d.zC)),(32,i64 (d.zC.length:Int)),(33,i64 0)] [(0,.box [i64 x]),(1,.box (dC d))] 2)):=by kernel_rfl
theorem t45a (d:yA)(bad:Int)(out:List yG):@Eq _ (xL prog codes fN f256 [.sl .span,.int] 300 0 (L45 d bad out)) (.stop (hd f256 1) (mkS 76 [(1,.ptr 0 0),(5,.ptr 1 0),(6,.ptr 2 0),(7,.clo (.func 289) [] [.ptr 0 0,.ptr 1 0,.ptr 2 0]),(20,.d (.sl .zJ d.zB)),(21,i64 (d.zB.length:Int)),(22,i64 0)] [(0,.box (dC d)),(1,.box [.own 3 .span]),(2,.box [i64 bad]),(3,.row 175 .span out)] 4)):=by kernel_rfl
def L95 (d:yA)(k u n e c:Int):AS:=mkS 30 [(0,i64 k),(1,i64 u),(2,i64 n),(3,.ptr 0 0),(4,.ptr 1 0),(9,i64 c)] [(0,.box [i64 e]),(1,.box (cq d))] 2
def TJ (d:yA)(cs:List yG)(ce r bad:Int)(xs:List yG)(j:Int):AS:=mkS 32 [(5,.ptr 1 0),(6,.ptr 2 0),(12,.d (.sl .span cs)),(13,i64 ce),(22,i64 r),(23,i64 j)] (H93 d bad xs) 4
def TI (d:yA)(cs:List yG)(ce r bad:Int)(xs:List yG)(j:Int):AS:=mkS 32 [(5,.ptr 1 0),(6,.ptr 2 0),(12,.d (.sl .span cs)),(13,i64 ce),(22,i64 r),(23,i64 j)] [(0,.box (cq d)),(1,.box [.own 4 .span]),(2,.box [i64 bad]),(4,.row 175 .span xs)] 5
def TN (d:yA)(x i:Int):AS:=mkS 45 [(3,.ptr 0 0),(4,.clo (.func 126) [] [.ptr 0 0,.ptr 1 0]),(31,.d (.sl .zN d.zC)),(32,i64 d.zC.length),(33,i64 i)] [(0,.box [i64 x]),(1,.box (cq d))] 2
def TP (d:yA)(bad:Int)(out:List yG)(i:Int):AS:=mkS 76 [(1,.ptr 0 0),(5,.ptr 1 0),(6,.ptr 2 0),(7,C93 0 1 2),(20,.d (.sl .zJ d.zB)),(21,i64 d.zB.length),(22,i64 i)] (H93 d bad out) 4
theorem t95a (d:yA)(k u n e c:Int):@Eq _ (yL prog codes fN f126 2 200 0 (L95 d k u n e c)) (bif decide (c<n)then bif e==0 then .zF HJ (.zG 127 [⟨.zI,d⟩,⟨.part,(Part.mk k u 0 c)⟩] [.span,.int] λ(x:yG×Int)=>.stop (hd f126 0) (mkS 30 [(0,i64 k),(1,i64 u),(2,i64 n),(3,.ptr 0 0),(4,.ptr 1 0),(9,i64 (w64 (c+1)))] [(0,.box [i64 x.2]),(1,.box (dC d))] 2))else .zF True (.ret ⟨[.d (.v (.bool (e != 0)))],[(0,.box [i64 e]),(1,.box (dC d))],2⟩)else .zF True (.ret ⟨[.d (.v (.bool (e != 0)))],[(0,.box [i64 e]),(1,.box (dC d))],2⟩)):=by kernel_rfl
theorem t93a (d:yA)(cs:List yG)(ce r bad:Int)(xs:List yG)(j:Int):@Eq _ (yL prog codes fN f289 4 200 0 (TJ d cs ce r bad xs j)) (bif decide (j<r)then .zF ((xs.length+cs.length)*17<=35184372088832/\True) (.stop (hd f289 0) (mkS 32 [(5,.ptr 1 0),(6,.ptr 2 0),(12,.d (.sl .span cs)),(13,i64 ce),(22,i64 r),(23,i64 (w64 (j+1)))] [(0,.box (dC d)),(1,.box [.own 4 .span]),(2,.box [i64 bad]),(4,.row 175 .span (xs++cs))] 5))else .zF True (.ret ⟨[.d (.v (.bool (ce==0)))],[(0,.box (dC d)),(1,.box [.own 3 .span]),(2,.box [i64 ce]),(3,.row 175 .span xs)],4⟩)):=by kernel_rfl
theorem t93b (d:yA)(cs:List yG)(ce r bad:Int)(xs:List yG)(j:Int):@Eq _ (yL prog codes fN f289 4 200 0 (TI d cs ce r bad xs j)) (bif decide (j<r)then .zF ((xs.length+cs.length)*17<=35184372088832/\True) (.stop (hd f289 0) (mkS 32 [(5,.ptr 1 0),(6,.ptr 2 0),(12,.d (.sl .span cs)),(13,i64 ce),(22,i64 r),(23,i64 (w64 (j+1)))] [(0,.box (dC d)),(1,.box [.own 4 .span]),(2,.box [i64 bad]),(4,.row 175 .span (xs++cs))] 5))else .zF True (.ret ⟨[.d (.v (.bool (ce==0)))],[(0,.box (dC d)),(1,.box [.own 4 .span]),(2,.box [i64 ce]),(4,.row 175 .span xs)],5⟩)):=by kernel_rfl
theorem t47b (d:yA)(x i:Int):@Eq _ (xL prog codes fN f61 [.int] 200 1 (TN d x i)) (bif decide (i<(d.zC.length:Int))then .zF (((0:Int)<=i/\i<(d.zC.length:Int))/\True) (.zH 126 [i64 2,i64 i,i64 (d.zC.getD i.toNat Ty.zN.dflt).zP,.ptr 0 0,.ptr 1 0] [(0,.box [i64 x]),(1,.box (dC d))] 2 [.int] (λ(a:Int)=>yD.mk [.d (.v (.bool (a != 0)))] [(0,.box [i64 a]),(1,.box (dC d))] 2) λ(x:Int)=>bif x != 0 then .zF U2 (.ret x)else .stop (hd f61 1) (mkS 45 [(3,.ptr 0 0),(4,.clo (.func 126) [] [.ptr 0 0,.ptr 1 0]),(31,.d (.sl .zN d.zC)),(32,i64 (d.zC.length:Int)),(33,i64 (w64 (i+1)))] [(0,.box [i64 x]),(1,.box (dC d))] 2))else .zF U2 (.ret (0:Int))):=by kernel_rfl
theorem t45b (d:yA)(bad:Int)(out:List yG)(i:Int):@Eq _ (xL prog codes fN f256 [.sl .span,.int] 300 1 (TP d bad out i)) (bif decide (i<(d.zB.length:Int))then .zF (((0:Int)<=i/\i<(d.zB.length:Int))/\True) (.zH 289 [i64 1,i64 i,i64 (d.zB.getD i.toNat Ty.zJ.dflt).rows,i64 (d.zB.getD i.toNat Ty.zJ.dflt).zP,.ptr 0 0,.ptr 1 0,.ptr 2 0] [(0,.box (dC d)),(1,.box [.own 3 .span]),(2,.box [i64 bad]),(3,.row 175 .span out)] 4 [.sl .span,.int] (λ(a:List yG×Int)=>yD.mk [.d (.v (.bool (a.2==0)))] [(0,.box (dC d)),(1,.box [.own 4 .span]),(2,.box [i64 a.2]),(4,.row 175 .span a.1)] 5) λ(x:List yG×Int)=>bif !x.2==0 then bif x.2 != 0 then .zF (U2/\U2) (.ret ([],x.2))else .stop (hd f256 3) (mkS 76 [(5,.ptr 0 0),(59,i64 (w64 ((d.zA.length:Int)-(1:Int)))),(60,i64 0)] [(0,.box [.own 1 .span]),(1,.row 175 .span x.1)] 2)else .stop (hd f256 1) (mkS 76 [(1,.ptr 0 0),(5,.ptr 1 0),(6,.ptr 2 0),(7,.clo (.func 289) [] [.ptr 0 0,.ptr 1 0,.ptr 2 0]),(20,.d (.sl .zJ d.zB)),(21,i64 (d.zB.length:Int)),(22,i64 (w64 (i+1)))] [(0,.box (dC d)),(1,.box [.own 3 .span]),(2,.box [i64 x.2]),(3,.row 175 .span x.1)] 4))else .stop (hd f256 2) (mkS 76 [(1,.ptr 0 0),(5,.ptr 1 0),(6,.ptr 2 0),(7,.clo (.func 289) [] [.ptr 0 0,.ptr 1 0,.ptr 2 0]),(37,.d (.sl .zN d.zC)),(38,i64 (d.zC.length:Int)),(39,i64 0)] [(0,.box (dC d)),(1,.box [.own 3 .span]),(2,.box [i64 bad]),(3,.row 175 .span out)] 4)):=by kernel_rfl
def TO (d:yA)(bad:Int)(out:List yG)(i:Int):AS:=mkS 76 [(1,.ptr 0 0),(5,.ptr 1 0),(6,.ptr 2 0),(7,C93 0 1 2),(37,.d (.sl .zN d.zC)),(38,i64 d.zC.length),(39,i64 i)] (H93 d bad out) 4
def QJ (n:Int)(out:List yG)(i:Int):AS:=mkS 76 [(5,.ptr 0 0),(59,i64 n),(60,i64 i)] [(0,.box [.own 1 .span]),(1,.row 175 .span out)] 2
theorem t45c (d:yA)(bad:Int)(out:List yG)(i:Int):@Eq _ (xL prog codes fN f256 [.sl .span,.int] 300 2 (TO d bad out i)) (bif decide (i<(d.zC.length:Int))then .zF (((0:Int)<=i/\i<(d.zC.length:Int))/\True) (.zH 289 [i64 2,i64 i,i64 (d.zC.getD i.toNat Ty.zN.dflt).rows,i64 (d.zC.getD i.toNat Ty.zN.dflt).zP,.ptr 0 0,.ptr 1 0,.ptr 2 0] [(0,.box (dC d)),(1,.box [.own 3 .span]),(2,.box [i64 bad]),(3,.row 175 .span out)] 4 [.sl .span,.int] (λ(a:List yG×Int)=>yD.mk [.d (.v (.bool (a.2==0)))] [(0,.box (dC d)),(1,.box [.own 4 .span]),(2,.box [i64 a.2]),(4,.row 175 .span a.1)] 5) λ(x:List yG×Int)=>bif !x.2==0 then bif x.2 != 0 then .zF (U2/\U2) (.ret ([],x.2))else .stop (hd f256 3) (mkS 76 [(5,.ptr 0 0),(59,i64 (w64 ((d.zA.length:Int)-(1:Int)))),(60,i64 0)] [(0,.box [.own 1 .span]),(1,.row 175 .span x.1)] 2)else .stop (hd f256 2) (mkS 76 [(1,.ptr 0 0),(5,.ptr 1 0),(6,.ptr 2 0),(7,.clo (.func 289) [] [.ptr 0 0,.ptr 1 0,.ptr 2 0]),(37,.d (.sl .zN d.zC)),(38,i64 (d.zC.length:Int)),(39,i64 (w64 (i+1)))] [(0,.box (dC d)),(1,.box [.own 3 .span]),(2,.box [i64 x.2]),(3,.row 175 .span x.1)] 4))else bif bad != 0 then .zF (U2/\U2) (.ret ([],bad))else .stop (hd f256 3) (mkS 76 [(5,.ptr 0 0),(59,i64 (w64 ((d.zA.length:Int)-(1:Int)))),(60,i64 0)] [(0,.box [.own 1 .span]),(1,.row 175 .span out)] 2)):=by kernel_rfl
theorem t45d (n:Int)(out:List yG)(i:Int):@Eq _ (xL prog codes fN f256 [.sl .span,.int] 300 3 (QJ n out i)) (bif decide (i<n)then .zF V3 (.zF ((out.length+List.length [yG.mk i i])*17<=35184372088832/\True) (.stop (hd f256 3) (mkS 76 [(5,.ptr 0 0),(59,i64 n),(60,i64 (w64 (i+1)))] [(0,.box [.own 1 .span]),(1,.row 175 .span (out++[yG.mk i i]))] 2)))else .zF ((0:Int)<=0/\(0:Int)<=(out.length:Int)/\(out.length:Int)<=(out.length:Int)/\(out.length:Int)<=(out.length:Int)) (.zF ((0+((out.length:Int).toNat-0)<=out.length/\True)/\U2) (.ret (List.take ((out.length:Int).toNat-0) (List.drop 0 out),(0:Int))))):=by kernel_rfl
theorem t47z (d:yA):@Eq _ (xS prog codes fN f61 [.int] 300 [⟨.zI,d⟩]) (.zF V5 (.zG 125 [⟨.zI,d⟩] [.int] λ(x:Int)=>bif x != 0 then .zF U2 (.ret x)else .stop (hd f61 0) (mkS 45 [(1,.ptr 0 0),(3,.ptr 1 0),(4,.clo (.func 126) [] [.ptr 1 0,.ptr 0 0]),(16,.d (.sl .zJ d.zB)),(17,i64 (d.zB.length:Int)),(18,i64 0)] [(0,.box (dC d)),(1,.box [i64 x])] 2))):=by kernel_rfl
theorem t45z (d:yA):@Eq _ (xS prog codes fN f256 [.sl .span,.int] 300 [⟨.zI,d⟩]) (.zF V5 (.zG 125 [⟨.zI,d⟩] [.int] λ(x:Int)=>bif x != 0 then .zF (U2/\U2) (.ret ([],x))else .stop (hd f256 0) (mkS 76 [(1,.ptr 0 0),(5,.ptr 1 0),(6,.ptr 2 0),(7,.clo (.func 289) [] [.ptr 0 0,.ptr 1 0,.ptr 2 0])] [(0,.box (dC d)),(1,.box [nS]),(2,.box [i64 0])] 3))):=by kernel_rfl
def H95 (d:yA)(e:Int):Heap:=[(0,.box [i64 e]),(1,.box (cq d))]
theorem JL {d:yA}{k u:Int}{n:Nat}(hv:∀ c,jV d ⟨k,u,0,c⟩)(hn:n<=48){x:Int}{A:List Item->AS->Prop}
  (hA:yP prog codes fN f126 (eW 2) (λ r'=>yD.Le r' (DA (H95 d 0) x)) 2 A) (i:Nat) (hi:i<=n) (e:Int) (h:(bif e != 0 then e else eD (cz d ((cA k u n).drop i)))=x) :
  A (hd f126 0) (L95 d k u n e i):=by
 have hc:(cA k u n).length=n:=by simp[cA]
 have fin:e=x->Sat prog A (λ r'=>yD.Le r' (DA (H95 d 0) x)) (.zF True (.ret ⟨[.d (.v (.bool (e != 0)))],[(0,.box [i64 e]),(1,.box (cq d))],2⟩)):=λ e'=>by
  subst e'
  exact⟨tv,.of_eq rfl⟩
 refine hA.go (t95a d k u n e i) (ae (λ h1=>ae (λ h2=>?_) (λ h2=>?_)) (λ h1=>?_))
 ·have h1:=oT h1
  have he:e=0:=by simpa using h2
  have hil:i<(cA k u n).length:=by omega
  have ei:(cA k u n)[i]=⟨k,u,0,(i:Int)⟩:=by simp[cA]
  rw[dG hil,ei,cz,bn,he]at h
  refine⟨⟨T5',T5',tv⟩,_,c85 (hv i),?_⟩
  show A (hd f126 0) (L95 d k u n (jp d ⟨k,u,0,(i:Int)⟩).2 (w64 ((i:Int)+1)))
  rw[aq (by omega)]
  refine JL hv hn hA (i+1) (by omega) _ ?_
  rw[<-h];rfl
 ·refine fin ?_
  have:(e != 0)=true:=by simpa using h2
  rw[this]at h;exact h
 ·refine fin ?_
  have h1:=oF h1
  rw[dN (by omega)]at h
  cases he:e != 0
  ·rw[he]at h
   have:e=0:=by simpa using he
   rw[this,<-h];rfl
  ·rw[he]at h;exact h
termination_by n-i
theorem c95 {d:yA}{k u n:Int}(hv:∀ c,jV d ⟨k,u,0,c⟩)(h0:0<=n)(hn:n<=48) :
  Gc prog 126 [i64 k,i64 u,i64 n,.ptr 0 0,.ptr 1 0] (H95 d 0) 2 (DA (H95 d 0) (eD (cz d (cA k u n.toNat)))):=by
 obtain⟨N,rfl⟩:=cO h0
 refine Gc.of_closed (C:=codes) (S:=fN) mixed func126 (by kernel_rfl) (λ i T t xs hi h=>?_) λ A hA=>hA.go (t95 d k u N 0) ?_
 ·rcases(by omega:i=0\/i=1)with rfl|rfl
  ·have h:some (ABlk.box [i64 _])=some (ABlk.row T t xs):=h
   cases h
  ·have h:some (ABlk.box (cq d))=some (ABlk.row T t xs):=h
   cases h
 ·exact JL hv (by omega) hA 0 (by omega) 0 (by rw[bE];rfl)
theorem qj (d:yA){k u:Int}{b:Go.VL.Box}(h:cW b=true):eD (cz d (dc k u b.rows b.zP))=eD (cz d (cA k u b.zP.toNat)):=by
 obtain⟨h1,h2,h3,h4⟩:=ir.1 h
 rw[uj d (by omega) (by omega)]
 obtain⟨m,hm⟩:∃ m,b.rows.toNat=m+1:=⟨b.rows.toNat-1,by omega⟩
 rw[hm,AZ]
theorem pL (d:yA){k u:Int}{b:Go.VL.Box}(h:cW b=true):(cz d (dc k u b.rows b.zP)).map Prod.fst=(List.replicate b.rows.toNat ((cz d (cA k u b.zP.toNat)).map Prod.fst)).flatten:=by
 obtain⟨h1,h2,h3,h4⟩:=ir.1 h
 rw[uj d (by omega) (by omega),List.map_flatten,List.map_replicate]
theorem LS (L:List (yG×Int)):(iz L).2=eD L:=by
 unfold iz
 cases h:eD L != 0
 ·have:eD L=0:=by simpa using h
  rw[this];rfl
 ·rfl
theorem EK (out:List yG)(L M:List (yG×Int)):goS out (L++M)=bif eD L != 0 then([],eD L)else goS (out++L.map Prod.fst) M:=by
 unfold goS
 rw[nZ]
 cases h:eD L != 0
 ·simp
 ·simp[h]
theorem Ei {d:yA}(hk:DeckOk d){r:Int}{A:Pr}(hA:CL codes fN f61 [.int] r A)
  (i:Nat) (hi:i<=d.zC.length) (h:eD (cz d (vr d i))=r):A (hd f61 1) (TN d 0 i):=by
 have e2:=AF d
 have h5:=hk.zC
 refine hA.go (t47b d 0 i) (ae (λ h1=>?_) (λ h1=>?_))
 ·have h1:=oT h1
  have hil:i<d.zC.length:=by omega
  have hib:i<(aU d).length:=by omega
  have eb:(aU d)[i]=iB d.zC[i]:=by simp[aU]
  have hb:=hk.boxR _ (aN hib)
  rw[eb]at hb
  obtain⟨b1,b2,b3,b4⟩:=ir.1 hb
  rw[aY hil]
  have hu:dr 2 (i:Int) ((aU d).drop i)=dc 2 i (iB d.zC[i]).rows (iB d.zC[i]).zP++dr 2 ((i+1:Nat):Int) ((aU d).drop (i+1)):=by
   rw[dG hib,eb,dr];rfl
  rw[vr,hu,bk,cz,bT,nZ,<-cz,<-cz,qj d hb]at h
  refine⟨⟨⟨by omega,by omega⟩,tv⟩,eD (cz d (cA 2 i (iB d.zC[i]).zP.toNat)),c95 (λ c=>.inr (.inl ⟨rfl,by simp,by simp;omega⟩)) (n:=d.zC[i].zP) (by show 0<=(iB d.zC[i]).zP;omega) (by show(iB d.zC[i]).zP<=48;omega),ae (λ h2=>?_) (λ h2=>?_)⟩
  ·rw[h2]at h;exact⟨T2',h⟩
  ·rw[h2,cF]at h
   have h0:eD (cz d (cA 2 i (iB d.zC[i]).zP.toNat))=0:=by simpa using h2
   rw[h0,aq (by omega)]
   exact Ei hk hA (i+1) (by omega) h
 ·have h1:=oF h1
  rw[vr,dN (by omega)]at h
  have h:eD (cz d (fH (d.zA.length-1)))=r:=h
  rw[wd]at h
  exact⟨T2',h⟩
termination_by d.zC.length-i
theorem Ej {d:yA}(hk:DeckOk d){r:Int}{A:Pr}(hA:CL codes fN f61 [.int] r A)
  (i:Nat) (hi:i<=d.zB.length) (h:eD (cz d (oJ d i))=r):A (hd f61 0) (L47 d 0 i):=by
 have e2:=AG d
 have h5:=hk.zB
 refine hA.go (t47a d 0 i) (ae (λ h1=>?_) (λ h1=>?_))
 ·have h1:=oT h1
  have hil:i<d.zB.length:=by omega
  have hib:i<(aM d).length:=by omega
  have eb:(aM d)[i]=fe d.zB[i]:=by simp[aM]
  have hb:=hk.boxP _ (aN hib)
  rw[eb]at hb
  obtain⟨b1,b2,b3,b4⟩:=ir.1 hb
  rw[aY hil]
  have hu:dr 1 (i:Int) ((aM d).drop i)=dc 1 i (fe d.zB[i]).rows (fe d.zB[i]).zP++dr 1 ((i+1:Nat):Int) ((aM d).drop (i+1)):=by
   rw[dG hib,eb,dr];rfl
  rw[oJ,hu,bk,cz,bT,nZ,<-cz,<-cz,qj d hb]at h
  refine⟨⟨⟨by omega,by omega⟩,tv⟩,eD (cz d (cA 1 i (fe d.zB[i]).zP.toNat)),c95 (λ c=>.inl ⟨rfl,by simp,by simp;omega⟩) (n:=d.zB[i].zP) (by show 0<=(fe d.zB[i]).zP;omega) (by show(fe d.zB[i]).zP<=48;omega),ae (λ h2=>?_) (λ h2=>?_)⟩
  ·rw[h2]at h;exact⟨T2',h⟩
  ·rw[h2,cF]at h
   have h0:eD (cz d (cA 1 i (fe d.zB[i]).zP.toNat))=0:=by simpa using h2
   rw[h0,aq (by omega)]
   exact Ej hk hA (i+1) (by omega) h
 ·have h1:=oF h1
  rw[oJ,dN (by omega)]at h
  exact Ei hk hA 0 (by omega) h
termination_by d.zB.length-i
theorem c47 (d:yA):yJ prog 61 [⟨.zI,d⟩] [.int] (df d):=
 pcl codes fN func61 (by kernel_rfl) λ A hA=>hA.go (t47z d) (by
  generalize hr:df d=r at hA ⊢
  unfold df dU at hr
  refine⟨⟨T5',tv⟩,_,c92 d,ae (λ h=>?_) (λ h=>?_)⟩
  ·rw[h]at hr;exact⟨T2',hr⟩
  ·rw[h,cF,LS]at hr
   have h0:dw d=0:=by simpa using h
   rw[h0]
   exact Ej (ff h0) hA 0 (by omega) hr)
theorem DZ {d:yA}{cs xs0 l:List yG}{ce bad bad0:Int}{R:Nat}(hR:R<=32)(hc:cs.length<=48){A:List Item->AS->Prop}
  (hA:yP prog codes fN f289 (eW 4) (λ r'=>yD.Le r' (IA (H93 d bad0 xs0) l ce)) 4 A) (j:Nat) (hj:j<=R) (xs:List yG) (hx:xs.length<=100000+48*j)
  (h:xs++(List.replicate (R-j) cs).flatten=l):A (hd f289 0) (TI d cs ce R bad xs j):=by
 refine hA.go (t93b d cs ce R bad xs j) (ae (λ h1=>?_) (λ h1=>?_))
 ·have h1:=oT h1
  refine⟨⟨by omega,tv⟩,?_⟩
  rw[aq (by omega)]
  refine DZ hR hc hA (j+1) (by omega) _ (by rw[al];omega) ?_
  have e:R-j=(R-(j+1))+1:=by omega
  rw[e,dI,iO]at h
  rw[bk];exact h
 ·have h1:=oF h1
  have e:R-j=0:=by omega
  rw[e]at h
  have h:xs=l:=by simpa using h
  subst h
  exact⟨tv,.of_eq rfl⟩
termination_by R-j
theorem c93 {d:yA}{k u r n bad:Int}{xs:List yG}(hv:∀ c,jV d ⟨k,u,0,c⟩)(hb:cW ⟨r,n⟩=true)(hx:xs.length<=90000) :
  Gc prog 289 [i64 k,i64 u,i64 r,i64 n,.ptr 0 0,.ptr 1 0,.ptr 2 0] (H93 d bad xs) 4
   (IA (H93 d bad xs) (xs++(List.replicate r.toNat (iz (cz d (cA k u n.toNat))).1).flatten) (iz (cz d (cA k u n.toNat))).2):=by
 obtain⟨h1,h2,h3,h4⟩:=ir.1 hb
 simp only at h1 h2 h3 h4
 obtain⟨N,rfl⟩:=cO (show 0<=n by omega)
 obtain⟨R,rfl⟩:=cO (show 0<=r by omega)
 have hc:(iz (cz d (cA k u N))).1.length<=48:=by
  unfold iz
  cases eD (cz d (cA k u N)) != 0
  ·simp[cA];omega
  ·simp
 refine Gc.of_closed (C:=codes) (S:=fN) mixed func289 (by kernel_rfl) (λ i T t ys hi h=>?_) λ A hA=>hA.go (t93 d k u R N bad xs) ⟨⟨T5',T2',T2',T2',tv⟩,_,c94 hv (by omega),?_⟩
 ·rcases(by omega:i=0\/i=1\/i=2\/i=3)with rfl|rfl|rfl|rfl
  ·have h:some (ABlk.box (cq d))=some (ABlk.row T t ys):=h
   cases h
  ·have h:some (ABlk.box [.own 4 .span])=some (ABlk.row T t ys):=h
   cases h
  ·have h:some (ABlk.box [i64 _])=some (ABlk.row T t ys):=h
   cases h
  ·have h:(none:Option ABlk)=some (ABlk.row T t ys):=h
   cases h
 ·show A (hd f289 0) (TJ d (iz (cz d (cA k u N))).1 (iz (cz d (cA k u N))).2 R bad xs ((0:Nat):Int))
  refine hA.go (t93a d _ _ R bad xs ((0:Nat):Int)) (ae (λ h1=>⟨⟨by omega,tv⟩,?_⟩) (λ h1=>absurd (oF h1) (by omega)))
  rw[aq (by omega)]
  refine DZ (bad:=bad) (by omega) hc hA (0+1) (by omega) _ (by rw[al];omega) ?_
  obtain⟨m,hm⟩:∃ m,R=m+1:=⟨R-1,by omega⟩
  subst hm
  rw[bk]
  simp only[au,dI,iO,cE,Nat.add_sub_cancel]
theorem Ek {n:Nat}(hn:n<=100){r:List yG×Int}{A:Pr}(hA:CL codes fN f256 [.sl .span,.int] r A)
  (i:Nat) (hi:i<=n) (out:List yG) (ho:out.length<=100000+i) (h:(out++((List.range n).map λ i:Nat=>(⟨(i:Int),(i:Int)⟩:yG)).drop i,0)=r):A (hd f256 3) (QJ n out i):=by
 refine hA.go (t45d n out i) (ae (λ h1=>?_) (λ h1=>?_))
 ·have h1:=oT h1
  refine⟨⟨T3',tv⟩,⟨by simp only[af,ak];omega,tv⟩,?_⟩
  rw[aq (by omega)]
  refine Ek hn hA (i+1) (by omega) _ (by simp;omega) ?_
  rw[dG (by simp;omega)]at h
  simpa using h
 ·have h1:=oF h1
  have e:i=n:=by omega
  subst e
  rw[dN (by simp),fU]at h
  refine⟨⟨by omega,by omega,by omega,by omega⟩,⟨⟨by omega,tv⟩,T2'⟩,?_⟩
  show(_,_)=r
  rw[<-h]
  simp
termination_by n-i
theorem Hr (d:yA)(n:Nat):(cz d (fH n)).map Prod.fst=(List.range n).map λ i:Nat=>(⟨(i:Int),(i:Int)⟩:yG):=by
 rw[wg,iN];rfl
theorem JV {d:yA}(hk:DeckOk d){r:List yG×Int}{A:Pr}(hA:CL codes fN f256 [.sl .span,.int] r A)
  (out:List yG) (ho:out.length<=100000) (h:goS out (cz d (fH (d.zA.length-1)))=r):A (hd f256 3) (QJ (w64 ((d.zA.length:Int)-1)) out 0):=by
 have hl:=hk.lanes
 have e:w64 ((d.zA.length:Int)-1)=((d.zA.length-1:Nat):Int):=by rw[an (by omega) (by omega)];omega
 rw[e]
 refine Ek (by omega) hA 0 (by omega) out (by omega) ?_
 rw[<-h,goS,wd,Hr,bE];rfl
theorem El {d:yA}(hk:DeckOk d){r:List yG×Int}{A:Pr}(hA:CL codes fN f256 [.sl .span,.int] r A)
  (i:Nat) (hi:i<=d.zC.length) (out:List yG) (ho:out.length<=10000+1536*i) (h:goS out (cz d (vr d i))=r):A (hd f256 2) (TO d 0 out i):=by
 have e2:=AF d
 have h5:=hk.zC
 refine hA.go (t45c d 0 out i) (ae (λ h1=>?_) (λ h1=>?_))
 ·have h1:=oT h1
  have hil:i<d.zC.length:=by omega
  have hib:i<(aU d).length:=by omega
  have eb:(aU d)[i]=iB d.zC[i]:=by simp[aU]
  have hb:=hk.boxR _ (aN hib)
  rw[eb]at hb
  rw[aY hil]
  have hu:dr 2 (i:Int) ((aU d).drop i)=dc 2 i (iB d.zC[i]).rows (iB d.zC[i]).zP++dr 2 ((i+1:Nat):Int) ((aU d).drop (i+1)):=by
   rw[dG hib,eb,dr];rfl
  rw[vr,hu,bk,cz,bT,EK,<-cz,<-cz,qj d hb,pL d hb]at h
  have hs:=eH hb
  have hpl:=ib 2 i (iB d.zC[i]).rows (iB d.zC[i]).zP
  have hml:((cz d (dc 2 i (iB d.zC[i]).rows (iB d.zC[i]).zP)).map Prod.fst).length<=1536:=by simp only[bH];rw[hpl];omega
  rw[pL d hb]at hml
  refine⟨⟨⟨by omega,by omega⟩,tv⟩,((out++(List.replicate d.zC[i].rows.toNat (iz (cz d (cA 2 i d.zC[i].zP.toNat))).1).flatten,(iz (cz d (cA 2 i d.zC[i].zP.toNat))).2):List yG×Int),c93 (d:=d) (k:=2) (u:=(i:Int)) (bad:=0) (xs:=out) (λ c=>.inr (.inl ⟨rfl,by simp,by simp;omega⟩)) (r:=d.zC[i].rows) (n:=d.zC[i].zP) hb (by omega),?_⟩
  cases h2:eD (cz d (cA 2 i (iB d.zC[i]).zP.toNat)) != 0
  ·have h0:eD (cz d (cA 2 i (iB d.zC[i]).zP.toNat))=0:=by simpa using h2
   rw[h2,cF]at h
   have et:iz (cz d (cA 2 i d.zC[i].zP.toNat))=((cz d (cA 2 i (iB d.zC[i]).zP.toNat)).map Prod.fst,0):=by
    show iz (cz d (cA 2 i (iB d.zC[i]).zP.toNat))=_
    unfold iz;rw[h2];rfl
   rw[et]
   rw[aq (by omega)]
   exact El hk hA (i+1) (by omega) _ (by rw[al];exact bj (ke hml _) (by omega)) h
  ·rw[h2,cT]at h
   have et:iz (cz d (cA 2 i d.zC[i].zP.toNat))=([],eD (cz d (cA 2 i (iB d.zC[i]).zP.toNat))):=by
    show iz (cz d (cA 2 i (iB d.zC[i]).zP.toNat))=_
    unfold iz;rw[h2];rfl
   rw[et]
   have h3:(eD (cz d (cA 2 i (iB d.zC[i]).zP.toNat))==0)=false:=by simpa using h2
   refine ae (λ _=>ae (λ _=>⟨⟨T2',T2'⟩,h⟩) (λ h4=>?_)) (λ h4=>?_)
   ·exact absurd (h2.symm.trans h4) (by decide)
   ·have h4:(eD (cz d (cA 2 i (iB d.zC[i]).zP.toNat))==0)=true:=nf h4
    rw[h3]at h4;cases h4
 ·have h1:=oF h1
  rw[vr,dN (by omega)]at h
  exact ae (λ h=>by cases h) (λ _=>JV hk hA out (by omega) h)
termination_by d.zC.length-i
theorem Em {d:yA}(hk:DeckOk d){r:List yG×Int}{A:Pr}(hA:CL codes fN f256 [.sl .span,.int] r A)
  (i:Nat) (hi:i<=d.zB.length) (out:List yG) (ho:out.length<=1536*i) (h:goS out (cz d (oJ d i))=r):A (hd f256 1) (TP d 0 out i):=by
 have e2:=AG d
 have h5:=hk.zB
 refine hA.go (t45b d 0 out i) (ae (λ h1=>?_) (λ h1=>?_))
 ·have h1:=oT h1
  have hil:i<d.zB.length:=by omega
  have hib:i<(aM d).length:=by omega
  have eb:(aM d)[i]=fe d.zB[i]:=by simp[aM]
  have hb:=hk.boxP _ (aN hib)
  rw[eb]at hb
  rw[aY hil]
  have hu:dr 1 (i:Int) ((aM d).drop i)=dc 1 i (fe d.zB[i]).rows (fe d.zB[i]).zP++dr 1 ((i+1:Nat):Int) ((aM d).drop (i+1)):=by
   rw[dG hib,eb,dr];rfl
  rw[oJ,hu,bk,cz,bT,EK,<-cz,<-cz,qj d hb,pL d hb]at h
  have hs:=eH hb
  have hpl:=ib 1 i (fe d.zB[i]).rows (fe d.zB[i]).zP
  have hml:((cz d (dc 1 i (fe d.zB[i]).rows (fe d.zB[i]).zP)).map Prod.fst).length<=1536:=by simp only[bH];rw[hpl];omega
  rw[pL d hb]at hml
  refine⟨⟨⟨by omega,by omega⟩,tv⟩,((out++(List.replicate d.zB[i].rows.toNat (iz (cz d (cA 1 i d.zB[i].zP.toNat))).1).flatten,(iz (cz d (cA 1 i d.zB[i].zP.toNat))).2):List yG×Int),c93 (d:=d) (k:=1) (u:=(i:Int)) (bad:=0) (xs:=out) (λ c=>.inl ⟨rfl,by simp,by simp;omega⟩) (r:=d.zB[i].rows) (n:=d.zB[i].zP) hb (by omega),?_⟩
  cases h2:eD (cz d (cA 1 i (fe d.zB[i]).zP.toNat)) != 0
  ·have h0:eD (cz d (cA 1 i (fe d.zB[i]).zP.toNat))=0:=by simpa using h2
   rw[h2,cF]at h
   have et:iz (cz d (cA 1 i d.zB[i].zP.toNat))=((cz d (cA 1 i (fe d.zB[i]).zP.toNat)).map Prod.fst,0):=by
    show iz (cz d (cA 1 i (fe d.zB[i]).zP.toNat))=_
    unfold iz;rw[h2];rfl
   rw[et]
   rw[aq (by omega)]
   exact Em hk hA (i+1) (by omega) _ (by rw[al];exact bj (ke hml _) (by omega)) h
  ·rw[h2,cT]at h
   have et:iz (cz d (cA 1 i d.zB[i].zP.toNat))=([],eD (cz d (cA 1 i (fe d.zB[i]).zP.toNat))):=by
    show iz (cz d (cA 1 i (fe d.zB[i]).zP.toNat))=_
    unfold iz;rw[h2];rfl
   rw[et]
   have h3:(eD (cz d (cA 1 i (fe d.zB[i]).zP.toNat))==0)=false:=by simpa using h2
   refine ae (λ _=>ae (λ _=>⟨⟨T2',T2'⟩,h⟩) (λ h4=>?_)) (λ h4=>?_)
   ·exact absurd (h2.symm.trans h4) (by decide)
   ·have h4:(eD (cz d (cA 1 i (fe d.zB[i]).zP.toNat))==0)=true:=nf h4
    rw[h3]at h4;cases h4
 ·have h1:=oF h1
  rw[oJ,dN (by omega)]at h
  exact El hk hA 0 (by omega) out (by have:=hk.zB;omega) h
termination_by d.zB.length-i
theorem c45 (d:yA):yJ prog 256 [⟨.zI,d⟩] [.sl .span,.int] (dU d):=
 pcl codes fN func256 (by kernel_rfl) λ A hA=>hA.go (t45z d) (by
  generalize hr:dU d=r at hA ⊢
  unfold dU at hr
  refine⟨⟨T5',tv⟩,_,c92 d,ae (λ h=>?_) (λ h=>?_)⟩
  ·rw[h]at hr;exact⟨⟨T2',T2'⟩,hr⟩
  ·rw[h,cF]at hr
   have hk:DeckOk d:=ff (by simpa using h)
   refine hA.boxrow 1 0 175 .span (s':=L45 d 0 []) (by kernel_rfl) (by kernel_rfl) (hA.go (t45a d 0 []) ?_)
   exact Em hk hA 0 (by omega) [] (by simp) (by rw[<-hr,<-qS];rfl))
theorem c96 {d:yA}{l:List Int}(hl:l.length<=1000):yJ prog 210 [⟨.zI,d⟩,⟨.sl .int,l⟩] [.sl .span,.int] (cc d l):=Qm (c45 d) hl
theorem EC {l:List Int}{n:Int}(hl:l.length<=1000000){r:Bool}{A:Pr}(hA:CL codes bU f44 [.bool] r A)
  (i:Nat) (hi:i<=l.length) (h:(l.drop i).elem n=r):A (hd f44 0) (Ud l n i):=by
 refine hA.go (Sq l n i) (ae (λ h1=>?_) (λ h1=>?_))
 ·have h1:=oT h1
  have hil:i<l.length:=by omega
  rw[aY hil]
  rw[dG hil,List.elem_cons]at h
  refine⟨⟨⟨by omega,by omega⟩,tv⟩,ae (λ h2=>?_) (λ h2=>?_)⟩
  ·have e:l[i]=n:=by simpa using h2
   subst e
   refine⟨⟨tv,tv⟩,?_⟩
   have h:r=true:=by simpa using h
   exact h.symm
  ·have e:¬ l[i]=n:=by simpa using h2
   have e2:(n==l[i])=false:=by simpa using λ h=>e h.symm
   rw[e2]at h
   rw[aq (by omega)]
   exact EC hl hA (i+1) (by omega) h
 ·have h1:=oF h1
  rw[dN (by omega)]at h
  exact⟨⟨tv,tv⟩,h⟩
termination_by l.length-i
theorem NJ {l:List Int}{n:Int}(hl:l.length<=1000000):yJ prog 44 [⟨.sl .int,l⟩,⟨.int,n⟩] [.bool] (l.elem n):=
 pcl codes bU func44 (by kernel_rfl) λ A hA=>hA.go (PC l n) (EC hl hA 0 (by omega) rfl)
theorem JT {a b:List Int}(he:a.length=b.length)(hl:a.length<=1000000){r:Bool}{A:Pr}(hA:CL codes bU f20 [.bool] r A)
  (i:Nat) (hi:i<=a.length) (h:decide (a.drop i=b.drop i)=r):A (hd f20 0) (L50 a b i):=by
 refine hA.go (t50a a b i) (ae (λ h1=>?_) (λ h1=>?_))
 ·have h1:=oT h1
  have hil:i<a.length:=by omega
  have hib:i<b.length:=by omega
  rw[aY hil,aY hib]
  rw[dG hil,dG hib]at h
  refine⟨⟨⟨by omega,by omega⟩,tv⟩,⟨⟨by omega,by omega⟩,tv⟩,ae (λ h2=>?_) (λ h2=>?_)⟩
  ·have e:¬ a[i]=b[i]:=by simpa using h2
   rw[dF (λ h=>e (jI h).1)]at h
   exact⟨⟨tv,tv⟩,h⟩
  ·have e:a[i]=b[i]:=by simpa using h2
   rw[e]at h
   rw[aq (by omega)]
   exact JT he hl hA (i+1) (by omega) (by rw[<-h];exact bF.2 ⟨λ h=>by rw[h],λ h=>(jI h).2⟩)
 ·have h1:=oF h1
  rw[dN (by omega),dN (by omega)]at h
  exact⟨⟨tv,tv⟩,h⟩
termination_by a.length-i
theorem c50 {a b:List Int}(hl:a.length<=1000000):yJ prog 20 [⟨.sl .int,a⟩,⟨.sl .int,b⟩] [.bool] (decide (a=b)):=
 pcl codes bU func20 (by kernel_rfl) λ A hA=>hA.go (t50 a b) (by
  refine ae (λ h1=>?_) (λ h1=>?_)
  ·have h1:¬ (a.length:Int)=(b.length:Int):=by simpa using h1
   exact⟨q2,(dF (λ h=>h1 (by rw[h]))).symm⟩
  ·have h1:(a.length:Int)=(b.length:Int):=by simpa using h1
   exact JT (by omega) hl hA 0 (by omega) rfl)
theorem HS {p:Int->Bool}:∀ {l:List Int},(∀ x∈l,p x=true)->l.takeWhile p=l
 | [],_=>rfl
 | x :: l, h => by
   rw[dH,h x (by simp),aE rfl,HS λ y hy=>h y (by simp[hy])]
theorem EB {l:List Int}{n:Int}(hl:l.length<=1000000){r:List Int}{A:Pr}(hA:CL codes bU f79 [.sl .int] r A)
  (h:fJ l n=r) (i:Nat) (hi:i<=l.length) (hp:∀ j (h:j<l.length),j<i->l[j]<n):A (hd f79 0) (Uc l n i):=by
 have fin:lZ l n=i->(Nat.blt i l.length&&(l.getD i 0==n))=false->Sat prog A (λ y=>y=r) (.zF True (.zF (((0:Int)<=0/\(0:Int)<=(i:Int)/\(i:Int)<=(l.length:Int))/\True) (.zF ((0+(List.drop 0 (List.take (Int.toNat (i:Int)) l)).length)*9<=35184372088832/\True)
   (.zF ((True/\True)/\True) (.zF ((([]++List.drop 0 (List.take (Int.toNat (i:Int)) l)).length+[n].length)*9<=35184372088832/\True) (.zF ((0<=(i:Int)/\(i:Int)<=(l.length:Int))/\True)
   (.zF ((([]++List.drop 0 (List.take (Int.toNat (i:Int)) l)++[n]).length+(List.drop (Int.toNat (i:Int)) l).length)*9<=35184372088832/\True) (.zF (True/\True) (.ret ([]++List.drop 0 (List.take (Int.toNat (i:Int)) l)++[n]++List.drop (Int.toNat (i:Int)) l)))))))))):=λ hk hb=>by
  rw[BZ,hk,hb,cF]at h
  refine⟨tv,⟨⟨by omega,by omega,by omega⟩,tv⟩,⟨?_,tv⟩,⟨⟨tv,tv⟩,tv⟩,⟨?_,tv⟩,⟨⟨by omega,by omega⟩,tv⟩,⟨?_,tv⟩,⟨tv,tv⟩,?_⟩
  ·simp;omega
  ·simp;omega
  ·simp;omega
  ·show _=r
   rw[<-h];simp
 refine hA.go (So l n i) (ae (λ h1=>?_) (λ h1=>?_))
 ·have h1':=oT h1
  have hil:i<l.length:=by omega
  rw[aY hil]
  refine⟨⟨⟨by omega,by omega⟩,tv⟩,ae (λ h2=>?_) (λ h2=>ae (λ _=>⟨⟨⟨by omega,by omega⟩,tv⟩,ae (λ h3=>?_) (λ h3=>?_)⟩) (λ h3=>absurd (oF h3) (by omega)))⟩
  ·have h2:=oT h2
   rw[aq (by omega)]
   refine EB hl hA h (i+1) (by omega) (λ j hj hji=>?_)
   rcases(by omega:j<i\/j=i)with e|e
   ·exact hp j hj e
   ·subst e;exact h2
  ·have h2:=oF h2
   have hk:=xk hil hp h2
   rw[BZ,hk,cH hil,h3]at h
   have hb:Nat.blt i l.length=true:=gb (by omega:i+1<=l.length)
   rw[hb]at h
   exact⟨⟨tv,tv⟩,h⟩
  ·have h2:=oF h2
   exact fin (xk hil hp h2) (by rw[cH hil,h3,Bool.and_false])
 ·have h1':=oF h1
  refine ae (λ h3=>absurd (oT h3) h1') (λ _=>?_)
  have e:i=l.length:=by omega
  refine fin ?_ ?_
  ·rw[e,lZ,HS λ x hx=>?_]
   obtain⟨j,hj,rfl⟩:=dJ hx
   exact dT (hp j hj (by omega))
  ·rw[e]
   have:Nat.blt l.length l.length=false:=by
    cases h:Nat.blt l.length l.length
    ·rfl
    ·have:=aV h;omega
   rw[this];rfl
termination_by l.length-i
theorem CY {l:List Int}{n:Int}(hl:l.length<=1000000):yJ prog 79 [⟨.sl .int,l⟩,⟨.int,n⟩] [.sl .int] (fJ l n):=
 pcl codes bU func79 (by kernel_rfl) λ A hA=>hA.go (t101 l n) (EB hl hA rfl 0 (by omega) (λ j _ hj=>by omega))
theorem JS {b:List Int}(hl:b.length<=100000){r:List Int}{A:Pr}(hA:CL codes bU f138 [.sl .int] r A)
  (i:Nat) (hi:i<=b.length) (out:List Int) (ho:out.length<=100000+i) (h:cP out (b.drop i)=r):A (hd f138 0) (L57 b out i):=by
 refine hA.go (t57a b out i) (ae (λ h1=>?_) (λ h1=>?_))
 ·have h1:=oT h1
  have hil:i<b.length:=by omega
  rw[aY hil]
  rw[dG hil]at h
  refine⟨⟨⟨by omega,by omega⟩,tv⟩,⟨T2',T2',tv⟩,_,CY (by omega),?_⟩
  show A (hd f138 0) (L57 b (fJ out b[i]) (w64 ((i:Int)+1)))
  rw[aq (by omega)]
  have:=lq (n:=b[i]) (l:=out)
  exact JS hl hA (i+1) (by omega) _ (by omega) h
 ·have h1:=oF h1
  rw[dN (by omega)]at h
  exact⟨⟨tv,tv⟩,h⟩
termination_by b.length-i
theorem c57 {a b:List Int}(ha:a.length<=100000)(hl:b.length<=100000):yJ prog 138 [⟨.sl .int,a⟩,⟨.sl .int,b⟩] [.sl .int] (cP a b):=
 pcl codes bU func138 (by kernel_rfl) λ A hA=>hA.go (t57 a b)
  ⟨tv,⟨by omega,tv⟩,hA.frz 0 (s':=L57 b a 0) (by kernel_rfl) (by kernel_rfl) (JS hl hA 0 (by omega) a (by omega) rfl)⟩
theorem Cz {a b:List Int}(ha:a.length<=100000)(hl:b.length<=100000){r:List Int}{A:Pr}(hA:CL codes bU f40 [.sl .int] r A)
  (i:Nat) (hi:i<=a.length) (out:List Int) (ho:out.length<=i) (h:out++(a.drop i).filter (λ x=>b.elem x)=r):A (hd f40 0) (L55 a b out i):=by
 refine hA.go (t55a a b out i) (ae (λ h1=>?_) (λ h1=>?_))
 ·have h1:=oT h1
  have hil:i<a.length:=by omega
  rw[aY hil]
  rw[dG hil,List.filter_cons]at h
  refine⟨⟨⟨by omega,by omega⟩,tv⟩,⟨T2',T2',tv⟩,_,NJ (by omega),ae (λ h2=>?_) (λ h2=>?_)⟩
  ·rw[aE h2]at h
   refine⟨⟨⟨by omega,by omega⟩,tv⟩,⟨T2',tv⟩,⟨by simp only[af,ak];omega,tv⟩,?_⟩
   rw[aq (by omega)]
   exact Cz ha hl hA (i+1) (by omega) _ (by simp;omega) (by rw[<-h];simp)
  ·rw[aF (by rw[h2];decide)]at h
   rw[aq (by omega)]
   exact Cz ha hl hA (i+1) (by omega) _ (by omega) h
 ·have h1:=oF h1
  rw[dN (by omega)]at h
  have h:out=r:=by simpa using h
  exact⟨⟨tv,tv⟩,h⟩
termination_by a.length-i
theorem c55 {a b:List Int}(ha:a.length<=100000)(hl:b.length<=100000):yJ prog 40 [⟨.sl .int,a⟩,⟨.sl .int,b⟩] [.sl .int] (a.filter λ x=>b.elem x):=
 pcl codes bU func40 (by kernel_rfl) λ A hA=>hA.go (t55 a b)
  (hA.row 5 3 .int (s':=L55 a b [] 0) (by kernel_rfl) (by kernel_rfl) (Cz ha hl hA 0 (by omega) [] (by simp) rfl))
theorem CV {n:Int}{xs:List Int}(hx:xs.length<=1000000):Gc prog 260 [i64 n,ck true,.ptr 0 0] [(0,.box [.own 1 .int]),(1,.row 3 .int xs)] 2 ⟨[],[(0,.box [.own 2 .int]),(2,.row 3 .int (xs++[n]))],3⟩:=by
 refine Gc.of_closed (C:=codes) (S:=bU) mixed func260 (by kernel_rfl) (λ i T t ys hi h=>?_) λ A hA=>hA.go (RI n xs) ⟨⟨T2',tv⟩,⟨by simp only[af,ak];omega,tv⟩,tv,.of_eq rfl⟩
 rcases(by omega:i=0\/i=1)with rfl|rfl
 ·have h:some (ABlk.box [.own 2 .int])=some (ABlk.row T t ys):=h
  cases h
 ·have h:(none:Option ABlk)=some (ABlk.row T t ys):=h
  cases h
def qW:Cuts:=⟨[5,6,8,9,11],false⟩
theorem RQ (a b out:List Int)(i k:Int):@Eq (Out (bc [.sl .int])) (bh prog codes bU f213 (aS [.sl .int]) 0 qW 300 true (hd f213 0) (rc a b true true true out i k)) (bif decide (i<(a.length:Int))then .stop (rg f213 5) (mkS 94 [(0,.d (.sl .int a)),(1,.d (.sl .int b)),(2,.d (.v (.bool true))),(3,.d (.v (.bool true))),(4,.d (.v (.bool true))),(11,.ptr 0 0),(12,.clo (.func 260) [] [.ptr 0 0]),(13,i64 i),(14,i64 k)] [(0,.box [.own 1 .int]),(1,.row 3 .int out)] 2)else bif decide (k<(b.length:Int))then .stop (rg f213 5) (mkS 94 [(0,.d (.sl .int a)),(1,.d (.sl .int b)),(2,.d (.v (.bool true))),(3,.d (.v (.bool true))),(4,.d (.v (.bool true))),(11,.ptr 0 0),(12,.clo (.func 260) [] [.ptr 0 0]),(13,i64 i),(14,i64 k)] [(0,.box [.own 1 .int]),(1,.row 3 .int out)] 2)else .zF U2 (.ret out)):=by kernel_rfl
theorem RP (a b out:List Int)(i k:Int):@Eq (Out (bc [.sl .int])) (bh prog codes bU f213 (aS [.sl .int]) 0 qW 300 true (rg f213 5) (rc a b true true true out i k)) (bif k==(b.length:Int)then .stop (rg f213 6) (mkS 94 [(0,.d (.sl .int a)),(1,.d (.sl .int b)),(2,.d (.v (.bool true))),(3,.d (.v (.bool true))),(4,.d (.v (.bool true))),(11,.ptr 0 0),(12,.clo (.func 260) [] [.ptr 0 0]),(13,i64 i),(14,i64 k)] [(0,.box [.own 1 .int]),(1,.row 3 .int out)] 2)else bif decide (i<(a.length:Int))then .zF (((0:Int)<=i/\i<(a.length:Int))/\True) (.zF (((0:Int)<=k/\k<(b.length:Int))/\True) (bif decide (a.getD i.toNat Ty.int.dflt<b.getD k.toNat Ty.int.dflt)then .stop (rg f213 6) (mkS 94 [(0,.d (.sl .int a)),(1,.d (.sl .int b)),(2,.d (.v (.bool true))),(3,.d (.v (.bool true))),(4,.d (.v (.bool true))),(11,.ptr 0 0),(12,.clo (.func 260) [] [.ptr 0 0]),(13,i64 i),(14,i64 k)] [(0,.box [.own 1 .int]),(1,.row 3 .int out)] 2)else .stop (rg f213 8) (mkS 94 [(0,.d (.sl .int a)),(1,.d (.sl .int b)),(2,.d (.v (.bool true))),(3,.d (.v (.bool true))),(4,.d (.v (.bool true))),(11,.ptr 0 0),(12,.clo (.func 260) [] [.ptr 0 0]),(13,i64 i),(14,i64 k)] [(0,.box [.own 1 .int]),(1,.row 3 .int out)] 2)))else .stop (rg f213 8) (mkS 94 [(0,.d (.sl .int a)),(1,.d (.sl .int b)),(2,.d (.v (.bool true))),(3,.d (.v (.bool true))),(4,.d (.v (.bool true))),(11,.ptr 0 0),(12,.clo (.func 260) [] [.ptr 0 0]),(13,i64 i),(14,i64 k)] [(0,.box [.own 1 .int]),(1,.row 3 .int out)] 2)):=by kernel_rfl
theorem RO (a b out:List Int)(i k:Int):@Eq (Out (bc [.sl .int])) (bh prog codes bU f213 (aS [.sl .int]) 0 qW 300 true (rg f213 6) (rc a b true true true out i k)) (.zF (((0:Int)<=i/\i<(a.length:Int))/\True) (.zH 260 [i64 (a.getD i.toNat Ty.int.dflt),.d (.v (.bool true)),.ptr 0 0] [(0,.box [.own 1 .int]),(1,.row 3 .int out)] 2 [.sl .int] (λ(a:List Int)=>yD.mk [] [(0,.box [.own 2 .int]),(2,.row 3 .int a)] 3) λ(x:List Int)=>.stop (hd f213 0) (mkS 94 [(0,.d (.sl .int a)),(1,.d (.sl .int b)),(2,.d (.v (.bool true))),(3,.d (.v (.bool true))),(4,.d (.v (.bool true))),(11,.ptr 0 0),(12,.clo (.func 260) [] [.ptr 0 0]),(13,i64 (w64 (i+1))),(14,i64 k)] [(0,.box [.own 1 .int]),(1,.row 3 .int x)] 2))):=by kernel_rfl
theorem RN (a b out:List Int)(i k:Int):@Eq (Out (bc [.sl .int])) (bh prog codes bU f213 (aS [.sl .int]) 0 qW 300 true (rg f213 8) (rc a b true true true out i k)) (bif i==(a.length:Int)then .stop (rg f213 9) (mkS 94 [(0,.d (.sl .int a)),(1,.d (.sl .int b)),(2,.d (.v (.bool true))),(3,.d (.v (.bool true))),(4,.d (.v (.bool true))),(11,.ptr 0 0),(12,.clo (.func 260) [] [.ptr 0 0]),(13,i64 i),(14,i64 k)] [(0,.box [.own 1 .int]),(1,.row 3 .int out)] 2)else .zF (((0:Int)<=k/\k<(b.length:Int))/\True) (.zF (((0:Int)<=i/\i<(a.length:Int))/\True) (bif decide (b.getD k.toNat Ty.int.dflt<a.getD i.toNat Ty.int.dflt)then .stop (rg f213 9) (mkS 94 [(0,.d (.sl .int a)),(1,.d (.sl .int b)),(2,.d (.v (.bool true))),(3,.d (.v (.bool true))),(4,.d (.v (.bool true))),(11,.ptr 0 0),(12,.clo (.func 260) [] [.ptr 0 0]),(13,i64 i),(14,i64 k)] [(0,.box [.own 1 .int]),(1,.row 3 .int out)] 2)else .stop (rg f213 11) (mkS 94 [(0,.d (.sl .int a)),(1,.d (.sl .int b)),(2,.d (.v (.bool true))),(3,.d (.v (.bool true))),(4,.d (.v (.bool true))),(11,.ptr 0 0),(12,.clo (.func 260) [] [.ptr 0 0]),(13,i64 i),(14,i64 k)] [(0,.box [.own 1 .int]),(1,.row 3 .int out)] 2)))):=by kernel_rfl
theorem RM (a b out:List Int)(i k:Int):@Eq (Out (bc [.sl .int])) (bh prog codes bU f213 (aS [.sl .int]) 0 qW 300 true (rg f213 9) (rc a b true true true out i k)) (.zF (((0:Int)<=k/\k<(b.length:Int))/\True) (.zH 260 [i64 (b.getD k.toNat Ty.int.dflt),.d (.v (.bool true)),.ptr 0 0] [(0,.box [.own 1 .int]),(1,.row 3 .int out)] 2 [.sl .int] (λ(a:List Int)=>yD.mk [] [(0,.box [.own 2 .int]),(2,.row 3 .int a)] 3) λ(x:List Int)=>.stop (hd f213 0) (mkS 94 [(0,.d (.sl .int a)),(1,.d (.sl .int b)),(2,.d (.v (.bool true))),(3,.d (.v (.bool true))),(4,.d (.v (.bool true))),(11,.ptr 0 0),(12,.clo (.func 260) [] [.ptr 0 0]),(13,i64 i),(14,i64 (w64 (k+1)))] [(0,.box [.own 1 .int]),(1,.row 3 .int x)] 2))):=by kernel_rfl
theorem RL (a b out:List Int)(i k:Int):@Eq (Out (bc [.sl .int])) (bh prog codes bU f213 (aS [.sl .int]) 0 qW 300 true (rg f213 11) (rc a b true true true out i k)) (.zF (((0:Int)<=i/\i<(a.length:Int))/\True) (.zH 260 [i64 (a.getD i.toNat Ty.int.dflt),.d (.v (.bool true)),.ptr 0 0] [(0,.box [.own 1 .int]),(1,.row 3 .int out)] 2 [.sl .int] (λ(a:List Int)=>yD.mk [] [(0,.box [.own 2 .int]),(2,.row 3 .int a)] 3) λ(x:List Int)=>.stop (hd f213 0) (mkS 94 [(0,.d (.sl .int a)),(1,.d (.sl .int b)),(2,.d (.v (.bool true))),(3,.d (.v (.bool true))),(4,.d (.v (.bool true))),(11,.ptr 0 0),(12,.clo (.func 260) [] [.ptr 0 0]),(13,i64 (w64 (i+1))),(14,i64 (w64 (k+1)))] [(0,.box [.own 1 .int]),(1,.row 3 .int x)] 2))):=by kernel_rfl
theorem Fk {f s t:Bool}{x:Int}{a b:List Int}(h:b=[]\/∃ y m,b=y::m/\x<y):cX f s t (x::a) b=tk f x (cX f s t a b):=by
 rcases h with rfl|⟨y,m,rfl,h⟩
 ·rw[cX]
 ·rw[cX,aE h]
theorem Fj {f s t:Bool}{y:Int}{a b:List Int}(h:a=[]\/∃ x m,a=x::m/\y<x):cX f s t a (y::b)=tk s y (cX f s t a b):=by
 rcases h with rfl|⟨x,m,rfl,h⟩
 ·rw[cX]
 ·rw[cX,aF (by omega),aE h]
theorem Lx {f s t:Bool}{x:Int}{a b:List Int}:cX f s t (x::a) (x::b)=tk t x (cX f s t a b):=by
 rw[cX,aF (by omega),aF (by omega)]
theorem sp {a b:List Int}(ha:a.length<=400000)(hb:b.length<=400000){r:List Int}{A:Pr}(hA:CL codes bU f213 [.sl .int] r A)
  (i k:Nat) (hi:i<=a.length) (hk:k<=b.length) (out:List Int) (ho:out.length<=i+k) (h:out++cX true true true (a.drop i) (b.drop k)=r):A (hd f213 0) (rc a b true true true out i k):=by
 have h6:∀ hil:i<a.length,(out++[a[i]])++cX true true true (a.drop (i+1)) (b.drop k)=r->A (rg f213 6) (rc a b true true true out i k):=λ hil e=>by
  refine hA.go (RO a b out i k) ?_
  rw[aY hil]
  refine⟨⟨⟨by omega,by omega⟩,tv⟩,(out++[a[i]]:List Int),CV (by omega),?_⟩
  rw[aq (by omega)]
  exact sp ha hb hA (i+1) k (by omega) hk _ (by simp;omega) e
 have h9:∀ hkb:k<b.length,(out++[b[k]])++cX true true true (a.drop i) (b.drop (k+1))=r->A (rg f213 9) (rc a b true true true out i k):=λ hkb e=>by
  refine hA.go (RM a b out i k) ?_
  rw[aY hkb]
  refine⟨⟨⟨by omega,by omega⟩,tv⟩,(out++[b[k]]:List Int),CV (by omega),?_⟩
  rw[aq (by omega)]
  exact sp ha hb hA i (k+1) hi (by omega) _ (by simp;omega) e
 have h11:∀ (hil:i<a.length) (_:k<b.length),(out++[a[i]])++cX true true true (a.drop (i+1)) (b.drop (k+1))=r->A (rg f213 11) (rc a b true true true out i k):=λ hil hkb e=>by
  refine hA.go (RL a b out i k) ?_
  rw[aY hil]
  refine⟨⟨⟨by omega,by omega⟩,tv⟩,(out++[a[i]]:List Int),CV (by omega),?_⟩
  rw[aq (by omega),aq (by omega)]
  exact sp ha hb hA (i+1) (k+1) (by omega) (by omega) _ (by simp;omega) e
 have h8:k<b.length->(∀ hil:i<a.length,∀ hkb:k<b.length,¬ a[i]<b[k])->A (rg f213 8) (rc a b true true true out i k):=λ hkb hc=>by
  refine hA.go (RN a b out i k) (ae (λ c=>?_) (λ c=>?_))
  ·have c:(i:Int)=(a.length:Int):=by simpa using c
   refine h9 hkb ?_
   rw[dN (by omega:a.length<=i),dG hkb,Fj (.inl rfl)]at h
   rw[dN (by omega:a.length<=i),<-h];simp[tk]
  ·have c:¬ (i:Int)=(a.length:Int):=by simpa using c
   have hil:i<a.length:=by omega
   rw[aY hil,aY hkb]
   refine⟨⟨⟨by omega,by omega⟩,tv⟩,⟨⟨by omega,by omega⟩,tv⟩,ae (λ c2=>?_) (λ c2=>?_)⟩
   ·have c2:=oT c2
    refine h9 hkb ?_
    rw[dG hil,dG hkb,Fj (.inr ⟨_,_,rfl,c2⟩)]at h
    rw[<-h,dG hil];simp[tk]
   ·have c2:=oF c2
    have e:a[i]=b[k]:=by have:=hc hil hkb;omega
    refine h11 hil hkb ?_
    rw[dG hil,dG hkb,<-e,Lx]at h
    rw[<-h];simp[tk]
 have h5:i<a.length\/k<b.length->A (rg f213 5) (rc a b true true true out i k):=λ hik=>by
  refine hA.go (RP a b out i k) (ae (λ c=>?_) (λ c=>?_))
  ·have c:(k:Int)=(b.length:Int):=by simpa using c
   have hil:i<a.length:=by omega
   refine h6 hil ?_
   rw[dN (by omega:b.length<=k),dG hil,Fk (.inl rfl)]at h
   rw[dN (by omega:b.length<=k),<-h];simp[tk]
  ·have c:¬ (k:Int)=(b.length:Int):=by simpa using c
   have hkb:k<b.length:=by omega
   refine ae (λ c1=>?_) (λ c1=>?_)
   ·have hil:i<a.length:=by have:=oT c1;omega
    rw[aY hil,aY hkb]
    refine⟨⟨⟨by omega,by omega⟩,tv⟩,⟨⟨by omega,by omega⟩,tv⟩,ae (λ c2=>?_) (λ c2=>?_)⟩
    ·have c2:=oT c2
     refine h6 hil ?_
     rw[dG hil,dG hkb,Fk (.inr ⟨_,_,rfl,c2⟩)]at h
     rw[<-h,dG hkb];simp[tk]
    ·have c2:=oF c2
     exact h8 hkb (λ _ _=>c2)
   ·have c1:=oF c1
    exact h8 hkb (λ hil=>absurd hil (by omega))
 refine hA.go (RQ a b out i k) (ae (λ c=>?_) (λ c=>ae (λ c2=>?_) (λ c2=>?_)))
 ·exact h5 (.inl (by have:=oT c;omega))
 ·exact h5 (.inr (by have:=oT c2;omega))
 ·have c:=oF c
  have c2:=oF c2
  rw[dN (by omega),dN (by omega),cX,fU]at h
  exact⟨T2',h⟩
termination_by a.length-i+(b.length-k)
theorem Lf {a b:List Int}(ha:a.length<=400000)(hb:b.length<=400000):yJ prog 213 [⟨.sl .int,a⟩,⟨.sl .int,b⟩,⟨.bool,true⟩,⟨.bool,true⟩,⟨.bool,true⟩] [.sl .int] (cX true true true a b):=
 pcl codes bU func213 (by kernel_rfl) λ A hA=>hA.go (t156 a b true true true)
  (hA.boxrow 0 0 3 .int (s':=rc a b true true true [] 0 0) (by kernel_rfl) (by kernel_rfl) (sp ha hb hA 0 0 (by omega) (by omega) [] (by simp) rfl))
theorem ym {a b:List Int}(ha:a.length<=400000)(hb:b.length<=400000):yJ prog 134 [⟨.sl .int,a⟩,⟨.sl .int,b⟩] [.sl .int] (cX true true true a b):=
 GA func134 (Pm a b) (by kernel_rfl) (by kernel_rfl) λ _=>⟨⟨T2',T2',T2',T2',T2',tv⟩,_,Lf ha hb,T2',rfl⟩
theorem Dr (l:List Int):(cV l).length<=l.length:=by have:=jo (a:=[]) (b:=l);simpa using this
theorem CX {l:List Int}(hl:l.length<=100000):yJ prog 81 [⟨.sl .int,l⟩] [.sl .int] (cV l):=
 GA func81 (t129 l) (by kernel_rfl) (by kernel_rfl) λ _=>by
  refine ae (λ c=>?_) (λ c=>?_)
  ·have c:=oT c
   refine⟨tv,⟨by omega,tv⟩,T2',?_⟩
   match l,c with
   | [],_=>rfl
   | [n],_=>rfl
   | _::_::_,c=>simp only[af]at c;omega
  ·have c:=oF c
   have hd:Int.tdiv (l.length:Int) 2=((l.length/2:Nat):Int):=by
    rw[gA (by omega)];rfl
   have e:w64 (Int.tdiv (l.length:Int) 2)=((l.length/2:Nat):Int):=by rw[hd,an (by omega) (by omega)]
   rw[e]
   have e1:List.drop 0 (List.take ((l.length/2:Nat):Int).toNat l)=l.take (l.length/2):=by rw[bE,au]
   have e2:List.drop ((l.length/2:Nat):Int).toNat l=l.drop (l.length/2):=by rw[au]
   rw[e1,e2]
   have l1:=Dr (l.take (l.length/2))
   have l2:=Dr (l.drop (l.length/2))
   rw[aD]at l1
   rw[aL]at l2
   refine⟨by decide,⟨⟨by omega,by omega,by omega⟩,tv⟩,⟨T2',tv⟩,_,CX (l:=l.take (l.length/2)) (by rw[aD];omega),⟨⟨by omega,by omega⟩,tv⟩,⟨T2',tv⟩,_,CX (l:=l.drop (l.length/2)) (by rw[aL];omega),⟨T2',T2',tv⟩,_,ym (by omega) (by omega),T2',?_⟩
   show cX true true true (cV (l.take (l.length/2))) (cV (l.drop (l.length/2)))=cV l
   rw[kj (kx _) (kx _),<-Ml,List.take_append_drop]
termination_by l.length
decreasing_by
 all_goals simp only[aD,aL];omega
def TH (a b:Int)(l:List yG)(s:yG)(out:List Int)(i k:Int):AS:=mkS 44 [(5,i64 a),(6,i64 b),(8,.own 0 .int),(10,.ptr 1 0),(11,i64 k),(19,.d (.sl .span l)),(20,i64 l.length),(21,i64 i)] [(0,.row 3 .int out),(1,.box [i64 s.lo,i64 s.hi])] 2
theorem t97b (a b:Int)(l:List yG)(s:yG)(out:List Int)(i k:Int):@Eq _ (xL prog codes bU f211 [.sl .int] 200 1 (TH a b l s out i k)) (bif decide (k<=s.hi)then .zF V2 (.zF ((out.length+List.length [w64 (w64 (a+b)+k)])*9<=35184372088832/\True) (.stop (hd f211 1) (mkS 44 [(5,i64 a),(6,i64 b),(8,.own 0 .int),(10,.ptr 1 0),(11,i64 (w64 (k+1))),(19,.d (.sl .span l)),(20,i64 (l.length:Int)),(21,i64 i)] [(0,.row 3 .int (out++[w64 (w64 (a+b)+k)])),(1,.box [i64 s.lo,i64 s.hi])] 2)))else .stop (hd f211 0) (mkS 44 [(5,i64 a),(6,i64 b),(8,.own 0 .int),(19,.d (.sl .span l)),(20,i64 (l.length:Int)),(21,i64 (w64 (i+1)))] [(0,.row 3 .int out)] 1)):=by kernel_rfl
end Go.Proofs.Zn
namespace Go.Proofs.Sp
open Go.Proofs.Tryz
open Go Go.VL
theorem t75 (a:yG):@Eq _ (xSp prog f258 [.bool] 60 [⟨.span,a⟩]) (.zF U2 (.ret (decide (a.lo>a.hi)))):=by kernel_rfl
theorem t76:@Eq _ (xSp prog f259 [.span] 60 []) (.zF U3 (.ret (yG.mk 0 (-1:Int)))):=by kernel_rfl
theorem t21 (a b:yG):@Eq _ (xSp prog f212 [.span] 100 [⟨.span,a⟩,⟨.span,b⟩]) (.zF V3 (.zG 258 [⟨.span,a⟩] [.bool] λ x=>bif x then .zF V3 (.zG 258 [⟨.span,b⟩] [.bool] λ x=>bif x then .zF True (.zG 259 [] [.span] λ x=>.zF U3 (.ret x))else .zF V3 (.zG 258 [⟨.span,a⟩] [.bool] λ x=>bif x then .zF U3 (.ret b)else .zF V3 (.zG 258 [⟨.span,b⟩] [.bool] λ x=>bif x then .zF U3 (.ret a)else .zF U3 (.ret (yG.mk (if b.lo<a.lo then b.lo else a.lo) (if b.hi>a.hi then b.hi else a.hi))))))else .zF V3 (.zG 258 [⟨.span,a⟩] [.bool] λ x=>bif x then .zF U3 (.ret b)else .zF V3 (.zG 258 [⟨.span,b⟩] [.bool] λ x=>bif x then .zF U3 (.ret a)else .zF U3 (.ret (yG.mk (if b.lo<a.lo then b.lo else a.lo) (if b.hi>a.hi then b.hi else a.hi))))))):=by kernel_rfl
theorem t82 (a b:yG):@Eq _ (xSp prog f295 [.bool] 100 [⟨.span,a⟩,⟨.span,b⟩]) (bif decide (b.lo<=a.hi)then .zF U2 (.ret true)else .zF U2 (.ret (w64 (b.lo-(1:Int))==a.hi))):=by kernel_rfl
theorem ae {α:Type}{P:Program}{A:List Item->AS->Prop}{R0:α->Prop}{b:Bool}{S T:Out α}(h1:b=true->Sat P A R0 S)(h0:b=false->Sat P A R0 T):Sat P A R0 (bif b then S else T):=by
 cases b
 ·exact h0 rfl
 ·exact h1 rfl
abbrev T3:True/\True/\True:=⟨tv,tv,tv⟩
def emp (a:yG):Bool:=decide (a.lo>a.hi)
def nil:yG:=⟨0,-1⟩
def over (a b:yG):yG:=⟨if b.lo<a.lo then b.lo else a.lo,if b.hi>a.hi then b.hi else a.hi⟩
def mH (a b:yG):yG:=bif emp a then(bif emp b then nil else b)else bif emp b then a else over a b
theorem c75 (a:yG):yJ prog 258 [⟨.span,a⟩] [.bool] (emp a):=ofT func258 (t75 a) (by kernel_rfl) (by kernel_rfl) λ _=>⟨q2,rfl⟩
theorem c76:yJ prog 259 [] [.span] nil:=ofT func259 t76 (by kernel_rfl) (by kernel_rfl) λ _=>⟨T3,rfl⟩
theorem c21 (a b:yG):yJ prog 212 [⟨.span,a⟩,⟨.span,b⟩] [.span] (mH a b):=ofT func212 (t21 a b) (by kernel_rfl) (by kernel_rfl) λ A=>by
 refine⟨⟨T3,tv⟩,_,c75 a,ae (λ h=>?_) (λ h=>?_)⟩
 ·refine⟨⟨T3,tv⟩,_,c75 b,ae (λ h2=>?_) (λ h2=>?_)⟩
  ·refine⟨tv,_,c76,T3,?_⟩
   show nil=mH a b
   rw[mH,h,h2];rfl
  ·refine⟨⟨T3,tv⟩,_,c75 a,ae (λ h3=>?_) (λ h3=>?_)⟩
   ·refine⟨T3,?_⟩
    show b=mH a b
    rw[mH,h,h2];rfl
   ·rw[h]at h3;cases h3
 ·refine⟨⟨T3,tv⟩,_,c75 a,ae (λ h3=>?_) (λ h3=>?_)⟩
  ·rw[h]at h3;cases h3
  ·refine⟨⟨T3,tv⟩,_,c75 b,ae (λ h2=>?_) (λ h2=>?_)⟩
   ·refine⟨T3,?_⟩
    show a=mH a b
    rw[mH,h,h2];rfl
   ·refine⟨T3,?_⟩
    show over a b=mH a b
    rw[mH,h,h2];rfl
theorem t79 (xs:List yG):@Eq (Out yD) (bh prog codes sigs f292 (eW 0) 0 ⟨[],true⟩ 100 false (cB f292) (gU f292 [.d (.sl .span xs)] [] 0)) (.ask (λ(b:Bool)=>b=true->xs.length=0) λ(b:Bool)=>bif b then .stop (rt f292 0) (mkS 8 [(2,nS)] [] 0)else .zF True (.zF ((0+xs.length)*17<=35184372088832/\True) (.stop (rt f292 1) (mkS 8 [(2,.own 0 .span)] [(0,.row 175 .span ([]++xs))] 1)))):=by kernel_rfl
theorem t112 (xs:List yG):@Eq _ (ySp prog f308 1 100 [.own 0 .span,.clo (.func 258) [] []] [(0,.row 175 .span xs)] 1) (.stop (hd f308 0) (mkS 19 [(0,.own 0 .span),(1,.clo (.func 258) [] []),(7,i64 (xs.length:Int)),(8,i64 0)] [(0,.row 175 .span xs)] 1)):=by kernel_rfl
theorem t78 (xs:List yG):@Eq _ (ySp prog f291 1 100 [.own 0 .span,.clo (.func 258) [] []] [(0,.row 175 .span xs)] 1) (.zH 308 [.own 0 .span,.clo (.func 258) [] []] [(0,.row 175 .span xs)] 1 [.int] (λ(x:Int)=>yD.mk [i64 x] [(0,.row 175 .span xs)] 1) λ(x:Int)=>bif x==(-1:Int)then .zF True (.ret ⟨[.own 0 .span],[(0,.row 175 .span xs)],1⟩)else .stop (hd f291 0) (mkS 42 [(0,.own 0 .span),(1,.clo (.func 258) [] []),(5,i64 x),(6,i64 (w64 (x+1)))] [(0,.row 175 .span xs)] 1)):=by kernel_rfl
theorem t31 (xs:List yG):@Eq _ (xSp prog f257 [.sl .span] 100 [⟨.sl .span,xs⟩]) (.zH 292 [.d (.sl .span xs)] [] 0 [.sl .span] (λ(a:List yG)=>yD.mk [.own 0 .span] [(0,.row 175 .span a)] 1) λ(x:List yG)=>.zH 291 [.own 0 .span,.clo (.func 258) [] []] [(0,.row 175 .span x)] 1 [.sl .span] (λ(a:List yG)=>yD.mk [.view 0 .span 0 a.length] [(0,.row 175 .span (pad x.length a))] 1) λ(x_1:List yG)=>.zH 293 [.view 0 .span 0 x_1.length,.clo (.func 294) [] []] [(0,.row 175 .span (pad x.length x_1))] 1 [.sl .span] (λ(a:List yG)=>yD.mk [] [(0,.row 175 .span a)] 1) λ(x:List yG)=>.stop (hd f257 0) (mkS 49 [(4,nS),(13,.view 0 .span 0 x_1.length),(14,i64 (x_1.length:Int)),(15,i64 0)] [(0,.row 175 .span x)] 1)):=by kernel_rfl
def i64 (n:Int):AV:=.d (.v (.int .i64 n))
def Ub (xs:List yG)(i:Int):AS:=mkS 19 [(0,.own 0 .span),(1,.clo (.func 258) [] []),(7,i64 xs.length),(8,i64 i)] [(0,.row 175 .span xs)] 1
def L78 (xs:List yG)(i j:Int):AS:=mkS 42 [(0,.own 0 .span),(1,.clo (.func 258) [] []),(5,i64 i),(6,i64 j)] [(0,.row 175 .span xs)] 1
def L31 (ys:List yG)(n:Nat)(out:List yG)(i:Int):AS:=mkS 49 [(4,.own 0 .span),(13,.view 1 .span 0 n),(14,i64 n),(15,i64 i)] [(0,.row 175 .span out),(1,.row 175 .span ys)] 2
theorem Oa (xs:List yG)(i:Int):@Eq _ (yLp prog f308 1 100 0 (Ub xs i)) (bif decide (i<(xs.length:Int))then .zF ((0:Int)<=i/\i<(xs.length:Int)) (.zF (i.toNat<xs.length) (.zF V3 (.zG 258 [⟨.span,(xs.getD i.toNat Ty.span.dflt)⟩] [.bool] λ(x:Bool)=>bif x then .zF True (.ret ⟨[i64 i],[(0,.row 175 .span xs)],1⟩)else .stop (hd f308 0) (mkS 19 [(0,.own 0 .span),(1,.clo (.func 258) [] []),(7,i64 (xs.length:Int)),(8,i64 (w64 (i+1)))] [(0,.row 175 .span xs)] 1))))else .zF True (.ret ⟨[i64 (-1)],[(0,.row 175 .span xs)],1⟩)):=by kernel_rfl
theorem Rn (xs:List yG)(i j:Int):@Eq _ (yLp prog f291 1 100 0 (L78 xs i j)) (bif decide (j<(xs.length:Int))then .zF ((0:Int)<=j/\j<(xs.length:Int)) (.zF (j.toNat<xs.length) (.zF V3 (.zG 258 [⟨.span,(xs.getD j.toNat Ty.span.dflt)⟩] [.bool] λ(x:Bool)=>bif !x then .zF ((0:Int)<=i/\i<(xs.length:Int)) (.zF (i.toNat<xs.length/\U3) (.stop (hd f291 0) (mkS 42 [(0,.own 0 .span),(1,.clo (.func 258) [] []),(5,i64 (w64 (i+1))),(6,i64 (w64 (j+1)))] [(0,.row 175 .span (xs.set i.toNat (xs.getD j.toNat Ty.span.dflt)))] 1)))else .stop (hd f291 0) (mkS 42 [(0,.own 0 .span),(1,.clo (.func 258) [] []),(5,i64 i),(6,i64 (w64 (j+1)))] [(0,.row 175 .span xs)] 1))))else .zF ((0:Int)<=i/\i<=(xs.length:Int)) (.zF (i.toNat+(xs.length-i.toNat)<=xs.length) (.zF ((0:Int)<=0/\(0:Int)<=i/\i<=(↑(dV xs i.toNat (List.replicate (xs.length-i.toNat) Ty.span.dflt)).length:Int)) (.zF True (.ret ⟨[.view 0 .span 0 (i.toNat-0)],[(0,.row 175 .span (dV xs i.toNat (List.replicate (xs.length-i.toNat) Ty.span.dflt)))],1⟩))))):=by kernel_rfl
theorem Rr (ys:List yG)(n:Nat)(out:List yG)(i:Int):@Eq _ (xLp prog f257 [.sl .span] 150 0 (L31 ys n out i)) (bif decide (i<(↑n:Int))then .zF ((0:Int)<=i/\i<(↑n:Int)) (.zF (0+i.toNat<ys.length) (bif decide ((out.length:Int)>0)then .zF ((0:Int)<=w64 ((out.length:Int)-(1:Int))/\w64 ((out.length:Int)-(1:Int))<(out.length:Int)) (.zF ((w64 ((out.length:Int)-(1:Int))).toNat<out.length) (.zF NT (.zG 295 [Sigma.mk .span (out.getD (w64 ((out.length:Int)-(1:Int))).toNat Ty.span.dflt),⟨.span,(ys.getD (0+i.toNat) Ty.span.dflt)⟩] [.bool] λ(x:Bool)=>bif x then .zF ((0:Int)<=w64 ((out.length:Int)-(1:Int))/\w64 ((out.length:Int)-(1:Int))<(out.length:Int)) (.zF ((w64 ((out.length:Int)-(1:Int))).toNat<out.length) (.zF NT (.zG 212 [Sigma.mk .span (out.getD (w64 ((out.length:Int)-(1:Int))).toNat Ty.span.dflt),⟨.span,(ys.getD (0+i.toNat) Ty.span.dflt)⟩] [.span] λ(x:yG)=>.zF ((0:Int)<=w64 ((out.length:Int)-(1:Int))/\w64 ((out.length:Int)-(1:Int))<(out.length:Int)) (.zF ((w64 ((out.length:Int)-(1:Int))).toNat<out.length/\U3) (.stop (hd f257 0) (mkS 49 [(4,.own 0 .span),(13,.view 1 .span 0 n),(14,i64 (↑n:Int)),(15,i64 (w64 (i+1)))] [(0,.row 175 .span (out.set (w64 ((out.length:Int)-(1:Int))).toNat x)),(1,.row 175 .span ys)] 2))))))else .zF V3 (.zF ((out.length+List.length [ys.getD (0+i.toNat) Ty.span.dflt])*17<=35184372088832/\True) (.stop (hd f257 0) (mkS 49 [(4,.own 0 .span),(13,.view 1 .span 0 n),(14,i64 (↑n:Int)),(15,i64 (w64 (i+1)))] [(0,.row 175 .span (out++[ys.getD (0+i.toNat) Ty.span.dflt])),(1,.row 175 .span ys)] 2))))))else .zF V3 (.zF ((out.length+List.length [ys.getD (0+i.toNat) Ty.span.dflt])*17<=35184372088832/\True) (.stop (hd f257 0) (mkS 49 [(4,.own 0 .span),(13,.view 1 .span 0 n),(14,i64 (↑n:Int)),(15,i64 (w64 (i+1)))] [(0,.row 175 .span (out++[ys.getD (0+i.toNat) Ty.span.dflt])),(1,.row 175 .span ys)] 2)))))else .zF U2 (.ret out)):=by kernel_rfl
theorem oR {n:Int}(h1 : -9223372036854775808<=n)(h2:n<9223372036854775808):w64 n=n:=by
 unfold w64 IntKind.wrap
 have e:(2^IntKind.i64.bits:Int)=18446744073709551616:=rfl
 have e2:(2^(IntKind.i64.bits-1):Int)=9223372036854775808:=rfl
 have e3:IntKind.i64.signed=true:=rfl
 simp only[e,e2,e3,cn]
 rcases Int.lt_or_le n 0 with h|h
 ·have:n%18446744073709551616=n+18446744073709551616:=by omega
  rw[this,aE (by simpa using by omega)];omega
 ·have:n%18446744073709551616=n:=lF h (by omega)
  rw[this,aF (by simpa using by omega)]
def Sm (n:Nat):Prop:=n*17<=35184372088832
def fnd:List yG->Int->Int
 | [],_ => -1
 | x::xs,i=>bif emp x then i else fnd xs (i+1)
theorem EA {xs:List yG}(hl:Sm xs.length){A:List Item->AS->Prop}(hA:yP prog codes sigs f308 (eW 1) (λ r'=>yD.Le r' ⟨[i64 (fnd xs 0)],[(0,.row 175 .span xs)],1⟩) 1 A) :
  ∀ (k i:Nat),i+k=xs.length->fnd (xs.drop i) i=fnd xs 0->A (hd f308 0) (Ub xs i)
 | 0, i, hi, hf => by
   refine hA.go (Oa xs i) (ae (λ h=>?_) (λ h=>?_))
   ·simp only[bC]at h;omega
   ·refine⟨tv,.of_eq ?_⟩
    rw[dN (by omega)]at hf
    rw[<-hf];rfl
 | k + 1, i, hi, hf => by
   have hlt:i<xs.length:=by omega
   have hg:xs.getD i Ty.span.dflt=xs[i]:=by simp[List.getD,hlt]
   refine hA.go (Oa xs i) (ae (λ h=>?_) (λ h=>?_))
   ·refine⟨⟨by omega,by omega⟩,by simpa using hlt,⟨T3,tv⟩,_,c75 _,?_⟩
    rw[dG hlt]at hf
    have hf:(bif emp xs[i]then(i:Int)else fnd (xs.drop (i+1)) (i+1))=fnd xs 0:=hf
    refine ae (λ h2=>?_) (λ h2=>?_)
    ·refine⟨tv,.of_eq ?_⟩
     have h2:emp (xs.getD i Ty.span.dflt)=true:=h2
     rw[hg]at h2
     rw[h2]at hf
     rw[<-hf];rfl
    ·have h2:emp (xs.getD i Ty.span.dflt)=false:=h2
     rw[hg]at h2
     rw[h2]at hf
     have hw:w64 ((i:Int)+1)=((i+1:Nat):Int):=by
      unfold Sm at hl
      rw[oR (by omega) (by omega)];rfl
     rw[hw]
     exact EA hl hA k (i+1) (by omega) hf
   ·simp only[cN]at h;omega
theorem c112 {xs:List yG}(hl:Sm xs.length):Gc prog 308 [.own 0 .span,.clo (.func 258) [] []] [(0,.row 175 .span xs)] 1 ⟨[i64 (fnd xs 0)],[(0,.row 175 .span xs)],1⟩:=
 Gc.of_closed (C:=codes) (S:=sigs) mixed func308 (by kernel_rfl) (λ i T t ys _ h=>⟨ys,h,rfl⟩) λ _ hA=>
  hA.go (t112 xs) (EA hl hA xs.length 0 (by omega) rfl)
theorem Rm (xs:List yG):@Eq (Out yD) (bh prog codes sigs f292 (eW 0) 0 fP 100 true (rt f292 0) (mkS 8 [(2,.own 0 .span)] [(0,.row 175 .span xs)] 1)) (.zF True (.ret ⟨[.own 0 .span],[(0,.row 175 .span xs)],1⟩)):=by kernel_rfl
theorem Rl (xs:List yG):@Eq (Out yD) (bh prog codes sigs f292 (eW 0) 0 fP 100 true (rt f292 1) (mkS 8 [(2,.own 0 .span)] [(0,.row 175 .span xs)] 1)) (.zF True (.ret ⟨[.own 0 .span],[(0,.row 175 .span xs)],1⟩)):=by kernel_rfl
theorem c79 {xs:List yG}(hl:Sm xs.length):Gc prog 292 [.d (.sl .span xs)] [] 0 ⟨[.own 0 .span],[(0,.row 175 .span xs)],1⟩:=
 Gc.of_closed (C:=codes) (S:=sigs) mixed func292 (by kernel_rfl) (λ i T t ys hi _=>absurd hi (bL _)) λ A hA=>
  hA.go (t79 xs) λ b hb=>ae (λ h=>by
   have hx:xs=[]:=ay (hb h)
   subst hx
   exact hA.row 2 175 .span (by kernel_rfl) (s':=mkS 8 [(2,.own 0 .span)] [(0,.row 175 .span [])] 1) (by kernel_rfl) (hA.go (Rm []) ⟨tv,.of_eq rfl⟩))
   (λ _=>⟨tv,⟨by unfold Sm at hl;omega,tv⟩,hA.go (Rl xs) ⟨tv,.of_eq rfl⟩⟩)
def keep (xs:List yG):List yG:=xs.filter λ a => !emp a
theorem AW:∀ {xs:List yG} {i:Int},0<=i->fnd xs i = -1->keep xs=xs
 | [],_,_,_=>rfl
 | x :: xs, i, hi, h => by
   unfold fnd at h
   cases hx:emp x
   ·rw[hx]at h
    have:=AW (xs:=xs) (i:=i+1) (by omega) h
    simp[keep,hx]at this ⊢
    exact this
   ·rw[hx]at h
    simp only[cT]at h;omega
theorem AU:∀ {xs:List yG} {i:Int},0<=i->fnd xs i ≠ -1->∃ k:Nat,k<xs.length/\fnd xs i=i+k/\keep (xs.take (k+1))=xs.take k
 | [],_,_,h=>absurd rfl h
 | x :: xs, i, hi, h => by
   unfold fnd at h ⊢
   cases hx:emp x
   ·rw[hx]at h
    simp only[cF]at h ⊢
    obtain⟨k,h1,h2,h3⟩:=AU (xs:=xs) (i:=i+1) (by omega) h
    refine⟨k+1,by simp;omega,by rw[h2];omega,?_⟩
    simp[keep,hx]at h3 ⊢
    exact h3
   ·refine⟨0,by simp,by simp,?_⟩
    simp[keep,hx]
theorem nT {xs:List yG}{j:Nat}(hj:j<xs.length):keep (xs.take (j+1))=keep (xs.take j)++(bif emp xs[j]then[]else[xs[j]]):=by
 rw[aW hj]
 unfold keep
 rw[List.filter_append]
 cases h:emp xs[j]<;>simp[h]
abbrev IB (xs:List yG):yD:=⟨[.view 0 .span 0 (keep xs).length],[(0,.row 175 .span (pad xs.length (keep xs)))],1⟩
theorem Cy {xs:List yG}(hl:Sm xs.length){A:List Item->AS->Prop}(hA:yP prog codes sigs f291 (eW 1) (λ r'=>yD.Le r' (IB xs)) 1 A) :
  ∀ (k i j:Nat) (zs:List yG),j+k=xs.length->i<j->zs.length=xs.length->zs.take i=keep (xs.take j)->zs.drop j=xs.drop j->A (hd f291 0) (L78 zs i j)
 | 0, i, j, zs, hj, hij, hz, ht, _ => by
   have hi:i<=zs.length:=by omega
   refine hA.go (Rn zs i j) (ae (λ h=>?_) (λ h=>?_))
   ·simp only[bC]at h;omega
   ·have hki:(keep xs).length=i:=by
     have:=congrArg List.length ht
     rw[cj (by omega:xs.length<=j),aD,Nat.min_eq_left hi]at this
     exact this.symm
    have hsp:dV zs i (List.replicate (zs.length-i) Ty.span.dflt)=pad xs.length (keep xs):=by
     unfold dV pad
     rw[ht,cj (by omega:xs.length<=j),hki,hz,cL,dN (by omega),fU]
    refine⟨⟨by omega,by omega⟩,by simp only[au];omega,⟨by omega,by omega,?_⟩,tv,.of_eq ?_⟩
    ·simp only[au]
     rw[dg _ _ _ (by rw[cL];omega)];omega
    ·simp only[au,IB,hsp,hki,di]
 | k + 1, i, j, zs, hj, hij, hz, ht, hd' => by
   have hjz:j<zs.length:=by omega
   have hjx:j<xs.length:=by omega
   have hg:zs.getD j Ty.span.dflt=xs[j]:=by
    have:=congrArg List.head? hd'
    simp only[ng,ai hjz,ai hjx,ag]at this
    simp[List.getD,hjz,this]
   have hw:w64 ((j:Int)+1)=((j+1:Nat):Int):=by
    unfold Sm at hl
    rw[oR (by omega) (by omega)];rfl
   have hw2:w64 ((i:Int)+1)=((i+1:Nat):Int):=by
    unfold Sm at hl
    rw[oR (by omega) (by omega)];rfl
   have hdd:zs.drop (j+1)=xs.drop (j+1):=by
    have:=congrArg (List.drop 1) hd'
    simpa[kW,Nat.add_comm]using this
   refine hA.go (Rn zs i j) (ae (λ h=>?_) (λ h=>?_))
   ·refine⟨⟨by omega,by omega⟩,by simpa using hjz,⟨T3,tv⟩,_,c75 _,?_⟩
    refine ae (λ h2=>?_) (λ h2=>?_)
    ·have h2:emp xs[j]=false:=by
      rw[<-hg];simpa using h2
     refine⟨⟨by omega,by omega⟩,⟨by simpa using by omega,T3⟩,?_⟩
     rw[hw,hw2]
     have hset:List.set zs ((i:Int).toNat) (zs.getD ((j:Int).toNat) Ty.span.dflt)=zs.set i xs[j]:=by rw[au,au,hg]
     show A (hd f291 0) (L78 (List.set zs ((i:Int).toNat) (zs.getD ((j:Int).toNat) Ty.span.dflt)) (i+1:Nat) (j+1:Nat))
     rw[hset]
     refine Cy hl hA k (i+1) (j+1) (zs.set i xs[j]) (by omega) (by omega) (by simpa using hz) ?_ ?_
     ·rw[nT hjx,h2,<-ht]
      have hiz:i<(zs.set i xs[j]).length:=by simp;omega
      rw[aW hiz,List.take_set_of_le (aI i)]
      simp
     ·rw[List.drop_set_of_lt (by omega)];exact hdd
    ·have h2:emp xs[j]=true:=by
      rw[<-hg];simpa using h2
     rw[hw]
     refine Cy hl hA k i (j+1) zs (by omega) (by omega) hz ?_ hdd
     rw[nT hjx,h2,ht];simp
   ·simp only[cN]at h;omega
theorem c78 {xs:List yG}(hl:Sm xs.length):Gc prog 291 [.own 0 .span,.clo (.func 258) [] []] [(0,.row 175 .span xs)] 1 (IB xs):=by
 have hkl:(keep xs).length<=xs.length:=ge _ _
 refine Gc.of_closed (C:=codes) (S:=sigs) mixed func291 (by kernel_rfl) (λ i T t ys hi h=>?_) λ A hA=>hA.go (t78 xs) ⟨fnd xs 0,c112 hl,ae (λ h=>?_) (λ h=>?_)⟩
 ·obtain rfl:i=0:=by omega
  simp only[Heap.get,dY,cT,ag,ABlk.row.injEq]at h
  obtain⟨rfl,rfl,h⟩:=h
  refine⟨xs,rfl,?_⟩
  rw[<-eq_of_heq h]
  simp[pad];omega
 ·have h:fnd xs 0 = -1:=by simpa using h
  have hk:=AW (iy 0) h
  have hp:pad xs.length (keep xs)=xs:=by rw[hk];simp[pad]
  refine⟨tv,⟨rfl,λ i x y hx hy=>?_,λ l b hb=>⟨b,?_,.refl _ b⟩,aI _⟩⟩
  ·cases i with
   | zero =>
     cases hx;cases hy
     rw[hk]
     exact .view rfl
   | succ i=>cases hx
  ·simp only[hp]at hb;exact hb
 ·have h:fnd xs 0 ≠ -1:=by simpa using h
  obtain⟨k,h1,h2,h3⟩:=AU (iy 0) h
  have h2:fnd xs 0=(k:Int):=by rw[h2];omega
  rw[h2]
  have hw:w64 ((k:Int)+1)=((k+1:Nat):Int):=by
   unfold Sm at hl
   rw[oR (by omega) (by omega)];rfl
  rw[hw]
  exact Cy hl hA (xs.length-(k+1)) k (k+1) xs (by omega) (by omega) rfl h3.symm rfl
theorem c82 (a b:yG):yJ prog 295 [⟨.span,a⟩,⟨.span,b⟩] [.bool] (bif decide (b.lo<=a.hi)then true else(w64 (b.lo-1)==a.hi)):=ofT func295 (t82 a b) (by kernel_rfl) (by kernel_rfl) λ A=>by
 refine ae (λ h=>?_) (λ h=>?_)
 ·refine⟨q2,?_⟩
  show true=_
  rw[h];rfl
 ·refine⟨q2,?_⟩
  show(_:Bool)=_
  rw[h];rfl
end Go.Proofs.Sp
