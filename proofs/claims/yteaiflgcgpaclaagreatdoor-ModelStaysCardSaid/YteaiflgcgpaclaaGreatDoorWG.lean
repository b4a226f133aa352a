/- Own work: part WG of the proof. -/
import Derived.Test.YteaiflgcgpaclaaGreatDoorWE
import Derived.Test.YteaiflgcgpaclaaGreatDoorWF
import Derived.Shelf.SlSortCmp.WholeK
import Derived.Shelf.SlSortCmp.NoneTotal
import Derived.Ground.SlsfProg
import Derived.Ground.NamesProg
import Derived.Test.YteaiflgcgpaclaaGreatDoorChecked
set_option linter.unusedVariables false
set_option linter.unusedSimpArgs false
namespace Go.Proofs.Zn
open Go.Proofs.Tryz
open Go Go.VL
abbrev iU (l:List Int):Prop:=l.Pairwise (· < ·)
theorem kS:∀ {l m:List Int},iU l->iU m->(∀ n,n∈l↔n∈m)->l=m
 | [],[],_,_,_=>rfl
 | [],b::m,_,_,h=>absurd ((h b).2 (by simp)) (by simp)
 | a::l,[],_,_,h=>absurd ((h a).1 (by simp)) (by simp)
 | a :: l, b :: m, hl, hm, h => by
   obtain⟨h1,h2⟩:=aP.1 hl
   obtain⟨g1,g2⟩:=aP.1 hm
   have hab:a=b:=by
    rcases aD.1 ((h a).1 (by simp))with e|e
    ·exact e
    ·rcases aD.1 ((h b).2 (by simp))with e'|e'
     ·exact e'.symm
     ·have:=g1 a e;have:=h1 b e';omega
   subst hab
   rw[kS h2 g2 fun n=>⟨fun hn=>?_,fun hn=>?_⟩]
   ·have:=h1 n hn
    rcases aD.1 ((h n).1 (by simp[hn]))with e|e
    ·omega
    ·exact e
   ·have:=g1 n hn
    rcases aD.1 ((h n).2 (by simp[hn]))with e|e
    ·omega
    ·exact e
def fN:List Int->Int->List Int
 | [],n=>[n]
 | x::l,n=>bif decide (x<n)then x::fN l n else bif x==n then x::l else n::x::l
theorem mY {m n:Int}:∀ {l:List Int},m∈fN l n↔m=n\/m∈l
 | []=>by simp[fN]
 | x :: l => by
   unfold fN
   by_cases h1:x<n
   ·rw[dT h1,cT,aD,mY (l:=l),aD]
    constructor
    ·rintro(h|h|h)
     ·exact .inr (.inl h)
     ·exact .inl h
     ·exact .inr (.inr h)
    ·rintro(h|h|h)
     ·exact .inr (.inl h)
     ·exact .inl h
     ·exact .inr (.inr h)
   ·rw[dF h1,cF]
    cases h2:x==n
    ·rw[cF];simp
    ·rw[cT]
     have:x=n:=by simpa using h2
     subst this
     simp
theorem lZ {n:Int}:∀ {l:List Int},iU l->iU (fN l n)
 | [],_=>by simp[fN]
 | x :: l, h => by
   obtain⟨h1,h2⟩:=aP.1 h
   unfold fN
   by_cases h3:x<n
   ·rw[dT h3,cT]
    refine aP.2 ⟨fun y hy=>?_,lZ h2⟩
    rcases mY.1 hy with e|e
    ·omega
    ·exact h1 y e
   ·rw[dF h3,cF]
    cases h4:x==n
    ·rw[cF]
     have h4:¬ x=n:=by simpa using h4
     refine aP.2 ⟨fun y hy=>?_,h⟩
     rcases aD.1 hy with e|e
     ·omega
     ·have:=h1 y e;omega
    ·rw[cT];exact h
theorem oz {n:Int}:∀ {l:List Int},(fN l n).length<=l.length+1
 | []=>by simp[fN]
 | x :: l => by
   unfold fN
   cases decide (x<n)
   ·cases x==n<;>simp
   ·have:=oz (n:=n) (l:=l)
    simp only[cT,ag];omega
def dj (a b:List Int):List Int:=b.foldl fN a
theorem ir {n:Int}:∀ {b a:List Int},n∈dj a b↔n∈a\/n∈b
 | [],a=>by simp[dj]
 | x :: b, a => by
   have:=ir (n:=n) (b:=b) (a:=fN a x)
   unfold dj at this ⊢
   rw[gx,this,mY,aD]
   constructor
   ·rintro((h|h)|h)
    ·exact .inr (.inl h)
    ·exact .inl h
    ·exact .inr (.inr h)
   ·rintro(h|h|h)
    ·exact .inl (.inr h)
    ·exact .inl (.inl h)
    ·exact .inr h
theorem gO:∀ {b a:List Int},iU a->iU (dj a b)
 | [],_,h=>h
 | x::b,a,h=>gO (b:=b) (a:=fN a x) (lZ h)
theorem iy:∀ {b a:List Int},(dj a b).length<=a.length+b.length
 | [],_=>by simp[dj]
 | x :: b, a => by
   have h1:=iy (b:=b) (a:=fN a x)
   have h2:=oz (n:=x) (l:=a)
   unfold dj at h1 ⊢
   rw[gx,ag];omega
abbrev dJ (l:List Int):List Int:=dj [] l
theorem jv (l:List Int):iU (dJ l):=gO .nil
theorem mX {n:Int}{l:List Int}:n∈dJ l↔n∈l:=by
 rw[ir];simp
def tk (w:Bool)(x:Int)(l:List Int):List Int:=bif w then x::l else l
theorem rY {w:Bool}{x n:Int}{l:List Int}:n∈tk w x l↔(w=true/\n=x)\/n∈l:=by
 cases w<;>simp[tk]
def cP (f s t:Bool):List Int->List Int->List Int
 | [],[]=>[]
 | x::a,[]=>tk f x (cP f s t a [])
 | [],y::b=>tk s y (cP f s t [] b)
 | x::a,y::b=>if x<y then tk f x (cP f s t a (y::b))else if y<x then tk s y (cP f s t (x::a) b)else tk t x (cP f s t a b)
termination_by a b=>a.length+b.length
theorem iA (f s t:Bool):∀ (a b:List Int),iU a->iU b ->
  (∀ n,n∈cP f s t a b↔(f=true/\n∈a/\n ∉ b)\/(s=true/\n ∉ a/\n∈b)\/(t=true/\n∈a/\n∈b))/\iU (cP f s t a b)
 | [],[],_,_=>by rw[cP];simp
 | x :: a, [], ha, hb => by
   obtain⟨h1,h2⟩:=aP.1 ha
   obtain⟨i1,i2⟩:=iA f s t a [] h2 hb
   rw[cP]
   refine⟨fun n=>?_,?_⟩
   ·rw[rY,i1];simp only[aD]
    cases f<;>simp
   ·cases f
    ·exact i2
    ·refine aP.2 ⟨fun y hy=>?_,i2⟩
     have:=(i1 y).1 hy
     simp at this
     exact h1 y this
 | [], y :: b, ha, hb => by
   obtain⟨h1,h2⟩:=aP.1 hb
   obtain⟨i1,i2⟩:=iA f s t [] b ha h2
   rw[cP]
   refine⟨fun n=>?_,?_⟩
   ·rw[rY,i1];simp only[aD]
    cases s<;>simp
   ·cases s
    ·exact i2
    ·refine aP.2 ⟨fun z hz=>?_,i2⟩
     have:=(i1 z).1 hz
     simp at this
     exact h1 z this
 | x :: a, y :: b, ha, hb => by
   obtain⟨h1,h2⟩:=aP.1 ha
   obtain⟨g1,g2⟩:=aP.1 hb
   rw[cP]
   by_cases c1:x<y
   ·rw[aE c1]
    obtain⟨i1,i2⟩:=iA f s t a (y::b) h2 hb
    have hx:∀ n,n∈y::b->n≠x:=fun n hn e=>by
     subst e
     rcases aD.1 hn with e|e
     ·omega
     ·have:=g1 n e;omega
    have hxa:x ∉ a:=fun e=>by have:=h1 x e;omega
    refine⟨fun n=>?_,?_⟩
    ·rw[rY,i1]
     by_cases hn:n=x
     ·subst hn
      have hny:n ∉ y::b:=fun e=>hx n e rfl
      simp only[hny,hxa,aD,true_or,ku,mN,and_false,mM]
      try simp
     ·have e:n∈x::a↔n∈a:=by simp[hn]
      rw[e];simp[hn]
    ·cases f
     ·exact i2
     ·refine aP.2 ⟨fun z hz=>?_,i2⟩
      have hz:=(i1 z).1 hz
      have:z∈a\/z∈y::b:=by
       rcases hz with⟨_,h,_⟩|⟨_,_,h⟩|⟨_,h,_⟩
       ·exact .inl h
       ·exact .inr h
       ·exact .inl h
      rcases this with h|h
      ·exact h1 z h
      ·rcases aD.1 h with e|e
       ·omega
       ·have:=g1 z e;omega
   ·rw[aH c1]
    by_cases c2:y<x
    ·rw[aE c2]
     obtain⟨i1,i2⟩:=iA f s t (x::a) b ha g2
     have hy:∀ n,n∈x::a->n≠y:=fun n hn e=>by
      subst e
      rcases aD.1 hn with e|e
      ·omega
      ·have:=h1 n e;omega
     have hyb:y ∉ b:=fun e=>by have:=g1 y e;omega
     refine⟨fun n=>?_,?_⟩
     ·rw[rY,i1]
      by_cases hn:n=y
      ·subst hn
       have hny:n ∉ x::a:=fun e=>hy n e rfl
       simp only[hny,hyb,aD,true_or,ku,mN,and_false,mM]
       try simp
      ·have e:n∈y::b↔n∈b:=by simp[hn]
       rw[e];simp[hn]
     ·cases s
      ·exact i2
      ·refine aP.2 ⟨fun z hz=>?_,i2⟩
       have hz:=(i1 z).1 hz
       have:z∈x::a\/z∈b:=by
        rcases hz with⟨_,h,_⟩|⟨_,_,h⟩|⟨_,h,_⟩
        ·exact .inl h
        ·exact .inr h
        ·exact .inl h
       rcases this with h|h
       ·rcases aD.1 h with e|e
        ·omega
        ·have:=h1 z e;omega
       ·exact g1 z h
    ·rw[aH c2]
     have hxy:x=y:=by omega
     subst hxy
     obtain⟨i1,i2⟩:=iA f s t a b h2 g2
     have hxa:x ∉ a:=fun e=>by have:=h1 x e;omega
     have hxb:x ∉ b:=fun e=>by have:=g1 x e;omega
     refine⟨fun n=>?_,?_⟩
     ·rw[rY,i1]
      by_cases hn:n=x
      ·subst hn
       simp only[hxa,hxb,aD,true_or,hP,mN,and_false,mM,false_or]
       try simp
      ·have e:n∈x::a↔n∈a:=by simp[hn]
       have e':n∈x::b↔n∈b:=by simp[hn]
       rw[e,e'];simp[hn]
     ·cases t
      ·exact i2
      ·refine aP.2 ⟨fun z hz=>?_,i2⟩
       have hz:=(i1 z).1 hz
       rcases hz with⟨_,h,_⟩|⟨_,_,h⟩|⟨_,h,_⟩
       ·exact h1 z h
       ·exact g1 z h
       ·exact h1 z h
termination_by a b=>a.length+b.length
theorem jk {a b:List Int}(ha:iU a)(hb:iU b):cP true true true a b=dj a b:=by
 obtain⟨h1,h2⟩:=iA true true true a b ha hb
 refine kS h2 (gO ha) fun n=>?_
 rw[h1,ir]
 by_cases c1:n∈a<;>by_cases c2:n∈b<;>simp[c1,c2]
theorem QZ (l m:List Int):dJ (l++m)=dj (dJ l) (dJ m):=by
 refine kS (jv _) (gO (jv _)) fun n=>?_
 rw[mX,ir,mX,mX,aA]
def eu (d:Deck)(s:Span):List Int:=(List.range (s.hi-s.lo+1).toNat).map fun k:Nat=>bp (aL d)+bp (aR d)+(s.lo+(k:Int))
theorem uo {d:Deck}{s:Span}{n:Int}:n∈eu d s↔s.lo<=n-(bp (aL d)+bp (aR d))/\n-(bp (aL d)+bp (aR d))<=s.hi:=by
 unfold eu
 rw[aT]
 constructor
 ·rintro⟨k,hk,rfl⟩
  have:=cz.1 hk
  omega
 ·rintro⟨h1,h2⟩
  refine⟨(n-(bp (aL d)+bp (aR d))-s.lo).toNat,cz.2 (by omega),by omega⟩
theorem sx (d:Deck)(s:Span):iU (eu d s):=by
 unfold eu
 rw[iU,List.pairwise_map]
 exact List.pairwise_lt_range.imp fun h=>by omega
def nQ (d:Deck)(l:List Span):List Int:=l.foldl (fun out s=>dj out (eu d s)) []
theorem rX (d:Deck):∀ (l:List Span) (out:List Int),iU out->iU (l.foldl (fun out s=>dj out (eu d s)) out) /\
  ∀ n,n∈l.foldl (fun out s=>dj out (eu d s)) out↔n∈out\/∃ s∈l,n∈eu d s
 | [],out,h=>⟨h,fun n=>by simp⟩
 | s :: l, out, h => by
   obtain⟨h1,h2⟩:=rX d l (dj out (eu d s)) (gO h)
   refine⟨h1,fun n=>?_⟩
   rw[gx,h2,ir]
   constructor
   ·rintro((h|h)|⟨t,ht,h⟩)
    ·exact .inl h
    ·exact .inr ⟨s,by simp,h⟩
    ·exact .inr ⟨t,by simp[ht],h⟩
   ·rintro(h|⟨t,ht,h⟩)
    ·exact .inl (.inl h)
    ·rcases aD.1 ht with e|e
     ·subst e;exact .inl (.inr h)
     ·exact .inr ⟨t,e,h⟩
theorem nP (d:Deck)(l:List Span):iU (nQ d l):=(rX d l [] .nil).1
theorem pB {d:Deck}{l:List Span}{n:Int}:n∈nQ d l↔∃ s∈l,n∈eu d s:=by
 have:=(rX d l [] .nil).2 n
 unfold nQ;rw[this];simp
theorem Dw {d:Deck}{l m:List Span}(h:∀ n:Int,(∃ s∈m,s.lo<=n/\n<=s.hi)↔∃ s∈l,s.lo<=n/\n<=s.hi):dJ (m.flatMap (eu d))=nQ d l:=by
 refine kS (jv _) (nP _ _) fun n=>?_
 rw[mX,pB,iF]
 simp only[uo]
 exact h _
end Go.Proofs.Zn

namespace Go.Proofs.Zn
open Go.Proofs.Tryz
open Go Go.VL
def dQ:List (Span×Int)->Int
 | []=>0
 | p::l=>bif p.2 != 0 then p.2 else dQ l
theorem mK:∀ (l m:List (Span×Int)),dQ (l++m)=bif dQ l != 0 then dQ l else dQ m
 | [],m=>rfl
 | p :: l, m => by
   simp only[iG,dQ,mK l m]
   cases h:p.2 != 0
   ·rfl
   ·simp[h]
theorem vd:∀ {l:List (Span×Int)},dQ l=0->∀ p∈l,p.2=0
 | [],_,_,h=>by cases h
 | q :: l, h, p, hp => by
   simp only[dQ]at h
   cases hq:q.2 != 0
   ·rw[hq,cF]at h
    rcases aD.1 hp with e|e
    ·subst e;simpa using hq
    ·exact vd h p e
   ·rw[hq,cT]at h
    rw[h]at hq;cases hq
theorem yn {L:List (Span×Int)}:∀ n:Nat,dQ (List.replicate (n+1) L).flatten=dQ L
 | 0=>by simp[List.replicate]
 | n + 1 => by
   rw[dp,hZ,mK,yn n]
   cases h:dQ L != 0<;>rfl
def gT (L:List (Span×Int)):List Span×Int:=bif dQ L != 0 then([],dQ L)else(L.map Prod.fst,0)
abbrev cn (d:Deck)(l:List Part):List (Span×Int):=l.map (iz d)
def co (k u:Int)(n:Nat):List Part:=(List.range n).map fun c:Nat=>⟨k,u,0,(c:Int)⟩
theorem uf {α:Type}(C:Nat)(f:Nat->α):∀ R:Nat,(List.range (R*C)).map (fun n=>f (n%C))=(List.replicate R ((List.range C).map f)).flatten
 | 0=>by simp
 | R + 1 => by
   rw[Nat.succ_mul,List.range_add,bO,uf C f R,List.replicate_succ',List.flatten_append,hY]
   congr 1
   simp only[hZ,List.flatten_nil,fx]
   refine gj fun n hn=>?_
   have:=cz.1 hn
   simp only[Function.comp]
   rw[bW,lO,cQ this]
theorem sS (d:Deck){k u r c:Int}(hr:0<=r)(hc:0<=c):cn d (cV k u r c)=(List.replicate r.toNat (cn d (co k u c.toNat))).flatten:=by
 obtain⟨R,rfl⟩:=cG hr
 obtain⟨C,rfl⟩:=cG hc
 have e:(((R:Nat):Int)*((C:Nat):Int)).toNat=R*C:=by rw[← je];rfl
 simp only[cn,cV,co,hY,e,aq]
 rw[← uf C _ R]
 refine gj fun n _=>?_
 simp only[Function.comp,iz,xd,Int.natCast_emod]
def dO (d:Deck):List Span×Int:=bif dE d != 0 then([],dE d)else gT (cn d (dz d))
def cW (d:Deck):Int:=(dO d).2
def ny (d:Deck)(i:Nat):List Part:=dg 1 i ((aL d).drop i)++(dg 2 0 (aR d)++fe (d.borders.length-1))
def ud (d:Deck)(i:Nat):List Part:=dg 2 i ((aR d).drop i)++fe (d.borders.length-1)
theorem uT (d:Deck)(n:Nat):cn d (fe n)=(List.range n).map fun i:Nat=>(⟨(i:Int),(i:Int)⟩,0):=by
 simp only[cn,fe,hY];rfl
theorem uS (d:Deck)(n:Nat):dQ (cn d (fe n))=0:=by
 rw[uT]
 have:∀ l:List Nat,dQ (l.map fun i:Nat=>((⟨(i:Int),(i:Int)⟩:Span),(0:Int)))=0:=fun l=>by
  induction l with
  | nil=>rfl
  | cons a l ih=>simp only[bk,dQ];exact ih
 exact this _
theorem ru {d:Deck}(h:(dO d).2=0):DeckOk d/\dQ (cn d (dz d))=0/\(dO d).1=(cn d (dz d)).map Prod.fst:=by
 unfold dO at h ⊢
 cases h1:dE d != 0
 ·rw[h1,cF]at h
  rw[cF]
  have hd:DeckOk d:=fm (by simpa using h1)
  unfold gT at h ⊢
  cases h2:dQ (cn d (dz d)) != 0
  ·exact⟨hd,by simpa using h2,rfl⟩
  ·rw[h2,cT]at h
   have h:dQ (cn d (dz d))=0:=h
   rw[h]at h2;cases h2
 ·rw[h1,cT]at h
  have h:dE d=0:=h
  rw[h]at h1;cases h1
def gL (d:Deck)(s:Span):Prop:=0<=s.lo/\s.lo<=s.hi/\s.hi<(d.borders.length:Int)-1
theorem wR {d:Deck}(h:(dO d).2=0):∀ s∈(dO d).1,gL d s:=by
 obtain⟨_,h2,h3⟩:=ru h
 intro s hs
 rw[h3]at hs
 obtain⟨q,hq,rfl⟩:=aT.1 hs
 have h0:=vd h2 q hq
 obtain⟨p,hp,rfl⟩:=aT.1 hq
 exact Hv (me hp) h0
def mc (t:List Span):List Span->List Int->List Span×Int
 | acc,[]=>(acc,0)
 | acc,i::l=>bif decide (i<0)then([],3)else bif decide (i>=(t.length:Int))then([],3)else mc t (acc++[t.getD i.toNat Ty.span.dflt]) l
def da (d:Deck)(ids:List Int):List Span×Int:=bif (dO d).2 != 0 then([],(dO d).2)else mc (dO d).1 [] ids
theorem AH {t:List Span}{Q:Span->Prop}(ht:∀ s∈t,Q s):∀ {l:List Int} {acc:List Span},(∀ s∈acc,Q s)->(mc t acc l).2=0->(∀ s∈(mc t acc l).1,Q s)/\(mc t acc l).1.length=acc.length+l.length
 | [],acc,ha,_=>⟨ha,rfl⟩
 | i :: l, acc, ha, h => by
   unfold mc at h ⊢
   by_cases h1:i<0
   ·rw[dT h1]at h;cases h
   rw[dF h1,cF]at h ⊢
   by_cases h2:i>=(t.length:Int)
   ·rw[dT h2]at h;cases h
   rw[dF h2,cF]at h ⊢
   have hi:i.toNat<t.length:=by omega
   obtain⟨g1,g2⟩:=AH ht (l:=l) (acc:=acc++[t.getD i.toNat Ty.span.dflt]) (fun s hs=>by
    rcases aA.1 hs with e|e
    ·exact ha s e
    ·rw[cJ hi]at e
     rw[bz.1 e]
     exact ht _ (aQ _)) h
   exact⟨g1,by rw[g2];simp;omega⟩
theorem kR {d:Deck}{ids:List Int}(h:(da d ids).2=0):DeckOk d/\(∀ s∈(da d ids).1,gL d s)/\(da d ids).1.length=ids.length:=by
 unfold da at h ⊢
 cases h1:(dO d).2 != 0
 ·rw[h1,cF]at h
  rw[cF]
  have h0:(dO d).2=0:=by simpa using h1
  obtain⟨g1,g2⟩:=AH (wR h0) (acc:=[]) (fun s hs=>by cases hs) h
  exact⟨(ru h0).1,g1,by simpa using g2⟩
 ·rw[h1,cT]at h
  have h:(dO d).2=0:=h
  rw[h]at h1;cases h1
def gC (d:Deck)(ids:List Int):List Int×Int:=bif (da d ids).2 != 0 then([],(da d ids).2)else(nQ d (da d ids).1,0)
def two (l:List Span):Span×Span:=(l.getD 0 Ty.span.dflt,l.getD 1 Ty.span.dflt)
def CC (a b:Span):Span:=⟨bif decide (b.lo<a.lo)then b.lo else a.lo,bif decide (b.hi>a.hi)then b.hi else a.hi⟩
def md (d:Deck)(a b:Int):List Int×Int:=bif (da d [a,b]).2 != 0 then([],(da d [a,b]).2)else(eu d (CC (two (da d [a,b]).1).1 (two (da d [a,b]).1).2),0)
end Go.Proofs.Zn

namespace Go.Proofs.Zn
open Go.Proofs.Tryz
open Go Go.VL
theorem MU {b:Go.VL.Box}(h:cN b=true):Pure prog 217 [⟨.box,b⟩] [.int] (b.rows*b.cols):=
 ofT func217 (t141 b) (by kernel_rfl) (by kernel_rfl) fun _=>⟨q2,by have:=dU h;exact ax (by omega) (by omega)⟩
theorem PB (b:Go.VL.Box):Pure prog 203 [⟨.box,b⟩] [.bool] (cN b):=
 ofT func203 (t126 b) (by kernel_rfl) (by kernel_rfl) fun _=>
  cS (fun _=>cS (fun _=>cS (fun _=>⟨q2,rfl⟩) (fun _=>⟨q2,rfl⟩)) (fun _=>⟨q2,rfl⟩)) (fun _=>⟨q2,rfl⟩)
theorem PE (r c:Int):Pure prog 220 [⟨.int,r⟩,⟨.int,c⟩] [.bool] (cN ⟨r,c⟩):=
 ofT func220 (t123 r c) (by kernel_rfl) (by kernel_rfl) fun _=>
  cS (fun _=>cS (fun _=>cS (fun _=>⟨q2,rfl⟩) (fun _=>⟨q2,rfl⟩)) (fun _=>⟨q2,rfl⟩)) (fun _=>⟨q2,rfl⟩)
theorem oY {l:List Go.VL.Box}(hl:l.length<=1000)(hb:∀ b∈l,cN b=true){r:Int}{A:Pr}(hA:CL codes sigs f141 [.int] r A)
  (i:Nat) (hi:i<=l.length) (n:Int) (hn:0<=n/\n<=1536*(i:Int)) (h:n+bp (l.drop i)=r):A (hd f141 0) (Ey l n i):=by
 refine hA.go (Ff l n i) (ak (fun h1=>?_) (fun h1=>?_))
 ·have h1:=oT h1
  have hil:i<l.length:=by omega
  have hbi:=hb l[i] (aQ _)
  have hs:=dU hbi
  rw[bf hil]
  rw[dG hil,bp]at h
  refine⟨⟨⟨by omega,by omega⟩,tv⟩,⟨T3',tv⟩,_,MU hbi,?_⟩
  show A (hd f141 0) (Ey l (w64 (n+l[i].rows*l[i].cols)) (w64 ((i:Int)+1)))
  rw[aw (by omega),ax (by omega) (by omega)]
  exact oY hl hb hA (i+1) (by omega) _ ⟨by omega,by omega⟩ (by omega)
 ·have h1:=oF h1
  refine⟨⟨tv,tv⟩,?_⟩
  rw[dN (by omega)]at h
  have h:n=r:=by simpa[bp]using h
  exact h
termination_by l.length-i
theorem Es {l:List Go.VL.Box}(hl:l.length<=1000)(hb:∀ b∈l,cN b=true):Pure prog 141 [⟨.sl .box,l⟩] [.int] (bp l):=
 Pure.of_closed (C:=codes) (S:=sigs) mixed func141 (by kernel_rfl) (ac (by kernel_rfl)) fun A hA=>hA.go (LS l)
  (oY hl hb hA 0 (by omega) 0 ⟨by omega,by omega⟩ (by simp))
theorem Bx {d:Deck}(hl:d.plates.length<=1000){r:List Go.VL.Box}{A:Pr}(hA:CL codes sigs f142 [.sl .box] r A)
  (i:Nat) (hi:i<=d.plates.length) (out:List Go.VL.Box) (ho:out.length=i) (h:out++(d.plates.drop i).map eL=r):A (hd f142 0) (Nk d out i):=by
 refine hA.go (OC d out i) (ak (fun h1=>?_) (fun h1=>?_))
 ·have h1:=oT h1
  have hil:i<d.plates.length:=by omega
  rw[bf hil]
  rw[dG hil,bk]at h
  refine⟨⟨⟨by omega,by omega⟩,tv⟩,⟨T3',tv⟩,⟨by simp only[ag,am];omega,tv⟩,?_⟩
  rw[aw (by omega)]
  exact Bx hl hA (i+1) (by omega) (out++[eL d.plates[i]]) (by simp[ho]) (by rw[← h];simp)
 ·have h1:=oF h1
  refine⟨⟨tv,tv⟩,?_⟩
  rw[dN (by omega)]at h
  have h:out=r:=by simpa using h
  exact h
termination_by d.plates.length-i
theorem MW {d:Deck}(hl:d.plates.length<=1000):Pure prog 142 [⟨.deck,d⟩] [.sl .box] (aL d):=
 Pure.of_closed (C:=codes) (S:=sigs) mixed func142 (by kernel_rfl) (ac (by kernel_rfl)) fun A hA=>hA.go (t117 d)
  (hA.row 3 244 .box (s':=Nk d [] 0) (by kernel_rfl) (by kernel_rfl) (Bx hl hA 0 (by omega) [] rfl rfl))
theorem Bw {d:Deck}(hl:d.racks.length<=1000){r:List Go.VL.Box}{A:Pr}(hA:CL codes sigs f143 [.sl .box] r A)
  (i:Nat) (hi:i<=d.racks.length) (out:List Go.VL.Box) (ho:out.length=i) (h:out++(d.racks.drop i).map gU=r):A (hd f143 0) (Nj d out i):=by
 refine hA.go (OB d out i) (ak (fun h1=>?_) (fun h1=>?_))
 ·have h1:=oT h1
  have hil:i<d.racks.length:=by omega
  rw[bf hil]
  rw[dG hil,bk]at h
  refine⟨⟨⟨by omega,by omega⟩,tv⟩,⟨T3',tv⟩,⟨by simp only[ag,am];omega,tv⟩,?_⟩
  rw[aw (by omega)]
  exact Bw hl hA (i+1) (by omega) (out++[gU d.racks[i]]) (by simp[ho]) (by rw[← h];simp)
 ·have h1:=oF h1
  refine⟨⟨tv,tv⟩,?_⟩
  rw[dN (by omega)]at h
  have h:out=r:=by simpa using h
  exact h
termination_by d.racks.length-i
theorem MV {d:Deck}(hl:d.racks.length<=1000):Pure prog 143 [⟨.deck,d⟩] [.sl .box] (aR d):=
 Pure.of_closed (C:=codes) (S:=sigs) mixed func143 (by kernel_rfl) (ac (by kernel_rfl)) fun A hA=>hA.go (t118 d)
  (hA.row 3 244 .box (s':=Nj d [] 0) (by kernel_rfl) (by kernel_rfl) (Bw hl hA 0 (by omega) [] rfl rfl))
theorem yC {p:Plate}(h:cN (eL p)=true):w64 (p.rows*p.cols)=p.rows*p.cols:=by
 have:1<=p.rows*p.cols/\p.rows*p.cols<=1536:=dU h
 exact ax (by omega) (by omega)
theorem Bt {p:Plate}(hl:(p.start.length:Int)<=1536){r:Bool}{A:Pr}(hA:CL codes sigs f204 [.bool] r A)
  (i:Nat) (hi:i<=p.start.length) (h:kf p.cap (p.start.drop i)=r):A (hd f204 0) (Qd p i):=by
 refine hA.go (Ou p i) (ak (fun h1=>?_) (fun h1=>?_))
 ·have h1:=oT h1
  have hil:i<p.start.length:=by omega
  rw[bf hil]
  rw[dG hil,kf]at h
  refine⟨⟨⟨by omega,by omega⟩,tv⟩,ak (fun h2=>?_) (fun h2=>ak (fun h3=>?_) (fun h3=>?_))⟩
  ·rw[h2]at h;exact⟨⟨tv,tv⟩,h⟩
  ·rw[h2,h3]at h;exact⟨⟨tv,tv⟩,h⟩
  ·rw[h2,h3]at h
   rw[aw (by omega)]
   exact Bt hl hA (i+1) (by omega) h
 ·have h1:=oF h1
  refine⟨⟨tv,tv⟩,?_⟩
  rw[dN (by omega)]at h
  exact h
termination_by p.start.length-i
theorem c127 {p:Plate}(h:cN (eL p)=true):Pure prog 204 [⟨.plate,p⟩] [.bool] (lw p):=
 Pure.of_closed (C:=codes) (S:=sigs) mixed func204 (by kernel_rfl) (ac (by kernel_rfl)) fun A hA=>hA.go (t127 p) (by
  have hs:1<=p.rows*p.cols/\p.rows*p.cols<=1536:=dU h
  unfold lw
  rw[yC h]
  refine ak (fun h1=>?_) (fun h1=>ak (fun h2=>?_) (fun h2=>ak (fun h3=>?_) (fun h3=>?_)))
  ·rw[h1];exact⟨q2,rfl⟩
  ·rw[h1,h2];exact⟨q2,rfl⟩
  ·rw[h1,h2,h3];exact⟨q2,rfl⟩
  ·have:=oF h3
   exact Bt (by omega) hA 0 (by omega) (by unfold lw;rw[h1,h2,h3];rfl))
theorem Bv {p:Plate}(hl:(p.start.length:Int)<=1536){r:Bool}{A:Pr}(hA:CL codes sigs f219 [.bool] r A)
  (i:Nat) (hi:i<=p.start.length) (h:kf p.cap (p.start.drop i)=r):A (hd f219 0) (Qf p i):=by
 refine hA.go (Oy p i) (ak (fun h1=>?_) (fun h1=>?_))
 ·have h1:=oT h1
  have hil:i<p.start.length:=by omega
  rw[bf hil]
  rw[dG hil,kf]at h
  refine⟨⟨⟨by omega,by omega⟩,tv⟩,ak (fun h2=>?_) (fun h2=>⟨⟨⟨by omega,by omega⟩,tv⟩,ak (fun h3=>?_) (fun h3=>?_)⟩)⟩
  ·rw[h2]at h;exact⟨⟨tv,tv⟩,h⟩
  ·rw[h2,h3]at h;exact⟨⟨tv,tv⟩,h⟩
  ·rw[h2,h3]at h
   rw[aw (by omega)]
   exact Bv hl hA (i+1) (by omega) h
 ·have h1:=oF h1
  refine⟨⟨tv,tv⟩,?_⟩
  rw[dN (by omega)]at h
  exact h
termination_by p.start.length-i
theorem c122 (p:Plate):Pure prog 219 [⟨.plate,p⟩] [.bool] (dt p):=
 Pure.of_closed (C:=codes) (S:=sigs) mixed func219 (by kernel_rfl) (ac (by kernel_rfl)) fun A hA=>hA.go (t122 p) (by
  refine⟨⟨q2,q2,tv⟩,_,PE _ _,?_⟩
  show Sat _ _ _ (bif !cN (eL p)then _ else _)
  unfold dt
  cases h:cN (eL p)
  ·exact⟨q2,rfl⟩
  have hs:1<=p.rows*p.cols/\p.rows*p.cols<=1536:=dU h
  rw[cT,bc,cF]
  unfold lw
  rw[yC h]
  refine ak (fun h1=>?_) (fun h1=>ak (fun h2=>?_) (fun h2=>ak (fun h3=>?_) (fun h3=>?_)))
  ·rw[h1];exact⟨q2,rfl⟩
  ·rw[h1,h2];exact⟨q2,rfl⟩
  ·rw[h1,h2,h3];exact⟨q2,rfl⟩
  ·have:=oF h3
   exact Bv (by omega) hA 0 (by omega) (by unfold dt lw;rw[h,h1,h2,h3];rfl))
end Go.Proofs.Zn

namespace Go.Proofs.Zn
open Go.Proofs.Tryz
open Go Go.VL
def PS (x y:List Go.VL.Box)(i:Int):AS:=mkS 78 [(4,.d (.sl .box x)),(5,.d (.sl .box y)),(60,.d (.sl .box y)),(61,i64 y.length),(62,i64 i)] [] 0
def PU (d:Deck)(w t i:Int):AS:=mkS 103 [(1,.ptr 0 0),(4,i64 w),(5,i64 t),(7,i64 i)] [(0,.box (cw d))] 1
def KV (k u r c:Int)(out:List Part)(i j:Int):AS:=mkS 31 [(0,i64 k),(1,i64 u),(2,i64 r),(3,i64 c),(9,.own 0 .part),(10,i64 i),(11,i64 j)] [(0,.row 179 .part out)] 1
def Nd (d:Deck)(out:List Part)(i:Int):AS:=mkS 71 [(1,.ptr 0 0),(3,.own 1 .part),(5,i64 i)] [(0,.box (cw d)),(1,.row 179 .part out)] 2
def PT (d:Deck)(out:List Part)(i:Int):AS:=mkS 71 [(1,.ptr 0 0),(3,.own 1 .part),(6,i64 i)] [(0,.box (cw d)),(1,.row 179 .part out)] 2
def Nh (l:List Part)(a b c e i:Int):AS:=mkS 31 [(5,.ptr 0 0),(6,.d (.sl .part l)),(7,i64 i)] [(0,.box [i64 a,i64 b,i64 c,i64 e])] 1
theorem t92b (x y:List Go.VL.Box)(i:Int):@Eq _ (xL prog codes sigs f125 [.int] 200 1 (PS x y i)) (bif decide (i<(y.length:Int))then .need (((0:Int)<=i/\i<(y.length:Int))/\True) (.need (U3/\True) (.callP 203 [⟨.box,(y.getD i.toNat Ty.box.dflt)⟩] [.bool] fun(x_1:Bool)=>bif !x_1 then .need U2 (.ret (82:Int))else .stop (hd f125 1) (mkS 78 [(4,.d (.sl .box x)),(5,.d (.sl .box y)),(60,.d (.sl .box y)),(61,i64 (y.length:Int)),(62,i64 (w64 (i+1)))] [] 0)))else .need (U2/\True) (.callP 141 [⟨.sl .box,x⟩] [.int] fun(x:Int)=>bif decide (x>384)then .need U2 (.ret (2:Int))else .need (U2/\True) (.callP 141 [⟨.sl .box,y⟩] [.int] fun(x:Int)=>bif decide (x>384)then .need U2 (.ret (2:Int))else .need U2 (.ret (0:Int))))):=by kernel_rfl
theorem t89b (d:Deck)(w t i:Int):@Eq _ (xL prog codes sigs f153 [.int] 200 1 (PU d w t i)) (bif decide (i<(d.racks.length:Int))then .need (((0:Int)<=i/\i<(d.racks.length:Int))/\True) (.need (((0:Int)<=i/\i<(d.racks.length:Int))/\True) (.need (U2/\U2/\True) (.callP 220 [Sigma.mk .int (d.racks.getD i.toNat Ty.rack.dflt).rows,Sigma.mk .int (d.racks.getD i.toNat Ty.rack.dflt).cols] [.bool] fun(x:Bool)=>bif !x then .need U2 (.ret (82:Int))else .need (((0:Int)<=i/\i<(d.racks.length:Int))/\True) (.need (((0:Int)<=i/\i<(d.racks.length:Int))/\True) (.stop (hd f153 1) (mkS 103 [(1,.ptr 0 0),(4,i64 w),(5,i64 (w64 (t+w64 ((d.racks.getD i.toNat Ty.rack.dflt).rows*(d.racks.getD i.toNat Ty.rack.dflt).cols)))),(7,i64 (w64 (i+1)))] [(0,.box (dC d))] 1))))))else bif decide (w>384)then .need U2 (.ret (2:Int))else bif decide (t>384)then .need U2 (.ret (2:Int))else .need U2 (.ret (0:Int))):=by kernel_rfl
theorem Ow (k u r c:Int)(out:List Part)(i j:Int):@Eq _ (xL prog codes sigs f154 [.sl .part] 200 1 (KV k u r c out i j)) (bif decide (j<c)then .need (U5/\True) (.need ((out.length+List.length [Part.mk k u i j])*33<=35184372088832/\True) (.stop (hd f154 1) (mkS 31 [(0,i64 k),(1,i64 u),(2,i64 r),(3,i64 c),(9,.own 0 .part),(10,i64 i),(11,i64 (w64 (j+1)))] [(0,.row 179 .part (out++[Part.mk k u i j]))] 1)))else .stop (hd f154 0) (mkS 31 [(0,i64 k),(1,i64 u),(2,i64 r),(3,i64 c),(9,.own 0 .part),(10,i64 (w64 (i+1)))] [(0,.row 179 .part out)] 1)):=by kernel_rfl
theorem t90b (d:Deck)(out:List Part)(i:Int):@Eq _ (xL prog codes sigs f88 [.sl .part] 200 1 (Nd d out i)) (bif decide (i<(d.racks.length:Int))then .need (((0:Int)<=i/\i<(d.racks.length:Int))/\True) (.need (((0:Int)<=i/\i<(d.racks.length:Int))/\True) (.need (U2/\U2/\U2/\U2/\True) (.callP 154 [⟨.int,(2:Int)⟩,⟨.int,i⟩,Sigma.mk .int (d.racks.getD i.toNat Ty.rack.dflt).rows,Sigma.mk .int (d.racks.getD i.toNat Ty.rack.dflt).cols] [.sl .part] fun(x:List Part)=>.need ((out.length+x.length)*33<=35184372088832/\True) (.stop (hd f88 1) (mkS 71 [(1,.ptr 0 0),(3,.own 1 .part),(5,i64 (w64 (i+1)))] [(0,.box (dC d)),(1,.row 179 .part (out++x))] 2)))))else .stop (hd f88 2) (mkS 71 [(1,.ptr 0 0),(3,.own 1 .part),(6,i64 0)] [(0,.box (dC d)),(1,.row 179 .part out)] 2)):=by kernel_rfl
theorem t90c (d:Deck)(out:List Part)(i:Int):@Eq _ (xL prog codes sigs f88 [.sl .part] 200 2 (PT d out i)) (bif decide (i<w64 ((d.borders.length:Int)-(1:Int)))then .need (U5/\True) (.need ((out.length+List.length [Part.mk (3:Int) i (0:Int) (0:Int)])*33<=35184372088832/\True) (.stop (hd f88 2) (mkS 71 [(1,.ptr 0 0),(3,.own 1 .part),(6,i64 (w64 (i+1)))] [(0,.box (dC d)),(1,.row 179 .part (out++[Part.mk (3:Int) i (0:Int) (0:Int)]))] 2)))else .need U2 (.ret out)):=by kernel_rfl
theorem Oh (l:List Part)(a b c e i:Int):@Eq _ (xL prog codes sigs f152 [.int,.int,.int] 200 0 (Nh l a b c e i)) (bif decide (i<(l.length:Int))then .need (((0:Int)<=i/\i<(l.length:Int))/\True) (bif (l.getD i.toNat Ty.part.dflt).kind==(↑(nat_lit 3):Int)then bif (l.getD i.toNat Ty.part.dflt).kind==(↑(nat_lit 3):Int)then .stop (hd f152 0) (mkS 31 [(5,.ptr 0 0),(6,.d (.sl .part l)),(7,i64 (w64 (i+1)))] [(0,.box [i64 a,i64 b,i64 c,i64 (w64 (e+1))])] 1)else bif (l.getD i.toNat Ty.part.dflt).kind==(↑(nat_lit 2):Int)then .stop (hd f152 0) (mkS 31 [(5,.ptr 0 0),(6,.d (.sl .part l)),(7,i64 (w64 (i+1)))] [(0,.box [i64 a,i64 b,i64 (w64 (e+1)),i64 e])] 1)else bif (l.getD i.toNat Ty.part.dflt).kind==(↑(nat_lit 1):Int)then .stop (hd f152 0) (mkS 31 [(5,.ptr 0 0),(6,.d (.sl .part l)),(7,i64 (w64 (i+1)))] [(0,.box [i64 a,i64 (w64 (e+1)),i64 c,i64 e])] 1)else bif (l.getD i.toNat Ty.part.dflt).kind==(↑(nat_lit 0):Int)then .stop (hd f152 0) (mkS 31 [(5,.ptr 0 0),(6,.d (.sl .part l)),(7,i64 (w64 (i+1)))] [(0,.box [i64 (w64 (e+1)),i64 b,i64 c,i64 e])] 1)else .fail else bif (l.getD i.toNat Ty.part.dflt).kind==(↑(nat_lit 2):Int)then bif (l.getD i.toNat Ty.part.dflt).kind==(↑(nat_lit 3):Int)then .stop (hd f152 0) (mkS 31 [(5,.ptr 0 0),(6,.d (.sl .part l)),(7,i64 (w64 (i+1)))] [(0,.box [i64 a,i64 b,i64 c,i64 (w64 (c+1))])] 1)else bif (l.getD i.toNat Ty.part.dflt).kind==(↑(nat_lit 2):Int)then .stop (hd f152 0) (mkS 31 [(5,.ptr 0 0),(6,.d (.sl .part l)),(7,i64 (w64 (i+1)))] [(0,.box [i64 a,i64 b,i64 (w64 (c+1)),i64 e])] 1)else bif (l.getD i.toNat Ty.part.dflt).kind==(↑(nat_lit 1):Int)then .stop (hd f152 0) (mkS 31 [(5,.ptr 0 0),(6,.d (.sl .part l)),(7,i64 (w64 (i+1)))] [(0,.box [i64 a,i64 (w64 (c+1)),i64 c,i64 e])] 1)else bif (l.getD i.toNat Ty.part.dflt).kind==(↑(nat_lit 0):Int)then .stop (hd f152 0) (mkS 31 [(5,.ptr 0 0),(6,.d (.sl .part l)),(7,i64 (w64 (i+1)))] [(0,.box [i64 (w64 (c+1)),i64 b,i64 c,i64 e])] 1)else .fail else bif (l.getD i.toNat Ty.part.dflt).kind==(↑(nat_lit 1):Int)then bif (l.getD i.toNat Ty.part.dflt).kind==(↑(nat_lit 3):Int)then .stop (hd f152 0) (mkS 31 [(5,.ptr 0 0),(6,.d (.sl .part l)),(7,i64 (w64 (i+1)))] [(0,.box [i64 a,i64 b,i64 c,i64 (w64 (b+1))])] 1)else bif (l.getD i.toNat Ty.part.dflt).kind==(↑(nat_lit 2):Int)then .stop (hd f152 0) (mkS 31 [(5,.ptr 0 0),(6,.d (.sl .part l)),(7,i64 (w64 (i+1)))] [(0,.box [i64 a,i64 b,i64 (w64 (b+1)),i64 e])] 1)else bif (l.getD i.toNat Ty.part.dflt).kind==(↑(nat_lit 1):Int)then .stop (hd f152 0) (mkS 31 [(5,.ptr 0 0),(6,.d (.sl .part l)),(7,i64 (w64 (i+1)))] [(0,.box [i64 a,i64 (w64 (b+1)),i64 c,i64 e])] 1)else bif (l.getD i.toNat Ty.part.dflt).kind==(↑(nat_lit 0):Int)then .stop (hd f152 0) (mkS 31 [(5,.ptr 0 0),(6,.d (.sl .part l)),(7,i64 (w64 (i+1)))] [(0,.box [i64 (w64 (b+1)),i64 b,i64 c,i64 e])] 1)else .fail else bif (l.getD i.toNat Ty.part.dflt).kind==(↑(nat_lit 0):Int)then bif (l.getD i.toNat Ty.part.dflt).kind==(↑(nat_lit 3):Int)then .stop (hd f152 0) (mkS 31 [(5,.ptr 0 0),(6,.d (.sl .part l)),(7,i64 (w64 (i+1)))] [(0,.box [i64 a,i64 b,i64 c,i64 (w64 (a+1))])] 1)else bif (l.getD i.toNat Ty.part.dflt).kind==(↑(nat_lit 2):Int)then .stop (hd f152 0) (mkS 31 [(5,.ptr 0 0),(6,.d (.sl .part l)),(7,i64 (w64 (i+1)))] [(0,.box [i64 a,i64 b,i64 (w64 (a+1)),i64 e])] 1)else bif (l.getD i.toNat Ty.part.dflt).kind==(↑(nat_lit 1):Int)then .stop (hd f152 0) (mkS 31 [(5,.ptr 0 0),(6,.d (.sl .part l)),(7,i64 (w64 (i+1)))] [(0,.box [i64 a,i64 (w64 (a+1)),i64 c,i64 e])] 1)else bif (l.getD i.toNat Ty.part.dflt).kind==(↑(nat_lit 0):Int)then .stop (hd f152 0) (mkS 31 [(5,.ptr 0 0),(6,.d (.sl .part l)),(7,i64 (w64 (i+1)))] [(0,.box [i64 (w64 (a+1)),i64 b,i64 c,i64 e])] 1)else .fail else .fail)else .need (U2/\U2/\U2) (.ret (b,c,e))):=by kernel_rfl
end Go.Proofs.Zn

namespace Go.Proofs.Zn
open Go.Proofs.Tryz
open Go Go.VL
theorem xY (d:Deck):(aL d).length=d.plates.length:=by simp[aL]
theorem xX (d:Deck):(aR d).length=d.racks.length:=by simp[aR]
def wl (d:Deck):Int:=bif decide (bp (aL d)>384)then 2 else bif decide (bp (aR d)>384)then 2 else 0
theorem BT (d:Deck):dE d=bif db d.borders != 0 then db d.borders else bif decide (d.arms<1)then 80 else bif decide (d.arms>8)then 80 else
 bif decide ((d.plates.length:Int)>4)then 2 else bif decide ((d.racks.length:Int)>4)then 2 else bif !d.plates.all dt then 81 else bif !(aR d).all cN then 82 else wl d:=rfl
theorem Bc {d:Deck}(hp:d.plates.length<=4)(hr:d.racks.length<=4)(hbp:∀ b∈aL d,cN b=true){r:Int}{A:List Item->AS->Prop}
  (hA:Closed prog codes sigs f125 (bm [.int]) (fun y=>y=r) 0 A) (i:Nat) (hi:i<=(aR d).length) (hpre:∀ b∈(aR d).take i,cN b=true)
  (h:(bif !((aR d).drop i).all cN then 82 else wl d)=r):A (hd f125 1) (PS (aL d) (aR d) i):=by
 have e1:=xY d
 have e2:=xX d
 refine hA.go (t92b _ _ i) (ak (fun h1=>?_) (fun h1=>?_))
 ·have h1:=oT h1
  have hil:i<(aR d).length:=by omega
  rw[bf hil]
  rw[dG hil,iO]at h
  refine⟨⟨⟨by omega,by omega⟩,tv⟩,⟨T3',tv⟩,_,PB _,ak (fun h2=>?_) (fun h2=>?_)⟩
  ·rw[nt h2]at h;exact⟨⟨tv,tv⟩,h⟩
  ·have h2:=nf h2
   rw[h2,cm]at h
   rw[aw (by omega)]
   refine Bc hp hr hbp hA (i+1) (by omega) (fun b hb=>?_) h
   rw[ba hil]at hb
   rcases aA.1 hb with e|e
   ·exact hpre b e
   ·rw[bz.1 e];exact h2
 ·have h1:=oF h1
  rw[dN (by omega)]at h
  have h:wl d=r:=h
  have hbr:∀ b∈aR d,cN b=true:=fun b hb=>hpre b (by rw[ct (by omega)];exact hb)
  unfold wl at h
  refine⟨⟨⟨tv,tv⟩,tv⟩,_,Es (by omega) hbp,ak (fun h3=>?_) (fun h3=>⟨⟨⟨tv,tv⟩,tv⟩,_,Es (by omega) hbr,ak (fun h4=>?_) (fun h4=>?_)⟩)⟩
  ·rw[h3]at h;exact⟨⟨tv,tv⟩,h⟩
  ·rw[h3,h4]at h;exact⟨⟨tv,tv⟩,h⟩
  ·rw[h3,h4]at h;exact⟨⟨tv,tv⟩,h⟩
termination_by (aR d).length-i
theorem Bd {d:Deck}(hp:d.plates.length<=4)(hr:d.racks.length<=4){r:Int}{A:List Item->AS->Prop}
  (hA:Closed prog codes sigs f125 (bm [.int]) (fun y=>y=r) 0 A) (i:Nat) (hi:i<=d.plates.length) (hpre:∀ p∈d.plates.take i,dt p=true)
  (h:(bif !(d.plates.drop i).all dt then 81 else bif !(aR d).all cN then 82 else wl d)=r):A (hd f125 0) (L92 d (aL d) (aR d) i):=by
 have e1:=xY d
 have e2:=xX d
 refine hA.go (t92a d _ _ i) (ak (fun h1=>?_) (fun h1=>?_))
 ·have h1:=oT h1
  have hil:i<d.plates.length:=by omega
  have hib:i<(aL d).length:=by omega
  have eb:(aL d)[i]=eL d.plates[i]:=by simp[aL]
  rw[bf hil,bf hib,eb]
  rw[dG hil,iO]at h
  refine⟨⟨⟨by omega,by omega⟩,tv⟩,⟨T3',tv⟩,_,PB _,ak (fun h2=>?_) (fun h2=>?_)⟩
  ·have h2:=nt h2
   have:dt d.plates[i]=false:=by unfold dt;rw[h2];rfl
   rw[this]at h;exact⟨⟨tv,tv⟩,h⟩
  ·have h2:=nf h2
   have e3:dt d.plates[i]=lw d.plates[i]:=by unfold dt;rw[h2];rfl
   refine⟨⟨⟨by omega,by omega⟩,tv⟩,⟨⟨tv,tv,tv,tv,tv,tv,tv,tv⟩,tv⟩,_,c127 h2,ak (fun h3=>?_) (fun h3=>?_)⟩
   ·rw[e3,nt h3]at h;exact⟨⟨tv,tv⟩,h⟩
   ·have h3:=nf h3
    rw[e3,h3,cm]at h
    rw[aw (by omega)]
    refine Bd hp hr hA (i+1) (by omega) (fun b hb=>?_) h
    rw[ba hil]at hb
    rcases aA.1 hb with e|e
    ·exact hpre b e
    ·rw[bz.1 e,e3];exact h3
 ·have h1:=oF h1
  rw[dN (by omega)]at h
  refine Bc hp hr (fun b hb=>?_) hA 0 (by omega) (fun b hb=>by simp at hb) h
  obtain⟨p,hp',rfl⟩:=aT.1 hb
  have:=hpre p (by rw[ct (by omega)];exact hp')
  unfold dt at this
  cases hq:cN (eL p)
  ·rw[hq]at this;cases this
  ·rfl
termination_by d.plates.length-i
theorem c92 (d:Deck):Pure prog 125 [⟨.deck,d⟩] [.int] (dE d):=
 Pure.of_closed (C:=codes) (S:=sigs) mixed func125 (by kernel_rfl) (ac (by kernel_rfl)) fun A hA=>hA.go (t92 d) (by
  have hr:=BT d
  generalize dE d=r at hr hA ⊢
  refine⟨⟨q2,tv⟩,_,PC _,ak (fun h1=>?_) (fun h1=>ak (fun h2=>?_) (fun h2=>ak (fun h3=>?_) (fun h3=>ak (fun h4=>?_) (fun h4=>ak (fun h5=>?_) (fun h5=>?_)))))⟩
  ·rw[h1]at hr;exact⟨q2,hr.symm⟩
  ·rw[h1,h2]at hr;exact⟨q2,hr.symm⟩
  ·rw[h1,h2,h3]at hr;exact⟨q2,hr.symm⟩
  ·rw[h1,h2,h3,h4]at hr;exact⟨q2,hr.symm⟩
  ·rw[h1,h2,h3,h4,h5]at hr;exact⟨q2,hr.symm⟩
  ·rw[h1,h2,h3,h4,h5]at hr
   have h4:=oF h4
   have h5:=oF h5
   refine⟨⟨q5,tv⟩,_,MW (by omega),⟨q5,tv⟩,_,MV (by omega),?_⟩
   exact Bd (by omega) (by omega) hA 0 (by omega) (fun p hp=>by simp at hp) hr.symm)
abbrev T5':True/\True/\True/\True/\True:=⟨tv,tv,tv,tv,tv⟩
abbrev T2':True/\True:=⟨tv,tv⟩
def bu (d:Deck):Int×Int×Int:=bif dE d != 0 then(0,0,0)else(bp (aL d),bp (aR d),(d.borders.length:Int)-1)
theorem Et (d:Deck):Pure prog 84 [⟨.deck,d⟩] [.int,.int,.int] (bu d):=
 ofT func84 (t115 d) (by kernel_rfl) (by kernel_rfl) fun A=>by
  unfold bu
  refine⟨⟨T5',tv⟩,_,c92 d,ak (fun h=>?_) (fun h=>?_)⟩
  ·rw[h];exact⟨⟨T2',T2',T2'⟩,rfl⟩
  ·rw[h]
   have hd:DeckOk d:=fm (by simpa using h)
   have e1:=xY d
   have e2:=xX d
   have h3:=hd.lanes
   have h4:=hd.plates
   have h5:=hd.racks
   refine⟨⟨T5',tv⟩,_,MW (by omega),⟨T2',tv⟩,_,Es (by omega) hd.boxP,⟨T5',tv⟩,_,MV (by omega),⟨T2',tv⟩,_,Es (by omega) hd.boxR,⟨T2',T2',T2'⟩,?_⟩
   rw[ax (by omega) (by omega)];rfl
theorem By {l:List Go.VL.Box}{k:Int}(hl:l.length<=1000)(hb:∀ b∈l,cN b=true){r:Part}{A:List Item->AS->Prop}
  (hA:Closed prog codes sigs f208 (bm [.part]) (fun y=>y=r) 0 A) (i:Nat) (hi:i<=l.length) (n:Int) (h0:0<=n) (h9:n<=1000000)
  (h:gV k i (l.drop i) n=r):A (hd f208 0) (Nl l k n i):=by
 refine hA.go (OD l k n i) (ak (fun h1=>?_) (fun h1=>?_))
 ·have h1:=oT h1
  have hil:i<l.length:=by omega
  have hbi:=hb l[i] (aQ _)
  have hs:=dU hbi
  obtain⟨b1,b2,b3,b4⟩:=gP.1 hbi
  rw[bf hil]
  rw[dG hil,gV]at h
  refine⟨⟨⟨by omega,by omega⟩,tv⟩,⟨T3',tv⟩,_,MU hbi,ak (fun h2=>?_) (fun h2=>?_)⟩
  ·rw[h2]at h
   have hq:0<=n/l[i].cols:=Int.ediv_nonneg h0 (by omega)
   have hq2:n/l[i].cols<=n:=Int.ediv_le_self _ h0
   refine⟨by omega,by omega,T5',?_⟩
   rw[Int.tdiv_eq_ediv_of_nonneg h0,eB h0,ax (by omega) (by omega)]
   exact h
  ·rw[h2,cF]at h
   have h2:=oF h2
   refine⟨⟨T3',tv⟩,_,MU hbi,?_⟩
   show A (hd f208 0) (Nl l k (w64 (n-l[i].rows*l[i].cols)) (w64 ((i:Int)+1)))
   rw[aw (by omega),ax (by omega) (by omega)]
   exact By hl hb hA (i+1) (by omega) _ (by omega) (by omega) h
 ·have h1:=oF h1
  refine⟨T5',?_⟩
  rw[dN (by omega)]at h
  exact h
termination_by l.length-i
theorem PF {l:List Go.VL.Box}{k n:Int}(hl:l.length<=1000)(hb:∀ b∈l,cN b=true)(h0:0<=n)(h9:n<=1000000):Pure prog 208 [⟨.sl .box,l⟩,⟨.int,k⟩,⟨.int,n⟩] [.part] (gV k 0 l n):=
 Pure.of_closed (C:=codes) (S:=sigs) mixed func208 (by kernel_rfl) (ac (by kernel_rfl)) fun A hA=>hA.go (t116 l k n)
  (By hl hb hA 0 (by omega) n h0 h9 rfl)
theorem c84 (d:Deck)(i:Int):Pure prog 130 [⟨.deck,d⟩,⟨.int,i⟩] [.part,.int] (kU d i):=
 ofT func130 (t84 d i) (by kernel_rfl) (by kernel_rfl) fun A=>by
  have hr:kU d i=kU d i:=rfl
  generalize hp:kU d i=r at hr ⊢
  unfold kU at hp
  refine⟨⟨T5',tv⟩,_,c92 d,ak (fun h=>?_) (fun h=>?_)⟩
  ·rw[h]at hp;exact⟨⟨T5',T2'⟩,hp⟩
  ·rw[h,cF]at hp
   have hd:DeckOk d:=fm (by simpa using h)
   have hc:bu d=(bp (aL d),bp (aR d),(d.borders.length:Int)-1):=by unfold bu;rw[h];rfl
   have e1:=xY d
   have e2:=xX d
   have hl:=hd.lanes
   have hw:=hd.wells
   have ht:=hd.tips
   have h4:=hd.plates
   have h5:=hd.racks
   have hn:=mW hd
   refine⟨⟨T5',tv⟩,_,(Et d).eq hc,ak (fun h1=>?_) (fun h1=>?_)⟩
   ·rw[h1]at hp;exact⟨⟨T5',T2'⟩,hp⟩
   ·rw[h1,cF]at hp
    have h1:=oF h1
    have ew:w64 (w64 (bp (aL d)+bp (aR d))+((d.borders.length:Int)-1))=((dz d).length:Int):=by
     rw[ax (n:=bp (aL d)+bp (aR d)) (by omega) (by omega),ax (by omega) (by omega)];omega
    simp only
    rw[ew]
    refine ak (fun h2=>?_) (fun h2=>?_)
    ·rw[h2]at hp;exact⟨⟨T5',T2'⟩,hp⟩
    ·rw[h2,cF]at hp
     have h2:=oF h2
     have hg:=ui hd (i:=i) (by omega) (by omega)
     rw[bn,hg,ga]at hp
     rw[ax (n:=bp (aL d)+bp (aR d)) (by omega) (by omega)]
     refine ak (fun h6=>?_) (fun h6=>ak (fun h7=>?_) (fun h7=>?_))
     ·rw[h6,cT]at hp
      have h6:=oT h6
      exact⟨⟨T5',tv⟩,_,MW (by omega),⟨T2',T2',T2',tv⟩,_,PF (by omega) hd.boxP (by omega) (by omega),⟨T5',T2'⟩,hp⟩
     ·rw[h6,h7,cF,cT]at hp
      have h6:=oF h6
      have h7:=oT h7
      rw[ax (by omega) (by omega)]
      exact⟨⟨T5',tv⟩,_,MV (by omega),⟨T2',T2',T2',tv⟩,_,PF (by omega) hd.boxR (by omega) (by omega),⟨T5',T2'⟩,hp⟩
     ·rw[h6,h7,cF,cF]at hp
      have h6:=oF h6
      have h7:=oF h7
      rw[ax (n:=i-bp (aL d)) (by omega) (by omega),ax (by omega) (by omega)]
      exact⟨⟨T5',T2'⟩,hp⟩
end Go.Proofs.Zn

namespace Go.Proofs.Zn
open Go.Proofs.Tryz
open Go Go.VL
theorem Bh {d:Deck}(hr:d.racks.length<=4){w:Int}(hw:w=bp (aL d)){r:Int}{A:List Item->AS->Prop}
  (hA:Closed prog codes sigs f153 (bm [.int]) (fun y=>y=r) 0 A) (i:Nat) (hi:i<=d.racks.length) (t:Int) (ht:0<=t/\t<=1536*(i:Int)) (hs:t+bp ((aR d).drop i)=bp (aR d))
  (h:(bif !((aR d).drop i).all cN then 82 else wl d)=r):A (hd f153 1) (PU d w t i):=by
 have e2:=xX d
 refine hA.go (t89b d w t i) (ak (fun h1=>?_) (fun h1=>?_))
 ·have h1:=oT h1
  have hil:i<d.racks.length:=by omega
  have hib:i<(aR d).length:=by omega
  have eb:(aR d)[i]=gU d.racks[i]:=by simp[aR]
  rw[bf hil]
  rw[dG hib,iO,eb]at h
  rw[dG hib,eb,bp]at hs
  refine⟨⟨⟨by omega,by omega⟩,tv⟩,⟨⟨by omega,by omega⟩,tv⟩,⟨T2',T2',tv⟩,_,PE _ _,ak (fun h2=>?_) (fun h2=>?_)⟩
  ·have h2:cN (gU d.racks[i])=false:=nt h2
   rw[h2]at h;exact⟨⟨tv,tv⟩,h⟩
  ·have h2:cN (gU d.racks[i])=true:=nf h2
   rw[h2,cm]at h
   have hb:1<=d.racks[i].rows*d.racks[i].cols/\d.racks[i].rows*d.racks[i].cols<=1536:=dU h2
   have hs:t+(d.racks[i].rows*d.racks[i].cols+bp ((aR d).drop (i+1)))=bp (aR d):=hs
   refine⟨⟨⟨by omega,by omega⟩,tv⟩,⟨⟨by omega,by omega⟩,tv⟩,?_⟩
   rw[aw (by omega),ax (n:=d.racks[i].rows*d.racks[i].cols) (by omega) (by omega),ax (by omega) (by omega)]
   exact Bh hr hw hA (i+1) (by omega) _ ⟨by omega,by omega⟩ (by omega) h
 ·have h1:=oF h1
  rw[dN (by omega)]at h hs
  have h:wl d=r:=h
  have ht:t=bp (aR d):=by simpa[bp]using hs
  unfold wl at h
  rw[hw,ht]
  refine ak (fun h3=>?_) (fun h3=>ak (fun h4=>?_) (fun h4=>?_))
  ·rw[h3]at h;exact⟨⟨tv,tv⟩,h⟩
  ·rw[h3,h4]at h;exact⟨⟨tv,tv⟩,h⟩
  ·rw[h3,h4]at h;exact⟨⟨tv,tv⟩,h⟩
termination_by d.racks.length-i
theorem Bi {d:Deck}(hp:d.plates.length<=4)(hr:d.racks.length<=4){r:Int}{A:List Item->AS->Prop}
  (hA:Closed prog codes sigs f153 (bm [.int]) (fun y=>y=r) 0 A) (i:Nat) (hi:i<=d.plates.length) (w:Int) (hw:0<=w/\w<=1536*(i:Int)) (hs:w+bp ((aL d).drop i)=bp (aL d))
  (h:(bif !(d.plates.drop i).all dt then 81 else bif !(aR d).all cN then 82 else wl d)=r):A (hd f153 0) (L89 d w 0 i):=by
 have e1:=xY d
 refine hA.go (t89a d w 0 i) (ak (fun h1=>?_) (fun h1=>?_))
 ·have h1:=oT h1
  have hil:i<d.plates.length:=by omega
  have hib:i<(aL d).length:=by omega
  have eb:(aL d)[i]=eL d.plates[i]:=by simp[aL]
  rw[bf hil]
  rw[dG hil,iO]at h
  rw[dG hib,eb,bp]at hs
  refine⟨⟨⟨by omega,by omega⟩,tv⟩,⟨⟨tv,tv,tv,tv,tv,tv,tv,tv⟩,tv⟩,_,c122 _,ak (fun h2=>?_) (fun h2=>?_)⟩
  ·rw[nt h2]at h;exact⟨⟨tv,tv⟩,h⟩
  ·have h2:=nf h2
   rw[h2,cm]at h
   have hq:cN (eL d.plates[i])=true:=by
    unfold dt at h2
    cases hq:cN (eL d.plates[i])
    ·rw[hq]at h2;cases h2
    ·rfl
   have hb:1<=d.plates[i].rows*d.plates[i].cols/\d.plates[i].rows*d.plates[i].cols<=1536:=dU hq
   have hs:w+(d.plates[i].rows*d.plates[i].cols+bp ((aL d).drop (i+1)))=bp (aL d):=hs
   refine⟨⟨⟨by omega,by omega⟩,tv⟩,⟨⟨by omega,by omega⟩,tv⟩,?_⟩
   rw[aw (by omega),ax (n:=d.plates[i].rows*d.plates[i].cols) (by omega) (by omega),ax (by omega) (by omega)]
   exact Bi hp hr hA (i+1) (by omega) _ ⟨by omega,by omega⟩ (by omega) h
 ·have h1:=oF h1
  rw[dN (by omega)]at h hs
  exact Bh hr (by simpa[bp]using hs) hA 0 (by omega) 0 ⟨by omega,by omega⟩ (by simp) h
termination_by d.plates.length-i
theorem c89 (d:Deck):Pure prog 153 [⟨.deck,d⟩] [.int] (dE d):=
 Pure.of_closed (C:=codes) (S:=sigs) mixed func153 (by kernel_rfl) (ac (by kernel_rfl)) fun A hA=>hA.go (t89 d) (by
  have hr:=BT d
  generalize dE d=r at hr hA ⊢
  refine⟨⟨q2,tv⟩,_,Kk _,ak (fun h1=>?_) (fun h1=>ak (fun h2=>?_) (fun h2=>ak (fun h3=>?_) (fun h3=>ak (fun h4=>?_) (fun h4=>ak (fun h5=>?_) (fun h5=>?_)))))⟩
  ·rw[h1]at hr;exact⟨q2,hr.symm⟩
  ·rw[h1,h2]at hr;exact⟨q2,hr.symm⟩
  ·rw[h1,h2,h3]at hr;exact⟨q2,hr.symm⟩
  ·rw[h1,h2,h3,h4]at hr;exact⟨q2,hr.symm⟩
  ·rw[h1,h2,h3,h4,h5]at hr;exact⟨q2,hr.symm⟩
  ·rw[h1,h2,h3,h4,h5]at hr
   have h4:=oF h4
   have h5:=oF h5
   exact Bi (by omega) (by omega) hA 0 (by omega) 0 ⟨by omega,by omega⟩ (by simp) hr.symm)
def plN (k u:Int)(c n:Nat):List Part:=(List.range n).map fun m:Nat=>⟨k,u,((m/c:Nat):Int),((m%c:Nat):Int)⟩
theorem FR (k u:Int){c i j:Nat}(hj:j<c):plN k u c (i*c+j+1)=plN k u c (i*c+j)++[⟨k,u,(i:Int),(j:Int)⟩]:=by
 unfold plN
 rw[List.range_succ,bO]
 congr 1
 have h1:(i*c+j)/c=i:=by rw[bW,Nat.mul_add_div (by omega),iC hj,eN]
 have h2:(i*c+j)%c=j:=by rw[bW,lO,cQ hj]
 simp only[bk,dm,h1,h2]
theorem Jd (k u:Int)(c n:Nat):(plN k u c n).length=n:=by simp[plN]
theorem xW {k u:Int}{R C:Nat}(hR:R<=32)(hC:C<=48){r:List Part}{A:Pr}(hA:CL codes sigs f154 [.sl .part] r A)
  (i:Nat) (hi:i<R) (hn:A (hd f154 0) (Kx k u R C (plN k u C ((i+1)*C)) ((i+1:Nat):Int))) (j:Nat) (hj:j<=C):A (hd f154 1) (KV k u R C (plN k u C (i*C+j)) i j):=by
 have hle:i*C<=32*48:=jQ (by omega) hC
 refine hA.go (Ow k u R C _ i j) (ak (fun h1=>?_) (fun h1=>?_))
 ·have h1:=oT h1
  refine⟨⟨T5',tv⟩,⟨by rw[Jd];simp only[ag,am];omega,tv⟩,?_⟩
  rw[aw (by omega),← FR k u (by omega:j<C)]
  exact xW hR hC hA i hi hn (j+1) (by omega)
 ·have h1:=oF h1
  have:j=C:=by omega
  subst this
  rw[aw (by omega)]
  have e:i*j+j=(i+1)*j:=by rw[Nat.succ_mul]
  rw[e]
  exact hn
termination_by C-j
theorem Bu {k u:Int}{R C:Nat}(hR:R<=32)(hC:C<=48){r:List Part}(h:plN k u C (R*C)=r){A:Pr}(hA:CL codes sigs f154 [.sl .part] r A)
  (i:Nat) (hi:i<=R):A (hd f154 0) (Kx k u R C (plN k u C (i*C)) i):=by
 refine hA.go (Ox k u R C _ i) (ak (fun h1=>?_) (fun h1=>?_))
 ·have h1:=oT h1
  exact xW hR hC hA i (by omega) (Bu hR hC h hA (i+1) (by omega)) 0 (by omega)
 ·have h1:=oF h1
  have:i=R:=by omega
  subst this
  exact⟨⟨tv,tv⟩,h⟩
termination_by R-i
theorem PD {k u r c:Int}(h:cN ⟨r,c⟩=true):Pure prog 154 [⟨.int,k⟩,⟨.int,u⟩,⟨.int,r⟩,⟨.int,c⟩] [.sl .part] (cV k u r c):=by
 obtain⟨h1,h2,h3,h4⟩:=gP.1 h
 simp only at h1 h2 h3 h4
 obtain⟨R,rfl⟩:=cG (show 0<=r by omega)
 obtain⟨C,rfl⟩:=cG (show 0<=c by omega)
 have e:cV k u R C=plN k u C (R*C):=by
  have e:(((R:Nat):Int)*((C:Nat):Int)).toNat=R*C:=by rw[← je];rfl
  unfold cV plN
  rw[e];rfl
 exact Pure.of_closed (C:=codes) (S:=sigs) mixed func154 (by kernel_rfl) (ac (by kernel_rfl)) fun A hA=>hA.go (t124 k u R C)
  (hA.row 9 179 .part (s':=Kx k u R C [] 0) (by kernel_rfl) (by kernel_rfl) (by
   have:=Bu (k:=k) (u:=u) (R:=R) (C:=C) (by omega) (by omega) e.symm hA 0 (by omega)
   rw[gb]at this
   exact this))
end Go.Proofs.Zn

namespace Go.Proofs.Zn
open Go.Proofs.Tryz
open Go Go.VL
theorem uh {k u:Int}{b:Go.VL.Box}(h:cN b=true):(cV k u b.rows b.cols).length<=1536:=by
 have:=dU h
 rw[gB];omega
theorem Be {d:Deck}(hk:DeckOk d){r:List Part}{A:Pr}(hA:CL codes sigs f88 [.sl .part] r A)
  (i:Nat) (hi:i<=d.borders.length-1) (out:List Part) (ho:out.length<=12288+i) (h:out++(fe (d.borders.length-1)).drop i=r):A (hd f88 2) (PT d out i):=by
 have hl:=hk.lanes
 refine hA.go (t90c d out i) (ak (fun h1=>?_) (fun h1=>?_))
 ·rw[ax (by omega) (by omega)]at h1
  have h1:=oT h1
  have hil:i<(fe (d.borders.length-1)).length:=by simp[fe];omega
  have ei:(fe (d.borders.length-1))[i]=⟨3,(i:Int),0,0⟩:=by simp[fe]
  rw[dG hil,ei]at h
  refine⟨⟨T5',tv⟩,⟨by simp only[ag,am];omega,tv⟩,?_⟩
  rw[aw (by omega)]
  exact Be hk hA (i+1) (by omega) (out++[⟨3,(i:Int),0,0⟩]) (by simp;omega) (by rw[← h];simp)
 ·rw[ax (by omega) (by omega)]at h1
  have h1:=oF h1
  rw[dN (by simp[fe];omega),fx]at h
  exact⟨⟨tv,tv⟩,h⟩
termination_by d.borders.length-i
theorem Bf {d:Deck}(hk:DeckOk d){r:List Part}{A:Pr}(hA:CL codes sigs f88 [.sl .part] r A)
  (i:Nat) (hi:i<=d.racks.length) (out:List Part) (ho:out.length<=6144+1536*i) (h:out++(dg 2 i ((aR d).drop i)++fe (d.borders.length-1))=r):A (hd f88 1) (Nd d out i):=by
 have e2:=xX d
 have h5:=hk.racks
 refine hA.go (t90b d out i) (ak (fun h1=>?_) (fun h1=>?_))
 ·have h1:=oT h1
  have hil:i<d.racks.length:=by omega
  have hib:i<(aR d).length:=by omega
  have eb:(aR d)[i]=gU d.racks[i]:=by simp[aR]
  have hb:=hk.boxR _ (aQ hib)
  have hpl:=uh (k:=2) (u:=i) hb
  rw[eb]at hb hpl
  rw[bf hil]
  rw[dG hib,eb,dg]at h
  refine⟨⟨⟨by omega,by omega⟩,tv⟩,⟨⟨by omega,by omega⟩,tv⟩,⟨T2',T2',T2',T2',tv⟩,_,PD hb,⟨?_,tv⟩,?_⟩
  ·have:(cV 2 i d.racks[i].rows d.racks[i].cols).length<=1536:=hpl
   show(out.length+(cV 2 i d.racks[i].rows d.racks[i].cols).length)*33<=_
   omega
  ·show A (hd f88 1) (Nd d (out++cV 2 i d.racks[i].rows d.racks[i].cols) (w64 ((i:Int)+1)))
   rw[aw (by omega)]
   refine Bf hk hA (i+1) (by omega) _ ?_ ?_
   ·have:(cV 2 i d.racks[i].rows d.racks[i].cols).length<=1536:=hpl
    rw[al];omega
   ·rw[← h,bb,bb];rfl
 ·have h1:=oF h1
  rw[dN (by omega)]at h
  exact Be hk hA 0 (by omega) out (by omega) h
termination_by d.racks.length-i
theorem Bg {d:Deck}(hk:DeckOk d){r:List Part}{A:Pr}(hA:CL codes sigs f88 [.sl .part] r A)
  (i:Nat) (hi:i<=d.plates.length) (out:List Part) (ho:out.length<=1536*i) (h:out++ny d i=r):A (hd f88 0) (L90 d out i):=by
 have e1:=xY d
 have h5:=hk.plates
 refine hA.go (t90a d out i) (ak (fun h1=>?_) (fun h1=>?_))
 ·have h1:=oT h1
  have hil:i<d.plates.length:=by omega
  have hib:i<(aL d).length:=by omega
  have eb:(aL d)[i]=eL d.plates[i]:=by simp[aL]
  have hb:=hk.boxP _ (aQ hib)
  have hpl:=uh (k:=1) (u:=i) hb
  rw[eb]at hb hpl
  rw[bf hil]
  rw[ny,dG hib,eb,dg]at h
  refine⟨⟨⟨by omega,by omega⟩,tv⟩,⟨⟨by omega,by omega⟩,tv⟩,⟨T2',T2',T2',T2',tv⟩,_,PD hb,⟨?_,tv⟩,?_⟩
  ·have:(cV 1 i d.plates[i].rows d.plates[i].cols).length<=1536:=hpl
   show(out.length+(cV 1 i d.plates[i].rows d.plates[i].cols).length)*33<=_
   omega
  ·show A (hd f88 0) (L90 d (out++cV 1 i d.plates[i].rows d.plates[i].cols) (w64 ((i:Int)+1)))
   rw[aw (by omega)]
   refine Bg hk hA (i+1) (by omega) _ ?_ ?_
   ·have:(cV 1 i d.plates[i].rows d.plates[i].cols).length<=1536:=hpl
    rw[al];omega
   ·rw[← h,ny,bb,bb];rfl
 ·have h1:=oF h1
  rw[ny,dN (by omega)]at h
  exact Bf hk hA 0 (by omega) out (by omega) h
termination_by d.plates.length-i
theorem c90 (d:Deck):Pure prog 88 [⟨.deck,d⟩] [.sl .part] (cO d):=
 Pure.of_closed (C:=codes) (S:=sigs) mixed func88 (by kernel_rfl) (ac (by kernel_rfl)) fun A hA=>hA.go (t90 d) (by
  generalize hr:cO d=r at hA ⊢
  unfold cO at hr
  refine⟨⟨T5',tv⟩,_,c89 d,ak (fun h=>?_) (fun h=>?_)⟩
  ·rw[h]at hr;exact⟨q2,hr⟩
  ·rw[h,cF]at hr
   exact hA.row 3 179 .part (s':=L90 d [] 0) (by kernel_rfl) (by kernel_rfl) (Bg (fm (by simpa using h)) hA 0 (by omega) [] (by simp) hr))
def mS:List Plate->Bool
 | []=>false
 | p::l=>bif decide ((p.start.length:Int)>500)then true else mS l
def oc (d:Deck):Bool:=bif decide ((d.borders.length:Int)>60)then true else bif decide ((d.plates.length:Int)>8)then true else bif decide ((d.racks.length:Int)>8)then true else mS d.plates
theorem GO {d:Deck}(hl:d.plates.length<=8){r:Bool}{A:Pr}(hA:CL codes sigs f25 [.bool] r A)
  (i:Nat) (hi:i<=d.plates.length) (h:mS (d.plates.drop i)=r):A (hd f25 0) (L37 d i):=by
 refine hA.go (t37a d i) (ak (fun h1=>?_) (fun h1=>?_))
 ·have h1:=oT h1
  have hil:i<d.plates.length:=by omega
  rw[bf hil]
  rw[dG hil,mS]at h
  refine⟨⟨⟨by omega,by omega⟩,tv⟩,ak (fun h2=>?_) (fun h2=>?_)⟩
  ·rw[h2]at h;exact⟨⟨tv,tv⟩,h⟩
  ·rw[h2]at h
   rw[aw (by omega)]
   exact GO hl hA (i+1) (by omega) h
 ·have h1:=oF h1
  rw[dN (by omega)]at h
  exact⟨⟨tv,tv⟩,h⟩
termination_by d.plates.length-i
theorem c37 (d:Deck):Pure prog 25 [⟨.deck,d⟩] [.bool] (oc d):=
 Pure.of_closed (C:=codes) (S:=sigs) mixed func25 (by kernel_rfl) (ac (by kernel_rfl)) fun A hA=>hA.go (t37 d) (by
  generalize hr:oc d=r at hA ⊢
  unfold oc at hr
  refine ak (fun h1=>?_) (fun h1=>ak (fun h2=>?_) (fun h2=>ak (fun h3=>?_) (fun h3=>?_)))
  ·rw[h1]at hr;exact⟨q2,hr⟩
  ·rw[h1,h2]at hr;exact⟨q2,hr⟩
  ·rw[h1,h2,h3]at hr;exact⟨q2,hr⟩
  ·rw[h1,h2,h3]at hr
   have h2:=oF h2
   exact GO (by omega) hA 0 (by omega) hr)
end Go.Proofs.Zn

namespace Go.Proofs.Zn
open Go.Proofs.Tryz
open Go Go.VL
def lV (k:Int):List Part->Int
 | []=>0
 | p::l=>(bif p.kind==k then 1 else 0)+lV k l
theorem lz (k:Int):∀ (l m:List Part),lV k (l++m)=lV k l+lV k m
 | [],m=>by simp[lV]
 | p::l,m=>by simp only[iG,lV,lz k l m];omega
theorem rh {k:Int}:∀ {l:List Part},(∀ p∈l,p.kind=k)->lV k l=(l.length:Int)
 | [],_=>rfl
 | p :: l, h => by
   have h1:(p.kind==k)=true:=by simpa using h p (by simp)
   simp only[lV,h1,cT,ag,rh (l:=l) fun q hq=>h q (by simp[hq])];omega
theorem jK {k:Int}:∀ {l:List Part},(∀ p∈l,p.kind≠k)->lV k l=0
 | [],_=>rfl
 | p :: l, h => by
   have h1:(p.kind==k)=false:=by simpa using h p (by simp)
   simp only[lV,h1,cF,jK (l:=l) fun q hq=>h q (by simp[hq])];omega
theorem El {d:Deck}(h:DeckOk d):lV 1 (dz d)=bp (aL d)/\lV 2 (dz d)=bp (aR d)/\lV 3 (dz d)=(d.borders.length:Int)-1:=by
 have l1:=il 1 (aL d) 0 h.boxP
 have l2:=il 2 (aR d) 0 h.boxR
 have l3:=h.lanes
 have k3:∀ p∈fe (d.borders.length-1),p.kind=3:=fun p hp=>by
  obtain⟨n,_,rfl⟩:=aT.1 hp
  rfl
 unfold dz
 refine⟨?_,?_,?_⟩
 ·rw[lz,lz,rh fun p hp=>(fU hp).1,jK fun p hp=>by rw[(fU hp).1];decide,jK fun p hp=>by rw[k3 p hp];decide];omega
 ·rw[lz,lz,jK fun p hp=>by rw[(fU hp).1];decide,rh fun p hp=>(fU hp).1,jK fun p hp=>by rw[k3 p hp];decide];omega
 ·rw[lz,lz,jK fun p hp=>by rw[(fU hp).1];decide,jK fun p hp=>by rw[(fU hp).1];decide,rh k3]
  simp only[fe,bB,ky];omega
theorem oX {l:List Part}(hl:l.length<=100000)(hv:∀ p∈l,p.kind=1\/p.kind=2\/p.kind=3){r:Int×Int×Int}{A:List Item->AS->Prop}
  (hA:Closed prog codes sigs f152 (bm [.int,.int,.int]) (fun y=>y=r) 0 A) (i:Nat) (hi:i<=l.length) (a b c e:Int) (hb:0<=b/\b<=i) (hc:0<=c/\c<=i) (he:0<=e/\e<=i)
  (h:(b+lV 1 (l.drop i),c+lV 2 (l.drop i),e+lV 3 (l.drop i))=r):A (hd f152 0) (Nh l a b c e i):=by
 refine hA.go (Oh l a b c e i) (ak (fun h1=>?_) (fun h1=>?_))
 ·have h1:=oT h1
  have hil:i<l.length:=by omega
  rw[bf hil]
  rw[dG hil]at h
  simp only[lV]at h
  refine⟨⟨⟨by omega,by omega⟩,tv⟩,?_⟩
  rcases hv l[i] (aQ hil)with hk|hk|hk<;>rw[hk]at h ⊢
  ·refine ak (fun h=>absurd h (by decide)) (fun _=>ak (fun h=>absurd h (by decide)) (fun _=>ak (fun _=>?_) (fun h=>absurd h (by decide))))
   refine ak (fun h=>absurd h (by decide)) (fun _=>ak (fun h=>absurd h (by decide)) (fun _=>ak (fun _=>?_) (fun h=>absurd h (by decide))))
   rw[aw (by omega),ax (by omega) (by omega)]
   refine oX hl hv hA (i+1) (by omega) a (b+1) c e (by omega) (by omega) (by omega) ?_
   rw[← h]
   refine Prod.ext ?_ (Prod.ext ?_ ?_)
   ·show b+1+_=b+(1+_);omega
   ·show c+_=c+(0+_);omega
   ·show e+_=e+(0+_);omega
  ·refine ak (fun h=>absurd h (by decide)) (fun _=>ak (fun _=>?_) (fun h=>absurd h (by decide)))
   refine ak (fun h=>absurd h (by decide)) (fun _=>ak (fun _=>?_) (fun h=>absurd h (by decide)))
   rw[aw (by omega),ax (by omega) (by omega)]
   refine oX hl hv hA (i+1) (by omega) a b (c+1) e (by omega) (by omega) (by omega) ?_
   rw[← h]
   refine Prod.ext ?_ (Prod.ext ?_ ?_)
   ·show b+_=b+(0+_);omega
   ·show c+1+_=c+(1+_);omega
   ·show e+_=e+(0+_);omega
  ·refine ak (fun _=>?_) (fun h=>absurd h (by decide))
   refine ak (fun _=>?_) (fun h=>absurd h (by decide))
   rw[aw (by omega),ax (by omega) (by omega)]
   refine oX hl hv hA (i+1) (by omega) a b c (e+1) (by omega) (by omega) (by omega) ?_
   rw[← h]
   refine Prod.ext ?_ (Prod.ext ?_ ?_)
   ·show b+_=b+(0+_);omega
   ·show c+_=c+(0+_);omega
   ·show e+1+_=e+(1+_);omega
 ·have h1:=oF h1
  rw[dN (by omega)]at h
  simp only[lV,lJ]at h
  exact⟨⟨T2',T2',T2'⟩,h⟩
termination_by l.length-i
theorem pv {d:Deck}(h:DeckOk d):(dz d).length<=800:=by
 have:=mW h
 have h1:=h.wells
 have h2:=h.tips
 have h3:=h.lanes
 omega
theorem Ki (d:Deck):Pure prog 152 [⟨.deck,d⟩] [.int,.int,.int] (bu d):=
 Pure.of_closed (C:=codes) (S:=sigs) mixed func152 (by kernel_rfl) (ac (by kernel_rfl)) fun A hA=>hA.go (LF d) (by
  refine⟨⟨T5',tv⟩,_,c90 d,?_⟩
  show A (hd f152 0) (Nh (cO d) 0 0 0 0 (0:Nat))
  cases h:dE d != 0
  ·have hk:DeckOk d:=fm (by simpa using h)
   have hp:cO d=dz d:=by unfold cO;rw[h];rfl
   have hf:=pv hk
   rw[hp]
   refine oX (by omega) (fun p hp=>?_) hA 0 (by omega) 0 0 0 0 (by omega) (by omega) (by omega) ?_
   ·rcases me hp with⟨h,_⟩|⟨h,_⟩|⟨h,_⟩
    ·exact .inl h
    ·exact .inr (.inl h)
    ·exact .inr (.inr h)
   ·obtain⟨h1,h2,h3⟩:=El hk
    rw[bD,h1,h2,h3]
    unfold bu
    rw[h,cF]
    refine Prod.ext ?_ (Prod.ext ?_ ?_)<;>simp
  ·have hp:cO d=[]:=by unfold cO;rw[h];rfl
   rw[hp]
   refine oX (by simp) (fun p hp=>by cases hp) hA 0 (by omega) 0 0 0 0 (by omega) (by omega) (by omega) ?_
   unfold bu
   rw[h];rfl)
theorem c88 (r:Row)(c:Int):Pure prog 207 [⟨.row,r⟩,⟨.int,c⟩] [.flt] (Mq r c):=ofT func207 (t88 r c) (by kernel_rfl) (by kernel_rfl) fun _=>⟨T2',rfl⟩
theorem c87 {d:Deck}{p:Part}(hv:jb d p)(h3:p.kind≠3):Pure prog 205 [⟨.deck,d⟩,⟨.part,p⟩] [.row] (xd d p):=
 ofT func205 (t87 d p) (by kernel_rfl) (by kernel_rfl) fun A=>by
  unfold xd
  refine cS (fun h=>?_) (fun h=>?_)
  ·have hk:p.kind=2:=by simpa using h
   rcases hv with⟨h,_⟩|⟨_,h1,h2⟩|⟨h,_⟩
   ·omega
   ·exact⟨⟨⟨h1,h2⟩,tv⟩,q4,rfl⟩
   ·omega
  ·have hk:p.kind≠2:=by simpa using h
   rcases hv with⟨_,h1,h2⟩|⟨h,_⟩|⟨h,_⟩
   ·exact⟨⟨⟨h1,h2⟩,tv⟩,q4,rfl⟩
   ·omega
   ·omega
theorem c44 {d:Deck}{p:Part}(hv:jb d p)(h3:p.kind≠3):Pure prog 254 [⟨.deck,d⟩,⟨.part,p⟩] [.flt,.flt] (Mq (xd d p) p.col,(xd d p).reach):=
 ofT func254 (t44 d p) (by kernel_rfl) (by kernel_rfl) fun A=>by
  unfold xd
  refine ak (fun h=>?_) (fun h=>?_)
  ·have hk:p.kind=1:=by simpa using h
   rcases hv with⟨_,h1,h2⟩|⟨h,_⟩|⟨h,_⟩
   ·refine⟨⟨⟨h1,h2⟩,tv⟩,⟨T2',T2'⟩,?_⟩
    rw[hk];rfl
   ·omega
   ·omega
  ·have hk:p.kind≠1:=by simpa using h
   rcases hv with⟨h,_⟩|⟨h,h1,h2⟩|⟨h,_⟩
   ·omega
   ·refine⟨⟨⟨h1,h2⟩,tv⟩,⟨T2',T2'⟩,?_⟩
    rw[h];rfl
   ·omega
theorem c85 {d:Deck}{p:Part}(hv:jb d p):Pure prog 127 [⟨.deck,d⟩,⟨.part,p⟩] [.span,.int] (iz d p):=
 ofT func127 (t85 d p) (by kernel_rfl) (by kernel_rfl) fun A=>by
  unfold iz
  refine cS (fun h=>⟨⟨T3',T2'⟩,rfl⟩) (fun h=>?_)
  have h3:p.kind≠3:=by simpa using h
  exact⟨⟨T5',T5',tv⟩,_,c87 hv h3,⟨q4,T2',tv⟩,_,c88 _ _,⟨T2',T2',T2',tv⟩,_,Km _ _ _,⟨T3',T2'⟩,rfl⟩
theorem c86 {d:Deck}{p:Part}(hv:jb d p):Pure prog 209 [⟨.deck,d⟩,⟨.part,p⟩] [.span,.int] (iz d p):=
 ofT func209 (t86 d p) (by kernel_rfl) (by kernel_rfl) fun A=>by
  unfold iz
  refine cS (fun h=>⟨⟨T3',T2'⟩,rfl⟩) (fun h=>?_)
  have h3:p.kind≠3:=by simpa using h
  exact⟨⟨T5',T5',tv⟩,_,c44 hv h3,⟨T2',T2',T2',tv⟩,_,Kl _ _ _,⟨T3',T2'⟩,(FA _ _ _).symm⟩
end Go.Proofs.Zn

namespace Go.Proofs.Zn
open Go.Proofs.Tryz
open Go Go.VL
theorem t45 (d:Deck):@Eq _ (xS prog codes di f256 [.sl .span,.int] 300 [⟨.deck,d⟩]) (.need (U5/\True) (.callP 125 [⟨.deck,d⟩] [.int] fun(x:Int)=>bif x != 0 then .need (U2/\U2) (.ret ([],x))else .stop (hd f256 0) (mkS 76 [(1,.ptr 0 0),(5,.ptr 1 0),(6,.ptr 2 0),(7,.clo (.func 289) [] [.ptr 0 0,.ptr 1 0,.ptr 2 0])] [(0,.box (dC d)),(1,.box [nS]),(2,.box [i64 0])] 3))):=by kernel_rfl
theorem t46 (d:Deck):@Eq _ (xS prog codes di f131 [.sl .span,.int] 300 [⟨.deck,d⟩]) (.need (U5/\True) (.callP 153 [⟨.deck,d⟩] [.int] fun(x:Int)=>bif x != 0 then .need (U2/\U2) (.ret ([],x))else .need (U5/\True) (.callP 88 [⟨.deck,d⟩] [.sl .part] fun(x:List Part)=>.stop (hd f131 0) (mkS 40 [(1,.ptr 0 0),(5,nS),(6,.d (.sl .part x)),(7,i64 0)] [(0,.box (dC d))] 1)))):=by kernel_rfl
theorem t48 (d:Deck)(l:List Int):@Eq _ (xS prog codes di f135 [.sl .int,.int] 300 [⟨.deck,d⟩,⟨.sl .int,l⟩]) (.need (U5/\U2/\True) (.callP 210 [⟨.deck,d⟩,⟨.sl .int,l⟩] [.sl .span,.int] fun(x:List Span×Int)=>bif x.2 != 0 then .need (U2/\U2) (.ret ([],x.2))else .need (U5/\U2/\True) (.callP 211 [⟨.deck,d⟩,⟨.sl .span,x.1⟩] [.sl .int] fun(x:List Int)=>.need (U2/\U2) (.ret (x,(0:Int)))))):=by kernel_rfl
theorem t53 (d:Deck)(a b:Int):@Eq _ (xS prog codes di f133 [.sl .int,.int] 300 [⟨.deck,d⟩,⟨.int,a⟩,⟨.int,b⟩]) (.need (U2/\U2/\True) (.need (U5/\U2/\True) (.callP 210 [⟨.deck,d⟩,Sigma.mk (.sl .int) [a,b]] [.sl .span,.int] fun(x:List Span×Int)=>bif x.2 != 0 then .need (U2/\U2) (.ret ([],x.2))else .need (((0:Int)<=0/\(0:Int)<(x.1.length:Int))/\True) (.need (((0:Int)<=1/\(1:Int)<(x.1.length:Int))/\True) (.need (U3/\U3/\True) (.callP 212 [⟨.span,(x.1.getD 0 Ty.span.dflt)⟩,⟨.span,(x.1.getD 1 Ty.span.dflt)⟩] [.span] fun(x:Span)=>.need (U3/\True) (.need (U5/\U2/\True) (.callP 211 [⟨.deck,d⟩,Sigma.mk (.sl .span) [x]] [.sl .int] fun(x:List Int)=>.need (U2/\U2) (.ret (x,(0:Int))))))))))):=by kernel_rfl
theorem t55 (a b:List Int):@Eq _ (xS prog codes di f40 [.sl .int] 300 [⟨.sl .int,a⟩,⟨.sl .int,b⟩]) (.stop (hd f40 0) (mkS 27 [(0,.d (.sl .int a)),(1,.d (.sl .int b)),(5,nS),(6,i64 0)] [] 0)):=by kernel_rfl
theorem t50 (a b:List Int):@Eq _ (xS prog codes di f20 [.bool] 300 [⟨.sl .int,a⟩,⟨.sl .int,b⟩]) (bif (a.length:Int) != (b.length:Int)then .need U2 (.ret false)else .stop (hd f20 0) (mkS 26 [(0,.d (.sl .int a)),(1,.d (.sl .int b)),(5,i64 0)] [] 0)):=by kernel_rfl
theorem t94 (d:Deck)(k u n:Int):@Eq _ (xS prog codes di f290 [.sl .span,.int] 300 [⟨.deck,d⟩,⟨.int,k⟩,⟨.int,u⟩,⟨.int,n⟩]) (.stop (hd f290 0) (mkS 36 [(1,i64 k),(2,i64 u),(4,.ptr 0 0),(10,nS),(14,i64 n),(15,i64 0)] [(0,.box (dC d))] 1)):=by kernel_rfl
theorem t96 (d:Deck)(l:List Int):@Eq _ (xS prog codes di f210 [.sl .span,.int] 300 [⟨.deck,d⟩,⟨.sl .int,l⟩]) (.need (U5/\True) (.callP 256 [⟨.deck,d⟩] [.sl .span,.int] fun(x:List Span×Int)=>bif x.2 != 0 then .need (U2/\U2) (.ret ([],x.2))else .stop (hd f210 0) (mkS 42 [(6,.d (.sl .span x.1)),(8,nS),(19,.d (.sl .int l)),(20,i64 (l.length:Int)),(21,i64 0)] [] 0))):=by kernel_rfl
theorem t97 (d:Deck)(l:List Span):@Eq _ (xS prog codes di f211 [.sl .int] 300 [⟨.deck,d⟩,⟨.sl .span,l⟩]) (.need (U5/\True) (.callP 84 [⟨.deck,d⟩] [.int,.int,.int] fun(x:Int×Int×Int)=>.need (U2/\True) (.callP 257 [⟨.sl .span,l⟩] [.sl .span] fun(x_1:List Span)=>.stop (hd f211 0) (mkS 44 [(5,i64 x.1),(6,i64 x.2.1),(8,nS),(19,.d (.sl .span x_1)),(20,i64 (x_1.length:Int)),(21,i64 0)] [] 0)))):=by kernel_rfl
theorem t129 (l:List Int):@Eq _ (xS prog codes di f81 [.sl .int] 300 [⟨.sl .int,l⟩]) (bif decide ((l.length:Int)<2)then .need True (.need ((0+l.length)*9<=35184372088832/\True) (.need U2 (.ret ([]++l))))else .need ((2:Int)≠(0:Int)) (.need (((0:Int)<=0/\(0:Int)<=w64 (Int.tdiv (l.length:Int) (2:Int))/\w64 (Int.tdiv (l.length:Int) (2:Int))<=(l.length:Int))/\True) (.need (U2/\True) (.callP 81 [Sigma.mk (.sl .int) (List.drop 0 (List.take (w64 (Int.tdiv (l.length:Int) (2:Int))).toNat l))] [.sl .int] fun(x:List Int)=>.need (((0:Int)<=w64 (Int.tdiv (l.length:Int) (2:Int))/\w64 (Int.tdiv (l.length:Int) (2:Int))<=(l.length:Int))/\True) (.need (U2/\True) (.callP 81 [Sigma.mk (.sl .int) (List.drop (w64 (Int.tdiv (l.length:Int) (2:Int))).toNat l)] [.sl .int] fun(x_1:List Int)=>.need (U2/\U2/\True) (.callP 134 [⟨.sl .int,x⟩,⟨.sl .int,x_1⟩] [.sl .int] fun(x:List Int)=>.need U2 (.ret x)))))))):=by kernel_rfl
theorem LI (a b:List Int):@Eq _ (xS prog codes di f134 [.sl .int] 300 [⟨.sl .int,a⟩,⟨.sl .int,b⟩]) (.need (U2/\U2/\U2/\U2/\U2/\True) (.callP 213 [⟨.sl .int,a⟩,⟨.sl .int,b⟩,⟨.bool,true⟩,⟨.bool,true⟩,⟨.bool,true⟩] [.sl .int] fun(x:List Int)=>.need U2 (.ret x))):=by kernel_rfl
theorem t156 (a b:List Int)(f s t:Bool):@Eq _ (xS prog codes di f213 [.sl .int] 300 [⟨.sl .int,a⟩,⟨.sl .int,b⟩,⟨.bool,f⟩,⟨.bool,s⟩,⟨.bool,t⟩]) (.stop (hd f213 0) (mkS 94 [(0,.d (.sl .int a)),(1,.d (.sl .int b)),(2,.d (.v (.bool f))),(3,.d (.v (.bool s))),(4,.d (.v (.bool t))),(11,.ptr 0 0),(12,.clo (.func 260) [] [.ptr 0 0]),(13,i64 0),(14,i64 0)] [(0,.box [nS])] 1)):=by kernel_rfl
end Go.Proofs.Zn

namespace Go.Proofs.Zn
open Go.Proofs.Tryz
open Go Go.VL
def L46 (d:Deck)(x:List Part)(out:List Span)(i:Int):AS:=mkS 40 [(1,.ptr 0 0),(5,.own 1 .span),(6,.d (.sl .part x)),(7,i64 i)] [(0,.box (cw d)),(1,.row 175 .span out)] 2
def L94 (d:Deck)(k u n:Int)(out:List Span)(c:Int):AS:=mkS 36 [(1,i64 k),(2,i64 u),(4,.ptr 0 0),(10,.own 1 .span),(14,i64 n),(15,i64 c)] [(0,.box (cw d)),(1,.row 175 .span out)] 2
def L96 (t:List Span)(l:List Int)(out:List Span)(i:Int):AS:=mkS 42 [(6,.d (.sl .span t)),(8,.own 0 .span),(19,.d (.sl .int l)),(20,i64 l.length),(21,i64 i)] [(0,.row 175 .span out)] 1
def L97 (a b:Int)(l:List Span)(out:List Int)(i:Int):AS:=mkS 44 [(5,i64 a),(6,i64 b),(8,.own 0 .int),(19,.d (.sl .span l)),(20,i64 l.length),(21,i64 i)] [(0,.row 3 .int out)] 1
def L50 (a b:List Int)(i:Int):AS:=mkS 26 [(0,.d (.sl .int a)),(1,.d (.sl .int b)),(5,i64 i)] [] 0
def pX (a b:List Int)(f s t:Bool)(out:List Int)(i k:Int):AS:=mkS 94 [(0,.d (.sl .int a)),(1,.d (.sl .int b)),(2,ca f),(3,ca s),(4,ca t),(11,.ptr 0 0),(12,.clo (.func 260) [] [.ptr 0 0]),(13,i64 i),(14,i64 k)] [(0,.box [.own 1 .int]),(1,.row 3 .int out)] 2
theorem t46a (d:Deck)(x:List Part)(out:List Span)(i:Int):@Eq _ (xL prog codes di f131 [.sl .span,.int] 200 0 (L46 d x out i)) (bif decide (i<(x.length:Int))then .need (((0:Int)<=i/\i<(x.length:Int))/\True) (.need (U5/\U5/\True) (.callP 209 [⟨.deck,d⟩,⟨.part,(x.getD i.toNat Ty.part.dflt)⟩] [.span,.int] fun(x_1:Span×Int)=>bif x_1.2 != 0 then .need (U2/\U2) (.ret ([],x_1.2))else .need (U3/\True) (.need ((out.length+List.length [x_1.1])*17<=35184372088832/\True) (.stop (hd f131 0) (mkS 40 [(1,.ptr 0 0),(5,.own 1 .span),(6,.d (.sl .part x)),(7,i64 (w64 (i+1)))] [(0,.box (dC d)),(1,.row 175 .span (out++[x_1.1]))] 2)))))else .need (U2/\U2) (.ret (out,(0:Int)))):=by kernel_rfl
theorem t94a (d:Deck)(k u n:Int)(out:List Span)(c:Int):@Eq _ (xL prog codes di f290 [.sl .span,.int] 200 0 (L94 d k u n out c)) (bif decide (c<n)then .need (U5/\U5/\True) (.callP 127 [⟨.deck,d⟩,⟨.part,(Part.mk k u (0:Int) c)⟩] [.span,.int] fun(x:Span×Int)=>bif x.2 != 0 then .need (U2/\U2) (.ret ([],x.2))else .need (U3/\True) (.need ((out.length+List.length [x.1])*17<=35184372088832/\True) (.stop (hd f290 0) (mkS 36 [(1,i64 k),(2,i64 u),(4,.ptr 0 0),(10,.own 1 .span),(14,i64 n),(15,i64 (w64 (c+1)))] [(0,.box (dC d)),(1,.row 175 .span (out++[x.1]))] 2))))else .need (U2/\U2) (.ret (out,(0:Int)))):=by kernel_rfl
theorem t96a (t:List Span)(l:List Int)(out:List Span)(i:Int):@Eq _ (xL prog codes di f210 [.sl .span,.int] 200 0 (L96 t l out i)) (bif decide (i<(l.length:Int))then .need (((0:Int)<=i/\i<(l.length:Int))/\True) (bif decide (l.getD i.toNat Ty.int.dflt<0)then .need (U2/\U2) (.ret ([],(3:Int)))else bif decide (l.getD i.toNat Ty.int.dflt>=(t.length:Int))then .need (U2/\U2) (.ret ([],(3:Int)))else .need (((0:Int)<=l.getD i.toNat Ty.int.dflt/\l.getD i.toNat Ty.int.dflt<(t.length:Int))/\True) (.need (U3/\True) (.need ((out.length+List.length [t.getD (l.getD i.toNat Ty.int.dflt).toNat Ty.span.dflt])*17<=35184372088832/\True) (.stop (hd f210 0) (mkS 42 [(6,.d (.sl .span t)),(8,.own 0 .span),(19,.d (.sl .int l)),(20,i64 (l.length:Int)),(21,i64 (w64 (i+1)))] [(0,.row 175 .span (out++[t.getD (l.getD i.toNat Ty.int.dflt).toNat Ty.span.dflt]))] 1)))))else .need (U2/\U2) (.ret (out,(0:Int)))):=by kernel_rfl
theorem t97a (a b:Int)(l:List Span)(out:List Int)(i:Int):@Eq _ (xL prog codes di f211 [.sl .int] 200 0 (L97 a b l out i)) (bif decide (i<(l.length:Int))then .need (((0:Int)<=i/\i<(l.length:Int))/\True) (.stop (hd f211 1) (mkS 44 [(5,i64 a),(6,i64 b),(8,.own 0 .int),(10,.ptr 1 0),(11,i64 (l.getD i.toNat Ty.span.dflt).lo),(19,.d (.sl .span l)),(20,i64 (l.length:Int)),(21,i64 i)] [(0,.row 3 .int out),(1,.box [i64 (l.getD i.toNat Ty.span.dflt).lo,i64 (l.getD i.toNat Ty.span.dflt).hi])] 2))else .need (U2/\True) (.callP 81 [⟨.sl .int,out⟩] [.sl .int] fun(x:List Int)=>.need U2 (.ret x))):=by kernel_rfl
theorem t50a (a b:List Int)(i:Int):@Eq _ (xL prog codes di f20 [.bool] 200 0 (L50 a b i)) (bif decide (i<(a.length:Int))then .need (((0:Int)<=i/\i<(a.length:Int))/\True) (.need (((0:Int)<=i/\i<(b.length:Int))/\True) (bif a.getD i.toNat Ty.int.dflt != b.getD i.toNat Ty.int.dflt then .need U2 (.ret false)else .stop (hd f20 0) (mkS 26 [(0,.d (.sl .int a)),(1,.d (.sl .int b)),(5,i64 (w64 (i+1)))] [] 0)))else .need U2 (.ret true)):=by kernel_rfl
theorem NX (n:Int)(xs:List Int):@Eq _ (yS prog codes di f260 2 200 [i64 n,ca true,.ptr 0 0] [(0,.box [.own 1 .int]),(1,.row 3 .int xs)] 2) (.need (U2/\True) (.need ((xs.length+List.length [n])*9<=35184372088832/\True) (.need True (.ret ⟨[],[(0,.box [.own 2 .int]),(2,.row 3 .int (xs++[n]))],3⟩)))):=by kernel_rfl
end Go.Proofs.Zn

namespace Go.Proofs.Zn
open Go.Proofs.Tryz
open Go Go.VL
def goS (out:List Span)(L:List (Span×Int)):List Span×Int:=bif dQ L != 0 then([],dQ L)else(out++L.map Prod.fst,0)
theorem BI (out:List Span):goS out []=(out,0):=by simp[goS,dQ]
theorem yf (out:List Span)(p:Span×Int)(L:List (Span×Int)):goS out (p::L)=bif p.2 != 0 then([],p.2)else goS (out++[p.1]) L:=by
 unfold goS
 simp only[dQ]
 cases h:p.2 != 0
 ·simp
 ·simp[h]
theorem pQ (L:List (Span×Int)):goS [] L=gT L:=by simp[goS,gT]
theorem GM {d:Deck}{l:List Part}(hv:∀ p∈l,jb d p)(hl:l.length<=1000){r:List Span×Int}{A:List Item->AS->Prop}
  (hA:Closed prog codes di f131 (bm [.sl .span,.int]) (fun y=>y=r) 0 A) (i:Nat) (hi:i<=l.length) (out:List Span) (ho:out.length=i) (h:goS out (cn d (l.drop i))=r) :
  A (hd f131 0) (L46 d l out i):=by
 refine hA.go (t46a d l out i) (ak (fun h1=>?_) (fun h1=>?_))
 ·have h1:=oT h1
  have hil:i<l.length:=by omega
  rw[bf hil]
  rw[dG hil,cn,bk,yf]at h
  refine⟨⟨⟨by omega,by omega⟩,tv⟩,⟨T5',T5',tv⟩,_,c86 (hv _ (aQ hil)),ak (fun h2=>?_) (fun h2=>⟨⟨T3',tv⟩,⟨?_,tv⟩,?_⟩)⟩
  ·rw[h2]at h;exact⟨⟨T2',T2'⟩,h⟩
  ·simp only[ag,am];omega
  ·rw[h2,cF]at h
   rw[aw (by omega)]
   exact GM hv hl hA (i+1) (by omega) _ (by simp[ho]) h
 ·have h1:=oF h1
  rw[dN (by omega),cn,dm,BI]at h
  exact⟨⟨T2',T2'⟩,h⟩
termination_by l.length-i
theorem c46 (d:Deck):Pure prog 131 [⟨.deck,d⟩] [.sl .span,.int] (dO d):=
 Pure.of_closed (C:=codes) (S:=di) mixed func131 (by kernel_rfl) (ac (by kernel_rfl)) fun A hA=>hA.go (t46 d) (by
  generalize hr:dO d=r at hA ⊢
  unfold dO at hr
  refine⟨⟨T5',tv⟩,_,c89 d,ak (fun h=>?_) (fun h=>?_)⟩
  ·rw[h]at hr;exact⟨⟨T2',T2'⟩,hr⟩
  ·rw[h,cF]at hr
   have hk:DeckOk d:=fm (by simpa using h)
   have hp:cO d=dz d:=by unfold cO;rw[h];rfl
   have hf:=pv hk
   refine⟨⟨T5',tv⟩,_,(c90 d).eq hp,?_⟩
   exact hA.row 5 175 .span (s':=L46 d (dz d) [] 0) (by kernel_rfl) (by kernel_rfl) (GM (fun p hp=>me hp) (by omega) hA 0 (by omega) [] rfl (by rw[bD,pQ];exact hr)))
theorem GI {d:Deck}{k u:Int}{n:Nat}(hv:∀ c,jb d ⟨k,u,0,c⟩)(hn:n<=48){r:List Span×Int}{A:List Item->AS->Prop}
  (hA:Closed prog codes di f290 (bm [.sl .span,.int]) (fun y=>y=r) 0 A) (i:Nat) (hi:i<=n) (out:List Span) (ho:out.length=i) (h:goS out (cn d ((co k u n).drop i))=r) :
  A (hd f290 0) (L94 d k u n out i):=by
 have hc:(co k u n).length=n:=by simp[co]
 refine hA.go (t94a d k u n out i) (ak (fun h1=>?_) (fun h1=>?_))
 ·have h1:=oT h1
  have hil:i<(co k u n).length:=by omega
  have ei:(co k u n)[i]=⟨k,u,0,(i:Int)⟩:=by simp[co]
  rw[dG hil,ei,cn,bk,yf]at h
  refine⟨⟨T5',T5',tv⟩,_,c85 (hv i),ak (fun h2=>?_) (fun h2=>⟨⟨T3',tv⟩,⟨?_,tv⟩,?_⟩)⟩
  ·rw[h2]at h;exact⟨⟨T2',T2'⟩,h⟩
  ·simp only[ag,am];omega
  ·rw[h2,cF]at h
   rw[aw (by omega)]
   exact GI hv hn hA (i+1) (by omega) _ (by simp[ho]) h
 ·have h1:=oF h1
  rw[dN (by omega),cn,dm,BI]at h
  exact⟨⟨T2',T2'⟩,h⟩
termination_by n-i
theorem c94 {d:Deck}{k u:Int}{n:Nat}(hv:∀ c,jb d ⟨k,u,0,c⟩)(hn:n<=48):Pure prog 290 [⟨.deck,d⟩,⟨.int,k⟩,⟨.int,u⟩,⟨.int,(n:Int)⟩] [.sl .span,.int] (gT (cn d (co k u n))):=
 Pure.of_closed (C:=codes) (S:=di) mixed func290 (by kernel_rfl) (ac (by kernel_rfl)) fun A hA=>hA.go (t94 d k u n)
  (hA.row 10 175 .span (s':=L94 d k u n [] 0) (by kernel_rfl) (by kernel_rfl) (GI hv hn hA 0 (by omega) [] rfl (by rw[bD,pQ])))
theorem GF {t:List Span}{l:List Int}(hl:l.length<=1000){r:List Span×Int}{A:List Item->AS->Prop}
  (hA:Closed prog codes di f210 (bm [.sl .span,.int]) (fun y=>y=r) 0 A) (i:Nat) (hi:i<=l.length) (out:List Span) (ho:out.length=i) (h:mc t out (l.drop i)=r) :
  A (hd f210 0) (L96 t l out i):=by
 refine hA.go (t96a t l out i) (ak (fun h1=>?_) (fun h1=>?_))
 ·have h1:=oT h1
  have hil:i<l.length:=by omega
  rw[bf hil]
  rw[dG hil,mc]at h
  refine⟨⟨⟨by omega,by omega⟩,tv⟩,ak (fun h2=>?_) (fun h2=>ak (fun h3=>?_) (fun h3=>?_))⟩
  ·rw[h2]at h;exact⟨⟨T2',T2'⟩,h⟩
  ·rw[h2,h3]at h;exact⟨⟨T2',T2'⟩,h⟩
  ·rw[h2,h3,cF,cF]at h
   have h2:=oF h2
   have h3:=oF h3
   refine⟨⟨⟨by omega,by omega⟩,tv⟩,⟨T3',tv⟩,⟨by simp only[ag,am];omega,tv⟩,?_⟩
   rw[aw (by omega)]
   exact GF hl hA (i+1) (by omega) _ (by simp[ho]) h
 ·have h1:=oF h1
  rw[dN (by omega)]at h
  exact⟨⟨T2',T2'⟩,h⟩
termination_by l.length-i
theorem MK {d:Deck}{l:List Int}(h45:Pure prog 256 [⟨.deck,d⟩] [.sl .span,.int] (dO d))(hl:l.length<=1000):Pure prog 210 [⟨.deck,d⟩,⟨.sl .int,l⟩] [.sl .span,.int] (da d l):=
 Pure.of_closed (C:=codes) (S:=di) mixed func210 (by kernel_rfl) (ac (by kernel_rfl)) fun A hA=>hA.go (t96 d l) (by
  generalize hr:da d l=r at hA ⊢
  unfold da at hr
  refine⟨⟨T5',tv⟩,_,h45,ak (fun h=>?_) (fun h=>?_)⟩
  ·rw[h]at hr;exact⟨⟨T2',T2'⟩,hr⟩
  ·rw[h,cF]at hr
   exact hA.row 8 175 .span (s':=L96 (dO d).1 l [] 0) (by kernel_rfl) (by kernel_rfl) (GF hl hA 0 (by omega) [] rfl hr))
end Go.Proofs.Zn

namespace Go.Proofs.Zn
open Go.Proofs.Tryz
open Go Go.VL
def C93 (l out bad:Nat):AV:=.clo (.func 289) [] [.ptr l 0,.ptr out 0,.ptr bad 0]
def L47 (d:Deck)(x i:Int):AS:=mkS 45 [(1,.ptr 0 0),(3,.ptr 1 0),(4,.clo (.func 126) [] [.ptr 1 0,.ptr 0 0]),(16,.d (.sl .plate d.plates)),(17,i64 d.plates.length),(18,i64 i)] [(0,.box (cw d)),(1,.box [i64 x])] 2
def H93 (d:Deck)(bad:Int)(xs:List Span):Heap:=[(0,.box (cw d)),(1,.box [.own 3 .span]),(2,.box [i64 bad]),(3,.row 175 .span xs)]
def L45 (d:Deck)(bad:Int)(out:List Span):AS:=mkS 76 [(1,.ptr 0 0),(5,.ptr 1 0),(6,.ptr 2 0),(7,C93 0 1 2)] (H93 d bad out) 4
theorem t95 (d:Deck)(k u n e:Int):@Eq _ (yS prog codes fq f126 2 200 [i64 k,i64 u,i64 n,.ptr 0 0,.ptr 1 0] [(0,.box [i64 e]),(1,.box (cw d))] 2) (.stop (hd f126 0) (mkS 30 [(0,i64 k),(1,i64 u),(2,i64 n),(3,.ptr 0 0),(4,.ptr 1 0),(9,i64 0)] [(0,.box [i64 e]),(1,.box (dC d))] 2)):=by kernel_rfl
theorem t93 (d:Deck)(k u r n bad:Int)(xs:List Span):@Eq _ (yS prog codes fq f289 4 200 [i64 k,i64 u,i64 r,i64 n,.ptr 0 0,.ptr 1 0,.ptr 2 0] (H93 d bad xs) 4) (.need (U5/\U2/\U2/\U2/\True) (.callP 290 [⟨.deck,d⟩,⟨.int,k⟩,⟨.int,u⟩,⟨.int,n⟩] [.sl .span,.int] fun(x:List Span×Int)=>.stop (hd f289 0) (mkS 32 [(5,.ptr 1 0),(6,.ptr 2 0),(12,.d (.sl .span x.1)),(13,i64 x.2),(22,i64 r),(23,i64 0)] [(0,.box (dC d)),(1,.box [.own 3 .span]),(2,.box [i64 bad]),(3,.row 175 .span xs)] 4))):=by kernel_rfl
theorem t47a (d:Deck)(x i:Int):@Eq _ (xL prog codes fq f61 [.int] 200 0 (L47 d x i)) (bif decide (i<(d.plates.length:Int))then .need (((0:Int)<=i/\i<(d.plates.length:Int))/\True) (.callG 126 [i64 1,i64 i,i64 (d.plates.getD i.toNat Ty.plate.dflt).cols,.ptr 0 0,.ptr 1 0] [(0,.box [i64 x]),(1,.box (dC d))] 2 [.int] (fun(a:Int)=>GRes.mk [.d (.v (.bool (a != 0)))] [(0,.box [i64 a]),(1,.box (dC d))] 2) fun(x:Int)=>bif x != 0 then .need U2 (.ret x)else .stop (hd f61 0) (mkS 45 [(1,.ptr 0 0),(3,.ptr 1 0),(4,.clo (.func 126) [] [.ptr 1 0,.ptr 0 0]),(16,.d (.sl .plate d.plates)),(17,i64 (d.plates.length:Int)),(18,i64 (w64 (i+1)))] [(0,.box (dC d)),(1,.box [i64 x])] 2))else .stop (hd f61 1) (mkS 45 [(3,.ptr 0 0),(4,.clo (.func 126) [] [.ptr 0 0,.ptr 1 0]),(31,.d (.sl .rack d.racks)),(32,i64 (d.racks.length:Int)),(33,i64 0)] [(0,.box [i64 x]),(1,.box (dC d))] 2)):=by kernel_rfl
theorem t45a (d:Deck)(bad:Int)(out:List Span):@Eq _ (xL prog codes fq f256 [.sl .span,.int] 300 0 (L45 d bad out)) (.stop (hd f256 1) (mkS 76 [(1,.ptr 0 0),(5,.ptr 1 0),(6,.ptr 2 0),(7,.clo (.func 289) [] [.ptr 0 0,.ptr 1 0,.ptr 2 0]),(20,.d (.sl .plate d.plates)),(21,i64 (d.plates.length:Int)),(22,i64 0)] [(0,.box (dC d)),(1,.box [.own 3 .span]),(2,.box [i64 bad]),(3,.row 175 .span out)] 4)):=by kernel_rfl
end Go.Proofs.Zn

namespace Go.Proofs.Zn
open Go.Proofs.Tryz
open Go Go.VL
def L95 (d:Deck)(k u n e c:Int):AS:=mkS 30 [(0,i64 k),(1,i64 u),(2,i64 n),(3,.ptr 0 0),(4,.ptr 1 0),(9,i64 c)] [(0,.box [i64 e]),(1,.box (cw d))] 2
def PR (d:Deck)(cs:List Span)(ce r bad:Int)(xs:List Span)(j:Int):AS:=mkS 32 [(5,.ptr 1 0),(6,.ptr 2 0),(12,.d (.sl .span cs)),(13,i64 ce),(22,i64 r),(23,i64 j)] (H93 d bad xs) 4
def PQ (d:Deck)(cs:List Span)(ce r bad:Int)(xs:List Span)(j:Int):AS:=mkS 32 [(5,.ptr 1 0),(6,.ptr 2 0),(12,.d (.sl .span cs)),(13,i64 ce),(22,i64 r),(23,i64 j)] [(0,.box (cw d)),(1,.box [.own 4 .span]),(2,.box [i64 bad]),(4,.row 175 .span xs)] 5
def PV (d:Deck)(x i:Int):AS:=mkS 45 [(3,.ptr 0 0),(4,.clo (.func 126) [] [.ptr 0 0,.ptr 1 0]),(31,.d (.sl .rack d.racks)),(32,i64 d.racks.length),(33,i64 i)] [(0,.box [i64 x]),(1,.box (cw d))] 2
def PX (d:Deck)(bad:Int)(out:List Span)(i:Int):AS:=mkS 76 [(1,.ptr 0 0),(5,.ptr 1 0),(6,.ptr 2 0),(7,C93 0 1 2),(20,.d (.sl .plate d.plates)),(21,i64 d.plates.length),(22,i64 i)] (H93 d bad out) 4
theorem t95a (d:Deck)(k u n e c:Int):@Eq _ (yL prog codes fq f126 2 200 0 (L95 d k u n e c)) (bif decide (c<n)then bif e==0 then .need (U5/\U5/\True) (.callP 127 [⟨.deck,d⟩,⟨.part,(Part.mk k u (0:Int) c)⟩] [.span,.int] fun(x:Span×Int)=>.stop (hd f126 0) (mkS 30 [(0,i64 k),(1,i64 u),(2,i64 n),(3,.ptr 0 0),(4,.ptr 1 0),(9,i64 (w64 (c+1)))] [(0,.box [i64 x.2]),(1,.box (dC d))] 2))else .need True (.ret ⟨[.d (.v (.bool (e != 0)))],[(0,.box [i64 e]),(1,.box (dC d))],2⟩)else .need True (.ret ⟨[.d (.v (.bool (e != 0)))],[(0,.box [i64 e]),(1,.box (dC d))],2⟩)):=by kernel_rfl
theorem t93a (d:Deck)(cs:List Span)(ce r bad:Int)(xs:List Span)(j:Int):@Eq _ (yL prog codes fq f289 4 200 0 (PR d cs ce r bad xs j)) (bif decide (j<r)then .need ((xs.length+cs.length)*17<=35184372088832/\True) (.stop (hd f289 0) (mkS 32 [(5,.ptr 1 0),(6,.ptr 2 0),(12,.d (.sl .span cs)),(13,i64 ce),(22,i64 r),(23,i64 (w64 (j+1)))] [(0,.box (dC d)),(1,.box [.own 4 .span]),(2,.box [i64 bad]),(4,.row 175 .span (xs++cs))] 5))else .need True (.ret ⟨[.d (.v (.bool (ce==0)))],[(0,.box (dC d)),(1,.box [.own 3 .span]),(2,.box [i64 ce]),(3,.row 175 .span xs)],4⟩)):=by kernel_rfl
theorem t93b (d:Deck)(cs:List Span)(ce r bad:Int)(xs:List Span)(j:Int):@Eq _ (yL prog codes fq f289 4 200 0 (PQ d cs ce r bad xs j)) (bif decide (j<r)then .need ((xs.length+cs.length)*17<=35184372088832/\True) (.stop (hd f289 0) (mkS 32 [(5,.ptr 1 0),(6,.ptr 2 0),(12,.d (.sl .span cs)),(13,i64 ce),(22,i64 r),(23,i64 (w64 (j+1)))] [(0,.box (dC d)),(1,.box [.own 4 .span]),(2,.box [i64 bad]),(4,.row 175 .span (xs++cs))] 5))else .need True (.ret ⟨[.d (.v (.bool (ce==0)))],[(0,.box (dC d)),(1,.box [.own 4 .span]),(2,.box [i64 ce]),(4,.row 175 .span xs)],5⟩)):=by kernel_rfl
theorem t47b (d:Deck)(x i:Int):@Eq _ (xL prog codes fq f61 [.int] 200 1 (PV d x i)) (bif decide (i<(d.racks.length:Int))then .need (((0:Int)<=i/\i<(d.racks.length:Int))/\True) (.callG 126 [i64 2,i64 i,i64 (d.racks.getD i.toNat Ty.rack.dflt).cols,.ptr 0 0,.ptr 1 0] [(0,.box [i64 x]),(1,.box (dC d))] 2 [.int] (fun(a:Int)=>GRes.mk [.d (.v (.bool (a != 0)))] [(0,.box [i64 a]),(1,.box (dC d))] 2) fun(x:Int)=>bif x != 0 then .need U2 (.ret x)else .stop (hd f61 1) (mkS 45 [(3,.ptr 0 0),(4,.clo (.func 126) [] [.ptr 0 0,.ptr 1 0]),(31,.d (.sl .rack d.racks)),(32,i64 (d.racks.length:Int)),(33,i64 (w64 (i+1)))] [(0,.box [i64 x]),(1,.box (dC d))] 2))else .need U2 (.ret (0:Int))):=by kernel_rfl
theorem t45b (d:Deck)(bad:Int)(out:List Span)(i:Int):@Eq _ (xL prog codes fq f256 [.sl .span,.int] 300 1 (PX d bad out i)) (bif decide (i<(d.plates.length:Int))then .need (((0:Int)<=i/\i<(d.plates.length:Int))/\True) (.callG 289 [i64 1,i64 i,i64 (d.plates.getD i.toNat Ty.plate.dflt).rows,i64 (d.plates.getD i.toNat Ty.plate.dflt).cols,.ptr 0 0,.ptr 1 0,.ptr 2 0] [(0,.box (dC d)),(1,.box [.own 3 .span]),(2,.box [i64 bad]),(3,.row 175 .span out)] 4 [.sl .span,.int] (fun(a:List Span×Int)=>GRes.mk [.d (.v (.bool (a.2==0)))] [(0,.box (dC d)),(1,.box [.own 4 .span]),(2,.box [i64 a.2]),(4,.row 175 .span a.1)] 5) fun(x:List Span×Int)=>bif !x.2==0 then bif x.2 != 0 then .need (U2/\U2) (.ret ([],x.2))else .stop (hd f256 3) (mkS 76 [(5,.ptr 0 0),(59,i64 (w64 ((d.borders.length:Int)-(1:Int)))),(60,i64 0)] [(0,.box [.own 1 .span]),(1,.row 175 .span x.1)] 2)else .stop (hd f256 1) (mkS 76 [(1,.ptr 0 0),(5,.ptr 1 0),(6,.ptr 2 0),(7,.clo (.func 289) [] [.ptr 0 0,.ptr 1 0,.ptr 2 0]),(20,.d (.sl .plate d.plates)),(21,i64 (d.plates.length:Int)),(22,i64 (w64 (i+1)))] [(0,.box (dC d)),(1,.box [.own 3 .span]),(2,.box [i64 x.2]),(3,.row 175 .span x.1)] 4))else .stop (hd f256 2) (mkS 76 [(1,.ptr 0 0),(5,.ptr 1 0),(6,.ptr 2 0),(7,.clo (.func 289) [] [.ptr 0 0,.ptr 1 0,.ptr 2 0]),(37,.d (.sl .rack d.racks)),(38,i64 (d.racks.length:Int)),(39,i64 0)] [(0,.box (dC d)),(1,.box [.own 3 .span]),(2,.box [i64 bad]),(3,.row 175 .span out)] 4)):=by kernel_rfl
end Go.Proofs.Zn

namespace Go.Proofs.Zn
open Go.Proofs.Tryz
open Go Go.VL
def PW (d:Deck)(bad:Int)(out:List Span)(i:Int):AS:=mkS 76 [(1,.ptr 0 0),(5,.ptr 1 0),(6,.ptr 2 0),(7,C93 0 1 2),(37,.d (.sl .rack d.racks)),(38,i64 d.racks.length),(39,i64 i)] (H93 d bad out) 4
def Nf (n:Int)(out:List Span)(i:Int):AS:=mkS 76 [(5,.ptr 0 0),(59,i64 n),(60,i64 i)] [(0,.box [.own 1 .span]),(1,.row 175 .span out)] 2
theorem t45c (d:Deck)(bad:Int)(out:List Span)(i:Int):@Eq _ (xL prog codes fq f256 [.sl .span,.int] 300 2 (PW d bad out i)) (bif decide (i<(d.racks.length:Int))then .need (((0:Int)<=i/\i<(d.racks.length:Int))/\True) (.callG 289 [i64 2,i64 i,i64 (d.racks.getD i.toNat Ty.rack.dflt).rows,i64 (d.racks.getD i.toNat Ty.rack.dflt).cols,.ptr 0 0,.ptr 1 0,.ptr 2 0] [(0,.box (dC d)),(1,.box [.own 3 .span]),(2,.box [i64 bad]),(3,.row 175 .span out)] 4 [.sl .span,.int] (fun(a:List Span×Int)=>GRes.mk [.d (.v (.bool (a.2==0)))] [(0,.box (dC d)),(1,.box [.own 4 .span]),(2,.box [i64 a.2]),(4,.row 175 .span a.1)] 5) fun(x:List Span×Int)=>bif !x.2==0 then bif x.2 != 0 then .need (U2/\U2) (.ret ([],x.2))else .stop (hd f256 3) (mkS 76 [(5,.ptr 0 0),(59,i64 (w64 ((d.borders.length:Int)-(1:Int)))),(60,i64 0)] [(0,.box [.own 1 .span]),(1,.row 175 .span x.1)] 2)else .stop (hd f256 2) (mkS 76 [(1,.ptr 0 0),(5,.ptr 1 0),(6,.ptr 2 0),(7,.clo (.func 289) [] [.ptr 0 0,.ptr 1 0,.ptr 2 0]),(37,.d (.sl .rack d.racks)),(38,i64 (d.racks.length:Int)),(39,i64 (w64 (i+1)))] [(0,.box (dC d)),(1,.box [.own 3 .span]),(2,.box [i64 x.2]),(3,.row 175 .span x.1)] 4))else bif bad != 0 then .need (U2/\U2) (.ret ([],bad))else .stop (hd f256 3) (mkS 76 [(5,.ptr 0 0),(59,i64 (w64 ((d.borders.length:Int)-(1:Int)))),(60,i64 0)] [(0,.box [.own 1 .span]),(1,.row 175 .span out)] 2)):=by kernel_rfl
theorem t45d (n:Int)(out:List Span)(i:Int):@Eq _ (xL prog codes fq f256 [.sl .span,.int] 300 3 (Nf n out i)) (bif decide (i<n)then .need (U3/\True) (.need ((out.length+List.length [Span.mk i i])*17<=35184372088832/\True) (.stop (hd f256 3) (mkS 76 [(5,.ptr 0 0),(59,i64 n),(60,i64 (w64 (i+1)))] [(0,.box [.own 1 .span]),(1,.row 175 .span (out++[Span.mk i i]))] 2)))else .need ((0:Int)<=0/\(0:Int)<=(out.length:Int)/\(out.length:Int)<=(out.length:Int)/\(out.length:Int)<=(out.length:Int)) (.need ((0+((out.length:Int).toNat-0)<=out.length/\True)/\U2) (.ret (List.take ((out.length:Int).toNat-0) (List.drop 0 out),(0:Int))))):=by kernel_rfl
theorem t47z (d:Deck):@Eq _ (xS prog codes fq f61 [.int] 300 [⟨.deck,d⟩]) (.need (U5/\True) (.callP 125 [⟨.deck,d⟩] [.int] fun(x:Int)=>bif x != 0 then .need U2 (.ret x)else .stop (hd f61 0) (mkS 45 [(1,.ptr 0 0),(3,.ptr 1 0),(4,.clo (.func 126) [] [.ptr 1 0,.ptr 0 0]),(16,.d (.sl .plate d.plates)),(17,i64 (d.plates.length:Int)),(18,i64 0)] [(0,.box (dC d)),(1,.box [i64 x])] 2))):=by kernel_rfl
theorem t45z (d:Deck):@Eq _ (xS prog codes fq f256 [.sl .span,.int] 300 [⟨.deck,d⟩]) (.need (U5/\True) (.callP 125 [⟨.deck,d⟩] [.int] fun(x:Int)=>bif x != 0 then .need (U2/\U2) (.ret ([],x))else .stop (hd f256 0) (mkS 76 [(1,.ptr 0 0),(5,.ptr 1 0),(6,.ptr 2 0),(7,.clo (.func 289) [] [.ptr 0 0,.ptr 1 0,.ptr 2 0])] [(0,.box (dC d)),(1,.box [nS]),(2,.box [i64 0])] 3))):=by kernel_rfl
end Go.Proofs.Zn

namespace Go.Proofs.Zn
open Go.Proofs.Tryz
open Go Go.VL
def H95 (d:Deck)(e:Int):Heap:=[(0,.box [i64 e]),(1,.box (cw d))]
theorem GH {d:Deck}{k u:Int}{n:Nat}(hv:∀ c,jb d ⟨k,u,0,c⟩)(hn:n<=48){x:Int}{A:List Item->AS->Prop}
  (hA:Closed prog codes fq f126 (eG 2) (fun r'=>GRes.Le r' (AD (H95 d 0) x)) 2 A) (i:Nat) (hi:i<=n) (e:Int) (h:(bif e != 0 then e else dQ (cn d ((co k u n).drop i)))=x) :
  A (hd f126 0) (L95 d k u n e i):=by
 have hc:(co k u n).length=n:=by simp[co]
 have fin:e=x->Sat prog A (fun r'=>GRes.Le r' (AD (H95 d 0) x)) (.need True (.ret ⟨[.d (.v (.bool (e != 0)))],[(0,.box [i64 e]),(1,.box (cw d))],2⟩)):=fun e'=>by
  subst e'
  exact⟨tv,.of_eq rfl⟩
 refine hA.go (t95a d k u n e i) (ak (fun h1=>ak (fun h2=>?_) (fun h2=>?_)) (fun h1=>?_))
 ·have h1:=oT h1
  have he:e=0:=by simpa using h2
  have hil:i<(co k u n).length:=by omega
  have ei:(co k u n)[i]=⟨k,u,0,(i:Int)⟩:=by simp[co]
  rw[dG hil,ei,cn,bk,he]at h
  refine⟨⟨T5',T5',tv⟩,_,c85 (hv i),?_⟩
  show A (hd f126 0) (L95 d k u n (iz d ⟨k,u,0,(i:Int)⟩).2 (w64 ((i:Int)+1)))
  rw[aw (by omega)]
  refine GH hv hn hA (i+1) (by omega) _ ?_
  rw[← h];rfl
 ·refine fin ?_
  have:(e != 0)=true:=by simpa using h2
  rw[this]at h;exact h
 ·refine fin ?_
  have h1:=oF h1
  rw[dN (by omega)]at h
  cases he:e != 0
  ·rw[he]at h
   have:e=0:=by simpa using he
   rw[this,← h];rfl
  ·rw[he]at h;exact h
termination_by n-i
theorem c95 {d:Deck}{k u n:Int}(hv:∀ c,jb d ⟨k,u,0,c⟩)(h0:0<=n)(hn:n<=48) :
  Gc prog 126 [i64 k,i64 u,i64 n,.ptr 0 0,.ptr 1 0] (H95 d 0) 2 (AD (H95 d 0) (dQ (cn d (co k u n.toNat)))):=by
 obtain⟨N,rfl⟩:=cG h0
 refine Gc.of_closed (C:=codes) (S:=fq) mixed func126 (by kernel_rfl) (fun i T t xs hi h=>?_) fun A hA=>hA.go (t95 d k u N 0) ?_
 ·rcases(by omega:i=0\/i=1)with rfl|rfl
  ·have h:some (ABlk.box [i64 _])=some (ABlk.row T t xs):=h
   cases h
  ·have h:some (ABlk.box (cw d))=some (ABlk.row T t xs):=h
   cases h
 ·exact GH hv (by omega) hA 0 (by omega) 0 (by rw[bD];rfl)
theorem ph (d:Deck){k u:Int}{b:Go.VL.Box}(h:cN b=true):dQ (cn d (cV k u b.rows b.cols))=dQ (cn d (co k u b.cols.toNat)):=by
 obtain⟨h1,h2,h3,h4⟩:=gP.1 h
 rw[sS d (by omega) (by omega)]
 obtain⟨m,hm⟩:∃ m,b.rows.toNat=m+1:=⟨b.rows.toNat-1,by omega⟩
 rw[hm,yn]
theorem oI (d:Deck){k u:Int}{b:Go.VL.Box}(h:cN b=true):(cn d (cV k u b.rows b.cols)).map Prod.fst=(List.replicate b.rows.toNat ((cn d (co k u b.cols.toNat)).map Prod.fst)).flatten:=by
 obtain⟨h1,h2,h3,h4⟩:=gP.1 h
 rw[sS d (by omega) (by omega),List.map_flatten,List.map_replicate]
theorem Iy (L:List (Span×Int)):(gT L).2=dQ L:=by
 unfold gT
 cases h:dQ L != 0
 ·have:dQ L=0:=by simpa using h
  rw[this];rfl
 ·rfl
theorem BJ (out:List Span)(L M:List (Span×Int)):goS out (L++M)=bif dQ L != 0 then([],dQ L)else goS (out++L.map Prod.fst) M:=by
 unfold goS
 rw[mK]
 cases h:dQ L != 0
 ·simp
 ·simp[h]
theorem Bj {d:Deck}(hk:DeckOk d){r:Int}{A:Pr}(hA:CL codes fq f61 [.int] r A)
  (i:Nat) (hi:i<=d.racks.length) (h:dQ (cn d (ud d i))=r):A (hd f61 1) (PV d 0 i):=by
 have e2:=xX d
 have h5:=hk.racks
 refine hA.go (t47b d 0 i) (ak (fun h1=>?_) (fun h1=>?_))
 ·have h1:=oT h1
  have hil:i<d.racks.length:=by omega
  have hib:i<(aR d).length:=by omega
  have eb:(aR d)[i]=gU d.racks[i]:=by simp[aR]
  have hb:=hk.boxR _ (aQ hib)
  rw[eb]at hb
  obtain⟨b1,b2,b3,b4⟩:=gP.1 hb
  rw[bf hil]
  have hu:dg 2 (i:Int) ((aR d).drop i)=cV 2 i (gU d.racks[i]).rows (gU d.racks[i]).cols++dg 2 ((i+1:Nat):Int) ((aR d).drop (i+1)):=by
   rw[dG hib,eb,dg];rfl
  rw[ud,hu,bb,cn,bO,mK,← cn,← cn,ph d hb]at h
  refine⟨⟨⟨by omega,by omega⟩,tv⟩,dQ (cn d (co 2 i (gU d.racks[i]).cols.toNat)),c95 (fun c=>.inr (.inl ⟨rfl,by simp,by simp;omega⟩)) (n:=d.racks[i].cols) (by show 0<=(gU d.racks[i]).cols;omega) (by show(gU d.racks[i]).cols<=48;omega),ak (fun h2=>?_) (fun h2=>?_)⟩
  ·rw[h2]at h;exact⟨T2',h⟩
  ·rw[h2,cF]at h
   have h0:dQ (cn d (co 2 i (gU d.racks[i]).cols.toNat))=0:=by simpa using h2
   rw[h0,aw (by omega)]
   exact Bj hk hA (i+1) (by omega) h
 ·have h1:=oF h1
  rw[ud,dN (by omega)]at h
  have h:dQ (cn d (fe (d.borders.length-1)))=r:=h
  rw[uS]at h
  exact⟨T2',h⟩
termination_by d.racks.length-i
theorem Bk {d:Deck}(hk:DeckOk d){r:Int}{A:Pr}(hA:CL codes fq f61 [.int] r A)
  (i:Nat) (hi:i<=d.plates.length) (h:dQ (cn d (ny d i))=r):A (hd f61 0) (L47 d 0 i):=by
 have e2:=xY d
 have h5:=hk.plates
 refine hA.go (t47a d 0 i) (ak (fun h1=>?_) (fun h1=>?_))
 ·have h1:=oT h1
  have hil:i<d.plates.length:=by omega
  have hib:i<(aL d).length:=by omega
  have eb:(aL d)[i]=eL d.plates[i]:=by simp[aL]
  have hb:=hk.boxP _ (aQ hib)
  rw[eb]at hb
  obtain⟨b1,b2,b3,b4⟩:=gP.1 hb
  rw[bf hil]
  have hu:dg 1 (i:Int) ((aL d).drop i)=cV 1 i (eL d.plates[i]).rows (eL d.plates[i]).cols++dg 1 ((i+1:Nat):Int) ((aL d).drop (i+1)):=by
   rw[dG hib,eb,dg];rfl
  rw[ny,hu,bb,cn,bO,mK,← cn,← cn,ph d hb]at h
  refine⟨⟨⟨by omega,by omega⟩,tv⟩,dQ (cn d (co 1 i (eL d.plates[i]).cols.toNat)),c95 (fun c=>.inl ⟨rfl,by simp,by simp;omega⟩) (n:=d.plates[i].cols) (by show 0<=(eL d.plates[i]).cols;omega) (by show(eL d.plates[i]).cols<=48;omega),ak (fun h2=>?_) (fun h2=>?_)⟩
  ·rw[h2]at h;exact⟨T2',h⟩
  ·rw[h2,cF]at h
   have h0:dQ (cn d (co 1 i (eL d.plates[i]).cols.toNat))=0:=by simpa using h2
   rw[h0,aw (by omega)]
   exact Bk hk hA (i+1) (by omega) h
 ·have h1:=oF h1
  rw[ny,dN (by omega)]at h
  exact Bj hk hA 0 (by omega) h
termination_by d.plates.length-i
theorem c47 (d:Deck):Pure prog 61 [⟨.deck,d⟩] [.int] (cW d):=
 Pure.of_closed (C:=codes) (S:=fq) mixed func61 (by kernel_rfl) (ac (by kernel_rfl)) fun A hA=>hA.go (t47z d) (by
  generalize hr:cW d=r at hA ⊢
  unfold cW dO at hr
  refine⟨⟨T5',tv⟩,_,c92 d,ak (fun h=>?_) (fun h=>?_)⟩
  ·rw[h]at hr;exact⟨T2',hr⟩
  ·rw[h,cF,Iy]at hr
   have h0:dE d=0:=by simpa using h
   rw[h0]
   exact Bk (fm h0) hA 0 (by omega) hr)
end Go.Proofs.Zn

namespace Go.Proofs.Zn
open Go.Proofs.Tryz
open Go Go.VL
theorem Bb {d:Deck}{cs xs0 l:List Span}{ce bad bad0:Int}{R:Nat}(hR:R<=32)(hc:cs.length<=48){A:List Item->AS->Prop}
  (hA:Closed prog codes fq f289 (eG 4) (fun r'=>GRes.Le r' (Fu (H93 d bad0 xs0) l ce)) 4 A) (j:Nat) (hj:j<=R) (xs:List Span) (hx:xs.length<=100000+48*j)
  (h:xs++(List.replicate (R-j) cs).flatten=l):A (hd f289 0) (PQ d cs ce R bad xs j):=by
 refine hA.go (t93b d cs ce R bad xs j) (ak (fun h1=>?_) (fun h1=>?_))
 ·have h1:=oT h1
  refine⟨⟨by omega,tv⟩,?_⟩
  rw[aw (by omega)]
  refine Bb hR hc hA (j+1) (by omega) _ (by rw[al];omega) ?_
  have e:R-j=(R-(j+1))+1:=by omega
  rw[e,dp,hZ]at h
  rw[bb];exact h
 ·have h1:=oF h1
  have e:R-j=0:=by omega
  rw[e]at h
  have h:xs=l:=by simpa using h
  subst h
  exact⟨tv,.of_eq rfl⟩
termination_by R-j
theorem c93 {d:Deck}{k u r n bad:Int}{xs:List Span}(hv:∀ c,jb d ⟨k,u,0,c⟩)(hb:cN ⟨r,n⟩=true)(hx:xs.length<=90000) :
  Gc prog 289 [i64 k,i64 u,i64 r,i64 n,.ptr 0 0,.ptr 1 0,.ptr 2 0] (H93 d bad xs) 4
   (Fu (H93 d bad xs) (xs++(List.replicate r.toNat (gT (cn d (co k u n.toNat))).1).flatten) (gT (cn d (co k u n.toNat))).2):=by
 obtain⟨h1,h2,h3,h4⟩:=gP.1 hb
 simp only at h1 h2 h3 h4
 obtain⟨N,rfl⟩:=cG (show 0<=n by omega)
 obtain⟨R,rfl⟩:=cG (show 0<=r by omega)
 have hc:(gT (cn d (co k u N))).1.length<=48:=by
  unfold gT
  cases dQ (cn d (co k u N)) != 0
  ·simp[co];omega
  ·simp
 refine Gc.of_closed (C:=codes) (S:=fq) mixed func289 (by kernel_rfl) (fun i T t ys hi h=>?_) fun A hA=>hA.go (t93 d k u R N bad xs) ⟨⟨T5',T2',T2',T2',tv⟩,_,c94 hv (by omega),?_⟩
 ·rcases(by omega:i=0\/i=1\/i=2\/i=3)with rfl|rfl|rfl|rfl
  ·have h:some (ABlk.box (cw d))=some (ABlk.row T t ys):=h
   cases h
  ·have h:some (ABlk.box [.own 4 .span])=some (ABlk.row T t ys):=h
   cases h
  ·have h:some (ABlk.box [i64 _])=some (ABlk.row T t ys):=h
   cases h
  ·have h:(none:Option ABlk)=some (ABlk.row T t ys):=h
   cases h
 ·show A (hd f289 0) (PR d (gT (cn d (co k u N))).1 (gT (cn d (co k u N))).2 R bad xs ((0:Nat):Int))
  refine hA.go (t93a d _ _ R bad xs ((0:Nat):Int)) (ak (fun h1=>⟨⟨by omega,tv⟩,?_⟩) (fun h1=>absurd (oF h1) (by omega)))
  rw[aw (by omega)]
  refine Bb (bad:=bad) (by omega) hc hA (0+1) (by omega) _ (by rw[al];omega) ?_
  obtain⟨m,hm⟩:∃ m,R=m+1:=⟨R-1,by omega⟩
  subst hm
  rw[bb]
  simp only[aq,dp,hZ,cq,Nat.add_sub_cancel]
theorem Bl {n:Nat}(hn:n<=100){r:List Span×Int}{A:Pr}(hA:CL codes fq f256 [.sl .span,.int] r A)
  (i:Nat) (hi:i<=n) (out:List Span) (ho:out.length<=100000+i) (h:(out++((List.range n).map fun i:Nat=>(⟨(i:Int),(i:Int)⟩:Span)).drop i,0)=r):A (hd f256 3) (Nf n out i):=by
 refine hA.go (t45d n out i) (ak (fun h1=>?_) (fun h1=>?_))
 ·have h1:=oT h1
  refine⟨⟨T3',tv⟩,⟨by simp only[ag,am];omega,tv⟩,?_⟩
  rw[aw (by omega)]
  refine Bl hn hA (i+1) (by omega) _ (by simp;omega) ?_
  rw[dG (by simp;omega)]at h
  simpa using h
 ·have h1:=oF h1
  have e:i=n:=by omega
  subst e
  rw[dN (by simp),fx]at h
  refine⟨⟨by omega,by omega,by omega,by omega⟩,⟨⟨by omega,tv⟩,T2'⟩,?_⟩
  show(_,_)=r
  rw[← h]
  simp
termination_by n-i
theorem Eh (d:Deck)(n:Nat):(cn d (fe n)).map Prod.fst=(List.range n).map fun i:Nat=>(⟨(i:Int),(i:Int)⟩:Span):=by
 rw[uT,hY];rfl
theorem GN {d:Deck}(hk:DeckOk d){r:List Span×Int}{A:Pr}(hA:CL codes fq f256 [.sl .span,.int] r A)
  (out:List Span) (ho:out.length<=100000) (h:goS out (cn d (fe (d.borders.length-1)))=r):A (hd f256 3) (Nf (w64 ((d.borders.length:Int)-1)) out 0):=by
 have hl:=hk.lanes
 have e:w64 ((d.borders.length:Int)-1)=((d.borders.length-1:Nat):Int):=by rw[ax (by omega) (by omega)];omega
 rw[e]
 refine Bl (by omega) hA 0 (by omega) out (by omega) ?_
 rw[← h,goS,uS,Eh,bD];rfl
theorem Bm {d:Deck}(hk:DeckOk d){r:List Span×Int}{A:Pr}(hA:CL codes fq f256 [.sl .span,.int] r A)
  (i:Nat) (hi:i<=d.racks.length) (out:List Span) (ho:out.length<=10000+1536*i) (h:goS out (cn d (ud d i))=r):A (hd f256 2) (PW d 0 out i):=by
 have e2:=xX d
 have h5:=hk.racks
 refine hA.go (t45c d 0 out i) (ak (fun h1=>?_) (fun h1=>?_))
 ·have h1:=oT h1
  have hil:i<d.racks.length:=by omega
  have hib:i<(aR d).length:=by omega
  have eb:(aR d)[i]=gU d.racks[i]:=by simp[aR]
  have hb:=hk.boxR _ (aQ hib)
  rw[eb]at hb
  rw[bf hil]
  have hu:dg 2 (i:Int) ((aR d).drop i)=cV 2 i (gU d.racks[i]).rows (gU d.racks[i]).cols++dg 2 ((i+1:Nat):Int) ((aR d).drop (i+1)):=by
   rw[dG hib,eb,dg];rfl
  rw[ud,hu,bb,cn,bO,BJ,← cn,← cn,ph d hb,oI d hb]at h
  have hs:=dU hb
  have hpl:=gB 2 i (gU d.racks[i]).rows (gU d.racks[i]).cols
  have hml:((cn d (cV 2 i (gU d.racks[i]).rows (gU d.racks[i]).cols)).map Prod.fst).length<=1536:=by simp only[bB];rw[hpl];omega
  rw[oI d hb]at hml
  refine⟨⟨⟨by omega,by omega⟩,tv⟩,((out++(List.replicate d.racks[i].rows.toNat (gT (cn d (co 2 i d.racks[i].cols.toNat))).1).flatten,(gT (cn d (co 2 i d.racks[i].cols.toNat))).2):List Span×Int),c93 (d:=d) (k:=2) (u:=(i:Int)) (bad:=0) (xs:=out) (fun c=>.inr (.inl ⟨rfl,by simp,by simp;omega⟩)) (r:=d.racks[i].rows) (n:=d.racks[i].cols) hb (by omega),?_⟩
  cases h2:dQ (cn d (co 2 i (gU d.racks[i]).cols.toNat)) != 0
  ·have h0:dQ (cn d (co 2 i (gU d.racks[i]).cols.toNat))=0:=by simpa using h2
   rw[h2,cF]at h
   have et:gT (cn d (co 2 i d.racks[i].cols.toNat))=((cn d (co 2 i (gU d.racks[i]).cols.toNat)).map Prod.fst,0):=by
    show gT (cn d (co 2 i (gU d.racks[i]).cols.toNat))=_
    unfold gT;rw[h2];rfl
   rw[et]
   rw[aw (by omega)]
   exact Bm hk hA (i+1) (by omega) _ (by rw[al];exact aZ (jg hml _) (by omega)) h
  ·rw[h2,cT]at h
   have et:gT (cn d (co 2 i d.racks[i].cols.toNat))=([],dQ (cn d (co 2 i (gU d.racks[i]).cols.toNat))):=by
    show gT (cn d (co 2 i (gU d.racks[i]).cols.toNat))=_
    unfold gT;rw[h2];rfl
   rw[et]
   have h3:(dQ (cn d (co 2 i (gU d.racks[i]).cols.toNat))==0)=false:=by simpa using h2
   refine ak (fun _=>ak (fun _=>⟨⟨T2',T2'⟩,h⟩) (fun h4=>?_)) (fun h4=>?_)
   ·exact absurd (h2.symm.trans h4) (by decide)
   ·have h4:(dQ (cn d (co 2 i (gU d.racks[i]).cols.toNat))==0)=true:=nf h4
    rw[h3]at h4;cases h4
 ·have h1:=oF h1
  rw[ud,dN (by omega)]at h
  exact ak (fun h=>by cases h) (fun _=>GN hk hA out (by omega) h)
termination_by d.racks.length-i
theorem Bn {d:Deck}(hk:DeckOk d){r:List Span×Int}{A:Pr}(hA:CL codes fq f256 [.sl .span,.int] r A)
  (i:Nat) (hi:i<=d.plates.length) (out:List Span) (ho:out.length<=1536*i) (h:goS out (cn d (ny d i))=r):A (hd f256 1) (PX d 0 out i):=by
 have e2:=xY d
 have h5:=hk.plates
 refine hA.go (t45b d 0 out i) (ak (fun h1=>?_) (fun h1=>?_))
 ·have h1:=oT h1
  have hil:i<d.plates.length:=by omega
  have hib:i<(aL d).length:=by omega
  have eb:(aL d)[i]=eL d.plates[i]:=by simp[aL]
  have hb:=hk.boxP _ (aQ hib)
  rw[eb]at hb
  rw[bf hil]
  have hu:dg 1 (i:Int) ((aL d).drop i)=cV 1 i (eL d.plates[i]).rows (eL d.plates[i]).cols++dg 1 ((i+1:Nat):Int) ((aL d).drop (i+1)):=by
   rw[dG hib,eb,dg];rfl
  rw[ny,hu,bb,cn,bO,BJ,← cn,← cn,ph d hb,oI d hb]at h
  have hs:=dU hb
  have hpl:=gB 1 i (eL d.plates[i]).rows (eL d.plates[i]).cols
  have hml:((cn d (cV 1 i (eL d.plates[i]).rows (eL d.plates[i]).cols)).map Prod.fst).length<=1536:=by simp only[bB];rw[hpl];omega
  rw[oI d hb]at hml
  refine⟨⟨⟨by omega,by omega⟩,tv⟩,((out++(List.replicate d.plates[i].rows.toNat (gT (cn d (co 1 i d.plates[i].cols.toNat))).1).flatten,(gT (cn d (co 1 i d.plates[i].cols.toNat))).2):List Span×Int),c93 (d:=d) (k:=1) (u:=(i:Int)) (bad:=0) (xs:=out) (fun c=>.inl ⟨rfl,by simp,by simp;omega⟩) (r:=d.plates[i].rows) (n:=d.plates[i].cols) hb (by omega),?_⟩
  cases h2:dQ (cn d (co 1 i (eL d.plates[i]).cols.toNat)) != 0
  ·have h0:dQ (cn d (co 1 i (eL d.plates[i]).cols.toNat))=0:=by simpa using h2
   rw[h2,cF]at h
   have et:gT (cn d (co 1 i d.plates[i].cols.toNat))=((cn d (co 1 i (eL d.plates[i]).cols.toNat)).map Prod.fst,0):=by
    show gT (cn d (co 1 i (eL d.plates[i]).cols.toNat))=_
    unfold gT;rw[h2];rfl
   rw[et]
   rw[aw (by omega)]
   exact Bn hk hA (i+1) (by omega) _ (by rw[al];exact aZ (jg hml _) (by omega)) h
  ·rw[h2,cT]at h
   have et:gT (cn d (co 1 i d.plates[i].cols.toNat))=([],dQ (cn d (co 1 i (eL d.plates[i]).cols.toNat))):=by
    show gT (cn d (co 1 i (eL d.plates[i]).cols.toNat))=_
    unfold gT;rw[h2];rfl
   rw[et]
   have h3:(dQ (cn d (co 1 i (eL d.plates[i]).cols.toNat))==0)=false:=by simpa using h2
   refine ak (fun _=>ak (fun _=>⟨⟨T2',T2'⟩,h⟩) (fun h4=>?_)) (fun h4=>?_)
   ·exact absurd (h2.symm.trans h4) (by decide)
   ·have h4:(dQ (cn d (co 1 i (eL d.plates[i]).cols.toNat))==0)=true:=nf h4
    rw[h3]at h4;cases h4
 ·have h1:=oF h1
  rw[ny,dN (by omega)]at h
  exact Bm hk hA 0 (by omega) out (by have:=hk.plates;omega) h
termination_by d.plates.length-i
theorem c45 (d:Deck):Pure prog 256 [⟨.deck,d⟩] [.sl .span,.int] (dO d):=
 Pure.of_closed (C:=codes) (S:=fq) mixed func256 (by kernel_rfl) (ac (by kernel_rfl)) fun A hA=>hA.go (t45z d) (by
  generalize hr:dO d=r at hA ⊢
  unfold dO at hr
  refine⟨⟨T5',tv⟩,_,c92 d,ak (fun h=>?_) (fun h=>?_)⟩
  ·rw[h]at hr;exact⟨⟨T2',T2'⟩,hr⟩
  ·rw[h,cF]at hr
   have hk:DeckOk d:=fm (by simpa using h)
   refine hA.boxrow 1 0 175 .span (s':=L45 d 0 []) (by kernel_rfl) (by kernel_rfl) (hA.go (t45a d 0 []) ?_)
   exact Bn hk hA 0 (by omega) [] (by simp) (by rw[← hr,← pQ];rfl))
theorem c96 {d:Deck}{l:List Int}(hl:l.length<=1000):Pure prog 210 [⟨.deck,d⟩,⟨.sl .int,l⟩] [.sl .span,.int] (da d l):=MK (c45 d) hl
end Go.Proofs.Zn

namespace Go.Proofs.Zn
open Go.Proofs.Tryz
open Go Go.VL
theorem GL {a b:List Int}(he:a.length=b.length)(hl:a.length<=1000000){r:Bool}{A:Pr}(hA:CL codes di f20 [.bool] r A)
  (i:Nat) (hi:i<=a.length) (h:decide (a.drop i=b.drop i)=r):A (hd f20 0) (L50 a b i):=by
 refine hA.go (t50a a b i) (ak (fun h1=>?_) (fun h1=>?_))
 ·have h1:=oT h1
  have hil:i<a.length:=by omega
  have hib:i<b.length:=by omega
  rw[bf hil,bf hib]
  rw[dG hil,dG hib]at h
  refine⟨⟨⟨by omega,by omega⟩,tv⟩,⟨⟨by omega,by omega⟩,tv⟩,ak (fun h2=>?_) (fun h2=>?_)⟩
  ·have e:¬ a[i]=b[i]:=by simpa using h2
   rw[dF (fun h=>e (iN h).1)]at h
   exact⟨⟨tv,tv⟩,h⟩
  ·have e:a[i]=b[i]:=by simpa using h2
   rw[e]at h
   rw[aw (by omega)]
   exact GL he hl hA (i+1) (by omega) (by rw[← h];exact cg.2 ⟨fun h=>by rw[h],fun h=>(iN h).2⟩)
 ·have h1:=oF h1
  rw[dN (by omega),dN (by omega)]at h
  exact⟨⟨tv,tv⟩,h⟩
termination_by a.length-i
theorem c50 {a b:List Int}(hl:a.length<=1000000):Pure prog 20 [⟨.sl .int,a⟩,⟨.sl .int,b⟩] [.bool] (decide (a=b)):=
 Pure.of_closed (C:=codes) (S:=di) mixed func20 (by kernel_rfl) (ac (by kernel_rfl)) fun A hA=>hA.go (t50 a b) (by
  refine ak (fun h1=>?_) (fun h1=>?_)
  ·have h1:¬ (a.length:Int)=(b.length:Int):=by simpa using h1
   exact⟨q2,(dF (fun h=>h1 (by rw[h]))).symm⟩
  ·have h1:(a.length:Int)=(b.length:Int):=by simpa using h1
   exact GL (by omega) hl hA 0 (by omega) rfl)
end Go.Proofs.Zn

namespace Go.Proofs.Zn
open Go.Proofs.Tryz
open Go Go.VL
theorem Ab {n:Int}{xs:List Int}(hx:xs.length<=1000000):Gc prog 260 [i64 n,ca true,.ptr 0 0] [(0,.box [.own 1 .int]),(1,.row 3 .int xs)] 2 ⟨[],[(0,.box [.own 2 .int]),(2,.row 3 .int (xs++[n]))],3⟩:=by
 refine Gc.of_closed (C:=codes) (S:=di) mixed func260 (by kernel_rfl) (fun i T t ys hi h=>?_) fun A hA=>hA.go (NX n xs) ⟨⟨T2',tv⟩,⟨by simp only[ag,am];omega,tv⟩,tv,.of_eq rfl⟩
 rcases(by omega:i=0\/i=1)with rfl|rfl
 ·have h:some (ABlk.box [.own 2 .int])=some (ABlk.row T t ys):=h
  cases h
 ·have h:(none:Option ABlk)=some (ABlk.row T t ys):=h
  cases h
end Go.Proofs.Zn

namespace Go.Proofs.Zn
open Go.Proofs.Tryz
open Go Go.VL
def pT:Cuts:=⟨[5,6,8,9,11],false⟩
theorem Of (a b out:List Int)(i k:Int):@Eq (Out (bh [.sl .int])) (bj prog codes di f213 (bm [.sl .int]) 0 pT 300 true (hd f213 0) (pX a b true true true out i k)) (bif decide (i<(a.length:Int))then .stop (rg f213 5) (mkS 94 [(0,.d (.sl .int a)),(1,.d (.sl .int b)),(2,.d (.v (.bool true))),(3,.d (.v (.bool true))),(4,.d (.v (.bool true))),(11,.ptr 0 0),(12,.clo (.func 260) [] [.ptr 0 0]),(13,i64 i),(14,i64 k)] [(0,.box [.own 1 .int]),(1,.row 3 .int out)] 2)else bif decide (k<(b.length:Int))then .stop (rg f213 5) (mkS 94 [(0,.d (.sl .int a)),(1,.d (.sl .int b)),(2,.d (.v (.bool true))),(3,.d (.v (.bool true))),(4,.d (.v (.bool true))),(11,.ptr 0 0),(12,.clo (.func 260) [] [.ptr 0 0]),(13,i64 i),(14,i64 k)] [(0,.box [.own 1 .int]),(1,.row 3 .int out)] 2)else .need U2 (.ret out)):=by kernel_rfl
theorem Oe (a b out:List Int)(i k:Int):@Eq (Out (bh [.sl .int])) (bj prog codes di f213 (bm [.sl .int]) 0 pT 300 true (rg f213 5) (pX a b true true true out i k)) (bif k==(b.length:Int)then .stop (rg f213 6) (mkS 94 [(0,.d (.sl .int a)),(1,.d (.sl .int b)),(2,.d (.v (.bool true))),(3,.d (.v (.bool true))),(4,.d (.v (.bool true))),(11,.ptr 0 0),(12,.clo (.func 260) [] [.ptr 0 0]),(13,i64 i),(14,i64 k)] [(0,.box [.own 1 .int]),(1,.row 3 .int out)] 2)else bif decide (i<(a.length:Int))then .need (((0:Int)<=i/\i<(a.length:Int))/\True) (.need (((0:Int)<=k/\k<(b.length:Int))/\True) (bif decide (a.getD i.toNat Ty.int.dflt<b.getD k.toNat Ty.int.dflt)then .stop (rg f213 6) (mkS 94 [(0,.d (.sl .int a)),(1,.d (.sl .int b)),(2,.d (.v (.bool true))),(3,.d (.v (.bool true))),(4,.d (.v (.bool true))),(11,.ptr 0 0),(12,.clo (.func 260) [] [.ptr 0 0]),(13,i64 i),(14,i64 k)] [(0,.box [.own 1 .int]),(1,.row 3 .int out)] 2)else .stop (rg f213 8) (mkS 94 [(0,.d (.sl .int a)),(1,.d (.sl .int b)),(2,.d (.v (.bool true))),(3,.d (.v (.bool true))),(4,.d (.v (.bool true))),(11,.ptr 0 0),(12,.clo (.func 260) [] [.ptr 0 0]),(13,i64 i),(14,i64 k)] [(0,.box [.own 1 .int]),(1,.row 3 .int out)] 2)))else .stop (rg f213 8) (mkS 94 [(0,.d (.sl .int a)),(1,.d (.sl .int b)),(2,.d (.v (.bool true))),(3,.d (.v (.bool true))),(4,.d (.v (.bool true))),(11,.ptr 0 0),(12,.clo (.func 260) [] [.ptr 0 0]),(13,i64 i),(14,i64 k)] [(0,.box [.own 1 .int]),(1,.row 3 .int out)] 2)):=by kernel_rfl
theorem Od (a b out:List Int)(i k:Int):@Eq (Out (bh [.sl .int])) (bj prog codes di f213 (bm [.sl .int]) 0 pT 300 true (rg f213 6) (pX a b true true true out i k)) (.need (((0:Int)<=i/\i<(a.length:Int))/\True) (.callG 260 [i64 (a.getD i.toNat Ty.int.dflt),.d (.v (.bool true)),.ptr 0 0] [(0,.box [.own 1 .int]),(1,.row 3 .int out)] 2 [.sl .int] (fun(a:List Int)=>GRes.mk [] [(0,.box [.own 2 .int]),(2,.row 3 .int a)] 3) fun(x:List Int)=>.stop (hd f213 0) (mkS 94 [(0,.d (.sl .int a)),(1,.d (.sl .int b)),(2,.d (.v (.bool true))),(3,.d (.v (.bool true))),(4,.d (.v (.bool true))),(11,.ptr 0 0),(12,.clo (.func 260) [] [.ptr 0 0]),(13,i64 (w64 (i+1))),(14,i64 k)] [(0,.box [.own 1 .int]),(1,.row 3 .int x)] 2))):=by kernel_rfl
theorem Oc (a b out:List Int)(i k:Int):@Eq (Out (bh [.sl .int])) (bj prog codes di f213 (bm [.sl .int]) 0 pT 300 true (rg f213 8) (pX a b true true true out i k)) (bif i==(a.length:Int)then .stop (rg f213 9) (mkS 94 [(0,.d (.sl .int a)),(1,.d (.sl .int b)),(2,.d (.v (.bool true))),(3,.d (.v (.bool true))),(4,.d (.v (.bool true))),(11,.ptr 0 0),(12,.clo (.func 260) [] [.ptr 0 0]),(13,i64 i),(14,i64 k)] [(0,.box [.own 1 .int]),(1,.row 3 .int out)] 2)else .need (((0:Int)<=k/\k<(b.length:Int))/\True) (.need (((0:Int)<=i/\i<(a.length:Int))/\True) (bif decide (b.getD k.toNat Ty.int.dflt<a.getD i.toNat Ty.int.dflt)then .stop (rg f213 9) (mkS 94 [(0,.d (.sl .int a)),(1,.d (.sl .int b)),(2,.d (.v (.bool true))),(3,.d (.v (.bool true))),(4,.d (.v (.bool true))),(11,.ptr 0 0),(12,.clo (.func 260) [] [.ptr 0 0]),(13,i64 i),(14,i64 k)] [(0,.box [.own 1 .int]),(1,.row 3 .int out)] 2)else .stop (rg f213 11) (mkS 94 [(0,.d (.sl .int a)),(1,.d (.sl .int b)),(2,.d (.v (.bool true))),(3,.d (.v (.bool true))),(4,.d (.v (.bool true))),(11,.ptr 0 0),(12,.clo (.func 260) [] [.ptr 0 0]),(13,i64 i),(14,i64 k)] [(0,.box [.own 1 .int]),(1,.row 3 .int out)] 2)))):=by kernel_rfl
theorem Ob (a b out:List Int)(i k:Int):@Eq (Out (bh [.sl .int])) (bj prog codes di f213 (bm [.sl .int]) 0 pT 300 true (rg f213 9) (pX a b true true true out i k)) (.need (((0:Int)<=k/\k<(b.length:Int))/\True) (.callG 260 [i64 (b.getD k.toNat Ty.int.dflt),.d (.v (.bool true)),.ptr 0 0] [(0,.box [.own 1 .int]),(1,.row 3 .int out)] 2 [.sl .int] (fun(a:List Int)=>GRes.mk [] [(0,.box [.own 2 .int]),(2,.row 3 .int a)] 3) fun(x:List Int)=>.stop (hd f213 0) (mkS 94 [(0,.d (.sl .int a)),(1,.d (.sl .int b)),(2,.d (.v (.bool true))),(3,.d (.v (.bool true))),(4,.d (.v (.bool true))),(11,.ptr 0 0),(12,.clo (.func 260) [] [.ptr 0 0]),(13,i64 i),(14,i64 (w64 (k+1)))] [(0,.box [.own 1 .int]),(1,.row 3 .int x)] 2))):=by kernel_rfl
theorem Oa (a b out:List Int)(i k:Int):@Eq (Out (bh [.sl .int])) (bj prog codes di f213 (bm [.sl .int]) 0 pT 300 true (rg f213 11) (pX a b true true true out i k)) (.need (((0:Int)<=i/\i<(a.length:Int))/\True) (.callG 260 [i64 (a.getD i.toNat Ty.int.dflt),.d (.v (.bool true)),.ptr 0 0] [(0,.box [.own 1 .int]),(1,.row 3 .int out)] 2 [.sl .int] (fun(a:List Int)=>GRes.mk [] [(0,.box [.own 2 .int]),(2,.row 3 .int a)] 3) fun(x:List Int)=>.stop (hd f213 0) (mkS 94 [(0,.d (.sl .int a)),(1,.d (.sl .int b)),(2,.d (.v (.bool true))),(3,.d (.v (.bool true))),(4,.d (.v (.bool true))),(11,.ptr 0 0),(12,.clo (.func 260) [] [.ptr 0 0]),(13,i64 (w64 (i+1))),(14,i64 (w64 (k+1)))] [(0,.box [.own 1 .int]),(1,.row 3 .int x)] 2))):=by kernel_rfl
end Go.Proofs.Zn

namespace Go.Proofs.Zn
open Go.Proofs.Tryz
open Go Go.VL
theorem Ci {f s t:Bool}{x:Int}{a b:List Int}(h:b=[]\/∃ y m,b=y::m/\x<y):cP f s t (x::a) b=tk f x (cP f s t a b):=by
 rcases h with rfl|⟨y,m,rfl,h⟩
 ·rw[cP]
 ·rw[cP,aE h]
theorem Ch {f s t:Bool}{y:Int}{a b:List Int}(h:a=[]\/∃ x m,a=x::m/\y<x):cP f s t a (y::b)=tk s y (cP f s t a b):=by
 rcases h with rfl|⟨x,m,rfl,h⟩
 ·rw[cP]
 ·rw[cP,aH (by omega),aE h]
theorem Ie {f s t:Bool}{x:Int}{a b:List Int}:cP f s t (x::a) (x::b)=tk t x (cP f s t a b):=by
 rw[cP,aH (by omega),aH (by omega)]
theorem qV {a b:List Int}(ha:a.length<=400000)(hb:b.length<=400000){r:List Int}{A:Pr}(hA:CL codes di f213 [.sl .int] r A)
  (i k:Nat) (hi:i<=a.length) (hk:k<=b.length) (out:List Int) (ho:out.length<=i+k) (h:out++cP true true true (a.drop i) (b.drop k)=r):A (hd f213 0) (pX a b true true true out i k):=by
 have h6:∀ hil:i<a.length,(out++[a[i]])++cP true true true (a.drop (i+1)) (b.drop k)=r->A (rg f213 6) (pX a b true true true out i k):=fun hil e=>by
  refine hA.go (Od a b out i k) ?_
  rw[bf hil]
  refine⟨⟨⟨by omega,by omega⟩,tv⟩,(out++[a[i]]:List Int),Ab (by omega),?_⟩
  rw[aw (by omega)]
  exact qV ha hb hA (i+1) k (by omega) hk _ (by simp;omega) e
 have h9:∀ hkb:k<b.length,(out++[b[k]])++cP true true true (a.drop i) (b.drop (k+1))=r->A (rg f213 9) (pX a b true true true out i k):=fun hkb e=>by
  refine hA.go (Ob a b out i k) ?_
  rw[bf hkb]
  refine⟨⟨⟨by omega,by omega⟩,tv⟩,(out++[b[k]]:List Int),Ab (by omega),?_⟩
  rw[aw (by omega)]
  exact qV ha hb hA i (k+1) hi (by omega) _ (by simp;omega) e
 have h11:∀ (hil:i<a.length) (_:k<b.length),(out++[a[i]])++cP true true true (a.drop (i+1)) (b.drop (k+1))=r->A (rg f213 11) (pX a b true true true out i k):=fun hil hkb e=>by
  refine hA.go (Oa a b out i k) ?_
  rw[bf hil]
  refine⟨⟨⟨by omega,by omega⟩,tv⟩,(out++[a[i]]:List Int),Ab (by omega),?_⟩
  rw[aw (by omega),aw (by omega)]
  exact qV ha hb hA (i+1) (k+1) (by omega) (by omega) _ (by simp;omega) e
 have h8:k<b.length->(∀ hil:i<a.length,∀ hkb:k<b.length,¬ a[i]<b[k])->A (rg f213 8) (pX a b true true true out i k):=fun hkb hc=>by
  refine hA.go (Oc a b out i k) (ak (fun c=>?_) (fun c=>?_))
  ·have c:(i:Int)=(a.length:Int):=by simpa using c
   refine h9 hkb ?_
   rw[dN (by omega:a.length<=i),dG hkb,Ch (.inl rfl)]at h
   rw[dN (by omega:a.length<=i),← h];simp[tk]
  ·have c:¬ (i:Int)=(a.length:Int):=by simpa using c
   have hil:i<a.length:=by omega
   rw[bf hil,bf hkb]
   refine⟨⟨⟨by omega,by omega⟩,tv⟩,⟨⟨by omega,by omega⟩,tv⟩,ak (fun c2=>?_) (fun c2=>?_)⟩
   ·have c2:=oT c2
    refine h9 hkb ?_
    rw[dG hil,dG hkb,Ch (.inr ⟨_,_,rfl,c2⟩)]at h
    rw[← h,dG hil];simp[tk]
   ·have c2:=oF c2
    have e:a[i]=b[k]:=by have:=hc hil hkb;omega
    refine h11 hil hkb ?_
    rw[dG hil,dG hkb,← e,Ie]at h
    rw[← h];simp[tk]
 have h5:i<a.length\/k<b.length->A (rg f213 5) (pX a b true true true out i k):=fun hik=>by
  refine hA.go (Oe a b out i k) (ak (fun c=>?_) (fun c=>?_))
  ·have c:(k:Int)=(b.length:Int):=by simpa using c
   have hil:i<a.length:=by omega
   refine h6 hil ?_
   rw[dN (by omega:b.length<=k),dG hil,Ci (.inl rfl)]at h
   rw[dN (by omega:b.length<=k),← h];simp[tk]
  ·have c:¬ (k:Int)=(b.length:Int):=by simpa using c
   have hkb:k<b.length:=by omega
   refine ak (fun c1=>?_) (fun c1=>?_)
   ·have hil:i<a.length:=by have:=oT c1;omega
    rw[bf hil,bf hkb]
    refine⟨⟨⟨by omega,by omega⟩,tv⟩,⟨⟨by omega,by omega⟩,tv⟩,ak (fun c2=>?_) (fun c2=>?_)⟩
    ·have c2:=oT c2
     refine h6 hil ?_
     rw[dG hil,dG hkb,Ci (.inr ⟨_,_,rfl,c2⟩)]at h
     rw[← h,dG hkb];simp[tk]
    ·have c2:=oF c2
     exact h8 hkb (fun _ _=>c2)
   ·have c1:=oF c1
    exact h8 hkb (fun hil=>absurd hil (by omega))
 refine hA.go (Of a b out i k) (ak (fun c=>?_) (fun c=>ak (fun c2=>?_) (fun c2=>?_)))
 ·exact h5 (.inl (by have:=oT c;omega))
 ·exact h5 (.inr (by have:=oT c2;omega))
 ·have c:=oF c
  have c2:=oF c2
  rw[dN (by omega),dN (by omega),cP,fx]at h
  exact⟨T2',h⟩
termination_by a.length-i+(b.length-k)
theorem HQ {a b:List Int}(ha:a.length<=400000)(hb:b.length<=400000):Pure prog 213 [⟨.sl .int,a⟩,⟨.sl .int,b⟩,⟨.bool,true⟩,⟨.bool,true⟩,⟨.bool,true⟩] [.sl .int] (cP true true true a b):=
 Pure.of_closed (C:=codes) (S:=di) mixed func213 (by kernel_rfl) (ac (by kernel_rfl)) fun A hA=>hA.go (t156 a b true true true)
  (hA.boxrow 0 0 3 .int (s':=pX a b true true true [] 0 0) (by kernel_rfl) (by kernel_rfl) (qV ha hb hA 0 0 (by omega) (by omega) [] (by simp) rfl))
theorem wB {a b:List Int}(ha:a.length<=400000)(hb:b.length<=400000):Pure prog 134 [⟨.sl .int,a⟩,⟨.sl .int,b⟩] [.sl .int] (cP true true true a b):=
 Jn func134 (LI a b) (by kernel_rfl) (by kernel_rfl) fun _=>⟨⟨T2',T2',T2',T2',T2',tv⟩,_,HQ ha hb,T2',rfl⟩
theorem Av (l:List Int):(dJ l).length<=l.length:=by have:=iy (a:=[]) (b:=l);simpa using this
theorem Ae {l:List Int}(hl:l.length<=100000):Pure prog 81 [⟨.sl .int,l⟩] [.sl .int] (dJ l):=
 Jn func81 (t129 l) (by kernel_rfl) (by kernel_rfl) fun _=>by
  refine ak (fun c=>?_) (fun c=>?_)
  ·have c:=oT c
   refine⟨tv,⟨by omega,tv⟩,T2',?_⟩
   match l,c with
   | [],_=>rfl
   | [n],_=>rfl
   | _::_::_,c=>simp only[ag]at c;omega
  ·have c:=oF c
   have hd:Int.tdiv (l.length:Int) 2=((l.length/2:Nat):Int):=by
    rw[Int.tdiv_eq_ediv_of_nonneg (by omega)];rfl
   have e:w64 (Int.tdiv (l.length:Int) 2)=((l.length/2:Nat):Int):=by rw[hd,ax (by omega) (by omega)]
   rw[e]
   have e1:List.drop 0 (List.take ((l.length/2:Nat):Int).toNat l)=l.take (l.length/2):=by rw[bD,aq]
   have e2:List.drop ((l.length/2:Nat):Int).toNat l=l.drop (l.length/2):=by rw[aq]
   rw[e1,e2]
   have l1:=Av (l.take (l.length/2))
   have l2:=Av (l.drop (l.length/2))
   rw[aF]at l1
   rw[aK]at l2
   refine⟨by decide,⟨⟨by omega,by omega,by omega⟩,tv⟩,⟨T2',tv⟩,_,Ae (l:=l.take (l.length/2)) (by rw[aF];omega),⟨⟨by omega,by omega⟩,tv⟩,⟨T2',tv⟩,_,Ae (l:=l.drop (l.length/2)) (by rw[aK];omega),⟨T2',T2',tv⟩,_,wB (by omega) (by omega),T2',?_⟩
   show cP true true true (dJ (l.take (l.length/2))) (dJ (l.drop (l.length/2)))=dJ l
   rw[jk (jv _) (jv _),← QZ,List.take_append_drop]
termination_by l.length
decreasing_by
 all_goals simp only[aF,aK];omega
end Go.Proofs.Zn

namespace Go.Proofs.Zn
open Go.Proofs.Tryz
open Go Go.VL
def PP (a b:Int)(l:List Span)(s:Span)(out:List Int)(i k:Int):AS:=mkS 44 [(5,i64 a),(6,i64 b),(8,.own 0 .int),(10,.ptr 1 0),(11,i64 k),(19,.d (.sl .span l)),(20,i64 l.length),(21,i64 i)] [(0,.row 3 .int out),(1,.box [i64 s.lo,i64 s.hi])] 2
theorem t97b (a b:Int)(l:List Span)(s:Span)(out:List Int)(i k:Int):@Eq _ (xL prog codes di f211 [.sl .int] 200 1 (PP a b l s out i k)) (bif decide (k<=s.hi)then .need (U2/\True) (.need ((out.length+List.length [w64 (w64 (a+b)+k)])*9<=35184372088832/\True) (.stop (hd f211 1) (mkS 44 [(5,i64 a),(6,i64 b),(8,.own 0 .int),(10,.ptr 1 0),(11,i64 (w64 (k+1))),(19,.d (.sl .span l)),(20,i64 (l.length:Int)),(21,i64 i)] [(0,.row 3 .int (out++[w64 (w64 (a+b)+k)])),(1,.box [i64 s.lo,i64 s.hi])] 2)))else .stop (hd f211 0) (mkS 44 [(5,i64 a),(6,i64 b),(8,.own 0 .int),(19,.d (.sl .span l)),(20,i64 (l.length:Int)),(21,i64 (w64 (i+1)))] [(0,.row 3 .int out)] 1)):=by kernel_rfl
end Go.Proofs.Zn

namespace Go.Proofs.Sp
open Go.Proofs.Tryz
open Go Go.VL
theorem t75 (a:Span):@Eq _ (xS prog codes sigs f258 [.bool] 60 [⟨.span,a⟩]) (.need U2 (.ret (decide (a.lo>a.hi)))):=by kernel_rfl
theorem t76:@Eq _ (xS prog codes sigs f259 [.span] 60 []) (.need U3 (.ret (Span.mk (0:Int) (-1:Int)))):=by kernel_rfl
theorem t21 (a b:Span):@Eq _ (xS prog codes sigs f212 [.span] 100 [⟨.span,a⟩,⟨.span,b⟩]) (.need (U3/\True) (.callP 258 [⟨.span,a⟩] [.bool] fun x=>bif x then .need (U3/\True) (.callP 258 [⟨.span,b⟩] [.bool] fun x=>bif x then .need True (.callP 259 [] [.span] fun x=>.need U3 (.ret x))else .need (U3/\True) (.callP 258 [⟨.span,a⟩] [.bool] fun x=>bif x then .need U3 (.ret b)else .need (U3/\True) (.callP 258 [⟨.span,b⟩] [.bool] fun x=>bif x then .need U3 (.ret a)else .need U3 (.ret (Span.mk (if b.lo<a.lo then b.lo else a.lo) (if b.hi>a.hi then b.hi else a.hi))))))else .need (U3/\True) (.callP 258 [⟨.span,a⟩] [.bool] fun x=>bif x then .need U3 (.ret b)else .need (U3/\True) (.callP 258 [⟨.span,b⟩] [.bool] fun x=>bif x then .need U3 (.ret a)else .need U3 (.ret (Span.mk (if b.lo<a.lo then b.lo else a.lo) (if b.hi>a.hi then b.hi else a.hi))))))):=by kernel_rfl
theorem t82 (a b:Span):@Eq _ (xS prog codes sigs f295 [.bool] 100 [⟨.span,a⟩,⟨.span,b⟩]) (bif decide (b.lo<=a.hi)then .need U2 (.ret true)else .need U2 (.ret (w64 (b.lo-(1:Int))==a.hi))):=by kernel_rfl
end Go.Proofs.Sp

namespace Go.Proofs.Sp
open Go.Proofs.Tryz
open Go Go.VL
theorem ak {α:Type}{P:Program}{A:List Item->AS->Prop}{R0:α->Prop}{b:Bool}{S T:Out α}(h1:b=true->Sat P A R0 S)(h0:b=false->Sat P A R0 T):Sat P A R0 (bif b then S else T):=by
 cases b
 ·exact h0 rfl
 ·exact h1 rfl
abbrev T3:True/\True/\True:=⟨tv,tv,tv⟩
def emp (a:Span):Bool:=decide (a.lo>a.hi)
def nil:Span:=⟨0,-1⟩
def over (a b:Span):Span:=⟨if b.lo<a.lo then b.lo else a.lo,if b.hi>a.hi then b.hi else a.hi⟩
def lv (a b:Span):Span:=bif emp a then(bif emp b then nil else b)else bif emp b then a else over a b
theorem c75 (a:Span):Pure prog 258 [⟨.span,a⟩] [.bool] (emp a):=ofT func258 (t75 a) (by kernel_rfl) (by kernel_rfl) fun _=>⟨q2,rfl⟩
theorem c76:Pure prog 259 [] [.span] nil:=ofT func259 t76 (by kernel_rfl) (by kernel_rfl) fun _=>⟨T3,rfl⟩
theorem c21 (a b:Span):Pure prog 212 [⟨.span,a⟩,⟨.span,b⟩] [.span] (lv a b):=ofT func212 (t21 a b) (by kernel_rfl) (by kernel_rfl) fun A=>by
 refine⟨⟨T3,tv⟩,_,c75 a,ak (fun h=>?_) (fun h=>?_)⟩
 ·refine⟨⟨T3,tv⟩,_,c75 b,ak (fun h2=>?_) (fun h2=>?_)⟩
  ·refine⟨tv,_,c76,T3,?_⟩
   show nil=lv a b
   rw[lv,h,h2];rfl
  ·refine⟨⟨T3,tv⟩,_,c75 a,ak (fun h3=>?_) (fun h3=>?_)⟩
   ·refine⟨T3,?_⟩
    show b=lv a b
    rw[lv,h,h2];rfl
   ·rw[h]at h3;cases h3
 ·refine⟨⟨T3,tv⟩,_,c75 a,ak (fun h3=>?_) (fun h3=>?_)⟩
  ·rw[h]at h3;cases h3
  ·refine⟨⟨T3,tv⟩,_,c75 b,ak (fun h2=>?_) (fun h2=>?_)⟩
   ·refine⟨T3,?_⟩
    show a=lv a b
    rw[lv,h,h2];rfl
   ·refine⟨T3,?_⟩
    show over a b=lv a b
    rw[lv,h,h2];rfl
end Go.Proofs.Sp

namespace Go.Proofs.Sp
open Go.Proofs.Tryz
open Go Go.VL
theorem t79 (xs:List Span):@Eq (Out GRes) (bj prog codes sigs f292 (eG 0) 0 ⟨[],true⟩ 100 false (cx f292) (gh f292 [.d (.sl .span xs)] [] 0)) (.ask (fun(b:Bool)=>b=true->xs.length=0) fun(b:Bool)=>bif b then .stop (rt f292 0) (mkS 8 [(2,nS)] [] 0)else .need True (.need ((0+xs.length)*17<=35184372088832/\True) (.stop (rt f292 1) (mkS 8 [(2,.own 0 .span)] [(0,.row 175 .span ([]++xs))] 1)))):=by kernel_rfl
theorem t112 (xs:List Span):@Eq _ (yS prog codes sigs f308 1 100 [.own 0 .span,.clo (.func 258) [] []] [(0,.row 175 .span xs)] 1) (.stop (hd f308 0) (mkS 19 [(0,.own 0 .span),(1,.clo (.func 258) [] []),(7,i64 (xs.length:Int)),(8,i64 0)] [(0,.row 175 .span xs)] 1)):=by kernel_rfl
theorem t78 (xs:List Span):@Eq _ (yS prog codes sigs f291 1 100 [.own 0 .span,.clo (.func 258) [] []] [(0,.row 175 .span xs)] 1) (.callG 308 [.own 0 .span,.clo (.func 258) [] []] [(0,.row 175 .span xs)] 1 [.int] (fun(x:Int)=>GRes.mk [i64 x] [(0,.row 175 .span xs)] 1) fun(x:Int)=>bif x==(-1:Int)then .need True (.ret ⟨[.own 0 .span],[(0,.row 175 .span xs)],1⟩)else .stop (hd f291 0) (mkS 42 [(0,.own 0 .span),(1,.clo (.func 258) [] []),(5,i64 x),(6,i64 (w64 (x+1)))] [(0,.row 175 .span xs)] 1)):=by kernel_rfl
theorem t31 (xs:List Span):@Eq _ (xS prog codes sigs f257 [.sl .span] 100 [⟨.sl .span,xs⟩]) (.callG 292 [.d (.sl .span xs)] [] 0 [.sl .span] (fun(a:List Span)=>GRes.mk [.own 0 .span] [(0,.row 175 .span a)] 1) fun(x:List Span)=>.callG 291 [.own 0 .span,.clo (.func 258) [] []] [(0,.row 175 .span x)] 1 [.sl .span] (fun(a:List Span)=>GRes.mk [.view 0 .span 0 a.length] [(0,.row 175 .span (pad x.length a))] 1) fun(x_1:List Span)=>.callG 293 [.view 0 .span 0 x_1.length,.clo (.func 294) [] []] [(0,.row 175 .span (pad x.length x_1))] 1 [.sl .span] (fun(a:List Span)=>GRes.mk [] [(0,.row 175 .span a)] 1) fun(x:List Span)=>.stop (hd f257 0) (mkS 49 [(4,nS),(13,.view 0 .span 0 x_1.length),(14,i64 (x_1.length:Int)),(15,i64 0)] [(0,.row 175 .span x)] 1)):=by kernel_rfl
end Go.Proofs.Sp

namespace Go.Proofs.Sp
open Go.Proofs.Tryz
open Go Go.VL
def i64 (n:Int):AV:=.d (.v (.int .i64 n))
def Qh (xs:List Span)(i:Int):AS:=mkS 19 [(0,.own 0 .span),(1,.clo (.func 258) [] []),(7,i64 xs.length),(8,i64 i)] [(0,.row 175 .span xs)] 1
def L78 (xs:List Span)(i j:Int):AS:=mkS 42 [(0,.own 0 .span),(1,.clo (.func 258) [] []),(5,i64 i),(6,i64 j)] [(0,.row 175 .span xs)] 1
def L31 (ys:List Span)(n:Nat)(out:List Span)(i:Int):AS:=mkS 49 [(4,.own 0 .span),(13,.view 1 .span 0 n),(14,i64 n),(15,i64 i)] [(0,.row 175 .span out),(1,.row 175 .span ys)] 2
theorem KB (xs:List Span)(i:Int):@Eq _ (yL prog codes sigs f308 1 100 0 (Qh xs i)) (bif decide (i<(xs.length:Int))then .need ((0:Int)<=i/\i<(xs.length:Int)) (.need (i.toNat<xs.length) (.need (U3/\True) (.callP 258 [⟨.span,(xs.getD i.toNat Ty.span.dflt)⟩] [.bool] fun(x:Bool)=>bif x then .need True (.ret ⟨[i64 i],[(0,.row 175 .span xs)],1⟩)else .stop (hd f308 0) (mkS 19 [(0,.own 0 .span),(1,.clo (.func 258) [] []),(7,i64 (xs.length:Int)),(8,i64 (w64 (i+1)))] [(0,.row 175 .span xs)] 1))))else .need True (.ret ⟨[i64 (-1)],[(0,.row 175 .span xs)],1⟩)):=by kernel_rfl
theorem NK (xs:List Span)(i j:Int):@Eq _ (yL prog codes sigs f291 1 100 0 (L78 xs i j)) (bif decide (j<(xs.length:Int))then .need ((0:Int)<=j/\j<(xs.length:Int)) (.need (j.toNat<xs.length) (.need (U3/\True) (.callP 258 [⟨.span,(xs.getD j.toNat Ty.span.dflt)⟩] [.bool] fun(x:Bool)=>bif !x then .need ((0:Int)<=i/\i<(xs.length:Int)) (.need (i.toNat<xs.length/\U3) (.stop (hd f291 0) (mkS 42 [(0,.own 0 .span),(1,.clo (.func 258) [] []),(5,i64 (w64 (i+1))),(6,i64 (w64 (j+1)))] [(0,.row 175 .span (xs.set i.toNat (xs.getD j.toNat Ty.span.dflt)))] 1)))else .stop (hd f291 0) (mkS 42 [(0,.own 0 .span),(1,.clo (.func 258) [] []),(5,i64 i),(6,i64 (w64 (j+1)))] [(0,.row 175 .span xs)] 1))))else .need ((0:Int)<=i/\i<=(xs.length:Int)) (.need (i.toNat+(xs.length-i.toNat)<=xs.length) (.need ((0:Int)<=0/\(0:Int)<=i/\i<=(↑(dx xs i.toNat (List.replicate (xs.length-i.toNat) Ty.span.dflt)).length:Int)) (.need True (.ret ⟨[.view 0 .span 0 (i.toNat-0)],[(0,.row 175 .span (dx xs i.toNat (List.replicate (xs.length-i.toNat) Ty.span.dflt)))],1⟩))))):=by kernel_rfl
theorem NM (ys:List Span)(n:Nat)(out:List Span)(i:Int):@Eq _ (xL prog codes sigs f257 [.sl .span] 150 0 (L31 ys n out i)) (bif decide (i<(↑n:Int))then .need ((0:Int)<=i/\i<(↑n:Int)) (.need (0+i.toNat<ys.length) (bif decide ((out.length:Int)>0)then .need ((0:Int)<=w64 ((out.length:Int)-(1:Int))/\w64 ((out.length:Int)-(1:Int))<(out.length:Int)) (.need ((w64 ((out.length:Int)-(1:Int))).toNat<out.length) (.need (U3/\U3/\True) (.callP 295 [Sigma.mk .span (out.getD (w64 ((out.length:Int)-(1:Int))).toNat Ty.span.dflt),⟨.span,(ys.getD (0+i.toNat) Ty.span.dflt)⟩] [.bool] fun(x:Bool)=>bif x then .need ((0:Int)<=w64 ((out.length:Int)-(1:Int))/\w64 ((out.length:Int)-(1:Int))<(out.length:Int)) (.need ((w64 ((out.length:Int)-(1:Int))).toNat<out.length) (.need (U3/\U3/\True) (.callP 212 [Sigma.mk .span (out.getD (w64 ((out.length:Int)-(1:Int))).toNat Ty.span.dflt),⟨.span,(ys.getD (0+i.toNat) Ty.span.dflt)⟩] [.span] fun(x:Span)=>.need ((0:Int)<=w64 ((out.length:Int)-(1:Int))/\w64 ((out.length:Int)-(1:Int))<(out.length:Int)) (.need ((w64 ((out.length:Int)-(1:Int))).toNat<out.length/\U3) (.stop (hd f257 0) (mkS 49 [(4,.own 0 .span),(13,.view 1 .span 0 n),(14,i64 (↑n:Int)),(15,i64 (w64 (i+1)))] [(0,.row 175 .span (out.set (w64 ((out.length:Int)-(1:Int))).toNat x)),(1,.row 175 .span ys)] 2))))))else .need (U3/\True) (.need ((out.length+List.length [ys.getD (0+i.toNat) Ty.span.dflt])*17<=35184372088832/\True) (.stop (hd f257 0) (mkS 49 [(4,.own 0 .span),(13,.view 1 .span 0 n),(14,i64 (↑n:Int)),(15,i64 (w64 (i+1)))] [(0,.row 175 .span (out++[ys.getD (0+i.toNat) Ty.span.dflt])),(1,.row 175 .span ys)] 2))))))else .need (U3/\True) (.need ((out.length+List.length [ys.getD (0+i.toNat) Ty.span.dflt])*17<=35184372088832/\True) (.stop (hd f257 0) (mkS 49 [(4,.own 0 .span),(13,.view 1 .span 0 n),(14,i64 (↑n:Int)),(15,i64 (w64 (i+1)))] [(0,.row 175 .span (out++[ys.getD (0+i.toNat) Ty.span.dflt])),(1,.row 175 .span ys)] 2)))))else .need U2 (.ret out)):=by kernel_rfl
end Go.Proofs.Sp

namespace Go.Proofs.Sp
open Go.Proofs.Tryz
open Go Go.VL
theorem nG {n:Int}(h1 : -9223372036854775808<=n)(h2:n<9223372036854775808):w64 n=n:=by
 unfold w64 IntKind.wrap
 have e:(2^IntKind.i64.bits:Int)=18446744073709551616:=rfl
 have e2:(2^(IntKind.i64.bits-1):Int)=9223372036854775808:=rfl
 have e3:IntKind.i64.signed=true:=rfl
 simp only[e,e2,e3,cm]
 rcases Int.lt_or_le n 0 with h|h
 ·have:n%18446744073709551616=n+18446744073709551616:=by omega
  rw[this,aE (by simpa using by omega)];omega
 ·have:n%18446744073709551616=n:=kA h (by omega)
  rw[this,aH (by simpa using by omega)]
def Sm (n:Nat):Prop:=n*17<=35184372088832
def fnd:List Span->Int->Int
 | [],_ => -1
 | x::xs,i=>bif emp x then i else fnd xs (i+1)
theorem Bz {xs:List Span}(hl:Sm xs.length){A:List Item->AS->Prop}(hA:Closed prog codes sigs f308 (eG 1) (fun r'=>GRes.Le r' ⟨[i64 (fnd xs 0)],[(0,.row 175 .span xs)],1⟩) 1 A) :
  ∀ (k i:Nat),i+k=xs.length->fnd (xs.drop i) i=fnd xs 0->A (hd f308 0) (Qh xs i)
 | 0, i, hi, hf => by
   refine hA.go (KB xs i) (ak (fun h=>?_) (fun h=>?_))
   ·simp only[bx]at h;omega
   ·refine⟨tv,.of_eq ?_⟩
    rw[dN (by omega)]at hf
    rw[← hf];rfl
 | k + 1, i, hi, hf => by
   have hlt:i<xs.length:=by omega
   have hg:xs.getD i Ty.span.dflt=xs[i]:=by simp[List.getD,hlt]
   refine hA.go (KB xs i) (ak (fun h=>?_) (fun h=>?_))
   ·refine⟨⟨by omega,by omega⟩,by simpa using hlt,⟨T3,tv⟩,_,c75 _,?_⟩
    rw[dG hlt]at hf
    have hf:(bif emp xs[i]then(i:Int)else fnd (xs.drop (i+1)) (i+1))=fnd xs 0:=hf
    refine ak (fun h2=>?_) (fun h2=>?_)
    ·refine⟨tv,.of_eq ?_⟩
     have h2:emp (xs.getD i Ty.span.dflt)=true:=h2
     rw[hg]at h2
     rw[h2]at hf
     rw[← hf];rfl
    ·have h2:emp (xs.getD i Ty.span.dflt)=false:=h2
     rw[hg]at h2
     rw[h2]at hf
     have hw:w64 ((i:Int)+1)=((i+1:Nat):Int):=by
      unfold Sm at hl
      rw[nG (by omega) (by omega)];rfl
     rw[hw]
     exact Bz hl hA k (i+1) (by omega) hf
   ·simp only[cE]at h;omega
theorem c112 {xs:List Span}(hl:Sm xs.length):Gc prog 308 [.own 0 .span,.clo (.func 258) [] []] [(0,.row 175 .span xs)] 1 ⟨[i64 (fnd xs 0)],[(0,.row 175 .span xs)],1⟩:=
 Gc.of_closed (C:=codes) (S:=sigs) mixed func308 (by kernel_rfl) (fun i T t ys _ h=>⟨ys,h,rfl⟩) fun _ hA=>
  hA.go (t112 xs) (Bz hl hA xs.length 0 (by omega) rfl)
end Go.Proofs.Sp

namespace Go.Proofs.Sp
open Go.Proofs.Tryz
open Go Go.VL
theorem NJ (xs:List Span):@Eq (Out GRes) (bj prog codes sigs f292 (eG 0) 0 fu 100 true (rt f292 0) (mkS 8 [(2,.own 0 .span)] [(0,.row 175 .span xs)] 1)) (.need True (.ret ⟨[.own 0 .span],[(0,.row 175 .span xs)],1⟩)):=by kernel_rfl
theorem NI (xs:List Span):@Eq (Out GRes) (bj prog codes sigs f292 (eG 0) 0 fu 100 true (rt f292 1) (mkS 8 [(2,.own 0 .span)] [(0,.row 175 .span xs)] 1)) (.need True (.ret ⟨[.own 0 .span],[(0,.row 175 .span xs)],1⟩)):=by kernel_rfl
end Go.Proofs.Sp

namespace Go.Proofs.Sp
open Go.Proofs.Tryz
open Go Go.VL
theorem c79 {xs:List Span}(hl:Sm xs.length):Gc prog 292 [.d (.sl .span xs)] [] 0 ⟨[.own 0 .span],[(0,.row 175 .span xs)],1⟩:=
 Gc.of_closed (C:=codes) (S:=sigs) mixed func292 (by kernel_rfl) (fun i T t ys hi _=>absurd hi (bG _)) fun A hA=>
  hA.go (t79 xs) fun b hb=>ak (fun h=>by
   have hx:xs=[]:=az (hb h)
   subst hx
   exact hA.row 2 175 .span (by kernel_rfl) (s':=mkS 8 [(2,.own 0 .span)] [(0,.row 175 .span [])] 1) (by kernel_rfl) (hA.go (NJ []) ⟨tv,.of_eq rfl⟩))
   (fun _=>⟨tv,⟨by unfold Sm at hl;omega,tv⟩,hA.go (NI xs) ⟨tv,.of_eq rfl⟩⟩)
def keep (xs:List Span):List Span:=xs.filter fun a => !emp a
theorem yk:∀ {xs:List Span} {i:Int},0<=i->fnd xs i = -1->keep xs=xs
 | [],_,_,_=>rfl
 | x :: xs, i, hi, h => by
   unfold fnd at h
   cases hx:emp x
   ·rw[hx]at h
    have:=yk (xs:=xs) (i:=i+1) (by omega) h
    simp[keep,hx]at this ⊢
    exact this
   ·rw[hx]at h
    simp only[cT]at h;omega
theorem yj:∀ {xs:List Span} {i:Int},0<=i->fnd xs i ≠ -1->∃ k:Nat,k<xs.length/\fnd xs i=i+k/\keep (xs.take (k+1))=xs.take k
 | [],_,_,h=>absurd rfl h
 | x :: xs, i, hi, h => by
   unfold fnd at h ⊢
   cases hx:emp x
   ·rw[hx]at h
    simp only[cF]at h ⊢
    obtain⟨k,h1,h2,h3⟩:=yj (xs:=xs) (i:=i+1) (by omega) h
    refine⟨k+1,by simp;omega,by rw[h2];omega,?_⟩
    simp[keep,hx]at h3 ⊢
    exact h3
   ·refine⟨0,by simp,by simp,?_⟩
    simp[keep,hx]
theorem mD {xs:List Span}{j:Nat}(hj:j<xs.length):keep (xs.take (j+1))=keep (xs.take j)++(bif emp xs[j]then[]else[xs[j]]):=by
 rw[ba hj]
 unfold keep
 rw[List.filter_append]
 cases h:emp xs[j]<;>simp[h]
abbrev Fv (xs:List Span):GRes:=⟨[.view 0 .span 0 (keep xs).length],[(0,.row 175 .span (pad xs.length (keep xs)))],1⟩
theorem zL {xs:List Span}(hl:Sm xs.length){A:List Item->AS->Prop}(hA:Closed prog codes sigs f291 (eG 1) (fun r'=>GRes.Le r' (Fv xs)) 1 A) :
  ∀ (k i j:Nat) (zs:List Span),j+k=xs.length->i<j->zs.length=xs.length->zs.take i=keep (xs.take j)->zs.drop j=xs.drop j->A (hd f291 0) (L78 zs i j)
 | 0, i, j, zs, hj, hij, hz, ht, _ => by
   have hi:i<=zs.length:=by omega
   refine hA.go (NK zs i j) (ak (fun h=>?_) (fun h=>?_))
   ·simp only[bx]at h;omega
   ·have hki:(keep xs).length=i:=by
     have:=congrArg List.length ht
     rw[ct (by omega:xs.length<=j),aF,Nat.min_eq_left hi]at this
     exact this.symm
    have hsp:dx zs i (List.replicate (zs.length-i) Ty.span.dflt)=pad xs.length (keep xs):=by
     unfold dx pad
     rw[ht,ct (by omega:xs.length<=j),hki,hz,cA,dN (by omega),fx]
    refine⟨⟨by omega,by omega⟩,by simp only[aq];omega,⟨by omega,by omega,?_⟩,tv,.of_eq ?_⟩
    ·simp only[aq]
     rw[cX _ _ _ (by rw[cA];omega)];omega
    ·simp only[aq,Fv,hsp,hki,cZ]
 | k + 1, i, j, zs, hj, hij, hz, ht, hd' => by
   have hjz:j<zs.length:=by omega
   have hjx:j<xs.length:=by omega
   have hg:zs.getD j Ty.span.dflt=xs[j]:=by
    have:=congrArg List.head? hd'
    simp only[lQ,aj hjz,aj hjx,af]at this
    simp[List.getD,hjz,this]
   have hw:w64 ((j:Int)+1)=((j+1:Nat):Int):=by
    unfold Sm at hl
    rw[nG (by omega) (by omega)];rfl
   have hw2:w64 ((i:Int)+1)=((i+1:Nat):Int):=by
    unfold Sm at hl
    rw[nG (by omega) (by omega)];rfl
   have hdd:zs.drop (j+1)=xs.drop (j+1):=by
    have:=congrArg (List.drop 1) hd'
    simpa[jT,Nat.add_comm]using this
   refine hA.go (NK zs i j) (ak (fun h=>?_) (fun h=>?_))
   ·refine⟨⟨by omega,by omega⟩,by simpa using hjz,⟨T3,tv⟩,_,c75 _,?_⟩
    refine ak (fun h2=>?_) (fun h2=>?_)
    ·have h2:emp xs[j]=false:=by
      rw[← hg];simpa using h2
     refine⟨⟨by omega,by omega⟩,⟨by simpa using by omega,T3⟩,?_⟩
     rw[hw,hw2]
     have hset:List.set zs ((i:Int).toNat) (zs.getD ((j:Int).toNat) Ty.span.dflt)=zs.set i xs[j]:=by rw[aq,aq,hg]
     show A (hd f291 0) (L78 (List.set zs ((i:Int).toNat) (zs.getD ((j:Int).toNat) Ty.span.dflt)) (i+1:Nat) (j+1:Nat))
     rw[hset]
     refine zL hl hA k (i+1) (j+1) (zs.set i xs[j]) (by omega) (by omega) (by simpa using hz) ?_ ?_
     ·rw[mD hjx,h2,← ht]
      have hiz:i<(zs.set i xs[j]).length:=by simp;omega
      rw[ba hiz,List.take_set_of_le (aI i)]
      simp
     ·rw[List.drop_set_of_lt (by omega)];exact hdd
    ·have h2:emp xs[j]=true:=by
      rw[← hg];simpa using h2
     rw[hw]
     refine zL hl hA k i (j+1) zs (by omega) (by omega) hz ?_ hdd
     rw[mD hjx,h2,ht];simp
   ·simp only[cE]at h;omega
theorem c78 {xs:List Span}(hl:Sm xs.length):Gc prog 291 [.own 0 .span,.clo (.func 258) [] []] [(0,.row 175 .span xs)] 1 (Fv xs):=by
 have hkl:(keep xs).length<=xs.length:=fE _ _
 refine Gc.of_closed (C:=codes) (S:=sigs) mixed func291 (by kernel_rfl) (fun i T t ys hi h=>?_) fun A hA=>hA.go (t78 xs) ⟨fnd xs 0,c112 hl,ak (fun h=>?_) (fun h=>?_)⟩
 ·obtain rfl:i=0:=by omega
  simp only[Heap.get,dA,cT,af,ABlk.row.injEq]at h
  obtain⟨rfl,rfl,h⟩:=h
  refine⟨xs,rfl,?_⟩
  rw[← eq_of_heq h]
  simp[pad];omega
 ·have h:fnd xs 0 = -1:=by simpa using h
  have hk:=yk (gS 0) h
  have hp:pad xs.length (keep xs)=xs:=by rw[hk];simp[pad]
  refine⟨tv,⟨rfl,fun i x y hx hy=>?_,fun l b hb=>⟨b,?_,.refl _ b⟩,aI _⟩⟩
  ·cases i with
   | zero =>
     cases hx;cases hy
     rw[hk]
     exact .view rfl
   | succ i=>cases hx
  ·simp only[hp]at hb;exact hb
 ·have h:fnd xs 0 ≠ -1:=by simpa using h
  obtain⟨k,h1,h2,h3⟩:=yj (gS 0) h
  have h2:fnd xs 0=(k:Int):=by rw[h2];omega
  rw[h2]
  have hw:w64 ((k:Int)+1)=((k+1:Nat):Int):=by
   unfold Sm at hl
   rw[nG (by omega) (by omega)];rfl
  rw[hw]
  exact zL hl hA (xs.length-(k+1)) k (k+1) xs (by omega) (by omega) rfl h3.symm rfl
end Go.Proofs.Sp

namespace Go.Proofs.Sp
open Go.Proofs.Tryz
open Go Go.VL
theorem c82 (a b:Span):Pure prog 295 [⟨.span,a⟩,⟨.span,b⟩] [.bool] (bif decide (b.lo<=a.hi)then true else(w64 (b.lo-1)==a.hi)):=ofT func295 (t82 a b) (by kernel_rfl) (by kernel_rfl) fun A=>by
 refine ak (fun h=>?_) (fun h=>?_)
 ·refine⟨q2,?_⟩
  show true=_
  rw[h];rfl
 ·refine⟨q2,?_⟩
  show(_:Bool)=_
  rw[h];rfl
end Go.Proofs.Sp

namespace Go.Proofs.Sp
open Go.Proofs.Tryz
open Go Go.VL
def follows (a b:Span):Bool:=bif decide (b.lo<=a.hi)then true else(w64 (b.lo-1)==a.hi)
def goJ:List Span->List Span->List Span
 | [],out=>out
 | y::ys,out=>bif decide (0<out.length)&&follows (out.getD (out.length-1) Ty.span.dflt) y then goJ ys (out.set (out.length-1) (lv (out.getD (out.length-1) Ty.span.dflt) y))else goJ ys (out++[y])
theorem zM {ys:List Span}{n:Nat}(hn:n<=ys.length)(hl:Sm ys.length){r:List Span}{A:Pr}(hA:CL codes sigs f257 [.sl .span] r A) :
  ∀ (k i:Nat) (out:List Span),i+k=n->out.length<=i->goJ ((ys.take n).drop i) out=r->A (hd f257 0) (L31 ys n out i)
 | 0, i, out, hi, ho, hr => by
   refine hA.go (NM ys n out i) (ak (fun h=>?_) (fun h=>?_))
   ·simp only[bx]at h;omega
   ·refine⟨⟨tv,tv⟩,?_⟩
    rw[dN (by rw[aF];omega)]at hr
    exact hr
 | k + 1, i, out, hi, ho, hr => by
   have hlt:i<n:=by omega
   have hiy:i<(ys.take n).length:=by rw[aF];omega
   rw[dG hiy]at hr
   have hy:ys.getD (0+(i:Int).toNat) Ty.span.dflt=(ys.take n)[i]:=by
    rw[aq,cq,kz]
    simp[List.getD,show i<ys.length by omega]
   have hw:w64 ((i:Int)+1)=((i+1:Nat):Int):=by
    unfold Sm at hl
    rw[nG (by omega) (by omega)];rfl
   unfold Sm at hl
   have fresh:(decide (0<out.length)&&follows (out.getD (out.length-1) Ty.span.dflt) (ys.take n)[i])=false->A (hd f257 0) (L31 ys n (out++[ys.getD (0+(i:Int).toNat) Ty.span.dflt]) (i+1:Nat)):=by
    intro hf
    have hr:(bif decide (0<out.length)&&follows (out.getD (out.length-1) Ty.span.dflt) (ys.take n)[i]then _ else goJ ((ys.take n).drop (i+1)) (out++[(ys.take n)[i]]))=r:=hr
    rw[hf]at hr
    rw[hy]
    exact zM hn hl hA k (i+1) _ (by omega) (by simp;omega) hr
   refine hA.go (NM ys n out i) (ak (fun h=>?_) (fun h=>?_))
   ·refine⟨⟨by omega,by omega⟩,by simp only[aq];omega,ak (fun h2=>?_) (fun h2=>?_)⟩
    ·simp only[bx]at h2
     have hpos:0<out.length:=by omega
     have hwl:w64 ((out.length:Int)-1)=((out.length-1:Nat):Int):=by
      rw[nG (by omega) (by omega)];omega
     have hlast:out.getD ((w64 ((out.length:Int)-1)).toNat) Ty.span.dflt=out.getD (out.length-1) Ty.span.dflt:=by rw[hwl,aq]
     have hn1:(0:Int)<=w64 ((out.length:Int)-1)/\w64 ((out.length:Int)-1)<(out.length:Int):=by rw[hwl];omega
     have hn2:(w64 ((out.length:Int)-1)).toNat<out.length:=by rw[hwl,aq];omega
     refine⟨hn1,hn2,⟨T3,T3,tv⟩,_,c82 _ _,ak (fun h3=>?_) (fun h3=>?_)⟩
     ·have h3:follows (out.getD ((w64 ((out.length:Int)-1)).toNat) Ty.span.dflt) (ys.getD (0+(i:Int).toNat) Ty.span.dflt)=true:=h3
      rw[hlast,hy]at h3
      refine⟨hn1,hn2,⟨T3,T3,tv⟩,_,c21 _ _,hn1,⟨hn2,T3⟩,?_⟩
      have hr:(bif decide (0<out.length)&&follows (out.getD (out.length-1) Ty.span.dflt) (ys.take n)[i]then goJ ((ys.take n).drop (i+1)) (out.set (out.length-1) (lv (out.getD (out.length-1) Ty.span.dflt) (ys.take n)[i]))else _)=r:=hr
      rw[h3,dT hpos]at hr
      rw[hw]
      have hset:List.set out ((w64 ((out.length:Int)-1)).toNat) (lv (out.getD ((w64 ((out.length:Int)-1)).toNat) Ty.span.dflt) (ys.getD (0+(i:Int).toNat) Ty.span.dflt)) =
       out.set (out.length-1) (lv (out.getD (out.length-1) Ty.span.dflt) (ys.take n)[i]):=by rw[hlast,hy,hwl,aq]
      show A (hd f257 0) (L31 ys n (List.set out ((w64 ((out.length:Int)-1)).toNat) (lv (out.getD ((w64 ((out.length:Int)-1)).toNat) Ty.span.dflt) (ys.getD (0+(i:Int).toNat) Ty.span.dflt))) (i+1:Nat))
      rw[hset]
      exact zM hn hl hA k (i+1) _ (by omega) (by simp;omega) hr
     ·have h3:follows (out.getD ((w64 ((out.length:Int)-1)).toNat) Ty.span.dflt) (ys.getD (0+(i:Int).toNat) Ty.span.dflt)=false:=h3
      rw[hlast,hy]at h3
      refine⟨⟨T3,tv⟩,⟨by simp only[ag,am];omega,tv⟩,?_⟩
      rw[hw]
      exact fresh (by rw[h3,Bool.and_false])
    ·refine⟨⟨T3,tv⟩,⟨by simp only[ag,am];omega,tv⟩,?_⟩
     rw[hw]
     simp only[cE]at h2
     exact fresh (by rw[dF (by omega),Bool.false_and])
   ·simp only[cE]at h;omega
theorem MM (srt:List Span->List Span)(hlen:∀ xs,(srt xs).length=xs.length)
  (h80:∀ (zs:List Span) (n:Nat),n<=zs.length->Sm zs.length->Gc prog 293 [.view 0 .span 0 n,.clo (.func 294) [] []] [(0,.row 175 .span zs)] 1 ⟨[],[(0,.row 175 .span (srt (zs.take n)++zs.drop n))],1⟩)
  {xs:List Span} (hl:Sm xs.length):Pure prog 257 [⟨.sl .span,xs⟩] [.sl .span] (goJ (srt (keep xs)) []):=by
 have hk:(keep xs).length<=xs.length:=fE _ _
 have hp:(pad xs.length (keep xs)).length=xs.length:=by simp[pad];omega
 refine Pure.of_closed (C:=codes) (S:=sigs) mixed func257 (by kernel_rfl) (ac (by kernel_rfl)) fun A hA=>hA.go (t31 xs) ⟨xs,c79 hl,keep xs,c78 hl,srt ((pad xs.length (keep xs)).take (keep xs).length)++(pad xs.length (keep xs)).drop (keep xs).length,h80 _ _ (by omega) (by rw[hp];exact hl),?_⟩
 have htake:(pad xs.length (keep xs)).take (keep xs).length=keep xs:=by simp[pad]
 rw[htake]
 refine hA.row 4 175 .span (by kernel_rfl) (s':=L31 (srt (keep xs)++(pad xs.length (keep xs)).drop (keep xs).length) (keep xs).length [] 0) (by kernel_rfl) ?_
 refine zM (n:=(keep xs).length) (by simp[hlen]) ?_ hA (keep xs).length 0 [] (by omega) (by simp) ?_
 ·have:(srt (keep xs)++(pad xs.length (keep xs)).drop (keep xs).length).length=xs.length:=by
   rw[al,hlen,aK,hp];omega
  rw[this];exact hl
 ·rw[bD,List.take_left' (hlen _)]
end Go.Proofs.Sp

namespace Go.Proofs.Sp
open Go.Proofs.Tryz
open Go Go.VL
abbrev Fit (n:Int):Prop := -9223372036854775808<=n/\n<9223372036854775808
end Go.Proofs.Sp

namespace Go.Proofs
open Go.Shelf
def Tryz.sortSp_ren:Go.Shelf.Ren:=⟨fun|6=>293|15=>310|14=>309|28=>324|29=>325|20=>316|21=>317|22=>318|23=>319|24=>320|25=>321|26=>322|27=>323|46=>327|47=>328|48=>329|49=>330|50=>331|57=>332|n=>n,fun|22=>184|24=>175|25=>317|3=>3|39=>240|0=>0|53=>337|55=>28|4=>4|46=>331|45=>330|50=>130|5=>5|9=>9|66=>339|70=>308|76=>344|77=>168|n=>n,fun|n=>n⟩
theorem Tryz.sortSp:Go.Proofs.SlLaysF0.n6 prog Tryz.sortSp_ren:={
 mixed:=by kernel_rfl
 f6:=⟨f293.name,by decide,func293.trans (congrArg some (by kernel_rfl))⟩
 f14:=⟨f309.name,by decide,func309.trans (congrArg some (by kernel_rfl))⟩
 f15:=func310.trans (congrArg some (by kernel_rfl))
 f20:=⟨f316.name,by decide,func316.trans (congrArg some (by kernel_rfl))⟩
 f21:=⟨f317.name,by decide,func317.trans (congrArg some (by kernel_rfl))⟩
 f22:=⟨f318.name,by decide,func318.trans (congrArg some (by kernel_rfl))⟩
 f23:=⟨f319.name,by decide,func319.trans (congrArg some (by kernel_rfl))⟩
 f24:=⟨f320.name,by decide,func320.trans (congrArg some (by kernel_rfl))⟩
 f25:=⟨f321.name,by decide,func321.trans (congrArg some (by kernel_rfl))⟩
 f26:=⟨f322.name,by decide,func322.trans (congrArg some (by kernel_rfl))⟩
 f27:=⟨f323.name,by decide,func323.trans (congrArg some (by kernel_rfl))⟩
 f28:=func324.trans (congrArg some (by kernel_rfl))
 f29:=func325.trans (congrArg some (by kernel_rfl))
 f46:=⟨f327.name,by decide,func327.trans (congrArg some (by kernel_rfl))⟩
 f47:=func328.trans (congrArg some (by kernel_rfl))
 f48:=func329.trans (congrArg some (by kernel_rfl))
 f49:=⟨f330.name,by decide,func330.trans (congrArg some (by kernel_rfl))⟩
 f50:=⟨f331.name,by decide,func331.trans (congrArg some (by kernel_rfl))⟩
 f57:=⟨f332.name,by decide,func332.trans (congrArg some (by kernel_rfl))⟩
 t0:=Tryz.underlying0
 a0:=Tryz.isAgg0
 z0:=Tryz.sizeOf0
 v0:=Tryz.zeroValue0
 t3:=Tryz.underlying3
 a3:=Tryz.isAgg3
 z3:=Tryz.sizeOf3
 v3:=Tryz.zeroValue3
 t4:=Tryz.underlying4
 a4:=Tryz.isAgg4
 z4:=Tryz.sizeOf4
 v4:=Tryz.zeroValue4
 t5:=Tryz.underlying5
 a5:=Tryz.isAgg5
 z5:=Tryz.sizeOf5
 v5:=Tryz.zeroValue5
 t9:=Tryz.underlying9
 a9:=Tryz.isAgg9
 z9:=Tryz.sizeOf9
 v9:=Tryz.zeroValue9
 t22:=Tryz.underlying184
 a22:=Tryz.isAgg184
 z22:=Tryz.sizeOf184
 v22:=Tryz.zeroValue184
 t25:=Tryz.underlying317
 a25:=Tryz.isAgg317
 z25:=Tryz.sizeOf317
 v25:=Tryz.zeroValue317
 t39:=Tryz.underlying240
 a39:=Tryz.isAgg240
 z39:=Tryz.sizeOf240
 v39:=Tryz.zeroValue240
 t45:=Tryz.underlying330
 a45:=Tryz.isAgg330
 z45:=Tryz.sizeOf330
 v45:=Tryz.zeroValue330
 t46:=Tryz.underlying331
 a46:=Tryz.isAgg331
 z46:=Tryz.sizeOf331
 v46:=Tryz.zeroValue331
 t50:=Tryz.underlying130
 a50:=Tryz.isAgg130
 z50:=Tryz.sizeOf130
 v50:=Tryz.zeroValue130
 t53:=Tryz.underlying337
 a53:=Tryz.isAgg337
 z53:=Tryz.sizeOf337
 v53:=Tryz.zeroValue337
 t55:=Tryz.underlying28
 a55:=Tryz.isAgg28
 z55:=Tryz.sizeOf28
 v55:=Tryz.zeroValue28
 t66:=Tryz.underlying339
 a66:=Tryz.isAgg339
 z66:=Tryz.sizeOf339
 v66:=Tryz.zeroValue339
 t70:=Tryz.underlying308
 a70:=Tryz.isAgg308
 z70:=Tryz.sizeOf308
 v70:=Tryz.zeroValue308
 t76:=Tryz.underlying344
 a76:=Tryz.isAgg344
 z76:=Tryz.sizeOf344
 v76:=Tryz.zeroValue344
 t77:=Tryz.underlying168
 a77:=Tryz.isAgg168
 z77:=Tryz.sizeOf168
 v77:=Tryz.zeroValue168 }
end Go.Proofs

namespace Go.Proofs.Sp
open Go.Proofs.Tryz
open Go Go.VL
abbrev qH (s:Span):Prop:=Fit s.lo/\Fit s.hi
structure Can (l:List Span):Prop where
 ne:∀ s∈l,s.lo<=s.hi
 ap:l.Pairwise fun a b=>a.hi+1<b.lo
def Den (l:List Span)(n:Int):Prop:=∃ s∈l,s.lo<=n/\n<=s.hi
theorem wo {n:Int}:Den [] n↔False:=⟨fun⟨_,h,_⟩=>(by cases h),False.elim⟩
theorem sR {s:Span}{l:List Span}{n:Int}:Den (s::l) n↔(s.lo<=n/\n<=s.hi)\/Den l n:=by
 simp only[Den,aD,exists_eq_or_imp]
theorem wq {l m:List Span}{n:Int}:Den (l++m) n↔Den l n\/Den m n:=by
 simp only[Den,aA,or_and_right,exists_or]
theorem wn {s:Span}{n:Int}:Den [s] n↔s.lo<=n/\n<=s.hi:=by rw[sR,wo,mM]
theorem Can.tail {a:Span}{l:List Span}(h:Can (a::l)):Can l:=⟨fun s hs=>h.ne s (.tail _ hs),(aP.1 h.ap).2⟩
theorem Can.head {a:Span}{l:List Span}(h:Can (a::l)){n:Int}(hn:Den l n):a.hi+1<n:=by
 obtain⟨s,hs,h1,_⟩:=hn
 have:=(aP.1 h.ap).1 s hs
 omega
theorem nd {s:Span}:emp s=false↔s.lo<=s.hi:=by simp[emp]
theorem JI {a b:Span}(ha:a.lo<=a.hi)(hb:b.lo<=b.hi):lv a b=over a b:=by
 rw[lv,nd.2 ha,nd.2 hb];rfl
theorem Jg (a b:Span):(over a b).lo=min a.lo b.lo:=by simp only[over];split<;>omega
theorem Jh (a b:Span):(over a b).hi=max a.hi b.hi:=by simp only[over];split<;>omega
theorem qo {a b:Span}(ha:qH a)(hb:qH b):follows a b=true↔b.lo<=a.hi+1:=by
 obtain⟨⟨h1,h2⟩,h3,h4⟩:=ha
 obtain⟨⟨g1,g2⟩,g3,g4⟩:=hb
 unfold follows
 by_cases h:b.lo<=a.hi
 ·simp[h];omega
 ·rw[dF h,cF,nG (by omega) (by omega),bV];omega
theorem sI:∀ (ys out:List Span),(∀ s∈ys,s.lo<=s.hi/\qH s)->ys.Pairwise (fun a b=>a.lo<=b.lo)->Can out->(∀ s∈out,qH s)->(∀ a∈out,∀ b∈ys,a.lo<=b.lo) ->
  Can (goJ ys out)/\(∀ s∈goJ ys out,qH s)/\∀ n,Den (goJ ys out) n↔Den out n\/Den ys n
 | [],out,_,_,hc,hf,_=>⟨hc,hf,fun n=>by rw[wo,mM];rfl⟩
 | y :: ys, out, hy, hs, hc, hf, hle => by
   obtain⟨hyne,hyf⟩:=hy y (.head _)
   have hy':∀ s∈ys,s.lo<=s.hi/\qH s:=fun s h=>hy s (.tail _ h)
   obtain⟨hs1,hs2⟩:=aP.1 hs
   have fresh:(∀ a∈out,a.hi+1<y.lo)->Can (goJ ys (out++[y]))/\(∀ s∈goJ ys (out++[y]),qH s)/\∀ n,Den (goJ ys (out++[y])) n↔Den out n\/Den (y::ys) n:=by
    intro ha
    obtain⟨h1,h2,h3⟩:=sI ys (out++[y]) hy' hs2
     ⟨fun s hm=>by rcases aA.1 hm with h|h;exact hc.ne s h;simp at h;subst h;exact hyne,dL.2 ⟨hc.ap,gQ _ _,fun a h b hb=>by simp at hb;subst hb;exact ha a h⟩⟩
     (fun s hm=>by rcases aA.1 hm with h|h;exact hf s h;simp at h;subst h;exact hyf)
     (fun a hm b hb=>by rcases aA.1 hm with h|h;exact hle a h b (.tail _ hb);simp at h;subst h;exact hs1 b hb)
    refine⟨h1,h2,fun n=>?_⟩
    rw[h3,wq,wn,sR,or_assoc]
   show Can (bif _ then _ else _)/\_
   rw[goJ]
   rcases List.eq_nil_or_concat out with rfl|⟨o,l,rfl⟩
   ·exact fresh (fun a h=>by cases h)
   ·rw[List.concat_eq_append]at *
    have e1:(o++[l]).length-1=o.length:=by simp
    have e2:(o++[l]).getD o.length Ty.span.dflt=l:=by simp[List.getD]
    have e3:∀ z,(o++[l]).set o.length z=o++[z]:=fun z=>by simp
    have lm:l∈o++[l]:=by simp
    have hlne:=hc.ne l lm
    have hlf:=hf l lm
    have hll:=hle l lm y (.head _)
    rw[e1,e2,dT (by simp:0<(o++[l]).length),cm]
    obtain⟨ha1,_,ha3⟩:=dL.1 hc.ap
    cases hfo:follows l y
    ·have hfo:¬ y.lo<=l.hi+1:=fun h=>by rw[(qo hlf hyf).2 h]at hfo;cases hfo
     rw[cF]
     refine fresh fun a ha=>?_
     rcases aA.1 ha with h|h
     ·have:=ha3 a h l (by simp);omega
     ·simp at h;subst h;omega
    ·have hfo:=(qo hlf hyf).1 hfo
     rw[cT,e3,JI hlne hyne]
     have k1:=Jg l y
     have k2:=Jh l y
     obtain⟨h1,h2,h3⟩:=sI ys (o++[over l y]) hy' hs2
      ⟨fun s hm=>by
       rcases aA.1 hm with h|h
       ·exact hc.ne s (by simp[h])
       ·simp at h;subst h;omega,dL.2 ⟨ha1,gQ _ _,fun a h b hb=>by
        simp at hb;subst hb
        have:=ha3 a h l (by simp);omega⟩⟩
      (fun s hm=>by
       rcases aA.1 hm with h|h
       ·exact hf s (by simp[h])
       ·simp at h;subst h
        unfold qH Fit at *;omega)
      (fun a hm b hb=>by
       rcases aA.1 hm with h|h
       ·exact hle a (by simp[h]) b (.tail _ hb)
       ·simp at h;subst h
        have:=hs1 b hb;omega)
     refine⟨h1,h2,fun n=>?_⟩
     rw[h3,wq,wn,sR,wq,wn,or_assoc,or_assoc,← or_assoc (a:=l.lo<=n/\n<=l.hi)]
     refine or_congr_right (or_congr_left ?_)
     rw[k1,k2];omega
theorem Hu (l:List Span)(n:Int):Den (keep l) n↔Den l n:=by
 constructor
 ·rintro⟨s,hs,h⟩
  exact⟨s,(gw.1 hs).1,h⟩
 ·rintro⟨s,hs,h⟩
  refine⟨s,gw.2 ⟨hs,?_⟩,h⟩
  rw[nd.2 (by omega)];rfl
structure Srt (srt:List Span->List Span):Prop where
 perm:∀ xs,(srt xs).Perm xs
 sorted:∀ xs,(srt xs).Pairwise fun a b=>a.lo<=b.lo
theorem Eb {srt:List Span->List Span}(hs:Srt srt){l:List Span}(hl:∀ s∈l,qH s) :
  Can (goJ (srt (keep l)) [])/\(∀ s∈goJ (srt (keep l)) [],qH s)/\∀ n,Den (goJ (srt (keep l)) []) n↔Den l n:=by
 have hm:∀ s,s∈srt (keep l)->s.lo<=s.hi/\qH s:=fun s h=>by
  have h:=(hs.perm _).mem_iff.1 h
  obtain⟨h1,h2⟩:=gw.1 h
  exact⟨nd.1 (by simpa using h2),hl s h1⟩
 obtain⟨h1,h2,h3⟩:=sI (srt (keep l)) [] hm (hs.sorted _) ⟨fun s hs=>(by cases hs),.nil⟩ (fun s hs=>by cases hs) (fun s hs=>by cases hs)
 refine⟨h1,h2,fun n=>?_⟩
 rw[h3,wo,false_or,← Hu l]
 constructor
 ·rintro⟨s,h,h'⟩;exact⟨s,(hs.perm _).mem_iff.1 h,h'⟩
 ·rintro⟨s,h,h'⟩;exact⟨s,(hs.perm _).mem_iff.2 h,h'⟩
end Go.Proofs.Sp
