/- Own work: part WC of the proof. -/
import Derived.Test.YteaiflgcgpaclaaGreatDoorWB
import Derived.RangeFuncRecord
set_option linter.unusedVariables false
set_option linter.unusedSimpArgs false
namespace Go.VL
variable {P:Program} {E:Entry} {w w':World} {K K':Nat->Prop} {m m':Nat->Option (Option Nat)} {free:Nat->Prop} {H:Heap} {ns:List Nat} {nm:Nat} {r:yD}
theorem Mem.enter (h:Mem E w K m H free)(hnd:ns.Nodup):Mem ⟨w,K,mOf m ns,ns.length⟩ w K (mOf m ns) (fO (dK ns) H ns 0) (λ l=>ns.length<=l):=by
 have hin:∀ {i x},mOf m ns i=some x->∃ l,ns[i]?=some l/\m l=some x:=λ hx=>aa.1 hx
 exact
 { os := rfl, tape := rfl, output := rfl, size := aI _, keep := fun _ _ _ => rfl, Kmono := fun _ h => h, Klt := h.Klt, Knew := fun _ h => .inl h, mold := fun _ _ => rfl
   mnew:=λ l b hl hm=>by
    obtain⟨l',hl',_⟩:=hin hm
    rw[aw hl]at hl';cases hl'
   mlt:=λ l b hm=>by obtain⟨l',_,hm'⟩:=hin hm;exact h.mlt l' b hm'
   mfree:=λ l hl=>by unfold mOf;rw[aw hl];rfl
   fnew:=λ l hl=>hl
   heap:=λ l blk hb=>by
    obtain⟨l',b',h1,_,h2,rfl⟩:=gn _ _ _ _ hb
    exact Fc (by simpa using h1) (h.heap l' b' h2)
   own:=λ l blk b hb hm=>by
    obtain⟨l',b',h1,_,h2,rfl⟩:=gn _ _ _ _ hb
    obtain⟨l2,hl2,hm2⟩:=hin hm
    rw[di,hl2]at h1;cases h1
    exact h.own _ b' b h2 hm2
   inj:=λ l l' blk blk' b hb hb' hm hm'=>by
    obtain⟨x,b1,h1,_,h2,rfl⟩:=gn _ _ _ _ hb
    obtain⟨y,b2,h3,_,h4,rfl⟩:=gn _ _ _ _ hb'
    obtain⟨x',hx',hmx⟩:=hin hm
    obtain⟨y',hy',hmy⟩:=hin hm'
    rw[di,hx']at h1;cases h1
    rw[di,hy']at h3;cases h3
    have e:=h.inj _ _ b1 b2 b h2 h4 hmx hmy
    rw[e]at hx'
    have hl:l<ns.length:=by
     rcases ax l ns.length with h|h
     ·exact h
     ·rw[aw h]at hx';cases hx'
    exact(List.getElem?_inj hl hnd).1 (hx'.trans hy'.symm)
   shape:=λ _ _ h=>h,frozen:=λ _ _=>rfl,gok:=h.gok }
theorem gN {wr:List (Nat×Option ABlk)}{l:Nat}:∀ {H:Heap},(∀ p∈wr,p.1≠l)->(H.app wr).get l=H.get l:=by
 induction wr with
 | nil=>intro H _;rfl
 | cons p wr ih =>
   intro H h
   show((H.put p.1 p.2).app wr).get l=_
   rw[ih (λ q hq=>h q (by simp[hq])),Heap.get_put H (λ e=>h p (by simp) e.symm)]
theorem Fh {wr:List (Nat×Option ABlk)}{l:Nat}{b:Option ABlk}:∀ {H:Heap},(wr.map (·.1)).Nodup->(l,b)∈wr->(H.app wr).get l=b:=by
 induction wr with
 | nil=>intro H _ h;cases h
 | cons p wr ih =>
   intro H hnd h
   have hnd':=hU.1 hnd
   show((H.put p.1 p.2).app wr).get l=b
   rcases aB.1 h with rfl|h
   ·have hno:∀ q∈wr,q.1≠l:=λ q hq e=>hnd'.1 (aZ.2 ⟨q,hq,e⟩)
    rw[gN hno,Heap.get_put_self]
   ·exact ih hnd'.2 h
def mX (m m':Nat->Option (Option Nat))(n0 nm n l:Nat):Option (Option Nat):=if nm<=l/\l<nm+(n-n0)then m' (n0+(l-nm))else m l
theorem Mem.back (h:Mem E w K m H free)(hfr:∀ k,k<8->free (nm+k))(hnd:ns.Nodup)(hall:∀ l∈ns,∃ b,H.get l=some b)
  (hrow:∀ i T t xs,i<ns.length->r.H.get i=some (.row T t xs)->∃ ys,(fO (dK ns) H ns 0).get i=some (.row T t ys)/\ys.length=xs.length)
  (hc:Mem ⟨w,K,mOf m ns,ns.length⟩ w' K' m' r.H (λ l=>r.n<=l)) (hn:r.n<=ns.length+8) :
  Mem E w' K' (mX m m' ns.length nm r.n) (H.app (wrG ns nm r)) (λ l=>free l/\¬ (nm<=l/\l<nm+8)) /\
  Ext w K m H w' K' (mX m m' ns.length nm r.n) (H.app (wrG ns nm r)) /\
  ∀ x v,Rel w' K' m' r.H x v->Rel w' K' (mX m m' ns.length nm r.n) (H.app (wrG ns nm r)) (x.ren (iH ns nm r.n)) v:=by
 have hn0:ns.length<=r.n:=hc.fnew r.n (aI _)
 have hin:∀ {i x},mOf m ns i=some x->∃ l,ns[i]?=some l/\m l=some x:=λ hx=>aa.1 hx
 have hmne:∀ l∈ns,m l≠none:=λ l hl e=>by
  obtain⟨b,hb⟩:=hall l hl
  have:=h.heap l b hb
  cases b with
  | box cells=>obtain⟨b,cs,T,h1,_⟩:=this;rw[e]at h1;cases h1
  | row T t xs=>rcases this with⟨h1,_⟩|⟨b,cs,h1,_⟩<;>rw[e]at h1<;>cases h1
  | mp tk tv kvs=>obtain⟨b,es,c,h1,_⟩:=this;rw[e]at h1;cases h1
 have hfresh:∀ l,nm<=l->l<nm+8->m l=none:=λ l h1 h2=>by
  have:=h.mfree _ (hfr (l-nm) (by omega))
  rwa [show nm+(l-nm)=l by omega]at this
 have hdis:∀ l∈ns,¬ (nm<=l/\l<nm+8):=λ l hl e=>hmne l hl (hfresh l e.1 e.2)
 have hkeys:((wrG ns nm r).map (·.1)).Nodup:=by
  have e1:(wrG ns nm r).map (·.1)=ns++(List.range (r.n-ns.length)).map (nm+·):=by
   unfold wrG
   rw[bT,iN,iN]
   congr 1
   refine dE λ i=>?_
   rw[aQ]
   by_cases hi:i<ns.length
   ·rw[ai (by simpa using hi),ai hi]
    simp[hi]
   ·rw[aw (by simpa using hi),aw (by omega)];rfl
  rw[e1]
  refine iM.2 ⟨hnd,?_,λ x hx y hy e=>?_⟩
  ·exact List.Pairwise.map _ (λ a b hab=>by omega) List.nodup_range
  ·obtain⟨j,hj,rfl⟩:=aZ.1 hy
   have:=cI.1 hj
   subst e
   exact hdis _ hx ⟨by omega,by omega⟩
 have hgo:∀ i l,ns[i]?=some l->(H.app (wrG ns nm r)).get l=(r.H.get i).map (ABlk.ren (iH ns nm r.n)):=λ i l hi=>by
  have hlt:i<ns.length:=by
   rcases ax i ns.length with h|h
   ·exact h
   ·rw[aw h]at hi;cases hi
  refine Fh hkeys ?_
  unfold wrG
  refine az.2 (.inl (aZ.2 ⟨i,cI.2 hlt,?_⟩))
  simp[List.getD,hi]
 have hgf:∀ j,j<r.n-ns.length->(H.app (wrG ns nm r)).get (nm+j)=(r.H.get (ns.length+j)).map (ABlk.ren (iH ns nm r.n)):=λ j hj=>by
  refine Fh hkeys ?_
  unfold wrG
  exact az.2 (.inr (aZ.2 ⟨j,cI.2 hj,rfl⟩))
 have hgn:∀ l,l ∉ ns->¬ (nm<=l/\l<nm+(r.n-ns.length))->(H.app (wrG ns nm r)).get l=H.get l:=λ l hl hl2=>by
  refine gN λ p hp e=>?_
  unfold wrG at hp
  rcases az.1 hp with hp|hp
  ·obtain⟨i,hi,rfl⟩:=aZ.1 hp
   have hi:=cI.1 hi
   refine hl ?_
   rw[<-e]
   simp only[List.getD,ai hi,gQ]
   exact aN hi
  ·obtain⟨j,hj,rfl⟩:=aZ.1 hp
   have hj:=cI.1 hj
   exact hl2 ⟨by simp only at e;omega,by simp only at e;omega⟩
 have hmo:∀ i l,ns[i]?=some l->m' i=m l:=λ i l hi=>by
  have hlt:i<ns.length:=by
   rcases ax i ns.length with h|h
   ·exact h
   ·rw[aw h]at hi;cases hi
  have:=hc.mold i hlt
  rw[this]
  show mOf m ns i=m l
  unfold mOf;rw[hi];rfl
 have hm2o:∀ l,¬ (nm<=l/\l<nm+(r.n-ns.length))->mX m m' ns.length nm r.n l=m l:=λ l hl=>aF hl
 have hm2f:∀ j,j<r.n-ns.length->mX m m' ns.length nm r.n (nm+j)=m' (ns.length+j):=λ j hj=>by
  unfold mX
  rw[aE ⟨by omega,by omega⟩]
  congr 1;omega
 have hsub:∀ l,nm<=l/\l<nm+(r.n-ns.length)->nm<=l/\l<nm+8:=λ l hl=>⟨hl.1,by omega⟩
 have hbk:∀ j i,iH ns nm r.n j=some i->(ns[j]?=some i/\j<ns.length)\/(ns.length<=j/\j<r.n/\i=nm+(j-ns.length)):=by
  intro j i hj
  unfold iH at hj
  cases h1:Nat.blt j ns.length
  ·rw[h1]at hj
   simp only[cf]at hj
   have h1':¬ j<ns.length:=λ e=>by
    have:Nat.blt j ns.length=true:=gb e
    rw[this]at h1;cases h1
   cases h2:Nat.blt j r.n
   ·rw[h2]at hj;cases hj
   ·rw[h2]at hj
    have h2':j<r.n:=aV h2
    exact .inr ⟨by omega,h2',(aJ hj).symm⟩
  ·rw[h1]at hj
   exact .inl ⟨hj,aV h1⟩
 have hrel:∀ x v,Rel w' K' m' r.H x v->Rel w' K' (mX m m' ns.length nm r.n) (H.app (wrG ns nm r)) (x.ren (iH ns nm r.n)) v:=by
  intro x v hx
  refine zw (λ j i y hj hy=>?_) (λ j i T t xs hj hx=>?_) hx
  ·rcases hbk j i hj with⟨h1,h2⟩|⟨h1,h2,rfl⟩
   ·rw[hm2o i (λ e=>hdis i (bu h1) (hsub i e)),<-hmo j i h1];exact hy
   ·rw[hm2f (j-ns.length) (by omega),show ns.length+(j-ns.length)=j by omega];exact hy
  ·have hb:((r.H.get j).map (ABlk.ren (iH ns nm r.n)))=some (.row T t xs):=by
    rcases hbk j i hj with⟨h1,h2⟩|⟨h1,h2,rfl⟩
    ·rw[<-hgo j i h1];exact hx
    ·have:=hgf (j-ns.length) (by omega)
     rw[show ns.length+(j-ns.length)=j by omega]at this
     rw[<-this];exact hx
   obtain⟨b,hb1,hb2⟩:=ac.1 hb
   cases b with
   | box cells=>cases hb2
   | row T' t' xs'=>cases hb2;exact hb1
   | mp=>cases hb2
 have hblk:∀ j i b,iH ns nm r.n j=some i->mX m m' ns.length nm r.n i=m' j->BlkRel w' K' m' r.H j b->BlkRel w' K' (mX m m' ns.length nm r.n) (H.app (wrG ns nm r)) i (b.ren (iH ns nm r.n)):=by
  intro j i b hj hm hb
  cases b with
  | box cells =>
    obtain⟨b,cs,T,h1,h2,h3,h4⟩:=hb
    refine⟨b,cs,T,by rw[hm];exact h1,h2,by rw[eu];exact h3,λ q x v hx hv=>?_⟩
    rw[gY]at hx
    obtain⟨y,hy,rfl⟩:=ac.1 hx
    exact hrel _ _ (h4 q y v hy hv)
  | row T t xs =>
    rcases hb with⟨h1,h2⟩|⟨b,cs,h1,h2,h3,h4⟩
    ·exact .inl ⟨by rw[hm];exact h1,h2⟩
    ·exact .inr ⟨b,cs,by rw[hm];exact h1,h2,h3,h4⟩
  | mp tk tv kvs =>
    obtain⟨b,es,c,h1,h2,h3,h4⟩:=hb
    exact⟨b,es,c,by rw[hm];exact h1,h2,h3,h4⟩
 have hnsb:∀ i b,mOf m ns i=some (some b)->∃ l blk,ns[i]?=some l/\l∈ns/\m l=some (some b)/\H.get l=some blk:=λ i b hi=>by
  obtain⟨l,hl,hm⟩:=hin hi
  obtain⟨blk,hb⟩:=hall l (bu hl)
  exact⟨l,blk,hl,bu hl,hm,hb⟩
 have hkeepK:∀ b,K b->w'.heap[b]?=w.heap[b]?:=λ b hb=>
  hc.keep b (h.Klt b hb) λ i _ hi=>by
   obtain⟨l,blk,_,_,hm,hg⟩:=hnsb i b hi
   exact h.own l blk b hg hm hb
 have hkeepB:∀ l blk b,l ∉ ns->H.get l=some blk->m l=some (some b)->w'.heap[b]?=w.heap[b]?:=λ l blk b hl hg hm=>
  hc.keep b (h.mlt l b hm) λ i _ hi=>by
   obtain⟨l',blk',_,hl',hm',hg'⟩:=hnsb i b hi
   exact hl (by rw[h.inj l l' blk blk' b hg hg' hm hm'];exact hl')
 have hcase:∀ l blk,(H.app (wrG ns nm r)).get l=some blk->(∃ i b,ns[i]?=some l/\i<ns.length/\r.H.get i=some b/\blk=b.ren (iH ns nm r.n)) \/
   (∃ j b,j<r.n-ns.length/\l=nm+j/\r.H.get (ns.length+j)=some b/\blk=b.ren (iH ns nm r.n))\/(l ∉ ns/\¬ (nm<=l/\l<nm+(r.n-ns.length))/\H.get l=some blk):=by
  intro l blk hb
  by_cases h1:l∈ns
  ·obtain⟨i,hi,rfl⟩:=dJ h1
   have hi':ns[i]?=some ns[i]:=ai hi
   rw[hgo i _ hi']at hb
   obtain⟨b,hb1,hb2⟩:=ac.1 hb
   exact .inl ⟨i,b,hi',hi,hb1,hb2.symm⟩
  ·by_cases h2:nm<=l/\l<nm+(r.n-ns.length)
   ·have e:l=nm+(l-nm):=by omega
    rw[e,hgf (l-nm) (by omega)]at hb
    obtain⟨b,hb1,hb2⟩:=ac.1 hb
    exact .inr (.inl ⟨l-nm,b,by omega,e,hb1,hb2.symm⟩)
   ·rw[hgn l h1 h2]at hb
    exact .inr (.inr ⟨h1,h2,hb⟩)
 have hbo:∀ i l,ns[i]?=some l->i<ns.length->iH ns nm r.n i=some l:=λ i l hi hlt=>by
  unfold iH
  have:Nat.blt i ns.length=true:=gb hlt
  rw[this];exact hi
 have hbf:∀ j,j<r.n-ns.length->iH ns nm r.n (ns.length+j)=some (nm+j):=λ j hj=>by
  unfold iH
  have e1:Nat.blt (ns.length+j) ns.length=false:=by
   cases hq:Nat.blt (ns.length+j) ns.length
   ·rfl
   ·have:=aV hq;omega
  have e2:Nat.blt (ns.length+j) r.n=true:=gb (by omega)
  rw[e1,e2]
  simp
 have hext:Ext w K m H w' K' (mX m m' ns.length nm r.n) (H.app (wrG ns nm r)):=by
  refine⟨hc.Kmono,hkeepK,λ l x hx=>?_,hc.shape,λ l T t xs hl hx=>?_⟩
  ·rw[hm2o l (λ e=>by have:=hfresh l (hsub l e).1 (hsub l e).2;rw[this]at hx;cases hx)];exact hx
  ·rcases hcase l _ hx with⟨i,b,hi,hlt,hb,e⟩|⟨j,b,hj,rfl,hb,e⟩|⟨_,_,hb⟩
   ·cases b with
    | box cells=>cases e
    | row T' t' xs' =>
      cases e
      obtain⟨ys,hy,hlen⟩:=hrow i T t xs hlt hb
      obtain⟨l',b',h1,_,h2,h3⟩:=gn _ _ _ _ hy
      rw[di,hi]at h1
      cases h1
      cases b' with
      | box cells=>cases h3
      | row T2 t2 ys2=>cases h3;exact⟨ys,h2,hlen⟩
      | mp=>cases h3
    | mp=>cases e
   ·exact absurd (hfresh _ (by omega) (by omega)) hl
   ·exact⟨xs,hb,rfl⟩
 refine⟨?_,hext,hrel⟩
 have hmk:∀ i l,ns[i]?=some l->mX m m' ns.length nm r.n l=m' i:=λ i l hi=>by
  rw[hm2o l (λ e=>hdis l (bu hi) (hsub l e)),hmo i l hi]
 have hKnot:∀ l blk b,l ∉ ns->H.get l=some blk->m l=some (some b)->¬ K' b:=λ l blk b hl hg hm hk=>by
  rcases hc.Knew b hk with h1|h1|⟨i,_,hi⟩
  ·exact h.own l blk b hg hm h1
  ·have:=h.mlt l b hm
   have h1:w.heap.size<=b:=h1
   omega
  ·obtain⟨l',blk',_,hl',hm',hg'⟩:=hnsb i b hi
   exact hl (by rw[h.inj l l' blk blk' b hg hg' hm hm'];exact hl')
 have hcross:∀ j blk1 b l' blk',r.H.get j=some blk1->m' j=some (some b)->l' ∉ ns->H.get l'=some blk'->m l'=some (some b)->False:=by
  intro j blk1 b l' blk' hj hmj hl' hg' hm'
  have hlt:=h.mlt l' b hm'
  have:∃ i,i<ns.length/\mOf m ns i=some (some b):=by
   rcases ax j ns.length with h1|h1
   ·refine⟨j,h1,?_⟩
    have:=hc.mold j h1
    rw[hmj]at this;exact this.symm
   ·rcases hc.mnew j b h1 hmj with h2|⟨i,hi,hmi⟩
    ·have h2:w.heap.size<=b:=h2
     omega
    ·exact⟨i,hi,hmi⟩
  obtain⟨i,_,hi⟩:=this
  obtain⟨l,blk,_,hl,hm,hg⟩:=hnsb i b hi
  exact hl' (by rw[h.inj l' l blk' blk b hg' hg hm' hm];exact hl)
 exact
 { os := hc.os.trans h.os, tape := hc.tape.trans h.tape, output := hc.output.trans h.output, size := bj h.size hc.size
   keep:=λ b hb hb2=>by
    rw[<-h.keep b hb hb2]
    refine hc.keep b (cG hb h.size) λ i _ hi=>?_
    obtain⟨l,blk,_,_,hm,_⟩:=hnsb i b hi
    rcases ax l E.n with h1|h1
    ·exact hb2 l h1 (by rw[<-h.mold l h1];exact hm)
    ·rcases h.mnew l b h1 hm with h2|⟨k,hk,hmk⟩
     ·omega
     ·exact hb2 k hk hmk
   Kmono:=λ b hb=>hc.Kmono b (h.Kmono b hb)
   Klt:=hc.Klt
   Knew:=λ b hb=>by
    rcases hc.Knew b hb with h1|h1|⟨i,_,hi⟩
    ·exact h.Knew b h1
    ·exact .inr (.inl (bj h.size h1))
    ·obtain⟨l,blk,_,_,hm,_⟩:=hnsb i b hi
     rcases ax l E.n with h1|h1
     ·exact .inr (.inr ⟨l,h1,by rw[<-h.mold l h1];exact hm⟩)
     ·rcases h.mnew l b h1 hm with h2|h2
      ·exact .inr (.inl h2)
      ·exact .inr (.inr h2)
   mold:=λ l hl=>by
    rw[hm2o l (λ e=>?_)]
    ·exact h.mold l hl
    ·have:=h.fnew _ (hfr (l-nm) (by omega))
     omega
   mnew:=λ l b hl hm=>by
    by_cases hq:nm<=l/\l<nm+(r.n-ns.length)
    ·have e:l=nm+(l-nm):=by omega
     rw[e,hm2f (l-nm) (by omega)]at hm
     rcases hc.mnew _ b (by show ns.length<=_;omega) hm with h1|⟨i,_,hi⟩
     ·exact .inl (bj h.size h1)
     ·obtain⟨l',blk,_,_,hm',_⟩:=hnsb i b hi
      rcases ax l' E.n with h1|h1
      ·exact .inr ⟨l',h1,by rw[<-h.mold l' h1];exact hm'⟩
      ·exact h.mnew l' b h1 hm'
    ·rw[hm2o l hq]at hm;exact h.mnew l b hl hm
   mlt:=λ l b hm=>by
    by_cases hq:nm<=l/\l<nm+(r.n-ns.length)
    ·have e:l=nm+(l-nm):=by omega
     rw[e,hm2f (l-nm) (by omega)]at hm
     exact hc.mlt _ b hm
    ·rw[hm2o l hq]at hm;exact cG (h.mlt l b hm) hc.size
   mfree:=λ l hl=>by
    rw[hm2o l (λ e=>hl.2 (hsub l e))];exact h.mfree l hl.1
   fnew:=λ l hl=>h.fnew l hl.1
   heap:=λ l blk hb=>by
    rcases hcase l _ hb with⟨i,b,hi,hlt,hbb,rfl⟩|⟨j,b,hj,rfl,hbb,rfl⟩|⟨hl,hl2,hbb⟩
    ·exact hblk i l b (hbo i l hi hlt) (hmk i l hi) (hc.heap i b hbb)
    ·exact hblk _ _ b (hbf j hj) (hm2f j hj) (hc.heap _ b hbb)
    ·exact BlkRel.ext hext (h.heap l blk hbb) (λ b hm=>hkeepB l blk b hl hbb hm)
   own:=λ l blk b hb hm=>by
    rcases hcase l _ hb with⟨i,b1,hi,hlt,hbb,rfl⟩|⟨j,b1,hj,rfl,hbb,rfl⟩|⟨hl,hl2,hbb⟩
    ·rw[hmk i l hi]at hm;exact hc.own i b1 b hbb hm
    ·rw[hm2f j hj]at hm;exact hc.own _ b1 b hbb hm
    ·rw[hm2o l hl2]at hm;exact hKnot l blk b hl hbb hm
   inj:=λ l l' blk blk' b hb hb' hm hm'=>by
    have key:∀ l blk,(H.app (wrG ns nm r)).get l=some blk->mX m m' ns.length nm r.n l=some (some b)->(∃ j b1,iH ns nm r.n j=some l/\r.H.get j=some b1/\m' j=some (some b))\/(l ∉ ns/\H.get l=some blk/\m l=some (some b)):=by
     intro l blk hb hm
     rcases hcase l _ hb with⟨i,b1,hi,hlt,hbb,rfl⟩|⟨j,b1,hj,rfl,hbb,rfl⟩|⟨hl,hl2,hbb⟩
     ·rw[hmk i l hi]at hm;exact .inl ⟨i,b1,hbo i l hi hlt,hbb,hm⟩
     ·rw[hm2f j hj]at hm;exact .inl ⟨_,b1,hbf j hj,hbb,hm⟩
     ·rw[hm2o l hl2]at hm;exact .inr ⟨hl,hbb,hm⟩
    rcases key l blk hb hm with⟨j,b1,hj,hb1,hm1⟩|⟨hl,hb1,hm1⟩<;>rcases key l' blk' hb' hm' with⟨j',b2,hj',hb2,hm2⟩|⟨hl',hb2,hm2⟩
    ·have e:=hc.inj j j' b1 b2 b hb1 hb2 hm1 hm2
     rw[e,hj']at hj
     exact(aJ hj).symm
    ·exact(hcross j b1 b l' blk' hb1 hm1 hl' hb2 hm2).elim
    ·exact(hcross j' b2 b l blk hb2 hm2 hl hb1 hm1).elim
    ·exact h.inj l l' blk blk' b hb1 hb2 hm1 hm2
   shape:=λ b s hs=>hc.shape b s (h.shape b s hs)
   frozen:=λ b hb=>(hc.frozen b (h.Kmono b hb)).trans (h.frozen b hb),gok:=hc.gok }
end Go.VL
namespace Go.VL
variable {P:Program} {C:cd} {S:fw} {E:Entry} {w:World} {K:Nat->Prop} {m:Nat->Option (Option Nat)} {free:Nat->Prop} {H:Heap}
 {F:Fm} {f:FuncId} {R:Ending->World->Prop} {a:Act} {k:List Item} {s:AS} {α:Type}
def kM (todo:List Item)(next:Nat):Nat->Prop:=match todo with
 | .inRegion ops rest::_=>λ l=>next+8*ops.size<=l\/∃ i,i∈rest/\i<ops.size/\next+8*i<=l/\l<next+8*i+8
 | _=>λ l=>next<=l
def noReg (k:List Item):Prop:=∀ ops l,Item.inRegion ops l ∉ k
def nA:List Item->Prop
 | .inRegion ops rest::k=>(rest.Nodup/\∀ i∈rest,i<ops.size)/\noReg k
 | k=>noReg k
theorem jh {k:List Item}(h:noReg k):nA k:=by
 unfold nA
 split
 ·exact absurd kV (h _ _)
 ·exact h
theorem cg {k:List Item}(h:noReg k)(next l:Nat):kM k next l↔next<=l:=by
 unfold kM
 split
 ·exact absurd kV (h _ _)
 ·exact Iff.rfl
theorem noReg.tail {x:Item}{k:List Item}(h:noReg (x::k)):noReg k:=λ ops l hm=>h ops l (by simp[hm])
theorem noReg.cons {x:Item}{k:List Item}(h:noReg k)(hx:∀ ops l,x≠.inRegion ops l):noReg (x::k):=by
 intro ops l hm
 rcases aB.1 hm with hm|hm
 ·exact hx ops l hm.symm
 ·exact h ops l hm
theorem oZ {id:Nat}:∀ {k k':List Item},exitTo id k=some k'->noReg k->noReg k'
 | [],k',h,_=>by simp[exitTo]at h
 | x :: k, k', h, hn => by
   cases x with
   | inBlock id' =>
     simp only[exitTo]at h
     split at h
     ·simp only[ag]at h;subst h;exact hn.tail
     ·exact oZ h hn.tail
   | _=>exact oZ (k:=k) (by simpa[exitTo]using h) hn.tail
def ASat (P:Program)(F:Fm)(E:Entry)(todo:List Item)(s:AS):Prop:=
 nA todo->∀ a w K m,St E s a w K m (kM todo s.next)->Runs P F a w todo
def Sat (P:Program)(A:List Item->AS->Prop)(R0:α->Prop):Out α->Prop
 | .fail=>False
 | .ret x=>R0 x
 | .zF p k=>p/\Sat P A R0 k
 | .zG f args ts k=>∃ x,yJ P f args ts x/\Sat P A R0 (k x)
 | .ask p k=>∀ b,p b->Sat P A R0 (k b)
 | .zH f as H0 n0 _ out k=>∃ x,Gc P f as H0 n0 (out x)/\Sat P A R0 (k x)
 | .callX f as x k=>LN P f as x/\Sat P A R0 k
 | .stop todo s=>A todo s
def LM (P:Program)(fn:Func)(E:Entry)(fin:Fin α)(R0:α->Prop)(F:Fm):Prop:=
 ∀ s a w K m free vs x p todo,St E s a w K m free->uL P s fn.results.toList=some vs->fin vs s.H=some (x,p)->p->R0 x->(todo=[]\/∃ k,todo=.code .ret::k)->Runs P F a w todo
def wK (P:Program)(fn:Func)(E:Entry)(fin:Fin α)(R0:α->Prop)(R:Ending->World->Prop):Prop:=
 ∀ s a w K m free vs x p,St E s a w K m free->uL P s fn.results.toList=some vs->fin vs s.H=some (x,p)->p->R0 x->∃ v,(results fn a.tmps).run P w=.ok v w/\R (.returned v) w
theorem It {a:AV}{te:Ty}{s:Sls te}(hs:a.sls H te=some s)(h2:∀ l t off len,a≠.view l t off len):s.zF:=by
 cases a with
 | d x=>simp only[AV.sls,ac]at hs;obtain⟨_,_,rfl⟩:=hs;trivial
 | fl t xs =>
   simp only[AV.sls]at hs
   split at hs
   ·cases hs;trivial
   ·cases hs
 | own l t =>
   simp only[AV.sls]at hs
   split at hs
   ·split at hs
    ·split at hs
     ·cases hs;trivial
     ·cases hs
    ·cases hs
   ·cases hs
 | view l t off n=>exact absurd rfl (h2 l t off n)
 | _=>simp[AV.sls]at hs
theorem FJ {ρ:Operand->AV}{o:Oper}{nm:Nat}{e:Eff}(ht:oI ρ o=true)(he:opE P C ρ H nm o=some e):e.zF:=by
 have fin:∀ {v:AV} {e:Eff},eff v=some e->e.zF:=λ h=>by simp only[eff,ag]at h;subst h;trivial
 cases ho:o.op with
 | move x=>simp only[opE,ho]at he;exact fin he
 | assign x=>simp only[opE,ho]at he;exact fin he
 | pick c a b =>
   simp only[opE,ho,aa]at he
   obtain⟨cb,_,he⟩:=he
   split at he
   ·exact fin he
   ·cases cb
    ·cases he
    ·exact fin he
   ·cases cb
    ·exact fin he
    ·cases he
   ·cases he
 | alloc t=>simp only[opE,ho,ac]at he;obtain⟨_,_,rfl⟩:=he;trivial
 | box t x =>
   simp only[opE,ho]at he
   cases hk:(ρ x).known
   ·simp[hk]at he
   ·simp only[hk,aG,ag]at he;subst he;trivial
 | build t ps =>
   simp only[opE,ho]at he
   split at he
   ·rename_i fs _
    cases hk:(fs.toList.all λ f=>(fy P f.type).isSome)
    ·simp[hk]at he
    ·simp only[hk,aG,aa]at he;obtain⟨_,_,_,_,he⟩:=he;exact fin he
   ·simp only[aa]at he;obtain⟨_,_,_,_,_,_,he⟩:=he;exact fin he
   ·cases he
 | nilCheck x =>
   simp only[opE,ho]at he
   split at he<;>first|exact fin he|cases he
 | unOp op t x =>
   simp only[opE,ho]at he
   split at he
   ·simp only[aa]at he;obtain⟨_,_,he⟩:=he;exact fin he
   ·cases he
 | convert s t x =>
   simp only[oI,ho]at ht
   simp only[opE,ho]at he
   split at he
   ·exact fin he
   ·exact fin he
   ·exact fin he
   ·simp only[aa]at he;obtain⟨_,_,he⟩:=he;exact fin he
   ·split at he
    ·rename_i _ _ _ el _ _ _ _
     cases hsz:(fy P el==some 1)
     ·rw[hsz]at he;cases he
     rw[hsz]at he
     simp only[aG,ac]at he
     obtain⟨q,hq,rfl⟩:=he
     exact It hq (λ l t off n e=>by rw[e]at ht;cases ht)
    ·cases he
   ·cases he
 | makeFunc fn fs cs=>simp only[opE,ho]at he;exact fin he
 | fieldAddr t x f =>
   simp only[opE,ho,aa]at he
   obtain⟨fd,_,he⟩:=he
   cases hk:Ae P fd.type
   ·simp[hk]at he
   ·simp only[hk,aG]at he
    split at he<;>first|exact fin he|cases he
 | field t x f =>
   simp only[opE,ho,aa]at he
   obtain⟨fd,_,he⟩:=he
   split at he
   ·simp only[aa]at he;obtain⟨_,_,he⟩:=he;exact fin he
   ·cases he
 | extract x i =>
   simp only[opE,ho]at he
   split at he
   ·simp only[aa]at he;obtain⟨_,_,he⟩:=he;exact fin he
   ·cases he
 | load t a =>
   simp only[oI,ho]at ht
   simp only[opE,ho]at he
   split at ht
   ·rename_i ha
    rw[ha]at he
    simp only at he
    split at he
    ·simp only[ac]at he;obtain⟨_,_,rfl⟩:=he;trivial
    ·cases he
   ·rename_i ha
    rw[ha]at he
    simp only[aa]at he;obtain⟨_,_,he⟩:=he;exact fin he
   ·cases ht
 | store t a x =>
   simp only[oI,ho]at ht
   simp only[opE,ho]at he
   split at ht
   ·rename_i l f ha
    rw[ha]at he
    cases hs:fy P t with
    | none=>rw[hs]at he;simp at he
    | some n =>
      rw[hs]at he
      simp only at he
      split at he
      ·rename_i cells _
       cases hk:((ρ x).cells.length==n&&Nat.ble (f+n) cells.length&&(ρ x).cells.all AV.one)
       ·simp[hk]at he
       ·simp only[hk,aG,ag]at he;subst he;trivial
      ·cases he
   ·rename_i ha
    rw[ha]at he
    cases hs:fy P t<;>(rw[hs]at he;simp at he)
   ·cases ht
 | binOp op t x y yt =>
   simp only[oI,ho]at ht
   simp only[opE,ho]at he
   split at he
   ·rename_i xs ys _ _
    cases hk:vb P t xs
    ·simp[hk]at he
    ·simp only[hk,aG]at he
     split at he
     ·simp only[aa]at he;obtain⟨_,_,he⟩:=he;exact fin he
     ·simp only[aa]at he;obtain⟨_,_,he⟩:=he;exact fin he
     ·cases he
   ·cases hp:xo P t (ρ x) (ρ y)
    case true=>
     rw[hp]at he
     simp only[aG]at he
     split at he<;>first|exact fin he|cases he
    rw[hp]at he
    simp only[cf]at he
    unfold NL at he
    split at he
    ·split at he<;>first|exact fin he|(simp only[aa]at he;obtain⟨_,_,he⟩:=he;exact fin he)
    ·split at he
     ·split at he
      ·cases ht
      ·cases ht
      ·cases ht
      ·cases ht
      ·simp only[aa]at he;obtain⟨_,_,he⟩:=he;exact fin he
     ·split at he
      ·simp only[aa]at he;obtain⟨_,_,he⟩:=he;exact fin he
      ·simp only[aa]at he;obtain⟨_,_,he⟩:=he;exact fin he
      ·simp only[aa]at he;obtain⟨_,_,he⟩:=he;exact fin he
      ·cases he
     ·cases he
 | call c =>
   obtain⟨callee,args,ts⟩:=c
   cases callee with
   | builtin b =>
     cases b with
     | min=>simp only[opE,ho,aa]at he;obtain⟨_,_,he⟩:=he;exact fin he
     | max=>simp only[opE,ho,aa]at he;obtain⟨_,_,he⟩:=he;exact fin he
     | len =>
       simp only[opE,ho]at he
       split at he
       ·split at he
        ·split at he
         ·exact fin he
         ·cases he
        ·split at he
         ·simp only[ac,Prod.exists]at he
          obtain⟨n,p,r,hl,rfl⟩:=he
          unfold AV.len? at hl
          split at hl<;>first|(simp only[ag,bB]at hl;obtain⟨_,rfl,_⟩:=hl;trivial)|(split at hl<;>first|(split at hl<;>first|(simp only[ag,bB]at hl;obtain⟨_,rfl,_⟩:=hl;trivial)|cases hl)|cases hl)|cases hl
         ·cases he
       ·cases he
     | _=>simp[oI,ho]at ht
   | _=>simp[oI,ho]at ht
 | makeMap t r =>
   cases r with
   | none=>simp only[opE,ho,tw,ac]at he;obtain⟨_,_,rfl⟩:=he;trivial
   | some r=>simp[opE,ho]at he
 | lookup t x ix ok =>
   simp only[opE,ho,wa,aa]at he
   obtain⟨_,_,he⟩:=he
   split at he
   ·split at he
    ·split at he
     ·cases he;trivial
     ·cases he
    ·cases he
   ·cases he
 | _=>simp[oI,ho]at ht
inductive OpOK (P:Program) (C:cd) (S:fw) (ρ:Operand->AV) (H:Heap) (nm:Nat) (o:Oper):Ef->Prop
 | op (e:Eff) (hc:kP ρ o=none) (he:opE P C ρ H nm o=some e) (hn:e.zF):OpOK P C S ρ H nm o ⟨e.v,e.rd,e.wr⟩
 | call (g:FuncId) (as:List AV) (ps ts:List Ty) (xs:List Arg) (p:Prop) (fz:List Nat) (x:bc ts) (hcall:kP ρ o=some (g,as)) (hsig:S g=some (.pure ps ts)) (hent:gh P g=true)
  (hargs:kw H ps as=some (xs,p,fz)) (hp:p) (hpure:yJ P g xs ts x):OpOK P C S ρ H nm o ⟨lu ts x,fz,bif ts.all Ty.bare then[]else fz.map λ l=>(l,none)⟩
 | zH (g:FuncId) (as:List AV) (ts:List Ty) (out:List AV->Heap->bc ts->yD) (x:bc ts) (ns:List Nat) (r:yD) (hcall:kP ρ o=some (g,as)) (hsig:True) (hent:gh P g=true)
  (hns:bf H as=ns) (hnd:jR ns=true) (hall:ns.all (λ l=>(H.get l).isSome)=true) (hr:out (gI (dK ns) as) (fO (dK ns) H ns 0) x=r) (hn:Nat.ble r.n (ns.length+8)=true)
  (hc:Gc P g (gI (dK ns) as) (fO (dK ns) H ns 0) ns.length r):OpOK P C S ρ H nm o (efG ns nm r)
 | ext (g:FuncId) (as:List AV) (out:List AV->Option AV) (x:AV) (hcall:kP ρ o=some (g,as)) (hsig:S g=some (.ext out)) (hout:out as=some x) (hx:LN P g as x):OpOK P C S ρ H nm o ⟨x,[],[]⟩
theorem sS {A:List Item->AS->Prop}{R0:α->Prop}{k:Int}{g:Nat->Out α}:∀ {n:Nat},Sat P A R0 (sN k n g)->∃ i,i<n/\k=(i:Int)/\Sat P A R0 (g i)
 | 0,h=>by simp[sN,Sat]at h
 | n + 1, h => by
   unfold sN at h
   cases hk:k==(n:Int)
   ·rw[hk]at h
    obtain⟨i,hi,he,h⟩:=sS (n:=n) h
    exact⟨i,by omega,he,h⟩
   ·rw[hk]at h
    exact⟨n,by omega,by simpa using hk,h⟩
theorem NO {ρ:Operand->AV}{o:Oper}{nm n:Nat}{k:Int}{i:Nat}{e:Eff}(harr:Lr P ρ o=some (n,k))(hk:k=(i:Int))(he:Ff P ρ o i=some e)(hi:i<n) :
  opE P C ρ H nm o=some e/\e.zF:=by
 have need1:∀ {x:AV} {t:TypeId} {el:TypeId},P.underlying t=some (.array n el)->wH P x t (i:Int)=some e->e.zF:=λ {x t el} hu h=>by
  unfold wH io at h
  rw[hu]at h
  simp only[aA]at h
  obtain⟨sz,_,h⟩:=aa.1 h
  split at h
  ·simp only[ag]at h;subst h
   exact⟨by omega,by omega⟩
  ·split at h
   ·rename_i q _
    cases hc:(sz==1&&q.2.length==n)
    ·rw[hc]at h;cases h
    ·rw[hc]at h;cases h
     exact⟨by omega,by omega⟩
   ·simp only[ag]at h;subst h
    exact⟨by omega,by omega⟩
  ·cases h
 have need2:∀ {x:AV} {t:TypeId} {el:TypeId},P.underlying t=some (.array n el)->wG P x t (i:Int)=some e->e.zF:=λ {x t el} hu h=>by
  unfold wG io at h
  rw[hu]at h
  simp only[aA]at h
  obtain⟨sz,_,h⟩:=aa.1 h
  split at h
  ·simp only[ac]at h
   obtain⟨v,_,rfl⟩:=h
   exact⟨by omega,by omega⟩
  ·cases h
 unfold Lr at harr
 split at harr
 ·rename_i t x ix ho
  cases htb:(ρ x).tabB
  case true=>rw[htb]at harr;cases harr
  rw[htb,cf]at harr
  obtain⟨el,hu,_⟩:=mQ harr
  simp only[Ff,ho]at he
  refine⟨?_,need1 hu he⟩
  simp only[opE,ho,harr,hk]
  exact he
 ·rename_i t x ix ho
  obtain⟨el,hu,_⟩:=mQ harr
  simp only[Ff,ho]at he
  refine⟨?_,need2 hu he⟩
  simp only[opE,ho,harr,hk]
  exact he
 ·cases harr
theorem Jb {o:Oper}{nm:Nat}{A:List Item->AS->Prop}{R0:α->Prop}{kk:Ef->AS->Out α}(h:Sat P A R0 (opD P C S nm o s kk)) :
  ∃ ef,OpOK P C S s.ev s.H nm o ef/\Sat P A R0 (kk ef (s.aft o (some ef))):=by
 unfold opD at h
 split at h
 ·rename_i g as hcall
  split at h
  ·rename_i ts out hsig
   cases hb:(gh P g&&jR (bf s.H as)&&(bf s.H as).all (λ l=>(s.H.get l).isSome))
   ·rw[hb]at h;simp[Sat]at h
   rw[hb]at h
   simp only[aO]at hb
   obtain⟨x,hc,h⟩:=h
   simp only at h
   cases hn:Nat.ble (out (gI (dK (bf s.H as)) as) (fO (dK (bf s.H as)) s.H (bf s.H as) 0) x).n ((bf s.H as).length+8)
   ·rw[hn]at h;simp[Sat]at h
   rw[hn]at h
   exact⟨_,.zH g as ts out x _ _ hcall trivial hb.1.1 rfl hb.1.2 hb.2 rfl hn hc,h⟩
  ·rename_i ts sel out1 out2 hsig
   cases hb:(gh P g&&jR (bf s.H as)&&(bf s.H as).all (λ l=>(s.H.get l).isSome))
   ·rw[hb]at h;simp[Sat]at h
   rw[hb]at h
   simp only[aO]at hb
   obtain⟨x,hc,h⟩:=h
   simp only at h hc
   cases hsel:sel x
   ·rw[hsel,cf]at h
    rw[hsel,cf]at hc
    cases hn:Nat.ble (out2 (gI (dK (bf s.H as)) as) (fO (dK (bf s.H as)) s.H (bf s.H as) 0) x).n ((bf s.H as).length+8)
    ·rw[hn]at h;simp[Sat]at h
    rw[hn]at h
    exact⟨_,.zH g as ts out2 x _ _ hcall trivial hb.1.1 rfl hb.1.2 hb.2 rfl hn hc,h⟩
   ·rw[hsel,aG]at h
    rw[hsel,aG]at hc
    cases hn:Nat.ble (out1 (gI (dK (bf s.H as)) as) (fO (dK (bf s.H as)) s.H (bf s.H as) 0) x).n ((bf s.H as).length+8)
    ·rw[hn]at h;simp[Sat]at h
    rw[hn]at h
    exact⟨_,.zH g as ts out1 x _ _ hcall trivial hb.1.1 rfl hb.1.2 hb.2 rfl hn hc,h⟩
  ·rename_i ps ts hsig
   cases hent:gh P g
   ·simp[hent,Sat]at h
   simp only[hent,aG]at h
   split at h
   ·rename_i xs p fz hargs
    obtain⟨hp,x,hpure,h⟩:=h
    exact⟨_,.call g as ps ts xs p fz x hcall hsig hent hargs hp hpure,h⟩
   ·simp[Sat]at h
  ·rename_i out hsig
   split at h
   ·rename_i v hout
    exact⟨_,.ext g as out v hcall hsig hout h.1,h.2⟩
   ·simp[Sat]at h
  ·simp[Sat]at h
 ·rename_i hcall
  split at h
  ·rename_i p harr
   obtain⟨n,k⟩:=p
   obtain⟨i,hi,hk,h⟩:=sS h
   split at h
   ·rename_i e he
    obtain⟨h1,h2⟩:=NO (C:=C) (H:=s.H) (nm:=nm) harr hk he hi
    exact⟨_,.op e hcall h1 h2,h⟩
   ·simp[Sat]at h
  split at h
  ·rename_i e he
   cases ht:oI s.ev o
   ·rw[ht]at h
    exact⟨_,.op e hcall he h.1,h.2⟩
   ·rw[ht]at h
    exact⟨_,.op e hcall he (FJ ht he),h⟩
  ·simp[Sat]at h
theorem rM {o:Oper}{g:FuncId}{as:List AV}(hst:St E s a w K m free)(hcall:kP s.ev o=some (g,as)) :
  ∃ us:Array Value,(execOp a.eval o).run P w=(callFunc g us).run P w/\us.size=as.length/\∀ (j:Nat) (b:AV) (v:Value),as[j]?=some b->us[j]?=some v->Rel w K m s.H b v:=by
 obtain⟨fo,args,ats,ho',us,vs,hfo,hus,hvs⟩:∃ (fo:Operand) (args:Array Operand) (ats:Array TypeId),o.op=.call { callee:=.value fo,args:=args,argTypes:=ats } /\
   ∃ (us vs:Array Value),a.eval fo=.func (.func g) us vs/\(us++args.map a.eval++vs).size=as.length /\
    ∀ (j:Nat) (b:AV) (v:Value),as[j]?=some b->(us++args.map a.eval++vs)[j]?=some v->Rel w K m s.H b v:=by
  unfold kP at hcall
  split at hcall
  ·rename_i fo args ats hop
   split at hcall
   ·rename_i g' fs cs hclo
    simp only[ag,bB]at hcall
    obtain⟨rfl,rfl⟩:=hcall
    have hr:=hst.ev fo
    rw[hclo]at hr
    generalize hgv:a.eval fo=fv at hr
    cases hr with
    | clo _ _ _ us vs hf hl h1 h2 =>
      refine⟨fo,args,ats,hop,us,vs,hgv,by simp[hf,hl],λ j b v hb hv=>?_⟩
      obtain⟨hal,har⟩:=nR (w:=w) (K:=K) (m:=m) (H:=s.H) (λ x=>hst.ev x) args
      rw[bk,bv]at hb
      rw[Array.append_assoc,dR]at hv
      rw[hf]at hv
      split at hb
      ·rename_i hj;rw[aE hj]at hv;exact h1 j b v hb hv
      ·rename_i hj
       rw[aF hj]at hv
       rw[bv]at hb
       rw[dR,hal]at hv
       split at hb
       ·rename_i hj2;rw[aE hj2]at hv;exact har _ b v hb hv
       ·rename_i hj2;rw[aF hj2]at hv;exact h2 _ b v hb hv
   ·cases hcall
  ·cases hcall
 refine⟨us++args.map a.eval++vs,?_,hus,hvs⟩
 simp only[execOp,ho',resolve,Sem.run_bind,hfo,Deferred.ofValue,Sem.run_pure,Result.andThen_ok,invoke]
theorem uo {o:Oper}{g:FuncId}{as:List AV}(hst:St E s a w K m free)(hcall:kP s.ev o=some (g,as))(hent:gh P g=true) :
  ∃ us:Array Value,(execOp a.eval o).run P w=.ok (.enter g us) w/\us.size=as.length/\∀ (j:Nat) (b:AV) (v:Value),as[j]?=some b->us[j]?=some v->Rel w K m s.H b v:=by
 obtain⟨us,h1,h2,h3⟩:=rM hst hcall
 refine⟨us,?_,h2,h3⟩
 rw[h1]
 unfold gh at hent
 split at hent
 ·rename_i fn' hfn'
  simp only[aO,cK,ne_eq]at hent
  obtain⟨hn,hb⟩:=hent
  obtain⟨c,hc⟩:=bM.1 hb
  simp[callFunc,hfn',hn,hc]
 ·cases hent
theorem DI {o:Oper}{nm:Nat}{ef:Ef}(hst:St E s a w K m free)(hfr:∀ k,k<8->free (nm+k))(h:OpOK P C S s.ev s.H nm o ef) :
  o.wp P a w (λ a' w'=>∃ K' m',St E (s.aft o (some ef)) a' w' K' m' (λ l=>free l/\¬ (nm<=l/\l<nm+8))) (λ _ _ _=>False):=by
 cases h with
 | call g as ps ts xs p fz x hcall hsig hent hargs hp hpure=>
  obtain⟨us,hexec,hus,hvs⟩:=uo hst hcall hent
  obtain⟨hxl,hxr,hxf⟩:=sG hst.mem hargs hp hus hvs
  unfold Oper.wp
  rw[hexec]
  simp only[Oper.upon]
  have hK:∀ b,KF K m fz b->b<w.heap.size:=by
   rintro b (hb|⟨l,_,hm⟩)
   ·exact hst.mem.Klt b hb
   ·exact hst.mem.mlt l b hm
  refine(hpure w (KF K m fz) _ hK (hst.mem.gok.ext (λ _ h=>.inl h) (λ _ _=>rfl)) (by rw[hus,hxl]) hxr).mono ?_
  rintro e w' ⟨v,K',rfl,hrel,hK1,hK2,hK3,hbel⟩
  simp only
  cases hbare:ts.all Ty.bare
  ·
   obtain⟨K1,g1,e1,hk1⟩:=Mem.gives fz hst.mem
   have hKF:=mj e1.hK hxf hk1
   obtain⟨g2,e2⟩:=g1.after hbel (K2:=K') (λ b hb=>(hK2 b hb).imp (hKF b) id) hK3
   have hres:Rel w' (λ b=>K1 b\/K' b) m (s.H.app (fz.map λ l=>(l,none))) (lu ts x) v:=
    (zy (m:=m) (H:=s.H.app (fz.map λ l=>(l,none))) hrel).ext ⟨λ _ h=>.inr h,λ _ _=>rfl,λ _ _ h=>h,λ _ _ h=>h,λ _ _ _ xs _ h=>⟨xs,h,rfl⟩⟩
   exact⟨_,_,(hst.put o.dst hres g2 (e1.trans e2)).weaken (λ _ hl=>hl.1)⟩
  ·obtain⟨g2,e2⟩:=hst.mem.after hbel (K2:=λ _=>False) (λ b hb=>hb.elim) (λ b hb=>hb.elim)
   have hres:Rel w' (λ b=>K b\/False) m s.H (lu ts x) v:=zy (Lo hbare hrel)
   exact⟨_,_,(hst.put o.dst hres g2 e2).weaken (λ _ hl=>hl.1)⟩
 | ext g as out x hcall hsig hout hx=>
  obtain⟨us,hexec,hus,hvs⟩:=rM hst hcall
  obtain⟨u,hu,hr⟩:=hx w K m s.H us hus hvs
  unfold Oper.wp
  rw[hexec,hu]
  simp only[Oper.upon]
  exact⟨K,m,(hst.put o.dst hr hst.mem (Ext.refl w K m s.H)).weaken (λ _ hl=>hl.1)⟩
 | zH g as ts out x ns r hcall hsig hent hns hnd hall hr hn hc=>
  obtain⟨us,hexec,hus,hvs⟩:=uo hst hcall hent
  unfold Oper.wp
  rw[hexec]
  simp only[Oper.upon]
  have hnd':=lv hnd
  have hall':∀ l∈ns,∃ b,s.H.get l=some b:=λ l hl=>bM.1 (bR.1 hall l hl)
  refine(hc.2 w K (mOf m ns) us (hst.mem.enter hnd') (by rw[eu];exact hus) (λ i y v hy hv=>?_)).mono ?_
  ·rw[gY]at hy
   obtain⟨z,hz,rfl⟩:=ac.1 hy
   exact sf (hvs i z v hz hv)
  ·rintro e w' ⟨v,K',m',rfl,hrel,hmem⟩
   simp only
   obtain⟨g1,g2,g3⟩:=hst.mem.back hfr hnd' hall' hc.1 hmem (aV hn)
   exact⟨K',_,hst.put o.dst (g3 _ _ hrel) g1 g2⟩
 | op e hcall he hn =>
   obtain⟨nx,u,w',K',m',hrun,hnx,hrel,hM,hE⟩:=MK hst.mem (hfr 0 (by omega)) (ρ:=a.eval) hst.ev he hn
   unfold Oper.wp
   rw[hrun]
   rcases hnx with rfl|⟨rfl,rfl⟩
   ·exact⟨_,_,(hst.put o.dst hrel hM hE).weaken (λ l hl=>⟨hl.1,λ e=>hl.2 ⟨by omega,by omega⟩⟩)⟩
   ·exact⟨_,_,(hst.put o.dst hrel hM hE).weaken (λ l hl=>⟨hl.1,λ e=>hl.2 ⟨by omega,by omega⟩⟩)⟩
theorem Runs.op' {ops:Array Oper}{i:Nat}{rest:List Nat}{o:Oper}(ho:ops[i]?=some o)(hw:Region.wanted o (yielded ops a.tmps)=true){Q:Act->World->Prop}
  (h:o.wp P a w Q (λ _ _ _=>False)) (hk:∀ a' w',Q a' w'->a'.defers=[]/\Runs P F a' w' (.inRegion ops rest::k)):Runs P F a w (.inRegion ops (i::rest)::k):=
 Runs.op ho hw (Oper.wp_mono hk h)
theorem DO {t e':TypeId}{r:Option Addr}{n c:Nat}(hu:P.underlying t=some (.slice e')):(Op.equal t (.slice r n c) (.slice none 0 0)).run P w=.ok r.isNone w:=by
 have key:∀ d,(Op.equalIn (d+1) t (.slice r n c) (.slice none 0 0)).run P w=.ok r.isNone w:=λ d=>by
  cases r<;>simp[Op.equalIn,run_underlying hu]
 exact key 9999
theorem Jk {x:AV}{v:Value}{p:Prop}(hM:Mem E w K m H free)(h:Rel w K m H x v)(hp:uR H x=some p):∃ r n c,v=.slice r n c/\(r.isNone=true->p):=by
 cases h with
 | d y v h =>
   cases h with
   | v=>simp[uR]at hp
   | f=>simp[uR]at hp
   | sl0 t a cap=>simp only[uR,ag]at hp;subst hp;exact⟨_,_,_,rfl,λ _=>rfl⟩
   | sl t xs b off cap u hb hcap hc hr=>simp only[uR,ag]at hp;subst hp;exact⟨_,_,_,rfl,λ h=>by simp at h⟩
 | fl t xs a n h =>
   simp only[uR,ag]at hp;subst hp
   refine⟨_,_,_,rfl,λ hn=>?_⟩
   cases h with
   | sl0=>rfl
   | sl=>simp at hn
 | own0 l t a hm =>
   simp only[uR]at hp
   split at hp
   ·rename_i T t2 xs hg
    split at hp
    ·simp only[ag]at hp;subst hp
     rcases hM.heap l _ hg with⟨_,hx⟩|⟨b',cs,hm',_⟩
     ·exact⟨_,_,_,rfl,λ _=>by rw[hx];rfl⟩
     ·rw[hm]at hm';cases hm'
    ·cases hp
   ·cases hp
 | own l t b n cap hm hl hcap hs =>
   simp only[uR]at hp
   split at hp
   ·split at hp
    ·simp only[ag]at hp;subst hp;exact⟨_,_,_,rfl,λ h=>by simp at h⟩
    ·cases hp
   ·cases hp
 | _=>simp[uR]at hp
theorem HF {o:Oper}{p:Bool->Prop}(hst:St E s a w K m free)(hp:Lq P s.ev s.H o=some p):∃ b,p b/\(execOp a.eval o).run P w=.ok (.value (.bool b)) w:=by
 unfold Lq at hp
 split at hp
 ·rename_i op t x y yt ho
  split at hp
  ·rename_i hy
   cases hc:((hJ P t).isSome && !P.eqGuardType P.depth t)
   ·rw[hc]at hp;cases hp
   rw[hc]at hp
   simp only[aG]at hp
   simp only[aO,lJ]at hc
   obtain⟨el,hel⟩:=bM.1 hc.1
   have hu:=il hel
   obtain⟨q,hq,hp⟩:=aa.1 hp
   obtain⟨r,n,c,hv,hr⟩:=Jk hst.mem (hst.ev x) hq
   have hyv:a.eval y=.slice none 0 0:=by
    have h0:=hst.ev y
    rw[hy]at h0
    exact cw h0
   have hg:∀ op',(eqGuard op' t x y (.slice r n c) (.slice none 0 0)).run P w=.ok () w:=by
    intro op'
    unfold eqGuard
    cases op'<;>first|rfl|simp[hc.2]
   split at hp
   ·cases hp
    refine⟨r.isNone,hr,?_⟩
    simp only[execOp,ho,hv,hyv,Sem.run_bind,hg,Result.andThen_ok,binOp,DO hu,Sem.run_pure]
   ·cases hp
    refine⟨!r.isNone,λ h=>hr (by simpa using h),?_⟩
    simp only[execOp,ho,hv,hyv,Sem.run_bind,hg,Result.andThen_ok,binOp,DO hu,Sem.run_pure]
   ·cases hp
  ·cases hp
 ·cases hp
theorem Gx {ops:Array Oper}{i:Nat}{rest:List Nat}{o:Oper}(ho:ops[i]?=some o)(hw:Region.wanted o (yielded ops a.tmps)=true){A:List Item->AS->Prop}{R0:α->Prop}{kk:AS->Out α}
  (hst:St E s a w K m free) (hfr:∀ k,k<8->free (s.next+8*i+k))
  (hk:∀ (s':AS),s'.next=s.next->Sat P A R0 (kk s')->∀ a' w' K' m',St E s' a' w' K' m' (λ l=>free l/\¬ (s.next+8*i<=l/\l<s.next+8*i+8))->Runs P F a' w' (.inRegion ops rest::k))
  (h:Sat P A R0 (opK P C S (s.next+8*i) o s kk)):Runs P F a w (.inRegion ops (i::rest)::k):=by
 unfold opK at h
 split at h
 ·rename_i p hp
  obtain⟨b,hb,hrun⟩:=HF (w:=w) (P:=P) hst hp
  refine Runs.op' ho hw (Q:=λ a' w'=>w'=w/\a'=a.put o.dst (.bool b)) ?_ ?_
  ·unfold Oper.wp
   rw[hrun]
   exact⟨rfl,rfl⟩
  ·rintro a' w' ⟨rfl,rfl⟩
   have hst':St E (s.aft o (some ⟨.ofV (.bool b),[],[]⟩)) (a.put o.dst (.bool b)) w' K m (λ l=>free l/\¬ (s.next+8*i<=l/\l<s.next+8*i+8)):=?_
   refine⟨hst'.defers,hk (s.aft o (some ⟨.ofV (.bool b),[],[]⟩)) rfl (h b hb) _ _ K m hst'⟩
   exact(hst.put o.dst (v:=.ofV (.bool b)) (u:=.bool b) (.d _ _ (.v _)) hst.mem (Ext.refl _ _ _ _)).weaken (λ l hl=>hl.1)
 obtain⟨ef,hok,h⟩:=Jb h
 refine Runs.op' ho hw (DI hst hfr hok) ?_
 rintro a' w' ⟨K',m',hst'⟩
 exact⟨hst'.defers,hk (s.aft o (some ef)) rfl h a' w' K' m' hst'⟩
theorem IS {t:Nat}{b:Bool}(hst:St E s a w K m free)(hb:(s.tmps.getD t .dead).bool?=some b):St E { s with tmps:=s.tmps.set t (ck b) } a w K m free:=by
 refine⟨by simp[hst.len],λ i x v hx hv=>?_,hst.defers,hst.mem⟩
 rw[aP]at hx
 by_cases hti:t=i
 ·subst hti
  rw[aE rfl]at hx
  split at hx
  ·rename_i hlt
   simp only[ag]at hx
   subst hx
   have hr:=hst.tmp t
   have hva:a.tmps.getD t undef=v:=by
    simp[hst.len,hlt]at hv
    simp[Array.getD,hst.len,hlt,hv]
   rw[hva]at hr
   have:=eZ hb hr
   subst this
   exact .d _ _ (.v _)
  ·cases hx
 ·rw[aF hti]at hx
  exact hst.tmps i x v hx hv
theorem rE {ops:Array Oper}{o:Oper}{j t:Nat}{want:Bool}(hst:St E s a w K m free)(ht:(ops[j]?).bind (·.dst)=some t)(hg:o.guard=some (j,want))(hq:(s.tmps.getD t .dead).gone=true) :
  Region.wanted o (yielded ops a.tmps)=false:=by
 obtain⟨q,hq⟩:=AV.gone_eq hq
 have hv:=hst.tmp t
 rw[hq]at hv
 have hv:=cw hv
 have hy:yielded ops a.tmps j=none:=by
  unfold yielded
  rw[ht]
  simp only[aA]
  cases hc:a.tmps[t]? with
  | none=>rfl
  | some v =>
    have e:v=.tuple q:=by
     obtain⟨hlt,hc⟩:=ct.1 hc
     simp[Array.getD,hlt]at hv
     rw[<-hc];exact hv
    subst e
    rfl
 simp only[Region.wanted,hg,hy]
 rfl
def oc (ops:Array Oper)(o:Oper)(s:AS):Bool:=match o.guard with
 | none=>true
 | some (j, want) => match (ops[j]?).bind (·.dst) with
   | some t => (match (s.tmps.getD t .dead).bool? with
     | some b=>b==want
     | none=>false)
   | none=>false
theorem wM {ops:Array Oper}{o:Oper}(hst:St E s a w K m free)(h:oc ops o s=true):Region.wanted o (yielded ops a.tmps)=true:=by
 unfold oc at h
 split at h
 ·rename_i hg
  simp[Region.wanted,hg]
 ·rename_i j want hg
  split at h
  ·rename_i t ht
   split at h
   ·rename_i b hb
    have hv:a.tmps.getD t undef=.bool b:=eZ hb (hst.tmp t)
    have hlt:t<a.tmps.size:=by
     rcases ax t a.tmps.size with h1|h1
     ·exact h1
     ·simp[Array.getD,Nat.not_lt.2 h1,undef]at hv
    have hy:yielded ops a.tmps j=some b:=by
     have:a.tmps[t]?=some (.bool b):=by
      simp[Array.getD,hlt]at hv
      simp[hlt,hv]
     simp[yielded,ht,this]
    have hbw:b=want:=by simpa using h
    subst hbw
    simp only[Region.wanted,hg,hy]
    cases b<;>rfl
   ·cases h
  ·cases h
theorem xP {ops:Array Oper}{o:Oper}{A:List Item->AS->Prop}{R0:α->Prop}{yes no:AS->Out α}(hst:St E s a w K m free)(h:Sat P A R0 (qQ ops o s yes no)) :
  ∃ s',s'.next=s.next/\St E s' a w K m free/\((Region.wanted o (yielded ops a.tmps)=true/\Sat P A R0 (yes s'))\/(Region.wanted o (yielded ops a.tmps)=false/\Sat P A R0 (no s'))):=by
 unfold qQ at h
 split at h
 ·rename_i hg
  exact⟨s,rfl,hst,.inl ⟨by simp[Region.wanted,hg],h⟩⟩
 ·rename_i j want hg
  split at h
  ·rename_i t ht
   split at h
   ·rename_i b hb
    have hv:a.tmps.getD t undef=.bool b:=eZ hb (hst.tmp t)
    have hlt:t<a.tmps.size:=by
     rcases ax t a.tmps.size with h1|h1
     ·exact h1
     ·simp[Array.getD,Nat.not_lt.2 h1,undef]at hv
    have hy:yielded ops a.tmps j=some b:=by
     have:a.tmps[t]?=some (.bool b):=by
      simp[Array.getD,hlt]at hv
      simp[hlt,hv]
     simp[yielded,ht,this]
    refine⟨{ s with tmps:=s.tmps.set t (ck b) },rfl,IS hst hb,?_⟩
    have hwan:Region.wanted o (yielded ops a.tmps)=(b==want):=by
     simp only[Region.wanted,hg,hy]
     cases b<;>cases want<;>rfl
    rw[hwan]
    cases b<;>cases want<;>simp only[aG,cf]at h<;>first|exact .inl ⟨rfl,h⟩|exact .inr ⟨rfl,h⟩
   ·cases hq:(s.tmps.getD t .dead).gone
    ·rw[hq]at h;simp[Sat]at h
    ·rw[hq,aG]at h
     exact⟨s,rfl,hst,.inr ⟨rE hst ht hg hq,h⟩⟩
  ·simp[Sat]at h
end Go.VL
namespace Go.VL
variable {P:Program} {C:cd} {H H':Heap} {ρ ρ':Operand->AV} {nm:Nat} {o:Oper}
theorem qr {t:Ty}{a:AV}{s:Sls t}(h:a.sls H t=some s)(hr:∀ l∈s.rd,H'.get l=H.get l):a.sls H' t=some s:=by
 cases a with
 | own l t' =>
   simp only[AV.sls]at h ⊢
   split at h
   ·rename_i ht
    rw[aE ht]
    split at h
    ·rename_i T t2 xs hg
     split at h
     ·rename_i h2
      have hl:l∈s.rd:=by rw[<-aJ h];exact bq.2 rfl
      rw[hr l hl,hg]
      simp only
      rw[kn h2];exact h
     ·cases h
    ·cases h
   ·cases h
 | view l t' off len =>
   simp only[AV.sls]at h ⊢
   split at h
   ·rename_i ht
    rw[aE ht]
    split at h
    ·rename_i T t2 xs hg
     split at h
     ·rename_i h2
      have hl:l∈s.rd:=by rw[<-aJ h];exact bq.2 rfl
      rw[hr l hl,hg]
      simp only
      rw[kn h2];exact h
     ·cases h
    ·cases h
   ·cases h
 | _=>exact h
theorem Hj {a:AV}{n:Nat}{p:Prop}{r:List Nat}(h:a.len? H=some (n,p,r))(hr:∀ l∈r,H'.get l=H.get l):a.len? H'=some (n,p,r):=by
 cases a with
 | own l t' =>
   simp only[AV.len?]at h ⊢
   split at h
   ·rename_i T t2 xs hg
    split at h
    ·rename_i h2
     have e:r=[l]:=(congrArg (λ q=>q.2.2) (aJ h)).symm
     have hl:l∈r:=by rw[e];exact bq.2 rfl
     rw[hr l hl,hg]
     simp only
     rw[aE h2];exact h
    ·cases h
   ·cases h
 | d x => cases x with
   | sl t xs=>exact h
   | f x=>cases h
   | v v => cases v with
     | slice a n c => cases a with
       | none => cases n with
         | zero => cases c with
           | zero=>exact h
           | succ c=>cases h
         | succ n=>cases h
       | some a=>cases h
     | _=>cases h
 | _=>exact h
theorem FN {a:AV}{x:D}{p:Prop}{r:List Nat}(h:a.toD H=some (x,p,r))(hr:∀ l∈r,H'.get l=H.get l):a.toD H'=some (x,p,r):=by
 cases a with
 | own l t' =>
   simp only[AV.toD]at h ⊢
   split at h
   ·rename_i T t2 xs hg
    split at h
    ·rename_i h2
     have e:r=[l]:=(congrArg (λ q=>q.2.2) (aJ h)).symm
     have hl:l∈r:=by rw[e];exact bq.2 rfl
     rw[hr l hl,hg]
     simp only
     rw[aE h2];exact h
    ·cases h
   ·cases h
 | view l t' off len =>
   simp only[AV.toD]at h ⊢
   split at h
   ·rename_i T t2 xs hg
    split at h
    ·rename_i h2
     have e:r=[l]:=(congrArg (λ q=>q.2.2) (aJ h)).symm
     have hl:l∈r:=by rw[e];exact bq.2 rfl
     rw[hr l hl,hg]
     simp only
     rw[aE h2];exact h
    ·cases h
   ·cases h
 | _=>exact h
theorem mr:∀ {as:List AV} {xs:List D} {p:Prop} {r:List Nat},oW H as=some (xs,p,r)->(∀ l∈r,H'.get l=H.get l)->oW H' as=some (xs,p,r)
 | [],_,_,_,h,_=>h
 | a :: as, xs, p, r, h, hr => by
   unfold oW at h ⊢
   obtain⟨⟨d,p1,l1⟩,h1,h⟩:=aa.1 h
   obtain⟨⟨ds,p2,l2⟩,h2,h3⟩:=ac.1 h
   have e3:r=l1++l2:=(congrArg (λ q=>q.2.2) h3).symm
   have g1:=FN h1 (H':=H') (λ l hl=>hr l (by rw[e3];exact az.2 (.inl hl)))
   have g2:=mr h2 (λ l hl=>hr l (by rw[e3];exact az.2 (.inr hl)))
   rw[g1]
   simp only[aA]
   rw[g2]
   simp only[bt]
   rw[<-h3]
theorem sF {t:Ty}{a:AV}{x:t.ty}{p:Prop}{r:List Nat}(h:a.toTy H t=some (x,p,r))(hr:∀ l∈r,H'.get l=H.get l):a.toTy H' t=some (x,p,r):=by
 unfold AV.toTy at h ⊢
 cases hc:(a.isAgg == !t.flat)
 ·rw[hc]at h;cases h
 ·rw[hc]at h
  simp only[aG]at h ⊢
  obtain⟨⟨ds,p1,l1⟩,h1,h⟩:=aa.1 h
  obtain⟨y,hy,h3⟩:=ac.1 h
  have e3:r=l1:=(congrArg (λ q=>q.2.2) h3).symm
  have g1:=mr h1 (H':=H') (λ l hl=>hr l (by rw[e3];exact hl))
  rw[g1]
  simp only[aA]
  exact ac.2 ⟨y,hy,h3⟩
theorem py:∀ {ts:List Ty} {as:List AV} {xs:List Arg} {p:Prop} {r:List Nat},kw H ts as=some (xs,p,r)->(∀ l∈r,H'.get l=H.get l)->kw H' ts as=some (xs,p,r)
 | [],[],_,_,_,h,_=>h
 | [],_::_,_,_,_,h,_=>by cases h
 | _::_,[],_,_,_,h,_=>by cases h
 | t :: ts, a :: as, xs, p, r, h, hr => by
   unfold kw at h ⊢
   obtain⟨⟨d,p1,l1⟩,h1,h⟩:=aa.1 h
   obtain⟨⟨ds,p2,l2⟩,h2,h3⟩:=ac.1 h
   have e3:r=l1++l2:=(congrArg (λ q=>q.2.2) h3).symm
   have g1:=sF h1 (H':=H') (λ l hl=>hr l (by rw[e3];exact az.2 (.inl hl)))
   have g2:=py h2 (λ l hl=>hr l (by rw[e3];exact az.2 (.inr hl)))
   rw[g1]
   simp only[aA]
   rw[g2]
   simp only[bt]
   rw[<-h3]
theorem rO {te:Ty}:∀ {ps:List (Nat×AV)} {k:Nat} {xs:List te.ty} {p:Prop} {r:List Nat},opE.build H te k ps=some (xs,p,r)->(∀ l∈r,H'.get l=H.get l)->opE.build H' te k ps=some (xs,p,r)
 | [],_,_,_,_,h,_=>h
 | (i, a) :: ps, k, xs, p, r, h, hr => by
   unfold opE.build at h ⊢
   cases hc:(i==k)
   ·rw[hc]at h;cases h
   ·rw[hc]at h
    simp only[aG]at h ⊢
    obtain⟨⟨ds,p1,l1⟩,h1,h⟩:=aa.1 h
    obtain⟨y,hy,h⟩:=aa.1 h
    obtain⟨⟨ys,p2,l2⟩,h2,h3⟩:=ac.1 h
    have e3:r=l1++l2:=(congrArg (λ q=>q.2.2) h3).symm
    have g1:=mr h1 (H':=H') (λ l hl=>hr l (by rw[e3];exact az.2 (.inl hl)))
    have g2:=rO h2 (λ l hl=>hr l (by rw[e3];exact az.2 (.inr hl)))
    rw[g1]
    simp only[aA]
    rw[hy]
    simp only[aA]
    rw[g2]
    simp only[bt]
    rw[<-h3]
theorem DH (f:Array (Nat×Operand))(h:∀ x∈(f.toList.map (·.2)).toArray,ρ' x=ρ x):(f.toList.map λ p=>(p.1,ρ' p.2))=f.toList.map λ p=>(p.1,ρ p.2):=
 gX λ p hp=>by rw[h p.2 (by simpa using⟨p.1,by simpa using hp⟩)]
theorem qn (f:Array Operand)(h:∀ x∈f,ρ' x=ρ x):f.toList.map ρ'=f.toList.map ρ:=
 gX λ p hp=>h p (by simpa using hp)
theorem ML (h:∀ x∈o.op.operands,ρ' x=ρ x):opE P C ρ' H nm o=opE P C ρ H nm o:=by
 cases ho:o.op with
 | move x=>simp only[opE,ho];rw[h x (by simp[ho,Op.operands])]
 | assign x=>simp only[opE,ho];rw[h x (by simp[ho,Op.operands])]
 | pick c a b=>simp only[opE,ho];rw[h c (by simp[ho,Op.operands]),h a (by simp[ho,Op.operands]),h b (by simp[ho,Op.operands])]
 | box t x=>simp only[opE,ho];rw[h x (by simp[ho,Op.operands])]
 | build t ps=>simp only[opE,ho];rw[DH ps (λ x hx=>h x (by rw[ho];exact hx))]
 | buildSlice t l ps=>simp only[opE,ho];rw[DH ps (λ x hx=>h x (by rw[ho];exact hx))]
 | load t a=>simp only[opE,ho];rw[h a (by simp[ho,Op.operands])]
 | store t a x=>simp only[opE,ho];rw[h a (by simp[ho,Op.operands]),h x (by simp[ho,Op.operands])]
 | nilCheck x=>simp only[opE,ho];rw[h x (by simp[ho,Op.operands])]
 | binOp op t x y t2=>simp only[opE,ho];rw[h x (by simp[ho,Op.operands]),h y (by simp[ho,Op.operands])]
 | unOp op t x=>simp only[opE,ho];rw[h x (by simp[ho,Op.operands])]
 | convert s t x=>simp only[opE,ho];rw[h x (by simp[ho,Op.operands])]
 | makeFunc fn fs cs=>simp only[opE,ho];rw[qn fs (λ x hx=>h x (by rw[ho];exact Array.mem_append.2 (.inl hx))),qn cs (λ x hx=>h x (by rw[ho];exact Array.mem_append.2 (.inr hx)))]
 | fieldAddr t x f=>simp only[opE,ho];rw[h x (by simp[ho,Op.operands])]
 | field t x f=>simp only[opE,ho];rw[h x (by simp[ho,Op.operands])]
 | indexAddr t x y=>simp only[opE,ho];rw[h x (by simp[ho,Op.operands]),h y (by simp[ho,Op.operands])]
 | index t x y=>simp only[opE,ho];rw[h x (by simp[ho,Op.operands]),h y (by simp[ho,Op.operands])]
 | extract x i=>simp only[opE,ho];rw[h x (by simp[ho,Op.operands])]
 | slice t x lo hi mx =>
   have hx:ρ' x=ρ x:=h x (by simp[ho,Op.operands])
   have hlo:∀ v,lo=some v->ρ' v=ρ v:=λ v hv=>h v (by simp[ho,Op.operands,hv])
   have hhi:∀ v,hi=some v->ρ' v=ρ v:=λ v hv=>h v (by simp[ho,Op.operands,hv])
   have hmx:∀ v,mx=some v->ρ' v=ρ v:=λ v hv=>h v (by simp[ho,Op.operands,hv])
   simp only[opE,ho]
   have elo:lo.map ρ'=lo.map ρ:=by cases lo<;>simp_all
   have ehi:hi.map ρ'=hi.map ρ:=by cases hi<;>simp_all
   have emx:mx.map ρ'=mx.map ρ:=by cases mx<;>simp_all
   rw[hx,elo,ehi,emx]
   congr 1
   cases lo with
   | none => cases hi with
     | none => cases mx with
       | none=>rfl
       | some u=>rfl
     | some v =>
       have e1:=hhi v rfl
       cases mx with
       | none=>simp only[e1]
       | some u=>have e2:=hmx u rfl;simp only[e1,e2]
   | some z =>
     have e0:=hlo z rfl
     cases hi with
     | none => cases mx with
       | none=>simp only[e0]
       | some u=>simp only[e0]
     | some v =>
       have e1:=hhi v rfl
       cases mx with
       | none=>simp only[e0,e1]
       | some u=>have e2:=hmx u rfl;simp only[e0,e1,e2]
 | call c =>
   have hc:∀ x∈c.operands,ρ' x=ρ x:=λ x hx=>h x (by rw[ho];exact hx)
   obtain⟨callee,args,ats⟩:=c
   have ha:∀ x∈args,ρ' x=ρ x:=λ x hx=>hc x (by simp[Call.operands,hx])
   cases callee with
   | builtin b =>
     cases b with
     | len =>
       simp only[opE,ho]
       split
       ·rename_i t x h1 h2
        rw[ha x (by rw[<-gC,h2];simp)]
       ·rfl
     | min=>simp only[opE,ho];rw[qn args ha]
     | max=>simp only[opE,ho];rw[qn args ha]
     | clear =>
       simp only[opE,ho]
       split
       ·rename_i t x h1 h2
        rw[ha x (by rw[<-gC,h2];simp)]
       ·rfl
     | append =>
       simp only[opE,ho]
       split
       ·rename_i t t2 x y h1 h2
        rw[ha x (by rw[<-gC,h2];simp),ha y (by rw[<-gC,h2];simp)]
       ·rfl
     | _=>simp only[opE,ho]
   | _=>simp only[opE,ho]
 | makeMap t r=>cases r<;>simp only[opE,ho]
 | makeSlice t l c=>simp only[opE,ho];rw[h l (by simp[ho,Op.operands]),h c (by simp[ho,Op.operands])]
 | lookup t x y ok=>simp only[opE,ho];rw[h x (by simp[ho,Op.operands]),h y (by simp[ho,Op.operands])]
 | mapUpdate t x y z=>simp only[opE,ho];rw[h x (by simp[ho,Op.operands]),h y (by simp[ho,Op.operands]),h z (by simp[ho,Op.operands])]
 | insert t x y z=>simp only[opE,ho];rw[h x (by simp[ho,Op.operands]),h y (by simp[ho,Op.operands]),h z (by simp[ho,Op.operands])]
 | _=>simp only[opE,ho]
theorem mP (h:∀ x∈o.op.operands,ρ' x=ρ x):kP ρ' o=kP ρ o:=by
 unfold kP
 split
 ·rename_i f args ats ho
  have hf:ρ' f=ρ f:=h f (by simp[ho,Op.operands,Call.operands])
  have ha:∀ x∈args,ρ' x=ρ x:=λ x hx=>h x (by simp[ho,Op.operands,Call.operands,hx])
  rw[hf,qn args ha]
 ·rfl
theorem Js {l:List Nat}{x y:Nat}(h:y∈l):y∈NS l x:=by
 unfold NS
 cases l.contains x
 ·exact az.2 (.inl h)
 ·exact h
theorem vC {y:Nat}:∀ (xs l:List Nat),y∈l->y∈ka l xs
 | [],l,h=>h
 | x::xs,l,h=>vC xs (NS l x) (Js h)
theorem pb {y:Nat}:∀ (n i:Nat) (l:List Nat),y∈l->y∈eN H n i l
 | 0,i,l,h=>h
 | n + 1, i, l, h => by
   unfold eN
   split
   ·split
    ·exact pb n _ _ (vC _ _ h)
    ·exact pb n _ _ h
   ·exact h
theorem mt:∀ (n i:Nat) (l:List Nat),(∀ x∈eN H n i l,H'.get x=H.get x)->eN H' n i l=eN H n i l
 | 0,i,l,h=>rfl
 | n + 1, i, l, h => by
   cases hx:l[i]? with
   | none=>simp only[eN,hx]
   | some x =>
     have hl:x∈l:=bu hx
     have e:H'.get x=H.get x:=h x (pb (n+1) i l hl)
     simp only[eN,hx]at h ⊢
     rw[e]
     cases hg:H.get x with
     | none=>rw[hg]at h;exact mt n _ _ h
     | some b=>rw[hg]at h;exact mt n _ _ h
theorem xf {as:List AV}(h:∀ x∈bf H as,H'.get x=H.get x):bf H' as=bf H as:=mt _ _ _ h
theorem sY {g:Nat->Option Nat}:∀ (ls:List Nat) (i:Nat),(∀ x∈ls,H'.get x=H.get x)->fO g H' ls i=fO g H ls i
 | [],i,h=>rfl
 | l :: ls, i, h => by
   simp only[fO,h l (by simp),sY ls (i+1) (λ x hx=>h x (by simp[hx]))]
end Go.VL
namespace Go.VL
variable {P:Program} {C:cd} {H H':Heap} {ρ ρ':Operand->AV} {nm:Nat} {o:Oper}
theorem jC {te:Ty}{a:AV}{g:Sls te->Eff}{e:Eff}(hg:∀ s l,l∈s.rd->l∈(g s).rd)(h:(a.sls H te).map g=some e)(hr:∀ l∈e.rd,H'.get l=H.get l) :
  (a.sls H' te).map g=some e:=by
 obtain⟨s,hs,rfl⟩:=ac.1 h
 rw[qr hs (λ l hl=>hr l (hg s l hl))]
 rfl
theorem tg {t:TypeId}{x:Operand}(ho:o.op=.load t x){e:Eff}(h:opE P C ρ H nm o=some e)(hr:∀ l∈e.rd,H'.get l=H.get l):opE P C ρ H' nm o=some e:=by
 simp only[opE,ho]at h ⊢
 split at h
 ·rename_i l f ha
  split at h
  ·rename_i cells hg
   obtain⟨v,hv,rfl⟩:=ac.1 h
   rw[hr l (by simp),hg]
   exact h
  ·cases h
 ·rename_i l t' i f ha
  split at h
  ·rename_i T t2 xs hg
   split at h
   ·rename_i h2
    obtain⟨v,hv,rfl⟩:=ac.1 h
    rw[hr l (by simp),hg]
    simp only
    rw[aE h2]
    exact h
   ·cases h
  ·cases h
 ·exact h
 ·cases h
theorem rV {t:TypeId}{a x:Operand}(ho:o.op=.store t a x){e:Eff}(h:opE P C ρ H nm o=some e)(hr:∀ l∈e.rd,H'.get l=H.get l):opE P C ρ H' nm o=some e:=by
 simp only[opE,ho]at h ⊢
 split at h
 ·rename_i n l f hn ha
  split at h
  ·rename_i cells hg
   cases hc:((ρ x).cells.length==n&&Nat.ble (f+n) cells.length&&(ρ x).cells.all AV.one)
   ·rw[hc]at h;cases h
   ·rw[hc]at h
    have he:=aJ h
    rw[hr l (by rw[<-he];simp),hg]
    simp only
    rw[hc];exact h
  ·cases h
 ·rename_i n l t' i f hn ha
  split at h
  ·rename_i T t2 xs hg
   split at h
   ·rename_i h2
    obtain⟨⟨ds,p,fz⟩,h1,h⟩:=aa.1 h
    simp only at h
    cases hc:(ds.length==n&&Nat.ble (f+n) t2.size&&(ρ x).cells.all AV.one&&fz.all (· != l))
    ·rw[hc]at h;cases h
    ·rw[hc]at h
     obtain⟨y,hy,he⟩:=ac.1 h
     rw[hr l (by rw[<-he];simp),hg]
     simp only
     rw[aE h2,mr h1 (λ k hk=>hr k (by rw[<-he];simp[hk]))]
     simp only[aA]
     rw[hc];exact h
   ·cases h
  ·cases h
 ·cases h
theorem xp {t:TypeId}{a x:Operand}(ho:o.op=.indexAddr t a x){e:Eff}(h:opE P C ρ H nm o=some e)(hr:∀ l∈e.rd,H'.get l=H.get l):opE P C ρ H' nm o=some e:=by
 simp only[opE,ho]at h ⊢
 cases hk:yo P (ρ x) t with
 | some p=>simp only[hk]at h ⊢;exact h
 | none=>
 simp only[hk]at h ⊢
 obtain⟨ee,h1,h⟩:=aa.1 h
 obtain⟨te,h2,h⟩:=aa.1 h
 rw[h1];simp only[aA]
 rw[h2];simp only[aA]
 cases hc:(fy P ee==some te.size)
 ·rw[hc]at h;cases h
 rw[hc]at h
 simp only[aG]at h ⊢
 obtain⟨n,h3,h⟩:=aa.1 h
 rw[h3];simp only[aA]
 split at h
 ·rename_i l t' ha
  split at h
  ·rename_i ht
   rw[aE ht]
   split at h
   ·rename_i T t2 xs hg
    split at h
    ·rename_i h4
     have he:=aJ h
     rw[hr l (by rw[<-he];simp),hg]
     simp only
     rw[aE h4];exact h
    ·cases h
   ·cases h
  ·cases h
 ·exact h
 ·refine jC (λ s l hl=>hl) h hr
theorem zk {t:TypeId}{a:AV}{lo hi mx:Option AV}{e:Eff}(h:qs P C H t a lo hi mx=some e)(hr:∀ l∈e.rd,H'.get l=H.get l):qs P C H' t a lo hi mx=some e:=by
 unfold qs at h ⊢
 split at h
 ·rename_i n el hu
  obtain⟨te,h2,h⟩:=aa.1 h
  rw[h2];simp only[aA]
  cases hb:(fy P el==some te.size&&(lo.isNone&&(Da n hi&&(Da n mx&&(hi.isSome||mx.isNone)))))
  ·rw[hb]at h;cases h
  rw[hb]at h
  simp only[aG]at h ⊢
  obtain⟨⟨l,cs⟩,hbx,h⟩:=aa.1 h
  simp only at h
  cases hc:(cs.length==n*te.size)
  ·rw[hc]at h;cases h
  rw[hc]at h
  simp only[aG]at h
  obtain⟨ds,hds,h⟩:=aa.1 h
  obtain⟨xs,hxs,rfl⟩:=ac.1 h
  have hl:H'.get l=H.get l:=hr l (by simp)
  have e1:Fb H' a=some (l,cs):=by
   unfold Fb at hbx ⊢
   split at hbx
   ·split at hbx
    ·rename_i hg
     cases hbx
     simp only[hl,hg]
    ·cases hbx
   ·cases hbx
  rw[e1];simp only[aA,hc,aG,hds,hxs,bt]
 ·cases h
theorem rW {t:TypeId}{x:Operand}{lo hi mx:Option Operand}(ho:o.op=.slice t x lo hi mx){e:Eff}(h:opE P C ρ H nm o=some e)(hr:∀ l∈e.rd,H'.get l=H.get l):opE P C ρ H' nm o=some e:=by
 simp only[opE,ho]at h ⊢
 cases hA:Kh P t
 case true=>
  rw[hA]at h
  simp only[aG]at h ⊢
  exact zk h hr
 rw[hA]at h
 simp only[cf]at h ⊢
 obtain⟨ee,h1,h⟩:=aa.1 h
 obtain⟨te,h2,h⟩:=aa.1 h
 rw[h1];simp only[aA]
 rw[h2];simp only[aA]
 cases hc:(fy P ee==some te.size)
 ·rw[hc]at h;cases h
 rw[hc]at h
 simp only[aG]at h ⊢
 obtain⟨n,h3,h⟩:=aa.1 h
 rw[h3];simp only[aA]
 split at h
 ·split at h
  ·rename_i l t' ha
   split at h
   ·rename_i ht
    rw[aE ht]
    split at h
    ·rename_i T t2 xs hg
     split at h
     ·rename_i h4
      have he:=aJ h
      rw[hr l (by rw[<-he];simp),hg]
      simp only
      rw[aE h4];exact h
     ·cases h
    ·cases h
   ·cases h
  ·exact h
  ·exact jC (λ s l hl=>hl) h hr
 ·cases h
 ·obtain⟨n,h3,h⟩:=aa.1 h
  rw[h3];simp only[aA]
  split at h
  ·rename_i l t' ha
   split at h
   ·rename_i ht
    rw[aE ht]
    split at h
    ·rename_i T t2 xs hg
     split at h
     ·rename_i h4
      have he:=aJ h
      rw[hr l (by rw[<-he];simp),hg]
      simp only
      rw[aE h4];exact h
     ·cases h
    ·cases h
   ·cases h
  ·exact h
  ·exact jC (λ s l hl=>hl) h hr
 ·obtain⟨n,h3,h⟩:=aa.1 h
  rw[h3];simp only[aA]
  obtain⟨n,h3,h⟩:=aa.1 h
  rw[h3];simp only[aA]
  split at h
  ·rename_i l t' ha
   split at h
   ·rename_i ht
    rw[aE ht]
    split at h
    ·rename_i T t2 xs hg
     split at h
     ·rename_i h4
      have he:=aJ h
      rw[hr l (by rw[<-he];simp),hg]
      simp only
      rw[aE h4];exact h
     ·cases h
    ·cases h
   ·cases h
  ·exact h
  ·exact jC (λ s l hl=>hl) h hr
theorem xq {t:TypeId}{n:Nat}{ps:Array (Nat×Operand)}(ho:o.op=.buildSlice t n ps){e:Eff}(h:opE P C ρ H nm o=some e)(hr:∀ l∈e.rd,H'.get l=H.get l):opE P C ρ H' nm o=some e:=by
 simp only[opE,ho]at h ⊢
 obtain⟨ee,h1,h⟩:=aa.1 h
 obtain⟨te,h2,h⟩:=aa.1 h
 rw[h1];simp only[aA]
 rw[h2];simp only[aA]
 cases hc:(fy P ee==some te.size&&ps.size==n&&Nat.ble (n*te.size) 1000&&ly P ee te)
 ·rw[hc]at h;cases h
 rw[hc]at h
 simp only[aG]at h ⊢
 obtain⟨⟨xs,p,fz⟩,h3,he⟩:=ac.1 h
 rw[rO h3 (λ k hk=>hr k (by rw[<-he];simp[hk]))]
 exact congrArg some he
theorem qy {ts:Array TypeId}{args:Array Operand}(ho:o.op=.call ⟨.builtin .append,args,ts⟩){e:Eff}(h:opE P C ρ H nm o=some e)(hr:∀ l∈e.rd,H'.get l=H.get l):opE P C ρ H' nm o=some e:=by
 simp only[opE,ho]at h ⊢
 split at h
 ·rename_i t t2 x y g1 g2
  cases hc:(t==t2)
  ·rw[hc]at h;cases h
  rw[hc]at h
  simp only[aG]at h ⊢
  obtain⟨ee,h1,h⟩:=aa.1 h
  obtain⟨te,h2,h⟩:=aa.1 h
  obtain⟨i,h3,h⟩:=aa.1 h
  rw[h1];simp only[aA]
  rw[h2];simp only[aA]
  rw[h3];simp only[aA]
  cases hc:(i.size==te.size&&ly P ee te)
  ·rw[hc]at h;cases h
  rw[hc]at h
  simp only[aG]at h ⊢
  obtain⟨s,h4,h⟩:=aa.1 h
  have key:∀ l∈s.rd,l∈e.rd:=by
   intro l hl
   split at h
   ·rw[<-aJ h];simp[hl]
   ·split at h
    ·split at h
     ·split at h
      ·rename_i T _ _ _ _
       cases hb:(T==ee)<;>rw[hb]at h
       ·cases h
       ·rw[<-aJ h];simp[hl]
      ·cases h
     ·cases h
    ·cases h
   ·split at h
    ·split at h
     ·split at h
      ·rename_i T _ _ _ _
       cases hb:(T==ee)<;>rw[hb]at h
       ·cases h
       ·rw[<-aJ h];simp[hl]
      ·cases h
     ·cases h
    ·cases h
   ·split at h
    ·rw[<-aJ h];simp[hl]
    ·cases h
   ·cases h
  rw[qr h4 (λ l hl=>hr l (key l hl))]
  simp only[aA]
  split at h
  ·exact h
  ·rename_i l t' ha
   split at h
   ·rename_i ht
    rw[aE ht]
    split at h
    ·rename_i T t2 xs hg
     split at h
     ·rename_i h5
      cases hb:(T==ee)
      ·rw[hb]at h;cases h
      ·rw[hb]at h
       have he:=aJ h
       rw[hr l (by rw[<-he];simp),hg]
       simp only
       rw[kn h5,hb];exact h
     ·cases h
    ·cases h
   ·cases h
  ·rename_i l t' off len ha
   split at h
   ·rename_i ht
    rw[aE ht]
    split at h
    ·rename_i T t2 xs hg
     split at h
     ·rename_i h5
      cases hb:(T==ee)
      ·rw[hb]at h;cases h
      ·rw[hb]at h
       have he:=aJ h
       rw[hr l (by rw[<-he];simp),hg]
       simp only
       rw[kn h5,hb];exact h
     ·cases h
    ·cases h
   ·cases h
  ·exact h
  ·cases h
 ·cases h
theorem Hy {te:Ty}{a:AV}{e:Eff}(h:KO H te a=some e)(hr:∀ l∈e.rd,H'.get l=H.get l):KO H' te a=some e:=by
 cases a with
 | view l t' off len =>
   simp only[KO]at h ⊢
   split at h
   ·rename_i ht
    rw[aE ht]
    split at h
    ·rename_i T t2 xs hg
     split at h
     ·rename_i h5
      have he:=aJ h
      rw[hr l (by rw[<-he];simp),hg]
      simp only
      rw[kn h5];exact h
     ·cases h
    ·cases h
   ·cases h
 | _=>exact h
theorem rX {ts:Array TypeId}{args:Array Operand}(ho:o.op=.call ⟨.builtin .clear,args,ts⟩){e:Eff}(h:opE P C ρ H nm o=some e)(hr:∀ l∈e.rd,H'.get l=H.get l):opE P C ρ H' nm o=some e:=by
 simp only[opE,ho]at h ⊢
 split at h
 ·rename_i t x g1 g2
  obtain⟨ee,h1,h⟩:=aa.1 h
  obtain⟨te,h2,h⟩:=aa.1 h
  rw[h1];simp only[aA]
  rw[h2];simp only[aA]
  cases hc:oQ P ee te
  ·rw[hc]at h;cases h
  rw[hc]at h
  simp only[aG]at h ⊢
  exact Hy h hr
 ·cases h
theorem CC {t:TypeId}{x y:AV}{ok:Bool}{e:Eff}(h:wa P C H t x y ok=some e)(hr:∀ l∈e.rd,H'.get l=H.get l):wa P C H' t x y ok=some e:=by
 unfold wa at h ⊢
 replace h:=aa.1 h
 obtain⟨p,hp,h⟩:=h
 rw[hp,aA]
 split at h
 ·rename_i l n
  split at h
  ·rename_i tv kvs hg
   split at h
   ·rename_i ht
    cases h
    have hl:H'.get l=H.get l:=hr l (by simp)
    simp only[hl,hg,ht,mU]
   ·cases h
  ·cases h
 ·cases h
theorem pM {t:TypeId}{x y z:AV}{e:Eff}(h:mA P C H t x y z=some e)(hr:∀ l∈e.rd,H'.get l=H.get l):mA P C H' t x y z=some e:=by
 unfold mA at h ⊢
 replace h:=aa.1 h
 obtain⟨p,hp,h⟩:=h
 rw[hp,aA]
 split at h
 ·rename_i l n
  split at h
  ·rename_i tv kvs hg
   split at h
   ·rename_i ht
    obtain⟨⟨q1,q2,q3⟩,hq,h⟩:=aa.1 h
    simp only at h
    cases hf:q3.isEmpty
    ·rw[hf]at h;cases h
    rw[hf]at h
    cases h
    have hl:H'.get l=H.get l:=hr l (by simp)
    have hfz:q3=[]:=by simpa using hf
    subst hfz
    have hq':=sF (H':=H') hq (λ k hk=>by simp at hk)
    subst ht
    simp only[hl,hg,mU,hq',aA,List.isEmpty_nil,aG]
   ·cases h
  ·cases h
 ·cases h
theorem Gy {e:Eff}(h:opE P C ρ H nm o=some e)(hr:∀ l∈e.rd,H'.get l=H.get l):opE P C ρ H' nm o=some e:=by
 cases ho:o.op with
 | load t a=>exact tg ho h hr
 | store t a x=>exact rV ho h hr
 | indexAddr t x y=>exact xp ho h hr
 | slice t x lo hi mx=>exact rW ho h hr
 | buildSlice t l ps=>exact xq ho h hr
 | convert s t x =>
   simp only[opE,ho]at h ⊢
   split at h
   ·exact h
   ·exact h
   ·exact h
   ·exact h
   ·rename_i el hs ht
    split at h
    ·rename_i hel
     cases hsz:(fy P el==some 1)
     ·rw[hsz]at h;cases h
     rw[hsz]at h
     simp only[aG,ac]at h
     obtain⟨q,hq,rfl⟩:=h
     have:=qr hq hr
     rw[aG,this]
     rfl
    ·cases h
   ·cases h
 | lookup t x y ok=>simp only[opE,ho]at h ⊢;exact CC h hr
 | mapUpdate t x y z=>simp only[opE,ho]at h ⊢;exact pM h hr
 | insert t x y z=>simp only[opE,ho]at h ⊢;exact pM h hr
 | makeMap t r=>cases r<;>(simp only[opE,ho]at h ⊢;first|exact h|cases h)
 | makeSlice t l c=>simp only[opE,ho]at h ⊢;exact h
 | call c =>
   obtain⟨callee,args,ats⟩:=c
   cases callee with
   | builtin b =>
     cases b with
     | append=>exact qy ho h hr
     | clear=>exact rX ho h hr
     | len =>
       simp only[opE,ho]at h ⊢
       split at h
       ·rename_i t x h1 h2
        split at h
        ·exact h
        ·split at h
         ·obtain⟨⟨n,p,r⟩,h3,he⟩:=ac.1 h
          rw[Hj h3 (λ l hl=>hr l (by rw[<-he];exact hl))]
          exact congrArg some he
         ·cases h
       ·cases h
     | min=>simp only[opE,ho]at h ⊢;exact h
     | max=>simp only[opE,ho]at h ⊢;exact h
     | _=>simp only[opE,ho]at h ⊢;first|exact h|cases h
   | _=>simp only[opE,ho]at h;cases h
 | _=>simp only[opE,ho]at h ⊢;first|exact h|cases h
end Go.VL
namespace Go.VL
variable {P:Program} {C:cd} {S:fw} {E:Entry} {w:World} {K:Nat->Prop} {m:Nat->Option (Option Nat)} {free:Nat->Prop}
 {f:FuncId} {R:Ending->World->Prop} {a:Act} {k:List Item} {s t s':AS} {α:Type} {ops:Array Oper} {o o1 o2:Oper} {i j:Nat}
structure Same (s t:AS):Prop where
 tmps:s.tmps=t.tmps
 next:s.next=t.next
 H:∀ l,s.H.get l=t.H.get l
theorem Same.refl (s:AS):Same s s:=⟨rfl,rfl,λ _=>rfl⟩
theorem Same.symm (h:Same s t):Same t s:=⟨h.tmps.symm,h.next.symm,λ l=>(h.H l).symm⟩
theorem Same.trans {u:AS}(h:Same s t)(g:Same t u):Same s u:=⟨h.tmps.trans g.tmps,h.next.trans g.next,λ l=>(h.H l).trans (g.H l)⟩
theorem ID {H H':Heap}(hH:∀ l,H.get l=H'.get l){x:AV}{v:Value}(h:Rel w K m H x v):Rel w K m H' x v:=
 h.ext ⟨λ _ h=>h,λ _ _=>rfl,λ _ _ h=>h,λ _ _ h=>h,λ l T t xs _ h=>⟨xs,by rw[hH];exact h,rfl⟩⟩
theorem Ll {H H':Heap}(hH:∀ l,H.get l=H'.get l){l:Nat}{b:ABlk}(h:BlkRel w K m H l b):BlkRel w K m H' l b:=
 h.ext ⟨λ _ h=>h,λ _ _=>rfl,λ _ _ h=>h,λ _ _ h=>h,λ l T t xs _ h=>⟨xs,by rw[hH];exact h,rfl⟩⟩ (λ _ _=>rfl)
theorem Same.st (h:Same s t)(hs:St E s a w K m free):St E t a w K m free:=
 ⟨by rw[<-h.tmps];exact hs.len,λ i x v hx hv=>ID h.H (hs.tmps i x v (by rw[h.tmps];exact hx) hv),hs.defers,
  { hs.mem with
   heap:=λ l b hb=>Ll h.H (hs.mem.heap l b (by rw[h.H];exact hb))
   own:=λ l b c hb=>hs.mem.own l b c (by rw[h.H];exact hb)
   inj:=λ l l' b b' c hb hb'=>hs.mem.inj l l' b b' c (by rw[h.H];exact hb) (by rw[h.H];exact hb') }⟩
theorem po {wr:List (Nat×Option ABlk)}{l:Nat}:∀ {H H':Heap},(∃ p∈wr,p.1=l)->(H.app wr).get l=(H'.app wr).get l:=by
 induction wr with
 | nil=>rintro H H' ⟨p,hp,_⟩;simp at hp
 | cons p wr ih =>
   rintro H H' h
   show((H.put p.1 p.2).app wr).get l=((H'.put p.1 p.2).app wr).get l
   by_cases hw:∃ q∈wr,q.1=l
   ·exact ih hw
   ·have h1:∀ q∈wr,q.1≠l:=λ q hq e=>hw ⟨q,hq,e⟩
    rw[gN h1,gN h1]
    obtain⟨q,hq,hql⟩:=h
    rcases aB.1 hq with rfl|hq
    ·rw[<-hql,Heap.get_put_self,Heap.get_put_self]
    ·exact absurd hql (h1 q hq)
theorem Lw {H H':Heap}(hH:∀ l,H.get l=H'.get l)(wr:List (Nat×Option ABlk))(l:Nat):(H.app wr).get l=(H'.app wr).get l:=by
 by_cases hw:∃ q∈wr,q.1=l
 ·exact po hw
 ·have h1:∀ q∈wr,q.1≠l:=λ q hq e=>hw ⟨q,hq,e⟩
  rw[gN h1,gN h1,hH]
theorem Same.aft (h:Same s t)(o:Oper)(ef:Option Ef):Same (s.aft o ef) (t.aft o ef):=by
 cases ef with
 | none=>exact⟨by simp only[AS.aft,h.tmps],h.next,h.H⟩
 | some e=>exact⟨by simp only[AS.aft,h.tmps],h.next,Lw h.H e.wr⟩
def Gd (ops:Array Oper)(o:Oper)(s:AS)(b:Bool):Prop:=match o.guard with
 | none=>b=true
 | some (j,want)=>∃ t,(ops[j]?).bind (·.dst)=some t/\(s.tmps.getD t .dead=ck (b==want)\/(b=false/\(s.tmps.getD t .dead).gone=true))
structure OK1 (P:Program) (C:cd) (S:fw) (ops:Array Oper) (s:AS) (i:Nat) (o:Oper) (ef:Option Ef):Prop where
 gd:Gd ops o s ef.isSome
 ok:∀ e,ef=some e->OpOK P C S s.ev s.H (s.next+8*i) o e
def II:Option Ef->List Nat
 | some e=>e.rd
 | none=>[]
def oS:Option Ef->List (Nat×Option ABlk)
 | some e=>e.wr
 | none=>[]
theorem OpOK.local {ρ ρ':Operand->AV}{H H':Heap}{nm:Nat}{e:Ef}(h:OpOK P C S ρ H nm o e)(hρ:∀ x∈o.op.operands,ρ' x=ρ x)(hH:∀ l∈e.rd,H'.get l=H.get l):OpOK P C S ρ' H' nm o e:=by
 cases h with
 | op e hc he hn=>exact .op e (by rw[mP hρ];exact hc) (Gy (by rw[ML hρ];exact he) hH) hn
 | call g as ps ts xs p fz x hcall hsig hent hargs hp hpure=>exact .call g as ps ts xs p fz x (by rw[mP hρ];exact hcall) hsig hent (py hargs hH) hp hpure
 | ext g as out x hcall hsig hout hx=>exact .ext g as out x (by rw[mP hρ];exact hcall) hsig hout hx
 | zH g as ts out x ns r hcall hsig hent hns hnd hall hr hn hc =>
   have hH:∀ l∈ns,H'.get l=H.get l:=hH
   have e1:bf H' as=ns:=by rw[xf (by rw[hns];exact hH)];exact hns
   have e2:fO (dK ns) H' ns 0=fO (dK ns) H ns 0:=sY ns 0 hH
   refine .zH g as ts out x ns r (by rw[mP hρ];exact hcall) hsig hent e1 hnd ?_ (by rw[e2];exact hr) hn (by rw[e2];exact hc)
   exact bR.2 λ l hl=>by rw[hH l hl];exact bR.1 hall l hl
theorem OK1.local {ef:Option Ef}(h:OK1 P C S ops s i o ef)(hn:t.next=s.next)(ht:∀ d∈o.looksAt ops,t.tmps.getD d .dead=s.tmps.getD d .dead)(hH:∀ l∈II ef,t.H.get l=s.H.get l):OK1 P C S ops t i o ef:=by
 refine⟨?_,λ e he=>?_⟩
 ·have hg:=h.gd
  unfold Gd at hg ⊢
  split
  ·rename_i hq;simpa[hq]using hg
  ·rename_i j want hq
   rw[hq]at hg
   obtain⟨d,hd,hb⟩:=hg
   refine⟨d,hd,?_⟩
   rw[ht d (by simp[Oper.looksAt,hq,hd])];exact hb
 ·subst he
  rw[hn]
  refine(h.ok e rfl).local (λ x hx=>?_) hH
  cases x with
  | tmp d=>exact ht d (by simp only[Oper.looksAt,az,List.mem_filterMap];exact .inl ⟨.tmp d,by simpa using hx,rfl⟩)
  | _=>rfl
theorem OK1.same {ef:Option Ef}(h:OK1 P C S ops s i o ef)(hs:Same s t):OK1 P C S ops t i o ef:=
 h.local hs.next.symm (λ d _=>by rw[hs.tmps]) (λ l _=>(hs.H l).symm)
inductive Tr (P:Program) (C:cd) (S:fw) (ops:Array Oper):List (Nat×Option Ef)->AS->AS->Prop
 | nil (s:AS):Tr P C S ops [] s s
 | cons {i:Nat} {ef:Option Ef} {o:Oper} {L:List (Nat×Option Ef)} {s s':AS} (ho:ops[i]?=some o) (h:OK1 P C S ops s i o ef) (hr:Tr P C S ops L (s.aft o ef) s'):Tr P C S ops ((i,ef)::L) s s'
theorem Tr.same {L:List (Nat×Option Ef)}(h:Tr P C S ops L s s'):∀ {t:AS},Same s t->∃ t',Tr P C S ops L t t'/\Same s' t':=by
 induction h with
 | nil s=>exact λ hs=>⟨_,.nil _,hs⟩
 | cons ho h hr ih =>
   intro t hs
   obtain⟨t',h1,h2⟩:=ih (hs.aft _ _)
   exact⟨t',.cons ho (h.same hs) h1,h2⟩
theorem Aa {tmps:List AV}{dst:Option Tmp}{v:AV}{d:Nat}(h:dst≠some d):(ld tmps dst v).getD d .dead=tmps.getD d .dead:=by
 cases dst with
 | none=>rfl
 | some e =>
   have hne:e≠d:=λ q=>h (by rw[q])
   simp[ld,List.getD,hne]
theorem Gr {tmps:List AV}{d e:Option Tmp}{v u:AV}(h:∀ x,d=some x->e≠some x):ld (ld tmps d v) e u=ld (ld tmps e u) d v:=by
 cases d with
 | none=>rfl
 | some x => cases e with
   | none=>rfl
   | some y =>
     have hne:x≠y:=λ q=>h x rfl (by rw[q])
     exact List.set_comm _ _ hne
theorem kR (s:AS)(o:Oper)(ef:Option Ef):(s.aft o ef).next=s.next:=by cases ef<;>rfl
theorem wI (s:AS)(o:Oper)(ef:Option Ef):(s.aft o ef).H=s.H.app (oS ef):=by cases ef<;>rfl
def QV:Option Ef->AV
 | some e=>e.v
 | none=>.d (.v undef)
theorem ku (s:AS)(o:Oper)(ef:Option Ef):(s.aft o ef).tmps=ld s.tmps o.dst (QV ef):=by cases ef<;>rfl
structure Ind (ops:Array Oper) (o1 o2:Oper) (e1 e2:Option Ef):Prop where
 ap:o1.apart ops o2=true
 w1:∀ p∈oS e1,p.1 ∉ II e2/\∀ q∈oS e2,q.1≠p.1
 w2:∀ p∈oS e2,p.1 ∉ II e1
theorem swap {e1 e2:Option Ef}(hi:Ind ops o1 o2 e1 e2)(h1:OK1 P C S ops s i o1 e1)(h2:OK1 P C S ops (s.aft o1 e1) j o2 e2) :
  OK1 P C S ops s j o2 e2/\OK1 P C S ops (s.aft o2 e2) i o1 e1/\Same ((s.aft o1 e1).aft o2 e2) ((s.aft o2 e2).aft o1 e1):=by
 obtain⟨a1,a2,a3⟩:=Oper.apart_spec hi.ap
 have g2:OK1 P C S ops s j o2 e2:=h2.local (kR s o1 e1).symm (λ d hd=>by
  rw[ku,Aa];exact λ e=>a1 d e hd) (λ l hl=>by
  rw[wI,gN];exact λ p hp e=>(hi.w1 p hp).1 (by rw[e];exact hl))
 refine⟨g2,h1.local (kR s o2 e2) (λ d hd=>?_) (λ l hl=>?_),?_,?_,λ l=>?_⟩
 ·rw[ku,Aa];exact λ e=>a3 d e hd
 ·rw[wI,gN];exact λ p hp e=>hi.w2 p hp (by rw[e];exact hl)
 ·rw[ku,ku,ku,ku]
  exact Gr a2
 ·rw[kR,kR,kR,kR]
 ·rw[wI,wI,wI,wI]
  by_cases hw:∃ p∈oS e1,p.1=l
  ·obtain⟨p,hp,hpl⟩:=hw
   rw[gN (wr:=oS e2) (λ q hq e=>(hi.w1 p hp).2 q hq (by rw[e,hpl])),po (H':=s.H.app (oS e2)) ⟨p,hp,hpl⟩]
  ·have h1:∀ q∈oS e1,q.1≠l:=λ q hq e=>hw ⟨q,hq,e⟩
   rw[gN (wr:=oS e1) (H:=s.H.app (oS e2)) h1]
   by_cases hw2:∃ p∈oS e2,p.1=l
   ·exact po hw2
   ·have h2:∀ q∈oS e2,q.1≠l:=λ q hq e=>hw2 ⟨q,hq,e⟩
    rw[gN h2,gN h2,gN h1]
def LL (ops:Array Oper)(x y:Nat×Option Ef):Prop:=∀ o1 o2,ops[x.1]?=some o1->ops[y.1]?=some o2->Ind ops o1 o2 x.2 y.2
theorem Tr.bubble {x:Nat×Option Ef}{L2:List (Nat×Option Ef)}:∀ {L1:List (Nat×Option Ef)} {s s':AS},Tr P C S ops (L1++x::L2) s s'->(∀ y∈L1,LL ops y x) ->
  ∃ s'',Tr P C S ops (x::(L1++L2)) s s''/\Same s' s''
 | [],s,s',h,_=>⟨s',h,Same.refl _⟩
 | y :: L1, s, s', h, hi => by
   cases h with
   | @cons jy efy oy _ _ _ hoy hy hr =>
     obtain⟨s'',h2,h3⟩:=Tr.bubble hr (λ z hz=>hi z (by simp[hz]))
     cases h2 with
     | @cons jx efx ox _ _ _ hox hx hr2 =>
       obtain⟨g1,g2,g3⟩:=swap (hi _ kV oy ox hoy hox) hy hx
       obtain⟨t',g4,g5⟩:=hr2.same g3
       exact⟨t',.cons hox g1 (.cons hoy g2 g4),h3.trans g5⟩
inductive Pre (ops:Array Oper):Nat->Nat->Prop
 | edge {i:Nat} {o:Oper} {e:Edge} (ho:ops[i]?=some o) (he:e∈o.after) (hb:Region.binds .any e=true):Pre ops e.on i
 | step {i j:Nat} {o:Oper} {e:Edge} (ho:ops[i]?=some o) (he:e∈o.after) (hb:Region.binds .any e=true) (h:Pre ops j e.on):Pre ops j i
def yr (ops:Array Oper)(ms:List Nat):Prop:=∀ i j,(ms.getD i 0).testBit j=true->Pre ops j i
theorem wv {ms:List Nat}(hm:yr ops ms){i j:Nat}{o:Oper}(ho:ops[i]?=some o):∀ (es:List Edge) (m0:Nat),(∀ e∈es,e∈o.after)->(m0.testBit j=true->Pre ops j i) ->
  (es.foldl (λ m e=>bif Region.binds .any e then(m ||| (1 <<< e.on)) ||| ms.getD e.on 0 else m) m0).testBit j=true->Pre ops j i
 | [],m0,_,h0,h=>h0 h
 | e :: es, m0, he, h0, h => by
   refine wv hm ho es _ (λ x hx=>he x (by simp[hx])) (λ h1=>?_) h
   cases hb:Region.binds .any e
   ·simp only[hb,cf]at h1;exact h0 h1
   ·simp only[hb,aG,Nat.testBit_or,Bool.or_eq_true]at h1
    rcases h1 with(h1|h1)|h1
    ·exact h0 h1
    ·rw[Nat.one_shiftLeft]at h1
     have:=Nat.testBit_two_pow (n:=e.on) (m:=j)
     rw[this]at h1
     have e1:e.on=j:=by simpa using h1
     rw[<-e1]
     exact .edge ho (he e (by simp)) hb
    ·exact .step ho (he e (by simp)) hb (hm _ _ h1)
theorem tt:∀ (os:List Oper) (ms:List Nat),yr ops ms->(∀ k o,os[k]?=some o->ops[ms.length+k]?=some o)->yr ops (sm os ms)
 | [],ms,hm,_=>hm
 | o :: os, ms, hm, ho => by
   unfold sm
   refine tt os _ (λ i j h=>?_) (λ k o' hk=>?_)
   ·rw[List.getD,bv]at h
    split at h
    ·exact hm i j h
    ·rename_i hlt
     by_cases hi:i=ms.length
     ·subst hi
      simp only[Nat.sub_self,bp,gQ]at h
      exact wv hm (ho 0 o rfl) o.after.toList 0 (λ e he=>by simpa using he) (λ h=>by simp at h) h
     ·have:i-ms.length≠0:=by omega
      rw[List.getElem?_cons,aF this]at h
      simp at h
   ·have:=ho (k+1) o' (by simpa using hk)
    rw[al]
    have e1:(ms.length+1)+k=ms.length+(k+1):=by omega
    simpa[e1]using this
theorem Ju (ops:Array Oper):yr ops (rp ops):=
 tt ops.toList [] (λ i j h=>by simp at h) (λ k o hk=>by simpa using hk)
theorem FP (h:Dn ops=true){i:Nat}{o:Oper}{e:Edge}(ho:ops[i]?=some o)(he:e∈o.after)(hb:Region.binds .any e=true):e.on<i:=by
 have hlt:i<ops.size:=by
  rcases ax i ops.size with h1|h1
  ·exact h1
  ·rw[bZ h1]at ho;cases ho
 have h1:=bR.1 h i (cI.2 hlt)
 rw[ho]at h1
 simp only at h1
 have h2:=lc.1 h1 e he
 rw[hb]at h2
 exact aV (by simpa[Nat.blt]using h2)
end Go.VL
namespace Go.VL
variable {P:Program} {C:cd} {S:fw} {E:Entry} {w:World} {K:Nat->Prop} {m:Nat->Option (Option Nat)} {free:Nat->Prop}
 {f:FuncId} {R:Ending->World->Prop} {a:Act} {k:List Item} {s t s':AS} {α:Type} {ops:Array Oper} {o o1 o2:Oper} {i j:Nat}
def Okp (ops:Array Oper)(x y:Nat×Option Ef):Prop:=Pre ops x.1 y.1\/LL ops x y
theorem wu {e e':Ef}(h:Kq e e'=true):(∀ p∈e.wr,p.1 ∉ e'.rd/\∀ q∈e'.wr,q.1≠p.1)/\∀ p∈e'.wr,p.1 ∉ e.rd:=by
 unfold Kq at h
 obtain⟨h1,h2⟩:=ca.1 h
 refine⟨λ p hp=>?_,λ p hp=>?_⟩
 ·obtain⟨h3,h4⟩:=ca.1 (bR.1 h1 p hp)
  refine⟨by simpa using h3,λ q hq e=>?_⟩
  have:(e'.wr.any λ q=>q.1==p.1)=true:=List.any_eq_true.2 ⟨q,hq,by simpa using e⟩
  rw[this]at h4;cases h4
 ·simpa using bR.1 h2 p hp
theorem MS {x y:Nat×Option Ef}(h:tn ops (rp ops) x y=true):Okp ops x y:=by
 unfold tn at h
 rcases Bool.or_eq_true_iff.1 h with h|h
 ·exact .inl (Ju ops _ _ h)
 ·refine .inr λ o1 o2 h1 h2=>?_
  unfold Ki at h
  rw[h1,h2]at h
  obtain⟨h3,h4⟩:=ca.1 h
  obtain⟨i,e1⟩:=x
  obtain⟨j,e2⟩:=y
  cases e1 with
  | none=>exact⟨h3,λ p hp=>by simp[oS]at hp,λ p hp=>by simp[II]⟩
  | some e1 => cases e2 with
    | none=>exact⟨h3,λ p hp=>⟨by simp[II],λ q hq=>by simp[oS]at hq⟩,λ p hp=>by simp[oS]at hp⟩
    | some e2=>exact⟨h3,(wu h4).1,(wu h4).2⟩
theorem Ho {A:List Item->AS->Prop}{R0:α->Prop}{yes no:AS->Out α}(h:Sat P A R0 (qQ ops o s yes no)) :
  (Gd ops o s true/\Sat P A R0 (yes s))\/(Gd ops o s false/\Sat P A R0 (no s)):=by
 unfold qQ at h
 split at h
 ·rename_i hg
  exact .inl ⟨by simp[Gd,hg],h⟩
 ·rename_i j want hg
  split at h
  ·rename_i t ht
   split at h
   ·rename_i b hb
    have hv:s.tmps.getD t .dead=ck b:=by
     unfold AV.bool? at hb
     split at hb
     ·rename_i c hc;rw[hc];cases hb;rfl
     ·cases hb
    have hset:s.tmps.set t (ck b)=s.tmps:=by
     refine dE λ n=>?_
     rw[aP]
     by_cases hn:t=n
     ·subst hn
      rw[aE rfl]
      by_cases hl:t<s.tmps.length
      ·rw[aE hl,<-hv];simp[List.getD,hl]
      ·rw[aF hl];exact(aw (Nat.not_lt.1 hl)).symm
     ·rw[aF hn]
    have hs:({ s with tmps:=s.tmps.set t (ck b) }:AS)=s:=by rw[hset]
    cases b<;>cases want<;>simp only[aG,cf,hs]at h
    ·exact .inl ⟨by simp only[Gd,hg];exact⟨t,ht,.inl hv⟩,h⟩
    ·exact .inr ⟨by simp only[Gd,hg];exact⟨t,ht,.inl hv⟩,h⟩
    ·exact .inr ⟨by simp only[Gd,hg];exact⟨t,ht,.inl hv⟩,h⟩
    ·exact .inl ⟨by simp only[Gd,hg];exact⟨t,ht,.inl hv⟩,h⟩
   ·cases hq:(s.tmps.getD t .dead).gone
    ·rw[hq]at h;simp[Sat]at h
    ·rw[hq,aG]at h
     exact .inr ⟨by simp only[Gd,hg];exact⟨t,ht,.inr ⟨trivial,hq⟩⟩,h⟩
  ·simp[Sat]at h
theorem Bd {A:List Item->AS->Prop}{R0:α->Prop}{kk:AS->Out α}:∀ (rest:List Nat) (acc:List (Nat×Option Ef)) (s:AS),Sat P A R0 (wz P C S ops (rp ops) kk rest acc s) ->
  ∃ L s',L.map (·.1)=rest/\Tr P C S ops L s s'/\(∀ x∈L,∀ y∈acc,Okp ops y x)/\L.Pairwise (Okp ops)/\Sat P A R0 (kk s')
 | [],acc,s,h=>⟨[],s,rfl,.nil s,λ x hx=>by simp at hx,.nil,h⟩
 | i :: rest, acc, s, h => by
   unfold wz at h
   split at h
   ·rename_i o ho
    have fin:∀ (ef:Option Ef),OK1 P C S ops s i o ef->acc.all (λ x=>tn ops (rp ops) x (i,ef))=true->Sat P A R0 (wz P C S ops (rp ops) kk rest ((i,ef)::acc) (s.aft o ef)) ->
      ∃ L s',L.map (·.1)=i::rest/\Tr P C S ops L s s'/\(∀ x∈L,∀ y∈acc,Okp ops y x)/\L.Pairwise (Okp ops)/\Sat P A R0 (kk s'):=by
     intro ef h1 h2 h3
     obtain⟨L,s',g1,g2,g3,g4,g5⟩:=Bd rest _ _ h3
     refine⟨(i,ef)::L,s',by simp[g1],.cons ho h1 g2,λ x hx y hy=>?_,aR.2 ⟨λ x hx=>g3 x hx _ (by simp),g4⟩,g5⟩
     rcases aB.1 hx with rfl|hx
     ·exact MS (bR.1 h2 y hy)
     ·exact g3 x hx y (by simp[hy])
    rcases Ho h with⟨hg,h⟩|⟨hg,h⟩
    ·obtain⟨ef,hok,h⟩:=Jb h
     cases hc:acc.all (λ x=>tn ops (rp ops) x (i,some ef))
     ·rw[hc]at h;simp[Sat]at h
     ·rw[hc]at h
      exact fin (some ef) ⟨hg,λ e he=>by cases he;exact hok⟩ hc h
    ·cases hc:acc.all (λ x=>tn ops (rp ops) x (i,none))
     ·rw[hc]at h;simp[Sat]at h
     ·rw[hc]at h
      exact fin none ⟨hg,λ e he=>by cases he⟩ hc h
   ·simp[Sat]at h
theorem Hq {b:Bool}(hst:St E s a w K m free)(h:Gd ops o s b):Region.wanted o (yielded ops a.tmps)=b:=by
 unfold Gd at h
 split at h
 ·rename_i hg;subst h;simp[Region.wanted,hg]
 ·rename_i j want hg
  obtain⟨t,ht,hb⟩:=h
  rcases hb with hb|⟨hb,hq⟩
  case inr=>subst hb;exact rE hst ht hg hq
  have hv:a.tmps.getD t undef=.bool (b==want):=eZ (by rw[hb];rfl) (hst.tmp t)
  have hlt:t<a.tmps.size:=by
   rcases ax t a.tmps.size with h1|h1
   ·exact h1
   ·simp[Array.getD,Nat.not_lt.2 h1,undef]at hv
  have hy:yielded ops a.tmps j=some (b==want):=by
   have:a.tmps[t]?=some (.bool (b==want)):=by
    simp[Array.getD,hlt]at hv
    simp[hlt,hv]
   simp[yielded,ht,this]
  simp only[Region.wanted,hg,hy]
  cases b<;>cases want<;>rfl
theorem FF {o:Oper}{Kc:Act->World->Prop}{Q:Exit->Act->World->Prop}(hh:o.wp P a w Kc (λ _ _ _=>False)):o.wp P a w Kc Q:=by
 unfold Oper.wp at *
 generalize (execOp a.eval o).run P w=r at *
 cases r with
 | ok n w' =>
   cases n<;>simp only[Oper.upon]at hh ⊢ <;>
    first
     | exact hh
     | exact Calls.mono hh (λ e w'' he=>by
      cases e with
      | returned v=>exact he
      | panicked c=>exact he.elim
      | outgrown=>obtain⟨_,_,hq⟩:=he;exact hq.elim)
 | halt x w'=>cases x<;>simp only[Oper.upon]at hh ⊢<;>exact hh.elim
def ws (next size:Nat)(L:List (Nat×Option Ef)):Nat->Prop:=λ l=>next+8*size<=l\/∃ x∈L,next+8*x.1<=l/\l<next+8*x.1+8
theorem sZ {listed:Array Bool}{i:Nat}(h:i∈Region.ready .any ops listed) :
  i<ops.size/\listed.getD i true=false/\∀ o e,ops[i]?=some o->e∈o.after->Region.binds .any e=true->listed.getD e.on false=true:=by
 unfold Region.ready at h
 obtain⟨h1,h2⟩:=fT.1 h
 have hlt:=cI.1 h1
 obtain⟨h3,h4⟩:=ca.1 h2
 refine⟨hlt,by simpa using h3,λ o e ho he hb=>?_⟩
 rw[ho]at h4
 simp only[bt,gQ]at h4
 have:=lc.1 h4 e he
 rw[hb]at this
 simpa using this
theorem Ga {listed:Array Bool}{i:Nat}{o:Oper}(hi:i<ops.size)(ho:ops[i]?=some o)(hl:listed.getD i true=false)(h:∀ e,e∈o.after->Region.binds .any e=true->listed.getD e.on false=true) :
  i∈Region.ready .any ops listed:=by
 unfold Region.ready
 refine fT.2 ⟨cI.2 hi,?_⟩
 rw[hl,ho]
 simp only[kX,bt,gQ,cn]
 refine lc.2 λ e he=>?_
 cases hb:Region.binds .any e
 ·rfl
 ·rw[h e he hb];rfl
theorem HG {Q:Exit->Act->World->Prop}(htext:Dn ops=true){sEnd:AS} :
  ∀ (fuel:Nat) (listed:Array Bool) (L:List (Nat×Option Ef)) (s:AS) (s':AS),Same sEnd s'->Tr P C S ops L s s'->L.length<=fuel->listed.size=ops.size ->
   (∀ i,i∈L.map (·.1)↔i<ops.size/\listed.getD i true=false)->L.Pairwise (λ x y=>x.1<y.1)->L.Pairwise (Okp ops) ->
   (∀ i o e,ops[i]?=some o->listed.getD i false=true->e∈o.after->Region.binds .any e=true->listed.getD e.on false=true) ->
   (∀ a w K m,St E sEnd a w K m (λ l=>s.next+8*ops.size<=l)->Q .normal a w) ->
   ∀ a w K m,St E s a w K m (ws s.next ops.size L)->wpAny P .any ops Q fuel listed a w:=by
 intro fuel
 have empty:∀ (listed:Array Bool) (L:List (Nat×Option Ef)) (s s':AS),Same sEnd s'->Tr P C S ops L s s'->L=[]->(∀ a w K m,St E sEnd a w K m (λ l=>s.next+8*ops.size<=l)->Q .normal a w) ->
   ∀ a w K m,St E s a w K m (ws s.next ops.size L)->Q .normal a w:=by
  intro listed L s s' hsame htr hL hfin a w K m hst
  subst hL
  cases htr
  exact hfin a w K m ((hsame.symm.st hst).weaken (λ l hl=>.inl hl))
 have first:∀ (listed:Array Bool) (L:List (Nat×Option Ef)),(∀ i,i∈L.map (·.1)↔i<ops.size/\listed.getD i true=false)->listed.size=ops.size->L.Pairwise (λ x y=>x.1<y.1)->Region.ready .any ops listed=[]->L=[]:=by
  intro listed L hmem hsz hsort hr
  cases L with
  | nil=>rfl
  | cons x L =>
    exfalso
    have hx:=(hmem x.1).1 (by simp)
    obtain⟨o,ho⟩:∃ o,ops[x.1]?=some o:=⟨ops[x.1]'hx.1,bV hx.1⟩
    have:x.1∈Region.ready .any ops listed:=by
     refine Ga hx.1 ho hx.2 λ e he hb=>?_
     have hlt:=FP htext ho he hb
     have hno:e.on ∉ (x::L).map (·.1):=by
      intro hm
      simp only[bn,aB,aZ]at hm
      rcases hm with hm|⟨y,hy,hm⟩
      ·omega
      ·have:=(aR.1 hsort).1 y hy
       omega
     have h1:e.on<ops.size:=by omega
     have h2:listed.getD e.on true≠false:=λ q=>hno ((hmem e.on).2 ⟨h1,q⟩)
     have h3:e.on<listed.size:=by omega
     simp only[Array.getD,h3,kn]at h2 ⊢
     simpa using h2
    rw[hr]at this
    cases this
 induction fuel with
 | zero =>
   intro listed L s s' hsame htr hlen hsz hmem hsort hok hcl hfin a w K m hst
   have hL:L=[]:=ay (by omega)
   refine⟨?_,empty listed L s s' hsame htr hL hfin a w K m hst⟩
   subst hL
   rw[List.eq_nil_iff_forall_not_mem]
   intro i hi
   obtain⟨h1,h2,_⟩:=sZ hi
   have:=(hmem i).2 ⟨h1,h2⟩
   cases this
 | succ fuel ih =>
   intro listed L s s' hsame htr hlen hsz hmem hsort hok hcl hfin a w K m hst
   refine⟨λ hr=>empty listed L s s' hsame htr (first listed L hmem hsz hsort hr) hfin a w K m hst,λ i hi=>?_⟩
   obtain⟨hlt,hun,hrdy⟩:=sZ hi
   have him:=(hmem i).2 ⟨hlt,hun⟩
   obtain⟨x,hx,rfl⟩:=aZ.1 him
   obtain⟨L1,L2,rfl⟩:=List.append_of_mem hx
   obtain⟨o,ho⟩:∃ o,ops[x.1]?=some o:=⟨ops[x.1]'hlt,bV hlt⟩
   have hpre:∀ j,Pre ops j x.1->listed.getD j false=true:=by
    have hgen:∀ j i,Pre ops j i->(∀ o e,ops[i]?=some o->e∈o.after->Region.binds .any e=true->listed.getD e.on false=true)->listed.getD j false=true:=by
     intro j i hp
     induction hp with
     | edge ho he hb=>exact λ h=>h _ _ ho he hb
     | step ho he hb hp ih=>exact λ h=>ih (λ o' e' ho' he' hb'=>hcl _ _ _ ho' (h _ _ ho he hb) he' hb')
    exact λ j hp=>hgen j _ hp hrdy
   have hfree:∀ y∈L1,LL ops y x:=by
    intro y hy
    have h1:Okp ops y x:=(eB.1 hok).2.2 y hy x (by simp)
    rcases h1 with h1|h1
    ·exfalso
     have h2:=hpre _ h1
     have h3:=((hmem y.1).1 (aZ.2 ⟨y,by simp[hy],rfl⟩)).2
     have h4:y.1<listed.size:=by
      have:=((hmem y.1).1 (aZ.2 ⟨y,by simp[hy],rfl⟩)).1
      omega
     simp only[Array.getD,h4,kn]at h2 h3
     rw[h2]at h3;cases h3
    ·exact h1
   obtain⟨s'',htr',hs''⟩:=htr.bubble hfree
   have hsort':(L1++L2).Pairwise (λ x y=>x.1<y.1):=hsort.sublist (by simp)
   have hok':(L1++L2).Pairwise (Okp ops):=hok.sublist (by simp)
   have hnot:x.1 ∉ (L1++L2).map (·.1):=by
    intro hm
    obtain⟨y,hy,he⟩:=aZ.1 hm
    rcases az.1 hy with hy|hy
    ·have:=(eB.1 hsort).2.2 y hy x (by simp)
     omega
    ·have:=(aR.1 (eB.1 hsort).2.1).1 y hy
     omega
   have hszx:x.1<listed.size:=by omega
   have hget:∀ (b:Bool) (n:Nat),(listed.setIfInBounds x.1 true).getD n b=if n=x.1 then true else listed.getD n b:=by
    intro b n
    by_cases hn:n=x.1
    ·subst hn;simp[Array.getD,hszx]
    ·rw[aF hn]
     have hn':x.1≠n:=λ e=>hn e.symm
     by_cases hl:n<listed.size
     ·simp[Array.getD,hl,hn']
     ·simp[Array.getD,hl]
   have hmem':∀ i,i∈(L1++L2).map (·.1)↔i<ops.size/\(listed.setIfInBounds x.1 true).getD i true=false:=by
    intro i
    rw[hget]
    constructor
    ·intro h
     have hne:i≠x.1:=λ e=>hnot (by rw[<-e];exact h)
     rw[aF hne]
     refine(hmem i).1 ?_
     simp only[bT,bn,az,aB]at h ⊢
     rcases h with h|h
     ·exact .inl h
     ·exact .inr (.inr h)
    ·rintro⟨h1,h2⟩
     by_cases hne:i=x.1
     ·rw[aE hne]at h2;cases h2
     ·rw[aF hne]at h2
      have:=(hmem i).2 ⟨h1,h2⟩
      simp only[bT,bn,az,aB]at this ⊢
      rcases this with h|h|h
      ·exact .inl h
      ·exact absurd h hne
      ·exact .inr h
   have hcl':∀ i o e,ops[i]?=some o->(listed.setIfInBounds x.1 true).getD i false=true->e∈o.after->Region.binds .any e=true->(listed.setIfInBounds x.1 true).getD e.on false=true:=by
    intro i' o' e' ho' hl' he' hb'
    rw[hget]at hl' ⊢
    by_cases hq:e'.on=x.1
    ·rw[aE hq]
    ·rw[aF hq]
     by_cases hi':i'=x.1
     ·subst hi';exact hrdy _ _ ho' he' hb'
     ·rw[aF hi']at hl';exact hcl _ _ _ ho' hl' he' hb'
   have hrest:∀ (ef:Option Ef),x.2=ef->∀ t,Tr P C S ops (L1++L2) t s''->t.next=s.next->∀ a' w' K' m',St E t a' w' K' m' (ws s.next ops.size (L1++L2)) ->
     wpAny P .any ops Q fuel (listed.setIfInBounds x.1 true) a' w':=by
    intro ef hef t ht hn a' w' K' m' hst'
    refine ih _ (L1++L2) t s'' (hsame.trans hs'') ht ?_ (by simpa using hsz) hmem' hsort' hok' hcl' (by rw[hn];exact hfin) a' w' K' m' (by rw[hn];exact hst')
    simp only[al,af]at hlen ⊢
    omega
   have hfr:∀ l,ws s.next ops.size (L1++L2) l->ws s.next ops.size (L1++x::L2) l/\¬ (s.next+8*x.1<=l/\l<s.next+8*x.1+8):=by
    rintro l (h|⟨y,hy,hl1,hl2⟩)
    ·exact⟨.inl h,by omega⟩
    ·refine⟨.inr ⟨y,?_,hl1,hl2⟩,λ e=>hnot (aZ.2 ⟨y,hy,by omega⟩)⟩
     rcases az.1 hy with hy|hy<;>simp[hy]
   obtain⟨xi,xe⟩:=x
   cases htr' with
   | @cons _ _ o' _ _ _ ho' hok1 hr' =>
     rw[ho]at ho'
     cases ho'
     unfold wpOp
     rw[ho]
     simp only
     have hwan:=Hq hst hok1.gd
     cases xe with
     | none =>
       have hwan:Region.wanted o (yielded ops a.tmps)=false:=hwan
       rw[hwan]
       refine hrest none rfl _ hr' rfl _ _ K m ?_
       exact(hst.put o.dst (v:=.d (.v undef)) (u:=undef) (.d _ _ (.v _)) hst.mem (Ext.refl _ _ _ _)).weaken (λ l hl=>(hfr l hl).1)
     | some e =>
       have hwan:Region.wanted o (yielded ops a.tmps)=true:=hwan
       rw[hwan]
       simp only[mU]
       refine .inl ?_
       have h1:=DI (o:=o) (nm:=s.next+8*xi) hst (λ k hk=>.inr ⟨(xi,some e),by simp,by simp only;omega,by simp only;omega⟩) (hok1.ok e rfl)
       have h2:o.wp P a w (λ a' w'=>wpAny P .any ops Q fuel (listed.setIfInBounds xi true) a' w') (λ _ _ _=>False):=
        Oper.wp_mono (by
         rintro a' w' ⟨K',m',hst'⟩
         exact hrest (some e) rfl _ hr' rfl a' w' K' m' (hst'.weaken hfr)) h1
       exact FF h2
end Go.VL
namespace Go.VL
variable {P:Program} {C:cd} {S:fw} {E:Entry} {w:World} {K:Nat->Prop} {m:Nat->Option (Option Nat)} {free:Nat->Prop} {H:Heap}
 {F:Fm} {f:FuncId} {R:Ending->World->Prop} {a:Act} {k:List Item} {s t s':AS} {α:Type}
theorem vF {m:Nat}:∀ (l:List AV) (k i:Nat),(nB m k l)[i]?=(l[i]?).map λ x=>bif m.testBit (k+i)then x else .dead
 | [],k,i=>by simp[nB]
 | a::l,k,0=>by simp[nB]
 | a :: l, k, i + 1 => by
   have:=vF (m:=m) l (k+1) i
   have e:k+1+i=k+(i+1):=by omega
   rw[e]at this
   simpa[nB]using this
theorem pK {m:Nat}:∀ (l:List AV) (k:Nat),(nB m k l).length=l.length
 | [],k=>rfl
 | a::l,k=>by simp[nB,pK l]
theorem St.canon (hst:St E s a w K m free){n0 live:Nat}(hn0:E.n<=n0)(hf:∀ l,s.next<=l->free l):∃ m',St E (s.canon n0 live) a w K m' (λ l=>(s.canon n0 live).next<=l):=by
 unfold AS.canon
 simp only
 cases hc:(jR (eN s.H 200 0 (ka (List.range n0) (fE (nB live 0 s.tmps))))&&oX n0 (eN s.H 200 0 (ka (List.range n0) (fE (nB live 0 s.tmps)))))
 ·exact⟨m,hst.weaken hf⟩
 ·obtain⟨h1,h2⟩:=ca.1 hc
  simp only[aG]
  generalize eN s.H 200 0 (ka (List.range n0) (fE (nB live 0 s.tmps)))=ns at h1 h2
  refine⟨mOf m ns,by rw[eu,pK];exact hst.len,λ i x v hx hv=>?_,hst.defers,hst.mem.ren (lv h1) (λ i hi=>nl h2 i (by omega))⟩
  simp only at hx
  rw[gY]at hx
  obtain⟨y,hy,rfl⟩:=ac.1 hx
  rw[vF]at hy
  obtain⟨z,hz,rfl⟩:=ac.1 hy
  cases live.testBit (0+i)
  ·simp only[cf,AV.ren];exact .dead _
  ·simp only[aG];exact sf (hst.tmps i z v hz hv)
theorem jD {k:List Item}(h:ik k=true)(hk:nA k):noReg k:=by
 unfold nA at hk
 split at hk
 ·cases h
 ·exact hk
theorem ASat.canon {todo:List Item}(hh:ik todo=true){n0 live:Nat}(hn0:E.n<=n0)(h:ASat P F E todo (s.canon n0 live)):ASat P F E todo s:=by
 intro hok a w K m hst
 have hn:=jD hh hok
 obtain⟨m',hst'⟩:=hst.canon (live:=live) hn0 (λ l hl=>(cg hn _ _).2 hl)
 exact h hok a w K m' (hst'.weaken (λ l hl=>(cg hn _ _).1 hl))
end Go.VL
namespace Go.VL
variable {P:Program} {C:cd} {S:fw} {E:Entry} {w:World} {K:Nat->Prop} {m:Nat->Option (Option Nat)} {free:Nat->Prop} {H:Heap}
 {F:Fm} {f:FuncId} {R:Ending->World->Prop} {a:Act} {k:List Item} {s:AS} {α:Type}
theorem LV {ops:Array Oper}{L:List (Nat×Option Ef)}{s s':AS}(h:Tr P C S ops L s s'):s'.next=s.next:=by
 induction h with
 | nil s=>rfl
 | cons ho h hr ih=>rw[ih,kR]
theorem Ext.drawn (w:World)(K:Nat->Prop)(m:Nat->Option (Option Nat))(H:Heap):Ext w K m H { w with drawn:=w.drawn+1 } K m H:=
 ⟨λ _ h=>h,λ _ _=>rfl,λ _ _ h=>h,λ _ _ h=>h,λ _ _ _ xs _ h=>⟨xs,h,rfl⟩⟩
theorem Mem.drawn (h:Mem E w K m H free):Mem E { w with drawn:=w.drawn+1 } K m H free:=
 { os := h.os, tape := h.tape, output := h.output, size := h.size, keep := h.keep, Kmono := h.Kmono, Klt := h.Klt, Knew := h.Knew, mold := h.mold, mnew := h.mnew, mlt := h.mlt, mfree := h.mfree, fnew := h.fnew,
   heap:=λ l b hb=>BlkRel.ext (Ext.drawn w K m H) (h.heap l b hb) (λ _ _=>rfl)
   own:=h.own,inj:=h.inj,shape:=h.shape,frozen:=h.frozen,gok:=h.gok.ext (λ _ h=>h) (λ _ _=>rfl) }
theorem St.drawn (h:St E s a w K m free):St E s a { w with drawn:=w.drawn+1 } K m free:=
 ⟨h.len,λ i x v hx hv=>Rel.ext (Ext.drawn w K m s.H) (h.tmps i x v hx hv),h.defers,h.mem.drawn⟩
theorem xV {fn:Func}{fin:Fin α}{R0:α->Prop}(hf:P.funcs[f]?=some fn)(h:wK P fn E fin R0 R):LM P fn E fin R0 (.fn P f R):=by
 intro s a w K m free vs x p todo hst hvs hx hp h0 ht
 obtain⟨v,hr,hR⟩:=h s a w K m free vs x p hst hvs hx hp h0
 exact Runs.ret hf hr hR ht
theorem rQ {fn:Func}{fin:Fin α}{R0:α->Prop}(hmx:P.follows .mixedOrders=true)(hfin:LM P fn E fin R0 F){n0:Nat}{cu:Cuts}(hn0:E.n<=n0) :
  ∀ (n:Nat) (fst:Bool) (todo:List Item) (s:AS),Sat P (ASat P F E) R0 (bh P C S fn fin n0 cu n fst todo s)->ASat P F E todo s
 | 0,_,todo,s,h=>by simp[bh,Sat]at h
 | n + 1, fst, todo, s, h => by
   intro hok a w K m hst
   have IH:=λ todo s h=>rQ (cu:=cu) hmx hfin hn0 n false todo s h
   have hret:Sat P (ASat P F E) R0 (Mt P fn fin s)->(todo=[]\/∃ k,todo=.code .ret::k)->Runs P F a w todo:=by
    intro h ht
    unfold Mt at h
    split at h
    ·rename_i vs hvs
     split at h
     ·rename_i x p hx
      obtain⟨hp,h⟩:=h
      exact hfin s a w K m _ vs x p todo hst hvs hx hp h ht
     ·simp[Sat]at h
    ·simp[Sat]at h
   have go:∀ {todo':List Item} {s':AS} {a':Act},noReg todo->noReg todo'->s'.next=s.next->(∀ {fr:Nat->Prop},St E s a w K m fr->St E s' a' w K m fr) ->
     Sat P (ASat P F E) R0 (bh P C S fn fin n0 cu n false todo' s')->Runs P F a' w todo':=by
    intro todo' s' a' h1 h2 h3 h4 h5
    refine IH _ _ h5 (jh h2) _ w K m ((h4 hst).weaken (λ l hl=>?_))
    rw[cg h2,h3]at hl
    rw[cg h1];exact hl
   unfold bh at h
   split at h
   ·cases hcu:(cu.ret && !fst)
    ·rw[hcu]at h;exact hret h (.inl rfl)
    ·rw[hcu]at h;exact ASat.canon rfl hn0 h hok a w K m hst
   ·rename_i k
    cases hcu:(cu.ret && !fst)
    ·rw[hcu]at h;exact hret h (.inr ⟨_,rfl⟩)
    ·rw[hcu]at h;exact ASat.canon rfl hn0 h hok a w K m hst
   ·exact Runs.next (λ b cs=>stepR_skip) (go hok (noReg.tail hok) rfl id h)
   ·exact Runs.next (λ b cs=>stepR_label) (go hok (noReg.tail hok) rfl id h)
   ·exact Runs.next (λ b cs=>stepR_inBlock) (go hok (noReg.tail hok) rfl id h)
   ·exact Runs.next (λ b cs=>sM) (go hok (noReg.tail hok) rfl id h)
   ·exact Runs.next (λ b cs=>stepR_seq) (go hok (((noReg.tail hok).cons (by simp)).cons (by simp)) rfl id h)
   ·rename_i c t e k
    split at h
    ·rename_i b hb
     have hv:=eZ hb (hst.ev c)
     cases b
     ·simp only[cf]at h
      exact Runs.next (λ b cs=>stepR_cond hv) (go hok ((noReg.tail hok).cons (by simp)) rfl id h)
     ·simp only[aG]at h
      exact Runs.next (λ b cs=>stepR_cond hv) (go hok ((noReg.tail hok).cons (by simp)) rfl id h)
    ·simp[Sat]at h
   ·exact Runs.next (λ b cs=>stepR_block) (go hok (((noReg.tail hok).cons (by simp)).cons (by simp)) rfl id h)
   ·rename_i b k
    have h2:noReg (.code b::.inLoop b::k):=((noReg.tail hok).cons (by simp)).cons (by simp)
    exact Runs.next (λ b cs=>stepR_loop) (ASat.canon rfl hn0 h (jh h2) a w K m (hst.weaken (λ l hl=>by rw[cg h2]at hl;rw[cg hok];exact hl)))
   ·rename_i b k
    have h2:noReg (.code b::.inLoop b::k):=((noReg.tail hok).cons (by simp)).cons (by simp)
    exact Runs.next (λ b cs=>stepR_inLoop) (ASat.canon rfl hn0 h (jh h2) a w K m (hst.weaken (λ l hl=>by rw[cg h2]at hl;rw[cg hok];exact hl)))
   ·exact Runs.next (λ b cs=>wY) (go hok (((noReg.tail hok).cons (by simp)).cons (by simp)) rfl id h)
   ·rename_i id k
    split at h
    ·rename_i k' hk'
     exact Runs.next (λ b cs=>stepR_exit hk') (go hok (oZ hk' (noReg.tail hok)) rfl (λ x=>x) h)
    ·exact ASat.canon rfl hn0 h hok a w K m hst
   ·exact ASat.canon rfl hn0 h hok a w K m hst
   ·exact ASat.canon rfl hn0 h hok a w K m hst
   ·rename_i id ops draw k
    cases hcu:(cu.reg.contains id && !fst)
    case true=>rw[hcu]at h;exact ASat.canon rfl hn0 h hok a w K m hst
    rw[hcu]at h
    simp only[cf]at h
    cases draw
    ·simp only[cf]at h
     refine Runs.next (λ b cs=>stepR_region) (IH _ _ h ⟨⟨List.nodup_range,λ i hi=>by simpa using hi⟩,noReg.tail hok⟩ a w K m (hst.weaken (λ l hl=>?_)))
     rw[cg hok]
     simp only[kM]at hl
     rcases hl with hl|⟨i,_,_,hl,_⟩<;>omega
    ·simp only[aG]at h
     cases htext:Dn ops
     ·rw[htext]at h;simp[Sat]at h
     rw[htext]at h
     simp only[aG]at h
     obtain⟨L,s',hL,htr,_,hok2,hsat⟩:=Bd _ _ _ h
     refine Runs.drawAny hmx hst.defers ?_
     have hnk:=noReg.tail hok
     have hst':St E s a { w with drawn:=w.drawn+1 } K m (ws s.next ops.size L):=by
      have h0:=hst.drawn
      refine h0.weaken (λ l hl=>?_)
      rw[cg hok]
      rcases hl with hl|⟨x,_,hl,_⟩<;>omega
     refine HG htext _ _ L s s' (Same.refl _) htr ?_ (by simp) (λ i=>?_) ?_ hok2 (λ i o e _ hl=>?_) (λ a w K m hst=>⟨rfl,hst.defers,?_⟩) _ _ _ _ hst'
     ·have:=congrArg List.length hL
      simp only[bH,lD]at this
      omega
     ·rw[hL,cI]
      constructor
      ·intro hi
       exact⟨hi,by simp[Array.getD,hi]⟩
      ·exact λ h=>h.1
     ·have h1:(L.map (·.1)).Pairwise (· < ·):=by rw[hL];exact List.pairwise_lt_range
      exact List.pairwise_map.1 h1
     ·exfalso
      by_cases hi:i<ops.size<;>simp[Array.getD,hi]at hl
     ·refine IH _ _ hsat (jh hnk) _ _ _ _ ((hst.next_ (s'.next+8*ops.size)).weaken (λ l hl=>?_))
      rw[cg hnk]at hl
      have hl:s'.next+8*ops.size<=l:=hl
      rw[<-LV htr];exact hl
   ·rename_i ops k
    obtain⟨_,hnk⟩:=hok
    refine Runs.next (λ b cs=>stepR_region_end) (IH _ _ h (jh hnk) a w K m ((hst.next_ (s.next+8*ops.size)).weaken (λ l hl=>?_)))
    rw[cg hnk]at hl
    exact .inl hl
   ·rename_i ops i rest k
    split at h
    ·rename_i o ho
     obtain⟨⟨hnd,hlt⟩,hnk⟩:=hok
     obtain⟨s',hn',hst',hcase⟩:=xP hst h
     have hok':nA (Item.inRegion ops rest::k):=⟨⟨(hU.1 hnd).2,λ j hj=>hlt j (by simp[hj])⟩,hnk⟩
     have hback:∀ l,kM (Item.inRegion ops rest::k) s.next l->kM (Item.inRegion ops (i::rest)::k) s.next l/\¬ (s.next+8*i<=l/\l<s.next+8*i+8):=by
      intro l hl
      simp only[kM]at hl ⊢
      have hi:=hlt i (by simp)
      rcases hl with hl|⟨j,hj,hjs,hl1,hl2⟩
      ·exact⟨.inl hl,by omega⟩
      ·refine⟨.inr ⟨j,by simp[hj],hjs,hl1,hl2⟩,λ e=>?_⟩
       have:j=i:=by omega
       subst this
       exact(hU.1 hnd).1 hj
     rcases hcase with⟨hw,h⟩|⟨hw,h⟩
     ·cases hy:HL s'.ev o
      case true=>
       rw[hy]at h
       exact h ⟨⟨hnd,hlt⟩,hnk⟩ a w K m (by rw[hn'];exact hst')
      rw[hy]at h
      simp only[cf]at h
      refine Gx ho hw (s:=s') hst' ?_ (λ s2 hn2 h2 a' w' K' m' hst2=>IH _ _ h2 hok' a' w' K' m' (hst2.weaken (λ l hl=>?_))) h
      ·intro q hq;rw[hn'];exact .inr ⟨i,by simp,hlt i (by simp),by omega,by omega⟩
      ·rw[hn2,hn']at hl;rw[hn'];exact hback l hl
     ·refine Runs.opSkip ho hw (IH _ _ h hok' _ w K m ((hst'.put o.dst (v:=.d (.v undef)) (u:=undef) (.d _ _ (.v _)) hst'.mem (Ext.refl _ _ _ _)).weaken (λ l hl=>?_)))
      simp only[hn']at hl
      exact(hback l hl).1
    ·simp[Sat]at h
   ·simp[Sat]at h
end Go.VL
namespace Go.VL
variable {P:Program} {C:cd} {S:fw} {E:Entry} {w:World} {K:Nat->Prop} {m:Nat->Option (Option Nat)} {free:Nat->Prop} {H:Heap}
 {f:FuncId} {R:Ending->World->Prop} {a:Act} {k:List Item} {s:AS} {α:Type}
theorem sX (hst:St E s a w K m free):∀ {rs:List ResultVar} {as:List AV},uL P s rs=some as ->
  ∃ vs:List Value,(rs.mapM λ r=>(match r with | .tmp t=>pure (a.tmps.getD t undef) | .cell c t=>do loadVar t (<-asAddr (a.tmps.getD c undef)):Sem Value)).run P w=.ok vs w/\vs.length=as.length /\
   ∀ (i:Nat) (x:AV) (v:Value),as[i]?=some x->vs[i]?=some v->Rel w K m s.H x v
 | [], as, h => by
   simp only[uL,ag]at h
   subst h
   exact⟨[],rfl,rfl,λ i x v h=>by simp at h⟩
 | .tmp t :: rs, as, h => by
   simp only[uL,ac]at h
   obtain⟨as',h,rfl⟩:=h
   obtain⟨vs,h1,h2,h3⟩:=sX hst h
   refine⟨a.tmps.getD t undef::vs,?_,by simp[h2],λ i x v hx hv=>?_⟩
   ·rw[List.mapM_cons]
    simp only[Sem.run_bind,Sem.run_pure,Result.andThen_ok,h1]
   ·cases i with
    | zero=>simp only[bp,ag]at hx hv;subst hx;subst hv;exact hst.tmp t
    | succ i=>exact h3 i x v (by simpa using hx) (by simpa using hv)
 | .cell c t :: rs, as, h => by
   simp only[uL]at h
   split at h
   ·rename_i l fo hc
    split at h
    ·rename_i cells hg
     simp only[aa,ac]at h
     obtain⟨x0,hx0,as',h,rfl⟩:=h
     obtain⟨vs,h1,h2,h3⟩:=sX hst h
     have hr:=hst.tmp c
     rw[hc]at hr
     generalize hgv:a.tmps.getD c undef=cv at hr
     cases hr with
     | ptr _ _ b hm =>
       obtain⟨u,hu,hur⟩:=rB (P:=P) hx0 (Fd hst.mem hg hm)
       rw[cE]at hu
       refine⟨u::vs,?_,by simp[h2],λ i x v hx hv=>?_⟩
       ·have hasA:(asAddr (a.tmps.getD c undef)).run P w=.ok ⟨b,fo,none⟩ w:=by rw[hgv];rfl
        rw[List.mapM_cons]
        simp only[Sem.run_bind,hasA,Sem.run_pure,Result.andThen_ok,hu,h1]
       ·cases i with
        | zero=>simp only[bp,ag]at hx hv;subst hx;subst hv;exact hur
        | succ i=>exact h3 i x v (by simpa using hx) (by simpa using hv)
    ·cases h
   ·cases h
theorem rk (hst:St E s a w K m free){fn:Func}{as:List AV}(h:uL P s fn.results.toList=some as) :
  ∃ vs:List Value,(results fn a.tmps).run P w=.ok (if h:vs.toArray.size=1 then vs.toArray[0]else .tuple vs.toArray) w/\vs.length=as.length /\
   ∀ (i:Nat) (x:AV) (v:Value),as[i]?=some x->vs[i]?=some v->Rel w K m s.H x v:=by
 obtain⟨vs,h1,h2,h3⟩:=sX hst h
 refine⟨vs,?_,h2,h3⟩
 have hm:(fn.results.mapM λ r=>(match r with | .tmp t=>pure (a.tmps.getD t undef) | .cell c t=>do loadVar t (<-asAddr (a.tmps.getD c undef)):Sem Value)).run P w=.ok vs.toArray w:=by
  rw[Array.mapM_eq_mapM_toList]
  show(List.toArray <$> _:Sem _).run P w=_
  rw[map_eq_pure_bind]
  simp only[Sem.run_bind,h1,Result.andThen_ok,Sem.run_pure]
 unfold results
 rw[Sem.run_bind]
 exact(congrArg (λ r=>Result.andThen r _) hm).trans rfl
def yq (E:Entry)(ts:List Ty)(x:bc ts)(e:Ending)(w':World):Prop:=
 ∃ v K',e=.returned v/\gj w' K' (lu ts x) v/\(∀ b,E.K b->K' b)/\(∀ b,K' b->E.K b\/E.w.heap.size<=b)/\(∀ b,K' b->b<w'.heap.size)/\RowKit.Below E.w.heap.size E.w w'
def aS (ts:List Ty):Fin (bc ts):=λ vs H=>(HY H ts vs).map λ q=>(q.1,q.2.1)
theorem qt {K1 K2:Nat->Prop}{b:AV}{v:Value}(hK:∀ b,K1 b->K2 b)(h:gj w K1 b v):gj w K2 b v:=
 h.ext ⟨hK,λ _ _=>rfl,λ _ _ h=>h,λ _ _ h=>h,λ l T t xs hm=>absurd rfl hm⟩
def qo (E:Entry)(w:World)(K:Nat->Prop)(m:Nat->Option (Option Nat))(H:Heap)(ts:List Ty):Prop:=
 ∀ (as:List AV) (x:bc ts) (p:Prop) (fz:List Nat),HY H ts as=some (x,p,fz)->p->∀ (vs:List Value),vs.length=as.length ->
  (∀ (i:Nat) (y:AV) (v:Value),as[i]?=some y->vs[i]?=some v->Rel w K m H y v) ->
  (iV ts x).length=vs.length/\(∀ (i:Nat) (y:AV) (v:Value),(iV ts x)[i]?=some y->vs[i]?=some v->gj w (KF K m fz) y v)/\∀ l∈fz,∃ blk,H.get l=some blk
theorem GD {β:Type}{as:List AV}{r x:β}(h:SF as r=some x):as=[]/\r=x:=by
 cases as with
 | nil=>exact⟨rfl,aJ h⟩
 | cons=>cases h
theorem Gz {β:Type}{as:List AV}{k:AV->Option β}{x:β}(h:SB as k=some x):∃ a,as=[a]/\k a=some x:=by
 match as,h with
 | [a],h=>exact⟨a,rfl,h⟩
theorem CQ {β:Type}{as:List AV}{k:AV->List AV->Option β}{x:β}(h:Ox as k=some x):∃ a as',as=a::as'/\k a as'=some x:=by
 match as,h with
 | a::as,h=>exact⟨a,as,rfl,h⟩
theorem EN {α:Type}(i:Nat)(y:α)(h:([]:List α)[i]?=some y):False:=by simp at h
theorem FM (E:Entry)(w:World)(K:Nat->Prop)(m:Nat->Option (Option Nat))(H:Heap):qo E w K m H []:=by
 intro as x p fz h hp vs hl hr
 obtain⟨rfl,h2⟩:=GD h
 have h3:[]=fz:=congrArg (λ q=>q.2.2) h2
 subst h3
 refine⟨hl.symm,λ i y v h=>(EN i y h).elim,λ l hl=>?_⟩
 cases hl
theorem FL (hM:Mem E w K m H free)(t:Ty):qo E w K m H [t]:=by
 intro as x p fz h hp vs hl hr
 obtain⟨y,rfl,h⟩:=Gz h
 match vs,hl with
 | [v], hl =>
   obtain⟨h1,h2⟩:=pw hM h hp (hr 0 y v rfl rfl)
   refine⟨rfl,λ i z u hz hu=>?_,h2⟩
   cases i with
   | zero =>
     have hz:AV.ofTy t x=z:=aJ hz
     have hu:v=u:=aJ hu
     subst hz;subst hu;exact h1
   | succ i=>exact(EN i z hz).elim
theorem BG (hM:Mem E w K m H free)(t t':Ty)(ts:List Ty)(ih:qo E w K m H (t'::ts)):qo E w K m H (t::t'::ts):=by
 intro as x p fz h hp vs hl hr
 obtain⟨y,as',rfl,h⟩:=CQ h
 match vs,hl,hr with
 | v :: vs, hl, hr =>
   obtain⟨⟨x1,p1,l1⟩,h1,h⟩:=aa.1 h
   obtain⟨⟨xs,p2,l2⟩,h2,h3⟩:=ac.1 h
   have e1:x=(x1,xs):=(congrArg (λ q=>q.1) h3).symm
   have e2:p=(p1/\p2):=(congrArg (λ q=>q.2.1) h3).symm
   have e3:fz=l1++l2:=(congrArg (λ q=>q.2.2) h3).symm
   subst e1;subst e2;subst e3
   obtain⟨g1,g2⟩:=pw hM h1 hp.1 (hr 0 y v rfl rfl)
   obtain⟨g3,g4,g5⟩:=ih as' xs p2 l2 h2 hp.2 vs (Nat.succ.inj hl) (λ i z u hz hu=>hr (i+1) z u hz hu)
   refine⟨congrArg Nat.succ g3,λ i z u hz hu=>?_,λ l hl=>?_⟩
   ·cases i with
    | zero =>
      have hz:AV.ofTy t x1=z:=aJ hz
      have hu:v=u:=aJ hu
      subst hz;subst hu
      refine qt (λ b hb=>?_) g1
      rcases hb with hb|⟨l,hl,hm⟩
      ·exact .inl hb
      ·exact .inr ⟨l,az.2 (.inl hl),hm⟩
    | succ i =>
      refine qt (λ b hb=>?_) (g4 i z u hz hu)
      rcases hb with hb|⟨l,hl,hm⟩
      ·exact .inl hb
      ·exact .inr ⟨l,az.2 (.inr hl),hm⟩
   ·rcases az.1 hl with hl|hl
    ·exact g2 l hl
    ·exact g5 l hl
theorem vh (hM:Mem E w K m H free):∀ ts:List Ty,qo E w K m H ts
 | []=>FM E w K m H
 | [t]=>FL hM t
 | t::t'::ts=>BG hM t t' ts (vh hM (t'::ts))
theorem FK {ts:List Ty}{x:bc ts}{vs:List Value}{K':Nat->Prop}(hl:(iV ts x).length=vs.length)(h:∀ (i:Nat) (y:AV) (v:Value),(iV ts x)[i]?=some y->vs[i]?=some v->gj w K' y v) :
  gj w K' (lu ts x) (if h:vs.toArray.size=1 then vs.toArray[0]else .tuple vs.toArray):=by
 match ts,x,hl,h with
 | [], _, hl, h =>
   have:vs=[]:=ay (by simpa[iV]using hl.symm)
   subst this
   exact .tup [] _ rfl (λ i a v h=>by simp at h)
 | [t], x, hl, h =>
   match vs,hl with
   | [v],_=>exact h 0 _ v rfl rfl
 | t :: t' :: ts, x, hl, h =>
   match vs,hl with
   | [v], hl =>
     exfalso
     have hl:(AV.ofTy t x.1::iV (t'::ts) x.2).length=1:=hl
     have:0<(iV (t'::ts) x.2).length:=by cases ts<;>simp[iV]
     simp only[af]at hl
     omega
   | [],hl=>simp[iV]at hl
   | v :: v' :: vs, hl =>
     have hn:¬ (v::v'::vs).toArray.size=1:=by simp
     rw[dif_neg hn]
     exact .tup _ _ (by simpa using hl.symm) (λ i y u hy hu=>h i y u hy (by simpa using hu))
theorem IT (w0:World)(K0:Nat->Prop)(hK0:∀ b,K0 b->b<w0.heap.size){fn:Func}(ts:List Ty)(x0:bc ts) :
  wK P fn ⟨w0,K0,λ _=>none,0⟩ (aS ts) (·=x0) (yq ⟨w0,K0,λ _=>none,0⟩ ts x0):=by
 intro s a w K m free avs x p hst hres hfin hp hx
 simp only[aS,ac,Prod.exists,bB]at hfin
 obtain⟨x',p',fz,hto,rfl,rfl⟩:=hfin
 subst hx
 obtain⟨vs,hrun,hlen,hrel⟩:=rk (P:=P) hst hres
 obtain⟨h1,h2,h3⟩:=vh hst.mem ts _ _ _ _ hto hp vs hlen hrel
 obtain⟨K1,g1,e1,hk1⟩:=Mem.gives fz hst.mem
 have hKF:=mj e1.hK h3 hk1
 refine⟨_,hrun,_,K1,rfl,qt hKF (FK h1 h2),g1.Kmono,λ b hb=>?_,g1.Klt,?_⟩
 ·rcases g1.Knew b hb with h|h|⟨l,hl,_⟩
  ·exact .inl h
  ·exact .inr h
  ·exact absurd hl (bL _)
 ·exact⟨g1.os,g1.tape,g1.output,g1.size,λ b hb=>g1.keep b hb (λ l hl=>absurd hl (bL _))⟩
def fB (fn:Func)(args:List Arg):AS:=⟨args.map (λ x=>AV.ofTy x.1 x.2)++List.replicate (fn.ntmps-args.length) (.d (.v undef)),[],0⟩
def cB (fn:Func):List Item:=match fn.body with|some c=>[.code c]|none=>[]
theorem yJ.of_sat {fn:Func}(hf:P.funcs[f]?=some fn)(hb:fn.body.isSome=true){args:List Arg}{ts:List Ty}{x:bc ts}(hnt:args.length<=fn.ntmps)
  (h:∀ E,E.n=0->(∀ b,E.K b->b<E.w.heap.size)->wK P fn E (aS ts) (·=x) (yq E ts x)->ASat P (.fn P f (yq E ts x)) E (cB fn) (fB fn args)):yJ P f args ts x:=by
 intro w K vs hK hgk hvs hrel
 obtain⟨c,hc⟩:=bM.1 hb
 have hbody:cB fn=[.code c]:=by simp[cB,hc]
 refine lQ hf hc ?_
 have h1:=h ⟨w,K,λ _=>none,0⟩ rfl hK (IT w K hK ts x)
 rw[hbody]at h1
 refine h1 (λ ops l hm=>by simp at hm) _ w K (λ _=>none) ⟨by simp[fB,hvs],λ i y v hy hv=>?_,rfl,?_⟩
 ·simp only[fB]at hy ⊢
  rw[bv]at hy
  rw[dR]at hv
  simp only[bH]at hy
  rw[hvs]at hv
  split at hy
  ·rename_i hi
   rw[aE hi]at hv
   simp only[aQ,ac]at hy
   obtain⟨x,hx,rfl⟩:=hy
   exact hrel i x v hx hv
  ·rename_i hi
   rw[aF hi]at hv
   rw[dq]at hy
   rw[fx]at hv
   by_cases hc2:i-args.length<fn.ntmps-args.length
   ·rw[aE hc2]at hy hv
    simp only[ag]at hy hv;subst hy;subst hv;exact .d _ _ (.v _)
   ·rw[aF hc2]at hy;cases hy
 ·exact
  { os := rfl, tape := rfl, output := rfl, size := aI _, keep := fun _ _ _ => rfl, Kmono := fun _ h => h, Klt := hK, Knew := fun _ h => .inl h, mold := fun _ _ => rfl,
    mnew:=λ l b _ hm=>by simp at hm,mlt:=λ l b hm=>by simp at hm,mfree:=λ _ _=>rfl,fnew:=λ _ _=>bK _,heap:=λ l blk hl=>by simp[fB,Heap.get]at hl,
    own:=λ l blk b hl=>by simp[fB,Heap.get]at hl,inj:=λ l l' b1 b2 b hl=>by simp[fB,Heap.get]at hl,shape:=λ _ _ h=>h,frozen:=λ _ _=>rfl,gok:=hgk }
end Go.VL
namespace Go.VL
variable {P:Program} {C:cd} {S:fw} {E:Entry} {w:World} {K:Nat->Prop} {m:Nat->Option (Option Nat)} {free:Nat->Prop} {H:Heap}
 {F:Fm} {f:FuncId} {R:Ending->World->Prop} {a:Act} {k:List Item} {s t s':AS} {α:Type}
def AS.ghost (i:Nat)(T:TypeId)(t:Ty)(s:AS):AS:=match s.tmps[i]? with
 | some (.d (.v (.slice none 0 0)))=>⟨s.tmps.set i (.own s.next t),(s.next,.row T t [])::s.H,s.next+1⟩
 | _=>s
theorem St.ghost (hst:St E s a w K m free)(i:Nat)(T:TypeId)(t:Ty)(hf:∀ l,s.next<=l->free l):∃ m',St E (s.ghost i T t) a w K m' (λ l=>(s.ghost i T t).next<=l):=by
 unfold AS.ghost
 split
 ·rename_i hi
  have hfr:free s.next:=hf _ (aI _)
  have hmn:=hst.mem.mfree _ hfr
  have hH:s.H.get s.next=none:=by
   cases hg:s.H.get s.next with
   | none=>rfl
   | some blk =>
     have:=hst.mem.heap _ _ hg
     cases blk with
     | box cells=>obtain⟨b,cs,T,h1,_⟩:=this;rw[hmn]at h1;cases h1
     | row T t xs=>rcases this with⟨h1,_⟩|⟨b,cs,h1,_⟩<;>rw[hmn]at h1<;>cases h1
     | mp tk tv kvs=>obtain⟨b,es,c,h1,_⟩:=this;rw[hmn]at h1;cases h1
  have hget:∀ l,l≠s.next->Heap.get ((s.next,.row T t [])::s.H) l=s.H.get l:=λ l hl=>by
   have:(s.next==l)=false:=by simpa using λ e=>hl e.symm
   simp only[Heap.get,this,cf]
  have hself:Heap.get ((s.next,.row T t [])::s.H) s.next=some (.row T t []):=by simp[Heap.get]
  have e:Ext w K m s.H w K (upd m s.next none) ((s.next,.row T t [])::s.H):=
   ⟨λ _ h=>h,λ _ _=>rfl,λ l x hx=>by
    have:l≠s.next:=λ e=>by rw[e,hmn]at hx;cases hx
    rw[cM _ _ this];exact hx,λ _ _ h=>h,λ l T' t' xs hl hx=>by
    have:l≠s.next:=λ e=>hl (by rw[e];exact hmn)
    rw[hget l this]at hx;exact⟨xs,hx,rfl⟩⟩
  have hE:E.n<=s.next:=hst.mem.fnew _ hfr
  refine⟨upd m s.next none,by simp[hst.len],λ j x v hx hv=>?_,hst.defers,?_⟩
  ·rw[aP]at hx
   by_cases hij:i=j
   ·subst hij
    rw[aE rfl]at hx
    split at hx
    ·cases hx
     have:=hst.tmps i _ v hi hv
     cases this with
     | d _ _ h=>cases h;exact .own0 _ _ none (bG _ _ _)
    ·cases hx
   ·rw[aF hij]at hx
    exact(hst.tmps j x v hx hv).ext e
  ·exact
   { os := hst.mem.os, tape := hst.mem.tape, output := hst.mem.output, size := hst.mem.size, keep := hst.mem.keep, Kmono := hst.mem.Kmono, Klt := hst.mem.Klt, Knew := hst.mem.Knew
     mold:=λ l hl=>by rw[cM _ _ (by omega)];exact hst.mem.mold l hl
     mnew:=λ l b hl hm=>by
      by_cases h:l=s.next
      ·rw[h,bG]at hm;cases hm
      ·rw[cM _ _ h]at hm;exact hst.mem.mnew l b hl hm
     mlt:=λ l b hm=>by
      by_cases h:l=s.next
      ·rw[h,bG]at hm;cases hm
      ·rw[cM _ _ h]at hm;exact hst.mem.mlt l b hm
     mfree:=λ l hl=>by
      have hl:s.next+1<=l:=hl
      rw[cM _ _ (by omega)];exact hst.mem.mfree l (hf l (by omega))
     fnew:=λ l hl=>by
      have hl:s.next+1<=l:=hl
      omega
     heap:=λ l blk hb=>by
      by_cases h:l=s.next
      ·subst h;rw[hself]at hb;cases hb;exact .inl ⟨bG _ _ _,rfl⟩
      ·rw[hget l h]at hb;exact BlkRel.ext e (hst.mem.heap l blk hb) (λ _ _=>rfl)
     own:=λ l blk b hb hm=>by
      by_cases h:l=s.next
      ·rw[h,bG]at hm;cases hm
      ·rw[hget l h]at hb;rw[cM _ _ h]at hm;exact hst.mem.own l blk b hb hm
     inj:=λ l l' blk blk' b hb hb' hm hm'=>by
      by_cases h:l=s.next
      ·rw[h,bG]at hm;cases hm
      by_cases h':l'=s.next
      ·rw[h',bG]at hm';cases hm'
      rw[hget l h]at hb;rw[hget l' h']at hb';rw[cM _ _ h]at hm;rw[cM _ _ h']at hm'
      exact hst.mem.inj l l' blk blk' b hb hb' hm hm'
     shape:=hst.mem.shape,frozen:=hst.mem.frozen,gok:=hst.mem.gok }
 ·exact⟨m,hst.weaken hf⟩
theorem ASat.ghost {todo:List Item}(hh:ik todo=true)(i:Nat)(T:TypeId)(t:Ty)(h:ASat P F E todo (s.ghost i T t)):ASat P F E todo s:=by
 intro hok a w K m hst
 have hn:=jD hh hok
 obtain⟨m',hst'⟩:=hst.ghost i T t (λ l hl=>(cg hn _ _).2 hl)
 exact h hok a w K m' (hst'.weaken (λ l hl=>(cg hn _ _).1 hl))
def AS.ghostB (l j:Nat)(T:TypeId)(t:Ty)(s:AS):AS:=match s.H.get l with
 | some (.box cells) => match cells[j]? with
   | some (.d (.v (.slice none 0 0)))=>⟨s.tmps,(s.H.put s.next (some (.row T t []))).put l (some (.box (cells.set j (.own s.next t)))),s.next+1⟩
   | _=>s
 | _=>s
theorem St.ghostB (hst:St E s a w K m free)(l j:Nat)(T:TypeId)(t:Ty)(hf:∀ l,s.next<=l->free l):∃ m',St E (s.ghostB l j T t) a w K m' (λ q=>(s.ghostB l j T t).next<=q):=by
 unfold AS.ghostB
 split
 ·rename_i cells hg
  split
  ·rename_i hc
   have hfr:free s.next:=hf _ (aI _)
   have hmn:=hst.mem.mfree _ hfr
   obtain⟨M1,e1⟩:=hst.mem.nil hfr T t
   have hln:l≠s.next:=λ e=>by
    have:=hst.mem.heap l _ hg
    obtain⟨b,cs,T',h1,_⟩:=this
    rw[e,hmn]at h1;cases h1
   have hg1:(s.H.put s.next (some (.row T t []))).get l=some (.box cells):=by rw[Heap.get_put _ hln];exact hg
   obtain⟨b,cs,T',h1,h2,h3,h4⟩:=M1.heap l _ hg1
   obtain⟨M2,e2⟩:=M1.write (w':=w) (cs':=cs) (blk:=.box (cells.set j (.own s.next t))) hg1 h1 h2 h2 rfl (λ _ _=>rfl) ⟨rfl,rfl,rfl,rfl⟩ (λ T t xs h=>by cases h) (λ H' e=>by
    refine⟨b,cs,T',h1,h2,by rw[h3];simp,λ i x v hx hv=>?_⟩
    rw[aP]at hx
    by_cases hij:j=i
    ·subst hij
     rw[aE rfl]at hx
     split at hx
     ·cases hx
      have h5:=h4 j _ v hc hv
      cases h5 with
      | d _ _ h5=>cases h5;exact .own0 _ _ none (bG _ _ _)
     ·cases hx
    ·rw[aF hij]at hx
     exact(h4 i x v hx hv).ext e)
   refine⟨upd m s.next none,hst.len,λ i x v hx hv=>((hst.tmps i x v hx hv).ext e1).ext e2,hst.defers,M2.weaken (λ q hq=>⟨hf q (by have:s.next+1<=q:=hq;omega),by have:s.next+1<=q:=hq;omega⟩)⟩
  ·exact⟨m,hst.weaken hf⟩
 ·exact⟨m,hst.weaken hf⟩
theorem ASat.ghostB {todo:List Item}(hh:ik todo=true)(l j:Nat)(T:TypeId)(t:Ty)(h:ASat P F E todo (s.ghostB l j T t)):ASat P F E todo s:=by
 intro hok a w K m hst
 have hn:=jD hh hok
 obtain⟨m',hst'⟩:=hst.ghostB l j T t (λ q hq=>(cg hn _ _).2 hq)
 exact h hok a w K m' (hst'.weaken (λ q hq=>(cg hn _ _).1 hq))
def Ue (w:World)(K:Nat->Prop)(m:Nat->Option (Option Nat))(H:Heap):Prop:=∀ l blk,H.get l=some blk->BlkRel w K m H l blk
def AVle (H:Heap)(a b:AV):Prop:=∀ w K m v,Ue w K m H->Rel w K m H a v->Rel w K m H b v
def BLe (H:Heap):ABlk->ABlk->Prop
 | .box cs,.box ds=>cs.length=ds.length/\∀ (i:Nat) x y,cs[i]?=some x->ds[i]?=some y->AVle H x y
 | a,b=>a=b
structure AS.Le (s s':AS):Prop where
 len:s.tmps.length=s'.tmps.length
 tmps:∀ (i:Nat) x y,s.tmps[i]?=some x->s'.tmps[i]?=some y->AVle s.H x y
 H:∀ l b',s'.H.get l=some b'->∃ b,s.H.get l=some b/\BLe s.H b b'
 next:s.next<=s'.next
theorem AVle.refl (H:Heap)(a:AV):AVle H a a:=λ _ _ _ _ _ h=>h
theorem AVle.dead (H:Heap)(a:AV):AVle H a .dead:=λ _ _ _ v _ _=>.dead v
theorem AVle.nil (H:Heap)(t:Ty)(n:Nat):AVle H (.d (.v (.slice none 0 n))) (.d (.sl t [])):=λ _ _ _ _ _ h=>by
 cases h with
 | d _ _ h=>cases h;exact .d _ _ (.sl0 t none n)
theorem AVle.fl (H:Heap)(t:Ty)(xs:List t.ty):AVle H (.fl t xs) (.d (.sl t xs)):=λ _ _ _ _ _ h=>by
 cases h with
 | fl _ _ a n h=>exact .d _ _ h
theorem AVle.zQ (H:Heap)(b:Nat):AVle H (.d (.v (.float .f64 b))) (.d (.f (some b))):=λ _ _ _ _ _ h=>by
 cases h with
 | d _ _ h=>cases h;exact .d _ _ (.f _ _ rfl)
theorem AVle.view {H:Heap}{l:Nat}{T:TypeId}{t:Ty}{xs:List t.ty}(hg:H.get l=some (.row T t xs)):AVle H (.own l t) (.view l t 0 xs.length):=λ w K m v hG h=>by
 cases h with
 | own0 _ _ a hm =>
   rcases hG l _ hg with⟨_,hx⟩|⟨b',cs,hm',_⟩
   ·subst hx;exact .view0 l t 0 a
   ·rw[hm]at hm';cases hm'
 | own _ _ b n cap hm hl hcap hs =>
   have hn:=hl T xs hg
   subst hn
   have:=Rel.view (w:=w) (K:=K) (m:=m) (H:=H) l t b 0 xs.length cap hm hcap (by simpa using hs)
   simpa using this
theorem BLe.refl (H:Heap)(b:ABlk):BLe H b b:=by
 cases b with
 | box cs=>exact⟨rfl,λ i x y hx hy=>by rw[hx]at hy;cases hy;exact .refl H _⟩
 | row=>exact rfl
 | mp=>exact rfl
theorem St.le (hst:St E s a w K m free)(h:AS.Le s s')(hf:∀ l,s.next<=l->free l):St E s' a w K m (λ l=>s'.next<=l):=by
 have e:Ext w K m s.H w K m s'.H:=⟨λ _ h=>h,λ _ _=>rfl,λ _ _ h=>h,λ _ _ h=>h,λ l T t xs _ hx=>by
  obtain⟨b,hb,hle⟩:=h.H l _ hx
  cases b with
  | box cs=>cases hle
  | row T' t' xs'=>cases hle;exact⟨xs,hb,rfl⟩
  | mp=>cases hle⟩
 have hG:Ue w K m s.H:=hst.mem.heap
 refine⟨hst.len.trans h.len,λ i x v hx hv=>?_,hst.defers,?_⟩
 ·have hlt:i<s.tmps.length:=by
   rw[h.len]
   rcases ax i s'.tmps.length with h1|h1
   ·exact h1
   ·rw[aw h1]at hx;cases hx
  have h1:s.tmps[i]?=some s.tmps[i]:=ai hlt
  exact(h.tmps i _ x h1 hx _ _ _ _ hG (hst.tmps i _ v h1 hv)).ext e
 ·exact
  { hst.mem.weaken (free' := fun l => s'.next ≤ l) (fun l hl => hf l (bj h.next hl)) with
    heap:=λ l b' hb'=>by
     obtain⟨b,hb,hle⟩:=h.H l b' hb'
     have h0:=hst.mem.heap l b hb
     have h1:=BlkRel.ext e h0 (λ _ _=>rfl)
     cases b with
     | row T t xs => cases b' with
       | row T' t' xs'=>cases hle;exact h1
       | box cs=>cases hle
       | mp=>cases hle
     | mp tk tv kvs => cases b' with
       | row T' t' xs'=>cases hle
       | box cs=>cases hle
       | mp=>cases hle;exact h1
     | box cs => cases b' with
       | row T' t' xs'=>cases hle
       | mp=>cases hle
       | box ds =>
         obtain⟨b,vs,T,g1,g2,g3,g4⟩:=h0
         refine⟨b,vs,T,g1,g2,g3.trans hle.1,λ i x v hx hv=>?_⟩
         have hlt:i<cs.length:=by
          rw[hle.1]
          rcases ax i ds.length with h1|h1
          ·exact h1
          ·rw[aw h1]at hx;cases hx
         have h1:cs[i]?=some cs[i]:=ai hlt
         exact(hle.2 i _ x h1 hx _ _ _ _ hG (g4 i _ v h1 hv)).ext e
    own:=λ l b' c hb' hm=>by
     obtain⟨b,hb,_⟩:=h.H l b' hb'
     exact hst.mem.own l b c hb hm
    inj:=λ l l' b b' c hb hb' hm hm'=>by
     obtain⟨b1,hb1,_⟩:=h.H l b hb
     obtain⟨b2,hb2,_⟩:=h.H l' b' hb'
     exact hst.mem.inj l l' b1 b2 c hb1 hb2 hm hm' }
theorem ASat.le {todo:List Item}(hh:ik todo=true)(hle:AS.Le s s')(h:ASat P F E todo s'):ASat P F E todo s:=by
 intro hok a w K m hst
 have hn:=jD hh hok
 exact h hok a w K m ((hst.le hle (λ l hl=>(cg hn _ _).2 hl)).weaken (λ l hl=>(cg hn _ _).1 hl))
def AV.thaw (H:Heap)(l:Nat):AV->AV
 | .own l' t=>bif l'==l then(match(AV.own l' t).toD H with|some r=>.d r.1|none=>.own l' t)else .own l' t
 | a=>a
def ABlk.thaw (H:Heap)(l:Nat):ABlk->ABlk
 | .box cs=>.box (cs.map (AV.thaw H l))
 | b=>b
def vi (H0:Heap)(l:Nat):Heap->Heap
 | []=>[]
 | (k,b)::h=>(k,b.thaw H0 l)::vi H0 l h
theorem ub (H0:Heap)(l:Nat):∀ (h:Heap) (k:Nat),(vi H0 l h).get k=(h.get k).map (ABlk.thaw H0 l)
 | [],k=>rfl
 | (j, b) :: h, k => by
   show(bif j==k then some (b.thaw H0 l)else Heap.get (vi H0 l h) k)=Option.map _ (bif j==k then some b else Heap.get h k)
   cases (j==k)
   ·exact ub H0 l h k
   ·rfl
def AS.freeze (l:Nat)(s:AS):AS:=⟨s.tmps.map (AV.thaw s.H l),vi s.H l (s.H.put l none),s.next⟩
theorem ME {l:Nat}{t:Ty}{r:D×Prop×List Nat}(h:(AV.own l t).toD H=some r):r.2.1/\r.2.2=[l]:=by
 simp only[AV.toD]at h
 split at h
 ·split at h
  ·cases h;exact⟨trivial,rfl⟩
  ·cases h
 ·cases h
theorem Rel.thaw {K':Nat->Prop}{l:Nat}(hM:Mem E w K m H free){H1:Heap}(e:Ext w K m H w K' m H1)(hk:∀ b blk,H.get l=some blk->m l=some (some b)->K' b){a:AV}{v:Value}(h:Rel w K m H a v):Rel w K' m H1 (a.thaw H l) v:=by
 unfold AV.thaw
 split
 ·rename_i l' t
  by_cases hl:l'=l
  ·subst hl
   rw[show(l'==l')=true by simp,aG]
   split
   ·rename_i r hr
    obtain⟨hp,hfz⟩:=ME hr
    obtain⟨d,p,fz⟩:=r
    have hfz:fz=[l']:=hfz
    subst hfz
    obtain⟨hR,hg⟩:=Dm hM hr hp h
    refine .d _ _ (hR.ext (λ b hb=>?_) (λ _ _=>rfl))
    exact mj e.hK hg (λ k hkm b2 blk hb2 hm2=>by
     have:k=l':=by simpa using hkm
     subst this;exact hk b2 blk hb2 hm2) b hb
   ·exact h.ext e
  ·rw[show(l'==l)=false by simpa using hl,cf]
   exact h.ext e
 ·exact h.ext e
theorem St.freeze (hst:St E s a w K m free)(l:Nat):∃ K',St E (s.freeze l) a w K' m free:=by
 obtain⟨K',M,e,hk⟩:=hst.mem.give l
 have e2:Ext w K' m (s.H.put l none) w K' m (vi s.H l (s.H.put l none)):=⟨λ _ h=>h,λ _ _=>rfl,λ _ _ h=>h,λ _ _ h=>h,λ j T t xs _ hx=>by
  rw[ub]at hx
  cases hg:(s.H.put l none).get j with
  | none=>rw[hg]at hx;cases hx
  | some b =>
    rw[hg]at hx
    cases b with
    | box cs=>cases hx
    | row T' t' xs'=>cases hx;exact⟨_,rfl,rfl⟩
    | mp=>cases hx⟩
 have gg:∀ k blk,(vi s.H l (s.H.put l none)).get k=some blk->∃ b1,(s.H.put l none).get k=some b1/\blk=b1.thaw s.H l:=by
  intro k blk h
  rw[ub]at h
  cases hg:(s.H.put l none).get k with
  | none=>rw[hg]at h;cases h
  | some b=>rw[hg]at h;cases h;exact⟨b,rfl,rfl⟩
 refine⟨K',by rw[hst.len];simp[AS.freeze],λ i x v hx hv=>?_,hst.defers,?_⟩
 ·have hx:(s.tmps.map (AV.thaw s.H l))[i]?=some x:=hx
  rw[aQ,ac]at hx
  obtain⟨y,hy,rfl⟩:=hx
  exact(Rel.thaw hst.mem e hk (hst.tmps i y v hy hv)).ext e2
 ·exact { M with
  heap:=λ k blk hb=>by
   obtain⟨b1,h1,rfl⟩:=gg k blk hb
   cases b1 with
   | row T t xs=>exact BlkRel.ext e2 (M.heap k _ h1) (λ _ _=>rfl)
   | mp tk tv kvs=>exact BlkRel.ext e2 (M.heap k _ h1) (λ _ _=>rfl)
   | box cs =>
     have hkl:k≠l:=λ e=>by subst e;rw[Heap.get_put_self]at h1;cases h1
     rw[Heap.get_put _ hkl]at h1
     obtain⟨b,vs,T,g1,g2,g3,g4⟩:=hst.mem.heap k _ h1
     refine⟨b,vs,T,g1,g2,by simp[g3],λ i x v hx hv=>?_⟩
     rw[aQ,ac]at hx
     obtain⟨y,hy,rfl⟩:=hx
     exact(Rel.thaw hst.mem e hk (g4 i y v hy hv)).ext e2
  own:=λ k blk b hb hm=>by
   obtain⟨b1,h1,rfl⟩:=gg k blk hb
   exact M.own k b1 b h1 hm
  inj:=λ k k' b1 b2 b hb hb' hm hm'=>by
   obtain⟨c1,h1,_⟩:=gg k b1 hb
   obtain⟨c2,h2,_⟩:=gg k' b2 hb'
   exact M.inj k k' c1 c2 b h1 h2 hm hm' }
theorem ASat.freeze {todo:List Item}(hh:ik todo=true)(l:Nat)(h:ASat P F E todo (s.freeze l)):ASat P F E todo s:=by
 intro hok a w K m hst
 obtain⟨K',hst'⟩:=hst.freeze l
 exact h hok a w K' m hst'
def AS.nanB (i b:Nat)(s:AS):AS:=match s.tmps[i]? with
 | some (.d (.f none))=>{ s with tmps:=s.tmps.set i (.d (.f (some b))) }
 | _=>s
theorem ASat.nan {todo:List Item}(i:Nat)(h:∀ b,nanBits b->ASat P F E todo (s.nanB i b)):ASat P F E todo s:=by
 intro hok a w K m hst
 unfold AS.nanB at h
 split at h
 ·rename_i hi
  have hlt:i<s.tmps.length:=(am.1 hi).1
  have hla:i<a.tmps.size:=by rw[hst.len];exact hlt
  have hv:a.tmps[i]?=some a.tmps[i]:=bV hla
  have hr:=hst.tmps i _ _ hi hv
  obtain⟨b,hb,hvb⟩:∃ b,nanBits b/\a.tmps[i]=.float .f64 b:=by
   generalize a.tmps[i]=v at hr
   cases hr with
   | d _ _ h => cases h with
     | f _ b hb=>exact⟨b,hb,rfl⟩
  refine h b hb hok a w K m ⟨by simpa using hst.len,λ j x v hx hv'=>?_,hst.defers,hst.mem⟩
  simp only at hx
  rw[aP]at hx
  split at hx
  ·rename_i hij
   subst hij
   (try rw[aE hlt]at hx)
   simp only[ag]at hx
   subst hx
   rw[hv]at hv'
   simp only[ag]at hv'
   subst hv'
   rw[hvb]
   exact .d _ _ (.f _ _ rfl)
  ·exact hst.tmps j x v hx hv'
 ·exact h 9221120237041090561 (by unfold nanBits;decide +kernel) hok a w K m hst
structure yP {α:Type} (P:Program) (C:cd) (S:fw) (fn:Func) (fin:Fin α) (R0:α->Prop) (n0:Nat) (A:List Item->AS->Prop):Prop where
 run:∀ cu n fst todo s,Sat P A R0 (bh P C S fn fin n0 cu n fst todo s)->A todo s
 canon:∀ todo s live,ik todo=true->A todo (s.canon n0 live)->A todo s
 ghost:∀ todo s i T t,ik todo=true->A todo (s.ghost i T t)->A todo s
 ghostB:∀ todo s l j T t,ik todo=true->A todo (s.ghostB l j T t)->A todo s
 le:∀ todo s s',ik todo=true->AS.Le s s'->A todo s'->A todo s
 freeze:∀ todo s l,ik todo=true->A todo (s.freeze l)->A todo s
 nan:∀ todo s i,(∀ b,nanBits b->A todo (s.nanB i b))->A todo s
theorem yP.go {fn:Func}{fin:Fin α}{R0:α->Prop}{n0:Nat}{A:List Item->AS->Prop}(hA:yP P C S fn fin R0 n0 A){cu:Cuts}{n:Nat}{fst:Bool}{todo:List Item}{s:AS}{T:Out α}
  (he:bh P C S fn fin n0 cu n fst todo s=T) (h:Sat P A R0 T):A todo s:=by
 refine hA.run cu n fst todo s ?_
 rw[he];exact h
theorem yP.row {fn:Func}{fin:Fin α}{R0:α->Prop}{n0:Nat}{A:List Item->AS->Prop}(hA:yP P C S fn fin R0 n0 A)(i:Nat)(T:TypeId)(t:Ty){todo:List Item}{s s':AS}
  (hh:ik todo=true) (he:(s.ghost i T t).canon n0 (mY (oO fn) todo).1=s') (h:A todo s'):A todo s:=
 hA.ghost todo s i T t hh (hA.canon todo _ _ hh (by rw[he];exact h))
theorem yP.boxrow {fn:Func}{fin:Fin α}{R0:α->Prop}{n0:Nat}{A:List Item->AS->Prop}(hA:yP P C S fn fin R0 n0 A)(l j:Nat)(T:TypeId)(t:Ty){todo:List Item}{s s':AS}
  (hh:ik todo=true) (he:(s.ghostB l j T t).canon n0 (mY (oO fn) todo).1=s') (h:A todo s'):A todo s:=
 hA.ghostB todo s l j T t hh (hA.canon todo _ _ hh (by rw[he];exact h))
theorem yP.frz {fn:Func}{fin:Fin α}{R0:α->Prop}{n0:Nat}{A:List Item->AS->Prop}(hA:yP P C S fn fin R0 n0 A)(l:Nat){todo:List Item}{s s':AS}
  (hh:ik todo=true) (he:(s.freeze l).canon n0 (mY (oO fn) todo).1=s') (h:A todo s'):A todo s:=
 hA.freeze todo s l hh (hA.canon todo _ _ hh (by rw[he];exact h))
theorem jO {fn:Func}{fin:Fin α}{R0:α->Prop}{n0:Nat}(hmx:P.follows .mixedOrders=true)(hfin:LM P fn E fin R0 F)(hn:E.n<=n0) :
  yP P C S fn fin R0 n0 (ASat P F E):=
 ⟨λ cu n fst todo s hs=>rQ (cu:=cu) hmx hfin hn n fst todo s hs,λ todo s live hh h=>ASat.canon hh hn h,λ todo s i T t hh h=>ASat.ghost hh i T t h,λ todo s l j T t hh h=>ASat.ghostB hh l j T t h,λ todo s s' hh hle h=>ASat.le hh hle h,λ todo s l hh h=>ASat.freeze hh l h,λ todo s i h=>ASat.nan i h⟩
theorem yJ.of_closed {fn:Func}(hmx:P.follows .mixedOrders=true)(hf:P.funcs[f]?=some fn)(hb:fn.body.isSome=true){args:List Arg}{ts:List Ty}{x:bc ts}(hnt:args.length<=fn.ntmps)
  (h:∀ A,yP P C S fn (aS ts) (·=x) 0 A->A (cB fn) (fB fn args)):yJ P f args ts x:=
 yJ.of_sat hf hb hnt λ E hE _ hfin=>h _ (jO hmx (xV hf hfin) (by omega))
theorem yJ.of_tree {fn:Func}(hmx:P.follows .mixedOrders=true)(hf:P.funcs[f]?=some fn)(hb:fn.body.isSome=true){args:List Arg}{ts:List Ty}{x:bc ts}(hnt:args.length<=fn.ntmps){cu:Cuts}{n:Nat}{fst:Bool}{T:Out (bc ts)}
  (he:bh P C S fn (aS ts) 0 cu n fst (cB fn) (fB fn args)=T) (h:∀ A,Sat P A (·=x) T):yJ P f args ts x:=
 yJ.of_closed (C:=C) (S:=S) hmx hf hb hnt λ A hA=>hA.go he (h A)
structure yD.Le (r' r:yD):Prop where
 len:r'.res.length=r.res.length
 res:∀ (i:Nat) x y,r'.res[i]?=some x->r.res[i]?=some y->AVle r'.H x y
 H:∀ l b',r.H.get l=some b'->∃ b,r'.H.get l=some b/\BLe r'.H b b'
 n:r'.n<=r.n
theorem yD.Le.refl (r:yD):yD.Le r r:=⟨rfl,λ i x y hx hy=>by rw[hx]at hy;cases hy;exact .refl _ _,λ l b hb=>⟨b,hb,.refl _ b⟩,aI _⟩
theorem yD.Le.of_eq {r' r:yD}(h:r'=r):yD.Le r' r:=h ▸ .refl r'
def eW (n0:Nat):Fin yD:=λ vs H=>
 bif jR (eN H 200 0 (ka (List.range n0) (fE vs)))&&oX n0 (eN H 200 0 (ka (List.range n0) (fE vs)))then
  some (⟨gI (dK (eN H 200 0 (ka (List.range n0) (fE vs)))) vs,fO (dK (eN H 200 0 (ka (List.range n0) (fE vs)))) H (eN H 200 0 (ka (List.range n0) (fE vs))) 0,(eN H 200 0 (ka (List.range n0) (fE vs))).length⟩,True)
 else none
def GEnd (E:Entry)(r:yD)(e:Ending)(w':World):Prop:=∃ v K' m',e=.returned v/\Rel w' K' m' r.H (HT r.res) v/\Mem E w' K' m' r.H (λ l=>r.n<=l)
theorem LR {H:Heap}{as:List AV}{vs:List Value}(hl:vs.length=as.length)(h:∀ (i:Nat) (y:AV) (v:Value),as[i]?=some y->vs[i]?=some v->Rel w K m H y v) :
  Rel w K m H (HT as) (if h:vs.toArray.size=1 then vs.toArray[0]else .tuple vs.toArray):=by
 match as,vs,hl,h with
 | [],[],_,_=>exact .tup [] _ rfl (λ i a v h=>by simp at h)
 | [a],[v],_,h=>exact h 0 a v rfl rfl
 | a :: a' :: as, v :: v' :: vs, hl, h =>
   have hn:¬ (v::v'::vs).toArray.size=1:=by simp
   rw[dif_neg hn]
   exact .tup _ _ (by simpa using hl) (λ i y u hy hu=>h i y u hy (by simpa using hu))
theorem Ov {fn:Func}(r:yD):wK P fn E (eW E.n) (λ r'=>yD.Le r' r) (GEnd E r):=by
 intro s a w K m free avs r' p hst hres hfin hp hle
 obtain⟨vs,hrun,hlen,hrel⟩:=rk (P:=P) hst hres
 refine⟨_,hrun,?_⟩
 unfold eW at hfin
 cases hc:(jR (eN s.H 200 0 (ka (List.range E.n) (fE avs)))&&oX E.n (eN s.H 200 0 (ka (List.range E.n) (fE avs))))
 ·rw[hc]at hfin;cases hfin
 rw[hc]at hfin
 simp only[aG,ag,bB]at hfin
 obtain⟨hr,_⟩:=hfin
 obtain⟨h1,h2⟩:=ca.1 hc
 generalize eN s.H 200 0 (ka (List.range E.n) (fE avs))=ns at h1 h2 hr
 subst hr
 have hM:=hst.mem.ren (lv h1) (λ i hi=>nl h2 i hi)
 have e:Ext w K (mOf m ns) (fO (dK ns) s.H ns 0) w K (mOf m ns) r.H:=⟨λ _ h=>h,λ _ _=>rfl,λ _ _ h=>h,λ _ _ h=>h,λ l T t xs _ hx=>by
  obtain⟨b,hb,hb2⟩:=hle.H l _ hx
  cases b with
  | box cs=>cases hb2
  | row T' t' xs'=>cases hb2;exact⟨xs,hb,rfl⟩
  | mp=>cases hb2⟩
 have hMle:Mem E w K (mOf m ns) r.H (λ l=>r.n<=l):=
  (St.le (s:=⟨[],fO (dK ns) s.H ns 0,ns.length⟩) (s':=⟨[],r.H,r.n⟩) (a:={ tmps:=#[],defers:=[] }) ⟨rfl,λ i x v hx=>by simp at hx,rfl,hM⟩
   ⟨rfl,λ i x y hx=>by simp at hx,hle.H,hle.n⟩ (λ l hl=>hl)).mem
 refine⟨_,K,mOf m ns,rfl,LR (hlen.trans ?_) (λ i y v hy hv=>?_),hMle⟩
 ·have:=hle.len;simp only[eu]at this;exact this
 ·have hlt:i<avs.length:=by
   have h3:=hle.len
   simp only[eu]at h3
   rw[h3]
   rcases ax i r.res.length with h|h
   ·exact h
   ·rw[aw h]at hy;cases hy
  have hx:avs[i]?=some avs[i]:=ai hlt
  have hx':(gI (dK ns) avs)[i]?=some (avs[i].ren (dK ns)):=by rw[gY,hx];rfl
  exact(hle.res i _ y hx' hy _ _ _ _ hM.heap (sf (hrel i _ v hx hv))).ext e
def gU (fn:Func)(as:List AV)(H0:Heap)(n0:Nat):AS:=⟨as++List.replicate (fn.ntmps-as.length) (.d (.v undef)),H0,n0⟩
theorem Gc.of_closed {fn:Func}(hmx:P.follows .mixedOrders=true)(hf:P.funcs[f]?=some fn)(hb:fn.body.isSome=true){as:List AV}{H0:Heap}{n0:Nat}{r:yD}
  (hrow:∀ i T t xs,i<n0->r.H.get i=some (.row T t xs)->∃ ys,H0.get i=some (.row T t ys)/\ys.length=xs.length)
  (h:∀ A,yP P C S fn (eW n0) (λ r'=>yD.Le r' r) n0 A->A (cB fn) (gU fn as H0 n0)):Gc P f as H0 n0 r:=by
 refine⟨hrow,λ w K m vs hM hvs hrel=>?_⟩
 obtain⟨c,hc⟩:=bM.1 hb
 have hbody:cB fn=[.code c]:=by simp[cB,hc]
 refine lQ hf hc ?_
 have h1:=h _ (jO (E:=⟨w,K,m,n0⟩) hmx (xV hf (Ov (E:=⟨w,K,m,n0⟩) r)) (aI n0))
 rw[hbody]at h1
 refine h1 (λ ops l hm=>by simp at hm) _ w K m ⟨by simp[gU,hvs],λ i y v hy hv=>?_,rfl,hM⟩
 simp only[gU]at hy ⊢
 rw[bv]at hy
 rw[dR,hvs]at hv
 split at hy
 ·rename_i hi
  rw[aE hi]at hv
  exact hrel i y v hy hv
 ·rename_i hi
  rw[aF hi]at hv
  rw[dq]at hy
  rw[fx]at hv
  by_cases hc2:i-as.length<fn.ntmps-as.length
  ·rw[aE hc2]at hy hv
   simp only[ag]at hy hv;subst hy;subst hv;exact .d _ _ (.v _)
  ·rw[aF hc2]at hy;cases hy
def nW:Code->List Item->List (List Item)
 | .loop b,k=>(.code b::.inLoop b::k)::nW b (.inLoop b::k)
 | .seq a b,k=>nW a (.code b::k)++nW b k
 | .cond _ t e,k=>nW t k++nW e k
 | .block id b,k=>nW b (.inBlock id::k)
 | .scope b,k=>nW b (.inScope b::k)
 | _,_=>[]
def hd (fn:Func)(i:Nat):List Item:=match fn.body with
 | some c=>(nW c []).getD i []
 | none=>[]
def xm:Code->List Item->List (List Item)
 | .loop b,k=>xm b (.inLoop b::k)
 | .seq a b,k=>xm a (.code b::k)++xm b k
 | .cond _ t e,k=>xm t k++xm e k
 | .block id b,k=>xm b (.inBlock id::k)
 | .scope b,k=>xm b (.inScope b::k)
 | .region id ops d,k=>[.code (.region id ops d)::k]
 | .ret,k=>[.code .ret::k]
 | _,_=>[]
def isRg (id:Nat):List Item->Bool
 | .code (.region j _ _)::_=>j==id
 | _=>false
def SL:List Item->Bool
 | .code .ret::_=>true
 | _=>false
def rg (fn:Func)(id:Nat):List Item:=match fn.body with
 | some c=>((xm c []).filter (isRg id)).headD []
 | none=>[]
def rt (fn:Func)(i:Nat):List Item:=match fn.body with
 | some c=>((xm c []).filter SL).getD i []
 | none=>[]
def zt:Code->List Item->List (List Item)
 | .loop b,k=>zt b (.inLoop b::k)
 | .seq a b,k=>zt a (.code b::k)++zt b k
 | .cond _ t e,k=>zt t k++zt e k
 | .block id b,k=>zt b (.inBlock id::k)
 | .scope b,k=>zt b (.inScope b::k)
 | .rangeFunc g ps x b,k=>[.code (.rangeFunc g ps x b)::k]
 | _,_=>[]
def rf (fn:Func)(i:Nat):List Item:=match fn.body with
 | some c=>(zt c []).getD i []
 | none=>[]
def rfG:List Item->Operand | .code (.rangeFunc g _ _ _)::_=>g|_=>.tmp 0
def rfP:List Item->Array Tmp | .code (.rangeFunc _ p _ _)::_=>p|_=>#[]
def rfA:List Item->Code | .code (.rangeFunc _ _ x _)::_=>x|_=>.skip
def rfB:List Item->Code | .code (.rangeFunc _ _ _ b)::_=>b|_=>.skip
def rfK:List Item->List Item:=List.tail
def SK:List Item->Bool | .code (.rangeFunc _ _ _ _)::_=>true|_=>false
def rd (fn:Func)(i:Nat):List Item:=[.code (rfA (rf fn i)),.beginRound,.code (rfB (rf fn i))]
def rb (fn:Func)(i:Nat):List Item:=[.beginRound,.code (rfB (rf fn i))]
def inR (fn:Func)(id i:Nat):List Item:=match rg fn id with
 | .code (.region _ ops _)::k=>.inRegion ops ((List.range ops.size).drop i)::k
 | _=>[]
def fP:Cuts:=⟨[],false⟩
def mkS (n:Nat)(l:List (Nat×AV))(H:Heap)(next:Nat):AS:=⟨l.foldl (λ ts p=>ts.set p.1 p.2) (List.replicate n .dead),H,next⟩
end Go.VL
namespace Go.VL
variable {P:Program} {C:cd} {S:fw} {E:Entry} {w w':World} {K K':Nat->Prop} {m m':Nat->Option (Option Nat)} {free free':Nat->Prop} {H H':Heap}
 {F:Fm} {f:FuncId} {R:Ending->World->Prop} {a:Act} {k:List Item} {s t s':AS} {α:Type}
structure Soft (D:Nat) (w w':World):Prop where
 os:w'.os=w.os
 tape:w'.tape=w.tape
 output:w'.output=w.output
 size:w'.heap.size=w.heap.size
 other:∀ b,b≠D->w'.heap[b]?=w.heap[b]?
 no:∀ c T z,w.heap[D]?≠some (.cells c T z)
 no':∀ c T z,w'.heap[D]?≠some (.cells c T z)
 nomap:∀ es c,w.heap[D]?≠some (.map es c)
 nomap':∀ es c,w'.heap[D]?≠some (.map es c)
theorem Soft.put {D:Nat}{o:Obj}(h:∀ c T z,w.heap[D]?≠some (.cells c T z))(h2:∀ es c,w.heap[D]?≠some (.map es c))(ho:∀ c T z,o≠.cells c T z)(ho2:∀ es c,o≠.map es c)(hD:D<w.heap.size):Soft D w (w.putObj D o):=
 ⟨rfl,rfl,rfl,World.putObj_size,λ b hb=>World.putObj_heap_other hb,h,λ c T z e=>by rw[World.putObj_heap_same hD]at e;exact ho c T z (aJ e),h2,λ es c e=>by rw[World.putObj_heap_same hD]at e;exact ho2 es c (aJ e)⟩
theorem Soft.symm {D:Nat}(h:Soft D w w'):Soft D w' w:=⟨h.os.symm,h.tape.symm,h.output.symm,h.size.symm,λ b hb=>(h.other b hb).symm,h.no',h.no,h.nomap',h.nomap⟩
theorem Soft.trans {D:Nat}{w2:World}(h:Soft D w w')(g:Soft D w' w2):Soft D w w2:=
 ⟨g.os.trans h.os,g.tape.trans h.tape,g.output.trans h.output,g.size.trans h.size,λ b hb=>(g.other b hb).trans (h.other b hb),h.no,g.no',h.nomap,g.nomap'⟩
theorem Soft.cell {D:Nat}(h:Soft D w w')(x:Addr):w'.cell? x=w.cell? x:=by
 by_cases hb:x.block=D
 ·have h1:w'.cell? x=none:=by
   unfold World.cell?
   rw[hb]
   split
   ·rename_i e;exact absurd e (h.no' _ _ _)
   ·rfl
  have h2:w.cell? x=none:=by
   unfold World.cell?
   rw[hb]
   split
   ·rename_i e;exact absurd e (h.no _ _ _)
   ·rfl
  rw[h1,h2]
 ·unfold World.cell?
  rw[h.other _ hb]
theorem Soft.shape {D:Nat}(h:Soft D w w')(b:Nat):w'.shape? b=w.shape? b:=by
 by_cases hb:b=D
 ·subst hb
  have h1:w'.shape? b=none:=by
   unfold World.shape?
   split
   ·rename_i e;exact absurd e (h.no' _ _ _)
   ·rfl
  have h2:w.shape? b=none:=by
   unfold World.shape?
   split
   ·rename_i e;exact absurd e (h.no _ _ _)
   ·rfl
  rw[h1,h2]
 ·unfold World.shape?
  rw[h.other _ hb]
theorem RelD.soft {B:Nat}(hs:Soft B w w'){d:D}{v:Value}(h:RelD w K d v):RelD w' K d v:=by
 induction h with
 | v x=>exact .v x
 | f o b h=>exact .f o b h
 | sl0 t a cap=>exact .sl0 t a cap
 | sl t xs b off cap u hb hcap hc hr ih =>
   refine .sl t xs b off cap u hb hcap (λ i x j d hx hd=>?_) (λ i x j d hx hd=>ih i x j d hx hd)
   rw[hs.cell]
   exact hc i x j d hx hd
theorem Rel.soft {D:Nat}(hs:Soft D w w'){x:AV}{v:Value}(h:Rel w K m H x v):Rel w' K m H x v:=by
 induction h with
 | dead v=>exact .dead v
 | d x v h=>exact .d x v (h.soft hs)
 | fl t xs a n h=>exact .fl t xs a n (h.soft hs)
 | own0 l t a h=>exact .own0 l t a h
 | own l t b n cap h hn hcap hsh =>
   obtain⟨T,sz,hsh,hle⟩:=hsh
   exact .own l t b n cap h hn hcap ⟨T,sz,by rw[hs.shape];exact hsh,hle⟩
 | view0 l t off a=>exact .view0 l t off a
 | view l t b off len cap h hcap hsh =>
   obtain⟨T,sz,hsh,hle⟩:=hsh
   exact .view l t b off len cap h hcap ⟨T,sz,by rw[hs.shape];exact hsh,hle⟩
 | ptr l f b h=>exact .ptr l f b h
 | eptr l t i f b h=>exact .eptr l t i f b h
 | ip ds b off u hb hc hr =>
   refine .ip ds b off u hb (λ j d hd=>?_) (λ j d hd=>(hr j d hd).soft hs)
   rw[hs.cell]
   exact hc j d hd
 | agg cs vs hl h ih=>exact .agg cs vs hl ih
 | tup cs vs hl h ih=>exact .tup cs vs hl ih
 | clo fn fs cs us vs hf hl h1 h2 ih1 ih2=>exact .clo fn fs cs us vs hf hl ih1 ih2
 | mp l b h=>exact .mp l b h
theorem BlkRel.soft {D:Nat}(hs:Soft D w w'){l:Nat}{blk:ABlk}(h:BlkRel w K m H l blk):BlkRel w' K m H l blk:=by
 have nb:∀ (b:Nat) cs T z,w.heap[b]?=some (Obj.cells cs T z)->w'.heap[b]?=some (Obj.cells cs T z):=λ b cs T z hb=>by
  by_cases e:b=D
  ·subst e;exact absurd hb (hs.no _ _ _)
  ·rw[hs.other b e];exact hb
 cases blk with
 | box cells =>
   obtain⟨b,cs,T,h1,h2,h3,h4⟩:=h
   exact⟨b,cs,T,h1,nb _ _ _ _ h2,h3,λ i x v hx hv=>(h4 i x v hx hv).soft hs⟩
 | row T t xs =>
   rcases h with h|⟨b,cs,h1,h2,h3,h4⟩
   ·exact .inl h
   ·exact .inr ⟨b,cs,h1,nb _ _ _ _ h2,h3,λ i x j d hx hd=>by
    obtain⟨v,hv,hr⟩:=h4 i x j d hx hd
    exact⟨v,hv,hr.soft hs⟩⟩
 | mp tk tv kvs =>
   obtain⟨b,es,c,h1,h2,h3,h4⟩:=h
   have nm:∀ (b:Nat) es c,w.heap[b]?=some (Obj.map es c)->w'.heap[b]?=some (Obj.map es c):=λ b es c hb=>by
    by_cases e:b=D
    ·subst e;exact absurd hb (hs.nomap _ _)
    ·rw[hs.other b e];exact hb
   exact⟨b,es,c,h1,nm _ _ _ h2,h3,λ i kv x hx hv=>⟨(h4 i kv x hx hv).1.soft hs,(h4 i kv x hx hv).2.soft hs⟩⟩
theorem GOk.soft {D:Nat}(hs:Soft D w w')(h:GOk w K):GOk w' K:=λ p hp=>by
 obtain⟨h1,T,h2⟩:=h p hp
 refine⟨h1,T,?_⟩
 by_cases e:p.1=D
 ·rw[e]at h2;exact absurd h2 (hs.no _ _ _)
 ·rw[hs.other _ e];exact h2
theorem Mem.soft {D:Nat}(hM:Mem E w K m H free)(hs:Soft D w w')(hD:E.w.heap.size<=D)(hK:¬ E.K D):Mem E w' K m H free where
 os:=hs.os.trans hM.os
 tape:=hs.tape.trans hM.tape
 output:=hs.output.trans hM.output
 size:=by rw[hs.size];exact hM.size
 keep b h1 h2:=by rw[hs.other b (by omega)];exact hM.keep b h1 h2
 Kmono:=hM.Kmono
 Klt b hb:=by rw[hs.size];exact hM.Klt b hb
 Knew:=hM.Knew
 mold:=hM.mold
 mnew:=hM.mnew
 mlt l b h:=by rw[hs.size];exact hM.mlt l b h
 mfree:=hM.mfree
 fnew:=hM.fnew
 heap l blk h:=(hM.heap l blk h).soft hs
 own:=hM.own
 inj:=hM.inj
 shape b x h:=by rw[hs.shape];exact hM.shape b x h
 frozen b hb:=by rw[hs.other b (λ e=>hK (e ▸ hb))];exact hM.frozen b hb
 gok:=hM.gok.soft hs
theorem Mem.soft2 {D:Nat}{we:World}(hM:Mem E w K m H free)(hs:Soft D w w')(he:Soft D E.w we)(hD:w'.heap[D]?=we.heap[D]?):Mem { E with w:=we } w' K m H free where
 os:=hs.os.trans (hM.os.trans he.os.symm)
 tape:=hs.tape.trans (hM.tape.trans he.tape.symm)
 output:=hs.output.trans (hM.output.trans he.output.symm)
 size:=by rw[hs.size,he.size];exact hM.size
 keep b h1 h2:=by
  by_cases e:b=D
  ·subst e;exact hD
  ·rw[hs.other b e,he.other b e];exact hM.keep b (by rw[<-he.size];exact h1) h2
 Kmono:=hM.Kmono
 Klt b hb:=by rw[hs.size];exact hM.Klt b hb
 Knew b hb:=by rw[he.size];exact hM.Knew b hb
 mold:=hM.mold
 mnew l b h1 h2:=by rw[he.size];exact hM.mnew l b h1 h2
 mlt l b h:=by rw[hs.size];exact hM.mlt l b h
 mfree:=hM.mfree
 fnew:=hM.fnew
 heap l blk h:=(hM.heap l blk h).soft hs
 own:=hM.own
 inj:=hM.inj
 shape b x h:=by rw[hs.shape];exact hM.shape b x (by rw[<-he.shape];exact h)
 frozen b hb:=by
  by_cases e:b=D
  ·subst e;exact hD
  ·rw[hs.other b e,he.other b e];exact hM.frozen b hb
 gok:=hM.gok.soft hs
theorem Mem.start (hM:Mem E w K m H free){n:Nat}(hn:∀ l,n<=l->free l):Mem ⟨w,K,m,n⟩ w K m H (λ l=>n<=l) where
 os:=rfl
 tape:=rfl
 output:=rfl
 size:=aI _
 keep _ _ _:=rfl
 Kmono _ h:=h
 Klt:=hM.Klt
 Knew _ h:=.inl h
 mold _ _:=rfl
 mnew l b h1 h2:=by rw[hM.mfree l (hn l h1)]at h2;cases h2
 mlt:=hM.mlt
 mfree l h:=hM.mfree l (hn l h)
 fnew _ h:=h
 heap:=hM.heap
 own:=hM.own
 inj:=hM.inj
 shape _ _ h:=h
 frozen _ _:=rfl
 gok:=hM.gok
theorem Mem.trans {n:Nat}(hM:Mem E w K m H free)(h2:Mem ⟨w,K,m,n⟩ w' K' m' H' free')(hn:E.n<=n):Mem E w' K' m' H' free' where
 os:=h2.os.trans hM.os
 tape:=h2.tape.trans hM.tape
 output:=h2.output.trans hM.output
 size:=bj hM.size h2.size
 keep b g1 g2:=by
  refine(h2.keep b (cG g1 hM.size) (λ l _ hm=>?_)).trans (hM.keep b g1 g2)
  rcases ax l E.n with h|h
  ·exact g2 l h (by rw[<-hM.mold l h];exact hm)
  ·rcases hM.mnew l b h hm with h3|⟨j,hj,hjm⟩
   ·omega
   ·exact g2 j hj hjm
 Kmono b hb:=h2.Kmono b (hM.Kmono b hb)
 Klt:=h2.Klt
 Knew b hb:=by
  rcases h2.Knew b hb with h|h|⟨l,_,hm⟩
  ·exact hM.Knew b h
  ·exact .inr (.inl (bj hM.size h))
  ·rcases ax l E.n with h|h
   ·exact .inr (.inr ⟨l,h,by rw[<-hM.mold l h];exact hm⟩)
   ·rcases hM.mnew l b h hm with h3|h3
    ·exact .inr (.inl h3)
    ·exact .inr (.inr h3)
 mold l hl:=(h2.mold l (cG hl hn)).trans (hM.mold l hl)
 mnew l b hl hm:=by
  have back:∀ l,E.n<=l->m l=some (some b)->E.w.heap.size<=b\/∃ k,k<E.n/\E.m k=some (some b):=λ l hl hm=>hM.mnew l b hl hm
  rcases ax l n with h|h
  ·exact back l hl (by have e:m' l=m l:=h2.mold l h;rw[<-e];exact hm)
  ·rcases h2.mnew l b h hm with h3|⟨j,_,hjm⟩
   ·exact .inl (bj hM.size h3)
   ·rcases ax j E.n with h4|h4
    ·exact .inr ⟨j,h4,by rw[<-hM.mold j h4];exact hjm⟩
    ·exact back j h4 hjm
 mlt:=h2.mlt
 mfree:=h2.mfree
 fnew l hl:=bj hn (h2.fnew l hl)
 heap:=h2.heap
 own:=h2.own
 inj:=h2.inj
 shape b x h:=h2.shape b x (hM.shape b x h)
 frozen b hb:=(h2.frozen b (hM.Kmono b hb)).trans (hM.frozen b hb)
 gok:=h2.gok
def RowsLe (n:Nat)(H H':Heap):Prop:=∀ i T t xs,i<n->H'.get i=some (.row T t xs)->∃ ys,H.get i=some (.row T t ys)/\ys.length=xs.length
theorem RowsLe.refl (n:Nat)(H:Heap):RowsLe n H H:=λ _ _ _ xs _ h=>⟨xs,h,rfl⟩
theorem RowsLe.trans {n:Nat}{H2:Heap}(h:RowsLe n H H')(g:RowsLe n H' H2):RowsLe n H H2:=λ i T t xs hi hx=>by
 obtain⟨ys,hy,hl⟩:=g i T t xs hi hx
 obtain⟨zs,hz,hl'⟩:=h i T t ys hi hy
 exact⟨zs,hz,hl'.trans hl⟩
theorem Ext.of_mem {n:Nat}(h0:Mem ⟨w,K,m,n⟩ w K m H (λ l=>n<=l))(h:Mem ⟨w,K,m,n⟩ w' K' m' H' free')(hr:RowsLe n H H'):Ext w K m H w' K' m' H' where
 hK:=h.Kmono
 keep:=h.frozen
 hm l x hx:=by
  rcases ax l n with hl|hl
  ·have e:m' l=m l:=h.mold l hl
   rw[e];exact hx
  ·rw[h0.mfree l hl]at hx;cases hx
 shape:=h.shape
 row l T t xs hm hx:=by
  rcases ax l n with hl|hl
  ·exact hr l T t xs hl hx
  ·exact absurd (h0.mfree l hl) hm
end Go.VL
