/- Own work: part WH of the proof. -/
import Derived.Test.YteaiflgcgpaclaaGreatDoorWE
import Derived.Shelf.SlSortCmp.WholeK
import Derived.Shelf.SlSortCmp.NoneTotal
import Derived.Test.YteaiflgcgpaclaaGreatDoorWG
import Derived.WalkKit
import Derived.Test.YteaiflgcgpaclaaGreatDoorWD
import Derived.Test.YteaiflgcgpaclaaGreatDoorWF
import Derived.Laws.Externs
import GoSem.Extern.MathBitsCarry
set_option linter.unusedVariables false
set_option linter.unusedSimpArgs false
namespace Go.Proofs.Sp
open Go.Proofs.Tryz
open Go Go.VL
open Go.Shelf Go.RowKit Go.Lib Go.Sort
def kY (x y:VL.Span):Int:=bif decide (x.lo<y.lo)then -1 else bif decide (x.lo>y.lo)then 1 else 0
def nv (x:VL.Span):List Value:=[.int .i64 x.lo,.int .i64 x.hi]
set_option maxHeartbeats 1000000 in
theorem Eo (x y:VL.Span)(W:World):Calls prog 294 #[.agg #[.int .i64 x.lo,.int .i64 x.hi],.agg #[.int .i64 y.lo,.int .i64 y.hi]] W fun e w'=>e=.returned (.int .i64 (kY x y))/\∃ q os',w'=grow (W.drewN q) os':=by
 have e0:((x.lo:Int)<y.lo)\/¬ x.lo<y.lo:=Decidable.em _
 have e1:kY x y=if x.lo<y.lo then -1 else if x.lo>y.lo then 1 else 0:=by
  unfold kY
  by_cases h1:x.lo<y.lo
  ·simp[h1]
  ·by_cases h2:x.lo>y.lo<;>simp[h1,h2]
 rw[e1]
 by_cases h1:x.lo<y.lo
 ·rw[aE h1]
  go_enter func294,Tryz.ntmps294
  go_wp2
  go_ret
  exact⟨rfl,0,_,by rw[alloc_eq_grow,alloc_eq_grow,grow_grow];rfl⟩
 ·rw[aH h1]
  by_cases h2:x.lo>y.lo
  ·rw[aE h2]
   go_enter func294,Tryz.ntmps294
   go_wp2
   go_ret
   exact⟨rfl,0,_,by rw[alloc_eq_grow,alloc_eq_grow,grow_grow];rfl⟩
  ·rw[aH h2]
   go_enter func294,Tryz.ntmps294
   go_wp2
   go_ret
   exact⟨rfl,0,_,by rw[alloc_eq_grow,alloc_eq_grow,grow_grow];rfl⟩
theorem JD (x y:VL.Span):ltOf kY x y=decide (x.lo<y.lo):=by
 unfold ltOf kY
 by_cases h1:x.lo<y.lo
 ·simp[h1]
 ·by_cases h2:x.lo>y.lo<;>simp[h1,h2]
theorem KC:SWO (ltOf kY) where
 irrefl x:=by rw[JD];simp
 trans x y z h1 h2:=by rw[JD]at *;simp at *;omega
 ntrans x y z h1 h2:=by rw[JD]at *;simp at *;omega
def srt (xs:List VL.Span):List VL.Span:=(pdq (ltOf kY) xs.toArray 0 xs.length (Lib.bitLen xs.length) true true).toList
theorem Fh:Srt srt:=by
 have key:∀ xs:List VL.Span,PermIn 0 xs.toArray.size xs.toArray (srt xs).toArray/\SortedIn (ltOf kY) 0 xs.toArray.size (srt xs).toArray:=fun xs=>by
  have h:=pdq_sorts (ltOf kY) KC xs.toArray 0 xs.toArray.size (Lib.bitLen xs.toArray.size) true true (bE _) (aI _) (Or.inl rfl)
  have e:(srt xs).toArray=pdq (ltOf kY) xs.toArray 0 xs.toArray.size (Lib.bitLen xs.toArray.size) true true:=by simp[srt]
  rw[e];exact⟨h.1,h.2⟩
 refine⟨fun xs=>?_,fun xs=>?_⟩
 ·obtain⟨h1,_,h2⟩:=(key xs).1
  have e1:((srt xs).toArray.extract 0 xs.toArray.size).toList=srt xs:=by
   simp only[ck]at h1 ⊢
   rw[← h1];simp
  have e2:(xs.toArray.extract 0 xs.toArray.size).toList=xs:=by simp
  rw[e1,e2]at h2
  exact h2
 ·have hl:(srt xs).length=xs.length:=by simpa using(key xs).1.1
  rw[ge]
  intro i j hi hj hij
  have h:=(key xs).2 i j (bE _) hij (by simpa[← hl]using hj)
  rw[JD]at h
  have g:∀ k (hk:k<(srt xs).length),(srt xs).toArray[k]! = (srt xs)[k]:=fun k hk=>by
   rw[getElem!_pos _ k (by simpa using hk)];simp
  rw[g i hi,g j hj]at h
  simpa using h
theorem ot (xs:List VL.Span):(srt xs).length=xs.length:=(Fh.perm xs).length_eq
theorem Hp (x:VL.Span):(nv x).length=2:=rfl
theorem yl (d:List VL.Span){i:Nat}{x:VL.Span}(hx:d[i]?=some x)(j:Nat)(hj:j<2):(flatK nv 2 d.toArray)[i*2+j]! = (nv x)[j]! := by
 have hi:i<d.length:=by
  rcases ay i d.length with h|h
  ·exact h
  ·rw[au h]at hx;cases hx
 rw[get_flatK _ _ _ _ (by simp;omega)]
 have e1:(i*2+j)/2=i:=by omega
 have e2:(i*2+j)%2=j:=by omega
 rw[e1,e2]
 have:d.toArray[i]! = x:=by
  rw[getElem!_pos _ i (by simpa using hi)]
  simp only[List.getElem_toArray]
  rw[aj hi]at hx
  exact aJ hx
 rw[this]
theorem h80 (zs:List VL.Span)(n:Nat)(hn:n<=zs.length)(hl:Sm zs.length) :
  Gc prog 293 [.view 0 .span 0 n,.clo (.func 294) [] []] [(0,.row 175 .span zs)] 1 ⟨[],[(0,.row 175 .span (srt (zs.take n)++zs.drop n))],1⟩:=by
 have hlen:(srt (zs.take n)++zs.drop n).length=zs.length:=by
  rw[al,ot,← al,List.take_append_drop]
 refine⟨fun i T t xs hi hg=>?_,fun w K m vs hM hsz hrel=>?_⟩
 ·obtain rfl:i=0:=by omega
  simp only[Heap.get,dA,cT,af,ABlk.row.injEq]at hg
  obtain⟨rfl,rfl,hg⟩:=hg
  refine⟨zs,rfl,?_⟩
  rw[← eq_of_heq hg,hlen]
 ·obtain⟨v0,v1,rfl⟩:∃ v0 v1,vs=#[v0,v1]:=by
   rcases vs with⟨l⟩
   match l,hsz with
   | [v0,v1],_=>exact⟨v0,v1,rfl⟩
  have r0:=hrel 0 _ v0 rfl rfl
  have r1:=hrel 1 _ v1 rfl rfl
  have hv1:v1=.func (.func 294) #[] #[]:=by
   cases r1 with
   | clo _ _ _ us vs hf hl _ _ =>
     have e1:us=#[]:=dB (by simpa using hf)
     have e2:vs=#[]:=dB (by simpa using hl)
     rw[e1,e2]
  subst hv1
  have h0:Heap.get [(0,ABlk.row 175 .span zs)] 0=some (.row 175 .span zs):=rfl
  have done:∀ w' K' m',Mem ⟨w,K,m,1⟩ w' K' m' [(0,.row 175 .span (srt (zs.take n)++zs.drop n))] (fun l=>1<=l) ->
    ∃ v K' m',Ending.returned (.tuple #[])=Ending.returned v/\Rel w' K' m' [(0,ABlk.row 175 .span (srt (zs.take n)++zs.drop n))] (EI []) v/\Mem ⟨w,K,m,1⟩ w' K' m' [(0,.row 175 .span (srt (zs.take n)++zs.drop n))] (fun l=>1<=l):=
   fun w' K' m' h=>⟨_,K',m',rfl,.tup _ _ rfl (fun i a v h=>by cases h),h⟩
  cases r0 with
  | view0 _ _ _ a =>
    refine(AnyF.slices_SortFunc_none { Tryz.sortSp with } a 0 (.func (.func 294) #[] #[]) w).mono ?_
    rintro e w' ⟨rfl,rfl⟩
    refine done _ K m ?_
    have:srt (zs.take 0)++zs.drop 0=zs:=by
     have:srt (zs.take 0)=[]:=az (by rw[ot];rfl)
     rw[this];rfl
    rw[this];exact hM
  | view _ _ b _ _ cap hm hcap hs =>
    rcases hM.heap 0 _ h0 with⟨h1,_⟩|⟨b',cs,h1,hcs,hcsz,hcell⟩
    ·rw[hm]at h1;cases h1
    rw[hm]at h1
    obtain rfl:b=b':=aJ (aJ h1)
    have hblk:b<w.heap.size:=hM.mlt 0 b hm
    have hcell':∀ i x j,zs[i]?=some x->j<2->cs[i*2+j]?=some (nv x)[j]! := by
     intro i x j hx hj
     obtain⟨v,hv,hr⟩:=hcell i x j ((enc .span x)[j]'(by rw[bS];exact hj)) hx (aj _)
     rw[show i*2+j=i*Ty.span.size+j from rfl,hv]
     match j,hj with
     | 0,_=>cases hr;rfl
     | 1,_=>cases hr;rfl
    have hfr:∀ o,w.frozen? ⟨b,o,none⟩=false:=fun o=>by
     unfold World.frozen?
     rw[hcs];simp
    have hH:HoldsK nv 2 w b (0*Ty.span.size) (zs.take n).toArray:=by
     intro j hj
     rw[size_flatK]at hj
     have hjn:j/2<(zs.take n).length:=by simp only[ck]at hj;omega
     have hx:zs[j/2]?=some (zs.take n)[j/2]:=by
      rw[kz,aj]
     have h2:=hcell' (j/2) _ (j%2) hx (jR _ (by omega))
     have h3:=yl (zs.take n) (aj hjn) (j%2) (jR _ (by omega))
     have hj2:j/2*2+j%2=j:=by omega
     rw[hj2]at h2 h3
     refine⟨?_,hfr _⟩
     unfold World.cell?
     rw[gb,cq,hcs]
     show cs[j]?=_
     rw[h2,h3];rfl
    have eg:∀ args w,(callFunc 294 args).run prog w=.ok (.enter 294 args) w:=enters_of func294 (by kernel_rfl) rfl
    have hsize:(zs.take n).toArray.size=n:=by simp;omega
    have hcmp:CmpLays prog 294 #[] nv 2 kY b (0*Ty.span.size) (zs.take n).toArray.size w:=fun _ _ _ _ x y=>Eo x y _
    have hc:=AnyQ.slices_SortFunc_eq Tryz.sortSp 2 Tryz.isAgg175 Tryz.sizeOf175 nv Hp (fun x v hv=>by simp[nv]at hv;rcases hv with rfl|rfl<;>rfl) kY KC 294 #[] b (0*Ty.span.size) cap (zs.take n).toArray w eg hcmp hH hblk (by unfold Sm at hl;omega)
    rw[hsize]at hc
    refine Calls.mono hc ?_
    rintro e w' ⟨rfl,q,os,rfl⟩
    refine done _ K m ?_
    generalize hF:pdq (ltOf kY) (zs.take n).toArray 0 n (Lib.bitLen n) true true=dk
    have hdk:dk.toList=srt (zs.take n):=by
     have:(zs.take n).length=n:=by rw[aF];omega
     rw[← hF];unfold srt;rw[this]
    have hdl:(srt (zs.take n)).length=n:=by rw[ot,aF];omega
    have hdsz:dk.size=n:=by rw[← be,hdk,hdl]
    have hdk':dk=(srt (zs.take n)).toArray:=by rw[← hdk]
    generalize hW:sortWorldK nv 2 w b (0*Ty.span.size) q dk os=w'
    have hheap:w'.heap=w.heap.modify b (onCells (putCells id (0*Ty.span.size) (flatK nv 2 dk)))++os:=by rw[← hW];rfl
    have hsz':w.heap.size<=w'.heap.size:=by rw[hheap];simp
    have hne:∀ k,k<w.heap.size->k≠b->w'.heap[k]?=w.heap[k]?:=fun k hk hkb=>by
     rw[hheap,eC (by simpa using hk),ik,aH (fun h=>hkb h.symm)]
    have hbb:w'.heap[b]?=some (.cells (putCells id (0*Ty.span.size) (flatK nv 2 dk) cs) 175 (0,0)):=by
     rw[hheap,eC (by simpa using hblk),ik,aE rfl,hcs];rfl
    have hsh:∀ k s,w.shape? k=some s->w'.shape? k=some s:=fun k s hk=>by
     by_cases hkb:k=b
     ·subst hkb
      unfold World.shape? at hk ⊢
      rw[hcs]at hk;rw[hbb]
      simpa[putCells]using hk
     ·have hks:k<w.heap.size:=by
       rcases ay k w.heap.size with h|h
       ·exact h
       ·unfold World.shape? at hk;rw[bT h]at hk;cases hk
      unfold World.shape? at hk ⊢
      rw[hne k hks hkb];exact hk
    have get0:∀ l blk,Heap.get [(0,ABlk.row 175 .span (srt (zs.take n)++zs.drop n))] l=some blk->l=0/\blk=.row 175 .span (srt (zs.take n)++zs.drop n):=fun l blk hl=>by
     unfold Heap.get at hl
     cases hq:((0:Nat)==l)with
     | true=>rw[hq]at hl;simp only[cT,af]at hl;exact⟨(by simpa using hq:0=l).symm,hl.symm⟩
     | false=>rw[hq]at hl;simp[Heap.get]at hl
    exact
    { os := by rw [← hW]; rfl
      tape:=by rw[← hW];rfl
      output:=by rw[← hW];rfl
      size:=hsz'
      keep:=fun k hk hno=>hne k hk (fun e=>hno 0 (by show 0<1;omega) (by rw[e];exact hm))
      Kmono:=fun _ h=>h
      Klt:=fun k hk=>cr (hM.Klt k hk) hsz'
      Knew:=fun k hk=>.inl hk
      mold:=fun _ _=>rfl
      mnew:=hM.mnew
      mlt:=fun l k h=>cr (hM.mlt l k h) hsz'
      mfree:=hM.mfree
      fnew:=hM.fnew
      heap:=fun l blk hl'=>by
       obtain⟨rfl,rfl⟩:=get0 l blk hl'
       refine .inr ⟨b,_,hm,hbb,by rw[hlen];simpa[putCells]using hcsz,fun i x j d hx hd=>?_⟩
       have hj:j<2:=by
        rcases ay j (enc .span x).length with h|h
        ·rwa [bS]at h
        ·rw[au h]at hd;cases hd
       have hi:i<zs.length:=by
        rcases ay i (srt (zs.take n)++zs.drop n).length with h|h
        ·rwa [hlen]at h
        ·rw[au h]at hx;cases hx
       have hrd:∀ v,(nv x)[j]?=some v->RelD w' K d v:=fun v hv=>by
        match j,hj with
        | 0,_=>cases hd;cases hv;exact .v _
        | 1,_=>cases hd;cases hv;exact .v _
       have hej:(nv x)[j]?=some (nv x)[j]! := by
        match j,hj with
        | 0,_=>rfl
        | 1,_=>rfl
       refine⟨(nv x)[j]!,?_,hrd _ hej⟩
       show(putCells id (0*Ty.span.size) (flatK nv 2 dk) cs)[i*2+j]?=_
       have hic:i*2+j<cs.size:=by
        have:zs.length*2<=cs.size:=hcsz
        omega
       unfold putCells
       rw[Array.getElem?_mapIdx,bP hic]
       simp only[bo,gb,bE,true_and,cq,cZ,size_flatK,hdsz,id]
       by_cases hin:i<n
       ·rw[aE (by omega)]
        rw[bC (by omega)]at hx
        rw[hdk',yl _ hx j hj]
       ·rw[aH (by omega)]
        rw[bL (by omega),hdl,cc]at hx
        have:n+(i-n)=i:=by omega
        rw[this]at hx
        have:=hcell' i x j hx hj
        rw[bP hic]at this
        exact this
      own:=fun l blk k hl' hmk=>by
       obtain⟨rfl,rfl⟩:=get0 l blk hl'
       exact hM.own 0 _ k h0 hmk
      inj:=fun l l' blk blk' k hl1 hl2 _ _=>by rw[(get0 l blk hl1).1,(get0 l' blk' hl2).1]
      shape:=fun k s hk=>hsh k s hk
      gok:=hM.gok.ext (fun _ hk=>hk) (fun k hk=>hne k (hM.Klt k hk) (fun e=>hM.own 0 _ b h0 hm (e ▸ hk)))
      frozen:=fun k hk=>hne k (hM.Klt k hk) (fun e=>hM.own 0 _ b h0 hm (e ▸ hk)) }
end Go.Proofs.Sp

namespace Go.Proofs.Sp
open Go.Proofs.Tryz
open Go Go.VL
theorem c31 {xs:List Span}(hl:Sm xs.length):Pure prog 257 [⟨.sl .span,xs⟩] [.sl .span] (goJ (srt (keep xs)) []):=MM srt ot h80 hl
end Go.Proofs.Sp

namespace Go.Proofs.Zn
open Go.Proofs.Tryz
open Go Go.VL
abbrev LW (d:Deck):Int:=bp (aL d)+bp (aR d)
theorem Hw {d:Deck}(h:dE d=0):bu d=(bp (aL d),bp (aR d),(d.borders.length:Int)-1):=by
 unfold bu;rw[h];rfl
def mB (d:Deck)(lo:Int)(n:Nat):List Int:=(List.range n).map fun k:Nat=>LW d+(lo+(k:Int))
theorem ya (d:Deck)(lo:Int)(n:Nat):mB d lo (n+1)=mB d lo n++[LW d+(lo+(n:Int))]:=by
 simp[mB,List.range_succ]
theorem sy (d:Deck)(lo:Int)(n:Nat):(mB d lo n).length=n:=by simp[mB]
theorem xZ (d:Deck)(s:Span):eu d s=mB d s.lo (s.hi-s.lo+1).toNat:=rfl
theorem pL {d:Deck}{s:Span}(h0:dE d=0)(hs:gL d s):(eu d s).length<=24:=by
 have hD:=(fm h0).lanes
 obtain⟨s1,s2,s3⟩:=hs
 rw[xZ,sy];omega
theorem pc {d:Deck}{l:List Span}(h0:dE d=0)(hs:∀ s∈l,gL d s):(l.flatMap (eu d)).length<=24*l.length:=by
 induction l with
 | nil=>simp
 | cons s l ih =>
   have h1:=pL h0 (hs s (by simp))
   have h2:=ih fun t ht=>hs t (by simp[ht])
   simp only[eO,al,ag];omega
theorem Ba {d:Deck}{l:List Span}{s:Span}(h0:dE d=0)(hs:gL d s){A:List Item->AS->Prop}{i:Nat}(hi:i<1000){out:List Int}(ho:out.length<=24000)
  {r:List Int} (hA:Closed prog codes di f211 (bm [.sl .int]) (fun y=>y=r) 0 A)
  (go:A (hd f211 0) (L97 (bp (aL d)) (bp (aR d)) l (out++eu d s) ((i+1:Nat):Int)))
  (j:Nat) (hj:(j:Int)<=s.hi-s.lo+1) (k:Int) (hk:k=s.lo+(j:Int)):A (hd f211 1) (PP (bp (aL d)) (bp (aR d)) l s (out++mB d s.lo j) i k):=by
 have hD:=fm h0
 have e1:=hD.wells
 have e2:=hD.tips
 have e3:=hD.lanes
 have ew:LW d=bp (aL d)+bp (aR d):=rfl
 obtain⟨s1,s2,s3⟩:=hs
 refine hA.go (t97b _ _ l s _ i k) (ak (fun h1=>?_) (fun h1=>?_))
 ·have h1:=oT h1
  refine⟨⟨T2',tv⟩,⟨by rw[al,sy];simp only[ag,am];omega,tv⟩,?_⟩
  rw[ax (n:=bp (aL d)+bp (aR d)) (by omega) (by omega),ax (by omega) (by omega),ax (by omega) (by omega),bb,hk,← ew,← ya]
  exact Ba h0 ⟨s1,s2,s3⟩ hi ho hA go (j+1) (by omega) _ (by omega)
 ·have h1:=oF h1
  have e:(s.hi-s.lo+1).toNat=j:=by omega
  rw[xZ,e]at go
  rw[aw (by omega)]
  exact go
termination_by (s.hi-s.lo+1-(j:Int)).toNat
theorem GE {d:Deck}{l:List Span}(h0:dE d=0)(hs:∀ s∈l,gL d s)(hl:l.length<=999){r:List Int}{A:Pr}(hA:CL codes di f211 [.sl .int] r A)
  (hr:dJ (l.flatMap (eu d))=r) (i:Nat) (hi:i<=l.length):A (hd f211 0) (L97 (bp (aL d)) (bp (aR d)) l ((l.take i).flatMap (eu d)) i):=by
 have hf:=pc h0 (l:=l.take i) fun s h=>hs s (iX h)
 rw[aF]at hf
 refine hA.go (t97a _ _ l _ i) (ak (fun h1=>?_) (fun h1=>?_))
 ·have h1:=oT h1
  have hil:i<l.length:=by omega
  have hsi:=hs _ (aQ hil)
  rw[bf hil]
  refine⟨⟨⟨by omega,by omega⟩,tv⟩,?_⟩
  have go:=GE h0 hs hl hA hr (i+1) (by omega)
  rw[ba hil,List.flatMap_append,List.flatMap_singleton]at go
  have:=Ba (l:=l) h0 hsi (by omega) (by omega) hA go 0 (by obtain⟨_,h,_⟩:=hsi;omega) l[i].lo (by simp)
  rw[show mB d l[i].lo 0=[] from rfl,fx]at this
  exact this
 ·have h1:=oF h1
  rw[ct (by omega)]at hf ⊢
  exact⟨⟨T2',tv⟩,_,Ae (by omega),T2',hr⟩
termination_by l.length-i
theorem wg:∀ (ys out:List Span),(Sp.goJ ys out).length<=out.length+ys.length
 | [],out=>by simp[Sp.goJ]
 | y :: ys, out => by
   rw[Sp.goJ]
   cases (decide (0<out.length)&&Sp.follows (out.getD (out.length-1) Ty.span.dflt) y)
   ·rw[cF]
    have:=wg ys (out++[y])
    simp only[al,ag,am]at this ⊢;omega
   ·rw[cT]
    have:=wg ys (out.set (out.length-1) (Sp.lv (out.getD (out.length-1) Ty.span.dflt) y))
    simp only[cM,ag]at this ⊢;omega
theorem c97 {d:Deck}{l:List Span}(h0:dE d=0)(hs:∀ s∈l,gL d s)(hl:l.length<=999):Pure prog 211 [⟨.deck,d⟩,⟨.sl .span,l⟩] [.sl .int] (nQ d l):=by
 have hD:=fm h0
 have e3:=hD.lanes
 have hf:∀ s∈l,Sp.qH s:=fun s h=>by
  obtain⟨s1,s2,s3⟩:=hs s h
  refine⟨?_,?_⟩<;>unfold Sp.Fit<;>omega
 obtain⟨j1,j2,j3⟩:=Sp.Eb Sp.Fh hf
 have jl:(Sp.goJ (Sp.srt (Sp.keep l)) []).length<=999:=by
  have h1:=wg (Sp.srt (Sp.keep l)) []
  rw[Sp.ot]at h1
  have h2:(Sp.keep l).length<=l.length:=fE _ _
  simp only[am]at h1;omega
 have c31:=Sp.c31 (xs:=l) (by unfold Sp.Sm;omega)
 generalize Sp.goJ (Sp.srt (Sp.keep l)) []=js at c31 j1 j2 j3 jl
 have js1:∀ s∈js,gL d s:=fun s h=>by
  have hne:=j1.ne s h
  obtain⟨t,ht,t1,t2⟩:=(j3 s.lo).1 ⟨s,h,by omega,by omega⟩
  obtain⟨u,hu,u1,u2⟩:=(j3 s.hi).1 ⟨s,h,by omega,by omega⟩
  obtain⟨a1,a2,a3⟩:=hs t ht
  obtain⟨b1,b2,b3⟩:=hs u hu
  exact⟨by omega,hne,by omega⟩
 refine Pure.of_closed (C:=codes) (S:=di) mixed func211 (by kernel_rfl) (ac (by kernel_rfl)) fun A hA=>hA.go (t97 d l) ⟨⟨T5',tv⟩,_,(Et d).eq (Hw h0),⟨T2',tv⟩,_,c31,?_⟩
 exact hA.row 8 3 .int (s':=L97 (bp (aL d)) (bp (aR d)) js [] 0) (by kernel_rfl) (by kernel_rfl) (GE h0 js1 jl hA (Dw j3) 0 (by omega))
theorem rv {d:Deck}(h:(dO d).2=0):dE d=0:=by
 unfold dO at h
 cases h1:dE d != 0
 ·simpa using h1
 ·rw[h1,cT]at h;exact h
theorem lk {d:Deck}{l:List Int}(h:(da d l).2=0):dE d=0:=by
 unfold da at h
 cases h1:(dO d).2 != 0
 ·exact rv (by simpa using h1)
 ·rw[h1,cT]at h;exact rv h
theorem c48 {d:Deck}{l:List Int}(hl:l.length<=999):Pure prog 135 [⟨.deck,d⟩,⟨.sl .int,l⟩] [.sl .int,.int] (gC d l):=
 Jn func135 (t48 d l) (by kernel_rfl) (by kernel_rfl) fun _=>by
  unfold gC
  refine⟨⟨T5',T2',tv⟩,_,c96 (by omega),ak (fun h=>⟨⟨T2',T2'⟩,by rw[h];rfl⟩) (fun h=>?_)⟩
  have h0:(da d l).2=0:=by simpa using h
  obtain⟨a,b,c⟩:=kR h0
  rw[h,cF]
  exact⟨⟨T5',T2',tv⟩,_,c97 (lk h0) b (by omega),⟨T2',T2'⟩,rfl⟩
theorem ul {d:Deck}(h0:dE d=0):∀ {l:List Span} (_:∀ s∈l,gL d s) (out:List Int),(l.foldl (fun out s=>dj out (eu d s)) out).length<=out.length+24*l.length
 | [],_,out=>by simp
 | s :: l, hs, out => by
   have h1:=pL h0 (hs s (by simp))
   have h2:=ul h0 (l:=l) (fun t ht=>hs t (by simp[ht])) (dj out (eu d s))
   have h3:=iy (a:=out) (b:=eu d s)
   simp only[gx,ag];omega
theorem rn {l:List Span}(h:l.length=2):∃ a b,l=[a,b]:=by
 match l,h with
 | [a,b],_=>exact⟨a,b,rfl⟩
theorem GY {a b:Span}(ha:a.lo<=a.hi)(hb:b.lo<=b.hi):Sp.lv a b=CC a b:=by
 unfold Sp.lv Sp.emp
 rw[dF (by omega),dF (by omega),cF,cF]
 unfold Sp.over CC
 by_cases h1:b.lo<a.lo<;>by_cases h2:b.hi>a.hi<;>simp[h1,h2]
theorem yP {d:Deck}{a b:Span}(ha:gL d a)(hb:gL d b):gL d (CC a b):=by
 obtain⟨a1,a2,a3⟩:=ha
 obtain⟨b1,b2,b3⟩:=hb
 unfold CC gL
 by_cases h1:b.lo<a.lo<;>by_cases h2:b.hi>a.hi<;>simp only[h1,h2,decide_true,jn,cT,cF]<;>omega
theorem Dv {d:Deck}(s:Span):nQ d [s]=eu d s:=by
 refine kS (nP _ _) (sx _ _) fun n=>?_
 rw[pB];simp
theorem c53 (d:Deck)(a b:Int):Pure prog 133 [⟨.deck,d⟩,⟨.int,a⟩,⟨.int,b⟩] [.sl .int,.int] (md d a b):=
 Jn func133 (t53 d a b) (by kernel_rfl) (by kernel_rfl) fun _=>by
  unfold md
  refine⟨⟨T2',T2',tv⟩,⟨T5',T2',tv⟩,_,c96 (by simp),ak (fun h=>⟨⟨T2',T2'⟩,by rw[h];rfl⟩) (fun h=>?_)⟩
  have h0:(da d [a,b]).2=0:=by simpa using h
  obtain⟨g1,g2,g3⟩:=kR h0
  obtain⟨x,y,e⟩:=rn g3
  rw[e]at g2
  rw[h,cF,e]
  have hx:=g2 x (by simp)
  have hy:=g2 y (by simp)
  have x2:=hx.2.1
  have y2:=hy.2.1
  refine⟨⟨⟨by simp,by simp⟩,tv⟩,⟨⟨by simp,by simp⟩,tv⟩,⟨T3',T3',tv⟩,_,(Sp.c21 x y).eq (GY x2 y2),⟨T3',tv⟩,⟨T5',T2',tv⟩,_,(c97 (l:=[CC x y]) (lk h0) (fun s hs=>by rw[bz.1 hs];exact yP hx hy) (by simp)).eq (Dv _),⟨T2',T2'⟩,rfl⟩
end Go.Proofs.Zn

namespace Go.Proofs.Wn
open Go.Proofs.Tryz
open Go Go.VL Go.Proofs.Zn
abbrev T6':True/\True/\True/\True/\True/\True:=⟨tv,tv,tv,tv,tv,tv⟩
def flS (k:Int):Flds:=bif k==1 then⟨true,false,false,false,false⟩else bif k==2 then⟨true,false,false,false,false⟩else bif k==4 then⟨false,true,true,false,true⟩else
 bif k==5 then⟨false,true,false,false,true⟩else bif k==6 then⟨false,true,false,false,true⟩else bif k==7 then⟨false,true,false,false,false⟩else bif k==9 then⟨false,true,false,false,false⟩else
 bif k==10 then⟨false,true,false,true,false⟩else⟨false,false,false,false,false⟩
theorem Fk {α:Type}{P:Program}{A:List Item->AS->Prop}{R0:α->Prop}{b:Bool}{S T:Out α}(h1:b=true->Sat P A R0 S)(h0:b=false->Sat P A R0 T):Sat P A R0 (bif b then S else T):=ak h1 h0
theorem c63 (k:Int):Pure prog 63 [⟨.int,k⟩] [.flds] (flS k):=
 ofT func63 (t63 k) (by kernel_rfl) (by kernel_rfl) fun _=>by
  unfold flS
  repeat' (refine Fk (fun _=>?_) (fun _=>?_))
  all_goals (refine⟨T6',?_⟩;show(_:Flds)=_)
  all_goals (first|rfl|(simp only[*,cT,cF];done)|simp_all)
def JJ (r:Req):Flds:=⟨decide ((r.ids.length:Int)>0),r.a != 0,r.b != 0,r.ver != 0,r.vol != 0⟩
theorem c64 (r:Req):Pure prog 64 [⟨.req,r⟩] [.flds] (JJ r):=ofT func64 (t64 r) (by kernel_rfl) (by kernel_rfl) fun _=>⟨T6',rfl⟩
def qI (f g:Flds):Bool:=(!f.ids||g.ids)&&((!f.a||g.a)&&((!f.b||g.b)&&((!f.ver||g.ver)&&(!f.vol||g.vol))))
theorem c65 (f g:Flds):Pure prog 65 [⟨.flds,f⟩,⟨.flds,g⟩] [.bool] (qI f g):=
 ofT func65 (t65 f g) (by kernel_rfl) (by kernel_rfl) fun _=>by
  obtain⟨f1,f2,f3,f4,f5⟩:=f
  obtain⟨g1,g2,g3,g4,g5⟩:=g
  cases f1<;>cases f2<;>cases f3<;>cases f4<;>cases f5<;>exact⟨T2',by cases g1<;>cases g2<;>cases g3<;>cases g4<;>cases g5<;>rfl⟩
def fD (e i:Int):Resp:=⟨e,i,0,0,[]⟩
theorem c62 (e:Int):Pure prog 62 [⟨.int,e⟩] [.resp] (fD e 0):=ofT func62 (t62 e) (by kernel_rfl) (by kernel_rfl) fun _=>⟨T6',rfl⟩
theorem c69 (e i:Int):Pure prog 69 [⟨.int,e⟩,⟨.int,i⟩] [.resp] (fD e i):=ofT func69 (t69 e i) (by kernel_rfl) (by kernel_rfl) fun _=>⟨T6',rfl⟩
def eH (d:Deck)(i:Int):Int:=(kU d i).1.kind
theorem FT {d:Deck}{i:Int}(h:(kU d i).2≠0):(kU d i).1=⟨0,0,0,0⟩:=by
 unfold kU at h ⊢
 cases h1:dE d != 0
 ·rw[h1,cF]at h;rw[cF]
  cases h2:decide (i<0)
  ·rw[h2,cF]at h;rw[cF]
   cases h3:decide (i>=((dz d).length:Int))
   ·rw[h3]at h;exact absurd rfl h
   ·rfl
  ·rfl
 ·rfl
theorem c68 (d:Deck)(i:Int):Pure prog 68 [⟨.deck,d⟩,⟨.int,i⟩] [.int] (eH d i):=ofT func68 (t68 d i) (by kernel_rfl) (by kernel_rfl) fun _=>⟨⟨T5',T2',tv⟩,_,c84 d i,T2',rfl⟩
theorem Pd (a b:Change):(a.ver==b.ver&&(a.by'==b.by'&&(a.n==b.n&&true)))=decide (a=b):=by
 obtain⟨a1,a2,a3⟩:=a
 obtain⟨b1,b2,b3⟩:=b
 simp only[Bool.and_true,Change.mk.injEq]
 by_cases h1:a1=b1<;>by_cases h2:a2=b2<;>by_cases h3:a3=b3<;>simp[h1,h2,h3]
theorem GK {a b:List Change}(he:a.length=b.length)(hl:a.length<=1000000){r:Bool}{A:Pr}(hA:CL codes sigs f60 [.bool] r A)
  (i:Nat) (hi:i<=a.length) (h:decide (a.drop i=b.drop i)=r):A (hd f60 0) (L60 a b i):=by
 refine hA.go (t60a a b i) (ak (fun h1=>?_) (fun h1=>?_))
 ·have h1:=oT h1
  have hil:i<a.length:=by omega
  have hib:i<b.length:=by omega
  rw[bf hil,bf hib,Pd]
  rw[dG hil,dG hib]at h
  refine⟨⟨⟨by omega,by omega⟩,tv⟩,⟨⟨by omega,by omega⟩,tv⟩,ak (fun h2=>?_) (fun h2=>?_)⟩
  ·have e:¬ a[i]=b[i]:=by simpa using h2
   rw[dF (fun h=>e (iN h).1)]at h
   exact⟨T2',h⟩
  ·have e:a[i]=b[i]:=by simpa using h2
   rw[e]at h
   rw[aw (by omega)]
   exact GK he hl hA (i+1) (by omega) (by rw[← h];exact cg.2 ⟨fun h=>by rw[h],fun h=>(iN h).2⟩)
 ·have h1:=oF h1
  rw[dN (by omega),dN (by omega)]at h
  exact⟨T2',h⟩
termination_by a.length-i
theorem c60 {a b:List Change}(hl:a.length<=1000000):Pure prog 60 [⟨.sl .change,a⟩,⟨.sl .change,b⟩] [.bool] (decide (a=b)):=
 Pure.of_closed (C:=codes) (S:=sigs) mixed func60 (by kernel_rfl) (ac (by kernel_rfl)) fun A hA=>hA.go (t60 a b) (by
  refine ak (fun h1=>?_) (fun h1=>?_)
  ·have h1:¬ (a.length:Int)=(b.length:Int):=by simpa using h1
   exact⟨T2',(dF (fun h=>h1 (by rw[h]))).symm⟩
  ·have h1:(a.length:Int)=(b.length:Int):=by simpa using h1
   exact GK (by omega) hl hA 0 (by omega) rfl)
def vt:List Int->List Int->Int->Int
 | _,[],_ => -1
 | seen,x::l,i=>bif seen.elem x then i else vt (seen++[x]) l (i+1)
def nJ (l:List Int):Int:=vt [] l 0
theorem Ej (l:List Int)(x y:Int):(l++[x]).elem y=(l.elem y||y==x):=by
 rw[fy]
 simp
theorem get_put (n x y:Int):∀ kvs:List (Int×Int),(lx n (nl x y kvs)).isSome=((lx n kvs).isSome||n==x)
 | [] => by
   by_cases h:x=n
   ·subst h;simp[nl,lx]
   ·have h1:(x==n)=false:=by simpa using h
    have h2:(n==x)=false:=by simpa using fun e=>h e.symm
    simp only[nl,lx,h1,h2,cF];rfl
 | kv :: kvs => by
   unfold nl
   by_cases h:kv.1=x
   ·subst h
    have:(kv.1==kv.1)=true:=by simp
    rw[this,cT]
    by_cases h2:kv.1=n
    ·subst h2;simp[lx]
    ·have h3:(kv.1==n)=false:=by simpa using h2
     have h4:(n==kv.1)=false:=by simpa using fun e=>h2 e.symm
     simp only[lx,h3,h4,cF,Bool.or_false]
   ·have:(kv.1==x)=false:=by simpa using h
    rw[this,cF]
    by_cases h2:kv.1=n
    ·subst h2;simp[lx]
    ·have h3:(kv.1==n)=false:=by simpa using h2
     simp only[lx,h3,cF]
     exact get_put n x y kvs
theorem oY {l:List Int}(hl:l.length<=1000000){r:Int}{A:Pr}(hA:CL codes sigs f128 [.int] r A)
  (i:Nat) (hi:i<=l.length) (kvs:List (Int×Int)) (hk:∀ n,(lx n kvs).isSome=(l.take i).elem n) (h:vt (l.take i) (l.drop i) i=r):A (hd f128 0) (Ey kvs l i):=by
 refine hA.go (Ff kvs l i) (ak (fun h1=>?_) (fun h1=>?_))
 ·have h1:=oT h1
  have hil:i<l.length:=by omega
  rw[bf hil,hk]
  rw[dG hil,vt]at h
  refine⟨⟨⟨by omega,by omega⟩,tv⟩,ak (fun h2=>⟨T2',?_⟩) (fun h2=>⟨T2',?_⟩)⟩
  ·rw[h2]at h;exact h
  ·rw[h2,cF]at h
   rw[aw (by omega)]
   refine oY hl hA (i+1) (by omega) _ (fun n=>?_) (by rw[ba hil];exact h)
   rw[get_put,hk,ba hil,Ej]
 ·have h1:=oF h1
  rw[dN (by omega),vt]at h
  exact⟨T2',h⟩
termination_by l.length-i
theorem Es {l:List Int}(hl:l.length<=1000000):Pure prog 128 [⟨.sl .int,l⟩] [.int] (nJ l):=
 Pure.of_closed (C:=codes) (S:=sigs) mixed func128 (by kernel_rfl) (ac (by kernel_rfl)) fun A hA=>hA.go (LS l) (oY hl hA 0 (by omega) [] (fun n=>rfl) rfl)
theorem Am:∀ (l seen:List Int) (i:Int),0<=i->vt seen l i<i+(l.length:Int) /\(-1<=vt seen l i)
 | [],seen,i,h=>by simp[vt];omega
 | x :: l, seen, i, h => by
   unfold vt
   have:=Am l (seen++[x]) (i+1) (by omega)
   cases seen.elem x
   ·rw[cF,ag];omega
   ·rw[cT,ag];omega
theorem EH {l:List Int}(h:nJ l>=0):nJ l<(l.length:Int):=by
 have:=(Am l [] 0 (by omega)).1
 unfold nJ at h ⊢
 omega
def jD (d:Deck):List Int->Resp
 | []=>fD 0 0
 | x::l=>bif eH d x==0 then fD 3 x else jD d l
def og (d:Deck)(l:List Int):Resp:=bif (l.length:Int)==0 then fD 1 0 else bif decide ((l.length:Int)>16)then fD 2 0 else bif decide (nJ l>=0)then fD 152 (l.getD (nJ l).toNat 0)else jD d l
theorem GJ {d:Deck}{l:List Int}(hl:l.length<=16){r:Resp}{A:Pr}(hA:CL codes sigs f66 [.resp] r A)
  (i:Nat) (hi:i<=l.length) (h:jD d (l.drop i)=r):A (hd f66 0) (L66 d l i):=by
 refine hA.go (t66a d l i) (ak (fun h1=>?_) (fun h1=>?_))
 ·have h1:=oT h1
  have hil:i<l.length:=by omega
  rw[bf hil]
  rw[dG hil,jD]at h
  refine⟨⟨⟨by omega,by omega⟩,tv⟩,⟨T5',T2',tv⟩,_,c68 d _,ak (fun h2=>⟨⟨T2',T2',tv⟩,_,c69 _ _,T6',?_⟩) (fun h2=>?_)⟩
  ·rw[h2]at h;exact h
  ·rw[h2,cF]at h
   rw[aw (by omega)]
   exact GJ hl hA (i+1) (by omega) h
 ·have h1:=oF h1
  rw[dN (by omega)]at h
  exact⟨T6',h⟩
termination_by l.length-i
theorem c66 (d:Deck)(l:List Int):Pure prog 66 [⟨.deck,d⟩,⟨.sl .int,l⟩] [.resp] (og d l):=
 Pure.of_closed (C:=codes) (S:=sigs) mixed func66 (by kernel_rfl) (ac (by kernel_rfl)) fun A hA=>hA.go (t66 d l) (by
  generalize hr:og d l=r at hA ⊢
  unfold og at hr
  refine ak (fun h=>⟨⟨T2',tv⟩,_,c62 1,T6',by rw[h]at hr;exact hr⟩) (fun h1=>ak (fun h=>⟨⟨T2',tv⟩,_,c62 2,T6',by rw[h1,h]at hr;exact hr⟩) (fun h2=>?_))
  have h2':=oF h2
  refine⟨⟨T2',tv⟩,_,Es (by omega),ak (fun h=>?_) (fun h=>?_)⟩
  ·have ht:=EH (oT h)
   refine⟨⟨⟨oT h,ht⟩,tv⟩,⟨T2',T2',tv⟩,_,c69 _ _,T6',?_⟩
   rw[h1,h2,h]at hr;exact hr
  ·rw[h1,h2,h]at hr
   exact GJ (by omega) hA 0 (by omega) hr)
end Go.Proofs.Wn

namespace Go.Proofs.Wn
open Go.Proofs.Tryz
open Go Go.VL
abbrev zi (r:Req):List AV:=[i64 r.kind,.d (.sl .int r.ids),i64 r.a,i64 r.b,i64 r.ver,u64 r.vol]
abbrev Hh (f:Flds):List AV:=[ca f.ids,ca f.a,ca f.b,ca f.ver,ca f.vol]
theorem t67 (r:Req)(f:Flds):@Eq _ (yS prog codes sigs f67 0 100 [.agg (zi r),.agg (Hh f)] [] 0) (.need True (.ret ⟨[.clo (.func 129) [] [.ptr 0 0,.ptr 1 0]],[(0,.box (rC r)),(1,.box (fC f))],2⟩)):=by kernel_rfl
theorem t18 (d:Deck)(r:Req):@Eq _ (xS prog codes sigs f18 [.resp] 300 [⟨.deck,d⟩,⟨.req,r⟩]) (.need (U5/\True) (.callP 61 [⟨.deck,d⟩] [.int] fun(x:Int)=>bif x != 0 then .need (U2/\True) (.callP 62 [⟨.int,x⟩] [.resp] fun(x:Resp)=>.need U6 (.ret x))else .need (U2/\True) (.callP 63 [⟨.int,r.kind⟩] [.flds] fun(x:Flds)=>bif decide (r.kind<1)then .need (U2/\True) (.callP 62 [⟨.int,(150:Int)⟩] [.resp] fun(x:Resp)=>.need U6 (.ret x))else bif decide (r.kind>10)then .need (U2/\True) (.callP 62 [⟨.int,(150:Int)⟩] [.resp] fun(x:Resp)=>.need U6 (.ret x))else .need (U7/\True) (.callP 64 [⟨.req,r⟩] [.flds] fun(x_1:Flds)=>.need (U6/\U6/\True) (.callP 65 [⟨.flds,x_1⟩,⟨.flds,x⟩] [.bool] fun(x_2:Bool)=>bif !x_2 then .need (U2/\True) (.callP 62 [⟨.int,(151:Int)⟩] [.resp] fun(x:Resp)=>.need U6 (.ret x))else bif Flds.ids x then .need (U5/\U2/\True) (.callP 66 [⟨.deck,d⟩,⟨.sl .int,r.ids⟩] [.resp] fun(x:Resp)=>.need U6 (.ret x))else .callG 67 [.agg (rC r),.agg (fC x)] [] 0 [] (fun(a:PUnit)=>GRes.mk [.clo (.func 129) [] [.ptr 0 0,.ptr 1 0]] [(0,.box (rC r)),(1,.box (fC x))] 2) fun(x_3:PUnit)=>.stop (rf f18 0) (mkS 76 [(2,.ptr 0 0),(3,.ptr 1 0),(4,.ptr 2 0),(6,.ptr 3 0),(46,.clo (.func 129) [] [.ptr 4 0,.ptr 5 0]),(47,.d (.v (.tuple (Array.mk [])))),(48,.d (.v (.tuple (Array.mk []))))] [(0,.box (dC d)),(1,.box (rC r)),(2,.box [i64 0,i64 0,i64 0,i64 0,nS]),(3,.box (fC x)),(4,.box (rC r)),(5,.box (fC x))] 6)))))):=by kernel_rfl
end Go.Proofs.Wn

namespace Go.Proofs.Wn
open Go.Proofs.Tryz
open Go Go.VL
def cY:List AV:=[i64 0,i64 0,i64 0,i64 0,.d (.v (.slice none 0 0))]
def fL (x:Resp):List AV:=[i64 x.err,i64 x.id,i64 x.n,i64 x.ver,.d (.sl .change x.list)]
def H18 (d:Deck)(r:Req)(f:Flds)(x:List AV):Heap:=[(0,.box (Zn.cw d)),(1,.box (zi r)),(2,.box x),(3,.box (Hh f)),(4,.box (zi r)),(5,.box (Hh f))]
def Ky (l:Nat)(d:Deck)(r:Req)(f:Flds)(x:List AV):AS:=mkS 25 [(0,.clo (.yield l) [] []),(1,.ptr 4 0),(2,.ptr 5 0)] (H18 d r f x) 6
def EP:List AV:=(mkS 76 [(2,.ptr 0 0),(3,.ptr 1 0),(4,.ptr 2 0),(6,.ptr 3 0),(46,.clo (.func 129) [] [.ptr 4 0,.ptr 5 0]),(47,.d (.v (.tuple #[]))),(48,.d (.v (.tuple #[])))] [] 6).tmps
def R18 (d:Deck)(r:Req)(f:Flds)(i w:Int)(n:Nat):AS:=⟨(EP.set 47 (i64 i)).set 48 (i64 w),H18 d r f cY,n⟩
def B18 (d:Deck)(r:Req)(f:Flds)(i w:Int)(n:Nat):AS:=mkS 76 [(2,.ptr 0 0),(4,.ptr 2 0),(7,i64 i),(8,i64 w)] (H18 d r f cY) n
def K18 (d:Deck)(r:Req)(f:Flds)(x:List AV)(n:Nat):AS:=⟨EP,H18 d r f x,n⟩
def rtK (t:List Item):List Item:=.code .ret::rfK t
def Nm (l:Nat)(d:Deck)(r:Req)(f:Flds)(w:Int):AS:=mkS 25 [(0,.clo (.yield l) [] []),(1,.ptr 4 0),(2,.ptr 5 0),(4,i64 w)] (H18 d r f cY) 6
def PN (l:Nat)(d:Deck)(r:Req)(f:Flds)(w:Int)(b:Bool)(n:Nat)(x:List AV):AS:=mkS 25 [(0,.clo (.yield l) [] []),(1,.ptr 4 0),(2,.ptr 5 0),(4,i64 w),(8,.ptr 5 1),(9,ca true),(10,ca true),(11,.clo (.yield l) [] []),(12,.ptr 4 2),(13,i64 r.a),(14,i64 w),(15,ca b)] (H18 d r f x) n
def Qj (l:Nat)(d:Deck)(r:Req)(f:Flds)(w:Int):AS:=mkS 25 [(0,.clo (.yield l) [] []),(1,.ptr 4 0),(4,i64 w)] (H18 d r f cY) 6
def PO (l:Nat)(d:Deck)(r:Req)(f:Flds)(w:Int)(b:Bool)(x:List AV):AS:=mkS 25 [(0,.clo (.yield l) [] []),(1,.ptr 4 0),(4,i64 w),(20,.clo (.yield l) [] []),(21,.ptr 4 3),(22,i64 r.b),(23,i64 w),(24,ca b)] (H18 d r f x) 46
theorem Ot (l:Nat)(d:Deck)(r:Req)(f:Flds):@Eq (Out Unit) (bj prog codes sigs f129 (fun _ _=>none:Fin Unit) 6 ⟨[3],false⟩ 300 false (cx f129) (Ky l d r f cY)) (bif r.kind==7 then .stop (rg f129 3) (mkS 25 [(0,.clo (.yield l) [] []),(1,.ptr 4 0),(2,.ptr 5 0),(4,i64 2)] [(0,.box (dC d)),(1,.box (rC r)),(2,.box [i64 0,i64 0,i64 0,i64 0,nS]),(3,.box (fC f)),(4,.box (rC r)),(5,.box (fC f))] 6)else .stop (rg f129 3) (mkS 25 [(0,.clo (.yield l) [] []),(1,.ptr 4 0),(2,.ptr 5 0),(4,i64 1)] [(0,.box (dC d)),(1,.box (rC r)),(2,.box [i64 0,i64 0,i64 0,i64 0,nS]),(3,.box (fC f)),(4,.box (rC r)),(5,.box (fC f))] 6)):=by kernel_rfl
theorem Oq (l:Nat)(d:Deck)(r:Req)(fi fb fv fl:Bool)(w:Int):@Eq (Out Unit) (bj prog codes sigs f129 (fun _ _=>none:Fin Unit) 6 ⟨[5],true⟩ 300 true (rg f129 3) (Nm l d r ⟨fi,true,fb,fv,fl⟩ w)) (.stop (inR f129 3 7) (mkS 25 [(0,.clo (.yield l) [] []),(1,.ptr 4 0),(2,.ptr 5 0),(4,i64 w),(8,.ptr 5 1),(9,.d (.v (.bool true))),(10,.d (.v (.bool true))),(11,.clo (.yield l) [] []),(12,.ptr 4 2),(13,i64 r.a),(14,i64 w)] [(0,.box (dC d)),(1,.box (rC r)),(2,.box [i64 0,i64 0,i64 0,i64 0,nS]),(3,.box [.d (.v (.bool fi)),.d (.v (.bool true)),.d (.v (.bool fb)),.d (.v (.bool fv)),.d (.v (.bool fl))]),(4,.box (rC r)),(5,.box [.d (.v (.bool fi)),.d (.v (.bool true)),.d (.v (.bool fb)),.d (.v (.bool fv)),.d (.v (.bool fl))])] 6)):=by kernel_rfl
theorem Oo (l:Nat)(d:Deck)(r:Req)(fi fb fv fl:Bool)(w:Int):@Eq (Out Unit) (bj prog codes sigs f129 (fun _ _=>none:Fin Unit) 6 ⟨[5],true⟩ 300 true (rg f129 3) (Nm l d r ⟨fi,false,false,fv,fl⟩ w)) (.stop [] (mkS 25 [] [(0,.box (dC d)),(1,.box (rC r)),(2,.box [i64 0,i64 0,i64 0,i64 0,nS]),(3,.box [.d (.v (.bool fi)),.d (.v (.bool false)),.d (.v (.bool false)),.d (.v (.bool fv)),.d (.v (.bool fl))]),(4,.box (rC r)),(5,.box [.d (.v (.bool fi)),.d (.v (.bool false)),.d (.v (.bool false)),.d (.v (.bool fv)),.d (.v (.bool fl))])] 6)):=by kernel_rfl
theorem On (l:Nat)(d:Deck)(r:Req)(fi fb fv fl:Bool)(w:Int):@Eq (Out Unit) (bj prog codes sigs f129 (fun _ _=>none:Fin Unit) 6 ⟨[5],true⟩ 300 true (inR f129 3 8) (PN l d r ⟨fi,true,fb,fv,fl⟩ w true 86 cY)) (bif fb then .stop (rg f129 5) (mkS 25 [(0,.clo (.yield l) [] []),(1,.ptr 4 0),(4,i64 w)] [(0,.box (dC d)),(1,.box (rC r)),(2,.box [i64 0,i64 0,i64 0,i64 0,nS]),(3,.box [.d (.v (.bool fi)),.d (.v (.bool true)),.d (.v (.bool fb)),.d (.v (.bool fv)),.d (.v (.bool fl))]),(4,.box (rC r)),(5,.box [.d (.v (.bool fi)),.d (.v (.bool true)),.d (.v (.bool fb)),.d (.v (.bool fv)),.d (.v (.bool fl))])] 6)else .stop [] (mkS 25 [] [(0,.box (dC d)),(1,.box (rC r)),(2,.box [i64 0,i64 0,i64 0,i64 0,nS]),(3,.box [.d (.v (.bool fi)),.d (.v (.bool true)),.d (.v (.bool fb)),.d (.v (.bool fv)),.d (.v (.bool fl))]),(4,.box (rC r)),(5,.box [.d (.v (.bool fi)),.d (.v (.bool true)),.d (.v (.bool fb)),.d (.v (.bool fv)),.d (.v (.bool fl))])] 6)):=by kernel_rfl
theorem Om (l:Nat)(d:Deck)(r:Req)(fi fb fv fl:Bool)(w:Int)(x:Resp):@Eq (Out Unit) (bj prog codes sigs f129 (fun _ _=>none:Fin Unit) 6 ⟨[5],true⟩ 300 true (inR f129 3 8) (PN l d r ⟨fi,true,fb,fv,fl⟩ w false 86 (fL x))) (.stop (rt f129 0) (mkS 25 [] [(0,.box (dC d)),(1,.box (rC r)),(2,.box (pC x)),(3,.box [.d (.v (.bool fi)),.d (.v (.bool true)),.d (.v (.bool fb)),.d (.v (.bool fv)),.d (.v (.bool fl))]),(4,.box (rC r)),(5,.box [.d (.v (.bool fi)),.d (.v (.bool true)),.d (.v (.bool fb)),.d (.v (.bool fv)),.d (.v (.bool fl))])] 6)):=by kernel_rfl
theorem Ok (l:Nat)(d:Deck)(r:Req)(f:Flds)(w:Int)(x:Resp):@Eq (Out Unit) (bj prog codes sigs f129 (fun _ _=>none:Fin Unit) 6 ⟨[5],true⟩ 300 true (inR f129 5 5) (PO l d r f w false (fL x))) (.stop [] (mkS 25 [] [(0,.box (dC d)),(1,.box (rC r)),(2,.box (pC x)),(3,.box (fC f)),(4,.box (rC r)),(5,.box (fC f))] 6)):=by kernel_rfl
theorem Oj (l:Nat)(d:Deck)(r:Req)(f:Flds)(w:Int):@Eq (Out Unit) (bj prog codes sigs f129 (fun _ _=>none:Fin Unit) 6 ⟨[5],true⟩ 300 true (inR f129 5 5) (PO l d r f w true cY)) (.stop [] (mkS 25 [] [(0,.box (dC d)),(1,.box (rC r)),(2,.box [i64 0,i64 0,i64 0,i64 0,nS]),(3,.box (fC f)),(4,.box (rC r)),(5,.box (fC f))] 6)):=by kernel_rfl
theorem Ol (l:Nat)(d:Deck)(r:Req)(f:Flds)(w:Int):@Eq (Out Unit) (bj prog codes sigs f129 (fun _ _=>none:Fin Unit) 6 ⟨[5],true⟩ 300 true (rg f129 5) (Qj l d r f w)) (.stop (inR f129 5 4) (mkS 25 [(0,.clo (.yield l) [] []),(1,.ptr 4 0),(4,i64 w),(20,.clo (.yield l) [] []),(21,.ptr 4 3),(22,i64 r.b),(23,i64 w)] [(0,.box (dC d)),(1,.box (rC r)),(2,.box [i64 0,i64 0,i64 0,i64 0,nS]),(3,.box (fC f)),(4,.box (rC r)),(5,.box (fC f))] 6)):=by kernel_rfl
theorem t18r (d:Deck)(r:Req)(f:Flds)(i w:Int):@Eq (Out Unit) (bj prog codes sigs f18 (fun _ _=>none:Fin Unit) 86 ⟨[],true⟩ 300 true (rd f18 0) (R18 d r f i w 86)) (.stop (rb f18 0) (mkS 76 [(2,.ptr 0 0),(4,.ptr 2 0),(7,i64 i),(8,i64 w)] [(0,.box (dC d)),(1,.box (rC r)),(2,.box [i64 0,i64 0,i64 0,i64 0,nS]),(3,.box (fC f)),(4,.box (rC r)),(5,.box (fC f))] 86)):=by kernel_rfl
theorem t18s (d:Deck)(r:Req)(f:Flds)(i w:Int):@Eq (Out Unit) (bj prog codes sigs f18 (fun _ _=>none:Fin Unit) 46 ⟨[],true⟩ 300 true (rd f18 0) (R18 d r f i w 46)) (.stop (rb f18 0) (mkS 76 [(2,.ptr 0 0),(4,.ptr 2 0),(7,i64 i),(8,i64 w)] [(0,.box (dC d)),(1,.box (rC r)),(2,.box [i64 0,i64 0,i64 0,i64 0,nS]),(3,.box (fC f)),(4,.box (rC r)),(5,.box (fC f))] 46)):=by kernel_rfl
theorem t18c (d:Deck)(r:Req)(f:Flds)(i w:Int):@Eq (Out Unit) (bj prog codes sigs f18 (fun _ _=>none:Fin Unit) 86 ⟨[],true⟩ 300 true (List.tail (rb f18 0)) (B18 d r f i w 86)) (.need (U5/\U2/\True) (.callP 68 [⟨.deck,d⟩,⟨.int,i⟩] [.int] fun(x:Int)=>bif x != w then .need (U2/\U2/\True) (.callP 69 [⟨.int,(3:Int)⟩,⟨.int,i⟩] [.resp] fun(x:Resp)=>.stop [Item.code Code.ret,Item.inBlock 2] (mkS 76 [(4,.ptr 2 0)] [(0,.box (dC d)),(1,.box (rC r)),(2,.box (pC x)),(3,.box (fC f)),(4,.box (rC r)),(5,.box (fC f))] 86))else .stop [] (mkS 76 [(4,.ptr 2 0)] [(0,.box (dC d)),(1,.box (rC r)),(2,.box [i64 0,i64 0,i64 0,i64 0,nS]),(3,.box (fC f)),(4,.box (rC r)),(5,.box (fC f))] 86))):=by kernel_rfl
theorem t18d (d:Deck)(r:Req)(f:Flds)(i w:Int):@Eq (Out Unit) (bj prog codes sigs f18 (fun _ _=>none:Fin Unit) 46 ⟨[],true⟩ 300 true (List.tail (rb f18 0)) (B18 d r f i w 46)) (.need (U5/\U2/\True) (.callP 68 [⟨.deck,d⟩,⟨.int,i⟩] [.int] fun(x:Int)=>bif x != w then .need (U2/\U2/\True) (.callP 69 [⟨.int,(3:Int)⟩,⟨.int,i⟩] [.resp] fun(x:Resp)=>.stop [Item.code Code.ret,Item.inBlock 2] (mkS 76 [(4,.ptr 2 0)] [(0,.box (dC d)),(1,.box (rC r)),(2,.box (pC x)),(3,.box (fC f)),(4,.box (rC r)),(5,.box (fC f))] 46))else .stop [] (mkS 76 [(4,.ptr 2 0)] [(0,.box (dC d)),(1,.box (rC r)),(2,.box [i64 0,i64 0,i64 0,i64 0,nS]),(3,.box (fC f)),(4,.box (rC r)),(5,.box (fC f))] 46))):=by kernel_rfl
theorem t18k (d:Deck)(r:Req)(f:Flds)(n:Nat):@Eq (Out (bh [.resp])) (bj prog codes sigs f18 (bm [.resp]) 6 fu 300 true (rfK (rf f18 0)) (K18 d r f cY n)) (bif Flds.b f then bif r.a==r.b then .need (U2/\True) (.callP 62 [⟨.int,(1:Int)⟩] [.resp] fun(x:Resp)=>.need U6 (.ret x))else bif Flds.vol f then .need (U7/\True) (.callP 15 [⟨.req,r⟩] [.int,.int] fun(x:Int×Int)=>.need (U2/\True) (.callP 62 [⟨.int,x.2⟩] [.resp] fun(x:Resp)=>.need U6 (.ret x)))else .need U6 (.ret (Resp.mk (0:Int) (0:Int) (0:Int) (0:Int) []))else bif Flds.vol f then .need (U7/\True) (.callP 15 [⟨.req,r⟩] [.int,.int] fun(x:Int×Int)=>.need (U2/\True) (.callP 62 [⟨.int,x.2⟩] [.resp] fun(x:Resp)=>.need U6 (.ret x)))else .need U6 (.ret (Resp.mk (0:Int) (0:Int) (0:Int) (0:Int) []))):=by kernel_rfl
theorem NT (d:Deck)(r:Req)(f:Flds)(x:Resp)(n:Nat):@Eq (Out (bh [.resp])) (bj prog codes sigs f18 (bm [.resp]) 6 fu 300 true (rtK (rf f18 0)) (K18 d r f (fL x) n)) (.need U6 (.ret x)):=by kernel_rfl
end Go.Proofs.Wn

namespace Go.Proofs.Wn
open Go.Proofs.Tryz
open Go Go.VL
open Zn (cW)
theorem c67 (r:Req)(f:Flds):Gc prog 67 [.agg (zi r),.agg (Hh f)] [] 0 (xy [.agg (zi r),.agg (Hh f)] [] ()):=
 Gc.of_closed (C:=codes) (S:=sigs) mixed func67 (by kernel_rfl) (fun i T t ys hi _=>absurd hi (bG _)) fun A hA=>
  hA.go (t67 r f) ⟨tv,.of_eq rfl⟩
def fI (r:Req):Int:=bif r.kind==7 then 2 else 1
def Hm (r:Req)(f:Flds):Resp:=bif f.b&&r.a==r.b then fD 1 0 else bif f.vol then fD (cB r).2 0 else fD 0 0
def kI (d:Deck)(r:Req)(f:Flds):Resp:=bif f.a&&(eH d r.a != fI r)then fD 3 r.a else bif f.b&&(eH d r.b != fI r)then fD 3 r.b else Hm r f
def dr (d:Deck)(r:Req):Resp:=bif cW d != 0 then fD (cW d) 0 else bif decide (r.kind<1)||decide (r.kind>10)then fD 150 0 else bif !qI (JJ r) (flS r.kind)then fD 151 0 else bif (flS r.kind).ids then og d r.ids else kI d r (flS r.kind)
theorem pZ {d:Deck}{r:Req}{f:Flds}{x:List AV}{H:Heap}{n:Nat}:RowsLe n H (H18 d r f x):=by
 intro i T t xs hi hx
 match i,hx with
 | 0,hx=>cases hx
 | 1,hx=>cases hx
 | 2,hx=>cases hx
 | 3,hx=>cases hx
 | 4,hx=>cases hx
 | 5,hx=>cases hx
 | i+6,hx=>cases hx
def yOK (todo:List Item)(dst yt a b:Tmp):Bool:=match Jj todo with
 | some o => (o.dst == some dst) && (match wx o with
   | some (.tmp y, args) => (match args.toList with
     | [.tmp z,.tmp u]=>y==yt&&(z==a&&u==b)
     | _=>false)
   | _=>false)
 | none=>false
theorem Mj {todo:List Item}{dst yt a b:Tmp}(h:yOK todo dst yt a b=true):∃ o args,Jj todo=some o/\o.dst=some dst/\wx o=some (.tmp yt,args)/\args.toList=[.tmp a,.tmp b]:=by
 unfold yOK at h
 split at h
 ·rename_i o ho
  simp only[aM]at h
  obtain⟨hd,hc⟩:=h
  split at hc
  ·rename_i y args hcall
   split at hc
   ·rename_i z u hz
    simp only[aM,bV]at hc
    obtain⟨rfl,rfl,rfl⟩:=hc
    exact⟨o,args,ho,by simpa using hd,hcall,hz⟩
   ·cases hc
  ·cases hc
 ·cases h
def wOK (todo:List Item)(s:AS):Bool:=match Jj todo with
 | some o=>mO (mE todo) o s
 | none=>false
abbrev GG (l:Nat)(d:Deck)(r:Req)(f:Flds)(done:Heap->Nat->Prop)(doneJ:Code->Heap->Nat->Prop)(A:List Item->AS->Prop):Prop:=
 ClG prog codes sigs f129 f18 6 l (H18 d r f cY) (rfP (rf f18 0)) (rfA (rf f18 0)) (rfB (rf f18 0)) EP done doneJ A
theorem yld {l:Nat}{d:Deck}{r:Req}{f:Flds}{i w:Int}{done:Heap->Nat->Prop}{doneJ:Code->Heap->Nat->Prop}{A:List Item->AS->Prop}
  (hG:GG l d r f done doneJ A) (todo:List Item) (tm:List AV) (dst yt a b:Tmp) (n:Nat) (hn:6+8*(mE todo).size=n) (hin:GW todo=true) (hy:yOK todo dst yt a b=true) (hw:wOK todo ⟨tm,H18 d r f cY,6⟩=true)
  (hev:tm.getD yt .dead=.clo (.yield l) [] []) (hea:tm.getD a .dead=i64 i) (heb:tm.getD b .dead=i64 w)
  (h18:∀ Ar,ClB prog codes sigs f18 n (fun s2=>RowsLe n (H18 d r f cY) s2.H/\A (mF todo) ⟨tm.set dst (ca true),s2.H,s2.next⟩)
   (fun j s2=>RowsLe n (H18 d r f cY) s2.H/\∀ Ad,ClD prog codes sigs f129 6 (doneJ j) Ad->Ad (mF todo) ⟨tm.set dst (ca false),s2.H,s2.next⟩) Ar->Ar (rd f18 0) (R18 d r f i w n)):A todo ⟨tm,H18 d r f cY,6⟩:=by
 obtain⟨o,args,ho,hds,hc,ha⟩:=Mj hy
 have hsz:args.size=(rfP (rf f18 0)).size:=by
  have e1:args.size=2:=by rw[← be,ha];rfl
  have e2:(rfP (rf f18 0)).size=2:=by kernel_rfl
  rw[e1,e2]
 have hg:mO (mE todo) o ⟨tm,H18 d r f cY,6⟩=true:=by
  unfold wOK at hw;rw[ho]at hw;exact hw
 refine hG.at todo ⟨tm,H18 d r f cY,6⟩ o (.tmp yt) args hin ho hg hc hev hsz pZ (aI _) (fun Ar hAr=>?_)
 rw[ha]
 have e2:[Operand.tmp a,Operand.tmp b].map (⟨tm,H18 d r f cY,6⟩:AS).ev=[i64 i,i64 w]:=by rw[← hea,← heb];rfl
 have e3:oA EP (rfP (rf f18 0)).toList [i64 i,i64 w]=(R18 d r f i w n).tmps:=by kernel_rfl
 rw[e2,e3]
 rw[hds]at hAr
 subst hn
 exact h18 Ar hAr
theorem Nn {l:Nat}{d:Deck}{r:Req}{f:Flds}{i w:Int}{done:Heap->Nat->Prop}{doneJ:Code->Heap->Nat->Prop}{A:List Item->AS->Prop}
  (hG:GG l d r f done doneJ A) (todo:List Item) (tm:List AV) (dst yt a b:Tmp) (hn:6+8*(mE todo).size=86) (hin:GW todo=true) (hy:yOK todo dst yt a b=true) (hw:wOK todo ⟨tm,H18 d r f cY,6⟩=true)
  (hev:tm.getD yt .dead=.clo (.yield l) [] []) (hea:tm.getD a .dead=i64 i) (heb:tm.getD b .dead=i64 w)
  (hgood:eH d i=w->A (mF todo) ⟨tm.set dst (ca true),H18 d r f cY,86⟩)
  (hbad:eH d i≠w->∀ Ad,ClD prog codes sigs f129 6 (doneJ .ret) Ad->Ad (mF todo) ⟨tm.set dst (ca false),H18 d r f (fL (fD 3 i)),86⟩):A todo ⟨tm,H18 d r f cY,6⟩:=by
 refine yld hG todo tm dst yt a b 86 hn hin hy hw hev hea heb (fun Ar hAr=>hAr.cl.go (t18r d r f i w) ?_)
 show Ar (.beginRound::[.code (rfB (rf f18 0))]) (B18 d r f i w 86)
 refine hAr.begin' _ _ (fun A3 hA3=>hA3.cl.go (t18c d r f i w) ⟨⟨Zn.T5',T2',tv⟩,_,c68 d i,ak (fun h=>⟨⟨T2',T2',tv⟩,_,c69 3 i,?_⟩) (fun h=>?_)⟩)
 ·exact hA3.ret _ _ ⟨pZ (x:=fL (fD 3 i)),hbad (by simpa using h)⟩
 ·exact hA3.fine _ ⟨pZ (x:=cY),hgood (by simpa using h)⟩
theorem Np {l:Nat}{d:Deck}{r:Req}{f:Flds}{i w:Int}{done:Heap->Nat->Prop}{doneJ:Code->Heap->Nat->Prop}{A:List Item->AS->Prop}
  (hG:GG l d r f done doneJ A) (todo:List Item) (tm:List AV) (dst yt a b:Tmp) (hn:6+8*(mE todo).size=46) (hin:GW todo=true) (hy:yOK todo dst yt a b=true) (hw:wOK todo ⟨tm,H18 d r f cY,6⟩=true)
  (hev:tm.getD yt .dead=.clo (.yield l) [] []) (hea:tm.getD a .dead=i64 i) (heb:tm.getD b .dead=i64 w)
  (hgood:eH d i=w->A (mF todo) ⟨tm.set dst (ca true),H18 d r f cY,46⟩)
  (hbad:eH d i≠w->∀ Ad,ClD prog codes sigs f129 6 (doneJ .ret) Ad->Ad (mF todo) ⟨tm.set dst (ca false),H18 d r f (fL (fD 3 i)),46⟩):A todo ⟨tm,H18 d r f cY,6⟩:=by
 refine yld hG todo tm dst yt a b 46 hn hin hy hw hev hea heb (fun Ar hAr=>hAr.cl.go (t18s d r f i w) ?_)
 show Ar (.beginRound::[.code (rfB (rf f18 0))]) (B18 d r f i w 46)
 refine hAr.begin' _ _ (fun A3 hA3=>hA3.cl.go (t18d d r f i w) ⟨⟨Zn.T5',T2',tv⟩,_,c68 d i,ak (fun h=>⟨⟨T2',T2',tv⟩,_,c69 3 i,?_⟩) (fun h=>?_)⟩)
 ·exact hA3.ret _ _ ⟨pZ (x:=fL (fD 3 i)),hbad (by simpa using h)⟩
 ·exact hA3.fine _ ⟨pZ (x:=cY),hgood (by simpa using h)⟩
theorem LY {l:Nat}{d:Deck}{r:Req}{f:Flds}(hab:f.b=true->f.a=true){done:Heap->Nat->Prop}{doneJ:Code->Heap->Nat->Prop}{A:List Item->AS->Prop}(hG:GG l d r f done doneJ A)
  (hok:(f.a&&(eH d r.a != fI r))=false->(f.b&&(eH d r.b != fI r))=false->done (H18 d r f cY) 6)
  (hba:(f.a&&(eH d r.a != fI r))=true->doneJ .ret (H18 d r f (fL (fD 3 r.a))) 6)
  (hbb:(f.a&&(eH d r.a != fI r))=false->(f.b&&(eH d r.b != fI r))=true->doneJ .ret (H18 d r f (fL (fD 3 r.b))) 6):A (cx f129) (Ky l d r f cY):=by
 have key:∀ w,w=fI r->A (rg f129 3) (Nm l d r f w):=by
  intro w hw
  obtain⟨fi,fa,fb,fv,fl⟩:=f
  cases fa with
  | false => cases fb with
    | true=>exact absurd (show false=true from hab rfl) (by decide)
    | false=>exact hG.cl.go (Oo l d r fi false fv fl w) (hG.ret [] _ (.inl rfl) (hok rfl rfl))
  | true =>
    refine hG.cl.go (Oq l d r fi fb fv fl w) ?_
    refine Nn (i:=r.a) (w:=w) hG (inR f129 3 7) _ 15 11 13 14 (by kernel_rfl) (by kernel_rfl) (by kernel_rfl) (by kernel_rfl) (by kernel_rfl) (by kernel_rfl) (by kernel_rfl) (fun hk=>?_) (fun hk Ad hAd=>?_)
    ·have ha:(eH d r.a != fI r)=false:=by rw[hk,hw];simp
     refine hG.cl.go (On l d r fi fb fv fl w) ?_
     cases fb with
     | false=>exact hG.ret [] _ (.inl rfl) (hok ha rfl)
     | true =>
       refine hG.cl.go (Ol l d r ⟨fi,true,true,fv,fl⟩ w) ?_
       refine Np (i:=r.b) (w:=w) hG (inR f129 5 4) _ 24 20 22 23 (by kernel_rfl) (by kernel_rfl) (by kernel_rfl) (by kernel_rfl) (by kernel_rfl) (by kernel_rfl) (by kernel_rfl) (fun hk2=>?_) (fun hk2 Ad hAd=>?_)
       ·have hb:(eH d r.b != fI r)=false:=by rw[hk2,hw];simp
        exact hG.cl.go (Oj l d r ⟨fi,true,true,fv,fl⟩ w) (hG.ret [] _ (.inl rfl) (hok ha hb))
       ·have hb:(eH d r.b != fI r)=true:=by rw[← hw];simpa using hk2
        exact hAd.cl.go (Ok l d r ⟨fi,true,true,fv,fl⟩ w (fD 3 r.b)) (hAd.ret [] _ (.inl rfl) (hbb ha hb))
    ·have ha:(eH d r.a != fI r)=true:=by rw[← hw];simpa using hk
     refine hAd.cl.go (Om l d r fi fb fv fl w (fD 3 r.a)) (hAd.ret (rt f129 0) _ (.inr ⟨List.tail (rt f129 0),by kernel_rfl⟩) (hba ha))
 exact hG.cl.go (Ot l d r f) (ak (fun h=>key 2 (by unfold fI;rw[h];rfl)) (fun h=>key 1 (by unfold fI;rw[h];rfl)))
theorem Pa (k:Int):(flS k).b=true->(flS k).a=true:=by
 unfold flS
 generalize (k==1)=b1
 generalize (k==2)=b2
 generalize (k==4)=b4
 generalize (k==5)=b5
 generalize (k==6)=b6
 generalize (k==7)=b7
 generalize (k==9)=b9
 generalize (k==10)=b10
 revert b1 b2 b4 b5 b6 b7 b9 b10
 decide
abbrev T7':True/\True/\True/\True/\True/\True/\True:=⟨tv,tv,tv,tv,tv,tv,tv⟩
theorem Pb {d:Deck}{r:Req}(h0:0<=r.vol)(hv:r.vol<18446744073709551616)(f:Flds){A2:List Item->AS->Prop}{y:Resp}(hy:Hm r f=y)(hA2:Closed prog codes sigs f18 (bm [.resp]) (fun x=>x=y) 6 A2)(m:Nat):A2 (rfK (rf f18 0)) ⟨EP,H18 d r f cY,m⟩:=by
 show A2 (rfK (rf f18 0)) (K18 d r f cY m)
 refine hA2.go (t18k d r f m) ?_
 unfold Hm at hy
 refine ak (fun h=>?_) (fun h=>?_)
 ·rw[h]at hy
  refine ak (fun h2=>?_) (fun h2=>?_)
  ·rw[h2]at hy;exact⟨⟨T2',tv⟩,_,c62 1,T6',hy⟩
  ·rw[h2]at hy
   refine ak (fun h3=>?_) (fun h3=>?_)
   ·rw[h3]at hy;exact⟨⟨T7',tv⟩,_,c15 h0 hv,⟨T2',tv⟩,_,c62 _,T6',hy⟩
   ·rw[h3]at hy;exact⟨T6',hy⟩
 ·rw[h]at hy
  refine ak (fun h3=>?_) (fun h3=>?_)
  ·rw[h3]at hy;exact⟨⟨T7',tv⟩,_,c15 h0 hv,⟨T2',tv⟩,_,c62 _,T6',hy⟩
  ·rw[h3]at hy;exact⟨T6',hy⟩
theorem rf18 {d:Deck}{r:Req}(h0:0<=r.vol)(hv:r.vol<18446744073709551616){f:Flds}(hab:f.b=true->f.a=true){y:Resp}(hy:kI d r f=y){A:List Item->AS->Prop}(hA:ClosedR prog codes sigs f18 (bm [.resp]) (fun x=>x=y) 0 A):A (rf f18 0) (K18 d r f cY 6):=by
 obtain⟨gc,hgc⟩:∃ gc,f129.body=some gc:=bJ.1 (by kernel_rfl)
 refine hA.at (rf f18 0) (K18 d r f cY 6) 129 f129 gc [] [.ptr 4 0,.ptr 5 0] (by kernel_rfl) (by kernel_rfl) func129 hgc (by kernel_rfl) (by kernel_rfl) (bE _) (fun l A' hG=>?_)
 have e1:(Ky l d r f cY).tmps=.clo (.yield l) [] []::.ptr 4 0::.ptr 5 0::List.replicate 22 .dead:=by kernel_rfl
 have e2:([]++.clo (.yield l) [] []::[.ptr 4 0,.ptr 5 0]++List.replicate (f129.ntmps-(([]:List AV).length+1+[AV.ptr 4 0,AV.ptr 5 0].length)) (.d (.v undef)):List AV)=.clo (.yield l) [] []::.ptr 4 0::.ptr 5 0::List.replicate 22 (.d (.v undef)):=by kernel_rfl
 rw[e2]
 refine hG.cl.le (cx f129) _ (Ky l d r f cY) (by kernel_rfl) ⟨by rw[e1];rfl,?_,?_,aI _⟩ ?_
 ·intro i a c ha hc
  rw[e1]at hc
  match i with
  | 0=>cases ha;cases hc;exact .refl _ _
  | 1=>cases ha;cases hc;exact .refl _ _
  | 2=>cases ha;cases hc;exact .refl _ _
  | i + 3 =>
    have hc:(List.replicate 22 AV.dead)[i]?=some c:=hc
    rw[df]at hc
    split at hc
    ·cases hc;exact .dead _ _
    ·cases hc
 ·intro k b' hb'
  refine⟨b',hb',.refl _ _⟩
 refine LY hab hG (fun h1 h2=>⟨pZ,fun A2 hA2=>?_⟩) (fun h1=>⟨pZ,fun A2 hA2=>?_⟩) (fun h1 h2=>⟨pZ,fun A2 hA2=>?_⟩)
 ·exact Pb h0 hv f (y:=y) (by rw[← hy,kI,h1,h2];rfl) hA2 6
 ·show A2 (rtK (rf f18 0)) (K18 d r f (fL (fD 3 r.a)) 6)
  exact Closed.go hA2 (NT d r f (fD 3 r.a) 6) ⟨T6',by rw[← hy,kI,h1];rfl⟩
 ·show A2 (rtK (rf f18 0)) (K18 d r f (fL (fD 3 r.b)) 6)
  exact Closed.go hA2 (NT d r f (fD 3 r.b) 6) ⟨T6',by rw[← hy,kI,h1,h2];rfl⟩
theorem c18 {d:Deck}{r:Req}(h0:0<=r.vol)(hv:r.vol<18446744073709551616):Pure prog 18 [⟨.deck,d⟩,⟨.req,r⟩] [.resp] (dr d r):=
 Pure.of_closedR (C:=codes) (S:=sigs) mixed func18 (by kernel_rfl) (ac (by kernel_rfl)) fun A hA=>hA.cl.go (t18 d r) (by
  have hy:∃ y,dr d r=y:=⟨_,rfl⟩
  obtain⟨y,hy⟩:=hy
  rw[hy]at hA ⊢
  unfold dr at hy
  refine⟨⟨Zn.T5',tv⟩,_,Zn.c47 d,ak (fun h=>?_) (fun h=>?_)⟩
  ·rw[h]at hy;exact⟨⟨T2',tv⟩,_,c62 _,T6',hy⟩
  rw[h]at hy
  refine⟨⟨T2',tv⟩,_,c63 _,ak (fun h1=>?_) (fun h1=>?_)⟩
  ·rw[h1]at hy;exact⟨⟨T2',tv⟩,_,c62 _,T6',hy⟩
  rw[h1]at hy
  refine ak (fun h2=>?_) (fun h2=>?_)
  ·rw[h2]at hy;exact⟨⟨T2',tv⟩,_,c62 _,T6',hy⟩
  rw[h2]at hy
  refine⟨⟨T7',tv⟩,_,c64 r,⟨T6',T6',tv⟩,_,c65 _ _,ak (fun h3=>?_) (fun h3=>?_)⟩
  ·rw[h3]at hy;exact⟨⟨T2',tv⟩,_,c62 _,T6',hy⟩
  rw[h3]at hy
  refine ak (fun h4=>?_) (fun h4=>?_)
  ·rw[h4]at hy;exact⟨⟨Zn.T5',T2',tv⟩,_,c66 d r.ids,T6',hy⟩
  rw[h4]at hy
  exact⟨(),c67 r (flS r.kind),rf18 h0 hv (Pa r.kind) hy hA⟩)
end Go.Proofs.Wn

namespace Go.Proofs.Wn
open Go.Proofs.Tryz
open Go Go.VL
open Zn (cW)
theorem c70 (d:Deck):Pure prog 70 [⟨.deck,d⟩] [.int] (cW d):=ofT func70 (t70 d) (by kernel_rfl) (by kernel_rfl) fun _=>⟨⟨Zn.T5',tv⟩,_,Zn.c46 d,T2',rfl⟩
end Go.Proofs.Wn

namespace Go.Proofs.Wn
open Go.Proofs.Tryz
open Go Go.VL Go.Proofs.Zn
theorem Dl (d:Deck)(a b:Int):iU (md d a b).1:=by
 unfold md
 cases (da d [a,b]).2 != 0
 ·exact sx _ _
 ·exact .nil
theorem zp (d:Deck)(l:List Int):iU (gC d l).1:=by
 unfold gC
 cases (da d l).2 != 0
 ·exact nP _ _
 ·exact .nil
theorem xx (d:Deck)(a b:Int):(md d a b).1.length<=24:=by
 unfold md
 cases h:(da d [a,b]).2 != 0
 ·have h0:(da d [a,b]).2=0:=by simpa using h
  obtain⟨g1,g2,g3⟩:=kR h0
  obtain⟨x,y,e⟩:=rn g3
  rw[e]at g2 ⊢
  exact pL (lk h0) (yP (g2 x (by simp)) (g2 y (by simp)))
 ·simp
theorem um (d:Deck)(a:Int):(gC d [a]).1.length<=24:=by
 unfold gC
 cases h:(da d [a]).2 != 0
 ·have h0:(da d [a]).2=0:=by simpa using h
  obtain⟨g1,g2,g3⟩:=kR h0
  have:=ul (lk h0) (l:=(da d [a]).1) g2 []
  have h3:(da d [a]).1.length=1:=g3
  rw[h3]at this
  exact this
 ·simp
theorem zU {l:List Int}(hl:iU l)(a b:Int):dj l (dJ [a,b])=fN (fN l a) b:=by
 refine kS (gO hl) (lZ (lZ hl)) fun n=>?_
 rw[ir,mX,mY,mY]
 simp only[aD,List.not_mem_nil,mM]
 constructor
 ·rintro(h|h|h)
  ·exact .inr (.inr h)
  ·exact .inr (.inl h)
  ·exact .inl h
 ·rintro(h|h|h)
  ·exact .inr (.inr h)
  ·exact .inr (.inl h)
  ·exact .inl h
theorem FV (a:Int):iU [a]:=lZ (l:=[]) .nil
def un (d:Deck)(r:Req):List Int:=bif r.kind==2 then dJ r.ids else bif r.kind==4 then fN (fN (md d r.a r.b).1 r.a) r.b else bif r.kind==5 then fN (gC d [r.a]).1 r.a else bif r.kind==6 then fN (gC d [r.a]).1 r.a else bif r.kind==7 then fN (gC d [r.a]).1 r.a else[]
def kW (d:Deck)(r:Req):List Int:=bif (dr d r).err != 0 then[]else un d r
theorem c75 {d:Deck}{r:Req}(h0:0<=r.vol)(hv:r.vol<18446744073709551616):Pure prog 75 [⟨.deck,d⟩,⟨.req,r⟩] [.bool] ((dr d r).err==0):=ofT func75 (t75 d r) (by kernel_rfl) (by kernel_rfl) fun _=>⟨⟨Zn.T5',T7',tv⟩,_,c18 h0 hv,T2',rfl⟩
theorem Ex {l:List Int}(hl:iU l)(a:Int):cP true true true l [a]=fN l a:=jk hl (FV a)
theorem Ew {l:List Int}(hl:iU l)(a b:Int):cP true true true l (dJ [a,b])=fN (fN l a) b:=by rw[jk hl (jv _),zU hl]
theorem c76 {d:Deck}{r:Req}(hl:r.ids.length<=1000):Pure prog 76 [⟨.deck,d⟩,⟨.req,r⟩] [.sl .int] (un d r):=
 ofT func76 (t76 d r) (by kernel_rfl) (by kernel_rfl) fun _=>by
  unfold un
  have l1:=xx d r.a r.b
  have l2:=um d r.a
  have k (y:List Int) (hy:y=fN (gC d [r.a]).1 r.a):Pure prog 134 [⟨.sl .int,(gC d [r.a]).1⟩,⟨.sl .int,[r.a]⟩] [.sl .int] y:=hy ▸ (wB (a:=(gC d [r.a]).1) (b:=[r.a]) (by omega) (by simp)).eq (Ex (zp d [r.a]) r.a)
  refine ak (fun h=>?_) (fun h=>?_)
  ·rw[h];exact⟨⟨T2',tv⟩,_,Ae (by omega),T2',rfl⟩
  rw[h,cF]
  refine ak (fun h=>?_) (fun h=>?_)
  ·rw[h];exact⟨⟨Zn.T5',T2',T2',tv⟩,_,c53 d r.a r.b,⟨T2',T2',tv⟩,⟨T2',tv⟩,_,Ae (by simp),⟨T2',T2',tv⟩,_,(wB (by omega) (by have:=iy (a:=[]) (b:=[r.a,r.b]);simp only[ag,am]at this;show(dj [] [r.a,r.b]).length<=400000;omega)).eq (Ew (Dl d r.a r.b) r.a r.b),T2',rfl⟩
  rw[h,cF]
  refine ak (fun h=>?_) (fun h=>?_)
  ·refine dR h ?_
   rw[h];exact⟨⟨T2',tv⟩,⟨Zn.T5',T2',tv⟩,_,c48 (by simp),⟨T2',tv⟩,⟨T2',T2',tv⟩,_,k _ rfl,T2',rfl⟩
  rw[h,cF]
  refine ak (fun h=>?_) (fun h=>?_)
  ·refine dR h ?_
   rw[h];exact⟨⟨T2',tv⟩,⟨Zn.T5',T2',tv⟩,_,c48 (by simp),⟨T2',tv⟩,⟨T2',T2',tv⟩,_,k _ rfl,T2',rfl⟩
  rw[h,cF]
  refine ak (fun h=>?_) (fun h=>?_)
  ·rw[h];exact⟨⟨T2',tv⟩,⟨Zn.T5',T2',tv⟩,_,c48 (by simp),⟨T2',tv⟩,⟨T2',T2',tv⟩,_,k _ rfl,T2',rfl⟩
  ·rw[h];exact⟨T2',rfl⟩
theorem c21 {d:Deck}{r:Req}(h0:0<=r.vol)(hv:r.vol<18446744073709551616)(hl:r.ids.length<=1000):Pure prog 21 [⟨.deck,d⟩,⟨.req,r⟩] [.sl .int] (kW d r):=
 ofT func21 (t21 d r) (by kernel_rfl) (by kernel_rfl) fun _=>by
  refine⟨⟨Zn.T5',T7',tv⟩,_,c75 h0 hv,?_⟩
  unfold kW
  refine ak (fun h=>?_) (fun h=>?_)
  ·have h:((dr d r).err != 0)=true:=h
   rw[h];exact⟨T2',rfl⟩
  ·have h:((dr d r).err != 0)=false:=h
   rw[h];exact⟨⟨Zn.T5',T7',tv⟩,_,c76 hl,T2',rfl⟩
end Go.Proofs.Wn

namespace Go.Proofs.Wn
open Go.Proofs.Tryz
open Go Go.VL Go.Proofs.Zn
def D14:Deck:=⟨[some 0,some 4621256167635550208,some 4625759767262920704],[⟨1,2,some 4621256167635550208,some 4620693217682128896,some 4602678819172646912,100,[40]⟩],[⟨1,1,some 4611686018427387904,some 0,some 0⟩],2⟩
theorem c56:Pure prog 56 [] [.deck] D14:=ofT func56 t56 (by kernel_rfl) (by kernel_rfl) fun _=>by
 refine⟨by simp,by simp,by simp,by simp,by simp,rfl⟩
theorem Dx {d:Deck}{r:Req}(hl:r.ids.length<=1000):(un d r).length<=1000:=by
 unfold un
 have l1:=xx d r.a r.b
 have l2:=um d r.a
 have l3:=oz (l:=(md d r.a r.b).1) (n:=r.a)
 have l4:=oz (l:=fN (md d r.a r.b).1 r.a) (n:=r.b)
 have l5:=oz (l:=(gC d [r.a]).1) (n:=r.a)
 have l6:=iy (a:=[]) (b:=r.ids)
 have l6:(dJ r.ids).length<=0+r.ids.length:=l6
 simp only[cond_eq_ite]
 repeat' split
 all_goals first|omega|simp
theorem OR {d:Deck}{r:Req}(hl:r.ids.length<=1000):(kW d r).length<=1000:=by
 unfold kW
 have:=Dx (d:=d) hl
 simp only[cond_eq_ite]
 split
 ·simp
 ·exact this
end Go.Proofs.Wn

namespace Go.Proofs.Mn
open Go.Proofs.Tryz
open Go Go.VL
open Wn (dR bK)
abbrev T1:True/\True:=⟨tv,tv⟩
abbrev T3:True/\True/\True/\True:=⟨tv,tv,tv,tv⟩
def wC (a b c:Int):Int:=bif decide (a<b)then b else bif decide (a>c)then c else a
theorem Ab (a b c:Int):Pure prog 159 [⟨.int,a⟩,⟨.int,b⟩,⟨.int,c⟩] [.int] (wC a b c):=
 ofT func159 (t159 a b c) (by kernel_rfl) (by kernel_rfl) fun _=>by
  unfold wC
  cases decide (a<b)<;>cases decide (a>c)<;>exact⟨T1,rfl⟩
def oh (a:Int):Bool:=bif decide (a>=1)then decide (a<=8)else false
theorem c225 (a:Int):Pure prog 225 [⟨.int,a⟩] [.bool] (oh a):=
 ofT func225 (t225 a) (by kernel_rfl) (by kernel_rfl) fun _=>by
  unfold oh
  cases decide (a>=1)<;>exact⟨T1,rfl⟩
theorem Pm (a:Int):Pure prog 265 [⟨.int,a⟩] [.bool] (oh a):=
 ofT func265 (t265 a) (by kernel_rfl) (by kernel_rfl) fun _=>by
  unfold oh
  cases decide (a>=1)<;>exact⟨T1,rfl⟩
def lB (a b:Int):Bool:=bif decide (a>=1)then bif decide (a<=8)then bif b != 0 then bif decide (b >= -1099511627776)then decide (b<=1099511627776)else false else false else false else false
theorem Pn (a b:Int):Pure prog 263 [⟨.int,a⟩,⟨.int,b⟩] [.bool] (lB a b):=
 ofT func263 (t263 a b) (by kernel_rfl) (by kernel_rfl) fun _=>by
  unfold lB
  cases decide (a>=1)<;>cases decide (a<=8)<;>cases (b != 0)<;>cases decide (b >= -1099511627776)<;>exact⟨T1,rfl⟩
theorem c224 (a b:Int):Pure prog 224 [⟨.int,a⟩,⟨.int,b⟩] [.bool] (lB a b):=
 ofT func224 (t224 a b) (by kernel_rfl) (by kernel_rfl) fun _=>by
  unfold lB
  cases decide (a>=1)<;>cases decide (a<=8)<;>cases (b != 0)<;>cases decide (b >= -1099511627776)<;>exact⟨T1,rfl⟩
def fJ (t:Tip):Bool:=bif t.state==2 then oh t.by' else bif t.state==1 then t.by'==0 else bif t.state==3 then t.by'==0 else false
theorem MQ (t:Tip):Pure prog 221 [⟨.tip,t⟩] [.bool] (fJ t):=
 ofT func221 (t221 t) (by kernel_rfl) (by kernel_rfl) fun _=>by
  unfold fJ
  refine ak (fun h=>?_) (fun h=>?_)
  ·rw[h];exact⟨⟨T1,tv⟩,_,Pm _,T1,rfl⟩
  rw[h]
  refine ak (fun h=>?_) (fun h=>?_)
  ·refine dR h ?_
   rw[h];exact⟨T1,rfl⟩
  rw[h]
  refine ak (fun h=>?_) (fun h=>?_)
  ·rw[h];exact⟨T1,rfl⟩
  ·rw[h];exact⟨T1,rfl⟩
theorem c164 (t:Tip):Pure prog 164 [⟨.tip,t⟩] [.bool] (fJ t):=
 ofT func164 (t164 t) (by kernel_rfl) (by kernel_rfl) fun _=>by
  have no:∀ (a b:Int),a≠b->(t.state==a)=true->(t.state==b)=false:=by
   intro a b hab h
   have:t.state=a:=by simpa using h
   rw[this];simpa using hab
  have arm2:(t.state==2)=true->fJ t=oh t.by':=fun h=>by unfold fJ;rw[h];rfl
  refine ak (fun h=>?_) (fun h=>?_)
  ·have h2:=no 1 2 (by decide) h
   have e:fJ t=(t.by'==0):=by unfold fJ;rw[h2,h];rfl
   refine ak (fun h0=>⟨T1,by rw[e,h0];exact rfl⟩) (fun h0=>bK h2 ⟨T1,by rw[e,h0];exact rfl⟩)
  refine ak (fun h3=>?_) (fun h3=>?_)
  ·have h2:=no 3 2 (by decide) h3
   have e:fJ t=(t.by'==0):=by unfold fJ;rw[h2,h,h3];rfl
   refine ak (fun h0=>⟨T1,by rw[e,h0];exact rfl⟩) (fun h0=>bK h2 ⟨T1,by rw[e,h0];exact rfl⟩)
  refine ak (fun h2=>⟨⟨T1,tv⟩,_,c225 _,T1,(arm2 h2).symm⟩) (fun h2=>⟨T1,?_⟩)
  show false=fJ t
  unfold fJ;rw[h2,h,h3];rfl
theorem Aa (l:Log):Pure prog 261 [⟨.log,l⟩] [.int] (l.list.length:Int):=ofT func261 (t261 l) (by kernel_rfl) (by kernel_rfl) fun _=>⟨T1,rfl⟩
def jC (l:Log):Int:=w64 (l.last-(l.list.length:Int))
theorem MO (l:Log):Pure prog 262 [⟨.log,l⟩] [.int] (jC l):=ofT func262 (t262 l) (by kernel_rfl) (by kernel_rfl) fun _=>⟨⟨T3,tv⟩,_,Aa l,T1,rfl⟩
theorem MS {a b:Log}(h:a.list.length<=1000000):Pure prog 155 [⟨.log,a⟩,⟨.log,b⟩] [.bool] (decide (a=b)):=
 ofT func155 (Lw a b) (by kernel_rfl) (by kernel_rfl) fun _=>by
  obtain⟨a1,a2,a3⟩:=a
  obtain⟨b1,b2,b3⟩:=b
  refine ak (fun h1=>?_) (fun h1=>?_)
  ·refine ak (fun h2=>?_) (fun h2=>?_)
   ·obtain rfl:a1=b1:=by simpa using h1
    obtain rfl:a2=b2:=by simpa using h2
    exact⟨⟨T1,T1,tv⟩,_,Wn.c60 h,T1,by show decide (a3=b3)=_;simp⟩
   ·have h2:¬ a2=b2:=by simpa using h2
    exact⟨T1,by show false=_;simp[h2]⟩
  ·have h1:¬ a1=b1:=by simpa using h1
   exact⟨T1,by show false=_;simp[h1]⟩
end Go.Proofs.Mn

namespace Go.Proofs.Mn
open Go.Proofs.Tryz
open Go Go.VL
def qu (c:Cell):List Fld3:=[⟨c.cap,1,1099511627776⟩,⟨c.vol,0,c.cap⟩,⟨c.ver,0,2147483647⟩]
def Ng (c:Cell)(b:Bool)(i:Int):AS:=mkS 37 [(4,ca b),(19,.d (.sl .fld (qu c))),(20,i64 3),(21,i64 i)] [] 0
def PZ (l:Log)(b:Bool)(i:Int):AS:=mkS 59 [(1,.ptr 0 0),(3,ca b),(35,.d (.sl .change l.list)),(36,i64 l.list.length),(37,i64 i)] [(0,.box (lC l))] 1
def S163 (l:Log):AS:=mkS 71 [(1,.ptr 0 0)] [(0,.box [i64 l.room,i64 l.last,.d (.sl .change l.list)])] 1
def Qa (l:Log)(i:Int):AS:=mkS 71 [(1,.ptr 0 0),(3,i64 i)] [(0,.box (lC l))] 1
def PY (l:List Int)(w:Wide)(i:Int):AS:=mkS 22 [(4,.ptr 0 0),(7,.d (.sl .int l)),(8,i64 l.length),(9,i64 i)] [(0,.box [u64 w.hi,u64 w.lo])] 1
theorem KA (c:Cell)(b:Bool)(i:Int):@Eq _ (xL prog codes sigs f215 [.bool] 200 0 (Ng c b i)) (bif decide (i<3)then .need (((0:Int)<=i/\i<(↑(qu c).length:Int))/\True) (.need (U2/\U2/\U2/\True) (.callP 159 [⟨.int,(Fld3.n ((qu c).getD i.toNat Ty.fld.dflt))⟩,⟨.int,(Fld3.lo ((qu c).getD i.toNat Ty.fld.dflt))⟩,⟨.int,(Fld3.hi ((qu c).getD i.toNat Ty.fld.dflt))⟩] [.int] fun(x:Int)=>bif x != Fld3.n ((qu c).getD i.toNat Ty.fld.dflt)then .need U2 (.ret false)else .stop (hd f215 0) (mkS 37 [(4,.d (.v (.bool b))),(19,.d (.sl .fld (qu c))),(20,i64 3),(21,i64 (w64 (i+1)))] [] 0)))else .need U2 (.ret b)):=by kernel_rfl
theorem NS (l:Log)(b:Bool)(i:Int):@Eq _ (xL prog codes sigs f216 [.bool] 300 0 (PZ l b i)) (bif decide (i<(l.list.length:Int))then .need (((0:Int)<=i/\i<(l.list.length:Int))/\True) (.need (U4/\True) (.callP 262 [⟨.log,l⟩] [.int] fun(x:Int)=>bif (l.list.getD i.toNat Ty.change.dflt).ver != w64 (w64 (x+1)+i)then bif (l.list.getD i.toNat Ty.change.dflt).ver != w64 (w64 (x+1)+i)then .need U2 (.ret false)else .stop (hd f216 0) (mkS 59 [(1,.ptr 0 0),(3,.d (.v (.bool b))),(35,.d (.sl .change l.list)),(36,i64 (l.list.length:Int)),(37,i64 (w64 (i+1)))] [(0,.box (lC l))] 1)else .need (U2/\U2/\True) (.callP 263 [Sigma.mk .int (l.list.getD i.toNat Ty.change.dflt).by',Sigma.mk .int (l.list.getD i.toNat Ty.change.dflt).n] [.bool] fun(x:Bool)=>bif !x then .need U2 (.ret false)else .stop (hd f216 0) (mkS 59 [(1,.ptr 0 0),(3,.d (.v (.bool b))),(35,.d (.sl .change l.list)),(36,i64 (l.list.length:Int)),(37,i64 (w64 (i+1)))] [(0,.box (lC l))] 1))))else .need U2 (.ret b)):=by kernel_rfl
theorem NV (l:Log):@Eq (Out (bh [.bool])) (bj prog codes sigs f163 (bm [.bool]) 0 fu 300 true (rg f163 3) (S163 l)) (.stop (hd f163 0) (mkS 71 [(1,.ptr 0 0),(3,i64 0)] [(0,.box (lC l))] 1)):=by kernel_rfl
theorem NR (l:List Int)(w:Wide)(i:Int):@Eq _ (xL prog codes sigs f223 [.int,.int] 300 0 (PY l w i)) (bif decide (i<(l.length:Int))then .need (((0:Int)<=i/\i<(l.length:Int))/\True) (.need (U2/\True) (.callP 267 [⟨.int,(l.getD i.toNat Ty.int.dflt)⟩] [.wide] fun(x:Wide)=>.need (U3/\U3/\True) (.callP 266 [⟨.wide,w⟩,⟨.wide,x⟩] [.wide] fun(x:Wide)=>.stop (hd f223 0) (mkS 22 [(4,.ptr 0 0),(7,.d (.sl .int l)),(8,i64 (l.length:Int)),(9,i64 (w64 (i+1)))] [(0,.box [.d (.v (.int .u64 (Wide.hi x))),.d (.v (.int .u64 (Wide.lo x)))])] 1))))else .need (U3/\True) (.callP 268 [⟨.wide,w⟩] [.int,.int] fun(x:Int×Int)=>.need (U2/\U2) (.ret (x.1,x.2)))):=by kernel_rfl
end Go.Proofs.Mn

namespace Go.Proofs.Mn
open Go.Proofs.Tryz
open Go Go.VL
open Wn (dR bK)
def dc (c:Cell):Bool:=bif decide (c.cap>=1)then bif decide (c.cap<=1099511627776)then bif decide (c.vol>=0)then bif decide (c.vol<=c.cap)then bif decide (c.ver>=0)then decide (c.ver<=2147483647)else false else false else false else false else false
theorem c162 (c:Cell):Pure prog 162 [⟨.cell,c⟩] [.bool] (dc c):=
 ofT func162 (t162 c) (by kernel_rfl) (by kernel_rfl) fun _=>by
  unfold dc
  cases decide (c.cap>=1)<;>cases decide (c.cap<=1099511627776)<;>cases decide (c.vol>=0)<;>cases decide (c.vol<=c.cap)<;>cases decide (c.ver>=0)<;>exact⟨T1,rfl⟩
theorem HU (n lo hi:Int):(wC n lo hi != n) = !(decide (n>=lo)&&decide (n<=hi)):=by
 unfold wC
 by_cases h1:n<lo
 ·have h2:¬ n>=lo:=by omega
  have h3:lo≠n:=by omega
  simp[h1,h2,h3]
 ·have h2:n>=lo:=by omega
  by_cases h4:n>hi
  ·have h5:¬ n<=hi:=by omega
   have h6:hi≠n:=by omega
   simp[h1,h2,h4,h5,h6]
  ·have h5:n<=hi:=by omega
   simp[h1,h2,h4,h5]
theorem vB {c:Cell}{r:Bool}{A:Pr}(hA:CL codes sigs f215 [.bool] r A)(i:Nat)(hi:i<3)(f:Fld3)(hf:(qu c).getD i Ty.fld.dflt=f)
  (h0:(decide (f.n>=f.lo)&&decide (f.n<=f.hi))=false->false=r) (h1:(decide (f.n>=f.lo)&&decide (f.n<=f.hi))=true->A (hd f215 0) (Ng c true ((i+1:Nat):Int))):A (hd f215 0) (Ng c true i):=by
 refine hA.go (KA c true i) (dR (by simp;omega) ⟨⟨⟨by omega,by show(i:Int)<3;omega⟩,tv⟩,⟨T1,T1,T1,tv⟩,_,Ab _ _ _,?_⟩)
 rw[aq,hf]
 refine ak (b:=wC f.n f.lo f.hi != f.n) (fun h=>⟨T1,h0 (by rw[HU]at h;exact nt h)⟩) (fun h=>?_)
 rw[aw (by omega)]
 exact h1 (by rw[HU]at h;exact nf h)
theorem HN (c:Cell):Pure prog 215 [⟨.cell,c⟩] [.bool] (dc c):=
 Pure.of_closed (C:=codes) (S:=sigs) mixed func215 (by kernel_rfl) (ac (by kernel_rfl)) fun A hA=>hA.go (t215 c) ⟨tv,by
  have e:dc c=((decide (c.cap>=1)&&decide (c.cap<=1099511627776))&&((decide (c.vol>=0)&&decide (c.vol<=c.cap))&&(decide (c.ver>=0)&&decide (c.ver<=2147483647)))):=by
   unfold dc
   cases decide (c.cap>=1)<;>cases decide (c.cap<=1099511627776)<;>cases decide (c.vol>=0)<;>cases decide (c.vol<=c.cap)<;>cases decide (c.ver>=0)<;>rfl
  rw[e]at hA ⊢
  refine vB hA 0 (by decide) ⟨c.cap,1,1099511627776⟩ rfl (fun h=>by rw[h];rfl) (fun h=>?_)
  rw[h]at hA
  refine vB hA 1 (by decide) ⟨c.vol,0,c.cap⟩ rfl (fun h=>by rw[h];rfl) (fun h=>?_)
  rw[h]at hA
  refine vB hA 2 (by decide) ⟨c.ver,0,2147483647⟩ rfl (fun h=>by rw[h];rfl) (fun h=>?_)
  rw[h]at hA
  exact hA.go (KA c true 3) (bK (by decide) ⟨T1,rfl⟩)⟩
def qt (c v:Int):Cell×Int:=bif !dc ⟨c,v,0⟩then(⟨0,0,0⟩,100)else(⟨c,v,0⟩,0)
theorem PA (c v:Int):Pure prog 139 [⟨.int,c⟩,⟨.int,v⟩] [.cell,.int] (qt c v):=
 ofT func139 (t139 c v) (by kernel_rfl) (by kernel_rfl) fun _=>by
  refine⟨⟨T3,tv⟩,_,HN _,?_⟩
  unfold qt
  cases dc ⟨c,v,0⟩<;>exact⟨⟨T3,tv,tv⟩,rfl⟩
end Go.Proofs.Mn

namespace Go.Proofs.Mn
open Go.Proofs.Tryz
open Go Go.VL
open Wn (dR bK)
def dw (a:Int):Wide:=⟨IntKind.wrap .u64 (Int.fdiv a (2^min 63 (IntKind.bits .i64))),IntKind.wrap .u64 a⟩
theorem Pl (a:Int):Pure prog 267 [⟨.int,a⟩] [.wide] (dw a):=
 ofT func267 (t267 a) (by kernel_rfl) (by kernel_rfl) fun _=>⟨by decide,T3',rfl⟩
theorem CK {vs:Array Value}(hs:vs.size=3):∃ a b c,vs=#[a,b,c]:=by
 refine⟨vs[0]'(by omega),vs[1]'(by omega),vs[2]'(by omega),?_⟩
 apply Array.ext
 ·exact hs
 ·intro i hi hi2
  have:i=0\/i=1\/i=2:=by omega
  rcases this with rfl|rfl|rfl<;>rfl
def PK : Array Value → Sem Value := fun args => do
 let (x, y, c) ← Extern.MathBitsCarry.three "Add64" args
 pure (Extern.MathBitsCarry.pair ((x + y + c) % Extern.MathBitsCarry.m64) ((x + y + c) / Extern.MathBitsCarry.m64))
theorem EQ (a b c : Value) : Extern.MathBitsCarry.three "Add64" #[a, b, c] = (do
 let c := (← asInt c).toNat
 if c > 1 then unsupported (.noEntry ("extern/math/bits." ++ "Add64" ++ ": a carry that is neither 0 nor 1"))
 pure ((← asInt a).toNat, (← asInt b).toNat, c)) := rfl
theorem Nq {x y c : Int} (hc : c.toNat ≤ 1) : Ir prog 297 [.d (.v (.int .u64 x)), .d (.v (.int .u64 y)), .d (.v (.int .u64 c))] (.tup [.d (.v (.int .u64 (((x.toNat + y.toNat + c.toNat) % 18446744073709551616 : Nat) : Int))), .d (.v (.int .u64 (((x.toNat + y.toNat + c.toNat) / 18446744073709551616 : Nat) : Int)))]) := fun w K m H vs hs hr => by
 obtain ⟨v1, v2, v3, rfl⟩ := CK hs
 have e1 : v1 = .int .u64 x := cj (hr 0 _ v1 rfl rfl)
 have e2 : v2 = .int .u64 y := cj (hr 1 _ v2 rfl rfl)
 have e3 : v3 = .int .u64 c := cj (hr 2 _ v3 rfl rfl)
 subst e1; subst e2; subst e3
 refine ⟨.tuple #[.int .u64 (((x.toNat + y.toNat + c.toNat) % 18446744073709551616 : Nat) : Int), .int .u64 (((x.toNat + y.toNat + c.toNat) / 18446744073709551616 : Nat) : Int)], ?_, .tup _ _ rfl (fun i a v ha hv => ?_)⟩
 ·rw [run_callFunc_extern (e := PK) func297 (by kernel_rfl) (by kernel_rfl) (by kernel_rfl) (by kernel_rfl)]
  have h1 : ¬ c.toNat > 1 := by omega
  have a1 : ∀ n : Int, (asInt (.int .u64 n)).run prog w = .ok n w := fun n => by simp [asInt, asIntOf]
  have h2 : (Extern.MathBitsCarry.three "Add64" #[.int .u64 x, .int .u64 y, .int .u64 c]).run prog w = .ok (x.toNat, y.toNat, c.toNat) w := by
   rw [EQ]
   simp only [Sem.run_bind, a1, Result.andThen_ok, aH h1, Sem.run_pure]
  simp only [PK, Sem.run_bind, h2, Result.andThen_ok, Sem.run_pure]
  rfl
 ·match i, ha, hv with
  | 0, ha, hv => cases ha; cases hv; exact .d _ _ (.v _)
  | 1, ha, hv => cases ha; cases hv; exact .d _ _ (.v _)
  | i + 2, ha, hv => cases ha
end Go.Proofs.Mn

namespace Go.Proofs.Mn
open Go.Proofs.Tryz
open Go Go.VL
open Wn (dR bK)
def ie (a b:Wide):Wide:=⟨(((a.hi.toNat+b.hi.toNat+(((a.lo.toNat+b.lo.toNat+0)/18446744073709551616:Nat):Int).toNat)%18446744073709551616:Nat):Int),(((a.lo.toNat+b.lo.toNat+0)%18446744073709551616:Nat):Int)⟩
theorem c266 {a b:Wide}(ha:a.lo.toNat<18446744073709551616)(hb:b.lo.toNat<18446744073709551616):Pure prog 266 [⟨.wide,a⟩,⟨.wide,b⟩] [.wide] (ie a b):=
 ofT func266 (t266 a b) (by kernel_rfl) (by kernel_rfl) fun _=>by
  refine⟨Nq (by decide),Nq (by rw[aq];omega),?_⟩
  exact⟨T3',rfl⟩
def vM (a:Wide):Int×Int:=bif !(a.hi==(dw (w64 a.lo)).hi&&(a.lo==(dw (w64 a.lo)).lo&&true))then(0,4)else(w64 a.lo,0)
theorem c268 (a:Wide):Pure prog 268 [⟨.wide,a⟩] [.int,.int] (vM a):=
 ofT func268 (t268 a) (by kernel_rfl) (by kernel_rfl) fun _=>by
  refine⟨⟨T1,tv⟩,_,Pl _,?_⟩
  unfold vM
  refine ak (fun h=>?_) (fun h=>?_)
  ·rw[h];exact⟨⟨T1,tv,tv⟩,rfl⟩
  ·rw[h];exact⟨⟨T1,tv,tv⟩,rfl⟩
def qy (l:List Int):Wide:=l.foldl (fun w x=>ie w (dw x)) ⟨0,0⟩
theorem Jb (a b:Wide):(ie a b).lo.toNat<18446744073709551616:=by
 unfold ie
 simp only
 rw[aq];omega
theorem OP (x:Int):(dw x).lo.toNat<18446744073709551616:=by
 have h:(dw x).lo=x%18446744073709551616:=rfl
 rw[h];omega
theorem Aj:∀ (l:List Int) (w:Wide),w.lo.toNat<18446744073709551616->(l.foldl (fun w x=>ie w (dw x)) w).lo.toNat<18446744073709551616
 | [],w,h=>h
 | x::l,w,_=>Aj l _ (Jb _ _)
theorem Bo {l:List Int}(hl:l.length<=1000000){r:Int×Int}{A:Pr}(hA:CL codes sigs f223 [.int,.int] r A)(hr:vM (qy l)=r)
  (i:Nat) (hi:i<=l.length):A (hd f223 0) (PY l (qy (l.take i)) i):=by
 refine hA.go (NR l _ i) (ak (fun h1=>?_) (fun h1=>?_))
 ·have h1:=oT h1
  have hil:i<l.length:=by omega
  rw[bf hil]
  refine⟨⟨⟨by omega,by omega⟩,tv⟩,⟨T1,tv⟩,_,Pl _,⟨T3',T3',tv⟩,_,c266 (Aj _ _ (by decide)) (OP _),?_⟩
  rw[aw (by omega)]
  have e:ie (qy (l.take i)) (dw l[i])=qy (l.take (i+1)):=by
   rw[ba hil,qy,qy,List.foldl_append];rfl
  rw[e]
  exact Bo hl hA hr (i+1) (by omega)
 ·have h1:=oF h1
  rw[ct (by omega)]
  exact⟨⟨T3',tv⟩,_,c268 _,⟨T1,tv,tv⟩,hr⟩
termination_by l.length-i
theorem c223 {l:List Int}(hl:l.length<=1000000):Pure prog 223 [⟨.sl .int,l⟩] [.int,.int] (vM (qy l)):=
 Pure.of_closed (C:=codes) (S:=sigs) mixed func223 (by kernel_rfl) (ac (by kernel_rfl)) fun A hA=>hA.go (t223 l) (Bo hl hA rfl 0 (by omega))
end Go.Proofs.Mn

namespace Go.Proofs.Mn
open Go.Proofs.Tryz
open Go Go.VL
theorem NU (l:Log)(i:Int):@Eq _ (xL prog codes sigs f163 [.bool] 300 0 (Qa l i)) (bif decide (i<(l.list.length:Int))then .need (((0:Int)<=i/\i<(l.list.length:Int))/\True) (bif (l.list.getD i.toNat Ty.change.dflt).ver != w64 (w64 (w64 (l.last-(l.list.length:Int))+1)+i)then .need U2 (.ret false)else .need (U2/\U2/\True) (.callP 224 [Sigma.mk .int (l.list.getD i.toNat Ty.change.dflt).by',Sigma.mk .int (l.list.getD i.toNat Ty.change.dflt).n] [.bool] fun(x:Bool)=>bif !x then .need U2 (.ret false)else .stop (hd f163 0) (mkS 71 [(1,.ptr 0 0),(3,i64 (w64 (i+1)))] [(0,.box (lC l))] 1)))else .need U2 (.ret true)):=by kernel_rfl
end Go.Proofs.Mn

namespace Go.Proofs.Mn
open Go.Proofs.Tryz
open Go Go.VL
open Wn (dR bK)
def qG (old:Int):List Change->Nat->Bool
 | [],_=>true
 | c::cs,i=>bif c.ver != w64 (w64 (old+1)+(i:Int))then false else bif !lB c.by' c.n then false else qG old cs (i+1)
def fX (l:Log):Bool:=bif decide (l.room<1)then false else bif decide (l.room>64)then false else bif decide (l.last<0)then false else bif decide (l.last>2147483647)then false else bif decide ((l.list.length:Int)>l.room)then false else bif decide ((l.list.length:Int)>l.last)then false else qG (jC l) l.list 0
theorem Bq {l:Log}(hl:l.list.length<=1000){r:Bool}{A:Pr}(hA:CL codes sigs f163 [.bool] r A)
  (i:Nat) (hi:i<=l.list.length) (h:qG (jC l) (l.list.drop i) i=r):A (hd f163 0) (Qa l i):=by
 refine hA.go (NU l i) (ak (fun h1=>?_) (fun h1=>?_))
 ·have h1:=oT h1
  have hil:i<l.list.length:=by omega
  rw[bf hil]
  rw[dG hil,qG]at h
  refine⟨⟨⟨by omega,by omega⟩,tv⟩,ak (b:=l.list[i].ver != w64 (w64 (jC l+1)+(i:Int))) (fun h2=>?_) (fun h2=>?_)⟩
  ·rw[h2]at h;exact⟨T1,h⟩
  ·rw[h2]at h
   refine⟨⟨T1,T1,tv⟩,_,c224 _ _,ak (fun h3=>?_) (fun h3=>?_)⟩
   ·rw[h3]at h;exact⟨T1,h⟩
   ·rw[h3]at h
    rw[aw (by omega)]
    exact Bq hl hA (i+1) (by omega) h
 ·have h1:=oF h1
  rw[dN (by omega)]at h
  exact⟨T1,h⟩
termination_by l.list.length-i
theorem c163 (l:Log):Pure prog 163 [⟨.log,l⟩] [.bool] (fX l):=
 Pure.of_closed (C:=codes) (S:=sigs) mixed func163 (by kernel_rfl) (ac (by kernel_rfl)) fun A hA=>hA.go (t163 l) (by
  have hy:∃ y,fX l=y:=⟨_,rfl⟩
  obtain⟨y,hy⟩:=hy
  rw[hy]at hA ⊢
  unfold fX at hy
  refine ak (fun h=>?_) (fun h=>?_)
  ·rw[h]at hy;exact⟨T1,hy⟩
  rw[h]at hy
  refine ak (fun h1=>?_) (fun h1=>?_)
  ·rw[h1]at hy;exact⟨T1,hy⟩
  rw[h1]at hy
  refine ak (fun h=>?_) (fun h=>?_)
  ·rw[h]at hy;exact⟨T1,hy⟩
  rw[h]at hy
  refine ak (fun h=>?_) (fun h=>?_)
  ·rw[h]at hy;exact⟨T1,hy⟩
  rw[h]at hy
  refine ak (fun h=>?_) (fun h2=>?_)
  ·rw[h]at hy;exact⟨T1,hy⟩
  rw[h2]at hy
  refine ak (fun h=>?_) (fun h=>?_)
  ·rw[h]at hy;exact⟨T1,hy⟩
  rw[h]at hy
  have g1:=oF h1
  have g2:=oF h2
  exact hA.go (NV l) (Bq (by omega) hA 0 (by omega) hy))
theorem Bp {l:Log}(hl:l.list.length<=1000){r:Bool}{A:Pr}(hA:CL codes sigs f216 [.bool] r A)
  (i:Nat) (hi:i<=l.list.length) (h:qG (jC l) (l.list.drop i) i=r):A (hd f216 0) (PZ l true i):=by
 refine hA.go (NS l true i) (ak (fun h1=>?_) (fun h1=>?_))
 ·have h1:=oT h1
  have hil:i<l.list.length:=by omega
  rw[bf hil]
  rw[dG hil,qG]at h
  refine⟨⟨⟨by omega,by omega⟩,tv⟩,⟨T3,tv⟩,_,MO l,ak (b:=l.list[i].ver != w64 (w64 (jC l+1)+(i:Int))) (fun h2=>?_) (fun h2=>?_)⟩
  ·rw[h2]at h;exact dR h2 ⟨T1,h⟩
  ·rw[h2]at h
   refine⟨⟨T1,T1,tv⟩,_,Pn _ _,ak (fun h3=>?_) (fun h3=>?_)⟩
   ·rw[h3]at h;exact⟨T1,h⟩
   ·rw[h3]at h
    rw[aw (by omega)]
    exact Bp hl hA (i+1) (by omega) h
 ·have h1:=oF h1
  rw[dN (by omega)]at h
  exact⟨T1,h⟩
termination_by l.list.length-i
theorem Kf (l:Log):Pure prog 216 [⟨.log,l⟩] [.bool] (fX l):=
 Pure.of_closed (C:=codes) (S:=sigs) mixed func216 (by kernel_rfl) (ac (by kernel_rfl)) fun A hA=>hA.go (t216 l) (by
  have hy:∃ y,fX l=y:=⟨_,rfl⟩
  obtain⟨y,hy⟩:=hy
  rw[hy]at hA ⊢
  unfold fX at hy
  refine ak (fun h=>?_) (fun h=>?_)
  ·rw[h]at hy;exact⟨T1,hy⟩
  rw[h]at hy
  refine ak (fun h1=>?_) (fun h1=>?_)
  ·rw[h1]at hy;exact⟨T1,hy⟩
  rw[h1]at hy
  refine ak (fun h=>?_) (fun h=>?_)
  ·rw[h]at hy;exact⟨T1,hy⟩
  rw[h]at hy
  refine ak (fun h=>?_) (fun h=>?_)
  ·rw[h]at hy;exact⟨T1,hy⟩
  rw[h]at hy
  have g1:=oF h1
  refine⟨⟨T3,tv⟩,_,Aa l,ak (fun h=>?_) (fun h=>?_)⟩
  ·refine⟨T1,?_⟩
   show false=y
   have h:=oT h
   rw[← hy]
   cases h2:decide ((l.list.length:Int)>l.room)
   ·cases h3:decide ((l.list.length:Int)>l.last)
    ·have:=oF h2
     have:=oF h3
     split at h<;>omega
    ·rfl
   ·rfl
  ·have h:=oF h
   have g2:¬ (l.list.length:Int)>l.room:=by split at h<;>omega
   have g3:¬ (l.list.length:Int)>l.last:=by split at h<;>omega
   rw[dF g2,dF g3]at hy
   exact Bp (by omega) hA 0 (by omega) hy)
def DU (c:Int):Log×Int:=bif !fX ⟨c,0,[]⟩then(⟨0,0,[]⟩,110)else(⟨c,0,[]⟩,0)
theorem Pz (c:Int):Pure prog 140 [⟨.int,c⟩] [.log,.int] (DU c):=
 ofT func140 (t140 c) (by kernel_rfl) (by kernel_rfl) fun _=>by
  refine⟨⟨T3,tv⟩,_,Kf _,?_⟩
  unfold DU
  cases fX ⟨c,0,[]⟩<;>exact⟨⟨T3,tv,tv⟩,rfl⟩
end Go.Proofs.Mn

namespace Go.Proofs.Mn
open Go.Proofs.Tryz
open Go Go.VL
def Qb (cs:List Cell)(out:List Int)(i:Int):AS:=mkS 28 [(4,.own 0 .int),(12,.d (.sl .cell cs)),(13,i64 cs.length),(14,i64 i)] [(0,.row 3 .int out)] 1
theorem NW (cs:List Cell)(out:List Int)(i:Int):@Eq _ (xL prog codes sigs f160 [.int,.int] 300 0 (Qb cs out i)) (bif decide (i<(cs.length:Int))then .need (((0:Int)<=i/\i<(cs.length:Int))/\True) (.need (U2/\True) (.need ((out.length+List.length [(cs.getD i.toNat Ty.cell.dflt).vol])*9<=35184372088832/\True) (.stop (hd f160 0) (mkS 28 [(4,.own 0 .int),(12,.d (.sl .cell cs)),(13,i64 (cs.length:Int)),(14,i64 (w64 (i+1)))] [(0,.row 3 .int (out++[(cs.getD i.toNat Ty.cell.dflt).vol]))] 1))))else .need (U2/\True) (.callP 223 [⟨.sl .int,out⟩] [.int,.int] fun(x:Int×Int)=>.need (U2/\U2) (.ret (x.1,x.2)))):=by kernel_rfl
end Go.Proofs.Mn

namespace Go.Proofs.Mn
open Go.Proofs.Tryz
open Go Go.VL
open Wn (dR bK)
def Do (n:Int):List Int:=bif decide (n<0)then[]else List.replicate n.toNat 0
theorem c86 {n:Int}(h:n<=1000000):Pure prog 86 [⟨.int,n⟩] [.sl .int] (Do n):=
 ofT func86 (t86 n) (by kernel_rfl) (by kernel_rfl) fun _=>by
  unfold Do
  refine ak (fun h1=>?_) (fun h1=>?_)
  ·rw[h1];exact⟨T1,rfl⟩
  ·rw[h1]
   have:=oF h1
   exact⟨⟨by omega,gS _,by omega⟩,T1,rfl⟩
theorem Br {cs:List Cell}(hl:cs.length<=1000000){r:Int×Int}{A:Pr}(hA:CL codes sigs f160 [.int,.int] r A)(hr:vM (qy (cs.map Cell.vol))=r)
  (i:Nat) (hi:i<=cs.length):A (hd f160 0) (Qb cs ((cs.take i).map Cell.vol) i):=by
 refine hA.go (NW cs _ i) (ak (fun h1=>?_) (fun h1=>?_))
 ·have h1:=oT h1
  have hil:i<cs.length:=by omega
  rw[bf hil]
  refine⟨⟨⟨by omega,by omega⟩,tv⟩,⟨T1,tv⟩,⟨by rw[bB,aF];simp only[ag,am];omega,tv⟩,?_⟩
  rw[aw (by omega)]
  have e:(cs.take i).map Cell.vol++[cs[i].vol]=(cs.take (i+1)).map Cell.vol:=by
   rw[ba hil,bO];rfl
  rw[e]
  exact Br hl hA hr (i+1) (by omega)
 ·have h1:=oF h1
  rw[ct (by omega)]
  exact⟨⟨T1,tv⟩,_,c223 (by rw[bB];exact hl),⟨T1,tv,tv⟩,hr⟩
termination_by cs.length-i
theorem c160 {s:Stock}(hl:s.cells.length<=1000000):Pure prog 160 [⟨.stock,s⟩] [.int,.int] (vM (qy (s.cells.map Cell.vol))):=
 Pure.of_closed (C:=codes) (S:=sigs) mixed func160 (by kernel_rfl) (ac (by kernel_rfl)) fun A hA=>hA.go (t160 s) ⟨⟨by omega,by omega,by rw[aq];omega⟩,Br hl hA rfl 0 (by omega)⟩
end Go.Proofs.Mn

namespace Go.Proofs.Mn
open Go.Proofs.Tryz
open Go Go.VL Go.Proofs.Zn
theorem cf {d:Deck}(h:(cW d != 0)=false):DeckOk d:=(ru (d:=d) (by simpa[cW]using h)).1
def plN (d:Deck)(i:Nat):Int:=(d.plates.getD i Ty.plate.dflt).rows*(d.plates.getD i Ty.plate.dflt).cols
theorem FS {d:Deck}(hd:DeckOk d)(i:Nat):0<=plN d i/\plN d i<=1536:=by
 unfold plN
 rcases ay i d.plates.length with h|h
 ·rw[cJ h]
  have h1:=hd.boxP (eL d.plates[i]) (List.mem_map_of_mem (aQ h))
  have:=dU h1
  simp only[eL]at this
  omega
 ·rw[show d.plates.getD i Ty.plate.dflt=Ty.plate.dflt by simp[List.getD,au h]]
  decide
def PlB (d:Deck):Prop:=∀ i:Nat,w64 (plN d i)=plN d i/\0<=plN d i/\plN d i<=1536
theorem plB {d:Deck}(hd:DeckOk d):PlB d:=fun i=>by
 have h:=FS hd i
 exact⟨ax (by omega) (by omega),h.1,h.2⟩
theorem PlB.at {d:Deck}(h:PlB d)(i:Nat):w64 ((d.plates.getD i Ty.plate.dflt).rows*(d.plates.getD i Ty.plate.dflt).cols)=plN d i/\0<=plN d i/\plN d i<=1536:=h i
theorem sT (d:Deck):0<=(bu d).1/\(bu d).1<=384/\0<=(bu d).2.1/\(bu d).2.1<=384/\0<=(bu d).2.2/\(bu d).2.2<=24:=by
 unfold bu
 cases h:dE d != 0
 ·have hd:DeckOk d:=fm (by simpa using h)
  have h1:=hd.wells
  have h2:=hd.tips
  have h3:=hd.lanes
  rw[cF]
  simp only
  omega
 ·rw[cT]
  decide
theorem wT {l:List Go.VL.Box}(h:∀ b∈l,cN b=true):0<=bp l:=(qL h).1
theorem Hs {d:Deck}{i:Nat}(h:i<d.plates.length):bp ((aL d).drop i)=plN d i+bp ((aL d).drop (i+1)):=by
 have hl:i<(aL d).length:=by simpa[aL]using h
 rw[dG hl,bp]
 unfold plN
 rw[cJ h]
 simp[aL,eL]
theorem yp {d:Deck}(hd:DeckOk d)(i:Nat):0<=bp ((aL d).drop i):=wT fun b hb=>hd.boxP b (List.mem_of_mem_drop hb)
theorem jB (d:Deck):(cO d).length<=1000:=by
 unfold cO
 cases h:dE d != 0
 ·have hd:DeckOk d:=fm (by simpa using h)
  have:=pv hd
  rw[cF];omega
 ·simp
theorem kX {α:Type}{l:List α}{ix:Nat}(h:ix<l.length){d:α}:l.getD (Int.toNat (ix:Int)) d∈l:=by
 rw[bf h];exact aQ h
def eqL (a b:List Int):Bool:=decide (a=b)
def Hl (a b:Log):Bool:=decide (a=b)
theorem Pu {a b:Log}(h:a.list.length<=1000000):Pure prog 155 [⟨.log,a⟩,⟨.log,b⟩] [.bool] (Hl a b):=MS h
end Go.Proofs.Mn

namespace Go.Proofs.Mn
open Go.Proofs.Tryz
open Go Go.VL
def pW (l:List Tip)(i:Int)(t:Tip)(i1:Int):AS:=mkS 36 [(1,i64 i),(5,.ptr 0 0),(8,i64 0),(9,.d (.v (.bool false))),(12,.d (.sl .tip l)),(13,i64 (l.length:Int)),(14,i64 i1)] [(0,.box [i64 t.state,i64 t.by'])] 1
theorem NP (l:List Tip)(i:Int)(t:Tip):@Eq _ (xS prog codes sigs f227 [.int,.bool] 300 [⟨.sl .tip,l⟩,⟨.int,i⟩,⟨.tip,t⟩]) (.stop (hd f227 0) (pW l i t (0:Int))):=by kernel_rfl
theorem IG (l:List Tip)(i:Int)(t:Tip)(i1:Int):@Eq _ (xL prog codes sigs f227 [.int,.bool] 300 0 (pW l i t i1)) (bif decide (i1<(l.length:Int))then .need (((0:Int)<=i1/\i1<(l.length:Int))/\True) (bif decide (i1<i)then .stop (hd f227 0) (pW l i t (w64 (i1+1)))else bif ! ((l.getD i1.toNat (Ty.dflt .tip)).state==t.state&&((l.getD i1.toNat (Ty.dflt .tip)).by'==t.by'&&true))then .stop (hd f227 0) (pW l i t (w64 (i1+1)))else .need (U3/\True) (.callP 221 [⟨.tip,(l.getD i1.toNat (Ty.dflt .tip))⟩] [.bool] fun(x:Bool)=>bif !x then .stop (hd f227 0) (pW l i t (w64 (i1+1)))else .need (U2/\U2) (.ret (i1,true))))else .need (U2/\U2) (.ret ((0:Int),false))):=by kernel_rfl
def tn (a b:List Fl)(i1:Int):AS:=mkS 49 [(0,.d (.sl .flt a)),(1,.d (.sl .flt b)),(5,i64 i1)] [] 0
theorem NZ (a b:List Fl):@Eq _ (xS prog codes sigs f156 [.bool] 300 [⟨.sl .flt,a⟩,⟨.sl .flt,b⟩]) (bif (a.length:Int) != (b.length:Int)then .need U2 (.ret false)else .stop (hd f156 0) (tn a b (0:Int))):=by kernel_rfl
theorem IL (a b:List Fl)(i1:Int):@Eq _ (xL prog codes sigs f156 [.bool] 300 0 (tn a b i1)) (bif decide (i1<(a.length:Int))then .need (((0:Int)<=i1/\i1<(a.length:Int))/\True) (.need (((0:Int)<=i1/\i1<(b.length:Int))/\True) (bif Fl.cmp (a.getD i1.toNat (Ty.dflt .flt)) (b.getD i1.toNat (Ty.dflt .flt))==some Ordering.eq then .stop (hd f156 0) (tn a b (w64 (i1+1)))else .need (((0:Int)<=i1/\i1<(a.length:Int))/\True) (.need (((0:Int)<=i1/\i1<(a.length:Int))/\True) (bif Fl.cmp (a.getD i1.toNat (Ty.dflt .flt)) (a.getD i1.toNat (Ty.dflt .flt)) != some Ordering.eq then .need (((0:Int)<=i1/\i1<(b.length:Int))/\True) (.need (((0:Int)<=i1/\i1<(b.length:Int))/\True) (bif !Fl.cmp (b.getD i1.toNat (Ty.dflt .flt)) (b.getD i1.toNat (Ty.dflt .flt)) != some Ordering.eq then .need U2 (.ret false)else .stop (hd f156 0) (tn a b (w64 (i1+1)))))else .need U2 (.ret false)))))else .need U2 (.ret true)):=by kernel_rfl
def Cu (i1 i5:Int)(l3:List Cell)(l4:List Log)(i6:Int)(l5:List Tip):AS:=mkS 92 [(2,.ptr 0 0),(5,.ptr 1 0),(7,i64 i1),(13,i64 i6)] [(0,.box [nS,nS,nS,i64 0,i64 0,i64 0]),(1,.box [.own 2 .cell,.own 3 .log,.own 4 .tip,i64 i5,i64 0,i64 0]),(2,.row 76 .cell l3),(3,.row 146 .log l4),(4,.row 194 .tip l5)] 5
def yH (d:Deck)(i1 i4 i2 i3:Int)(l1:List Cell)(l2:List Log):AS:=mkS 92 [(1,.ptr 0 0),(2,.ptr 1 0),(5,.ptr 2 0),(7,i64 i1),(9,i64 i4),(10,.ptr 3 0),(11,i64 i2)] [(0,.box (dC d)),(1,.box [nS,nS,nS,i64 0,i64 0,i64 0]),(2,.box [.own 4 .cell,.own 5 .log,nS,i64 i3,i64 0,i64 0]),(3,.box [i64 (d.plates.getD i4.toNat (Ty.dflt .plate)).rows,i64 (d.plates.getD i4.toNat (Ty.dflt .plate)).cols,.d (.f (d.plates.getD i4.toNat (Ty.dflt .plate)).x),.d (.f (d.plates.getD i4.toNat (Ty.dflt .plate)).pitch),.d (.f (d.plates.getD i4.toNat (Ty.dflt .plate)).reach),i64 (d.plates.getD i4.toNat (Ty.dflt .plate)).cap,.d (.sl .int (d.plates.getD i4.toNat (Ty.dflt .plate)).start)]),(4,.row 76 .cell l1),(5,.row 146 .log l2)] 6
def yI (d:Deck)(i1 i4 i5:Int)(l3:List Cell)(l4:List Log):AS:=mkS 92 [(1,.ptr 0 0),(2,.ptr 1 0),(5,.ptr 2 0),(7,i64 i1),(9,i64 i4)] [(0,.box (dC d)),(1,.box [nS,nS,nS,i64 0,i64 0,i64 0]),(2,.box [.own 3 .cell,.own 4 .log,nS,i64 i5,i64 0,i64 0]),(3,.row 76 .cell l3),(4,.row 146 .log l4)] 5
theorem t87x (d:Deck):@Eq _ (xS prog codes sigs f87 [.stock,.int] 300 [⟨.deck,d⟩]) (.need (U5/\True) (.callP 70 [⟨.deck,d⟩] [.int] fun(x:Int)=>bif x != 0 then .need (U7/\U2) (.ret (Stock.mk [] [] [] (0:Int) (0:Int) (0:Int),x))else .need (U5/\True) (.callP 152 [⟨.deck,d⟩] [.int,.int,.int] fun(x:Int×Int×Int)=>.stop (hd f87 0) (mkS 92 [(1,.ptr 0 0),(2,.ptr 1 0),(5,.ptr 2 0),(7,i64 x.2.1),(9,i64 0)] [(0,.box (dC d)),(1,.box [nS,nS,nS,i64 0,i64 0,i64 0]),(2,.box [nS,nS,nS,i64 0,i64 0,i64 0])] 3)))):=by kernel_rfl
theorem Li (d:Deck)(i1 i4 i5:Int)(l3:List Cell)(l4:List Log):@Eq _ (xL prog codes sigs f87 [.stock,.int] 300 0 (yI d i1 i4 i5 l3 l4)) (bif decide (i4<(d.plates.length:Int))then .need (((0:Int)<=i4/\i4<(d.plates.length:Int))/\True) (.stop (hd f87 1) (yH d i1 i4 (0:Int) i5 l3 l4))else .stop (hd f87 2) (mkS 92 [(2,.ptr 0 0),(5,.ptr 1 0),(7,i64 i1),(13,i64 0)] [(0,.box [nS,nS,nS,i64 0,i64 0,i64 0]),(1,.box [.own 2 .cell,.own 3 .log,nS,i64 i5,i64 0,i64 0]),(2,.row 76 .cell l3),(3,.row 146 .log l4)] 4)):=by kernel_rfl
theorem Lh (d:Deck)(i1 i4 i2 i3:Int)(l1:List Cell)(l2:List Log):@Eq _ (xL prog codes sigs f87 [.stock,.int] 300 1 (yH d i1 i4 i2 i3 l1 l2)) (bif decide (i2<w64 ((d.plates.getD i4.toNat (Ty.dflt .plate)).rows*(d.plates.getD i4.toNat (Ty.dflt .plate)).cols))then bif decide (i2<(↑(d.plates.getD i4.toNat (Ty.dflt .plate)).start.length:Int))then .need (((0:Int)<=i2/\i2<(↑(d.plates.getD i4.toNat (Ty.dflt .plate)).start.length:Int))/\True) (.need (U4/\True) (.need ((l1.length+List.length [Cell.mk (d.plates.getD i4.toNat (Ty.dflt .plate)).cap ((d.plates.getD i4.toNat (Ty.dflt .plate)).start.getD i2.toNat (Ty.dflt .int)) (0:Int)])*25<=35184372088832/\True) (.need (U4/\True) (.need ((l2.length+List.length [Log.mk (8:Int) (0:Int) []])*41<=35184372088832/\True) (.stop (hd f87 1) (yH d i1 i4 (w64 (i2+1)) (w64 (i3+(d.plates.getD i4.toNat (Ty.dflt .plate)).start.getD i2.toNat (Ty.dflt .int))) (l1++[Cell.mk (d.plates.getD i4.toNat (Ty.dflt .plate)).cap ((d.plates.getD i4.toNat (Ty.dflt .plate)).start.getD i2.toNat (Ty.dflt .int)) (0:Int)]) (l2++[Log.mk (8:Int) (0:Int) []])))))))else .need (U4/\True) (.need ((l1.length+List.length [Cell.mk (d.plates.getD i4.toNat (Ty.dflt .plate)).cap (0:Int) (0:Int)])*25<=35184372088832/\True) (.need (U4/\True) (.need ((l2.length+List.length [Log.mk (8:Int) (0:Int) []])*41<=35184372088832/\True) (.stop (hd f87 1) (yH d i1 i4 (w64 (i2+1)) (w64 (i3+0)) (l1++[Cell.mk (d.plates.getD i4.toNat (Ty.dflt .plate)).cap (0:Int) (0:Int)]) (l2++[Log.mk (8:Int) (0:Int) []]))))))else .stop (hd f87 0) (yI d i1 (w64 (i4+1)) i3 l1 l2)):=by kernel_rfl
theorem Lg (i1 i5:Int)(l3:List Cell)(l4:List Log)(i6:Int)(l5:List Tip):@Eq _ (xL prog codes sigs f87 [.stock,.int] 300 2 (Cu i1 i5 l3 l4 i6 l5)) (bif decide (i6<i1)then .need (U3/\True) (.need ((l5.length+List.length [Tip.mk (1:Int) (0:Int)])*17<=35184372088832/\True) (.stop (hd f87 2) (Cu i1 i5 l3 l4 (w64 (i6+1)) (l5++[Tip.mk (1:Int) (0:Int)]))))else .need (U7/\U2) (.ret (Stock.mk l3 l4 l5 i5 (0:Int) (0:Int),(0:Int)))):=by kernel_rfl
def Cy (d:Deck)(l1:List Cell)(l2:List Log)(l3:List Tip)(i1 i2 i3 i4:Int)(l4:List Int):AS:=mkS 33 [(1,.ptr 0 0),(2,.ptr 1 0),(6,.ptr 2 0),(7,i64 i4)] [(0,.box (dC d)),(1,.box [nS,nS,nS,i64 0,nS,nS,nS,i64 0,i64 0,i64 0,nS]),(2,.box [.d (.sl .flt d.borders),.d (.sl .plate d.plates),.d (.sl .rack d.racks),i64 d.arms,.d (.sl .cell l1),.d (.sl .log l2),.d (.sl .tip l3),i64 i1,i64 i2,i64 i3,.own 3 .int]),(3,.row 3 .int l4)] 4
theorem t29x (d:Deck):@Eq _ (xS prog codes sigs f29 [.model,.int] 300 [⟨.deck,d⟩]) (.need (U5/\True) (.callP 87 [⟨.deck,d⟩] [.stock,.int] fun(x:Stock×Int)=>bif x.2 != 0 then .need (U12/\U2) (.ret (Model.mk (Deck.mk [] [] [] (0:Int)) (Stock.mk [] [] [] (0:Int) (0:Int) (0:Int)) [],x.2))else .stop (hd f29 0) (mkS 33 [(1,.ptr 0 0),(2,.ptr 1 0),(6,.ptr 2 0),(7,i64 0)] [(0,.box (dC d)),(1,.box [nS,nS,nS,i64 0,nS,nS,nS,i64 0,i64 0,i64 0,nS]),(2,.box [.d (.sl .flt d.borders),.d (.sl .plate d.plates),.d (.sl .rack d.racks),i64 d.arms,.d (.sl .cell x.1.cells),.d (.sl .log x.1.logs),.d (.sl .tip x.1.tips),i64 x.1.start,i64 x.1.inn,i64 x.1.out,nS])] 3))):=by kernel_rfl
theorem Lq (d:Deck)(l1:List Cell)(l2:List Log)(l3:List Tip)(i1 i2 i3 i4:Int)(l4:List Int):@Eq _ (xL prog codes sigs f29 [.model,.int] 300 0 (Cy d l1 l2 l3 i1 i2 i3 i4 l4)) (.need (U5/\True) (.callP 88 [⟨.deck,d⟩] [.sl .part] fun(x:List Part)=>bif decide (i4<(x.length:Int))then .need (U2/\True) (.need ((l4.length+List.length [(0:Int)])*9<=35184372088832/\True) (.stop (hd f29 0) (Cy d l1 l2 l3 i1 i2 i3 (w64 (i4+1)) (l4++[(0:Int)]))))else .need (U12/\U2) (.ret (Model.mk d (Stock.mk l1 l2 l3 i1 i2 i3) l4,(0:Int))))):=by kernel_rfl
def Cv (i4:Int)(l3:List Cell)(l4:List Log)(i5 i6:Int)(l5:List Tip):AS:=mkS 95 [(2,.ptr 0 0),(5,.ptr 1 0),(84,i64 i5),(85,i64 i6)] [(0,.box [nS,nS,nS,i64 0,i64 0,i64 0]),(1,.box [.own 2 .cell,.own 3 .log,.own 4 .tip,i64 i4,i64 0,i64 0]),(2,.row 76 .cell l3),(3,.row 146 .log l4),(4,.row 194 .tip l5)] 5
def yM (d:Deck)(i3 i1 i2:Int)(l1:List Cell)(l2:List Log):AS:=mkS 95 [(1,.ptr 0 0),(2,.ptr 1 0),(5,.ptr 2 0),(7,.ptr 3 0),(24,.d (.sl .plate d.plates)),(25,i64 (d.plates.length:Int)),(26,i64 i3),(34,i64 (w64 ((d.plates.getD i3.toNat (Ty.dflt .plate)).rows*(d.plates.getD i3.toNat (Ty.dflt .plate)).cols))),(35,i64 i1)] [(0,.box (dC d)),(1,.box [nS,nS,nS,i64 0,i64 0,i64 0]),(2,.box [.own 4 .cell,.own 5 .log,nS,i64 i2,i64 0,i64 0]),(3,.box [i64 (d.plates.getD i3.toNat (Ty.dflt .plate)).rows,i64 (d.plates.getD i3.toNat (Ty.dflt .plate)).cols,.d (.f (d.plates.getD i3.toNat (Ty.dflt .plate)).x),.d (.f (d.plates.getD i3.toNat (Ty.dflt .plate)).pitch),.d (.f (d.plates.getD i3.toNat (Ty.dflt .plate)).reach),i64 (d.plates.getD i3.toNat (Ty.dflt .plate)).cap,.d (.sl .int (d.plates.getD i3.toNat (Ty.dflt .plate)).start)]),(4,.row 76 .cell l1),(5,.row 146 .log l2)] 6
def yN (d:Deck)(i3 i4:Int)(l3:List Cell)(l4:List Log):AS:=mkS 95 [(1,.ptr 0 0),(2,.ptr 1 0),(5,.ptr 2 0),(24,.d (.sl .plate d.plates)),(25,i64 (d.plates.length:Int)),(26,i64 i3)] [(0,.box (dC d)),(1,.box [nS,nS,nS,i64 0,i64 0,i64 0]),(2,.box [.own 3 .cell,.own 4 .log,nS,i64 i4,i64 0,i64 0]),(3,.row 76 .cell l3),(4,.row 146 .log l4)] 5
theorem t83x (d:Deck):@Eq _ (xS prog codes sigs f83 [.stock,.int] 300 [⟨.deck,d⟩]) (.need (U5/\True) (.callP 61 [⟨.deck,d⟩] [.int] fun(x:Int)=>bif x != 0 then .need (U7/\U2) (.ret (Stock.mk [] [] [] (0:Int) (0:Int) (0:Int),x))else .stop (hd f83 0) (mkS 95 [(1,.ptr 0 0),(2,.ptr 1 0),(5,.ptr 2 0),(24,.d (.sl .plate d.plates)),(25,i64 (d.plates.length:Int)),(26,i64 0)] [(0,.box (dC d)),(1,.box [nS,nS,nS,i64 0,i64 0,i64 0]),(2,.box [nS,nS,nS,i64 0,i64 0,i64 0])] 3))):=by kernel_rfl
theorem Ln (d:Deck)(i3 i4:Int)(l3:List Cell)(l4:List Log):@Eq _ (xL prog codes sigs f83 [.stock,.int] 300 0 (yN d i3 i4 l3 l4)) (bif decide (i3<(d.plates.length:Int))then .need (((0:Int)<=i3/\i3<(d.plates.length:Int))/\True) (.stop (hd f83 1) (yM d i3 (0:Int) i4 l3 l4))else .need (U5/\True) (.callP 84 [⟨.deck,d⟩] [.int,.int,.int] fun(x:Int×Int×Int)=>.stop (hd f83 2) (mkS 95 [(2,.ptr 0 0),(5,.ptr 1 0),(84,i64 x.2.1),(85,i64 0)] [(0,.box [nS,nS,nS,i64 0,i64 0,i64 0]),(1,.box [.own 2 .cell,.own 3 .log,nS,i64 i4,i64 0,i64 0]),(2,.row 76 .cell l3),(3,.row 146 .log l4)] 4))):=by kernel_rfl
theorem Lm (d:Deck)(i3 i1 i2:Int)(l1:List Cell)(l2:List Log):@Eq _ (xL prog codes sigs f83 [.stock,.int] 300 1 (yM d i3 i1 i2 l1 l2)) (bif decide (i1<w64 ((d.plates.getD i3.toNat (Ty.dflt .plate)).rows*(d.plates.getD i3.toNat (Ty.dflt .plate)).cols))then bif decide (i1<(↑(d.plates.getD i3.toNat (Ty.dflt .plate)).start.length:Int))then .need (((0:Int)<=i1/\i1<(↑(d.plates.getD i3.toNat (Ty.dflt .plate)).start.length:Int))/\True) (.need (U2/\U2/\True) (.callP 139 [Sigma.mk .int (d.plates.getD i3.toNat (Ty.dflt .plate)).cap,⟨.int,((d.plates.getD i3.toNat (Ty.dflt .plate)).start.getD i1.toNat (Ty.dflt .int))⟩] [.cell,.int] fun(x:Cell×Int)=>.need (U2/\True) (.callP 140 [⟨.int,(8:Int)⟩] [.log,.int] fun(x_1:Log×Int)=>.need (U4/\True) (.need ((l1.length+List.length [x.1])*25<=35184372088832/\True) (.need (U4/\True) (.need ((l2.length+List.length [x_1.1])*41<=35184372088832/\True) (.stop (hd f83 1) (yM d i3 (w64 (i1+1)) (w64 (i2+(d.plates.getD i3.toNat (Ty.dflt .plate)).start.getD i1.toNat (Ty.dflt .int))) (l1++[x.1]) (l2++[x_1.1])))))))))else .need (U2/\U2/\True) (.callP 139 [Sigma.mk .int (d.plates.getD i3.toNat (Ty.dflt .plate)).cap,⟨.int,(0:Int)⟩] [.cell,.int] fun(x:Cell×Int)=>.need (U2/\True) (.callP 140 [⟨.int,(8:Int)⟩] [.log,.int] fun(x_1:Log×Int)=>.need (U4/\True) (.need ((l1.length+List.length [x.1])*25<=35184372088832/\True) (.need (U4/\True) (.need ((l2.length+List.length [x_1.1])*41<=35184372088832/\True) (.stop (hd f83 1) (yM d i3 (w64 (i1+1)) (w64 (i2+0)) (l1++[x.1]) (l2++[x_1.1]))))))))else .stop (hd f83 0) (yN d (w64 (i3+1)) i2 l1 l2)):=by kernel_rfl
theorem Ll (i4:Int)(l3:List Cell)(l4:List Log)(i5 i6:Int)(l5:List Tip):@Eq _ (xL prog codes sigs f83 [.stock,.int] 300 2 (Cv i4 l3 l4 i5 i6 l5)) (bif decide (i6<i5)then .need (U3/\True) (.need ((l5.length+List.length [Tip.mk (1:Int) (0:Int)])*17<=35184372088832/\True) (.stop (hd f83 2) (Cv i4 l3 l4 i5 (w64 (i6+1)) (l5++[Tip.mk (1:Int) (0:Int)]))))else .need (U7/\U2) (.ret (Stock.mk l3 l4 l5 i4 (0:Int) (0:Int),(0:Int)))):=by kernel_rfl
def tj (d:Deck)(s:Stock)(i5 i1 i2 i6:Int):AS:=mkS 82 [(3,.ptr 0 0),(6,i64 i1),(7,i64 i2),(9,.ptr 1 0),(14,.d (.sl .plate d.plates)),(15,i64 (d.plates.length:Int)),(16,i64 i5),(24,i64 (w64 ((d.plates.getD i5.toNat (Ty.dflt .plate)).rows*(d.plates.getD i5.toNat (Ty.dflt .plate)).cols))),(25,i64 i6)] [(0,.box (sC s)),(1,.box [i64 (d.plates.getD i5.toNat (Ty.dflt .plate)).rows,i64 (d.plates.getD i5.toNat (Ty.dflt .plate)).cols,.d (.f (d.plates.getD i5.toNat (Ty.dflt .plate)).x),.d (.f (d.plates.getD i5.toNat (Ty.dflt .plate)).pitch),.d (.f (d.plates.getD i5.toNat (Ty.dflt .plate)).reach),i64 (d.plates.getD i5.toNat (Ty.dflt .plate)).cap,.d (.sl .int (d.plates.getD i5.toNat (Ty.dflt .plate)).start)])] 2
def tl (d:Deck)(s:Stock)(i3 i4 i5:Int):AS:=mkS 82 [(3,.ptr 0 0),(6,i64 i3),(7,i64 i4),(14,.d (.sl .plate d.plates)),(15,i64 (d.plates.length:Int)),(16,i64 i5)] [(0,.box (sC s))] 1
theorem NY (d:Deck)(s:Stock):@Eq _ (xS prog codes sigs f158 [.int,.bool] 300 [⟨.deck,d⟩,⟨.stock,s⟩]) (.stop (hd f158 0) (tl d s (0:Int) (0:Int) (0:Int))):=by kernel_rfl
theorem IK (d:Deck)(s:Stock)(i3 i4 i5:Int):@Eq _ (xL prog codes sigs f158 [.int,.bool] 300 0 (tl d s i3 i4 i5)) (bif decide (i5<(d.plates.length:Int))then .need (((0:Int)<=i5/\i5<(d.plates.length:Int))/\True) (.stop (hd f158 1) (tj d s i5 i3 i4 (0:Int)))else .need (U2/\U2) (.ret (i3,true))):=by kernel_rfl
theorem IJ (d:Deck)(s:Stock)(i5 i1 i2 i6:Int):@Eq _ (xL prog codes sigs f158 [.int,.bool] 300 1 (tj d s i5 i1 i2 i6)) (bif decide (i6<w64 ((d.plates.getD i5.toNat (Ty.dflt .plate)).rows*(d.plates.getD i5.toNat (Ty.dflt .plate)).cols))then .need (((0:Int)<=i2/\i2<(s.cells.length:Int))/\True) (.need (((0:Int)<=i2/\i2<(s.logs.length:Int))/\True) (.need (U4/\True) (.callP 215 [⟨.cell,(s.cells.getD i2.toNat (Ty.dflt .cell))⟩] [.bool] fun(x:Bool)=>bif !x then .need (U2/\U2) (.ret ((0:Int),false))else bif (s.cells.getD i2.toNat (Ty.dflt .cell)).cap != (d.plates.getD i5.toNat (Ty.dflt .plate)).cap then .need (U2/\U2) (.ret ((0:Int),false))else .need (U4/\True) (.callP 216 [⟨.log,(s.logs.getD i2.toNat (Ty.dflt .log))⟩] [.bool] fun(x:Bool)=>bif !x then .need (U2/\U2) (.ret ((0:Int),false))else bif (s.logs.getD i2.toNat (Ty.dflt .log)).room != 8 then .need (U2/\U2) (.ret ((0:Int),false))else bif (s.logs.getD i2.toNat (Ty.dflt .log)).last != (s.cells.getD i2.toNat (Ty.dflt .cell)).ver then .need (U2/\U2) (.ret ((0:Int),false))else bif decide (i6<(↑(d.plates.getD i5.toNat (Ty.dflt .plate)).start.length:Int))then .need (((0:Int)<=i6/\i6<(↑(d.plates.getD i5.toNat (Ty.dflt .plate)).start.length:Int))/\True) (.stop (hd f158 1) (tj d s i5 (w64 (i1+(d.plates.getD i5.toNat (Ty.dflt .plate)).start.getD i6.toNat (Ty.dflt .int))) (w64 (i2+1)) (w64 (i6+1))))else .stop (hd f158 1) (tj d s i5 i1 (w64 (i2+1)) (w64 (i6+1)))))))else .stop (hd f158 0) (tl d s i1 i2 (w64 (i5+1)))):=by kernel_rfl
def Cr (a b:Stock)(i3:Int):AS:=mkS 109 [(2,.ptr 0 0),(3,.ptr 1 0),(7,i64 i3)] [(0,.box (sC a)),(1,.box (sC b))] 2
def Cs (a b:Stock)(i2:Int):AS:=mkS 109 [(2,.ptr 0 0),(3,.ptr 1 0),(6,i64 i2)] [(0,.box (sC a)),(1,.box (sC b))] 2
def Ct (a b:Stock)(i1:Int):AS:=mkS 109 [(2,.ptr 0 0),(3,.ptr 1 0),(5,i64 i1)] [(0,.box (sC a)),(1,.box (sC b))] 2
theorem t89x (a b:Stock):@Eq _ (xS prog codes sigs f89 [.bool] 300 [⟨.stock,a⟩,⟨.stock,b⟩]) (bif (a.cells.length:Int) != (b.cells.length:Int)then .need U2 (.ret false)else bif (a.logs.length:Int) != (b.logs.length:Int)then .need U2 (.ret false)else bif (a.tips.length:Int) != (b.tips.length:Int)then .need U2 (.ret false)else bif a.start != b.start then .need U2 (.ret false)else bif a.inn != b.inn then .need U2 (.ret false)else bif a.out != b.out then .need U2 (.ret false)else .stop (hd f89 0) (Ct a b (0:Int))):=by kernel_rfl
theorem Lf (a b:Stock)(i1:Int):@Eq _ (xL prog codes sigs f89 [.bool] 300 0 (Ct a b i1)) (bif decide (i1<(a.cells.length:Int))then .need (((0:Int)<=i1/\i1<(a.cells.length:Int))/\True) (.need (((0:Int)<=i1/\i1<(b.cells.length:Int))/\True) (bif ! ((a.cells.getD i1.toNat (Ty.dflt .cell)).cap==(b.cells.getD i1.toNat (Ty.dflt .cell)).cap&&((a.cells.getD i1.toNat (Ty.dflt .cell)).vol==(b.cells.getD i1.toNat (Ty.dflt .cell)).vol&&((a.cells.getD i1.toNat (Ty.dflt .cell)).ver==(b.cells.getD i1.toNat (Ty.dflt .cell)).ver&&true)))then .need U2 (.ret false)else .stop (hd f89 0) (Ct a b (w64 (i1+1)))))else .stop (hd f89 1) (Cs a b (0:Int))):=by kernel_rfl
theorem Ld (a b:Stock)(i2:Int):@Eq _ (xL prog codes sigs f89 [.bool] 300 1 (Cs a b i2)) (bif decide (i2<(a.logs.length:Int))then .need (((0:Int)<=i2/\i2<(a.logs.length:Int))/\True) (.need (((0:Int)<=i2/\i2<(b.logs.length:Int))/\True) (.need (U4/\U4/\True) (.callP 155 [⟨.log,(a.logs.getD i2.toNat (Ty.dflt .log))⟩,⟨.log,(b.logs.getD i2.toNat (Ty.dflt .log))⟩] [.bool] fun(x:Bool)=>bif !x then .need U2 (.ret false)else .stop (hd f89 1) (Cs a b (w64 (i2+1))))))else .stop (hd f89 2) (Cr a b (0:Int))):=by kernel_rfl
theorem Lc (a b:Stock)(i3:Int):@Eq _ (xL prog codes sigs f89 [.bool] 300 2 (Cr a b i3)) (bif decide (i3<(a.tips.length:Int))then .need (((0:Int)<=i3/\i3<(a.tips.length:Int))/\True) (.need (((0:Int)<=i3/\i3<(b.tips.length:Int))/\True) (bif ! ((a.tips.getD i3.toNat (Ty.dflt .tip)).state==(b.tips.getD i3.toNat (Ty.dflt .tip)).state&&((a.tips.getD i3.toNat (Ty.dflt .tip)).by'==(b.tips.getD i3.toNat (Ty.dflt .tip)).by'&&true))then .need U2 (.ret false)else .stop (hd f89 2) (Cr a b (w64 (i3+1)))))else .need U2 (.ret true)):=by kernel_rfl
def Cp (a b:Deck)(i2:Int):AS:=mkS 151 [(2,.ptr 0 0),(3,.ptr 1 0),(8,i64 i2)] [(0,.box (dC a)),(1,.box (dC b))] 2
def Cq (a b:Deck)(i1:Int):AS:=mkS 151 [(2,.ptr 0 0),(3,.ptr 1 0),(5,i64 i1)] [(0,.box (dC a)),(1,.box (dC b))] 2
theorem t90x (a b:Deck):@Eq _ (xS prog codes sigs f90 [.bool] 300 [⟨.deck,a⟩,⟨.deck,b⟩]) (.need (U2/\U2/\True) (.callP 156 [⟨.sl .flt,a.borders⟩,⟨.sl .flt,b.borders⟩] [.bool] fun(x:Bool)=>bif !x then .need U2 (.ret false)else bif (a.plates.length:Int) != (b.plates.length:Int)then .need U2 (.ret false)else bif (a.racks.length:Int) != (b.racks.length:Int)then .need U2 (.ret false)else bif a.arms != b.arms then .need U2 (.ret false)else .stop (hd f90 0) (Cq a b (0:Int)))):=by kernel_rfl
theorem Lb (a b:Deck)(i1:Int):@Eq _ (xL prog codes sigs f90 [.bool] 300 0 (Cq a b i1)) (bif decide (i1<(a.plates.length:Int))then .need (((0:Int)<=i1/\i1<(a.plates.length:Int))/\True) (.need (((0:Int)<=i1/\i1<(b.plates.length:Int))/\True) (bif (a.plates.getD i1.toNat (Ty.dflt .plate)).rows != (b.plates.getD i1.toNat (Ty.dflt .plate)).rows then .need U2 (.ret false)else bif (a.plates.getD i1.toNat (Ty.dflt .plate)).cols != (b.plates.getD i1.toNat (Ty.dflt .plate)).cols then .need U2 (.ret false)else bif (a.plates.getD i1.toNat (Ty.dflt .plate)).cap != (b.plates.getD i1.toNat (Ty.dflt .plate)).cap then .need U2 (.ret false)else .need (U2/\U2/\True) (.callP 20 [Sigma.mk (.sl .int) (a.plates.getD i1.toNat (Ty.dflt .plate)).start,Sigma.mk (.sl .int) (b.plates.getD i1.toNat (Ty.dflt .plate)).start] [.bool] fun(x:Bool)=>bif !x then .need U2 (.ret false)else .need (U2/\U2/\U2/\True) (.need (U2/\U2/\U2/\True) (.need (U2/\U2/\True) (.callP 156 [Sigma.mk (.sl .flt) [(a.plates.getD i1.toNat (Ty.dflt .plate)).x,(a.plates.getD i1.toNat (Ty.dflt .plate)).pitch,(a.plates.getD i1.toNat (Ty.dflt .plate)).reach],Sigma.mk (.sl .flt) [(b.plates.getD i1.toNat (Ty.dflt .plate)).x,(b.plates.getD i1.toNat (Ty.dflt .plate)).pitch,(b.plates.getD i1.toNat (Ty.dflt .plate)).reach]] [.bool] fun(x:Bool)=>bif !x then .need U2 (.ret false)else .stop (hd f90 0) (Cq a b (w64 (i1+1)))))))))else .stop (hd f90 1) (Cp a b (0:Int))):=by kernel_rfl
theorem La (a b:Deck)(i2:Int):@Eq _ (xL prog codes sigs f90 [.bool] 300 1 (Cp a b i2)) (bif decide (i2<(a.racks.length:Int))then .need (((0:Int)<=i2/\i2<(a.racks.length:Int))/\True) (.need (((0:Int)<=i2/\i2<(b.racks.length:Int))/\True) (bif (a.racks.getD i2.toNat (Ty.dflt .rack)).rows != (b.racks.getD i2.toNat (Ty.dflt .rack)).rows then .need U2 (.ret false)else bif (a.racks.getD i2.toNat (Ty.dflt .rack)).cols != (b.racks.getD i2.toNat (Ty.dflt .rack)).cols then .need U2 (.ret false)else .need (U2/\U2/\U2/\True) (.need (U2/\U2/\U2/\True) (.need (U2/\U2/\True) (.callP 156 [Sigma.mk (.sl .flt) [(a.racks.getD i2.toNat (Ty.dflt .rack)).x,(a.racks.getD i2.toNat (Ty.dflt .rack)).pitch,(a.racks.getD i2.toNat (Ty.dflt .rack)).reach],Sigma.mk (.sl .flt) [(b.racks.getD i2.toNat (Ty.dflt .rack)).x,(b.racks.getD i2.toNat (Ty.dflt .rack)).pitch,(b.racks.getD i2.toNat (Ty.dflt .rack)).reach]] [.bool] fun(x:Bool)=>bif !x then .need U2 (.ret false)else .stop (hd f90 1) (Cp a b (w64 (i2+1))))))))else .need U2 (.ret true)):=by kernel_rfl
end Go.Proofs.Mn

namespace Go.Proofs.Mn
open Go.Proofs.Tryz
open Go Go.VL
set_option maxRecDepth 20000
open Go.Proofs.Zn
def iu (i:Int)(t:Tip):List Tip->Nat->(Int×Bool)
 | [],ix=>((0:Int),false)
 | z::zs,ix=>bif decide ((ix:Int)<i)then iu i t zs (ix+1)else bif (!((z).state==t.state&&((z).by'==t.by'&&true)))then iu i t zs (ix+1)else bif (!(fJ z))then iu i t zs (ix+1)else((ix:Int),true)
theorem lp (l:List Tip)(i:Int)(t:Tip)(hl:l.length<=1000000)  {r:Int×Bool}{A:Pr}(hA:CL codes sigs f227 [.int,.bool] r A)(ix:Nat)(h:iu i t (List.drop ix l) ix=r):A (hd f227 0) (pW l i t (ix:Int)):=by
 refine hA.go (IG l i t (ix:Int)) (ak (fun h1=>?_) (fun h1=>?_))
 ·have h1:=oT h1
  have hil:ix<l.length:=by omega
  rw[aX hil Ty.tip.dflt,iu]at h
  refine⟨⟨⟨(by omega),(by omega)⟩,tv⟩,?_⟩
  refine ah h (fun g1 h=>?_) (fun g1 h=>?_)
  ·have g1:=oT g1
   rw[aw (by omega)]
   exact lp l i t hl  hA (ix+1) h
  ·have g1:=oF g1
   refine ah h (fun g2 h=>?_) (fun g2 h=>?_)
   ·rw[aw (by omega)]
    exact lp l i t hl  hA (ix+1) h
   ·refine⟨⟨q3,tv⟩,_,MQ _,?_⟩
    refine ah h (fun g3 h=>?_) (fun g3 h=>?_)
    ·rw[aw (by omega)]
     exact lp l i t hl  hA (ix+1) h
    ·exact⟨⟨q2,tv,tv⟩,h⟩
 ·have h1:=oF h1
  rw[dN (by omega),iu]at h
  exact⟨⟨q2,tv,tv⟩,h⟩
termination_by l.length-ix
decreasing_by all_goals omega
def GB (l:List Tip)(i:Int)(t:Tip):Int×Bool:=iu i t l 0
theorem c227 (l:List Tip)(i:Int)(t:Tip)(hl:l.length<=1000000):Pure prog 227 [⟨.sl .tip,l⟩,⟨.int,i⟩,⟨.tip,t⟩] [.int,.bool] (GB l i t):=
 Pure.of_closed (C:=codes) (S:=sigs) mixed func227 (by kernel_rfl) (ac (by kernel_rfl)) fun A hA=>hA.go (NP l i t) (by
  generalize h:GB l i t=r at hA ⊢
  unfold GB at h
  exact lp l i t hl  hA 0 h)
def mw (b:List Fl):List Fl->Nat->Bool
 | [],ix=>true
 | z::zs,ix=>bif (Fl.cmp (z) (b.getD (ix) Ty.flt.dflt)==some Ordering.eq)then mw b zs (ix+1)else bif (Fl.cmp (z) (z) != some Ordering.eq)then bif (!Fl.cmp (b.getD (ix) Ty.flt.dflt) (b.getD (ix) Ty.flt.dflt) != some Ordering.eq)then false else mw b zs (ix+1)else false
theorem ob (a b:List Fl)(hl:a.length<=1000000/\b.length=a.length)  {r:Bool}{A:Pr}(hA:CL codes sigs f156 [.bool] r A)(ix:Nat)(h:mw b (List.drop ix a) ix=r):A (hd f156 0) (tn a b (ix:Int)):=by
 refine hA.go (IL a b (ix:Int)) (ak (fun h1=>?_) (fun h1=>?_))
 ·have h1:=oT h1
  have hil:ix<a.length:=by omega
  rw[aX hil Ty.flt.dflt,mw]at h
  refine⟨⟨⟨(by omega),(by omega)⟩,tv⟩,⟨⟨(by omega),(by omega)⟩,tv⟩,?_⟩
  refine ah h (fun g1 h=>?_) (fun g1 h=>?_)
  ·rw[aw (by omega)]
   exact ob a b hl  hA (ix+1) h
  ·refine⟨⟨⟨(by omega),(by omega)⟩,tv⟩,⟨⟨(by omega),(by omega)⟩,tv⟩,?_⟩
   refine ah h (fun g2 h=>?_) (fun g2 h=>?_)
   ·refine⟨⟨⟨(by omega),(by omega)⟩,tv⟩,⟨⟨(by omega),(by omega)⟩,tv⟩,?_⟩
    refine ah h (fun g3 h=>?_) (fun g3 h=>?_)
    ·exact⟨q2,h⟩
    ·rw[aw (by omega)]
     exact ob a b hl  hA (ix+1) h
   ·exact⟨q2,h⟩
 ·have h1:=oF h1
  rw[dN (by omega),mw]at h
  exact⟨q2,h⟩
termination_by a.length-ix
decreasing_by all_goals omega
def xV (a b:List Fl):Bool:=bif ((a.length:Int) != (b.length:Int))then false else mw b a 0
theorem HQ (a b:List Fl)(hl:a.length<=1000000):Pure prog 156 [⟨.sl .flt,a⟩,⟨.sl .flt,b⟩] [.bool] (xV a b):=
 Pure.of_closed (C:=codes) (S:=sigs) mixed func156 (by kernel_rfl) (ac (by kernel_rfl)) fun A hA=>hA.go (NZ a b) (by
  generalize h:xV a b=r at hA ⊢
  unfold xV at h
  refine ah h (fun g1 h=>?_) (fun g1 h=>?_)
  ·exact⟨q2,h⟩
  ·exact ob a b ⟨hl,by have:=g1;simp at this;omega⟩  hA 0 h)
def qh (i5:Int)(l3:List Cell)(l4:List Log):Nat->Nat->(List Tip)->(Stock×Int)
 | 0,ix,l5=>(Stock.mk l3 l4 l5 i5 (0:Int) (0:Int),(0:Int))
 | n+1,ix,l5=>qh i5 l3 l4 n (ix+1) (l5++[Tip.mk (1:Int) (0:Int)])
theorem uE (i1 i5:Int)(l3:List Cell)(l4:List Log)  (hn:i1<=1000){r:Stock×Int}{A:Pr}(hA:CL codes sigs f87 [.stock,.int] r A)(ix:Nat)(l5:List Tip)(hv:l5.length<=ix)(h:qh i5 l3 l4 (i1.toNat-ix) ix l5=r):A (hd f87 2) (Cu i1 i5 l3 l4 (ix:Int) l5):=by
 refine hA.go (Lg i1 i5 l3 l4 (ix:Int) l5) (ak (fun h1=>?_) (fun h1=>?_))
 ·have h1:=oT h1
  have hil:i1.toNat-ix=(i1.toNat-(ix+1))+1:=by omega
  rw[hil,qh]at h
  refine⟨⟨q3,tv⟩,⟨(by simp only[ag,am];omega),tv⟩,?_⟩
  rw[aw (by omega)]
  exact uE i1 i5 l3 l4 hn hA (ix+1) _ (by simp only[al,ag,am];omega) h
 ·have h1:=oF h1
  rw[show i1.toNat-ix=0 by omega,qh]at h
  exact⟨⟨q7,tv,tv⟩,h⟩
termination_by i1.toNat-ix
decreasing_by all_goals omega
def nz (z0:Plate)(kc0:Int->(List Cell)->(List Log)->(Stock×Int)):Nat->Nat->Int->(List Cell)->(List Log)->(Stock×Int)
 | 0,ix,i3,l1,l2=>kc0 i3 l1 l2
 | n+1,ix,i3,l1,l2=>bif decide ((ix:Int)<(↑(z0).start.length:Int))then nz z0 kc0 n (ix+1) (w64 (i3+(z0).start.getD (ix) Ty.int.dflt)) (l1++[Cell.mk (z0).cap ((z0).start.getD (ix) Ty.int.dflt) (0:Int)]) (l2++[Log.mk (8:Int) (0:Int) []])else nz z0 kc0 n (ix+1) (w64 (i3+(0:Int))) (l1++[Cell.mk (z0).cap (0:Int) (0:Int)]) (l2++[Log.mk (8:Int) (0:Int) []])
theorem pE (d:Deck)(i1 i4:Int)  (hk:PlB d)(hp:i4.toNat<4){r:Stock×Int}{A:Pr}(hA:CL codes sigs f87 [.stock,.int] r A)(kc0:Int->(List Cell)->(List Log)->(Stock×Int))(hkc0:∀ (i5':Int) (l3':List Cell) (l4':List Log),(l3'.length<=1536*(i4.toNat+1)/\l4'.length<=1536*(i4.toNat+1))->kc0 i5' l3' l4'=r->A (hd f87 0) (yI d i1 (w64 (i4+(1:Int))) i5' l3' l4'))(ix:Nat)(i3:Int)(l1:List Cell)(l2:List Log)(hv:l1.length<=1536*i4.toNat+ix/\l2.length<=1536*i4.toNat+ix/\ix<=1536)(h:nz (d.plates.getD i4.toNat Ty.plate.dflt) kc0 ((w64 ((d.plates.getD i4.toNat Ty.plate.dflt).rows*(d.plates.getD i4.toNat Ty.plate.dflt).cols)).toNat-ix) ix i3 l1 l2=r):A (hd f87 1) (yH d i1 i4 (ix:Int) i3 l1 l2):=by
 refine hA.go (Lh d i1 i4 (ix:Int) i3 l1 l2) (ak (fun h1=>?_) (fun h1=>?_))
 ·have h1:=oT h1
  have hil:(w64 ((d.plates.getD i4.toNat Ty.plate.dflt).rows*(d.plates.getD i4.toNat Ty.plate.dflt).cols)).toNat-ix=((w64 ((d.plates.getD i4.toNat Ty.plate.dflt).rows*(d.plates.getD i4.toNat Ty.plate.dflt).cols)).toNat-(ix+1))+1:=by omega
  rw[hil,nz]at h
  refine ah h (fun g1 h=>?_) (fun g1 h=>?_)
  ·have g1:=oT g1
   refine⟨⟨⟨(by omega),(by omega)⟩,tv⟩,⟨q4,tv⟩,⟨(by simp only[ag,am];omega),tv⟩,⟨q4,tv⟩,⟨(by simp only[ag,am];omega),tv⟩,?_⟩
   rw[aw (by omega)]
   exact pE d i1 i4 hk hp hA _ hkc0 (ix+1) _ _ _ (by first|omega|(have:=hk.at i4.toNat;simp only[al,ag,am];omega)) h
  ·have g1:=oF g1
   refine⟨⟨q4,tv⟩,⟨(by simp only[ag,am];omega),tv⟩,⟨q4,tv⟩,⟨(by simp only[ag,am];omega),tv⟩,?_⟩
   rw[aw (by omega)]
   exact pE d i1 i4 hk hp hA _ hkc0 (ix+1) _ _ _ (by first|omega|(have:=hk.at i4.toNat;simp only[al,ag,am];omega)) h
 ·have h1:=oF h1
  rw[show(w64 ((d.plates.getD i4.toNat Ty.plate.dflt).rows*(d.plates.getD i4.toNat Ty.plate.dflt).cols)).toNat-ix=0 by omega,nz]at h
  exact hkc0 _ _ _ (by first|omega|(have:=hk.at i4.toNat;simp only[al,ag,am];omega)) h
termination_by (w64 ((d.plates.getD i4.toNat Ty.plate.dflt).rows*(d.plates.getD i4.toNat Ty.plate.dflt).cols)).toNat-ix
decreasing_by all_goals omega
def qi (i1:Int):List Plate->Nat->Int->(List Cell)->(List Log)->(Stock×Int)
 | [],ix,i5,l3,l4=>qh i5 l3 l4 (i1.toNat-0) 0 []
 | z::zs,ix,i5,l3,l4=>nz z (fun i5' l3' l4'=>qi i1 zs (ix+1) i5' l3' l4') ((w64 ((z).rows*(z).cols)).toNat-0) 0 i5 l3 l4
theorem uF (d:Deck)(i1:Int)  (hk:PlB d)(hp:d.plates.length<=4)(hn:i1<=1000){r:Stock×Int}{A:Pr}(hA:CL codes sigs f87 [.stock,.int] r A)(ix:Nat)(i5:Int)(l3:List Cell)(l4:List Log)(hv:l3.length<=1536*ix/\l4.length<=1536*ix)(h:qi i1 (List.drop ix d.plates) ix i5 l3 l4=r):A (hd f87 0) (yI d i1 (ix:Int) i5 l3 l4):=by
 refine hA.go (Li d i1 (ix:Int) i5 l3 l4) (ak (fun h1=>?_) (fun h1=>?_))
 ·have h1:=oT h1
  have hil:ix<d.plates.length:=by omega
  rw[aX hil Ty.plate.dflt,qi]at h
  refine⟨⟨⟨(by omega),(by omega)⟩,tv⟩,?_⟩
  exact pE d i1 (ix:Int) hk (by omega) hA _ (fun i5' l3' l4' hv h=>by rw[aw (by omega)];exact uF d i1 hk hp hn hA (ix+1) i5' l3' l4' (by first|omega|(have:=hk.at i4.toNat;simp only[al,ag,am];omega)) h) 0 i5 l3 l4 (by omega) h
 ·have h1:=oF h1
  rw[dN (by omega),qi]at h
  refine hA.boxrow 1 2 194 .tip (by kernel_rfl) (s':=Cu i1 i5 l3 l4 (0:Int) []) (by kernel_rfl) ?_
  exact uE i1 i5 l3 l4 hn hA 0 [] (by simp) h
termination_by d.plates.length-ix
decreasing_by all_goals omega
def m87 (d:Deck):Stock×Int:=bif ((Zn.cW d) != (0:Int))then(Stock.mk [] [] [] (0:Int) (0:Int) (0:Int),(Zn.cW d))else qi (Zn.bu d).2.1 d.plates 0 (0:Int) [] []
theorem c87 (d:Deck) :Pure prog 87 [⟨.deck,d⟩] [.stock,.int] (m87 d):=
 Pure.of_closed (C:=codes) (S:=sigs) mixed func87 (by kernel_rfl) (ac (by kernel_rfl)) fun A hA=>hA.go (t87x d) (by
  generalize h:m87 d=r at hA ⊢
  unfold m87 at h
  refine⟨⟨q5,tv⟩,_,Wn.c70 _,?_⟩
  refine ah h (fun g1 h=>?_) (fun g1 h=>?_)
  ·exact⟨⟨q7,tv,tv⟩,h⟩
  ·refine⟨⟨q5,tv⟩,_,Zn.Ki _,?_⟩
   refine hA.boxrow 2 0 76 .cell (by kernel_rfl) rfl ?_
   refine hA.boxrow 2 1 146 .log (by kernel_rfl) (s':=yI d (Zn.bu d).2.1 (0:Int) (0:Int) [] []) (by kernel_rfl) ?_
   exact uF d (Zn.bu d).2.1 (plB (cf g1)) (cf g1).plates (by have:=sT d;omega) hA 0 (0:Int) [] [] (by simp) h)
def xO (d:Deck)(l1:List Cell)(l2:List Log)(l3:List Tip)(i1 i2 i3:Int):Nat->Nat->(List Int)->(Model×Int)
 | 0,ix,l4=>(Model.mk d (Stock.mk l1 l2 l3 i1 i2 i3) l4,(0:Int))
 | n+1,ix,l4=>xO d l1 l2 l3 i1 i2 i3 n (ix+1) (l4++[(0:Int)])
theorem uM (d:Deck)(l1:List Cell)(l2:List Log)(l3:List Tip)(i1 i2 i3:Int)  (hn:(cO d).length<=1000){r:Model×Int}{A:Pr}(hA:CL codes sigs f29 [.model,.int] r A)(ix:Nat)(l4:List Int)(hv:l4.length<=ix)(h:xO d l1 l2 l3 i1 i2 i3 ((↑(Zn.cO d).length:Int).toNat-ix) ix l4=r):A (hd f29 0) (Cy d l1 l2 l3 i1 i2 i3 (ix:Int) l4):=by
 refine hA.go (Lq d l1 l2 l3 i1 i2 i3 (ix:Int) l4) ⟨⟨q5,tv⟩,_,Zn.c90 _,ak (fun h1=>?_) (fun h1=>?_)⟩
 ·have h1:=oT h1
  have hil:(↑(Zn.cO d).length:Int).toNat-ix=((↑(Zn.cO d).length:Int).toNat-(ix+1))+1:=by omega
  rw[hil,xO]at h
  refine⟨⟨q2,tv⟩,⟨(by simp only[ag,am];omega),tv⟩,?_⟩
  rw[aw (by omega)]
  exact uM d l1 l2 l3 i1 i2 i3 hn hA (ix+1) _ (by simp only[al,ag,am];omega) h
 ·have h1:=oF h1
  rw[show(↑(Zn.cO d).length:Int).toNat-ix=0 by omega,xO]at h
  exact⟨⟨q12,tv,tv⟩,h⟩
termination_by (↑(Zn.cO d).length:Int).toNat-ix
decreasing_by all_goals omega
def m29 (d:Deck):Model×Int:=bif ((m87 d).2 != (0:Int))then(Model.mk (Deck.mk [] [] [] (0:Int)) (Stock.mk [] [] [] (0:Int) (0:Int) (0:Int)) [],(m87 d).2)else xO d (m87 d).1.cells (m87 d).1.logs (m87 d).1.tips (m87 d).1.start (m87 d).1.inn (m87 d).1.out ((↑(Zn.cO d).length:Int).toNat-0) 0 []
theorem c29 (d:Deck) :Pure prog 29 [⟨.deck,d⟩] [.model,.int] (m29 d):=
 Pure.of_closed (C:=codes) (S:=sigs) mixed func29 (by kernel_rfl) (ac (by kernel_rfl)) fun A hA=>hA.go (t29x d) (by
  generalize h:m29 d=r at hA ⊢
  unfold m29 at h
  refine⟨⟨q5,tv⟩,_,c87 _,?_⟩
  refine ah h (fun g1 h=>?_) (fun g1 h=>?_)
  ·exact⟨⟨q12,tv,tv⟩,h⟩
  ·refine hA.boxrow 2 10 3 .int (by kernel_rfl) (s':=Cy d (m87 d).1.cells (m87 d).1.logs (m87 d).1.tips (m87 d).1.start (m87 d).1.inn (m87 d).1.out (0:Int) []) (by kernel_rfl) ?_
   exact uM d (m87 d).1.cells (m87 d).1.logs (m87 d).1.tips (m87 d).1.start (m87 d).1.inn (m87 d).1.out (jB d) hA 0 [] (by simp) h)
def qj (i4:Int)(l3:List Cell)(l4:List Log):Nat->Nat->(List Tip)->(Stock×Int)
 | 0,ix,l5=>(Stock.mk l3 l4 l5 i4 (0:Int) (0:Int),(0:Int))
 | n+1,ix,l5=>qj i4 l3 l4 n (ix+1) (l5++[Tip.mk (1:Int) (0:Int)])
theorem uI (i4:Int)(l3:List Cell)(l4:List Log)(i5:Int)  (hn:i5<=1000){r:Stock×Int}{A:Pr}(hA:CL codes sigs f83 [.stock,.int] r A)(ix:Nat)(l5:List Tip)(hv:l5.length<=ix)(h:qj i4 l3 l4 (i5.toNat-ix) ix l5=r):A (hd f83 2) (Cv i4 l3 l4 i5 (ix:Int) l5):=by
 refine hA.go (Ll i4 l3 l4 i5 (ix:Int) l5) (ak (fun h1=>?_) (fun h1=>?_))
 ·have h1:=oT h1
  have hil:i5.toNat-ix=(i5.toNat-(ix+1))+1:=by omega
  rw[hil,qj]at h
  refine⟨⟨q3,tv⟩,⟨(by simp only[ag,am];omega),tv⟩,?_⟩
  rw[aw (by omega)]
  exact uI i4 l3 l4 i5 hn hA (ix+1) _ (by simp only[al,ag,am];omega) h
 ·have h1:=oF h1
  rw[show i5.toNat-ix=0 by omega,qj]at h
  exact⟨⟨q7,tv,tv⟩,h⟩
termination_by i5.toNat-ix
decreasing_by all_goals omega
def nA (z0:Plate)(kc0:Int->(List Cell)->(List Log)->(Stock×Int)):Nat->Nat->Int->(List Cell)->(List Log)->(Stock×Int)
 | 0,ix,i2,l1,l2=>kc0 i2 l1 l2
 | n+1,ix,i2,l1,l2=>bif decide ((ix:Int)<(↑(z0).start.length:Int))then nA z0 kc0 n (ix+1) (w64 (i2+(z0).start.getD (ix) Ty.int.dflt)) (l1++[(qt (z0).cap ((z0).start.getD (ix) Ty.int.dflt)).1]) (l2++[(DU (8:Int)).1])else nA z0 kc0 n (ix+1) (w64 (i2+(0:Int))) (l1++[(qt (z0).cap (0:Int)).1]) (l2++[(DU (8:Int)).1])
theorem pF (d:Deck)(i3:Int)  (hk:PlB d)(hp:i3.toNat<4){r:Stock×Int}{A:Pr}(hA:CL codes sigs f83 [.stock,.int] r A)(kc0:Int->(List Cell)->(List Log)->(Stock×Int))(hkc0:∀ (i4':Int) (l3':List Cell) (l4':List Log),(l3'.length<=1536*(i3.toNat+1)/\l4'.length<=1536*(i3.toNat+1))->kc0 i4' l3' l4'=r->A (hd f83 0) (yN d (w64 (i3+(1:Int))) i4' l3' l4'))(ix:Nat)(i2:Int)(l1:List Cell)(l2:List Log)(hv:l1.length<=1536*i3.toNat+ix/\l2.length<=1536*i3.toNat+ix/\ix<=1536)(h:nA (d.plates.getD i3.toNat Ty.plate.dflt) kc0 ((w64 ((d.plates.getD i3.toNat Ty.plate.dflt).rows*(d.plates.getD i3.toNat Ty.plate.dflt).cols)).toNat-ix) ix i2 l1 l2=r):A (hd f83 1) (yM d i3 (ix:Int) i2 l1 l2):=by
 refine hA.go (Lm d i3 (ix:Int) i2 l1 l2) (ak (fun h1=>?_) (fun h1=>?_))
 ·have h1:=oT h1
  have hil:(w64 ((d.plates.getD i3.toNat Ty.plate.dflt).rows*(d.plates.getD i3.toNat Ty.plate.dflt).cols)).toNat-ix=((w64 ((d.plates.getD i3.toNat Ty.plate.dflt).rows*(d.plates.getD i3.toNat Ty.plate.dflt).cols)).toNat-(ix+1))+1:=by omega
  rw[hil,nA]at h
  refine ah h (fun g1 h=>?_) (fun g1 h=>?_)
  ·have g1:=oT g1
   refine⟨⟨⟨(by omega),(by omega)⟩,tv⟩,⟨q2,q2,tv⟩,_,PA _ _,⟨q2,tv⟩,_,Pz _,⟨q4,tv⟩,⟨(by simp only[ag,am];omega),tv⟩,⟨q4,tv⟩,⟨(by simp only[ag,am];omega),tv⟩,?_⟩
   rw[aw (by omega)]
   exact pF d i3 hk hp hA _ hkc0 (ix+1) _ _ _ (by first|omega|(have:=hk.at i3.toNat;simp only[al,ag,am];omega)) h
  ·have g1:=oF g1
   refine⟨⟨q2,q2,tv⟩,_,PA _ _,⟨q2,tv⟩,_,Pz _,⟨q4,tv⟩,⟨(by simp only[ag,am];omega),tv⟩,⟨q4,tv⟩,⟨(by simp only[ag,am];omega),tv⟩,?_⟩
   rw[aw (by omega)]
   exact pF d i3 hk hp hA _ hkc0 (ix+1) _ _ _ (by first|omega|(have:=hk.at i3.toNat;simp only[al,ag,am];omega)) h
 ·have h1:=oF h1
  rw[show(w64 ((d.plates.getD i3.toNat Ty.plate.dflt).rows*(d.plates.getD i3.toNat Ty.plate.dflt).cols)).toNat-ix=0 by omega,nA]at h
  exact hkc0 _ _ _ (by first|omega|(have:=hk.at i3.toNat;simp only[al,ag,am];omega)) h
termination_by (w64 ((d.plates.getD i3.toNat Ty.plate.dflt).rows*(d.plates.getD i3.toNat Ty.plate.dflt).cols)).toNat-ix
decreasing_by all_goals omega
def qk (d:Deck):List Plate->Nat->Int->(List Cell)->(List Log)->(Stock×Int)
 | [],ix,i4,l3,l4=>qj i4 l3 l4 ((Zn.bu d).2.1.toNat-0) 0 []
 | z::zs,ix,i4,l3,l4=>nA z (fun i4' l3' l4'=>qk d zs (ix+1) i4' l3' l4') ((w64 ((z).rows*(z).cols)).toNat-0) 0 i4 l3 l4
theorem uJ (d:Deck)  (hk:PlB d)(hp:d.plates.length<=4){r:Stock×Int}{A:Pr}(hA:CL codes sigs f83 [.stock,.int] r A)(ix:Nat)(i4:Int)(l3:List Cell)(l4:List Log)(hv:l3.length<=1536*ix/\l4.length<=1536*ix)(h:qk d (List.drop ix d.plates) ix i4 l3 l4=r):A (hd f83 0) (yN d (ix:Int) i4 l3 l4):=by
 refine hA.go (Ln d (ix:Int) i4 l3 l4) (ak (fun h1=>?_) (fun h1=>?_))
 ·have h1:=oT h1
  have hil:ix<d.plates.length:=by omega
  rw[aX hil Ty.plate.dflt,qk]at h
  refine⟨⟨⟨(by omega),(by omega)⟩,tv⟩,?_⟩
  exact pF d (ix:Int) hk (by omega) hA _ (fun i4' l3' l4' hv h=>by rw[aw (by omega)];exact uJ d hk hp hA (ix+1) i4' l3' l4' (by first|omega|(have:=hk.at i3.toNat;simp only[al,ag,am];omega)) h) 0 i4 l3 l4 (by omega) h
 ·have h1:=oF h1
  rw[dN (by omega),qk]at h
  refine⟨⟨q5,tv⟩,_,Zn.Et _,?_⟩
  refine hA.boxrow 1 2 194 .tip (by kernel_rfl) (s':=Cv i4 l3 l4 (Zn.bu d).2.1 (0:Int) []) (by kernel_rfl) ?_
  exact uI i4 l3 l4 (Zn.bu d).2.1 (by have:=sT d;omega) hA 0 [] (by simp) h
termination_by d.plates.length-ix
decreasing_by all_goals omega
def m83 (d:Deck):Stock×Int:=bif ((Zn.cW d) != (0:Int))then(Stock.mk [] [] [] (0:Int) (0:Int) (0:Int),(Zn.cW d))else qk d d.plates 0 (0:Int) [] []
theorem c83 (d:Deck) :Pure prog 83 [⟨.deck,d⟩] [.stock,.int] (m83 d):=
 Pure.of_closed (C:=codes) (S:=sigs) mixed func83 (by kernel_rfl) (ac (by kernel_rfl)) fun A hA=>hA.go (t83x d) (by
  generalize h:m83 d=r at hA ⊢
  unfold m83 at h
  refine⟨⟨q5,tv⟩,_,Zn.c47 _,?_⟩
  refine ah h (fun g1 h=>?_) (fun g1 h=>?_)
  ·exact⟨⟨q7,tv,tv⟩,h⟩
  ·refine hA.boxrow 2 0 76 .cell (by kernel_rfl) rfl ?_
   refine hA.boxrow 2 1 146 .log (by kernel_rfl) (s':=yN d (0:Int) (0:Int) [] []) (by kernel_rfl) ?_
   exact uJ d (plB (cf g1)) (cf g1).plates hA 0 (0:Int) [] [] (by simp) h)
def kK (s:Stock)(z0:Plate)(kc0:Int->Int->(Int×Bool)):Nat->Nat->Int->Int->(Int×Bool)
 | 0,ix,i1,i2=>kc0 i1 i2
 | n+1,ix,i1,i2=>bif (!(dc (s.cells.getD i2.toNat Ty.cell.dflt)))then((0:Int),false)else bif ((s.cells.getD i2.toNat Ty.cell.dflt).cap != (z0).cap)then((0:Int),false)else bif (!(fX (s.logs.getD i2.toNat Ty.log.dflt)))then((0:Int),false)else bif ((s.logs.getD i2.toNat Ty.log.dflt).room != (8:Int))then((0:Int),false)else bif ((s.logs.getD i2.toNat Ty.log.dflt).last != (s.cells.getD i2.toNat Ty.cell.dflt).ver)then((0:Int),false)else bif decide ((ix:Int)<(↑(z0).start.length:Int))then kK s z0 kc0 n (ix+1) (w64 (i1+(z0).start.getD (ix) Ty.int.dflt)) (w64 (i2+(1:Int)))else kK s z0 kc0 n (ix+1) i1 (w64 (i2+(1:Int)))
theorem oa (d:Deck)(s:Stock)(i5:Int)(hk:DeckOk d)(hl:(s.cells.length:Int)=bp (aL d)/\s.logs.length=s.cells.length)  {r:Int×Bool}{A:Pr}(hA:CL codes sigs f158 [.int,.bool] r A)(kc0:Int->Int->(Int×Bool))(hkc0:∀ (i3' i4':Int),(0<=i4'/\i4'+bp ((aL d).drop (i5.toNat+1))=s.cells.length)->kc0 i3' i4'=r->A (hd f158 0) (tl d s i3' i4' (w64 (i5+(1:Int)))))(ix:Nat)(i1 i2:Int)(hv:0<=i2/\(ix:Int)<=plN d i5.toNat/\i2+(plN d i5.toNat-ix)+bp ((aL d).drop (i5.toNat+1))=s.cells.length)(h:kK s (d.plates.getD i5.toNat Ty.plate.dflt) kc0 ((w64 ((d.plates.getD i5.toNat Ty.plate.dflt).rows*(d.plates.getD i5.toNat Ty.plate.dflt).cols)).toNat-ix) ix i1 i2=r):A (hd f158 1) (tj d s i5 i1 i2 (ix:Int)):=by
 refine hA.go (IJ d s i5 i1 i2 (ix:Int)) (ak (fun h1=>?_) (fun h1=>?_))
 ·have h1:=oT h1
  have hil:(w64 ((d.plates.getD i5.toNat Ty.plate.dflt).rows*(d.plates.getD i5.toNat Ty.plate.dflt).cols)).toNat-ix=((w64 ((d.plates.getD i5.toNat Ty.plate.dflt).rows*(d.plates.getD i5.toNat Ty.plate.dflt).cols)).toNat-(ix+1))+1:=by omega
  rw[hil,kK]at h
  have hb:=(plB hk).at i5.toNat
  have hn:=yp hk (i5.toNat+1)
  have hp:=hk.wells
  refine⟨⟨⟨(by omega),(by omega)⟩,tv⟩,⟨⟨(by omega),(by omega)⟩,tv⟩,⟨q4,tv⟩,_,HN _,?_⟩
  refine ah h (fun g1 h=>?_) (fun g1 h=>?_)
  ·exact⟨⟨q2,tv,tv⟩,h⟩
  ·refine ah h (fun g2 h=>?_) (fun g2 h=>?_)
   ·exact⟨⟨q2,tv,tv⟩,h⟩
   ·refine⟨⟨q4,tv⟩,_,Kf _,?_⟩
    refine ah h (fun g3 h=>?_) (fun g3 h=>?_)
    ·exact⟨⟨q2,tv,tv⟩,h⟩
    ·refine ah h (fun g4 h=>?_) (fun g4 h=>?_)
     ·exact⟨⟨q2,tv,tv⟩,h⟩
     ·refine ah h (fun g5 h=>?_) (fun g5 h=>?_)
      ·exact⟨⟨q2,tv,tv⟩,h⟩
      ·refine ah h (fun g6 h=>?_) (fun g6 h=>?_)
       ·have g6:=oT g6
        refine⟨⟨⟨(by omega),(by omega)⟩,tv⟩,?_⟩
        rw[aw (by omega)]
        exact oa d s i5 hk hl  hA _ hkc0 (ix+1) _ _ (by rw[ax (by omega) (by omega)];omega) h
       ·have g6:=oF g6
        rw[aw (by omega)]
        exact oa d s i5 hk hl  hA _ hkc0 (ix+1) _ _ (by rw[ax (by omega) (by omega)];omega) h
 ·have h1:=oF h1
  rw[show(w64 ((d.plates.getD i5.toNat Ty.plate.dflt).rows*(d.plates.getD i5.toNat Ty.plate.dflt).cols)).toNat-ix=0 by omega,kK]at h
  have hb:=(plB hk).at i5.toNat
  exact hkc0 _ _ (by first|omega|(rw[aq]at hv;omega)) h
termination_by (w64 ((d.plates.getD i5.toNat Ty.plate.dflt).rows*(d.plates.getD i5.toNat Ty.plate.dflt).cols)).toNat-ix
decreasing_by all_goals omega
def mu (s:Stock):List Plate->Nat->Int->Int->(Int×Bool)
 | [],ix,i3,i4=>(i3,true)
 | z::zs,ix,i3,i4=>kK s z (fun i3' i4'=>mu s zs (ix+1) i3' i4') ((w64 ((z).rows*(z).cols)).toNat-0) 0 i3 i4
theorem sv (d:Deck)(s:Stock)(hk:DeckOk d)(hl:(s.cells.length:Int)=bp (aL d)/\s.logs.length=s.cells.length)  {r:Int×Bool}{A:Pr}(hA:CL codes sigs f158 [.int,.bool] r A)(ix:Nat)(i3 i4:Int)(hv:0<=i4/\i4+bp ((aL d).drop ix)=s.cells.length)(h:mu s (List.drop ix d.plates) ix i3 i4=r):A (hd f158 0) (tl d s i3 i4 (ix:Int)):=by
 refine hA.go (IK d s i3 i4 (ix:Int)) (ak (fun h1=>?_) (fun h1=>?_))
 ·have h1:=oT h1
  have hil:ix<d.plates.length:=by omega
  rw[aX hil Ty.plate.dflt,mu]at h
  have hpl:=hk.plates
  refine⟨⟨⟨(by omega),(by omega)⟩,tv⟩,?_⟩
  exact oa d s (ix:Int) hk hl  hA _ (fun i3' i4' hv h=>by rw[aw (by omega)];exact sv d s hk hl  hA (ix+1) i3' i4' (by first|omega|(rw[aq]at hv;omega)) h) 0 i3 i4 (by have:=Hs hil;have:=FS hk ix;have e:(ix:Int).toNat=ix:=rfl;rw[e];omega) h
 ·have h1:=oF h1
  rw[dN (by omega),mu]at h
  exact⟨⟨q2,tv,tv⟩,h⟩
termination_by d.plates.length-ix
decreasing_by all_goals omega
def zK (d:Deck)(s:Stock):Int×Bool:=mu s d.plates 0 (0:Int) (0:Int)
theorem Kh (d:Deck)(s:Stock)(hk:DeckOk d)(hl:(s.cells.length:Int)=bp (aL d)/\s.logs.length=s.cells.length):Pure prog 158 [⟨.deck,d⟩,⟨.stock,s⟩] [.int,.bool] (zK d s):=
 Pure.of_closed (C:=codes) (S:=sigs) mixed func158 (by kernel_rfl) (ac (by kernel_rfl)) fun A hA=>hA.go (NY d s) (by
  generalize h:zK d s=r at hA ⊢
  unfold zK at h
  exact sv d s hk hl  hA 0 (0:Int) (0:Int) (by exact⟨by decide,by simpa using hl.1.symm⟩) h)
def sj (b:Stock):List Tip->Nat->Bool
 | [],ix=>true
 | z::zs,ix=>bif (!((z).state==(b.tips.getD (ix) Ty.tip.dflt).state&&((z).by'==(b.tips.getD (ix) Ty.tip.dflt).by'&&true)))then false else sj b zs (ix+1)
theorem uB (a b:Stock)(hl:(a.cells.length<=1000/\a.logs.length<=1000/\a.tips.length<=1000)/\b.cells.length=a.cells.length/\b.logs.length=a.logs.length/\b.tips.length=a.tips.length/\∀ x∈a.logs,x.list.length<=1000000)  {r:Bool}{A:Pr}(hA:CL codes sigs f89 [.bool] r A)(ix:Nat)(h:sj b (List.drop ix a.tips) ix=r):A (hd f89 2) (Cr a b (ix:Int)):=by
 refine hA.go (Lc a b (ix:Int)) (ak (fun h1=>?_) (fun h1=>?_))
 ·have h1:=oT h1
  have hil:ix<a.tips.length:=by omega
  rw[aX hil Ty.tip.dflt,sj]at h
  refine⟨⟨⟨(by omega),(by omega)⟩,tv⟩,⟨⟨(by omega),(by omega)⟩,tv⟩,?_⟩
  refine ah h (fun g1 h=>?_) (fun g1 h=>?_)
  ·exact⟨q2,h⟩
  ·rw[aw (by omega)]
   exact uB a b hl  hA (ix+1) h
 ·have h1:=oF h1
  rw[dN (by omega),sj]at h
  exact⟨q2,h⟩
termination_by a.tips.length-ix
decreasing_by all_goals omega
def sk (a b:Stock):List Log->Nat->Bool
 | [],ix=>sj b a.tips 0
 | z::zs,ix=>bif (!(Hl z (b.logs.getD (ix) Ty.log.dflt)))then false else sk a b zs (ix+1)
theorem uC (a b:Stock)(hl:(a.cells.length<=1000/\a.logs.length<=1000/\a.tips.length<=1000)/\b.cells.length=a.cells.length/\b.logs.length=a.logs.length/\b.tips.length=a.tips.length/\∀ x∈a.logs,x.list.length<=1000000)  {r:Bool}{A:Pr}(hA:CL codes sigs f89 [.bool] r A)(ix:Nat)(h:sk a b (List.drop ix a.logs) ix=r):A (hd f89 1) (Cs a b (ix:Int)):=by
 refine hA.go (Ld a b (ix:Int)) (ak (fun h1=>?_) (fun h1=>?_))
 ·have h1:=oT h1
  have hil:ix<a.logs.length:=by omega
  rw[aX hil Ty.log.dflt,sk]at h
  refine⟨⟨⟨(by omega),(by omega)⟩,tv⟩,⟨⟨(by omega),(by omega)⟩,tv⟩,⟨q4,q4,tv⟩,_,Pu (hl.2.2.2.2 _ (kX hil)),?_⟩
  refine ah h (fun g1 h=>?_) (fun g1 h=>?_)
  ·exact⟨q2,h⟩
  ·rw[aw (by omega)]
   exact uC a b hl  hA (ix+1) h
 ·have h1:=oF h1
  rw[dN (by omega),sk]at h
  exact uB a b hl  hA 0 h
termination_by a.logs.length-ix
decreasing_by all_goals omega
def sm (a b:Stock):List Cell->Nat->Bool
 | [],ix=>sk a b a.logs 0
 | z::zs,ix=>bif (!((z).cap==(b.cells.getD (ix) Ty.cell.dflt).cap&&((z).vol==(b.cells.getD (ix) Ty.cell.dflt).vol&&((z).ver==(b.cells.getD (ix) Ty.cell.dflt).ver&&true))))then false else sm a b zs (ix+1)
theorem uD (a b:Stock)(hl:(a.cells.length<=1000/\a.logs.length<=1000/\a.tips.length<=1000)/\b.cells.length=a.cells.length/\b.logs.length=a.logs.length/\b.tips.length=a.tips.length/\∀ x∈a.logs,x.list.length<=1000000)  {r:Bool}{A:Pr}(hA:CL codes sigs f89 [.bool] r A)(ix:Nat)(h:sm a b (List.drop ix a.cells) ix=r):A (hd f89 0) (Ct a b (ix:Int)):=by
 refine hA.go (Lf a b (ix:Int)) (ak (fun h1=>?_) (fun h1=>?_))
 ·have h1:=oT h1
  have hil:ix<a.cells.length:=by omega
  rw[aX hil Ty.cell.dflt,sm]at h
  refine⟨⟨⟨(by omega),(by omega)⟩,tv⟩,⟨⟨(by omega),(by omega)⟩,tv⟩,?_⟩
  refine ah h (fun g1 h=>?_) (fun g1 h=>?_)
  ·exact⟨q2,h⟩
  ·rw[aw (by omega)]
   exact uD a b hl  hA (ix+1) h
 ·have h1:=oF h1
  rw[dN (by omega),sm]at h
  exact uC a b hl  hA 0 h
termination_by a.cells.length-ix
decreasing_by all_goals omega
def m89 (a b:Stock):Bool:=bif ((a.cells.length:Int) != (b.cells.length:Int))then false else bif ((a.logs.length:Int) != (b.logs.length:Int))then false else bif ((a.tips.length:Int) != (b.tips.length:Int))then false else bif (a.start != b.start)then false else bif (a.inn != b.inn)then false else bif (a.out != b.out)then false else sm a b a.cells 0
theorem c89 (a b:Stock)(hl:a.cells.length<=1000/\a.logs.length<=1000/\a.tips.length<=1000)(hg:∀ x∈a.logs,x.list.length<=1000000):Pure prog 89 [⟨.stock,a⟩,⟨.stock,b⟩] [.bool] (m89 a b):=
 Pure.of_closed (C:=codes) (S:=sigs) mixed func89 (by kernel_rfl) (ac (by kernel_rfl)) fun A hA=>hA.go (t89x a b) (by
  generalize h:m89 a b=r at hA ⊢
  unfold m89 at h
  refine ah h (fun g1 h=>?_) (fun g1 h=>?_)
  ·exact⟨q2,h⟩
  ·refine ah h (fun g2 h=>?_) (fun g2 h=>?_)
   ·exact⟨q2,h⟩
   ·refine ah h (fun g3 h=>?_) (fun g3 h=>?_)
    ·exact⟨q2,h⟩
    ·refine ah h (fun g4 h=>?_) (fun g4 h=>?_)
     ·exact⟨q2,h⟩
     ·refine ah h (fun g5 h=>?_) (fun g5 h=>?_)
      ·exact⟨q2,h⟩
      ·refine ah h (fun g6 h=>?_) (fun g6 h=>?_)
       ·exact⟨q2,h⟩
       ·exact uD a b ⟨hl,by simp at g1;omega,by simp at g2;omega,by simp at g3;omega,hg⟩  hA 0 h)
def sh (b:Deck):List Rack->Nat->Bool
 | [],ix=>true
 | z::zs,ix=>bif ((z).rows != (b.racks.getD (ix) Ty.rack.dflt).rows)then false else bif ((z).cols != (b.racks.getD (ix) Ty.rack.dflt).cols)then false else bif (!(xV [(z).x,(z).pitch,(z).reach] [(b.racks.getD (ix) Ty.rack.dflt).x,(b.racks.getD (ix) Ty.rack.dflt).pitch,(b.racks.getD (ix) Ty.rack.dflt).reach]))then false else sh b zs (ix+1)
theorem uz (a b:Deck)(hl:(a.borders.length<=1000/\a.plates.length<=1000/\a.racks.length<=1000/\∀ p∈a.plates,p.start.length<=1000000)/\b.plates.length=a.plates.length/\b.racks.length=a.racks.length)  {r:Bool}{A:Pr}(hA:CL codes sigs f90 [.bool] r A)(ix:Nat)(h:sh b (List.drop ix a.racks) ix=r):A (hd f90 1) (Cp a b (ix:Int)):=by
 refine hA.go (La a b (ix:Int)) (ak (fun h1=>?_) (fun h1=>?_))
 ·have h1:=oT h1
  have hil:ix<a.racks.length:=by omega
  rw[aX hil Ty.rack.dflt,sh]at h
  refine⟨⟨⟨(by omega),(by omega)⟩,tv⟩,⟨⟨(by omega),(by omega)⟩,tv⟩,?_⟩
  refine ah h (fun g1 h=>?_) (fun g1 h=>?_)
  ·exact⟨q2,h⟩
  ·refine ah h (fun g2 h=>?_) (fun g2 h=>?_)
   ·exact⟨q2,h⟩
   ·refine⟨⟨q2,q2,q2,tv⟩,⟨q2,q2,q2,tv⟩,⟨q2,q2,tv⟩,_,HQ _ _ (by first|omega|(simp only[ag,am];omega)),?_⟩
    refine ah h (fun g3 h=>?_) (fun g3 h=>?_)
    ·exact⟨q2,h⟩
    ·rw[aw (by omega)]
     exact uz a b hl  hA (ix+1) h
 ·have h1:=oF h1
  rw[dN (by omega),sh]at h
  exact⟨q2,h⟩
termination_by a.racks.length-ix
decreasing_by all_goals omega
def si (a b:Deck):List Plate->Nat->Bool
 | [],ix=>sh b a.racks 0
 | z::zs,ix=>bif ((z).rows != (b.plates.getD (ix) Ty.plate.dflt).rows)then false else bif ((z).cols != (b.plates.getD (ix) Ty.plate.dflt).cols)then false else bif ((z).cap != (b.plates.getD (ix) Ty.plate.dflt).cap)then false else bif (!(eqL (z).start (b.plates.getD (ix) Ty.plate.dflt).start))then false else bif (!(xV [(z).x,(z).pitch,(z).reach] [(b.plates.getD (ix) Ty.plate.dflt).x,(b.plates.getD (ix) Ty.plate.dflt).pitch,(b.plates.getD (ix) Ty.plate.dflt).reach]))then false else si a b zs (ix+1)
theorem uA (a b:Deck)(hl:(a.borders.length<=1000/\a.plates.length<=1000/\a.racks.length<=1000/\∀ p∈a.plates,p.start.length<=1000000)/\b.plates.length=a.plates.length/\b.racks.length=a.racks.length)  {r:Bool}{A:Pr}(hA:CL codes sigs f90 [.bool] r A)(ix:Nat)(h:si a b (List.drop ix a.plates) ix=r):A (hd f90 0) (Cq a b (ix:Int)):=by
 refine hA.go (Lb a b (ix:Int)) (ak (fun h1=>?_) (fun h1=>?_))
 ·have h1:=oT h1
  have hil:ix<a.plates.length:=by omega
  rw[aX hil Ty.plate.dflt,si]at h
  refine⟨⟨⟨(by omega),(by omega)⟩,tv⟩,⟨⟨(by omega),(by omega)⟩,tv⟩,?_⟩
  refine ah h (fun g1 h=>?_) (fun g1 h=>?_)
  ·exact⟨q2,h⟩
  ·refine ah h (fun g2 h=>?_) (fun g2 h=>?_)
   ·exact⟨q2,h⟩
   ·refine ah h (fun g3 h=>?_) (fun g3 h=>?_)
    ·exact⟨q2,h⟩
    ·refine⟨⟨q2,q2,tv⟩,_,Zn.c50 (hl.1.2.2.2 _ (kX hil)),?_⟩
     refine ah h (fun g4 h=>?_) (fun g4 h=>?_)
     ·exact⟨q2,h⟩
     ·refine⟨⟨q2,q2,q2,tv⟩,⟨q2,q2,q2,tv⟩,⟨q2,q2,tv⟩,_,HQ _ _ (by first|omega|(simp only[ag,am];omega)),?_⟩
      refine ah h (fun g5 h=>?_) (fun g5 h=>?_)
      ·exact⟨q2,h⟩
      ·rw[aw (by omega)]
       exact uA a b hl  hA (ix+1) h
 ·have h1:=oF h1
  rw[dN (by omega),si]at h
  exact uz a b hl  hA 0 h
termination_by a.plates.length-ix
decreasing_by all_goals omega
def m90 (a b:Deck):Bool:=bif (!(xV a.borders b.borders))then false else bif ((a.plates.length:Int) != (b.plates.length:Int))then false else bif ((a.racks.length:Int) != (b.racks.length:Int))then false else bif (a.arms != b.arms)then false else si a b a.plates 0
theorem c90 (a b:Deck)(hl:a.borders.length<=1000/\a.plates.length<=1000/\a.racks.length<=1000/\∀ p∈a.plates,p.start.length<=1000000):Pure prog 90 [⟨.deck,a⟩,⟨.deck,b⟩] [.bool] (m90 a b):=
 Pure.of_closed (C:=codes) (S:=sigs) mixed func90 (by kernel_rfl) (ac (by kernel_rfl)) fun A hA=>hA.go (t90x a b) (by
  generalize h:m90 a b=r at hA ⊢
  unfold m90 at h
  refine⟨⟨q2,q2,tv⟩,_,HQ _ _ (by first|omega|(simp only[ag,am];omega)),?_⟩
  refine ah h (fun g1 h=>?_) (fun g1 h=>?_)
  ·exact⟨q2,h⟩
  ·refine ah h (fun g2 h=>?_) (fun g2 h=>?_)
   ·exact⟨q2,h⟩
   ·refine ah h (fun g3 h=>?_) (fun g3 h=>?_)
    ·exact⟨q2,h⟩
    ·refine ah h (fun g4 h=>?_) (fun g4 h=>?_)
     ·exact⟨q2,h⟩
     ·exact uA a b ⟨hl,by simp at g2;omega,by simp at g3;omega⟩  hA 0 h)
end Go.Proofs.Mn
