/- span.Join: what it comes to (given what slices.SortFunc comes to). (Own work.) -/
import Derived.Test.YteaiflgcgpaclaaGreatDoorWE
import Derived.Test.YteaiflgcgpaclaaGreatDoorWG
import Derived.Shelf.SlSortCmp.WholeK
import Derived.Shelf.SlSortCmp.NoneTotal
import Derived.Ground.SlsfProg
import Derived.Ground.NamesProg
import Derived.Test.YteaiflgcgpaclaaGreatDoorChecked
import Derived.WalkKit
import Derived.Test.YteaiflgcgpaclaaGreatDoorWD
import Derived.Test.YteaiflgcgpaclaaGreatDoorWF
import Derived.Laws.Externs
import GoSem.Extern.MathBitsCarry
set_option linter.unusedVariables false
set_option linter.unusedSimpArgs false
namespace Go.Proofs.Sp
open Go.Proofs.Tryz
open Go Go.VL
def follows (a b:Span):Bool:=bif decide (b.lo≤a.hi) then true else (w64 (b.lo - 1)==a.hi)
def goJ:List Span→List Span→List Span
 | [],out=>out
 | y::ys,out=>bif decide (0 < out.length) && follows (out.getD (out.length - 1) Ty.span.dflt) y then goJ ys (out.set (out.length - 1) (kj (out.getD (out.length - 1) Ty.span.dflt) y)) else goJ ys (out++[y])
theorem wX {ys:List Span} {n:Nat} (hn:n≤ys.length) (hl:Sm ys.length) {r:List Span} {A:Pr} (hA:CL codes sigs f257 [.sl .span] r A) :
  ∀ (k i:Nat) (out:List Span),i+k=n→out.length≤i→goJ ((ys.take n).drop i) out=r→A (hd f257 0) (L31 ys n out i)
 | 0, i, out, hi, ho, hr => by
   refine hA.go (Ke ys n out i) (ah (fun h=>?_) (fun h=>?_))
   ·simp only [bP] at h;omega
   ·refine ⟨⟨trivial,trivial⟩,?_⟩
    rw [dN (by rw [aE];omega)] at hr
    exact hr
 | k + 1, i, out, hi, ho, hr => by
   have hlt:i < n:=by omega
   have hiy:i < (ys.take n).length:=by rw [aE];omega
   rw [dG hiy] at hr
   have hy:ys.getD (0+(i:Int).toNat) Ty.span.dflt=(ys.take n)[i]:=by
    rw [aq,ct,jv]
    simp [List.getD,show i < ys.length by omega]
   have hw:w64 ((i:Int)+1)=((i+1:Nat):Int):=by
    unfold Sm at hl
    rw [mh (by omega) (by omega)];rfl
   unfold Sm at hl
   have fresh:(decide (0 < out.length) && follows (out.getD (out.length - 1) Ty.span.dflt) (ys.take n)[i])=false→A (hd f257 0) (L31 ys n (out++[ys.getD (0+(i:Int).toNat) Ty.span.dflt]) (i+1:Nat)):=by
    intro hf
    have hr:(bif decide (0 < out.length) && follows (out.getD (out.length - 1) Ty.span.dflt) (ys.take n)[i] then _ else goJ ((ys.take n).drop (i+1)) (out++[(ys.take n)[i]]))=r:=hr
    rw [hf] at hr
    rw [hy]
    exact wX hn hl hA k (i+1) _ (by omega) (by simp;omega) hr
   refine hA.go (Ke ys n out i) (ah (fun h=>?_) (fun h=>?_))
   ·refine ⟨⟨by omega,by omega⟩,by simp only [aq];omega,ah (fun h2=>?_) (fun h2=>?_)⟩
    ·simp only [bP] at h2
     have hpos:0 < out.length:=by omega
     have hwl:w64 ((out.length:Int) - 1)=((out.length - 1:Nat):Int):=by
      rw [mh (by omega) (by omega)];omega
     have hlast:out.getD ((w64 ((out.length:Int) - 1)).toNat) Ty.span.dflt=out.getD (out.length - 1) Ty.span.dflt:=by rw [hwl,aq]
     have hn1:(0:Int)≤w64 ((out.length:Int) - 1)∧w64 ((out.length:Int) - 1) < (out.length:Int):=by rw [hwl];omega
     have hn2:(w64 ((out.length:Int) - 1)).toNat < out.length:=by rw [hwl,aq];omega
     refine ⟨hn1,hn2,⟨T3,T3,trivial⟩,_,c82 _ _,ah (fun h3=>?_) (fun h3=>?_)⟩
     ·have h3:follows (out.getD ((w64 ((out.length:Int) - 1)).toNat) Ty.span.dflt) (ys.getD (0+(i:Int).toNat) Ty.span.dflt)=true:=h3
      rw [hlast,hy] at h3
      refine ⟨hn1,hn2,⟨T3,T3,trivial⟩,_,c21 _ _,hn1,⟨hn2,T3⟩,?_⟩
      have hr:(bif decide (0 < out.length) && follows (out.getD (out.length - 1) Ty.span.dflt) (ys.take n)[i] then goJ ((ys.take n).drop (i+1)) (out.set (out.length - 1) (kj (out.getD (out.length - 1) Ty.span.dflt) (ys.take n)[i])) else _)=r:=hr
      rw [h3,dT hpos] at hr
      rw [hw]
      have hset:List.set out ((w64 ((out.length:Int) - 1)).toNat) (kj (out.getD ((w64 ((out.length:Int) - 1)).toNat) Ty.span.dflt) (ys.getD (0+(i:Int).toNat) Ty.span.dflt)) =
       out.set (out.length - 1) (kj (out.getD (out.length - 1) Ty.span.dflt) (ys.take n)[i]):=by rw [hlast,hy,hwl,aq]
      show A (hd f257 0) (L31 ys n (List.set out ((w64 ((out.length:Int) - 1)).toNat) (kj (out.getD ((w64 ((out.length:Int) - 1)).toNat) Ty.span.dflt) (ys.getD (0+(i:Int).toNat) Ty.span.dflt))) (i+1:Nat))
      rw [hset]
      exact wX hn hl hA k (i+1) _ (by omega) (by simp;omega) hr
     ·have h3:follows (out.getD ((w64 ((out.length:Int) - 1)).toNat) Ty.span.dflt) (ys.getD (0+(i:Int).toNat) Ty.span.dflt)=false:=h3
      rw [hlast,hy] at h3
      refine ⟨⟨T3,trivial⟩,⟨by simp only [ag,al];omega,trivial⟩,?_⟩
      rw [hw]
      exact fresh (by rw [h3,Bool.and_false])
    ·refine ⟨⟨T3,trivial⟩,⟨by simp only [ag,al];omega,trivial⟩,?_⟩
     rw [hw]
     simp only [cW] at h2
     exact fresh (by rw [dF (by omega),Bool.false_and])
   ·simp only [cW] at h;omega
theorem Je (srt:List Span→List Span) (hlen:∀ xs,(srt xs).length=xs.length)
  (h80:∀ (zs:List Span) (n:Nat),n≤zs.length→Sm zs.length→Gc prog 293 [.view 0 .span 0 n,.clo (.func 294) [] []] [(0,.row 175 .span zs)] 1 ⟨[],[(0,.row 175 .span (srt (zs.take n)++zs.drop n))],1⟩)
  {xs:List Span} (hl:Sm xs.length):Pure prog 257 [⟨.sl .span,xs⟩] [.sl .span] (goJ (srt (keep xs)) []):=by
 have hk:(keep xs).length≤xs.length:=gI _ _
 have hp:(pad xs.length (keep xs)).length=xs.length:=by simp [pad];omega
 refine Pure.of_closed (C:=codes) (S:=sigs) mixed func257 (by kernel_rfl) (ac (by kernel_rfl)) fun A hA=>hA.go (t31 xs) ⟨xs,c79 hl,keep xs,c78 hl,srt ((pad xs.length (keep xs)).take (keep xs).length)++(pad xs.length (keep xs)).drop (keep xs).length,h80 _ _ (by omega) (by rw [hp];exact hl),?_⟩
 have htake:(pad xs.length (keep xs)).take (keep xs).length=keep xs:=by simp [pad]
 rw [htake]
 refine hA.row 4 175 .span (by kernel_rfl) (s':=L31 (srt (keep xs)++(pad xs.length (keep xs)).drop (keep xs).length) (keep xs).length [] 0) (by kernel_rfl) ?_
 refine wX (n:=(keep xs).length) (by simp [hlen]) ?_ hA (keep xs).length 0 [] (by omega) (by simp) ?_
 ·have:(srt (keep xs)++(pad xs.length (keep xs)).drop (keep xs).length).length=xs.length:=by
   rw [ak,hlen,aQ,hp];omega
  rw [this];exact hl
 ·rw [bL,List.take_left' (hlen _)]
end Go.Proofs.Sp

/- deckhandlaw05.lives, SpanTwo: true (given the sort). (Own work.) -/
namespace Go.Proofs.Sp
open Go.Proofs.Tryz
open Go Go.VL
abbrev Fit (n:Int):Prop := -9223372036854775808≤n∧n < 9223372036854775808
end Go.Proofs.Sp

/- slices.SortFunc over spans: the shelf's contract, laid in plain words (by the kit's own tool). -/
namespace Go.Proofs
open Go.Shelf
def Tryz.sortSp_ren:Go.Shelf.Ren:=⟨fun | 6=>293 | 15=>310 | 14=>309 | 28=>324 | 29=>325 | 20=>316 | 21=>317 | 22=>318 | 23=>319 | 24=>320 | 25=>321 | 26=>322 | 27=>323 | 46=>327 | 47=>328 | 48=>329 | 49=>330 | 50=>331 | 57=>332 | n=>n,fun | 22=>184 | 24=>175 | 25=>317 | 3=>3 | 39=>240 | 0=>0 | 53=>337 | 55=>28 | 4=>4 | 46=>331 | 45=>330 | 50=>130 | 5=>5 | 9=>9 | 66=>339 | 70=>308 | 76=>344 | 77=>168 | n=>n,fun | n=>n⟩
theorem Tryz.sortSp:Go.Proofs.SlLaysF0.n6 prog Tryz.sortSp_ren:={
 mixed:=by kernel_rfl
 f6:=⟨f293.name,by decide,func293.trans (congrArg some (by kernel_rfl))⟩
 f14:=⟨f309.name,by decide,func309.trans (congrArg some (by kernel_rfl))⟩
 f15:=func310.trans (congrArg some (by kernel_rfl))
 f20:=⟨f316.name,by decide,func316.trans (congrArg some (by kernel_rfl))⟩
 f21:=⟨f317.name,by decide,func317.trans (congrArg some (by kernel_rfl))⟩
 f22:=⟨f318.name,by decide,func318.trans (congrArg some (by kernel_rfl))⟩
 f23:=⟨f319.name,by decide,func319.trans (congrArg some (by kernel_rfl))⟩
 f24:=⟨f320.name,by decide,func320.trans (congrArg some (by kernel_rfl))⟩
 f25:=⟨f321.name,by decide,func321.trans (congrArg some (by kernel_rfl))⟩
 f26:=⟨f322.name,by decide,func322.trans (congrArg some (by kernel_rfl))⟩
 f27:=⟨f323.name,by decide,func323.trans (congrArg some (by kernel_rfl))⟩
 f28:=func324.trans (congrArg some (by kernel_rfl))
 f29:=func325.trans (congrArg some (by kernel_rfl))
 f46:=⟨f327.name,by decide,func327.trans (congrArg some (by kernel_rfl))⟩
 f47:=func328.trans (congrArg some (by kernel_rfl))
 f48:=func329.trans (congrArg some (by kernel_rfl))
 f49:=⟨f330.name,by decide,func330.trans (congrArg some (by kernel_rfl))⟩
 f50:=⟨f331.name,by decide,func331.trans (congrArg some (by kernel_rfl))⟩
 f57:=⟨f332.name,by decide,func332.trans (congrArg some (by kernel_rfl))⟩
 t0:=Tryz.underlying0
 a0:=Tryz.isAgg0
 z0:=Tryz.sizeOf0
 v0:=Tryz.zeroValue0
 t3:=Tryz.underlying3
 a3:=Tryz.isAgg3
 z3:=Tryz.sizeOf3
 v3:=Tryz.zeroValue3
 t4:=Tryz.underlying4
 a4:=Tryz.isAgg4
 z4:=Tryz.sizeOf4
 v4:=Tryz.zeroValue4
 t5:=Tryz.underlying5
 a5:=Tryz.isAgg5
 z5:=Tryz.sizeOf5
 v5:=Tryz.zeroValue5
 t9:=Tryz.underlying9
 a9:=Tryz.isAgg9
 z9:=Tryz.sizeOf9
 v9:=Tryz.zeroValue9
 t22:=Tryz.underlying184
 a22:=Tryz.isAgg184
 z22:=Tryz.sizeOf184
 v22:=Tryz.zeroValue184
 t25:=Tryz.underlying317
 a25:=Tryz.isAgg317
 z25:=Tryz.sizeOf317
 v25:=Tryz.zeroValue317
 t39:=Tryz.underlying240
 a39:=Tryz.isAgg240
 z39:=Tryz.sizeOf240
 v39:=Tryz.zeroValue240
 t45:=Tryz.underlying330
 a45:=Tryz.isAgg330
 z45:=Tryz.sizeOf330
 v45:=Tryz.zeroValue330
 t46:=Tryz.underlying331
 a46:=Tryz.isAgg331
 z46:=Tryz.sizeOf331
 v46:=Tryz.zeroValue331
 t50:=Tryz.underlying130
 a50:=Tryz.isAgg130
 z50:=Tryz.sizeOf130
 v50:=Tryz.zeroValue130
 t53:=Tryz.underlying337
 a53:=Tryz.isAgg337
 z53:=Tryz.sizeOf337
 v53:=Tryz.zeroValue337
 t55:=Tryz.underlying28
 a55:=Tryz.isAgg28
 z55:=Tryz.sizeOf28
 v55:=Tryz.zeroValue28
 t66:=Tryz.underlying339
 a66:=Tryz.isAgg339
 z66:=Tryz.sizeOf339
 v66:=Tryz.zeroValue339
 t70:=Tryz.underlying308
 a70:=Tryz.isAgg308
 z70:=Tryz.sizeOf308
 v70:=Tryz.zeroValue308
 t76:=Tryz.underlying344
 a76:=Tryz.isAgg344
 z76:=Tryz.sizeOf344
 v76:=Tryz.zeroValue344
 t77:=Tryz.underlying168
 a77:=Tryz.isAgg168
 z77:=Tryz.sizeOf168
 v77:=Tryz.zeroValue168 }
end Go.Proofs

/- Spans put together, and gaps: the plain law. (Own work.) -/
namespace Go.Proofs.Sp
open Go.Proofs.Tryz
open Go Go.VL
abbrev pg (s:Span):Prop:=Fit s.lo∧Fit s.hi
structure Can (l:List Span):Prop where
 ne:∀ s∈l,s.lo≤s.hi
 ap:l.Pairwise fun a b=>a.hi+1 < b.lo
def Den (l:List Span) (n:Int):Prop:=∃ s∈l,s.lo≤n∧n≤s.hi
theorem uf {n:Int}:Den [] n↔False:=⟨fun ⟨_,h,_⟩=>(by cases h),False.elim⟩
theorem qL {s:Span} {l:List Span} {n:Int}:Den (s::l) n↔(s.lo≤n∧n≤s.hi)∨Den l n:=by
 simp only [Den,aL,exists_eq_or_imp]
theorem ug {l m:List Span} {n:Int}:Den (l++m) n↔Den l n∨Den m n:=by
 simp only [Den,aC,or_and_right,exists_or]
theorem ue {s:Span} {n:Int}:Den [s] n↔s.lo≤n∧n≤s.hi:=by rw [qL,uf,lA]
theorem Can.tail {a:Span} {l:List Span} (h:Can (a::l)):Can l:=⟨fun s hs=>h.ne s (.tail _ hs),(aN.1 h.ap).2⟩
theorem Can.head {a:Span} {l:List Span} (h:Can (a::l)) {n:Int} (hn:Den l n):a.hi+1 < n:=by
 obtain ⟨s,hs,h1,_⟩:=hn
 have:=(aN.1 h.ap).1 s hs
 omega
theorem lN {s:Span}:emp s=false↔s.lo≤s.hi:=by simp [emp]
theorem Gr {a b:Span} (ha:a.lo≤a.hi) (hb:b.lo≤b.hi):kj a b=over a b:=by
 rw [kj,lN.2 ha,lN.2 hb];rfl
theorem FM (a b:Span):(over a b).lo=min a.lo b.lo:=by simp only [over];split <;> omega
theorem FN (a b:Span):(over a b).hi=max a.hi b.hi:=by simp only [over];split <;> omega
theorem oP {a b:Span} (ha:pg a) (hb:pg b):follows a b=true↔b.lo≤a.hi+1:=by
 obtain ⟨⟨h1,h2⟩,h3,h4⟩:=ha
 obtain ⟨⟨g1,g2⟩,g3,g4⟩:=hb
 unfold follows
 by_cases h:b.lo≤a.hi
 ·simp [h];omega
 ·rw [dF h,cF,mh (by omega) (by omega),bW];omega
theorem qE:∀ (ys out:List Span),(∀ s∈ys,s.lo≤s.hi∧pg s)→ys.Pairwise (fun a b=>a.lo≤b.lo)→Can out→(∀ s∈out,pg s)→(∀ a∈out,∀ b∈ys,a.lo≤b.lo) →
  Can (goJ ys out)∧(∀ s∈goJ ys out,pg s)∧∀ n,Den (goJ ys out) n↔Den out n∨Den ys n
 | [],out,_,_,hc,hf,_=>⟨hc,hf,fun n=>by rw [uf,lA];rfl⟩
 | y :: ys, out, hy, hs, hc, hf, hle => by
   obtain ⟨hyne,hyf⟩:=hy y (.head _)
   have hy':∀ s∈ys,s.lo≤s.hi∧pg s:=fun s h=>hy s (.tail _ h)
   obtain ⟨hs1,hs2⟩:=aN.1 hs
   have fresh:(∀ a∈out,a.hi+1 < y.lo)→Can (goJ ys (out++[y]))∧(∀ s∈goJ ys (out++[y]),pg s)∧∀ n,Den (goJ ys (out++[y])) n↔Den out n∨Den (y::ys) n:=by
    intro ha
    obtain ⟨h1,h2,h3⟩:=qE ys (out++[y]) hy' hs2
     ⟨fun s hm=>by rcases aC.1 hm with h | h;exact hc.ne s h;simp at h;subst h;exact hyne,du.2 ⟨hc.ap,gi _ _,fun a h b hb=>by simp at hb;subst hb;exact ha a h⟩⟩
     (fun s hm=>by rcases aC.1 hm with h | h;exact hf s h;simp at h;subst h;exact hyf)
     (fun a hm b hb=>by rcases aC.1 hm with h | h;exact hle a h b (.tail _ hb);simp at h;subst h;exact hs1 b hb)
    refine ⟨h1,h2,fun n=>?_⟩
    rw [h3,ug,ue,qL,or_assoc]
   show Can (bif _ then _ else _)∧_
   rw [goJ]
   rcases List.eq_nil_or_concat out with rfl | ⟨o,l,rfl⟩
   ·exact fresh (fun a h=>by cases h)
   ·rw [List.concat_eq_append] at *
    have e1:(o++[l]).length - 1=o.length:=by simp
    have e2:(o++[l]).getD o.length Ty.span.dflt=l:=by simp [List.getD]
    have e3:∀ z,(o++[l]).set o.length z=o++[z]:=fun z=>by simp
    have lm:l∈o++[l]:=by simp
    have hlne:=hc.ne l lm
    have hlf:=hf l lm
    have hll:=hle l lm y (.head _)
    rw [e1,e2,dT (by simp:0 < (o++[l]).length),cR]
    obtain ⟨ha1,_,ha3⟩:=du.1 hc.ap
    cases hfo:follows l y
    ·have hfo:¬ y.lo≤l.hi+1:=fun h=>by rw [(oP hlf hyf).2 h] at hfo;cases hfo
     rw [cF]
     refine fresh fun a ha=>?_
     rcases aC.1 ha with h | h
     ·have:=ha3 a h l (by simp);omega
     ·simp at h;subst h;omega
    ·have hfo:=(oP hlf hyf).1 hfo
     rw [cT,e3,Gr hlne hyne]
     have k1:=FM l y
     have k2:=FN l y
     obtain ⟨h1,h2,h3⟩:=qE ys (o++[over l y]) hy' hs2
      ⟨fun s hm=>by
       rcases aC.1 hm with h | h
       ·exact hc.ne s (by simp [h])
       ·simp at h;subst h;omega,du.2 ⟨ha1,gi _ _,fun a h b hb=>by
        simp at hb;subst hb
        have:=ha3 a h l (by simp);omega⟩⟩
      (fun s hm=>by
       rcases aC.1 hm with h | h
       ·exact hf s (by simp [h])
       ·simp at h;subst h
        unfold pg Fit at *;omega)
      (fun a hm b hb=>by
       rcases aC.1 hm with h | h
       ·exact hle a (by simp [h]) b (.tail _ hb)
       ·simp at h;subst h
        have:=hs1 b hb;omega)
     refine ⟨h1,h2,fun n=>?_⟩
     rw [h3,ug,ue,qL,ug,ue,or_assoc,or_assoc,← or_assoc (a:=l.lo≤n∧n≤l.hi)]
     refine or_congr_right (or_congr_left ?_)
     rw [k1,k2];omega
theorem DZ (l:List Span) (n:Int):Den (keep l) n↔Den l n:=by
 constructor
 ·rintro ⟨s,hs,h⟩
  exact ⟨s,(fN.1 hs).1,h⟩
 ·rintro ⟨s,hs,h⟩
  refine ⟨s,fN.2 ⟨hs,?_⟩,h⟩
  rw [lN.2 (by omega)];rfl
structure Srt (srt:List Span→List Span):Prop where
 perm:∀ xs,(srt xs).Perm xs
 sorted:∀ xs,(srt xs).Pairwise fun a b=>a.lo≤b.lo
theorem AT {srt:List Span→List Span} (hs:Srt srt) {l:List Span} (hl:∀ s∈l,pg s) :
  Can (goJ (srt (keep l)) [])∧(∀ s∈goJ (srt (keep l)) [],pg s)∧∀ n,Den (goJ (srt (keep l)) []) n↔Den l n:=by
 have hm:∀ s,s∈srt (keep l)→s.lo≤s.hi∧pg s:=fun s h=>by
  have h:=(hs.perm _).mem_iff.1 h
  obtain ⟨h1,h2⟩:=fN.1 h
  exact ⟨lN.1 (by simpa using h2),hl s h1⟩
 obtain ⟨h1,h2,h3⟩:=qE (srt (keep l)) [] hm (hs.sorted _) ⟨fun s hs=>(by cases hs),.nil⟩ (fun s hs=>by cases hs) (fun s hs=>by cases hs)
 refine ⟨h1,h2,fun n=>?_⟩
 rw [h3,uf,false_or,← DZ l]
 constructor
 ·rintro ⟨s,h,h'⟩;exact ⟨s,(hs.perm _).mem_iff.1 h,h'⟩
 ·rintro ⟨s,h,h'⟩;exact ⟨s,(hs.perm _).mem_iff.2 h,h'⟩
end Go.Proofs.Sp

/- slices.SortFunc over spans: what it comes to, out of the kit's shelf. (Own work.) -/
namespace Go.Proofs.Sp
open Go.Proofs.Tryz
open Go Go.VL
open Go.Shelf Go.RowKit Go.Lib Go.Sort
def jQ (x y:VL.Span):Int:=bif decide (x.lo < y.lo) then -1 else bif decide (x.lo > y.lo) then 1 else 0
def lW (x:VL.Span):List Value:=[.int .i64 x.lo,.int .i64 x.hi]
set_option maxHeartbeats 1000000 in
theorem Bg (x y:VL.Span) (W:World):Calls prog 294 #[.agg #[.int .i64 x.lo,.int .i64 x.hi],.agg #[.int .i64 y.lo,.int .i64 y.hi]] W fun e w'=>e=.returned (.int .i64 (jQ x y))∧∃ q os',w'=grow (W.drewN q) os':=by
 have e0:((x.lo:Int) < y.lo)∨¬ x.lo < y.lo:=Decidable.em _
 have e1:jQ x y=if x.lo < y.lo then -1 else if x.lo > y.lo then 1 else 0:=by
  unfold jQ
  by_cases h1:x.lo < y.lo
  ·simp [h1]
  ·by_cases h2:x.lo > y.lo <;> simp [h1,h2]
 rw [e1]
 by_cases h1:x.lo < y.lo
 ·rw [aF h1]
  go_enter func294,Tryz.ntmps294
  go_wp2
  go_ret
  exact ⟨rfl,0,_,by rw [alloc_eq_grow,alloc_eq_grow,grow_grow];rfl⟩
 ·rw [aJ h1]
  by_cases h2:x.lo > y.lo
  ·rw [aF h2]
   go_enter func294,Tryz.ntmps294
   go_wp2
   go_ret
   exact ⟨rfl,0,_,by rw [alloc_eq_grow,alloc_eq_grow,grow_grow];rfl⟩
  ·rw [aJ h2]
   go_enter func294,Tryz.ntmps294
   go_wp2
   go_ret
   exact ⟨rfl,0,_,by rw [alloc_eq_grow,alloc_eq_grow,grow_grow];rfl⟩
theorem Gl (x y:VL.Span):ltOf jQ x y=decide (x.lo < y.lo):=by
 unfold ltOf jQ
 by_cases h1:x.lo < y.lo
 ·simp [h1]
 ·by_cases h2:x.lo > y.lo <;> simp [h1,h2]
theorem Hh:SWO (ltOf jQ) where
 irrefl x:=by rw [Gl];simp
 trans x y z h1 h2:=by rw [Gl] at *;simp at *;omega
 ntrans x y z h1 h2:=by rw [Gl] at *;simp at *;omega
def srt (xs:List VL.Span):List VL.Span:=(pdq (ltOf jQ) xs.toArray 0 xs.length (Lib.bitLen xs.length) true true).toList
theorem BU:Srt srt:=by
 have key:∀ xs:List VL.Span,PermIn 0 xs.toArray.size xs.toArray (srt xs).toArray∧SortedIn (ltOf jQ) 0 xs.toArray.size (srt xs).toArray:=fun xs=>by
  have h:=pdq_sorts (ltOf jQ) Hh xs.toArray 0 xs.toArray.size (Lib.bitLen xs.toArray.size) true true (be _) (aH _) (Or.inl rfl)
  have e:(srt xs).toArray=pdq (ltOf jQ) xs.toArray 0 xs.toArray.size (Lib.bitLen xs.toArray.size) true true:=by simp [srt]
  rw [e];exact ⟨h.1,h.2⟩
 refine ⟨fun xs=>?_,fun xs=>?_⟩
 ·obtain ⟨h1,_,h2⟩:=(key xs).1
  have e1:((srt xs).toArray.extract 0 xs.toArray.size).toList=srt xs:=by
   simp only [ch] at h1 ⊢
   rw [← h1];simp
  have e2:(xs.toArray.extract 0 xs.toArray.size).toList=xs:=by simp
  rw [e1,e2] at h2
  exact h2
 ·have hl:(srt xs).length=xs.length:=by simpa using (key xs).1.1
  rw [List.pairwise_iff_getElem]
  intro i j hi hj hij
  have h:=(key xs).2 i j (be _) hij (by simpa [← hl] using hj)
  rw [Gl] at h
  have g:∀ k (hk:k < (srt xs).length),(srt xs).toArray[k]! = (srt xs)[k]:=fun k hk=>by
   rw [getElem!_pos _ k (by simpa using hk)];simp
  rw [g i hi,g j hj] at h
  simpa using h
theorem mP (xs:List VL.Span):(srt xs).length=xs.length:=(BU.perm xs).length_eq
theorem DX (x:VL.Span):(lW x).length=2:=rfl
theorem vK (d:List VL.Span) {i:Nat} {x:VL.Span} (hx:d[i]?=some x) (j:Nat) (hj:j < 2):(flatK lW 2 d.toArray)[i * 2+j]! = (lW x)[j]! := by
 have hi:i < d.length:=by
  rcases aw i d.length with h | h
  ·exact h
  ·rw [ax h] at hx;cases hx
 rw [get_flatK _ _ _ _ (by simp;omega)]
 have e1:(i * 2+j) / 2=i:=by omega
 have e2:(i * 2+j) % 2=j:=by omega
 rw [e1,e2]
 have:d.toArray[i]! = x:=by
  rw [getElem!_pos _ i (by simpa using hi)]
  simp only [List.getElem_toArray]
  rw [aj hi] at hx
  exact aI hx
 rw [this]
theorem h80 (zs:List VL.Span) (n:Nat) (hn:n≤zs.length) (hl:Sm zs.length) :
  Gc prog 293 [.view 0 .span 0 n,.clo (.func 294) [] []] [(0,.row 175 .span zs)] 1 ⟨[],[(0,.row 175 .span (srt (zs.take n)++zs.drop n))],1⟩:=by
 have hlen:(srt (zs.take n)++zs.drop n).length=zs.length:=by
  rw [ak,mP,← ak,List.take_append_drop]
 refine ⟨fun i T t xs hi hg=>?_,fun w K m vs hM hsz hrel=>?_⟩
 ·obtain rfl:i=0:=by omega
  simp only [Heap.get,jT,cT,af,ABlk.row.injEq] at hg
  obtain ⟨rfl,rfl,hg⟩:=hg
  refine ⟨zs,rfl,?_⟩
  rw [← eq_of_heq hg,hlen]
 ·obtain ⟨v0,v1,rfl⟩:∃ v0 v1,vs=#[v0,v1]:=by
   rcases vs with ⟨l⟩
   match l,hsz with
   | [v0,v1],_=>exact ⟨v0,v1,rfl⟩
  have r0:=hrel 0 _ v0 rfl rfl
  have r1:=hrel 1 _ v1 rfl rfl
  have hv1:v1=.func (.func 294) #[] #[]:=by
   cases r1 with
   | clo _ _ _ us vs hf hl _ _ =>
     have e1:us=#[]:=dp (by simpa using hf)
     have e2:vs=#[]:=dp (by simpa using hl)
     rw [e1,e2]
  subst hv1
  have h0:Heap.get [(0,ABlk.row 175 .span zs)] 0=some (.row 175 .span zs):=rfl
  have done:∀ w' K' m',Mem ⟨w,K,m,1⟩ w' K' m' [(0,.row 175 .span (srt (zs.take n)++zs.drop n))] (fun l=>1≤l) →
    ∃ v K' m',Ending.returned (.tuple #[])=Ending.returned v∧Rel w' K' m' [(0,ABlk.row 175 .span (srt (zs.take n)++zs.drop n))] (Bz []) v∧Mem ⟨w,K,m,1⟩ w' K' m' [(0,.row 175 .span (srt (zs.take n)++zs.drop n))] (fun l=>1≤l):=
   fun w' K' m' h=>⟨_,K',m',rfl,.tup _ _ rfl (fun i a v h=>by cases h),h⟩
  cases r0 with
  | view0 _ _ _ a =>
    refine (AnyF.slices_SortFunc_none { Tryz.sortSp with } a 0 (.func (.func 294) #[] #[]) w).mono ?_
    rintro e w' ⟨rfl,rfl⟩
    refine done _ K m ?_
    have:srt (zs.take 0)++zs.drop 0=zs:=by
     have:srt (zs.take 0)=[]:=ay (by rw [mP];rfl)
     rw [this];rfl
    rw [this];exact hM
  | view _ _ b _ _ cap hm hcap hs =>
    rcases hM.heap 0 _ h0 with ⟨h1,_⟩ | ⟨b',cs,h1,hcs,hcsz,hcell⟩
    ·rw [hm] at h1;cases h1
    rw [hm] at h1
    obtain rfl:b=b':=aI (aI h1)
    have hblk:b < w.heap.size:=hM.mlt 0 b hm
    have hcell':∀ i x j,zs[i]?=some x→j < 2→cs[i * 2+j]?=some (lW x)[j]! := by
     intro i x j hx hj
     obtain ⟨v,hv,hr⟩:=hcell i x j ((enc .span x)[j]'(by rw [bM];exact hj)) hx (aj _)
     rw [show i * 2+j=i * Ty.span.size+j from rfl,hv]
     match j,hj with
     | 0,_=>cases hr;rfl
     | 1,_=>cases hr;rfl
    have hfr:∀ o,w.frozen? ⟨b,o,none⟩=false:=fun o=>by
     unfold World.frozen?
     rw [hcs];simp
    have hH:HoldsK lW 2 w b (0 * Ty.span.size) (zs.take n).toArray:=by
     intro j hj
     rw [size_flatK] at hj
     have hjn:j / 2 < (zs.take n).length:=by simp only [ch] at hj;omega
     have hx:zs[j / 2]?=some (zs.take n)[j / 2]:=by
      rw [jv,aj]
     have h2:=hcell' (j / 2) _ (j % 2) hx (jb _ (by omega))
     have h3:=vK (zs.take n) (aj hjn) (j % 2) (jb _ (by omega))
     have hj2:j / 2 * 2+j % 2=j:=by omega
     rw [hj2] at h2 h3
     refine ⟨?_,hfr _⟩
     unfold World.cell?
     rw [fy,ct,hcs]
     show cs[j]?=_
     rw [h2,h3];rfl
    have eg:∀ args w,(callFunc 294 args).run prog w=.ok (.enter 294 args) w:=enters_of func294 (by kernel_rfl) rfl
    have hsize:(zs.take n).toArray.size=n:=by simp;omega
    have hcmp:CmpLays prog 294 #[] lW 2 jQ b (0 * Ty.span.size) (zs.take n).toArray.size w:=fun _ _ _ _ x y=>Bg x y _
    have hc:=AnyQ.slices_SortFunc_eq Tryz.sortSp 2 Tryz.isAgg175 Tryz.sizeOf175 lW DX (fun x v hv=>by simp [lW] at hv;rcases hv with rfl | rfl <;> rfl) jQ Hh 294 #[] b (0 * Ty.span.size) cap (zs.take n).toArray w eg hcmp hH hblk (by unfold Sm at hl;omega)
    rw [hsize] at hc
    refine Calls.mono hc ?_
    rintro e w' ⟨rfl,q,os,rfl⟩
    refine done _ K m ?_
    generalize hF:pdq (ltOf jQ) (zs.take n).toArray 0 n (Lib.bitLen n) true true=dk
    have hdk:dk.toList=srt (zs.take n):=by
     have:(zs.take n).length=n:=by rw [aE];omega
     rw [← hF];unfold srt;rw [this]
    have hdl:(srt (zs.take n)).length=n:=by rw [mP,aE];omega
    have hdsz:dk.size=n:=by rw [← ba,hdk,hdl]
    have hdk':dk=(srt (zs.take n)).toArray:=by rw [← hdk]
    generalize hW:sortWorldK lW 2 w b (0 * Ty.span.size) q dk os=w'
    have hheap:w'.heap=w.heap.modify b (onCells (putCells id (0 * Ty.span.size) (flatK lW 2 dk)))++os:=by rw [← hW];rfl
    have hsz':w.heap.size≤w'.heap.size:=by rw [hheap];simp
    have hne:∀ k,k < w.heap.size→k≠b→w'.heap[k]?=w.heap[k]?:=fun k hk hkb=>by
     rw [hheap,dU (by simpa using hk),gJ,aJ (fun h=>hkb h.symm)]
    have hbb:w'.heap[b]?=some (.cells (putCells id (0 * Ty.span.size) (flatK lW 2 dk) cs) 175 (0,0)):=by
     rw [hheap,dU (by simpa using hblk),gJ,aF rfl,hcs];rfl
    have hsh:∀ k s,w.shape? k=some s→w'.shape? k=some s:=fun k s hk=>by
     by_cases hkb:k=b
     ·subst hkb
      unfold World.shape? at hk ⊢
      rw [hcs] at hk;rw [hbb]
      simpa [putCells] using hk
     ·have hks:k < w.heap.size:=by
       rcases aw k w.heap.size with h | h
       ·exact h
       ·unfold World.shape? at hk;rw [bO h] at hk;cases hk
      unfold World.shape? at hk ⊢
      rw [hne k hks hkb];exact hk
    have get0:∀ l blk,Heap.get [(0,ABlk.row 175 .span (srt (zs.take n)++zs.drop n))] l=some blk→l=0∧blk=.row 175 .span (srt (zs.take n)++zs.drop n):=fun l blk hl=>by
     unfold Heap.get at hl
     cases hq:((0:Nat)==l) with
     | true=>rw [hq] at hl;simp only [cT,af] at hl;exact ⟨(by simpa using hq:0=l).symm,hl.symm⟩
     | false=>rw [hq] at hl;simp [Heap.get] at hl
    exact
    { os := by rw [← hW]; rfl
      tape:=by rw [← hW];rfl
      output:=by rw [← hW];rfl
      size:=hsz'
      keep:=fun k hk hno=>hne k hk (fun e=>hno 0 (by show 0 < 1;omega) (by rw [e];exact hm))
      Kmono:=fun _ h=>h
      Klt:=fun k hk=>cm (hM.Klt k hk) hsz'
      Knew:=fun k hk=>.inl hk
      mold:=fun _ _=>rfl
      mnew:=hM.mnew
      mlt:=fun l k h=>cm (hM.mlt l k h) hsz'
      mfree:=hM.mfree
      fnew:=hM.fnew
      heap:=fun l blk hl'=>by
       obtain ⟨rfl,rfl⟩:=get0 l blk hl'
       refine .inr ⟨b,_,hm,hbb,by rw [hlen];simpa [putCells] using hcsz,fun i x j d hx hd=>?_⟩
       have hj:j < 2:=by
        rcases aw j (enc .span x).length with h | h
        ·rwa [bM] at h
        ·rw [ax h] at hd;cases hd
       have hi:i < zs.length:=by
        rcases aw i (srt (zs.take n)++zs.drop n).length with h | h
        ·rwa [hlen] at h
        ·rw [ax h] at hx;cases hx
       have hrd:∀ v,(lW x)[j]?=some v→RelD w' K d v:=fun v hv=>by
        match j,hj with
        | 0,_=>cases hd;cases hv;exact .v _
        | 1,_=>cases hd;cases hv;exact .v _
       have hej:(lW x)[j]?=some (lW x)[j]! := by
        match j,hj with
        | 0,_=>rfl
        | 1,_=>rfl
       refine ⟨(lW x)[j]!,?_,hrd _ hej⟩
       show (putCells id (0 * Ty.span.size) (flatK lW 2 dk) cs)[i * 2+j]?=_
       have hic:i * 2+j < cs.size:=by
        have:zs.length * 2≤cs.size:=hcsz
        omega
       unfold putCells
       rw [Array.getElem?_mapIdx,bJ hic]
       simp only [bi,fy,be,true_and,ct,cU,size_flatK,hdsz,id]
       by_cases hin:i < n
       ·rw [aF (by omega)]
        rw [bx (by omega)] at hx
        rw [hdk',vK _ hx j hj]
       ·rw [aJ (by omega)]
        rw [bE (by omega),hdl,co] at hx
        have:n+(i - n)=i:=by omega
        rw [this] at hx
        have:=hcell' i x j hx hj
        rw [bJ hic] at this
        exact this
      own:=fun l blk k hl' hmk=>by
       obtain ⟨rfl,rfl⟩:=get0 l blk hl'
       exact hM.own 0 _ k h0 hmk
      inj:=fun l l' blk blk' k hl1 hl2 _ _=>by rw [(get0 l blk hl1).1,(get0 l' blk' hl2).1]
      shape:=fun k s hk=>hsh k s hk
      gok:=hM.gok.ext (fun _ hk=>hk) (fun k hk=>hne k (hM.Klt k hk) (fun e=>hM.own 0 _ b h0 hm (e ▸ hk)))
      frozen:=fun k hk=>hne k (hM.Klt k hk) (fun e=>hM.own 0 _ b h0 hm (e ▸ hk)) }
end Go.Proofs.Sp

/- span.Join, deckhandlaw05.lives: their contracts. (Own work.) -/
namespace Go.Proofs.Sp
open Go.Proofs.Tryz
open Go Go.VL
theorem c31 {xs:List Span} (hl:Sm xs.length):Pure prog 257 [⟨.sl .span,xs⟩] [.sl .span] (goJ (srt (keep xs)) []):=Je srt mP h80 hl
end Go.Proofs.Sp

/- Lanes by their ids; needs, clashes, ways: contracts. (Own work.) -/
namespace Go.Proofs.Zn
open Go.Proofs.Tryz
open Go Go.VL
abbrev Ix (d:Deck):Int:=bk (aK d)+bk (aP d)
theorem Eb {d:Deck} (h:dy d=0):bv d=(bk (aK d),bk (aP d),(d.borders.length:Int) - 1):=by
 unfold bv;rw [h];rfl
def ln (d:Deck) (lo:Int) (n:Nat):List Int:=(List.range n).map fun k:Nat=>Ix d+(lo+(k:Int))
theorem vD (d:Deck) (lo:Int) (n:Nat):ln d lo (n+1)=ln d lo n++[Ix d+(lo+(n:Int))]:=by
 simp [ln,List.range_succ]
theorem qy (d:Deck) (lo:Int) (n:Nat):(ln d lo n).length=n:=by simp [ln]
theorem vC (d:Deck) (s:Span):dY d s=ln d s.lo (s.hi - s.lo+1).toNat:=rfl
theorem oe {d:Deck} {s:Span} (h0:dy d=0) (hs:gU d s):(dY d s).length≤24:=by
 have hD:=(eR h0).lanes
 obtain ⟨s1,s2,s3⟩:=hs
 rw [vC,qy];omega
theorem nB {d:Deck} {l:List Span} (h0:dy d=0) (hs:∀ s∈l,gU d s):(l.flatMap (dY d)).length≤24 * l.length:=by
 induction l with
 | nil=>simp
 | cons s l ih =>
   have h1:=oe h0 (hs s (by simp))
   have h2:=ih fun t ht=>hs t (by simp [ht])
   simp only [eA,ak,ag];omega
theorem yf {d:Deck} {l:List Span} {s:Span} (h0:dy d=0) (hs:gU d s) {A:List Item→AS→Prop} {i:Nat} (hi:i < 1000) {out:List Int} (ho:out.length≤24000)
  {r:List Int} (hA:Closed prog codes db f211 (bh [.sl .int]) (fun y=>y=r) 0 A)
  (go:A (hd f211 0) (L97 (bk (aK d)) (bk (aP d)) l (out++dY d s) ((i+1:Nat):Int)))
  (j:Nat) (hj:(j:Int)≤s.hi - s.lo+1) (k:Int) (hk:k=s.lo+(j:Int)):A (hd f211 1) (Mi (bk (aK d)) (bk (aP d)) l s (out++ln d s.lo j) i k):=by
 have hD:=eR h0
 have e1:=hD.wells
 have e2:=hD.tips
 have e3:=hD.lanes
 have ew:Ix d=bk (aK d)+bk (aP d):=rfl
 obtain ⟨s1,s2,s3⟩:=hs
 refine hA.go (t97b _ _ l s _ i k) (ah (fun h1=>?_) (fun h1=>?_))
 ·have h1:=oT h1
  refine ⟨⟨T2',trivial⟩,⟨by rw [ak,qy];simp only [ag,al];omega,trivial⟩,?_⟩
  rw [aA (n:=bk (aK d)+bk (aP d)) (by omega) (by omega),aA (by omega) (by omega),aA (by omega) (by omega),aZ,hk,← ew,← vD]
  exact yf h0 ⟨s1,s2,s3⟩ hi ho hA go (j+1) (by omega) _ (by omega)
 ·have h1:=oF h1
  have e:(s.hi - s.lo+1).toNat=j:=by omega
  rw [vC,e] at go
  rw [au (by omega)]
  exact go
termination_by (s.hi - s.lo+1 - (j:Int)).toNat
theorem Ds {d:Deck} {l:List Span} (h0:dy d=0) (hs:∀ s∈l,gU d s) (hl:l.length≤999) {r:List Int} {A:Pr} (hA:CL codes db f211 [.sl .int] r A)
  (hr:gj (l.flatMap (dY d))=r) (i:Nat) (hi:i≤l.length):A (hd f211 0) (L97 (bk (aK d)) (bk (aP d)) l ((l.take i).flatMap (dY d)) i):=by
 have hf:=nB h0 (l:=l.take i) fun s h=>hs s (ie h)
 rw [aE] at hf
 refine hA.go (t97a _ _ l _ i) (ah (fun h1=>?_) (fun h1=>?_))
 ·have h1:=oT h1
  have hil:i < l.length:=by omega
  have hsi:=hs _ (aO hil)
  rw [bb hil]
  refine ⟨⟨⟨by omega,by omega⟩,trivial⟩,?_⟩
  have go:=Ds h0 hs hl hA hr (i+1) (by omega)
  rw [aY hil,List.flatMap_append,List.flatMap_singleton] at go
  have:=yf (l:=l) h0 hsi (by omega) (by omega) hA go 0 (by obtain ⟨_,h,_⟩:=hsi;omega) l[i].lo (by simp)
  rw [show ln d l[i].lo 0=[] from rfl,ed] at this
  exact this
 ·have h1:=oF h1
  rw [cn (by omega)] at hf ⊢
  exact ⟨⟨T2',trivial⟩,_,xq (by omega),T2',hr⟩
termination_by l.length - i
theorem ub:∀ (ys out:List Span),(Sp.goJ ys out).length≤out.length+ys.length
 | [],out=>by simp [Sp.goJ]
 | y :: ys, out => by
   rw [Sp.goJ]
   cases (decide (0 < out.length) && Sp.follows (out.getD (out.length - 1) Ty.span.dflt) y)
   ·rw [cF]
    have:=ub ys (out++[y])
    simp only [ak,ag,al] at this ⊢;omega
   ·rw [cT]
    have:=ub ys (out.set (out.length - 1) (Sp.kj (out.getD (out.length - 1) Ty.span.dflt) y))
    simp only [fO,ag] at this ⊢;omega
theorem c97 {d:Deck} {l:List Span} (h0:dy d=0) (hs:∀ s∈l,gU d s) (hl:l.length≤999):Pure prog 211 [⟨.deck,d⟩,⟨.sl .span,l⟩] [.sl .int] (mu d l):=by
 have hD:=eR h0
 have e3:=hD.lanes
 have hf:∀ s∈l,Sp.pg s:=fun s h=>by
  obtain ⟨s1,s2,s3⟩:=hs s h
  refine ⟨?_,?_⟩ <;> unfold Sp.Fit <;> omega
 obtain ⟨j1,j2,j3⟩:=Sp.AT Sp.BU hf
 have jl:(Sp.goJ (Sp.srt (Sp.keep l)) []).length≤999:=by
  have h1:=ub (Sp.srt (Sp.keep l)) []
  rw [Sp.mP] at h1
  have h2:(Sp.keep l).length≤l.length:=gI _ _
  simp only [al] at h1;omega
 have c31:=Sp.c31 (xs:=l) (by unfold Sp.Sm;omega)
 generalize Sp.goJ (Sp.srt (Sp.keep l)) []=js at c31 j1 j2 j3 jl
 have js1:∀ s∈js,gU d s:=fun s h=>by
  have hne:=j1.ne s h
  obtain ⟨t,ht,t1,t2⟩:=(j3 s.lo).1 ⟨s,h,by omega,by omega⟩
  obtain ⟨u,hu,u1,u2⟩:=(j3 s.hi).1 ⟨s,h,by omega,by omega⟩
  obtain ⟨a1,a2,a3⟩:=hs t ht
  obtain ⟨b1,b2,b3⟩:=hs u hu
  exact ⟨by omega,hne,by omega⟩
 refine Pure.of_closed (C:=codes) (S:=db) mixed func211 (by kernel_rfl) (ac (by kernel_rfl)) fun A hA=>hA.go (t97 d l) ⟨⟨T5',trivial⟩,_,(Bl d).eq (Eb h0),⟨T2',trivial⟩,_,c31,?_⟩
 exact hA.row 8 3 .int (s':=L97 (bk (aK d)) (bk (aP d)) js [] 0) (by kernel_rfl) (by kernel_rfl) (Ds h0 js1 jl hA (Ap j3) 0 (by omega))
theorem pI {d:Deck} (h:(dz d).2=0):dy d=0:=by
 unfold dz at h
 cases h1:dy d != 0
 ·simpa using h1
 ·rw [h1,cT] at h;exact h
theorem jZ {d:Deck} {l:List Int} (h:(dl d l).2=0):dy d=0:=by
 unfold dl at h
 cases h1:(dz d).2 != 0
 ·exact pI (by simpa using h1)
 ·rw [h1,cT] at h;exact pI h
theorem c48 {d:Deck} {l:List Int} (hl:l.length≤999):Pure prog 135 [⟨.deck,d⟩,⟨.sl .int,l⟩] [.sl .int,.int] (gO d l):=
 FS func135 (t48 d l) (by kernel_rfl) (by kernel_rfl) fun _=>by
  unfold gO
  refine ⟨⟨T5',T2',trivial⟩,_,c96 (by omega),ah (fun h=>⟨⟨T2',T2'⟩,by rw [h];rfl⟩) (fun h=>?_)⟩
  have h0:(dl d l).2=0:=by simpa using h
  obtain ⟨a,b,c⟩:=mQ h0
  rw [h,cF]
  exact ⟨⟨T5',T2',trivial⟩,_,c97 (jZ h0) b (by omega),⟨T2',T2'⟩,rfl⟩
theorem sh {d:Deck} (h0:dy d=0):∀ {l:List Span} (_:∀ s∈l,gU d s) (out:List Int),(l.foldl (fun out s=>dx out (dY d s)) out).length≤out.length+24 * l.length
 | [],_,out=>by simp
 | s :: l, hs, out => by
   have h1:=oe h0 (hs s (by simp))
   have h2:=sh h0 (l:=l) (fun t ht=>hs t (by simp [ht])) (dx out (dY d s))
   have h3:=gR (a:=out) (b:=dY d s)
   simp only [fP,ag];omega
theorem uC {l:List Span} (h:l.length=2):∃ a b,l=[a,b]:=by
 match l,h with
 | [a,b],_=>exact ⟨a,b,rfl⟩
theorem DJ {a b:Span} (ha:a.lo≤a.hi) (hb:b.lo≤b.hi):Sp.kj a b=zB a b:=by
 unfold Sp.kj Sp.emp
 rw [dF (by omega),dF (by omega),cF,cF]
 unfold Sp.over zB
 by_cases h1:b.lo < a.lo <;> by_cases h2:b.hi > a.hi <;> simp [h1,h2]
theorem Bu {d:Deck} {a b:Span} (ha:gU d a) (hb:gU d b):gU d (zB a b):=by
 obtain ⟨a1,a2,a3⟩:=ha
 obtain ⟨b1,b2,b3⟩:=hb
 unfold zB gU
 by_cases h1:b.lo < a.lo <;> by_cases h2:b.hi > a.hi <;> simp only [h1,h2,decide_true,iC,cT,cF] <;> omega
theorem Ao {d:Deck} (s:Span):mu d [s]=dY d s:=by
 refine jO (mt _ _) (qx _ _) fun n=>?_
 rw [sk];simp
theorem c53 (d:Deck) (a b:Int):Pure prog 133 [⟨.deck,d⟩,⟨.int,a⟩,⟨.int,b⟩] [.sl .int,.int] (mW d a b):=
 FS func133 (t53 d a b) (by kernel_rfl) (by kernel_rfl) fun _=>by
  unfold mW
  refine ⟨⟨T2',T2',trivial⟩,⟨T5',T2',trivial⟩,_,c96 (by simp),ah (fun h=>⟨⟨T2',T2'⟩,by rw [h];rfl⟩) (fun h=>?_)⟩
  have h0:(dl d [a,b]).2=0:=by simpa using h
  obtain ⟨g1,g2,g3⟩:=mQ h0
  obtain ⟨x,y,e⟩:=uC g3
  rw [e] at g2
  rw [h,cF,e]
  have hx:=g2 x (by simp)
  have hy:=g2 y (by simp)
  have x2:=hx.2.1
  have y2:=hy.2.1
  refine ⟨⟨⟨by simp,by simp⟩,trivial⟩,⟨⟨by simp,by simp⟩,trivial⟩,⟨T3',T3',trivial⟩,_,(Sp.c21 x y).eq (DJ x2 y2),⟨T3',trivial⟩,⟨T5',T2',trivial⟩,_,(c97 (l:=[zB x y]) (jZ h0) (fun s hs=>by rw [br.1 hs];exact Bu hx hy) (by simp)).eq (Ao _),⟨T2',T2'⟩,rfl⟩
end Go.Proofs.Zn

/- Fields of kinds; ids; answers: contracts. (Own work.) -/
namespace Go.Proofs.Wn
open Go.Proofs.Tryz
open Go Go.VL Go.Proofs.Zn
abbrev T6':True∧True∧True∧True∧True∧True:=⟨trivial,trivial,trivial,trivial,trivial,trivial⟩
def flS (k:Int):Flds:=bif k==1 then ⟨true,false,false,false,false⟩ else bif k==2 then ⟨true,false,false,false,false⟩ else bif k==4 then ⟨false,true,true,false,true⟩ else
 bif k==5 then ⟨false,true,false,false,true⟩ else bif k==6 then ⟨false,true,false,false,true⟩ else bif k==7 then ⟨false,true,false,false,false⟩ else bif k==9 then ⟨false,true,false,false,false⟩ else
 bif k==10 then ⟨false,true,false,true,false⟩ else ⟨false,false,false,false,false⟩
theorem BX {α:Type} {P:Program} {A:List Item→AS→Prop} {R0:α→Prop} {b:Bool} {S T:Out α} (h1:b=true→Sat P A R0 S) (h0:b=false→Sat P A R0 T):Sat P A R0 (bif b then S else T):=ah h1 h0
theorem c63 (k:Int):Pure prog 63 [⟨.int,k⟩] [.flds] (flS k):=
 ofT func63 (t63 k) (by kernel_rfl) (by kernel_rfl) fun _=>by
  unfold flS
  repeat' (refine BX (fun _=>?_) (fun _=>?_))
  all_goals (refine ⟨T6',?_⟩;show (_:Flds)=_)
  all_goals (first | rfl | (simp only [*,cT,cF];done) | simp_all)
def IV (r:Req):Flds:=⟨decide ((r.ids.length:Int) > 0),r.a != 0,r.b != 0,r.ver != 0,r.vol != 0⟩
theorem c64 (r:Req):Pure prog 64 [⟨.req,r⟩] [.flds] (IV r):=ofT func64 (t64 r) (by kernel_rfl) (by kernel_rfl) fun _=>⟨T6',rfl⟩
def tl (f g:Flds):Bool:=(!f.ids || g.ids) && ((!f.a || g.a) && ((!f.b || g.b) && ((!f.ver || g.ver) && (!f.vol || g.vol))))
theorem c65 (f g:Flds):Pure prog 65 [⟨.flds,f⟩,⟨.flds,g⟩] [.bool] (tl f g):=
 ofT func65 (t65 f g) (by kernel_rfl) (by kernel_rfl) fun _=>by
  obtain ⟨f1,f2,f3,f4,f5⟩:=f
  obtain ⟨g1,g2,g3,g4,g5⟩:=g
  cases f1 <;> cases f2 <;> cases f3 <;> cases f4 <;> cases f5 <;> exact ⟨T2',by cases g1 <;> cases g2 <;> cases g3 <;> cases g4 <;> cases g5 <;> rfl⟩
def gD (e i:Int):Resp:=⟨e,i,0,0,[]⟩
theorem c62 (e:Int):Pure prog 62 [⟨.int,e⟩] [.resp] (gD e 0):=ofT func62 (t62 e) (by kernel_rfl) (by kernel_rfl) fun _=>⟨T6',rfl⟩
theorem c69 (e i:Int):Pure prog 69 [⟨.int,e⟩,⟨.int,i⟩] [.resp] (gD e i):=ofT func69 (t69 e i) (by kernel_rfl) (by kernel_rfl) fun _=>⟨T6',rfl⟩
def fG (d:Deck) (i:Int):Int:=(pY d i).1.kind
theorem c68 (d:Deck) (i:Int):Pure prog 68 [⟨.deck,d⟩,⟨.int,i⟩] [.int] (fG d i):=ofT func68 (t68 d i) (by kernel_rfl) (by kernel_rfl) fun _=>⟨⟨T5',T2',trivial⟩,_,c84 d i,T2',rfl⟩
theorem Lu (a b:Change):(a.ver==b.ver && (a.by'==b.by' && (a.n==b.n && true)))=decide (a=b):=by
 obtain ⟨a1,a2,a3⟩:=a
 obtain ⟨b1,b2,b3⟩:=b
 simp only [Bool.and_true,Change.mk.injEq]
 by_cases h1:a1=b1 <;> by_cases h2:a2=b2 <;> by_cases h3:a3=b3 <;> simp [h1,h2,h3]
theorem Dx {a b:List Change} (he:a.length=b.length) (hl:a.length≤1000000) {r:Bool} {A:Pr} (hA:CL codes sigs f60 [.bool] r A)
  (i:Nat) (hi:i≤a.length) (h:decide (a.drop i=b.drop i)=r):A (hd f60 0) (L60 a b i):=by
 refine hA.go (t60a a b i) (ah (fun h1=>?_) (fun h1=>?_))
 ·have h1:=oT h1
  have hil:i < a.length:=by omega
  have hib:i < b.length:=by omega
  rw [bb hil,bb hib,Lu]
  rw [dG hil,dG hib] at h
  refine ⟨⟨⟨by omega,by omega⟩,trivial⟩,⟨⟨by omega,by omega⟩,trivial⟩,ah (fun h2=>?_) (fun h2=>?_)⟩
  ·have e:¬ a[i]=b[i]:=by simpa using h2
   rw [dF (fun h=>e (hU h).1)] at h
   exact ⟨T2',h⟩
  ·have e:a[i]=b[i]:=by simpa using h2
   rw [e] at h
   rw [au (by omega)]
   exact Dx he hl hA (i+1) (by omega) (by rw [← h];exact cd.2 ⟨fun h=>by rw [h],fun h=>(hU h).2⟩)
 ·have h1:=oF h1
  rw [dN (by omega),dN (by omega)] at h
  exact ⟨T2',h⟩
termination_by a.length - i
theorem c60 {a b:List Change} (hl:a.length≤1000000):Pure prog 60 [⟨.sl .change,a⟩,⟨.sl .change,b⟩] [.bool] (decide (a=b)):=
 Pure.of_closed (C:=codes) (S:=sigs) mixed func60 (by kernel_rfl) (ac (by kernel_rfl)) fun A hA=>hA.go (t60 a b) (by
  refine ah (fun h1=>?_) (fun h1=>?_)
  ·have h1:¬ (a.length:Int)=(b.length:Int):=by simpa using h1
   exact ⟨T2',(dF (fun h=>h1 (by rw [h]))).symm⟩
  ·have h1:(a.length:Int)=(b.length:Int):=by simpa using h1
   exact Dx (by omega) hl hA 0 (by omega) rfl)
def tq:List Int→List Int→Int→Int
 | _,[],_ => -1
 | seen,x::l,i=>bif seen.elem x then i else tq (seen++[x]) l (i+1)
def nL (l:List Int):Int:=tq [] l 0
theorem Bb (l:List Int) (x y:Int):(l++[x]).elem y=(l.elem y || y==x):=by
 rw [eV]
 simp
theorem get_put (n x y:Int):∀ kvs:List (Int×Int),(ko n (lT x y kvs)).isSome=((ko n kvs).isSome || n==x)
 | [] => by
   by_cases h:x=n
   ·subst h;simp [lT,ko]
   ·have h1:(x==n)=false:=by simpa using h
    have h2:(n==x)=false:=by simpa using fun e=>h e.symm
    simp only [lT,ko,h1,h2,cF];rfl
 | kv :: kvs => by
   unfold lT
   by_cases h:kv.1=x
   ·subst h
    have:(kv.1==kv.1)=true:=by simp
    rw [this,cT]
    by_cases h2:kv.1=n
    ·subst h2;simp [ko]
    ·have h3:(kv.1==n)=false:=by simpa using h2
     have h4:(n==kv.1)=false:=by simpa using fun e=>h2 e.symm
     simp only [ko,h3,h4,cF,Bool.or_false]
   ·have:(kv.1==x)=false:=by simpa using h
    rw [this,cF]
    by_cases h2:kv.1=n
    ·subst h2;simp [ko]
    ·have h3:(kv.1==n)=false:=by simpa using h2
     simp only [ko,h3,cF]
     exact get_put n x y kvs
theorem ny {l:List Int} (hl:l.length≤1000000) {r:Int} {A:Pr} (hA:CL codes sigs f128 [.int] r A)
  (i:Nat) (hi:i≤l.length) (kvs:List (Int×Int)) (hk:∀ n,(ko n kvs).isSome=(l.take i).elem n) (h:tq (l.take i) (l.drop i) i=r):A (hd f128 0) (Bq kvs l i):=by
 refine hA.go (BT kvs l i) (ah (fun h1=>?_) (fun h1=>?_))
 ·have h1:=oT h1
  have hil:i < l.length:=by omega
  rw [bb hil,hk]
  rw [dG hil,tq] at h
  refine ⟨⟨⟨by omega,by omega⟩,trivial⟩,ah (fun h2=>⟨T2',?_⟩) (fun h2=>⟨T2',?_⟩)⟩
  ·rw [h2] at h;exact h
  ·rw [h2,cF] at h
   rw [au (by omega)]
   refine ny hl hA (i+1) (by omega) _ (fun n=>?_) (by rw [aY hil];exact h)
   rw [get_put,hk,aY hil,Bb]
 ·have h1:=oF h1
  rw [dN (by omega),tq] at h
  exact ⟨T2',h⟩
termination_by l.length - i
theorem Bk {l:List Int} (hl:l.length≤1000000):Pure prog 128 [⟨.sl .int,l⟩] [.int] (nL l):=
 Pure.of_closed (C:=codes) (S:=sigs) mixed func128 (by kernel_rfl) (ac (by kernel_rfl)) fun A hA=>hA.go (Iu l) (ny hl hA 0 (by omega) [] (fun n=>rfl) rfl)
theorem xC:∀ (l seen:List Int) (i:Int),0≤i→tq seen l i < i+(l.length:Int) ∧(-1≤tq seen l i)
 | [],seen,i,h=>by simp [tq];omega
 | x :: l, seen, i, h => by
   unfold tq
   have:=xC l (seen++[x]) (i+1) (by omega)
   cases seen.elem x
   ·rw [cF,ag];omega
   ·rw [cT,ag];omega
theorem By {l:List Int} (h:nL l≥0):nL l < (l.length:Int):=by
 have:=(xC l [] 0 (by omega)).1
 unfold nL at h ⊢
 omega
def tM (d:Deck):List Int→Resp
 | []=>gD 0 0
 | x::l=>bif fG d x==0 then gD 3 x else tM d l
def ur (d:Deck) (l:List Int):Resp:=bif (l.length:Int)==0 then gD 1 0 else bif decide ((l.length:Int) > 16) then gD 2 0 else bif decide (nL l≥0) then gD 152 (l.getD (nL l).toNat 0) else tM d l
theorem Dw {d:Deck} {l:List Int} (hl:l.length≤16) {r:Resp} {A:Pr} (hA:CL codes sigs f66 [.resp] r A)
  (i:Nat) (hi:i≤l.length) (h:tM d (l.drop i)=r):A (hd f66 0) (L66 d l i):=by
 refine hA.go (t66a d l i) (ah (fun h1=>?_) (fun h1=>?_))
 ·have h1:=oT h1
  have hil:i < l.length:=by omega
  rw [bb hil]
  rw [dG hil,tM] at h
  refine ⟨⟨⟨by omega,by omega⟩,trivial⟩,⟨T5',T2',trivial⟩,_,c68 d _,ah (fun h2=>⟨⟨T2',T2',trivial⟩,_,c69 _ _,T6',?_⟩) (fun h2=>?_)⟩
  ·rw [h2] at h;exact h
  ·rw [h2,cF] at h
   rw [au (by omega)]
   exact Dw hl hA (i+1) (by omega) h
 ·have h1:=oF h1
  rw [dN (by omega)] at h
  exact ⟨T6',h⟩
termination_by l.length - i
theorem c66 (d:Deck) (l:List Int):Pure prog 66 [⟨.deck,d⟩,⟨.sl .int,l⟩] [.resp] (ur d l):=
 Pure.of_closed (C:=codes) (S:=sigs) mixed func66 (by kernel_rfl) (ac (by kernel_rfl)) fun A hA=>hA.go (t66 d l) (by
  generalize hr:ur d l=r at hA ⊢
  unfold ur at hr
  refine ah (fun h=>⟨⟨T2',trivial⟩,_,c62 1,T6',by rw [h] at hr;exact hr⟩) (fun h1=>ah (fun h=>⟨⟨T2',trivial⟩,_,c62 2,T6',by rw [h1,h] at hr;exact hr⟩) (fun h2=>?_))
  have h2':=oF h2
  refine ⟨⟨T2',trivial⟩,_,Bk (by omega),ah (fun h=>?_) (fun h=>?_)⟩
  ·have ht:=By (oT h)
   refine ⟨⟨⟨oT h,ht⟩,trivial⟩,⟨T2',T2',trivial⟩,_,c69 _ _,T6',?_⟩
   rw [h1,h2,h] at hr;exact hr
  ·rw [h1,h2,h] at hr
   exact Dw (by omega) hA 0 (by omega) hr)
end Go.Proofs.Wn

namespace Go.Proofs.Wn
open Go.Proofs.Tryz
open Go Go.VL
abbrev wB (r:Req):List AV:=[i64 r.kind,.d (.sl .int r.ids),i64 r.a,i64 r.b,i64 r.ver,u64 r.vol]
abbrev DS (f:Flds):List AV:=[bZ f.ids,bZ f.a,bZ f.b,bZ f.ver,bZ f.vol]
theorem t67 (r:Req) (f:Flds):@Eq _ (yS prog codes sigs f67 0 100 [.agg (wB r),.agg (DS f)] [] 0) (.need True (.ret (GRes.mk [.clo (.func 129) [] [.ptr 0 0,.ptr 1 0]] [(0,.box (rC r)),(1,.box [.d (.v (.bool (Flds.ids f))),.d (.v (.bool (Flds.a f))),.d (.v (.bool (Flds.b f))),.d (.v (.bool (Flds.ver f))),.d (.v (.bool (Flds.vol f)))])] 2))):=by kernel_rfl
theorem t18 (d:Deck) (r:Req):@Eq _ (xS prog codes sigs f18 [.resp] 300 [⟨.deck,d⟩,⟨.req,r⟩]) (.need (U5∧True) (.callP 61 [⟨.deck,d⟩] [.int] fun (x:Int)=>bif x != 0 then .need (U2∧True) (.callP 62 [⟨.int,x⟩] [.resp] fun (x:Resp)=>.need U6 (.ret x)) else .need (U2∧True) (.callP 63 [⟨.int,r.kind⟩] [.flds] fun (x:Flds)=>bif decide (r.kind < 1) then .need (U2∧True) (.callP 62 [⟨.int,(150:Int)⟩] [.resp] fun (x:Resp)=>.need U6 (.ret x)) else bif decide (r.kind > 10) then .need (U2∧True) (.callP 62 [⟨.int,(150:Int)⟩] [.resp] fun (x:Resp)=>.need U6 (.ret x)) else .need (U7∧True) (.callP 64 [⟨.req,r⟩] [.flds] fun (x_1:Flds)=>.need (U6∧U6∧True) (.callP 65 [⟨.flds,x_1⟩,⟨.flds,x⟩] [.bool] fun (x_2:Bool)=>bif !x_2 then .need (U2∧True) (.callP 62 [⟨.int,(151:Int)⟩] [.resp] fun (x:Resp)=>.need U6 (.ret x)) else bif Flds.ids x then .need (U5∧U2∧True) (.callP 66 [⟨.deck,d⟩,⟨.sl .int,r.ids⟩] [.resp] fun (x:Resp)=>.need U6 (.ret x)) else .callG 67 [.agg (rC r),.agg [.d (.v (.bool (Flds.ids x))),.d (.v (.bool (Flds.a x))),.d (.v (.bool (Flds.b x))),.d (.v (.bool (Flds.ver x))),.d (.v (.bool (Flds.vol x)))]] [] 0 [] (fun (a:PUnit)=>GRes.mk [.clo (.func 129) [] [.ptr 0 0,.ptr 1 0]] [(0,.box (rC r)),(1,.box [.d (.v (.bool (Flds.ids x))),.d (.v (.bool (Flds.a x))),.d (.v (.bool (Flds.b x))),.d (.v (.bool (Flds.ver x))),.d (.v (.bool (Flds.vol x)))])] 2) fun (x_3:PUnit)=>.stop (rf f18 0) (mkS 76 [(2,.ptr 0 0),(3,.ptr 1 0),(4,.ptr 2 0),(6,.ptr 3 0),(46,.clo (.func 129) [] [.ptr 4 0,.ptr 5 0]),(47,.d (.v (.tuple (Array.mk [])))),(48,.d (.v (.tuple (Array.mk []))))] [(0,.box (dC d)),(1,.box (rC r)),(2,.box [i64 0,i64 0,i64 0,i64 0,nS]),(3,.box [.d (.v (.bool (Flds.ids x))),.d (.v (.bool (Flds.a x))),.d (.v (.bool (Flds.b x))),.d (.v (.bool (Flds.ver x))),.d (.v (.bool (Flds.vol x)))]),(4,.box (rC r)),(5,.box [.d (.v (.bool (Flds.ids x))),.d (.v (.bool (Flds.a x))),.d (.v (.bool (Flds.b x))),.d (.v (.bool (Flds.ver x))),.d (.v (.bool (Flds.vol x)))])] 6)))))):=by kernel_rfl
end Go.Proofs.Wn

namespace Go.Proofs.Wn
open Go.Proofs.Tryz
open Go Go.VL
def cQ:List AV:=[i64 0,i64 0,i64 0,i64 0,.d (.v (.slice none 0 0))]
def fe (x:Resp):List AV:=[i64 x.err,i64 x.id,i64 x.n,i64 x.ver,.d (.sl .change x.list)]
def H18 (d:Deck) (r:Req) (f:Flds) (x:List AV):Heap:=[(0,.box (Zn.cp d)),(1,.box (wB r)),(2,.box x),(3,.box (DS f)),(4,.box (wB r)),(5,.box (DS f))]
def Hd (l:Nat) (d:Deck) (r:Req) (f:Flds) (x:List AV):AS:=mkS 25 [(0,.clo (.yield l) [] []),(1,.ptr 4 0),(2,.ptr 5 0)] (H18 d r f x) 6
def BG:List AV:=(mkS 76 [(2,.ptr 0 0),(3,.ptr 1 0),(4,.ptr 2 0),(6,.ptr 3 0),(46,.clo (.func 129) [] [.ptr 4 0,.ptr 5 0]),(47,.d (.v (.tuple #[]))),(48,.d (.v (.tuple #[])))] [] 6).tmps
def R18 (d:Deck) (r:Req) (f:Flds) (i w:Int) (n:Nat):AS:=⟨(BG.set 47 (i64 i)).set 48 (i64 w),H18 d r f cQ,n⟩
def B18 (d:Deck) (r:Req) (f:Flds) (i w:Int) (n:Nat):AS:=mkS 76 [(2,.ptr 0 0),(4,.ptr 2 0),(7,i64 i),(8,i64 w)] (H18 d r f cQ) n
def K18 (d:Deck) (r:Req) (f:Flds) (x:List AV) (n:Nat):AS:=⟨BG,H18 d r f x,n⟩
def rtK (t:List Item):List Item:=.code .ret::rfK t
def JD (l:Nat) (d:Deck) (r:Req) (f:Flds) (w:Int):AS:=mkS 25 [(0,.clo (.yield l) [] []),(1,.ptr 4 0),(2,.ptr 5 0),(4,i64 w)] (H18 d r f cQ) 6
def Mg (l:Nat) (d:Deck) (r:Req) (f:Flds) (w:Int) (b:Bool) (n:Nat) (x:List AV):AS:=mkS 25 [(0,.clo (.yield l) [] []),(1,.ptr 4 0),(2,.ptr 5 0),(4,i64 w),(8,.ptr 5 1),(9,bZ true),(10,bZ true),(11,.clo (.yield l) [] []),(12,.ptr 4 2),(13,i64 r.a),(14,i64 w),(15,bZ b)] (H18 d r f x) n
def MF (l:Nat) (d:Deck) (r:Req) (f:Flds) (w:Int):AS:=mkS 25 [(0,.clo (.yield l) [] []),(1,.ptr 4 0),(4,i64 w)] (H18 d r f cQ) 6
def Mh (l:Nat) (d:Deck) (r:Req) (f:Flds) (w:Int) (b:Bool) (x:List AV):AS:=mkS 25 [(0,.clo (.yield l) [] []),(1,.ptr 4 0),(4,i64 w),(20,.clo (.yield l) [] []),(21,.ptr 4 3),(22,i64 r.b),(23,i64 w),(24,bZ b)] (H18 d r f x) 46
theorem KJ (l:Nat) (d:Deck) (r:Req) (f:Flds):@Eq (Out Unit) (bf prog codes sigs f129 (fun _ _=>none:Fin Unit) 6 ⟨[3],false⟩ 300 false (cq f129) (Hd l d r f cQ)) (bif r.kind==7 then .stop (rg f129 3) (mkS 25 [(0,.clo (.yield l) [] []),(1,.ptr 4 0),(2,.ptr 5 0),(4,i64 2)] [(0,.box (dC d)),(1,.box (rC r)),(2,.box [i64 0,i64 0,i64 0,i64 0,nS]),(3,.box [.d (.v (.bool (Flds.ids f))),.d (.v (.bool (Flds.a f))),.d (.v (.bool (Flds.b f))),.d (.v (.bool (Flds.ver f))),.d (.v (.bool (Flds.vol f)))]),(4,.box (rC r)),(5,.box [.d (.v (.bool (Flds.ids f))),.d (.v (.bool (Flds.a f))),.d (.v (.bool (Flds.b f))),.d (.v (.bool (Flds.ver f))),.d (.v (.bool (Flds.vol f)))])] 6) else .stop (rg f129 3) (mkS 25 [(0,.clo (.yield l) [] []),(1,.ptr 4 0),(2,.ptr 5 0),(4,i64 1)] [(0,.box (dC d)),(1,.box (rC r)),(2,.box [i64 0,i64 0,i64 0,i64 0,nS]),(3,.box [.d (.v (.bool (Flds.ids f))),.d (.v (.bool (Flds.a f))),.d (.v (.bool (Flds.b f))),.d (.v (.bool (Flds.ver f))),.d (.v (.bool (Flds.vol f)))]),(4,.box (rC r)),(5,.box [.d (.v (.bool (Flds.ids f))),.d (.v (.bool (Flds.a f))),.d (.v (.bool (Flds.b f))),.d (.v (.bool (Flds.ver f))),.d (.v (.bool (Flds.vol f)))])] 6)):=by kernel_rfl
theorem KI (l:Nat) (d:Deck) (r:Req) (fi fb fv fl:Bool) (w:Int):@Eq (Out Unit) (bf prog codes sigs f129 (fun _ _=>none:Fin Unit) 6 ⟨[5],true⟩ 300 true (rg f129 3) (JD l d r ⟨fi,true,fb,fv,fl⟩ w)) (.stop (inR f129 3 7) (mkS 25 [(0,.clo (.yield l) [] []),(1,.ptr 4 0),(2,.ptr 5 0),(4,i64 w),(8,.ptr 5 1),(9,.d (.v (.bool true))),(10,.d (.v (.bool true))),(11,.clo (.yield l) [] []),(12,.ptr 4 2),(13,i64 r.a),(14,i64 w)] [(0,.box (dC d)),(1,.box (rC r)),(2,.box [i64 0,i64 0,i64 0,i64 0,nS]),(3,.box [.d (.v (.bool fi)),.d (.v (.bool true)),.d (.v (.bool fb)),.d (.v (.bool fv)),.d (.v (.bool fl))]),(4,.box (rC r)),(5,.box [.d (.v (.bool fi)),.d (.v (.bool true)),.d (.v (.bool fb)),.d (.v (.bool fv)),.d (.v (.bool fl))])] 6)):=by kernel_rfl
theorem KH (l:Nat) (d:Deck) (r:Req) (fi fb fv fl:Bool) (w:Int):@Eq (Out Unit) (bf prog codes sigs f129 (fun _ _=>none:Fin Unit) 6 ⟨[5],true⟩ 300 true (rg f129 3) (JD l d r ⟨fi,false,false,fv,fl⟩ w)) (.stop [] (mkS 25 [] [(0,.box (dC d)),(1,.box (rC r)),(2,.box [i64 0,i64 0,i64 0,i64 0,nS]),(3,.box [.d (.v (.bool fi)),.d (.v (.bool false)),.d (.v (.bool false)),.d (.v (.bool fv)),.d (.v (.bool fl))]),(4,.box (rC r)),(5,.box [.d (.v (.bool fi)),.d (.v (.bool false)),.d (.v (.bool false)),.d (.v (.bool fv)),.d (.v (.bool fl))])] 6)):=by kernel_rfl
theorem KG (l:Nat) (d:Deck) (r:Req) (fi fb fv fl:Bool) (w:Int):@Eq (Out Unit) (bf prog codes sigs f129 (fun _ _=>none:Fin Unit) 6 ⟨[5],true⟩ 300 true (inR f129 3 8) (Mg l d r ⟨fi,true,fb,fv,fl⟩ w true 86 cQ)) (bif fb then .stop (rg f129 5) (mkS 25 [(0,.clo (.yield l) [] []),(1,.ptr 4 0),(4,i64 w)] [(0,.box (dC d)),(1,.box (rC r)),(2,.box [i64 0,i64 0,i64 0,i64 0,nS]),(3,.box [.d (.v (.bool fi)),.d (.v (.bool true)),.d (.v (.bool fb)),.d (.v (.bool fv)),.d (.v (.bool fl))]),(4,.box (rC r)),(5,.box [.d (.v (.bool fi)),.d (.v (.bool true)),.d (.v (.bool fb)),.d (.v (.bool fv)),.d (.v (.bool fl))])] 6) else .stop [] (mkS 25 [] [(0,.box (dC d)),(1,.box (rC r)),(2,.box [i64 0,i64 0,i64 0,i64 0,nS]),(3,.box [.d (.v (.bool fi)),.d (.v (.bool true)),.d (.v (.bool fb)),.d (.v (.bool fv)),.d (.v (.bool fl))]),(4,.box (rC r)),(5,.box [.d (.v (.bool fi)),.d (.v (.bool true)),.d (.v (.bool fb)),.d (.v (.bool fv)),.d (.v (.bool fl))])] 6)):=by kernel_rfl
theorem KE (l:Nat) (d:Deck) (r:Req) (fi fb fv fl:Bool) (w:Int) (x:Resp):@Eq (Out Unit) (bf prog codes sigs f129 (fun _ _=>none:Fin Unit) 6 ⟨[5],true⟩ 300 true (inR f129 3 8) (Mg l d r ⟨fi,true,fb,fv,fl⟩ w false 86 (fe x))) (.stop (rt f129 0) (mkS 25 [] [(0,.box (dC d)),(1,.box (rC r)),(2,.box (pC x)),(3,.box [.d (.v (.bool fi)),.d (.v (.bool true)),.d (.v (.bool fb)),.d (.v (.bool fv)),.d (.v (.bool fl))]),(4,.box (rC r)),(5,.box [.d (.v (.bool fi)),.d (.v (.bool true)),.d (.v (.bool fb)),.d (.v (.bool fv)),.d (.v (.bool fl))])] 6)):=by kernel_rfl
theorem KC (l:Nat) (d:Deck) (r:Req) (f:Flds) (w:Int) (x:Resp):@Eq (Out Unit) (bf prog codes sigs f129 (fun _ _=>none:Fin Unit) 6 ⟨[5],true⟩ 300 true (inR f129 5 5) (Mh l d r f w false (fe x))) (.stop [] (mkS 25 [] [(0,.box (dC d)),(1,.box (rC r)),(2,.box (pC x)),(3,.box [.d (.v (.bool (Flds.ids f))),.d (.v (.bool (Flds.a f))),.d (.v (.bool (Flds.b f))),.d (.v (.bool (Flds.ver f))),.d (.v (.bool (Flds.vol f)))]),(4,.box (rC r)),(5,.box [.d (.v (.bool (Flds.ids f))),.d (.v (.bool (Flds.a f))),.d (.v (.bool (Flds.b f))),.d (.v (.bool (Flds.ver f))),.d (.v (.bool (Flds.vol f)))])] 6)):=by kernel_rfl
theorem KB (l:Nat) (d:Deck) (r:Req) (f:Flds) (w:Int):@Eq (Out Unit) (bf prog codes sigs f129 (fun _ _=>none:Fin Unit) 6 ⟨[5],true⟩ 300 true (inR f129 5 5) (Mh l d r f w true cQ)) (.stop [] (mkS 25 [] [(0,.box (dC d)),(1,.box (rC r)),(2,.box [i64 0,i64 0,i64 0,i64 0,nS]),(3,.box [.d (.v (.bool (Flds.ids f))),.d (.v (.bool (Flds.a f))),.d (.v (.bool (Flds.b f))),.d (.v (.bool (Flds.ver f))),.d (.v (.bool (Flds.vol f)))]),(4,.box (rC r)),(5,.box [.d (.v (.bool (Flds.ids f))),.d (.v (.bool (Flds.a f))),.d (.v (.bool (Flds.b f))),.d (.v (.bool (Flds.ver f))),.d (.v (.bool (Flds.vol f)))])] 6)):=by kernel_rfl
theorem KD (l:Nat) (d:Deck) (r:Req) (f:Flds) (w:Int):@Eq (Out Unit) (bf prog codes sigs f129 (fun _ _=>none:Fin Unit) 6 ⟨[5],true⟩ 300 true (rg f129 5) (MF l d r f w)) (.stop (inR f129 5 4) (mkS 25 [(0,.clo (.yield l) [] []),(1,.ptr 4 0),(4,i64 w),(20,.clo (.yield l) [] []),(21,.ptr 4 3),(22,i64 r.b),(23,i64 w)] [(0,.box (dC d)),(1,.box (rC r)),(2,.box [i64 0,i64 0,i64 0,i64 0,nS]),(3,.box [.d (.v (.bool (Flds.ids f))),.d (.v (.bool (Flds.a f))),.d (.v (.bool (Flds.b f))),.d (.v (.bool (Flds.ver f))),.d (.v (.bool (Flds.vol f)))]),(4,.box (rC r)),(5,.box [.d (.v (.bool (Flds.ids f))),.d (.v (.bool (Flds.a f))),.d (.v (.bool (Flds.b f))),.d (.v (.bool (Flds.ver f))),.d (.v (.bool (Flds.vol f)))])] 6)):=by kernel_rfl
theorem t18r (d:Deck) (r:Req) (f:Flds) (i w:Int):@Eq (Out Unit) (bf prog codes sigs f18 (fun _ _=>none:Fin Unit) 86 ⟨[],true⟩ 300 true (rd f18 0) (R18 d r f i w 86)) (.stop (rb f18 0) (mkS 76 [(2,.ptr 0 0),(4,.ptr 2 0),(7,i64 i),(8,i64 w)] [(0,.box (dC d)),(1,.box (rC r)),(2,.box [i64 0,i64 0,i64 0,i64 0,nS]),(3,.box [.d (.v (.bool (Flds.ids f))),.d (.v (.bool (Flds.a f))),.d (.v (.bool (Flds.b f))),.d (.v (.bool (Flds.ver f))),.d (.v (.bool (Flds.vol f)))]),(4,.box (rC r)),(5,.box [.d (.v (.bool (Flds.ids f))),.d (.v (.bool (Flds.a f))),.d (.v (.bool (Flds.b f))),.d (.v (.bool (Flds.ver f))),.d (.v (.bool (Flds.vol f)))])] 86)):=by kernel_rfl
theorem t18s (d:Deck) (r:Req) (f:Flds) (i w:Int):@Eq (Out Unit) (bf prog codes sigs f18 (fun _ _=>none:Fin Unit) 46 ⟨[],true⟩ 300 true (rd f18 0) (R18 d r f i w 46)) (.stop (rb f18 0) (mkS 76 [(2,.ptr 0 0),(4,.ptr 2 0),(7,i64 i),(8,i64 w)] [(0,.box (dC d)),(1,.box (rC r)),(2,.box [i64 0,i64 0,i64 0,i64 0,nS]),(3,.box [.d (.v (.bool (Flds.ids f))),.d (.v (.bool (Flds.a f))),.d (.v (.bool (Flds.b f))),.d (.v (.bool (Flds.ver f))),.d (.v (.bool (Flds.vol f)))]),(4,.box (rC r)),(5,.box [.d (.v (.bool (Flds.ids f))),.d (.v (.bool (Flds.a f))),.d (.v (.bool (Flds.b f))),.d (.v (.bool (Flds.ver f))),.d (.v (.bool (Flds.vol f)))])] 46)):=by kernel_rfl
theorem t18c (d:Deck) (r:Req) (f:Flds) (i w:Int):@Eq (Out Unit) (bf prog codes sigs f18 (fun _ _=>none:Fin Unit) 86 ⟨[],true⟩ 300 true (List.tail (rb f18 0)) (B18 d r f i w 86)) (.need (U5∧U2∧True) (.callP 68 [⟨.deck,d⟩,⟨.int,i⟩] [.int] fun (x:Int)=>bif x != w then .need (U2∧U2∧True) (.callP 69 [⟨.int,(3:Int)⟩,⟨.int,i⟩] [.resp] fun (x:Resp)=>.stop [Item.code Code.ret,Item.inBlock 2] (mkS 76 [(4,.ptr 2 0)] [(0,.box (dC d)),(1,.box (rC r)),(2,.box (pC x)),(3,.box [.d (.v (.bool (Flds.ids f))),.d (.v (.bool (Flds.a f))),.d (.v (.bool (Flds.b f))),.d (.v (.bool (Flds.ver f))),.d (.v (.bool (Flds.vol f)))]),(4,.box (rC r)),(5,.box [.d (.v (.bool (Flds.ids f))),.d (.v (.bool (Flds.a f))),.d (.v (.bool (Flds.b f))),.d (.v (.bool (Flds.ver f))),.d (.v (.bool (Flds.vol f)))])] 86)) else .stop [] (mkS 76 [(4,.ptr 2 0)] [(0,.box (dC d)),(1,.box (rC r)),(2,.box [i64 0,i64 0,i64 0,i64 0,nS]),(3,.box [.d (.v (.bool (Flds.ids f))),.d (.v (.bool (Flds.a f))),.d (.v (.bool (Flds.b f))),.d (.v (.bool (Flds.ver f))),.d (.v (.bool (Flds.vol f)))]),(4,.box (rC r)),(5,.box [.d (.v (.bool (Flds.ids f))),.d (.v (.bool (Flds.a f))),.d (.v (.bool (Flds.b f))),.d (.v (.bool (Flds.ver f))),.d (.v (.bool (Flds.vol f)))])] 86))):=by kernel_rfl
theorem t18d (d:Deck) (r:Req) (f:Flds) (i w:Int):@Eq (Out Unit) (bf prog codes sigs f18 (fun _ _=>none:Fin Unit) 46 ⟨[],true⟩ 300 true (List.tail (rb f18 0)) (B18 d r f i w 46)) (.need (U5∧U2∧True) (.callP 68 [⟨.deck,d⟩,⟨.int,i⟩] [.int] fun (x:Int)=>bif x != w then .need (U2∧U2∧True) (.callP 69 [⟨.int,(3:Int)⟩,⟨.int,i⟩] [.resp] fun (x:Resp)=>.stop [Item.code Code.ret,Item.inBlock 2] (mkS 76 [(4,.ptr 2 0)] [(0,.box (dC d)),(1,.box (rC r)),(2,.box (pC x)),(3,.box [.d (.v (.bool (Flds.ids f))),.d (.v (.bool (Flds.a f))),.d (.v (.bool (Flds.b f))),.d (.v (.bool (Flds.ver f))),.d (.v (.bool (Flds.vol f)))]),(4,.box (rC r)),(5,.box [.d (.v (.bool (Flds.ids f))),.d (.v (.bool (Flds.a f))),.d (.v (.bool (Flds.b f))),.d (.v (.bool (Flds.ver f))),.d (.v (.bool (Flds.vol f)))])] 46)) else .stop [] (mkS 76 [(4,.ptr 2 0)] [(0,.box (dC d)),(1,.box (rC r)),(2,.box [i64 0,i64 0,i64 0,i64 0,nS]),(3,.box [.d (.v (.bool (Flds.ids f))),.d (.v (.bool (Flds.a f))),.d (.v (.bool (Flds.b f))),.d (.v (.bool (Flds.ver f))),.d (.v (.bool (Flds.vol f)))]),(4,.box (rC r)),(5,.box [.d (.v (.bool (Flds.ids f))),.d (.v (.bool (Flds.a f))),.d (.v (.bool (Flds.b f))),.d (.v (.bool (Flds.ver f))),.d (.v (.bool (Flds.vol f)))])] 46))):=by kernel_rfl
theorem t18k (d:Deck) (r:Req) (f:Flds) (n:Nat):@Eq (Out (bc [.resp])) (bf prog codes sigs f18 (bh [.resp]) 6 eU 300 true (rfK (rf f18 0)) (K18 d r f cQ n)) (bif Flds.b f then bif r.a==r.b then .need (U2∧True) (.callP 62 [⟨.int,(1:Int)⟩] [.resp] fun (x:Resp)=>.need U6 (.ret x)) else bif Flds.vol f then .need (U7∧True) (.callP 15 [⟨.req,r⟩] [.int,.int] fun (x:Int×Int)=>.need (U2∧True) (.callP 62 [⟨.int,x.2⟩] [.resp] fun (x:Resp)=>.need U6 (.ret x))) else .need U6 (.ret (Resp.mk (0:Int) (0:Int) (0:Int) (0:Int) [])) else bif Flds.vol f then .need (U7∧True) (.callP 15 [⟨.req,r⟩] [.int,.int] fun (x:Int×Int)=>.need (U2∧True) (.callP 62 [⟨.int,x.2⟩] [.resp] fun (x:Resp)=>.need U6 (.ret x))) else .need U6 (.ret (Resp.mk (0:Int) (0:Int) (0:Int) (0:Int) []))):=by kernel_rfl
theorem Kl (d:Deck) (r:Req) (f:Flds) (x:Resp) (n:Nat):@Eq (Out (bc [.resp])) (bf prog codes sigs f18 (bh [.resp]) 6 eU 300 true (rtK (rf f18 0)) (K18 d r f (fe x) n)) (.need U6 (.ret x)):=by kernel_rfl
end Go.Proofs.Wn

/- A request held against the deck: want.Check. (Own work.) -/
namespace Go.Proofs.Wn
open Go.Proofs.Tryz
open Go Go.VL
open Zn (dc)
theorem c67 (r:Req) (f:Flds):Gc prog 67 [.agg (wB r),.agg (DS f)] [] 0 (ve [.agg (wB r),.agg (DS f)] [] ()):=
 Gc.of_closed (C:=codes) (S:=sigs) mixed func67 (by kernel_rfl) (fun i T t ys hi _=>absurd hi (bA _)) fun A hA=>
  hA.go (t67 r f) ⟨trivial,.of_eq rfl⟩
def iu (r:Req):Int:=bif r.kind==7 then 2 else 1
def IW (r:Req) (f:Flds):Resp:=bif f.b && r.a==r.b then gD 1 0 else bif f.vol then gD (eI r).2 0 else gD 0 0
def nU (d:Deck) (r:Req) (f:Flds):Resp:=bif f.a && (fG d r.a != iu r) then gD 3 r.a else bif f.b && (fG d r.b != iu r) then gD 3 r.b else IW r f
def il (d:Deck) (r:Req):Resp:=bif dc d != 0 then gD (dc d) 0 else bif decide (r.kind < 1) || decide (r.kind > 10) then gD 150 0 else bif !tl (IV r) (flS r.kind) then gD 151 0 else bif (flS r.kind).ids then ur d r.ids else nU d r (flS r.kind)
theorem ow {d:Deck} {r:Req} {f:Flds} {x:List AV} {H:Heap} {n:Nat}:RowsLe n H (H18 d r f x):=by
 intro i T t xs hi hx
 match i,hx with
 | 0,hx=>cases hx
 | 1,hx=>cases hx
 | 2,hx=>cases hx
 | 3,hx=>cases hx
 | 4,hx=>cases hx
 | 5,hx=>cases hx
 | i+6,hx=>cases hx
def yOK (todo:List Item) (dst yt a b:Tmp):Bool:=match FP todo with
 | some o => (o.dst == some dst) && (match ul o with
   | some (.tmp y, args) => (match args.toList with
     | [.tmp z,.tmp u]=>y==yt && (z==a && u==b)
     | _=>false)
   | _=>false)
 | none=>false
theorem IE {todo:List Item} {dst yt a b:Tmp} (h:yOK todo dst yt a b=true):∃ o args,FP todo=some o∧o.dst=some dst∧ul o=some (.tmp yt,args)∧args.toList=[.tmp a,.tmp b]:=by
 unfold yOK at h
 split at h
 ·rename_i o ho
  simp only [aR] at h
  obtain ⟨hd,hc⟩:=h
  split at hc
  ·rename_i y args hcall
   split at hc
   ·rename_i z u hz
    simp only [aR,bW] at hc
    obtain ⟨rfl,rfl,rfl⟩:=hc
    exact ⟨o,args,ho,by simpa using hd,hcall,hz⟩
   ·cases hc
  ·cases hc
 ·cases h
def wOK (todo:List Item) (s:AS):Bool:=match FP todo with
 | some o=>lB (lq todo) o s
 | none=>false
abbrev GG (l:Nat) (d:Deck) (r:Req) (f:Flds) (done:Heap→Nat→Prop) (doneJ:Code→Heap→Nat→Prop) (A:List Item→AS→Prop):Prop:=
 ClG prog codes sigs f129 f18 6 l (H18 d r f cQ) (rfP (rf f18 0)) (rfA (rf f18 0)) (rfB (rf f18 0)) BG done doneJ A
theorem yld {l:Nat} {d:Deck} {r:Req} {f:Flds} {i w:Int} {done:Heap→Nat→Prop} {doneJ:Code→Heap→Nat→Prop} {A:List Item→AS→Prop}
  (hG:GG l d r f done doneJ A) (todo:List Item) (tm:List AV) (dst yt a b:Tmp) (n:Nat) (hn:6+8 * (lq todo).size=n) (hin:DI todo=true) (hy:yOK todo dst yt a b=true) (hw:wOK todo ⟨tm,H18 d r f cQ,6⟩=true)
  (hev:tm.getD yt .dead=.clo (.yield l) [] []) (hea:tm.getD a .dead=i64 i) (heb:tm.getD b .dead=i64 w)
  (h18:∀ Ar,ClB prog codes sigs f18 n (fun s2=>RowsLe n (H18 d r f cQ) s2.H∧A (lr todo) ⟨tm.set dst (bZ true),s2.H,s2.next⟩)
   (fun j s2=>RowsLe n (H18 d r f cQ) s2.H∧∀ Ad,ClD prog codes sigs f129 6 (doneJ j) Ad→Ad (lr todo) ⟨tm.set dst (bZ false),s2.H,s2.next⟩) Ar→Ar (rd f18 0) (R18 d r f i w n)):A todo ⟨tm,H18 d r f cQ,6⟩:=by
 obtain ⟨o,args,ho,hds,hc,ha⟩:=IE hy
 have hsz:args.size=(rfP (rf f18 0)).size:=by
  have e1:args.size=2:=by rw [← ba,ha];rfl
  have e2:(rfP (rf f18 0)).size=2:=by kernel_rfl
  rw [e1,e2]
 have hg:lB (lq todo) o ⟨tm,H18 d r f cQ,6⟩=true:=by
  unfold wOK at hw;rw [ho] at hw;exact hw
 refine hG.at todo ⟨tm,H18 d r f cQ,6⟩ o (.tmp yt) args hin ho hg hc hev hsz ow (aH _) (fun Ar hAr=>?_)
 rw [ha]
 have e2:[Operand.tmp a,Operand.tmp b].map (⟨tm,H18 d r f cQ,6⟩:AS).ev=[i64 i,i64 w]:=by rw [← hea,← heb];rfl
 have e3:mV BG (rfP (rf f18 0)).toList [i64 i,i64 w]=(R18 d r f i w n).tmps:=by kernel_rfl
 rw [e2,e3]
 rw [hds] at hAr
 subst hn
 exact h18 Ar hAr
theorem JE {l:Nat} {d:Deck} {r:Req} {f:Flds} {i w:Int} {done:Heap→Nat→Prop} {doneJ:Code→Heap→Nat→Prop} {A:List Item→AS→Prop}
  (hG:GG l d r f done doneJ A) (todo:List Item) (tm:List AV) (dst yt a b:Tmp) (hn:6+8 * (lq todo).size=86) (hin:DI todo=true) (hy:yOK todo dst yt a b=true) (hw:wOK todo ⟨tm,H18 d r f cQ,6⟩=true)
  (hev:tm.getD yt .dead=.clo (.yield l) [] []) (hea:tm.getD a .dead=i64 i) (heb:tm.getD b .dead=i64 w)
  (hgood:fG d i=w→A (lr todo) ⟨tm.set dst (bZ true),H18 d r f cQ,86⟩)
  (hbad:fG d i≠w→∀ Ad,ClD prog codes sigs f129 6 (doneJ .ret) Ad→Ad (lr todo) ⟨tm.set dst (bZ false),H18 d r f (fe (gD 3 i)),86⟩):A todo ⟨tm,H18 d r f cQ,6⟩:=by
 refine yld hG todo tm dst yt a b 86 hn hin hy hw hev hea heb (fun Ar hAr=>hAr.cl.go (t18r d r f i w) ?_)
 show Ar (.beginRound::[.code (rfB (rf f18 0))]) (B18 d r f i w 86)
 refine hAr.begin' _ _ (fun A3 hA3=>hA3.cl.go (t18c d r f i w) ⟨⟨Zn.T5',T2',trivial⟩,_,c68 d i,ah (fun h=>⟨⟨T2',T2',trivial⟩,_,c69 3 i,?_⟩) (fun h=>?_)⟩)
 ·exact hA3.ret _ _ ⟨ow (x:=fe (gD 3 i)),hbad (by simpa using h)⟩
 ·exact hA3.fine _ ⟨ow (x:=cQ),hgood (by simpa using h)⟩
theorem JF {l:Nat} {d:Deck} {r:Req} {f:Flds} {i w:Int} {done:Heap→Nat→Prop} {doneJ:Code→Heap→Nat→Prop} {A:List Item→AS→Prop}
  (hG:GG l d r f done doneJ A) (todo:List Item) (tm:List AV) (dst yt a b:Tmp) (hn:6+8 * (lq todo).size=46) (hin:DI todo=true) (hy:yOK todo dst yt a b=true) (hw:wOK todo ⟨tm,H18 d r f cQ,6⟩=true)
  (hev:tm.getD yt .dead=.clo (.yield l) [] []) (hea:tm.getD a .dead=i64 i) (heb:tm.getD b .dead=i64 w)
  (hgood:fG d i=w→A (lr todo) ⟨tm.set dst (bZ true),H18 d r f cQ,46⟩)
  (hbad:fG d i≠w→∀ Ad,ClD prog codes sigs f129 6 (doneJ .ret) Ad→Ad (lr todo) ⟨tm.set dst (bZ false),H18 d r f (fe (gD 3 i)),46⟩):A todo ⟨tm,H18 d r f cQ,6⟩:=by
 refine yld hG todo tm dst yt a b 46 hn hin hy hw hev hea heb (fun Ar hAr=>hAr.cl.go (t18s d r f i w) ?_)
 show Ar (.beginRound::[.code (rfB (rf f18 0))]) (B18 d r f i w 46)
 refine hAr.begin' _ _ (fun A3 hA3=>hA3.cl.go (t18d d r f i w) ⟨⟨Zn.T5',T2',trivial⟩,_,c68 d i,ah (fun h=>⟨⟨T2',T2',trivial⟩,_,c69 3 i,?_⟩) (fun h=>?_)⟩)
 ·exact hA3.ret _ _ ⟨ow (x:=fe (gD 3 i)),hbad (by simpa using h)⟩
 ·exact hA3.fine _ ⟨ow (x:=cQ),hgood (by simpa using h)⟩
theorem Iz {l:Nat} {d:Deck} {r:Req} {f:Flds} (hab:f.b=true→f.a=true) {done:Heap→Nat→Prop} {doneJ:Code→Heap→Nat→Prop} {A:List Item→AS→Prop} (hG:GG l d r f done doneJ A)
  (hok:(f.a && (fG d r.a != iu r))=false→(f.b && (fG d r.b != iu r))=false→done (H18 d r f cQ) 6)
  (hba:(f.a && (fG d r.a != iu r))=true→doneJ .ret (H18 d r f (fe (gD 3 r.a))) 6)
  (hbb:(f.a && (fG d r.a != iu r))=false→(f.b && (fG d r.b != iu r))=true→doneJ .ret (H18 d r f (fe (gD 3 r.b))) 6):A (cq f129) (Hd l d r f cQ):=by
 have key:∀ w,w=iu r→A (rg f129 3) (JD l d r f w):=by
  intro w hw
  obtain ⟨fi,fa,fb,fv,fl⟩:=f
  cases fa with
  | false => cases fb with
    | true=>exact absurd (show false=true from hab rfl) (by decide)
    | false=>exact hG.cl.go (KH l d r fi false fv fl w) (hG.ret [] _ (.inl rfl) (hok rfl rfl))
  | true =>
    refine hG.cl.go (KI l d r fi fb fv fl w) ?_
    refine JE (i:=r.a) (w:=w) hG (inR f129 3 7) _ 15 11 13 14 (by kernel_rfl) (by kernel_rfl) (by kernel_rfl) (by kernel_rfl) (by kernel_rfl) (by kernel_rfl) (by kernel_rfl) (fun hk=>?_) (fun hk Ad hAd=>?_)
    ·have ha:(fG d r.a != iu r)=false:=by rw [hk,hw];simp
     refine hG.cl.go (KG l d r fi fb fv fl w) ?_
     cases fb with
     | false=>exact hG.ret [] _ (.inl rfl) (hok ha rfl)
     | true =>
       refine hG.cl.go (KD l d r ⟨fi,true,true,fv,fl⟩ w) ?_
       refine JF (i:=r.b) (w:=w) hG (inR f129 5 4) _ 24 20 22 23 (by kernel_rfl) (by kernel_rfl) (by kernel_rfl) (by kernel_rfl) (by kernel_rfl) (by kernel_rfl) (by kernel_rfl) (fun hk2=>?_) (fun hk2 Ad hAd=>?_)
       ·have hb:(fG d r.b != iu r)=false:=by rw [hk2,hw];simp
        exact hG.cl.go (KB l d r ⟨fi,true,true,fv,fl⟩ w) (hG.ret [] _ (.inl rfl) (hok ha hb))
       ·have hb:(fG d r.b != iu r)=true:=by rw [← hw];simpa using hk2
        exact hAd.cl.go (KC l d r ⟨fi,true,true,fv,fl⟩ w (gD 3 r.b)) (hAd.ret [] _ (.inl rfl) (hbb ha hb))
    ·have ha:(fG d r.a != iu r)=true:=by rw [← hw];simpa using hk
     refine hAd.cl.go (KE l d r fi fb fv fl w (gD 3 r.a)) (hAd.ret (rt f129 0) _ (.inr ⟨List.tail (rt f129 0),by kernel_rfl⟩) (hba ha))
 exact hG.cl.go (KJ l d r f) (ah (fun h=>key 2 (by unfold iu;rw [h];rfl)) (fun h=>key 1 (by unfold iu;rw [h];rfl)))
theorem Ls (k:Int):(flS k).b=true→(flS k).a=true:=by
 unfold flS
 generalize (k==1)=b1
 generalize (k==2)=b2
 generalize (k==4)=b4
 generalize (k==5)=b5
 generalize (k==6)=b6
 generalize (k==7)=b7
 generalize (k==9)=b9
 generalize (k==10)=b10
 revert b1 b2 b4 b5 b6 b7 b9 b10
 decide
abbrev T7':True∧True∧True∧True∧True∧True∧True:=⟨trivial,trivial,trivial,trivial,trivial,trivial,trivial⟩
theorem Lt {d:Deck} {r:Req} (h0:0≤r.vol) (hv:r.vol < 18446744073709551616) (f:Flds) {A2:List Item→AS→Prop} {y:Resp} (hy:IW r f=y) (hA2:Closed prog codes sigs f18 (bh [.resp]) (fun x=>x=y) 6 A2) (m:Nat):A2 (rfK (rf f18 0)) ⟨BG,H18 d r f cQ,m⟩:=by
 show A2 (rfK (rf f18 0)) (K18 d r f cQ m)
 refine hA2.go (t18k d r f m) ?_
 unfold IW at hy
 refine ah (fun h=>?_) (fun h=>?_)
 ·rw [h] at hy
  refine ah (fun h2=>?_) (fun h2=>?_)
  ·rw [h2] at hy;exact ⟨⟨T2',trivial⟩,_,c62 1,T6',hy⟩
  ·rw [h2] at hy
   refine ah (fun h3=>?_) (fun h3=>?_)
   ·rw [h3] at hy;exact ⟨⟨T7',trivial⟩,_,c15 h0 hv,⟨T2',trivial⟩,_,c62 _,T6',hy⟩
   ·rw [h3] at hy;exact ⟨T6',hy⟩
 ·rw [h] at hy
  refine ah (fun h3=>?_) (fun h3=>?_)
  ·rw [h3] at hy;exact ⟨⟨T7',trivial⟩,_,c15 h0 hv,⟨T2',trivial⟩,_,c62 _,T6',hy⟩
  ·rw [h3] at hy;exact ⟨T6',hy⟩
theorem rf18 {d:Deck} {r:Req} (h0:0≤r.vol) (hv:r.vol < 18446744073709551616) {f:Flds} (hab:f.b=true→f.a=true) {y:Resp} (hy:nU d r f=y) {A:List Item→AS→Prop} (hA:ClosedR prog codes sigs f18 (bh [.resp]) (fun x=>x=y) 0 A):A (rf f18 0) (K18 d r f cQ 6):=by
 obtain ⟨gc,hgc⟩:∃ gc,f129.body=some gc:=bC.1 (by kernel_rfl)
 refine hA.at (rf f18 0) (K18 d r f cQ 6) 129 f129 gc [] [.ptr 4 0,.ptr 5 0] (by kernel_rfl) (by kernel_rfl) func129 hgc (by kernel_rfl) (by kernel_rfl) (be _) (fun l A' hG=>?_)
 have e1:(Hd l d r f cQ).tmps=.clo (.yield l) [] []::.ptr 4 0::.ptr 5 0::List.replicate 22 .dead:=by kernel_rfl
 have e2:([]++.clo (.yield l) [] []::[.ptr 4 0,.ptr 5 0]++List.replicate (f129.ntmps - (([]:List AV).length+1+[AV.ptr 4 0,AV.ptr 5 0].length)) (.d (.v undef)):List AV)=.clo (.yield l) [] []::.ptr 4 0::.ptr 5 0::List.replicate 22 (.d (.v undef)):=by kernel_rfl
 rw [e2]
 refine hG.cl.le (cq f129) _ (Hd l d r f cQ) (by kernel_rfl) ⟨by rw [e1];rfl,?_,?_,aH _⟩ ?_
 ·intro i a c ha hc
  rw [e1] at hc
  match i with
  | 0=>cases ha;cases hc;exact .refl _ _
  | 1=>cases ha;cases hc;exact .refl _ _
  | 2=>cases ha;cases hc;exact .refl _ _
  | i + 3 =>
    have hc:(List.replicate 22 AV.dead)[i]?=some c:=hc
    rw [cY] at hc
    split at hc
    ·cases hc;exact .dead _ _
    ·cases hc
 ·intro k b' hb'
  refine ⟨b',hb',.refl _ _⟩
 refine Iz hab hG (fun h1 h2=>⟨ow,fun A2 hA2=>?_⟩) (fun h1=>⟨ow,fun A2 hA2=>?_⟩) (fun h1 h2=>⟨ow,fun A2 hA2=>?_⟩)
 ·exact Lt h0 hv f (y:=y) (by rw [← hy,nU,h1,h2];rfl) hA2 6
 ·show A2 (rtK (rf f18 0)) (K18 d r f (fe (gD 3 r.a)) 6)
  exact Closed.go hA2 (Kl d r f (gD 3 r.a) 6) ⟨T6',by rw [← hy,nU,h1];rfl⟩
 ·show A2 (rtK (rf f18 0)) (K18 d r f (fe (gD 3 r.b)) 6)
  exact Closed.go hA2 (Kl d r f (gD 3 r.b) 6) ⟨T6',by rw [← hy,nU,h1,h2];rfl⟩
theorem c18 {d:Deck} {r:Req} (h0:0≤r.vol) (hv:r.vol < 18446744073709551616):Pure prog 18 [⟨.deck,d⟩,⟨.req,r⟩] [.resp] (il d r):=
 Pure.of_closedR (C:=codes) (S:=sigs) mixed func18 (by kernel_rfl) (ac (by kernel_rfl)) fun A hA=>hA.cl.go (t18 d r) (by
  have hy:∃ y,il d r=y:=⟨_,rfl⟩
  obtain ⟨y,hy⟩:=hy
  rw [hy] at hA ⊢
  unfold il at hy
  refine ⟨⟨Zn.T5',trivial⟩,_,Zn.c47 d,ah (fun h=>?_) (fun h=>?_)⟩
  ·rw [h] at hy;exact ⟨⟨T2',trivial⟩,_,c62 _,T6',hy⟩
  rw [h] at hy
  refine ⟨⟨T2',trivial⟩,_,c63 _,ah (fun h1=>?_) (fun h1=>?_)⟩
  ·rw [h1] at hy;exact ⟨⟨T2',trivial⟩,_,c62 _,T6',hy⟩
  rw [h1] at hy
  refine ah (fun h2=>?_) (fun h2=>?_)
  ·rw [h2] at hy;exact ⟨⟨T2',trivial⟩,_,c62 _,T6',hy⟩
  rw [h2] at hy
  refine ⟨⟨T7',trivial⟩,_,c64 r,⟨T6',T6',trivial⟩,_,c65 _ _,ah (fun h3=>?_) (fun h3=>?_)⟩
  ·rw [h3] at hy;exact ⟨⟨T2',trivial⟩,_,c62 _,T6',hy⟩
  rw [h3] at hy
  refine ah (fun h4=>?_) (fun h4=>?_)
  ·rw [h4] at hy;exact ⟨⟨Zn.T5',T2',trivial⟩,_,c66 d r.ids,T6',hy⟩
  rw [h4] at hy
  exact ⟨(),c67 r (flS r.kind),rf18 h0 hv (Ls r.kind) hy hA⟩)
end Go.Proofs.Wn

/- A request held against the deck: the other Check. (Own work.) -/
namespace Go.Proofs.Wn
open Go.Proofs.Tryz
open Go Go.VL
open Zn (dc)
theorem c70 (d:Deck):Pure prog 70 [⟨.deck,d⟩] [.int] (dc d):=ofT func70 (t70 d) (by kernel_rfl) (by kernel_rfl) fun _=>⟨⟨Zn.T5',trivial⟩,_,Zn.c46 d,T2',rfl⟩
end Go.Proofs.Wn

/- What a request must lock: contracts. (Own work.) -/
namespace Go.Proofs.Wn
open Go.Proofs.Tryz
open Go Go.VL Go.Proofs.Zn
theorem Ag (d:Deck) (a b:Int):iY (mW d a b).1:=by
 unfold mW
 cases (dl d [a,b]).2 != 0
 ·exact qx _ _
 ·exact .nil
theorem wI (d:Deck) (l:List Int):iY (gO d l).1:=by
 unfold gO
 cases (dl d l).2 != 0
 ·exact mt _ _
 ·exact .nil
theorem vd (d:Deck) (a b:Int):(mW d a b).1.length≤24:=by
 unfold mW
 cases h:(dl d [a,b]).2 != 0
 ·have h0:(dl d [a,b]).2=0:=by simpa using h
  obtain ⟨g1,g2,g3⟩:=mQ h0
  obtain ⟨x,y,e⟩:=uC g3
  rw [e] at g2 ⊢
  exact oe (jZ h0) (Bu (g2 x (by simp)) (g2 y (by simp)))
 ·simp
theorem si (d:Deck) (a:Int):(gO d [a]).1.length≤24:=by
 unfold gO
 cases h:(dl d [a]).2 != 0
 ·have h0:(dl d [a]).2=0:=by simpa using h
  obtain ⟨g1,g2,g3⟩:=mQ h0
  have:=sh (jZ h0) (l:=(dl d [a]).1) g2 []
  have h3:(dl d [a]).1.length=1:=g3
  rw [h3] at this
  exact this
 ·simp
theorem xg {l:List Int} (hl:iY l) (a b:Int):dx l (gj [a,b])=fg (fg l a) b:=by
 refine jO (ge hl) (kP (kP hl)) fun n=>?_
 rw [gP,mY,mZ,mZ]
 simp only [aL,List.not_mem_nil,lA]
 constructor
 ·rintro (h | h | h)
  ·exact .inr (.inr h)
  ·exact .inr (.inl h)
  ·exact .inl h
 ·rintro (h | h | h)
  ·exact .inr (.inr h)
  ·exact .inr (.inl h)
  ·exact .inl h
theorem CE (a:Int):iY [a]:=kP (l:=[]) .nil
def vo (d:Deck) (r:Req):List Int:=bif r.kind==2 then gj r.ids else bif r.kind==4 then fg (fg (mW d r.a r.b).1 r.a) r.b else bif r.kind==5 then fg (gO d [r.a]).1 r.a else bif r.kind==6 then fg (gO d [r.a]).1 r.a else bif r.kind==7 then fg (gO d [r.a]).1 r.a else []
def sj (d:Deck) (r:Req):List Int:=bif (il d r).err != 0 then [] else vo d r
theorem c75 {d:Deck} {r:Req} (h0:0≤r.vol) (hv:r.vol < 18446744073709551616):Pure prog 75 [⟨.deck,d⟩,⟨.req,r⟩] [.bool] ((il d r).err==0):=ofT func75 (t75 d r) (by kernel_rfl) (by kernel_rfl) fun _=>⟨⟨Zn.T5',T7',trivial⟩,_,c18 h0 hv,T2',rfl⟩
theorem Bp {l:List Int} (hl:iY l) (a:Int):cG true true true l [a]=fg l a:=kx hl (CE a)
theorem Bo {l:List Int} (hl:iY l) (a b:Int):cG true true true l (gj [a,b])=fg (fg l a) b:=by rw [kx hl (jN _),xg hl]
theorem c76 {d:Deck} {r:Req} (hl:r.ids.length≤1000):Pure prog 76 [⟨.deck,d⟩,⟨.req,r⟩] [.sl .int] (vo d r):=
 ofT func76 (t76 d r) (by kernel_rfl) (by kernel_rfl) fun _=>by
  unfold vo
  have l1:=vd d r.a r.b
  have l2:=si d r.a
  have k (y:List Int) (hy:y=fg (gO d [r.a]).1 r.a):Pure prog 134 [⟨.sl .int,(gO d [r.a]).1⟩,⟨.sl .int,[r.a]⟩] [.sl .int] y:=hy ▸ (uo (a:=(gO d [r.a]).1) (b:=[r.a]) (by omega) (by simp)).eq (Bp (wI d [r.a]) r.a)
  refine ah (fun h=>?_) (fun h=>?_)
  ·rw [h];exact ⟨⟨T2',trivial⟩,_,xq (by omega),T2',rfl⟩
  rw [h,cF]
  refine ah (fun h=>?_) (fun h=>?_)
  ·rw [h];exact ⟨⟨Zn.T5',T2',T2',trivial⟩,_,c53 d r.a r.b,⟨T2',T2',trivial⟩,⟨T2',trivial⟩,_,xq (by simp),⟨T2',T2',trivial⟩,_,(uo (by omega) (by have:=gR (a:=[]) (b:=[r.a,r.b]);simp only [ag,al] at this;show (dx [] [r.a,r.b]).length≤400000;omega)).eq (Bo (Ag d r.a r.b) r.a r.b),T2',rfl⟩
  rw [h,cF]
  refine ah (fun h=>?_) (fun h=>?_)
  ·refine dD h ?_
   rw [h];exact ⟨⟨T2',trivial⟩,⟨Zn.T5',T2',trivial⟩,_,c48 (by simp),⟨T2',trivial⟩,⟨T2',T2',trivial⟩,_,k _ rfl,T2',rfl⟩
  rw [h,cF]
  refine ah (fun h=>?_) (fun h=>?_)
  ·refine dD h ?_
   rw [h];exact ⟨⟨T2',trivial⟩,⟨Zn.T5',T2',trivial⟩,_,c48 (by simp),⟨T2',trivial⟩,⟨T2',T2',trivial⟩,_,k _ rfl,T2',rfl⟩
  rw [h,cF]
  refine ah (fun h=>?_) (fun h=>?_)
  ·rw [h];exact ⟨⟨T2',trivial⟩,⟨Zn.T5',T2',trivial⟩,_,c48 (by simp),⟨T2',trivial⟩,⟨T2',T2',trivial⟩,_,k _ rfl,T2',rfl⟩
  ·rw [h];exact ⟨T2',rfl⟩
theorem c21 {d:Deck} {r:Req} (h0:0≤r.vol) (hv:r.vol < 18446744073709551616) (hl:r.ids.length≤1000):Pure prog 21 [⟨.deck,d⟩,⟨.req,r⟩] [.sl .int] (sj d r):=
 ofT func21 (t21 d r) (by kernel_rfl) (by kernel_rfl) fun _=>by
  refine ⟨⟨Zn.T5',T7',trivial⟩,_,c75 h0 hv,?_⟩
  unfold sj
  refine ah (fun h=>?_) (fun h=>?_)
  ·have h:((il d r).err != 0)=true:=h
   rw [h];exact ⟨T2',rfl⟩
  ·have h:((il d r).err != 0)=false:=h
   rw [h];exact ⟨⟨Zn.T5',T7',trivial⟩,_,c76 hl,T2',rfl⟩
end Go.Proofs.Wn

/- The laws of wants come to true. (Own work.) -/
namespace Go.Proofs.Wn
open Go.Proofs.Tryz
open Go Go.VL Go.Proofs.Zn
def D14:Deck:=⟨[some 0,some 4621256167635550208,some 4625759767262920704],[⟨1,2,some 4621256167635550208,some 4620693217682128896,some 4602678819172646912,100,[40]⟩],[⟨1,1,some 4611686018427387904,some 0,some 0⟩],2⟩
theorem c56:Pure prog 56 [] [.deck] D14:=ofT func56 t56 (by kernel_rfl) (by kernel_rfl) fun _=>by
 refine ⟨by simp,by simp,by simp,by simp,by simp,rfl⟩
theorem Aq {d:Deck} {r:Req} (hl:r.ids.length≤1000):(vo d r).length≤1000:=by
 unfold vo
 have l1:=vd d r.a r.b
 have l2:=si d r.a
 have l3:=mU (l:=(mW d r.a r.b).1) (n:=r.a)
 have l4:=mU (l:=fg (mW d r.a r.b).1 r.a) (n:=r.b)
 have l5:=mU (l:=(gO d [r.a]).1) (n:=r.a)
 have l6:=gR (a:=[]) (b:=r.ids)
 have l6:(gj r.ids).length≤0+r.ids.length:=l6
 simp only [cond_eq_ite]
 repeat' split
 all_goals first | omega | simp
theorem Li {d:Deck} {r:Req} (hl:r.ids.length≤1000):(sj d r).length≤1000:=by
 unfold sj
 have:=Aq (d:=d) hl
 simp only [cond_eq_ite]
 split
 ·simp
 ·exact this
end Go.Proofs.Wn

/- Models: the small functions. (Own work.) -/
namespace Go.Proofs.Mn
open Go.Proofs.Tryz
open Go Go.VL
open Wn (dD bD)
abbrev T1:True∧True:=⟨trivial,trivial⟩
abbrev T3:True∧True∧True∧True:=⟨trivial,trivial,trivial,trivial⟩
def uq (a b c:Int):Int:=bif decide (a < b) then b else bif decide (a > c) then c else a
theorem xo (a b c:Int):Pure prog 159 [⟨.int,a⟩,⟨.int,b⟩,⟨.int,c⟩] [.int] (uq a b c):=
 ofT func159 (t159 a b c) (by kernel_rfl) (by kernel_rfl) fun _=>by
  unfold uq
  cases decide (a < b) <;> cases decide (a > c) <;> exact ⟨T1,rfl⟩
def wa (a:Int):Bool:=bif decide (a≥1) then decide (a≤8) else false
theorem c225 (a:Int):Pure prog 225 [⟨.int,a⟩] [.bool] (wa a):=
 ofT func225 (t225 a) (by kernel_rfl) (by kernel_rfl) fun _=>by
  unfold wa
  cases decide (a≥1) <;> exact ⟨T1,rfl⟩
theorem LD (a:Int):Pure prog 265 [⟨.int,a⟩] [.bool] (wa a):=
 ofT func265 (t265 a) (by kernel_rfl) (by kernel_rfl) fun _=>by
  unfold wa
  cases decide (a≥1) <;> exact ⟨T1,rfl⟩
def qO (a b:Int):Bool:=bif decide (a≥1) then bif decide (a≤8) then bif b != 0 then bif decide (b ≥ -1099511627776) then decide (b≤1099511627776) else false else false else false else false
theorem LE (a b:Int):Pure prog 263 [⟨.int,a⟩,⟨.int,b⟩] [.bool] (qO a b):=
 ofT func263 (t263 a b) (by kernel_rfl) (by kernel_rfl) fun _=>by
  unfold qO
  cases decide (a≥1) <;> cases decide (a≤8) <;> cases (b != 0) <;> cases decide (b ≥ -1099511627776) <;> exact ⟨T1,rfl⟩
theorem c224 (a b:Int):Pure prog 224 [⟨.int,a⟩,⟨.int,b⟩] [.bool] (qO a b):=
 ofT func224 (t224 a b) (by kernel_rfl) (by kernel_rfl) fun _=>by
  unfold qO
  cases decide (a≥1) <;> cases decide (a≤8) <;> cases (b != 0) <;> cases decide (b ≥ -1099511627776) <;> exact ⟨T1,rfl⟩
def hY (t:Tip):Bool:=bif t.state==2 then wa t.by' else bif t.state==1 then t.by'==0 else bif t.state==3 then t.by'==0 else false
theorem Jj (t:Tip):Pure prog 221 [⟨.tip,t⟩] [.bool] (hY t):=
 ofT func221 (t221 t) (by kernel_rfl) (by kernel_rfl) fun _=>by
  unfold hY
  refine ah (fun h=>?_) (fun h=>?_)
  ·rw [h];exact ⟨⟨T1,trivial⟩,_,LD _,T1,rfl⟩
  rw [h]
  refine ah (fun h=>?_) (fun h=>?_)
  ·refine dD h ?_
   rw [h];exact ⟨T1,rfl⟩
  rw [h]
  refine ah (fun h=>?_) (fun h=>?_)
  ·rw [h];exact ⟨T1,rfl⟩
  ·rw [h];exact ⟨T1,rfl⟩
theorem c164 (t:Tip):Pure prog 164 [⟨.tip,t⟩] [.bool] (hY t):=
 ofT func164 (t164 t) (by kernel_rfl) (by kernel_rfl) fun _=>by
  have no:∀ (a b:Int),a≠b→(t.state==a)=true→(t.state==b)=false:=by
   intro a b hab h
   have:t.state=a:=by simpa using h
   rw [this];simpa using hab
  have arm2:(t.state==2)=true→hY t=wa t.by':=fun h=>by unfold hY;rw [h];rfl
  refine ah (fun h=>?_) (fun h=>?_)
  ·have h2:=no 1 2 (by decide) h
   have e:hY t=(t.by'==0):=by unfold hY;rw [h2,h];rfl
   refine ah (fun h0=>⟨T1,by rw [e,h0];exact rfl⟩) (fun h0=>bD h2 ⟨T1,by rw [e,h0];exact rfl⟩)
  refine ah (fun h3=>?_) (fun h3=>?_)
  ·have h2:=no 3 2 (by decide) h3
   have e:hY t=(t.by'==0):=by unfold hY;rw [h2,h,h3];rfl
   refine ah (fun h0=>⟨T1,by rw [e,h0];exact rfl⟩) (fun h0=>bD h2 ⟨T1,by rw [e,h0];exact rfl⟩)
  refine ah (fun h2=>⟨⟨T1,trivial⟩,_,c225 _,T1,(arm2 h2).symm⟩) (fun h2=>⟨T1,?_⟩)
  show false=hY t
  unfold hY;rw [h2,h,h3];rfl
theorem xm (l:Log):Pure prog 261 [⟨.log,l⟩] [.int] (l.list.length:Int):=ofT func261 (t261 l) (by kernel_rfl) (by kernel_rfl) fun _=>⟨T1,rfl⟩
def nW (l:Log):Int:=w64 (l.last - (l.list.length:Int))
theorem Jh (l:Log):Pure prog 262 [⟨.log,l⟩] [.int] (nW l):=ofT func262 (t262 l) (by kernel_rfl) (by kernel_rfl) fun _=>⟨⟨T3,trivial⟩,_,xm l,T1,rfl⟩
theorem Jl {a b:Log} (h:a.list.length≤1000000):Pure prog 155 [⟨.log,a⟩,⟨.log,b⟩] [.bool] (decide (a=b)):=
 ofT func155 (HY a b) (by kernel_rfl) (by kernel_rfl) fun _=>by
  obtain ⟨a1,a2,a3⟩:=a
  obtain ⟨b1,b2,b3⟩:=b
  refine ah (fun h1=>?_) (fun h1=>?_)
  ·refine ah (fun h2=>?_) (fun h2=>?_)
   ·obtain rfl:a1=b1:=by simpa using h1
    obtain rfl:a2=b2:=by simpa using h2
    exact ⟨⟨T1,T1,trivial⟩,_,Wn.c60 h,T1,by show decide (a3=b3)=_;simp⟩
   ·have h2:¬ a2=b2:=by simpa using h2
    exact ⟨T1,by show false=_;simp [h2]⟩
  ·have h1:¬ a1=b1:=by simpa using h1
   exact ⟨T1,by show false=_;simp [h1]⟩
end Go.Proofs.Mn

namespace Go.Proofs.Mn
open Go.Proofs.Tryz
open Go Go.VL
def oV (c:Cell):List Fld3:=[⟨c.cap,1,1099511627776⟩,⟨c.vol,0,c.cap⟩,⟨c.ver,0,2147483647⟩]
def Jx (c:Cell) (b:Bool) (i:Int):AS:=mkS 37 [(4,bZ b),(19,.d (.sl .fld (oV c))),(20,i64 3),(21,i64 i)] [] 0
def Mv (l:Log) (b:Bool) (i:Int):AS:=mkS 59 [(1,.ptr 0 0),(3,bZ b),(35,.d (.sl .change l.list)),(36,i64 l.list.length),(37,i64 i)] [(0,.box (lC l))] 1
def S163 (l:Log):AS:=mkS 71 [(1,.ptr 0 0)] [(0,.box [i64 l.room,i64 l.last,.d (.sl .change l.list)])] 1
def Mw (l:Log) (i:Int):AS:=mkS 71 [(1,.ptr 0 0),(3,i64 i)] [(0,.box (lC l))] 1
def Mu (l:List Int) (w:Wide) (i:Int):AS:=mkS 22 [(4,.ptr 0 0),(7,.d (.sl .int l)),(8,i64 l.length),(9,i64 i)] [(0,.box [u64 w.hi,u64 w.lo])] 1
theorem Hf (c:Cell) (b:Bool) (i:Int):@Eq _ (xL prog codes sigs f215 [.bool] 200 0 (Jx c b i)) (bif decide (i < 3) then .need (((0:Int)≤i∧i < (↑(oV c).length:Int))∧True) (.need (U2∧U2∧U2∧True) (.callP 159 [⟨.int,(Fld3.n ((oV c).getD i.toNat Ty.fld.dflt))⟩,⟨.int,(Fld3.lo ((oV c).getD i.toNat Ty.fld.dflt))⟩,⟨.int,(Fld3.hi ((oV c).getD i.toNat Ty.fld.dflt))⟩] [.int] fun (x:Int)=>bif x != Fld3.n ((oV c).getD i.toNat Ty.fld.dflt) then .need U2 (.ret false) else .stop (hd f215 0) (mkS 37 [(4,.d (.v (.bool b))),(19,.d (.sl .fld (oV c))),(20,i64 3),(21,i64 (w64 (i+1)))] [] 0))) else .need U2 (.ret b)):=by kernel_rfl
theorem Kk (l:Log) (b:Bool) (i:Int):@Eq _ (xL prog codes sigs f216 [.bool] 300 0 (Mv l b i)) (bif decide (i < (l.list.length:Int)) then .need (((0:Int)≤i∧i < (l.list.length:Int))∧True) (.need (U4∧True) (.callP 262 [⟨.log,l⟩] [.int] fun (x:Int)=>bif (l.list.getD i.toNat Ty.change.dflt).ver != w64 (w64 (x+1)+i) then bif (l.list.getD i.toNat Ty.change.dflt).ver != w64 (w64 (x+1)+i) then .need U2 (.ret false) else .stop (hd f216 0) (mkS 59 [(1,.ptr 0 0),(3,.d (.v (.bool b))),(35,.d (.sl .change l.list)),(36,i64 (l.list.length:Int)),(37,i64 (w64 (i+1)))] [(0,.box (lC l))] 1) else .need (U2∧U2∧True) (.callP 263 [Sigma.mk .int (l.list.getD i.toNat Ty.change.dflt).by',Sigma.mk .int (l.list.getD i.toNat Ty.change.dflt).n] [.bool] fun (x:Bool)=>bif !x then .need U2 (.ret false) else .stop (hd f216 0) (mkS 59 [(1,.ptr 0 0),(3,.d (.v (.bool b))),(35,.d (.sl .change l.list)),(36,i64 (l.list.length:Int)),(37,i64 (w64 (i+1)))] [(0,.box (lC l))] 1)))) else .need U2 (.ret b)):=by kernel_rfl
theorem Kn (l:Log):@Eq (Out (bc [.bool])) (bf prog codes sigs f163 (bh [.bool]) 0 eU 300 true (rg f163 3) (S163 l)) (.stop (hd f163 0) (mkS 71 [(1,.ptr 0 0),(3,i64 0)] [(0,.box (lC l))] 1)):=by kernel_rfl
theorem Kj (l:List Int) (w:Wide) (i:Int):@Eq _ (xL prog codes sigs f223 [.int,.int] 300 0 (Mu l w i)) (bif decide (i < (l.length:Int)) then .need (((0:Int)≤i∧i < (l.length:Int))∧True) (.need (U2∧True) (.callP 267 [⟨.int,(l.getD i.toNat Ty.int.dflt)⟩] [.wide] fun (x:Wide)=>.need (U3∧U3∧True) (.callP 266 [⟨.wide,w⟩,⟨.wide,x⟩] [.wide] fun (x:Wide)=>.stop (hd f223 0) (mkS 22 [(4,.ptr 0 0),(7,.d (.sl .int l)),(8,i64 (l.length:Int)),(9,i64 (w64 (i+1)))] [(0,.box [.d (.v (.int .u64 (Wide.hi x))),.d (.v (.int .u64 (Wide.lo x)))])] 1)))) else .need (U3∧True) (.callP 268 [⟨.wide,w⟩] [.int,.int] fun (x:Int×Int)=>.need (U2∧U2) (.ret (x.1,x.2)))):=by kernel_rfl
end Go.Proofs.Mn

/- Models: cells, sizes. (Own work.) -/
namespace Go.Proofs.Mn
open Go.Proofs.Tryz
open Go Go.VL
open Wn (dD bD)
def eN (c:Cell):Bool:=bif decide (c.cap≥1) then bif decide (c.cap≤1099511627776) then bif decide (c.vol≥0) then bif decide (c.vol≤c.cap) then bif decide (c.ver≥0) then decide (c.ver≤2147483647) else false else false else false else false else false
theorem c162 (c:Cell):Pure prog 162 [⟨.cell,c⟩] [.bool] (eN c):=
 ofT func162 (t162 c) (by kernel_rfl) (by kernel_rfl) fun _=>by
  unfold eN
  cases decide (c.cap≥1) <;> cases decide (c.cap≤1099511627776) <;> cases decide (c.vol≥0) <;> cases decide (c.vol≤c.cap) <;> cases decide (c.ver≥0) <;> exact ⟨T1,rfl⟩
theorem Ez (n lo hi:Int):(uq n lo hi != n) = !(decide (n≥lo) && decide (n≤hi)):=by
 unfold uq
 by_cases h1:n < lo
 ·have h2:¬ n≥lo:=by omega
  have h3:lo≠n:=by omega
  simp [h1,h2,h3]
 ·have h2:n≥lo:=by omega
  by_cases h4:n > hi
  ·have h5:¬ n≤hi:=by omega
   have h6:hi≠n:=by omega
   simp [h1,h2,h4,h5,h6]
  ·have h5:n≤hi:=by omega
   simp [h1,h2,h4,h5]
theorem tA {c:Cell} {r:Bool} {A:Pr} (hA:CL codes sigs f215 [.bool] r A) (i:Nat) (hi:i < 3) (f:Fld3) (hf:(oV c).getD i Ty.fld.dflt=f)
  (h0:(decide (f.n≥f.lo) && decide (f.n≤f.hi))=false→false=r) (h1:(decide (f.n≥f.lo) && decide (f.n≤f.hi))=true→A (hd f215 0) (Jx c true ((i+1:Nat):Int))):A (hd f215 0) (Jx c true i):=by
 refine hA.go (Hf c true i) (dD (by simp;omega) ⟨⟨⟨by omega,by show (i:Int) < 3;omega⟩,trivial⟩,⟨T1,T1,T1,trivial⟩,_,xo _ _ _,?_⟩)
 rw [aq,hf]
 refine ah (b:=uq f.n f.lo f.hi != f.n) (fun h=>⟨T1,h0 (by rw [Ez] at h;exact nt h)⟩) (fun h=>?_)
 rw [au (by omega)]
 exact h1 (by rw [Ez] at h;exact nf h)
theorem Es (c:Cell):Pure prog 215 [⟨.cell,c⟩] [.bool] (eN c):=
 Pure.of_closed (C:=codes) (S:=sigs) mixed func215 (by kernel_rfl) (ac (by kernel_rfl)) fun A hA=>hA.go (t215 c) ⟨trivial,by
  have e:eN c=((decide (c.cap≥1) && decide (c.cap≤1099511627776)) && ((decide (c.vol≥0) && decide (c.vol≤c.cap)) && (decide (c.ver≥0) && decide (c.ver≤2147483647)))):=by
   unfold eN
   cases decide (c.cap≥1) <;> cases decide (c.cap≤1099511627776) <;> cases decide (c.vol≥0) <;> cases decide (c.vol≤c.cap) <;> cases decide (c.ver≥0) <;> rfl
  rw [e] at hA ⊢
  refine tA hA 0 (by decide) ⟨c.cap,1,1099511627776⟩ rfl (fun h=>by rw [h];rfl) (fun h=>?_)
  rw [h] at hA
  refine tA hA 1 (by decide) ⟨c.vol,0,c.cap⟩ rfl (fun h=>by rw [h];rfl) (fun h=>?_)
  rw [h] at hA
  refine tA hA 2 (by decide) ⟨c.ver,0,2147483647⟩ rfl (fun h=>by rw [h];rfl) (fun h=>?_)
  rw [h] at hA
  exact hA.go (Hf c true 3) (bD (by decide) ⟨T1,rfl⟩)⟩
def oU (c v:Int):Cell×Int:=bif !eN ⟨c,v,0⟩ then (⟨0,0,0⟩,100) else (⟨c,v,0⟩,0)
theorem LQ (c v:Int):Pure prog 139 [⟨.int,c⟩,⟨.int,v⟩] [.cell,.int] (oU c v):=
 ofT func139 (t139 c v) (by kernel_rfl) (by kernel_rfl) fun _=>by
  refine ⟨⟨T3,trivial⟩,_,Es _,?_⟩
  unfold oU
  cases eN ⟨c,v,0⟩ <;> exact ⟨⟨T3,trivial,trivial⟩,rfl⟩
end Go.Proofs.Mn

/- Models: how great they are; numbers of 128 bits. (Own work.) -/
namespace Go.Proofs.Mn
open Go.Proofs.Tryz
open Go Go.VL
open Wn (dD bD)
def di (a:Int):Wide:=⟨IntKind.wrap .u64 (Int.fdiv a (2 ^ min 63 (IntKind.bits .i64))),IntKind.wrap .u64 a⟩
theorem LC (a:Int):Pure prog 267 [⟨.int,a⟩] [.wide] (di a):=
 ofT func267 (t267 a) (by kernel_rfl) (by kernel_rfl) fun _=>⟨by decide,T3',rfl⟩
theorem zI {vs:Array Value} (hs:vs.size=3):∃ a b c,vs=#[a,b,c]:=by
 refine ⟨vs[0]'(by omega),vs[1]'(by omega),vs[2]'(by omega),?_⟩
 apply Array.ext
 ·exact hs
 ·intro i hi hi2
  have:i=0∨i=1∨i=2:=by omega
  rcases this with rfl | rfl | rfl <;> rfl
def Md : Array Value → Sem Value := fun args => do
 let (x, y, c) ← Extern.MathBitsCarry.three "Add64" args
 pure (Extern.MathBitsCarry.pair ((x + y + c) % Extern.MathBitsCarry.m64) ((x + y + c) / Extern.MathBitsCarry.m64))
theorem BH (a b c : Value) : Extern.MathBitsCarry.three "Add64" #[a, b, c] = (do
 let c := (← asInt c).toNat
 if c > 1 then unsupported (.noEntry ("extern/math/bits." ++ "Add64" ++ ": a carry that is neither 0 nor 1"))
 pure ((← asInt a).toNat, (← asInt b).toNat, c)) := rfl
theorem JG {x y c : Int} (hc : c.toNat ≤ 1) : EV prog 297 [.d (.v (.int .u64 x)), .d (.v (.int .u64 y)), .d (.v (.int .u64 c))] (.tup [.d (.v (.int .u64 (((x.toNat + y.toNat + c.toNat) % 18446744073709551616 : Nat) : Int))), .d (.v (.int .u64 (((x.toNat + y.toNat + c.toNat) / 18446744073709551616 : Nat) : Int)))]) := fun w K m H vs hs hr => by
 obtain ⟨v1, v2, v3, rfl⟩ := zI hs
 have e1 : v1 = .int .u64 x := cg (hr 0 _ v1 rfl rfl)
 have e2 : v2 = .int .u64 y := cg (hr 1 _ v2 rfl rfl)
 have e3 : v3 = .int .u64 c := cg (hr 2 _ v3 rfl rfl)
 subst e1; subst e2; subst e3
 refine ⟨.tuple #[.int .u64 (((x.toNat + y.toNat + c.toNat) % 18446744073709551616 : Nat) : Int), .int .u64 (((x.toNat + y.toNat + c.toNat) / 18446744073709551616 : Nat) : Int)], ?_, .tup _ _ rfl (fun i a v ha hv => ?_)⟩
 ·rw [run_callFunc_extern (e := Md) func297 (by kernel_rfl) (by kernel_rfl) (by kernel_rfl) (by kernel_rfl)]
  have h1 : ¬ c.toNat > 1 := by omega
  have a1 : ∀ n : Int, (asInt (.int .u64 n)).run prog w = .ok n w := fun n => by simp [asInt, asIntOf]
  have h2 : (Extern.MathBitsCarry.three "Add64" #[.int .u64 x, .int .u64 y, .int .u64 c]).run prog w = .ok (x.toNat, y.toNat, c.toNat) w := by
   rw [BH]
   simp only [Sem.run_bind, a1, Result.andThen_ok, aJ h1, Sem.run_pure]
  simp only [Md, Sem.run_bind, h2, Result.andThen_ok, Sem.run_pure]
  rfl
 ·match i, ha, hv with
  | 0, ha, hv => cases ha; cases hv; exact .d _ _ (.v _)
  | 1, ha, hv => cases ha; cases hv; exact .d _ _ (.v _)
  | i + 2, ha, hv => cases ha
end Go.Proofs.Mn

/- Models: sums of 128 bits. (Own work.) -/
namespace Go.Proofs.Mn
open Go.Proofs.Tryz
open Go Go.VL
open Wn (dD bD)
def gF (a b:Wide):Wide:=⟨(((a.hi.toNat+b.hi.toNat+(((a.lo.toNat+b.lo.toNat+0) / 18446744073709551616:Nat):Int).toNat) % 18446744073709551616:Nat):Int),(((a.lo.toNat+b.lo.toNat+0) % 18446744073709551616:Nat):Int)⟩
theorem c266 {a b:Wide} (ha:a.lo.toNat < 18446744073709551616) (hb:b.lo.toNat < 18446744073709551616):Pure prog 266 [⟨.wide,a⟩,⟨.wide,b⟩] [.wide] (gF a b):=
 ofT func266 (t266 a b) (by kernel_rfl) (by kernel_rfl) fun _=>by
  refine ⟨JG (by decide),JG (by rw [aq];omega),?_⟩
  exact ⟨T3',rfl⟩
def tL (a:Wide):Int×Int:=bif !(a.hi==(di (w64 a.lo)).hi && (a.lo==(di (w64 a.lo)).lo && true)) then (0,4) else (w64 a.lo,0)
theorem c268 (a:Wide):Pure prog 268 [⟨.wide,a⟩] [.int,.int] (tL a):=
 ofT func268 (t268 a) (by kernel_rfl) (by kernel_rfl) fun _=>by
  refine ⟨⟨T1,trivial⟩,_,LC _,?_⟩
  unfold tL
  refine ah (fun h=>?_) (fun h=>?_)
  ·rw [h];exact ⟨⟨T1,trivial,trivial⟩,rfl⟩
  ·rw [h];exact ⟨⟨T1,trivial,trivial⟩,rfl⟩
def oZ (l:List Int):Wide:=l.foldl (fun w x=>gF w (di x)) ⟨0,0⟩
theorem FH (a b:Wide):(gF a b).lo.toNat < 18446744073709551616:=by
 unfold gF
 simp only
 rw [aq];omega
theorem Lg (x:Int):(di x).lo.toNat < 18446744073709551616:=by
 have h:(di x).lo=x % 18446744073709551616:=rfl
 rw [h];omega
theorem xy:∀ (l:List Int) (w:Wide),w.lo.toNat < 18446744073709551616→(l.foldl (fun w x=>gF w (di x)) w).lo.toNat < 18446744073709551616
 | [],w,h=>h
 | x::l,w,_=>xy l _ (FH _ _)
theorem yv {l:List Int} (hl:l.length≤1000000) {r:Int×Int} {A:Pr} (hA:CL codes sigs f223 [.int,.int] r A) (hr:tL (oZ l)=r)
  (i:Nat) (hi:i≤l.length):A (hd f223 0) (Mu l (oZ (l.take i)) i):=by
 refine hA.go (Kj l _ i) (ah (fun h1=>?_) (fun h1=>?_))
 ·have h1:=oT h1
  have hil:i < l.length:=by omega
  rw [bb hil]
  refine ⟨⟨⟨by omega,by omega⟩,trivial⟩,⟨T1,trivial⟩,_,LC _,⟨T3',T3',trivial⟩,_,c266 (xy _ _ (by decide)) (Lg _),?_⟩
  rw [au (by omega)]
  have e:gF (oZ (l.take i)) (di l[i])=oZ (l.take (i+1)):=by
   rw [aY hil,oZ,oZ,List.foldl_append];rfl
  rw [e]
  exact yv hl hA hr (i+1) (by omega)
 ·have h1:=oF h1
  rw [cn (by omega)]
  exact ⟨⟨T3',trivial⟩,_,c268 _,⟨T1,trivial,trivial⟩,hr⟩
termination_by l.length - i
theorem c223 {l:List Int} (hl:l.length≤1000000):Pure prog 223 [⟨.sl .int,l⟩] [.int,.int] (tL (oZ l)):=
 Pure.of_closed (C:=codes) (S:=sigs) mixed func223 (by kernel_rfl) (ac (by kernel_rfl)) fun A hA=>hA.go (t223 l) (yv hl hA rfl 0 (by omega))
end Go.Proofs.Mn

namespace Go.Proofs.Mn
open Go.Proofs.Tryz
open Go Go.VL
theorem Km (l:Log) (i:Int):@Eq _ (xL prog codes sigs f163 [.bool] 300 0 (Mw l i)) (bif decide (i < (l.list.length:Int)) then .need (((0:Int)≤i∧i < (l.list.length:Int))∧True) (bif (l.list.getD i.toNat Ty.change.dflt).ver != w64 (w64 (w64 (l.last - (l.list.length:Int))+1)+i) then .need U2 (.ret false) else .need (U2∧U2∧True) (.callP 224 [Sigma.mk .int (l.list.getD i.toNat Ty.change.dflt).by',Sigma.mk .int (l.list.getD i.toNat Ty.change.dflt).n] [.bool] fun (x:Bool)=>bif !x then .need U2 (.ret false) else .stop (hd f163 0) (mkS 71 [(1,.ptr 0 0),(3,i64 (w64 (i+1)))] [(0,.box (lC l))] 1))) else .need U2 (.ret true)):=by kernel_rfl
end Go.Proofs.Mn

/- Models: logs. (Own work.) -/
namespace Go.Proofs.Mn
open Go.Proofs.Tryz
open Go Go.VL
open Wn (dD bD)
def xl (old:Int):List Change→Nat→Bool
 | [],_=>true
 | c::cs,i=>bif c.ver != w64 (w64 (old+1)+(i:Int)) then false else bif !qO c.by' c.n then false else xl old cs (i+1)
def ik (l:Log):Bool:=bif decide (l.room < 1) then false else bif decide (l.room > 64) then false else bif decide (l.last < 0) then false else bif decide (l.last > 2147483647) then false else bif decide ((l.list.length:Int) > l.room) then false else bif decide ((l.list.length:Int) > l.last) then false else xl (nW l) l.list 0
theorem yx {l:Log} (hl:l.list.length≤1000) {r:Bool} {A:Pr} (hA:CL codes sigs f163 [.bool] r A)
  (i:Nat) (hi:i≤l.list.length) (h:xl (nW l) (l.list.drop i) i=r):A (hd f163 0) (Mw l i):=by
 refine hA.go (Km l i) (ah (fun h1=>?_) (fun h1=>?_))
 ·have h1:=oT h1
  have hil:i < l.list.length:=by omega
  rw [bb hil]
  rw [dG hil,xl] at h
  refine ⟨⟨⟨by omega,by omega⟩,trivial⟩,ah (b:=l.list[i].ver != w64 (w64 (nW l+1)+(i:Int))) (fun h2=>?_) (fun h2=>?_)⟩
  ·rw [h2] at h;exact ⟨T1,h⟩
  ·rw [h2] at h
   refine ⟨⟨T1,T1,trivial⟩,_,c224 _ _,ah (fun h3=>?_) (fun h3=>?_)⟩
   ·rw [h3] at h;exact ⟨T1,h⟩
   ·rw [h3] at h
    rw [au (by omega)]
    exact yx hl hA (i+1) (by omega) h
 ·have h1:=oF h1
  rw [dN (by omega)] at h
  exact ⟨T1,h⟩
termination_by l.list.length - i
theorem c163 (l:Log):Pure prog 163 [⟨.log,l⟩] [.bool] (ik l):=
 Pure.of_closed (C:=codes) (S:=sigs) mixed func163 (by kernel_rfl) (ac (by kernel_rfl)) fun A hA=>hA.go (t163 l) (by
  have hy:∃ y,ik l=y:=⟨_,rfl⟩
  obtain ⟨y,hy⟩:=hy
  rw [hy] at hA ⊢
  unfold ik at hy
  refine ah (fun h=>?_) (fun h=>?_)
  ·rw [h] at hy;exact ⟨T1,hy⟩
  rw [h] at hy
  refine ah (fun h1=>?_) (fun h1=>?_)
  ·rw [h1] at hy;exact ⟨T1,hy⟩
  rw [h1] at hy
  refine ah (fun h=>?_) (fun h=>?_)
  ·rw [h] at hy;exact ⟨T1,hy⟩
  rw [h] at hy
  refine ah (fun h=>?_) (fun h=>?_)
  ·rw [h] at hy;exact ⟨T1,hy⟩
  rw [h] at hy
  refine ah (fun h=>?_) (fun h2=>?_)
  ·rw [h] at hy;exact ⟨T1,hy⟩
  rw [h2] at hy
  refine ah (fun h=>?_) (fun h=>?_)
  ·rw [h] at hy;exact ⟨T1,hy⟩
  rw [h] at hy
  have g1:=oF h1
  have g2:=oF h2
  exact hA.go (Kn l) (yx (by omega) hA 0 (by omega) hy))
theorem yw {l:Log} (hl:l.list.length≤1000) {r:Bool} {A:Pr} (hA:CL codes sigs f216 [.bool] r A)
  (i:Nat) (hi:i≤l.list.length) (h:xl (nW l) (l.list.drop i) i=r):A (hd f216 0) (Mv l true i):=by
 refine hA.go (Kk l true i) (ah (fun h1=>?_) (fun h1=>?_))
 ·have h1:=oT h1
  have hil:i < l.list.length:=by omega
  rw [bb hil]
  rw [dG hil,xl] at h
  refine ⟨⟨⟨by omega,by omega⟩,trivial⟩,⟨T3,trivial⟩,_,Jh l,ah (b:=l.list[i].ver != w64 (w64 (nW l+1)+(i:Int))) (fun h2=>?_) (fun h2=>?_)⟩
  ·rw [h2] at h;exact dD h2 ⟨T1,h⟩
  ·rw [h2] at h
   refine ⟨⟨T1,T1,trivial⟩,_,LE _ _,ah (fun h3=>?_) (fun h3=>?_)⟩
   ·rw [h3] at h;exact ⟨T1,h⟩
   ·rw [h3] at h
    rw [au (by omega)]
    exact yw hl hA (i+1) (by omega) h
 ·have h1:=oF h1
  rw [dN (by omega)] at h
  exact ⟨T1,h⟩
termination_by l.list.length - i
theorem GK (l:Log):Pure prog 216 [⟨.log,l⟩] [.bool] (ik l):=
 Pure.of_closed (C:=codes) (S:=sigs) mixed func216 (by kernel_rfl) (ac (by kernel_rfl)) fun A hA=>hA.go (t216 l) (by
  have hy:∃ y,ik l=y:=⟨_,rfl⟩
  obtain ⟨y,hy⟩:=hy
  rw [hy] at hA ⊢
  unfold ik at hy
  refine ah (fun h=>?_) (fun h=>?_)
  ·rw [h] at hy;exact ⟨T1,hy⟩
  rw [h] at hy
  refine ah (fun h1=>?_) (fun h1=>?_)
  ·rw [h1] at hy;exact ⟨T1,hy⟩
  rw [h1] at hy
  refine ah (fun h=>?_) (fun h=>?_)
  ·rw [h] at hy;exact ⟨T1,hy⟩
  rw [h] at hy
  refine ah (fun h=>?_) (fun h=>?_)
  ·rw [h] at hy;exact ⟨T1,hy⟩
  rw [h] at hy
  have g1:=oF h1
  refine ⟨⟨T3,trivial⟩,_,xm l,ah (fun h=>?_) (fun h=>?_)⟩
  ·refine ⟨T1,?_⟩
   show false=y
   have h:=oT h
   rw [← hy]
   cases h2:decide ((l.list.length:Int) > l.room)
   ·cases h3:decide ((l.list.length:Int) > l.last)
    ·have:=oF h2
     have:=oF h3
     split at h <;> omega
    ·rfl
   ·rfl
  ·have h:=oF h
   have g2:¬ (l.list.length:Int) > l.room:=by split at h <;> omega
   have g3:¬ (l.list.length:Int) > l.last:=by split at h <;> omega
   rw [dF g2,dF g3] at hy
   exact yw (by omega) hA 0 (by omega) hy)
def AL (c:Int):Log×Int:=bif !ik ⟨c,0,[]⟩ then (⟨0,0,[]⟩,110) else (⟨c,0,[]⟩,0)
theorem LP (c:Int):Pure prog 140 [⟨.int,c⟩] [.log,.int] (AL c):=
 ofT func140 (t140 c) (by kernel_rfl) (by kernel_rfl) fun _=>by
  refine ⟨⟨T3,trivial⟩,_,GK _,?_⟩
  unfold AL
  cases ik ⟨c,0,[]⟩ <;> exact ⟨⟨T3,trivial,trivial⟩,rfl⟩
end Go.Proofs.Mn

namespace Go.Proofs.Mn
open Go.Proofs.Tryz
open Go Go.VL
def Mx (cs:List Cell) (out:List Int) (i:Int):AS:=mkS 28 [(4,.own 0 .int),(12,.d (.sl .cell cs)),(13,i64 cs.length),(14,i64 i)] [(0,.row 3 .int out)] 1
theorem Ko (cs:List Cell) (out:List Int) (i:Int):@Eq _ (xL prog codes sigs f160 [.int,.int] 300 0 (Mx cs out i)) (bif decide (i < (cs.length:Int)) then .need (((0:Int)≤i∧i < (cs.length:Int))∧True) (.need (U2∧True) (.need ((out.length+List.length [(cs.getD i.toNat Ty.cell.dflt).vol]) * 9≤35184372088832∧True) (.stop (hd f160 0) (mkS 28 [(4,.own 0 .int),(12,.d (.sl .cell cs)),(13,i64 (cs.length:Int)),(14,i64 (w64 (i+1)))] [(0,.row 3 .int (out++[(cs.getD i.toNat Ty.cell.dflt).vol]))] 1)))) else .need (U2∧True) (.callP 223 [⟨.sl .int,out⟩] [.int,.int] fun (x:Int×Int)=>.need (U2∧U2) (.ret (x.1,x.2)))):=by kernel_rfl
end Go.Proofs.Mn

/- Models: owners at first. (Own work.) -/
namespace Go.Proofs.Mn
open Go.Proofs.Tryz
open Go Go.VL
open Wn (dD bD)
def vh (n:Int):List Int:=bif decide (n < 0) then [] else List.replicate n.toNat 0
theorem c86 {n:Int} (h:n≤1000000):Pure prog 86 [⟨.int,n⟩] [.sl .int] (vh n):=
 ofT func86 (t86 n) (by kernel_rfl) (by kernel_rfl) fun _=>by
  unfold vh
  refine ah (fun h1=>?_) (fun h1=>?_)
  ·rw [h1];exact ⟨T1,rfl⟩
  ·rw [h1]
   have:=oF h1
   exact ⟨⟨by omega,jw _,by omega⟩,T1,rfl⟩
theorem yy {cs:List Cell} (hl:cs.length≤1000000) {r:Int×Int} {A:Pr} (hA:CL codes sigs f160 [.int,.int] r A) (hr:tL (oZ (cs.map Cell.vol))=r)
  (i:Nat) (hi:i≤cs.length):A (hd f160 0) (Mx cs ((cs.take i).map Cell.vol) i):=by
 refine hA.go (Ko cs _ i) (ah (fun h1=>?_) (fun h1=>?_))
 ·have h1:=oT h1
  have hil:i < cs.length:=by omega
  rw [bb hil]
  refine ⟨⟨⟨by omega,by omega⟩,trivial⟩,⟨T1,trivial⟩,⟨by rw [bu,aE];simp only [ag,al];omega,trivial⟩,?_⟩
  rw [au (by omega)]
  have e:(cs.take i).map Cell.vol++[cs[i].vol]=(cs.take (i+1)).map Cell.vol:=by
   rw [aY hil,bH];rfl
  rw [e]
  exact yy hl hA hr (i+1) (by omega)
 ·have h1:=oF h1
  rw [cn (by omega)]
  exact ⟨⟨T1,trivial⟩,_,c223 (by rw [bu];exact hl),⟨T1,trivial,trivial⟩,hr⟩
termination_by cs.length - i
theorem c160 {s:Stock} (hl:s.cells.length≤1000000):Pure prog 160 [⟨.stock,s⟩] [.int,.int] (tL (oZ (s.cells.map Cell.vol))):=
 Pure.of_closed (C:=codes) (S:=sigs) mixed func160 (by kernel_rfl) (ac (by kernel_rfl)) fun A hA=>hA.go (t160 s) ⟨⟨by omega,by omega,by rw [aq];omega⟩,yy hl hA rfl 0 (by omega)⟩
end Go.Proofs.Mn

/- Decks that are right: what their plates hold. (Own work.) -/
namespace Go.Proofs.Mn
open Go.Proofs.Tryz
open Go Go.VL Go.Proofs.Zn
theorem cO {d:Deck} (h:(dc d != 0)=false):DeckOk d:=(pH (d:=d) (by simpa [dc] using h)).1
def plN (d:Deck) (i:Nat):Int:=(d.plates.getD i Ty.plate.dflt).rows * (d.plates.getD i Ty.plate.dflt).cols
theorem CC {d:Deck} (hd:DeckOk d) (i:Nat):0≤plN d i∧plN d i≤1536:=by
 unfold plN
 rcases aw i d.plates.length with h | h
 ·rw [cJ h]
  have h1:=hd.boxP (er d.plates[i]) (List.mem_map_of_mem (aO h))
  have:=dH h1
  simp only [er] at this
  omega
 ·rw [show d.plates.getD i Ty.plate.dflt=Ty.plate.dflt by simp [List.getD,ax h]]
  decide
def PlB (d:Deck):Prop:=∀ i:Nat,w64 (plN d i)=plN d i∧0≤plN d i∧plN d i≤1536
theorem plB {d:Deck} (hd:DeckOk d):PlB d:=fun i=>by
 have h:=CC hd i
 exact ⟨aA (by omega) (by omega),h.1,h.2⟩
theorem PlB.at {d:Deck} (h:PlB d) (i:Nat):w64 ((d.plates.getD i Ty.plate.dflt).rows * (d.plates.getD i Ty.plate.dflt).cols)=plN d i∧0≤plN d i∧plN d i≤1536:=h i
theorem qN (d:Deck):0≤(bv d).1∧(bv d).1≤384∧0≤(bv d).2.1∧(bv d).2.1≤384∧0≤(bv d).2.2∧(bv d).2.2≤24:=by
 unfold bv
 cases h:dy d != 0
 ·have hd:DeckOk d:=eR (by simpa using h)
  have h1:=hd.wells
  have h2:=hd.tips
  have h3:=hd.lanes
  rw [cF]
  simp only
  omega
 ·rw [cT]
  decide
theorem uG {l:List Go.VL.Box} (h:∀ b∈l,cE b=true):0≤bk l:=(pi h).1
theorem DY {d:Deck} {i:Nat} (h:i < d.plates.length):bk ((aK d).drop i)=plN d i+bk ((aK d).drop (i+1)):=by
 have hl:i < (aK d).length:=by simpa [aK] using h
 rw [dG hl,bk]
 unfold plN
 rw [cJ h]
 simp [aK,er]
theorem vO {d:Deck} (hd:DeckOk d) (i:Nat):0≤bk ((aK d).drop i):=uG fun b hb=>hd.boxP b (List.mem_of_mem_drop hb)
theorem wF (d:Deck):(cN d).length≤1000:=by
 unfold cN
 cases h:dy d != 0
 ·have hd:DeckOk d:=eR (by simpa using h)
  have:=nR hd
  rw [cF];omega
 ·simp
theorem jP {α:Type} {l:List α} {ix:Nat} (h:ix < l.length) {d:α}:l.getD (Int.toNat (ix:Int)) d∈l:=by
 rw [bb h];exact aO h
def eqL (a b:List Int):Bool:=decide (a=b)
def DV (a b:Log):Bool:=decide (a=b)
theorem LK {a b:Log} (h:a.list.length≤1000000):Pure prog 155 [⟨.log,a⟩,⟨.log,b⟩] [.bool] (DV a b):=Jl h
end Go.Proofs.Mn

namespace Go.Proofs.Mn
open Go.Proofs.Tryz
open Go Go.VL
def ot (l:List Tip) (i:Int) (t:Tip) (i1:Int):AS:=mkS 36 [(1,i64 i),(5,.ptr 0 0),(8,i64 0),(9,.d (.v (.bool false))),(12,.d (.sl .tip l)),(13,i64 (l.length:Int)),(14,i64 i1)] [(0,.box [i64 t.state,i64 t.by'])] 1
theorem Kh (l:List Tip) (i:Int) (t:Tip):@Eq _ (xS prog codes sigs f227 [.int,.bool] 300 [⟨.sl .tip,l⟩,⟨.int,i⟩,⟨.tip,t⟩]) (.stop (hd f227 0) (ot l i t (0:Int))):=by kernel_rfl
theorem Fj (l:List Tip) (i:Int) (t:Tip) (i1:Int):@Eq _ (xL prog codes sigs f227 [.int,.bool] 300 0 (ot l i t i1)) (bif decide (i1 < (l.length:Int)) then .need (((0:Int)≤i1∧i1 < (l.length:Int))∧True) (bif decide (i1 < i) then .stop (hd f227 0) (ot l i t (w64 (i1+1))) else bif ! ((l.getD i1.toNat (Ty.dflt .tip)).state==t.state && ((l.getD i1.toNat (Ty.dflt .tip)).by'==t.by' && true)) then .stop (hd f227 0) (ot l i t (w64 (i1+1))) else .need (U3∧True) (.callP 221 [⟨.tip,(l.getD i1.toNat (Ty.dflt .tip))⟩] [.bool] fun (x:Bool)=>bif !x then .stop (hd f227 0) (ot l i t (w64 (i1+1))) else .need (U2∧U2) (.ret (i1,true)))) else .need (U2∧U2) (.ret ((0:Int),false))):=by kernel_rfl
def re (a b:List Fl) (i1:Int):AS:=mkS 49 [(0,.d (.sl .flt a)),(1,.d (.sl .flt b)),(5,i64 i1)] [] 0
theorem Kr (a b:List Fl):@Eq _ (xS prog codes sigs f156 [.bool] 300 [⟨.sl .flt,a⟩,⟨.sl .flt,b⟩]) (bif (a.length:Int) != (b.length:Int) then .need U2 (.ret false) else .stop (hd f156 0) (re a b (0:Int))):=by kernel_rfl
theorem Fq (a b:List Fl) (i1:Int):@Eq _ (xL prog codes sigs f156 [.bool] 300 0 (re a b i1)) (bif decide (i1 < (a.length:Int)) then .need (((0:Int)≤i1∧i1 < (a.length:Int))∧True) (.need (((0:Int)≤i1∧i1 < (b.length:Int))∧True) (bif Fl.cmp (a.getD i1.toNat (Ty.dflt .flt)) (b.getD i1.toNat (Ty.dflt .flt))==some Ordering.eq then .stop (hd f156 0) (re a b (w64 (i1+1))) else .need (((0:Int)≤i1∧i1 < (a.length:Int))∧True) (.need (((0:Int)≤i1∧i1 < (a.length:Int))∧True) (bif Fl.cmp (a.getD i1.toNat (Ty.dflt .flt)) (a.getD i1.toNat (Ty.dflt .flt)) != some Ordering.eq then .need (((0:Int)≤i1∧i1 < (b.length:Int))∧True) (.need (((0:Int)≤i1∧i1 < (b.length:Int))∧True) (bif !Fl.cmp (b.getD i1.toNat (Ty.dflt .flt)) (b.getD i1.toNat (Ty.dflt .flt)) != some Ordering.eq then .need U2 (.ret false) else .stop (hd f156 0) (re a b (w64 (i1+1))))) else .need U2 (.ret false))))) else .need U2 (.ret true)):=by kernel_rfl
def zr (i1 i5:Int) (l3:List Cell) (l4:List Log) (i6:Int) (l5:List Tip):AS:=mkS 92 [(2,.ptr 0 0),(5,.ptr 1 0),(7,i64 i1),(13,i64 i6)] [(0,.box [nS,nS,nS,i64 0,i64 0,i64 0]),(1,.box [.own 2 .cell,.own 3 .log,.own 4 .tip,i64 i5,i64 0,i64 0]),(2,.row 76 .cell l3),(3,.row 146 .log l4),(4,.row 194 .tip l5)] 5
def wd (d:Deck) (i1 i4 i2 i3:Int) (l1:List Cell) (l2:List Log):AS:=mkS 92 [(1,.ptr 0 0),(2,.ptr 1 0),(5,.ptr 2 0),(7,i64 i1),(9,i64 i4),(10,.ptr 3 0),(11,i64 i2)] [(0,.box (dC d)),(1,.box [nS,nS,nS,i64 0,i64 0,i64 0]),(2,.box [.own 4 .cell,.own 5 .log,nS,i64 i3,i64 0,i64 0]),(3,.box [i64 (d.plates.getD i4.toNat (Ty.dflt .plate)).rows,i64 (d.plates.getD i4.toNat (Ty.dflt .plate)).cols,.d (.f (d.plates.getD i4.toNat (Ty.dflt .plate)).x),.d (.f (d.plates.getD i4.toNat (Ty.dflt .plate)).pitch),.d (.f (d.plates.getD i4.toNat (Ty.dflt .plate)).reach),i64 (d.plates.getD i4.toNat (Ty.dflt .plate)).cap,.d (.sl .int (d.plates.getD i4.toNat (Ty.dflt .plate)).start)]),(4,.row 76 .cell l1),(5,.row 146 .log l2)] 6
def wg (d:Deck) (i1 i4 i5:Int) (l3:List Cell) (l4:List Log):AS:=mkS 92 [(1,.ptr 0 0),(2,.ptr 1 0),(5,.ptr 2 0),(7,i64 i1),(9,i64 i4)] [(0,.box (dC d)),(1,.box [nS,nS,nS,i64 0,i64 0,i64 0]),(2,.box [.own 3 .cell,.own 4 .log,nS,i64 i5,i64 0,i64 0]),(3,.row 76 .cell l3),(4,.row 146 .log l4)] 5
theorem t87x (d:Deck):@Eq _ (xS prog codes sigs f87 [.stock,.int] 300 [⟨.deck,d⟩]) (.need (U5∧True) (.callP 70 [⟨.deck,d⟩] [.int] fun (x:Int)=>bif x != 0 then .need (U7∧U2) (.ret (Stock.mk [] [] [] (0:Int) (0:Int) (0:Int),x)) else .need (U5∧True) (.callP 152 [⟨.deck,d⟩] [.int,.int,.int] fun (x:Int×Int×Int)=>.stop (hd f87 0) (mkS 92 [(1,.ptr 0 0),(2,.ptr 1 0),(5,.ptr 2 0),(7,i64 x.2.1),(9,i64 0)] [(0,.box (dC d)),(1,.box [nS,nS,nS,i64 0,i64 0,i64 0]),(2,.box [nS,nS,nS,i64 0,i64 0,i64 0])] 3)))):=by kernel_rfl
theorem HK (d:Deck) (i1 i4 i5:Int) (l3:List Cell) (l4:List Log):@Eq _ (xL prog codes sigs f87 [.stock,.int] 300 0 (wg d i1 i4 i5 l3 l4)) (bif decide (i4 < (d.plates.length:Int)) then .need (((0:Int)≤i4∧i4 < (d.plates.length:Int))∧True) (.stop (hd f87 1) (wd d i1 i4 (0:Int) i5 l3 l4)) else .stop (hd f87 2) (mkS 92 [(2,.ptr 0 0),(5,.ptr 1 0),(7,i64 i1),(13,i64 0)] [(0,.box [nS,nS,nS,i64 0,i64 0,i64 0]),(1,.box [.own 2 .cell,.own 3 .log,nS,i64 i5,i64 0,i64 0]),(2,.row 76 .cell l3),(3,.row 146 .log l4)] 4)):=by kernel_rfl
theorem HJ (d:Deck) (i1 i4 i2 i3:Int) (l1:List Cell) (l2:List Log):@Eq _ (xL prog codes sigs f87 [.stock,.int] 300 1 (wd d i1 i4 i2 i3 l1 l2)) (bif decide (i2 < w64 ((d.plates.getD i4.toNat (Ty.dflt .plate)).rows * (d.plates.getD i4.toNat (Ty.dflt .plate)).cols)) then bif decide (i2 < (↑(d.plates.getD i4.toNat (Ty.dflt .plate)).start.length:Int)) then .need (((0:Int)≤i2∧i2 < (↑(d.plates.getD i4.toNat (Ty.dflt .plate)).start.length:Int))∧True) (.need (U4∧True) (.need ((l1.length+List.length [Cell.mk (d.plates.getD i4.toNat (Ty.dflt .plate)).cap ((d.plates.getD i4.toNat (Ty.dflt .plate)).start.getD i2.toNat (Ty.dflt .int)) (0:Int)]) * 25≤35184372088832∧True) (.need (U4∧True) (.need ((l2.length+List.length [Log.mk (8:Int) (0:Int) []]) * 41≤35184372088832∧True) (.stop (hd f87 1) (wd d i1 i4 (w64 (i2+1)) (w64 (i3+(d.plates.getD i4.toNat (Ty.dflt .plate)).start.getD i2.toNat (Ty.dflt .int))) (l1++[Cell.mk (d.plates.getD i4.toNat (Ty.dflt .plate)).cap ((d.plates.getD i4.toNat (Ty.dflt .plate)).start.getD i2.toNat (Ty.dflt .int)) (0:Int)]) (l2++[Log.mk (8:Int) (0:Int) []]))))))) else .need (U4∧True) (.need ((l1.length+List.length [Cell.mk (d.plates.getD i4.toNat (Ty.dflt .plate)).cap (0:Int) (0:Int)]) * 25≤35184372088832∧True) (.need (U4∧True) (.need ((l2.length+List.length [Log.mk (8:Int) (0:Int) []]) * 41≤35184372088832∧True) (.stop (hd f87 1) (wd d i1 i4 (w64 (i2+1)) (w64 (i3+0)) (l1++[Cell.mk (d.plates.getD i4.toNat (Ty.dflt .plate)).cap (0:Int) (0:Int)]) (l2++[Log.mk (8:Int) (0:Int) []])))))) else .stop (hd f87 0) (wg d i1 (w64 (i4+1)) i3 l1 l2)):=by kernel_rfl
theorem HI (i1 i5:Int) (l3:List Cell) (l4:List Log) (i6:Int) (l5:List Tip):@Eq _ (xL prog codes sigs f87 [.stock,.int] 300 2 (zr i1 i5 l3 l4 i6 l5)) (bif decide (i6 < i1) then .need (U3∧True) (.need ((l5.length+List.length [Tip.mk (1:Int) (0:Int)]) * 17≤35184372088832∧True) (.stop (hd f87 2) (zr i1 i5 l3 l4 (w64 (i6+1)) (l5++[Tip.mk (1:Int) (0:Int)])))) else .need (U7∧U2) (.ret (Stock.mk l3 l4 l5 i5 (0:Int) (0:Int),(0:Int)))):=by kernel_rfl
def zx (d:Deck) (l1:List Cell) (l2:List Log) (l3:List Tip) (i1 i2 i3 i4:Int) (l4:List Int):AS:=mkS 33 [(1,.ptr 0 0),(2,.ptr 1 0),(6,.ptr 2 0),(7,i64 i4)] [(0,.box (dC d)),(1,.box [nS,nS,nS,i64 0,nS,nS,nS,i64 0,i64 0,i64 0,nS]),(2,.box [.d (.sl .flt d.borders),.d (.sl .plate d.plates),.d (.sl .rack d.racks),i64 d.arms,.d (.sl .cell l1),.d (.sl .log l2),.d (.sl .tip l3),i64 i1,i64 i2,i64 i3,.own 3 .int]),(3,.row 3 .int l4)] 4
theorem t29x (d:Deck):@Eq _ (xS prog codes sigs f29 [.model,.int] 300 [⟨.deck,d⟩]) (.need (U5∧True) (.callP 87 [⟨.deck,d⟩] [.stock,.int] fun (x:Stock×Int)=>bif x.2 != 0 then .need (U12∧U2) (.ret (Model.mk (Deck.mk [] [] [] (0:Int)) (Stock.mk [] [] [] (0:Int) (0:Int) (0:Int)) [],x.2)) else .stop (hd f29 0) (mkS 33 [(1,.ptr 0 0),(2,.ptr 1 0),(6,.ptr 2 0),(7,i64 0)] [(0,.box (dC d)),(1,.box [nS,nS,nS,i64 0,nS,nS,nS,i64 0,i64 0,i64 0,nS]),(2,.box [.d (.sl .flt d.borders),.d (.sl .plate d.plates),.d (.sl .rack d.racks),i64 d.arms,.d (.sl .cell x.1.cells),.d (.sl .log x.1.logs),.d (.sl .tip x.1.tips),i64 x.1.start,i64 x.1.inn,i64 x.1.out,nS])] 3))):=by kernel_rfl
theorem HS (d:Deck) (l1:List Cell) (l2:List Log) (l3:List Tip) (i1 i2 i3 i4:Int) (l4:List Int):@Eq _ (xL prog codes sigs f29 [.model,.int] 300 0 (zx d l1 l2 l3 i1 i2 i3 i4 l4)) (.need (U5∧True) (.callP 88 [⟨.deck,d⟩] [.sl .part] fun (x:List Part)=>bif decide (i4 < (x.length:Int)) then .need (U2∧True) (.need ((l4.length+List.length [(0:Int)]) * 9≤35184372088832∧True) (.stop (hd f29 0) (zx d l1 l2 l3 i1 i2 i3 (w64 (i4+1)) (l4++[(0:Int)])))) else .need (U12∧U2) (.ret (Model.mk d (Stock.mk l1 l2 l3 i1 i2 i3) l4,(0:Int))))):=by kernel_rfl
def zt (i4:Int) (l3:List Cell) (l4:List Log) (i5 i6:Int) (l5:List Tip):AS:=mkS 95 [(2,.ptr 0 0),(5,.ptr 1 0),(84,i64 i5),(85,i64 i6)] [(0,.box [nS,nS,nS,i64 0,i64 0,i64 0]),(1,.box [.own 2 .cell,.own 3 .log,.own 4 .tip,i64 i4,i64 0,i64 0]),(2,.row 76 .cell l3),(3,.row 146 .log l4),(4,.row 194 .tip l5)] 5
def wj (d:Deck) (i3 i1 i2:Int) (l1:List Cell) (l2:List Log):AS:=mkS 95 [(1,.ptr 0 0),(2,.ptr 1 0),(5,.ptr 2 0),(7,.ptr 3 0),(24,.d (.sl .plate d.plates)),(25,i64 (d.plates.length:Int)),(26,i64 i3),(34,i64 (w64 ((d.plates.getD i3.toNat (Ty.dflt .plate)).rows * (d.plates.getD i3.toNat (Ty.dflt .plate)).cols))),(35,i64 i1)] [(0,.box (dC d)),(1,.box [nS,nS,nS,i64 0,i64 0,i64 0]),(2,.box [.own 4 .cell,.own 5 .log,nS,i64 i2,i64 0,i64 0]),(3,.box [i64 (d.plates.getD i3.toNat (Ty.dflt .plate)).rows,i64 (d.plates.getD i3.toNat (Ty.dflt .plate)).cols,.d (.f (d.plates.getD i3.toNat (Ty.dflt .plate)).x),.d (.f (d.plates.getD i3.toNat (Ty.dflt .plate)).pitch),.d (.f (d.plates.getD i3.toNat (Ty.dflt .plate)).reach),i64 (d.plates.getD i3.toNat (Ty.dflt .plate)).cap,.d (.sl .int (d.plates.getD i3.toNat (Ty.dflt .plate)).start)]),(4,.row 76 .cell l1),(5,.row 146 .log l2)] 6
def wk (d:Deck) (i3 i4:Int) (l3:List Cell) (l4:List Log):AS:=mkS 95 [(1,.ptr 0 0),(2,.ptr 1 0),(5,.ptr 2 0),(24,.d (.sl .plate d.plates)),(25,i64 (d.plates.length:Int)),(26,i64 i3)] [(0,.box (dC d)),(1,.box [nS,nS,nS,i64 0,i64 0,i64 0]),(2,.box [.own 3 .cell,.own 4 .log,nS,i64 i4,i64 0,i64 0]),(3,.row 76 .cell l3),(4,.row 146 .log l4)] 5
theorem t83x (d:Deck):@Eq _ (xS prog codes sigs f83 [.stock,.int] 300 [⟨.deck,d⟩]) (.need (U5∧True) (.callP 61 [⟨.deck,d⟩] [.int] fun (x:Int)=>bif x != 0 then .need (U7∧U2) (.ret (Stock.mk [] [] [] (0:Int) (0:Int) (0:Int),x)) else .stop (hd f83 0) (mkS 95 [(1,.ptr 0 0),(2,.ptr 1 0),(5,.ptr 2 0),(24,.d (.sl .plate d.plates)),(25,i64 (d.plates.length:Int)),(26,i64 0)] [(0,.box (dC d)),(1,.box [nS,nS,nS,i64 0,i64 0,i64 0]),(2,.box [nS,nS,nS,i64 0,i64 0,i64 0])] 3))):=by kernel_rfl
theorem HP (d:Deck) (i3 i4:Int) (l3:List Cell) (l4:List Log):@Eq _ (xL prog codes sigs f83 [.stock,.int] 300 0 (wk d i3 i4 l3 l4)) (bif decide (i3 < (d.plates.length:Int)) then .need (((0:Int)≤i3∧i3 < (d.plates.length:Int))∧True) (.stop (hd f83 1) (wj d i3 (0:Int) i4 l3 l4)) else .need (U5∧True) (.callP 84 [⟨.deck,d⟩] [.int,.int,.int] fun (x:Int×Int×Int)=>.stop (hd f83 2) (mkS 95 [(2,.ptr 0 0),(5,.ptr 1 0),(84,i64 x.2.1),(85,i64 0)] [(0,.box [nS,nS,nS,i64 0,i64 0,i64 0]),(1,.box [.own 2 .cell,.own 3 .log,nS,i64 i4,i64 0,i64 0]),(2,.row 76 .cell l3),(3,.row 146 .log l4)] 4))):=by kernel_rfl
theorem HO (d:Deck) (i3 i1 i2:Int) (l1:List Cell) (l2:List Log):@Eq _ (xL prog codes sigs f83 [.stock,.int] 300 1 (wj d i3 i1 i2 l1 l2)) (bif decide (i1 < w64 ((d.plates.getD i3.toNat (Ty.dflt .plate)).rows * (d.plates.getD i3.toNat (Ty.dflt .plate)).cols)) then bif decide (i1 < (↑(d.plates.getD i3.toNat (Ty.dflt .plate)).start.length:Int)) then .need (((0:Int)≤i1∧i1 < (↑(d.plates.getD i3.toNat (Ty.dflt .plate)).start.length:Int))∧True) (.need (U2∧U2∧True) (.callP 139 [Sigma.mk .int (d.plates.getD i3.toNat (Ty.dflt .plate)).cap,⟨.int,((d.plates.getD i3.toNat (Ty.dflt .plate)).start.getD i1.toNat (Ty.dflt .int))⟩] [.cell,.int] fun (x:Cell×Int)=>.need (U2∧True) (.callP 140 [⟨.int,(8:Int)⟩] [.log,.int] fun (x_1:Log×Int)=>.need (U4∧True) (.need ((l1.length+List.length [x.1]) * 25≤35184372088832∧True) (.need (U4∧True) (.need ((l2.length+List.length [x_1.1]) * 41≤35184372088832∧True) (.stop (hd f83 1) (wj d i3 (w64 (i1+1)) (w64 (i2+(d.plates.getD i3.toNat (Ty.dflt .plate)).start.getD i1.toNat (Ty.dflt .int))) (l1++[x.1]) (l2++[x_1.1]))))))))) else .need (U2∧U2∧True) (.callP 139 [Sigma.mk .int (d.plates.getD i3.toNat (Ty.dflt .plate)).cap,⟨.int,(0:Int)⟩] [.cell,.int] fun (x:Cell×Int)=>.need (U2∧True) (.callP 140 [⟨.int,(8:Int)⟩] [.log,.int] fun (x_1:Log×Int)=>.need (U4∧True) (.need ((l1.length+List.length [x.1]) * 25≤35184372088832∧True) (.need (U4∧True) (.need ((l2.length+List.length [x_1.1]) * 41≤35184372088832∧True) (.stop (hd f83 1) (wj d i3 (w64 (i1+1)) (w64 (i2+0)) (l1++[x.1]) (l2++[x_1.1])))))))) else .stop (hd f83 0) (wk d (w64 (i3+1)) i2 l1 l2)):=by kernel_rfl
theorem HN (i4:Int) (l3:List Cell) (l4:List Log) (i5 i6:Int) (l5:List Tip):@Eq _ (xL prog codes sigs f83 [.stock,.int] 300 2 (zt i4 l3 l4 i5 i6 l5)) (bif decide (i6 < i5) then .need (U3∧True) (.need ((l5.length+List.length [Tip.mk (1:Int) (0:Int)]) * 17≤35184372088832∧True) (.stop (hd f83 2) (zt i4 l3 l4 i5 (w64 (i6+1)) (l5++[Tip.mk (1:Int) (0:Int)])))) else .need (U7∧U2) (.ret (Stock.mk l3 l4 l5 i4 (0:Int) (0:Int),(0:Int)))):=by kernel_rfl
def qZ (d:Deck) (s:Stock) (i5 i1 i2 i6:Int):AS:=mkS 82 [(3,.ptr 0 0),(6,i64 i1),(7,i64 i2),(9,.ptr 1 0),(14,.d (.sl .plate d.plates)),(15,i64 (d.plates.length:Int)),(16,i64 i5),(24,i64 (w64 ((d.plates.getD i5.toNat (Ty.dflt .plate)).rows * (d.plates.getD i5.toNat (Ty.dflt .plate)).cols))),(25,i64 i6)] [(0,.box (sC s)),(1,.box [i64 (d.plates.getD i5.toNat (Ty.dflt .plate)).rows,i64 (d.plates.getD i5.toNat (Ty.dflt .plate)).cols,.d (.f (d.plates.getD i5.toNat (Ty.dflt .plate)).x),.d (.f (d.plates.getD i5.toNat (Ty.dflt .plate)).pitch),.d (.f (d.plates.getD i5.toNat (Ty.dflt .plate)).reach),i64 (d.plates.getD i5.toNat (Ty.dflt .plate)).cap,.d (.sl .int (d.plates.getD i5.toNat (Ty.dflt .plate)).start)])] 2
def rc (d:Deck) (s:Stock) (i3 i4 i5:Int):AS:=mkS 82 [(3,.ptr 0 0),(6,i64 i3),(7,i64 i4),(14,.d (.sl .plate d.plates)),(15,i64 (d.plates.length:Int)),(16,i64 i5)] [(0,.box (sC s))] 1
theorem Kq (d:Deck) (s:Stock):@Eq _ (xS prog codes sigs f158 [.int,.bool] 300 [⟨.deck,d⟩,⟨.stock,s⟩]) (.stop (hd f158 0) (rc d s (0:Int) (0:Int) (0:Int))):=by kernel_rfl
theorem Fp (d:Deck) (s:Stock) (i3 i4 i5:Int):@Eq _ (xL prog codes sigs f158 [.int,.bool] 300 0 (rc d s i3 i4 i5)) (bif decide (i5 < (d.plates.length:Int)) then .need (((0:Int)≤i5∧i5 < (d.plates.length:Int))∧True) (.stop (hd f158 1) (qZ d s i5 i3 i4 (0:Int))) else .need (U2∧U2) (.ret (i3,true))):=by kernel_rfl
theorem Fo (d:Deck) (s:Stock) (i5 i1 i2 i6:Int):@Eq _ (xL prog codes sigs f158 [.int,.bool] 300 1 (qZ d s i5 i1 i2 i6)) (bif decide (i6 < w64 ((d.plates.getD i5.toNat (Ty.dflt .plate)).rows * (d.plates.getD i5.toNat (Ty.dflt .plate)).cols)) then .need (((0:Int)≤i2∧i2 < (s.cells.length:Int))∧True) (.need (((0:Int)≤i2∧i2 < (s.logs.length:Int))∧True) (.need (U4∧True) (.callP 215 [⟨.cell,(s.cells.getD i2.toNat (Ty.dflt .cell))⟩] [.bool] fun (x:Bool)=>bif !x then .need (U2∧U2) (.ret ((0:Int),false)) else bif (s.cells.getD i2.toNat (Ty.dflt .cell)).cap != (d.plates.getD i5.toNat (Ty.dflt .plate)).cap then .need (U2∧U2) (.ret ((0:Int),false)) else .need (U4∧True) (.callP 216 [⟨.log,(s.logs.getD i2.toNat (Ty.dflt .log))⟩] [.bool] fun (x:Bool)=>bif !x then .need (U2∧U2) (.ret ((0:Int),false)) else bif (s.logs.getD i2.toNat (Ty.dflt .log)).room != 8 then .need (U2∧U2) (.ret ((0:Int),false)) else bif (s.logs.getD i2.toNat (Ty.dflt .log)).last != (s.cells.getD i2.toNat (Ty.dflt .cell)).ver then .need (U2∧U2) (.ret ((0:Int),false)) else bif decide (i6 < (↑(d.plates.getD i5.toNat (Ty.dflt .plate)).start.length:Int)) then .need (((0:Int)≤i6∧i6 < (↑(d.plates.getD i5.toNat (Ty.dflt .plate)).start.length:Int))∧True) (.stop (hd f158 1) (qZ d s i5 (w64 (i1+(d.plates.getD i5.toNat (Ty.dflt .plate)).start.getD i6.toNat (Ty.dflt .int))) (w64 (i2+1)) (w64 (i6+1)))) else .stop (hd f158 1) (qZ d s i5 i1 (w64 (i2+1)) (w64 (i6+1))))))) else .stop (hd f158 0) (rc d s i1 i2 (w64 (i5+1)))):=by kernel_rfl
def zo (a b:Stock) (i3:Int):AS:=mkS 109 [(2,.ptr 0 0),(3,.ptr 1 0),(7,i64 i3)] [(0,.box (sC a)),(1,.box (sC b))] 2
def zp (a b:Stock) (i2:Int):AS:=mkS 109 [(2,.ptr 0 0),(3,.ptr 1 0),(6,i64 i2)] [(0,.box (sC a)),(1,.box (sC b))] 2
def zq (a b:Stock) (i1:Int):AS:=mkS 109 [(2,.ptr 0 0),(3,.ptr 1 0),(5,i64 i1)] [(0,.box (sC a)),(1,.box (sC b))] 2
theorem t89x (a b:Stock):@Eq _ (xS prog codes sigs f89 [.bool] 300 [⟨.stock,a⟩,⟨.stock,b⟩]) (bif (a.cells.length:Int) != (b.cells.length:Int) then .need U2 (.ret false) else bif (a.logs.length:Int) != (b.logs.length:Int) then .need U2 (.ret false) else bif (a.tips.length:Int) != (b.tips.length:Int) then .need U2 (.ret false) else bif a.start != b.start then .need U2 (.ret false) else bif a.inn != b.inn then .need U2 (.ret false) else bif a.out != b.out then .need U2 (.ret false) else .stop (hd f89 0) (zq a b (0:Int))):=by kernel_rfl
theorem HH (a b:Stock) (i1:Int):@Eq _ (xL prog codes sigs f89 [.bool] 300 0 (zq a b i1)) (bif decide (i1 < (a.cells.length:Int)) then .need (((0:Int)≤i1∧i1 < (a.cells.length:Int))∧True) (.need (((0:Int)≤i1∧i1 < (b.cells.length:Int))∧True) (bif ! ((a.cells.getD i1.toNat (Ty.dflt .cell)).cap==(b.cells.getD i1.toNat (Ty.dflt .cell)).cap && ((a.cells.getD i1.toNat (Ty.dflt .cell)).vol==(b.cells.getD i1.toNat (Ty.dflt .cell)).vol && ((a.cells.getD i1.toNat (Ty.dflt .cell)).ver==(b.cells.getD i1.toNat (Ty.dflt .cell)).ver && true))) then .need U2 (.ret false) else .stop (hd f89 0) (zq a b (w64 (i1+1))))) else .stop (hd f89 1) (zp a b (0:Int))):=by kernel_rfl
theorem HG (a b:Stock) (i2:Int):@Eq _ (xL prog codes sigs f89 [.bool] 300 1 (zp a b i2)) (bif decide (i2 < (a.logs.length:Int)) then .need (((0:Int)≤i2∧i2 < (a.logs.length:Int))∧True) (.need (((0:Int)≤i2∧i2 < (b.logs.length:Int))∧True) (.need (U4∧U4∧True) (.callP 155 [⟨.log,(a.logs.getD i2.toNat (Ty.dflt .log))⟩,⟨.log,(b.logs.getD i2.toNat (Ty.dflt .log))⟩] [.bool] fun (x:Bool)=>bif !x then .need U2 (.ret false) else .stop (hd f89 1) (zp a b (w64 (i2+1)))))) else .stop (hd f89 2) (zo a b (0:Int))):=by kernel_rfl
theorem HF (a b:Stock) (i3:Int):@Eq _ (xL prog codes sigs f89 [.bool] 300 2 (zo a b i3)) (bif decide (i3 < (a.tips.length:Int)) then .need (((0:Int)≤i3∧i3 < (a.tips.length:Int))∧True) (.need (((0:Int)≤i3∧i3 < (b.tips.length:Int))∧True) (bif ! ((a.tips.getD i3.toNat (Ty.dflt .tip)).state==(b.tips.getD i3.toNat (Ty.dflt .tip)).state && ((a.tips.getD i3.toNat (Ty.dflt .tip)).by'==(b.tips.getD i3.toNat (Ty.dflt .tip)).by' && true)) then .need U2 (.ret false) else .stop (hd f89 2) (zo a b (w64 (i3+1))))) else .need U2 (.ret true)):=by kernel_rfl
def zm (a b:Deck) (i2:Int):AS:=mkS 151 [(2,.ptr 0 0),(3,.ptr 1 0),(8,i64 i2)] [(0,.box (dC a)),(1,.box (dC b))] 2
def zn (a b:Deck) (i1:Int):AS:=mkS 151 [(2,.ptr 0 0),(3,.ptr 1 0),(5,i64 i1)] [(0,.box (dC a)),(1,.box (dC b))] 2
theorem t90x (a b:Deck):@Eq _ (xS prog codes sigs f90 [.bool] 300 [⟨.deck,a⟩,⟨.deck,b⟩]) (.need (U2∧U2∧True) (.callP 156 [⟨.sl .flt,a.borders⟩,⟨.sl .flt,b.borders⟩] [.bool] fun (x:Bool)=>bif !x then .need U2 (.ret false) else bif (a.plates.length:Int) != (b.plates.length:Int) then .need U2 (.ret false) else bif (a.racks.length:Int) != (b.racks.length:Int) then .need U2 (.ret false) else bif a.arms != b.arms then .need U2 (.ret false) else .stop (hd f90 0) (zn a b (0:Int)))):=by kernel_rfl
theorem HE (a b:Deck) (i1:Int):@Eq _ (xL prog codes sigs f90 [.bool] 300 0 (zn a b i1)) (bif decide (i1 < (a.plates.length:Int)) then .need (((0:Int)≤i1∧i1 < (a.plates.length:Int))∧True) (.need (((0:Int)≤i1∧i1 < (b.plates.length:Int))∧True) (bif (a.plates.getD i1.toNat (Ty.dflt .plate)).rows != (b.plates.getD i1.toNat (Ty.dflt .plate)).rows then .need U2 (.ret false) else bif (a.plates.getD i1.toNat (Ty.dflt .plate)).cols != (b.plates.getD i1.toNat (Ty.dflt .plate)).cols then .need U2 (.ret false) else bif (a.plates.getD i1.toNat (Ty.dflt .plate)).cap != (b.plates.getD i1.toNat (Ty.dflt .plate)).cap then .need U2 (.ret false) else .need (U2∧U2∧True) (.callP 20 [Sigma.mk (.sl .int) (a.plates.getD i1.toNat (Ty.dflt .plate)).start,Sigma.mk (.sl .int) (b.plates.getD i1.toNat (Ty.dflt .plate)).start] [.bool] fun (x:Bool)=>bif !x then .need U2 (.ret false) else .need (U2∧U2∧U2∧True) (.need (U2∧U2∧U2∧True) (.need (U2∧U2∧True) (.callP 156 [Sigma.mk (.sl .flt) [(a.plates.getD i1.toNat (Ty.dflt .plate)).x,(a.plates.getD i1.toNat (Ty.dflt .plate)).pitch,(a.plates.getD i1.toNat (Ty.dflt .plate)).reach],Sigma.mk (.sl .flt) [(b.plates.getD i1.toNat (Ty.dflt .plate)).x,(b.plates.getD i1.toNat (Ty.dflt .plate)).pitch,(b.plates.getD i1.toNat (Ty.dflt .plate)).reach]] [.bool] fun (x:Bool)=>bif !x then .need U2 (.ret false) else .stop (hd f90 0) (zn a b (w64 (i1+1))))))))) else .stop (hd f90 1) (zm a b (0:Int))):=by kernel_rfl
theorem HD (a b:Deck) (i2:Int):@Eq _ (xL prog codes sigs f90 [.bool] 300 1 (zm a b i2)) (bif decide (i2 < (a.racks.length:Int)) then .need (((0:Int)≤i2∧i2 < (a.racks.length:Int))∧True) (.need (((0:Int)≤i2∧i2 < (b.racks.length:Int))∧True) (bif (a.racks.getD i2.toNat (Ty.dflt .rack)).rows != (b.racks.getD i2.toNat (Ty.dflt .rack)).rows then .need U2 (.ret false) else bif (a.racks.getD i2.toNat (Ty.dflt .rack)).cols != (b.racks.getD i2.toNat (Ty.dflt .rack)).cols then .need U2 (.ret false) else .need (U2∧U2∧U2∧True) (.need (U2∧U2∧U2∧True) (.need (U2∧U2∧True) (.callP 156 [Sigma.mk (.sl .flt) [(a.racks.getD i2.toNat (Ty.dflt .rack)).x,(a.racks.getD i2.toNat (Ty.dflt .rack)).pitch,(a.racks.getD i2.toNat (Ty.dflt .rack)).reach],Sigma.mk (.sl .flt) [(b.racks.getD i2.toNat (Ty.dflt .rack)).x,(b.racks.getD i2.toNat (Ty.dflt .rack)).pitch,(b.racks.getD i2.toNat (Ty.dflt .rack)).reach]] [.bool] fun (x:Bool)=>bif !x then .need U2 (.ret false) else .stop (hd f90 1) (zm a b (w64 (i2+1)))))))) else .need U2 (.ret true)):=by kernel_rfl
end Go.Proofs.Mn
