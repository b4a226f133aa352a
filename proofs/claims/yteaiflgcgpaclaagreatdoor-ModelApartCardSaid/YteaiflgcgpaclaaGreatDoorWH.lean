/- Own work: part WH of the proof. -/
import Derived.Test.YteaiflgcgpaclaaGreatDoorWE
import Derived.Test.YteaiflgcgpaclaaGreatDoorWG
import Derived.Shelf.SlSortCmp.WholeK
import Derived.Shelf.SlSortCmp.NoneTotal
import Derived.Ground.SlsfProg
import Derived.Ground.NamesProg
import Derived.Test.YteaiflgcgpaclaaGreatDoorChecked
import Derived.WalkKit
import Derived.Test.YteaiflgcgpaclaaGreatDoorWF
import Derived.Laws.Externs
import GoSem.Extern.MathBitsCarry
import Derived.Test.YteaiflgcgpaclaaGreatDoorWD
set_option linter.unusedVariables false
set_option linter.unusedSimpArgs false
namespace Go.Proofs.Sp
open Go.Proofs.Tryz
open Go Go.VL
def follows (a b:yG):Bool:=bif decide (b.lo<=a.hi)then true else(w64 (b.lo-1)==a.hi)
def goJ:List yG->List yG->List yG
 | [],out=>out
 | y::ys,out=>bif decide (0<out.length)&&follows (out.getD (out.length-1) Ty.span.dflt) y then goJ ys (out.set (out.length-1) (mH (out.getD (out.length-1) Ty.span.dflt) y))else goJ ys (out++[y])
theorem CB {ys:List yG}{n:Nat}(hn:n<=ys.length)(hl:Sm ys.length){r:List yG}{A:Pr}(hA:CL codes sigs f257 [.sl .span] r A) :
  ∀ (k i:Nat) (out:List yG),i+k=n->out.length<=i->goJ ((ys.take n).drop i) out=r->A (hd f257 0) (L31 ys n out i)
 | 0, i, out, hi, ho, hr => by
   refine hA.go (Rr ys n out i) (ae (λ h=>?_) (λ h=>?_))
   ·simp only[bC]at h;omega
   ·refine⟨⟨tv,tv⟩,?_⟩
    rw[dN (by rw[aD];omega)]at hr
    exact hr
 | k + 1, i, out, hi, ho, hr => by
   have hlt:i<n:=by omega
   have hiy:i<(ys.take n).length:=by rw[aD];omega
   rw[dG hiy]at hr
   have hy:ys.getD (0+(i:Int).toNat) Ty.span.dflt=(ys.take n)[i]:=by
    rw[au,cE,lE]
    simp[List.getD,show i<ys.length by omega]
   have hw:w64 ((i:Int)+1)=((i+1:Nat):Int):=by
    unfold Sm at hl
    rw[oR (by omega) (by omega)];rfl
   unfold Sm at hl
   have fresh:(decide (0<out.length)&&follows (out.getD (out.length-1) Ty.span.dflt) (ys.take n)[i])=false->A (hd f257 0) (L31 ys n (out++[ys.getD (0+(i:Int).toNat) Ty.span.dflt]) (i+1:Nat)):=by
    intro hf
    have hr:(bif decide (0<out.length)&&follows (out.getD (out.length-1) Ty.span.dflt) (ys.take n)[i]then _ else goJ ((ys.take n).drop (i+1)) (out++[(ys.take n)[i]]))=r:=hr
    rw[hf]at hr
    rw[hy]
    exact CB hn hl hA k (i+1) _ (by omega) (by simp;omega) hr
   refine hA.go (Rr ys n out i) (ae (λ h=>?_) (λ h=>?_))
   ·refine⟨⟨by omega,by omega⟩,by simp only[au];omega,ae (λ h2=>?_) (λ h2=>?_)⟩
    ·simp only[bC]at h2
     have hpos:0<out.length:=by omega
     have hwl:w64 ((out.length:Int)-1)=((out.length-1:Nat):Int):=by
      rw[oR (by omega) (by omega)];omega
     have hlast:out.getD ((w64 ((out.length:Int)-1)).toNat) Ty.span.dflt=out.getD (out.length-1) Ty.span.dflt:=by rw[hwl,au]
     have hn1:(0:Int)<=w64 ((out.length:Int)-1)/\w64 ((out.length:Int)-1)<(out.length:Int):=by rw[hwl];omega
     have hn2:(w64 ((out.length:Int)-1)).toNat<out.length:=by rw[hwl,au];omega
     refine⟨hn1,hn2,⟨T3,T3,tv⟩,_,c82 _ _,ae (λ h3=>?_) (λ h3=>?_)⟩
     ·have h3:follows (out.getD ((w64 ((out.length:Int)-1)).toNat) Ty.span.dflt) (ys.getD (0+(i:Int).toNat) Ty.span.dflt)=true:=h3
      rw[hlast,hy]at h3
      refine⟨hn1,hn2,⟨T3,T3,tv⟩,_,c21 _ _,hn1,⟨hn2,T3⟩,?_⟩
      have hr:(bif decide (0<out.length)&&follows (out.getD (out.length-1) Ty.span.dflt) (ys.take n)[i]then goJ ((ys.take n).drop (i+1)) (out.set (out.length-1) (mH (out.getD (out.length-1) Ty.span.dflt) (ys.take n)[i]))else _)=r:=hr
      rw[h3,dT hpos]at hr
      rw[hw]
      have hset:List.set out ((w64 ((out.length:Int)-1)).toNat) (mH (out.getD ((w64 ((out.length:Int)-1)).toNat) Ty.span.dflt) (ys.getD (0+(i:Int).toNat) Ty.span.dflt)) =
       out.set (out.length-1) (mH (out.getD (out.length-1) Ty.span.dflt) (ys.take n)[i]):=by rw[hlast,hy,hwl,au]
      show A (hd f257 0) (L31 ys n (List.set out ((w64 ((out.length:Int)-1)).toNat) (mH (out.getD ((w64 ((out.length:Int)-1)).toNat) Ty.span.dflt) (ys.getD (0+(i:Int).toNat) Ty.span.dflt))) (i+1:Nat))
      rw[hset]
      exact CB hn hl hA k (i+1) _ (by omega) (by simp;omega) hr
     ·have h3:follows (out.getD ((w64 ((out.length:Int)-1)).toNat) Ty.span.dflt) (ys.getD (0+(i:Int).toNat) Ty.span.dflt)=false:=h3
      rw[hlast,hy]at h3
      refine⟨⟨T3,tv⟩,⟨by simp only[af,ak];omega,tv⟩,?_⟩
      rw[hw]
      exact fresh (by rw[h3,Bool.and_false])
    ·refine⟨⟨T3,tv⟩,⟨by simp only[af,ak];omega,tv⟩,?_⟩
     rw[hw]
     simp only[cN]at h2
     exact fresh (by rw[dF (by omega),Bool.false_and])
   ·simp only[cN]at h;omega
theorem Qo (srt:List yG->List yG)(hlen:∀ xs,(srt xs).length=xs.length)
  (h80:∀ (zs:List yG) (n:Nat),n<=zs.length->Sm zs.length->Gc prog 293 [.view 0 .span 0 n,.clo (.func 294) [] []] [(0,.row 175 .span zs)] 1 ⟨[],[(0,.row 175 .span (srt (zs.take n)++zs.drop n))],1⟩)
  {xs:List yG} (hl:Sm xs.length):yJ prog 257 [⟨.sl .span,xs⟩] [.sl .span] (goJ (srt (keep xs)) []):=by
 have hk:(keep xs).length<=xs.length:=ge _ _
 have hp:(pad xs.length (keep xs)).length=xs.length:=by simp[pad];omega
 refine pcl codes sigs func257 (by kernel_rfl) λ A hA=>hA.go (t31 xs) ⟨xs,c79 hl,keep xs,c78 hl,srt ((pad xs.length (keep xs)).take (keep xs).length)++(pad xs.length (keep xs)).drop (keep xs).length,h80 _ _ (by omega) (by rw[hp];exact hl),?_⟩
 have htake:(pad xs.length (keep xs)).take (keep xs).length=keep xs:=by simp[pad]
 rw[htake]
 refine hA.row 4 175 .span (by kernel_rfl) (s':=L31 (srt (keep xs)++(pad xs.length (keep xs)).drop (keep xs).length) (keep xs).length [] 0) (by kernel_rfl) ?_
 refine CB (n:=(keep xs).length) (by simp[hlen]) ?_ hA (keep xs).length 0 [] (by omega) (by simp) ?_
 ·have:(srt (keep xs)++(pad xs.length (keep xs)).drop (keep xs).length).length=xs.length:=by
   rw[al,hlen,aL,hp];omega
  rw[this];exact hl
 ·rw[bE,List.take_left' (hlen _)]
abbrev Fit (n:Int):Prop := -9223372036854775808<=n/\n<9223372036854775808
end Go.Proofs.Sp
namespace Go.Proofs
open Go.Shelf
def Tryz.sortSp_ren:Go.Shelf.Ren:=⟨fun|6=>293|15=>310|14=>309|28=>324|29=>325|20=>316|21=>317|22=>318|23=>319|24=>320|25=>321|26=>322|27=>323|46=>327|47=>328|48=>329|49=>330|50=>331|57=>332|n=>n,fun|22=>184|24=>175|25=>317|3=>3|39=>240|0=>0|53=>337|55=>28|4=>4|46=>331|45=>330|50=>130|5=>5|9=>9|66=>339|70=>308|76=>344|77=>168|n=>n,fun|n=>n⟩
theorem Tryz.sortSp:Go.Proofs.SlLaysF0.n6 prog Tryz.sortSp_ren:={
 mixed:=by kernel_rfl
 f6:=⟨f293.name,by decide,func293.trans (congrArg some (by kernel_rfl))⟩
 f14:=⟨f309.name,by decide,func309.trans (congrArg some (by kernel_rfl))⟩
 f15:=func310.trans (congrArg some (by kernel_rfl))
 f20:=⟨f316.name,by decide,func316.trans (congrArg some (by kernel_rfl))⟩
 f21:=⟨f317.name,by decide,func317.trans (congrArg some (by kernel_rfl))⟩
 f22:=⟨f318.name,by decide,func318.trans (congrArg some (by kernel_rfl))⟩
 f23:=⟨f319.name,by decide,func319.trans (congrArg some (by kernel_rfl))⟩
 f24:=⟨f320.name,by decide,func320.trans (congrArg some (by kernel_rfl))⟩
 f25:=⟨f321.name,by decide,func321.trans (congrArg some (by kernel_rfl))⟩
 f26:=⟨f322.name,by decide,func322.trans (congrArg some (by kernel_rfl))⟩
 f27:=⟨f323.name,by decide,func323.trans (congrArg some (by kernel_rfl))⟩
 f28:=func324.trans (congrArg some (by kernel_rfl))
 f29:=func325.trans (congrArg some (by kernel_rfl))
 f46:=⟨f327.name,by decide,func327.trans (congrArg some (by kernel_rfl))⟩
 f47:=func328.trans (congrArg some (by kernel_rfl))
 f48:=func329.trans (congrArg some (by kernel_rfl))
 f49:=⟨f330.name,by decide,func330.trans (congrArg some (by kernel_rfl))⟩
 f50:=⟨f331.name,by decide,func331.trans (congrArg some (by kernel_rfl))⟩
 f57:=⟨f332.name,by decide,func332.trans (congrArg some (by kernel_rfl))⟩
 t0:=Tryz.underlying0
 a0:=Tryz.isAgg0
 z0:=Tryz.sizeOf0
 v0:=Tryz.zeroValue0
 t3:=Tryz.underlying3
 a3:=Tryz.isAgg3
 z3:=Tryz.sizeOf3
 v3:=Tryz.zeroValue3
 t4:=Tryz.underlying4
 a4:=Tryz.isAgg4
 z4:=Tryz.sizeOf4
 v4:=Tryz.zeroValue4
 t5:=Tryz.underlying5
 a5:=Tryz.isAgg5
 z5:=Tryz.sizeOf5
 v5:=Tryz.zeroValue5
 t9:=Tryz.underlying9
 a9:=Tryz.isAgg9
 z9:=Tryz.sizeOf9
 v9:=Tryz.zeroValue9
 t22:=Tryz.underlying184
 a22:=Tryz.isAgg184
 z22:=Tryz.sizeOf184
 v22:=Tryz.zeroValue184
 t25:=Tryz.underlying317
 a25:=Tryz.isAgg317
 z25:=Tryz.sizeOf317
 v25:=Tryz.zeroValue317
 t39:=Tryz.underlying240
 a39:=Tryz.isAgg240
 z39:=Tryz.sizeOf240
 v39:=Tryz.zeroValue240
 t45:=Tryz.underlying330
 a45:=Tryz.isAgg330
 z45:=Tryz.sizeOf330
 v45:=Tryz.zeroValue330
 t46:=Tryz.underlying331
 a46:=Tryz.isAgg331
 z46:=Tryz.sizeOf331
 v46:=Tryz.zeroValue331
 t50:=Tryz.underlying130
 a50:=Tryz.isAgg130
 z50:=Tryz.sizeOf130
 v50:=Tryz.zeroValue130
 t53:=Tryz.underlying337
 a53:=Tryz.isAgg337
 z53:=Tryz.sizeOf337
 v53:=Tryz.zeroValue337
 t55:=Tryz.underlying28
 a55:=Tryz.isAgg28
 z55:=Tryz.sizeOf28
 v55:=Tryz.zeroValue28
 t66:=Tryz.underlying339
 a66:=Tryz.isAgg339
 z66:=Tryz.sizeOf339
 v66:=Tryz.zeroValue339
 t70:=Tryz.underlying308
 a70:=Tryz.isAgg308
 z70:=Tryz.sizeOf308
 v70:=Tryz.zeroValue308
 t76:=Tryz.underlying344
 a76:=Tryz.isAgg344
 z76:=Tryz.sizeOf344
 v76:=Tryz.zeroValue344
 t77:=Tryz.underlying168
 a77:=Tryz.isAgg168
 z77:=Tryz.sizeOf168
 v77:=Tryz.zeroValue168 }
end Go.Proofs
namespace Go.Proofs.Sp
open Go.Proofs.Tryz
open Go Go.VL
abbrev sa (s:yG):Prop:=Fit s.lo/\Fit s.hi
structure Can (l:List yG):Prop where
 ne:∀ s∈l,s.lo<=s.hi
 ap:l.Pairwise λ a b=>a.hi+1<b.lo
def Den (l:List yG)(n:Int):Prop:=∃ s∈l,s.lo<=n/\n<=s.hi
theorem yc {n:Int}:Den [] n↔False:=⟨λ⟨_,h,_⟩=>(by cases h),False.elim⟩
theorem ui {s:yG}{l:List yG}{n:Int}:Den (s::l) n↔(s.lo<=n/\n<=s.hi)\/Den l n:=by
 simp only[Den,aB,exists_eq_or_imp]
theorem yd {l m:List yG}{n:Int}:Den (l++m) n↔Den l n\/Den m n:=by
 simp only[Den,az,or_and_right,exists_or]
theorem yb {s:yG}{n:Int}:Den [s] n↔s.lo<=n/\n<=s.hi:=by rw[ui,yc,ml]
theorem Can.tail {a:yG}{l:List yG}(h:Can (a::l)):Can l:=⟨λ s hs=>h.ne s (.tail _ hs),(aR.1 h.ap).2⟩
theorem Can.head {a:yG}{l:List yG}(h:Can (a::l)){n:Int}(hn:Den l n):a.hi+1<n:=by
 obtain⟨s,hs,h1,_⟩:=hn
 have:=(aR.1 h.ap).1 s hs
 omega
theorem ou {s:yG}:emp s=false↔s.lo<=s.hi:=by simp[emp]
theorem Nh {a b:yG}(ha:a.lo<=a.hi)(hb:b.lo<=b.hi):mH a b=over a b:=by
 rw[mH,ou.2 ha,ou.2 hb];rfl
theorem MG (a b:yG):(over a b).lo=min a.lo b.lo:=by simp only[over];split<;>omega
theorem MH (a b:yG):(over a b).hi=max a.hi b.hi:=by simp only[over];split<;>omega
theorem rF {a b:yG}(ha:sa a)(hb:sa b):follows a b=true↔b.lo<=a.hi+1:=by
 obtain⟨⟨h1,h2⟩,h3,h4⟩:=ha
 obtain⟨⟨g1,g2⟩,g3,g4⟩:=hb
 unfold follows
 by_cases h:b.lo<=a.hi
 ·simp[h];omega
 ·rw[dF h,cF,oR (by omega) (by omega),bD];omega
theorem ua:∀ (ys out:List yG),(∀ s∈ys,s.lo<=s.hi/\sa s)->ys.Pairwise (λ a b=>a.lo<=b.lo)->Can out->(∀ s∈out,sa s)->(∀ a∈out,∀ b∈ys,a.lo<=b.lo) ->
  Can (goJ ys out)/\(∀ s∈goJ ys out,sa s)/\∀ n,Den (goJ ys out) n↔Den out n\/Den ys n
 | [],out,_,_,hc,hf,_=>⟨hc,hf,λ n=>by rw[yc,ml];rfl⟩
 | y :: ys, out, hy, hs, hc, hf, hle => by
   obtain⟨hyne,hyf⟩:=hy y (.head _)
   have hy':∀ s∈ys,s.lo<=s.hi/\sa s:=λ s h=>hy s (.tail _ h)
   obtain⟨hs1,hs2⟩:=aR.1 hs
   have fresh:(∀ a∈out,a.hi+1<y.lo)->Can (goJ ys (out++[y]))/\(∀ s∈goJ ys (out++[y]),sa s)/\∀ n,Den (goJ ys (out++[y])) n↔Den out n\/Den (y::ys) n:=by
    intro ha
    obtain⟨h1,h2,h3⟩:=ua ys (out++[y]) hy' hs2
     ⟨λ s hm=>by rcases az.1 hm with h|h;exact hc.ne s h;simp at h;subst h;exact hyne,eB.2 ⟨hc.ap,iv _ _,λ a h b hb=>by simp at hb;subst hb;exact ha a h⟩⟩
     (λ s hm=>by rcases az.1 hm with h|h;exact hf s h;simp at h;subst h;exact hyf)
     (λ a hm b hb=>by rcases az.1 hm with h|h;exact hle a h b (.tail _ hb);simp at h;subst h;exact hs1 b hb)
    refine⟨h1,h2,λ n=>?_⟩
    rw[h3,yd,yb,ui,or_assoc]
   show Can (bif _ then _ else _)/\_
   rw[goJ]
   rcases List.eq_nil_or_concat out with rfl|⟨o,l,rfl⟩
   ·exact fresh (λ a h=>by cases h)
   ·rw[List.concat_eq_append]at *
    have e1:(o++[l]).length-1=o.length:=by simp
    have e2:(o++[l]).getD o.length Ty.span.dflt=l:=by simp[List.getD]
    have e3:∀ z,(o++[l]).set o.length z=o++[z]:=λ z=>by simp
    have lm:l∈o++[l]:=by simp
    have hlne:=hc.ne l lm
    have hlf:=hf l lm
    have hll:=hle l lm y (.head _)
    rw[e1,e2,dT (by simp:0<(o++[l]).length),cn]
    obtain⟨ha1,_,ha3⟩:=eB.1 hc.ap
    cases hfo:follows l y
    ·have hfo:¬ y.lo<=l.hi+1:=λ h=>by rw[(rF hlf hyf).2 h]at hfo;cases hfo
     rw[cF]
     refine fresh λ a ha=>?_
     rcases az.1 ha with h|h
     ·have:=ha3 a h l (by simp);omega
     ·simp at h;subst h;omega
    ·have hfo:=(rF hlf hyf).1 hfo
     rw[cT,e3,Nh hlne hyne]
     have k1:=MG l y
     have k2:=MH l y
     obtain⟨h1,h2,h3⟩:=ua ys (o++[over l y]) hy' hs2
      ⟨λ s hm=>by
       rcases az.1 hm with h|h
       ·exact hc.ne s (by simp[h])
       ·simp at h;subst h;omega,eB.2 ⟨ha1,iv _ _,λ a h b hb=>by
        simp at hb;subst hb
        have:=ha3 a h l (by simp);omega⟩⟩
      (λ s hm=>by
       rcases az.1 hm with h|h
       ·exact hf s (by simp[h])
       ·simp at h;subst h
        unfold sa Fit at *;omega)
      (λ a hm b hb=>by
       rcases az.1 hm with h|h
       ·exact hle a (by simp[h]) b (.tail _ hb)
       ·simp at h;subst h
        have:=hs1 b hb;omega)
     refine⟨h1,h2,λ n=>?_⟩
     rw[h3,yd,yb,ui,yd,yb,or_assoc,or_assoc,<-or_assoc (a:=l.lo<=n/\n<=l.hi)]
     refine or_congr_right (or_congr_left ?_)
     rw[k1,k2];omega
theorem KK (l:List yG)(n:Int):Den (keep l) n↔Den l n:=by
 constructor
 ·rintro⟨s,hs,h⟩
  exact⟨s,(fT.1 hs).1,h⟩
 ·rintro⟨s,hs,h⟩
  refine⟨s,fT.2 ⟨hs,?_⟩,h⟩
  rw[ou.2 (by omega)];rfl
structure Srt (srt:List yG->List yG):Prop where
 perm:∀ xs,(srt xs).Perm xs
 sorted:∀ xs,(srt xs).Pairwise λ a b=>a.lo<=b.lo
theorem Hn {srt:List yG->List yG}(hs:Srt srt){l:List yG}(hl:∀ s∈l,sa s) :
  Can (goJ (srt (keep l)) [])/\(∀ s∈goJ (srt (keep l)) [],sa s)/\∀ n,Den (goJ (srt (keep l)) []) n↔Den l n:=by
 have hm:∀ s,s∈srt (keep l)->s.lo<=s.hi/\sa s:=λ s h=>by
  have h:=(hs.perm _).mem_iff.1 h
  obtain⟨h1,h2⟩:=fT.1 h
  exact⟨ou.1 (by simpa using h2),hl s h1⟩
 obtain⟨h1,h2,h3⟩:=ua (srt (keep l)) [] hm (hs.sorted _) ⟨λ s hs=>(by cases hs),.nil⟩ (λ s hs=>by cases hs) (λ s hs=>by cases hs)
 refine⟨h1,h2,λ n=>?_⟩
 rw[h3,yc,false_or,<-KK l]
 constructor
 ·rintro⟨s,h,h'⟩;exact⟨s,(hs.perm _).mem_iff.1 h,h'⟩
 ·rintro⟨s,h,h'⟩;exact⟨s,(hs.perm _).mem_iff.2 h,h'⟩
open Go.Shelf Go.RowKit Go.Lib Go.Sort
def mg (x y:VL.yG):Int:=bif decide (x.lo<y.lo)then -1 else bif decide (x.lo>y.lo)then 1 else 0
def oH (x:VL.yG):List Value:=[.int .i64 x.lo,.int .i64 x.hi]
set_option maxHeartbeats 1000000 in
theorem Hz (x y:VL.yG)(W:World):Calls prog 294 #[.agg #[.int .i64 x.lo,.int .i64 x.hi],.agg #[.int .i64 y.lo,.int .i64 y.hi]] W λ e w'=>e=.returned (.int .i64 (mg x y))/\∃ q os',w'=grow (W.drewN q) os':=by
 have e0:((x.lo:Int)<y.lo)\/¬ x.lo<y.lo:=Decidable.em _
 have e1:mg x y=if x.lo<y.lo then -1 else if x.lo>y.lo then 1 else 0:=by
  unfold mg
  by_cases h1:x.lo<y.lo
  ·simp[h1]
  ·by_cases h2:x.lo>y.lo<;>simp[h1,h2]
 rw[e1]
 by_cases h1:x.lo<y.lo
 ·rw[aE h1]
  go_enter func294,Tryz.ntmps294
  go_wp2
  go_ret
  exact⟨rfl,0,_,by rw[alloc_eq_grow,alloc_eq_grow,grow_grow];rfl⟩
 ·rw[aF h1]
  by_cases h2:x.lo>y.lo
  ·rw[aE h2]
   go_enter func294,Tryz.ntmps294
   go_wp2
   go_ret
   exact⟨rfl,0,_,by rw[alloc_eq_grow,alloc_eq_grow,grow_grow];rfl⟩
  ·rw[aF h2]
   go_enter func294,Tryz.ntmps294
   go_wp2
   go_ret
   exact⟨rfl,0,_,by rw[alloc_eq_grow,alloc_eq_grow,grow_grow];rfl⟩
theorem Na (x y:VL.yG):ltOf mg x y=decide (x.lo<y.lo):=by
 unfold ltOf mg
 by_cases h1:x.lo<y.lo
 ·simp[h1]
 ·by_cases h2:x.lo>y.lo<;>simp[h1,h2]
theorem Ob:SWO (ltOf mg) where
 irrefl x:=by rw[Na];simp
 trans x y z h1 h2:=by rw[Na]at *;simp at *;omega
 ntrans x y z h1 h2:=by rw[Na]at *;simp at *;omega
def srt (xs:List VL.yG):List VL.yG:=(pdq (ltOf mg) xs.toArray 0 xs.length (Lib.bitLen xs.length) true true).toList
theorem Is:Srt srt:=by
 have key:∀ xs:List VL.yG,PermIn 0 xs.toArray.size xs.toArray (srt xs).toArray/\SortedIn (ltOf mg) 0 xs.toArray.size (srt xs).toArray:=λ xs=>by
  have h:=pdq_sorts (ltOf mg) Ob xs.toArray 0 xs.toArray.size (Lib.bitLen xs.toArray.size) true true (bK _) (aI _) (Or.inl rfl)
  have e:(srt xs).toArray=pdq (ltOf mg) xs.toArray 0 xs.toArray.size (Lib.bitLen xs.toArray.size) true true:=by simp[srt]
  rw[e];exact⟨h.1,h.2⟩
 refine⟨λ xs=>?_,λ xs=>?_⟩
 ·obtain⟨h1,_,h2⟩:=(key xs).1
  have e1:((srt xs).toArray.extract 0 xs.toArray.size).toList=srt xs:=by
   simp only[cx]at h1 ⊢
   rw[<-h1];simp
  have e2:(xs.toArray.extract 0 xs.toArray.size).toList=xs:=by simp
  rw[e1,e2]at h2
  exact h2
 ·have hl:(srt xs).length=xs.length:=by simpa using(key xs).1.1
  rw[gT]
  intro i j hi hj hij
  have h:=(key xs).2 i j (bK _) hij (by simpa[<-hl]using hj)
  rw[Na]at h
  have g:∀ k (hk:k<(srt xs).length),(srt xs).toArray[k]! = (srt xs)[k]:=λ k hk=>by
   rw[getElem!_pos _ k (by simpa using hk)];simp
  rw[g i hi,g j hj]at h
  simpa using h
theorem pB (xs:List VL.yG):(srt xs).length=xs.length:=(Is.perm xs).length_eq
theorem Kx (x:VL.yG):(oH x).length=2:=rfl
theorem AX (d:List VL.yG){i:Nat}{x:VL.yG}(hx:d[i]?=some x)(j:Nat)(hj:j<2):(flatK oH 2 d.toArray)[i*2+j]! = (oH x)[j]! := by
 have hi:i<d.length:=by
  rcases ax i d.length with h|h
  ·exact h
  ·rw[aw h]at hx;cases hx
 rw[get_flatK _ _ _ _ (by simp;omega)]
 have e1:(i*2+j)/2=i:=by omega
 have e2:(i*2+j)%2=j:=by omega
 rw[e1,e2]
 have:d.toArray[i]! = x:=by
  rw[getElem!_pos _ i (by simpa using hi)]
  simp only[List.getElem_toArray]
  rw[ai hi]at hx
  exact aJ hx
 rw[this]
theorem h80 (zs:List VL.yG)(n:Nat)(hn:n<=zs.length)(hl:Sm zs.length) :
  Gc prog 293 [.view 0 .span 0 n,.clo (.func 294) [] []] [(0,.row 175 .span zs)] 1 ⟨[],[(0,.row 175 .span (srt (zs.take n)++zs.drop n))],1⟩:=by
 have hlen:(srt (zs.take n)++zs.drop n).length=zs.length:=by
  rw[al,pB,<-al,List.take_append_drop]
 refine⟨λ i T t xs hi hg=>?_,λ w K m vs hM hsz hrel=>?_⟩
 ·obtain rfl:i=0:=by omega
  simp only[Heap.get,dY,cT,ag,ABlk.row.injEq]at hg
  obtain⟨rfl,rfl,hg⟩:=hg
  refine⟨zs,rfl,?_⟩
  rw[<-eq_of_heq hg,hlen]
 ·obtain⟨v0,v1,rfl⟩:∃ v0 v1,vs=#[v0,v1]:=by
   rcases vs with⟨l⟩
   match l,hsz with
   | [v0,v1],_=>exact⟨v0,v1,rfl⟩
  have r0:=hrel 0 _ v0 rfl rfl
  have r1:=hrel 1 _ v1 rfl rfl
  have hv1:v1=.func (.func 294) #[] #[]:=by
   cases r1 with
   | clo _ _ _ us vs hf hl _ _ =>
     have e1:us=#[]:=dZ (by simpa using hf)
     have e2:vs=#[]:=dZ (by simpa using hl)
     rw[e1,e2]
  subst hv1
  have h0:Heap.get [(0,ABlk.row 175 .span zs)] 0=some (.row 175 .span zs):=rfl
  have done:∀ w' K' m',Mem ⟨w,K,m,1⟩ w' K' m' [(0,.row 175 .span (srt (zs.take n)++zs.drop n))] (λ l=>1<=l) ->
    ∃ v K' m',Ending.returned (.tuple #[])=Ending.returned v/\Rel w' K' m' [(0,ABlk.row 175 .span (srt (zs.take n)++zs.drop n))] (HT []) v/\Mem ⟨w,K,m,1⟩ w' K' m' [(0,.row 175 .span (srt (zs.take n)++zs.drop n))] (λ l=>1<=l):=
   λ w' K' m' h=>⟨_,K',m',rfl,.tup _ _ rfl (λ i a v h=>by cases h),h⟩
  cases r0 with
  | view0 _ _ _ a =>
    refine(AnyF.slices_SortFunc_none { Tryz.sortSp with } a 0 (.func (.func 294) #[] #[]) w).mono ?_
    rintro e w' ⟨rfl,rfl⟩
    refine done _ K m ?_
    have:srt (zs.take 0)++zs.drop 0=zs:=by
     have:srt (zs.take 0)=[]:=ay (by rw[pB];rfl)
     rw[this];rfl
    rw[this];exact hM
  | view _ _ b _ _ cap hm hcap hs =>
    rcases hM.heap 0 _ h0 with⟨h1,_⟩|⟨b',cs,h1,hcs,hcsz,hcell⟩
    ·rw[hm]at h1;cases h1
    rw[hm]at h1
    obtain rfl:b=b':=aJ (aJ h1)
    have hblk:b<w.heap.size:=hM.mlt 0 b hm
    have hcell':∀ i x j,zs[i]?=some x->j<2->cs[i*2+j]?=some (oH x)[j]! := by
     intro i x j hx hj
     obtain⟨v,hv,hr⟩:=hcell i x j ((enc .span x)[j]'(by rw[bY];exact hj)) hx (ai _)
     rw[show i*2+j=i*Ty.span.size+j from rfl,hv]
     match j,hj with
     | 0,_=>cases hr;rfl
     | 1,_=>cases hr;rfl
    have hfr:∀ o,w.frozen? ⟨b,o,none⟩=false:=λ o=>by
     unfold World.frozen?
     rw[hcs];simp
    have hH:HoldsK oH 2 w b (0*Ty.span.size) (zs.take n).toArray:=by
     intro j hj
     rw[size_flatK]at hj
     have hjn:j/2<(zs.take n).length:=by simp only[cx]at hj;omega
     have hx:zs[j/2]?=some (zs.take n)[j/2]:=by
      rw[lE,ai]
     have h2:=hcell' (j/2) _ (j%2) hx (kU _ (by omega))
     have h3:=AX (zs.take n) (ai hjn) (j%2) (kU _ (by omega))
     have hj2:j/2*2+j%2=j:=by omega
     rw[hj2]at h2 h3
     refine⟨?_,hfr _⟩
     unfold World.cell?
     rw[gR,cE,hcs]
     show cs[j]?=_
     rw[h2,h3];rfl
    have eg:∀ args w,(callFunc 294 args).run prog w=.ok (.enter 294 args) w:=enters_of func294 (by kernel_rfl) rfl
    have hsize:(zs.take n).toArray.size=n:=by simp;omega
    have hcmp:CmpLays prog 294 #[] oH 2 mg b (0*Ty.span.size) (zs.take n).toArray.size w:=λ _ _ _ _ x y=>Hz x y _
    have hc:=AnyQ.slices_SortFunc_eq Tryz.sortSp 2 Tryz.isAgg175 Tryz.sizeOf175 oH Kx (λ x v hv=>by simp[oH]at hv;rcases hv with rfl|rfl<;>rfl) mg Ob 294 #[] b (0*Ty.span.size) cap (zs.take n).toArray w eg hcmp hH hblk (by unfold Sm at hl;omega)
    rw[hsize]at hc
    refine Calls.mono hc ?_
    rintro e w' ⟨rfl,q,os,rfl⟩
    refine done _ K m ?_
    generalize hF:pdq (ltOf mg) (zs.take n).toArray 0 n (Lib.bitLen n) true true=dk
    have hdk:dk.toList=srt (zs.take n):=by
     have:(zs.take n).length=n:=by rw[aD];omega
     rw[<-hF];unfold srt;rw[this]
    have hdl:(srt (zs.take n)).length=n:=by rw[pB,aD];omega
    have hdsz:dk.size=n:=by rw[<-bl,hdk,hdl]
    have hdk':dk=(srt (zs.take n)).toArray:=by rw[<-hdk]
    generalize hW:sortWorldK oH 2 w b (0*Ty.span.size) q dk os=w'
    have hheap:w'.heap=w.heap.modify b (onCells (putCells id (0*Ty.span.size) (flatK oH 2 dk)))++os:=by rw[<-hW];rfl
    have hsz':w.heap.size<=w'.heap.size:=by rw[hheap];simp
    have hne:∀ k,k<w.heap.size->k≠b->w'.heap[k]?=w.heap[k]?:=λ k hk hkb=>by
     rw[hheap,eT (by simpa using hk),iY,aF (λ h=>hkb h.symm)]
    have hbb:w'.heap[b]?=some (.cells (putCells id (0*Ty.span.size) (flatK oH 2 dk) cs) 175 (0,0)):=by
     rw[hheap,eT (by simpa using hblk),iY,aE rfl,hcs];rfl
    have hsh:∀ k s,w.shape? k=some s->w'.shape? k=some s:=λ k s hk=>by
     by_cases hkb:k=b
     ·subst hkb
      unfold World.shape? at hk ⊢
      rw[hcs]at hk;rw[hbb]
      simpa[putCells]using hk
     ·have hks:k<w.heap.size:=by
       rcases ax k w.heap.size with h|h
       ·exact h
       ·unfold World.shape? at hk;rw[bZ h]at hk;cases hk
      unfold World.shape? at hk ⊢
      rw[hne k hks hkb];exact hk
    have get0:∀ l blk,Heap.get [(0,ABlk.row 175 .span (srt (zs.take n)++zs.drop n))] l=some blk->l=0/\blk=.row 175 .span (srt (zs.take n)++zs.drop n):=λ l blk hl=>by
     unfold Heap.get at hl
     cases hq:((0:Nat)==l)with
     | true=>rw[hq]at hl;simp only[cT,ag]at hl;exact⟨(by simpa using hq:0=l).symm,hl.symm⟩
     | false=>rw[hq]at hl;simp[Heap.get]at hl
    exact
    { os := by rw [← hW]; rfl
      tape:=by rw[<-hW];rfl
      output:=by rw[<-hW];rfl
      size:=hsz'
      keep:=λ k hk hno=>hne k hk (λ e=>hno 0 (by show 0<1;omega) (by rw[e];exact hm))
      Kmono:=λ _ h=>h
      Klt:=λ k hk=>cG (hM.Klt k hk) hsz'
      Knew:=λ k hk=>.inl hk
      mold:=λ _ _=>rfl
      mnew:=hM.mnew
      mlt:=λ l k h=>cG (hM.mlt l k h) hsz'
      mfree:=hM.mfree
      fnew:=hM.fnew
      heap:=λ l blk hl'=>by
       obtain⟨rfl,rfl⟩:=get0 l blk hl'
       refine .inr ⟨b,_,hm,hbb,by rw[hlen];simpa[putCells]using hcsz,λ i x j d hx hd=>?_⟩
       have hj:j<2:=by
        rcases ax j (enc .span x).length with h|h
        ·rwa [bY]at h
        ·rw[aw h]at hd;cases hd
       have hi:i<zs.length:=by
        rcases ax i (srt (zs.take n)++zs.drop n).length with h|h
        ·rwa [hlen]at h
        ·rw[aw h]at hx;cases hx
       have hrd:∀ v,(oH x)[j]?=some v->RelD w' K d v:=λ v hv=>by
        match j,hj with
        | 0,_=>cases hd;cases hv;exact .v _
        | 1,_=>cases hd;cases hv;exact .v _
       have hej:(oH x)[j]?=some (oH x)[j]! := by
        match j,hj with
        | 0,_=>rfl
        | 1,_=>rfl
       refine⟨(oH x)[j]!,?_,hrd _ hej⟩
       show(putCells id (0*Ty.span.size) (flatK oH 2 dk) cs)[i*2+j]?=_
       have hic:i*2+j<cs.size:=by
        have:zs.length*2<=cs.size:=hcsz
        omega
       unfold putCells
       rw[Array.getElem?_mapIdx,bV hic]
       simp only[bt,gR,bK,true_and,cE,di,size_flatK,hdsz,id]
       by_cases hin:i<n
       ·rw[aE (by omega)]
        rw[bJ (by omega)]at hx
        rw[hdk',AX _ hx j hj]
       ·rw[aF (by omega)]
        rw[bP (by omega),hdl,cm]at hx
        have:n+(i-n)=i:=by omega
        rw[this]at hx
        have:=hcell' i x j hx hj
        rw[bV hic]at this
        exact this
      own:=λ l blk k hl' hmk=>by
       obtain⟨rfl,rfl⟩:=get0 l blk hl'
       exact hM.own 0 _ k h0 hmk
      inj:=λ l l' blk blk' k hl1 hl2 _ _=>by rw[(get0 l blk hl1).1,(get0 l' blk' hl2).1]
      shape:=λ k s hk=>hsh k s hk
      gok:=hM.gok.ext (λ _ hk=>hk) (λ k hk=>hne k (hM.Klt k hk) (λ e=>hM.own 0 _ b h0 hm (e ▸ hk)))
      frozen:=λ k hk=>hne k (hM.Klt k hk) (λ e=>hM.own 0 _ b h0 hm (e ▸ hk)) }
theorem c31 {xs:List yG}(hl:Sm xs.length):yJ prog 257 [⟨.sl .span,xs⟩] [.sl .span] (goJ (srt (keep xs)) []):=Qo srt pB h80 hl
end Go.Proofs.Sp
namespace Go.Proofs.Zn
open Go.Proofs.Tryz
open Go Go.VL
abbrev Ir (d:yA):Int:=br (aM d)+br (aU d)
theorem Bg {d:yA}(h:dw d=0):bx d=(br (aM d),br (aU d),(d.zA.length:Int)-1):=by
 unfold bx;rw[h];rfl
theorem c130 {d:yA}(h:dw d=0):yJ prog 214 [⟨.zI,d⟩] [.int] (Ir d):=
 GA func214 (t130 d) (by kernel_rfl) (by kernel_rfl) λ _=>⟨⟨T5',tv⟩,_,(Lg d).eq (Bg h),T2',by
  have hk:=ff h
  have h1:=hk.wells
  have h2:=hk.zK
  show w64 (br (aM d)+br (aU d))=_
  rw[an (by omega) (by omega)]⟩
def mF (d:yA)(lo:Int)(n:Nat):List Int:=(List.range n).map λ k:Nat=>Ir d+(lo+(k:Int))
theorem rD (d:yA)(lo:Int)(n:Nat):mF d lo (n+1)=mF d lo n++[Ir d+(lo+(n:Int))]:=by
 simp[mF,List.range_succ]
theorem pm (d:yA)(lo:Int)(n:Nat):(mF d lo n).length=n:=by simp[mF]
theorem tR (d:yA)(s:yG):dv d s=mF d s.lo (s.hi-s.lo+1).toNat:=rfl
theorem JH {d:yA}{s:yG}(h0:dw d=0)(hs:ga d s){r:List Int}{A:Pr}(hA:CL codes bU f137 [.sl .int] r A)(hr:dv d s=r)
  (j:Nat) (hj:(j:Int)<=s.hi-s.lo+1) (k:Int) (hk:k=s.lo+(j:Int)):A (hd f137 0) (L99 d s (mF d s.lo j) k):=by
 have hD:=ff h0
 have e1:=hD.wells
 have e2:=hD.zK
 have e3:=hD.lanes
 have ew:Ir d=br (aM d)+br (aU d):=rfl
 obtain⟨s1,s2,s3⟩:=hs
 refine hA.go (t99a d s _ k) (ae (λ h1=>?_) (λ h1=>?_))
 ·have h1:=oT h1
  refine⟨⟨T5',tv⟩,_,c130 h0,⟨T2',tv⟩,⟨by rw[pm];simp only[af,ak];omega,tv⟩,?_⟩
  rw[an (by omega) (by omega),an (by omega) (by omega),hk,<-rD]
  exact JH h0 ⟨s1,s2,s3⟩ hA hr (j+1) (by omega) _ (by omega)
 ·have h1:=oF h1
  have e:(s.hi-s.lo+1).toNat=j:=by omega
  rw[tR,e]at hr
  exact⟨T2',hr⟩
termination_by (s.hi-s.lo+1-(j:Int)).toNat
theorem c99 {d:yA}{s:yG}(h0:dw d=0)(hs:ga d s):yJ prog 137 [⟨.zI,d⟩,⟨.span,s⟩] [.sl .int] (dv d s):=
 pcl codes bU func137 (by kernel_rfl) λ A hA=>hA.go (t99 d s)
  (hA.row 5 3 .int (s':=L99 d s [] s.lo) (by kernel_rfl) (by kernel_rfl) (JH h0 hs hA rfl 0 (by obtain⟨_,h,_⟩:=hs;omega) s.lo (by simp)))
theorem oo {d:yA}{s:yG}(h0:dw d=0)(hs:ga d s):(dv d s).length<=24:=by
 have hD:=(ff h0).lanes
 obtain⟨s1,s2,s3⟩:=hs
 rw[tR,pm];omega
theorem qf {d:yA}{l:List yG}(h0:dw d=0)(hs:∀ s∈l,ga d s):(l.flatMap (dv d)).length<=24*l.length:=by
 induction l with
 | nil=>simp
 | cons s l ih =>
   have h1:=oo h0 (hs s (by simp))
   have h2:=ih λ t ht=>hs t (by simp[ht])
   simp only[fj,al,af];omega
theorem DY {d:yA}{l:List yG}{s:yG}(h0:dw d=0)(hs:ga d s){A:List Item->AS->Prop}{i:Nat}(hi:i<1000){out:List Int}(ho:out.length<=24000)
  {r:List Int} (hA:yP prog codes bU f211 (aS [.sl .int]) (λ y=>y=r) 0 A)
  (go:A (hd f211 0) (L97 (br (aM d)) (br (aU d)) l (out++dv d s) ((i+1:Nat):Int)))
  (j:Nat) (hj:(j:Int)<=s.hi-s.lo+1) (k:Int) (hk:k=s.lo+(j:Int)):A (hd f211 1) (TH (br (aM d)) (br (aU d)) l s (out++mF d s.lo j) i k):=by
 have hD:=ff h0
 have e1:=hD.wells
 have e2:=hD.zK
 have e3:=hD.lanes
 have ew:Ir d=br (aM d)+br (aU d):=rfl
 obtain⟨s1,s2,s3⟩:=hs
 refine hA.go (t97b _ _ l s _ i k) (ae (λ h1=>?_) (λ h1=>?_))
 ·have h1:=oT h1
  refine⟨⟨T2',tv⟩,⟨by rw[al,pm];simp only[af,ak];omega,tv⟩,?_⟩
  rw[an (n:=br (aM d)+br (aU d)) (by omega) (by omega),an (by omega) (by omega),an (by omega) (by omega),bk,hk,<-ew,<-rD]
  exact DY h0 ⟨s1,s2,s3⟩ hi ho hA go (j+1) (by omega) _ (by omega)
 ·have h1:=oF h1
  have e:(s.hi-s.lo+1).toNat=j:=by omega
  rw[tR,e]at go
  rw[aq (by omega)]
  exact go
termination_by (s.hi-s.lo+1-(j:Int)).toNat
theorem JJ {d:yA}{l:List yG}(h0:dw d=0)(hs:∀ s∈l,ga d s)(hl:l.length<=999){r:List Int}{A:Pr}(hA:CL codes bU f211 [.sl .int] r A)
  (hr:cV (l.flatMap (dv d))=r) (i:Nat) (hi:i<=l.length):A (hd f211 0) (L97 (br (aM d)) (br (aU d)) l ((l.take i).flatMap (dv d)) i):=by
 have hf:=qf h0 (l:=l.take i) λ s h=>hs s (gy h)
 rw[aD]at hf
 refine hA.go (t97a _ _ l _ i) (ae (λ h1=>?_) (λ h1=>?_))
 ·have h1:=oT h1
  have hil:i<l.length:=by omega
  have hsi:=hs _ (aN hil)
  rw[aY hil]
  refine⟨⟨⟨by omega,by omega⟩,tv⟩,?_⟩
  have go:=JJ h0 hs hl hA hr (i+1) (by omega)
  rw[aW hil,List.flatMap_append,List.flatMap_singleton]at go
  have:=DY (l:=l) h0 hsi (by omega) (by omega) hA go 0 (by obtain⟨_,h,_⟩:=hsi;omega) l[i].lo (by simp)
  rw[show mF d l[i].lo 0=[] from rfl,fU]at this
  exact this
 ·have h1:=oF h1
  rw[cj (by omega)]at hf ⊢
  exact⟨⟨T2',tv⟩,_,CX (by omega),T2',hr⟩
termination_by l.length-i
theorem xQ:∀ (ys out:List yG),(Sp.goJ ys out).length<=out.length+ys.length
 | [],out=>by simp[Sp.goJ]
 | y :: ys, out => by
   rw[Sp.goJ]
   cases (decide (0<out.length)&&Sp.follows (out.getD (out.length-1) Ty.span.dflt) y)
   ·rw[cF]
    have:=xQ ys (out++[y])
    simp only[al,af,ak]at this ⊢;omega
   ·rw[cT]
    have:=xQ ys (out.set (out.length-1) (Sp.mH (out.getD (out.length-1) Ty.span.dflt) y))
    simp only[co,af]at this ⊢;omega
theorem c97 {d:yA}{l:List yG}(h0:dw d=0)(hs:∀ s∈l,ga d s)(hl:l.length<=999):yJ prog 211 [⟨.zI,d⟩,⟨.sl .span,l⟩] [.sl .int] (ic d l):=by
 have hD:=ff h0
 have e3:=hD.lanes
 have hf:∀ s∈l,Sp.sa s:=λ s h=>by
  obtain⟨s1,s2,s3⟩:=hs s h
  refine⟨?_,?_⟩<;>unfold Sp.Fit<;>omega
 obtain⟨j1,j2,j3⟩:=Sp.Hn Sp.Is hf
 have jl:(Sp.goJ (Sp.srt (Sp.keep l)) []).length<=999:=by
  have h1:=xQ (Sp.srt (Sp.keep l)) []
  rw[Sp.pB]at h1
  have h2:(Sp.keep l).length<=l.length:=ge _ _
  simp only[ak]at h1;omega
 have c31:=Sp.c31 (xs:=l) (by unfold Sp.Sm;omega)
 generalize Sp.goJ (Sp.srt (Sp.keep l)) []=js at c31 j1 j2 j3 jl
 have js1:∀ s∈js,ga d s:=λ s h=>by
  have hne:=j1.ne s h
  obtain⟨t,ht,t1,t2⟩:=(j3 s.lo).1 ⟨s,h,by omega,by omega⟩
  obtain⟨u,hu,u1,u2⟩:=(j3 s.hi).1 ⟨s,h,by omega,by omega⟩
  obtain⟨a1,a2,a3⟩:=hs t ht
  obtain⟨b1,b2,b3⟩:=hs u hu
  exact⟨by omega,hne,by omega⟩
 refine pcl codes bU func211 (by kernel_rfl) λ A hA=>hA.go (t97 d l) ⟨⟨T5',tv⟩,_,(HE d).eq (Bg h0),⟨T2',tv⟩,_,c31,?_⟩
 exact hA.row 8 3 .int (s':=L97 (br (aM d)) (br (aU d)) js [] 0) (by kernel_rfl) (by kernel_rfl) (JJ h0 js1 jl hA (GF j3) 0 (by omega))
theorem sJ {d:yA}(h:(dU d).2=0):dw d=0:=by
 unfold dU at h
 cases h1:dw d != 0
 ·simpa using h1
 ·rw[h1,cT]at h;exact h
theorem jc {d:yA}{l:List Int}(h:(cc d l).2=0):dw d=0:=by
 unfold cc at h
 cases h1:(dU d).2 != 0
 ·exact sJ (by simpa using h1)
 ·rw[h1,cT]at h;exact sJ h
theorem c48 {d:yA}{l:List Int}(hl:l.length<=999):yJ prog 135 [⟨.zI,d⟩,⟨.sl .int,l⟩] [.sl .int,.int] (fX d l):=
 GA func135 (t48 d l) (by kernel_rfl) (by kernel_rfl) λ _=>by
  unfold fX
  refine⟨⟨T5',T2',tv⟩,_,c96 (by omega),ae (λ h=>⟨⟨T2',T2'⟩,by rw[h];rfl⟩) (λ h=>?_)⟩
  have h0:(cc d l).2=0:=by simpa using h
  obtain⟨a,b,c⟩:=jK h0
  rw[h,cF]
  exact⟨⟨T5',T2',tv⟩,_,c97 (jc h0) b (by omega),⟨T2',T2'⟩,rfl⟩
theorem qA {d:yA}(h0:dw d=0):∀ {l:List yG} (_:∀ s∈l,ga d s) (out:List Int),(l.foldl (λ out s=>cP out (dv d s)) out).length<=out.length+24*l.length
 | [],_,out=>by simp
 | s :: l, hs, out => by
   have h1:=oo h0 (hs s (by simp))
   have h2:=qA h0 (l:=l) (λ t ht=>hs t (by simp[ht])) (cP out (dv d s))
   have h3:=jo (a:=out) (b:=dv d s)
   simp only[hX,af];omega
theorem CA {d:yA}{l:List yG}{e:Int}(h0:l≠[]->dw d=0)(hs:∀ s∈l,ga d s)(hl:l.length<=999){r:List Int×Int}{A:Pr}(hA:CL codes bU f80 [.sl .int,.int] r A)
  (hr:(ic d l,e)=r) (i:Nat) (hi:i<=l.length):A (hd f80 0) (L49 d l e (ic d (l.take i)) i):=by
 refine hA.go (t49a d l e _ i) (ae (λ h1=>?_) (λ h1=>?_))
 ·have h1:=oT h1
  have hil:i<l.length:=by omega
  have hc:=h0 (λ h=>by rw[h]at hil;simp at hil)
  have hn:=qA hc (l:=l.take i) (λ s h=>hs s (gy h)) []
  have hn:(ic d (l.take i)).length<=0+24*(l.take i).length:=hn
  rw[aD]at hn
  have hsi:=hs _ (aN hil)
  have hll:=oo hc hsi
  rw[aY hil]
  refine⟨⟨⟨by omega,by omega⟩,tv⟩,⟨T5',T3',tv⟩,_,c99 hc hsi,⟨T2',T2',tv⟩,_,c57 (by omega) (by omega),?_⟩
  have e1:cP (ic d (l.take i)) (dv d l[i])=ic d (l.take (i+1)):=by
   rw[aW hil,ic,ic,List.foldl_append];rfl
  rw[e1,aq (by omega)]
  exact CA h0 hs hl hA hr (i+1) (by omega)
 ·have h1:=oF h1
  rw[cj (by omega)]
  exact⟨⟨T2',T2'⟩,hr⟩
termination_by l.length-i
theorem c49 {d:yA}{l:List Int}(hl:l.length<=999):yJ prog 80 [⟨.zI,d⟩,⟨.sl .int,l⟩] [.sl .int,.int] (fX d l):=
 pcl codes bU func80 (by kernel_rfl) λ A hA=>hA.go (t49 d l) (by
  refine⟨⟨T5',T2',tv⟩,_,c98 (by omega),?_⟩
  have hq:(ic d (cc d l).1,(cc d l).2)=fX d l:=by
   unfold fX
   cases h:(cc d l).2 != 0
   ·have h0:(cc d l).2=0:=by simpa using h
    rw[cF,h0]
   ·rw[cT,vp (by simpa using h)];rfl
  by_cases h0:(cc d l).2=0
  ·obtain⟨a,b,c⟩:=jK h0
   exact hA.slot 8 (.d (.v (.slice none 0 0))) (.d (.sl .int [])) (s':=L49 d (cc d l).1 (cc d l).2 [] 0) (by kernel_rfl) (by kernel_rfl) (AVle.nil _ .int 0) (by kernel_rfl) (CA (λ _=>jc h0) b (by omega) hA hq 0 (by omega))
  ·have e:=vp h0
   exact hA.slot 8 (.d (.v (.slice none 0 0))) (.d (.sl .int [])) (s':=L49 d (cc d l).1 (cc d l).2 [] 0) (by kernel_rfl) (by kernel_rfl) (AVle.nil _ .int 0) (by kernel_rfl) (CA (λ h=>absurd e h) (λ s hs=>by rw[e]at hs;cases hs) (by rw[e];simp) hA hq 0 (by omega)))
theorem pu {l:List yG}(h:l.length=2):∃ a b,l=[a,b]:=by
 match l,h with
 | [a,b],_=>exact⟨a,b,rfl⟩
theorem Kk {a b:yG}(ha:a.lo<=a.hi)(hb:b.lo<=b.hi):Sp.mH a b=rS a b:=by
 unfold Sp.mH Sp.emp
 rw[dF (by omega),dF (by omega),cF,cF]
 unfold Sp.over rS
 by_cases h1:b.lo<a.lo<;>by_cases h2:b.hi>a.hi<;>simp[h1,h2]
theorem wL {d:yA}{a b:yG}(ha:ga d a)(hb:ga d b):ga d (rS a b):=by
 obtain⟨a1,a2,a3⟩:=ha
 obtain⟨b1,b2,b3⟩:=hb
 unfold rS ga
 by_cases h1:b.lo<a.lo<;>by_cases h2:b.hi>a.hi<;>simp only[h1,h2,decide_true,ko,cT,cF]<;>omega
theorem GE {d:yA}(s:yG):ic d [s]=dv d s:=by
 refine ky (pa _ _) (tQ _ _) λ n=>?_
 rw[qD];simp
theorem c53 (d:yA)(a b:Int):yJ prog 133 [⟨.zI,d⟩,⟨.int,a⟩,⟨.int,b⟩] [.sl .int,.int] (lr d a b):=
 GA func133 (t53 d a b) (by kernel_rfl) (by kernel_rfl) λ _=>by
  unfold lr
  refine⟨⟨T2',T2',tv⟩,⟨T5',T2',tv⟩,_,c96 (by simp),ae (λ h=>⟨⟨T2',T2'⟩,by rw[h];rfl⟩) (λ h=>?_)⟩
  have h0:(cc d [a,b]).2=0:=by simpa using h
  obtain⟨g1,g2,g3⟩:=jK h0
  obtain⟨x,y,e⟩:=pu g3
  rw[e]at g2
  rw[h,cF,e]
  have hx:=g2 x (by simp)
  have hy:=g2 y (by simp)
  have x2:=hx.2.1
  have y2:=hy.2.1
  refine⟨⟨⟨by simp,by simp⟩,tv⟩,⟨⟨by simp,by simp⟩,tv⟩,⟨T3',T3',tv⟩,_,(Sp.c21 x y).eq (Kk x2 y2),⟨T3',tv⟩,⟨T5',T2',tv⟩,_,(c97 (l:=[rS x y]) (jc h0) (λ s hs=>by rw[bq.1 hs];exact wL hx hy) (by simp)).eq (GE _),⟨T2',T2'⟩,rfl⟩
theorem c54 (d:yA)(a b:Int):yJ prog 78 [⟨.zI,d⟩,⟨.int,a⟩,⟨.int,b⟩] [.sl .int,.int] (lr d a b):=
 GA func78 (t54 d a b) (by kernel_rfl) (by kernel_rfl) λ _=>by
  unfold lr
  refine⟨⟨T2',T2',tv⟩,⟨T5',T2',tv⟩,_,c98 (by simp),ae (λ h=>⟨⟨T2',T2'⟩,by rw[h];rfl⟩) (λ h=>?_)⟩
  have h0:(cc d [a,b]).2=0:=by simpa using h
  obtain⟨g1,g2,g3⟩:=jK h0
  obtain⟨x,y,e⟩:=pu g3
  rw[e]at g2
  rw[h,cF,e]
  have hw:=wL (g2 x (by simp)) (g2 y (by simp))
  have c:=c99 (jc h0) hw
  refine⟨⟨⟨by simp,by simp⟩,tv⟩,⟨⟨by simp,by simp⟩,tv⟩,?_⟩
  show Sat _ _ _ (bif decide (y.lo<x.lo)then _ else _)
  refine ae (λ h2=>⟨⟨⟨by simp,by simp⟩,tv⟩,⟨⟨by simp,by simp⟩,tv⟩,?_⟩) (λ h2=>⟨⟨⟨by simp,by simp⟩,tv⟩,?_⟩)
  ·show Sat _ _ _ (bif decide (y.hi>x.hi)then _ else _)
   refine ae (λ h3=>⟨⟨⟨by simp,by simp⟩,tv⟩,⟨T5',T3',tv⟩,dv d (rS x y),?_,⟨T2',T2'⟩,rfl⟩) (λ h3=>⟨⟨T5',T3',tv⟩,dv d (rS x y),?_,⟨T2',T2'⟩,rfl⟩)
   all_goals (unfold rS at c ⊢;rw[h2,h3]at c ⊢;exact c)
  ·show Sat _ _ _ (bif decide (y.hi>x.hi)then _ else _)
   refine ae (λ h3=>⟨⟨⟨by simp,by simp⟩,tv⟩,⟨T5',T3',tv⟩,dv d (rS x y),?_,⟨T2',T2'⟩,rfl⟩) (λ h3=>⟨⟨T5',T3',tv⟩,dv d (rS x y),?_,⟨T2',T2'⟩,rfl⟩)
   all_goals (unfold rS at c ⊢;rw[h2,h3]at c ⊢;exact c)
end Go.Proofs.Zn
namespace Go.Proofs.Wn
open Go.Proofs.Tryz
open Go Go.VL Go.Proofs.Zn
abbrev T6':True/\True/\True/\True/\True/\True:=⟨tv,tv,tv,tv,tv,tv⟩
def flS (k:Int):yB:=bif k==1 then⟨true,false,false,false,false⟩else bif k==2 then⟨true,false,false,false,false⟩else bif k==4 then⟨false,true,true,false,true⟩else
 bif k==5 then⟨false,true,false,false,true⟩else bif k==6 then⟨false,true,false,false,true⟩else bif k==7 then⟨false,true,false,false,false⟩else bif k==9 then⟨false,true,false,false,false⟩else
 bif k==10 then⟨false,true,false,true,false⟩else⟨false,false,false,false,false⟩
theorem zo {α:Type}{P:Program}{A:List Item->AS->Prop}{R0:α->Prop}{b:Bool}{S T:Out α}(h1:b=true->Sat P A R0 S)(h0:b=false->Sat P A R0 T):Sat P A R0 (bif b then S else T):=ae h1 h0
theorem c63 (k:Int):yJ prog 63 [⟨.int,k⟩] [.flds] (flS k):=
 ofT func63 (t63 k) (by kernel_rfl) (by kernel_rfl) λ _=>by
  unfold flS
  repeat' (refine zo (λ _=>?_) (λ _=>?_))
  all_goals (refine⟨T6',?_⟩;show(_:yB)=_)
  all_goals (first|rfl|(simp only[*,cT,cF];done)|simp_all)
theorem c72 (k:Int):yJ prog 72 [⟨.int,k⟩] [.b5] (flS k):=
 ofT func72 (t72 k) (by kernel_rfl) (by kernel_rfl) λ _=>by
  unfold flS
  repeat' (refine zo (λ _=>?_) (λ _=>?_))
  all_goals (refine⟨T6',?_⟩;show(_:yB)=_)
  all_goals (first|rfl|(simp only[*,cT,cF];done)|simp_all)
def fQ (r:yT):yB:=⟨decide ((r.zU.length:Int)>0),r.a != 0,r.b != 0,r.ver != 0,r.zS != 0⟩
theorem c64 (r:yT):yJ prog 64 [⟨.req,r⟩] [.flds] (fQ r):=ofT func64 (t64 r) (by kernel_rfl) (by kernel_rfl) λ _=>⟨T6',rfl⟩
def dy (f g:yB):Bool:=(!f.zU||g.zU)&&((!f.a||g.a)&&((!f.b||g.b)&&((!f.ver||g.ver)&&(!f.zS||g.zS))))
theorem c65 (f g:yB):yJ prog 65 [⟨.flds,f⟩,⟨.flds,g⟩] [.bool] (dy f g):=
 ofT func65 (t65 f g) (by kernel_rfl) (by kernel_rfl) λ _=>by
  obtain⟨f1,f2,f3,f4,f5⟩:=f
  obtain⟨g1,g2,g3,g4,g5⟩:=g
  cases f1<;>cases f2<;>cases f3<;>cases f4<;>cases f5<;>exact⟨T2',by cases g1<;>cases g2<;>cases g3<;>cases g4<;>cases g5<;>rfl⟩
def eX (e i:Int):yH:=⟨e,i,0,0,[]⟩
theorem c62 (e:Int):yJ prog 62 [⟨.int,e⟩] [.zM] (eX e 0):=ofT func62 (t62 e) (by kernel_rfl) (by kernel_rfl) λ _=>⟨T6',rfl⟩
theorem c69 (e i:Int):yJ prog 69 [⟨.int,e⟩,⟨.int,i⟩] [.zM] (eX e i):=ofT func69 (t69 e i) (by kernel_rfl) (by kernel_rfl) λ _=>⟨T6',rfl⟩
theorem c71 (e i:Int):yJ prog 71 [⟨.int,e⟩,⟨.int,i⟩] [.zM] (eX e i):=ofT func71 (t71 e i) (by kernel_rfl) (by kernel_rfl) λ _=>⟨T6',rfl⟩
def eG (d:yA)(i:Int):Int:=(jZ d i).1.kind
theorem Ai {d:yA}{i:Int}(h:(jZ d i).2≠0):(jZ d i).1=⟨0,0,0,0⟩:=by
 unfold jZ at h ⊢
 cases h1:dw d != 0
 ·rw[h1,cF]at h;rw[cF]
  cases h2:decide (i<0)
  ·rw[h2,cF]at h;rw[cF]
   cases h3:decide (i>=((dM d).length:Int))
   ·rw[h3]at h;exact absurd rfl h
   ·rfl
  ·rfl
 ·rfl
theorem c68 (d:yA)(i:Int):yJ prog 68 [⟨.zI,d⟩,⟨.int,i⟩] [.int] (eG d i):=ofT func68 (t68 d i) (by kernel_rfl) (by kernel_rfl) λ _=>⟨⟨T5',T2',tv⟩,_,c84 d i,T2',rfl⟩
theorem c74 (d:yA)(i:Int):yJ prog 74 [⟨.zI,d⟩,⟨.int,i⟩] [.int] (eG d i):=ofT func74 (t74 d i) (by kernel_rfl) (by kernel_rfl) λ _=>⟨⟨T5',T2',tv⟩,_,c42 d i,by
 unfold eG
 refine ae (λ h=>⟨T2',?_⟩) (λ h=>⟨T2',rfl⟩)
 rw[Ai (by simpa using h)];rfl⟩
theorem SR (a b:yM):(a.ver==b.ver&&(a.by'==b.by'&&(a.n==b.n&&true)))=decide (a=b):=by
 obtain⟨a1,a2,a3⟩:=a
 obtain⟨b1,b2,b3⟩:=b
 simp only[Bool.and_true,yM.mk.injEq]
 by_cases h1:a1=b1<;>by_cases h2:a2=b2<;>by_cases h3:a3=b3<;>simp[h1,h2,h3]
theorem JQ {a b:List yM}(he:a.length=b.length)(hl:a.length<=1000000){r:Bool}{A:Pr}(hA:CL codes sigs f60 [.bool] r A)
  (i:Nat) (hi:i<=a.length) (h:decide (a.drop i=b.drop i)=r):A (hd f60 0) (L60 a b i):=by
 refine hA.go (t60a a b i) (ae (λ h1=>?_) (λ h1=>?_))
 ·have h1:=oT h1
  have hil:i<a.length:=by omega
  have hib:i<b.length:=by omega
  rw[aY hil,aY hib,SR]
  rw[dG hil,dG hib]at h
  refine⟨⟨⟨by omega,by omega⟩,tv⟩,⟨⟨by omega,by omega⟩,tv⟩,ae (λ h2=>?_) (λ h2=>?_)⟩
  ·have e:¬ a[i]=b[i]:=by simpa using h2
   rw[dF (λ h=>e (jI h).1)]at h
   exact⟨T2',h⟩
  ·have e:a[i]=b[i]:=by simpa using h2
   rw[e]at h
   rw[aq (by omega)]
   exact JQ he hl hA (i+1) (by omega) (by rw[<-h];exact bF.2 ⟨λ h=>by rw[h],λ h=>(jI h).2⟩)
 ·have h1:=oF h1
  rw[dN (by omega),dN (by omega)]at h
  exact⟨T2',h⟩
termination_by a.length-i
theorem c60 {a b:List yM}(hl:a.length<=1000000):yJ prog 60 [⟨.sl .change,a⟩,⟨.sl .change,b⟩] [.bool] (decide (a=b)):=
 pcl codes sigs func60 (by kernel_rfl) λ A hA=>hA.go (t60 a b) (by
  refine ae (λ h1=>?_) (λ h1=>?_)
  ·have h1:¬ (a.length:Int)=(b.length:Int):=by simpa using h1
   exact⟨T2',(dF (λ h=>h1 (by rw[h]))).symm⟩
  ·have h1:(a.length:Int)=(b.length:Int):=by simpa using h1
   exact JQ (by omega) hl hA 0 (by omega) rfl)
theorem c17 {a b:yH}(hl:a.list.length<=1000000):yJ prog 17 [⟨.zM,a⟩,⟨.zM,b⟩] [.bool] (decide (a=b)):=
 ofT func17 (t17 a b) (by kernel_rfl) (by kernel_rfl) λ _=>by
  obtain⟨a1,a2,a3,a4,a5⟩:=a
  obtain⟨b1,b2,b3,b4,b5⟩:=b
  have no:∀ {p:Prop} [Decidable p],¬ p->false=decide p:=λ h=>(dF h).symm
  refine ae (λ h1=>ae (λ h2=>ae (λ h3=>ae (λ h4=>⟨⟨T2',T2',tv⟩,_,c60 hl,T2',?_⟩) (λ h=>⟨T2',?_⟩)) (λ h=>⟨T2',?_⟩)) (λ h=>⟨T2',?_⟩)) (λ h=>⟨T2',?_⟩)
  ·obtain rfl:a1=b1:=by simpa using h1
   obtain rfl:a2=b2:=by simpa using h2
   obtain rfl:a3=b3:=by simpa using h3
   obtain rfl:a4=b4:=by simpa using h4
   show decide (a5=b5)=decide (yH.mk a1 a2 a3 a4 a5=yH.mk a1 a2 a3 a4 b5)
   exact bF.2 ⟨λ h=>by rw[h],λ h=>(yH.mk.inj h).2.2.2.2⟩
  all_goals (refine no λ e=>?_;cases e;simp at h)
def rT:List Int->List Int->Int->Int
 | _,[],_ => -1
 | seen,x::l,i=>bif seen.elem x then i else rT (seen++[x]) l (i+1)
def nj (l:List Int):Int:=rT [] l 0
theorem Ht (l:List Int)(x y:Int):(l++[x]).elem y=(l.elem y||y==x):=by
 rw[dL]
 simp
theorem get_put (n x y:Int):∀ kvs:List (Int×Int),(mK n (oB x y kvs)).isSome=((mK n kvs).isSome||n==x)
 | [] => by
   by_cases h:x=n
   ·subst h;simp[oB,mK]
   ·have h1:(x==n)=false:=by simpa using h
    have h2:(n==x)=false:=by simpa using λ e=>h e.symm
    simp only[oB,mK,h1,h2,cF];rfl
 | kv :: kvs => by
   unfold oB
   by_cases h:kv.1=x
   ·subst h
    have:(kv.1==kv.1)=true:=by simp
    rw[this,cT]
    by_cases h2:kv.1=n
    ·subst h2;simp[mK]
    ·have h3:(kv.1==n)=false:=by simpa using h2
     have h4:(n==kv.1)=false:=by simpa using λ e=>h2 e.symm
     simp only[mK,h3,h4,cF,Bool.or_false]
   ·have:(kv.1==x)=false:=by simpa using h
    rw[this,cF]
    by_cases h2:kv.1=n
    ·subst h2;simp[mK]
    ·have h3:(kv.1==n)=false:=by simpa using h2
     simp only[mK,h3,cF]
     exact get_put n x y kvs
theorem pZ {l:List Int}(hl:l.length<=1000000){r:Int}{A:Pr}(hA:CL codes sigs f128 [.int] r A)
  (i:Nat) (hi:i<=l.length) (kvs:List (Int×Int)) (hk:∀ n,(mK n kvs).isSome=(l.take i).elem n) (h:rT (l.take i) (l.drop i) i=r):A (hd f128 0) (HK kvs l i):=by
 refine hA.go (Iq kvs l i) (ae (λ h1=>?_) (λ h1=>?_))
 ·have h1:=oT h1
  have hil:i<l.length:=by omega
  rw[aY hil,hk]
  rw[dG hil,rT]at h
  refine⟨⟨⟨by omega,by omega⟩,tv⟩,ae (λ h2=>⟨T2',?_⟩) (λ h2=>⟨T2',?_⟩)⟩
  ·rw[h2]at h;exact h
  ·rw[h2,cF]at h
   rw[aq (by omega)]
   refine pZ hl hA (i+1) (by omega) _ (λ n=>?_) (by rw[aW hil];exact h)
   rw[get_put,hk,aW hil,Ht]
 ·have h1:=oF h1
  rw[dN (by omega),rT]at h
  exact⟨T2',h⟩
termination_by l.length-i
theorem HD {l:List Int}(hl:l.length<=1000000):yJ prog 128 [⟨.sl .int,l⟩] [.int] (nj l):=
 pcl codes sigs func128 (by kernel_rfl) λ A hA=>hA.go (Px l) (pZ hl hA 0 (by omega) [] (λ n=>rfl) rfl)
theorem Ez {l:List Int}(hl:l.length<=1000000){r:Int}{A:Pr}(hA:CL codes sigs f114 [.int] r A)
  (i:Nat) (hi:i<=l.length) (h:rT (l.take i) (l.drop i) i=r):A (hd f114 0) (Ua l i):=by
 refine hA.go (Sn l i) (ae (λ h1=>?_) (λ h1=>?_))
 ·have h1:=oT h1
  have hil:i<l.length:=by omega
  rw[aY hil,au,bE]
  rw[dG hil,rT]at h
  refine⟨⟨⟨by omega,by omega,by omega⟩,tv⟩,⟨⟨by omega,by omega⟩,tv⟩,⟨T2',T2',tv⟩,_,NJ (by rw[aD];omega),ae (λ h2=>⟨T2',?_⟩) (λ h2=>?_)⟩
  ·rw[h2]at h;exact h
  ·rw[h2,cF]at h
   rw[aq (by omega)]
   exact Ez hl hA (i+1) (by omega) (by rw[aW hil];exact h)
 ·have h1:=oF h1
  rw[dN (by omega),rT]at h
  exact⟨T2',h⟩
termination_by l.length-i
theorem c114 {l:List Int}(hl:l.length<=1000000):yJ prog 114 [⟨.sl .int,l⟩] [.int] (nj l):=
 pcl codes sigs func114 (by kernel_rfl) λ A hA=>hA.go (t114 l) (Ez hl hA 0 (by omega) rfl)
theorem Dk:∀ (l seen:List Int) (i:Int),0<=i->rT seen l i<i+(l.length:Int) /\(-1<=rT seen l i)
 | [],seen,i,h=>by simp[rT];omega
 | x :: l, seen, i, h => by
   unfold rT
   have:=Dk l (seen++[x]) (i+1) (by omega)
   cases seen.elem x
   ·rw[cF,af];omega
   ·rw[cT,af];omega
theorem za {l:List Int}(h:nj l>=0):nj l<(l.length:Int):=by
 have:=(Dk l [] 0 (by omega)).1
 unfold nj at h ⊢
 omega
def ji (d:yA):List Int->yH
 | []=>eX 0 0
 | x::l=>bif eG d x==0 then eX 3 x else ji d l
def fZ (d:yA)(l:List Int):yH:=bif (l.length:Int)==0 then eX 1 0 else bif decide ((l.length:Int)>16)then eX 2 0 else bif decide (nj l>=0)then eX 152 (l.getD (nj l).toNat 0)else ji d l
theorem JP {d:yA}{l:List Int}(hl:l.length<=16){r:yH}{A:Pr}(hA:CL codes sigs f66 [.zM] r A)
  (i:Nat) (hi:i<=l.length) (h:ji d (l.drop i)=r):A (hd f66 0) (L66 d l i):=by
 refine hA.go (t66a d l i) (ae (λ h1=>?_) (λ h1=>?_))
 ·have h1:=oT h1
  have hil:i<l.length:=by omega
  rw[aY hil]
  rw[dG hil,ji]at h
  refine⟨⟨⟨by omega,by omega⟩,tv⟩,⟨T5',T2',tv⟩,_,c68 d _,ae (λ h2=>⟨⟨T2',T2',tv⟩,_,c69 _ _,T6',?_⟩) (λ h2=>?_)⟩
  ·rw[h2]at h;exact h
  ·rw[h2,cF]at h
   rw[aq (by omega)]
   exact JP hl hA (i+1) (by omega) h
 ·have h1:=oF h1
  rw[dN (by omega)]at h
  exact⟨T6',h⟩
termination_by l.length-i
theorem c66 (d:yA)(l:List Int):yJ prog 66 [⟨.zI,d⟩,⟨.sl .int,l⟩] [.zM] (fZ d l):=
 pcl codes sigs func66 (by kernel_rfl) λ A hA=>hA.go (t66 d l) (by
  generalize hr:fZ d l=r at hA ⊢
  unfold fZ at hr
  refine ae (λ h=>⟨⟨T2',tv⟩,_,c62 1,T6',by rw[h]at hr;exact hr⟩) (λ h1=>ae (λ h=>⟨⟨T2',tv⟩,_,c62 2,T6',by rw[h1,h]at hr;exact hr⟩) (λ h2=>?_))
  have h2':=oF h2
  refine⟨⟨T2',tv⟩,_,HD (by omega),ae (λ h=>?_) (λ h=>?_)⟩
  ·have ht:=za (oT h)
   refine⟨⟨⟨oT h,ht⟩,tv⟩,⟨T2',T2',tv⟩,_,c69 _ _,T6',?_⟩
   rw[h1,h2,h]at hr;exact hr
  ·rw[h1,h2,h]at hr
   exact JP (by omega) hA 0 (by omega) hr)
theorem JO {d:yA}{l:List Int}(hl:l.length<=16){r:yH}{A:Pr}(hA:CL codes sigs f73 [.zM] r A)
  (i:Nat) (hi:i<=l.length) (h:ji d (l.drop i)=r):A (hd f73 0) (L73 d l i):=by
 refine hA.go (t73a d l i) (ae (λ h1=>?_) (λ h1=>?_))
 ·have h1:=oT h1
  have hil:i<l.length:=by omega
  rw[aY hil]
  rw[dG hil,ji]at h
  refine⟨⟨⟨by omega,by omega⟩,tv⟩,⟨T5',T2',tv⟩,_,c74 d _,ae (λ h2=>⟨⟨⟨by omega,by omega⟩,tv⟩,⟨T2',T2',tv⟩,_,c71 _ _,T6',?_⟩) (λ h2=>?_)⟩
  ·rw[h2]at h;exact h
  ·rw[h2,cF]at h
   rw[aq (by omega)]
   exact JO hl hA (i+1) (by omega) h
 ·have h1:=oF h1
  rw[dN (by omega)]at h
  exact⟨T6',h⟩
termination_by l.length-i
theorem c73 (d:yA)(l:List Int):yJ prog 73 [⟨.zI,d⟩,⟨.sl .int,l⟩] [.zM] (fZ d l):=
 pcl codes sigs func73 (by kernel_rfl) λ A hA=>hA.go (t73 d l) (by
  generalize hr:fZ d l=r at hA ⊢
  unfold fZ at hr
  refine ae (λ h=>⟨⟨T2',T2',tv⟩,_,c71 1 0,T6',by rw[h]at hr;exact hr⟩) (λ h1=>ae (λ h=>⟨⟨T2',T2',tv⟩,_,c71 2 0,T6',by rw[h1,h]at hr;exact hr⟩) (λ h2=>?_))
  have h2':=oF h2
  refine⟨⟨T2',tv⟩,_,c114 (by omega),ae (λ h=>?_) (λ h=>?_)⟩
  ·have ht:=za (oT h)
   refine⟨⟨⟨oT h,ht⟩,tv⟩,⟨T2',T2',tv⟩,_,c71 _ _,T6',?_⟩
   rw[h1,h2,h]at hr;exact hr
  ·rw[h1,h2,h]at hr
   exact JO (by omega) hA 0 (by omega) hr)
theorem JN {l:List Int}(hl:l.length<=100000){r:List Int}{A:Pr}(hA:CL codes sigs f77 [.sl .int] r A)
  (i:Nat) (hi:i<=l.length) (out:List Int) (ho:out.length<=i) (h:cP out (l.drop i)=r):A (hd f77 0) (L77 l out i):=by
 refine hA.go (t77a l out i) (ae (λ h1=>?_) (λ h1=>?_))
 ·have h1:=oT h1
  have hil:i<l.length:=by omega
  rw[aY hil]
  rw[dG hil]at h
  refine⟨⟨⟨by omega,by omega⟩,tv⟩,⟨T2',T2',tv⟩,_,CY (by omega),?_⟩
  rw[aq (by omega)]
  have:=lq (n:=l[i]) (l:=out)
  exact JN hl hA (i+1) (by omega) _ (by omega) h
 ·have h1:=oF h1
  rw[dN (by omega)]at h
  exact⟨T2',h⟩
termination_by l.length-i
theorem c77 {l:List Int}(hl:l.length<=100000):yJ prog 77 [⟨.sl .int,l⟩] [.sl .int] (cV l):=
 pcl codes sigs func77 (by kernel_rfl) λ A hA=>hA.go (t77 l)
  (hA.slot 3 (.d (.v (.slice none 0 0))) (.d (.sl .int [])) (s':=L77 l [] 0) (by kernel_rfl) (by kernel_rfl) (AVle.nil _ .int 0) (by kernel_rfl) (JN hl hA 0 (by omega) [] (by simp) rfl))
open Go Go.VL
abbrev xc (r:yT):List AV:=[i64 r.kind,.d (.sl .int r.zU),i64 r.a,i64 r.b,i64 r.ver,u64 r.zS]
abbrev CK (f:yB):List AV:=[ck f.zU,ck f.a,ck f.b,ck f.ver,ck f.zS]
theorem t67 (r:yT)(f:yB):@Eq _ (ySp prog f67 0 100 [.agg (xc r),.agg (CK f)] [] 0) (.zF True (.ret ⟨[.clo (.func 129) [] [.ptr 0 0,.ptr 1 0]],[(0,.box (rC r)),(1,.box (fC f))],2⟩)):=by kernel_rfl
theorem t18 (d:yA)(r:yT):@Eq _ (xSp prog f18 [.zM] 300 [⟨.zI,d⟩,⟨.req,r⟩]) (.zF V5 (.zG 61 [⟨.zI,d⟩] [.int] λ(x:Int)=>bif x != 0 then .zF V2 (.zG 62 [⟨.int,x⟩] [.zM] λ(x:yH)=>.zF U6 (.ret x))else .zF V2 (.zG 63 [⟨.int,r.kind⟩] [.flds] λ(x:yB)=>bif decide (r.kind<1)then .zF V2 (.zG 62 [⟨.int,(150:Int)⟩] [.zM] λ(x:yH)=>.zF U6 (.ret x))else bif decide (r.kind>10)then .zF V2 (.zG 62 [⟨.int,(150:Int)⟩] [.zM] λ(x:yH)=>.zF U6 (.ret x))else .zF V7 (.zG 64 [⟨.req,r⟩] [.flds] λ(x_1:yB)=>.zF QB (.zG 65 [⟨.flds,x_1⟩,⟨.flds,x⟩] [.bool] λ(x_2:Bool)=>bif !x_2 then .zF V2 (.zG 62 [⟨.int,(151:Int)⟩] [.zM] λ(x:yH)=>.zF U6 (.ret x))else bif yB.zU x then .zF lg (.zG 66 [⟨.zI,d⟩,⟨.sl .int,r.zU⟩] [.zM] λ(x:yH)=>.zF U6 (.ret x))else .zH 67 [.agg (rC r),.agg (fC x)] [] 0 [] (λ(a:PUnit)=>yD.mk [.clo (.func 129) [] [.ptr 0 0,.ptr 1 0]] [(0,.box (rC r)),(1,.box (fC x))] 2) λ(x_3:PUnit)=>.stop (rf f18 0) (mkS 76 [(2,.ptr 0 0),(3,.ptr 1 0),(4,.ptr 2 0),(6,.ptr 3 0),(46,.clo (.func 129) [] [.ptr 4 0,.ptr 5 0]),(47,.d (.v (.tuple (Array.mk [])))),(48,.d (.v (.tuple (Array.mk []))))] [(0,.box (dC d)),(1,.box (rC r)),(2,.box [i64 0,i64 0,i64 0,i64 0,nS]),(3,.box (fC x)),(4,.box (rC r)),(5,.box (fC x))] 6)))))):=by kernel_rfl
def dh:List AV:=[i64 0,i64 0,i64 0,i64 0,.d (.v (.slice none 0 0))]
def gm (x:yH):List AV:=[i64 x.err,i64 x.id,i64 x.n,i64 x.ver,.d (.sl .change x.list)]
def H18 (d:yA)(r:yT)(f:yB)(x:List AV):Heap:=[(0,.box (Zn.cq d)),(1,.box (xc r)),(2,.box x),(3,.box (CK f)),(4,.box (xc r)),(5,.box (CK f))]
def NW (l:Nat)(d:yA)(r:yT)(f:yB)(x:List AV):AS:=mkS 25 [(0,.clo (.yield l) [] []),(1,.ptr 4 0),(2,.ptr 5 0)] (H18 d r f x) 6
def HZ:List AV:=(mkS 76 [(2,.ptr 0 0),(3,.ptr 1 0),(4,.ptr 2 0),(6,.ptr 3 0),(46,.clo (.func 129) [] [.ptr 4 0,.ptr 5 0]),(47,.d (.v (.tuple #[]))),(48,.d (.v (.tuple #[])))] [] 6).tmps
def R18 (d:yA)(r:yT)(f:yB)(i w:Int)(n:Nat):AS:=⟨(HZ.set 47 (i64 i)).set 48 (i64 w),H18 d r f dh,n⟩
def B18 (d:yA)(r:yT)(f:yB)(i w:Int)(n:Nat):AS:=mkS 76 [(2,.ptr 0 0),(4,.ptr 2 0),(7,i64 i),(8,i64 w)] (H18 d r f dh) n
def K18 (d:yA)(r:yT)(f:yB)(x:List AV)(n:Nat):AS:=⟨HZ,H18 d r f x,n⟩
def rtK (t:List Item):List Item:=.code .ret::rfK t
def QQ (l:Nat)(d:yA)(r:yT)(f:yB)(w:Int):AS:=mkS 25 [(0,.clo (.yield l) [] []),(1,.ptr 4 0),(2,.ptr 5 0),(4,i64 w)] (H18 d r f dh) 6
def TE (l:Nat)(d:yA)(r:yT)(f:yB)(w:Int)(b:Bool)(n:Nat)(x:List AV):AS:=mkS 25 [(0,.clo (.yield l) [] []),(1,.ptr 4 0),(2,.ptr 5 0),(4,i64 w),(8,.ptr 5 1),(9,ck true),(10,ck true),(11,.clo (.yield l) [] []),(12,.ptr 4 2),(13,i64 r.a),(14,i64 w),(15,ck b)] (H18 d r f x) n
def Uf (l:Nat)(d:yA)(r:yT)(f:yB)(w:Int):AS:=mkS 25 [(0,.clo (.yield l) [] []),(1,.ptr 4 0),(4,i64 w)] (H18 d r f dh) 6
def TF (l:Nat)(d:yA)(r:yT)(f:yB)(w:Int)(b:Bool)(x:List AV):AS:=mkS 25 [(0,.clo (.yield l) [] []),(1,.ptr 4 0),(4,i64 w),(20,.clo (.yield l) [] []),(21,.ptr 4 3),(22,i64 r.b),(23,i64 w),(24,ck b)] (H18 d r f x) 46
theorem Sb (l:Nat)(d:yA)(r:yT)(f:yB):@Eq (Out Unit) (bh prog codes sigs f129 (λ _ _=>none:Fin Unit) 6 ⟨[3],false⟩ 300 false (cB f129) (NW l d r f dh)) (bif r.kind==7 then .stop (rg f129 3) (mkS 25 [(0,.clo (.yield l) [] []),(1,.ptr 4 0),(2,.ptr 5 0),(4,i64 2)] [(0,.box (dC d)),(1,.box (rC r)),(2,.box [i64 0,i64 0,i64 0,i64 0,nS]),(3,.box (fC f)),(4,.box (rC r)),(5,.box (fC f))] 6)else .stop (rg f129 3) (mkS 25 [(0,.clo (.yield l) [] []),(1,.ptr 4 0),(2,.ptr 5 0),(4,i64 1)] [(0,.box (dC d)),(1,.box (rC r)),(2,.box [i64 0,i64 0,i64 0,i64 0,nS]),(3,.box (fC f)),(4,.box (rC r)),(5,.box (fC f))] 6)):=by kernel_rfl
theorem Sa (l:Nat)(d:yA)(r:yT)(fi fb fv fl:Bool)(w:Int):@Eq (Out Unit) (bh prog codes sigs f129 (λ _ _=>none:Fin Unit) 6 ⟨[5],true⟩ 300 true (rg f129 3) (QQ l d r ⟨fi,true,fb,fv,fl⟩ w)) (.stop (inR f129 3 7) (mkS 25 [(0,.clo (.yield l) [] []),(1,.ptr 4 0),(2,.ptr 5 0),(4,i64 w),(8,.ptr 5 1),(9,.d (.v (.bool true))),(10,.d (.v (.bool true))),(11,.clo (.yield l) [] []),(12,.ptr 4 2),(13,i64 r.a),(14,i64 w)] [(0,.box (dC d)),(1,.box (rC r)),(2,.box [i64 0,i64 0,i64 0,i64 0,nS]),(3,.box [.d (.v (.bool fi)),.d (.v (.bool true)),.d (.v (.bool fb)),.d (.v (.bool fv)),.d (.v (.bool fl))]),(4,.box (rC r)),(5,.box [.d (.v (.bool fi)),.d (.v (.bool true)),.d (.v (.bool fb)),.d (.v (.bool fv)),.d (.v (.bool fl))])] 6)):=by kernel_rfl
theorem RZ (l:Nat)(d:yA)(r:yT)(fi fb fv fl:Bool)(w:Int):@Eq (Out Unit) (bh prog codes sigs f129 (λ _ _=>none:Fin Unit) 6 ⟨[5],true⟩ 300 true (rg f129 3) (QQ l d r ⟨fi,false,false,fv,fl⟩ w)) (.stop [] (mkS 25 [] [(0,.box (dC d)),(1,.box (rC r)),(2,.box [i64 0,i64 0,i64 0,i64 0,nS]),(3,.box [.d (.v (.bool fi)),.d (.v (.bool false)),.d (.v (.bool false)),.d (.v (.bool fv)),.d (.v (.bool fl))]),(4,.box (rC r)),(5,.box [.d (.v (.bool fi)),.d (.v (.bool false)),.d (.v (.bool false)),.d (.v (.bool fv)),.d (.v (.bool fl))])] 6)):=by kernel_rfl
theorem RY (l:Nat)(d:yA)(r:yT)(fi fb fv fl:Bool)(w:Int):@Eq (Out Unit) (bh prog codes sigs f129 (λ _ _=>none:Fin Unit) 6 ⟨[5],true⟩ 300 true (inR f129 3 8) (TE l d r ⟨fi,true,fb,fv,fl⟩ w true 86 dh)) (bif fb then .stop (rg f129 5) (mkS 25 [(0,.clo (.yield l) [] []),(1,.ptr 4 0),(4,i64 w)] [(0,.box (dC d)),(1,.box (rC r)),(2,.box [i64 0,i64 0,i64 0,i64 0,nS]),(3,.box [.d (.v (.bool fi)),.d (.v (.bool true)),.d (.v (.bool fb)),.d (.v (.bool fv)),.d (.v (.bool fl))]),(4,.box (rC r)),(5,.box [.d (.v (.bool fi)),.d (.v (.bool true)),.d (.v (.bool fb)),.d (.v (.bool fv)),.d (.v (.bool fl))])] 6)else .stop [] (mkS 25 [] [(0,.box (dC d)),(1,.box (rC r)),(2,.box [i64 0,i64 0,i64 0,i64 0,nS]),(3,.box [.d (.v (.bool fi)),.d (.v (.bool true)),.d (.v (.bool fb)),.d (.v (.bool fv)),.d (.v (.bool fl))]),(4,.box (rC r)),(5,.box [.d (.v (.bool fi)),.d (.v (.bool true)),.d (.v (.bool fb)),.d (.v (.bool fv)),.d (.v (.bool fl))])] 6)):=by kernel_rfl
theorem RX (l:Nat)(d:yA)(r:yT)(fi fb fv fl:Bool)(w:Int)(x:yH):@Eq (Out Unit) (bh prog codes sigs f129 (λ _ _=>none:Fin Unit) 6 ⟨[5],true⟩ 300 true (inR f129 3 8) (TE l d r ⟨fi,true,fb,fv,fl⟩ w false 86 (gm x))) (.stop (rt f129 0) (mkS 25 [] [(0,.box (dC d)),(1,.box (rC r)),(2,.box (pC x)),(3,.box [.d (.v (.bool fi)),.d (.v (.bool true)),.d (.v (.bool fb)),.d (.v (.bool fv)),.d (.v (.bool fl))]),(4,.box (rC r)),(5,.box [.d (.v (.bool fi)),.d (.v (.bool true)),.d (.v (.bool fb)),.d (.v (.bool fv)),.d (.v (.bool fl))])] 6)):=by kernel_rfl
theorem RV (l:Nat)(d:yA)(r:yT)(f:yB)(w:Int)(x:yH):@Eq (Out Unit) (bh prog codes sigs f129 (λ _ _=>none:Fin Unit) 6 ⟨[5],true⟩ 300 true (inR f129 5 5) (TF l d r f w false (gm x))) (.stop [] (mkS 25 [] [(0,.box (dC d)),(1,.box (rC r)),(2,.box (pC x)),(3,.box (fC f)),(4,.box (rC r)),(5,.box (fC f))] 6)):=by kernel_rfl
theorem RU (l:Nat)(d:yA)(r:yT)(f:yB)(w:Int):@Eq (Out Unit) (bh prog codes sigs f129 (λ _ _=>none:Fin Unit) 6 ⟨[5],true⟩ 300 true (inR f129 5 5) (TF l d r f w true dh)) (.stop [] (mkS 25 [] [(0,.box (dC d)),(1,.box (rC r)),(2,.box [i64 0,i64 0,i64 0,i64 0,nS]),(3,.box (fC f)),(4,.box (rC r)),(5,.box (fC f))] 6)):=by kernel_rfl
theorem RW (l:Nat)(d:yA)(r:yT)(f:yB)(w:Int):@Eq (Out Unit) (bh prog codes sigs f129 (λ _ _=>none:Fin Unit) 6 ⟨[5],true⟩ 300 true (rg f129 5) (Uf l d r f w)) (.stop (inR f129 5 4) (mkS 25 [(0,.clo (.yield l) [] []),(1,.ptr 4 0),(4,i64 w),(20,.clo (.yield l) [] []),(21,.ptr 4 3),(22,i64 r.b),(23,i64 w)] [(0,.box (dC d)),(1,.box (rC r)),(2,.box [i64 0,i64 0,i64 0,i64 0,nS]),(3,.box (fC f)),(4,.box (rC r)),(5,.box (fC f))] 6)):=by kernel_rfl
theorem t18r (d:yA)(r:yT)(f:yB)(i w:Int):@Eq (Out Unit) (bh prog codes sigs f18 (λ _ _=>none:Fin Unit) 86 ⟨[],true⟩ 300 true (rd f18 0) (R18 d r f i w 86)) (.stop (rb f18 0) (mkS 76 [(2,.ptr 0 0),(4,.ptr 2 0),(7,i64 i),(8,i64 w)] [(0,.box (dC d)),(1,.box (rC r)),(2,.box [i64 0,i64 0,i64 0,i64 0,nS]),(3,.box (fC f)),(4,.box (rC r)),(5,.box (fC f))] 86)):=by kernel_rfl
theorem t18s (d:yA)(r:yT)(f:yB)(i w:Int):@Eq (Out Unit) (bh prog codes sigs f18 (λ _ _=>none:Fin Unit) 46 ⟨[],true⟩ 300 true (rd f18 0) (R18 d r f i w 46)) (.stop (rb f18 0) (mkS 76 [(2,.ptr 0 0),(4,.ptr 2 0),(7,i64 i),(8,i64 w)] [(0,.box (dC d)),(1,.box (rC r)),(2,.box [i64 0,i64 0,i64 0,i64 0,nS]),(3,.box (fC f)),(4,.box (rC r)),(5,.box (fC f))] 46)):=by kernel_rfl
theorem t18c (d:yA)(r:yT)(f:yB)(i w:Int):@Eq (Out Unit) (bh prog codes sigs f18 (λ _ _=>none:Fin Unit) 86 ⟨[],true⟩ 300 true (List.tail (rb f18 0)) (B18 d r f i w 86)) (.zF lg (.zG 68 [⟨.zI,d⟩,⟨.int,i⟩] [.int] λ(x:Int)=>bif x != w then .zF bX (.zG 69 [⟨.int,(3:Int)⟩,⟨.int,i⟩] [.zM] λ(x:yH)=>.stop [Item.code Code.ret,Item.inBlock 2] (mkS 76 [(4,.ptr 2 0)] [(0,.box (dC d)),(1,.box (rC r)),(2,.box (pC x)),(3,.box (fC f)),(4,.box (rC r)),(5,.box (fC f))] 86))else .stop [] (mkS 76 [(4,.ptr 2 0)] [(0,.box (dC d)),(1,.box (rC r)),(2,.box [i64 0,i64 0,i64 0,i64 0,nS]),(3,.box (fC f)),(4,.box (rC r)),(5,.box (fC f))] 86))):=by kernel_rfl
theorem t18d (d:yA)(r:yT)(f:yB)(i w:Int):@Eq (Out Unit) (bh prog codes sigs f18 (λ _ _=>none:Fin Unit) 46 ⟨[],true⟩ 300 true (List.tail (rb f18 0)) (B18 d r f i w 46)) (.zF lg (.zG 68 [⟨.zI,d⟩,⟨.int,i⟩] [.int] λ(x:Int)=>bif x != w then .zF bX (.zG 69 [⟨.int,(3:Int)⟩,⟨.int,i⟩] [.zM] λ(x:yH)=>.stop [Item.code Code.ret,Item.inBlock 2] (mkS 76 [(4,.ptr 2 0)] [(0,.box (dC d)),(1,.box (rC r)),(2,.box (pC x)),(3,.box (fC f)),(4,.box (rC r)),(5,.box (fC f))] 46))else .stop [] (mkS 76 [(4,.ptr 2 0)] [(0,.box (dC d)),(1,.box (rC r)),(2,.box [i64 0,i64 0,i64 0,i64 0,nS]),(3,.box (fC f)),(4,.box (rC r)),(5,.box (fC f))] 46))):=by kernel_rfl
theorem t18k (d:yA)(r:yT)(f:yB)(n:Nat):@Eq (Out (bc [.zM])) (bh prog codes sigs f18 (aS [.zM]) 6 fP 300 true (rfK (rf f18 0)) (K18 d r f dh n)) (bif yB.b f then bif r.a==r.b then .zF V2 (.zG 62 [⟨.int,(1:Int)⟩] [.zM] λ(x:yH)=>.zF U6 (.ret x))else bif yB.zS f then .zF V7 (.zG 15 [⟨.req,r⟩] [.int,.int] λ(x:Int×Int)=>.zF V2 (.zG 62 [⟨.int,x.2⟩] [.zM] λ(x:yH)=>.zF U6 (.ret x)))else .zF U6 (.ret (yH.mk 0 0 0 0 []))else bif yB.zS f then .zF V7 (.zG 15 [⟨.req,r⟩] [.int,.int] λ(x:Int×Int)=>.zF V2 (.zG 62 [⟨.int,x.2⟩] [.zM] λ(x:yH)=>.zF U6 (.ret x)))else .zF U6 (.ret (yH.mk 0 0 0 0 []))):=by kernel_rfl
theorem RE (d:yA)(r:yT)(f:yB)(x:yH)(n:Nat):@Eq (Out (bc [.zM])) (bh prog codes sigs f18 (aS [.zM]) 6 fP 300 true (rtK (rf f18 0)) (K18 d r f (gm x) n)) (.zF U6 (.ret x)):=by kernel_rfl
open Zn (df)
theorem c67 (r:yT)(f:yB):Gc prog 67 [.agg (xc r),.agg (CK f)] [] 0 (Ag [.agg (xc r),.agg (CK f)] [] ()):=
 Gc.of_closed (C:=codes) (S:=sigs) mixed func67 (by kernel_rfl) (λ i T t ys hi _=>absurd hi (bL _)) λ A hA=>
  hA.go (t67 r f) ⟨tv,.of_eq rfl⟩
def fc (r:yT):Int:=bif r.kind==7 then 2 else 1
def CN (r:yT)(f:yB):yH:=bif f.b&&r.a==r.b then eX 1 0 else bif f.zS then eX (cy r).2 0 else eX 0 0
def fm (d:yA)(r:yT)(f:yB):yH:=bif f.a&&(eG d r.a != fc r)then eX 3 r.a else bif f.b&&(eG d r.b != fc r)then eX 3 r.b else CN r f
def bS (d:yA)(r:yT):yH:=bif df d != 0 then eX (df d) 0 else bif decide (r.kind<1)||decide (r.kind>10)then eX 150 0 else bif !dy (fQ r) (flS r.kind)then eX 151 0 else bif (flS r.kind).zU then fZ d r.zU else fm d r (flS r.kind)
theorem rj {d:yA}{r:yT}{f:yB}{x:List AV}{H:Heap}{n:Nat}:RowsLe n H (H18 d r f x):=by
 intro i T t xs hi hx
 match i,hx with
 | 0,hx=>cases hx
 | 1,hx=>cases hx
 | 2,hx=>cases hx
 | 3,hx=>cases hx
 | 4,hx=>cases hx
 | 5,hx=>cases hx
 | i+6,hx=>cases hx
def yOK (todo:List Item)(dst yt a b:Tmp):Bool:=match MJ todo with
 | some o => (o.dst == some dst) && (match yj o with
   | some (.tmp y, args) => (match args.toList with
     | [.tmp z,.tmp u]=>y==yt&&(z==a&&u==b)
     | _=>false)
   | _=>false)
 | none=>false
theorem PP {todo:List Item}{dst yt a b:Tmp}(h:yOK todo dst yt a b=true):∃ o args,MJ todo=some o/\o.dst=some dst/\yj o=some (.tmp yt,args)/\args.toList=[.tmp a,.tmp b]:=by
 unfold yOK at h
 split at h
 ·rename_i o ho
  simp only[aO]at h
  obtain⟨hd,hc⟩:=h
  split at hc
  ·rename_i y args hcall
   split at hc
   ·rename_i z u hz
    simp only[aO,bD]at hc
    obtain⟨rfl,rfl,rfl⟩:=hc
    exact⟨o,args,ho,by simpa using hd,hcall,hz⟩
   ·cases hc
  ·cases hc
 ·cases h
def wOK (todo:List Item)(s:AS):Bool:=match MJ todo with
 | some o=>oc (nU todo) o s
 | none=>false
abbrev GG (l:Nat)(d:yA)(r:yT)(f:yB)(done:Heap->Nat->Prop)(doneJ:Code->Heap->Nat->Prop)(A:List Item->AS->Prop):Prop:=
 ClG prog codes sigs f129 f18 6 l (H18 d r f dh) (rfP (rf f18 0)) (rfA (rf f18 0)) (rfB (rf f18 0)) HZ done doneJ A
theorem yld {l:Nat}{d:yA}{r:yT}{f:yB}{i w:Int}{done:Heap->Nat->Prop}{doneJ:Code->Heap->Nat->Prop}{A:List Item->AS->Prop}
  (hG:GG l d r f done doneJ A) (todo:List Item) (tm:List AV) (dst yt a b:Tmp) (n:Nat) (hn:6+8*(nU todo).size=n) (hin:Kj todo=true) (hy:yOK todo dst yt a b=true) (hw:wOK todo ⟨tm,H18 d r f dh,6⟩=true)
  (hev:tm.getD yt .dead=.clo (.yield l) [] []) (hea:tm.getD a .dead=i64 i) (heb:tm.getD b .dead=i64 w)
  (h18:∀ Ar,ClB prog codes sigs f18 n (λ s2=>RowsLe n (H18 d r f dh) s2.H/\A (nV todo) ⟨tm.set dst (ck true),s2.H,s2.next⟩)
   (λ j s2=>RowsLe n (H18 d r f dh) s2.H/\∀ Ad,ClD prog codes sigs f129 6 (doneJ j) Ad->Ad (nV todo) ⟨tm.set dst (ck false),s2.H,s2.next⟩) Ar->Ar (rd f18 0) (R18 d r f i w n)):A todo ⟨tm,H18 d r f dh,6⟩:=by
 obtain⟨o,args,ho,hds,hc,ha⟩:=PP hy
 have hsz:args.size=(rfP (rf f18 0)).size:=by
  have e1:args.size=2:=by rw[<-bl,ha];rfl
  have e2:(rfP (rf f18 0)).size=2:=by kernel_rfl
  rw[e1,e2]
 have hg:oc (nU todo) o ⟨tm,H18 d r f dh,6⟩=true:=by
  unfold wOK at hw;rw[ho]at hw;exact hw
 refine hG.at todo ⟨tm,H18 d r f dh,6⟩ o (.tmp yt) args hin ho hg hc hev hsz rj (aI _) (λ Ar hAr=>?_)
 rw[ha]
 have e2:[Operand.tmp a,Operand.tmp b].map (⟨tm,H18 d r f dh,6⟩:AS).ev=[i64 i,i64 w]:=by rw[<-hea,<-heb];rfl
 have e3:pG HZ (rfP (rf f18 0)).toList [i64 i,i64 w]=(R18 d r f i w n).tmps:=by kernel_rfl
 rw[e2,e3]
 rw[hds]at hAr
 subst hn
 exact h18 Ar hAr
theorem QR {l:Nat}{d:yA}{r:yT}{f:yB}{i w:Int}{done:Heap->Nat->Prop}{doneJ:Code->Heap->Nat->Prop}{A:List Item->AS->Prop}
  (hG:GG l d r f done doneJ A) (todo:List Item) (tm:List AV) (dst yt a b:Tmp) (hn:6+8*(nU todo).size=86) (hin:Kj todo=true) (hy:yOK todo dst yt a b=true) (hw:wOK todo ⟨tm,H18 d r f dh,6⟩=true)
  (hev:tm.getD yt .dead=.clo (.yield l) [] []) (hea:tm.getD a .dead=i64 i) (heb:tm.getD b .dead=i64 w)
  (hgood:eG d i=w->A (nV todo) ⟨tm.set dst (ck true),H18 d r f dh,86⟩)
  (hbad:eG d i≠w->∀ Ad,ClD prog codes sigs f129 6 (doneJ .ret) Ad->Ad (nV todo) ⟨tm.set dst (ck false),H18 d r f (gm (eX 3 i)),86⟩):A todo ⟨tm,H18 d r f dh,6⟩:=by
 refine yld hG todo tm dst yt a b 86 hn hin hy hw hev hea heb (λ Ar hAr=>hAr.cl.go (t18r d r f i w) ?_)
 show Ar (.beginRound::[.code (rfB (rf f18 0))]) (B18 d r f i w 86)
 refine hAr.begin' _ _ (λ A3 hA3=>hA3.cl.go (t18c d r f i w) ⟨⟨Zn.T5',T2',tv⟩,_,c68 d i,ae (λ h=>⟨⟨T2',T2',tv⟩,_,c69 3 i,?_⟩) (λ h=>?_)⟩)
 ·exact hA3.ret _ _ ⟨rj (x:=gm (eX 3 i)),hbad (by simpa using h)⟩
 ·exact hA3.fine _ ⟨rj (x:=dh),hgood (by simpa using h)⟩
theorem QS {l:Nat}{d:yA}{r:yT}{f:yB}{i w:Int}{done:Heap->Nat->Prop}{doneJ:Code->Heap->Nat->Prop}{A:List Item->AS->Prop}
  (hG:GG l d r f done doneJ A) (todo:List Item) (tm:List AV) (dst yt a b:Tmp) (hn:6+8*(nU todo).size=46) (hin:Kj todo=true) (hy:yOK todo dst yt a b=true) (hw:wOK todo ⟨tm,H18 d r f dh,6⟩=true)
  (hev:tm.getD yt .dead=.clo (.yield l) [] []) (hea:tm.getD a .dead=i64 i) (heb:tm.getD b .dead=i64 w)
  (hgood:eG d i=w->A (nV todo) ⟨tm.set dst (ck true),H18 d r f dh,46⟩)
  (hbad:eG d i≠w->∀ Ad,ClD prog codes sigs f129 6 (doneJ .ret) Ad->Ad (nV todo) ⟨tm.set dst (ck false),H18 d r f (gm (eX 3 i)),46⟩):A todo ⟨tm,H18 d r f dh,6⟩:=by
 refine yld hG todo tm dst yt a b 46 hn hin hy hw hev hea heb (λ Ar hAr=>hAr.cl.go (t18s d r f i w) ?_)
 show Ar (.beginRound::[.code (rfB (rf f18 0))]) (B18 d r f i w 46)
 refine hAr.begin' _ _ (λ A3 hA3=>hA3.cl.go (t18d d r f i w) ⟨⟨Zn.T5',T2',tv⟩,_,c68 d i,ae (λ h=>⟨⟨T2',T2',tv⟩,_,c69 3 i,?_⟩) (λ h=>?_)⟩)
 ·exact hA3.ret _ _ ⟨rj (x:=gm (eX 3 i)),hbad (by simpa using h)⟩
 ·exact hA3.fine _ ⟨rj (x:=dh),hgood (by simpa using h)⟩
theorem PE {l:Nat}{d:yA}{r:yT}{f:yB}(hab:f.b=true->f.a=true){done:Heap->Nat->Prop}{doneJ:Code->Heap->Nat->Prop}{A:List Item->AS->Prop}(hG:GG l d r f done doneJ A)
  (hok:(f.a&&(eG d r.a != fc r))=false->(f.b&&(eG d r.b != fc r))=false->done (H18 d r f dh) 6)
  (hba:(f.a&&(eG d r.a != fc r))=true->doneJ .ret (H18 d r f (gm (eX 3 r.a))) 6)
  (hbb:(f.a&&(eG d r.a != fc r))=false->(f.b&&(eG d r.b != fc r))=true->doneJ .ret (H18 d r f (gm (eX 3 r.b))) 6):A (cB f129) (NW l d r f dh):=by
 have key:∀ w,w=fc r->A (rg f129 3) (QQ l d r f w):=by
  intro w hw
  obtain⟨fi,fa,fb,fv,fl⟩:=f
  cases fa with
  | false => cases fb with
    | true=>exact absurd (show false=true from hab rfl) (by decide)
    | false=>exact hG.cl.go (RZ l d r fi false fv fl w) (hG.ret [] _ (.inl rfl) (hok rfl rfl))
  | true =>
    refine hG.cl.go (Sa l d r fi fb fv fl w) ?_
    refine QR (i:=r.a) (w:=w) hG (inR f129 3 7) _ 15 11 13 14 (by kernel_rfl) (by kernel_rfl) (by kernel_rfl) (by kernel_rfl) (by kernel_rfl) (by kernel_rfl) (by kernel_rfl) (λ hk=>?_) (λ hk Ad hAd=>?_)
    ·have ha:(eG d r.a != fc r)=false:=by rw[hk,hw];simp
     refine hG.cl.go (RY l d r fi fb fv fl w) ?_
     cases fb with
     | false=>exact hG.ret [] _ (.inl rfl) (hok ha rfl)
     | true =>
       refine hG.cl.go (RW l d r ⟨fi,true,true,fv,fl⟩ w) ?_
       refine QS (i:=r.b) (w:=w) hG (inR f129 5 4) _ 24 20 22 23 (by kernel_rfl) (by kernel_rfl) (by kernel_rfl) (by kernel_rfl) (by kernel_rfl) (by kernel_rfl) (by kernel_rfl) (λ hk2=>?_) (λ hk2 Ad hAd=>?_)
       ·have hb:(eG d r.b != fc r)=false:=by rw[hk2,hw];simp
        exact hG.cl.go (RU l d r ⟨fi,true,true,fv,fl⟩ w) (hG.ret [] _ (.inl rfl) (hok ha hb))
       ·have hb:(eG d r.b != fc r)=true:=by rw[<-hw];simpa using hk2
        exact hAd.cl.go (RV l d r ⟨fi,true,true,fv,fl⟩ w (eX 3 r.b)) (hAd.ret [] _ (.inl rfl) (hbb ha hb))
    ·have ha:(eG d r.a != fc r)=true:=by rw[<-hw];simpa using hk
     refine hAd.cl.go (RX l d r fi fb fv fl w (eX 3 r.a)) (hAd.ret (rt f129 0) _ (.inr ⟨List.tail (rt f129 0),by kernel_rfl⟩) (hba ha))
 exact hG.cl.go (Sb l d r f) (ae (λ h=>key 2 (by unfold fc;rw[h];rfl)) (λ h=>key 1 (by unfold fc;rw[h];rfl)))
theorem SP (k:Int):(flS k).b=true->(flS k).a=true:=by
 unfold flS
 generalize (k==1)=b1
 generalize (k==2)=b2
 generalize (k==4)=b4
 generalize (k==5)=b5
 generalize (k==6)=b6
 generalize (k==7)=b7
 generalize (k==9)=b9
 generalize (k==10)=b10
 revert b1 b2 b4 b5 b6 b7 b9 b10
 decide
abbrev T7':True/\True/\True/\True/\True/\True/\True:=⟨tv,tv,tv,tv,tv,tv,tv⟩
theorem SQ {d:yA}{r:yT}(h0:0<=r.zS)(hv:r.zS<18446744073709551616)(f:yB){A2:List Item->AS->Prop}{y:yH}(hy:CN r f=y)(hA2:yP prog codes sigs f18 (aS [.zM]) (λ x=>x=y) 6 A2)(m:Nat):A2 (rfK (rf f18 0)) ⟨HZ,H18 d r f dh,m⟩:=by
 show A2 (rfK (rf f18 0)) (K18 d r f dh m)
 refine hA2.go (t18k d r f m) ?_
 unfold CN at hy
 refine ae (λ h=>?_) (λ h=>?_)
 ·rw[h]at hy
  refine ae (λ h2=>?_) (λ h2=>?_)
  ·rw[h2]at hy;exact⟨⟨T2',tv⟩,_,c62 1,T6',hy⟩
  ·rw[h2]at hy
   refine ae (λ h3=>?_) (λ h3=>?_)
   ·rw[h3]at hy;exact⟨⟨T7',tv⟩,_,c15 h0 hv,⟨T2',tv⟩,_,c62 _,T6',hy⟩
   ·rw[h3]at hy;exact⟨T6',hy⟩
 ·rw[h]at hy
  refine ae (λ h3=>?_) (λ h3=>?_)
  ·rw[h3]at hy;exact⟨⟨T7',tv⟩,_,c15 h0 hv,⟨T2',tv⟩,_,c62 _,T6',hy⟩
  ·rw[h3]at hy;exact⟨T6',hy⟩
theorem rf18 {d:yA}{r:yT}(h0:0<=r.zS)(hv:r.zS<18446744073709551616){f:yB}(hab:f.b=true->f.a=true){y:yH}(hy:fm d r f=y){A:List Item->AS->Prop}(hA:ClosedR prog codes sigs f18 (aS [.zM]) (λ x=>x=y) 0 A):A (rf f18 0) (K18 d r f dh 6):=by
 obtain⟨gc,hgc⟩:∃ gc,f129.body=some gc:=bM.1 (by kernel_rfl)
 refine hA.at (rf f18 0) (K18 d r f dh 6) 129 f129 gc [] [.ptr 4 0,.ptr 5 0] (by kernel_rfl) (by kernel_rfl) func129 hgc (by kernel_rfl) (by kernel_rfl) (bK _) (λ l A' hG=>?_)
 have e1:(NW l d r f dh).tmps=.clo (.yield l) [] []::.ptr 4 0::.ptr 5 0::List.replicate 22 .dead:=by kernel_rfl
 have e2:([]++.clo (.yield l) [] []::[.ptr 4 0,.ptr 5 0]++List.replicate (f129.ntmps-(([]:List AV).length+1+[AV.ptr 4 0,AV.ptr 5 0].length)) (.d (.v undef)):List AV)=.clo (.yield l) [] []::.ptr 4 0::.ptr 5 0::List.replicate 22 (.d (.v undef)):=by kernel_rfl
 rw[e2]
 refine hG.cl.le (cB f129) _ (NW l d r f dh) (by kernel_rfl) ⟨by rw[e1];rfl,?_,?_,aI _⟩ ?_
 ·intro i a c ha hc
  rw[e1]at hc
  match i with
  | 0=>cases ha;cases hc;exact .refl _ _
  | 1=>cases ha;cases hc;exact .refl _ _
  | 2=>cases ha;cases hc;exact .refl _ _
  | i + 3 =>
    have hc:(List.replicate 22 AV.dead)[i]?=some c:=hc
    rw[dq]at hc
    split at hc
    ·cases hc;exact .dead _ _
    ·cases hc
 ·intro k b' hb'
  refine⟨b',hb',.refl _ _⟩
 refine PE hab hG (λ h1 h2=>⟨rj,λ A2 hA2=>?_⟩) (λ h1=>⟨rj,λ A2 hA2=>?_⟩) (λ h1 h2=>⟨rj,λ A2 hA2=>?_⟩)
 ·exact SQ h0 hv f (y:=y) (by rw[<-hy,fm,h1,h2];rfl) hA2 6
 ·show A2 (rtK (rf f18 0)) (K18 d r f (gm (eX 3 r.a)) 6)
  exact yP.go hA2 (RE d r f (eX 3 r.a) 6) ⟨T6',by rw[<-hy,fm,h1];rfl⟩
 ·show A2 (rtK (rf f18 0)) (K18 d r f (gm (eX 3 r.b)) 6)
  exact yP.go hA2 (RE d r f (eX 3 r.b) 6) ⟨T6',by rw[<-hy,fm,h1,h2];rfl⟩
theorem c18 {d:yA}{r:yT}(h0:0<=r.zS)(hv:r.zS<18446744073709551616):yJ prog 18 [⟨.zI,d⟩,⟨.req,r⟩] [.zM] (bS d r):=
 yJ.of_closedR (C:=codes) (S:=sigs) mixed func18 (by kernel_rfl) (aV (by kernel_rfl)) λ A hA=>hA.cl.go (t18 d r) (by
  have hy:∃ y,bS d r=y:=⟨_,rfl⟩
  obtain⟨y,hy⟩:=hy
  rw[hy]at hA ⊢
  unfold bS at hy
  refine⟨⟨Zn.T5',tv⟩,_,Zn.c47 d,ae (λ h=>?_) (λ h=>?_)⟩
  ·rw[h]at hy;exact⟨⟨T2',tv⟩,_,c62 _,T6',hy⟩
  rw[h]at hy
  refine⟨⟨T2',tv⟩,_,c63 _,ae (λ h1=>?_) (λ h1=>?_)⟩
  ·rw[h1]at hy;exact⟨⟨T2',tv⟩,_,c62 _,T6',hy⟩
  rw[h1]at hy
  refine ae (λ h2=>?_) (λ h2=>?_)
  ·rw[h2]at hy;exact⟨⟨T2',tv⟩,_,c62 _,T6',hy⟩
  rw[h2]at hy
  refine⟨⟨T7',tv⟩,_,c64 r,⟨T6',T6',tv⟩,_,c65 _ _,ae (λ h3=>?_) (λ h3=>?_)⟩
  ·rw[h3]at hy;exact⟨⟨T2',tv⟩,_,c62 _,T6',hy⟩
  rw[h3]at hy
  refine ae (λ h4=>?_) (λ h4=>?_)
  ·rw[h4]at hy;exact⟨⟨Zn.T5',T2',tv⟩,_,c66 d r.zU,T6',hy⟩
  rw[h4]at hy
  exact⟨(),c67 r (flS r.kind),rf18 h0 hv (SP r.kind) hy hA⟩)
def H19 (d:yA)(r:yT)(f:yB):Heap:=[(0,.box (Zn.cq d)),(1,.box (xc r)),(2,.box [i64 0,i64 0,i64 0,i64 0,.d (.v (.slice none 0 0))]),(3,.box (CK f))]
def C19 (d:yA)(r:yT)(f:yB):AS:=mkS 132 [(2,.ptr 0 0),(3,.ptr 1 0),(4,.ptr 2 0),(6,.ptr 3 0)] (H19 d r f) 4
def D19 (d:yA)(r:yT)(f:yB)(w:Int):AS:=mkS 132 [(2,.ptr 0 0),(3,.ptr 1 0),(4,.ptr 2 0),(6,.ptr 3 0),(7,i64 w)] (H19 d r f) 4
def E19 (r:yT)(f:yB):AS:=mkS 132 [(3,.ptr 0 0),(4,.ptr 1 0),(6,.ptr 2 0)] [(0,.box (xc r)),(1,.box [i64 0,i64 0,i64 0,i64 0,.d (.v (.slice none 0 0))]),(2,.box (CK f))] 3
theorem t19 (d:yA)(r:yT):@Eq (Out (bc [.zM])) (bh prog codes sigs f19 (aS [.zM]) 0 ⟨[7],false⟩ 300 false (cB f19) (fB f19 [⟨.zI,d⟩,⟨.req,r⟩])) (.zF V5 (.zG 70 [⟨.zI,d⟩] [.int] λ(x:Int)=>bif x != 0 then .zF bX (.zG 71 [⟨.int,x⟩,⟨.int,(0:Int)⟩] [.zM] λ(x:yH)=>.zF U6 (.ret x))else bif decide (r.kind<1)then .zF bX (.zG 71 [⟨.int,(150:Int)⟩,⟨.int,(0:Int)⟩] [.zM] λ(x:yH)=>.zF U6 (.ret x))else bif decide (r.kind>10)then .zF bX (.zG 71 [⟨.int,(150:Int)⟩,⟨.int,(0:Int)⟩] [.zM] λ(x:yH)=>.zF U6 (.ret x))else .zF V2 (.zG 72 [⟨.int,r.kind⟩] [.b5] λ(x:yB)=>.stop (rg f19 7) (mkS 132 [(2,.ptr 0 0),(3,.ptr 1 0),(4,.ptr 2 0),(6,.ptr 3 0)] [(0,.box (dC d)),(1,.box (rC r)),(2,.box [i64 0,i64 0,i64 0,i64 0,nS]),(3,.box (fC x))] 4)))):=by kernel_rfl
theorem t19b (d:yA)(r:yT)(f:yB):@Eq (Out (bc [.zM])) (bh prog codes sigs f19 (aS [.zM]) 0 ⟨[14],false⟩ 300 true (rg f19 9) (C19 d r f)) (bif yB.zU f then .zF lg (.zG 73 [⟨.zI,d⟩,⟨.sl .int,r.zU⟩] [.zM] λ(x:yH)=>.zF U6 (.ret x))else bif r.kind==7 then .stop (rg f19 14) (mkS 132 [(2,.ptr 0 0),(3,.ptr 1 0),(4,.ptr 2 0),(6,.ptr 3 0),(7,i64 2)] [(0,.box (dC d)),(1,.box (rC r)),(2,.box [i64 0,i64 0,i64 0,i64 0,nS]),(3,.box (fC f))] 4)else .stop (rg f19 14) (mkS 132 [(2,.ptr 0 0),(3,.ptr 1 0),(4,.ptr 2 0),(6,.ptr 3 0),(7,i64 1)] [(0,.box (dC d)),(1,.box (rC r)),(2,.box [i64 0,i64 0,i64 0,i64 0,nS]),(3,.box (fC f))] 4)):=by kernel_rfl
theorem t19c (d:yA)(r:yT)(f:yB)(w:Int):@Eq (Out (bc [.zM])) (bh prog codes sigs f19 (aS [.zM]) 0 ⟨[16],false⟩ 300 true (rg f19 14) (D19 d r f w)) (bif yB.a f then .zF lg (.zG 74 [⟨.zI,d⟩,⟨.int,r.a⟩] [.int] λ(x:Int)=>bif x != w then .zF bX (.zG 71 [⟨.int,(3:Int)⟩,⟨.int,r.a⟩] [.zM] λ(x:yH)=>.zF U6 (.ret x))else .stop (rg f19 16) (mkS 132 [(2,.ptr 0 0),(3,.ptr 1 0),(4,.ptr 2 0),(6,.ptr 3 0)] [(0,.box (dC d)),(1,.box (rC r)),(2,.box [i64 0,i64 0,i64 0,i64 0,nS]),(3,.box (fC f))] 4))else .stop (rg f19 16) (mkS 132 [(2,.ptr 0 0),(3,.ptr 1 0),(4,.ptr 2 0),(6,.ptr 3 0)] [(0,.box (dC d)),(1,.box (rC r)),(2,.box [i64 0,i64 0,i64 0,i64 0,nS]),(3,.box (fC f))] 4)):=by kernel_rfl
theorem t19d (d:yA)(r:yT)(f:yB):@Eq (Out (bc [.zM])) (bh prog codes sigs f19 (aS [.zM]) 0 ⟨[18],false⟩ 300 true (rg f19 16) (C19 d r f)) (bif yB.b f then .zF lg (.zG 74 [⟨.zI,d⟩,⟨.int,r.b⟩] [.int] λ(x:Int)=>bif x != 1 then .zF bX (.zG 71 [⟨.int,(3:Int)⟩,⟨.int,r.b⟩] [.zM] λ(x:yH)=>.zF U6 (.ret x))else .stop (rg f19 18) (mkS 132 [(3,.ptr 0 0),(4,.ptr 1 0),(6,.ptr 2 0)] [(0,.box (rC r)),(1,.box [i64 0,i64 0,i64 0,i64 0,nS]),(2,.box (fC f))] 3))else .stop (rg f19 18) (mkS 132 [(3,.ptr 0 0),(4,.ptr 1 0),(6,.ptr 2 0)] [(0,.box (rC r)),(1,.box [i64 0,i64 0,i64 0,i64 0,nS]),(2,.box (fC f))] 3)):=by kernel_rfl
theorem t19e (r:yT)(f:yB):@Eq (Out (bc [.zM])) (bh prog codes sigs f19 (aS [.zM]) 0 ⟨[],false⟩ 300 true (rg f19 18) (E19 r f)) (bif yB.b f then bif r.a==r.b then .zF bX (.zG 71 [⟨.int,(1:Int)⟩,⟨.int,(0:Int)⟩] [.zM] λ(x:yH)=>.zF U6 (.ret x))else bif yB.zS f then .zF V7 (.zG 16 [⟨.req,r⟩] [.int,.int] λ(x:Int×Int)=>.zF bX (.zG 71 [⟨.int,x.2⟩,⟨.int,(0:Int)⟩] [.zM] λ(x:yH)=>.zF U6 (.ret x)))else .zF U6 (.ret (yH.mk 0 0 0 0 []))else bif yB.zS f then .zF V7 (.zG 16 [⟨.req,r⟩] [.int,.int] λ(x:Int×Int)=>.zF bX (.zG 71 [⟨.int,x.2⟩,⟨.int,(0:Int)⟩] [.zM] λ(x:yH)=>.zF U6 (.ret x)))else .zF U6 (.ret (yH.mk 0 0 0 0 []))):=by kernel_rfl
theorem RD (d:yA)(r:yT):@Eq (Out (bc [.zM])) (bh prog codes sigs f19 (aS [.zM]) 0 ⟨[9],false⟩ 300 true (rg f19 7) (C19 d r ⟨true,false,false,false,false⟩)) (bif r.a != 0 then .zF bX (.zG 71 [⟨.int,(151:Int)⟩,⟨.int,(0:Int)⟩] [.zM] λ(x:yH)=>.zF U6 (.ret x))else bif r.b != 0 then .zF bX (.zG 71 [⟨.int,(151:Int)⟩,⟨.int,(0:Int)⟩] [.zM] λ(x:yH)=>.zF U6 (.ret x))else bif r.ver != 0 then .zF bX (.zG 71 [⟨.int,(151:Int)⟩,⟨.int,(0:Int)⟩] [.zM] λ(x:yH)=>.zF U6 (.ret x))else bif r.zS != 0 then .zF bX (.zG 71 [⟨.int,(151:Int)⟩,⟨.int,(0:Int)⟩] [.zM] λ(x:yH)=>.zF U6 (.ret x))else .stop (rg f19 9) (mkS 132 [(2,.ptr 0 0),(3,.ptr 1 0),(4,.ptr 2 0),(6,.ptr 3 0)] [(0,.box (dC d)),(1,.box (rC r)),(2,.box [i64 0,i64 0,i64 0,i64 0,nS]),(3,.box [.d (.v (.bool true)),.d (.v (.bool false)),.d (.v (.bool false)),.d (.v (.bool false)),.d (.v (.bool false))])] 4)):=by kernel_rfl
theorem RC (d:yA)(r:yT):@Eq (Out (bc [.zM])) (bh prog codes sigs f19 (aS [.zM]) 0 ⟨[9],false⟩ 300 true (rg f19 7) (C19 d r ⟨false,true,true,false,true⟩)) (bif decide ((r.zU.length:Int)>0)then .zF bX (.zG 71 [⟨.int,(151:Int)⟩,⟨.int,(0:Int)⟩] [.zM] λ(x:yH)=>.zF U6 (.ret x))else bif r.ver != 0 then .zF bX (.zG 71 [⟨.int,(151:Int)⟩,⟨.int,(0:Int)⟩] [.zM] λ(x:yH)=>.zF U6 (.ret x))else .stop (rg f19 9) (mkS 132 [(2,.ptr 0 0),(3,.ptr 1 0),(4,.ptr 2 0),(6,.ptr 3 0)] [(0,.box (dC d)),(1,.box (rC r)),(2,.box [i64 0,i64 0,i64 0,i64 0,nS]),(3,.box [.d (.v (.bool false)),.d (.v (.bool true)),.d (.v (.bool true)),.d (.v (.bool false)),.d (.v (.bool true))])] 4)):=by kernel_rfl
theorem RB (d:yA)(r:yT):@Eq (Out (bc [.zM])) (bh prog codes sigs f19 (aS [.zM]) 0 ⟨[9],false⟩ 300 true (rg f19 7) (C19 d r ⟨false,true,false,false,true⟩)) (bif decide ((r.zU.length:Int)>0)then .zF bX (.zG 71 [⟨.int,(151:Int)⟩,⟨.int,(0:Int)⟩] [.zM] λ(x:yH)=>.zF U6 (.ret x))else bif r.b != 0 then .zF bX (.zG 71 [⟨.int,(151:Int)⟩,⟨.int,(0:Int)⟩] [.zM] λ(x:yH)=>.zF U6 (.ret x))else bif r.ver != 0 then .zF bX (.zG 71 [⟨.int,(151:Int)⟩,⟨.int,(0:Int)⟩] [.zM] λ(x:yH)=>.zF U6 (.ret x))else .stop (rg f19 9) (mkS 132 [(2,.ptr 0 0),(3,.ptr 1 0),(4,.ptr 2 0),(6,.ptr 3 0)] [(0,.box (dC d)),(1,.box (rC r)),(2,.box [i64 0,i64 0,i64 0,i64 0,nS]),(3,.box [.d (.v (.bool false)),.d (.v (.bool true)),.d (.v (.bool false)),.d (.v (.bool false)),.d (.v (.bool true))])] 4)):=by kernel_rfl
theorem RA (d:yA)(r:yT):@Eq (Out (bc [.zM])) (bh prog codes sigs f19 (aS [.zM]) 0 ⟨[9],false⟩ 300 true (rg f19 7) (C19 d r ⟨false,true,false,false,false⟩)) (bif decide ((r.zU.length:Int)>0)then .zF bX (.zG 71 [⟨.int,(151:Int)⟩,⟨.int,(0:Int)⟩] [.zM] λ(x:yH)=>.zF U6 (.ret x))else bif r.b != 0 then .zF bX (.zG 71 [⟨.int,(151:Int)⟩,⟨.int,(0:Int)⟩] [.zM] λ(x:yH)=>.zF U6 (.ret x))else bif r.ver != 0 then .zF bX (.zG 71 [⟨.int,(151:Int)⟩,⟨.int,(0:Int)⟩] [.zM] λ(x:yH)=>.zF U6 (.ret x))else bif r.zS != 0 then .zF bX (.zG 71 [⟨.int,(151:Int)⟩,⟨.int,(0:Int)⟩] [.zM] λ(x:yH)=>.zF U6 (.ret x))else .stop (rg f19 9) (mkS 132 [(2,.ptr 0 0),(3,.ptr 1 0),(4,.ptr 2 0),(6,.ptr 3 0)] [(0,.box (dC d)),(1,.box (rC r)),(2,.box [i64 0,i64 0,i64 0,i64 0,nS]),(3,.box [.d (.v (.bool false)),.d (.v (.bool true)),.d (.v (.bool false)),.d (.v (.bool false)),.d (.v (.bool false))])] 4)):=by kernel_rfl
theorem Rz (d:yA)(r:yT):@Eq (Out (bc [.zM])) (bh prog codes sigs f19 (aS [.zM]) 0 ⟨[9],false⟩ 300 true (rg f19 7) (C19 d r ⟨false,true,false,true,false⟩)) (bif decide ((r.zU.length:Int)>0)then .zF bX (.zG 71 [⟨.int,(151:Int)⟩,⟨.int,(0:Int)⟩] [.zM] λ(x:yH)=>.zF U6 (.ret x))else bif r.b != 0 then .zF bX (.zG 71 [⟨.int,(151:Int)⟩,⟨.int,(0:Int)⟩] [.zM] λ(x:yH)=>.zF U6 (.ret x))else bif r.zS != 0 then .zF bX (.zG 71 [⟨.int,(151:Int)⟩,⟨.int,(0:Int)⟩] [.zM] λ(x:yH)=>.zF U6 (.ret x))else .stop (rg f19 9) (mkS 132 [(2,.ptr 0 0),(3,.ptr 1 0),(4,.ptr 2 0),(6,.ptr 3 0)] [(0,.box (dC d)),(1,.box (rC r)),(2,.box [i64 0,i64 0,i64 0,i64 0,nS]),(3,.box [.d (.v (.bool false)),.d (.v (.bool true)),.d (.v (.bool false)),.d (.v (.bool true)),.d (.v (.bool false))])] 4)):=by kernel_rfl
theorem Ry (d:yA)(r:yT):@Eq (Out (bc [.zM])) (bh prog codes sigs f19 (aS [.zM]) 0 ⟨[9],false⟩ 300 true (rg f19 7) (C19 d r ⟨false,false,false,false,false⟩)) (bif decide ((r.zU.length:Int)>0)then .zF bX (.zG 71 [⟨.int,(151:Int)⟩,⟨.int,(0:Int)⟩] [.zM] λ(x:yH)=>.zF U6 (.ret x))else bif r.a != 0 then .zF bX (.zG 71 [⟨.int,(151:Int)⟩,⟨.int,(0:Int)⟩] [.zM] λ(x:yH)=>.zF U6 (.ret x))else bif r.b != 0 then .zF bX (.zG 71 [⟨.int,(151:Int)⟩,⟨.int,(0:Int)⟩] [.zM] λ(x:yH)=>.zF U6 (.ret x))else bif r.ver != 0 then .zF bX (.zG 71 [⟨.int,(151:Int)⟩,⟨.int,(0:Int)⟩] [.zM] λ(x:yH)=>.zF U6 (.ret x))else bif r.zS != 0 then .zF bX (.zG 71 [⟨.int,(151:Int)⟩,⟨.int,(0:Int)⟩] [.zM] λ(x:yH)=>.zF U6 (.ret x))else .stop (rg f19 9) (mkS 132 [(2,.ptr 0 0),(3,.ptr 1 0),(4,.ptr 2 0),(6,.ptr 3 0)] [(0,.box (dC d)),(1,.box (rC r)),(2,.box [i64 0,i64 0,i64 0,i64 0,nS]),(3,.box [.d (.v (.bool false)),.d (.v (.bool false)),.d (.v (.bool false)),.d (.v (.bool false)),.d (.v (.bool false))])] 4)):=by kernel_rfl
theorem c70 (d:yA):yJ prog 70 [⟨.zI,d⟩] [.int] (df d):=ofT func70 (t70 d) (by kernel_rfl) (by kernel_rfl) λ _=>⟨⟨Zn.T5',tv⟩,_,Zn.c46 d,T2',rfl⟩
theorem fl_b (k:Int):(flS k).b=true->(k==7)=false:=by
 intro h
 cases h7:k==7 with
 | false=>rfl
 | true =>
   have:k=7:=by simpa using h7
   subst this
   exact absurd h (by decide)
theorem Ow {r:yT}(h0:0<=r.zS)(hv:r.zS<18446744073709551616)(f:yB){A2:List Item->AS->Prop}{y:yH}(hy:CN r f=y)(hA2:yP prog codes sigs f19 (aS [.zM]) (λ x=>x=y) 0 A2):A2 (rg f19 18) (E19 r f):=by
 refine hA2.go (t19e r f) ?_
 unfold CN at hy
 refine ae (λ h=>?_) (λ h=>?_)
 ·rw[h]at hy
  refine ae (λ h2=>?_) (λ h2=>?_)
  ·rw[h2]at hy;exact⟨⟨T2',T2',tv⟩,_,c71 1 0,T6',hy⟩
  ·rw[h2]at hy
   refine ae (λ h3=>?_) (λ h3=>?_)
   ·rw[h3]at hy;exact⟨⟨T7',tv⟩,_,c16 h0 hv,⟨T2',T2',tv⟩,_,c71 _ 0,T6',hy⟩
   ·rw[h3]at hy;exact⟨T6',hy⟩
 ·rw[h]at hy
  refine ae (λ h3=>?_) (λ h3=>?_)
  ·rw[h3]at hy;exact⟨⟨T7',tv⟩,_,c16 h0 hv,⟨T2',T2',tv⟩,_,c71 _ 0,T6',hy⟩
  ·rw[h3]at hy;exact⟨T6',hy⟩
theorem Oq {d:yA}{r:yT}(h0:0<=r.zS)(hv:r.zS<18446744073709551616)(f:yB)(hb7:f.b=true->(r.kind==7)=false){A2:List Item->AS->Prop}{y:yH}(hy:fm d r f=y)(hA2:yP prog codes sigs f19 (aS [.zM]) (λ x=>x=y) 0 A2)
  (w:Int) (hw:w=fc r):A2 (rg f19 14) (D19 d r f w):=by
 have kb:(f.a&&(eG d r.a != fc r))=false->A2 (rg f19 16) (C19 d r f):=by
  intro ha
  rw[fm,ha]at hy
  refine hA2.go (t19d d r f) (ae (λ h=>?_) (λ h=>?_))
  ·rw[h]at hy
   have hk:fc r=1:=by unfold fc;rw[hb7 h];rfl
   rw[hk]at hy
   refine⟨⟨Zn.T5',T2',tv⟩,_,c74 d r.b,ae (λ h2=>?_) (λ h2=>?_)⟩
   ·rw[h2]at hy;exact⟨⟨T2',T2',tv⟩,_,c71 3 r.b,T6',hy⟩
   ·rw[h2]at hy;exact Ow h0 hv f hy hA2
  ·rw[h]at hy;exact Ow h0 hv f hy hA2
 refine hA2.go (t19c d r f w) (ae (λ h=>?_) (λ h=>?_))
 ·refine⟨⟨Zn.T5',T2',tv⟩,_,c74 d r.a,ae (λ h2=>?_) (λ h2=>?_)⟩
  ·rw[fm,h,<-hw,h2]at hy;exact⟨⟨T2',T2',tv⟩,_,c71 3 r.a,T6',hy⟩
  ·exact kb (by rw[h,<-hw,h2];rfl)
 ·exact kb (by rw[h];rfl)
theorem GC {d:yA}{r:yT}(h0:0<=r.zS)(hv:r.zS<18446744073709551616)(f:yB)(hb7:f.b=true->(r.kind==7)=false){A2:List Item->AS->Prop}{y:yH}(hy:(bif f.zU then fZ d r.zU else fm d r f)=y)(hA2:yP prog codes sigs f19 (aS [.zM]) (λ x=>x=y) 0 A2):A2 (rg f19 9) (C19 d r f):=by
 refine hA2.go (t19b d r f) (ae (λ h=>?_) (λ h=>?_))
 ·rw[h]at hy;exact⟨⟨Zn.T5',T2',tv⟩,_,c73 d r.zU,T6',hy⟩
 ·rw[h]at hy
  exact ae (λ h7=>Oq h0 hv f hb7 hy hA2 2 (by unfold fc;rw[h7];rfl)) (λ h7=>Oq h0 hv f hb7 hy hA2 1 (by unfold fc;rw[h7];rfl))
def PL:List yB:=[⟨true,false,false,false,false⟩,⟨false,true,true,false,true⟩,⟨false,true,false,false,true⟩,⟨false,true,false,false,false⟩,⟨false,true,false,true,false⟩,⟨false,false,false,false,false⟩]
theorem Qe (k:Int):flS k∈PL:=by
 unfold flS
 generalize (k==1)=b1
 generalize (k==2)=b2
 generalize (k==4)=b4
 generalize (k==5)=b5
 generalize (k==6)=b6
 generalize (k==7)=b7
 generalize (k==9)=b9
 generalize (k==10)=b10
 revert b1 b2 b4 b5 b6 b7 b9 b10
 decide
theorem yX {g f:yB}(h:g.zU=true)(h2:f.zU=false):dy g f=false:=by
 unfold dy;rw[h,h2];simp
theorem w_a {g f:yB}(h:g.a=true)(h2:f.a=false):dy g f=false:=by
 unfold dy;rw[h,h2];simp
theorem w_b {g f:yB}(h:g.b=true)(h2:f.b=false):dy g f=false:=by
 unfold dy;rw[h,h2];simp
theorem yW {g f:yB}(h:g.ver=true)(h2:f.ver=false):dy g f=false:=by
 unfold dy;rw[h,h2];simp
theorem Di {g f:yB}(h:g.zS=true)(h2:f.zS=false):dy g f=false:=by
 unfold dy;rw[h,h2];simp
theorem w_t {g f:yB}(h1:g.zU=false\/f.zU=true)(h2:g.a=false\/f.a=true)(h3:g.b=false\/f.b=true)(h4:g.ver=false\/f.ver=true)(h5:g.zS=false\/f.zS=true):dy g f=true:=by
 unfold dy
 rcases h1 with h|h<;>rw[h]<;>rcases h2 with h|h<;>rw[h]<;>rcases h3 with h|h<;>rw[h]<;>rcases h4 with h|h<;>rw[h]<;>rcases h5 with h|h<;>rw[h]<;>simp
theorem sev0 {d:yA}{r:yT}(h0:0<=r.zS)(hv:r.zS<18446744073709551616)(hb7:(⟨true,false,false,false,false⟩:yB).b=true->(r.kind==7)=false){A2:List Item->AS->Prop}{y:yH}(hy:(bif !dy (fQ r) ⟨true,false,false,false,false⟩then eX 151 0 else bif (⟨true,false,false,false,false⟩:yB).zU then fZ d r.zU else fm d r ⟨true,false,false,false,false⟩)=y)(hA2:yP prog codes sigs f19 (aS [.zM]) (λ x=>x=y) 0 A2):A2 (rg f19 7) (C19 d r ⟨true,false,false,false,false⟩):=by
 refine hA2.go (RD d r) ?_
 refine ae (λ h=>?_) (λ h_a=>?_)
 ·rw[w_a (g:=fQ r) h rfl]at hy;exact⟨⟨T2',T2',tv⟩,_,c71 151 0,T6',hy⟩
 refine ae (λ h=>?_) (λ h_b=>?_)
 ·rw[w_b (g:=fQ r) h rfl]at hy;exact⟨⟨T2',T2',tv⟩,_,c71 151 0,T6',hy⟩
 refine ae (λ h=>?_) (λ h_ver=>?_)
 ·rw[yW (g:=fQ r) h rfl]at hy;exact⟨⟨T2',T2',tv⟩,_,c71 151 0,T6',hy⟩
 refine ae (λ h=>?_) (λ h_vol=>?_)
 ·rw[Di (g:=fQ r) h rfl]at hy;exact⟨⟨T2',T2',tv⟩,_,c71 151 0,T6',hy⟩
 rw[w_t (g:=fQ r) (.inr rfl) (.inl h_a) (.inl h_b) (.inl h_ver) (.inl h_vol)]at hy
 exact GC h0 hv _ hb7 hy hA2
theorem sev1 {d:yA}{r:yT}(h0:0<=r.zS)(hv:r.zS<18446744073709551616)(hb7:(⟨false,true,true,false,true⟩:yB).b=true->(r.kind==7)=false){A2:List Item->AS->Prop}{y:yH}(hy:(bif !dy (fQ r) ⟨false,true,true,false,true⟩then eX 151 0 else bif (⟨false,true,true,false,true⟩:yB).zU then fZ d r.zU else fm d r ⟨false,true,true,false,true⟩)=y)(hA2:yP prog codes sigs f19 (aS [.zM]) (λ x=>x=y) 0 A2):A2 (rg f19 7) (C19 d r ⟨false,true,true,false,true⟩):=by
 refine hA2.go (RC d r) ?_
 refine ae (λ h=>?_) (λ h_ids=>?_)
 ·rw[yX (g:=fQ r) h rfl]at hy;exact⟨⟨T2',T2',tv⟩,_,c71 151 0,T6',hy⟩
 refine ae (λ h=>?_) (λ h_ver=>?_)
 ·rw[yW (g:=fQ r) h rfl]at hy;exact⟨⟨T2',T2',tv⟩,_,c71 151 0,T6',hy⟩
 rw[w_t (g:=fQ r) (.inl h_ids) (.inr rfl) (.inr rfl) (.inl h_ver) (.inr rfl)]at hy
 exact GC h0 hv _ hb7 hy hA2
theorem sev2 {d:yA}{r:yT}(h0:0<=r.zS)(hv:r.zS<18446744073709551616)(hb7:(⟨false,true,false,false,true⟩:yB).b=true->(r.kind==7)=false){A2:List Item->AS->Prop}{y:yH}(hy:(bif !dy (fQ r) ⟨false,true,false,false,true⟩then eX 151 0 else bif (⟨false,true,false,false,true⟩:yB).zU then fZ d r.zU else fm d r ⟨false,true,false,false,true⟩)=y)(hA2:yP prog codes sigs f19 (aS [.zM]) (λ x=>x=y) 0 A2):A2 (rg f19 7) (C19 d r ⟨false,true,false,false,true⟩):=by
 refine hA2.go (RB d r) ?_
 refine ae (λ h=>?_) (λ h_ids=>?_)
 ·rw[yX (g:=fQ r) h rfl]at hy;exact⟨⟨T2',T2',tv⟩,_,c71 151 0,T6',hy⟩
 refine ae (λ h=>?_) (λ h_b=>?_)
 ·rw[w_b (g:=fQ r) h rfl]at hy;exact⟨⟨T2',T2',tv⟩,_,c71 151 0,T6',hy⟩
 refine ae (λ h=>?_) (λ h_ver=>?_)
 ·rw[yW (g:=fQ r) h rfl]at hy;exact⟨⟨T2',T2',tv⟩,_,c71 151 0,T6',hy⟩
 rw[w_t (g:=fQ r) (.inl h_ids) (.inr rfl) (.inl h_b) (.inl h_ver) (.inr rfl)]at hy
 exact GC h0 hv _ hb7 hy hA2
theorem sev3 {d:yA}{r:yT}(h0:0<=r.zS)(hv:r.zS<18446744073709551616)(hb7:(⟨false,true,false,false,false⟩:yB).b=true->(r.kind==7)=false){A2:List Item->AS->Prop}{y:yH}(hy:(bif !dy (fQ r) ⟨false,true,false,false,false⟩then eX 151 0 else bif (⟨false,true,false,false,false⟩:yB).zU then fZ d r.zU else fm d r ⟨false,true,false,false,false⟩)=y)(hA2:yP prog codes sigs f19 (aS [.zM]) (λ x=>x=y) 0 A2):A2 (rg f19 7) (C19 d r ⟨false,true,false,false,false⟩):=by
 refine hA2.go (RA d r) ?_
 refine ae (λ h=>?_) (λ h_ids=>?_)
 ·rw[yX (g:=fQ r) h rfl]at hy;exact⟨⟨T2',T2',tv⟩,_,c71 151 0,T6',hy⟩
 refine ae (λ h=>?_) (λ h_b=>?_)
 ·rw[w_b (g:=fQ r) h rfl]at hy;exact⟨⟨T2',T2',tv⟩,_,c71 151 0,T6',hy⟩
 refine ae (λ h=>?_) (λ h_ver=>?_)
 ·rw[yW (g:=fQ r) h rfl]at hy;exact⟨⟨T2',T2',tv⟩,_,c71 151 0,T6',hy⟩
 refine ae (λ h=>?_) (λ h_vol=>?_)
 ·rw[Di (g:=fQ r) h rfl]at hy;exact⟨⟨T2',T2',tv⟩,_,c71 151 0,T6',hy⟩
 rw[w_t (g:=fQ r) (.inl h_ids) (.inr rfl) (.inl h_b) (.inl h_ver) (.inl h_vol)]at hy
 exact GC h0 hv _ hb7 hy hA2
theorem sev4 {d:yA}{r:yT}(h0:0<=r.zS)(hv:r.zS<18446744073709551616)(hb7:(⟨false,true,false,true,false⟩:yB).b=true->(r.kind==7)=false){A2:List Item->AS->Prop}{y:yH}(hy:(bif !dy (fQ r) ⟨false,true,false,true,false⟩then eX 151 0 else bif (⟨false,true,false,true,false⟩:yB).zU then fZ d r.zU else fm d r ⟨false,true,false,true,false⟩)=y)(hA2:yP prog codes sigs f19 (aS [.zM]) (λ x=>x=y) 0 A2):A2 (rg f19 7) (C19 d r ⟨false,true,false,true,false⟩):=by
 refine hA2.go (Rz d r) ?_
 refine ae (λ h=>?_) (λ h_ids=>?_)
 ·rw[yX (g:=fQ r) h rfl]at hy;exact⟨⟨T2',T2',tv⟩,_,c71 151 0,T6',hy⟩
 refine ae (λ h=>?_) (λ h_b=>?_)
 ·rw[w_b (g:=fQ r) h rfl]at hy;exact⟨⟨T2',T2',tv⟩,_,c71 151 0,T6',hy⟩
 refine ae (λ h=>?_) (λ h_vol=>?_)
 ·rw[Di (g:=fQ r) h rfl]at hy;exact⟨⟨T2',T2',tv⟩,_,c71 151 0,T6',hy⟩
 rw[w_t (g:=fQ r) (.inl h_ids) (.inr rfl) (.inl h_b) (.inr rfl) (.inl h_vol)]at hy
 exact GC h0 hv _ hb7 hy hA2
theorem sev5 {d:yA}{r:yT}(h0:0<=r.zS)(hv:r.zS<18446744073709551616)(hb7:(⟨false,false,false,false,false⟩:yB).b=true->(r.kind==7)=false){A2:List Item->AS->Prop}{y:yH}(hy:(bif !dy (fQ r) ⟨false,false,false,false,false⟩then eX 151 0 else bif (⟨false,false,false,false,false⟩:yB).zU then fZ d r.zU else fm d r ⟨false,false,false,false,false⟩)=y)(hA2:yP prog codes sigs f19 (aS [.zM]) (λ x=>x=y) 0 A2):A2 (rg f19 7) (C19 d r ⟨false,false,false,false,false⟩):=by
 refine hA2.go (Ry d r) ?_
 refine ae (λ h=>?_) (λ h_ids=>?_)
 ·rw[yX (g:=fQ r) h rfl]at hy;exact⟨⟨T2',T2',tv⟩,_,c71 151 0,T6',hy⟩
 refine ae (λ h=>?_) (λ h_a=>?_)
 ·rw[w_a (g:=fQ r) h rfl]at hy;exact⟨⟨T2',T2',tv⟩,_,c71 151 0,T6',hy⟩
 refine ae (λ h=>?_) (λ h_b=>?_)
 ·rw[w_b (g:=fQ r) h rfl]at hy;exact⟨⟨T2',T2',tv⟩,_,c71 151 0,T6',hy⟩
 refine ae (λ h=>?_) (λ h_ver=>?_)
 ·rw[yW (g:=fQ r) h rfl]at hy;exact⟨⟨T2',T2',tv⟩,_,c71 151 0,T6',hy⟩
 refine ae (λ h=>?_) (λ h_vol=>?_)
 ·rw[Di (g:=fQ r) h rfl]at hy;exact⟨⟨T2',T2',tv⟩,_,c71 151 0,T6',hy⟩
 rw[w_t (g:=fQ r) (.inl h_ids) (.inl h_a) (.inl h_b) (.inl h_ver) (.inl h_vol)]at hy
 exact GC h0 hv _ hb7 hy hA2
theorem Sr {d:yA}{r:yT}(h0:0<=r.zS)(hv:r.zS<18446744073709551616){f:yB}(hf:f∈PL)(hb7:f.b=true->(r.kind==7)=false){A2:List Item->AS->Prop}{y:yH}(hy:(bif !dy (fQ r) f then eX 151 0 else bif f.zU then fZ d r.zU else fm d r f)=y)(hA2:yP prog codes sigs f19 (aS [.zM]) (λ x=>x=y) 0 A2):A2 (rg f19 7) (C19 d r f):=by
 simp only[PL,aB,jw,ml]at hf
 rcases hf with rfl|rfl|rfl|rfl|rfl|rfl
 ·exact sev0 h0 hv hb7 hy hA2
 ·exact sev1 h0 hv hb7 hy hA2
 ·exact sev2 h0 hv hb7 hy hA2
 ·exact sev3 h0 hv hb7 hy hA2
 ·exact sev4 h0 hv hb7 hy hA2
 ·exact sev5 h0 hv hb7 hy hA2
theorem c19 {d:yA}{r:yT}(h0:0<=r.zS)(hv:r.zS<18446744073709551616):yJ prog 19 [⟨.zI,d⟩,⟨.req,r⟩] [.zM] (bS d r):=
 pcl codes sigs func19 (by kernel_rfl) λ A hA=>hA.go (t19 d r) (by
  have hy:∃ y,bS d r=y:=⟨_,rfl⟩
  obtain⟨y,hy⟩:=hy
  rw[hy]at hA ⊢
  unfold bS at hy
  refine⟨⟨Zn.T5',tv⟩,_,c70 d,ae (λ h=>?_) (λ h=>?_)⟩
  ·rw[h]at hy;exact⟨⟨T2',T2',tv⟩,_,c71 _ 0,T6',hy⟩
  rw[h]at hy
  refine ae (λ h1=>?_) (λ h1=>?_)
  ·rw[h1]at hy;exact⟨⟨T2',T2',tv⟩,_,c71 150 0,T6',hy⟩
  rw[h1]at hy
  refine ae (λ h2=>?_) (λ h2=>?_)
  ·rw[h2]at hy;exact⟨⟨T2',T2',tv⟩,_,c71 150 0,T6',hy⟩
  rw[h2]at hy
  exact⟨⟨T2',tv⟩,_,c72 _,Sr h0 hv (Qe r.kind) (fl_b r.kind) hy hA⟩)
theorem Gs (d:yA)(a b:Int):jP (lr d a b).1:=by
 unfold lr
 cases (cc d [a,b]).2 != 0
 ·exact tQ _ _
 ·exact .nil
theorem Cd (d:yA)(l:List Int):jP (fX d l).1:=by
 unfold fX
 cases (cc d l).2 != 0
 ·exact pa _ _
 ·exact .nil
theorem tf (d:yA)(a b:Int):(lr d a b).1.length<=24:=by
 unfold lr
 cases h:(cc d [a,b]).2 != 0
 ·have h0:(cc d [a,b]).2=0:=by simpa using h
  obtain⟨g1,g2,g3⟩:=jK h0
  obtain⟨x,y,e⟩:=pu g3
  rw[e]at g2 ⊢
  exact oo (jc h0) (wL (g2 x (by simp)) (g2 y (by simp)))
 ·simp
theorem qC (d:yA)(a:Int):(fX d [a]).1.length<=24:=by
 unfold fX
 cases h:(cc d [a]).2 != 0
 ·have h0:(cc d [a]).2=0:=by simpa using h
  obtain⟨g1,g2,g3⟩:=jK h0
  have:=qA (jc h0) (l:=(cc d [a]).1) g2 []
  have h3:(cc d [a]).1.length=1:=g3
  rw[h3]at this
  exact this
 ·simp
theorem CO {l:List Int}(hl:jP l)(a b:Int):cP l (cV [a,b])=fJ (fJ l a) b:=by
 refine ky (iq hl) (nu (nu hl)) λ n=>?_
 rw[jj,mz,lx,lx]
 simp only[aB,jw,ml]
 constructor
 ·rintro(h|h|h)
  ·exact .inr (.inr h)
  ·exact .inr (.inl h)
  ·exact .inl h
 ·rintro(h|h|h)
  ·exact .inr (.inr h)
  ·exact .inr (.inl h)
  ·exact .inl h
theorem Jc (a:Int):jP [a]:=nu (l:=[]) .nil
def lw (d:yA)(r:yT):List Int:=bif r.kind==2 then cV r.zU else bif r.kind==4 then fJ (fJ (lr d r.a r.b).1 r.a) r.b else bif r.kind==5 then fJ (fX d [r.a]).1 r.a else bif r.kind==6 then fJ (fX d [r.a]).1 r.a else bif r.kind==7 then fJ (fX d [r.a]).1 r.a else[]
def gp (d:yA)(r:yT):List Int:=bif (bS d r).err != 0 then[]else lw d r
def ij (d:yA)(r:yT)(o:List Int)(h:Int):List Int:=bif (bS d r).err != 0 then[]else bif r.kind==1 then cV r.zU else bif r.kind==3 then cV o else bif r.kind==8 then(bif decide (h<0)then[]else[h])else bif r.kind==9 then[r.a]else bif r.kind==10 then[r.a]else lw d r
theorem c75 {d:yA}{r:yT}(h0:0<=r.zS)(hv:r.zS<18446744073709551616):yJ prog 75 [⟨.zI,d⟩,⟨.req,r⟩] [.bool] ((bS d r).err==0):=ofT func75 (t75 d r) (by kernel_rfl) (by kernel_rfl) λ _=>⟨⟨Zn.T5',T7',tv⟩,_,c18 h0 hv,T2',rfl⟩
theorem HI {l:List Int}(hl:jP l)(a:Int):cX true true true l [a]=fJ l a:=kj hl (Jc a)
theorem HH {l:List Int}(hl:jP l)(a b:Int):cX true true true l (cV [a,b])=fJ (fJ l a) b:=by rw[kj hl (kx _),CO hl]
theorem c76 {d:yA}{r:yT}(hl:r.zU.length<=1000):yJ prog 76 [⟨.zI,d⟩,⟨.req,r⟩] [.sl .int] (lw d r):=
 ofT func76 (t76 d r) (by kernel_rfl) (by kernel_rfl) λ _=>by
  unfold lw
  have l1:=tf d r.a r.b
  have l2:=qC d r.a
  have k (y:List Int) (hy:y=fJ (fX d [r.a]).1 r.a):yJ prog 134 [⟨.sl .int,(fX d [r.a]).1⟩,⟨.sl .int,[r.a]⟩] [.sl .int] y:=hy ▸ (ym (a:=(fX d [r.a]).1) (b:=[r.a]) (by omega) (by simp)).eq (HI (Cd d [r.a]) r.a)
  refine ae (λ h=>?_) (λ h=>?_)
  ·rw[h];exact⟨⟨T2',tv⟩,_,CX (by omega),T2',rfl⟩
  rw[h,cF]
  refine ae (λ h=>?_) (λ h=>?_)
  ·rw[h];exact⟨⟨Zn.T5',T2',T2',tv⟩,_,c53 d r.a r.b,⟨T2',T2',tv⟩,⟨T2',tv⟩,_,CX (by simp),⟨T2',T2',tv⟩,_,(ym (by omega) (by have:=jo (a:=[]) (b:=[r.a,r.b]);simp only[af,ak]at this;show(cP [] [r.a,r.b]).length<=400000;omega)).eq (HH (Gs d r.a r.b) r.a r.b),T2',rfl⟩
  rw[h,cF]
  refine ae (λ h=>?_) (λ h=>?_)
  ·refine dl h ?_
   rw[h];exact⟨⟨T2',tv⟩,⟨Zn.T5',T2',tv⟩,_,c48 (by simp),⟨T2',tv⟩,⟨T2',T2',tv⟩,_,k _ rfl,T2',rfl⟩
  rw[h,cF]
  refine ae (λ h=>?_) (λ h=>?_)
  ·refine dl h ?_
   rw[h];exact⟨⟨T2',tv⟩,⟨Zn.T5',T2',tv⟩,_,c48 (by simp),⟨T2',tv⟩,⟨T2',T2',tv⟩,_,k _ rfl,T2',rfl⟩
  rw[h,cF]
  refine ae (λ h=>?_) (λ h=>?_)
  ·rw[h];exact⟨⟨T2',tv⟩,⟨Zn.T5',T2',tv⟩,_,c48 (by simp),⟨T2',tv⟩,⟨T2',T2',tv⟩,_,k _ rfl,T2',rfl⟩
  ·rw[h];exact⟨T2',rfl⟩
theorem c21 {d:yA}{r:yT}(h0:0<=r.zS)(hv:r.zS<18446744073709551616)(hl:r.zU.length<=1000):yJ prog 21 [⟨.zI,d⟩,⟨.req,r⟩] [.sl .int] (gp d r):=
 ofT func21 (t21 d r) (by kernel_rfl) (by kernel_rfl) λ _=>by
  refine⟨⟨Zn.T5',T7',tv⟩,_,c75 h0 hv,?_⟩
  unfold gp
  refine ae (λ h=>?_) (λ h=>?_)
  ·have h:((bS d r).err != 0)=true:=h
   rw[h];exact⟨T2',rfl⟩
  ·have h:((bS d r).err != 0)=false:=h
   rw[h];exact⟨⟨Zn.T5',T7',tv⟩,_,c76 hl,T2',rfl⟩
theorem c22 {d:yA}{r:yT}(h0:0<=r.zS)(hv:r.zS<18446744073709551616)(hl:r.zU.length<=1000):yJ prog 22 [⟨.zI,d⟩,⟨.req,r⟩] [.sl .int] (gp d r):=
 ofT func22 (t22 d r) (by kernel_rfl) (by kernel_rfl) λ _=>by
  refine⟨⟨Zn.T5',T7',tv⟩,_,c19 h0 hv,?_⟩
  unfold gp
  have l1:=tf d r.a r.b
  have l2:=qC d r.a
  refine ae (λ h=>?_) (λ h=>?_)
  ·rw[h];exact⟨T2',rfl⟩
  rw[h,cF]
  unfold lw
  refine ae (λ h=>?_) (λ h=>?_)
  ·rw[h];exact⟨⟨T2',tv⟩,_,c77 (by omega),T2',rfl⟩
  rw[h,cF]
  refine ae (λ h=>?_) (λ h=>?_)
  ·rw[h];exact⟨⟨Zn.T5',T2',T2',tv⟩,_,c54 d r.a r.b,⟨T2',T2',tv⟩,_,CY (by omega),⟨T2',T2',tv⟩,_,CY (by have:=lq (l:=(lr d r.a r.b).1) (n:=r.a);omega),T2',rfl⟩
  rw[h,cF]
  refine ae (λ h=>?_) (λ h=>?_)
  ·refine dl h ?_
   rw[h];exact⟨⟨T2',tv⟩,⟨Zn.T5',T2',tv⟩,_,c49 (by simp),⟨T2',T2',tv⟩,_,CY (by omega),T2',rfl⟩
  rw[h,cF]
  refine ae (λ h=>?_) (λ h=>?_)
  ·refine dl h ?_
   rw[h];exact⟨⟨T2',tv⟩,⟨Zn.T5',T2',tv⟩,_,c49 (by simp),⟨T2',T2',tv⟩,_,CY (by omega),T2',rfl⟩
  rw[h,cF]
  refine ae (λ h=>?_) (λ h=>?_)
  ·rw[h];exact⟨⟨T2',tv⟩,⟨Zn.T5',T2',tv⟩,_,c49 (by simp),⟨T2',T2',tv⟩,_,CY (by omega),T2',rfl⟩
  ·rw[h];exact⟨T2',rfl⟩
theorem MR {d:yA}{r:yT}(h:((bS d r).err != 0)=false):gp d r=lw d r:=by unfold gp;rw[h];rfl
theorem c24 {d:yA}{r:yT}{o:List Int}{g:Int}(h0:0<=r.zS)(hv:r.zS<18446744073709551616)(hl:r.zU.length<=1000)(ho:o.length<=1000):yJ prog 24 [⟨.zI,d⟩,⟨.req,r⟩,⟨.sl .int,o⟩,⟨.int,g⟩] [.sl .int] (ij d r o g):=
 ofT func24 (t24 d r o g) (by kernel_rfl) (by kernel_rfl) λ _=>by
  refine⟨⟨Zn.T5',T7',tv⟩,_,c19 h0 hv,?_⟩
  unfold ij
  refine ae (λ h=>?_) (λ h=>?_)
  ·have h:((bS d r).err != 0)=true:=h
   rw[h];exact⟨T2',rfl⟩
  have he:((bS d r).err != 0)=false:=h
  rw[he,cF]
  refine ae (λ h=>?_) (λ h=>?_)
  ·rw[h];exact⟨⟨T2',tv⟩,_,c77 (by omega),T2',rfl⟩
  rw[h,cF]
  refine ae (λ h=>?_) (λ h=>?_)
  ·rw[h];exact⟨⟨T2',tv⟩,_,c77 (by omega),T2',rfl⟩
  rw[h,cF]
  refine ae (λ h=>?_) (λ h=>?_)
  ·rw[h,cT]
   refine ae (λ h=>?_) (λ h=>?_)
   ·rw[h];exact⟨T2',rfl⟩
   ·rw[h];exact⟨⟨T2',tv⟩,T2',rfl⟩
  rw[h,cF]
  refine ae (λ h=>?_) (λ h=>?_)
  ·refine dl h ?_
   rw[h];exact⟨⟨T2',tv⟩,T2',rfl⟩
  rw[h,cF]
  refine ae (λ h=>?_) (λ h=>?_)
  ·rw[h];exact⟨⟨T2',tv⟩,T2',rfl⟩
  ·rw[h];exact⟨⟨Zn.T5',T7',tv⟩,_,(c22 h0 hv hl).eq (MR he),T2',rfl⟩
def D14:yA:=⟨[some 0,some 4621256167635550208,some 4625759767262920704],[⟨1,2,some 4621256167635550208,some 4620693217682128896,some 4602678819172646912,100,[40]⟩],[⟨1,1,some 4611686018427387904,some 0,some 0⟩],2⟩
theorem c56:yJ prog 56 [] [.zI] D14:=ofT func56 t56 (by kernel_rfl) (by kernel_rfl) λ _=>by
 refine⟨by simp,by simp,by simp,by simp,by simp,rfl⟩
theorem GH {d:yA}{r:yT}(hl:r.zU.length<=1000):(lw d r).length<=1000:=by
 unfold lw
 have l1:=tf d r.a r.b
 have l2:=qC d r.a
 have l3:=lq (l:=(lr d r.a r.b).1) (n:=r.a)
 have l4:=lq (l:=fJ (lr d r.a r.b).1 r.a) (n:=r.b)
 have l5:=lq (l:=(fX d [r.a]).1) (n:=r.a)
 have l6:=jo (a:=[]) (b:=r.zU)
 have l6:(cV r.zU).length<=0+r.zU.length:=l6
 simp only[cond_eq_ite]
 repeat' split
 all_goals first|omega|simp
theorem SG {d:yA}{r:yT}(hl:r.zU.length<=1000):(gp d r).length<=1000:=by
 unfold gp
 have:=GH (d:=d) hl
 simp only[cond_eq_ite]
 split
 ·simp
 ·exact this
end Go.Proofs.Wn
namespace Go.Proofs.Mn
open Go.Proofs.Tryz
open Go Go.VL
open Wn (dl bz)
abbrev T1:True/\True:=⟨tv,tv⟩
abbrev T3:True/\True/\True/\True:=⟨tv,tv,tv,tv⟩
def yn (a b c:Int):Int:=bif decide (a<b)then b else bif decide (a>c)then c else a
theorem CV (a b c:Int):yJ prog 159 [⟨.int,a⟩,⟨.int,b⟩,⟨.int,c⟩] [.int] (yn a b c):=
 ofT func159 (t159 a b c) (by kernel_rfl) (by kernel_rfl) λ _=>by
  unfold yn
  cases decide (a<b)<;>cases decide (a>c)<;>exact⟨T1,rfl⟩
def pp (a:Int):Bool:=bif decide (a>=1)then decide (a<=8)else false
theorem c225 (a:Int):yJ prog 225 [⟨.int,a⟩] [.bool] (pp a):=
 ofT func225 (t225 a) (by kernel_rfl) (by kernel_rfl) λ _=>by
  unfold pp
  cases decide (a>=1)<;>exact⟨T1,rfl⟩
theorem Tc (a:Int):yJ prog 265 [⟨.int,a⟩] [.bool] (pp a):=
 ofT func265 (t265 a) (by kernel_rfl) (by kernel_rfl) λ _=>by
  unfold pp
  cases decide (a>=1)<;>exact⟨T1,rfl⟩
def mO (a b:Int):Bool:=bif decide (a>=1)then bif decide (a<=8)then bif b != 0 then bif decide (b >= -1099511627776)then decide (b<=1099511627776)else false else false else false else false
theorem Td (a b:Int):yJ prog 263 [⟨.int,a⟩,⟨.int,b⟩] [.bool] (mO a b):=
 ofT func263 (t263 a b) (by kernel_rfl) (by kernel_rfl) λ _=>by
  unfold mO
  cases decide (a>=1)<;>cases decide (a<=8)<;>cases (b != 0)<;>cases decide (b >= -1099511627776)<;>exact⟨T1,rfl⟩
theorem c224 (a b:Int):yJ prog 224 [⟨.int,a⟩,⟨.int,b⟩] [.bool] (mO a b):=
 ofT func224 (t224 a b) (by kernel_rfl) (by kernel_rfl) λ _=>by
  unfold mO
  cases decide (a>=1)<;>cases decide (a<=8)<;>cases (b != 0)<;>cases decide (b >= -1099511627776)<;>exact⟨T1,rfl⟩
def gl (t:Tip):Bool:=bif t.state==2 then pp t.by' else bif t.state==1 then t.by'==0 else bif t.state==3 then t.by'==0 else false
theorem Qs (t:Tip):yJ prog 221 [⟨.zV,t⟩] [.bool] (gl t):=
 ofT func221 (t221 t) (by kernel_rfl) (by kernel_rfl) λ _=>by
  unfold gl
  refine ae (λ h=>?_) (λ h=>?_)
  ·rw[h];exact⟨⟨T1,tv⟩,_,Tc _,T1,rfl⟩
  rw[h]
  refine ae (λ h=>?_) (λ h=>?_)
  ·refine dl h ?_
   rw[h];exact⟨T1,rfl⟩
  rw[h]
  refine ae (λ h=>?_) (λ h=>?_)
  ·rw[h];exact⟨T1,rfl⟩
  ·rw[h];exact⟨T1,rfl⟩
theorem c164 (t:Tip):yJ prog 164 [⟨.zV,t⟩] [.bool] (gl t):=
 ofT func164 (t164 t) (by kernel_rfl) (by kernel_rfl) λ _=>by
  have no:∀ (a b:Int),a≠b->(t.state==a)=true->(t.state==b)=false:=by
   intro a b hab h
   have:t.state=a:=by simpa using h
   rw[this];simpa using hab
  have arm2:(t.state==2)=true->gl t=pp t.by':=λ h=>by unfold gl;rw[h];rfl
  refine ae (λ h=>?_) (λ h=>?_)
  ·have h2:=no 1 2 (by decide) h
   have e:gl t=(t.by'==0):=by unfold gl;rw[h2,h];rfl
   refine ae (λ h0=>⟨T1,by rw[e,h0];exact rfl⟩) (λ h0=>bz h2 ⟨T1,by rw[e,h0];exact rfl⟩)
  refine ae (λ h3=>?_) (λ h3=>?_)
  ·have h2:=no 3 2 (by decide) h3
   have e:gl t=(t.by'==0):=by unfold gl;rw[h2,h,h3];rfl
   refine ae (λ h0=>⟨T1,by rw[e,h0];exact rfl⟩) (λ h0=>bz h2 ⟨T1,by rw[e,h0];exact rfl⟩)
  refine ae (λ h2=>⟨⟨T1,tv⟩,_,c225 _,T1,(arm2 h2).symm⟩) (λ h2=>⟨T1,?_⟩)
  show false=gl t
  unfold gl;rw[h2,h,h3];rfl
theorem CU (l:Log):yJ prog 261 [⟨.zW,l⟩] [.int] (l.list.length:Int):=ofT func261 (t261 l) (by kernel_rfl) (by kernel_rfl) λ _=>⟨T1,rfl⟩
def kC (l:Log):Int:=w64 (l.last-(l.list.length:Int))
theorem Qq (l:Log):yJ prog 262 [⟨.zW,l⟩] [.int] (kC l):=ofT func262 (t262 l) (by kernel_rfl) (by kernel_rfl) λ _=>⟨⟨T3,tv⟩,_,CU l,T1,rfl⟩
theorem Qu {a b:Log}(h:a.list.length<=1000000):yJ prog 155 [⟨.zW,a⟩,⟨.zW,b⟩] [.bool] (decide (a=b)):=
 ofT func155 (Mi a b) (by kernel_rfl) (by kernel_rfl) λ _=>by
  obtain⟨a1,a2,a3⟩:=a
  obtain⟨b1,b2,b3⟩:=b
  refine ae (λ h1=>?_) (λ h1=>?_)
  ·refine ae (λ h2=>?_) (λ h2=>?_)
   ·obtain rfl:a1=b1:=by simpa using h1
    obtain rfl:a2=b2:=by simpa using h2
    exact⟨⟨T1,T1,tv⟩,_,Wn.c60 h,T1,by show decide (a3=b3)=_;simp⟩
   ·have h2:¬ a2=b2:=by simpa using h2
    exact⟨T1,by show false=_;simp[h2]⟩
  ·have h1:¬ a1=b1:=by simpa using h1
   exact⟨T1,by show false=_;simp[h1]⟩
def rL (c:Cell):List Fld3:=[⟨c.cap,1,1099511627776⟩,⟨c.zS,0,c.cap⟩,⟨c.ver,0,2147483647⟩]
def QK (c:Cell)(b:Bool)(i:Int):AS:=mkS 37 [(4,ck b),(19,.d (.sl .fld (rL c))),(20,i64 3),(21,i64 i)] [] 0
def TR (l:Log)(b:Bool)(i:Int):AS:=mkS 59 [(1,.ptr 0 0),(3,ck b),(35,.d (.sl .change l.list)),(36,i64 l.list.length),(37,i64 i)] [(0,.box (lC l))] 1
def S163 (l:Log):AS:=mkS 71 [(1,.ptr 0 0)] [(0,.box [i64 l.room,i64 l.last,.d (.sl .change l.list)])] 1
def TS (l:Log)(i:Int):AS:=mkS 71 [(1,.ptr 0 0),(3,i64 i)] [(0,.box (lC l))] 1
def TQ (l:List Int)(w:Wide)(i:Int):AS:=mkS 22 [(4,.ptr 0 0),(7,.d (.sl .int l)),(8,i64 l.length),(9,i64 i)] [(0,.box [u64 w.hi,u64 w.lo])] 1
theorem NY (c:Cell)(b:Bool)(i:Int):@Eq _ (xLp prog f215 [.bool] 200 0 (QK c b i)) (bif decide (i<3)then .zF (((0:Int)<=i/\i<(↑(rL c).length:Int))/\True) (.zF gx (.zG 159 [⟨.int,(Fld3.n ((rL c).getD i.toNat Ty.fld.dflt))⟩,⟨.int,(Fld3.lo ((rL c).getD i.toNat Ty.fld.dflt))⟩,⟨.int,(Fld3.hi ((rL c).getD i.toNat Ty.fld.dflt))⟩] [.int] λ(x:Int)=>bif x != Fld3.n ((rL c).getD i.toNat Ty.fld.dflt)then .zF U2 (.ret false)else .stop (hd f215 0) (mkS 37 [(4,.d (.v (.bool b))),(19,.d (.sl .fld (rL c))),(20,i64 3),(21,i64 (w64 (i+1)))] [] 0)))else .zF U2 (.ret b)):=by kernel_rfl
theorem Rx (l:Log)(b:Bool)(i:Int):@Eq _ (xLp prog f216 [.bool] 300 0 (TR l b i)) (bif decide (i<(l.list.length:Int))then .zF (((0:Int)<=i/\i<(l.list.length:Int))/\True) (.zF V4 (.zG 262 [⟨.zW,l⟩] [.int] λ(x:Int)=>bif (l.list.getD i.toNat Ty.change.dflt).ver != w64 (w64 (x+1)+i)then bif (l.list.getD i.toNat Ty.change.dflt).ver != w64 (w64 (x+1)+i)then .zF U2 (.ret false)else .stop (hd f216 0) (mkS 59 [(1,.ptr 0 0),(3,.d (.v (.bool b))),(35,.d (.sl .change l.list)),(36,i64 (l.list.length:Int)),(37,i64 (w64 (i+1)))] [(0,.box (lC l))] 1)else .zF bX (.zG 263 [Sigma.mk .int (l.list.getD i.toNat Ty.change.dflt).by',Sigma.mk .int (l.list.getD i.toNat Ty.change.dflt).n] [.bool] λ(x:Bool)=>bif !x then .zF U2 (.ret false)else .stop (hd f216 0) (mkS 59 [(1,.ptr 0 0),(3,.d (.v (.bool b))),(35,.d (.sl .change l.list)),(36,i64 (l.list.length:Int)),(37,i64 (w64 (i+1)))] [(0,.box (lC l))] 1))))else .zF U2 (.ret b)):=by kernel_rfl
theorem RG (l:Log):@Eq (Out (bc [.bool])) (bh prog codes sigs f163 (aS [.bool]) 0 fP 300 true (rg f163 3) (S163 l)) (.stop (hd f163 0) (mkS 71 [(1,.ptr 0 0),(3,i64 0)] [(0,.box (lC l))] 1)):=by kernel_rfl
theorem Rw (l:List Int)(w:Wide)(i:Int):@Eq _ (xLp prog f223 [.int,.int] 300 0 (TQ l w i)) (bif decide (i<(l.length:Int))then .zF (((0:Int)<=i/\i<(l.length:Int))/\True) (.zF V2 (.zG 267 [⟨.int,(l.getD i.toNat Ty.int.dflt)⟩] [.wide] λ(x:Wide)=>.zF NT (.zG 266 [⟨.wide,w⟩,⟨.wide,x⟩] [.wide] λ(x:Wide)=>.stop (hd f223 0) (mkS 22 [(4,.ptr 0 0),(7,.d (.sl .int l)),(8,i64 (l.length:Int)),(9,i64 (w64 (i+1)))] [(0,.box [.d (.v (.int .u64 (Wide.hi x))),.d (.v (.int .u64 (Wide.lo x)))])] 1))))else .zF V3 (.zG 268 [⟨.wide,w⟩] [.int,.int] λ(x:Int×Int)=>.zF (U2/\U2) (.ret (x.1,x.2)))):=by kernel_rfl
def dm (c:Cell):Bool:=bif decide (c.cap>=1)then bif decide (c.cap<=1099511627776)then bif decide (c.zS>=0)then bif decide (c.zS<=c.cap)then bif decide (c.ver>=0)then decide (c.ver<=2147483647)else false else false else false else false else false
theorem c162 (c:Cell):yJ prog 162 [⟨.cell,c⟩] [.bool] (dm c):=
 ofT func162 (t162 c) (by kernel_rfl) (by kernel_rfl) λ _=>by
  unfold dm
  cases decide (c.cap>=1)<;>cases decide (c.cap<=1099511627776)<;>cases decide (c.zS>=0)<;>cases decide (c.zS<=c.cap)<;>cases decide (c.ver>=0)<;>exact⟨T1,rfl⟩
theorem Ln (n lo hi:Int):(yn n lo hi != n) = !(decide (n>=lo)&&decide (n<=hi)):=by
 unfold yn
 by_cases h1:n<lo
 ·have h2:¬ n>=lo:=by omega
  have h3:lo≠n:=by omega
  simp[h1,h2,h3]
 ·have h2:n>=lo:=by omega
  by_cases h4:n>hi
  ·have h5:¬ n<=hi:=by omega
   have h6:hi≠n:=by omega
   simp[h1,h2,h4,h5,h6]
  ·have h5:n<=hi:=by omega
   simp[h1,h2,h4,h5]
theorem wZ {c:Cell}{r:Bool}{A:Pr}(hA:CL codes sigs f215 [.bool] r A)(i:Nat)(hi:i<3)(f:Fld3)(hf:(rL c).getD i Ty.fld.dflt=f)
  (h0:(decide (f.n>=f.lo)&&decide (f.n<=f.hi))=false->false=r) (h1:(decide (f.n>=f.lo)&&decide (f.n<=f.hi))=true->A (hd f215 0) (QK c true ((i+1:Nat):Int))):A (hd f215 0) (QK c true i):=by
 refine hA.go (NY c true i) (dl (by simp;omega) ⟨⟨⟨by omega,by show(i:Int)<3;omega⟩,tv⟩,⟨T1,T1,T1,tv⟩,_,CV _ _ _,?_⟩)
 rw[au,hf]
 refine ae (b:=yn f.n f.lo f.hi != f.n) (λ h=>⟨T1,h0 (by rw[Ln]at h;exact nt h)⟩) (λ h=>?_)
 rw[aq (by omega)]
 exact h1 (by rw[Ln]at h;exact nf h)
theorem Lb (c:Cell):yJ prog 215 [⟨.cell,c⟩] [.bool] (dm c):=
 pcl codes sigs func215 (by kernel_rfl) λ A hA=>hA.go (t215 c) ⟨tv,by
  have e:dm c=((decide (c.cap>=1)&&decide (c.cap<=1099511627776))&&((decide (c.zS>=0)&&decide (c.zS<=c.cap))&&(decide (c.ver>=0)&&decide (c.ver<=2147483647)))):=by
   unfold dm
   cases decide (c.cap>=1)<;>cases decide (c.cap<=1099511627776)<;>cases decide (c.zS>=0)<;>cases decide (c.zS<=c.cap)<;>cases decide (c.ver>=0)<;>rfl
  rw[e]at hA ⊢
  refine wZ hA 0 (by decide) ⟨c.cap,1,1099511627776⟩ rfl (λ h=>by rw[h];rfl) (λ h=>?_)
  rw[h]at hA
  refine wZ hA 1 (by decide) ⟨c.zS,0,c.cap⟩ rfl (λ h=>by rw[h];rfl) (λ h=>?_)
  rw[h]at hA
  refine wZ hA 2 (by decide) ⟨c.ver,0,2147483647⟩ rfl (λ h=>by rw[h];rfl) (λ h=>?_)
  rw[h]at hA
  exact hA.go (NY c true 3) (bz (by decide) ⟨T1,rfl⟩)⟩
def rK (c v:Int):Cell×Int:=bif !dm ⟨c,v,0⟩then(⟨0,0,0⟩,100)else(⟨c,v,0⟩,0)
theorem Ts (c v:Int):yJ prog 139 [⟨.int,c⟩,⟨.int,v⟩] [.cell,.int] (rK c v):=
 ofT func139 (t139 c v) (by kernel_rfl) (by kernel_rfl) λ _=>by
  refine⟨⟨T3,tv⟩,_,Lb _,?_⟩
  unfold rK
  cases dm ⟨c,v,0⟩<;>exact⟨⟨T3,tv,tv⟩,rfl⟩
def dS (a:Int):Wide:=⟨IntKind.wrap .u64 (Int.fdiv a (2^min 63 (IntKind.bits .i64))),IntKind.wrap .u64 a⟩
theorem Tb (a:Int):yJ prog 267 [⟨.int,a⟩] [.wide] (dS a):=
 ofT func267 (t267 a) (by kernel_rfl) (by kernel_rfl) λ _=>⟨by decide,T3',rfl⟩
theorem FO {vs:Array Value}(hs:vs.size=3):∃ a b c,vs=#[a,b,c]:=by
 refine⟨vs[0]'(by omega),vs[1]'(by omega),vs[2]'(by omega),?_⟩
 apply Array.ext
 ·exact hs
 ·intro i hi hi2
  have:i=0\/i=1\/i=2:=by omega
  rcases this with rfl|rfl|rfl<;>rfl
def TB : Array Value → Sem Value := fun args => do
 let (x, y, c) ← Extern.MathBitsCarry.three "Add64" args
 pure (Extern.MathBitsCarry.pair ((x + y + c) % Extern.MathBitsCarry.m64) ((x + y + c) / Extern.MathBitsCarry.m64))
theorem Ia (a b c : Value) : Extern.MathBitsCarry.three "Add64" #[a, b, c] = (do
 let c := (← asInt c).toNat
 if c > 1 then unsupported (.noEntry ("extern/math/bits." ++ "Add64" ++ ": a carry that is neither 0 nor 1"))
 pure ((← asInt a).toNat, (← asInt b).toNat, c)) := rfl
theorem QT {x y c : Int} (hc : c.toNat ≤ 1) : LN prog 297 [.d (.v (.int .u64 x)), .d (.v (.int .u64 y)), .d (.v (.int .u64 c))] (.tup [.d (.v (.int .u64 (((x.toNat + y.toNat + c.toNat) % 18446744073709551616 : Nat) : Int))), .d (.v (.int .u64 (((x.toNat + y.toNat + c.toNat) / 18446744073709551616 : Nat) : Int)))]) := fun w K m H vs hs hr => by
 obtain ⟨v1, v2, v3, rfl⟩ := FO hs
 have e1 : v1 = .int .u64 x := cw (hr 0 _ v1 rfl rfl)
 have e2 : v2 = .int .u64 y := cw (hr 1 _ v2 rfl rfl)
 have e3 : v3 = .int .u64 c := cw (hr 2 _ v3 rfl rfl)
 subst e1; subst e2; subst e3
 refine ⟨.tuple #[.int .u64 (((x.toNat + y.toNat + c.toNat) % 18446744073709551616 : Nat) : Int), .int .u64 (((x.toNat + y.toNat + c.toNat) / 18446744073709551616 : Nat) : Int)], ?_, .tup _ _ rfl (fun i a v ha hv => ?_)⟩
 ·rw [run_callFunc_extern (e := TB) func297 (by kernel_rfl) (by kernel_rfl) (by kernel_rfl) (by kernel_rfl)]
  have h1 : ¬ c.toNat > 1 := by omega
  have a1 : ∀ n : Int, (asInt (.int .u64 n)).run prog w = .ok n w := fun n => by simp [asInt, asIntOf]
  have h2 : (Extern.MathBitsCarry.three "Add64" #[.int .u64 x, .int .u64 y, .int .u64 c]).run prog w = .ok (x.toNat, y.toNat, c.toNat) w := by
   rw [Ia]
   simp only [Sem.run_bind, a1, Result.andThen_ok, aF h1, Sem.run_pure]
  simp only [TB, Sem.run_bind, h2, Result.andThen_ok, Sem.run_pure]
  rfl
 ·match i, ha, hv with
  | 0, ha, hv => cases ha; cases hv; exact .d _ _ (.v _)
  | 1, ha, hv => cases ha; cases hv; exact .d _ _ (.v _)
  | i + 2, ha, hv => cases ha
def iU (a b:Wide):Wide:=⟨(((a.hi.toNat+b.hi.toNat+(((a.lo.toNat+b.lo.toNat+0)/18446744073709551616:Nat):Int).toNat)%18446744073709551616:Nat):Int),(((a.lo.toNat+b.lo.toNat+0)%18446744073709551616:Nat):Int)⟩
theorem c266 {a b:Wide}(ha:a.lo.toNat<18446744073709551616)(hb:b.lo.toNat<18446744073709551616):yJ prog 266 [⟨.wide,a⟩,⟨.wide,b⟩] [.wide] (iU a b):=
 ofT func266 (t266 a b) (by kernel_rfl) (by kernel_rfl) λ _=>by
  refine⟨QT (by decide),QT (by rw[au];omega),?_⟩
  exact⟨T3',rfl⟩
def xt (a:Wide):Int×Int:=bif !(a.hi==(dS (w64 a.lo)).hi&&(a.lo==(dS (w64 a.lo)).lo&&true))then(0,4)else(w64 a.lo,0)
theorem c268 (a:Wide):yJ prog 268 [⟨.wide,a⟩] [.int,.int] (xt a):=
 ofT func268 (t268 a) (by kernel_rfl) (by kernel_rfl) λ _=>by
  refine⟨⟨T1,tv⟩,_,Tb _,?_⟩
  unfold xt
  refine ae (λ h=>?_) (λ h=>?_)
  ·rw[h];exact⟨⟨T1,tv,tv⟩,rfl⟩
  ·rw[h];exact⟨⟨T1,tv,tv⟩,rfl⟩
def rR (l:List Int):Wide:=l.foldl (λ w x=>iU w (dS x)) ⟨0,0⟩
theorem MB (a b:Wide):(iU a b).lo.toNat<18446744073709551616:=by
 unfold iU
 simp only
 rw[au];omega
theorem SE (x:Int):(dS x).lo.toNat<18446744073709551616:=by
 have h:(dS x).lo=x%18446744073709551616:=rfl
 rw[h];omega
theorem Df:∀ (l:List Int) (w:Wide),w.lo.toNat<18446744073709551616->(l.foldl (λ w x=>iU w (dS x)) w).lo.toNat<18446744073709551616
 | [],w,h=>h
 | x::l,w,_=>Df l _ (MB _ _)
theorem En {l:List Int}(hl:l.length<=1000000){r:Int×Int}{A:Pr}(hA:CL codes sigs f223 [.int,.int] r A)(hr:xt (rR l)=r)
  (i:Nat) (hi:i<=l.length):A (hd f223 0) (TQ l (rR (l.take i)) i):=by
 refine hA.go (Rw l _ i) (ae (λ h1=>?_) (λ h1=>?_))
 ·have h1:=oT h1
  have hil:i<l.length:=by omega
  rw[aY hil]
  refine⟨⟨⟨by omega,by omega⟩,tv⟩,⟨T1,tv⟩,_,Tb _,⟨T3',T3',tv⟩,_,c266 (Df _ _ (by decide)) (SE _),?_⟩
  rw[aq (by omega)]
  have e:iU (rR (l.take i)) (dS l[i])=rR (l.take (i+1)):=by
   rw[aW hil,rR,rR,List.foldl_append];rfl
  rw[e]
  exact En hl hA hr (i+1) (by omega)
 ·have h1:=oF h1
  rw[cj (by omega)]
  exact⟨⟨T3',tv⟩,_,c268 _,⟨T1,tv,tv⟩,hr⟩
termination_by l.length-i
theorem c223 {l:List Int}(hl:l.length<=1000000):yJ prog 223 [⟨.sl .int,l⟩] [.int,.int] (xt (rR l)):=
 pcl codes sigs func223 (by kernel_rfl) λ A hA=>hA.go (t223 l) (En hl hA rfl 0 (by omega))
theorem RF (l:Log)(i:Int):@Eq _ (xLp prog f163 [.bool] 300 0 (TS l i)) (bif decide (i<(l.list.length:Int))then .zF (((0:Int)<=i/\i<(l.list.length:Int))/\True) (bif (l.list.getD i.toNat Ty.change.dflt).ver != w64 (w64 (w64 (l.last-(l.list.length:Int))+1)+i)then .zF U2 (.ret false)else .zF bX (.zG 224 [Sigma.mk .int (l.list.getD i.toNat Ty.change.dflt).by',Sigma.mk .int (l.list.getD i.toNat Ty.change.dflt).n] [.bool] λ(x:Bool)=>bif !x then .zF U2 (.ret false)else .stop (hd f163 0) (mkS 71 [(1,.ptr 0 0),(3,i64 (w64 (i+1)))] [(0,.box (lC l))] 1)))else .zF U2 (.ret true)):=by kernel_rfl
def rZ (old:Int):List yM->Nat->Bool
 | [],_=>true
 | c::cs,i=>bif c.ver != w64 (w64 (old+1)+(i:Int))then false else bif !mO c.by' c.n then false else rZ old cs (i+1)
def gL (l:Log):Bool:=bif decide (l.room<1)then false else bif decide (l.room>64)then false else bif decide (l.last<0)then false else bif decide (l.last>2147483647)then false else bif decide ((l.list.length:Int)>l.room)then false else bif decide ((l.list.length:Int)>l.last)then false else rZ (kC l) l.list 0
theorem Ep {l:Log}(hl:l.list.length<=1000){r:Bool}{A:Pr}(hA:CL codes sigs f163 [.bool] r A)
  (i:Nat) (hi:i<=l.list.length) (h:rZ (kC l) (l.list.drop i) i=r):A (hd f163 0) (TS l i):=by
 refine hA.go (RF l i) (ae (λ h1=>?_) (λ h1=>?_))
 ·have h1:=oT h1
  have hil:i<l.list.length:=by omega
  rw[aY hil]
  rw[dG hil,rZ]at h
  refine⟨⟨⟨by omega,by omega⟩,tv⟩,ae (b:=l.list[i].ver != w64 (w64 (kC l+1)+(i:Int))) (λ h2=>?_) (λ h2=>?_)⟩
  ·rw[h2]at h;exact⟨T1,h⟩
  ·rw[h2]at h
   refine⟨⟨T1,T1,tv⟩,_,c224 _ _,ae (λ h3=>?_) (λ h3=>?_)⟩
   ·rw[h3]at h;exact⟨T1,h⟩
   ·rw[h3]at h
    rw[aq (by omega)]
    exact Ep hl hA (i+1) (by omega) h
 ·have h1:=oF h1
  rw[dN (by omega)]at h
  exact⟨T1,h⟩
termination_by l.list.length-i
theorem c163 (l:Log):yJ prog 163 [⟨.zW,l⟩] [.bool] (gL l):=
 pcl codes sigs func163 (by kernel_rfl) λ A hA=>hA.go (t163 l) (by
  have hy:∃ y,gL l=y:=⟨_,rfl⟩
  obtain⟨y,hy⟩:=hy
  rw[hy]at hA ⊢
  unfold gL at hy
  refine ae (λ h=>?_) (λ h=>?_)
  ·rw[h]at hy;exact⟨T1,hy⟩
  rw[h]at hy
  refine ae (λ h1=>?_) (λ h1=>?_)
  ·rw[h1]at hy;exact⟨T1,hy⟩
  rw[h1]at hy
  refine ae (λ h=>?_) (λ h=>?_)
  ·rw[h]at hy;exact⟨T1,hy⟩
  rw[h]at hy
  refine ae (λ h=>?_) (λ h=>?_)
  ·rw[h]at hy;exact⟨T1,hy⟩
  rw[h]at hy
  refine ae (λ h=>?_) (λ h2=>?_)
  ·rw[h]at hy;exact⟨T1,hy⟩
  rw[h2]at hy
  refine ae (λ h=>?_) (λ h=>?_)
  ·rw[h]at hy;exact⟨T1,hy⟩
  rw[h]at hy
  have g1:=oF h1
  have g2:=oF h2
  exact hA.go (RG l) (Ep (by omega) hA 0 (by omega) hy))
theorem Eo {l:Log}(hl:l.list.length<=1000){r:Bool}{A:Pr}(hA:CL codes sigs f216 [.bool] r A)
  (i:Nat) (hi:i<=l.list.length) (h:rZ (kC l) (l.list.drop i) i=r):A (hd f216 0) (TR l true i):=by
 refine hA.go (Rx l true i) (ae (λ h1=>?_) (λ h1=>?_))
 ·have h1:=oT h1
  have hil:i<l.list.length:=by omega
  rw[aY hil]
  rw[dG hil,rZ]at h
  refine⟨⟨⟨by omega,by omega⟩,tv⟩,⟨T3,tv⟩,_,Qq l,ae (b:=l.list[i].ver != w64 (w64 (kC l+1)+(i:Int))) (λ h2=>?_) (λ h2=>?_)⟩
  ·rw[h2]at h;exact dl h2 ⟨T1,h⟩
  ·rw[h2]at h
   refine⟨⟨T1,T1,tv⟩,_,Td _ _,ae (λ h3=>?_) (λ h3=>?_)⟩
   ·rw[h3]at h;exact⟨T1,h⟩
   ·rw[h3]at h
    rw[aq (by omega)]
    exact Eo hl hA (i+1) (by omega) h
 ·have h1:=oF h1
  rw[dN (by omega)]at h
  exact⟨T1,h⟩
termination_by l.list.length-i
theorem NA (l:Log):yJ prog 216 [⟨.zW,l⟩] [.bool] (gL l):=
 pcl codes sigs func216 (by kernel_rfl) λ A hA=>hA.go (t216 l) (by
  have hy:∃ y,gL l=y:=⟨_,rfl⟩
  obtain⟨y,hy⟩:=hy
  rw[hy]at hA ⊢
  unfold gL at hy
  refine ae (λ h=>?_) (λ h=>?_)
  ·rw[h]at hy;exact⟨T1,hy⟩
  rw[h]at hy
  refine ae (λ h1=>?_) (λ h1=>?_)
  ·rw[h1]at hy;exact⟨T1,hy⟩
  rw[h1]at hy
  refine ae (λ h=>?_) (λ h=>?_)
  ·rw[h]at hy;exact⟨T1,hy⟩
  rw[h]at hy
  refine ae (λ h=>?_) (λ h=>?_)
  ·rw[h]at hy;exact⟨T1,hy⟩
  rw[h]at hy
  have g1:=oF h1
  refine⟨⟨T3,tv⟩,_,CU l,ae (λ h=>?_) (λ h=>?_)⟩
  ·refine⟨T1,?_⟩
   show false=y
   have h:=oT h
   rw[<-hy]
   cases h2:decide ((l.list.length:Int)>l.room)
   ·cases h3:decide ((l.list.length:Int)>l.last)
    ·have:=oF h2
     have:=oF h3
     split at h<;>omega
    ·rfl
   ·rfl
  ·have h:=oF h
   have g2:¬ (l.list.length:Int)>l.room:=by split at h<;>omega
   have g3:¬ (l.list.length:Int)>l.last:=by split at h<;>omega
   rw[dF g2,dF g3]at hy
   exact Eo (by omega) hA 0 (by omega) hy)
def Hf (c:Int):Log×Int:=bif !gL ⟨c,0,[]⟩then(⟨0,0,[]⟩,110)else(⟨c,0,[]⟩,0)
theorem Tq (c:Int):yJ prog 140 [⟨.int,c⟩] [.zW,.int] (Hf c):=
 ofT func140 (t140 c) (by kernel_rfl) (by kernel_rfl) λ _=>by
  refine⟨⟨T3,tv⟩,_,NA _,?_⟩
  unfold Hf
  cases gL ⟨c,0,[]⟩<;>exact⟨⟨T3,tv,tv⟩,rfl⟩
def TT (cs:List Cell)(out:List Int)(i:Int):AS:=mkS 28 [(4,.own 0 .int),(12,.d (.sl .cell cs)),(13,i64 cs.length),(14,i64 i)] [(0,.row 3 .int out)] 1
theorem RH (cs:List Cell)(out:List Int)(i:Int):@Eq _ (xLp prog f160 [.int,.int] 300 0 (TT cs out i)) (bif decide (i<(cs.length:Int))then .zF (((0:Int)<=i/\i<(cs.length:Int))/\True) (.zF V2 (.zF ((out.length+List.length [(cs.getD i.toNat Ty.cell.dflt).zS])*9<=35184372088832/\True) (.stop (hd f160 0) (mkS 28 [(4,.own 0 .int),(12,.d (.sl .cell cs)),(13,i64 (cs.length:Int)),(14,i64 (w64 (i+1)))] [(0,.row 3 .int (out++[(cs.getD i.toNat Ty.cell.dflt).zS]))] 1))))else .zF V2 (.zG 223 [⟨.sl .int,out⟩] [.int,.int] λ(x:Int×Int)=>.zF (U2/\U2) (.ret (x.1,x.2)))):=by kernel_rfl
def Gv (n:Int):List Int:=bif decide (n<0)then[]else List.replicate n.toNat 0
theorem c86 {n:Int}(h:n<=1000000):yJ prog 86 [⟨.int,n⟩] [.sl .int] (Gv n):=
 ofT func86 (t86 n) (by kernel_rfl) (by kernel_rfl) λ _=>by
  unfold Gv
  refine ae (λ h1=>?_) (λ h1=>?_)
  ·rw[h1];exact⟨T1,rfl⟩
  ·rw[h1]
   have:=oF h1
   exact⟨⟨by omega,iy _,by omega⟩,T1,rfl⟩
theorem Er {cs:List Cell}(hl:cs.length<=1000000){r:Int×Int}{A:Pr}(hA:CL codes sigs f160 [.int,.int] r A)(hr:xt (rR (cs.map Cell.zS))=r)
  (i:Nat) (hi:i<=cs.length):A (hd f160 0) (TT cs ((cs.take i).map Cell.zS) i):=by
 refine hA.go (RH cs _ i) (ae (λ h1=>?_) (λ h1=>?_))
 ·have h1:=oT h1
  have hil:i<cs.length:=by omega
  rw[aY hil]
  refine⟨⟨⟨by omega,by omega⟩,tv⟩,⟨T1,tv⟩,⟨by rw[bH,aD];simp only[af,ak];omega,tv⟩,?_⟩
  rw[aq (by omega)]
  have e:(cs.take i).map Cell.zS++[cs[i].zS]=(cs.take (i+1)).map Cell.zS:=by
   rw[aW hil,bT];rfl
  rw[e]
  exact Er hl hA hr (i+1) (by omega)
 ·have h1:=oF h1
  rw[cj (by omega)]
  exact⟨⟨T1,tv⟩,_,c223 (by rw[bH];exact hl),⟨T1,tv,tv⟩,hr⟩
termination_by cs.length-i
theorem c160 {s:yC}(hl:s.cells.length<=1000000):yJ prog 160 [⟨.zE,s⟩] [.int,.int] (xt (rR (s.cells.map Cell.zS))):=
 pcl codes sigs func160 (by kernel_rfl) λ A hA=>hA.go (t160 s) ⟨⟨by omega,by omega,by rw[au];omega⟩,Er hl hA rfl 0 (by omega)⟩
open Go Go.VL Go.Proofs.Zn
theorem cp {d:yA}(h:(df d != 0)=false):DeckOk d:=(sI (d:=d) (by simpa[df]using h)).1
def plN (d:yA)(i:Nat):Int:=(d.zB.getD i Ty.zJ.dflt).rows*(d.zB.getD i Ty.zJ.dflt).zP
theorem Ja {d:yA}(hd:DeckOk d)(i:Nat):0<=plN d i/\plN d i<=1536:=by
 unfold plN
 rcases ax i d.zB.length with h|h
 ·rw[cH h]
  have h1:=hd.boxP (fe d.zB[i]) (List.mem_map_of_mem (aN h))
  have:=eH h1
  simp only[fe]at this
  omega
 ·rw[show d.zB.getD i Ty.zJ.dflt=Ty.zJ.dflt by simp[List.getD,aw h]]
  decide
def PlB (d:yA):Prop:=∀ i:Nat,w64 (plN d i)=plN d i/\0<=plN d i/\plN d i<=1536
theorem plB {d:yA}(hd:DeckOk d):PlB d:=λ i=>by
 have h:=Ja hd i
 exact⟨an (by omega) (by omega),h.1,h.2⟩
theorem PlB.at {d:yA}(h:PlB d)(i:Nat):w64 ((d.zB.getD i Ty.zJ.dflt).rows*(d.zB.getD i Ty.zJ.dflt).zP)=plN d i/\0<=plN d i/\plN d i<=1536:=h i
theorem uk (d:yA):0<=(bx d).1/\(bx d).1<=384/\0<=(bx d).2.1/\(bx d).2.1<=384/\0<=(bx d).2.2/\(bx d).2.2<=24:=by
 unfold bx
 cases h:dw d != 0
 ·have hd:DeckOk d:=ff (by simpa using h)
  have h1:=hd.wells
  have h2:=hd.zK
  have h3:=hd.lanes
  rw[cF]
  simp only
  omega
 ·rw[cT]
  decide
theorem zf {l:List Go.VL.Box}(h:∀ b∈l,cW b=true):0<=br l:=(sd h).1
theorem KA {d:yA}{i:Nat}(h:i<d.zB.length):br ((aM d).drop i)=plN d i+br ((aM d).drop (i+1)):=by
 have hl:i<(aM d).length:=by simpa[aM]using h
 rw[dG hl,br]
 unfold plN
 rw[cH h]
 simp[aM,fe]
theorem Bb {d:yA}(hd:DeckOk d)(i:Nat):0<=br ((aM d).drop i):=zf λ b hb=>hd.boxP b (List.mem_of_mem_drop hb)
theorem mw (d:yA):(dP d).length<=1000:=by
 unfold dP
 cases h:dw d != 0
 ·have hd:DeckOk d:=ff (by simpa using h)
  have:=qv hd
  rw[cF];omega
 ·simp
theorem me {α:Type}{l:List α}{ix:Nat}(h:ix<l.length){d:α}:l.getD (Int.toNat (ix:Int)) d∈l:=by
 rw[aY h];exact aN h
def eqL (a b:List Int):Bool:=decide (a=b)
def Ku (a b:Log):Bool:=decide (a=b)
theorem Tl {a b:Log}(h:a.list.length<=1000000):yJ prog 155 [⟨.zW,a⟩,⟨.zW,b⟩] [.bool] (Ku a b):=Qu h
def qZ (l:List Tip)(i:Int)(t:Tip)(i1:Int):AS:=mkS 36 [(1,i64 i),(5,.ptr 0 0),(8,i64 0),(9,.d (.v (.bool false))),(12,.d (.sl .zV l)),(13,i64 (l.length:Int)),(14,i64 i1)] [(0,.box [i64 t.state,i64 t.by'])] 1
theorem Ru (l:List Tip)(i:Int)(t:Tip):@Eq _ (xSp prog f227 [.int,.bool] 300 [⟨.sl .zV,l⟩,⟨.int,i⟩,⟨.zV,t⟩]) (.stop (hd f227 0) (qZ l i t 0)):=by kernel_rfl
theorem Md (l:List Tip)(i:Int)(t:Tip)(i1:Int):@Eq _ (xLp prog f227 [.int,.bool] 300 0 (qZ l i t i1)) (bif decide (i1<(l.length:Int))then .zF (((0:Int)<=i1/\i1<(l.length:Int))/\True) (bif decide (i1<i)then .stop (hd f227 0) (qZ l i t (w64 (i1+1)))else bif ! ((l.getD i1.toNat (Ty.dflt .zV)).state==t.state&&((l.getD i1.toNat (Ty.dflt .zV)).by'==t.by'&&true))then .stop (hd f227 0) (qZ l i t (w64 (i1+1)))else .zF V3 (.zG 221 [⟨.zV,(l.getD i1.toNat (Ty.dflt .zV))⟩] [.bool] λ(x:Bool)=>bif !x then .stop (hd f227 0) (qZ l i t (w64 (i1+1)))else .zF (U2/\U2) (.ret (i1,true))))else .zF (U2/\U2) (.ret ((0:Int),false))):=by kernel_rfl
def uH (a b:List Fl)(i1:Int):AS:=mkS 49 [(0,.d (.sl .zQ a)),(1,.d (.sl .zQ b)),(5,i64 i1)] [] 0
theorem RK (a b:List Fl):@Eq _ (xSp prog f156 [.bool] 300 [⟨.sl .zQ,a⟩,⟨.sl .zQ,b⟩]) (bif (a.length:Int) != (b.length:Int)then .zF U2 (.ret false)else .stop (hd f156 0) (uH a b 0)):=by kernel_rfl
theorem Mh (a b:List Fl)(i1:Int):@Eq _ (xLp prog f156 [.bool] 300 0 (uH a b i1)) (bif decide (i1<(a.length:Int))then .zF (((0:Int)<=i1/\i1<(a.length:Int))/\True) (.zF (((0:Int)<=i1/\i1<(b.length:Int))/\True) (bif Fl.cmp (a.getD i1.toNat (Ty.dflt .zQ)) (b.getD i1.toNat (Ty.dflt .zQ))==some Ordering.eq then .stop (hd f156 0) (uH a b (w64 (i1+1)))else .zF (((0:Int)<=i1/\i1<(a.length:Int))/\True) (.zF (((0:Int)<=i1/\i1<(a.length:Int))/\True) (bif Fl.cmp (a.getD i1.toNat (Ty.dflt .zQ)) (a.getD i1.toNat (Ty.dflt .zQ)) != some Ordering.eq then .zF (((0:Int)<=i1/\i1<(b.length:Int))/\True) (.zF (((0:Int)<=i1/\i1<(b.length:Int))/\True) (bif !Fl.cmp (b.getD i1.toNat (Ty.dflt .zQ)) (b.getD i1.toNat (Ty.dflt .zQ)) != some Ordering.eq then .zF U2 (.ret false)else .stop (hd f156 0) (uH a b (w64 (i1+1)))))else .zF U2 (.ret false)))))else .zF U2 (.ret true)):=by kernel_rfl
def Fz (i1 i5:Int)(l3:List Cell)(l4:List Log)(i6:Int)(l5:List Tip):AS:=mkS 92 [(2,.ptr 0 0),(5,.ptr 1 0),(7,i64 i1),(13,i64 i6)] [(0,.box [nS,nS,nS,i64 0,i64 0,i64 0]),(1,.box [.own 2 .cell,.own 3 .zW,.own 4 .zV,i64 i5,i64 0,i64 0]),(2,.row 76 .cell l3),(3,.row 146 .zW l4),(4,.row 194 .zV l5)] 5
def Bw (d:yA)(i1 i4 i2 i3:Int)(l1:List Cell)(l2:List Log):AS:=mkS 92 [(1,.ptr 0 0),(2,.ptr 1 0),(5,.ptr 2 0),(7,i64 i1),(9,i64 i4),(10,.ptr 3 0),(11,i64 i2)] [(0,.box (dC d)),(1,.box [nS,nS,nS,i64 0,i64 0,i64 0]),(2,.box [.own 4 .cell,.own 5 .zW,nS,i64 i3,i64 0,i64 0]),(3,.box [i64 (d.zB.getD i4.toNat (Ty.dflt .zJ)).rows,i64 (d.zB.getD i4.toNat (Ty.dflt .zJ)).zP,.d (.f (d.zB.getD i4.toNat (Ty.dflt .zJ)).x),.d (.f (d.zB.getD i4.toNat (Ty.dflt .zJ)).pitch),.d (.f (d.zB.getD i4.toNat (Ty.dflt .zJ)).reach),i64 (d.zB.getD i4.toNat (Ty.dflt .zJ)).cap,.d (.sl .int (d.zB.getD i4.toNat (Ty.dflt .zJ)).start)]),(4,.row 76 .cell l1),(5,.row 146 .zW l2)] 6
def Bx (d:yA)(i1 i4 i5:Int)(l3:List Cell)(l4:List Log):AS:=mkS 92 [(1,.ptr 0 0),(2,.ptr 1 0),(5,.ptr 2 0),(7,i64 i1),(9,i64 i4)] [(0,.box (dC d)),(1,.box [nS,nS,nS,i64 0,i64 0,i64 0]),(2,.box [.own 3 .cell,.own 4 .zW,nS,i64 i5,i64 0,i64 0]),(3,.row 76 .cell l3),(4,.row 146 .zW l4)] 5
theorem t87x (d:yA):@Eq _ (xSp prog f87 [.zE,.int] 300 [⟨.zI,d⟩]) (.zF V5 (.zG 70 [⟨.zI,d⟩] [.int] λ(x:Int)=>bif x != 0 then .zF (U7/\U2) (.ret (yC.mk [] [] [] 0 0 0,x))else .zF V5 (.zG 152 [⟨.zI,d⟩] [.int,.int,.int] λ(x:Int×Int×Int)=>.stop (hd f87 0) (mkS 92 [(1,.ptr 0 0),(2,.ptr 1 0),(5,.ptr 2 0),(7,i64 x.2.1),(9,i64 0)] [(0,.box (dC d)),(1,.box [nS,nS,nS,i64 0,i64 0,i64 0]),(2,.box [nS,nS,nS,i64 0,i64 0,i64 0])] 3)))):=by kernel_rfl
theorem ON (d:yA)(i1 i4 i5:Int)(l3:List Cell)(l4:List Log):@Eq _ (xLp prog f87 [.zE,.int] 300 0 (Bx d i1 i4 i5 l3 l4)) (bif decide (i4<(d.zB.length:Int))then .zF (((0:Int)<=i4/\i4<(d.zB.length:Int))/\True) (.stop (hd f87 1) (Bw d i1 i4 0 i5 l3 l4))else .stop (hd f87 2) (mkS 92 [(2,.ptr 0 0),(5,.ptr 1 0),(7,i64 i1),(13,i64 0)] [(0,.box [nS,nS,nS,i64 0,i64 0,i64 0]),(1,.box [.own 2 .cell,.own 3 .zW,nS,i64 i5,i64 0,i64 0]),(2,.row 76 .cell l3),(3,.row 146 .zW l4)] 4)):=by kernel_rfl
theorem OM (d:yA)(i1 i4 i2 i3:Int)(l1:List Cell)(l2:List Log):@Eq _ (xLp prog f87 [.zE,.int] 300 1 (Bw d i1 i4 i2 i3 l1 l2)) (bif decide (i2<w64 ((d.zB.getD i4.toNat (Ty.dflt .zJ)).rows*(d.zB.getD i4.toNat (Ty.dflt .zJ)).zP))then bif decide (i2<(↑(d.zB.getD i4.toNat (Ty.dflt .zJ)).start.length:Int))then .zF (((0:Int)<=i2/\i2<(↑(d.zB.getD i4.toNat (Ty.dflt .zJ)).start.length:Int))/\True) (.zF V4 (.zF ((l1.length+List.length [Cell.mk (d.zB.getD i4.toNat (Ty.dflt .zJ)).cap ((d.zB.getD i4.toNat (Ty.dflt .zJ)).start.getD i2.toNat (Ty.dflt .int)) 0])*25<=35184372088832/\True) (.zF V4 (.zF ((l2.length+List.length [Log.mk 8 0 []])*41<=35184372088832/\True) (.stop (hd f87 1) (Bw d i1 i4 (w64 (i2+1)) (w64 (i3+(d.zB.getD i4.toNat (Ty.dflt .zJ)).start.getD i2.toNat (Ty.dflt .int))) (l1++[Cell.mk (d.zB.getD i4.toNat (Ty.dflt .zJ)).cap ((d.zB.getD i4.toNat (Ty.dflt .zJ)).start.getD i2.toNat (Ty.dflt .int)) 0]) (l2++[Log.mk 8 0 []])))))))else .zF V4 (.zF ((l1.length+List.length [Cell.mk (d.zB.getD i4.toNat (Ty.dflt .zJ)).cap 0 0])*25<=35184372088832/\True) (.zF V4 (.zF ((l2.length+List.length [Log.mk 8 0 []])*41<=35184372088832/\True) (.stop (hd f87 1) (Bw d i1 i4 (w64 (i2+1)) (w64 (i3+0)) (l1++[Cell.mk (d.zB.getD i4.toNat (Ty.dflt .zJ)).cap 0 0]) (l2++[Log.mk 8 0 []]))))))else .stop (hd f87 0) (Bx d i1 (w64 (i4+1)) i3 l1 l2)):=by kernel_rfl
theorem OL (i1 i5:Int)(l3:List Cell)(l4:List Log)(i6:Int)(l5:List Tip):@Eq _ (xLp prog f87 [.zE,.int] 300 2 (Fz i1 i5 l3 l4 i6 l5)) (bif decide (i6<i1)then .zF V3 (.zF ((l5.length+List.length [Tip.mk 1 0])*17<=35184372088832/\True) (.stop (hd f87 2) (Fz i1 i5 l3 l4 (w64 (i6+1)) (l5++[Tip.mk 1 0]))))else .zF (U7/\U2) (.ret (yC.mk l3 l4 l5 i5 0 0,(0:Int)))):=by kernel_rfl
def FA (i4:Int)(l3:List Cell)(l4:List Log)(i5 i6:Int)(l5:List Tip):AS:=mkS 95 [(2,.ptr 0 0),(5,.ptr 1 0),(84,i64 i5),(85,i64 i6)] [(0,.box [nS,nS,nS,i64 0,i64 0,i64 0]),(1,.box [.own 2 .cell,.own 3 .zW,.own 4 .zV,i64 i4,i64 0,i64 0]),(2,.row 76 .cell l3),(3,.row 146 .zW l4),(4,.row 194 .zV l5)] 5
def BA (d:yA)(i3 i1 i2:Int)(l1:List Cell)(l2:List Log):AS:=mkS 95 [(1,.ptr 0 0),(2,.ptr 1 0),(5,.ptr 2 0),(7,.ptr 3 0),(24,.d (.sl .zJ d.zB)),(25,i64 (d.zB.length:Int)),(26,i64 i3),(34,i64 (w64 ((d.zB.getD i3.toNat (Ty.dflt .zJ)).rows*(d.zB.getD i3.toNat (Ty.dflt .zJ)).zP))),(35,i64 i1)] [(0,.box (dC d)),(1,.box [nS,nS,nS,i64 0,i64 0,i64 0]),(2,.box [.own 4 .cell,.own 5 .zW,nS,i64 i2,i64 0,i64 0]),(3,.box [i64 (d.zB.getD i3.toNat (Ty.dflt .zJ)).rows,i64 (d.zB.getD i3.toNat (Ty.dflt .zJ)).zP,.d (.f (d.zB.getD i3.toNat (Ty.dflt .zJ)).x),.d (.f (d.zB.getD i3.toNat (Ty.dflt .zJ)).pitch),.d (.f (d.zB.getD i3.toNat (Ty.dflt .zJ)).reach),i64 (d.zB.getD i3.toNat (Ty.dflt .zJ)).cap,.d (.sl .int (d.zB.getD i3.toNat (Ty.dflt .zJ)).start)]),(4,.row 76 .cell l1),(5,.row 146 .zW l2)] 6
def BB (d:yA)(i3 i4:Int)(l3:List Cell)(l4:List Log):AS:=mkS 95 [(1,.ptr 0 0),(2,.ptr 1 0),(5,.ptr 2 0),(24,.d (.sl .zJ d.zB)),(25,i64 (d.zB.length:Int)),(26,i64 i3)] [(0,.box (dC d)),(1,.box [nS,nS,nS,i64 0,i64 0,i64 0]),(2,.box [.own 3 .cell,.own 4 .zW,nS,i64 i4,i64 0,i64 0]),(3,.row 76 .cell l3),(4,.row 146 .zW l4)] 5
theorem t83x (d:yA):@Eq _ (xSp prog f83 [.zE,.int] 300 [⟨.zI,d⟩]) (.zF V5 (.zG 61 [⟨.zI,d⟩] [.int] λ(x:Int)=>bif x != 0 then .zF (U7/\U2) (.ret (yC.mk [] [] [] 0 0 0,x))else .stop (hd f83 0) (mkS 95 [(1,.ptr 0 0),(2,.ptr 1 0),(5,.ptr 2 0),(24,.d (.sl .zJ d.zB)),(25,i64 (d.zB.length:Int)),(26,i64 0)] [(0,.box (dC d)),(1,.box [nS,nS,nS,i64 0,i64 0,i64 0]),(2,.box [nS,nS,nS,i64 0,i64 0,i64 0])] 3))):=by kernel_rfl
theorem OS (d:yA)(i3 i4:Int)(l3:List Cell)(l4:List Log):@Eq _ (xLp prog f83 [.zE,.int] 300 0 (BB d i3 i4 l3 l4)) (bif decide (i3<(d.zB.length:Int))then .zF (((0:Int)<=i3/\i3<(d.zB.length:Int))/\True) (.stop (hd f83 1) (BA d i3 0 i4 l3 l4))else .zF V5 (.zG 84 [⟨.zI,d⟩] [.int,.int,.int] λ(x:Int×Int×Int)=>.stop (hd f83 2) (mkS 95 [(2,.ptr 0 0),(5,.ptr 1 0),(84,i64 x.2.1),(85,i64 0)] [(0,.box [nS,nS,nS,i64 0,i64 0,i64 0]),(1,.box [.own 2 .cell,.own 3 .zW,nS,i64 i4,i64 0,i64 0]),(2,.row 76 .cell l3),(3,.row 146 .zW l4)] 4))):=by kernel_rfl
theorem OR (d:yA)(i3 i1 i2:Int)(l1:List Cell)(l2:List Log):@Eq _ (xLp prog f83 [.zE,.int] 300 1 (BA d i3 i1 i2 l1 l2)) (bif decide (i1<w64 ((d.zB.getD i3.toNat (Ty.dflt .zJ)).rows*(d.zB.getD i3.toNat (Ty.dflt .zJ)).zP))then bif decide (i1<(↑(d.zB.getD i3.toNat (Ty.dflt .zJ)).start.length:Int))then .zF (((0:Int)<=i1/\i1<(↑(d.zB.getD i3.toNat (Ty.dflt .zJ)).start.length:Int))/\True) (.zF bX (.zG 139 [Sigma.mk .int (d.zB.getD i3.toNat (Ty.dflt .zJ)).cap,⟨.int,((d.zB.getD i3.toNat (Ty.dflt .zJ)).start.getD i1.toNat (Ty.dflt .int))⟩] [.cell,.int] λ(x:Cell×Int)=>.zF V2 (.zG 140 [⟨.int,(8:Int)⟩] [.zW,.int] λ(x_1:Log×Int)=>.zF V4 (.zF ((l1.length+List.length [x.1])*25<=35184372088832/\True) (.zF V4 (.zF ((l2.length+List.length [x_1.1])*41<=35184372088832/\True) (.stop (hd f83 1) (BA d i3 (w64 (i1+1)) (w64 (i2+(d.zB.getD i3.toNat (Ty.dflt .zJ)).start.getD i1.toNat (Ty.dflt .int))) (l1++[x.1]) (l2++[x_1.1])))))))))else .zF bX (.zG 139 [Sigma.mk .int (d.zB.getD i3.toNat (Ty.dflt .zJ)).cap,⟨.int,(0:Int)⟩] [.cell,.int] λ(x:Cell×Int)=>.zF V2 (.zG 140 [⟨.int,(8:Int)⟩] [.zW,.int] λ(x_1:Log×Int)=>.zF V4 (.zF ((l1.length+List.length [x.1])*25<=35184372088832/\True) (.zF V4 (.zF ((l2.length+List.length [x_1.1])*41<=35184372088832/\True) (.stop (hd f83 1) (BA d i3 (w64 (i1+1)) (w64 (i2+0)) (l1++[x.1]) (l2++[x_1.1]))))))))else .stop (hd f83 0) (BB d (w64 (i3+1)) i2 l1 l2)):=by kernel_rfl
theorem OQ (i4:Int)(l3:List Cell)(l4:List Log)(i5 i6:Int)(l5:List Tip):@Eq _ (xLp prog f83 [.zE,.int] 300 2 (FA i4 l3 l4 i5 i6 l5)) (bif decide (i6<i5)then .zF V3 (.zF ((l5.length+List.length [Tip.mk 1 0])*17<=35184372088832/\True) (.stop (hd f83 2) (FA i4 l3 l4 i5 (w64 (i6+1)) (l5++[Tip.mk 1 0]))))else .zF (U7/\U2) (.ret (yC.mk l3 l4 l5 i4 0 0,(0:Int)))):=by kernel_rfl
def uF (d:yA)(s:yC)(i5 i1 i2 i6:Int):AS:=mkS 82 [(3,.ptr 0 0),(6,i64 i1),(7,i64 i2),(9,.ptr 1 0),(14,.d (.sl .zJ d.zB)),(15,i64 (d.zB.length:Int)),(16,i64 i5),(24,i64 (w64 ((d.zB.getD i5.toNat (Ty.dflt .zJ)).rows*(d.zB.getD i5.toNat (Ty.dflt .zJ)).zP))),(25,i64 i6)] [(0,.box (sC s)),(1,.box [i64 (d.zB.getD i5.toNat (Ty.dflt .zJ)).rows,i64 (d.zB.getD i5.toNat (Ty.dflt .zJ)).zP,.d (.f (d.zB.getD i5.toNat (Ty.dflt .zJ)).x),.d (.f (d.zB.getD i5.toNat (Ty.dflt .zJ)).pitch),.d (.f (d.zB.getD i5.toNat (Ty.dflt .zJ)).reach),i64 (d.zB.getD i5.toNat (Ty.dflt .zJ)).cap,.d (.sl .int (d.zB.getD i5.toNat (Ty.dflt .zJ)).start)])] 2
def uG (d:yA)(s:yC)(i3 i4 i5:Int):AS:=mkS 82 [(3,.ptr 0 0),(6,i64 i3),(7,i64 i4),(14,.d (.sl .zJ d.zB)),(15,i64 (d.zB.length:Int)),(16,i64 i5)] [(0,.box (sC s))] 1
theorem RJ (d:yA)(s:yC):@Eq _ (xSp prog f158 [.int,.bool] 300 [⟨.zI,d⟩,⟨.zE,s⟩]) (.stop (hd f158 0) (uG d s 0 0 0)):=by kernel_rfl
theorem Mg (d:yA)(s:yC)(i3 i4 i5:Int):@Eq _ (xLp prog f158 [.int,.bool] 300 0 (uG d s i3 i4 i5)) (bif decide (i5<(d.zB.length:Int))then .zF (((0:Int)<=i5/\i5<(d.zB.length:Int))/\True) (.stop (hd f158 1) (uF d s i5 i3 i4 0))else .zF (U2/\U2) (.ret (i3,true))):=by kernel_rfl
theorem Mf (d:yA)(s:yC)(i5 i1 i2 i6:Int):@Eq _ (xLp prog f158 [.int,.bool] 300 1 (uF d s i5 i1 i2 i6)) (bif decide (i6<w64 ((d.zB.getD i5.toNat (Ty.dflt .zJ)).rows*(d.zB.getD i5.toNat (Ty.dflt .zJ)).zP))then .zF (((0:Int)<=i2/\i2<(s.cells.length:Int))/\True) (.zF (((0:Int)<=i2/\i2<(s.zL.length:Int))/\True) (.zF V4 (.zG 215 [⟨.cell,(s.cells.getD i2.toNat (Ty.dflt .cell))⟩] [.bool] λ(x:Bool)=>bif !x then .zF (U2/\U2) (.ret ((0:Int),false))else bif (s.cells.getD i2.toNat (Ty.dflt .cell)).cap != (d.zB.getD i5.toNat (Ty.dflt .zJ)).cap then .zF (U2/\U2) (.ret ((0:Int),false))else .zF V4 (.zG 216 [⟨.zW,(s.zL.getD i2.toNat (Ty.dflt .zW))⟩] [.bool] λ(x:Bool)=>bif !x then .zF (U2/\U2) (.ret ((0:Int),false))else bif (s.zL.getD i2.toNat (Ty.dflt .zW)).room != 8 then .zF (U2/\U2) (.ret ((0:Int),false))else bif (s.zL.getD i2.toNat (Ty.dflt .zW)).last != (s.cells.getD i2.toNat (Ty.dflt .cell)).ver then .zF (U2/\U2) (.ret ((0:Int),false))else bif decide (i6<(↑(d.zB.getD i5.toNat (Ty.dflt .zJ)).start.length:Int))then .zF (((0:Int)<=i6/\i6<(↑(d.zB.getD i5.toNat (Ty.dflt .zJ)).start.length:Int))/\True) (.stop (hd f158 1) (uF d s i5 (w64 (i1+(d.zB.getD i5.toNat (Ty.dflt .zJ)).start.getD i6.toNat (Ty.dflt .int))) (w64 (i2+1)) (w64 (i6+1))))else .stop (hd f158 1) (uF d s i5 i1 (w64 (i2+1)) (w64 (i6+1)))))))else .stop (hd f158 0) (uG d s i1 i2 (w64 (i5+1)))):=by kernel_rfl
def Fw (a b:yC)(i3:Int):AS:=mkS 109 [(2,.ptr 0 0),(3,.ptr 1 0),(7,i64 i3)] [(0,.box (sC a)),(1,.box (sC b))] 2
def Fx (a b:yC)(i2:Int):AS:=mkS 109 [(2,.ptr 0 0),(3,.ptr 1 0),(6,i64 i2)] [(0,.box (sC a)),(1,.box (sC b))] 2
def Fy (a b:yC)(i1:Int):AS:=mkS 109 [(2,.ptr 0 0),(3,.ptr 1 0),(5,i64 i1)] [(0,.box (sC a)),(1,.box (sC b))] 2
theorem t89x (a b:yC):@Eq _ (xSp prog f89 [.bool] 300 [⟨.zE,a⟩,⟨.zE,b⟩]) (bif (a.cells.length:Int) != (b.cells.length:Int)then .zF U2 (.ret false)else bif (a.zL.length:Int) != (b.zL.length:Int)then .zF U2 (.ret false)else bif (a.zK.length:Int) != (b.zK.length:Int)then .zF U2 (.ret false)else bif a.start != b.start then .zF U2 (.ret false)else bif a.zR != b.zR then .zF U2 (.ret false)else bif a.out != b.out then .zF U2 (.ret false)else .stop (hd f89 0) (Fy a b 0)):=by kernel_rfl
theorem OK (a b:yC)(i1:Int):@Eq _ (xLp prog f89 [.bool] 300 0 (Fy a b i1)) (bif decide (i1<(a.cells.length:Int))then .zF (((0:Int)<=i1/\i1<(a.cells.length:Int))/\True) (.zF (((0:Int)<=i1/\i1<(b.cells.length:Int))/\True) (bif ! ((a.cells.getD i1.toNat (Ty.dflt .cell)).cap==(b.cells.getD i1.toNat (Ty.dflt .cell)).cap&&((a.cells.getD i1.toNat (Ty.dflt .cell)).zS==(b.cells.getD i1.toNat (Ty.dflt .cell)).zS&&((a.cells.getD i1.toNat (Ty.dflt .cell)).ver==(b.cells.getD i1.toNat (Ty.dflt .cell)).ver&&true)))then .zF U2 (.ret false)else .stop (hd f89 0) (Fy a b (w64 (i1+1)))))else .stop (hd f89 1) (Fx a b 0)):=by kernel_rfl
theorem OJ (a b:yC)(i2:Int):@Eq _ (xLp prog f89 [.bool] 300 1 (Fx a b i2)) (bif decide (i2<(a.zL.length:Int))then .zF (((0:Int)<=i2/\i2<(a.zL.length:Int))/\True) (.zF (((0:Int)<=i2/\i2<(b.zL.length:Int))/\True) (.zF V4_4 (.zG 155 [⟨.zW,(a.zL.getD i2.toNat (Ty.dflt .zW))⟩,⟨.zW,(b.zL.getD i2.toNat (Ty.dflt .zW))⟩] [.bool] λ(x:Bool)=>bif !x then .zF U2 (.ret false)else .stop (hd f89 1) (Fx a b (w64 (i2+1))))))else .stop (hd f89 2) (Fw a b 0)):=by kernel_rfl
theorem OI (a b:yC)(i3:Int):@Eq _ (xLp prog f89 [.bool] 300 2 (Fw a b i3)) (bif decide (i3<(a.zK.length:Int))then .zF (((0:Int)<=i3/\i3<(a.zK.length:Int))/\True) (.zF (((0:Int)<=i3/\i3<(b.zK.length:Int))/\True) (bif ! ((a.zK.getD i3.toNat (Ty.dflt .zV)).state==(b.zK.getD i3.toNat (Ty.dflt .zV)).state&&((a.zK.getD i3.toNat (Ty.dflt .zV)).by'==(b.zK.getD i3.toNat (Ty.dflt .zV)).by'&&true))then .zF U2 (.ret false)else .stop (hd f89 2) (Fw a b (w64 (i3+1)))))else .zF U2 (.ret true)):=by kernel_rfl
def Fu (a b:yA)(i2:Int):AS:=mkS 151 [(2,.ptr 0 0),(3,.ptr 1 0),(8,i64 i2)] [(0,.box (dC a)),(1,.box (dC b))] 2
def Fv (a b:yA)(i1:Int):AS:=mkS 151 [(2,.ptr 0 0),(3,.ptr 1 0),(5,i64 i1)] [(0,.box (dC a)),(1,.box (dC b))] 2
theorem t90x (a b:yA):@Eq _ (xSp prog f90 [.bool] 300 [⟨.zI,a⟩,⟨.zI,b⟩]) (.zF bX (.zG 156 [⟨.sl .zQ,a.zA⟩,⟨.sl .zQ,b.zA⟩] [.bool] λ(x:Bool)=>bif !x then .zF U2 (.ret false)else bif (a.zB.length:Int) != (b.zB.length:Int)then .zF U2 (.ret false)else bif (a.zC.length:Int) != (b.zC.length:Int)then .zF U2 (.ret false)else bif a.zO != b.zO then .zF U2 (.ret false)else .stop (hd f90 0) (Fv a b 0))):=by kernel_rfl
theorem OH (a b:yA)(i1:Int):@Eq _ (xLp prog f90 [.bool] 300 0 (Fv a b i1)) (bif decide (i1<(a.zB.length:Int))then .zF (((0:Int)<=i1/\i1<(a.zB.length:Int))/\True) (.zF (((0:Int)<=i1/\i1<(b.zB.length:Int))/\True) (bif (a.zB.getD i1.toNat (Ty.dflt .zJ)).rows != (b.zB.getD i1.toNat (Ty.dflt .zJ)).rows then .zF U2 (.ret false)else bif (a.zB.getD i1.toNat (Ty.dflt .zJ)).zP != (b.zB.getD i1.toNat (Ty.dflt .zJ)).zP then .zF U2 (.ret false)else bif (a.zB.getD i1.toNat (Ty.dflt .zJ)).cap != (b.zB.getD i1.toNat (Ty.dflt .zJ)).cap then .zF U2 (.ret false)else .zF bX (.zG 20 [Sigma.mk (.sl .int) (a.zB.getD i1.toNat (Ty.dflt .zJ)).start,Sigma.mk (.sl .int) (b.zB.getD i1.toNat (Ty.dflt .zJ)).start] [.bool] λ(x:Bool)=>bif !x then .zF U2 (.ret false)else .zF gx (.zF gx (.zF bX (.zG 156 [Sigma.mk (.sl .zQ) [(a.zB.getD i1.toNat (Ty.dflt .zJ)).x,(a.zB.getD i1.toNat (Ty.dflt .zJ)).pitch,(a.zB.getD i1.toNat (Ty.dflt .zJ)).reach],Sigma.mk (.sl .zQ) [(b.zB.getD i1.toNat (Ty.dflt .zJ)).x,(b.zB.getD i1.toNat (Ty.dflt .zJ)).pitch,(b.zB.getD i1.toNat (Ty.dflt .zJ)).reach]] [.bool] λ(x:Bool)=>bif !x then .zF U2 (.ret false)else .stop (hd f90 0) (Fv a b (w64 (i1+1)))))))))else .stop (hd f90 1) (Fu a b 0)):=by kernel_rfl
theorem OG (a b:yA)(i2:Int):@Eq _ (xLp prog f90 [.bool] 300 1 (Fu a b i2)) (bif decide (i2<(a.zC.length:Int))then .zF (((0:Int)<=i2/\i2<(a.zC.length:Int))/\True) (.zF (((0:Int)<=i2/\i2<(b.zC.length:Int))/\True) (bif (a.zC.getD i2.toNat (Ty.dflt .zN)).rows != (b.zC.getD i2.toNat (Ty.dflt .zN)).rows then .zF U2 (.ret false)else bif (a.zC.getD i2.toNat (Ty.dflt .zN)).zP != (b.zC.getD i2.toNat (Ty.dflt .zN)).zP then .zF U2 (.ret false)else .zF gx (.zF gx (.zF bX (.zG 156 [Sigma.mk (.sl .zQ) [(a.zC.getD i2.toNat (Ty.dflt .zN)).x,(a.zC.getD i2.toNat (Ty.dflt .zN)).pitch,(a.zC.getD i2.toNat (Ty.dflt .zN)).reach],Sigma.mk (.sl .zQ) [(b.zC.getD i2.toNat (Ty.dflt .zN)).x,(b.zC.getD i2.toNat (Ty.dflt .zN)).pitch,(b.zC.getD i2.toNat (Ty.dflt .zN)).reach]] [.bool] λ(x:Bool)=>bif !x then .zF U2 (.ret false)else .stop (hd f90 1) (Fu a b (w64 (i2+1))))))))else .zF U2 (.ret true)):=by kernel_rfl
end Go.Proofs.Mn
