/- Own work: part WF of the proof. -/
import Derived.Test.YteaiflgcgpaclaaGreatDoorWE
set_option linter.unusedVariables false
set_option linter.unusedSimpArgs false
namespace Go.Proofs.Zn
open Go.Proofs.Tryz
open Go Go.VL
def du:Fl->Bool
 | none=>true
 | some b=>(FloatKind.f64.format.read b).isNaN
theorem Cb (d:Ieee.Datum):(d.order d != some .eq)=d.isNaN:=by
 cases d with
 | nan s t=>rfl
 | infinity s=>cases s<;>rfl
 | number s m i =>
   have:(Ieee.Datum.number s m i).order (Ieee.Datum.number s m i)=some .eq:=by
    simp only[Ieee.Datum.order]
    congr 1
    exact Std.ReflCmp.compare_self
   rw[this];rfl
theorem Bh (x:Fl):(Fl.cmp x x != some .eq)=du x:=by
 cases x with
 | none=>rfl
 | some b=>exact Cb (FloatKind.f64.format.read b)
theorem Aq (b:Nat):(FloatKind.f64.format.read b).isNaN=decide (b/4503599627370496%2048=2047/\b%4503599627370496≠0):=by
 have e1:FloatKind.f64.format.signWeight=9223372036854775808:=by decide
 have e2:FloatKind.f64.format.binade=4503599627370496:=by decide
 have e3:FloatKind.f64.format.infRung=9218868437227405312:=by decide
 simp only[Ieee.Format.read,e1,e2,e3]
 by_cases h1:b%9223372036854775808<4503599627370496
 ·rw[aE h1,dF (by omega)];rfl
 ·rw[aF h1]
  by_cases h2:b%9223372036854775808<9218868437227405312
  ·rw[aE h2,dF (by omega)];rfl
  ·rw[aF h2]
   by_cases h3:b%9223372036854775808=9218868437227405312
   ·rw[aE h3,dF (by omega)];rfl
   ·rw[aF h3,dT (by omega)];rfl
def Ql (p q r s:Bool):Int:=bif p&&q then 1 else bif p then 2 else bif r&&s then 3 else bif r then 4 else 5
theorem Qu (n:Nat):∃ r:Int,yJ prog 122 [⟨.u64,(n:Int)⟩] [.int] r/\(r==1)=du (some n):=by
 refine⟨Ql (Int.tmod (Int.fdiv (n:Int) (2^min 52 (IntKind.bits IntKind.u64))) 2048==2047) (Int.tmod (n:Int) 4503599627370496 != 0) (Int.tmod (Int.fdiv (n:Int) (2^min 52 (IntKind.bits IntKind.u64))) 2048==0) (Int.tmod (n:Int) 4503599627370496==0),?_,?_⟩
 ·refine ofT func122 (Mi n) (by kernel_rfl) (by kernel_rfl) λ A=>?_
  generalize (Int.tmod (Int.fdiv (n:Int) (2^min 52 (IntKind.bits IntKind.u64))) 2048==2047)=p
  generalize (Int.tmod (n:Int) 4503599627370496 != 0)=q
  generalize (Int.tmod (Int.fdiv (n:Int) (2^min 52 (IntKind.bits IntKind.u64))) 2048==0)=r
  generalize (Int.tmod (n:Int) 4503599627370496==0)=s
  refine⟨by decide,by decide,by decide,?_⟩
  cases p<;>cases q<;>cases r<;>cases s<;>exact⟨q2,rfl⟩
 ·have e1:(2:Int)^min 52 (IntKind.bits IntKind.u64)=4503599627370496:=by decide
  have e2:Int.tmod (Int.fdiv (n:Int) 4503599627370496) 2048=((n/4503599627370496%2048:Nat):Int):=by
   rw[gB _ (by decide),eS (by omega)];omega
  have e3:Int.tmod (n:Int) 4503599627370496=((n%4503599627370496:Nat):Int):=by
   rw[eS (by omega)];omega
  rw[e1,e2,e3]
  show _=(FloatKind.f64.format.read n).isNaN
  rw[Aq]
  generalize n/4503599627370496%2048=a
  generalize n%4503599627370496=c
  by_cases ha:a=2047
  ·subst ha
   by_cases hc:c=0
   ·subst hc;rfl
   ·have h1:((c:Int) != 0)=true:=by simpa using hc
    have h2:((c:Int)==0)=false:=by simpa using hc
    rw[h1,h2,dT ⟨rfl,hc⟩];rfl
  ·have h1:((a:Int)==2047)=false:=by simp;omega
   rw[h1,dF (λ h=>ha h.1)]
   generalize ((c:Int) != 0)=x
   generalize ((a:Int)==0)=y
   generalize ((c:Int)==0)=z
   cases x<;>cases y<;>cases z<;>rfl
theorem CW (x:Fl):yJ prog 264 [⟨.zQ,x⟩] [.bool] (du x):=by
 have key:∀ b:Nat,yJ prog 264 [⟨.zQ,some b⟩] [.bool] (du (some b)):=λ b=>by
  obtain⟨r,h1,h2⟩:=Qu b
  exact ofT func264 (Pt (some b)) (by kernel_rfl) (by kernel_rfl) λ _=>⟨⟨q2,tv⟩,_,c43 b,⟨q2,tv⟩,_,h1,q2,h2⟩
 cases x with
 | some b=>exact key b
 | none=>exact yJ.nan λ b hb=>(key b).eq hb
theorem c154 (x:Fl):∃ r:Int,yJ prog 119 [⟨.zQ,x⟩] [.int] r/\(r==1)=du x:=by
 have key:∀ b:Nat,∃ r:Int,yJ prog 119 [⟨.zQ,some b⟩] [.int] r/\(r==1)=du (some b)/\(du (some b)=true->r=1):=λ b=>by
  generalize hy:(some (bits BinOp.andNot IntKind.u64 (b:Int) 9223372036854775808).toNat:Fl)=y
  have c:=NC b
  rw[hy]at c
  refine⟨bif du (some b)then 1 else bif Fl.cmp y (some 9218868437227405311)==some Ordering.gt then 2 else bif Fl.cmp y (some 0)==some Ordering.eq then 3 else bif Fl.cmp y (some 4503599627370496)==some Ordering.lt then 4 else 5,?_,?_,λ h=>by rw[h];rfl⟩
  ·refine ofT func119 (RR (some b)) (by kernel_rfl) (by kernel_rfl) λ A=>⟨⟨q2,tv⟩,_,c,?_⟩
   rw[Bh]
   exact cZ (λ _=>⟨q2,rfl⟩) (λ _=>cZ (λ _=>⟨q2,rfl⟩) (λ _=>cZ (λ _=>⟨q2,rfl⟩) (λ _=>cZ (λ _=>⟨q2,rfl⟩) (λ _=>⟨q2,rfl⟩))))
  ·cases du (some b)
   ·cases Fl.cmp y (some 9218868437227405311)==some Ordering.gt<;>cases Fl.cmp y (some 0)==some Ordering.eq<;>cases Fl.cmp y (some 4503599627370496)==some Ordering.lt<;>rfl
   ·rfl
 cases x with
 | some b=>obtain⟨r,h1,h2,_⟩:=key b;exact⟨r,h1,h2⟩
 | none=>exact⟨1,yJ.nan λ b hb=>by
  obtain⟨r,h1,_,h3⟩:=key b
  exact h1.eq (h3 hb),rfl⟩
theorem Lh (x:Fl):yJ prog 251 [⟨.zQ,x⟩] [.bool] (du x):=by
 obtain⟨r,h1,h2⟩:=c154 x
 exact ofT func251 (t142 x) (by kernel_rfl) (by kernel_rfl) λ _=>⟨⟨q2,tv⟩,_,h1,q2,h2⟩
def mG (l:List Fl):Int:=(l.length:Int)-1
theorem Tp {l:List Fl}(h:l.length<=1000000):yJ prog 252 [⟨.sl .zQ,l⟩] [.int] (mG l):=
 ofT func252 (t143 l) (by kernel_rfl) (by kernel_rfl) λ _=>⟨q2,an (by omega) (by omega)⟩
def TU (l:List Fl)(x:Fl)(n i:Int):AS:=mkS 25 [(1,.d (.f x)),(5,i64 n),(11,.d (.sl .zQ l)),(12,i64 l.length),(13,i64 i)] [] 0
def TW (l:List Fl)(i:Int):AS:=mkS 35 [(0,.d (.sl .zQ l)),(13,.d (.sl .zQ l)),(14,i64 l.length),(15,i64 i)] [] 0
def TZ (l:List Fl)(i:Int):AS:=mkS 35 [(0,.d (.sl .zQ l)),(3,i64 i)] [] 0
def QM (l:List Fl)(a b:Fl)(out:List Int)(i:Int):AS:=mkS 72 [(0,.d (.sl .zQ l)),(6,.ptr 0 0),(9,.d (.f a)),(10,.d (.f b)),(11,.own 1 .int),(12,i64 i)] [(0,.box [i64 0,i64 0]),(1,.row 3 .int out)] 2
theorem RT (l:List Fl)(x:Fl)(n i:Int):@Eq _ (xLp prog f253 [.int] 200 0 (TU l x n i)) (bif decide (i<(l.length:Int))then .zF (((0:Int)<=i/\i<(l.length:Int))/\True) (bif ! (Fl.cmp (l.getD i.toNat Ty.zQ.dflt) x==some Ordering.lt||Fl.cmp (l.getD i.toNat Ty.zQ.dflt) x==some Ordering.eq)then .zF U2 (.ret n)else .stop (hd f253 0) (mkS 25 [(1,.d (.f x)),(5,i64 (w64 (n+1))),(11,.d (.sl .zQ l)),(12,i64 (l.length:Int)),(13,i64 (w64 (i+1)))] [] 0))else .zF U2 (.ret n)):=by kernel_rfl
theorem Sd (l:List Fl)(i:Int):@Eq _ (xLp prog f202 [.int] 200 0 (TW l i)) (bif decide (i<(l.length:Int))then .zF (((0:Int)<=i/\i<(l.length:Int))/\True) (.zF V2 (.zG 251 [⟨.zQ,(l.getD i.toNat Ty.zQ.dflt)⟩] [.bool] λ(x:Bool)=>bif x then .zF U2 (.ret (20:Int))else bif decide (i>0)then .zF (((0:Int)<=w64 (i-(1:Int))/\w64 (i-(1:Int))<(l.length:Int))/\True) (bif !Fl.cmp (l.getD (w64 (i-(1:Int))).toNat Ty.zQ.dflt) (l.getD i.toNat Ty.zQ.dflt)==some Ordering.lt then .zF U2 (.ret (70:Int))else .stop (hd f202 0) (mkS 35 [(0,.d (.sl .zQ l)),(13,.d (.sl .zQ l)),(14,i64 (l.length:Int)),(15,i64 (w64 (i+1)))] [] 0))else .stop (hd f202 0) (mkS 35 [(0,.d (.sl .zQ l)),(13,.d (.sl .zQ l)),(14,i64 (l.length:Int)),(15,i64 (w64 (i+1)))] [] 0)))else .zF U2 (.ret (0:Int))):=by kernel_rfl
theorem Sh (l:List Fl)(i:Int):@Eq _ (xLp prog f218 [.int] 200 0 (TZ l i)) (bif decide (i<(l.length:Int))then .zF (((0:Int)<=i/\i<(l.length:Int))/\True) (.zF V2 (.zG 264 [⟨.zQ,(l.getD i.toNat Ty.zQ.dflt)⟩] [.bool] λ(x:Bool)=>bif x then .zF U2 (.ret (20:Int))else bif decide (i>0)then .zF (((0:Int)<=i/\i<(l.length:Int))/\True) (.zF (((0:Int)<=w64 (i-(1:Int))/\w64 (i-(1:Int))<(l.length:Int))/\True) (bif Fl.cmp (l.getD i.toNat Ty.zQ.dflt) (l.getD (w64 (i-(1:Int))).toNat Ty.zQ.dflt)==some Ordering.lt||Fl.cmp (l.getD i.toNat Ty.zQ.dflt) (l.getD (w64 (i-(1:Int))).toNat Ty.zQ.dflt)==some Ordering.eq then .zF U2 (.ret (70:Int))else .stop (hd f218 0) (mkS 35 [(0,.d (.sl .zQ l)),(3,i64 (w64 (i+1)))] [] 0)))else .stop (hd f218 0) (mkS 35 [(0,.d (.sl .zQ l)),(3,i64 (w64 (i+1)))] [] 0)))else .zF U2 (.ret (0:Int))):=by kernel_rfl
theorem Si (l:List Fl)(a b:Fl)(out:List Int)(i:Int):@Eq _ (xLp prog f255 [.span,.int] 200 0 (QM l a b out i)) (bif decide (w64 (i+1)<(l.length:Int))then .zF uz (.zG 288 [⟨.sl .zQ,l⟩,⟨.int,i⟩,⟨.zQ,a⟩,⟨.zQ,b⟩] [.bool] λ(x:Bool)=>bif x then .zF V2 (.zF ((out.length+List.length [i])*9<=35184372088832/\True) (.stop (hd f255 0) (mkS 72 [(0,.d (.sl .zQ l)),(6,.ptr 0 0),(9,.d (.f a)),(10,.d (.f b)),(11,.own 1 .int),(12,i64 (w64 (i+1)))] [(0,.box [i64 0,i64 0]),(1,.row 3 .int (out++[i]))] 2)))else .stop (hd f255 0) (mkS 72 [(0,.d (.sl .zQ l)),(6,.ptr 0 0),(9,.d (.f a)),(10,.d (.f b)),(11,.own 1 .int),(12,i64 (w64 (i+1)))] [(0,.box [i64 0,i64 0]),(1,.row 3 .int out)] 2))else bif (out.length:Int)==0 then .zF (U3/\U2) (.ret (yG.mk 0 0,(71:Int)))else .zF ((0:Int)<=0/\(0:Int)<(out.length:Int)) (.zF (0<out.length) (.zF ((0:Int)<=w64 ((out.length:Int)-(1:Int))/\w64 ((out.length:Int)-(1:Int))<(out.length:Int)) (.zF ((w64 ((out.length:Int)-(1:Int))).toNat<out.length) (.zF (U3/\U2) (.ret (yG.mk (out.getD 0 Ty.int.dflt) (out.getD (w64 ((out.length:Int)-(1:Int))).toNat Ty.int.dflt),(0:Int)))))))):=by kernel_rfl
end Go.Proofs.Zn
set_option exponentiation.threshold 4096
namespace Go.Proofs.Zn
open Go.Proofs.Tryz
open Go Go.VL
def big:Nat:=2^2999
theorem ur:2^53*2^2046<=big:=by
 rw[<-eL];exact aT (by decide) (by decide)
attribute [irreducible] big
def eK:Int:=FloatKind.f64.format.leastPlace
def oG:Ieee.Datum->Int
 | .number s m i=>Ieee.signed s m (i-eK).toNat
 | .infinity s=>bif s then -(big:Int)else big
 | .nan _ _=>0
def NU:Ieee.Datum->Prop
 | .number _ m i=>m<2^53/\eK<=i/\i<=eK+2046
 | _=>True
theorem vj (b:Nat):NU (FloatKind.f64.format.read b):=by
 have e1:FloatKind.f64.format.signWeight=9223372036854775808:=by decide
 have e2:FloatKind.f64.format.binade=4503599627370496:=by decide
 have e3:FloatKind.f64.format.infRung=9218868437227405312:=by decide
 simp only[Ieee.Format.read,e1,e2,e3]
 by_cases h1:b%9223372036854775808<4503599627370496
 ·rw[aE h1];exact⟨by omega,iy _,(by show eK<=eK+2046;omega)⟩
 ·rw[aF h1]
  by_cases h2:b%9223372036854775808<9218868437227405312
  ·rw[aE h2]
   refine⟨by omega,?_,?_⟩
   ·show eK<=eK+_;omega
   ·show eK+_<=eK+2046;omega
  ·rw[aF h2]
   by_cases h3:b%9223372036854775808=9218868437227405312
   ·rw[aE h3];trivial
   ·rw[aF h3];trivial
theorem gH (s:Bool)(m k:Nat):Ieee.signed s m k=(bif s then -1 else 1)*((m*2^k:Nat):Int):=by
 simp only[Ieee.signed,mm]
 cases s<;>simp
theorem Nt {a b p:Int}(hp:0<p):compare (a*p) (b*p)=compare a b:=by
 simp only[compare,compareOfLessAndEq]
 have h1:a*p<b*p↔a<b:=⟨λ h=>Int.lt_of_mul_lt_mul_right h (Int.le_of_lt hp),λ h=>Int.mul_lt_mul_of_pos_right h hp⟩
 have h2:a*p=b*p↔a=b:=⟨λ h=>Int.eq_of_mul_eq_mul_right (Int.ne_of_gt hp) h,λ h=>by rw[h]⟩
 simp only[h1,h2]
theorem pE (s:Bool)(m k d:Nat):Ieee.signed s m (k+d)=Ieee.signed s m k*2^d:=by
 rw[gH,gH,Int.mul_assoc]
 congr 1
 rw[eL,<-dx]
 simp
theorem wl {s:Bool}{m:Nat}{i:Int}(h:NU (.number s m i)) : -(big:Int)<oG (.number s m i)/\oG (.number s m i)<(big:Int):=by
 obtain⟨h1,h2,h3⟩:=h
 have hk:(i-eK).toNat<=2046:=by omega
 show -(big:Int)<Ieee.signed s m (i-eK).toNat/\Ieee.signed s m (i-eK).toNat<(big:Int)
 generalize (i-eK).toNat=k at *
 have hb:m*2^k<big:=by
  have g1:2^k<=2^2046:=aT (by decide) hk
  have g2:m*2^k<=m*2^2046:=ch _ g1
  have g3:m*2^2046<2^53*2^2046:=gi h1 (de (by decide))
  exact Nat.lt_of_le_of_lt g2 (cG g3 ur)
 rw[gH]
 generalize m*2^k=z at *
 cases s
 ·rw[cF];omega
 ·rw[cT];omega
theorem Gw {d e:Ieee.Datum}(hd:NU d)(he:NU e)(h1:d.isNaN=false)(h2:e.isNaN=false):d.order e=some (compare (oG d) (oG e)):=by
 have lt:∀ {a b:Int},a<b->compare a b=.lt:=λ {a b} h=>by simp only[compare,compareOfLessAndEq];rw[aE h]
 have gt:∀ {a b:Int},b<a->compare a b=.gt:=λ {a b} h=>by simp only[compare,compareOfLessAndEq];rw[aF (by omega),aF (by omega)]
 have eq:∀ {a:Int},compare a a=.eq:=λ {a}=>Std.ReflCmp.compare_self
 have hbig:(0:Int)<(big:Int):=by
  have:=ur
  have h0:0<2^53*2^2046:=lB (de (by decide)) (de (by decide))
  exact Int.ofNat_lt.2 (cG h0 this)
 cases d with
 | nan s t=>cases h1
 | infinity s =>
   cases e with
   | nan s t=>cases h2
   | infinity t =>
     show some _=some (compare (bif s then -(big:Int)else big) (bif t then -(big:Int)else big))
     cases s<;>cases t
     ·rw[cF,eq];rfl
     ·rw[cF,cT,gt (by omega)];rfl
     ·rw[cF,cT,lt (by omega)];rfl
     ·rw[cT,eq];rfl
   | number t n j =>
     obtain⟨k1,k2⟩:=wl he
     show some _=some (compare (bif s then -(big:Int)else big) (oG (.number t n j)))
     cases s
     ·rw[cF,gt k2];rfl
     ·rw[cT,lt k1];rfl
 | number s m i =>
   cases e with
   | nan s t=>cases h2
   | infinity t =>
     obtain⟨k1,k2⟩:=wl hd
     show some _=some (compare (oG (.number s m i)) (bif t then -(big:Int)else big))
     cases t
     ·rw[cF,lt k2];rfl
     ·rw[cT,gt k1];rfl
   | number t n j =>
     obtain⟨_,a2,_⟩:=hd
     obtain⟨_,b2,_⟩:=he
     show some (compare (Ieee.signed s m (i-min i j).toNat) (Ieee.signed t n (j-min i j).toNat))=some (compare (Ieee.signed s m (i-eK).toNat) (Ieee.signed t n (j-eK).toNat))
     have e1:(i-eK).toNat=(i-min i j).toNat+(min i j-eK).toNat:=by omega
     have e2:(j-eK).toNat=(j-min i j).toNat+(min i j-eK).toNat:=by omega
     rw[e1,e2,pE,pE,Nt (Int.pow_pos (by decide))]
def cR:Fl->Int
 | none=>0
 | some b=>oG (FloatKind.f64.format.read b)
theorem mN {x y:Fl}(hx:du x=false)(hy:du y=false):Fl.cmp x y=some (compare (cR x) (cR y)):=by
 cases x with
 | none=>cases hx
 | some a => cases y with
   | none=>cases hy
   | some b=>exact Gw (vj a) (vj b) hx hy
end Go.Proofs.Zn
namespace Go.Proofs.Zn
open Go.Proofs.Tryz
open Go Go.VL
def ltF (x y:Fl):Bool:=Fl.cmp x y==some Ordering.lt
def leF (x y:Fl):Bool:=Fl.cmp x y==some Ordering.lt||Fl.cmp x y==some Ordering.eq
theorem mE {x y:Fl}(hx:du x=false)(hy:du y=false):ltF x y=decide (cR x<cR y):=by
 rw[ltF,mN hx hy]
 simp only[compare,compareOfLessAndEq]
 by_cases h:cR x<cR y
 ·rw[aE h,dT h];rfl
 ·rw[aF h,dF h]
  by_cases h2:cR x=cR y
  ·rw[aE h2];rfl
  ·rw[aF h2];rfl
theorem ss {x y:Fl}(hx:du x=false)(hy:du y=false):leF x y=decide (cR x<=cR y):=by
 rw[leF,mN hx hy]
 simp only[compare,compareOfLessAndEq]
 by_cases h:cR x<cR y
 ·rw[aE h,dT (by omega)];rfl
 ·rw[aF h]
  by_cases h2:cR x=cR y
  ·rw[aE h2,dT (by omega)];rfl
  ·rw[aF h2,dF (by omega)];rfl
def mh:Option Fl->List Fl->Int
 | _,[]=>0
 | p, x :: r => bif du x then 20 else match p with
   | none=>mh (some x) r
   | some q=>bif ltF q x then mh (some x) r else 70
def chkN (p:Option Fl)(x:Fl)(k:Int):Int:=match p with
 | none=>k
 | some q=>bif ltF q x then k else 70
theorem ql (p:Option Fl)(x:Fl)(r:List Fl):mh p (x::r)=bif du x then 20 else chkN p x (mh (some x) r):=by
 cases p<;>rfl
def nv (l:List Fl)(i:Nat):Option Fl:=match i with|0=>none|i+1=>l[i]?
def dj (l:List Fl):Int:=bif decide ((l.length:Int)<2)then 1 else bif decide ((l.length:Int)>25)then 2 else mh none l
theorem xF {l:List Fl}(hl:l.length<=25){r:Int}{A:Pr}(hA:CL codes sigs f202 [.int] r A)
  (i:Nat) (hi:i<=l.length) (h:mh (nv l i) (l.drop i)=r):A (hd f202 0) (TW l i):=by
 refine hA.go (Sd l i) (ae (λ h1=>?_) (λ h1=>?_))
 ·have h1:=oT h1
  have hil:i<l.length:=by omega
  rw[aY hil]
  rw[dG hil,ql]at h
  refine⟨⟨⟨by omega,by omega⟩,tv⟩,⟨⟨tv,tv⟩,tv⟩,_,Lh _,ae (λ h2=>⟨⟨tv,tv⟩,?_⟩) (λ h2=>?_)⟩
  ·rw[h2]at h;exact h
  ·rw[h2,cF]at h
   rw[aq (by omega)]
   cases i with
   | zero =>
     refine ae (λ h3=>by cases h3) (λ _=>?_)
     exact xF hl hA 1 (by omega) (by rw[show nv l 1=some l[0] from ai hil];exact h)
   | succ j =>
     have hj:j<l.length:=by omega
     have ep:nv l (j+1)=some l[j]:=ai hj
     have en:nv l (j+1+1)=some l[j+1]:=ai hil
     rw[ep]at h
     have ew:w64 (((j+1:Nat):Int)-1)=(j:Int):=by rw[an (by omega) (by omega)];omega
     refine ae (λ _=>?_) (λ h3=>absurd (oF h3) (by omega))
     rw[ew,aY hj]
     refine⟨⟨⟨by omega,by omega⟩,tv⟩,ae (λ h4=>⟨⟨tv,tv⟩,?_⟩) (λ h4=>?_)⟩
     ·have h4:ltF l[j] l[j+1]=false:=nt h4
      have h:(bif ltF l[j] l[j+1]then mh (some l[j+1]) (l.drop (j+1+1))else 70)=r:=h
      rw[h4]at h;exact h
     ·have h4:ltF l[j] l[j+1]=true:=nf h4
      have h:(bif ltF l[j] l[j+1]then mh (some l[j+1]) (l.drop (j+1+1))else 70)=r:=h
      rw[h4,cT]at h
      exact xF hl hA (j+1+1) (by omega) (by rw[en];exact h)
 ·have h1:=oF h1
  refine⟨⟨tv,tv⟩,?_⟩
  rw[dN (by omega)]at h
  generalize nv l i=p at h
  cases p<;>exact h
termination_by l.length-i
theorem Tu (l:List Fl):yJ prog 202 [⟨.sl .zQ,l⟩] [.int] (dj l):=
 pcl codes sigs func202 (by kernel_rfl) λ A hA=>hA.go (t125 l) (by
  refine ae (λ h=>⟨q2,?_⟩) (λ h=>ae (λ h2=>⟨q2,?_⟩) (λ h2=>?_))
  ·rw[dj,h];rfl
  ·rw[dj,h,h2];rfl
  ·have:=oF h2
   exact xF (by omega) hA 0 (by omega) (by rw[dj,h,h2];rfl))
theorem xH {l:List Fl}(hl:l.length<=25){r:Int}{A:Pr}(hA:CL codes sigs f218 [.int] r A)
  (i:Nat) (hi:i<=l.length) (hp:∀ q,nv l i=some q->du q=false) (h:mh (nv l i) (l.drop i)=r):A (hd f218 0) (TZ l i):=by
 refine hA.go (Sh l i) (ae (λ h1=>?_) (λ h1=>?_))
 ·have h1:=oT h1
  have hil:i<l.length:=by omega
  rw[aY hil]
  rw[dG hil,ql]at h
  refine⟨⟨⟨by omega,by omega⟩,tv⟩,⟨⟨tv,tv⟩,tv⟩,_,CW _,ae (λ h2=>⟨⟨tv,tv⟩,?_⟩) (λ h2=>?_)⟩
  ·rw[h2]at h;exact h
  ·rw[h2,cF]at h
   rw[aq (by omega)]
   cases i with
   | zero =>
     have e0:nv l 1=some l[0]:=ai hil
     refine ae (λ h3=>by cases h3) (λ _=>?_)
     exact xH hl hA 1 (by omega) (λ q hq=>by rw[e0]at hq;cases hq;exact h2) (by rw[e0];exact h)
   | succ j =>
     have hj:j<l.length:=by omega
     have ep:nv l (j+1)=some l[j]:=ai hj
     have en:nv l (j+1+1)=some l[j+1]:=ai hil
     have hq:=hp _ ep
     rw[ep]at h
     have ew:w64 (((j+1:Nat):Int)-1)=(j:Int):=by rw[an (by omega) (by omega)];omega
     refine ae (λ _=>?_) (λ h3=>absurd (oF h3) (by omega))
     rw[ew,aY hj]
     have h:(bif ltF l[j] l[j+1]then mh (some l[j+1]) (l.drop (j+1+1))else 70)=r:=h
     rw[mE hq h2]at h
     refine⟨⟨⟨by omega,by omega⟩,tv⟩,⟨⟨by omega,by omega⟩,tv⟩,ae (λ h4=>⟨⟨tv,tv⟩,?_⟩) (λ h4=>?_)⟩
     ·have h4:leF l[j+1] l[j]=true:=h4
      rw[ss h2 hq]at h4
      have h4:=oT h4
      rw[dF (by omega)]at h;exact h
     ·have h4:leF l[j+1] l[j]=false:=h4
      rw[ss h2 hq]at h4
      have h4:=oF h4
      rw[dT (by omega),cT]at h
      exact xH hl hA (j+1+1) (by omega) (λ q hq=>by rw[en]at hq;cases hq;exact h2) (by rw[en];exact h)
 ·have h1:=oF h1
  refine⟨⟨tv,tv⟩,?_⟩
  rw[dN (by omega)]at h
  generalize nv l i=p at h
  cases p<;>exact h
termination_by l.length-i
theorem NG (l:List Fl):yJ prog 218 [⟨.sl .zQ,l⟩] [.int] (dj l):=
 pcl codes sigs func218 (by kernel_rfl) λ A hA=>hA.go (PA l) (by
  refine ae (λ h=>⟨q2,?_⟩) (λ h=>ae (λ h2=>⟨q2,?_⟩) (λ h2=>?_))
  ·rw[dj,h];rfl
  ·rw[dj,h,h2];rfl
  ·have:=oF h2
   exact xH (by omega) hA 0 (by omega) (λ q hq=>by cases hq) (by rw[dj,h,h2];rfl))
def vc (m:List Fl)(x:Fl):Nat:=(m.takeWhile λ b=>leF b x).length
def ci (l:List Fl)(x:Fl):Nat:=vc (l.take (l.length-1)) x
theorem yh (m:List Fl)(x:Fl):vc m x<=m.length:=(List.takeWhile_sublist _).length_le
theorem Es {m:List Fl}{x:Fl}(hl:m.length<=1000){r:Int}{A:Pr}(hA:CL codes sigs f253 [.int] r A)
  (i:Nat) (hi:i<=m.length) (h:((i+vc (m.drop i) x:Nat):Int)=r):A (hd f253 0) (TU m x i i):=by
 refine hA.go (RT m x i i) (ae (λ h1=>?_) (λ h1=>?_))
 ·have h1:=oT h1
  have hil:i<m.length:=by omega
  rw[aY hil]
  rw[dG hil,vc,dH]at h
  refine⟨⟨⟨by omega,by omega⟩,tv⟩,ae (λ h2=>⟨⟨tv,tv⟩,?_⟩) (λ h2=>?_)⟩
  ·have h2:leF m[i] x=false:=nt h2
   rw[h2]at h
   exact h
  ·have h2:leF m[i] x=true:=nf h2
   rw[h2]at h
   rw[aq (by omega)]
   exact Es hl hA (i+1) (by omega) (by rw[<-h];simp[vc];omega)
 ·have h1:=oF h1
  refine⟨⟨tv,tv⟩,?_⟩
  rw[dN (by omega)]at h
  exact h
termination_by m.length-i
theorem ND {l:List Fl}{x:Fl}(h1:1<=l.length)(h2:l.length<=1000):yJ prog 253 [⟨.sl .zQ,l⟩,⟨.zQ,x⟩] [.int] ((ci l x:Nat):Int):=
 pcl codes sigs func253 (by kernel_rfl) λ A hA=>hA.go (Pw l x) (by
  refine⟨⟨q2,tv⟩,_,Tp (by omega),⟨⟨by omega,by unfold mG;omega,by unfold mG;omega⟩,tv⟩,?_⟩
  have e:(List.take (mG l).toNat l).drop 0=l.take (l.length-1):=by
   rw[bE];congr 1;unfold mG;omega
  rw[e]
  exact Es (x:=x) (by rw[aD];omega) hA 0 (by omega) (by rw[bE,cE];rfl))
def gtF (x y:Fl):Bool:=Fl.cmp x y==some Ordering.gt
theorem Nk {x y:Fl}(hx:du x=false)(hy:du y=false):gtF x y=decide (cR y<cR x):=by
 rw[gtF,mN hx hy]
 simp only[compare,compareOfLessAndEq]
 by_cases h:cR x<cR y
 ·rw[aE h,dF (by omega)];rfl
 ·rw[aF h]
  by_cases h2:cR x=cR y
  ·rw[aE h2,dF (by omega)];rfl
  ·rw[aF h2,dT (by omega)];rfl
abbrev no (e:Int):yG×Int:=(⟨0,0⟩,e)
abbrev loF (x r:Fl):Fl:=Fl.arith BinOp.sub x r
abbrev hiF (x r:Fl):Fl:=Fl.arith BinOp.add x r
def inS (l:List Fl)(a b:Fl):yG×Int:=
 bif ltF b (l.getD 0 (some 0))then no 71 else bif gtF a (l.getD (l.length-1) (some 0))then no 71 else(⟨((max (ci l a) 1:Nat):Int)-1,((ci l b:Nat):Int)-1⟩,0)
def lM (l:List Fl)(x r:Fl):yG×Int:=
 bif dj l != 0 then no (dj l)else bif du x then no 20 else bif du r then no 20 else bif ltF r (some 0)then no 22 else bif du (loF x r)then no 20 else bif du (hiF x r)then no 20 else inS l (loF x r) (hiF x r)
theorem kq {l:List Fl}(h:dj l=0):2<=l.length/\l.length<=25:=by
 unfold dj at h
 by_cases h1:(l.length:Int)<2
 ·rw[dT h1,cT]at h;cases h
 ·rw[dF h1,cF]at h
  by_cases h2:(l.length:Int)>25
  ·rw[dT h2,cT]at h;cases h
  ·omega
theorem NI (l:List Fl)(x r:Fl):yJ prog 206 [⟨.sl .zQ,l⟩,⟨.zQ,x⟩,⟨.zQ,r⟩] [.span,.int] (lM l x r):=
 ofT func206 (t119 l x r) (by kernel_rfl) (by kernel_rfl) λ A=>by
  have N1:U2/\True:=⟨q2,tv⟩
  have N2:U2/\U2/\True:=⟨q2,q2,tv⟩
  have N3:U3/\U2:=⟨q3,tv,tv⟩
  refine⟨N1,_,Tu l,cZ (λ _=>⟨N3,rfl⟩) (λ hc=>⟨N1,_,Lh x,cZ (λ _=>⟨N3,rfl⟩) (λ _=>⟨N1,_,Lh r,cZ (λ _=>⟨N3,rfl⟩) (λ _=>cZ (λ _=>⟨N3,rfl⟩) (λ _=>⟨N1,_,Lh _,cZ (λ _=>⟨N3,rfl⟩) (λ _=>⟨N1,_,Lh _,cZ (λ _=>⟨N3,rfl⟩) (λ _=>?_)⟩)⟩))⟩)⟩)⟩
  have hc:dj l=0:=by simpa using hc
  obtain⟨l2,l25⟩:=kq hc
  refine⟨⟨⟨by omega,by omega⟩,tv⟩,cZ (λ _=>⟨N3,rfl⟩) (λ _=>⟨N1,_,Tp (by omega),⟨⟨by unfold mG;omega,by unfold mG;omega⟩,tv⟩,?_⟩)⟩
  have e:(mG l).toNat=l.length-1:=by unfold mG;omega
  rw[e]
  refine cZ (λ _=>⟨N3,rfl⟩) (λ _=>⟨N2,_,ND (by omega) (by omega),N2,_,ND (by omega) (by omega),N3,?_⟩)
  have b1:=yh (l.take (l.length-1)) (loF x r)
  have b2:=yh (l.take (l.length-1)) (hiF x r)
  rw[aD]at b1 b2
  have e1:w64 ((if 1>((ci l (loF x r):Nat):Int)then 1 else((ci l (loF x r):Nat):Int))-1)=((max (ci l (loF x r)) 1:Nat):Int)-1:=by
   unfold ci
   split
   ·rw[an (by omega) (by omega)];omega
   ·rw[an (by omega) (by omega)];omega
  have e2:w64 (((ci l (hiF x r):Nat):Int)-1)=((ci l (hiF x r):Nat):Int)-1:=by
   unfold ci
   exact an (by omega) (by omega)
  show((⟨w64 ((if 1>((ci l (loF x r):Nat):Int)then 1 else((ci l (loF x r):Nat):Int))-1),w64 (((ci l (hiF x r):Nat):Int)-1)⟩:yG),(0:Int))=_
  rw[e1,e2]
def geF (x y:Fl):Bool:=Fl.cmp x y==some Ordering.gt||Fl.cmp x y==some Ordering.eq
def oV (l:List Fl)(k:Nat)(a b:Fl):Bool:=
 bif (k+2==l.length)then(bif leF a (l.getD (k+1) (some 0))then geF b (l.getD k (some 0))else false)else(bif ltF a (l.getD (k+1) (some 0))then geF b (l.getD k (some 0))else false)
theorem Qv {l:List Fl}{k:Nat}{a b:Fl}(hk:k+1<l.length)(hl:l.length<=25):yJ prog 288 [⟨.sl .zQ,l⟩,⟨.int,(k:Int)⟩,⟨.zQ,a⟩,⟨.zQ,b⟩] [.bool] (oV l k a b):=
 ofT func288 (Pp l k a b) (by kernel_rfl) (by kernel_rfl) λ A=>by
  have w1:w64 ((k:Int)+1)=((k+1:Nat):Int):=aq (by omega)
  have w2:w64 ((k:Int)+2)=((k+2:Nat):Int):=by rw[an (by omega) (by omega)];rfl
  have e:(((k+2:Nat):Int)==(l.length:Int))=(k+2==l.length):=by
   by_cases h:k+2=l.length
   ·rw[h];simp
   ·have h1:(k+2==l.length)=false:=by simpa using h
    rw[h1];simp;omega
  rw[w1,w2,e,au,au]
  have I1:((0:Int)<=((k+1:Nat):Int)/\((k+1:Nat):Int)<(l.length:Int))/\True:=⟨⟨by omega,by omega⟩,tv⟩
  have I0:((0:Int)<=(k:Int)/\(k:Int)<(l.length:Int))/\True:=⟨⟨by omega,by omega⟩,tv⟩
  exact cZ (λ _=>⟨I1,cZ (λ _=>⟨I0,q2,rfl⟩) (λ _=>⟨q2,rfl⟩)⟩) (λ _=>⟨I1,cZ (λ _=>⟨I0,q2,rfl⟩) (λ _=>⟨q2,rfl⟩)⟩)
def pz (l:List Fl)(a b:Fl):Nat->List Int
 | 0=>[]
 | k+1=>bif oV l k a b then pz l a b k++[(k:Int)]else pz l a b k
theorem Do (l:List Fl)(a b:Fl):∀ k,(pz l a b k).length<=k
 | 0=>aI _
 | k + 1 => by
   have:=Do l a b k
   rw[pz]
   cases oV l k a b
   ·rw[cF];omega
   ·rw[cT,al];simp;omega
def Aj (out:List Int):yG×Int:=bif (out.length:Int)==0 then no 71 else(⟨out.getD 0 0,out.getD (out.length-1) 0⟩,0)
theorem xI {l:List Fl}(h2:2<=l.length)(hl:l.length<=25)(a b:Fl){r:yG×Int}(hr:r=Aj (pz l a b (l.length-1))){A:Pr}(hA:CL codes sigs f255 [.span,.int] r A)
  (i:Nat) (hi:i<=l.length-1):A (hd f255 0) (QM l a b (pz l a b i) i):=by
 refine hA.go (Si l a b _ i) ?_
 rw[aq (by omega)]
 have ht:=Do l a b i
 refine ae (λ h1=>?_) (λ h1=>?_)
 ·have h1:=oT h1
  refine⟨⟨⟨tv,tv⟩,⟨tv,tv⟩,⟨tv,tv⟩,⟨tv,tv⟩,tv⟩,_,Qv (by omega) hl,ae (λ h3=>⟨⟨⟨tv,tv⟩,tv⟩,⟨by simp only[af,ak];omega,tv⟩,?_⟩) (λ h3=>?_)⟩
  ·have:=xI h2 hl a b hr hA (i+1) (by omega)
   rw[pz,h3]at this
   exact this
  ·have:=xI h2 hl a b hr hA (i+1) (by omega)
   rw[pz,h3]at this
   exact this
 ·have h1:=oF h1
  have e:i=l.length-1:=by omega
  rw[<-e]at hr
  generalize pz l a b i=out at *
  have N3:(True/\True/\True)/\True/\True:=⟨⟨tv,tv,tv⟩,tv,tv⟩
  subst hr
  refine ae (λ h=>⟨N3,?_⟩) (λ h=>?_)
  ·show no 71=_
   rw[Aj,h];rfl
  ·have hpos:0<out.length:=by
    rcases eR out.length with h0|h0
    ·rw[h0]at h;cases h
    ·exact h0
   have ew:w64 ((out.length:Int)-1)=((out.length-1:Nat):Int):=by rw[an (by omega) (by omega)];omega
   rw[ew,au]
   refine⟨⟨by omega,by omega⟩,hpos,⟨by omega,by omega⟩,by omega,N3,?_⟩
   show((⟨out.getD 0 0,out.getD (out.length-1) 0⟩:yG),(0:Int))=_
   rw[Aj,h];rfl
termination_by l.length-i
def fW (l:List Fl)(x r:Fl):yG×Int:=
 bif dj l != 0 then no (dj l)else bif du x then no 20 else bif du r then no 20 else bif ltF r (some 0)then no 22 else bif du (loF x r)then no 20 else bif du (hiF x r)then no 20 else Aj (pz l (loF x r) (hiF x r) (l.length-1))
theorem NH (l:List Fl)(x r:Fl):yJ prog 255 [⟨.sl .zQ,l⟩,⟨.zQ,x⟩,⟨.zQ,r⟩] [.span,.int] (fW l x r):=
 pcl codes sigs func255 (by kernel_rfl) λ A hA=>hA.go (PB l x r) (by
  have N1:U2/\True:=⟨q2,tv⟩
  have N3:U3/\U2:=⟨q3,tv,tv⟩
  refine⟨N1,_,NG l,ae (λ h1=>⟨N3,?_⟩) (λ h1=>⟨N1,_,CW x,ae (λ h2=>⟨N3,?_⟩) (λ h2=>⟨N1,_,CW r,ae (λ h3=>⟨N3,?_⟩) (λ h3=>ae (λ h4=>⟨N3,?_⟩) (λ h4=>⟨N1,_,CW _,ae (λ h5=>⟨N3,?_⟩) (λ h5=>⟨N1,_,CW _,ae (λ h6=>⟨N3,?_⟩) (λ h6=>?_)⟩)⟩))⟩)⟩)⟩
  ·rw[fW,h1];rfl
  ·rw[fW,h1,h2];rfl
  ·rw[fW,h1,h2,h3];rfl
  ·have h4:ltF r (some 0)=true:=h4
   rw[fW,h1,h2,h3,h4];rfl
  ·have h4:ltF r (some 0)=false:=h4
   rw[fW,h1,h2,h3,h4,h5];rfl
  ·have h4:ltF r (some 0)=false:=h4
   rw[fW,h1,h2,h3,h4,h5,h6];rfl
  ·have h4:ltF r (some 0)=false:=h4
   have hc:dj l=0:=by simpa using h1
   obtain⟨l2,l25⟩:=kq hc
   refine hA.row 11 3 .int (by kernel_rfl) (s':=QM l (loF x r) (hiF x r) [] 0) (by kernel_rfl) ?_
   exact xI l2 l25 (loF x r) (hiF x r) (by rw[fW,h1,h2,h3,h4,h5,h6];rfl) hA 0 (by omega))
theorem Bj:∀ (l:List Fl) (q:Fl),du q=false->mh (some q) l=0->(∀ x∈q::l,du x=false)/\List.Pairwise (λ x y=>cR x<cR y) (q::l)
 | [],q,hq,_=>⟨λ x hx=>by simp at hx;subst hx;exact hq,iv _ _⟩
 | x :: r, q, hq, h => by
   rw[ql]at h
   cases hx:du x with
   | true=>rw[hx]at h;cases h
   | false =>
     rw[hx,cF]at h
     have h:(bif ltF q x then mh (some x) r else 70)=0:=h
     cases hl:ltF q x with
     | false=>rw[hl]at h;cases h
     | true =>
       rw[hl,cT]at h
       obtain⟨i1,i2⟩:=Bj r x hx h
       rw[mE hq hx]at hl
       have hl:=oT hl
       refine⟨λ y hy=>?_,aR.2 ⟨λ y hy=>?_,i2⟩⟩
       ·rcases aB.1 hy with rfl|hy
        ·exact hq
        ·exact i1 y hy
       ·rcases aB.1 hy with rfl|hy
        ·exact hl
        ·have:=(aR.1 i2).1 y hy;omega
theorem ul {l:List Fl}(h:dj l=0):(∀ x∈l,du x=false)/\List.Pairwise (λ x y=>cR x<cR y) l:=by
 obtain⟨h2,h25⟩:=kq h
 have h:mh none l=0:=by
  unfold dj at h
  rw[dF (by omega),cF,dF (by omega),cF]at h
  exact h
 cases l with
 | nil=>simp at h2
 | cons x r =>
   rw[ql]at h
   cases hx:du x with
   | true=>rw[hx]at h;cases h
   | false=>rw[hx,cF]at h;exact Bj r x hx h
theorem EV {x:Fl}(hx:du x=false):∀ (m:List Fl),(∀ y∈m,du y=false)->List.Pairwise (λ x y=>cR x<cR y) m->∀ (k:Nat) (h:k<m.length),cR m[k]<=cR x↔k<vc m x
 | [],_,_,k,h=>by simp at h
 | c :: m, hn, hp, k, h => by
   have hc:=hn c (.head _)
   have e:vc (c::m) x=if leF c x then vc m x+1 else 0:=by
    rw[vc,dH]
    cases leF c x<;>simp[vc]
   rw[e,ss hc hx]
   have ih:=EV hx m (λ y hy=>hn y (.tail _ hy)) (aR.1 hp).2
   by_cases hle:cR c<=cR x
   ·rw[dT hle,aE rfl]
    cases k with
    | zero=>exact⟨λ _=>by omega,λ _=>hle⟩
    | succ k =>
      have hk:k<m.length:=by simpa using h
      have:=ih k hk
      show cR m[k]<=cR x↔_
      omega
   ·rw[dF hle,aF (by decide)]
    refine⟨λ h'=>?_,λ h'=>absurd h' (by omega)⟩
    cases k with
    | zero=>exact absurd h' hle
    | succ k =>
      have hk:k<m.length:=by simpa using h
      have h3:=(aR.1 hp).1 m[k] (aN _)
      have h':cR m[k]<=cR x:=h'
      omega
theorem kQ {l:List Fl}{x:Fl}(hx:du x=false)(hn:∀ y∈l,du y=false)(hp:List.Pairwise (λ x y=>cR x<cR y) l)(k:Nat)(h:k<l.length-1):cR (l.getD k (some 0))<=cR x↔k<ci l x:=by
 have:=EV hx (l.take (l.length-1)) (λ y hy=>hn y (gy hy)) (hp.sublist (List.take_sublist _ _)) k (by rw[aD];omega)
 rw[lE]at this
 rw[cH (by omega)]
 exact this
theorem ow (l:List Fl)(x:Fl):ci l x<=l.length-1:=by
 have:=yh (l.take (l.length-1)) x
 rw[aD]at this
 unfold ci;omega
theorem Dy {l:List Fl}(hp:List.Pairwise (λ x y=>cR x<cR y) l){i j:Nat}(hij:i<j)(hj:j<l.length):cR (l.getD i (some 0))<cR (l.getD j (some 0)):=by
 rw[cH (by omega),cH hj]
 exact gT.1 hp i j (by omega) hj hij
theorem Nl {x y:Fl}(hx:du x=false)(hy:du y=false):geF x y=decide (cR y<=cR x):=by
 rw[geF,mN hx hy]
 simp only[compare,compareOfLessAndEq]
 by_cases h:cR x<cR y
 ·rw[aE h,dF (by omega)];rfl
 ·rw[aF h]
  by_cases h2:cR x=cR y
  ·rw[aE h2,dT (by omega)];rfl
  ·rw[aF h2,dT (by omega)];rfl
theorem oe {l:List Fl}{a b:Fl}{lo hi:Nat}:∀ m:Nat,(∀ k,k<m->(oV l k a b=true↔lo<=k/\k<hi))->pz l a b m=(List.range' lo (min hi m-lo)).map λ n:Nat=>Int.ofNat n
 | 0,_=>by simp[pz]
 | m + 1, h => by
   have ih:=oe m (λ k hk=>h k (by omega))
   rw[pz,ih]
   have hm:=h m (by omega)
   cases ht:oV l m a b with
   | true =>
     obtain⟨h1,h2⟩:=hm.1 ht
     have e:min hi (m+1)-lo=min hi m-lo+1:=by omega
     rw[e,List.range'_concat,cT,bT]
     have e2:lo+1*(min hi m-lo)=m:=by omega
     rw[e2];rfl
   | false =>
     have:¬ (lo<=m/\m<hi):=λ h'=>by rw[hm.2 h']at ht;cases ht
     have e:min hi (m+1)-lo=min hi m-lo:=by omega
     rw[e,cF]
theorem Qd {l:List Fl}{a b:Fl}(hc:dj l=0)(ha:du a=false)(hb:du b=false)(hab:cR a<=cR b):inS l a b=Aj (pz l a b (l.length-1)):=by
 obtain⟨h2,h25⟩:=kq hc
 obtain⟨hn,hp⟩:=ul hc
 have nn:∀ k,k<l.length->du (l.getD k (some 0))=false:=λ k hk=>by rw[cH hk];exact hn _ (aN _)
 have tk:∀ k,k<l.length-1->(oV l k a b=true↔((k+2=l.length/\cR a<=cR (l.getD (k+1) (some 0))\/k+2≠l.length/\cR a<cR (l.getD (k+1) (some 0)))/\cR (l.getD k (some 0))<=cR b)):=by
  intro k hk
  unfold oV
  rw[ss ha (nn _ (by omega)),mE ha (nn _ (by omega)),Nl hb (nn _ (by omega))]
  generalize cR (l.getD (k+1) (some 0))=u
  generalize cR (l.getD k (some 0))=v
  by_cases e:k+2=l.length
  ·rw[show(k+2==l.length)=true by simpa using e,cT]
   by_cases e2:cR a<=u
   ·rw[dT e2,cT,bC]
    exact⟨λ h=>⟨.inl ⟨e,e2⟩,h⟩,λ h=>h.2⟩
   ·rw[dF e2,cF]
    exact⟨λ h=>(by cases h),λ h=>absurd h (by omega)⟩
  ·rw[show(k+2==l.length)=false by simpa using e,cF]
   by_cases e2:cR a<u
   ·rw[dT e2,cT,bC]
    exact⟨λ h=>⟨.inr ⟨e,e2⟩,h⟩,λ h=>h.2⟩
   ·rw[dF e2,cF]
    exact⟨λ h=>(by cases h),λ h=>absurd h (by omega)⟩
 rw[inS,mE hb (nn _ (by omega)),Nk ha (nn _ (by omega))]
 by_cases g1:cR b<cR (l.getD 0 (some 0))
 ·rw[dT g1,cT,oe (lo:=0) (hi:=0) _ (λ k hk=>by
   rw[tk k hk]
   refine⟨λ h=>?_,λ h=>absurd h.2 (by omega)⟩
   rcases eR k with h0|h0
   ·subst h0;omega
   ·have:=Dy hp h0 (show k<l.length by omega);omega)]
  simp[Aj]
 ·rw[dF g1,cF]
  by_cases g2:cR (l.getD (l.length-1) (some 0))<cR a
  ·rw[dT g2,cT,oe (lo:=0) (hi:=0) _ (λ k hk=>by
    rw[tk k hk]
    refine⟨λ h=>?_,λ h=>absurd h.2 (by omega)⟩
    rcases ax (k+1) (l.length-1)with h0|h0
    ·have:=Dy hp h0 (show l.length-1<l.length by omega);omega
    ·have e:k+1=l.length-1:=by omega
     rw[e]at h;omega)]
   simp[Aj]
  ·rw[dF g2,cF]
   have A:=λ k h=>kQ ha hn hp k h
   have B:=λ k h=>kQ hb hn hp k h
   have la:=ow l a
   have lb:=ow l b
   have b1:0<ci l b:=(B 0 (by omega)).1 (by omega)
   have ab:ci l a<=ci l b:=by
    rcases ax (ci l b) (ci l a)with h|h
    ·have h1:=(A (ci l b) (by omega)).2 h
     have h3:=(B (ci l b) (by omega)).1 (by omega)
     omega
    ·exact h
   have hr:=oe (l:=l) (a:=a) (b:=b) (lo:=max (ci l a) 1-1) (hi:=ci l b) (l.length-1) (λ k hk=>by
    rw[tk k hk,B k hk]
    by_cases e:k+2=l.length
    ·have e3:k+1=l.length-1:=by omega
     rw[e3]
     omega
    ·have h4:=A (k+1) (by omega)
     omega)
   rw[hr]
   have e5:min (ci l b) (l.length-1)=ci l b:=by omega
   rw[e5]
   generalize ci l a=p at *
   generalize ci l b=q at *
   have e6:((List.range' (max p 1-1) (q-(max p 1-1))).map λ n:Nat=>Int.ofNat n).length=q-(max p 1-1):=by simp
   rw[Aj,e6]
   have hpos:0<q-(max p 1-1):=by omega
   have e7:(((q-(max p 1-1):Nat):Int)==0)=false:=by simp;omega
   rw[e7,cF]
   rw[cH (by rw[e6];exact hpos),cH (by rw[e6];omega)]
   simp only[List.getElem_map,List.getElem_range']
   congr 1
   congr 1
   ·show((max p 1:Nat):Int)-1=((max p 1-1+1*0:Nat):Int)
    omega
   ·show((q:Nat):Int)-1=((max p 1-1+1*(q-(max p 1-1)-1):Nat):Int)
    omega
def rne (n g:Nat):Nat:=n/g+(decide (g<2*(n%g))||(g==2*(n%g)&&n/g%2==1)).toNat
theorem Qh (neg:Bool)(n d:Nat):Ieee.Toward.even.cut neg n d=rne n (2^d):=by
 have key:∀ k,Ieee.Toward.even.cut neg n d=rne n (1 <<< min d (n.log2+2))/\(k=0->True):=λ k=>⟨rfl,λ _=>trivial⟩
 rw[(key 0).1,mm,eA]
 by_cases h:d<=n.log2+2
 ·rw[Nat.min_eq_left h]
 ·rw[Nat.min_eq_right (by omega)]
  have h1:n<2^(n.log2+1):=mn
  have e2:2^(n.log2+2)=2*2^(n.log2+1):=by rw[fg,bO]
  have h2:2*n<2^(n.log2+2):=by omega
  have h3:2^(n.log2+2)<=2^d:=aT (by decide) (by omega)
  have z:∀ g,2*n<g->rne n g=0:=by
   intro g hg
   have e1:n/g=0:=jt (by omega)
   have e2:n%g=n:=cJ (by omega)
   unfold rne
   rw[e1,e2,dF (by omega)]
   simp
  rw[z _ h2,z _ (by omega)]
theorem zr {n n' g:Nat}(hg:0<g)(h:n<=n'):rne n g<=rne n' g:=by
 have hq:n/g<=n'/g:=Nat.div_le_div_right h
 have b1:∀ b:Bool,b.toNat<=1:=λ b=>by cases b<;>decide
 unfold rne
 rcases ax (n/g) (n'/g)with hl|hge
 ·have:=b1 (decide (g<2*(n%g))||(g==2*(n%g)&&n/g%2==1))
  omega
 ·have e:n/g=n'/g:=by omega
  have m1:=nd n g
  have m2:=nd n' g
  rw[e]at m1 ⊢
  have hm:n%g<=n'%g:=by omega
  have hb:(decide (g<2*(n%g))||(g==2*(n%g)&&n'/g%2==1)).toNat<=(decide (g<2*(n'%g))||(g==2*(n'%g)&&n'/g%2==1)).toNat:=by
   by_cases h1:g<2*(n'%g)
   ·rw[dT h1,Bool.true_or]
    exact b1 _
   ·by_cases h2:n%g=n'%g
    ·rw[h2];exact aI _
    ·have h3:¬ g<2*(n%g):=by omega
     have h4:(g==2*(n%g))=false:=by simp;omega
     rw[dF h3,h4]
     exact bK _
  omega
theorem PF {n g k:Nat}(hg:0<g)(h:n<=k*g):rne n g<=k:=by
 have:=zr hg h
 have e:rne (k*g) g=k:=by
  unfold rne
  rw[Nat.mul_div_cancel _ hg,Nat.mul_mod_left,dF (by omega)]
  have:(g==2*0)=false:=by simp;omega
  rw[this];rfl
 omega
theorem PZ {n g k:Nat}(hg:0<g)(h:k*g<=n):k<=rne n g:=by
 have:k<=n/g:=(Nat.le_div_iff_mul_le hg).2 h
 unfold rne
 omega
open Go
def wc (base:Int)(mag:Nat):Int:=max (base+mag.log2-52) eK
def Kf (base L:Int)(mag:Nat):Nat:=rne (mag*2^(base-L).toNat) (2^(L-base).toNat)
def mW (base:Int)(mag:Nat):Nat:=if mag=0 then 0 else min ((wc base mag-eK).toNat*4503599627370496+Kf base (wc base mag) mag) 9218868437227405312
theorem Ce (neg:Bool)(mag:Nat)(base:Int):FloatKind.f64.format.nearest neg mag base=FloatKind.f64.format.word neg (mW base mag):=by
 have e2:FloatKind.f64.format.binade=4503599627370496:=by decide
 have e3:FloatKind.f64.format.infRung=9218868437227405312:=by decide
 have e4:FloatKind.f64.format.fractionBits=52:=by decide
 unfold Ieee.Format.nearest mW
 rw[e2,e3,e4]
 by_cases h:mag=0
 ·rw[aE h,aE h]
 ·rw[aF h,aF h]
  simp only[Qh,mm]
  rfl
theorem nw (k:Nat):0<2^k:=de (by decide)
theorem Nd {base:Int}{mag:Nat}(h0:mag≠0){L:Int}(hL:L=base+mag.log2-52):4503599627370496<=Kf base L mag:=by
 have h1:2^mag.log2<=mag:=Nat.log2_self_le h0
 have e:(4503599627370496:Nat)=2^52:=by decide
 rw[e]
 refine PZ (nw _) ?_
 by_cases h:52<=mag.log2
 ·have a1:(base-L).toNat=0:=by omega
  have a2:(L-base).toNat=mag.log2-52:=by omega
  rw[a1,a2,gS,iu,<-eL,Nat.add_sub_cancel' h]
  exact h1
 ·have a1:(base-L).toNat=52-mag.log2:=by omega
  have a2:(L-base).toNat=0:=by omega
  rw[a1,a2,gS,iu]
  have:2^52=2^mag.log2*2^(52-mag.log2):=by rw[<-eL];congr 1;omega
  rw[this]
  exact aC _ h1
theorem Nf {base:Int}{mag:Nat}{L:Int}(hL:base+mag.log2-52<=L):Kf base L mag<=9007199254740992:=by
 have h1:mag<2^(mag.log2+1):=mn
 have e:(9007199254740992:Nat)=2^53:=by decide
 rw[e]
 refine PF (nw _) ?_
 by_cases h:base<=L
 ·have a1:(base-L).toNat=0:=by omega
  rw[a1,gS,iu,<-eL]
  have:2^(mag.log2+1)<=2^(53+(L-base).toNat):=aT (by decide) (by omega)
  omega
 ·have a2:(L-base).toNat=0:=by omega
  rw[a2,gS,iu]
  have g1:mag*2^(base-L).toNat<=2^(mag.log2+1)*2^(base-L).toNat:=aC _ (Nat.le_of_lt h1)
  rw[<-eL]at g1
  have g2:2^(mag.log2+1+(base-L).toNat)<=2^53:=aT (by decide) (by omega)
  omega
theorem Hg {m n:Nat}(h0:m≠0)(h:m<=n):m.log2<=n.log2:=by
 have h1:2^m.log2<=m:=Nat.log2_self_le h0
 have h2:n<2^(n.log2+1):=mn
 have h3:2^m.log2<2^(n.log2+1):=by omega
 have:=(Nat.pow_lt_pow_iff_right (a:=2) (by decide)).1 h3
 omega
theorem Jq {a b c:Nat}(h:a<=b):min a c<=min b c:=by omega
theorem Hm {base L:Int}{m n:Nat}(h:m<=n):Kf base L m<=Kf base L n:=zr (nw _) (aC _ h)
theorem FT {x y a b:Nat}(h:x+1<=y)(ha:a<=9007199254740992)(hb:4503599627370496<=b):x*4503599627370496+a<=y*4503599627370496+b:=by omega
theorem vq {base:Int}{m n:Nat}(h:m<=n):mW base m<=mW base n:=by
 unfold mW
 by_cases h0:m=0
 ·rw[aE h0];exact bK _
 ·rw[aF h0,aF (show n≠0 by omega)]
  refine Jq ?_
  have hl:=Hg h0 h
  have d1:wc base m=max (base+m.log2-52) eK:=rfl
  have d2:wc base n=max (base+n.log2-52) eK:=rfl
  generalize wc base m=L at *
  generalize wc base n=L' at *
  generalize eK=z at *
  by_cases hlt:L<L'
  ·exact FT (by omega) (Nf (by omega)) (Nd (by omega) (by omega))
  ·have e:L'=L:=by omega
   rw[e]
   exact ke (Hm h) _
def gE (k:Nat):Nat:=if k<4503599627370496 then k else if k<9218868437227405312 then(4503599627370496+k%4503599627370496)*2^(k/4503599627370496-1)else big
theorem tU (s:Bool){k:Nat}(h:k<=9218868437227405312):oG (FloatKind.f64.format.read (FloatKind.f64.format.word s k))=bif s then -(gE k:Int)else(gE k:Int):=by
 have e1:FloatKind.f64.format.signWeight=9223372036854775808:=by decide
 have e2:FloatKind.f64.format.binade=4503599627370496:=by decide
 have e3:FloatKind.f64.format.infRung=9218868437227405312:=by decide
 have w1:FloatKind.f64.format.word s k%9223372036854775808=k:=by
  unfold Ieee.Format.word;rw[e1];cases s
  ·rw[aF (by decide)];omega
  ·rw[aE rfl];omega
 have w2:(FloatKind.f64.format.word s k/9223372036854775808%2==1)=s:=by
  unfold Ieee.Format.word;rw[e1];cases s
  ·rw[aF (by decide)];simp;omega
  ·rw[aE rfl];simp;omega
 simp only[Ieee.Format.read,e1,e2,e3,w1,w2]
 unfold gE
 by_cases h1:k<4503599627370496
 ·rw[aE h1,aE h1]
  show Ieee.signed s k (eK-eK).toNat=_
  rw[Int.sub_self,gH]
  cases s<;>simp
 ·rw[aF h1,aF h1]
  by_cases h2:k<9218868437227405312
  ·rw[aE h2,aE h2]
   show Ieee.signed s _ (eK+((k/4503599627370496-1:Nat):Int)-eK).toNat=_
   have e:(eK+((k/4503599627370496-1:Nat):Int)-eK).toNat=k/4503599627370496-1:=by
    generalize eK=z;omega
   rw[e,gH]
   cases s<;>simp
  ·rw[aF h2,aF h2,aE (by omega)]
   rfl
end Go.Proofs.Zn
set_option exponentiation.threshold 4096
namespace Go.Proofs.Zn
open Go.Proofs.Tryz
open Go
theorem lU {k j:Nat}(h:k<=j):gE k<=gE j:=by
 unfold gE
 have hb:∀ q r,q<=2046->r<4503599627370496->(4503599627370496+r)*2^(q-1)<=big:=by
  intro q r hq hr
  have g1:2^(q-1)<=2^2046:=aT (by decide) (by omega)
  have g2:4503599627370496+r<=2^53:=by
   have:(2:Nat)^53=9007199254740992:=by decide
   omega
  exact bj (kT g2 g1) ur
 by_cases k1:k<4503599627370496
 ·rw[aE k1]
  by_cases j1:j<4503599627370496
  ·rw[aE j1];exact h
  ·rw[aF j1]
   by_cases j2:j<9218868437227405312
   ·rw[aE j2]
    have:=kT (show 4503599627370496<=4503599627370496+j%4503599627370496 by omega) (nw (j/4503599627370496-1))
    omega
   ·rw[aF j2]
    have:=hb 0 0 (by decide) (by decide)
    simp at this;omega
 ·rw[aF k1,aF (show ¬ j<4503599627370496 by omega)]
  by_cases j2:j<9218868437227405312
  ·rw[aE (show k<9218868437227405312 by omega),aE j2]
   have q:k/4503599627370496<=j/4503599627370496:=Nat.div_le_div_right h
   have q1:1<=k/4503599627370496:=by omega
   by_cases e:k/4503599627370496=j/4503599627370496
   ·rw[e];exact aC _ (by omega)
   ·have r1:4503599627370496+k%4503599627370496<=4503599627370496*2:=by omega
    have r2:2*2^(k/4503599627370496-1)<=2^(j/4503599627370496-1):=by
     rw[bO,<-fg];exact aT (by decide) (by omega)
    have r3:=aC (2^(k/4503599627370496-1)) r1
    have r4:=kT (show 4503599627370496<=4503599627370496+j%4503599627370496 by omega) r2
    rw[dx]at r3
    exact bj r3 r4
  ·rw[aF j2]
   by_cases k2:k<9218868437227405312
   ·rw[aE k2];exact hb _ _ (by omega) (kU _ (by decide))
   ·rw[aF k2];exact aI _
end Go.Proofs.Zn
namespace Go.Proofs.Zn
open Go.Proofs.Tryz
open Go Go.VL
def Ap (base T:Int):Int:=bif decide (T<0)then -(gE (mW base T.natAbs):Int)else(gE (mW base T.natAbs):Int)
theorem Mp (base:Int)(m:Nat):mW base m<=9218868437227405312:=by
 unfold mW
 by_cases h:m=0
 ·rw[aE h];exact bK _
 ·rw[aF h];exact Nat.min_le_right _ _
theorem Cf {base T S:Int}(h:T<=S):Ap base T<=Ap base S:=by
 unfold Ap
 by_cases t:T<0
 ·rw[dT t,cT]
  by_cases s:S<0
  ·rw[dT s,cT]
   have:=lU (vq (base:=base) (show S.natAbs<=T.natAbs by omega))
   omega
  ·rw[dF s,cF];omega
 ·rw[dF t,cF,dF (by omega),cF]
  have:=lU (vq (base:=base) (show T.natAbs<=S.natAbs by omega))
  omega
theorem FY (base:Int):gE (mW base 0)=0:=by
 unfold mW gE
 rw[aE rfl,aE (by decide)]
theorem AI {base T:Int}{g:Bool}(hg:T≠0->g=decide (T<0)):oG (FloatKind.f64.format.read (FloatKind.f64.format.nearest g T.natAbs base))=Ap base T:=by
 rw[Ce,tU _ (Mp _ _),Ap]
 by_cases h:T=0
 ·subst h
  have:gE (mW base (0:Int).natAbs)=0:=FY base
  rw[this]
  cases g<;>rfl
 ·rw[hg h]
theorem BQ (t:Bool)(n k:Nat):Ieee.signed (!t) n k = -Ieee.signed t n k:=by
 rw[gH,gH];cases t<;>simp
theorem uK {t:Bool}{n k k':Nat}(h:0<=Ieee.signed t n k):0<=Ieee.signed t n k':=by
 rw[gH]at *
 cases t
 ·simp;exact Int.mul_nonneg (Int.natCast_nonneg _) (Int.pow_nonneg (by decide))
 ·have hp:=nw k
  have hn:n=0:=by
   rcases eR n with h0|h0
   ·exact h0
   ·have:=lB h0 hp
    rw[cT]at h;omega
  subst hn;simp
theorem Hi {s t:Bool}{m n:Nat}{i j:Int}(h:0<=Ieee.signed t n (j-eK).toNat) :
  oG (FloatKind.f64.format.read (FloatKind.f64.format.write (.number (if Ieee.signed s m (i-min i j).toNat+Ieee.signed (!t) n (j-min i j).toNat=0 then s && !t else Ieee.signed s m (i-min i j).toNat+Ieee.signed (!t) n (j-min i j).toNat<0) (Ieee.signed s m (i-min i j).toNat+Ieee.signed (!t) n (j-min i j).toNat).natAbs (min i j)))) <=
  oG (FloatKind.f64.format.read (FloatKind.f64.format.write (.number (if Ieee.signed s m (i-min i j).toNat+Ieee.signed t n (j-min i j).toNat=0 then s&&t else Ieee.signed s m (i-min i j).toNat+Ieee.signed t n (j-min i j).toNat<0) (Ieee.signed s m (i-min i j).toNat+Ieee.signed t n (j-min i j).toNat).natAbs (min i j)))):=by
 have h0:=uK (k':=(j-min i j).toNat) h
 rw[BQ]
 generalize Ieee.signed s m (i-min i j).toNat=X at *
 generalize Ieee.signed t n (j-min i j).toNat=R at *
 unfold Ieee.Format.write
 rw[AI (T:=X + -R) (λ h=>by simp[h]),AI (T:=X+R) (λ h=>by simp[h])]
 exact Cf (by omega)
end Go.Proofs.Zn
set_option exponentiation.threshold 4096
namespace Go.Proofs.Zn
open Go.Proofs.Tryz
open Go Go.VL
theorem tT:cR (some 0)=0:=by
 have h:FloatKind.f64.format.read 0=.number false 0 FloatKind.f64.format.leastPlace:=by decide
 show oG (FloatKind.f64.format.read 0)=0
 rw[h]
 show Ieee.signed false 0 _=0
 rw[gH];simp
theorem EE (s:Bool):oG (FloatKind.f64.format.read (FloatKind.f64.format.write (.infinity s)))=bif s then -(big:Int)else big:=by
 have e3:FloatKind.f64.format.infRung=9218868437227405312:=by decide
 unfold Ieee.Format.write
 rw[e3,tU s (aI _)]
 rfl
theorem Ou {x r:Fl}(hx:du x=false)(hr:du r=false)(h0:0<=cR r)(hl:du (loF x r)=false)(hh:du (hiF x r)=false):cR (loF x r)<=cR (hiF x r):=by
 cases x with
 | none=>cases hx
 | some a => cases r with
   | none=>cases hr
   | some b =>
     have el:loF (some a) (some b)=((FloatKind.f64.format.read a).sum (FloatKind.f64.format.read b).opposite).map FloatKind.f64.format.write:=rfl
     have eh:hiF (some a) (some b)=((FloatKind.f64.format.read a).sum (FloatKind.f64.format.read b)).map FloatKind.f64.format.write:=rfl
     rw[el]at hl ⊢
     rw[eh]at hh ⊢
     have hx:(FloatKind.f64.format.read a).isNaN=false:=hx
     have hr:(FloatKind.f64.format.read b).isNaN=false:=hr
     have h0:0<=oG (FloatKind.f64.format.read b):=h0
     have hbig:(0:Int)<(big:Int):=by
      have:=ur
      have h0:0<2^53*2^2046:=lB (de (by decide)) (de (by decide))
      exact Int.ofNat_lt.2 (cG h0 this)
     generalize FloatKind.f64.format.read a=d at *
     generalize FloatKind.f64.format.read b=e at *
     cases d with
     | nan s t=>cases hx
     | infinity s =>
       cases e with
       | nan s t=>cases hr
       | infinity t=>cases s<;>cases t<;>first|(cases hl;done)|(cases hh;done)
       | number t n j=>exact iy _
     | number s m i =>
       cases e with
       | nan s t=>cases hr
       | infinity t =>
         cases t
         ·show oG (FloatKind.f64.format.read (FloatKind.f64.format.write (.infinity true)))<=oG (FloatKind.f64.format.read (FloatKind.f64.format.write (.infinity false)))
          rw[EE,EE,cT,cF];omega
         ·have h0:0 <= -(big:Int):=h0
          omega
       | number t n j=>exact Hi h0
theorem IG (l:List Fl)(x r:Fl):lM l x r=fW l x r:=by
 unfold lM fW
 cases h1:(dj l != 0)
 ·cases h2:du x
  ·cases h3:du r
   ·cases h4:ltF r (some 0)
    ·cases h5:du (loF x r)
     ·cases h6:du (hiF x r)
      ·simp only[cF]
       have hc:dj l=0:=by simpa using h1
       refine Qd hc h5 h6 (Ou h2 h3 ?_ h5 h6)
       have z:du (some 0)=false:=by decide
       rw[mE h3 z,tT]at h4
       have:=oF h4
       omega
      ·rfl
     ·rfl
    ·rfl
   ·rfl
  ·rfl
 ·rfl
end Go.Proofs.Zn
set_option exponentiation.threshold 4096
namespace Go.Proofs.Wn
open Go.Proofs.Tryz
open Go Go.VL Go.Proofs.Zn
theorem NQ {n k m:Nat}(hn:n=2^k*(2*m+1))(h:n<2^64):n &&& (2^64-n)=2^k:=by
 have hk:0<2^k:=de (by decide)
 have hpos:0<n:=by rw[hn];exact lB hk (by omega)
 have e:2^64-n=2^64-((n-1)+1):=by rw[Nat.sub_add_cancel hpos]
 have e1:n-1=2^k*(2*m)+(2^k-1):=by
  rw[hn,Nat.mul_add,iu];omega
 rw[e]
 refine Nat.eq_of_testBit_eq λ i=>?_
 rw[Nat.testBit_and,Nat.testBit_two_pow_sub_succ (by omega),e1,Nat.testBit_two_pow_mul_add _ (by omega),hn,Nat.testBit_two_pow_mul,Nat.testBit_two_pow]
 by_cases h1:i<k
 ·have:¬ i>=k:=by omega
  simp[this];omega
 ·rw[aF h1]
  have hki:k<64:=by
   rcases ax k 64 with h|h
   ·exact h
   ·have:2^64<=2^k:=aT (by decide) h
    have:2^k*1<=2^k*(2*m+1):=ch _ (by omega)
    omega
  by_cases h2:i=k
  ·subst h2
   simp[hki]
  ·have h3:i-k=(i-k-1)+1:=by omega
   have t1:(2*m+1).testBit (i-k)=m.testBit (i-k-1):=by
    rw[h3,Nat.testBit_succ];congr 1;omega
   have t2:(2*m).testBit (i-k)=m.testBit (i-k-1):=by
    rw[h3,Nat.testBit_succ];congr 1;omega
   rw[t1,t2]
   have:¬ k=i:=λ e=>h2 e.symm
   cases m.testBit (i-k-1)<;>simp[this]
def NX:List Int:=[0,1,56,2,57,49,28,3,61,58,42,50,38,29,17,4,62,47,59,36,45,43,51,22,53,39,33,30,24,18,12,5,63,55,48,27,60,41,37,16,46,35,44,21,52,32,23,11,54,26,40,15,34,20,31,10,25,14,19,9,13,8,7,6]
theorem OE:∀ k:Fin 64,(2^k.1*285870213051353865%2^64)/2^58<64/\NX.getD ((2^k.1*285870213051353865%2^64)/2^58) 0=(k.1:Int):=by decide +kernel
theorem An:∀ n:Nat,0<n->∃ k m,n=2^k*(2*m+1)
 | n, h => by
   by_cases h2:n%2=1
   ·exact⟨0,n/2,by omega⟩
   ·obtain⟨k,m,e⟩:=An (n/2) (by omega)
    exact⟨k+1,m,by rw[fg,Nat.mul_right_comm,<-e];omega⟩
termination_by n=>n
def nq (n s:Nat):Nat:=n/2^s+(bif decide (2^s<2*(n%2^s))||(2^s==2*(n%2^s)&&n/2^s%2==1)then 1 else 0)
theorem PH (n s:Nat):n/2^s<=nq n s:=by unfold nq;omega
theorem sV {n s:Nat}(h:2*n<2^s):nq n s=0:=by
 unfold nq
 rw[jt (by omega),cJ (by omega),dF (by omega)]
 have:(2^s==2*n)=false:=by simp;omega
 rw[this];rfl
def gw (r:Nat):Int:=bif decide (r>9218868437227405312)then 1 else bif decide (r=9218868437227405312)then 2 else bif decide (r=0)then 3 else bif decide (r<4503599627370496)then 4 else 5
theorem xu (b:Nat):du (some b)=decide (b%9223372036854775808>9218868437227405312):=by
 show(FloatKind.f64.format.read b).isNaN=_
 rw[Aq]
 by_cases h:b%9223372036854775808>9218868437227405312
 ·rw[dT h,dT (by omega)]
 ·rw[dF h,dF (by omega)]
theorem LO {b:Nat}(hb:b<18446744073709551616):FloatKind.f64.format.word (decide (9223372036854775808<=b)) (b%9223372036854775808)=b:=by
 have e1:FloatKind.f64.format.signWeight=9223372036854775808:=by decide
 unfold Ieee.Format.word
 rw[e1]
 by_cases h:9223372036854775808<=b
 ·rw[dT h];simp;omega
 ·rw[dF h];simp;omega
theorem xK {b:Nat}(hb:b<18446744073709551616)(h:b%9223372036854775808<=9218868437227405312):cR (some b)=bif decide (9223372036854775808<=b)then -(gE (b%9223372036854775808):Int)else(gE (b%9223372036854775808):Int):=by
 have:=tU (decide (9223372036854775808<=b)) h
 rw[LO hb]at this
 exact this
theorem lT {r:Nat}(h:r<4503599627370496):gE r=r:=by unfold gE;rw[aE h]
theorem LQ {r:Nat}(h:0<r):0<gE r:=by
 have:=lU (k:=1) (j:=r) h
 rw[lT (by decide:1<4503599627370496)]at this;omega
theorem HQ:gE 0=0:=lT (by decide)
theorem HR {r:Nat}(h:r<9218868437227405312):gE r<gE (r+1):=by
 by_cases h1:r+1<4503599627370496
 ·rw[lT (by omega),lT h1];omega
 ·by_cases h0:r<4503599627370496
  ·have:r=4503599627370495:=by omega
   subst this
   rw[lT h0]
   decide +kernel
  ·by_cases h2:r+1<9218868437227405312
   ·unfold gE
    rw[aF h0,aE h,aF h1,aE h2]
    by_cases h3:r%4503599627370496+1<4503599627370496
    ·have e1:(r+1)/4503599627370496=r/4503599627370496:=by omega
     have e2:(r+1)%4503599627370496=r%4503599627370496+1:=by omega
     rw[e1,e2]
     exact gi (by omega) (de (by decide))
    ·have e1:(r+1)/4503599627370496=r/4503599627370496+1:=by omega
     have e2:(r+1)%4503599627370496=0:=by omega
     have e3:r/4503599627370496+1-1=(r/4503599627370496-1)+1:=by omega
     rw[e1,e2,e3,fg]
     have hp:0<2^(r/4503599627370496-1):=de (by decide)
     generalize 2^(r/4503599627370496-1)=P at hp
     have e4:r%4503599627370496=4503599627370495:=by omega
     rw[e4]
     omega
   ·have e:r=9218868437227405311:=by omega
    subst e
    have hb:=ur
    unfold gE
    rw[aF (by decide),aE (by decide),aF (by decide),aF (by decide)]
    have:(4503599627370496+9218868437227405311%4503599627370496)*2^(9218868437227405311/4503599627370496-1)<2^53*2^2046:=by decide +kernel
    omega
theorem OD {r q:Nat}(h:r<q)(hq:q<=9218868437227405312):gE r<gE q:=cG (HR (by omega)) (lU h)
theorem wO {r q:Nat}(hr:r<=9218868437227405312)(hq:q<=9218868437227405312):gE r<gE q↔r<q:=
 ⟨λ h=>by
  rcases ax r q with g|g
  ·exact g
  ·have:=lU g;omega,λ h=>OD h hq⟩
end Go.Proofs.Wn
set_option exponentiation.threshold 4096
namespace Go.Proofs.Wn
open Go.Proofs.Tryz
open Go Go.VL Go.Proofs.Zn
theorem uq {a:Nat}(h:a<18446744073709551616):(BitVec.ofInt (IntKind.bits .u64) (a:Int)).toNat=a:=by
 show(BitVec.ofInt 64 (a:Int)).toNat=a
 rw[BitVec.toNat_ofInt];omega
theorem CZ {a c:Nat}(ha:a<18446744073709551616)(hc:c<18446744073709551616):(BitVec.ofInt (IntKind.bits .u64) (a:Int) &&& BitVec.ofInt (IntKind.bits .u64) (c:Int)).toNat=a &&& c:=by
 rw[BitVec.toNat_and,uq ha,uq hc]
theorem Tw {a c:Nat}(ha:a<18446744073709551616)(hc:c<18446744073709551616):(BitVec.ofInt (IntKind.bits .u64) (a:Int) ||| BitVec.ofInt (IntKind.bits .u64) (c:Int)).toNat=a ||| c:=by
 rw[BitVec.toNat_or,uq ha,uq hc]
theorem mV {a:Nat}(h:a<18446744073709551616):IntKind.u64.wrap (a:Int)=(a:Int):=by
 rw[lS];omega
theorem Tz (a:Nat):a &&& 4503599627370495=a%4503599627370496:=fI a 52
theorem TA (a:Nat):a &&& 2047=a%2048:=fI a 11
theorem or52 {a:Nat}(h:a<4503599627370496):a ||| 4503599627370496=a+4503599627370496:=by
 have:=Nat.two_pow_add_eq_or_of_lt (i:=52) (b:=a) h 1
 rw[Nat.or_comm]
 have e:2^52*1=4503599627370496:=by decide
 rw[e]at this
 omega
theorem iF (a c:Nat):Int.fdiv (a:Int) (c:Int)=((a/c:Nat):Int):=by
 rw[gB _ (by omega)];rfl
theorem iA (a c:Nat):Int.tmod (a:Int) (c:Int)=((a%c:Nat):Int):=by
 rw[eS (by omega)];rfl
theorem Jm {n:Nat}(h0:0<n)(h:n<18446744073709551616):IntKind.u64.wrap (0-(n:Int))=((2^64-n:Nat):Int):=by
 rw[lS]
 have:(2^64:Nat)=18446744073709551616:=by decide
 omega
def tzF:Nat->Nat->Nat
 | 0,_=>0
 | f+1,n=>bif n%2==1 then 0 else tzF f (n/2)+1
def tzN (n:Nat):Nat:=tzF 64 n
theorem yZ:∀ (f k m:Nat),k<f->tzF f (2^k*(2*m+1))=k
 | 0,_,_,h=>by omega
 | f + 1, 0, m, _ => by
   have:((2^0*(2*m+1))%2==1)=true:=by simp
   rw[tzF,this];rfl
 | f + 1, k + 1, m, h => by
   have e:2^(k+1)*(2*m+1)=2*(2^k*(2*m+1)):=by rw[fg,bO (2^k) 2,dx]
   have:(2*(2^k*(2*m+1))%2==1)=false:=by
    have:2*(2^k*(2*m+1))%2=0:=Nat.mul_mod_right 2 _
    rw[this];rfl
   rw[e,tzF,this,cF,Nat.mul_div_cancel_left _ (by decide),yZ f k m (by omega)]
theorem IV {k n m:Nat}(hn:n=2^k*(2*m+1))(h:n<18446744073709551616):k<64:=by
 rcases ax k 64 with g|g
 ·exact g
 ·have h1:2^64<=2^k:=aT (by decide) g
  have h2:2^k*1<=2^k*(2*m+1):=ch _ (by omega)
  have:(2^64:Nat)=18446744073709551616:=by decide
  omega
def M0 (r:Nat):Nat:=bif decide (r<4503599627370496)then r else r%4503599627370496+4503599627370496
def E0 (r:Nat):Int:=bif decide (r<4503599627370496)then -1074 else((r/4503599627370496:Nat):Int)-1075
theorem Bv (r:Nat):M0 r<9007199254740992:=by
 unfold M0
 by_cases h:r<4503599627370496
 ·rw[dT h,cT];omega
 ·rw[dF h,cF];omega
theorem QH {r:Nat}(h:0<r):0<M0 r:=by
 unfold M0
 by_cases h:r<4503599627370496
 ·rw[dT h,cT];omega
 ·rw[dF h,cF];omega
def dt (r:Nat):Nat:=M0 r/2^tzN (M0 r)
def dz (r:Nat):Int:=E0 r+(tzN (M0 r):Int)
def my (b:Nat):Bool:=decide (9223372036854775808<=b)
def rN (b:Nat):Nat:=b%9223372036854775808
def jg (b:Nat):Int×Int:=bif decide (gw (rN b)<4)then(0,0)else(bif my b then -(dt (rN b):Int)else(dt (rN b):Int),dz (rN b))
def uI (r:Nat):Nat:=bif decide (dz r<0)then nq (dt r*1000) (-dz r).toNat else dt r*1000*2^(dz r).toNat
def ofS (b:Nat):Int×Int:=bif gw (rN b)==1 then(0,20)else bif gw (rN b)==2 then(0,21)else bif gw (rN b)==3 then(0,0)else bif my b then(0,22)else
 bif decide (uI (rN b)>1099511627776)then(0,4)else((uI (rN b):Int),0)
theorem mb {r:Nat}(h:0<r):∃ m,M0 r=2^tzN (M0 r)*(2*m+1)/\dt r=2*m+1/\tzN (M0 r)<53:=by
 obtain⟨k,m,e⟩:=An (M0 r) (QH h)
 have hl:=Bv r
 have hk:=IV e (by omega)
 have ht:tzN (M0 r)=k:=by rw[e];exact yZ 64 k m hk
 have hk2:k<53:=by
  rcases ax k 53 with g|g
  ·exact g
  ·have h1:2^53<=2^k:=aT (by decide) g
   have h2:2^k*1<=2^k*(2*m+1):=ch _ (by omega)
   have:(2^53:Nat)=9007199254740992:=by decide
   omega
 refine⟨m,by rw[ht];exact e,?_,by omega⟩
 unfold dt
 rw[ht,e,Nat.mul_div_cancel_left _ (de (by decide))]
theorem odd_lt {r:Nat}:dt r<9007199254740992:=Nat.lt_of_le_of_lt (nc _ _) (Bv r)
theorem DN {r:Nat}(h:0<r):0<dt r:=by obtain⟨m,_,e,_⟩:=mb h;omega
theorem pow_lo {r:Nat} : -1074<=dz r:=by
 unfold dz E0
 by_cases h:r<4503599627370496
 ·rw[dT h,cT];omega
 ·rw[dF h,cF];omega
theorem PK {r:Nat}(h0:0<r)(h:r<9218868437227405312):dz r<1025:=by
 obtain⟨_,_,_,h3⟩:=mb h0
 unfold dz E0
 by_cases h:r<4503599627370496
 ·rw[dT h,cT];omega
 ·rw[dF h,cF];omega
theorem FU {r:Nat}(h0:0<r)(h:r<=4787326403894837248)(hp:0<=dz r):dt r*2^(dz r).toNat<=1099511627776:=by
 obtain⟨m,e1,e2,e3⟩:=mb h0
 have hM:=Bv r
 unfold dz at hp ⊢
 have hr:¬ r<4503599627370496:=λ hr=>by unfold E0 at hp;rw[dT hr,cT]at hp;omega
 have hE:E0 r=((r/4503599627370496:Nat):Int)-1075:=by unfold E0;rw[dF hr,cF]
 rw[<-e2]at e1
 have hE2:r/4503599627370496<=1063:=by omega
 obtain⟨q,hq⟩:∃ q:Nat,E0 r = -(q:Int):=⟨(-E0 r).toNat,by omega⟩
 have hs:tzN (M0 r)=(E0 r+(tzN (M0 r):Int)).toNat+q:=by omega
 have e4:M0 r=dt r*2^(E0 r+(tzN (M0 r):Int)).toNat*2^q:=by
  rw[dx,<-eL,<-hs,bO];exact e1
 generalize dt r*2^(E0 r+(tzN (M0 r):Int)).toNat=Z at e4
 have hq12:12<=q:=by omega
 by_cases h13:q=12
 ·subst h13
  have:M0 r=4503599627370496:=by
   unfold M0;rw[dF hr,cF];omega
  have e5:(2^12:Nat)=4096:=by decide
  rw[e5]at e4;omega
 ·have:(2^13:Nat)<=2^q:=aT (by decide) (by omega)
  have h5:Z*2^13<=Z*2^q:=ch _ this
  have e5:(2^13:Nat)=8192:=by decide
  rw[e5]at h5;omega
theorem Hk {r:Nat}(h:r>4787326403894837248)(hi:r<9218868437227405312):uI r>1099511627776:=by
 have h0:0<r:=by omega
 obtain⟨m,e1,e2,e3⟩:=mb h0
 rw[<-e2]at e1
 have hr:¬ r<4503599627370496:=by omega
 have hE:E0 r=((r/4503599627370496:Nat):Int)-1075:=by unfold E0;rw[dF hr,cF]
 have hM:M0 r=r%4503599627370496+4503599627370496:=by unfold M0;rw[dF hr,cF]
 have hE2:1063<=r/4503599627370496:=by omega
 unfold uI
 by_cases hp:dz r<0
 ·rw[dT hp,cT]
  have hge:=PH (dt r*1000) (-dz r).toNat
  have key:1099511627776*2^(-dz r).toNat<dt r:=by
   unfold dz at hp ⊢
   obtain⟨q,hq⟩:∃ q:Nat,E0 r = -(q:Int):=⟨(-E0 r).toNat,by omega⟩
   have hs:q=tzN (M0 r)+(-(E0 r+(tzN (M0 r):Int))).toNat:=by omega
   have hq12:q<=12:=by omega
   have h5:1099511627776*2^q<M0 r:=by
    by_cases h12:q=12
    ·subst h12
     have e5:(2^12:Nat)=4096:=by decide
     rw[e5];omega
    ·have:(2^q:Nat)<=2^11:=aT (by decide) (by omega)
     have e5:(2^11:Nat)=2048:=by decide
     rw[e5]at this;omega
   rw[hs,eL]at h5
   have e6:M0 r=dt r*2^tzN (M0 r):=by rw[bO];exact e1
   have h6:(1099511627776*2^(-(E0 r+(tzN (M0 r):Int))).toNat)*2^tzN (M0 r)<dt r*2^tzN (M0 r):=by
    rw[<-e6,dx,bO (2^(-(E0 r+(tzN (M0 r):Int))).toNat)];exact h5
   exact Nat.lt_of_mul_lt_mul_right h6
  have hp2:0<2^(-dz r).toNat:=de (by decide)
  have:1099511627776*1000<=dt r*1000/2^(-dz r).toNat:=by
   rw[Nat.le_div_iff_mul_le hp2,Nat.mul_right_comm]
   exact aC _ (Nat.le_of_lt key)
  omega
 ·rw[dF hp,cF]
  unfold dz at hp ⊢
  have key:1099511627776*1<=dt r*2^(E0 r+(tzN (M0 r):Int)).toNat:=by
   rcases Int.lt_or_le (E0 r) 0 with hn|hn
   ·obtain⟨q,hq⟩:∃ q:Nat,E0 r = -(q:Int):=⟨(-E0 r).toNat,by omega⟩
    have hs:tzN (M0 r)=(E0 r+(tzN (M0 r):Int)).toNat+q:=by omega
    have e4:M0 r=dt r*2^(E0 r+(tzN (M0 r):Int)).toNat*2^q:=by
     rw[dx,<-eL,<-hs,bO];exact e1
    generalize dt r*2^(E0 r+(tzN (M0 r):Int)).toNat=Z at e4
    have:(2^q:Nat)<=2^12:=aT (by decide) (by omega)
    have h5:Z*2^q<=Z*2^12:=ch _ this
    have e5:(2^12:Nat)=4096:=by decide
    rw[e5]at h5;omega
   ·have h1:2^tzN (M0 r)<=2^(E0 r+(tzN (M0 r):Int)).toNat:=aT (by decide) (by omega)
    have h2:dt r*2^tzN (M0 r)<=dt r*2^(E0 r+(tzN (M0 r):Int)).toNat:=ch _ h1
    have e6:M0 r=dt r*2^tzN (M0 r):=by rw[bO];exact e1
    omega
  have:dt r*1000*2^(E0 r+(tzN (M0 r):Int)).toNat=1000*(dt r*2^(E0 r+(tzN (M0 r):Int)).toNat):=by
   rw[bO (dt r) 1000,dx]
  omega
end Go.Proofs.Wn
namespace Go.Proofs.Wn
open Go.Proofs.Tryz
open Go Go.VL
theorem t63 (k:Int):@Eq _ (xSp prog f63 [.flds] 300 [⟨.int,k⟩]) (bif k==1 then bif k==1 then .zF U6 (.ret (yB.mk true false false false false))else bif k==4 then .zF U6 (.ret (yB.mk false true true false true))else bif k==5 then bif k==5 then .zF U6 (.ret (yB.mk false true false false true))else bif k==7 then bif k==7 then .zF U6 (.ret (yB.mk false true false false false))else bif k==10 then .zF U6 (.ret (yB.mk false true false true false))else .zF U6 (.ret (yB.mk false false false false false))else bif k==9 then .zF U6 (.ret (yB.mk false true false false false))else bif k==10 then .zF U6 (.ret (yB.mk false true false true false))else .zF U6 (.ret (yB.mk false false false false false))else bif k==6 then .zF U6 (.ret (yB.mk false true false false true))else bif k==7 then bif k==7 then .zF U6 (.ret (yB.mk false true false false false))else bif k==10 then .zF U6 (.ret (yB.mk false true false true false))else .zF U6 (.ret (yB.mk false false false false false))else bif k==9 then .zF U6 (.ret (yB.mk false true false false false))else bif k==10 then .zF U6 (.ret (yB.mk false true false true false))else .zF U6 (.ret (yB.mk false false false false false))else bif k==2 then .zF U6 (.ret (yB.mk true false false false false))else bif k==4 then .zF U6 (.ret (yB.mk false true true false true))else bif k==5 then bif k==5 then .zF U6 (.ret (yB.mk false true false false true))else bif k==7 then bif k==7 then .zF U6 (.ret (yB.mk false true false false false))else bif k==10 then .zF U6 (.ret (yB.mk false true false true false))else .zF U6 (.ret (yB.mk false false false false false))else bif k==9 then .zF U6 (.ret (yB.mk false true false false false))else bif k==10 then .zF U6 (.ret (yB.mk false true false true false))else .zF U6 (.ret (yB.mk false false false false false))else bif k==6 then .zF U6 (.ret (yB.mk false true false false true))else bif k==7 then bif k==7 then .zF U6 (.ret (yB.mk false true false false false))else bif k==10 then .zF U6 (.ret (yB.mk false true false true false))else .zF U6 (.ret (yB.mk false false false false false))else bif k==9 then .zF U6 (.ret (yB.mk false true false false false))else bif k==10 then .zF U6 (.ret (yB.mk false true false true false))else .zF U6 (.ret (yB.mk false false false false false))):=by kernel_rfl
theorem t64 (r:yT):@Eq _ (xSp prog f64 [.flds] 300 [⟨.req,r⟩]) (.zF U6 (.ret (yB.mk (decide ((r.zU.length:Int)>0)) (r.a != 0) (r.b != 0) (r.ver != 0) (r.zS != 0)))):=by kernel_rfl
theorem t65 (f g:yB):@Eq _ (xSp prog f65 [.bool] 300 [⟨.flds,f⟩,⟨.flds,g⟩]) (bif yB.zU f then bif yB.a f then bif yB.b f then bif yB.ver f then bif yB.zS f then .zF U2 (.ret (yB.zU g==yB.zU f&&(yB.a g==yB.a f&&(yB.b g==yB.b f&&(yB.ver g==yB.ver f&&(yB.zS g==yB.zS f&&true))))))else .zF U2 (.ret (yB.zU g==yB.zU f&&(yB.a g==yB.a f&&(yB.b g==yB.b f&&(yB.ver g==yB.ver f&&(false==yB.zS f&&true))))))else bif yB.zS f then .zF U2 (.ret (yB.zU g==yB.zU f&&(yB.a g==yB.a f&&(yB.b g==yB.b f&&(false==yB.ver f&&(yB.zS g==yB.zS f&&true))))))else .zF U2 (.ret (yB.zU g==yB.zU f&&(yB.a g==yB.a f&&(yB.b g==yB.b f&&(false==yB.ver f&&(false==yB.zS f&&true))))))else bif yB.ver f then bif yB.zS f then .zF U2 (.ret (yB.zU g==yB.zU f&&(yB.a g==yB.a f&&(false==yB.b f&&(yB.ver g==yB.ver f&&(yB.zS g==yB.zS f&&true))))))else .zF U2 (.ret (yB.zU g==yB.zU f&&(yB.a g==yB.a f&&(false==yB.b f&&(yB.ver g==yB.ver f&&(false==yB.zS f&&true))))))else bif yB.zS f then .zF U2 (.ret (yB.zU g==yB.zU f&&(yB.a g==yB.a f&&(false==yB.b f&&(false==yB.ver f&&(yB.zS g==yB.zS f&&true))))))else .zF U2 (.ret (yB.zU g==yB.zU f&&(yB.a g==yB.a f&&(false==yB.b f&&(false==yB.ver f&&(false==yB.zS f&&true))))))else bif yB.b f then bif yB.ver f then bif yB.zS f then .zF U2 (.ret (yB.zU g==yB.zU f&&(false==yB.a f&&(yB.b g==yB.b f&&(yB.ver g==yB.ver f&&(yB.zS g==yB.zS f&&true))))))else .zF U2 (.ret (yB.zU g==yB.zU f&&(false==yB.a f&&(yB.b g==yB.b f&&(yB.ver g==yB.ver f&&(false==yB.zS f&&true))))))else bif yB.zS f then .zF U2 (.ret (yB.zU g==yB.zU f&&(false==yB.a f&&(yB.b g==yB.b f&&(false==yB.ver f&&(yB.zS g==yB.zS f&&true))))))else .zF U2 (.ret (yB.zU g==yB.zU f&&(false==yB.a f&&(yB.b g==yB.b f&&(false==yB.ver f&&(false==yB.zS f&&true))))))else bif yB.ver f then bif yB.zS f then .zF U2 (.ret (yB.zU g==yB.zU f&&(false==yB.a f&&(false==yB.b f&&(yB.ver g==yB.ver f&&(yB.zS g==yB.zS f&&true))))))else .zF U2 (.ret (yB.zU g==yB.zU f&&(false==yB.a f&&(false==yB.b f&&(yB.ver g==yB.ver f&&(false==yB.zS f&&true))))))else bif yB.zS f then .zF U2 (.ret (yB.zU g==yB.zU f&&(false==yB.a f&&(false==yB.b f&&(false==yB.ver f&&(yB.zS g==yB.zS f&&true))))))else .zF U2 (.ret (yB.zU g==yB.zU f&&(false==yB.a f&&(false==yB.b f&&(false==yB.ver f&&(false==yB.zS f&&true))))))else bif yB.a f then bif yB.b f then bif yB.ver f then bif yB.zS f then .zF U2 (.ret (false==yB.zU f&&(yB.a g==yB.a f&&(yB.b g==yB.b f&&(yB.ver g==yB.ver f&&(yB.zS g==yB.zS f&&true))))))else .zF U2 (.ret (false==yB.zU f&&(yB.a g==yB.a f&&(yB.b g==yB.b f&&(yB.ver g==yB.ver f&&(false==yB.zS f&&true))))))else bif yB.zS f then .zF U2 (.ret (false==yB.zU f&&(yB.a g==yB.a f&&(yB.b g==yB.b f&&(false==yB.ver f&&(yB.zS g==yB.zS f&&true))))))else .zF U2 (.ret (false==yB.zU f&&(yB.a g==yB.a f&&(yB.b g==yB.b f&&(false==yB.ver f&&(false==yB.zS f&&true))))))else bif yB.ver f then bif yB.zS f then .zF U2 (.ret (false==yB.zU f&&(yB.a g==yB.a f&&(false==yB.b f&&(yB.ver g==yB.ver f&&(yB.zS g==yB.zS f&&true))))))else .zF U2 (.ret (false==yB.zU f&&(yB.a g==yB.a f&&(false==yB.b f&&(yB.ver g==yB.ver f&&(false==yB.zS f&&true))))))else bif yB.zS f then .zF U2 (.ret (false==yB.zU f&&(yB.a g==yB.a f&&(false==yB.b f&&(false==yB.ver f&&(yB.zS g==yB.zS f&&true))))))else .zF U2 (.ret (false==yB.zU f&&(yB.a g==yB.a f&&(false==yB.b f&&(false==yB.ver f&&(false==yB.zS f&&true))))))else bif yB.b f then bif yB.ver f then bif yB.zS f then .zF U2 (.ret (false==yB.zU f&&(false==yB.a f&&(yB.b g==yB.b f&&(yB.ver g==yB.ver f&&(yB.zS g==yB.zS f&&true))))))else .zF U2 (.ret (false==yB.zU f&&(false==yB.a f&&(yB.b g==yB.b f&&(yB.ver g==yB.ver f&&(false==yB.zS f&&true))))))else bif yB.zS f then .zF U2 (.ret (false==yB.zU f&&(false==yB.a f&&(yB.b g==yB.b f&&(false==yB.ver f&&(yB.zS g==yB.zS f&&true))))))else .zF U2 (.ret (false==yB.zU f&&(false==yB.a f&&(yB.b g==yB.b f&&(false==yB.ver f&&(false==yB.zS f&&true))))))else bif yB.ver f then bif yB.zS f then .zF U2 (.ret (false==yB.zU f&&(false==yB.a f&&(false==yB.b f&&(yB.ver g==yB.ver f&&(yB.zS g==yB.zS f&&true))))))else .zF U2 (.ret (false==yB.zU f&&(false==yB.a f&&(false==yB.b f&&(yB.ver g==yB.ver f&&(false==yB.zS f&&true))))))else bif yB.zS f then .zF U2 (.ret (false==yB.zU f&&(false==yB.a f&&(false==yB.b f&&(false==yB.ver f&&(yB.zS g==yB.zS f&&true))))))else .zF U2 (.ret (false==yB.zU f&&(false==yB.a f&&(false==yB.b f&&(false==yB.ver f&&(false==yB.zS f&&true))))))):=by kernel_rfl
theorem t62 (e:Int):@Eq _ (xSp prog f62 [.zM] 300 [⟨.int,e⟩]) (.zF U6 (.ret (yH.mk e 0 0 0 []))):=by kernel_rfl
theorem t69 (e i:Int):@Eq _ (xSp prog f69 [.zM] 300 [⟨.int,e⟩,⟨.int,i⟩]) (.zF U6 (.ret (yH.mk e i 0 0 []))):=by kernel_rfl
theorem t71 (e i:Int):@Eq _ (xSp prog f71 [.zM] 300 [⟨.int,e⟩,⟨.int,i⟩]) (.zF U6 (.ret (yH.mk e i 0 0 []))):=by kernel_rfl
theorem t68 (d:yA)(i:Int):@Eq _ (xSp prog f68 [.int] 300 [⟨.zI,d⟩,⟨.int,i⟩]) (.zF lg (.zG 130 [⟨.zI,d⟩,⟨.int,i⟩] [.part,.int] λ(x:Part×Int)=>.zF U2 (.ret x.1.kind))):=by kernel_rfl
theorem t74 (d:yA)(i:Int):@Eq _ (xSp prog f74 [.int] 300 [⟨.zI,d⟩,⟨.int,i⟩]) (.zF lg (.zG 132 [⟨.zI,d⟩,⟨.int,i⟩] [.part,.int] λ(x:Part×Int)=>bif x.2 != 0 then .zF U2 (.ret (0:Int))else .zF U2 (.ret x.1.kind))):=by kernel_rfl
theorem t72 (k:Int):@Eq _ (xSp prog f72 [.b5] 300 [⟨.int,k⟩]) (bif k==1 then bif k==1 then .zF U6 (.ret (yB.mk true false false false false))else bif k==4 then .zF U6 (.ret (yB.mk false true true false true))else bif k==5 then bif k==5 then .zF U6 (.ret (yB.mk false true false false true))else bif k==7 then bif k==7 then .zF U6 (.ret (yB.mk false true false false false))else bif k==10 then .zF U6 (.ret (yB.mk false true false true false))else .zF U6 (.ret (yB.mk false false false false false))else bif k==9 then .zF U6 (.ret (yB.mk false true false false false))else bif k==10 then .zF U6 (.ret (yB.mk false true false true false))else .zF U6 (.ret (yB.mk false false false false false))else bif k==6 then .zF U6 (.ret (yB.mk false true false false true))else bif k==7 then bif k==7 then .zF U6 (.ret (yB.mk false true false false false))else bif k==10 then .zF U6 (.ret (yB.mk false true false true false))else .zF U6 (.ret (yB.mk false false false false false))else bif k==9 then .zF U6 (.ret (yB.mk false true false false false))else bif k==10 then .zF U6 (.ret (yB.mk false true false true false))else .zF U6 (.ret (yB.mk false false false false false))else bif k==2 then .zF U6 (.ret (yB.mk true false false false false))else bif k==4 then .zF U6 (.ret (yB.mk false true true false true))else bif k==5 then bif k==5 then .zF U6 (.ret (yB.mk false true false false true))else bif k==7 then bif k==7 then .zF U6 (.ret (yB.mk false true false false false))else bif k==10 then .zF U6 (.ret (yB.mk false true false true false))else .zF U6 (.ret (yB.mk false false false false false))else bif k==9 then .zF U6 (.ret (yB.mk false true false false false))else bif k==10 then .zF U6 (.ret (yB.mk false true false true false))else .zF U6 (.ret (yB.mk false false false false false))else bif k==6 then .zF U6 (.ret (yB.mk false true false false true))else bif k==7 then bif k==7 then .zF U6 (.ret (yB.mk false true false false false))else bif k==10 then .zF U6 (.ret (yB.mk false true false true false))else .zF U6 (.ret (yB.mk false false false false false))else bif k==9 then .zF U6 (.ret (yB.mk false true false false false))else bif k==10 then .zF U6 (.ret (yB.mk false true false true false))else .zF U6 (.ret (yB.mk false false false false false))):=by kernel_rfl
theorem t15 (r:yT):@Eq _ (xSp prog f15 [.int,.int] 300 [⟨.req,r⟩]) (Out.callX 58 [.d (.v (.int .u64 r.zS))] (.d (.f (some r.zS.toNat))) (.zF V2 (.zG 57 [⟨.zQ,(some r.zS.toNat)⟩] [.int,.int] λ(x:Int×Int)=>bif x.2==0 then bif x.1==0 then .zF (U2/\U2) (.ret ((0:Int),(1:Int)))else .zF (U2/\U2) (.ret (x.1,x.2))else .zF (U2/\U2) (.ret (x.1,x.2))))):=by kernel_rfl
theorem t16 (r:yT):@Eq _ (xSp prog f16 [.int,.int] 300 [⟨.req,r⟩]) (.zF V2 (.zG 59 [⟨.u64,r.zS⟩] [.int,.int] λ(x:Int×Int)=>bif x.2==0 then bif x.1==0 then .zF (U2/\U2) (.ret ((0:Int),(1:Int)))else .zF (U2/\U2) (.ret (x.1,x.2))else .zF (U2/\U2) (.ret (x.1,x.2)))):=by kernel_rfl
theorem t75 (d:yA)(r:yT):@Eq _ (xSp prog f75 [.bool] 300 [⟨.zI,d⟩,⟨.req,r⟩]) (.zF pr (.zG 18 [⟨.zI,d⟩,⟨.req,r⟩] [.zM] λ(x:yH)=>.zF U2 (.ret (x.err==0)))):=by kernel_rfl
theorem t17 (a b:yH):@Eq _ (xSp prog f17 [.bool] 300 [⟨.zM,a⟩,⟨.zM,b⟩]) (bif a.err==b.err then bif a.id==b.id then bif a.n==b.n then bif a.ver==b.ver then .zF bX (.zG 60 [⟨.sl .change,a.list⟩,⟨.sl .change,b.list⟩] [.bool] λ(x:Bool)=>.zF U2 (.ret x))else .zF U2 (.ret false)else .zF U2 (.ret false)else .zF U2 (.ret false)else .zF U2 (.ret false)):=by kernel_rfl
theorem t60 (a b:List yM):@Eq _ (xSp prog f60 [.bool] 300 [⟨.sl .change,a⟩,⟨.sl .change,b⟩]) (bif (a.length:Int) != (b.length:Int)then .zF U2 (.ret false)else .stop (hd f60 0) (mkS 26 [(0,.d (.sl .change a)),(1,.d (.sl .change b)),(5,i64 0)] [] 0)):=by kernel_rfl
theorem t66 (d:yA)(l:List Int):@Eq _ (xSp prog f66 [.zM] 300 [⟨.zI,d⟩,⟨.sl .int,l⟩]) (bif (l.length:Int)==0 then .zF V2 (.zG 62 [⟨.int,(1:Int)⟩] [.zM] λ(x:yH)=>.zF U6 (.ret x))else bif decide ((l.length:Int)>16)then .zF V2 (.zG 62 [⟨.int,(2:Int)⟩] [.zM] λ(x:yH)=>.zF U6 (.ret x))else .zF V2 (.zG 128 [⟨.sl .int,l⟩] [.int] λ(x:Int)=>bif decide (x>=0)then .zF (((0:Int)<=x/\x<(l.length:Int))/\True) (.zF bX (.zG 69 [⟨.int,(152:Int)⟩,⟨.int,(l.getD x.toNat Ty.int.dflt)⟩] [.zM] λ(x:yH)=>.zF U6 (.ret x)))else .stop (hd f66 0) (mkS 41 [(2,.ptr 0 0),(4,.ptr 1 0),(27,.d (.sl .int l)),(28,i64 (l.length:Int)),(29,i64 0)] [(0,.box (dC d)),(1,.box [i64 0,i64 0,i64 0,i64 0,nS])] 2))):=by kernel_rfl
theorem t73 (d:yA)(l:List Int):@Eq _ (xSp prog f73 [.zM] 300 [⟨.zI,d⟩,⟨.sl .int,l⟩]) (bif (l.length:Int)==0 then .zF bX (.zG 71 [⟨.int,(1:Int)⟩,⟨.int,(0:Int)⟩] [.zM] λ(x:yH)=>.zF U6 (.ret x))else bif decide ((l.length:Int)>16)then .zF bX (.zG 71 [⟨.int,(2:Int)⟩,⟨.int,(0:Int)⟩] [.zM] λ(x:yH)=>.zF U6 (.ret x))else .zF V2 (.zG 114 [⟨.sl .int,l⟩] [.int] λ(x:Int)=>bif decide (x>=0)then .zF (((0:Int)<=x/\x<(l.length:Int))/\True) (.zF bX (.zG 71 [⟨.int,(152:Int)⟩,⟨.int,(l.getD x.toNat Ty.int.dflt)⟩] [.zM] λ(x:yH)=>.zF U6 (.ret x)))else .stop (hd f73 0) (mkS 43 [(1,.d (.sl .int l)),(2,.ptr 0 0),(4,.ptr 1 0),(6,i64 0)] [(0,.box (dC d)),(1,.box [i64 0,i64 0,i64 0,i64 0,nS])] 2))):=by kernel_rfl
theorem Px (l:List Int):@Eq _ (xSp prog f128 [.int] 300 [⟨.sl .int,l⟩]) (.stop (hd f128 0) (mkS 28 [(3,.mp 0),(9,.d (.sl .int l)),(10,i64 (l.length:Int)),(11,i64 0)] [(0,.mp .int .int [])] 1)):=by kernel_rfl
theorem t114 (l:List Int):@Eq _ (xSp prog f114 [.int] 300 [⟨.sl .int,l⟩]) (.stop (hd f114 0) (mkS 19 [(0,.d (.sl .int l)),(3,i64 0)] [] 0)):=by kernel_rfl
theorem t77 (l:List Int):@Eq _ (xSp prog f77 [.sl .int] 300 [⟨.sl .int,l⟩]) (.stop (hd f77 0) (mkS 18 [(0,.d (.sl .int l)),(3,nS),(4,i64 0)] [] 0)):=by kernel_rfl
theorem t76 (d:yA)(r:yT):@Eq _ (xSp prog f76 [.sl .int] 300 [⟨.zI,d⟩,⟨.req,r⟩]) (bif r.kind==2 then .zF V2 (.zG 81 [⟨.sl .int,r.zU⟩] [.sl .int] λ(x:List Int)=>.zF U2 (.ret x))else bif r.kind==4 then .zF LB (.zG 133 [⟨.zI,d⟩,⟨.int,r.a⟩,⟨.int,r.b⟩] [.sl .int,.int] λ(x:List Int×Int)=>.zF bX (.zF V2 (.zG 81 [Sigma.mk (.sl .int) [r.a,r.b]] [.sl .int] λ(x_1:List Int)=>.zF bX (.zG 134 [⟨.sl .int,x.1⟩,⟨.sl .int,x_1⟩] [.sl .int] λ(x:List Int)=>.zF U2 (.ret x)))))else bif r.kind==5 then bif r.kind==5 then .zF V2 (.zF lg (.zG 135 [⟨.zI,d⟩,Sigma.mk (.sl .int) [r.a]] [.sl .int,.int] λ(x:List Int×Int)=>.zF V2 (.zF bX (.zG 134 [⟨.sl .int,x.1⟩,Sigma.mk (.sl .int) [r.a]] [.sl .int] λ(x:List Int)=>.zF U2 (.ret x)))))else .zF U2 (.ret [])else bif r.kind==6 then bif r.kind==6 then .zF V2 (.zF lg (.zG 135 [⟨.zI,d⟩,Sigma.mk (.sl .int) [r.a]] [.sl .int,.int] λ(x:List Int×Int)=>.zF V2 (.zF bX (.zG 134 [⟨.sl .int,x.1⟩,Sigma.mk (.sl .int) [r.a]] [.sl .int] λ(x:List Int)=>.zF U2 (.ret x)))))else .zF U2 (.ret [])else bif r.kind==7 then .zF V2 (.zF lg (.zG 135 [⟨.zI,d⟩,Sigma.mk (.sl .int) [r.a]] [.sl .int,.int] λ(x:List Int×Int)=>.zF V2 (.zF bX (.zG 134 [⟨.sl .int,x.1⟩,Sigma.mk (.sl .int) [r.a]] [.sl .int] λ(x:List Int)=>.zF U2 (.ret x)))))else .zF U2 (.ret [])):=by kernel_rfl
theorem t21 (d:yA)(r:yT):@Eq _ (xSp prog f21 [.sl .int] 300 [⟨.zI,d⟩,⟨.req,r⟩]) (.zF pr (.zG 75 [⟨.zI,d⟩,⟨.req,r⟩] [.bool] λ(x:Bool)=>bif !x then .zF U2 (.ret [])else .zF pr (.zG 76 [⟨.zI,d⟩,⟨.req,r⟩] [.sl .int] λ(x:List Int)=>.zF U2 (.ret x)))):=by kernel_rfl
theorem t22 (d:yA)(r:yT):@Eq _ (xSp prog f22 [.sl .int] 300 [⟨.zI,d⟩,⟨.req,r⟩]) (.zF pr (.zG 19 [⟨.zI,d⟩,⟨.req,r⟩] [.zM] λ(x:yH)=>bif x.err != 0 then .zF U2 (.ret [])else bif r.kind==2 then .zF V2 (.zG 77 [⟨.sl .int,r.zU⟩] [.sl .int] λ(x:List Int)=>.zF U2 (.ret x))else bif r.kind==4 then .zF LB (.zG 78 [⟨.zI,d⟩,⟨.int,r.a⟩,⟨.int,r.b⟩] [.sl .int,.int] λ(x:List Int×Int)=>.zF bX (.zG 79 [⟨.sl .int,x.1⟩,⟨.int,r.a⟩] [.sl .int] λ(x:List Int)=>.zF bX (.zG 79 [⟨.sl .int,x⟩,⟨.int,r.b⟩] [.sl .int] λ(x:List Int)=>.zF U2 (.ret x))))else bif r.kind==5 then bif r.kind==5 then .zF V2 (.zF lg (.zG 80 [⟨.zI,d⟩,Sigma.mk (.sl .int) [r.a]] [.sl .int,.int] λ(x:List Int×Int)=>.zF bX (.zG 79 [⟨.sl .int,x.1⟩,⟨.int,r.a⟩] [.sl .int] λ(x:List Int)=>.zF U2 (.ret x))))else .zF U2 (.ret [])else bif r.kind==6 then bif r.kind==6 then .zF V2 (.zF lg (.zG 80 [⟨.zI,d⟩,Sigma.mk (.sl .int) [r.a]] [.sl .int,.int] λ(x:List Int×Int)=>.zF bX (.zG 79 [⟨.sl .int,x.1⟩,⟨.int,r.a⟩] [.sl .int] λ(x:List Int)=>.zF U2 (.ret x))))else .zF U2 (.ret [])else bif r.kind==7 then .zF V2 (.zF lg (.zG 80 [⟨.zI,d⟩,Sigma.mk (.sl .int) [r.a]] [.sl .int,.int] λ(x:List Int×Int)=>.zF bX (.zG 79 [⟨.sl .int,x.1⟩,⟨.int,r.a⟩] [.sl .int] λ(x:List Int)=>.zF U2 (.ret x))))else .zF U2 (.ret []))):=by kernel_rfl
theorem t24 (d:yA)(r:yT)(o:List Int)(h:Int):@Eq _ (xSp prog f24 [.sl .int] 300 [⟨.zI,d⟩,⟨.req,r⟩,⟨.sl .int,o⟩,⟨.int,h⟩]) (.zF pr (.zG 19 [⟨.zI,d⟩,⟨.req,r⟩] [.zM] λ(x:yH)=>bif x.err != 0 then .zF U2 (.ret [])else bif r.kind==1 then .zF V2 (.zG 77 [⟨.sl .int,r.zU⟩] [.sl .int] λ(x:List Int)=>.zF U2 (.ret x))else bif r.kind==3 then .zF V2 (.zG 77 [⟨.sl .int,o⟩] [.sl .int] λ(x:List Int)=>.zF U2 (.ret x))else bif r.kind==8 then bif decide (h<0)then .zF U2 (.ret [])else .zF V2 (.zF U2 (.ret [h]))else bif r.kind==9 then bif r.kind==9 then .zF V2 (.zF U2 (.ret [r.a]))else .zF pr (.zG 22 [⟨.zI,d⟩,⟨.req,r⟩] [.sl .int] λ(x:List Int)=>.zF U2 (.ret x))else bif r.kind==10 then .zF V2 (.zF U2 (.ret [r.a]))else .zF pr (.zG 22 [⟨.zI,d⟩,⟨.req,r⟩] [.sl .int] λ(x:List Int)=>.zF U2 (.ret x)))):=by kernel_rfl
theorem PA (m e:Int):@Eq _ (xSp prog f121 [.int] 300 [⟨.int,m⟩,⟨.int,e⟩]) (bif decide (e<(-63:Int))then .zF U2 (.ret (0:Int))else .zF ((0:Int)<=w64 ((0:Int)-e)) (bif e==(-63:Int)then .zF ((0:Int)<=w64 ((64:Int)+e)) (bif decide (IntKind.wrap .u64 (IntKind.wrap .u64 m*(2:Int)^min (w64 ((64:Int)+e)).toNat (IntKind.bits .u64))>9223372036854775808)then .zF U2 (.ret (w64 ((0:Int)+1)))else bif IntKind.wrap .u64 (IntKind.wrap .u64 m*(2:Int)^min (w64 ((64:Int)+e)).toNat (IntKind.bits .u64))==9223372036854775808 then .zF ((2:Int)≠(0:Int)) (.zF U2 (.ret (0:Int)))else .zF U2 (.ret (0:Int)))else .zF ((0:Int)<=w64 ((64:Int)+e)) (bif decide (IntKind.wrap .u64 (IntKind.wrap .u64 m*(2:Int)^min (w64 ((64:Int)+e)).toNat (IntKind.bits .u64))>9223372036854775808)then .zF U2 (.ret (w64 (Int.fdiv m ((2:Int)^min (w64 ((0:Int)-e)).toNat (IntKind.bits .i64))+1)))else bif IntKind.wrap .u64 (IntKind.wrap .u64 m*(2:Int)^min (w64 ((64:Int)+e)).toNat (IntKind.bits .u64))==9223372036854775808 then .zF ((2:Int)≠(0:Int)) (bif Int.tmod (Int.fdiv m ((2:Int)^min (w64 ((0:Int)-e)).toNat (IntKind.bits .i64))) 2==1 then .zF U2 (.ret (w64 (Int.fdiv m ((2:Int)^min (w64 ((0:Int)-e)).toNat (IntKind.bits .i64))+1)))else .zF U2 (.ret (Int.fdiv m ((2:Int)^min (w64 ((0:Int)-e)).toNat (IntKind.bits .i64)))))else .zF U2 (.ret (Int.fdiv m ((2:Int)^min (w64 ((0:Int)-e)).toNat (IntKind.bits .i64))))))):=by kernel_rfl
theorem Py (n s:Int):@Eq _ (xSp prog f124 [.u64] 300 [⟨.u64,n⟩,⟨.int,s⟩]) (bif decide (s<64)then .zF ((0:Int)<=s) (.zF ((0:Int)<=s) (.zF (IntKind.wrap .u64 ((1:Int)*(2:Int)^min s.toNat (IntKind.bits .u64))≠(0:Int)) (.zF ((0:Int)<=w64 (s-(1:Int))) (bif decide (Int.tmod n (IntKind.wrap .u64 ((1:Int)*(2:Int)^min s.toNat (IntKind.bits .u64)))>IntKind.wrap .u64 ((1:Int)*(2:Int)^min (w64 (s-(1:Int))).toNat (IntKind.bits .u64)))then .zF U2 (.ret (IntKind.wrap .u64 (Int.fdiv n ((2:Int)^min s.toNat (IntKind.bits .u64))+1)))else bif Int.tmod n (IntKind.wrap .u64 ((1:Int)*(2:Int)^min s.toNat (IntKind.bits .u64)))==IntKind.wrap .u64 ((1:Int)*(2:Int)^min (w64 (s-(1:Int))).toNat (IntKind.bits .u64))then .zF ((2:Int)≠(0:Int)) (bif Int.tmod (Int.fdiv n ((2:Int)^min s.toNat (IntKind.bits .u64))) 2==1 then .zF U2 (.ret (IntKind.wrap .u64 (Int.fdiv n ((2:Int)^min s.toNat (IntKind.bits .u64))+1)))else .zF U2 (.ret (Int.fdiv n ((2:Int)^min s.toNat (IntKind.bits .u64)))))else .zF U2 (.ret (Int.fdiv n ((2:Int)^min s.toNat (IntKind.bits .u64))))))))else .zF ((0:Int)<=w64 (s-(1:Int))) (bif decide (n>IntKind.wrap .u64 ((1:Int)*(2:Int)^min (w64 (s-(1:Int))).toNat (IntKind.bits .u64)))then .zF U2 (.ret (IntKind.wrap .u64 ((0:Int)+1)))else bif n==IntKind.wrap .u64 ((1:Int)*(2:Int)^min (w64 (s-(1:Int))).toNat (IntKind.bits .u64))then .zF ((2:Int)≠(0:Int)) (.zF U2 (.ret (0:Int)))else .zF U2 (.ret (0:Int)))):=by kernel_rfl
theorem t56:@Eq _ (xSp prog f56 [.zI] 300 []) (.zF gx (.zF V2 (.zF V8 (.zF V6 (.zF U5 (.ret (yA.mk [some 0,some 4621256167635550208,some 4625759767262920704] [yF.mk 1 2 (some 4621256167635550208) (some 4620693217682128896) (some 4602678819172646912) 100 [(40:Int)]] [yK.mk 1 1 (some 4611686018427387904) (some 0) (some 0)] 2))))))):=by kernel_rfl
theorem t200 (n:Int):@Eq _ (xSp prog f200 [.int] 300 [⟨.u64,n⟩]) (bif n==0 then .zF U2 (.ret (64:Int))else .zF ((0:Int)<=58) (.zF ((0:Int)<=Int.fdiv (IntKind.wrap .u64 (IntKind.wrap .u64 (↑(BitVec.toNat (BitVec.ofInt (IntKind.bits .u64) n &&& BitVec.ofInt (IntKind.bits .u64) (IntKind.wrap .u64 ((0:Int)-n)))):Int)*(285870213051353865:Int))) ((2:Int)^min 58 (IntKind.bits .u64))/\Int.fdiv (IntKind.wrap .u64 (IntKind.wrap .u64 (↑(BitVec.toNat (BitVec.ofInt (IntKind.bits .u64) n &&& BitVec.ofInt (IntKind.bits .u64) (IntKind.wrap .u64 ((0:Int)-n)))):Int)*(285870213051353865:Int))) ((2:Int)^min 58 (IntKind.bits .u64))<(↑64:Int)) (.zF U2 (.ret (w64 (List.getD [(↑0:Int),(↑1:Int),(↑56:Int),(↑2:Int),(↑57:Int),(↑49:Int),(↑28:Int),(↑3:Int),(↑61:Int),(↑58:Int),(↑42:Int),(↑50:Int),(↑38:Int),(↑29:Int),(↑17:Int),(↑4:Int),(↑62:Int),(↑47:Int),(↑59:Int),(↑36:Int),(↑45:Int),(↑43:Int),(↑51:Int),(↑22:Int),(↑53:Int),(↑39:Int),(↑33:Int),(↑30:Int),(↑24:Int),(↑18:Int),(↑12:Int),(↑5:Int),(↑63:Int),(↑55:Int),(↑48:Int),(↑27:Int),(↑60:Int),(↑41:Int),(↑37:Int),(↑16:Int),(↑46:Int),(↑35:Int),(↑44:Int),(↑21:Int),(↑52:Int),(↑32:Int),(↑23:Int),(↑11:Int),(↑54:Int),(↑26:Int),(↑40:Int),(↑15:Int),(↑34:Int),(↑20:Int),(↑31:Int),(↑10:Int),(↑25:Int),(↑14:Int),(↑19:Int),(↑9:Int),(↑13:Int),(↑8:Int),(↑7:Int),(↑6:Int)] (Int.fdiv (IntKind.wrap .u64 (IntKind.wrap .u64 (↑(BitVec.toNat (BitVec.ofInt (IntKind.bits .u64) n &&& BitVec.ofInt (IntKind.bits .u64) (IntKind.wrap .u64 ((0:Int)-n)))):Int)*(285870213051353865:Int))) ((2:Int)^min 58 (IntKind.bits .u64))).toNat 0)))))):=by kernel_rfl
theorem t201 (p:Nat):@Eq _ (xSp prog f201 [.bool] 300 [⟨.zQ,some p⟩]) (Out.callX 199 [.d (.f (some p))] (.d (.v (.int .u64 (↑p:Int)))) (.zF U2 (.ret (decide (w64 (↑p:Int)<0))))):=by kernel_rfl
theorem PB (p:Nat):@Eq _ (xSp prog f120 [.int,.int] 300 [⟨.zQ,some p⟩]) (.zF V2 (.zG 119 [⟨.zQ,(some p)⟩] [.int] λ(x:Int)=>bif decide (x<4)then .zF (U2/\U2) (.ret ((0:Int),(0:Int)))else Out.callX 199 [.d (.f (some p))] (.d (.v (.int .u64 (↑p:Int)))) (bif x==5 then .zF ((0:Int)<=52) (.zF V2 (.zG 200 [Sigma.mk .u64 (IntKind.wrap .u64 (↑(BitVec.toNat (BitVec.ofInt (IntKind.bits .u64) (IntKind.wrap .u64 (↑(BitVec.toNat (BitVec.ofInt (IntKind.bits .u64) (↑p:Int) &&& BitVec.ofInt (IntKind.bits .u64) 4503599627370495)):Int)) ||| BitVec.ofInt (IntKind.bits .u64) 4503599627370496)):Int))] [.int] λ(x:Int)=>.zF ((0:Int)<=x) (.zF V2 (.zG 201 [⟨.zQ,(some p)⟩] [.bool] λ(x_1:Bool)=>bif x_1 then .zF (U2/\U2) (.ret (w64 ((0:Int)-w64 (Int.fdiv (IntKind.wrap .u64 (↑(BitVec.toNat (BitVec.ofInt (IntKind.bits .u64) (IntKind.wrap .u64 (↑(BitVec.toNat (BitVec.ofInt (IntKind.bits .u64) (↑p:Int) &&& BitVec.ofInt (IntKind.bits .u64) 4503599627370495)):Int)) ||| BitVec.ofInt (IntKind.bits .u64) 4503599627370496)):Int)) ((2:Int)^min x.toNat (IntKind.bits .u64)))),w64 (w64 ((-1074:Int)+w64 (w64 (IntKind.wrap .u64 (↑(BitVec.toNat (BitVec.ofInt (IntKind.bits .u64) (Int.fdiv (↑p:Int) ((2:Int)^min 52 (IntKind.bits .u64))) &&& BitVec.ofInt (IntKind.bits .u64) 2047)):Int))-(1:Int)))+x)))else .zF (U2/\U2) (.ret (w64 (Int.fdiv (IntKind.wrap .u64 (↑(BitVec.toNat (BitVec.ofInt (IntKind.bits .u64) (IntKind.wrap .u64 (↑(BitVec.toNat (BitVec.ofInt (IntKind.bits .u64) (↑p:Int) &&& BitVec.ofInt (IntKind.bits .u64) 4503599627370495)):Int)) ||| BitVec.ofInt (IntKind.bits .u64) 4503599627370496)):Int)) ((2:Int)^min x.toNat (IntKind.bits .u64))),w64 (w64 ((-1074:Int)+w64 (w64 (IntKind.wrap .u64 (↑(BitVec.toNat (BitVec.ofInt (IntKind.bits .u64) (Int.fdiv (↑p:Int) ((2:Int)^min 52 (IntKind.bits .u64))) &&& BitVec.ofInt (IntKind.bits .u64) 2047)):Int))-(1:Int)))+x)))))))else .zF V2 (.zG 200 [Sigma.mk .u64 (IntKind.wrap .u64 (↑(BitVec.toNat (BitVec.ofInt (IntKind.bits .u64) (↑p:Int) &&& BitVec.ofInt (IntKind.bits .u64) 4503599627370495)):Int))] [.int] λ(x:Int)=>.zF ((0:Int)<=x) (.zF V2 (.zG 201 [⟨.zQ,(some p)⟩] [.bool] λ(x_1:Bool)=>bif x_1 then .zF (U2/\U2) (.ret (w64 ((0:Int)-w64 (Int.fdiv (IntKind.wrap .u64 (↑(BitVec.toNat (BitVec.ofInt (IntKind.bits .u64) (↑p:Int) &&& BitVec.ofInt (IntKind.bits .u64) 4503599627370495)):Int)) ((2:Int)^min x.toNat (IntKind.bits .u64)))),w64 ((-1074:Int)+x)))else .zF (U2/\U2) (.ret (w64 (Int.fdiv (IntKind.wrap .u64 (↑(BitVec.toNat (BitVec.ofInt (IntKind.bits .u64) (↑p:Int) &&& BitVec.ofInt (IntKind.bits .u64) 4503599627370495)):Int)) ((2:Int)^min x.toNat (IntKind.bits .u64))),w64 ((-1074:Int)+x))))))))):=by kernel_rfl
theorem Pz (n:Int):@Eq _ (xSp prog f123 [.int,.int] 300 [⟨.u64,n⟩]) (.zF V2 (.zG 122 [⟨.u64,n⟩] [.int] λ(x:Int)=>bif decide (x<4)then .zF (U2/\U2) (.ret ((0:Int),(0:Int)))else .zF ((4503599627370496:Int)≠(0:Int)) (bif x==5 then .zF ((0:Int)<=52) (.zF ((2048:Int)≠(0:Int)) (.stop (hd f123 0) (mkS 37 [(0,.d (.v (.int .u64 n))),(5,i64 (w64 (w64 (Int.tmod n 4503599627370496)+4503599627370496))),(6,i64 (w64 (w64 (Int.tmod (Int.fdiv n ((2:Int)^min 52 (IntKind.bits .u64))) 2048)-(1075:Int))))] [] 0)))else .stop (hd f123 0) (mkS 37 [(0,.d (.v (.int .u64 n))),(5,i64 (w64 (Int.tmod n 4503599627370496))),(6,i64 (-1074))] [] 0)))):=by kernel_rfl
theorem t57 (x:Fl):@Eq _ (xSp prog f57 [.int,.int] 300 [⟨.zQ,x⟩]) (.zF V2 (.zG 119 [⟨.zQ,x⟩] [.int] λ(x_1:Int)=>bif x_1==1 then .zF (U2/\U2) (.ret ((0:Int),(20:Int)))else bif x_1==2 then .zF (U2/\U2) (.ret ((0:Int),(21:Int)))else bif Fl.cmp x (some 0)==some Ordering.lt then .zF (U2/\U2) (.ret ((0:Int),(22:Int)))else bif Fl.cmp x (some 4787326403894837248)==some Ordering.gt then .zF (U2/\U2) (.ret ((0:Int),(4:Int)))else .zF V2 (.zG 120 [⟨.zQ,x⟩] [.int,.int] λ(x:Int×Int)=>bif decide (x.2<0)then .zF bX (.zG 121 [⟨.int,(w64 (x.1*(1000:Int)))⟩,⟨.int,x.2⟩] [.int] λ(x:Int)=>bif decide (x>1099511627776)then .zF (U2/\U2) (.ret ((0:Int),(4:Int)))else .zF (U2/\U2) (.ret (x,(0:Int))))else .zF ((0:Int)<=x.2) (bif decide (w64 (w64 (x.1*(1000:Int))*(2:Int)^min x.2.toNat (IntKind.bits .i64))>1099511627776)then .zF (U2/\U2) (.ret ((0:Int),(4:Int)))else .zF (U2/\U2) (.ret (w64 (w64 (x.1*(1000:Int))*(2:Int)^min x.2.toNat (IntKind.bits .i64)),(0:Int))))))):=by kernel_rfl
theorem t59 (n:Int):@Eq _ (xSp prog f59 [.int,.int] 300 [⟨.u64,n⟩]) (.zF V2 (.zG 122 [⟨.u64,n⟩] [.int] λ(x:Int)=>bif x==1 then .zF (U2/\U2) (.ret ((0:Int),(20:Int)))else bif x==2 then .zF (U2/\U2) (.ret ((0:Int),(21:Int)))else bif x==3 then .zF (U2/\U2) (.ret ((0:Int),(0:Int)))else .zF V2 (.zG 123 [⟨.u64,n⟩] [.int,.int] λ(x:Int×Int)=>bif decide (x.1<0)then .zF (U2/\U2) (.ret ((0:Int),(22:Int)))else bif decide (x.2<(-64:Int))then .zF (U2/\U2) (.ret ((0:Int),(0:Int)))else bif decide (x.2<0)then .zF bX (.zG 124 [⟨.u64,(IntKind.wrap .u64 (IntKind.wrap .u64 x.1*(1000:Int)))⟩,⟨.int,(w64 ((0:Int)-x.2))⟩] [.u64] λ(x_1:Int)=>.stop (hd f59 0) (mkS 49 [(5,i64 x.2),(6,.d (.v (.int .u64 x_1))),(7,i64 0)] [] 0))else .stop (hd f59 0) (mkS 49 [(5,i64 x.2),(6,.d (.v (.int .u64 (IntKind.wrap .u64 (IntKind.wrap .u64 x.1*(1000:Int)))))),(7,i64 0)] [] 0)))):=by kernel_rfl
theorem t70 (d:yA):@Eq _ (xSp prog f70 [.int] 300 [⟨.zI,d⟩]) (.zF V5 (.zG 131 [⟨.zI,d⟩] [.sl .span,.int] λ(x:List yG×Int)=>.zF U2 (.ret x.2))):=by kernel_rfl
end Go.Proofs.Wn
namespace Go.Proofs.Zn
open Go.Proofs.Tryz
open Go Go.VL
def IY (p:yF):List AV:=[i64 p.rows,i64 p.zP,.d (.f p.x),.d (.f p.pitch),.d (.f p.reach),i64 p.cap,.d (.sl .int p.start)]
def cq (d:yA):List AV:=[.d (.sl .zQ d.zA),.d (.sl .zJ d.zB),.d (.sl .zN d.zC),i64 d.zO]
def TV (p:yF)(i:Int):AS:=mkS 40 [(1,.ptr 0 0),(25,.d (.sl .int p.start)),(26,i64 p.start.length),(27,i64 i)] [(0,.box (IY p))] 1
def HK (l:List Go.VL.Box)(n i:Int):AS:=mkS 18 [(3,i64 n),(6,.d (.sl .box l)),(7,i64 l.length),(8,i64 i)] [] 0
def QO (d:yA)(out:List Go.VL.Box)(i:Int):AS:=mkS 23 [(3,.own 0 .box),(7,.d (.sl .zJ d.zB)),(8,i64 d.zB.length),(9,i64 i)] [(0,.row 244 .box out)] 1
def QN (d:yA)(out:List Go.VL.Box)(i:Int):AS:=mkS 23 [(3,.own 0 .box),(7,.d (.sl .zN d.zC)),(8,i64 d.zC.length),(9,i64 i)] [(0,.row 244 .box out)] 1
def L92 (d:yA)(x y:List Go.VL.Box)(i:Int):AS:=mkS 78 [(1,.ptr 0 0),(4,.d (.sl .box x)),(5,.d (.sl .box y)),(40,.d (.sl .box x)),(41,i64 x.length),(42,i64 i)] [(0,.box (cq d))] 1
def QP (l:List Go.VL.Box)(k n i:Int):AS:=mkS 41 [(2,i64 n),(6,.ptr 0 0),(7,.ptr 1 0),(12,.d (.sl .box l)),(13,i64 l.length),(14,i64 i)] [(0,.box [i64 0,i64 0,i64 0,i64 0]),(1,.box [i64 k,i64 0,i64 0,i64 0])] 2
def TY (p:yF)(i:Int):AS:=mkS 54 [(1,.ptr 0 0),(3,i64 i)] [(0,.box (IY p))] 1
def L89 (d:yA)(w t i:Int):AS:=mkS 103 [(1,.ptr 0 0),(4,i64 w),(5,i64 t),(6,i64 i)] [(0,.box (cq d))] 1
def NV (k u r c:Int)(out:List Part)(i:Int):AS:=mkS 31 [(0,i64 k),(1,i64 u),(2,i64 r),(3,i64 c),(9,.own 0 .part),(10,i64 i)] [(0,.row 179 .part out)] 1
def L90 (d:yA)(out:List Part)(i:Int):AS:=mkS 71 [(1,.ptr 0 0),(3,.own 1 .part),(4,i64 i)] [(0,.box (cq d)),(1,.row 179 .part out)] 2
def L37 (d:yA)(i:Int):AS:=mkS 35 [(1,.ptr 0 0),(3,i64 i)] [(0,.box (cq d))] 1
theorem Sc (p:yF)(i:Int):@Eq _ (xLp prog f204 [.bool] 200 0 (TV p i)) (bif decide (i<(p.start.length:Int))then .zF (((0:Int)<=i/\i<(p.start.length:Int))/\True) (bif decide (p.start.getD i.toNat Ty.int.dflt<0)then .zF U2 (.ret false)else bif decide (p.start.getD i.toNat Ty.int.dflt>p.cap)then .zF U2 (.ret false)else .stop (hd f204 0) (mkS 40 [(1,.ptr 0 0),(25,.d (.sl .int p.start)),(26,i64 (p.start.length:Int)),(27,i64 (w64 (i+1)))] [(0,.box [i64 p.rows,i64 p.zP,.d (.f p.x),.d (.f p.pitch),.d (.f p.reach),i64 p.cap,.d (.sl .int p.start)])] 1))else .zF U2 (.ret true)):=by kernel_rfl
theorem Iq (l:List Go.VL.Box)(n i:Int):@Eq _ (xLp prog f141 [.int] 200 0 (HK l n i)) (bif decide (i<(l.length:Int))then .zF (((0:Int)<=i/\i<(l.length:Int))/\True) (.zF V3 (.zG 217 [⟨.box,(l.getD i.toNat Ty.box.dflt)⟩] [.int] λ(x:Int)=>.stop (hd f141 0) (mkS 18 [(3,i64 (w64 (n+x))),(6,.d (.sl .box l)),(7,i64 (l.length:Int)),(8,i64 (w64 (i+1)))] [] 0)))else .zF U2 (.ret n)):=by kernel_rfl
theorem Sk (d:yA)(out:List Go.VL.Box)(i:Int):@Eq _ (xLp prog f142 [.sl .box] 200 0 (QO d out i)) (bif decide (i<(d.zB.length:Int))then .zF (((0:Int)<=i/\i<(d.zB.length:Int))/\True) (.zF V3 (.zF ((out.length+List.length [Box.mk (d.zB.getD i.toNat Ty.zJ.dflt).rows (d.zB.getD i.toNat Ty.zJ.dflt).zP])*17<=35184372088832/\True) (.stop (hd f142 0) (mkS 23 [(3,.own 0 .box),(7,.d (.sl .zJ d.zB)),(8,i64 (d.zB.length:Int)),(9,i64 (w64 (i+1)))] [(0,.row 244 .box (out++[Box.mk (d.zB.getD i.toNat Ty.zJ.dflt).rows (d.zB.getD i.toNat Ty.zJ.dflt).zP]))] 1))))else .zF U2 (.ret out)):=by kernel_rfl
theorem Sj (d:yA)(out:List Go.VL.Box)(i:Int):@Eq _ (xLp prog f143 [.sl .box] 200 0 (QN d out i)) (bif decide (i<(d.zC.length:Int))then .zF (((0:Int)<=i/\i<(d.zC.length:Int))/\True) (.zF V3 (.zF ((out.length+List.length [Box.mk (d.zC.getD i.toNat Ty.zN.dflt).rows (d.zC.getD i.toNat Ty.zN.dflt).zP])*17<=35184372088832/\True) (.stop (hd f143 0) (mkS 23 [(3,.own 0 .box),(7,.d (.sl .zN d.zC)),(8,i64 (d.zC.length:Int)),(9,i64 (w64 (i+1)))] [(0,.row 244 .box (out++[Box.mk (d.zC.getD i.toNat Ty.zN.dflt).rows (d.zC.getD i.toNat Ty.zN.dflt).zP]))] 1))))else .zF U2 (.ret out)):=by kernel_rfl
theorem t92a (d:yA)(x y:List Go.VL.Box)(i:Int):@Eq _ (xLp prog f125 [.int] 200 0 (L92 d x y i)) (bif decide (i<(x.length:Int))then .zF (((0:Int)<=i/\i<(x.length:Int))/\True) (.zF V3 (.zG 203 [⟨.box,(x.getD i.toNat Ty.box.dflt)⟩] [.bool] λ(x_1:Bool)=>bif !x_1 then .zF U2 (.ret (81:Int))else .zF (((0:Int)<=i/\i<(d.zB.length:Int))/\True) (.zF V8 (.zG 204 [⟨.zJ,(d.zB.getD i.toNat Ty.zJ.dflt)⟩] [.bool] λ(x_2:Bool)=>bif !x_2 then .zF U2 (.ret (81:Int))else .stop (hd f125 0) (mkS 78 [(1,.ptr 0 0),(4,.d (.sl .box x)),(5,.d (.sl .box y)),(40,.d (.sl .box x)),(41,i64 (x.length:Int)),(42,i64 (w64 (i+1)))] [(0,.box (dC d))] 1)))))else .stop (hd f125 1) (mkS 78 [(4,.d (.sl .box x)),(5,.d (.sl .box y)),(60,.d (.sl .box y)),(61,i64 (y.length:Int)),(62,i64 0)] [] 0)):=by kernel_rfl
theorem Sl (l:List Go.VL.Box)(k n i:Int):@Eq _ (xLp prog f208 [.part] 200 0 (QP l k n i)) (bif decide (i<(l.length:Int))then .zF (((0:Int)<=i/\i<(l.length:Int))/\True) (.zF V3 (.zG 217 [⟨.box,(l.getD i.toNat Ty.box.dflt)⟩] [.int] λ(x:Int)=>bif decide (n<x)then .zF (Box.zP (l.getD i.toNat Ty.box.dflt)≠(0:Int)) (.zF (Box.zP (l.getD i.toNat Ty.box.dflt)≠(0:Int)) (.zF U5 (.ret (Part.mk k i (w64 (Int.tdiv n (Box.zP (l.getD i.toNat Ty.box.dflt)))) (Int.tmod n (Box.zP (l.getD i.toNat Ty.box.dflt)))))))else .zF V3 (.zG 217 [⟨.box,(l.getD i.toNat Ty.box.dflt)⟩] [.int] λ(x:Int)=>.stop (hd f208 0) (mkS 41 [(2,i64 (w64 (n-x))),(6,.ptr 0 0),(7,.ptr 1 0),(12,.d (.sl .box l)),(13,i64 (l.length:Int)),(14,i64 (w64 (i+1)))] [(0,.box [i64 0,i64 0,i64 0,i64 0]),(1,.box [i64 k,i64 0,i64 0,i64 0])] 2))))else .zF U5 (.ret (Part.mk k 0 0 0))):=by kernel_rfl
theorem Sg (p:yF)(i:Int):@Eq _ (xLp prog f219 [.bool] 200 0 (TY p i)) (bif decide (i<(p.start.length:Int))then .zF (((0:Int)<=i/\i<(p.start.length:Int))/\True) (bif decide (p.start.getD i.toNat Ty.int.dflt<0)then .zF U2 (.ret false)else .zF (((0:Int)<=i/\i<(p.start.length:Int))/\True) (bif decide (p.start.getD i.toNat Ty.int.dflt>p.cap)then .zF U2 (.ret false)else .stop (hd f219 0) (mkS 54 [(1,.ptr 0 0),(3,i64 (w64 (i+1)))] [(0,.box [i64 p.rows,i64 p.zP,.d (.f p.x),.d (.f p.pitch),.d (.f p.reach),i64 p.cap,.d (.sl .int p.start)])] 1)))else .zF U2 (.ret true)):=by kernel_rfl
theorem t89a (d:yA)(w t i:Int):@Eq _ (xLp prog f153 [.int] 200 0 (L89 d w t i)) (bif decide (i<(d.zB.length:Int))then .zF (((0:Int)<=i/\i<(d.zB.length:Int))/\True) (.zF V8 (.zG 219 [⟨.zJ,(d.zB.getD i.toNat Ty.zJ.dflt)⟩] [.bool] λ(x:Bool)=>bif !x then .zF U2 (.ret (81:Int))else .zF (((0:Int)<=i/\i<(d.zB.length:Int))/\True) (.zF (((0:Int)<=i/\i<(d.zB.length:Int))/\True) (.stop (hd f153 0) (mkS 103 [(1,.ptr 0 0),(4,i64 (w64 (w+w64 ((d.zB.getD i.toNat Ty.zJ.dflt).rows*(d.zB.getD i.toNat Ty.zJ.dflt).zP)))),(5,i64 t),(6,i64 (w64 (i+1)))] [(0,.box (dC d))] 1)))))else .stop (hd f153 1) (mkS 103 [(1,.ptr 0 0),(4,i64 w),(5,i64 t),(7,i64 0)] [(0,.box (dC d))] 1)):=by kernel_rfl
theorem Sf (k u r c:Int)(out:List Part)(i:Int):@Eq _ (xLp prog f154 [.sl .part] 200 0 (NV k u r c out i)) (bif decide (i<r)then .stop (hd f154 1) (mkS 31 [(0,i64 k),(1,i64 u),(2,i64 r),(3,i64 c),(9,.own 0 .part),(10,i64 i),(11,i64 0)] [(0,.row 179 .part out)] 1)else .zF U2 (.ret out)):=by kernel_rfl
theorem t90a (d:yA)(out:List Part)(i:Int):@Eq _ (xLp prog f88 [.sl .part] 200 0 (L90 d out i)) (bif decide (i<(d.zB.length:Int))then .zF (((0:Int)<=i/\i<(d.zB.length:Int))/\True) (.zF (((0:Int)<=i/\i<(d.zB.length:Int))/\True) (.zF uz (.zG 154 [⟨.int,(1:Int)⟩,⟨.int,i⟩,Sigma.mk .int (d.zB.getD i.toNat Ty.zJ.dflt).rows,Sigma.mk .int (d.zB.getD i.toNat Ty.zJ.dflt).zP] [.sl .part] λ(x:List Part)=>.zF ((out.length+x.length)*33<=35184372088832/\True) (.stop (hd f88 0) (mkS 71 [(1,.ptr 0 0),(3,.own 1 .part),(4,i64 (w64 (i+1)))] [(0,.box (dC d)),(1,.row 179 .part (out++x))] 2)))))else .stop (hd f88 1) (mkS 71 [(1,.ptr 0 0),(3,.own 1 .part),(5,i64 0)] [(0,.box (dC d)),(1,.row 179 .part out)] 2)):=by kernel_rfl
theorem t37a (d:yA)(i:Int):@Eq _ (xLp prog f25 [.bool] 200 0 (L37 d i)) (bif decide (i<(d.zB.length:Int))then .zF (((0:Int)<=i/\i<(d.zB.length:Int))/\True) (bif decide ((↑(d.zB.getD i.toNat Ty.zJ.dflt).start.length:Int)>500)then .zF U2 (.ret true)else .stop (hd f25 0) (mkS 35 [(1,.ptr 0 0),(3,i64 (w64 (i+1)))] [(0,.box (dC d))] 1))else .zF U2 (.ret false)):=by kernel_rfl
end Go.Proofs.Zn
namespace Go.Proofs.Wn
open Go.Proofs.Tryz
open Go Go.VL
abbrev cq:=Zn.cq
def Om:List AV:=[i64 0,i64 0,i64 0,i64 0,.d (.v (.slice none 0 0))]
def L60 (a b:List yM)(i:Int):AS:=mkS 26 [(0,.d (.sl .change a)),(1,.d (.sl .change b)),(5,i64 i)] [] 0
def L66 (d:yA)(l:List Int)(i:Int):AS:=mkS 41 [(2,.ptr 0 0),(4,.ptr 1 0),(27,.d (.sl .int l)),(28,i64 l.length),(29,i64 i)] [(0,.box (cq d)),(1,.box Om)] 2
def L73 (d:yA)(l:List Int)(i:Int):AS:=mkS 43 [(1,.d (.sl .int l)),(2,.ptr 0 0),(4,.ptr 1 0),(6,i64 i)] [(0,.box (cq d)),(1,.box Om)] 2
def HK (kvs:List (Int×Int))(l:List Int)(i:Int):AS:=mkS 28 [(3,.mp 0),(9,.d (.sl .int l)),(10,i64 l.length),(11,i64 i)] [(0,.mp .int .int kvs)] 1
def Ua (l:List Int)(i:Int):AS:=mkS 19 [(0,.d (.sl .int l)),(3,i64 i)] [] 0
def L77 (l out:List Int)(i:Int):AS:=mkS 18 [(0,.d (.sl .int l)),(3,.d (.sl .int out)),(4,i64 i)] [] 0
def TX (n m e:Int):AS:=mkS 37 [(0,u64 n),(5,i64 m),(6,i64 e)] [] 0
def L59 (e n i:Int):AS:=mkS 49 [(5,i64 e),(6,u64 n),(7,i64 i)] [] 0
theorem t60a (a b:List yM)(i:Int):@Eq _ (xLp prog f60 [.bool] 200 0 (L60 a b i)) (bif decide (i<(a.length:Int))then .zF (((0:Int)<=i/\i<(a.length:Int))/\True) (.zF (((0:Int)<=i/\i<(b.length:Int))/\True) (bif ! ((a.getD i.toNat Ty.change.dflt).ver==(b.getD i.toNat Ty.change.dflt).ver&&((a.getD i.toNat Ty.change.dflt).by'==(b.getD i.toNat Ty.change.dflt).by'&&((a.getD i.toNat Ty.change.dflt).n==(b.getD i.toNat Ty.change.dflt).n&&true)))then .zF U2 (.ret false)else .stop (hd f60 0) (mkS 26 [(0,.d (.sl .change a)),(1,.d (.sl .change b)),(5,i64 (w64 (i+1)))] [] 0)))else .zF U2 (.ret true)):=by kernel_rfl
theorem t66a (d:yA)(l:List Int)(i:Int):@Eq _ (xLp prog f66 [.zM] 200 0 (L66 d l i)) (bif decide (i<(l.length:Int))then .zF (((0:Int)<=i/\i<(l.length:Int))/\True) (.zF lg (.zG 68 [⟨.zI,d⟩,⟨.int,(l.getD i.toNat Ty.int.dflt)⟩] [.int] λ(x:Int)=>bif x==0 then .zF bX (.zG 69 [⟨.int,(3:Int)⟩,⟨.int,(l.getD i.toNat Ty.int.dflt)⟩] [.zM] λ(x:yH)=>.zF U6 (.ret x))else .stop (hd f66 0) (mkS 41 [(2,.ptr 0 0),(4,.ptr 1 0),(27,.d (.sl .int l)),(28,i64 (l.length:Int)),(29,i64 (w64 (i+1)))] [(0,.box (dC d)),(1,.box [i64 0,i64 0,i64 0,i64 0,nS])] 2)))else .zF U6 (.ret (yH.mk 0 0 0 0 []))):=by kernel_rfl
theorem t73a (d:yA)(l:List Int)(i:Int):@Eq _ (xLp prog f73 [.zM] 200 0 (L73 d l i)) (bif decide (i<(l.length:Int))then .zF (((0:Int)<=i/\i<(l.length:Int))/\True) (.zF lg (.zG 74 [⟨.zI,d⟩,⟨.int,(l.getD i.toNat Ty.int.dflt)⟩] [.int] λ(x:Int)=>bif x==0 then .zF (((0:Int)<=i/\i<(l.length:Int))/\True) (.zF bX (.zG 71 [⟨.int,(3:Int)⟩,⟨.int,(l.getD i.toNat Ty.int.dflt)⟩] [.zM] λ(x:yH)=>.zF U6 (.ret x)))else .stop (hd f73 0) (mkS 43 [(1,.d (.sl .int l)),(2,.ptr 0 0),(4,.ptr 1 0),(6,i64 (w64 (i+1)))] [(0,.box (dC d)),(1,.box [i64 0,i64 0,i64 0,i64 0,nS])] 2)))else .zF U6 (.ret (yH.mk 0 0 0 0 []))):=by kernel_rfl
theorem Iq (kvs:List (Int×Int))(l:List Int)(i:Int):@Eq _ (xLp prog f128 [.int] 200 0 (HK kvs l i)) (bif decide (i<(l.length:Int))then .zF (((0:Int)<=i/\i<(l.length:Int))/\True) (bif Option.isSome (mK (l.getD i.toNat Ty.int.dflt) kvs)then .zF U2 (.ret i)else .zF U2 (.stop (hd f128 0) (mkS 28 [(3,.mp 0),(9,.d (.sl .int l)),(10,i64 (l.length:Int)),(11,i64 (w64 (i+1)))] [(0,.mp .int .int (oB (l.getD i.toNat Ty.int.dflt) i kvs))] 1)))else .zF U2 (.ret (-1:Int))):=by kernel_rfl
theorem Sn (l:List Int)(i:Int):@Eq _ (xLp prog f114 [.int] 200 0 (Ua l i)) (bif decide (i<(l.length:Int))then .zF (((0:Int)<=0/\(0:Int)<=i/\i<=(l.length:Int))/\True) (.zF (((0:Int)<=i/\i<(l.length:Int))/\True) (.zF bX (.zG 44 [⟨.sl .int,(List.drop 0 (List.take i.toNat l))⟩,⟨.int,(l.getD i.toNat Ty.int.dflt)⟩] [.bool] λ(x:Bool)=>bif x then .zF U2 (.ret i)else .stop (hd f114 0) (mkS 19 [(0,.d (.sl .int l)),(3,i64 (w64 (i+1)))] [] 0))))else .zF U2 (.ret (-1:Int))):=by kernel_rfl
theorem t77a (l out:List Int)(i:Int):@Eq _ (xLp prog f77 [.sl .int] 200 0 (L77 l out i)) (bif decide (i<(l.length:Int))then .zF (((0:Int)<=i/\i<(l.length:Int))/\True) (.zF bX (.zG 79 [⟨.sl .int,out⟩,⟨.int,(l.getD i.toNat Ty.int.dflt)⟩] [.sl .int] λ(x:List Int)=>.stop (hd f77 0) (mkS 18 [(0,.d (.sl .int l)),(3,.d (.sl .int x)),(4,i64 (w64 (i+1)))] [] 0)))else .zF U2 (.ret out)):=by kernel_rfl
theorem NZ (n m e:Int):@Eq _ (xLp prog f123 [.int,.int] 200 0 (TX n m e)) (.zF ((2:Int)≠(0:Int)) (bif Int.tmod m 2==0 then .zF ((2:Int)≠(0:Int)) (.stop (hd f123 0) (mkS 37 [(0,.d (.v (.int .u64 n))),(5,i64 (w64 (Int.tdiv m 2))),(6,i64 (w64 (e+1)))] [] 0))else .zF ((0:Int)<=63) (bif Int.fdiv n ((2:Int)^min 63 (IntKind.bits .u64))==1 then .zF (U2/\U2) (.ret (w64 ((0:Int)-m),e))else .zF (U2/\U2) (.ret (m,e))))):=by kernel_rfl
theorem Ro (e n i:Int):@Eq _ (xLp prog f59 [.int,.int] 200 0 (L59 e n i)) (bif decide (i<e)then bif decide (n<=1099511627776)then .stop (hd f59 0) (mkS 49 [(5,i64 e),(6,.d (.v (.int .u64 (IntKind.wrap .u64 ((2:Int)*n))))),(7,i64 (w64 (i+1)))] [] 0)else bif decide (n>1099511627776)then .zF (U2/\U2) (.ret ((0:Int),(4:Int)))else .zF (U2/\U2) (.ret (w64 n,(0:Int)))else bif decide (n>1099511627776)then .zF (U2/\U2) (.ret ((0:Int),(4:Int)))else .zF (U2/\U2) (.ret (w64 n,(0:Int)))):=by kernel_rfl
end Go.Proofs.Wn
set_option exponentiation.threshold 4096
namespace Go.Proofs.Wn
open Go.Proofs.Tryz
open Go Go.VL Go.Proofs.Zn
abbrev T2':True/\True:=⟨tv,tv⟩
theorem dl {α:Type}{P:Program}{A:List Item->AS->Prop}{R0:α->Prop}{b:Bool}{S T:Out α}(h:b=true)(h1:Sat P A R0 S):Sat P A R0 (bif b then S else T):=by rw[h];exact h1
theorem bz {α:Type}{P:Program}{A:List Item->AS->Prop}{R0:α->Prop}{b:Bool}{S T:Out α}(h:b=false)(h1:Sat P A R0 T):Sat P A R0 (bif b then S else T):=by rw[h];exact h1
theorem DJ {vs:Array Value}(hs:vs.size=1):∃ v,vs=#[v]:=by
 refine⟨vs[0]'(by omega),?_⟩
 apply Array.ext
 ·exact hs
 ·intro i hi hi2
  have:i=0:=by omega
  subst this;rfl
theorem x58 (n:Int):LN prog 58 [.d (.v (.int .u64 n))] (.d (.f (some n.toNat))):=λ w K m H vs hs hr=>by
 obtain⟨v,rfl⟩:=DJ hs
 have e:v=.int .u64 n:=cw (hr 0 _ v rfl rfl)
 subst e
 exact⟨.float .f64 n.toNat,run_callFunc_extern (e:=Extern.MathFloatBits.float64frombits) func58 (by kernel_rfl) (by kernel_rfl) (by kernel_rfl) (by kernel_rfl) #[.int .u64 n] w,.d _ _ (.f _ _ rfl)⟩
theorem QU (b:Nat):LN prog 199 [.d (.f (some b))] (.d (.v (.int .u64 (b:Int)))):=λ w K m H vs hs hr=>by
 obtain⟨v,rfl⟩:=DJ hs
 have e:v=.float .f64 b:=by
  have:=hr 0 _ v rfl rfl
  cases this with
  | d _ _ h => cases h with
    | f _ c h=>have h:c=b:=h;rw[h]
 subst e
 exact⟨.int .u64 b,run_callFunc_extern (e:=Extern.MathFloatBits.float64bits) func199 (by kernel_rfl) (by kernel_rfl) (by kernel_rfl) (by kernel_rfl) #[.float .f64 b] w,.d _ _ (.v _)⟩
theorem Ti {n k m:Nat}(hn:n=2^k*(2*m+1))(h:n<18446744073709551616):yJ prog 200 [⟨.u64,(n:Int)⟩] [.int] (k:Int):=
 ofT func200 (t200 n) (by kernel_rfl) (by kernel_rfl) λ _=>by
  have hk:=IV hn h
  have hp:0<2^k:=de (by decide)
  have hpos:0<n:=by rw[hn];exact lB hp (by omega)
  have e64:(2^64:Nat)=18446744073709551616:=by decide
  have hkl:2^k<18446744073709551616:=by
   have:2^k<=2^63:=aT (by decide) (by omega)
   have e63:(2^63:Nat)=9223372036854775808:=by decide
   omega
  have e1:=Jm hpos h
  have e2:(BitVec.ofInt (IntKind.bits .u64) (n:Int) &&& BitVec.ofInt (IntKind.bits .u64) (((2^64-n:Nat)):Int)).toNat=2^k:=by
   rw[CZ h (by omega)];exact NQ hn (by omega)
  have e3:IntKind.u64.wrap (IntKind.u64.wrap ((2^k:Nat):Int)*285870213051353865)=((2^k*285870213051353865%2^64:Nat):Int):=by
   rw[mV hkl,lS,e64];rfl
  have e4:(2:Int)^min 58 (IntKind.bits .u64)=((2^58:Nat):Int):=by decide
  obtain⟨t1,t2⟩:=OE ⟨k,hk⟩
  simp only at t1 t2
  rw[e1,e2,e3,e4,iF]
  generalize 2^k*285870213051353865%2^64/2^58=x at t1 t2
  refine bz (by simp;omega) ⟨by decide,⟨by omega,by show(x:Int)<(64:Int);omega⟩,T2',?_⟩
  show w64 (NX.getD (x:Int).toNat 0)=(k:Int)
  rw[au,t2,an (by omega) (by omega)]
theorem Th {p:Nat}(hp:p<18446744073709551616):yJ prog 201 [⟨.zQ,some p⟩] [.bool] (my p):=
 ofT func201 (t201 p) (by kernel_rfl) (by kernel_rfl) λ _=>⟨QU p,T2',by
  show decide (w64 (p:Int)<0)=decide (9223372036854775808<=p)
  refine bF.2 ?_
  unfold w64 IntKind.wrap
  have e:(2^IntKind.i64.bits:Int)=18446744073709551616:=rfl
  have e2:(2^(IntKind.i64.bits-1):Int)=9223372036854775808:=rfl
  have e3:IntKind.i64.signed=true:=rfl
  simp only[e,e2,e3,cn]
  rw[lF (by omega) (by omega)]
  by_cases h:9223372036854775808<=p
  ·rw[aE (by simp;omega)];omega
  ·rw[aF (by simp;omega)];omega⟩
theorem Ly {b:Nat}(hb:b<18446744073709551616):(bits BinOp.andNot IntKind.u64 (b:Int) 9223372036854775808).toNat=b%9223372036854775808:=by
 have h3:(BitVec.ofInt 64 (b:Int)).toNat=b:=uq hb
 have h2:(~~~ BitVec.ofInt 64 9223372036854775808).toNat=9223372036854775807:=by decide
 have h4:(BitVec.ofInt 64 (b:Int) &&& ~~~ BitVec.ofInt 64 9223372036854775808).toNat=b%9223372036854775808:=by
  rw[BitVec.toNat_and,h2,h3]
  exact fI b 63
 show(IntKind.u64.wrap ((BitVec.ofInt 64 (b:Int) &&& ~~~ BitVec.ofInt 64 9223372036854775808).toNat:Int)).toNat=_
 rw[h4,mV (by omega),au]
theorem CE {r:Nat}(hr:r<=9218868437227405312):cR (some r)=(gE r:Int):=by
 have:=xK (b:=r) (by omega) (by rw[cJ (by omega)];exact hr)
 rw[cJ (by omega),dF (by omega)]at this
 exact this
theorem xw {r:Nat}(hr:r<=9218868437227405312):du (some r)=false:=by
 rw[xu,cJ (by omega)];exact dF (by omega)
theorem yi {r q:Nat}(hr:r<=9218868437227405312)(hq:q<=9218868437227405312):Fl.cmp (some r) (some q)=some (compare (r:Int) (q:Int)):=by
 rw[mN (xw hr) (xw hq),CE hr,CE hq]
 congr 1
 have h1:=wO hr hq
 have h2:=wO hq hr
 rcases Nat.lt_trichotomy r q with c|c|c
 ·have:=h1.2 c
  rw[lG.2 (by omega:(gE r:Int)<(gE q:Int)),lG.2 (by omega:(r:Int)<(q:Int))]
 ·subst c
  rw[lI.2 rfl,lI.2 rfl]
 ·have:=h2.2 c
  rw[lH.2 (by omega:(gE q:Int)<(gE r:Int)),lH.2 (by omega:(q:Int)<(r:Int))]
theorem CS {a b:Int}(o:Ordering):(some (compare a b)==some o)=decide (compare a b=o):=by
 cases compare a b<;>cases o<;>rfl
theorem KN {a b:Int}:(some (compare a b)==some Ordering.gt)=decide (b<a):=by
 rw[CS];exact bF.2 (by rw[lH])
theorem KM {a b:Int}:(some (compare a b)==some Ordering.lt)=decide (a<b):=by
 rw[CS];exact bF.2 (by rw[lG])
theorem Qk {a b:Int}:(some (compare a b)==some Ordering.eq)=decide (a=b):=by
 rw[CS];exact bF.2 (by rw[lI])
theorem NI {b:Nat}(hb:b<18446744073709551616):yJ prog 119 [⟨.zQ,some b⟩] [.int] (gw (rN b)):=by
 refine Zn.ofT func119 (RR (some b)) (by kernel_rfl) (by kernel_rfl) λ A=>⟨⟨q2,tv⟩,_,NC b,?_⟩
 rw[Bh,xu,Ly hb]
 unfold gw rN
 refine cZ (λ _=>⟨q2,rfl⟩) (λ h=>?_)
 have h:=oF h
 have hr:b%9223372036854775808<=9218868437227405312:=by omega
 rw[yi hr (by decide),yi hr (by decide),yi hr (by decide),KN,Qk,KM]
 have g1:decide (((9218868437227405311:Nat):Int)<((b%9223372036854775808:Nat):Int))=decide (b%9223372036854775808=9218868437227405312):=bF.2 (by omega)
 have g2:decide (((b%9223372036854775808:Nat):Int)=((0:Nat):Int))=decide (b%9223372036854775808=0):=bF.2 (by omega)
 have g3:decide (((b%9223372036854775808:Nat):Int)<((4503599627370496:Nat):Int))=decide (b%9223372036854775808<4503599627370496):=bF.2 (by omega)
 rw[g1,g2,g3]
 exact cZ (λ _=>⟨q2,rfl⟩) (λ _=>cZ (λ _=>⟨q2,rfl⟩) (λ _=>cZ (λ _=>⟨q2,rfl⟩) (λ _=>⟨q2,rfl⟩)))
theorem NF (b:Nat):yJ prog 122 [⟨.u64,(b:Int)⟩] [.int] (gw (rN b)):=by
 refine Zn.ofT func122 (Mi b) (by kernel_rfl) (by kernel_rfl) λ A=>?_
 have e1:(2:Int)^min 52 (IntKind.bits IntKind.u64)=((4503599627370496:Nat):Int):=by decide
 have e2:((2048:Nat):Int)=2048:=rfl
 have e3:Int.tmod (Int.fdiv (b:Int) ((4503599627370496:Nat):Int)) 2048=((b/4503599627370496%2048:Nat):Int):=by rw[iF,<-e2,iA]
 have e4:Int.tmod (b:Int) 4503599627370496=((b%4503599627370496:Nat):Int):=by
  have:=iA b 4503599627370496;exact this
 rw[e1,e3,e4]
 have key:∀ (a c:Nat),a=b/4503599627370496%2048->c=b%4503599627370496->gw (rN b)=Ql ((a:Int)==2047) ((c:Int) != 0) ((a:Int)==0) ((c:Int)==0):=λ a c ha hc=>by
  unfold gw rN Ql
  have r1:decide (b%9223372036854775808>9218868437227405312)=(((a:Int)==2047)&&((c:Int) != 0)):=by
   rw[dL];simp;omega
  rw[r1]
  by_cases q1:a=2047
  ·by_cases q2:c=0
   ·rw[dT (by omega:b%9223372036854775808=9218868437227405312)]
    subst q1;subst q2;rfl
   ·have:((c:Int) != 0)=true:=by simp;omega
    rw[this];subst q1;rfl
  ·have p1:((a:Int)==2047)=false:=by simp;omega
   rw[p1,dF (by omega:¬ b%9223372036854775808=9218868437227405312)]
   by_cases q3:a=0
   ·by_cases q2:c=0
    ·rw[dT (by omega:b%9223372036854775808=0)]
     subst q3;subst q2;rfl
    ·have p2:((c:Int)==0)=false:=by simp;omega
     rw[p2,dF (by omega:¬ b%9223372036854775808=0),dT (by omega:b%9223372036854775808<4503599627370496)]
     subst q3;rfl
   ·have p3:((a:Int)==0)=false:=by simp;omega
    rw[p3,dF (by omega:¬ b%9223372036854775808=0),dF (by omega:¬ b%9223372036854775808<4503599627370496)]
    rfl
 rw[key _ _ rfl rfl]
 generalize (((b/4503599627370496%2048:Nat):Int)==2047)=p
 generalize (((b%4503599627370496:Nat):Int) != 0)=q
 generalize (((b/4503599627370496%2048:Nat):Int)==0)=r
 generalize (((b%4503599627370496:Nat):Int)==0)=s
 refine⟨by decide,by decide,by decide,?_⟩
 cases p<;>cases q<;>cases r<;>cases s<;>exact⟨q2,rfl⟩
end Go.Proofs.Wn
set_option exponentiation.threshold 4096
namespace Go.Proofs.Wn
open Go.Proofs.Tryz
open Go Go.VL Go.Proofs.Zn
theorem Bi {b:Nat}(h:¬ gw (rN b)<4):0<rN b/\rN b<9218868437227405312/\(gw (rN b)=5↔¬ rN b<4503599627370496):=by
 unfold gw at h ⊢
 generalize rN b=r at h ⊢
 by_cases h1:r>9218868437227405312
 ·rw[dT h1]at h;simp at h
 rw[dF h1,cF]at h ⊢
 by_cases h2:r=9218868437227405312
 ·rw[dT h2]at h;simp at h
 rw[dF h2,cF]at h ⊢
 by_cases h3:r=0
 ·rw[dT h3]at h;simp at h
 rw[dF h3,cF]at h ⊢
 refine⟨by omega,by omega,?_⟩
 by_cases h4:r<4503599627370496
 ·rw[dT h4];simp;omega
 ·rw[dF h4];simp;omega
theorem Lj (b:Nat):b%4503599627370496=rN b%4503599627370496:=by unfold rN;omega
theorem Lk {b:Nat}(hb:b<18446744073709551616):b/4503599627370496%2048=rN b/4503599627370496:=by unfold rN;omega
theorem mu {k:Nat}(h:k<64):(2:Int)^min (Int.toNat (k:Int)) (IntKind.bits .u64)=((2^k:Nat):Int):=by
 have:min (Int.toNat (k:Int)) (IntKind.bits .u64)=k:=by
  have e:IntKind.bits .u64=64:=rfl
  rw[e,au];omega
 rw[this];simp
theorem Ab {k:Nat}(h:k<64):(2:Int)^min (Int.toNat (k:Int)) (IntKind.bits .i64)=((2^k:Nat):Int):=mu h
theorem NH {b:Nat}(hb:b<18446744073709551616):yJ prog 120 [⟨.zQ,some b⟩] [.int,.int] (jg b):=
 ofT func120 (PB b) (by kernel_rfl) (by kernel_rfl) λ _=>by
  refine⟨⟨T2',tv⟩,_,NI hb,?_⟩
  show Sat _ _ _ (bif decide (gw (rN b)<4)then _ else _)
  unfold jg
  by_cases hc:gw (rN b)<4
  ·rw[dT hc]
   exact⟨⟨T2',T2'⟩,rfl⟩
  rw[dF hc]
  obtain⟨h0,hi,h5⟩:=Bi hc
  obtain⟨m,o1,o2,o3⟩:=mb h0
  have hM:=Bv (rN b)
  have hol:=@odd_lt (rN b)
  have e1:(BitVec.ofInt (IntKind.bits .u64) (b:Int) &&& BitVec.ofInt (IntKind.bits .u64) 4503599627370495).toNat=rN b%4503599627370496:=by
   have:=CZ (c:=4503599627370495) hb (by decide)
   rw[Tz,Lj]at this;exact this
  have e2:IntKind.u64.wrap ((rN b%4503599627370496:Nat):Int)=((rN b%4503599627370496:Nat):Int):=mV (by omega)
  have eo:dt (rN b)=M0 (rN b)/2^tzN (M0 (rN b)):=rfl
  have ep:dz (rN b)=E0 (rN b)+(tzN (M0 (rN b)):Int):=rfl
  refine⟨QU b,?_⟩
  show Sat _ _ _ (bif gw (rN b)==5 then _ else _)
  rw[e1,e2]
  by_cases hf:rN b<4503599627370496
  ·
   have hn5:(gw (rN b)==5)=false:=by
    rw[bN];exact λ e=>(h5.1 e) hf
   have eM:M0 (rN b)=rN b:=by unfold M0;rw[dT hf];rfl
   have eE:E0 (rN b) = -1074:=by unfold E0;rw[dT hf];rfl
   have e3:rN b%4503599627370496=M0 (rN b):=by rw[eM];exact cJ hf
   rw[hn5,e3]
   refine⟨⟨T2',tv⟩,(tzN (M0 (rN b)):Int),Ti o1 (by omega),by omega,⟨T2',tv⟩,_,Th hb,?_⟩
   rw[mu (by omega),iF,<-eo,an (n:=(dt (rN b):Int)) (by omega) (by omega),an (n:=0-(dt (rN b):Int)) (by omega) (by omega),an (n := -1074+(tzN (M0 (rN b)):Int)) (by omega) (by omega),ep,eE]
   cases my b
   ·exact⟨⟨T2',T2'⟩,rfl⟩
   ·refine⟨⟨T2',T2'⟩,?_⟩
    show(0-(dt (rN b):Int),-1074+(tzN (M0 (rN b)):Int))=(-(dt (rN b):Int),-1074+(tzN (M0 (rN b)):Int))
    rw[Int.zero_sub]
  ·have h55:(gw (rN b)==5)=true:=by rw[bD];exact h5.2 hf
   have eM:M0 (rN b)=rN b%4503599627370496+4503599627370496:=by unfold M0;rw[dF hf];rfl
   have eE:E0 (rN b)=((rN b/4503599627370496:Nat):Int)-1075:=by unfold E0;rw[dF hf];rfl
   have e3:(BitVec.ofInt (IntKind.bits .u64) ((rN b%4503599627370496:Nat):Int) ||| BitVec.ofInt (IntKind.bits .u64) 4503599627370496).toNat=M0 (rN b):=by
    have:=Tw (a:=rN b%4503599627370496) (c:=4503599627370496) (by omega) (by decide)
    rw[or52 (by omega),<-eM]at this;exact this
   have e4:IntKind.u64.wrap ((M0 (rN b):Nat):Int)=((M0 (rN b):Nat):Int):=mV (by omega)
   have e5:(2:Int)^min 52 (IntKind.bits .u64)=((4503599627370496:Nat):Int):=by decide
   have e6:(BitVec.ofInt (IntKind.bits .u64) ((b/4503599627370496:Nat):Int) &&& BitVec.ofInt (IntKind.bits .u64) 2047).toNat=rN b/4503599627370496:=by
    have:=CZ (a:=b/4503599627370496) (c:=2047) (by omega) (by decide)
    rw[TA,Lk hb]at this;exact this
   have e7:IntKind.u64.wrap ((rN b/4503599627370496:Nat):Int)=((rN b/4503599627370496:Nat):Int):=mV (by omega)
   rw[h55,e3,e4,e5,iF,e6,e7]
   refine⟨by decide,⟨T2',tv⟩,(tzN (M0 (rN b)):Int),Ti o1 (by omega),by omega,⟨T2',tv⟩,_,Th hb,?_⟩
   rw[mu (by omega),iF,<-eo,an (n:=(dt (rN b):Int)) (by omega) (by omega),an (n:=0-(dt (rN b):Int)) (by omega) (by omega),an (n:=((rN b/4503599627370496:Nat):Int)) (by omega) (by omega),
    an (n:=((rN b/4503599627370496:Nat):Int)-1) (by omega) (by omega),an (n := -1074+(((rN b/4503599627370496:Nat):Int)-1)) (by omega) (by omega),an (n := -1074+(((rN b/4503599627370496:Nat):Int)-1)+(tzN (M0 (rN b)):Int)) (by omega) (by omega),ep,eE]
   have e8 : -1074+(((rN b/4503599627370496:Nat):Int)-1)+(tzN (M0 (rN b)):Int)=((rN b/4503599627370496:Nat):Int)-1075+(tzN (M0 (rN b)):Int):=by omega
   rw[e8]
   cases my b
   ·exact⟨⟨T2',T2'⟩,rfl⟩
   ·refine⟨⟨T2',T2'⟩,?_⟩
    show(0-(dt (rN b):Int),((rN b/4503599627370496:Nat):Int)-1075+(tzN (M0 (rN b)):Int))=(-(dt (rN b):Int),_)
    rw[Int.zero_sub]
theorem xG {b:Nat}(hb:b<18446744073709551616){m:Nat}{r:Int×Int}{A:Pr}(hA:CL codes sigs f123 [.int,.int] r A) :
  ∀ (k:Nat) (e:Int),k<64->2^k*(2*m+1)<9007199254740992 -> -2000<=e/\e+(k:Int)<2000->(bif my b then -((2*m+1:Nat):Int)else((2*m+1:Nat):Int),e+(k:Int))=r->A (hd f123 0) (TX b ((2^k*(2*m+1):Nat):Int) e)
 | 0, e, _, hl, he, h => by
   have e1:2^0*(2*m+1)=2*m+1:=by rw[gS,eA]
   rw[e1]at hl ⊢
   have e2:Int.tmod ((2*m+1:Nat):Int) 2=1:=by
    have:=iA (2*m+1) 2
    rw[show(2*m+1)%2=1 by omega]at this;exact this
   have e3:(2:Int)^min 63 (IntKind.bits .u64)=((9223372036854775808:Nat):Int):=by decide
   refine hA.go (NZ b _ e) ⟨by decide,?_⟩
   rw[e2,e3,iF]
   refine bz (by decide) ⟨by decide,?_⟩
   have e4:(((b/9223372036854775808:Nat):Int)==1)=my b:=by
    unfold my
    by_cases h:9223372036854775808<=b
    ·rw[dT h,bD];omega
    ·rw[dF h,bN];omega
   rw[e4]
   have e0:e+((0:Nat):Int)=e:=by omega
   rw[e0]at h
   cases hn:my b
   ·rw[hn]at h;exact⟨⟨T2',T2'⟩,h⟩
   ·rw[hn]at h
    refine⟨⟨T2',T2'⟩,?_⟩
    rw[an (by omega) (by omega),Int.zero_sub];exact h
 | k + 1, e, hk, hl, he, h => by
   have e1:2^(k+1)*(2*m+1)=2*(2^k*(2*m+1)):=by rw[fg,bO (2^k) 2,dx]
   rw[e1]at hl ⊢
   generalize hZ:2^k*(2*m+1)=Z at hl ⊢
   have e2:Int.tmod ((2*Z:Nat):Int) 2=0:=by
    have:=iA (2*Z) 2
    rw[show(2*Z)%2=0 by omega]at this;exact this
   have e3:Int.tdiv ((2*Z:Nat):Int) 2=(Z:Int):=by
    rw[gA (by omega)];omega
   refine hA.go (NZ b _ e) ⟨by decide,?_⟩
   rw[e2,e3,an (n:=(Z:Int)) (by omega) (by omega),an (n:=e+1) (by omega) (by omega)]
   refine dl rfl ⟨by decide,?_⟩
   have:=xG hb hA k (e+1) (by omega) (by rw[hZ];omega) ⟨by omega,by omega⟩ (by rw[<-h];congr 1;omega)
   rw[hZ]at this
   exact this
theorem Li {b:Nat}(hb:b<18446744073709551616):yJ prog 123 [⟨.u64,(b:Int)⟩] [.int,.int] (jg b):=
 pcl codes sigs func123 (by kernel_rfl) λ A hA=>hA.go (Pz b) (by
  generalize hr:jg b=r at hA ⊢
  unfold jg at hr
  refine⟨⟨T2',tv⟩,_,NF b,?_⟩
  show Sat _ _ _ (bif decide (gw (rN b)<4)then _ else _)
  by_cases hc:gw (rN b)<4
  ·rw[dT hc]at hr ⊢
   exact⟨⟨T2',T2'⟩,hr⟩
  rw[dF hc]at hr ⊢
  obtain⟨h0,hi,h5⟩:=Bi hc
  obtain⟨m,o1,o2,o3⟩:=mb h0
  have hM:=Bv (rN b)
  have e1:Int.tmod (b:Int) 4503599627370496=((rN b%4503599627370496:Nat):Int):=by
   have:=iA b 4503599627370496
   rw[Lj]at this;exact this
  refine⟨by decide,?_⟩
  show Sat _ _ _ (bif gw (rN b)==5 then _ else _)
  have hr:(bif my b then -((2*m+1:Nat):Int)else((2*m+1:Nat):Int),E0 (rN b)+(tzN (M0 (rN b)):Int))=r:=by rw[<-o2];exact hr
  by_cases hf:rN b<4503599627370496
  ·have hn5:(gw (rN b)==5)=false:=by
    rw[bN];exact λ e=>(h5.1 e) hf
   have eM:M0 (rN b)=rN b:=by unfold M0;rw[dT hf];rfl
   have eE:E0 (rN b) = -1074:=by unfold E0;rw[dT hf];rfl
   have e3:rN b%4503599627370496=M0 (rN b):=by rw[eM];exact cJ hf
   rw[hn5,e1,e3]
   refine bz rfl ?_
   rw[an (n:=((M0 (rN b):Nat):Int)) (by omega) (by omega)]
   rw[eE]at hr
   have:=xG hb (m:=m) hA (tzN (M0 (rN b))) (-1074) (by omega) (by rw[<-o1];exact hM) ⟨by omega,by omega⟩ hr
   rw[<-o1]at this
   exact this
  ·have h55:(gw (rN b)==5)=true:=by rw[bD];exact h5.2 hf
   have eM:M0 (rN b)=rN b%4503599627370496+4503599627370496:=by unfold M0;rw[dF hf];rfl
   have eE:E0 (rN b)=((rN b/4503599627370496:Nat):Int)-1075:=by unfold E0;rw[dF hf];rfl
   have e5:(2:Int)^min 52 (IntKind.bits .u64)=((4503599627370496:Nat):Int):=by decide
   have e6:Int.tmod ((b/4503599627370496:Nat):Int) 2048=((rN b/4503599627370496:Nat):Int):=by
    have:=iA (b/4503599627370496) 2048
    rw[Lk hb]at this;exact this
   rw[h55,e1,e5,iF,e6,an (n:=((rN b%4503599627370496:Nat):Int)) (by omega) (by omega),an (n:=((rN b%4503599627370496:Nat):Int)+4503599627370496) (by omega) (by omega),
    an (n:=((rN b/4503599627370496:Nat):Int)) (by omega) (by omega),an (n:=((rN b/4503599627370496:Nat):Int)-1075) (by omega) (by omega)]
   have e8:((rN b%4503599627370496:Nat):Int)+4503599627370496=(M0 (rN b):Int):=by rw[eM];omega
   rw[e8]
   refine⟨by decide,by decide,?_⟩
   rw[eE]at hr
   have:=xG hb (m:=m) hA (tzN (M0 (rN b))) (((rN b/4503599627370496:Nat):Int)-1075) (by omega) (by rw[<-o1];exact hM) ⟨by omega,by omega⟩ hr
   rw[<-o1]at this
   exact this)
end Go.Proofs.Wn
set_option exponentiation.threshold 4096
namespace Go.Proofs.Wn
open Go.Proofs.Tryz
open Go Go.VL Go.Proofs.Zn
theorem p64 {s:Nat}(h1:1<=s)(h:s<=64):2^s=2*2^(s-1)/\2^s*2^(64-s)=18446744073709551616/\2^(s-1)*2^(64-s)=9223372036854775808/\0<2^(64-s):=by
 refine⟨?_,?_,?_,de (by decide)⟩
 ·rw[bO,<-fg];congr 1;omega
 ·rw[<-eL,show s+(64-s)=64 by omega]
 ·rw[<-eL,show s-1+(64-s)=63 by omega]
theorem Nr {n s:Nat}(h1:1<=s)(h:s<=64):n*2^(64-s)%18446744073709551616=n%2^s*2^(64-s):=by
 obtain⟨_,e,_,_⟩:=p64 h1 h
 rw[<-e,Nat.mul_mod_mul_right]
theorem NG {n s:Nat}(hn:n<9223372036854775808)(h1:1<=s)(hs:s<=2000):yJ prog 121 [⟨.int,(n:Int)⟩,⟨.int,-(s:Int)⟩] [.int] (nq n s:Int):=
 ofT func121 (PA n _) (by kernel_rfl) (by kernel_rfl) λ _=>by
  by_cases hb:63<s
  ·refine dl (dT (by omega)) ⟨T2',?_⟩
   have:2^64<=2^s:=aT (by decide) hb
   have e:(2^64:Nat)=18446744073709551616:=by decide
   rw[sV (by omega)];rfl
  obtain⟨p1,p2,p3,p4⟩:=p64 h1 (by omega)
  have e1:w64 (0 - -(s:Int))=(s:Int):=by rw[an (by omega) (by omega)];omega
  have e2:w64 (64 + -(s:Int))=((64-s:Nat):Int):=by rw[an (by omega) (by omega)];omega
  have hct:=Nr (n:=n) h1 (by omega)
  have e3:IntKind.u64.wrap (IntKind.u64.wrap (n:Int)*((2^(64-s):Nat):Int))=((n%2^s*2^(64-s):Nat):Int):=by
   rw[mV (by omega),lS,<-hct];rfl
  have hq:n/2^s*2<=n:=bj (ch _ (by have:0<2^(s-1):=(de (by decide));omega)) (Nat.div_mul_le_self n (2^s))
  have e6':∀ q:Nat,q*2<=n->w64 ((q:Int)+1)=((q+1:Nat):Int):=λ q h=>by rw[an (by omega) (by omega)];rfl
  have e6:=e6' _ hq
  have g1:decide (((n%2^s*2^(64-s):Nat):Int)>9223372036854775808)=decide (2^s<2*(n%2^s)):=by
   refine bF.2 ?_
   have:(9223372036854775808<n%2^s*2^(64-s))↔2^(s-1)<n%2^s:=by
    rw[<-p3];exact⟨λ h=>Nat.lt_of_mul_lt_mul_right h,λ h=>gi h p4⟩
   omega
  have g2:(((n%2^s*2^(64-s):Nat):Int)==9223372036854775808)=(2^s==2*(n%2^s)):=by
   rw[dL,bD,bD]
   have:(9223372036854775808=n%2^s*2^(64-s))↔2^(s-1)=n%2^s:=by
    rw[<-p3];exact⟨λ h=>Nat.eq_of_mul_eq_mul_right p4 h,λ h=>by rw[h]⟩
   omega
  have e4:Int.fdiv (n:Int) ((2^s:Nat):Int)=((n/2^s:Nat):Int):=iF _ _
  have e5:(Int.tmod ((n/2^s:Nat):Int) 2==1)=(n/2^s%2==1):=by
   have:=iA (n/2^s) 2
   rw[show Int.tmod ((n/2^s:Nat):Int) 2=((n/2^s%2:Nat):Int) from this,dL,bD,bD];omega
  refine bz (dF (by omega)) ?_
  rw[e1,e2,mu (by omega),Ab (by omega),e3,g1,g2,e4,e5]
  unfold nq
  refine⟨by omega,ae (λ h63=>⟨by omega,?_⟩) (λ _=>⟨by omega,?_⟩)⟩
  ·have h63:s=63:=by have : -(s:Int) = -63:=(by simpa using h63);omega
   have q0:n/2^s=0:=by
    subst h63
    exact jt (by have:(2^63:Nat)=9223372036854775808:=(by decide);omega)
   rw[q0]
   refine ae (λ h=>⟨T2',?_⟩) (λ h=>ae (λ h2=>⟨by decide,T2',?_⟩) (λ h2=>⟨T2',?_⟩))
   ·rw[h];rfl
   ·rw[h,h2];rfl
   ·rw[h,h2];rfl
  ·rw[e6]
   refine ae (λ h=>⟨T2',?_⟩) (λ h=>ae (λ h2=>⟨by decide,ae (λ h3=>⟨T2',?_⟩) (λ h3=>⟨T2',?_⟩)⟩) (λ h2=>⟨T2',?_⟩))
   ·rw[h];rfl
   ·rw[h,h2,h3];rfl
   ·rw[h,h2,h3];rfl
   ·rw[h,h2];rfl
theorem NE {n s:Nat}(hn:n<9223372036854775808)(h1:1<=s)(hs:s<=64):yJ prog 124 [⟨.u64,(n:Int)⟩,⟨.int,(s:Int)⟩] [.u64] (nq n s:Int):=
 ofT func124 (Py n s) (by kernel_rfl) (by kernel_rfl) λ _=>by
  obtain⟨p1,p2,p3,p4⟩:=p64 h1 hs
  have e1:w64 ((s:Int)-1)=((s-1:Nat):Int):=by rw[an (by omega) (by omega)];omega
  have hp:0<2^s:=de (by decide)
  have hl1:2^(s-1)<18446744073709551616:=by
   have:2^(s-1)<=2^63:=aT (by decide) (by omega)
   have e63:(2^63:Nat)=9223372036854775808:=by decide
   omega
  have e2:IntKind.u64.wrap (1*((2^(s-1):Nat):Int))=((2^(s-1):Nat):Int):=by rw[Int.one_mul];exact mV hl1
  by_cases hb:s<64
  ·have hl:2^s<18446744073709551616:=by
    have:2^s<=2^63:=aT (by decide) (by omega)
    have e63:(2^63:Nat)=9223372036854775808:=by decide
    omega
   have e3:IntKind.u64.wrap (1*((2^s:Nat):Int))=((2^s:Nat):Int):=by rw[Int.one_mul];exact mV hl
   have g1:decide (((n%2^s:Nat):Int)>((2^(s-1):Nat):Int))=decide (2^s<2*(n%2^s)):=bF.2 (by omega)
   have g2:(((n%2^s:Nat):Int)==((2^(s-1):Nat):Int))=(2^s==2*(n%2^s)):=by rw[dL,bD,bD];omega
   have hq:n/2^s<=n:=nc _ _
   have e5:(Int.tmod ((n/2^s:Nat):Int) 2==1)=(n/2^s%2==1):=by
    have:=iA (n/2^s) 2
    rw[show Int.tmod ((n/2^s:Nat):Int) 2=((n/2^s%2:Nat):Int) from this,dL,bD,bD];omega
   have e6:IntKind.u64.wrap (((n/2^s:Nat):Int)+1)=((n/2^s+1:Nat):Int):=by
    have:=mV (a:=n/2^s+1) (by omega);exact this
   refine dl (dT (by omega)) ?_
   rw[e1,mu hb,mu (by omega),e2,e3,iA,iF,g1,g2,e5,e6]
   unfold nq
   refine⟨by omega,by omega,by omega,by omega,?_⟩
   refine ae (λ h=>⟨T2',?_⟩) (λ h=>ae (λ h2=>⟨by decide,ae (λ h3=>⟨T2',?_⟩) (λ h3=>⟨T2',?_⟩)⟩) (λ h2=>⟨T2',?_⟩))
   ·rw[h];rfl
   ·rw[h,h2,h3];rfl
   ·rw[h,h2,h3];rfl
   ·rw[h,h2];rfl
  ·have h64:s=64:=by omega
   subst h64
   have e63:((2^(64-1):Nat):Int)=9223372036854775808:=by decide
   refine bz (dF (by omega)) ?_
   rw[e1,mu (by omega),e2,e63]
   have e64:(2^64:Nat)=18446744073709551616:=by decide
   rw[sV (by omega)]
   exact⟨by decide,bz (dF (by omega)) (bz (by rw[bN];omega) ⟨T2',rfl⟩)⟩
end Go.Proofs.Wn
set_option exponentiation.threshold 4096
namespace Go.Proofs.Wn
open Go.Proofs.Tryz
open Go Go.VL Go.Proofs.Zn
theorem wA (r:Nat):((gw r==1)=decide (r>9218868437227405312))/\(r<=9218868437227405312->(gw r==2)=decide (r=9218868437227405312))/\(r<9218868437227405312->(gw r==3)=decide (r=0))/\(r<9218868437227405312->decide (gw r<4)=decide (r=0)):=by
 unfold gw
 by_cases h1:r>9218868437227405312
 ·rw[dT h1]
  exact⟨rfl,λ h=>by omega,λ h=>by omega,λ h=>by omega⟩
 rw[dF h1,cF]
 by_cases h2:r=9218868437227405312
 ·rw[dT h2]
  exact⟨rfl,λ h=>rfl,λ h=>by omega,λ h=>by omega⟩
 rw[dF h2,cF]
 by_cases h3:r=0
 ·rw[dT h3]
  exact⟨rfl,λ h=>rfl,λ h=>rfl,λ h=>rfl⟩
 rw[dF h3,cF]
 cases decide (r<4503599627370496)
 ·exact⟨rfl,λ h=>rfl,λ h=>rfl,λ h=>rfl⟩
 ·exact⟨rfl,λ h=>rfl,λ h=>rfl,λ h=>rfl⟩
theorem IQ {b:Nat}:du (some b)=decide (rN b>9218868437227405312):=xu b
theorem Qz {b:Nat}(hb:b<18446744073709551616)(hr:rN b<=9218868437227405312):(Fl.cmp (some b) (some 0)==some Ordering.lt)=(my b&&decide (0<rN b)):=by
 have h0:du (some 0)=false:=xw (by decide)
 rw[mN (by rw[IQ];exact dF (by omega)) h0,tT,KM,xK hb hr]
 show decide ((bif my b then -(gE (rN b):Int)else(gE (rN b):Int))<0)=_
 rw[dL]
 by_cases hz:rN b=0
 ·rw[hz,HQ];cases my b<;>simp
 ·have:=LQ (r:=rN b) (by omega)
  cases my b<;>simp<;>omega
theorem TD {b:Nat}(hb:b<18446744073709551616)(hr:rN b<=9218868437227405312):(Fl.cmp (some b) (some 4787326403894837248)==some Ordering.gt)=(!my b&&decide (4787326403894837248<rN b)):=by
 rw[mN (by rw[IQ];exact dF (by omega)) (xw (by decide)),KN,xK hb hr,CE (by decide)]
 show decide (_<(bif my b then -(gE (rN b):Int)else(gE (rN b):Int)))=_
 have h:=wO (r:=4787326403894837248) (q:=rN b) (by decide) hr
 rw[dL]
 cases my b
 ·simp;try omega
 ·simp;try omega
theorem wN {r:Nat}(h:dz r<0):uI r=nq (dt r*1000) (-dz r).toNat:=by unfold uI;rw[dT h];rfl
theorem Dj {r:Nat}(h:¬ dz r<0):uI r=dt r*1000*2^(dz r).toNat:=by unfold uI;rw[dF h];rfl
theorem c57 {b:Nat}(hb:b<18446744073709551616):yJ prog 57 [⟨.zQ,some b⟩] [.int,.int] (ofS b):=
 ofT func57 (t57 (some b)) (by kernel_rfl) (by kernel_rfl) λ _=>by
  obtain⟨f1,f2,f3,f4⟩:=wA (rN b)
  refine⟨⟨T2',tv⟩,_,NI hb,?_⟩
  show Sat _ _ _ (bif gw (rN b)==1 then _ else bif gw (rN b)==2 then _ else _)
  unfold ofS
  refine cZ (λ _=>⟨⟨T2',T2'⟩,rfl⟩) (λ h1=>cZ (λ _=>⟨⟨T2',T2'⟩,rfl⟩) (λ h2=>?_))
  rw[f1]at h1
  have h1:=oF h1
  rw[f2 (by omega)]at h2
  have h2:=oF h2
  have hi:rN b<9218868437227405312:=by omega
  rw[Qz hb (by omega),TD hb (by omega),f3 hi]
  by_cases hz:rN b=0
  ·rw[dT hz,hz]
   refine bz (by simp) (bz (by simp) ⟨⟨T2',tv⟩,_,NH hb,?_⟩)
   have e:jg b=(0,0):=by unfold jg;rw[hz];rfl
   rw[e]
   exact bz rfl ⟨by decide,bz (by decide) ⟨⟨T2',T2'⟩,rfl⟩⟩
  rw[dF hz,cF]
  have hd:decide (0<rN b)=true:=dT (by omega)
  rw[hd,Bool.and_true]
  refine cZ (λ _=>⟨⟨T2',T2'⟩,rfl⟩) (λ hn=>?_)
  rw[hn,kX,cn]
  by_cases hC:4787326403894837248<rN b
  ·rw[dT hC,dT (Hk hC hi)]
   exact⟨⟨T2',T2'⟩,rfl⟩
  rw[dF hC]
  have hol:=@odd_lt (rN b)
  have hlo:=@pow_lo (rN b)
  have e:jg b=((dt (rN b):Int),dz (rN b)):=by unfold jg;rw[f4 hi,dF hz,hn];rfl
  refine bz rfl ⟨⟨T2',tv⟩,_,(NH hb).eq e,?_⟩
  have e1:w64 ((dt (rN b):Int)*1000)=((dt (rN b)*1000:Nat):Int):=by rw[an (by omega) (by omega)];rfl
  show Sat _ _ _ (bif decide (dz (rN b)<0)then _ else _)
  by_cases hp:dz (rN b)<0
  ·rw[dT hp,e1,wN hp]
   have es:dz (rN b) = -(((-dz (rN b)).toNat:Nat):Int):=by omega
   have c:=NG (n:=dt (rN b)*1000) (s:=(-dz (rN b)).toNat) (by omega) (by omega) (by omega)
   rw[<-es]at c
   refine⟨⟨T2',T2',tv⟩,((nq (dt (rN b)*1000) (-dz (rN b)).toNat:Nat):Int),c,?_⟩
   have g:decide (((nq (dt (rN b)*1000) (-dz (rN b)).toNat:Nat):Int)>1099511627776)=decide (nq (dt (rN b)*1000) (-dz (rN b)).toNat>1099511627776):=bF.2 (by omega)
   show Sat _ _ _ (bif decide (((nq (dt (rN b)*1000) (-dz (rN b)).toNat:Nat):Int)>1099511627776)then _ else _)
   rw[g]
   exact cZ (λ _=>⟨⟨T2',T2'⟩,rfl⟩) (λ _=>⟨⟨T2',T2'⟩,rfl⟩)
  ·rw[dF hp,e1,Dj hp]
   have hs:=FU (r:=rN b) (by omega) (by omega) (by omega)
   have ho:=DN (r:=rN b) (by omega)
   have hp41:(dz (rN b)).toNat<64:=by
    rcases ax (dz (rN b)).toNat 64 with g|g
    ·exact g
    ·have g1:2^64<=2^(dz (rN b)).toNat:=aT (by decide) g
     have g2:1*2^(dz (rN b)).toNat<=dt (rN b)*2^(dz (rN b)).toNat:=aC _ ho
     have e64:(2^64:Nat)=18446744073709551616:=by decide
     omega
   have e2:(2:Int)^min (dz (rN b)).toNat (IntKind.bits .i64)=((2^(dz (rN b)).toNat:Nat):Int):=by
    have:=Ab hp41
    rw[au]at this
    exact this
   have e3:dt (rN b)*1000*2^(dz (rN b)).toNat=1000*(dt (rN b)*2^(dz (rN b)).toNat):=by rw[bO (dt (rN b)) 1000,dx]
   have e4:w64 (((dt (rN b)*1000:Nat):Int)*((2^(dz (rN b)).toNat:Nat):Int))=((dt (rN b)*1000*2^(dz (rN b)).toNat:Nat):Int):=by
    rw[<-jY]
    exact an (by omega) (by omega)
   rw[e2,e4]
   have g:decide (((dt (rN b)*1000*2^(dz (rN b)).toNat:Nat):Int)>1099511627776)=decide (dt (rN b)*1000*2^(dz (rN b)).toNat>1099511627776):=bF.2 (by omega)
   rw[g]
   refine⟨by omega,?_⟩
   exact cZ (λ _=>⟨⟨T2',T2'⟩,rfl⟩) (λ _=>⟨⟨T2',T2'⟩,rfl⟩)
theorem JR {m e:Nat}(he:e<2000)(hm:m<9223372036854775808){r:Int×Int}{A:Pr}(hA:CL codes sigs f59 [.int,.int] r A)
  (hr:(bif decide (m*2^e>1099511627776)then(0,4)else(((m*2^e:Nat):Int),0))=r) (i:Nat) (hi:i<=e) (hn:m*2^i<9223372036854775808):A (hd f59 0) (L59 e ((m*2^i:Nat):Int) i):=by
 have big:m*2^i>1099511627776->(0,4)=r:=λ h=>by
  have:m*2^i<=m*2^e:=ch _ (aT (by decide) hi)
  rw[dT (by omega)]at hr;exact hr
 have g:decide (((m*2^i:Nat):Int)>1099511627776)=decide (m*2^i>1099511627776):=bF.2 (by omega)
 have g':decide (((m*2^i:Nat):Int)<=1099511627776)=decide (m*2^i<=1099511627776):=bF.2 (by omega)
 refine hA.go (Ro e _ i) ?_
 rw[g,g']
 refine ae (λ h1=>ae (λ h2=>?_) (λ h2=>ae (λ h3=>⟨⟨T2',T2'⟩,big (oT h3)⟩) (λ h3=>?_))) (λ h1=>ae (λ h3=>⟨⟨T2',T2'⟩,big (oT h3)⟩) (λ h3=>?_))
 ·have h1:=oT h1
  have h2:=oT h2
  have e1:IntKind.u64.wrap (2*((m*2^i:Nat):Int))=((m*2^(i+1):Nat):Int):=by
   have e2:m*2^(i+1)=2*(m*2^i):=by rw[fg,<-dx,bO]
   rw[e2]
   have:=mV (a:=2*(m*2^i)) (by omega);exact this
  rw[e1,aq (by omega)]
  exact JR he hm hA hr (i+1) (by omega) (by
   have e2:m*2^(i+1)=2*(m*2^i):=by rw[fg,<-dx,bO]
   omega)
 ·have h2:=oF h2
  have h3:=oF h3
  omega
 ·have h1:=oF h1
  have h3':=oF h3
  have:i=e:=by omega
  subst this
  rw[h3]at hr
  refine⟨⟨T2',T2'⟩,?_⟩
  rw[an (by omega) (by omega)];exact hr
termination_by e-i
theorem Nb {n:Nat}{e:Int}(he:e<0)(hn:n<9223372036854775808){r:Int×Int}{A:Pr}(hA:CL codes sigs f59 [.int,.int] r A)
  (hr:(bif decide (n>1099511627776)then(0,4)else((n:Int),0))=r):A (hd f59 0) (L59 e (n:Int) 0):=by
 have g:decide ((n:Int)>1099511627776)=decide (n>1099511627776):=bF.2 (by omega)
 refine hA.go (Ro e _ 0) (bz (dF (by omega)) ?_)
 rw[g]
 refine ae (λ h3=>⟨⟨T2',T2'⟩,?_⟩) (λ h3=>⟨⟨T2',T2'⟩,?_⟩)
 ·rw[h3]at hr;exact hr
 ·rw[h3]at hr;rw[an (by omega) (by omega)];exact hr
theorem PG {n s:Nat}(hn:n<9223372036854775807):nq n s<9223372036854775808:=by
 have:n/2^s<=n:=nc _ _
 unfold nq
 cases (decide (2^s<2*(n%2^s))||(2^s==2*(n%2^s)&&n/2^s%2==1))
 ·simp only[cF];omega
 ·simp only[cT];omega
theorem c59 {b:Nat}(hb:b<18446744073709551616):yJ prog 59 [⟨.u64,(b:Int)⟩] [.int,.int] (ofS b):=
 pcl codes sigs func59 (by kernel_rfl) λ A hA=>hA.go (t59 b) (by
  obtain⟨f1,f2,f3,f4⟩:=wA (rN b)
  generalize hr:ofS b=r at hA ⊢
  unfold ofS at hr
  refine⟨⟨T2',tv⟩,_,NF b,?_⟩
  show Sat _ _ _ (bif gw (rN b)==1 then _ else bif gw (rN b)==2 then _ else bif gw (rN b)==3 then _ else _)
  refine ae (λ h=>⟨⟨T2',T2'⟩,by rw[h]at hr;exact hr⟩) (λ h1=>ae (λ h=>⟨⟨T2',T2'⟩,by rw[h1,h]at hr;exact hr⟩) (λ h2=>ae (λ h=>⟨⟨T2',T2'⟩,by rw[h1,h2,h]at hr;exact hr⟩) (λ h3=>?_)))
  rw[h1,h2,h3,cF,cF,cF]at hr
  rw[f1]at h1
  have h1:=oF h1
  rw[f2 (by omega)]at h2
  have h2:=oF h2
  have hi:rN b<9218868437227405312:=by omega
  rw[f3 hi]at h3
  have hz:=oF h3
  have hol:=@odd_lt (rN b)
  have hlo:=@pow_lo (rN b)
  have ho:=DN (r:=rN b) (by omega)
  have hhi:=PK (r:=rN b) (by omega) hi
  cases hn:my b
  ·rw[hn,cF]at hr
   have e:jg b=((dt (rN b):Int),dz (rN b)):=by unfold jg;rw[f4 hi,dF hz,hn];rfl
   refine⟨⟨T2',tv⟩,_,(Li hb).eq e,?_⟩
   show Sat _ _ _ (bif decide ((dt (rN b):Int)<0)then _ else bif decide (dz (rN b) < -64)then _ else bif decide (dz (rN b)<0)then _ else _)
   refine bz (dF (by omega)) ?_
   have e1:IntKind.u64.wrap (IntKind.u64.wrap (dt (rN b):Int)*1000)=((dt (rN b)*1000:Nat):Int):=by
    rw[mV (by omega)]
    have:=mV (a:=dt (rN b)*1000) (by omega);exact this
   by_cases h64:dz (rN b) < -64
   ·refine dl (dT h64) ⟨⟨T2',T2'⟩,?_⟩
    rw[wN (by omega),sV (by
     have:2^64<=2^(-dz (rN b)).toNat:=aT (by decide) (by omega)
     have e64:(2^64:Nat)=18446744073709551616:=by decide
     omega)]at hr
    exact hr
   refine bz (dF h64) ?_
   rw[e1]
   by_cases hp:dz (rN b)<0
   ·refine dl (dT hp) ⟨⟨T2',T2',tv⟩,((nq (dt (rN b)*1000) (-dz (rN b)).toNat:Nat):Int),?_,?_⟩
    ·have es:w64 (0-dz (rN b))=(((-dz (rN b)).toNat:Nat):Int):=by rw[an (by omega) (by omega)];omega
     rw[es]
     exact NE (by omega) (by omega) (by omega)
    ·rw[wN hp]at hr
     exact Nb hp (PG (by omega)) hA hr
   ·refine bz (dF hp) ?_
    rw[Dj hp]at hr
    have es:dz (rN b)=(((dz (rN b)).toNat:Nat):Int):=by omega
    have:=JR (m:=dt (rN b)*1000) (e:=(dz (rN b)).toNat) (by omega) (by omega) hA hr 0 (by omega) (by rw[gS];omega)
    rw[gS,iu,<-es]at this
    exact this
  ·rw[hn,cT]at hr
   have e:jg b=(-(dt (rN b):Int),dz (rN b)):=by unfold jg;rw[f4 hi,dF hz,hn];rfl
   refine⟨⟨T2',tv⟩,_,(Li hb).eq e,?_⟩
   show Sat _ _ _ (bif decide (-(dt (rN b):Int)<0)then _ else _)
   exact dl (dT (by omega)) ⟨⟨T2',T2'⟩,hr⟩)
def cy (r:yT):Int×Int:=bif (ofS r.zS.toNat).2==0&&(ofS r.zS.toNat).1==0 then(0,1)else ofS r.zS.toNat
theorem c15 {r:yT}(h0:0<=r.zS)(h:r.zS<18446744073709551616):yJ prog 15 [⟨.req,r⟩] [.int,.int] (cy r):=
 ofT func15 (t15 r) (by kernel_rfl) (by kernel_rfl) λ _=>by
  refine⟨x58 r.zS,⟨T2',tv⟩,_,c57 (by omega),?_⟩
  unfold cy
  generalize ofS r.zS.toNat=x
  obtain⟨a,b⟩:=x
  show Sat _ _ _ (bif b==0 then(bif a==0 then _ else _)else _)
  refine ae (λ h1=>ae (λ h2=>⟨⟨T2',T2'⟩,?_⟩) (λ h2=>⟨⟨T2',T2'⟩,?_⟩)) (λ h1=>⟨⟨T2',T2'⟩,?_⟩)
  ·simp only[h1,h2];rfl
  ·simp only[h1,h2];rfl
  ·simp only[h1];rfl
theorem c16 {r:yT}(h0:0<=r.zS)(h:r.zS<18446744073709551616):yJ prog 16 [⟨.req,r⟩] [.int,.int] (cy r):=
 ofT func16 (t16 r) (by kernel_rfl) (by kernel_rfl) λ _=>by
  have c:=c59 (b:=r.zS.toNat) (by omega)
  rw[aK h0]at c
  refine⟨⟨T2',tv⟩,_,c,?_⟩
  unfold cy
  generalize ofS r.zS.toNat=x
  obtain⟨a,b⟩:=x
  show Sat _ _ _ (bif b==0 then(bif a==0 then _ else _)else _)
  refine ae (λ h1=>ae (λ h2=>⟨⟨T2',T2'⟩,?_⟩) (λ h2=>⟨⟨T2',T2'⟩,?_⟩)) (λ h1=>⟨⟨T2',T2'⟩,?_⟩)
  ·simp only[h1,h2];rfl
  ·simp only[h1,h2];rfl
  ·simp only[h1];rfl
end Go.Proofs.Wn
namespace Go.Proofs.Zn
open Go.Proofs.Tryz
open Go Go.VL
def cW (b:Go.VL.Box):Bool:=bif decide (b.rows>=1)then bif decide (b.rows<=32)then bif decide (b.zP>=1)then decide (b.zP<=48)else false else false else false
theorem ir {b:Go.VL.Box}:cW b=true↔1<=b.rows/\b.rows<=32/\1<=b.zP/\b.zP<=48:=by
 unfold cW
 by_cases h1:b.rows>=1
 ·rw[dT h1,cT]
  by_cases h2:b.rows<=32
  ·rw[dT h2,cT]
   by_cases h3:b.zP>=1
   ·rw[dT h3,cT,bC];omega
   ·rw[dF h3,cF];simp;omega
  ·rw[dF h2,cF];simp;omega
 ·rw[dF h1,cF];simp;omega
theorem eH {b:Go.VL.Box}(h:cW b=true):1<=b.rows*b.zP/\b.rows*b.zP<=1536:=by
 obtain⟨h1,h2,h3,h4⟩:=ir.1 h
 constructor
 ·have:=Int.mul_le_mul h1 h3 (by omega) (by omega);omega
 ·have:=Int.mul_le_mul h2 h4 (by omega) (by omega);omega
def lj (c:Int):List Int->Bool
 | []=>true
 | n::l=>bif decide (n<0)then false else bif decide (n>c)then false else lj c l
def mJ (p:yF):Bool:=bif decide (p.cap<1)then false else bif decide (p.cap>1099511627776)then false else bif decide ((p.start.length:Int)>p.rows*p.zP)then false else lj p.cap p.start
def fe (p:yF):Go.VL.Box:=⟨p.rows,p.zP⟩
def iB (r:yK):Go.VL.Box:=⟨r.rows,r.zP⟩
def dO (p:yF):Bool:=bif cW (fe p)then mJ p else false
def aM (d:yA):List Go.VL.Box:=d.zB.map fe
def aU (d:yA):List Go.VL.Box:=d.zC.map iB
def br:List Go.VL.Box->Int
 | []=>0
 | b::l=>b.rows*b.zP+br l
theorem sd:∀ {l:List Go.VL.Box},(∀ b∈l,cW b=true)->0<=br l/\br l<=1536*(l.length:Int)
 | [],_=>by simp[br]
 | b :: l, h => by
   have h1:=eH (h b (by simp))
   have h2:=sd (l:=l) λ c hc=>h c (by simp[hc])
   simp only[br,af];omega
def dw (d:yA):Int:=
 bif dj d.zA != 0 then dj d.zA else bif decide (d.zO<1)then 80 else bif decide (d.zO>8)then 80 else
 bif decide ((d.zB.length:Int)>4)then 2 else bif decide ((d.zC.length:Int)>4)then 2 else
 bif !d.zB.all dO then 81 else bif !(aU d).all cW then 82 else
 bif decide (br (aM d)>384)then 2 else bif decide (br (aU d)>384)then 2 else 0
structure DeckOk (d:yA):Prop where
 zA:dj d.zA=0
 zO:1<=d.zO/\d.zO<=8
 zB:d.zB.length<=4
 zC:d.zC.length<=4
 zJ:∀ p∈d.zB,dO p=true
 boxP:∀ b∈aM d,cW b=true
 boxR:∀ b∈aU d,cW b=true
 wells:0<=br (aM d)/\br (aM d)<=384
 zK:0<=br (aU d)/\br (aU d)<=384
 lanes:2<=d.zA.length/\d.zA.length<=25
theorem ff {d:yA}(h:dw d=0):DeckOk d:=by
 unfold dw at h
 cases h1:dj d.zA != 0
 ·rw[h1,cF]at h
  have hb:dj d.zA=0:=by simpa using h1
  by_cases h2:d.zO<1
  ·rw[dT h2]at h;cases h
  rw[dF h2,cF]at h
  by_cases h3:d.zO>8
  ·rw[dT h3]at h;cases h
  rw[dF h3,cF]at h
  by_cases h4:(d.zB.length:Int)>4
  ·rw[dT h4]at h;cases h
  rw[dF h4,cF]at h
  by_cases h5:(d.zC.length:Int)>4
  ·rw[dT h5]at h;cases h
  rw[dF h5,cF]at h
  cases h6:d.zB.all dO
  ·rw[h6]at h;cases h
  rw[h6,ba,cF]at h
  cases h7:(aU d).all cW
  ·rw[h7]at h;cases h
  rw[h7,ba,cF]at h
  by_cases h8:br (aM d)>384
  ·rw[dT h8]at h;cases h
  rw[dF h8,cF]at h
  by_cases h9:br (aU d)>384
  ·rw[dT h9]at h;cases h
  have hp:∀ p∈d.zB,dO p=true:=bR.1 h6
  have hbp:∀ b∈aM d,cW b=true:=λ b hb=>by
   obtain⟨p,hp',rfl⟩:=aZ.1 hb
   have:=hp p hp'
   unfold dO at this
   cases hq:cW (fe p)
   ·rw[hq]at this;cases this
   ·rfl
  have hbr:∀ b∈aU d,cW b=true:=bR.1 h7
  exact⟨hb,⟨by omega,by omega⟩,by omega,by omega,hp,hbp,hbr,⟨(sd hbp).1,by omega⟩,⟨(sd hbr).1,by omega⟩,kq hb⟩
 ·rw[h1,cT]at h
  rw[h]at h1;cases h1
def dc (k u r c:Int):List Part:=(List.range (r*c).toNat).map λ n:Nat=>⟨k,u,(n:Int)/c,(n:Int)%c⟩
def dr (k:Int):Int->List Go.VL.Box->List Part
 | _,[]=>[]
 | u,b::l=>dc k u b.rows b.zP++dr k (u+1) l
def fH (n:Nat):List Part:=(List.range n).map λ i:Nat=>⟨3,(i:Int),0,0⟩
def dM (d:yA):List Part:=dr 1 0 (aM d)++(dr 2 0 (aU d)++fH (d.zA.length-1))
def dP (d:yA):List Part:=bif dw d != 0 then[]else dM d
def iC (k:Int):Int->List Go.VL.Box->Int->Part
 | _,[],_=>⟨k,0,0,0⟩
 | u,b::l,n=>bif decide (n<b.rows*b.zP)then⟨k,u,n/b.zP,n%b.zP⟩else iC k (u+1) l (n-b.rows*b.zP)
theorem ib (k u r c:Int):(dc k u r c).length=(r*c).toNat:=by simp[dc]
theorem ja (k:Int):∀ (l:List Go.VL.Box) (u:Int),(∀ b∈l,cW b=true)->((dr k u l).length:Int)=br l
 | [],_,_=>rfl
 | b :: l, u, h => by
   have h1:=eH (h b (by simp))
   have h2:=ja k l (u+1) λ c hc=>h c (by simp[hc])
   simp only[dr,al,ib,br];omega
theorem qu (k:Int):∀ (l:List Go.VL.Box) (u n:Int),(∀ b∈l,cW b=true)->0<=n->n<br l->(dr k u l)[n.toNat]?=some (iC k u l n)
 | [],_,n,_,h0,h1=>by simp only[br]at h1;omega
 | b :: l, u, n, h, h0, h1 => by
   have h3:=eH (h b (by simp))
   simp only[dr,iC]
   by_cases hn:n<b.rows*b.zP
   ·rw[dT hn,cT,bJ (by rw[ib];omega)]
    simp only[dc]
    rw[aQ,kf (by omega)]
    simp only[bt,aK h0]
   ·rw[dF hn,cF,bP (by rw[ib];omega),ib]
    have e:n.toNat-(b.rows*b.zP).toNat=(n-b.rows*b.zP).toNat:=by omega
    rw[e]
    exact qu k l (u+1) _ (λ c hc=>h c (by simp[hc])) (by omega) (by simp only[br]at h1;omega)
theorem ol {d:yA}(h:DeckOk d):((dM d).length:Int)=br (aM d)+br (aU d)+((d.zA.length:Int)-1):=by
 have h1:=ja 1 (aM d) 0 h.boxP
 have h2:=ja 2 (aU d) 0 h.boxR
 have h3:=h.lanes
 simp only[dM,al,fH,bH,lD];omega
def jZ (d:yA)(i:Int):Part×Int:=
 bif dw d != 0 then(⟨0,0,0,0⟩,dw d)else bif decide (i<0)then(⟨0,0,0,0⟩,3)else bif decide (i>=((dM d).length:Int))then(⟨0,0,0,0⟩,3)else
 ((dM d).getD i.toNat ⟨0,0,0,0⟩,0)
theorem vy {d:yA}(h:DeckOk d){i:Int}(h0:0<=i)(h1:i<((dM d).length:Int)) :
  (dM d)[i.toNat]?=some (bif decide (i<br (aM d))then iC 1 0 (aM d) i else bif decide (i<br (aM d)+br (aU d))then iC 2 0 (aU d) (i-br (aM d))else⟨3,i-br (aM d)-br (aU d),0,0⟩):=by
 have hl:=ol h
 have l1:=ja 1 (aM d) 0 h.boxP
 have l2:=ja 2 (aU d) 0 h.boxR
 have hw:=h.wells
 have ht:=h.zK
 have hb:=h.lanes
 unfold dM
 by_cases c1:i<br (aM d)
 ·rw[dT c1,cT,bJ (by omega)]
  exact qu 1 _ 0 i h.boxP h0 c1
 ·rw[dF c1,cF,bP (by omega)]
  have e1:i.toNat-(dr 1 0 (aM d)).length=(i-br (aM d)).toNat:=by omega
  rw[e1]
  by_cases c2:i<br (aM d)+br (aU d)
  ·rw[dT c2,cT,bJ (by omega)]
   exact qu 2 _ 0 _ h.boxR (by omega) (by omega)
  ·rw[dF c2,cF,bP (by omega)]
   have e2:(i-br (aM d)).toNat-(dr 2 0 (aU d)).length=(i-br (aM d)-br (aU d)).toNat:=by omega
   rw[e2,fH,aQ,kf (by omega)]
   simp only[bt]
   rw[aK (by omega)]
def jV (d:yA)(p:Part):Prop:=
 (p.kind=1/\0<=p.unit/\p.unit<(d.zB.length:Int))\/(p.kind=2/\0<=p.unit/\p.unit<(d.zC.length:Int))\/(p.kind=3/\0<=p.unit/\p.unit<(d.zA.length:Int)-1)
theorem gF {k:Int}:∀ {l:List Go.VL.Box} {u:Int} {p:Part},p∈dr k u l->p.kind=k/\u<=p.unit/\p.unit<u+(l.length:Int)
 | [],_,_,h=>by simp[dr]at h
 | b :: l, u, p, h => by
   simp only[dr,az]at h
   rcases h with h|h
   ·obtain⟨n,_,rfl⟩:=aZ.1 h
    refine⟨rfl,?_,?_⟩<;>simp
    omega
   ·obtain⟨h1,h2,h3⟩:=gF h
    simp only[af]
    exact⟨h1,by omega,by omega⟩
theorem ny {d:yA}{p:Part}(h:p∈dM d):jV d p:=by
 simp only[dM,az]at h
 rcases h with h|h|h
 ·obtain⟨h1,h2,h3⟩:=gF h
  simp only[aM,bH]at h3
  exact .inl ⟨h1,h2,by omega⟩
 ·obtain⟨h1,h2,h3⟩:=gF h
  simp only[aU,bH]at h3
  exact .inr (.inl ⟨h1,h2,by omega⟩)
 ·obtain⟨n,hn,rfl⟩:=aZ.1 h
  have:=cI.1 hn
  exact .inr (.inr ⟨rfl,by simp,by simp;omega⟩)
def zq (d:yA)(p:Part):Row:=bif p.kind==2 then⟨(d.zC.getD p.unit.toNat Ty.zN.dflt).x,(d.zC.getD p.unit.toNat Ty.zN.dflt).pitch,(d.zC.getD p.unit.toNat Ty.zN.dflt).reach⟩
 else⟨(d.zB.getD p.unit.toNat Ty.zJ.dflt).x,(d.zB.getD p.unit.toNat Ty.zJ.dflt).pitch,(d.zB.getD p.unit.toNat Ty.zJ.dflt).reach⟩
def PT (r:Row)(c:Int):Fl:=Fl.arith BinOp.add r.x (Fl.arith BinOp.mul (some (FloatKind.nearest FloatKind.f64 c)) r.pitch)
def jp (d:yA)(p:Part):yG×Int:=bif p.kind==3 then(⟨p.unit,p.unit⟩,0)else lM d.zA (PT (zq d p) p.col) (zq d p).reach
theorem IF {l:List Fl}{x r:Fl}(h:(lM l x r).2=0):0<=(lM l x r).1.lo/\(lM l x r).1.lo<=(lM l x r).1.hi/\(lM l x r).1.hi<(l.length:Int)-1:=by
 unfold lM at h ⊢
 cases h1:dj l != 0
 ·have hc:dj l=0:=by simpa using h1
  rw[h1,cF]at h;rw[cF]
  cases h2:du x
  ·rw[h2,cF]at h;rw[cF]
   cases h3:du r
   ·rw[h3,cF]at h;rw[cF]
    cases h4:ltF r (some 0)
    ·rw[h4,cF]at h;rw[cF]
     cases h5:du (loF x r)
     ·rw[h5,cF]at h;rw[cF]
      cases h6:du (hiF x r)
      ·rw[h6,cF]at h;rw[cF]
       have hk:0<=cR r:=by
        rw[mE h3 (by decide +kernel),tT]at h4
        have:=oF h4;omega
       have hle:=Ou h2 h3 hk h5 h6
       obtain⟨hn,hp⟩:=ul hc
       obtain⟨g1,g2⟩:=kq hc
       unfold inS at h ⊢
       cases h7:ltF (hiF x r) (l.getD 0 (some 0))
       ·rw[h7,cF]at h;rw[cF]
        cases h8:gtF (loF x r) (l.getD (l.length-1) (some 0))
        ·rw[cF]
         have hn0:du (l.getD 0 (some 0))=false:=hn _ (by rw[cH (by omega)];exact aN _)
         rw[mE h6 hn0]at h7
         have h7:=oF h7
         have b1:=(kQ h6 hn hp 0 (by omega)).1 (by omega)
         have b2:=ow l (hiF x r)
         have b3:ci l (loF x r)<=ci l (hiF x r):=by
          rcases ax (ci l (hiF x r)) (ci l (loF x r))with hlt|hge
          ·exfalso
           have b4:=ow l (loF x r)
           have c1:=(kQ h5 hn hp (ci l (hiF x r)) (by omega)).2 hlt
           have c2:=(kQ h6 hn hp (ci l (hiF x r)) (by omega)).1 (by omega)
           omega
          ·exact hge
         simp only
         omega
        ·rw[h8]at h;cases h
       ·rw[h7]at h;cases h
      ·rw[h6]at h;cases h
     ·rw[h5]at h;cases h
    ·rw[h4]at h;cases h
   ·rw[h3]at h;cases h
  ·rw[h2]at h;cases h
 ·rw[h1,cT]at h
  rw[show dj l=0 from h]at h1;cases h1
theorem KL {d:yA}{p:Part}(hv:jV d p)(h:(jp d p).2=0):0<=(jp d p).1.lo/\(jp d p).1.lo<=(jp d p).1.hi/\(jp d p).1.hi<(d.zA.length:Int)-1:=by
 unfold jp at h ⊢
 cases hk:p.kind==3
 ·rw[hk,cF]at h;rw[cF]
  exact IF h
 ·rw[cT]
  have hk:p.kind=3:=by simpa using hk
  rcases hv with⟨a,_⟩|⟨a,_⟩|⟨_,a,b⟩
  ·omega
  ·omega
  ·simp only;omega
end Go.Proofs.Zn
