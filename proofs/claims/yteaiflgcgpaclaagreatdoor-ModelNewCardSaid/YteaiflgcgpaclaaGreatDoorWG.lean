/- The deck and its parts: plain models. (Own work.) -/
import Derived.Test.YteaiflgcgpaclaaGreatDoorWE
import Derived.Test.YteaiflgcgpaclaaGreatDoorWF
set_option linter.unusedVariables false
set_option linter.unusedSimpArgs false
namespace Go.Proofs.Zn
open Go.Proofs.Tryz
open Go Go.VL
def cE (b:Go.VL.Box):Bool:=bif decide (b.rows≥1) then bif decide (b.rows≤32) then bif decide (b.cols≥1) then decide (b.cols≤48) else false else false else false
theorem gh {b:Go.VL.Box}:cE b=true↔1≤b.rows∧b.rows≤32∧1≤b.cols∧b.cols≤48:=by
 unfold cE
 by_cases h1:b.rows≥1
 ·rw [dT h1,cT]
  by_cases h2:b.rows≤32
  ·rw [dT h2,cT]
   by_cases h3:b.cols≥1
   ·rw [dT h3,cT,bP];omega
   ·rw [dF h3,cF];simp;omega
  ·rw [dF h2,cF];simp;omega
 ·rw [dF h1,cF];simp;omega
theorem dH {b:Go.VL.Box} (h:cE b=true):1≤b.rows * b.cols∧b.rows * b.cols≤1536:=by
 obtain ⟨h1,h2,h3,h4⟩:=gh.1 h
 constructor
 ·have:=Int.mul_le_mul h1 h3 (by omega) (by omega);omega
 ·have:=Int.mul_le_mul h2 h4 (by omega) (by omega);omega
def ji (c:Int):List Int→Bool
 | []=>true
 | n::l=>bif decide (n < 0) then false else bif decide (n > c) then false else ji c l
def kn (p:Plate):Bool:=bif decide (p.cap < 1) then false else bif decide (p.cap > 1099511627776) then false else bif decide ((p.start.length:Int) > p.rows * p.cols) then false else ji p.cap p.start
def er (p:Plate):Go.VL.Box:=⟨p.rows,p.cols⟩
def gl (r:Rack):Go.VL.Box:=⟨r.rows,r.cols⟩
def dg (p:Plate):Bool:=bif cE (er p) then kn p else false
def aK (d:Deck):List Go.VL.Box:=d.plates.map er
def aP (d:Deck):List Go.VL.Box:=d.racks.map gl
def bk:List Go.VL.Box→Int
 | []=>0
 | b::l=>b.rows * b.cols+bk l
theorem pi:∀ {l:List Go.VL.Box},(∀ b∈l,cE b=true)→0≤bk l∧bk l≤1536 * (l.length:Int)
 | [],_=>by simp [bk]
 | b :: l, h => by
   have h1:=dH (h b (by simp))
   have h2:=pi (l:=l) fun c hc=>h c (by simp [hc])
   simp only [bk,ag];omega
def dy (d:Deck):Int:=
 bif cV d.borders != 0 then cV d.borders else bif decide (d.arms < 1) then 80 else bif decide (d.arms > 8) then 80 else
 bif decide ((d.plates.length:Int) > 4) then 2 else bif decide ((d.racks.length:Int) > 4) then 2 else
 bif !d.plates.all dg then 81 else bif !(aP d).all cE then 82 else
 bif decide (bk (aK d) > 384) then 2 else bif decide (bk (aP d) > 384) then 2 else 0
structure DeckOk (d:Deck):Prop where
 borders:cV d.borders=0
 arms:1≤d.arms∧d.arms≤8
 plates:d.plates.length≤4
 racks:d.racks.length≤4
 plate:∀ p∈d.plates,dg p=true
 boxP:∀ b∈aK d,cE b=true
 boxR:∀ b∈aP d,cE b=true
 wells:0≤bk (aK d)∧bk (aK d)≤384
 tips:0≤bk (aP d)∧bk (aP d)≤384
 lanes:2≤d.borders.length∧d.borders.length≤25
theorem eR {d:Deck} (h:dy d=0):DeckOk d:=by
 unfold dy at h
 cases h1:cV d.borders != 0
 ·rw [h1,cF] at h
  have hb:cV d.borders=0:=by simpa using h1
  by_cases h2:d.arms < 1
  ·rw [dT h2] at h;cases h
  rw [dF h2,cF] at h
  by_cases h3:d.arms > 8
  ·rw [dT h3] at h;cases h
  rw [dF h3,cF] at h
  by_cases h4:(d.plates.length:Int) > 4
  ·rw [dT h4] at h;cases h
  rw [dF h4,cF] at h
  by_cases h5:(d.racks.length:Int) > 4
  ·rw [dT h5] at h;cases h
  rw [dF h5,cF] at h
  cases h6:d.plates.all dg
  ·rw [h6] at h;cases h
  rw [h6,dr,cF] at h
  cases h7:(aP d).all cE
  ·rw [h7] at h;cases h
  rw [h7,dr,cF] at h
  by_cases h8:bk (aK d) > 384
  ·rw [dT h8] at h;cases h
  rw [dF h8,cF] at h
  by_cases h9:bk (aP d) > 384
  ·rw [dT h9] at h;cases h
  have hp:∀ p∈d.plates,dg p=true:=bG.1 h6
  have hbp:∀ b∈aK d,cE b=true:=fun b hb=>by
   obtain ⟨p,hp',rfl⟩:=aU.1 hb
   have:=hp p hp'
   unfold dg at this
   cases hq:cE (er p)
   ·rw [hq] at this;cases this
   ·rfl
  have hbr:∀ b∈aP d,cE b=true:=bG.1 h7
  exact ⟨hb,⟨by omega,by omega⟩,by omega,by omega,hp,hbp,hbr,⟨(pi hbp).1,by omega⟩,⟨(pi hbr).1,by omega⟩,iE hb⟩
 ·rw [h1,cT] at h
  rw [h] at h1;cases h1
def cM (k u r c:Int):List Part:=(List.range (r * c).toNat).map fun n:Nat=>⟨k,u,(n:Int) / c,(n:Int) % c⟩
def cZ (k:Int):Int→List Go.VL.Box→List Part
 | _,[]=>[]
 | u,b::l=>cM k u b.rows b.cols++cZ k (u+1) l
def eL (n:Nat):List Part:=(List.range n).map fun i:Nat=>⟨3,(i:Int),0,0⟩
def dA (d:Deck):List Part:=cZ 1 0 (aK d)++(cZ 2 0 (aP d)++eL (d.borders.length - 1))
def cN (d:Deck):List Part:=bif dy d != 0 then [] else dA d
def gm (k:Int):Int→List Go.VL.Box→Int→Part
 | _,[],_=>⟨k,0,0,0⟩
 | u,b::l,n=>bif decide (n < b.rows * b.cols) then ⟨k,u,n / b.cols,n % b.cols⟩ else gm k (u+1) l (n - b.rows * b.cols)
theorem fS (k u r c:Int):(cM k u r c).length=(r * c).toNat:=by simp [cM]
theorem gK (k:Int):∀ (l:List Go.VL.Box) (u:Int),(∀ b∈l,cE b=true)→((cZ k u l).length:Int)=bk l
 | [],_,_=>rfl
 | b :: l, u, h => by
   have h1:=dH (h b (by simp))
   have h2:=gK k l (u+1) fun c hc=>h c (by simp [hc])
   simp only [cZ,ak,fS,bk];omega
theorem nQ (k:Int):∀ (l:List Go.VL.Box) (u n:Int),(∀ b∈l,cE b=true)→0≤n→n < bk l→(cZ k u l)[n.toNat]?=some (gm k u l n)
 | [],_,n,_,h0,h1=>by simp only [bk] at h1;omega
 | b :: l, u, n, h, h0, h1 => by
   have h3:=dH (h b (by simp))
   simp only [cZ,gm]
   by_cases hn:n < b.rows * b.cols
   ·rw [dT hn,cT,bx (by rw [fS];omega)]
    simp only [cM]
    rw [aM,iy (by omega)]
    simp only [bi,bB h0]
   ·rw [dF hn,cF,bE (by rw [fS];omega),fS]
    have e:n.toNat - (b.rows * b.cols).toNat=(n - b.rows * b.cols).toNat:=by omega
    rw [e]
    exact nQ k l (u+1) _ (fun c hc=>h c (by simp [hc])) (by omega) (by simp only [bk] at h1;omega)
theorem lI {d:Deck} (h:DeckOk d):((dA d).length:Int)=bk (aK d)+bk (aP d)+((d.borders.length:Int) - 1):=by
 have h1:=gK 1 (aK d) 0 h.boxP
 have h2:=gK 2 (aP d) 0 h.boxR
 have h3:=h.lanes
 simp only [dA,ak,eL,bu,ju];omega
def pY (d:Deck) (i:Int):Part×Int:=
 bif dy d != 0 then (⟨0,0,0,0⟩,dy d) else bif decide (i < 0) then (⟨0,0,0,0⟩,3) else bif decide (i≥((dA d).length:Int)) then (⟨0,0,0,0⟩,3) else
 ((dA d).getD i.toNat ⟨0,0,0,0⟩,0)
theorem sc {d:Deck} (h:DeckOk d) {i:Int} (h0:0≤i) (h1:i < ((dA d).length:Int)) :
  (dA d)[i.toNat]?=some (bif decide (i < bk (aK d)) then gm 1 0 (aK d) i else bif decide (i < bk (aK d)+bk (aP d)) then gm 2 0 (aP d) (i - bk (aK d)) else ⟨3,i - bk (aK d) - bk (aP d),0,0⟩):=by
 have hl:=lI h
 have l1:=gK 1 (aK d) 0 h.boxP
 have l2:=gK 2 (aP d) 0 h.boxR
 have hw:=h.wells
 have ht:=h.tips
 have hb:=h.lanes
 unfold dA
 by_cases c1:i < bk (aK d)
 ·rw [dT c1,cT,bx (by omega)]
  exact nQ 1 _ 0 i h.boxP h0 c1
 ·rw [dF c1,cF,bE (by omega)]
  have e1:i.toNat - (cZ 1 0 (aK d)).length=(i - bk (aK d)).toNat:=by omega
  rw [e1]
  by_cases c2:i < bk (aK d)+bk (aP d)
  ·rw [dT c2,cT,bx (by omega)]
   exact nQ 2 _ 0 _ h.boxR (by omega) (by omega)
  ·rw [dF c2,cF,bE (by omega)]
   have e2:(i - bk (aK d)).toNat - (cZ 2 0 (aP d)).length=(i - bk (aK d) - bk (aP d)).toNat:=by omega
   rw [e2,eL,aM,iy (by omega)]
   simp only [bi]
   rw [bB (by omega)]
def im (d:Deck) (p:Part):Prop:=
 (p.kind=1∧0≤p.unit∧p.unit < (d.plates.length:Int))∨(p.kind=2∧0≤p.unit∧p.unit < (d.racks.length:Int))∨(p.kind=3∧0≤p.unit∧p.unit < (d.borders.length:Int) - 1)
theorem fp {k:Int}:∀ {l:List Go.VL.Box} {u:Int} {p:Part},p∈cZ k u l→p.kind=k∧u≤p.unit∧p.unit < u+(l.length:Int)
 | [],_,_,h=>by simp [cZ] at h
 | b :: l, u, p, h => by
   simp only [cZ,aC] at h
   rcases h with h | h
   ·obtain ⟨n,_,rfl⟩:=aU.1 h
    refine ⟨rfl,?_,?_⟩ <;> simp
    omega
   ·obtain ⟨h1,h2,h3⟩:=fp h
    simp only [ag]
    exact ⟨h1,by omega,by omega⟩
theorem kT {d:Deck} {p:Part} (h:p∈dA d):im d p:=by
 simp only [dA,aC] at h
 rcases h with h | h | h
 ·obtain ⟨h1,h2,h3⟩:=fp h
  simp only [aK,bu] at h3
  exact .inl ⟨h1,h2,by omega⟩
 ·obtain ⟨h1,h2,h3⟩:=fp h
  simp only [aP,bu] at h3
  exact .inr (.inl ⟨h1,h2,by omega⟩)
 ·obtain ⟨n,hn,rfl⟩:=aU.1 h
  have:=cr.1 hn
  exact .inr (.inr ⟨rfl,by simp,by simp;omega⟩)
def uO (d:Deck) (p:Part):Row:=bif p.kind==2 then ⟨(d.racks.getD p.unit.toNat Ty.rack.dflt).x,(d.racks.getD p.unit.toNat Ty.rack.dflt).pitch,(d.racks.getD p.unit.toNat Ty.rack.dflt).reach⟩
 else ⟨(d.plates.getD p.unit.toNat Ty.plate.dflt).x,(d.plates.getD p.unit.toNat Ty.plate.dflt).pitch,(d.plates.getD p.unit.toNat Ty.plate.dflt).reach⟩
def II (r:Row) (c:Int):Fl:=Fl.arith BinOp.add r.x (Fl.arith BinOp.mul (some (FloatKind.nearest FloatKind.f64 c)) r.pitch)
def gS (d:Deck) (p:Part):Span×Int:=bif p.kind==3 then (⟨p.unit,p.unit⟩,0) else jF d.borders (II (uO d p) p.col) (uO d p).reach
theorem Ci {l:List Fl} {x r:Fl} (h:(jF l x r).2=0):0≤(jF l x r).1.lo∧(jF l x r).1.lo≤(jF l x r).1.hi∧(jF l x r).1.hi < (l.length:Int) - 1:=by
 unfold jF at h ⊢
 cases h1:cV l != 0
 ·have hc:cV l=0:=by simpa using h1
  rw [h1,cF] at h;rw [cF]
  cases h2:da x
  ·rw [h2,cF] at h;rw [cF]
   cases h3:da r
   ·rw [h3,cF] at h;rw [cF]
    cases h4:ltF r (some 0)
    ·rw [h4,cF] at h;rw [cF]
     cases h5:da (loF x r)
     ·rw [h5,cF] at h;rw [cF]
      cases h6:da (hiF x r)
      ·rw [h6,cF] at h;rw [cF]
       have hk:0≤cz r:=by
        rw [kg h3 (by decide +kernel),qz] at h4
        have:=oF h4;omega
       have hle:=Ht h2 h3 hk h5 h6
       obtain ⟨hn,hp⟩:=qP hc
       obtain ⟨g1,g2⟩:=iE hc
       unfold inS at h ⊢
       cases h7:ltF (hiF x r) (l.getD 0 (some 0))
       ·rw [h7,cF] at h;rw [cF]
        cases h8:gtF (loF x r) (l.getD (l.length - 1) (some 0))
        ·rw [cF]
         have hn0:da (l.getD 0 (some 0))=false:=hn _ (by rw [cJ (by omega)];exact aO _)
         rw [kg h6 hn0] at h7
         have h7:=oF h7
         have b1:=(iW h6 hn hp 0 (by omega)).1 (by omega)
         have b2:=lP l (hiF x r)
         have b3:bX l (loF x r)≤bX l (hiF x r):=by
          rcases aw (bX l (hiF x r)) (bX l (loF x r)) with hlt | hge
          ·exfalso
           have b4:=lP l (loF x r)
           have c1:=(iW h5 hn hp (bX l (hiF x r)) (by omega)).2 hlt
           have c2:=(iW h6 hn hp (bX l (hiF x r)) (by omega)).1 (by omega)
           omega
          ·exact hge
         simp only
         omega
        ·rw [h8] at h;cases h
       ·rw [h7] at h;cases h
      ·rw [h6] at h;cases h
     ·rw [h5] at h;cases h
    ·rw [h4] at h;cases h
   ·rw [h3] at h;cases h
  ·rw [h2] at h;cases h
 ·rw [h1,cT] at h
  rw [show cV l=0 from h] at h1;cases h1
theorem Ea {d:Deck} {p:Part} (hv:im d p) (h:(gS d p).2=0):0≤(gS d p).1.lo∧(gS d p).1.lo≤(gS d p).1.hi∧(gS d p).1.hi < (d.borders.length:Int) - 1:=by
 unfold gS at h ⊢
 cases hk:p.kind==3
 ·rw [hk,cF] at h;rw [cF]
  exact Ci h
 ·rw [cT]
  have hk:p.kind=3:=by simpa using hk
  rcases hv with ⟨a,_⟩ | ⟨a,_⟩ | ⟨_,a,b⟩
  ·omega
  ·omega
  ·simp only;omega
end Go.Proofs.Zn

/- Sets of numbers: plain models. (Own work.) -/
namespace Go.Proofs.Zn
open Go.Proofs.Tryz
open Go Go.VL
abbrev iY (l:List Int):Prop:=l.Pairwise (· < ·)
theorem jO:∀ {l m:List Int},iY l→iY m→(∀ n,n∈l↔n∈m)→l=m
 | [],[],_,_,_=>rfl
 | [],b::m,_,_,h=>absurd ((h b).2 (by simp)) (by simp)
 | a::l,[],_,_,h=>absurd ((h a).1 (by simp)) (by simp)
 | a :: l, b :: m, hl, hm, h => by
   obtain ⟨h1,h2⟩:=aN.1 hl
   obtain ⟨g1,g2⟩:=aN.1 hm
   have hab:a=b:=by
    rcases aL.1 ((h a).1 (by simp)) with e | e
    ·exact e
    ·rcases aL.1 ((h b).2 (by simp)) with e' | e'
     ·exact e'.symm
     ·have:=g1 a e;have:=h1 b e';omega
   subst hab
   rw [jO h2 g2 fun n=>⟨fun hn=>?_,fun hn=>?_⟩]
   ·have:=h1 n hn
    rcases aL.1 ((h n).1 (by simp [hn])) with e | e
    ·omega
    ·exact e
   ·have:=g1 n hn
    rcases aL.1 ((h n).2 (by simp [hn])) with e | e
    ·omega
    ·exact e
def fg:List Int→Int→List Int
 | [],n=>[n]
 | x::l,n=>bif decide (x < n) then x::fg l n else bif x==n then x::l else n::x::l
theorem mZ {m n:Int}:∀ {l:List Int},m∈fg l n↔m=n∨m∈l
 | []=>by simp [fg]
 | x :: l => by
   unfold fg
   by_cases h1:x < n
   ·rw [dT h1,cT,aL,mZ (l:=l),aL]
    constructor
    ·rintro (h | h | h)
     ·exact .inr (.inl h)
     ·exact .inl h
     ·exact .inr (.inr h)
    ·rintro (h | h | h)
     ·exact .inr (.inl h)
     ·exact .inl h
     ·exact .inr (.inr h)
   ·rw [dF h1,cF]
    cases h2:x==n
    ·rw [cF];simp
    ·rw [cT]
     have:x=n:=by simpa using h2
     subst this
     simp
theorem kP {n:Int}:∀ {l:List Int},iY l→iY (fg l n)
 | [],_=>by simp [fg]
 | x :: l, h => by
   obtain ⟨h1,h2⟩:=aN.1 h
   unfold fg
   by_cases h3:x < n
   ·rw [dT h3,cT]
    refine aN.2 ⟨fun y hy=>?_,kP h2⟩
    rcases mZ.1 hy with e | e
    ·omega
    ·exact h1 y e
   ·rw [dF h3,cF]
    cases h4:x==n
    ·rw [cF]
     have h4:¬ x=n:=by simpa using h4
     refine aN.2 ⟨fun y hy=>?_,h⟩
     rcases aL.1 hy with e | e
     ·omega
     ·have:=h1 y e;omega
    ·rw [cT];exact h
theorem mU {n:Int}:∀ {l:List Int},(fg l n).length≤l.length+1
 | []=>by simp [fg]
 | x :: l => by
   unfold fg
   cases decide (x < n)
   ·cases x==n <;> simp
   ·have:=mU (n:=n) (l:=l)
    simp only [cT,ag];omega
def dx (a b:List Int):List Int:=b.foldl fg a
theorem gP {n:Int}:∀ {b a:List Int},n∈dx a b↔n∈a∨n∈b
 | [],a=>by simp [dx]
 | x :: b, a => by
   have:=gP (n:=n) (b:=b) (a:=fg a x)
   unfold dx at this ⊢
   rw [fP,this,mZ,aL]
   constructor
   ·rintro ((h | h) | h)
    ·exact .inr (.inl h)
    ·exact .inl h
    ·exact .inr (.inr h)
   ·rintro (h | h | h)
    ·exact .inl (.inr h)
    ·exact .inl (.inl h)
    ·exact .inr h
theorem ge:∀ {b a:List Int},iY a→iY (dx a b)
 | [],_,h=>h
 | x::b,a,h=>ge (b:=b) (a:=fg a x) (kP h)
theorem gR:∀ {b a:List Int},(dx a b).length≤a.length+b.length
 | [],_=>by simp [dx]
 | x :: b, a => by
   have h1:=gR (b:=b) (a:=fg a x)
   have h2:=mU (n:=x) (l:=a)
   unfold dx at h1 ⊢
   rw [fP,ag];omega
abbrev gj (l:List Int):List Int:=dx [] l
theorem jN (l:List Int):iY (gj l):=ge .nil
theorem mY {n:Int} {l:List Int}:n∈gj l↔n∈l:=by
 rw [gP];simp
def tk (w:Bool) (x:Int) (l:List Int):List Int:=bif w then x::l else l
theorem qc {w:Bool} {x n:Int} {l:List Int}:n∈tk w x l↔(w=true∧n=x)∨n∈l:=by
 cases w <;> simp [tk]
def cG (f s t:Bool):List Int→List Int→List Int
 | [],[]=>[]
 | x::a,[]=>tk f x (cG f s t a [])
 | [],y::b=>tk s y (cG f s t [] b)
 | x::a,y::b=>if x < y then tk f x (cG f s t a (y::b)) else if y < x then tk s y (cG f s t (x::a) b) else tk t x (cG f s t a b)
termination_by a b=>a.length+b.length
theorem gT (f s t:Bool):∀ (a b:List Int),iY a→iY b →
  (∀ n,n∈cG f s t a b↔(f=true∧n∈a∧n ∉ b)∨(s=true∧n ∉ a∧n∈b)∨(t=true∧n∈a∧n∈b))∧iY (cG f s t a b)
 | [],[],_,_=>by rw [cG];simp
 | x :: a, [], ha, hb => by
   obtain ⟨h1,h2⟩:=aN.1 ha
   obtain ⟨i1,i2⟩:=gT f s t a [] h2 hb
   rw [cG]
   refine ⟨fun n=>?_,?_⟩
   ·rw [qc,i1];simp only [aL]
    cases f <;> simp
   ·cases f
    ·exact i2
    ·refine aN.2 ⟨fun y hy=>?_,i2⟩
     have:=(i1 y).1 hy
     simp at this
     exact h1 y this
 | [], y :: b, ha, hb => by
   obtain ⟨h1,h2⟩:=aN.1 hb
   obtain ⟨i1,i2⟩:=gT f s t [] b ha h2
   rw [cG]
   refine ⟨fun n=>?_,?_⟩
   ·rw [qc,i1];simp only [aL]
    cases s <;> simp
   ·cases s
    ·exact i2
    ·refine aN.2 ⟨fun z hz=>?_,i2⟩
     have:=(i1 z).1 hz
     simp at this
     exact h1 z this
 | x :: a, y :: b, ha, hb => by
   obtain ⟨h1,h2⟩:=aN.1 ha
   obtain ⟨g1,g2⟩:=aN.1 hb
   rw [cG]
   by_cases c1:x < y
   ·rw [aF c1]
    obtain ⟨i1,i2⟩:=gT f s t a (y::b) h2 hb
    have hx:∀ n,n∈y::b→n≠x:=fun n hn e=>by
     subst e
     rcases aL.1 hn with e | e
     ·omega
     ·have:=g1 n e;omega
    have hxa:x ∉ a:=fun e=>by have:=h1 x e;omega
    refine ⟨fun n=>?_,?_⟩
    ·rw [qc,i1]
     by_cases hn:n=x
     ·subst hn
      have hny:n ∉ y::b:=fun e=>hx n e rfl
      simp only [hny,hxa,aL,true_or,jr,and_true,and_false,lA]
      try simp
     ·have e:n∈x::a↔n∈a:=by simp [hn]
      rw [e];simp [hn]
    ·cases f
     ·exact i2
     ·refine aN.2 ⟨fun z hz=>?_,i2⟩
      have hz:=(i1 z).1 hz
      have:z∈a∨z∈y::b:=by
       rcases hz with ⟨_,h,_⟩ | ⟨_,_,h⟩ | ⟨_,h,_⟩
       ·exact .inl h
       ·exact .inr h
       ·exact .inl h
      rcases this with h | h
      ·exact h1 z h
      ·rcases aL.1 h with e | e
       ·omega
       ·have:=g1 z e;omega
   ·rw [aJ c1]
    by_cases c2:y < x
    ·rw [aF c2]
     obtain ⟨i1,i2⟩:=gT f s t (x::a) b ha g2
     have hy:∀ n,n∈x::a→n≠y:=fun n hn e=>by
      subst e
      rcases aL.1 hn with e | e
      ·omega
      ·have:=h1 n e;omega
     have hyb:y ∉ b:=fun e=>by have:=g1 y e;omega
     refine ⟨fun n=>?_,?_⟩
     ·rw [qc,i1]
      by_cases hn:n=y
      ·subst hn
       have hny:n ∉ x::a:=fun e=>hy n e rfl
       simp only [hny,hyb,aL,true_or,jr,and_true,and_false,lA]
       try simp
      ·have e:n∈y::b↔n∈b:=by simp [hn]
       rw [e];simp [hn]
     ·cases s
      ·exact i2
      ·refine aN.2 ⟨fun z hz=>?_,i2⟩
       have hz:=(i1 z).1 hz
       have:z∈x::a∨z∈b:=by
        rcases hz with ⟨_,h,_⟩ | ⟨_,_,h⟩ | ⟨_,h,_⟩
        ·exact .inl h
        ·exact .inr h
        ·exact .inl h
       rcases this with h | h
       ·rcases aL.1 h with e | e
        ·omega
        ·have:=h1 z e;omega
       ·exact g1 z h
    ·rw [aJ c2]
     have hxy:x=y:=by omega
     subst hxy
     obtain ⟨i1,i2⟩:=gT f s t a b h2 g2
     have hxa:x ∉ a:=fun e=>by have:=h1 x e;omega
     have hxb:x ∉ b:=fun e=>by have:=g1 x e;omega
     refine ⟨fun n=>?_,?_⟩
     ·rw [qc,i1]
      by_cases hn:n=x
      ·subst hn
       simp only [hxa,hxb,aL,true_or,gw,and_true,and_false,lA,false_or]
       try simp
      ·have e:n∈x::a↔n∈a:=by simp [hn]
       have e':n∈x::b↔n∈b:=by simp [hn]
       rw [e,e'];simp [hn]
     ·cases t
      ·exact i2
      ·refine aN.2 ⟨fun z hz=>?_,i2⟩
       have hz:=(i1 z).1 hz
       rcases hz with ⟨_,h,_⟩ | ⟨_,_,h⟩ | ⟨_,h,_⟩
       ·exact h1 z h
       ·exact g1 z h
       ·exact h1 z h
termination_by a b=>a.length+b.length
theorem kx {a b:List Int} (ha:iY a) (hb:iY b):cG true true true a b=dx a b:=by
 obtain ⟨h1,h2⟩:=gT true true true a b ha hb
 refine jO h2 (ge ha) fun n=>?_
 rw [h1,gP]
 by_cases c1:n∈a <;> by_cases c2:n∈b <;> simp [c1,c2]
theorem Ft (l m:List Int):gj (l++m)=dx (gj l) (gj m):=by
 refine jO (jN _) (ge (jN _)) fun n=>?_
 rw [mY,gP,mY,mY,aC]
def dY (d:Deck) (s:Span):List Int:=(List.range (s.hi - s.lo+1).toNat).map fun k:Nat=>bk (aK d)+bk (aP d)+(s.lo+(k:Int))
theorem As {d:Deck} {s:Span} {n:Int}:n∈dY d s↔s.lo≤n - (bk (aK d)+bk (aP d))∧n - (bk (aK d)+bk (aP d))≤s.hi:=by
 unfold dY
 rw [aU]
 constructor
 ·rintro ⟨k,hk,rfl⟩
  have:=cr.1 hk
  omega
 ·rintro ⟨h1,h2⟩
  refine ⟨(n - (bk (aK d)+bk (aP d)) - s.lo).toNat,cr.2 (by omega),by omega⟩
theorem qx (d:Deck) (s:Span):iY (dY d s):=by
 unfold dY
 rw [iY,List.pairwise_map]
 exact List.pairwise_lt_range.imp fun h=>by omega
def mu (d:Deck) (l:List Span):List Int:=l.foldl (fun out s=>dx out (dY d s)) []
theorem qb (d:Deck):∀ (l:List Span) (out:List Int),iY out→iY (l.foldl (fun out s=>dx out (dY d s)) out) ∧
  ∀ n,n∈l.foldl (fun out s=>dx out (dY d s)) out↔n∈out∨∃ s∈l,n∈dY d s
 | [],out,h=>⟨h,fun n=>by simp⟩
 | s :: l, out, h => by
   obtain ⟨h1,h2⟩:=qb d l (dx out (dY d s)) (ge h)
   refine ⟨h1,fun n=>?_⟩
   rw [fP,h2,gP]
   constructor
   ·rintro ((h | h) | ⟨t,ht,h⟩)
    ·exact .inl h
    ·exact .inr ⟨s,by simp,h⟩
    ·exact .inr ⟨t,by simp [ht],h⟩
   ·rintro (h | ⟨t,ht,h⟩)
    ·exact .inl (.inl h)
    ·rcases aL.1 ht with e | e
     ·subst e;exact .inl (.inr h)
     ·exact .inr ⟨t,e,h⟩
theorem mt (d:Deck) (l:List Span):iY (mu d l):=(qb d l [] .nil).1
theorem sk {d:Deck} {l:List Span} {n:Int}:n∈mu d l↔∃ s∈l,n∈dY d s:=by
 have:=(qb d l [] .nil).2 n
 unfold mu;rw [this];simp
theorem Ap {d:Deck} {l m:List Span} (h:∀ n:Int,(∃ s∈m,s.lo≤n∧n≤s.hi)↔∃ s∈l,s.lo≤n∧n≤s.hi):gj (m.flatMap (dY d))=mu d l:=by
 refine jO (jN _) (mt _ _) fun n=>?_
 rw [mY,sk,gZ]
 simp only [As]
 exact h _
end Go.Proofs.Zn

/- The table of all parts, what is picked of it: plain models. (Own work.) -/
namespace Go.Proofs.Zn
open Go.Proofs.Tryz
open Go Go.VL
def dB:List (Span×Int)→Int
 | []=>0
 | p::l=>bif p.2 != 0 then p.2 else dB l
theorem ly:∀ (l m:List (Span×Int)),dB (l++m)=bif dB l != 0 then dB l else dB m
 | [],m=>rfl
 | p :: l, m => by
   simp only [hB,dB,ly l m]
   cases h:p.2 != 0
   ·rfl
   ·simp [h]
theorem sY:∀ {l:List (Span×Int)},dB l=0→∀ p∈l,p.2=0
 | [],_,_,h=>by cases h
 | q :: l, h, p, hp => by
   simp only [dB] at h
   cases hq:q.2 != 0
   ·rw [hq,cF] at h
    rcases aL.1 hp with e | e
    ·subst e;simpa using hq
    ·exact sY h p e
   ·rw [hq,cT] at h
    rw [h] at hq;cases hq
theorem vM {L:List (Span×Int)}:∀ n:Nat,dB (List.replicate (n+1) L).flatten=dB L
 | 0=>by simp [List.replicate]
 | n + 1 => by
   rw [cc,gB,ly,vM n]
   cases h:dB L != 0 <;> rfl
def gk (L:List (Span×Int)):List Span×Int:=bif dB L != 0 then ([],dB L) else (L.map Prod.fst,0)
abbrev ci (d:Deck) (l:List Part):List (Span×Int):=l.map (gS d)
def cj (k u:Int) (n:Nat):List Part:=(List.range n).map fun c:Nat=>⟨k,u,0,(c:Int)⟩
theorem rZ {α:Type} (C:Nat) (f:Nat→α):∀ R:Nat,(List.range (R * C)).map (fun n=>f (n % C))=(List.replicate R ((List.range C).map f)).flatten
 | 0=>by simp
 | R + 1 => by
   rw [Nat.succ_mul,List.range_add,bH,rZ C f R,List.replicate_succ',List.flatten_append,gA]
   congr 1
   simp only [gB,List.flatten_nil,ed]
   refine fC fun n hn=>?_
   have:=cr.1 hn
   simp only [Function.comp]
   rw [bS,kG,cH this]
theorem qM (d:Deck) {k u r c:Int} (hr:0≤r) (hc:0≤c):ci d (cM k u r c)=(List.replicate r.toNat (ci d (cj k u c.toNat))).flatten:=by
 obtain ⟨R,rfl⟩:=cx hr
 obtain ⟨C,rfl⟩:=cx hc
 have e:(((R:Nat):Int) * ((C:Nat):Int)).toNat=R * C:=by rw [← ir];rfl
 simp only [ci,cM,cj,gA,e,aq]
 rw [← rZ C _ R]
 refine fC fun n _=>?_
 simp only [Function.comp,gS,uO,Int.natCast_emod]
def dz (d:Deck):List Span×Int:=bif dy d != 0 then ([],dy d) else gk (ci d (dA d))
def dc (d:Deck):Int:=(dz d).2
def lY (d:Deck) (i:Nat):List Part:=cZ 1 i ((aK d).drop i)++(cZ 2 0 (aP d)++eL (d.borders.length - 1))
def rY (d:Deck) (i:Nat):List Part:=cZ 2 i ((aP d).drop i)++eL (d.borders.length - 1)
theorem sP (d:Deck) (n:Nat):ci d (eL n)=(List.range n).map fun i:Nat=>(⟨(i:Int),(i:Int)⟩,0):=by
 simp only [ci,eL,gA];rfl
theorem sO (d:Deck) (n:Nat):dB (ci d (eL n))=0:=by
 rw [sP]
 have:∀ l:List Nat,dB (l.map fun i:Nat=>((⟨(i:Int),(i:Int)⟩:Span),(0:Int)))=0:=fun l=>by
  induction l with
  | nil=>rfl
  | cons a l ih=>simp only [bl,dB];exact ih
 exact this _
theorem pH {d:Deck} (h:(dz d).2=0):DeckOk d∧dB (ci d (dA d))=0∧(dz d).1=(ci d (dA d)).map Prod.fst:=by
 unfold dz at h ⊢
 cases h1:dy d != 0
 ·rw [h1,cF] at h
  rw [cF]
  have hd:DeckOk d:=eR (by simpa using h1)
  unfold gk at h ⊢
  cases h2:dB (ci d (dA d)) != 0
  ·exact ⟨hd,by simpa using h2,rfl⟩
  ·rw [h2,cT] at h
   have h:dB (ci d (dA d))=0:=h
   rw [h] at h2;cases h2
 ·rw [h1,cT] at h
  have h:dy d=0:=h
  rw [h] at h1;cases h1
def gU (d:Deck) (s:Span):Prop:=0≤s.lo∧s.lo≤s.hi∧s.hi < (d.borders.length:Int) - 1
theorem uE {d:Deck} (h:(dz d).2=0):∀ s∈(dz d).1,gU d s:=by
 obtain ⟨_,h2,h3⟩:=pH h
 intro s hs
 rw [h3] at hs
 obtain ⟨q,hq,rfl⟩:=aU.1 hs
 have h0:=sY h2 q hq
 obtain ⟨p,hp,rfl⟩:=aU.1 hq
 exact Ea (kT hp) h0
def kS (t:List Span):List Span→List Int→List Span×Int
 | acc,[]=>(acc,0)
 | acc,i::l=>bif decide (i < 0) then ([],3) else bif decide (i≥(t.length:Int)) then ([],3) else kS t (acc++[t.getD i.toNat Ty.span.dflt]) l
def dl (d:Deck) (ids:List Int):List Span×Int:=bif (dz d).2 != 0 then ([],(dz d).2) else kS (dz d).1 [] ids
theorem xT {t:List Span} {Q:Span→Prop} (ht:∀ s∈t,Q s):∀ {l:List Int} {acc:List Span},(∀ s∈acc,Q s)→(kS t acc l).2=0→(∀ s∈(kS t acc l).1,Q s)∧(kS t acc l).1.length=acc.length+l.length
 | [],acc,ha,_=>⟨ha,rfl⟩
 | i :: l, acc, ha, h => by
   unfold kS at h ⊢
   by_cases h1:i < 0
   ·rw [dT h1] at h;cases h
   rw [dF h1,cF] at h ⊢
   by_cases h2:i≥(t.length:Int)
   ·rw [dT h2] at h;cases h
   rw [dF h2,cF] at h ⊢
   have hi:i.toNat < t.length:=by omega
   obtain ⟨g1,g2⟩:=xT ht (l:=l) (acc:=acc++[t.getD i.toNat Ty.span.dflt]) (fun s hs=>by
    rcases aC.1 hs with e | e
    ·exact ha s e
    ·rw [cJ hi] at e
     rw [br.1 e]
     exact ht _ (aO _)) h
   exact ⟨g1,by rw [g2];simp;omega⟩
theorem mQ {d:Deck} {ids:List Int} (h:(dl d ids).2=0):DeckOk d∧(∀ s∈(dl d ids).1,gU d s)∧(dl d ids).1.length=ids.length:=by
 unfold dl at h ⊢
 cases h1:(dz d).2 != 0
 ·rw [h1,cF] at h
  rw [cF]
  have h0:(dz d).2=0:=by simpa using h1
  obtain ⟨g1,g2⟩:=xT (uE h0) (acc:=[]) (fun s hs=>by cases hs) h
  exact ⟨(pH h0).1,g1,by simpa using g2⟩
 ·rw [h1,cT] at h
  have h:(dz d).2=0:=h
  rw [h] at h1;cases h1
def gO (d:Deck) (ids:List Int):List Int×Int:=bif (dl d ids).2 != 0 then ([],(dl d ids).2) else (mu d (dl d ids).1,0)
def two (l:List Span):Span×Span:=(l.getD 0 Ty.span.dflt,l.getD 1 Ty.span.dflt)
def zB (a b:Span):Span:=⟨bif decide (b.lo < a.lo) then b.lo else a.lo,bif decide (b.hi > a.hi) then b.hi else a.hi⟩
def mW (d:Deck) (a b:Int):List Int×Int:=bif (dl d [a,b]).2 != 0 then ([],(dl d [a,b]).2) else (dY d (zB (two (dl d [a,b]).1).1 (two (dl d [a,b]).1).2),0)
end Go.Proofs.Zn

/- The deck: contracts. (Own work.) -/
namespace Go.Proofs.Zn
open Go.Proofs.Tryz
open Go Go.VL
theorem Jn {b:Go.VL.Box} (h:cE b=true):Pure prog 217 [⟨.box,b⟩] [.int] (b.rows * b.cols):=
 ofT func217 (t141 b) (by kernel_rfl) (by kernel_rfl) fun _=>⟨q2,by have:=dH h;exact aA (by omega) (by omega)⟩
theorem LR (b:Go.VL.Box):Pure prog 203 [⟨.box,b⟩] [.bool] (cE b):=
 ofT func203 (t126 b) (by kernel_rfl) (by kernel_rfl) fun _=>
  cK (fun _=>cK (fun _=>cK (fun _=>⟨q2,rfl⟩) (fun _=>⟨q2,rfl⟩)) (fun _=>⟨q2,rfl⟩)) (fun _=>⟨q2,rfl⟩)
theorem LU (r c:Int):Pure prog 220 [⟨.int,r⟩,⟨.int,c⟩] [.bool] (cE ⟨r,c⟩):=
 ofT func220 (t123 r c) (by kernel_rfl) (by kernel_rfl) fun _=>
  cK (fun _=>cK (fun _=>cK (fun _=>⟨q2,rfl⟩) (fun _=>⟨q2,rfl⟩)) (fun _=>⟨q2,rfl⟩)) (fun _=>⟨q2,rfl⟩)
theorem ny {l:List Go.VL.Box} (hl:l.length≤1000) (hb:∀ b∈l,cE b=true) {r:Int} {A:Pr} (hA:CL codes sigs f141 [.int] r A)
  (i:Nat) (hi:i≤l.length) (n:Int) (hn:0≤n∧n≤1536 * (i:Int)) (h:n+bk (l.drop i)=r):A (hd f141 0) (Bq l n i):=by
 refine hA.go (BT l n i) (ah (fun h1=>?_) (fun h1=>?_))
 ·have h1:=oT h1
  have hil:i < l.length:=by omega
  have hbi:=hb l[i] (aO _)
  have hs:=dH hbi
  rw [bb hil]
  rw [dG hil,bk] at h
  refine ⟨⟨⟨by omega,by omega⟩,trivial⟩,⟨T3',trivial⟩,_,Jn hbi,?_⟩
  show A (hd f141 0) (Bq l (w64 (n+l[i].rows * l[i].cols)) (w64 ((i:Int)+1)))
  rw [au (by omega),aA (by omega) (by omega)]
  exact ny hl hb hA (i+1) (by omega) _ ⟨by omega,by omega⟩ (by omega)
 ·have h1:=oF h1
  refine ⟨⟨trivial,trivial⟩,?_⟩
  rw [dN (by omega)] at h
  have h:n=r:=by simpa [bk] using h
  exact h
termination_by l.length - i
theorem Bk {l:List Go.VL.Box} (hl:l.length≤1000) (hb:∀ b∈l,cE b=true):Pure prog 141 [⟨.sl .box,l⟩] [.int] (bk l):=
 Pure.of_closed (C:=codes) (S:=sigs) mixed func141 (by kernel_rfl) (ac (by kernel_rfl)) fun A hA=>hA.go (Iu l)
  (ny hl hb hA 0 (by omega) 0 ⟨by omega,by omega⟩ (by simp))
theorem yE {d:Deck} (hl:d.plates.length≤1000) {r:List Go.VL.Box} {A:Pr} (hA:CL codes sigs f142 [.sl .box] r A)
  (i:Nat) (hi:i≤d.plates.length) (out:List Go.VL.Box) (ho:out.length=i) (h:out++(d.plates.drop i).map er=r):A (hd f142 0) (JB d out i):=by
 refine hA.go (KS d out i) (ah (fun h1=>?_) (fun h1=>?_))
 ·have h1:=oT h1
  have hil:i < d.plates.length:=by omega
  rw [bb hil]
  rw [dG hil,bl] at h
  refine ⟨⟨⟨by omega,by omega⟩,trivial⟩,⟨T3',trivial⟩,⟨by simp only [ag,al];omega,trivial⟩,?_⟩
  rw [au (by omega)]
  exact yE hl hA (i+1) (by omega) (out++[er d.plates[i]]) (by simp [ho]) (by rw [← h];simp)
 ·have h1:=oF h1
  refine ⟨⟨trivial,trivial⟩,?_⟩
  rw [dN (by omega)] at h
  have h:out=r:=by simpa using h
  exact h
termination_by d.plates.length - i
theorem Jp {d:Deck} (hl:d.plates.length≤1000):Pure prog 142 [⟨.deck,d⟩] [.sl .box] (aK d):=
 Pure.of_closed (C:=codes) (S:=sigs) mixed func142 (by kernel_rfl) (ac (by kernel_rfl)) fun A hA=>hA.go (t117 d)
  (hA.row 3 244 .box (s':=JB d [] 0) (by kernel_rfl) (by kernel_rfl) (yE hl hA 0 (by omega) [] rfl rfl))
theorem yD {d:Deck} (hl:d.racks.length≤1000) {r:List Go.VL.Box} {A:Pr} (hA:CL codes sigs f143 [.sl .box] r A)
  (i:Nat) (hi:i≤d.racks.length) (out:List Go.VL.Box) (ho:out.length=i) (h:out++(d.racks.drop i).map gl=r):A (hd f143 0) (JA d out i):=by
 refine hA.go (KR d out i) (ah (fun h1=>?_) (fun h1=>?_))
 ·have h1:=oT h1
  have hil:i < d.racks.length:=by omega
  rw [bb hil]
  rw [dG hil,bl] at h
  refine ⟨⟨⟨by omega,by omega⟩,trivial⟩,⟨T3',trivial⟩,⟨by simp only [ag,al];omega,trivial⟩,?_⟩
  rw [au (by omega)]
  exact yD hl hA (i+1) (by omega) (out++[gl d.racks[i]]) (by simp [ho]) (by rw [← h];simp)
 ·have h1:=oF h1
  refine ⟨⟨trivial,trivial⟩,?_⟩
  rw [dN (by omega)] at h
  have h:out=r:=by simpa using h
  exact h
termination_by d.racks.length - i
theorem Jo {d:Deck} (hl:d.racks.length≤1000):Pure prog 143 [⟨.deck,d⟩] [.sl .box] (aP d):=
 Pure.of_closed (C:=codes) (S:=sigs) mixed func143 (by kernel_rfl) (ac (by kernel_rfl)) fun A hA=>hA.go (t118 d)
  (hA.row 3 244 .box (s':=JA d [] 0) (by kernel_rfl) (by kernel_rfl) (yD hl hA 0 (by omega) [] rfl rfl))
theorem vX {p:Plate} (h:cE (er p)=true):w64 (p.rows * p.cols)=p.rows * p.cols:=by
 have:1≤p.rows * p.cols∧p.rows * p.cols≤1536:=dH h
 exact aA (by omega) (by omega)
theorem yA {p:Plate} (hl:(p.start.length:Int)≤1536) {r:Bool} {A:Pr} (hA:CL codes sigs f204 [.bool] r A)
  (i:Nat) (hi:i≤p.start.length) (h:ji p.cap (p.start.drop i)=r):A (hd f204 0) (Mz p i):=by
 refine hA.go (KK p i) (ah (fun h1=>?_) (fun h1=>?_))
 ·have h1:=oT h1
  have hil:i < p.start.length:=by omega
  rw [bb hil]
  rw [dG hil,ji] at h
  refine ⟨⟨⟨by omega,by omega⟩,trivial⟩,ah (fun h2=>?_) (fun h2=>ah (fun h3=>?_) (fun h3=>?_))⟩
  ·rw [h2] at h;exact ⟨⟨trivial,trivial⟩,h⟩
  ·rw [h2,h3] at h;exact ⟨⟨trivial,trivial⟩,h⟩
  ·rw [h2,h3] at h
   rw [au (by omega)]
   exact yA hl hA (i+1) (by omega) h
 ·have h1:=oF h1
  refine ⟨⟨trivial,trivial⟩,?_⟩
  rw [dN (by omega)] at h
  exact h
termination_by p.start.length - i
theorem c127 {p:Plate} (h:cE (er p)=true):Pure prog 204 [⟨.plate,p⟩] [.bool] (kn p):=
 Pure.of_closed (C:=codes) (S:=sigs) mixed func204 (by kernel_rfl) (ac (by kernel_rfl)) fun A hA=>hA.go (t127 p) (by
  have hs:1≤p.rows * p.cols∧p.rows * p.cols≤1536:=dH h
  unfold kn
  rw [vX h]
  refine ah (fun h1=>?_) (fun h1=>ah (fun h2=>?_) (fun h2=>ah (fun h3=>?_) (fun h3=>?_)))
  ·rw [h1];exact ⟨q2,rfl⟩
  ·rw [h1,h2];exact ⟨q2,rfl⟩
  ·rw [h1,h2,h3];exact ⟨q2,rfl⟩
  ·have:=oF h3
   exact yA (by omega) hA 0 (by omega) (by unfold kn;rw [h1,h2,h3];rfl))
theorem yC {p:Plate} (hl:(p.start.length:Int)≤1536) {r:Bool} {A:Pr} (hA:CL codes sigs f219 [.bool] r A)
  (i:Nat) (hi:i≤p.start.length) (h:ji p.cap (p.start.drop i)=r):A (hd f219 0) (MB p i):=by
 refine hA.go (KO p i) (ah (fun h1=>?_) (fun h1=>?_))
 ·have h1:=oT h1
  have hil:i < p.start.length:=by omega
  rw [bb hil]
  rw [dG hil,ji] at h
  refine ⟨⟨⟨by omega,by omega⟩,trivial⟩,ah (fun h2=>?_) (fun h2=>⟨⟨⟨by omega,by omega⟩,trivial⟩,ah (fun h3=>?_) (fun h3=>?_)⟩)⟩
  ·rw [h2] at h;exact ⟨⟨trivial,trivial⟩,h⟩
  ·rw [h2,h3] at h;exact ⟨⟨trivial,trivial⟩,h⟩
  ·rw [h2,h3] at h
   rw [au (by omega)]
   exact yC hl hA (i+1) (by omega) h
 ·have h1:=oF h1
  refine ⟨⟨trivial,trivial⟩,?_⟩
  rw [dN (by omega)] at h
  exact h
termination_by p.start.length - i
theorem c122 (p:Plate):Pure prog 219 [⟨.plate,p⟩] [.bool] (dg p):=
 Pure.of_closed (C:=codes) (S:=sigs) mixed func219 (by kernel_rfl) (ac (by kernel_rfl)) fun A hA=>hA.go (t122 p) (by
  refine ⟨⟨q2,q2,trivial⟩,_,LU _ _,?_⟩
  show Sat _ _ _ (bif !cE (er p) then _ else _)
  unfold dg
  cases h:cE (er p)
  ·exact ⟨q2,rfl⟩
  have hs:1≤p.rows * p.cols∧p.rows * p.cols≤1536:=dH h
  rw [cT,dr,cF]
  unfold kn
  rw [vX h]
  refine ah (fun h1=>?_) (fun h1=>ah (fun h2=>?_) (fun h2=>ah (fun h3=>?_) (fun h3=>?_)))
  ·rw [h1];exact ⟨q2,rfl⟩
  ·rw [h1,h2];exact ⟨q2,rfl⟩
  ·rw [h1,h2,h3];exact ⟨q2,rfl⟩
  ·have:=oF h3
   exact yC (by omega) hA 0 (by omega) (by unfold dg kn;rw [h,h1,h2,h3];rfl))
end Go.Proofs.Zn

namespace Go.Proofs.Zn
open Go.Proofs.Tryz
open Go Go.VL
def Ml (x y:List Go.VL.Box) (i:Int):AS:=mkS 78 [(4,.d (.sl .box x)),(5,.d (.sl .box y)),(60,.d (.sl .box y)),(61,i64 y.length),(62,i64 i)] [] 0
def Mp (d:Deck) (w t i:Int):AS:=mkS 103 [(1,.ptr 0 0),(4,i64 w),(5,i64 t),(7,i64 i)] [(0,.box (cp d))] 1
def Hy (k u r c:Int) (out:List Part) (i j:Int):AS:=mkS 31 [(0,i64 k),(1,i64 u),(2,i64 r),(3,i64 c),(9,.own 0 .part),(10,i64 i),(11,i64 j)] [(0,.row 179 .part out)] 1
def Jv (d:Deck) (out:List Part) (i:Int):AS:=mkS 71 [(1,.ptr 0 0),(3,.own 1 .part),(5,i64 i)] [(0,.box (cp d)),(1,.row 179 .part out)] 2
def Mm (d:Deck) (out:List Part) (i:Int):AS:=mkS 71 [(1,.ptr 0 0),(3,.own 1 .part),(6,i64 i)] [(0,.box (cp d)),(1,.row 179 .part out)] 2
def Jy (l:List Part) (a b c e i:Int):AS:=mkS 31 [(5,.ptr 0 0),(6,.d (.sl .part l)),(7,i64 i)] [(0,.box [i64 a,i64 b,i64 c,i64 e])] 1
theorem t92b (x y:List Go.VL.Box) (i:Int):@Eq _ (xL prog codes sigs f125 [.int] 200 1 (Ml x y i)) (bif decide (i < (y.length:Int)) then .need (((0:Int)≤i∧i < (y.length:Int))∧True) (.need (U3∧True) (.callP 203 [⟨.box,(y.getD i.toNat Ty.box.dflt)⟩] [.bool] fun (x_1:Bool)=>bif !x_1 then .need U2 (.ret (82:Int)) else .stop (hd f125 1) (mkS 78 [(4,.d (.sl .box x)),(5,.d (.sl .box y)),(60,.d (.sl .box y)),(61,i64 (y.length:Int)),(62,i64 (w64 (i+1)))] [] 0))) else .need (U2∧True) (.callP 141 [⟨.sl .box,x⟩] [.int] fun (x:Int)=>bif decide (x > 384) then .need U2 (.ret (2:Int)) else .need (U2∧True) (.callP 141 [⟨.sl .box,y⟩] [.int] fun (x:Int)=>bif decide (x > 384) then .need U2 (.ret (2:Int)) else .need U2 (.ret (0:Int))))):=by kernel_rfl
theorem t89b (d:Deck) (w t i:Int):@Eq _ (xL prog codes sigs f153 [.int] 200 1 (Mp d w t i)) (bif decide (i < (d.racks.length:Int)) then .need (((0:Int)≤i∧i < (d.racks.length:Int))∧True) (.need (((0:Int)≤i∧i < (d.racks.length:Int))∧True) (.need (U2∧U2∧True) (.callP 220 [Sigma.mk .int (d.racks.getD i.toNat Ty.rack.dflt).rows,Sigma.mk .int (d.racks.getD i.toNat Ty.rack.dflt).cols] [.bool] fun (x:Bool)=>bif !x then .need U2 (.ret (82:Int)) else .need (((0:Int)≤i∧i < (d.racks.length:Int))∧True) (.need (((0:Int)≤i∧i < (d.racks.length:Int))∧True) (.stop (hd f153 1) (mkS 103 [(1,.ptr 0 0),(4,i64 w),(5,i64 (w64 (t+w64 ((d.racks.getD i.toNat Ty.rack.dflt).rows * (d.racks.getD i.toNat Ty.rack.dflt).cols)))),(7,i64 (w64 (i+1)))] [(0,.box (dC d))] 1)))))) else bif decide (w > 384) then .need U2 (.ret (2:Int)) else bif decide (t > 384) then .need U2 (.ret (2:Int)) else .need U2 (.ret (0:Int))):=by kernel_rfl
theorem KM (k u r c:Int) (out:List Part) (i j:Int):@Eq _ (xL prog codes sigs f154 [.sl .part] 200 1 (Hy k u r c out i j)) (bif decide (j < c) then .need (U5∧True) (.need ((out.length+List.length [Part.mk k u i j]) * 33≤35184372088832∧True) (.stop (hd f154 1) (mkS 31 [(0,i64 k),(1,i64 u),(2,i64 r),(3,i64 c),(9,.own 0 .part),(10,i64 i),(11,i64 (w64 (j+1)))] [(0,.row 179 .part (out++[Part.mk k u i j]))] 1))) else .stop (hd f154 0) (mkS 31 [(0,i64 k),(1,i64 u),(2,i64 r),(3,i64 c),(9,.own 0 .part),(10,i64 (w64 (i+1)))] [(0,.row 179 .part out)] 1)):=by kernel_rfl
theorem t90b (d:Deck) (out:List Part) (i:Int):@Eq _ (xL prog codes sigs f88 [.sl .part] 200 1 (Jv d out i)) (bif decide (i < (d.racks.length:Int)) then .need (((0:Int)≤i∧i < (d.racks.length:Int))∧True) (.need (((0:Int)≤i∧i < (d.racks.length:Int))∧True) (.need (U2∧U2∧U2∧U2∧True) (.callP 154 [⟨.int,(2:Int)⟩,⟨.int,i⟩,Sigma.mk .int (d.racks.getD i.toNat Ty.rack.dflt).rows,Sigma.mk .int (d.racks.getD i.toNat Ty.rack.dflt).cols] [.sl .part] fun (x:List Part)=>.need ((out.length+x.length) * 33≤35184372088832∧True) (.stop (hd f88 1) (mkS 71 [(1,.ptr 0 0),(3,.own 1 .part),(5,i64 (w64 (i+1)))] [(0,.box (dC d)),(1,.row 179 .part (out++x))] 2))))) else .stop (hd f88 2) (mkS 71 [(1,.ptr 0 0),(3,.own 1 .part),(6,i64 0)] [(0,.box (dC d)),(1,.row 179 .part out)] 2)):=by kernel_rfl
theorem t90c (d:Deck) (out:List Part) (i:Int):@Eq _ (xL prog codes sigs f88 [.sl .part] 200 2 (Mm d out i)) (bif decide (i < w64 ((d.borders.length:Int) - (1:Int))) then .need (U5∧True) (.need ((out.length+List.length [Part.mk (3:Int) i (0:Int) (0:Int)]) * 33≤35184372088832∧True) (.stop (hd f88 2) (mkS 71 [(1,.ptr 0 0),(3,.own 1 .part),(6,i64 (w64 (i+1)))] [(0,.box (dC d)),(1,.row 179 .part (out++[Part.mk (3:Int) i (0:Int) (0:Int)]))] 2))) else .need U2 (.ret out)):=by kernel_rfl
theorem Kz (l:List Part) (a b c e i:Int):@Eq _ (xL prog codes sigs f152 [.int,.int,.int] 200 0 (Jy l a b c e i)) (bif decide (i < (l.length:Int)) then .need (((0:Int)≤i∧i < (l.length:Int))∧True) (bif (l.getD i.toNat Ty.part.dflt).kind==(↑(nat_lit 3):Int) then bif (l.getD i.toNat Ty.part.dflt).kind==(↑(nat_lit 3):Int) then .stop (hd f152 0) (mkS 31 [(5,.ptr 0 0),(6,.d (.sl .part l)),(7,i64 (w64 (i+1)))] [(0,.box [i64 a,i64 b,i64 c,i64 (w64 (e+1))])] 1) else bif (l.getD i.toNat Ty.part.dflt).kind==(↑(nat_lit 2):Int) then .stop (hd f152 0) (mkS 31 [(5,.ptr 0 0),(6,.d (.sl .part l)),(7,i64 (w64 (i+1)))] [(0,.box [i64 a,i64 b,i64 (w64 (e+1)),i64 e])] 1) else bif (l.getD i.toNat Ty.part.dflt).kind==(↑(nat_lit 1):Int) then .stop (hd f152 0) (mkS 31 [(5,.ptr 0 0),(6,.d (.sl .part l)),(7,i64 (w64 (i+1)))] [(0,.box [i64 a,i64 (w64 (e+1)),i64 c,i64 e])] 1) else bif (l.getD i.toNat Ty.part.dflt).kind==(↑(nat_lit 0):Int) then .stop (hd f152 0) (mkS 31 [(5,.ptr 0 0),(6,.d (.sl .part l)),(7,i64 (w64 (i+1)))] [(0,.box [i64 (w64 (e+1)),i64 b,i64 c,i64 e])] 1) else .fail else bif (l.getD i.toNat Ty.part.dflt).kind==(↑(nat_lit 2):Int) then bif (l.getD i.toNat Ty.part.dflt).kind==(↑(nat_lit 3):Int) then .stop (hd f152 0) (mkS 31 [(5,.ptr 0 0),(6,.d (.sl .part l)),(7,i64 (w64 (i+1)))] [(0,.box [i64 a,i64 b,i64 c,i64 (w64 (c+1))])] 1) else bif (l.getD i.toNat Ty.part.dflt).kind==(↑(nat_lit 2):Int) then .stop (hd f152 0) (mkS 31 [(5,.ptr 0 0),(6,.d (.sl .part l)),(7,i64 (w64 (i+1)))] [(0,.box [i64 a,i64 b,i64 (w64 (c+1)),i64 e])] 1) else bif (l.getD i.toNat Ty.part.dflt).kind==(↑(nat_lit 1):Int) then .stop (hd f152 0) (mkS 31 [(5,.ptr 0 0),(6,.d (.sl .part l)),(7,i64 (w64 (i+1)))] [(0,.box [i64 a,i64 (w64 (c+1)),i64 c,i64 e])] 1) else bif (l.getD i.toNat Ty.part.dflt).kind==(↑(nat_lit 0):Int) then .stop (hd f152 0) (mkS 31 [(5,.ptr 0 0),(6,.d (.sl .part l)),(7,i64 (w64 (i+1)))] [(0,.box [i64 (w64 (c+1)),i64 b,i64 c,i64 e])] 1) else .fail else bif (l.getD i.toNat Ty.part.dflt).kind==(↑(nat_lit 1):Int) then bif (l.getD i.toNat Ty.part.dflt).kind==(↑(nat_lit 3):Int) then .stop (hd f152 0) (mkS 31 [(5,.ptr 0 0),(6,.d (.sl .part l)),(7,i64 (w64 (i+1)))] [(0,.box [i64 a,i64 b,i64 c,i64 (w64 (b+1))])] 1) else bif (l.getD i.toNat Ty.part.dflt).kind==(↑(nat_lit 2):Int) then .stop (hd f152 0) (mkS 31 [(5,.ptr 0 0),(6,.d (.sl .part l)),(7,i64 (w64 (i+1)))] [(0,.box [i64 a,i64 b,i64 (w64 (b+1)),i64 e])] 1) else bif (l.getD i.toNat Ty.part.dflt).kind==(↑(nat_lit 1):Int) then .stop (hd f152 0) (mkS 31 [(5,.ptr 0 0),(6,.d (.sl .part l)),(7,i64 (w64 (i+1)))] [(0,.box [i64 a,i64 (w64 (b+1)),i64 c,i64 e])] 1) else bif (l.getD i.toNat Ty.part.dflt).kind==(↑(nat_lit 0):Int) then .stop (hd f152 0) (mkS 31 [(5,.ptr 0 0),(6,.d (.sl .part l)),(7,i64 (w64 (i+1)))] [(0,.box [i64 (w64 (b+1)),i64 b,i64 c,i64 e])] 1) else .fail else bif (l.getD i.toNat Ty.part.dflt).kind==(↑(nat_lit 0):Int) then bif (l.getD i.toNat Ty.part.dflt).kind==(↑(nat_lit 3):Int) then .stop (hd f152 0) (mkS 31 [(5,.ptr 0 0),(6,.d (.sl .part l)),(7,i64 (w64 (i+1)))] [(0,.box [i64 a,i64 b,i64 c,i64 (w64 (a+1))])] 1) else bif (l.getD i.toNat Ty.part.dflt).kind==(↑(nat_lit 2):Int) then .stop (hd f152 0) (mkS 31 [(5,.ptr 0 0),(6,.d (.sl .part l)),(7,i64 (w64 (i+1)))] [(0,.box [i64 a,i64 b,i64 (w64 (a+1)),i64 e])] 1) else bif (l.getD i.toNat Ty.part.dflt).kind==(↑(nat_lit 1):Int) then .stop (hd f152 0) (mkS 31 [(5,.ptr 0 0),(6,.d (.sl .part l)),(7,i64 (w64 (i+1)))] [(0,.box [i64 a,i64 (w64 (a+1)),i64 c,i64 e])] 1) else bif (l.getD i.toNat Ty.part.dflt).kind==(↑(nat_lit 0):Int) then .stop (hd f152 0) (mkS 31 [(5,.ptr 0 0),(6,.d (.sl .part l)),(7,i64 (w64 (i+1)))] [(0,.box [i64 (w64 (a+1)),i64 b,i64 c,i64 e])] 1) else .fail else .fail) else .need (U2∧U2∧U2) (.ret (b,c,e))):=by kernel_rfl
end Go.Proofs.Zn

/- The deck's ids: contracts. (Own work.) -/
namespace Go.Proofs.Zn
open Go.Proofs.Tryz
open Go Go.VL
theorem vB (d:Deck):(aK d).length=d.plates.length:=by simp [aK]
theorem vA (d:Deck):(aP d).length=d.racks.length:=by simp [aP]
def ud (d:Deck):Int:=bif decide (bk (aK d) > 384) then 2 else bif decide (bk (aP d) > 384) then 2 else 0
theorem yT (d:Deck):dy d=bif cV d.borders != 0 then cV d.borders else bif decide (d.arms < 1) then 80 else bif decide (d.arms > 8) then 80 else
 bif decide ((d.plates.length:Int) > 4) then 2 else bif decide ((d.racks.length:Int) > 4) then 2 else bif !d.plates.all dg then 81 else bif !(aP d).all cE then 82 else ud d:=rfl
theorem yh {d:Deck} (hp:d.plates.length≤4) (hr:d.racks.length≤4) (hbp:∀ b∈aK d,cE b=true) {r:Int} {A:List Item→AS→Prop}
  (hA:Closed prog codes sigs f125 (bh [.int]) (fun y=>y=r) 0 A) (i:Nat) (hi:i≤(aP d).length) (hpre:∀ b∈(aP d).take i,cE b=true)
  (h:(bif !((aP d).drop i).all cE then 82 else ud d)=r):A (hd f125 1) (Ml (aK d) (aP d) i):=by
 have e1:=vB d
 have e2:=vA d
 refine hA.go (t92b _ _ i) (ah (fun h1=>?_) (fun h1=>?_))
 ·have h1:=oT h1
  have hil:i < (aP d).length:=by omega
  rw [bb hil]
  rw [dG hil,hX] at h
  refine ⟨⟨⟨by omega,by omega⟩,trivial⟩,⟨T3',trivial⟩,_,LR _,ah (fun h2=>?_) (fun h2=>?_)⟩
  ·rw [nt h2] at h;exact ⟨⟨trivial,trivial⟩,h⟩
  ·have h2:=nf h2
   rw [h2,cR] at h
   rw [au (by omega)]
   refine yh hp hr hbp hA (i+1) (by omega) (fun b hb=>?_) h
   rw [aY hil] at hb
   rcases aC.1 hb with e | e
   ·exact hpre b e
   ·rw [br.1 e];exact h2
 ·have h1:=oF h1
  rw [dN (by omega)] at h
  have h:ud d=r:=h
  have hbr:∀ b∈aP d,cE b=true:=fun b hb=>hpre b (by rw [cn (by omega)];exact hb)
  unfold ud at h
  refine ⟨⟨⟨trivial,trivial⟩,trivial⟩,_,Bk (by omega) hbp,ah (fun h3=>?_) (fun h3=>⟨⟨⟨trivial,trivial⟩,trivial⟩,_,Bk (by omega) hbr,ah (fun h4=>?_) (fun h4=>?_)⟩)⟩
  ·rw [h3] at h;exact ⟨⟨trivial,trivial⟩,h⟩
  ·rw [h3,h4] at h;exact ⟨⟨trivial,trivial⟩,h⟩
  ·rw [h3,h4] at h;exact ⟨⟨trivial,trivial⟩,h⟩
termination_by (aP d).length - i
theorem yi {d:Deck} (hp:d.plates.length≤4) (hr:d.racks.length≤4) {r:Int} {A:List Item→AS→Prop}
  (hA:Closed prog codes sigs f125 (bh [.int]) (fun y=>y=r) 0 A) (i:Nat) (hi:i≤d.plates.length) (hpre:∀ p∈d.plates.take i,dg p=true)
  (h:(bif !(d.plates.drop i).all dg then 81 else bif !(aP d).all cE then 82 else ud d)=r):A (hd f125 0) (L92 d (aK d) (aP d) i):=by
 have e1:=vB d
 have e2:=vA d
 refine hA.go (t92a d _ _ i) (ah (fun h1=>?_) (fun h1=>?_))
 ·have h1:=oT h1
  have hil:i < d.plates.length:=by omega
  have hib:i < (aK d).length:=by omega
  have eb:(aK d)[i]=er d.plates[i]:=by simp [aK]
  rw [bb hil,bb hib,eb]
  rw [dG hil,hX] at h
  refine ⟨⟨⟨by omega,by omega⟩,trivial⟩,⟨T3',trivial⟩,_,LR _,ah (fun h2=>?_) (fun h2=>?_)⟩
  ·have h2:=nt h2
   have:dg d.plates[i]=false:=by unfold dg;rw [h2];rfl
   rw [this] at h;exact ⟨⟨trivial,trivial⟩,h⟩
  ·have h2:=nf h2
   have e3:dg d.plates[i]=kn d.plates[i]:=by unfold dg;rw [h2];rfl
   refine ⟨⟨⟨by omega,by omega⟩,trivial⟩,⟨⟨trivial,trivial,trivial,trivial,trivial,trivial,trivial,trivial⟩,trivial⟩,_,c127 h2,ah (fun h3=>?_) (fun h3=>?_)⟩
   ·rw [e3,nt h3] at h;exact ⟨⟨trivial,trivial⟩,h⟩
   ·have h3:=nf h3
    rw [e3,h3,cR] at h
    rw [au (by omega)]
    refine yi hp hr hA (i+1) (by omega) (fun b hb=>?_) h
    rw [aY hil] at hb
    rcases aC.1 hb with e | e
    ·exact hpre b e
    ·rw [br.1 e,e3];exact h3
 ·have h1:=oF h1
  rw [dN (by omega)] at h
  refine yh hp hr (fun b hb=>?_) hA 0 (by omega) (fun b hb=>by simp at hb) h
  obtain ⟨p,hp',rfl⟩:=aU.1 hb
  have:=hpre p (by rw [cn (by omega)];exact hp')
  unfold dg at this
  cases hq:cE (er p)
  ·rw [hq] at this;cases this
  ·rfl
termination_by d.plates.length - i
theorem c92 (d:Deck):Pure prog 125 [⟨.deck,d⟩] [.int] (dy d):=
 Pure.of_closed (C:=codes) (S:=sigs) mixed func125 (by kernel_rfl) (ac (by kernel_rfl)) fun A hA=>hA.go (t92 d) (by
  have hr:=yT d
  generalize dy d=r at hr hA ⊢
  refine ⟨⟨q2,trivial⟩,_,LS _,ah (fun h1=>?_) (fun h1=>ah (fun h2=>?_) (fun h2=>ah (fun h3=>?_) (fun h3=>ah (fun h4=>?_) (fun h4=>ah (fun h5=>?_) (fun h5=>?_)))))⟩
  ·rw [h1] at hr;exact ⟨q2,hr.symm⟩
  ·rw [h1,h2] at hr;exact ⟨q2,hr.symm⟩
  ·rw [h1,h2,h3] at hr;exact ⟨q2,hr.symm⟩
  ·rw [h1,h2,h3,h4] at hr;exact ⟨q2,hr.symm⟩
  ·rw [h1,h2,h3,h4,h5] at hr;exact ⟨q2,hr.symm⟩
  ·rw [h1,h2,h3,h4,h5] at hr
   have h4:=oF h4
   have h5:=oF h5
   refine ⟨⟨q5,trivial⟩,_,Jp (by omega),⟨q5,trivial⟩,_,Jo (by omega),?_⟩
   exact yi (by omega) (by omega) hA 0 (by omega) (fun p hp=>by simp at hp) hr.symm)
abbrev T5':True∧True∧True∧True∧True:=⟨trivial,trivial,trivial,trivial,trivial⟩
abbrev T2':True∧True:=⟨trivial,trivial⟩
def bv (d:Deck):Int×Int×Int:=bif dy d != 0 then (0,0,0) else (bk (aK d),bk (aP d),(d.borders.length:Int) - 1)
theorem Bl (d:Deck):Pure prog 84 [⟨.deck,d⟩] [.int,.int,.int] (bv d):=
 ofT func84 (t115 d) (by kernel_rfl) (by kernel_rfl) fun A=>by
  unfold bv
  refine ⟨⟨T5',trivial⟩,_,c92 d,ah (fun h=>?_) (fun h=>?_)⟩
  ·rw [h];exact ⟨⟨T2',T2',T2'⟩,rfl⟩
  ·rw [h]
   have hd:DeckOk d:=eR (by simpa using h)
   have e1:=vB d
   have e2:=vA d
   have h3:=hd.lanes
   have h4:=hd.plates
   have h5:=hd.racks
   refine ⟨⟨T5',trivial⟩,_,Jp (by omega),⟨T2',trivial⟩,_,Bk (by omega) hd.boxP,⟨T5',trivial⟩,_,Jo (by omega),⟨T2',trivial⟩,_,Bk (by omega) hd.boxR,⟨T2',T2',T2'⟩,?_⟩
   rw [aA (by omega) (by omega)];rfl
theorem yF {l:List Go.VL.Box} {k:Int} (hl:l.length≤1000) (hb:∀ b∈l,cE b=true) {r:Part} {A:List Item→AS→Prop}
  (hA:Closed prog codes sigs f208 (bh [.part]) (fun y=>y=r) 0 A) (i:Nat) (hi:i≤l.length) (n:Int) (h0:0≤n) (h9:n≤1000000)
  (h:gm k i (l.drop i) n=r):A (hd f208 0) (JC l k n i):=by
 refine hA.go (KT l k n i) (ah (fun h1=>?_) (fun h1=>?_))
 ·have h1:=oT h1
  have hil:i < l.length:=by omega
  have hbi:=hb l[i] (aO _)
  have hs:=dH hbi
  obtain ⟨b1,b2,b3,b4⟩:=gh.1 hbi
  rw [bb hil]
  rw [dG hil,gm] at h
  refine ⟨⟨⟨by omega,by omega⟩,trivial⟩,⟨T3',trivial⟩,_,Jn hbi,ah (fun h2=>?_) (fun h2=>?_)⟩
  ·rw [h2] at h
   have hq:0≤n / l[i].cols:=Int.ediv_nonneg h0 (by omega)
   have hq2:n / l[i].cols≤n:=Int.ediv_le_self _ h0
   refine ⟨by omega,by omega,T5',?_⟩
   rw [Int.tdiv_eq_ediv_of_nonneg h0,dS h0,aA (by omega) (by omega)]
   exact h
  ·rw [h2,cF] at h
   have h2:=oF h2
   refine ⟨⟨T3',trivial⟩,_,Jn hbi,?_⟩
   show A (hd f208 0) (JC l k (w64 (n - l[i].rows * l[i].cols)) (w64 ((i:Int)+1)))
   rw [au (by omega),aA (by omega) (by omega)]
   exact yF hl hb hA (i+1) (by omega) _ (by omega) (by omega) h
 ·have h1:=oF h1
  refine ⟨T5',?_⟩
  rw [dN (by omega)] at h
  exact h
termination_by l.length - i
theorem LV {l:List Go.VL.Box} {k n:Int} (hl:l.length≤1000) (hb:∀ b∈l,cE b=true) (h0:0≤n) (h9:n≤1000000):Pure prog 208 [⟨.sl .box,l⟩,⟨.int,k⟩,⟨.int,n⟩] [.part] (gm k 0 l n):=
 Pure.of_closed (C:=codes) (S:=sigs) mixed func208 (by kernel_rfl) (ac (by kernel_rfl)) fun A hA=>hA.go (t116 l k n)
  (yF hl hb hA 0 (by omega) n h0 h9 rfl)
theorem c84 (d:Deck) (i:Int):Pure prog 130 [⟨.deck,d⟩,⟨.int,i⟩] [.part,.int] (pY d i):=
 ofT func130 (t84 d i) (by kernel_rfl) (by kernel_rfl) fun A=>by
  have hr:pY d i=pY d i:=rfl
  generalize hp:pY d i=r at hr ⊢
  unfold pY at hp
  refine ⟨⟨T5',trivial⟩,_,c92 d,ah (fun h=>?_) (fun h=>?_)⟩
  ·rw [h] at hp;exact ⟨⟨T5',T2'⟩,hp⟩
  ·rw [h,cF] at hp
   have hd:DeckOk d:=eR (by simpa using h)
   have hc:bv d=(bk (aK d),bk (aP d),(d.borders.length:Int) - 1):=by unfold bv;rw [h];rfl
   have e1:=vB d
   have e2:=vA d
   have hl:=hd.lanes
   have hw:=hd.wells
   have ht:=hd.tips
   have h4:=hd.plates
   have h5:=hd.racks
   have hn:=lI hd
   refine ⟨⟨T5',trivial⟩,_,(Bl d).eq hc,ah (fun h1=>?_) (fun h1=>?_)⟩
   ·rw [h1] at hp;exact ⟨⟨T5',T2'⟩,hp⟩
   ·rw [h1,cF] at hp
    have h1:=oF h1
    have ew:w64 (w64 (bk (aK d)+bk (aP d))+((d.borders.length:Int) - 1))=((dA d).length:Int):=by
     rw [aA (n:=bk (aK d)+bk (aP d)) (by omega) (by omega),aA (by omega) (by omega)];omega
    simp only
    rw [ew]
    refine ah (fun h2=>?_) (fun h2=>?_)
    ·rw [h2] at hp;exact ⟨⟨T5',T2'⟩,hp⟩
    ·rw [h2,cF] at hp
     have h2:=oF h2
     have hg:=sc hd (i:=i) (by omega) (by omega)
     rw [dR,hg,fx] at hp
     rw [aA (n:=bk (aK d)+bk (aP d)) (by omega) (by omega)]
     refine ah (fun h6=>?_) (fun h6=>ah (fun h7=>?_) (fun h7=>?_))
     ·rw [h6,cT] at hp
      have h6:=oT h6
      exact ⟨⟨T5',trivial⟩,_,Jp (by omega),⟨T2',T2',T2',trivial⟩,_,LV (by omega) hd.boxP (by omega) (by omega),⟨T5',T2'⟩,hp⟩
     ·rw [h6,h7,cF,cT] at hp
      have h6:=oF h6
      have h7:=oT h7
      rw [aA (by omega) (by omega)]
      exact ⟨⟨T5',trivial⟩,_,Jo (by omega),⟨T2',T2',T2',trivial⟩,_,LV (by omega) hd.boxR (by omega) (by omega),⟨T5',T2'⟩,hp⟩
     ·rw [h6,h7,cF,cF] at hp
      have h6:=oF h6
      have h7:=oF h7
      rw [aA (n:=i - bk (aK d)) (by omega) (by omega),aA (by omega) (by omega)]
      exact ⟨⟨T5',T2'⟩,hp⟩
end Go.Proofs.Zn

/- The deck by definition: contracts. (Own work.) -/
namespace Go.Proofs.Zn
open Go.Proofs.Tryz
open Go Go.VL
theorem ym {d:Deck} (hr:d.racks.length≤4) {w:Int} (hw:w=bk (aK d)) {r:Int} {A:List Item→AS→Prop}
  (hA:Closed prog codes sigs f153 (bh [.int]) (fun y=>y=r) 0 A) (i:Nat) (hi:i≤d.racks.length) (t:Int) (ht:0≤t∧t≤1536 * (i:Int)) (hs:t+bk ((aP d).drop i)=bk (aP d))
  (h:(bif !((aP d).drop i).all cE then 82 else ud d)=r):A (hd f153 1) (Mp d w t i):=by
 have e2:=vA d
 refine hA.go (t89b d w t i) (ah (fun h1=>?_) (fun h1=>?_))
 ·have h1:=oT h1
  have hil:i < d.racks.length:=by omega
  have hib:i < (aP d).length:=by omega
  have eb:(aP d)[i]=gl d.racks[i]:=by simp [aP]
  rw [bb hil]
  rw [dG hib,hX,eb] at h
  rw [dG hib,eb,bk] at hs
  refine ⟨⟨⟨by omega,by omega⟩,trivial⟩,⟨⟨by omega,by omega⟩,trivial⟩,⟨T2',T2',trivial⟩,_,LU _ _,ah (fun h2=>?_) (fun h2=>?_)⟩
  ·have h2:cE (gl d.racks[i])=false:=nt h2
   rw [h2] at h;exact ⟨⟨trivial,trivial⟩,h⟩
  ·have h2:cE (gl d.racks[i])=true:=nf h2
   rw [h2,cR] at h
   have hb:1≤d.racks[i].rows * d.racks[i].cols∧d.racks[i].rows * d.racks[i].cols≤1536:=dH h2
   have hs:t+(d.racks[i].rows * d.racks[i].cols+bk ((aP d).drop (i+1)))=bk (aP d):=hs
   refine ⟨⟨⟨by omega,by omega⟩,trivial⟩,⟨⟨by omega,by omega⟩,trivial⟩,?_⟩
   rw [au (by omega),aA (n:=d.racks[i].rows * d.racks[i].cols) (by omega) (by omega),aA (by omega) (by omega)]
   exact ym hr hw hA (i+1) (by omega) _ ⟨by omega,by omega⟩ (by omega) h
 ·have h1:=oF h1
  rw [dN (by omega)] at h hs
  have h:ud d=r:=h
  have ht:t=bk (aP d):=by simpa [bk] using hs
  unfold ud at h
  rw [hw,ht]
  refine ah (fun h3=>?_) (fun h3=>ah (fun h4=>?_) (fun h4=>?_))
  ·rw [h3] at h;exact ⟨⟨trivial,trivial⟩,h⟩
  ·rw [h3,h4] at h;exact ⟨⟨trivial,trivial⟩,h⟩
  ·rw [h3,h4] at h;exact ⟨⟨trivial,trivial⟩,h⟩
termination_by d.racks.length - i
theorem yn {d:Deck} (hp:d.plates.length≤4) (hr:d.racks.length≤4) {r:Int} {A:List Item→AS→Prop}
  (hA:Closed prog codes sigs f153 (bh [.int]) (fun y=>y=r) 0 A) (i:Nat) (hi:i≤d.plates.length) (w:Int) (hw:0≤w∧w≤1536 * (i:Int)) (hs:w+bk ((aK d).drop i)=bk (aK d))
  (h:(bif !(d.plates.drop i).all dg then 81 else bif !(aP d).all cE then 82 else ud d)=r):A (hd f153 0) (L89 d w 0 i):=by
 have e1:=vB d
 refine hA.go (t89a d w 0 i) (ah (fun h1=>?_) (fun h1=>?_))
 ·have h1:=oT h1
  have hil:i < d.plates.length:=by omega
  have hib:i < (aK d).length:=by omega
  have eb:(aK d)[i]=er d.plates[i]:=by simp [aK]
  rw [bb hil]
  rw [dG hil,hX] at h
  rw [dG hib,eb,bk] at hs
  refine ⟨⟨⟨by omega,by omega⟩,trivial⟩,⟨⟨trivial,trivial,trivial,trivial,trivial,trivial,trivial,trivial⟩,trivial⟩,_,c122 _,ah (fun h2=>?_) (fun h2=>?_)⟩
  ·rw [nt h2] at h;exact ⟨⟨trivial,trivial⟩,h⟩
  ·have h2:=nf h2
   rw [h2,cR] at h
   have hq:cE (er d.plates[i])=true:=by
    unfold dg at h2
    cases hq:cE (er d.plates[i])
    ·rw [hq] at h2;cases h2
    ·rfl
   have hb:1≤d.plates[i].rows * d.plates[i].cols∧d.plates[i].rows * d.plates[i].cols≤1536:=dH hq
   have hs:w+(d.plates[i].rows * d.plates[i].cols+bk ((aK d).drop (i+1)))=bk (aK d):=hs
   refine ⟨⟨⟨by omega,by omega⟩,trivial⟩,⟨⟨by omega,by omega⟩,trivial⟩,?_⟩
   rw [au (by omega),aA (n:=d.plates[i].rows * d.plates[i].cols) (by omega) (by omega),aA (by omega) (by omega)]
   exact yn hp hr hA (i+1) (by omega) _ ⟨by omega,by omega⟩ (by omega) h
 ·have h1:=oF h1
  rw [dN (by omega)] at h hs
  exact ym hr (by simpa [bk] using hs) hA 0 (by omega) 0 ⟨by omega,by omega⟩ (by simp) h
termination_by d.plates.length - i
theorem c89 (d:Deck):Pure prog 153 [⟨.deck,d⟩] [.int] (dy d):=
 Pure.of_closed (C:=codes) (S:=sigs) mixed func153 (by kernel_rfl) (ac (by kernel_rfl)) fun A hA=>hA.go (t89 d) (by
  have hr:=yT d
  generalize dy d=r at hr hA ⊢
  refine ⟨⟨q2,trivial⟩,_,GP _,ah (fun h1=>?_) (fun h1=>ah (fun h2=>?_) (fun h2=>ah (fun h3=>?_) (fun h3=>ah (fun h4=>?_) (fun h4=>ah (fun h5=>?_) (fun h5=>?_)))))⟩
  ·rw [h1] at hr;exact ⟨q2,hr.symm⟩
  ·rw [h1,h2] at hr;exact ⟨q2,hr.symm⟩
  ·rw [h1,h2,h3] at hr;exact ⟨q2,hr.symm⟩
  ·rw [h1,h2,h3,h4] at hr;exact ⟨q2,hr.symm⟩
  ·rw [h1,h2,h3,h4,h5] at hr;exact ⟨q2,hr.symm⟩
  ·rw [h1,h2,h3,h4,h5] at hr
   have h4:=oF h4
   have h5:=oF h5
   exact yn (by omega) (by omega) hA 0 (by omega) 0 ⟨by omega,by omega⟩ (by simp) hr.symm)
def plN (k u:Int) (c n:Nat):List Part:=(List.range n).map fun m:Nat=>⟨k,u,((m / c:Nat):Int),((m % c:Nat):Int)⟩
theorem CB (k u:Int) {c i j:Nat} (hj:j < c):plN k u c (i * c+j+1)=plN k u c (i * c+j)++[⟨k,u,(i:Int),(j:Int)⟩]:=by
 unfold plN
 rw [List.range_succ,bH]
 congr 1
 have h1:(i * c+j) / c=i:=by rw [bS,Nat.mul_add_div (by omega),gW hj,ez]
 have h2:(i * c+j) % c=j:=by rw [bS,kG,cH hj]
 simp only [bl,de,h1,h2]
theorem FJ (k u:Int) (c n:Nat):(plN k u c n).length=n:=by simp [plN]
theorem vz {k u:Int} {R C:Nat} (hR:R≤32) (hC:C≤48) {r:List Part} {A:Pr} (hA:CL codes sigs f154 [.sl .part] r A)
  (i:Nat) (hi:i < R) (hn:A (hd f154 0) (Hc k u R C (plN k u C ((i+1) * C)) ((i+1:Nat):Int))) (j:Nat) (hj:j≤C):A (hd f154 1) (Hy k u R C (plN k u C (i * C+j)) i j):=by
 have hle:i * C≤32 * 48:=ja (by omega) hC
 refine hA.go (KM k u R C _ i j) (ah (fun h1=>?_) (fun h1=>?_))
 ·have h1:=oT h1
  refine ⟨⟨T5',trivial⟩,⟨by rw [FJ];simp only [ag,al];omega,trivial⟩,?_⟩
  rw [au (by omega),← CB k u (by omega:j < C)]
  exact vz hR hC hA i hi hn (j+1) (by omega)
 ·have h1:=oF h1
  have:j=C:=by omega
  subst this
  rw [au (by omega)]
  have e:i * j+j=(i+1) * j:=by rw [Nat.succ_mul]
  rw [e]
  exact hn
termination_by C - j
theorem yB {k u:Int} {R C:Nat} (hR:R≤32) (hC:C≤48) {r:List Part} (h:plN k u C (R * C)=r) {A:Pr} (hA:CL codes sigs f154 [.sl .part] r A)
  (i:Nat) (hi:i≤R):A (hd f154 0) (Hc k u R C (plN k u C (i * C)) i):=by
 refine hA.go (KN k u R C _ i) (ah (fun h1=>?_) (fun h1=>?_))
 ·have h1:=oT h1
  exact vz hR hC hA i (by omega) (yB hR hC h hA (i+1) (by omega)) 0 (by omega)
 ·have h1:=oF h1
  have:i=R:=by omega
  subst this
  exact ⟨⟨trivial,trivial⟩,h⟩
termination_by R - i
theorem LT {k u r c:Int} (h:cE ⟨r,c⟩=true):Pure prog 154 [⟨.int,k⟩,⟨.int,u⟩,⟨.int,r⟩,⟨.int,c⟩] [.sl .part] (cM k u r c):=by
 obtain ⟨h1,h2,h3,h4⟩:=gh.1 h
 simp only at h1 h2 h3 h4
 obtain ⟨R,rfl⟩:=cx (show 0≤r by omega)
 obtain ⟨C,rfl⟩:=cx (show 0≤c by omega)
 have e:cM k u R C=plN k u C (R * C):=by
  have e:(((R:Nat):Int) * ((C:Nat):Int)).toNat=R * C:=by rw [← ir];rfl
  unfold cM plN
  rw [e];rfl
 exact Pure.of_closed (C:=codes) (S:=sigs) mixed func154 (by kernel_rfl) (ac (by kernel_rfl)) fun A hA=>hA.go (t124 k u R C)
  (hA.row 9 179 .part (s':=Hc k u R C [] 0) (by kernel_rfl) (by kernel_rfl) (by
   have:=yB (k:=k) (u:=u) (R:=R) (C:=C) (by omega) (by omega) e.symm hA 0 (by omega)
   rw [fy] at this
   exact this))
end Go.Proofs.Zn

/- The parts by definition: contracts. (Own work.) -/
namespace Go.Proofs.Zn
open Go.Proofs.Tryz
open Go Go.VL
theorem sb {k u:Int} {b:Go.VL.Box} (h:cE b=true):(cM k u b.rows b.cols).length≤1536:=by
 have:=dH h
 rw [fS];omega
theorem yj {d:Deck} (hk:DeckOk d) {r:List Part} {A:Pr} (hA:CL codes sigs f88 [.sl .part] r A)
  (i:Nat) (hi:i≤d.borders.length - 1) (out:List Part) (ho:out.length≤12288+i) (h:out++(eL (d.borders.length - 1)).drop i=r):A (hd f88 2) (Mm d out i):=by
 have hl:=hk.lanes
 refine hA.go (t90c d out i) (ah (fun h1=>?_) (fun h1=>?_))
 ·rw [aA (by omega) (by omega)] at h1
  have h1:=oT h1
  have hil:i < (eL (d.borders.length - 1)).length:=by simp [eL];omega
  have ei:(eL (d.borders.length - 1))[i]=⟨3,(i:Int),0,0⟩:=by simp [eL]
  rw [dG hil,ei] at h
  refine ⟨⟨T5',trivial⟩,⟨by simp only [ag,al];omega,trivial⟩,?_⟩
  rw [au (by omega)]
  exact yj hk hA (i+1) (by omega) (out++[⟨3,(i:Int),0,0⟩]) (by simp;omega) (by rw [← h];simp)
 ·rw [aA (by omega) (by omega)] at h1
  have h1:=oF h1
  rw [dN (by simp [eL];omega),ed] at h
  exact ⟨⟨trivial,trivial⟩,h⟩
termination_by d.borders.length - i
theorem yk {d:Deck} (hk:DeckOk d) {r:List Part} {A:Pr} (hA:CL codes sigs f88 [.sl .part] r A)
  (i:Nat) (hi:i≤d.racks.length) (out:List Part) (ho:out.length≤6144+1536 * i) (h:out++(cZ 2 i ((aP d).drop i)++eL (d.borders.length - 1))=r):A (hd f88 1) (Jv d out i):=by
 have e2:=vA d
 have h5:=hk.racks
 refine hA.go (t90b d out i) (ah (fun h1=>?_) (fun h1=>?_))
 ·have h1:=oT h1
  have hil:i < d.racks.length:=by omega
  have hib:i < (aP d).length:=by omega
  have eb:(aP d)[i]=gl d.racks[i]:=by simp [aP]
  have hb:=hk.boxR _ (aO hib)
  have hpl:=sb (k:=2) (u:=i) hb
  rw [eb] at hb hpl
  rw [bb hil]
  rw [dG hib,eb,cZ] at h
  refine ⟨⟨⟨by omega,by omega⟩,trivial⟩,⟨⟨by omega,by omega⟩,trivial⟩,⟨T2',T2',T2',T2',trivial⟩,_,LT hb,⟨?_,trivial⟩,?_⟩
  ·have:(cM 2 i d.racks[i].rows d.racks[i].cols).length≤1536:=hpl
   show (out.length+(cM 2 i d.racks[i].rows d.racks[i].cols).length) * 33≤_
   omega
  ·show A (hd f88 1) (Jv d (out++cM 2 i d.racks[i].rows d.racks[i].cols) (w64 ((i:Int)+1)))
   rw [au (by omega)]
   refine yk hk hA (i+1) (by omega) _ ?_ ?_
   ·have:(cM 2 i d.racks[i].rows d.racks[i].cols).length≤1536:=hpl
    rw [ak];omega
   ·rw [← h,aZ,aZ];rfl
 ·have h1:=oF h1
  rw [dN (by omega)] at h
  exact yj hk hA 0 (by omega) out (by omega) h
termination_by d.racks.length - i
theorem yl {d:Deck} (hk:DeckOk d) {r:List Part} {A:Pr} (hA:CL codes sigs f88 [.sl .part] r A)
  (i:Nat) (hi:i≤d.plates.length) (out:List Part) (ho:out.length≤1536 * i) (h:out++lY d i=r):A (hd f88 0) (L90 d out i):=by
 have e1:=vB d
 have h5:=hk.plates
 refine hA.go (t90a d out i) (ah (fun h1=>?_) (fun h1=>?_))
 ·have h1:=oT h1
  have hil:i < d.plates.length:=by omega
  have hib:i < (aK d).length:=by omega
  have eb:(aK d)[i]=er d.plates[i]:=by simp [aK]
  have hb:=hk.boxP _ (aO hib)
  have hpl:=sb (k:=1) (u:=i) hb
  rw [eb] at hb hpl
  rw [bb hil]
  rw [lY,dG hib,eb,cZ] at h
  refine ⟨⟨⟨by omega,by omega⟩,trivial⟩,⟨⟨by omega,by omega⟩,trivial⟩,⟨T2',T2',T2',T2',trivial⟩,_,LT hb,⟨?_,trivial⟩,?_⟩
  ·have:(cM 1 i d.plates[i].rows d.plates[i].cols).length≤1536:=hpl
   show (out.length+(cM 1 i d.plates[i].rows d.plates[i].cols).length) * 33≤_
   omega
  ·show A (hd f88 0) (L90 d (out++cM 1 i d.plates[i].rows d.plates[i].cols) (w64 ((i:Int)+1)))
   rw [au (by omega)]
   refine yl hk hA (i+1) (by omega) _ ?_ ?_
   ·have:(cM 1 i d.plates[i].rows d.plates[i].cols).length≤1536:=hpl
    rw [ak];omega
   ·rw [← h,lY,aZ,aZ];rfl
 ·have h1:=oF h1
  rw [lY,dN (by omega)] at h
  exact yk hk hA 0 (by omega) out (by omega) h
termination_by d.plates.length - i
theorem c90 (d:Deck):Pure prog 88 [⟨.deck,d⟩] [.sl .part] (cN d):=
 Pure.of_closed (C:=codes) (S:=sigs) mixed func88 (by kernel_rfl) (ac (by kernel_rfl)) fun A hA=>hA.go (t90 d) (by
  generalize hr:cN d=r at hA ⊢
  unfold cN at hr
  refine ⟨⟨T5',trivial⟩,_,c89 d,ah (fun h=>?_) (fun h=>?_)⟩
  ·rw [h] at hr;exact ⟨q2,hr⟩
  ·rw [h,cF] at hr
   exact hA.row 3 179 .part (s':=L90 d [] 0) (by kernel_rfl) (by kernel_rfl) (yl (eR (by simpa using h)) hA 0 (by omega) [] (by simp) hr))
def lF:List Plate→Bool
 | []=>false
 | p::l=>bif decide ((p.start.length:Int) > 500) then true else lF l
def mF (d:Deck):Bool:=bif decide ((d.borders.length:Int) > 60) then true else bif decide ((d.plates.length:Int) > 8) then true else bif decide ((d.racks.length:Int) > 8) then true else lF d.plates
theorem DB {d:Deck} (hl:d.plates.length≤8) {r:Bool} {A:Pr} (hA:CL codes sigs f25 [.bool] r A)
  (i:Nat) (hi:i≤d.plates.length) (h:lF (d.plates.drop i)=r):A (hd f25 0) (L37 d i):=by
 refine hA.go (t37a d i) (ah (fun h1=>?_) (fun h1=>?_))
 ·have h1:=oT h1
  have hil:i < d.plates.length:=by omega
  rw [bb hil]
  rw [dG hil,lF] at h
  refine ⟨⟨⟨by omega,by omega⟩,trivial⟩,ah (fun h2=>?_) (fun h2=>?_)⟩
  ·rw [h2] at h;exact ⟨⟨trivial,trivial⟩,h⟩
  ·rw [h2] at h
   rw [au (by omega)]
   exact DB hl hA (i+1) (by omega) h
 ·have h1:=oF h1
  rw [dN (by omega)] at h
  exact ⟨⟨trivial,trivial⟩,h⟩
termination_by d.plates.length - i
theorem c37 (d:Deck):Pure prog 25 [⟨.deck,d⟩] [.bool] (mF d):=
 Pure.of_closed (C:=codes) (S:=sigs) mixed func25 (by kernel_rfl) (ac (by kernel_rfl)) fun A hA=>hA.go (t37 d) (by
  generalize hr:mF d=r at hA ⊢
  unfold mF at hr
  refine ah (fun h1=>?_) (fun h1=>ah (fun h2=>?_) (fun h2=>ah (fun h3=>?_) (fun h3=>?_)))
  ·rw [h1] at hr;exact ⟨q2,hr⟩
  ·rw [h1,h2] at hr;exact ⟨q2,hr⟩
  ·rw [h1,h2,h3] at hr;exact ⟨q2,hr⟩
  ·rw [h1,h2,h3] at hr
   have h2:=oF h2
   exact DB (by omega) hA 0 (by omega) hr)
end Go.Proofs.Zn

/- How many parts there are by definition; spans of parts: contracts. (Own work.) -/
namespace Go.Proofs.Zn
open Go.Proofs.Tryz
open Go Go.VL
def kL (k:Int):List Part→Int
 | []=>0
 | p::l=>(bif p.kind==k then 1 else 0)+kL k l
theorem kq (k:Int):∀ (l m:List Part),kL k (l++m)=kL k l+kL k m
 | [],m=>by simp [kL]
 | p::l,m=>by simp only [hB,kL,kq k l m];omega
theorem py {k:Int}:∀ {l:List Part},(∀ p∈l,p.kind=k)→kL k l=(l.length:Int)
 | [],_=>rfl
 | p :: l, h => by
   have h1:(p.kind==k)=true:=by simpa using h p (by simp)
   simp only [kL,h1,cT,ag,py (l:=l) fun q hq=>h q (by simp [hq])];omega
theorem iT {k:Int}:∀ {l:List Part},(∀ p∈l,p.kind≠k)→kL k l=0
 | [],_=>rfl
 | p :: l, h => by
   have h1:(p.kind==k)=false:=by simpa using h p (by simp)
   simp only [kL,h1,cF,iT (l:=l) fun q hq=>h q (by simp [hq])];omega
theorem Bd {d:Deck} (h:DeckOk d):kL 1 (dA d)=bk (aK d)∧kL 2 (dA d)=bk (aP d)∧kL 3 (dA d)=(d.borders.length:Int) - 1:=by
 have l1:=gK 1 (aK d) 0 h.boxP
 have l2:=gK 2 (aP d) 0 h.boxR
 have l3:=h.lanes
 have k3:∀ p∈eL (d.borders.length - 1),p.kind=3:=fun p hp=>by
  obtain ⟨n,_,rfl⟩:=aU.1 hp
  rfl
 unfold dA
 refine ⟨?_,?_,?_⟩
 ·rw [kq,kq,py fun p hp=>(fp hp).1,iT fun p hp=>by rw [(fp hp).1];decide,iT fun p hp=>by rw [k3 p hp];decide];omega
 ·rw [kq,kq,iT fun p hp=>by rw [(fp hp).1];decide,py fun p hp=>(fp hp).1,iT fun p hp=>by rw [k3 p hp];decide];omega
 ·rw [kq,kq,iT fun p hp=>by rw [(fp hp).1];decide,iT fun p hp=>by rw [(fp hp).1];decide,py k3]
  simp only [eL,bu,ju];omega
theorem nw {l:List Part} (hl:l.length≤100000) (hv:∀ p∈l,p.kind=1∨p.kind=2∨p.kind=3) {r:Int×Int×Int} {A:List Item→AS→Prop}
  (hA:Closed prog codes sigs f152 (bh [.int,.int,.int]) (fun y=>y=r) 0 A) (i:Nat) (hi:i≤l.length) (a b c e:Int) (hb:0≤b∧b≤i) (hc:0≤c∧c≤i) (he:0≤e∧e≤i)
  (h:(b+kL 1 (l.drop i),c+kL 2 (l.drop i),e+kL 3 (l.drop i))=r):A (hd f152 0) (Jy l a b c e i):=by
 refine hA.go (Kz l a b c e i) (ah (fun h1=>?_) (fun h1=>?_))
 ·have h1:=oT h1
  have hil:i < l.length:=by omega
  rw [bb hil]
  rw [dG hil] at h
  simp only [kL] at h
  refine ⟨⟨⟨by omega,by omega⟩,trivial⟩,?_⟩
  rcases hv l[i] (aO hil) with hk | hk | hk <;> rw [hk] at h ⊢
  ·refine ah (fun h=>absurd h (by decide)) (fun _=>ah (fun h=>absurd h (by decide)) (fun _=>ah (fun _=>?_) (fun h=>absurd h (by decide))))
   refine ah (fun h=>absurd h (by decide)) (fun _=>ah (fun h=>absurd h (by decide)) (fun _=>ah (fun _=>?_) (fun h=>absurd h (by decide))))
   rw [au (by omega),aA (by omega) (by omega)]
   refine nw hl hv hA (i+1) (by omega) a (b+1) c e (by omega) (by omega) (by omega) ?_
   rw [← h]
   refine Prod.ext ?_ (Prod.ext ?_ ?_)
   ·show b+1+_=b+(1+_);omega
   ·show c+_=c+(0+_);omega
   ·show e+_=e+(0+_);omega
  ·refine ah (fun h=>absurd h (by decide)) (fun _=>ah (fun _=>?_) (fun h=>absurd h (by decide)))
   refine ah (fun h=>absurd h (by decide)) (fun _=>ah (fun _=>?_) (fun h=>absurd h (by decide)))
   rw [au (by omega),aA (by omega) (by omega)]
   refine nw hl hv hA (i+1) (by omega) a b (c+1) e (by omega) (by omega) (by omega) ?_
   rw [← h]
   refine Prod.ext ?_ (Prod.ext ?_ ?_)
   ·show b+_=b+(0+_);omega
   ·show c+1+_=c+(1+_);omega
   ·show e+_=e+(0+_);omega
  ·refine ah (fun _=>?_) (fun h=>absurd h (by decide))
   refine ah (fun _=>?_) (fun h=>absurd h (by decide))
   rw [au (by omega),aA (by omega) (by omega)]
   refine nw hl hv hA (i+1) (by omega) a b c (e+1) (by omega) (by omega) (by omega) ?_
   rw [← h]
   refine Prod.ext ?_ (Prod.ext ?_ ?_)
   ·show b+_=b+(0+_);omega
   ·show c+_=c+(0+_);omega
   ·show e+1+_=e+(1+_);omega
 ·have h1:=oF h1
  rw [dN (by omega)] at h
  simp only [kL,iD] at h
  exact ⟨⟨T2',T2',T2'⟩,h⟩
termination_by l.length - i
theorem nR {d:Deck} (h:DeckOk d):(dA d).length≤800:=by
 have:=lI h
 have h1:=h.wells
 have h2:=h.tips
 have h3:=h.lanes
 omega
theorem GN (d:Deck):Pure prog 152 [⟨.deck,d⟩] [.int,.int,.int] (bv d):=
 Pure.of_closed (C:=codes) (S:=sigs) mixed func152 (by kernel_rfl) (ac (by kernel_rfl)) fun A hA=>hA.go (Ih d) (by
  refine ⟨⟨T5',trivial⟩,_,c90 d,?_⟩
  show A (hd f152 0) (Jy (cN d) 0 0 0 0 (0:Nat))
  cases h:dy d != 0
  ·have hk:DeckOk d:=eR (by simpa using h)
   have hp:cN d=dA d:=by unfold cN;rw [h];rfl
   have hf:=nR hk
   rw [hp]
   refine nw (by omega) (fun p hp=>?_) hA 0 (by omega) 0 0 0 0 (by omega) (by omega) (by omega) ?_
   ·rcases kT hp with ⟨h,_⟩ | ⟨h,_⟩ | ⟨h,_⟩
    ·exact .inl h
    ·exact .inr (.inl h)
    ·exact .inr (.inr h)
   ·obtain ⟨h1,h2,h3⟩:=Bd hk
    rw [bL,h1,h2,h3]
    unfold bv
    rw [h,cF]
    refine Prod.ext ?_ (Prod.ext ?_ ?_) <;> simp
  ·have hp:cN d=[]:=by unfold cN;rw [h];rfl
   rw [hp]
   refine nw (by simp) (fun p hp=>by cases hp) hA 0 (by omega) 0 0 0 0 (by omega) (by omega) (by omega) ?_
   unfold bv
   rw [h];rfl)
theorem c88 (r:Row) (c:Int):Pure prog 207 [⟨.row,r⟩,⟨.int,c⟩] [.flt] (II r c):=ofT func207 (t88 r c) (by kernel_rfl) (by kernel_rfl) fun _=>⟨T2',rfl⟩
theorem c87 {d:Deck} {p:Part} (hv:im d p) (h3:p.kind≠3):Pure prog 205 [⟨.deck,d⟩,⟨.part,p⟩] [.row] (uO d p):=
 ofT func205 (t87 d p) (by kernel_rfl) (by kernel_rfl) fun A=>by
  unfold uO
  refine cK (fun h=>?_) (fun h=>?_)
  ·have hk:p.kind=2:=by simpa using h
   rcases hv with ⟨h,_⟩ | ⟨_,h1,h2⟩ | ⟨h,_⟩
   ·omega
   ·exact ⟨⟨⟨h1,h2⟩,trivial⟩,q4,rfl⟩
   ·omega
  ·have hk:p.kind≠2:=by simpa using h
   rcases hv with ⟨_,h1,h2⟩ | ⟨h,_⟩ | ⟨h,_⟩
   ·exact ⟨⟨⟨h1,h2⟩,trivial⟩,q4,rfl⟩
   ·omega
   ·omega
theorem c44 {d:Deck} {p:Part} (hv:im d p) (h3:p.kind≠3):Pure prog 254 [⟨.deck,d⟩,⟨.part,p⟩] [.flt,.flt] (II (uO d p) p.col,(uO d p).reach):=
 ofT func254 (t44 d p) (by kernel_rfl) (by kernel_rfl) fun A=>by
  unfold uO
  refine ah (fun h=>?_) (fun h=>?_)
  ·have hk:p.kind=1:=by simpa using h
   rcases hv with ⟨_,h1,h2⟩ | ⟨h,_⟩ | ⟨h,_⟩
   ·refine ⟨⟨⟨h1,h2⟩,trivial⟩,⟨T2',T2'⟩,?_⟩
    rw [hk];rfl
   ·omega
   ·omega
  ·have hk:p.kind≠1:=by simpa using h
   rcases hv with ⟨h,_⟩ | ⟨h,h1,h2⟩ | ⟨h,_⟩
   ·omega
   ·refine ⟨⟨⟨h1,h2⟩,trivial⟩,⟨T2',T2'⟩,?_⟩
    rw [h];rfl
   ·omega
theorem c85 {d:Deck} {p:Part} (hv:im d p):Pure prog 127 [⟨.deck,d⟩,⟨.part,p⟩] [.span,.int] (gS d p):=
 ofT func127 (t85 d p) (by kernel_rfl) (by kernel_rfl) fun A=>by
  unfold gS
  refine cK (fun h=>⟨⟨T3',T2'⟩,rfl⟩) (fun h=>?_)
  have h3:p.kind≠3:=by simpa using h
  exact ⟨⟨T5',T5',trivial⟩,_,c87 hv h3,⟨q4,T2',trivial⟩,_,c88 _ _,⟨T2',T2',T2',trivial⟩,_,GR _ _ _,⟨T3',T2'⟩,rfl⟩
theorem c86 {d:Deck} {p:Part} (hv:im d p):Pure prog 209 [⟨.deck,d⟩,⟨.part,p⟩] [.span,.int] (gS d p):=
 ofT func209 (t86 d p) (by kernel_rfl) (by kernel_rfl) fun A=>by
  unfold gS
  refine cK (fun h=>⟨⟨T3',T2'⟩,rfl⟩) (fun h=>?_)
  have h3:p.kind≠3:=by simpa using h
  exact ⟨⟨T5',T5',trivial⟩,_,c44 hv h3,⟨T2',T2',T2',trivial⟩,_,GQ _ _ _,⟨T3',T2'⟩,(Cj _ _ _).symm⟩
end Go.Proofs.Zn

namespace Go.Proofs.Zn
open Go.Proofs.Tryz
open Go Go.VL
theorem t45 (d:Deck):@Eq _ (xS prog codes db f256 [.sl .span,.int] 300 [⟨.deck,d⟩]) (.need (U5∧True) (.callP 125 [⟨.deck,d⟩] [.int] fun (x:Int)=>bif x != 0 then .need (U2∧U2) (.ret ([],x)) else .stop (hd f256 0) (mkS 76 [(1,.ptr 0 0),(5,.ptr 1 0),(6,.ptr 2 0),(7,.clo (.func 289) [] [.ptr 0 0,.ptr 1 0,.ptr 2 0])] [(0,.box (dC d)),(1,.box [nS]),(2,.box [i64 0])] 3))):=by kernel_rfl
theorem t46 (d:Deck):@Eq _ (xS prog codes db f131 [.sl .span,.int] 300 [⟨.deck,d⟩]) (.need (U5∧True) (.callP 153 [⟨.deck,d⟩] [.int] fun (x:Int)=>bif x != 0 then .need (U2∧U2) (.ret ([],x)) else .need (U5∧True) (.callP 88 [⟨.deck,d⟩] [.sl .part] fun (x:List Part)=>.stop (hd f131 0) (mkS 40 [(1,.ptr 0 0),(5,nS),(6,.d (.sl .part x)),(7,i64 0)] [(0,.box (dC d))] 1)))):=by kernel_rfl
theorem t48 (d:Deck) (l:List Int):@Eq _ (xS prog codes db f135 [.sl .int,.int] 300 [⟨.deck,d⟩,⟨.sl .int,l⟩]) (.need (U5∧U2∧True) (.callP 210 [⟨.deck,d⟩,⟨.sl .int,l⟩] [.sl .span,.int] fun (x:List Span×Int)=>bif x.2 != 0 then .need (U2∧U2) (.ret ([],x.2)) else .need (U5∧U2∧True) (.callP 211 [⟨.deck,d⟩,⟨.sl .span,x.1⟩] [.sl .int] fun (x:List Int)=>.need (U2∧U2) (.ret (x,(0:Int)))))):=by kernel_rfl
theorem t53 (d:Deck) (a b:Int):@Eq _ (xS prog codes db f133 [.sl .int,.int] 300 [⟨.deck,d⟩,⟨.int,a⟩,⟨.int,b⟩]) (.need (U2∧U2∧True) (.need (U5∧U2∧True) (.callP 210 [⟨.deck,d⟩,Sigma.mk (.sl .int) [a,b]] [.sl .span,.int] fun (x:List Span×Int)=>bif x.2 != 0 then .need (U2∧U2) (.ret ([],x.2)) else .need (((0:Int)≤0∧(0:Int) < (x.1.length:Int))∧True) (.need (((0:Int)≤1∧(1:Int) < (x.1.length:Int))∧True) (.need (U3∧U3∧True) (.callP 212 [⟨.span,(x.1.getD 0 Ty.span.dflt)⟩,⟨.span,(x.1.getD 1 Ty.span.dflt)⟩] [.span] fun (x:Span)=>.need (U3∧True) (.need (U5∧U2∧True) (.callP 211 [⟨.deck,d⟩,Sigma.mk (.sl .span) [x]] [.sl .int] fun (x:List Int)=>.need (U2∧U2) (.ret (x,(0:Int))))))))))):=by kernel_rfl
theorem t55 (a b:List Int):@Eq _ (xS prog codes db f40 [.sl .int] 300 [⟨.sl .int,a⟩,⟨.sl .int,b⟩]) (.stop (hd f40 0) (mkS 27 [(0,.d (.sl .int a)),(1,.d (.sl .int b)),(5,nS),(6,i64 0)] [] 0)):=by kernel_rfl
theorem t50 (a b:List Int):@Eq _ (xS prog codes db f20 [.bool] 300 [⟨.sl .int,a⟩,⟨.sl .int,b⟩]) (bif (a.length:Int) != (b.length:Int) then .need U2 (.ret false) else .stop (hd f20 0) (mkS 26 [(0,.d (.sl .int a)),(1,.d (.sl .int b)),(5,i64 0)] [] 0)):=by kernel_rfl
theorem t94 (d:Deck) (k u n:Int):@Eq _ (xS prog codes db f290 [.sl .span,.int] 300 [⟨.deck,d⟩,⟨.int,k⟩,⟨.int,u⟩,⟨.int,n⟩]) (.stop (hd f290 0) (mkS 36 [(1,i64 k),(2,i64 u),(4,.ptr 0 0),(10,nS),(14,i64 n),(15,i64 0)] [(0,.box (dC d))] 1)):=by kernel_rfl
theorem t96 (d:Deck) (l:List Int):@Eq _ (xS prog codes db f210 [.sl .span,.int] 300 [⟨.deck,d⟩,⟨.sl .int,l⟩]) (.need (U5∧True) (.callP 256 [⟨.deck,d⟩] [.sl .span,.int] fun (x:List Span×Int)=>bif x.2 != 0 then .need (U2∧U2) (.ret ([],x.2)) else .stop (hd f210 0) (mkS 42 [(6,.d (.sl .span x.1)),(8,nS),(19,.d (.sl .int l)),(20,i64 (l.length:Int)),(21,i64 0)] [] 0))):=by kernel_rfl
theorem t97 (d:Deck) (l:List Span):@Eq _ (xS prog codes db f211 [.sl .int] 300 [⟨.deck,d⟩,⟨.sl .span,l⟩]) (.need (U5∧True) (.callP 84 [⟨.deck,d⟩] [.int,.int,.int] fun (x:Int×Int×Int)=>.need (U2∧True) (.callP 257 [⟨.sl .span,l⟩] [.sl .span] fun (x_1:List Span)=>.stop (hd f211 0) (mkS 44 [(5,i64 x.1),(6,i64 x.2.1),(8,nS),(19,.d (.sl .span x_1)),(20,i64 (x_1.length:Int)),(21,i64 0)] [] 0)))):=by kernel_rfl
theorem t129 (l:List Int):@Eq _ (xS prog codes db f81 [.sl .int] 300 [⟨.sl .int,l⟩]) (bif decide ((l.length:Int) < 2) then .need True (.need ((0+l.length) * 9≤35184372088832∧True) (.need U2 (.ret ([]++l)))) else .need ((2:Int)≠(0:Int)) (.need (((0:Int)≤0∧(0:Int)≤w64 (Int.tdiv (l.length:Int) (2:Int))∧w64 (Int.tdiv (l.length:Int) (2:Int))≤(l.length:Int))∧True) (.need (U2∧True) (.callP 81 [Sigma.mk (.sl .int) (List.drop 0 (List.take (w64 (Int.tdiv (l.length:Int) (2:Int))).toNat l))] [.sl .int] fun (x:List Int)=>.need (((0:Int)≤w64 (Int.tdiv (l.length:Int) (2:Int))∧w64 (Int.tdiv (l.length:Int) (2:Int))≤(l.length:Int))∧True) (.need (U2∧True) (.callP 81 [Sigma.mk (.sl .int) (List.drop (w64 (Int.tdiv (l.length:Int) (2:Int))).toNat l)] [.sl .int] fun (x_1:List Int)=>.need (U2∧U2∧True) (.callP 134 [⟨.sl .int,x⟩,⟨.sl .int,x_1⟩] [.sl .int] fun (x:List Int)=>.need U2 (.ret x)))))))):=by kernel_rfl
theorem Ik (a b:List Int):@Eq _ (xS prog codes db f134 [.sl .int] 300 [⟨.sl .int,a⟩,⟨.sl .int,b⟩]) (.need (U2∧U2∧U2∧U2∧U2∧True) (.callP 213 [⟨.sl .int,a⟩,⟨.sl .int,b⟩,⟨.bool,true⟩,⟨.bool,true⟩,⟨.bool,true⟩] [.sl .int] fun (x:List Int)=>.need U2 (.ret x))):=by kernel_rfl
theorem t156 (a b:List Int) (f s t:Bool):@Eq _ (xS prog codes db f213 [.sl .int] 300 [⟨.sl .int,a⟩,⟨.sl .int,b⟩,⟨.bool,f⟩,⟨.bool,s⟩,⟨.bool,t⟩]) (.stop (hd f213 0) (mkS 94 [(0,.d (.sl .int a)),(1,.d (.sl .int b)),(2,.d (.v (.bool f))),(3,.d (.v (.bool s))),(4,.d (.v (.bool t))),(11,.ptr 0 0),(12,.clo (.func 260) [] [.ptr 0 0]),(13,i64 0),(14,i64 0)] [(0,.box [nS])] 1)):=by kernel_rfl
end Go.Proofs.Zn

namespace Go.Proofs.Zn
open Go.Proofs.Tryz
open Go Go.VL
def L46 (d:Deck) (x:List Part) (out:List Span) (i:Int):AS:=mkS 40 [(1,.ptr 0 0),(5,.own 1 .span),(6,.d (.sl .part x)),(7,i64 i)] [(0,.box (cp d)),(1,.row 175 .span out)] 2
def L94 (d:Deck) (k u n:Int) (out:List Span) (c:Int):AS:=mkS 36 [(1,i64 k),(2,i64 u),(4,.ptr 0 0),(10,.own 1 .span),(14,i64 n),(15,i64 c)] [(0,.box (cp d)),(1,.row 175 .span out)] 2
def L96 (t:List Span) (l:List Int) (out:List Span) (i:Int):AS:=mkS 42 [(6,.d (.sl .span t)),(8,.own 0 .span),(19,.d (.sl .int l)),(20,i64 l.length),(21,i64 i)] [(0,.row 175 .span out)] 1
def L97 (a b:Int) (l:List Span) (out:List Int) (i:Int):AS:=mkS 44 [(5,i64 a),(6,i64 b),(8,.own 0 .int),(19,.d (.sl .span l)),(20,i64 l.length),(21,i64 i)] [(0,.row 3 .int out)] 1
def L50 (a b:List Int) (i:Int):AS:=mkS 26 [(0,.d (.sl .int a)),(1,.d (.sl .int b)),(5,i64 i)] [] 0
def ou (a b:List Int) (f s t:Bool) (out:List Int) (i k:Int):AS:=mkS 94 [(0,.d (.sl .int a)),(1,.d (.sl .int b)),(2,bZ f),(3,bZ s),(4,bZ t),(11,.ptr 0 0),(12,.clo (.func 260) [] [.ptr 0 0]),(13,i64 i),(14,i64 k)] [(0,.box [.own 1 .int]),(1,.row 3 .int out)] 2
theorem t46a (d:Deck) (x:List Part) (out:List Span) (i:Int):@Eq _ (xL prog codes db f131 [.sl .span,.int] 200 0 (L46 d x out i)) (bif decide (i < (x.length:Int)) then .need (((0:Int)≤i∧i < (x.length:Int))∧True) (.need (U5∧U5∧True) (.callP 209 [⟨.deck,d⟩,⟨.part,(x.getD i.toNat Ty.part.dflt)⟩] [.span,.int] fun (x_1:Span×Int)=>bif x_1.2 != 0 then .need (U2∧U2) (.ret ([],x_1.2)) else .need (U3∧True) (.need ((out.length+List.length [x_1.1]) * 17≤35184372088832∧True) (.stop (hd f131 0) (mkS 40 [(1,.ptr 0 0),(5,.own 1 .span),(6,.d (.sl .part x)),(7,i64 (w64 (i+1)))] [(0,.box (dC d)),(1,.row 175 .span (out++[x_1.1]))] 2))))) else .need (U2∧U2) (.ret (out,(0:Int)))):=by kernel_rfl
theorem t94a (d:Deck) (k u n:Int) (out:List Span) (c:Int):@Eq _ (xL prog codes db f290 [.sl .span,.int] 200 0 (L94 d k u n out c)) (bif decide (c < n) then .need (U5∧U5∧True) (.callP 127 [⟨.deck,d⟩,⟨.part,(Part.mk k u (0:Int) c)⟩] [.span,.int] fun (x:Span×Int)=>bif x.2 != 0 then .need (U2∧U2) (.ret ([],x.2)) else .need (U3∧True) (.need ((out.length+List.length [x.1]) * 17≤35184372088832∧True) (.stop (hd f290 0) (mkS 36 [(1,i64 k),(2,i64 u),(4,.ptr 0 0),(10,.own 1 .span),(14,i64 n),(15,i64 (w64 (c+1)))] [(0,.box (dC d)),(1,.row 175 .span (out++[x.1]))] 2)))) else .need (U2∧U2) (.ret (out,(0:Int)))):=by kernel_rfl
theorem t96a (t:List Span) (l:List Int) (out:List Span) (i:Int):@Eq _ (xL prog codes db f210 [.sl .span,.int] 200 0 (L96 t l out i)) (bif decide (i < (l.length:Int)) then .need (((0:Int)≤i∧i < (l.length:Int))∧True) (bif decide (l.getD i.toNat Ty.int.dflt < 0) then .need (U2∧U2) (.ret ([],(3:Int))) else bif decide (l.getD i.toNat Ty.int.dflt≥(t.length:Int)) then .need (U2∧U2) (.ret ([],(3:Int))) else .need (((0:Int)≤l.getD i.toNat Ty.int.dflt∧l.getD i.toNat Ty.int.dflt < (t.length:Int))∧True) (.need (U3∧True) (.need ((out.length+List.length [t.getD (l.getD i.toNat Ty.int.dflt).toNat Ty.span.dflt]) * 17≤35184372088832∧True) (.stop (hd f210 0) (mkS 42 [(6,.d (.sl .span t)),(8,.own 0 .span),(19,.d (.sl .int l)),(20,i64 (l.length:Int)),(21,i64 (w64 (i+1)))] [(0,.row 175 .span (out++[t.getD (l.getD i.toNat Ty.int.dflt).toNat Ty.span.dflt]))] 1))))) else .need (U2∧U2) (.ret (out,(0:Int)))):=by kernel_rfl
theorem t97a (a b:Int) (l:List Span) (out:List Int) (i:Int):@Eq _ (xL prog codes db f211 [.sl .int] 200 0 (L97 a b l out i)) (bif decide (i < (l.length:Int)) then .need (((0:Int)≤i∧i < (l.length:Int))∧True) (.stop (hd f211 1) (mkS 44 [(5,i64 a),(6,i64 b),(8,.own 0 .int),(10,.ptr 1 0),(11,i64 (l.getD i.toNat Ty.span.dflt).lo),(19,.d (.sl .span l)),(20,i64 (l.length:Int)),(21,i64 i)] [(0,.row 3 .int out),(1,.box [i64 (l.getD i.toNat Ty.span.dflt).lo,i64 (l.getD i.toNat Ty.span.dflt).hi])] 2)) else .need (U2∧True) (.callP 81 [⟨.sl .int,out⟩] [.sl .int] fun (x:List Int)=>.need U2 (.ret x))):=by kernel_rfl
theorem t50a (a b:List Int) (i:Int):@Eq _ (xL prog codes db f20 [.bool] 200 0 (L50 a b i)) (bif decide (i < (a.length:Int)) then .need (((0:Int)≤i∧i < (a.length:Int))∧True) (.need (((0:Int)≤i∧i < (b.length:Int))∧True) (bif a.getD i.toNat Ty.int.dflt != b.getD i.toNat Ty.int.dflt then .need U2 (.ret false) else .stop (hd f20 0) (mkS 26 [(0,.d (.sl .int a)),(1,.d (.sl .int b)),(5,i64 (w64 (i+1)))] [] 0))) else .need U2 (.ret true)):=by kernel_rfl
theorem Kp (n:Int) (xs:List Int):@Eq _ (yS prog codes db f260 2 200 [i64 n,bZ true,.ptr 0 0] [(0,.box [.own 1 .int]),(1,.row 3 .int xs)] 2) (.need (U2∧True) (.need ((xs.length+List.length [n]) * 9≤35184372088832∧True) (.need True (.ret (GRes.mk [] [(0,.box [.own 2 .int]),(2,.row 3 .int (xs++[n]))] 3))))):=by kernel_rfl
end Go.Proofs.Zn

/- Tables of spans: contracts. (Own work.) -/
namespace Go.Proofs.Zn
open Go.Proofs.Tryz
open Go Go.VL
def goS (out:List Span) (L:List (Span×Int)):List Span×Int:=bif dB L != 0 then ([],dB L) else (out++L.map Prod.fst,0)
theorem yM (out:List Span):goS out []=(out,0):=by simp [goS,dB]
theorem vH (out:List Span) (p:Span×Int) (L:List (Span×Int)):goS out (p::L)=bif p.2 != 0 then ([],p.2) else goS (out++[p.1]) L:=by
 unfold goS
 simp only [dB]
 cases h:p.2 != 0
 ·simp
 ·simp [h]
theorem oj (L:List (Span×Int)):goS [] L=gk L:=by simp [goS,gk]
theorem Dz {d:Deck} {l:List Part} (hv:∀ p∈l,im d p) (hl:l.length≤1000) {r:List Span×Int} {A:List Item→AS→Prop}
  (hA:Closed prog codes db f131 (bh [.sl .span,.int]) (fun y=>y=r) 0 A) (i:Nat) (hi:i≤l.length) (out:List Span) (ho:out.length=i) (h:goS out (ci d (l.drop i))=r) :
  A (hd f131 0) (L46 d l out i):=by
 refine hA.go (t46a d l out i) (ah (fun h1=>?_) (fun h1=>?_))
 ·have h1:=oT h1
  have hil:i < l.length:=by omega
  rw [bb hil]
  rw [dG hil,ci,bl,vH] at h
  refine ⟨⟨⟨by omega,by omega⟩,trivial⟩,⟨T5',T5',trivial⟩,_,c86 (hv _ (aO hil)),ah (fun h2=>?_) (fun h2=>⟨⟨T3',trivial⟩,⟨?_,trivial⟩,?_⟩)⟩
  ·rw [h2] at h;exact ⟨⟨T2',T2'⟩,h⟩
  ·simp only [ag,al];omega
  ·rw [h2,cF] at h
   rw [au (by omega)]
   exact Dz hv hl hA (i+1) (by omega) _ (by simp [ho]) h
 ·have h1:=oF h1
  rw [dN (by omega),ci,de,yM] at h
  exact ⟨⟨T2',T2'⟩,h⟩
termination_by l.length - i
theorem c46 (d:Deck):Pure prog 131 [⟨.deck,d⟩] [.sl .span,.int] (dz d):=
 Pure.of_closed (C:=codes) (S:=db) mixed func131 (by kernel_rfl) (ac (by kernel_rfl)) fun A hA=>hA.go (t46 d) (by
  generalize hr:dz d=r at hA ⊢
  unfold dz at hr
  refine ⟨⟨T5',trivial⟩,_,c89 d,ah (fun h=>?_) (fun h=>?_)⟩
  ·rw [h] at hr;exact ⟨⟨T2',T2'⟩,hr⟩
  ·rw [h,cF] at hr
   have hk:DeckOk d:=eR (by simpa using h)
   have hp:cN d=dA d:=by unfold cN;rw [h];rfl
   have hf:=nR hk
   refine ⟨⟨T5',trivial⟩,_,(c90 d).eq hp,?_⟩
   exact hA.row 5 175 .span (s':=L46 d (dA d) [] 0) (by kernel_rfl) (by kernel_rfl) (Dz (fun p hp=>kT hp) (by omega) hA 0 (by omega) [] rfl (by rw [bL,oj];exact hr)))
theorem Dv {d:Deck} {k u:Int} {n:Nat} (hv:∀ c,im d ⟨k,u,0,c⟩) (hn:n≤48) {r:List Span×Int} {A:List Item→AS→Prop}
  (hA:Closed prog codes db f290 (bh [.sl .span,.int]) (fun y=>y=r) 0 A) (i:Nat) (hi:i≤n) (out:List Span) (ho:out.length=i) (h:goS out (ci d ((cj k u n).drop i))=r) :
  A (hd f290 0) (L94 d k u n out i):=by
 have hc:(cj k u n).length=n:=by simp [cj]
 refine hA.go (t94a d k u n out i) (ah (fun h1=>?_) (fun h1=>?_))
 ·have h1:=oT h1
  have hil:i < (cj k u n).length:=by omega
  have ei:(cj k u n)[i]=⟨k,u,0,(i:Int)⟩:=by simp [cj]
  rw [dG hil,ei,ci,bl,vH] at h
  refine ⟨⟨T5',T5',trivial⟩,_,c85 (hv i),ah (fun h2=>?_) (fun h2=>⟨⟨T3',trivial⟩,⟨?_,trivial⟩,?_⟩)⟩
  ·rw [h2] at h;exact ⟨⟨T2',T2'⟩,h⟩
  ·simp only [ag,al];omega
  ·rw [h2,cF] at h
   rw [au (by omega)]
   exact Dv hv hn hA (i+1) (by omega) _ (by simp [ho]) h
 ·have h1:=oF h1
  rw [dN (by omega),ci,de,yM] at h
  exact ⟨⟨T2',T2'⟩,h⟩
termination_by n - i
theorem c94 {d:Deck} {k u:Int} {n:Nat} (hv:∀ c,im d ⟨k,u,0,c⟩) (hn:n≤48):Pure prog 290 [⟨.deck,d⟩,⟨.int,k⟩,⟨.int,u⟩,⟨.int,(n:Int)⟩] [.sl .span,.int] (gk (ci d (cj k u n))):=
 Pure.of_closed (C:=codes) (S:=db) mixed func290 (by kernel_rfl) (ac (by kernel_rfl)) fun A hA=>hA.go (t94 d k u n)
  (hA.row 10 175 .span (s':=L94 d k u n [] 0) (by kernel_rfl) (by kernel_rfl) (Dv hv hn hA 0 (by omega) [] rfl (by rw [bL,oj])))
theorem Dt {t:List Span} {l:List Int} (hl:l.length≤1000) {r:List Span×Int} {A:List Item→AS→Prop}
  (hA:Closed prog codes db f210 (bh [.sl .span,.int]) (fun y=>y=r) 0 A) (i:Nat) (hi:i≤l.length) (out:List Span) (ho:out.length=i) (h:kS t out (l.drop i)=r) :
  A (hd f210 0) (L96 t l out i):=by
 refine hA.go (t96a t l out i) (ah (fun h1=>?_) (fun h1=>?_))
 ·have h1:=oT h1
  have hil:i < l.length:=by omega
  rw [bb hil]
  rw [dG hil,kS] at h
  refine ⟨⟨⟨by omega,by omega⟩,trivial⟩,ah (fun h2=>?_) (fun h2=>ah (fun h3=>?_) (fun h3=>?_))⟩
  ·rw [h2] at h;exact ⟨⟨T2',T2'⟩,h⟩
  ·rw [h2,h3] at h;exact ⟨⟨T2',T2'⟩,h⟩
  ·rw [h2,h3,cF,cF] at h
   have h2:=oF h2
   have h3:=oF h3
   refine ⟨⟨⟨by omega,by omega⟩,trivial⟩,⟨T3',trivial⟩,⟨by simp only [ag,al];omega,trivial⟩,?_⟩
   rw [au (by omega)]
   exact Dt hl hA (i+1) (by omega) _ (by simp [ho]) h
 ·have h1:=oF h1
  rw [dN (by omega)] at h
  exact ⟨⟨T2',T2'⟩,h⟩
termination_by l.length - i
theorem Jc {d:Deck} {l:List Int} (h45:Pure prog 256 [⟨.deck,d⟩] [.sl .span,.int] (dz d)) (hl:l.length≤1000):Pure prog 210 [⟨.deck,d⟩,⟨.sl .int,l⟩] [.sl .span,.int] (dl d l):=
 Pure.of_closed (C:=codes) (S:=db) mixed func210 (by kernel_rfl) (ac (by kernel_rfl)) fun A hA=>hA.go (t96 d l) (by
  generalize hr:dl d l=r at hA ⊢
  unfold dl at hr
  refine ⟨⟨T5',trivial⟩,_,h45,ah (fun h=>?_) (fun h=>?_)⟩
  ·rw [h] at hr;exact ⟨⟨T2',T2'⟩,hr⟩
  ·rw [h,cF] at hr
   exact hA.row 8 175 .span (s':=L96 (dz d).1 l [] 0) (by kernel_rfl) (by kernel_rfl) (Dt hl hA 0 (by omega) [] rfl hr))
end Go.Proofs.Zn

namespace Go.Proofs.Zn
open Go.Proofs.Tryz
open Go Go.VL
def C93 (l out bad:Nat):AV:=.clo (.func 289) [] [.ptr l 0,.ptr out 0,.ptr bad 0]
def L47 (d:Deck) (x i:Int):AS:=mkS 45 [(1,.ptr 0 0),(3,.ptr 1 0),(4,.clo (.func 126) [] [.ptr 1 0,.ptr 0 0]),(16,.d (.sl .plate d.plates)),(17,i64 d.plates.length),(18,i64 i)] [(0,.box (cp d)),(1,.box [i64 x])] 2
def H93 (d:Deck) (bad:Int) (xs:List Span):Heap:=[(0,.box (cp d)),(1,.box [.own 3 .span]),(2,.box [i64 bad]),(3,.row 175 .span xs)]
def L45 (d:Deck) (bad:Int) (out:List Span):AS:=mkS 76 [(1,.ptr 0 0),(5,.ptr 1 0),(6,.ptr 2 0),(7,C93 0 1 2)] (H93 d bad out) 4
theorem t95 (d:Deck) (k u n e:Int):@Eq _ (yS prog codes eS f126 2 200 [i64 k,i64 u,i64 n,.ptr 0 0,.ptr 1 0] [(0,.box [i64 e]),(1,.box (cp d))] 2) (.stop (hd f126 0) (mkS 30 [(0,i64 k),(1,i64 u),(2,i64 n),(3,.ptr 0 0),(4,.ptr 1 0),(9,i64 0)] [(0,.box [i64 e]),(1,.box (dC d))] 2)):=by kernel_rfl
theorem t93 (d:Deck) (k u r n bad:Int) (xs:List Span):@Eq _ (yS prog codes eS f289 4 200 [i64 k,i64 u,i64 r,i64 n,.ptr 0 0,.ptr 1 0,.ptr 2 0] (H93 d bad xs) 4) (.need (U5∧U2∧U2∧U2∧True) (.callP 290 [⟨.deck,d⟩,⟨.int,k⟩,⟨.int,u⟩,⟨.int,n⟩] [.sl .span,.int] fun (x:List Span×Int)=>.stop (hd f289 0) (mkS 32 [(5,.ptr 1 0),(6,.ptr 2 0),(12,.d (.sl .span x.1)),(13,i64 x.2),(22,i64 r),(23,i64 0)] [(0,.box (dC d)),(1,.box [.own 3 .span]),(2,.box [i64 bad]),(3,.row 175 .span xs)] 4))):=by kernel_rfl
theorem t47a (d:Deck) (x i:Int):@Eq _ (xL prog codes eS f61 [.int] 200 0 (L47 d x i)) (bif decide (i < (d.plates.length:Int)) then .need (((0:Int)≤i∧i < (d.plates.length:Int))∧True) (.callG 126 [i64 1,i64 i,i64 (d.plates.getD i.toNat Ty.plate.dflt).cols,.ptr 0 0,.ptr 1 0] [(0,.box [i64 x]),(1,.box (dC d))] 2 [.int] (fun (a:Int)=>GRes.mk [.d (.v (.bool (a != 0)))] [(0,.box [i64 a]),(1,.box (dC d))] 2) fun (x:Int)=>bif x != 0 then .need U2 (.ret x) else .stop (hd f61 0) (mkS 45 [(1,.ptr 0 0),(3,.ptr 1 0),(4,.clo (.func 126) [] [.ptr 1 0,.ptr 0 0]),(16,.d (.sl .plate d.plates)),(17,i64 (d.plates.length:Int)),(18,i64 (w64 (i+1)))] [(0,.box (dC d)),(1,.box [i64 x])] 2)) else .stop (hd f61 1) (mkS 45 [(3,.ptr 0 0),(4,.clo (.func 126) [] [.ptr 0 0,.ptr 1 0]),(31,.d (.sl .rack d.racks)),(32,i64 (d.racks.length:Int)),(33,i64 0)] [(0,.box [i64 x]),(1,.box (dC d))] 2)):=by kernel_rfl
theorem t45a (d:Deck) (bad:Int) (out:List Span):@Eq _ (xL prog codes eS f256 [.sl .span,.int] 300 0 (L45 d bad out)) (.stop (hd f256 1) (mkS 76 [(1,.ptr 0 0),(5,.ptr 1 0),(6,.ptr 2 0),(7,.clo (.func 289) [] [.ptr 0 0,.ptr 1 0,.ptr 2 0]),(20,.d (.sl .plate d.plates)),(21,i64 (d.plates.length:Int)),(22,i64 0)] [(0,.box (dC d)),(1,.box [.own 3 .span]),(2,.box [i64 bad]),(3,.row 175 .span out)] 4)):=by kernel_rfl
end Go.Proofs.Zn

namespace Go.Proofs.Zn
open Go.Proofs.Tryz
open Go Go.VL
def L95 (d:Deck) (k u n e c:Int):AS:=mkS 30 [(0,i64 k),(1,i64 u),(2,i64 n),(3,.ptr 0 0),(4,.ptr 1 0),(9,i64 c)] [(0,.box [i64 e]),(1,.box (cp d))] 2
def Mk (d:Deck) (cs:List Span) (ce r bad:Int) (xs:List Span) (j:Int):AS:=mkS 32 [(5,.ptr 1 0),(6,.ptr 2 0),(12,.d (.sl .span cs)),(13,i64 ce),(22,i64 r),(23,i64 j)] (H93 d bad xs) 4
def Mj (d:Deck) (cs:List Span) (ce r bad:Int) (xs:List Span) (j:Int):AS:=mkS 32 [(5,.ptr 1 0),(6,.ptr 2 0),(12,.d (.sl .span cs)),(13,i64 ce),(22,i64 r),(23,i64 j)] [(0,.box (cp d)),(1,.box [.own 4 .span]),(2,.box [i64 bad]),(4,.row 175 .span xs)] 5
def Mq (d:Deck) (x i:Int):AS:=mkS 45 [(3,.ptr 0 0),(4,.clo (.func 126) [] [.ptr 0 0,.ptr 1 0]),(31,.d (.sl .rack d.racks)),(32,i64 d.racks.length),(33,i64 i)] [(0,.box [i64 x]),(1,.box (cp d))] 2
def Mt (d:Deck) (bad:Int) (out:List Span) (i:Int):AS:=mkS 76 [(1,.ptr 0 0),(5,.ptr 1 0),(6,.ptr 2 0),(7,C93 0 1 2),(20,.d (.sl .plate d.plates)),(21,i64 d.plates.length),(22,i64 i)] (H93 d bad out) 4
theorem t95a (d:Deck) (k u n e c:Int):@Eq _ (yL prog codes eS f126 2 200 0 (L95 d k u n e c)) (bif decide (c < n) then bif e==0 then .need (U5∧U5∧True) (.callP 127 [⟨.deck,d⟩,⟨.part,(Part.mk k u (0:Int) c)⟩] [.span,.int] fun (x:Span×Int)=>.stop (hd f126 0) (mkS 30 [(0,i64 k),(1,i64 u),(2,i64 n),(3,.ptr 0 0),(4,.ptr 1 0),(9,i64 (w64 (c+1)))] [(0,.box [i64 x.2]),(1,.box (dC d))] 2)) else .need True (.ret (GRes.mk [.d (.v (.bool (e != 0)))] [(0,.box [i64 e]),(1,.box (dC d))] 2)) else .need True (.ret (GRes.mk [.d (.v (.bool (e != 0)))] [(0,.box [i64 e]),(1,.box (dC d))] 2))):=by kernel_rfl
theorem t93a (d:Deck) (cs:List Span) (ce r bad:Int) (xs:List Span) (j:Int):@Eq _ (yL prog codes eS f289 4 200 0 (Mk d cs ce r bad xs j)) (bif decide (j < r) then .need ((xs.length+cs.length) * 17≤35184372088832∧True) (.stop (hd f289 0) (mkS 32 [(5,.ptr 1 0),(6,.ptr 2 0),(12,.d (.sl .span cs)),(13,i64 ce),(22,i64 r),(23,i64 (w64 (j+1)))] [(0,.box (dC d)),(1,.box [.own 4 .span]),(2,.box [i64 bad]),(4,.row 175 .span (xs++cs))] 5)) else .need True (.ret (GRes.mk [.d (.v (.bool (ce==0)))] [(0,.box (dC d)),(1,.box [.own 3 .span]),(2,.box [i64 ce]),(3,.row 175 .span xs)] 4))):=by kernel_rfl
theorem t93b (d:Deck) (cs:List Span) (ce r bad:Int) (xs:List Span) (j:Int):@Eq _ (yL prog codes eS f289 4 200 0 (Mj d cs ce r bad xs j)) (bif decide (j < r) then .need ((xs.length+cs.length) * 17≤35184372088832∧True) (.stop (hd f289 0) (mkS 32 [(5,.ptr 1 0),(6,.ptr 2 0),(12,.d (.sl .span cs)),(13,i64 ce),(22,i64 r),(23,i64 (w64 (j+1)))] [(0,.box (dC d)),(1,.box [.own 4 .span]),(2,.box [i64 bad]),(4,.row 175 .span (xs++cs))] 5)) else .need True (.ret (GRes.mk [.d (.v (.bool (ce==0)))] [(0,.box (dC d)),(1,.box [.own 4 .span]),(2,.box [i64 ce]),(4,.row 175 .span xs)] 5))):=by kernel_rfl
theorem t47b (d:Deck) (x i:Int):@Eq _ (xL prog codes eS f61 [.int] 200 1 (Mq d x i)) (bif decide (i < (d.racks.length:Int)) then .need (((0:Int)≤i∧i < (d.racks.length:Int))∧True) (.callG 126 [i64 2,i64 i,i64 (d.racks.getD i.toNat Ty.rack.dflt).cols,.ptr 0 0,.ptr 1 0] [(0,.box [i64 x]),(1,.box (dC d))] 2 [.int] (fun (a:Int)=>GRes.mk [.d (.v (.bool (a != 0)))] [(0,.box [i64 a]),(1,.box (dC d))] 2) fun (x:Int)=>bif x != 0 then .need U2 (.ret x) else .stop (hd f61 1) (mkS 45 [(3,.ptr 0 0),(4,.clo (.func 126) [] [.ptr 0 0,.ptr 1 0]),(31,.d (.sl .rack d.racks)),(32,i64 (d.racks.length:Int)),(33,i64 (w64 (i+1)))] [(0,.box [i64 x]),(1,.box (dC d))] 2)) else .need U2 (.ret (0:Int))):=by kernel_rfl
theorem t45b (d:Deck) (bad:Int) (out:List Span) (i:Int):@Eq _ (xL prog codes eS f256 [.sl .span,.int] 300 1 (Mt d bad out i)) (bif decide (i < (d.plates.length:Int)) then .need (((0:Int)≤i∧i < (d.plates.length:Int))∧True) (.callG 289 [i64 1,i64 i,i64 (d.plates.getD i.toNat Ty.plate.dflt).rows,i64 (d.plates.getD i.toNat Ty.plate.dflt).cols,.ptr 0 0,.ptr 1 0,.ptr 2 0] [(0,.box (dC d)),(1,.box [.own 3 .span]),(2,.box [i64 bad]),(3,.row 175 .span out)] 4 [.sl .span,.int] (fun (a:List Span×Int)=>GRes.mk [.d (.v (.bool (a.2==0)))] [(0,.box (dC d)),(1,.box [.own 4 .span]),(2,.box [i64 a.2]),(4,.row 175 .span a.1)] 5) fun (x:List Span×Int)=>bif !x.2==0 then bif x.2 != 0 then .need (U2∧U2) (.ret ([],x.2)) else .stop (hd f256 3) (mkS 76 [(5,.ptr 0 0),(59,i64 (w64 ((d.borders.length:Int) - (1:Int)))),(60,i64 0)] [(0,.box [.own 1 .span]),(1,.row 175 .span x.1)] 2) else .stop (hd f256 1) (mkS 76 [(1,.ptr 0 0),(5,.ptr 1 0),(6,.ptr 2 0),(7,.clo (.func 289) [] [.ptr 0 0,.ptr 1 0,.ptr 2 0]),(20,.d (.sl .plate d.plates)),(21,i64 (d.plates.length:Int)),(22,i64 (w64 (i+1)))] [(0,.box (dC d)),(1,.box [.own 3 .span]),(2,.box [i64 x.2]),(3,.row 175 .span x.1)] 4)) else .stop (hd f256 2) (mkS 76 [(1,.ptr 0 0),(5,.ptr 1 0),(6,.ptr 2 0),(7,.clo (.func 289) [] [.ptr 0 0,.ptr 1 0,.ptr 2 0]),(37,.d (.sl .rack d.racks)),(38,i64 (d.racks.length:Int)),(39,i64 0)] [(0,.box (dC d)),(1,.box [.own 3 .span]),(2,.box [i64 bad]),(3,.row 175 .span out)] 4)):=by kernel_rfl
end Go.Proofs.Zn

namespace Go.Proofs.Zn
open Go.Proofs.Tryz
open Go Go.VL
def Mr (d:Deck) (bad:Int) (out:List Span) (i:Int):AS:=mkS 76 [(1,.ptr 0 0),(5,.ptr 1 0),(6,.ptr 2 0),(7,C93 0 1 2),(37,.d (.sl .rack d.racks)),(38,i64 d.racks.length),(39,i64 i)] (H93 d bad out) 4
def Jw (n:Int) (out:List Span) (i:Int):AS:=mkS 76 [(5,.ptr 0 0),(59,i64 n),(60,i64 i)] [(0,.box [.own 1 .span]),(1,.row 175 .span out)] 2
theorem t45c (d:Deck) (bad:Int) (out:List Span) (i:Int):@Eq _ (xL prog codes eS f256 [.sl .span,.int] 300 2 (Mr d bad out i)) (bif decide (i < (d.racks.length:Int)) then .need (((0:Int)≤i∧i < (d.racks.length:Int))∧True) (.callG 289 [i64 2,i64 i,i64 (d.racks.getD i.toNat Ty.rack.dflt).rows,i64 (d.racks.getD i.toNat Ty.rack.dflt).cols,.ptr 0 0,.ptr 1 0,.ptr 2 0] [(0,.box (dC d)),(1,.box [.own 3 .span]),(2,.box [i64 bad]),(3,.row 175 .span out)] 4 [.sl .span,.int] (fun (a:List Span×Int)=>GRes.mk [.d (.v (.bool (a.2==0)))] [(0,.box (dC d)),(1,.box [.own 4 .span]),(2,.box [i64 a.2]),(4,.row 175 .span a.1)] 5) fun (x:List Span×Int)=>bif !x.2==0 then bif x.2 != 0 then .need (U2∧U2) (.ret ([],x.2)) else .stop (hd f256 3) (mkS 76 [(5,.ptr 0 0),(59,i64 (w64 ((d.borders.length:Int) - (1:Int)))),(60,i64 0)] [(0,.box [.own 1 .span]),(1,.row 175 .span x.1)] 2) else .stop (hd f256 2) (mkS 76 [(1,.ptr 0 0),(5,.ptr 1 0),(6,.ptr 2 0),(7,.clo (.func 289) [] [.ptr 0 0,.ptr 1 0,.ptr 2 0]),(37,.d (.sl .rack d.racks)),(38,i64 (d.racks.length:Int)),(39,i64 (w64 (i+1)))] [(0,.box (dC d)),(1,.box [.own 3 .span]),(2,.box [i64 x.2]),(3,.row 175 .span x.1)] 4)) else bif bad != 0 then .need (U2∧U2) (.ret ([],bad)) else .stop (hd f256 3) (mkS 76 [(5,.ptr 0 0),(59,i64 (w64 ((d.borders.length:Int) - (1:Int)))),(60,i64 0)] [(0,.box [.own 1 .span]),(1,.row 175 .span out)] 2)):=by kernel_rfl
theorem t45d (n:Int) (out:List Span) (i:Int):@Eq _ (xL prog codes eS f256 [.sl .span,.int] 300 3 (Jw n out i)) (bif decide (i < n) then .need (U3∧True) (.need ((out.length+List.length [Span.mk i i]) * 17≤35184372088832∧True) (.stop (hd f256 3) (mkS 76 [(5,.ptr 0 0),(59,i64 n),(60,i64 (w64 (i+1)))] [(0,.box [.own 1 .span]),(1,.row 175 .span (out++[Span.mk i i]))] 2))) else .need ((0:Int)≤0∧(0:Int)≤(out.length:Int)∧(out.length:Int)≤(out.length:Int)∧(out.length:Int)≤(out.length:Int)) (.need ((0+((out.length:Int).toNat - 0)≤out.length∧True)∧U2) (.ret (List.take ((out.length:Int).toNat - 0) (List.drop 0 out),(0:Int))))):=by kernel_rfl
theorem t47z (d:Deck):@Eq _ (xS prog codes eS f61 [.int] 300 [⟨.deck,d⟩]) (.need (U5∧True) (.callP 125 [⟨.deck,d⟩] [.int] fun (x:Int)=>bif x != 0 then .need U2 (.ret x) else .stop (hd f61 0) (mkS 45 [(1,.ptr 0 0),(3,.ptr 1 0),(4,.clo (.func 126) [] [.ptr 1 0,.ptr 0 0]),(16,.d (.sl .plate d.plates)),(17,i64 (d.plates.length:Int)),(18,i64 0)] [(0,.box (dC d)),(1,.box [i64 x])] 2))):=by kernel_rfl
theorem t45z (d:Deck):@Eq _ (xS prog codes eS f256 [.sl .span,.int] 300 [⟨.deck,d⟩]) (.need (U5∧True) (.callP 125 [⟨.deck,d⟩] [.int] fun (x:Int)=>bif x != 0 then .need (U2∧U2) (.ret ([],x)) else .stop (hd f256 0) (mkS 76 [(1,.ptr 0 0),(5,.ptr 1 0),(6,.ptr 2 0),(7,.clo (.func 289) [] [.ptr 0 0,.ptr 1 0,.ptr 2 0])] [(0,.box (dC d)),(1,.box [nS]),(2,.box [i64 0])] 3))):=by kernel_rfl
end Go.Proofs.Zn

/- The table of all parts as zone tells it; what is wrong with a deck: contracts. (Own work.) -/
namespace Go.Proofs.Zn
open Go.Proofs.Tryz
open Go Go.VL
def H95 (d:Deck) (e:Int):Heap:=[(0,.box [i64 e]),(1,.box (cp d))]
theorem Du {d:Deck} {k u:Int} {n:Nat} (hv:∀ c,im d ⟨k,u,0,c⟩) (hn:n≤48) {x:Int} {A:List Item→AS→Prop}
  (hA:Closed prog codes eS f126 (dX 2) (fun r'=>GRes.Le r' (xP (H95 d 0) x)) 2 A) (i:Nat) (hi:i≤n) (e:Int) (h:(bif e != 0 then e else dB (ci d ((cj k u n).drop i)))=x) :
  A (hd f126 0) (L95 d k u n e i):=by
 have hc:(cj k u n).length=n:=by simp [cj]
 have fin:e=x→Sat prog A (fun r'=>GRes.Le r' (xP (H95 d 0) x)) (.need True (.ret ⟨[.d (.v (.bool (e != 0)))],[(0,.box [i64 e]),(1,.box (cp d))],2⟩)):=fun e'=>by
  subst e'
  exact ⟨trivial,.of_eq rfl⟩
 refine hA.go (t95a d k u n e i) (ah (fun h1=>ah (fun h2=>?_) (fun h2=>?_)) (fun h1=>?_))
 ·have h1:=oT h1
  have he:e=0:=by simpa using h2
  have hil:i < (cj k u n).length:=by omega
  have ei:(cj k u n)[i]=⟨k,u,0,(i:Int)⟩:=by simp [cj]
  rw [dG hil,ei,ci,bl,he] at h
  refine ⟨⟨T5',T5',trivial⟩,_,c85 (hv i),?_⟩
  show A (hd f126 0) (L95 d k u n (gS d ⟨k,u,0,(i:Int)⟩).2 (w64 ((i:Int)+1)))
  rw [au (by omega)]
  refine Du hv hn hA (i+1) (by omega) _ ?_
  rw [← h];rfl
 ·refine fin ?_
  have:(e != 0)=true:=by simpa using h2
  rw [this] at h;exact h
 ·refine fin ?_
  have h1:=oF h1
  rw [dN (by omega)] at h
  cases he:e != 0
  ·rw [he] at h
   have:e=0:=by simpa using he
   rw [this,← h];rfl
  ·rw [he] at h;exact h
termination_by n - i
theorem c95 {d:Deck} {k u n:Int} (hv:∀ c,im d ⟨k,u,0,c⟩) (h0:0≤n) (hn:n≤48) :
  Gc prog 126 [i64 k,i64 u,i64 n,.ptr 0 0,.ptr 1 0] (H95 d 0) 2 (xP (H95 d 0) (dB (ci d (cj k u n.toNat)))):=by
 obtain ⟨N,rfl⟩:=cx h0
 refine Gc.of_closed (C:=codes) (S:=eS) mixed func126 (by kernel_rfl) (fun i T t xs hi h=>?_) fun A hA=>hA.go (t95 d k u N 0) ?_
 ·rcases (by omega:i=0∨i=1) with rfl | rfl
  ·have h:some (ABlk.box [i64 _])=some (ABlk.row T t xs):=h
   cases h
  ·have h:some (ABlk.box (cp d))=some (ABlk.row T t xs):=h
   cases h
 ·exact Du hv (by omega) hA 0 (by omega) 0 (by rw [bL];rfl)
theorem nF (d:Deck) {k u:Int} {b:Go.VL.Box} (h:cE b=true):dB (ci d (cM k u b.rows b.cols))=dB (ci d (cj k u b.cols.toNat)):=by
 obtain ⟨h1,h2,h3,h4⟩:=gh.1 h
 rw [qM d (by omega) (by omega)]
 obtain ⟨m,hm⟩:∃ m,b.rows.toNat=m+1:=⟨b.rows.toNat - 1,by omega⟩
 rw [hm,vM]
theorem nc (d:Deck) {k u:Int} {b:Go.VL.Box} (h:cE b=true):(ci d (cM k u b.rows b.cols)).map Prod.fst=(List.replicate b.rows.toNat ((ci d (cj k u b.cols.toNat)).map Prod.fst)).flatten:=by
 obtain ⟨h1,h2,h3,h4⟩:=gh.1 h
 rw [qM d (by omega) (by omega),List.map_flatten,List.map_replicate]
theorem Fb (L:List (Span×Int)):(gk L).2=dB L:=by
 unfold gk
 cases h:dB L != 0
 ·have:dB L=0:=by simpa using h
  rw [this];rfl
 ·rfl
theorem yN (out:List Span) (L M:List (Span×Int)):goS out (L++M)=bif dB L != 0 then ([],dB L) else goS (out++L.map Prod.fst) M:=by
 unfold goS
 rw [ly]
 cases h:dB L != 0
 ·simp
 ·simp [h]
theorem yo {d:Deck} (hk:DeckOk d) {r:Int} {A:Pr} (hA:CL codes eS f61 [.int] r A)
  (i:Nat) (hi:i≤d.racks.length) (h:dB (ci d (rY d i))=r):A (hd f61 1) (Mq d 0 i):=by
 have e2:=vA d
 have h5:=hk.racks
 refine hA.go (t47b d 0 i) (ah (fun h1=>?_) (fun h1=>?_))
 ·have h1:=oT h1
  have hil:i < d.racks.length:=by omega
  have hib:i < (aP d).length:=by omega
  have eb:(aP d)[i]=gl d.racks[i]:=by simp [aP]
  have hb:=hk.boxR _ (aO hib)
  rw [eb] at hb
  obtain ⟨b1,b2,b3,b4⟩:=gh.1 hb
  rw [bb hil]
  have hu:cZ 2 (i:Int) ((aP d).drop i)=cM 2 i (gl d.racks[i]).rows (gl d.racks[i]).cols++cZ 2 ((i+1:Nat):Int) ((aP d).drop (i+1)):=by
   rw [dG hib,eb,cZ];rfl
  rw [rY,hu,aZ,ci,bH,ly,← ci,← ci,nF d hb] at h
  refine ⟨⟨⟨by omega,by omega⟩,trivial⟩,dB (ci d (cj 2 i (gl d.racks[i]).cols.toNat)),c95 (fun c=>.inr (.inl ⟨rfl,by simp,by simp;omega⟩)) (n:=d.racks[i].cols) (by show 0≤(gl d.racks[i]).cols;omega) (by show (gl d.racks[i]).cols≤48;omega),ah (fun h2=>?_) (fun h2=>?_)⟩
  ·rw [h2] at h;exact ⟨T2',h⟩
  ·rw [h2,cF] at h
   have h0:dB (ci d (cj 2 i (gl d.racks[i]).cols.toNat))=0:=by simpa using h2
   rw [h0,au (by omega)]
   exact yo hk hA (i+1) (by omega) h
 ·have h1:=oF h1
  rw [rY,dN (by omega)] at h
  have h:dB (ci d (eL (d.borders.length - 1)))=r:=h
  rw [sO] at h
  exact ⟨T2',h⟩
termination_by d.racks.length - i
theorem yp {d:Deck} (hk:DeckOk d) {r:Int} {A:Pr} (hA:CL codes eS f61 [.int] r A)
  (i:Nat) (hi:i≤d.plates.length) (h:dB (ci d (lY d i))=r):A (hd f61 0) (L47 d 0 i):=by
 have e2:=vB d
 have h5:=hk.plates
 refine hA.go (t47a d 0 i) (ah (fun h1=>?_) (fun h1=>?_))
 ·have h1:=oT h1
  have hil:i < d.plates.length:=by omega
  have hib:i < (aK d).length:=by omega
  have eb:(aK d)[i]=er d.plates[i]:=by simp [aK]
  have hb:=hk.boxP _ (aO hib)
  rw [eb] at hb
  obtain ⟨b1,b2,b3,b4⟩:=gh.1 hb
  rw [bb hil]
  have hu:cZ 1 (i:Int) ((aK d).drop i)=cM 1 i (er d.plates[i]).rows (er d.plates[i]).cols++cZ 1 ((i+1:Nat):Int) ((aK d).drop (i+1)):=by
   rw [dG hib,eb,cZ];rfl
  rw [lY,hu,aZ,ci,bH,ly,← ci,← ci,nF d hb] at h
  refine ⟨⟨⟨by omega,by omega⟩,trivial⟩,dB (ci d (cj 1 i (er d.plates[i]).cols.toNat)),c95 (fun c=>.inl ⟨rfl,by simp,by simp;omega⟩) (n:=d.plates[i].cols) (by show 0≤(er d.plates[i]).cols;omega) (by show (er d.plates[i]).cols≤48;omega),ah (fun h2=>?_) (fun h2=>?_)⟩
  ·rw [h2] at h;exact ⟨T2',h⟩
  ·rw [h2,cF] at h
   have h0:dB (ci d (cj 1 i (er d.plates[i]).cols.toNat))=0:=by simpa using h2
   rw [h0,au (by omega)]
   exact yp hk hA (i+1) (by omega) h
 ·have h1:=oF h1
  rw [lY,dN (by omega)] at h
  exact yo hk hA 0 (by omega) h
termination_by d.plates.length - i
theorem c47 (d:Deck):Pure prog 61 [⟨.deck,d⟩] [.int] (dc d):=
 Pure.of_closed (C:=codes) (S:=eS) mixed func61 (by kernel_rfl) (ac (by kernel_rfl)) fun A hA=>hA.go (t47z d) (by
  generalize hr:dc d=r at hA ⊢
  unfold dc dz at hr
  refine ⟨⟨T5',trivial⟩,_,c92 d,ah (fun h=>?_) (fun h=>?_)⟩
  ·rw [h] at hr;exact ⟨T2',hr⟩
  ·rw [h,cF,Fb] at hr
   have h0:dy d=0:=by simpa using h
   rw [h0]
   exact yp (eR h0) hA 0 (by omega) hr)
end Go.Proofs.Zn

/- zone.Table: its contract. (Own work.) -/
namespace Go.Proofs.Zn
open Go.Proofs.Tryz
open Go Go.VL
theorem yg {d:Deck} {cs xs0 l:List Span} {ce bad bad0:Int} {R:Nat} (hR:R≤32) (hc:cs.length≤48) {A:List Item→AS→Prop}
  (hA:Closed prog codes eS f289 (dX 4) (fun r'=>GRes.Le r' (Cd (H93 d bad0 xs0) l ce)) 4 A) (j:Nat) (hj:j≤R) (xs:List Span) (hx:xs.length≤100000+48 * j)
  (h:xs++(List.replicate (R - j) cs).flatten=l):A (hd f289 0) (Mj d cs ce R bad xs j):=by
 refine hA.go (t93b d cs ce R bad xs j) (ah (fun h1=>?_) (fun h1=>?_))
 ·have h1:=oT h1
  refine ⟨⟨by omega,trivial⟩,?_⟩
  rw [au (by omega)]
  refine yg hR hc hA (j+1) (by omega) _ (by rw [ak];omega) ?_
  have e:R - j=(R - (j+1))+1:=by omega
  rw [e,cc,gB] at h
  rw [aZ];exact h
 ·have h1:=oF h1
  have e:R - j=0:=by omega
  rw [e] at h
  have h:xs=l:=by simpa using h
  subst h
  exact ⟨trivial,.of_eq rfl⟩
termination_by R - j
theorem c93 {d:Deck} {k u r n bad:Int} {xs:List Span} (hv:∀ c,im d ⟨k,u,0,c⟩) (hb:cE ⟨r,n⟩=true) (hx:xs.length≤90000) :
  Gc prog 289 [i64 k,i64 u,i64 r,i64 n,.ptr 0 0,.ptr 1 0,.ptr 2 0] (H93 d bad xs) 4
   (Cd (H93 d bad xs) (xs++(List.replicate r.toNat (gk (ci d (cj k u n.toNat))).1).flatten) (gk (ci d (cj k u n.toNat))).2):=by
 obtain ⟨h1,h2,h3,h4⟩:=gh.1 hb
 simp only at h1 h2 h3 h4
 obtain ⟨N,rfl⟩:=cx (show 0≤n by omega)
 obtain ⟨R,rfl⟩:=cx (show 0≤r by omega)
 have hc:(gk (ci d (cj k u N))).1.length≤48:=by
  unfold gk
  cases dB (ci d (cj k u N)) != 0
  ·simp [cj];omega
  ·simp
 refine Gc.of_closed (C:=codes) (S:=eS) mixed func289 (by kernel_rfl) (fun i T t ys hi h=>?_) fun A hA=>hA.go (t93 d k u R N bad xs) ⟨⟨T5',T2',T2',T2',trivial⟩,_,c94 hv (by omega),?_⟩
 ·rcases (by omega:i=0∨i=1∨i=2∨i=3) with rfl | rfl | rfl | rfl
  ·have h:some (ABlk.box (cp d))=some (ABlk.row T t ys):=h
   cases h
  ·have h:some (ABlk.box [.own 4 .span])=some (ABlk.row T t ys):=h
   cases h
  ·have h:some (ABlk.box [i64 _])=some (ABlk.row T t ys):=h
   cases h
  ·have h:(none:Option ABlk)=some (ABlk.row T t ys):=h
   cases h
 ·show A (hd f289 0) (Mk d (gk (ci d (cj k u N))).1 (gk (ci d (cj k u N))).2 R bad xs ((0:Nat):Int))
  refine hA.go (t93a d _ _ R bad xs ((0:Nat):Int)) (ah (fun h1=>⟨⟨by omega,trivial⟩,?_⟩) (fun h1=>absurd (oF h1) (by omega)))
  rw [au (by omega)]
  refine yg (bad:=bad) (by omega) hc hA (0+1) (by omega) _ (by rw [ak];omega) ?_
  obtain ⟨m,hm⟩:∃ m,R=m+1:=⟨R - 1,by omega⟩
  subst hm
  rw [aZ]
  simp only [aq,cc,gB,ct,Nat.add_sub_cancel]
theorem yq {n:Nat} (hn:n≤100) {r:List Span×Int} {A:Pr} (hA:CL codes eS f256 [.sl .span,.int] r A)
  (i:Nat) (hi:i≤n) (out:List Span) (ho:out.length≤100000+i) (h:(out++((List.range n).map fun i:Nat=>(⟨(i:Int),(i:Int)⟩:Span)).drop i,0)=r):A (hd f256 3) (Jw n out i):=by
 refine hA.go (t45d n out i) (ah (fun h1=>?_) (fun h1=>?_))
 ·have h1:=oT h1
  refine ⟨⟨T3',trivial⟩,⟨by simp only [ag,al];omega,trivial⟩,?_⟩
  rw [au (by omega)]
  refine yq hn hA (i+1) (by omega) _ (by simp;omega) ?_
  rw [dG (by simp;omega)] at h
  simpa using h
 ·have h1:=oF h1
  have e:i=n:=by omega
  subst e
  rw [dN (by simp),ed] at h
  refine ⟨⟨by omega,by omega,by omega,by omega⟩,⟨⟨by omega,trivial⟩,T2'⟩,?_⟩
  show (_,_)=r
  rw [← h]
  simp
termination_by n - i
theorem AZ (d:Deck) (n:Nat):(ci d (eL n)).map Prod.fst=(List.range n).map fun i:Nat=>(⟨(i:Int),(i:Int)⟩:Span):=by
 rw [sP,gA];rfl
theorem DA {d:Deck} (hk:DeckOk d) {r:List Span×Int} {A:Pr} (hA:CL codes eS f256 [.sl .span,.int] r A)
  (out:List Span) (ho:out.length≤100000) (h:goS out (ci d (eL (d.borders.length - 1)))=r):A (hd f256 3) (Jw (w64 ((d.borders.length:Int) - 1)) out 0):=by
 have hl:=hk.lanes
 have e:w64 ((d.borders.length:Int) - 1)=((d.borders.length - 1:Nat):Int):=by rw [aA (by omega) (by omega)];omega
 rw [e]
 refine yq (by omega) hA 0 (by omega) out (by omega) ?_
 rw [← h,goS,sO,AZ,bL];rfl
theorem yr {d:Deck} (hk:DeckOk d) {r:List Span×Int} {A:Pr} (hA:CL codes eS f256 [.sl .span,.int] r A)
  (i:Nat) (hi:i≤d.racks.length) (out:List Span) (ho:out.length≤10000+1536 * i) (h:goS out (ci d (rY d i))=r):A (hd f256 2) (Mr d 0 out i):=by
 have e2:=vA d
 have h5:=hk.racks
 refine hA.go (t45c d 0 out i) (ah (fun h1=>?_) (fun h1=>?_))
 ·have h1:=oT h1
  have hil:i < d.racks.length:=by omega
  have hib:i < (aP d).length:=by omega
  have eb:(aP d)[i]=gl d.racks[i]:=by simp [aP]
  have hb:=hk.boxR _ (aO hib)
  rw [eb] at hb
  rw [bb hil]
  have hu:cZ 2 (i:Int) ((aP d).drop i)=cM 2 i (gl d.racks[i]).rows (gl d.racks[i]).cols++cZ 2 ((i+1:Nat):Int) ((aP d).drop (i+1)):=by
   rw [dG hib,eb,cZ];rfl
  rw [rY,hu,aZ,ci,bH,yN,← ci,← ci,nF d hb,nc d hb] at h
  have hs:=dH hb
  have hpl:=fS 2 i (gl d.racks[i]).rows (gl d.racks[i]).cols
  have hml:((ci d (cM 2 i (gl d.racks[i]).rows (gl d.racks[i]).cols)).map Prod.fst).length≤1536:=by simp only [bu];rw [hpl];omega
  rw [nc d hb] at hml
  refine ⟨⟨⟨by omega,by omega⟩,trivial⟩,((out++(List.replicate d.racks[i].rows.toNat (gk (ci d (cj 2 i d.racks[i].cols.toNat))).1).flatten,(gk (ci d (cj 2 i d.racks[i].cols.toNat))).2):List Span×Int),c93 (d:=d) (k:=2) (u:=(i:Int)) (bad:=0) (xs:=out) (fun c=>.inr (.inl ⟨rfl,by simp,by simp;omega⟩)) (r:=d.racks[i].rows) (n:=d.racks[i].cols) hb (by omega),?_⟩
  cases h2:dB (ci d (cj 2 i (gl d.racks[i]).cols.toNat)) != 0
  ·have h0:dB (ci d (cj 2 i (gl d.racks[i]).cols.toNat))=0:=by simpa using h2
   rw [h2,cF] at h
   have et:gk (ci d (cj 2 i d.racks[i].cols.toNat))=((ci d (cj 2 i (gl d.racks[i]).cols.toNat)).map Prod.fst,0):=by
    show gk (ci d (cj 2 i (gl d.racks[i]).cols.toNat))=_
    unfold gk;rw [h2];rfl
   rw [et]
   rw [au (by omega)]
   exact yr hk hA (i+1) (by omega) _ (by rw [ak];exact bj (iw hml _) (by omega)) h
  ·rw [h2,cT] at h
   have et:gk (ci d (cj 2 i d.racks[i].cols.toNat))=([],dB (ci d (cj 2 i (gl d.racks[i]).cols.toNat))):=by
    show gk (ci d (cj 2 i (gl d.racks[i]).cols.toNat))=_
    unfold gk;rw [h2];rfl
   rw [et]
   have h3:(dB (ci d (cj 2 i (gl d.racks[i]).cols.toNat))==0)=false:=by simpa using h2
   refine ah (fun _=>ah (fun _=>⟨⟨T2',T2'⟩,h⟩) (fun h4=>?_)) (fun h4=>?_)
   ·exact absurd (h2.symm.trans h4) (by decide)
   ·have h4:(dB (ci d (cj 2 i (gl d.racks[i]).cols.toNat))==0)=true:=nf h4
    rw [h3] at h4;cases h4
 ·have h1:=oF h1
  rw [rY,dN (by omega)] at h
  exact ah (fun h=>by cases h) (fun _=>DA hk hA out (by omega) h)
termination_by d.racks.length - i
theorem yu {d:Deck} (hk:DeckOk d) {r:List Span×Int} {A:Pr} (hA:CL codes eS f256 [.sl .span,.int] r A)
  (i:Nat) (hi:i≤d.plates.length) (out:List Span) (ho:out.length≤1536 * i) (h:goS out (ci d (lY d i))=r):A (hd f256 1) (Mt d 0 out i):=by
 have e2:=vB d
 have h5:=hk.plates
 refine hA.go (t45b d 0 out i) (ah (fun h1=>?_) (fun h1=>?_))
 ·have h1:=oT h1
  have hil:i < d.plates.length:=by omega
  have hib:i < (aK d).length:=by omega
  have eb:(aK d)[i]=er d.plates[i]:=by simp [aK]
  have hb:=hk.boxP _ (aO hib)
  rw [eb] at hb
  rw [bb hil]
  have hu:cZ 1 (i:Int) ((aK d).drop i)=cM 1 i (er d.plates[i]).rows (er d.plates[i]).cols++cZ 1 ((i+1:Nat):Int) ((aK d).drop (i+1)):=by
   rw [dG hib,eb,cZ];rfl
  rw [lY,hu,aZ,ci,bH,yN,← ci,← ci,nF d hb,nc d hb] at h
  have hs:=dH hb
  have hpl:=fS 1 i (er d.plates[i]).rows (er d.plates[i]).cols
  have hml:((ci d (cM 1 i (er d.plates[i]).rows (er d.plates[i]).cols)).map Prod.fst).length≤1536:=by simp only [bu];rw [hpl];omega
  rw [nc d hb] at hml
  refine ⟨⟨⟨by omega,by omega⟩,trivial⟩,((out++(List.replicate d.plates[i].rows.toNat (gk (ci d (cj 1 i d.plates[i].cols.toNat))).1).flatten,(gk (ci d (cj 1 i d.plates[i].cols.toNat))).2):List Span×Int),c93 (d:=d) (k:=1) (u:=(i:Int)) (bad:=0) (xs:=out) (fun c=>.inl ⟨rfl,by simp,by simp;omega⟩) (r:=d.plates[i].rows) (n:=d.plates[i].cols) hb (by omega),?_⟩
  cases h2:dB (ci d (cj 1 i (er d.plates[i]).cols.toNat)) != 0
  ·have h0:dB (ci d (cj 1 i (er d.plates[i]).cols.toNat))=0:=by simpa using h2
   rw [h2,cF] at h
   have et:gk (ci d (cj 1 i d.plates[i].cols.toNat))=((ci d (cj 1 i (er d.plates[i]).cols.toNat)).map Prod.fst,0):=by
    show gk (ci d (cj 1 i (er d.plates[i]).cols.toNat))=_
    unfold gk;rw [h2];rfl
   rw [et]
   rw [au (by omega)]
   exact yu hk hA (i+1) (by omega) _ (by rw [ak];exact bj (iw hml _) (by omega)) h
  ·rw [h2,cT] at h
   have et:gk (ci d (cj 1 i d.plates[i].cols.toNat))=([],dB (ci d (cj 1 i (er d.plates[i]).cols.toNat))):=by
    show gk (ci d (cj 1 i (er d.plates[i]).cols.toNat))=_
    unfold gk;rw [h2];rfl
   rw [et]
   have h3:(dB (ci d (cj 1 i (er d.plates[i]).cols.toNat))==0)=false:=by simpa using h2
   refine ah (fun _=>ah (fun _=>⟨⟨T2',T2'⟩,h⟩) (fun h4=>?_)) (fun h4=>?_)
   ·exact absurd (h2.symm.trans h4) (by decide)
   ·have h4:(dB (ci d (cj 1 i (er d.plates[i]).cols.toNat))==0)=true:=nf h4
    rw [h3] at h4;cases h4
 ·have h1:=oF h1
  rw [lY,dN (by omega)] at h
  exact yr hk hA 0 (by omega) out (by have:=hk.plates;omega) h
termination_by d.plates.length - i
theorem c45 (d:Deck):Pure prog 256 [⟨.deck,d⟩] [.sl .span,.int] (dz d):=
 Pure.of_closed (C:=codes) (S:=eS) mixed func256 (by kernel_rfl) (ac (by kernel_rfl)) fun A hA=>hA.go (t45z d) (by
  generalize hr:dz d=r at hA ⊢
  unfold dz at hr
  refine ⟨⟨T5',trivial⟩,_,c92 d,ah (fun h=>?_) (fun h=>?_)⟩
  ·rw [h] at hr;exact ⟨⟨T2',T2'⟩,hr⟩
  ·rw [h,cF] at hr
   have hk:DeckOk d:=eR (by simpa using h)
   refine hA.boxrow 1 0 175 .span (s':=L45 d 0 []) (by kernel_rfl) (by kernel_rfl) (hA.go (t45a d 0 []) ?_)
   exact yu hk hA 0 (by omega) [] (by simp) (by rw [← hr,← oj];rfl))
theorem c96 {d:Deck} {l:List Int} (hl:l.length≤1000):Pure prog 210 [⟨.deck,d⟩,⟨.sl .int,l⟩] [.sl .span,.int] (dl d l):=Jc (c45 d) hl
end Go.Proofs.Zn

/- Sets by definition: contracts. (Own work.) -/
namespace Go.Proofs.Zn
open Go.Proofs.Tryz
open Go Go.VL
theorem Dy {a b:List Int} (he:a.length=b.length) (hl:a.length≤1000000) {r:Bool} {A:Pr} (hA:CL codes db f20 [.bool] r A)
  (i:Nat) (hi:i≤a.length) (h:decide (a.drop i=b.drop i)=r):A (hd f20 0) (L50 a b i):=by
 refine hA.go (t50a a b i) (ah (fun h1=>?_) (fun h1=>?_))
 ·have h1:=oT h1
  have hil:i < a.length:=by omega
  have hib:i < b.length:=by omega
  rw [bb hil,bb hib]
  rw [dG hil,dG hib] at h
  refine ⟨⟨⟨by omega,by omega⟩,trivial⟩,⟨⟨by omega,by omega⟩,trivial⟩,ah (fun h2=>?_) (fun h2=>?_)⟩
  ·have e:¬ a[i]=b[i]:=by simpa using h2
   rw [dF (fun h=>e (hU h).1)] at h
   exact ⟨⟨trivial,trivial⟩,h⟩
  ·have e:a[i]=b[i]:=by simpa using h2
   rw [e] at h
   rw [au (by omega)]
   exact Dy he hl hA (i+1) (by omega) (by rw [← h];exact cd.2 ⟨fun h=>by rw [h],fun h=>(hU h).2⟩)
 ·have h1:=oF h1
  rw [dN (by omega),dN (by omega)] at h
  exact ⟨⟨trivial,trivial⟩,h⟩
termination_by a.length - i
theorem c50 {a b:List Int} (hl:a.length≤1000000):Pure prog 20 [⟨.sl .int,a⟩,⟨.sl .int,b⟩] [.bool] (decide (a=b)):=
 Pure.of_closed (C:=codes) (S:=db) mixed func20 (by kernel_rfl) (ac (by kernel_rfl)) fun A hA=>hA.go (t50 a b) (by
  refine ah (fun h1=>?_) (fun h1=>?_)
  ·have h1:¬ (a.length:Int)=(b.length:Int):=by simpa using h1
   exact ⟨q2,(dF (fun h=>h1 (by rw [h]))).symm⟩
  ·have h1:(a.length:Int)=(b.length:Int):=by simpa using h1
   exact Dy (by omega) hl hA 0 (by omega) rfl)
end Go.Proofs.Zn

/- Sets by definition: in one of two, in both, in one alone: contracts. (Own work.) -/
namespace Go.Proofs.Zn
open Go.Proofs.Tryz
open Go Go.VL
theorem xo {n:Int} {xs:List Int} (hx:xs.length≤1000000):Gc prog 260 [i64 n,bZ true,.ptr 0 0] [(0,.box [.own 1 .int]),(1,.row 3 .int xs)] 2 ⟨[],[(0,.box [.own 2 .int]),(2,.row 3 .int (xs++[n]))],3⟩:=by
 refine Gc.of_closed (C:=codes) (S:=db) mixed func260 (by kernel_rfl) (fun i T t ys hi h=>?_) fun A hA=>hA.go (Kp n xs) ⟨⟨T2',trivial⟩,⟨by simp only [ag,al];omega,trivial⟩,trivial,.of_eq rfl⟩
 rcases (by omega:i=0∨i=1) with rfl | rfl
 ·have h:some (ABlk.box [.own 2 .int])=some (ABlk.row T t ys):=h
  cases h
 ·have h:(none:Option ABlk)=some (ABlk.row T t ys):=h
  cases h
end Go.Proofs.Zn

namespace Go.Proofs.Zn
open Go.Proofs.Tryz
open Go Go.VL
def oo:Cuts:=⟨[5,6,8,9,11],false⟩
theorem Kx (a b out:List Int) (i k:Int):@Eq (Out (bc [.sl .int])) (bf prog codes db f213 (bh [.sl .int]) 0 oo 300 true (hd f213 0) (ou a b true true true out i k)) (bif decide (i < (a.length:Int)) then .stop (rg f213 5) (mkS 94 [(0,.d (.sl .int a)),(1,.d (.sl .int b)),(2,.d (.v (.bool true))),(3,.d (.v (.bool true))),(4,.d (.v (.bool true))),(11,.ptr 0 0),(12,.clo (.func 260) [] [.ptr 0 0]),(13,i64 i),(14,i64 k)] [(0,.box [.own 1 .int]),(1,.row 3 .int out)] 2) else bif decide (k < (b.length:Int)) then .stop (rg f213 5) (mkS 94 [(0,.d (.sl .int a)),(1,.d (.sl .int b)),(2,.d (.v (.bool true))),(3,.d (.v (.bool true))),(4,.d (.v (.bool true))),(11,.ptr 0 0),(12,.clo (.func 260) [] [.ptr 0 0]),(13,i64 i),(14,i64 k)] [(0,.box [.own 1 .int]),(1,.row 3 .int out)] 2) else .need U2 (.ret out)):=by kernel_rfl
theorem Kw (a b out:List Int) (i k:Int):@Eq (Out (bc [.sl .int])) (bf prog codes db f213 (bh [.sl .int]) 0 oo 300 true (rg f213 5) (ou a b true true true out i k)) (bif k==(b.length:Int) then .stop (rg f213 6) (mkS 94 [(0,.d (.sl .int a)),(1,.d (.sl .int b)),(2,.d (.v (.bool true))),(3,.d (.v (.bool true))),(4,.d (.v (.bool true))),(11,.ptr 0 0),(12,.clo (.func 260) [] [.ptr 0 0]),(13,i64 i),(14,i64 k)] [(0,.box [.own 1 .int]),(1,.row 3 .int out)] 2) else bif decide (i < (a.length:Int)) then .need (((0:Int)≤i∧i < (a.length:Int))∧True) (.need (((0:Int)≤k∧k < (b.length:Int))∧True) (bif decide (a.getD i.toNat Ty.int.dflt < b.getD k.toNat Ty.int.dflt) then .stop (rg f213 6) (mkS 94 [(0,.d (.sl .int a)),(1,.d (.sl .int b)),(2,.d (.v (.bool true))),(3,.d (.v (.bool true))),(4,.d (.v (.bool true))),(11,.ptr 0 0),(12,.clo (.func 260) [] [.ptr 0 0]),(13,i64 i),(14,i64 k)] [(0,.box [.own 1 .int]),(1,.row 3 .int out)] 2) else .stop (rg f213 8) (mkS 94 [(0,.d (.sl .int a)),(1,.d (.sl .int b)),(2,.d (.v (.bool true))),(3,.d (.v (.bool true))),(4,.d (.v (.bool true))),(11,.ptr 0 0),(12,.clo (.func 260) [] [.ptr 0 0]),(13,i64 i),(14,i64 k)] [(0,.box [.own 1 .int]),(1,.row 3 .int out)] 2))) else .stop (rg f213 8) (mkS 94 [(0,.d (.sl .int a)),(1,.d (.sl .int b)),(2,.d (.v (.bool true))),(3,.d (.v (.bool true))),(4,.d (.v (.bool true))),(11,.ptr 0 0),(12,.clo (.func 260) [] [.ptr 0 0]),(13,i64 i),(14,i64 k)] [(0,.box [.own 1 .int]),(1,.row 3 .int out)] 2)):=by kernel_rfl
theorem Kv (a b out:List Int) (i k:Int):@Eq (Out (bc [.sl .int])) (bf prog codes db f213 (bh [.sl .int]) 0 oo 300 true (rg f213 6) (ou a b true true true out i k)) (.need (((0:Int)≤i∧i < (a.length:Int))∧True) (.callG 260 [i64 (a.getD i.toNat Ty.int.dflt),.d (.v (.bool true)),.ptr 0 0] [(0,.box [.own 1 .int]),(1,.row 3 .int out)] 2 [.sl .int] (fun (a:List Int)=>GRes.mk [] [(0,.box [.own 2 .int]),(2,.row 3 .int a)] 3) fun (x:List Int)=>.stop (hd f213 0) (mkS 94 [(0,.d (.sl .int a)),(1,.d (.sl .int b)),(2,.d (.v (.bool true))),(3,.d (.v (.bool true))),(4,.d (.v (.bool true))),(11,.ptr 0 0),(12,.clo (.func 260) [] [.ptr 0 0]),(13,i64 (w64 (i+1))),(14,i64 k)] [(0,.box [.own 1 .int]),(1,.row 3 .int x)] 2))):=by kernel_rfl
theorem Ku (a b out:List Int) (i k:Int):@Eq (Out (bc [.sl .int])) (bf prog codes db f213 (bh [.sl .int]) 0 oo 300 true (rg f213 8) (ou a b true true true out i k)) (bif i==(a.length:Int) then .stop (rg f213 9) (mkS 94 [(0,.d (.sl .int a)),(1,.d (.sl .int b)),(2,.d (.v (.bool true))),(3,.d (.v (.bool true))),(4,.d (.v (.bool true))),(11,.ptr 0 0),(12,.clo (.func 260) [] [.ptr 0 0]),(13,i64 i),(14,i64 k)] [(0,.box [.own 1 .int]),(1,.row 3 .int out)] 2) else .need (((0:Int)≤k∧k < (b.length:Int))∧True) (.need (((0:Int)≤i∧i < (a.length:Int))∧True) (bif decide (b.getD k.toNat Ty.int.dflt < a.getD i.toNat Ty.int.dflt) then .stop (rg f213 9) (mkS 94 [(0,.d (.sl .int a)),(1,.d (.sl .int b)),(2,.d (.v (.bool true))),(3,.d (.v (.bool true))),(4,.d (.v (.bool true))),(11,.ptr 0 0),(12,.clo (.func 260) [] [.ptr 0 0]),(13,i64 i),(14,i64 k)] [(0,.box [.own 1 .int]),(1,.row 3 .int out)] 2) else .stop (rg f213 11) (mkS 94 [(0,.d (.sl .int a)),(1,.d (.sl .int b)),(2,.d (.v (.bool true))),(3,.d (.v (.bool true))),(4,.d (.v (.bool true))),(11,.ptr 0 0),(12,.clo (.func 260) [] [.ptr 0 0]),(13,i64 i),(14,i64 k)] [(0,.box [.own 1 .int]),(1,.row 3 .int out)] 2)))):=by kernel_rfl
theorem Kt (a b out:List Int) (i k:Int):@Eq (Out (bc [.sl .int])) (bf prog codes db f213 (bh [.sl .int]) 0 oo 300 true (rg f213 9) (ou a b true true true out i k)) (.need (((0:Int)≤k∧k < (b.length:Int))∧True) (.callG 260 [i64 (b.getD k.toNat Ty.int.dflt),.d (.v (.bool true)),.ptr 0 0] [(0,.box [.own 1 .int]),(1,.row 3 .int out)] 2 [.sl .int] (fun (a:List Int)=>GRes.mk [] [(0,.box [.own 2 .int]),(2,.row 3 .int a)] 3) fun (x:List Int)=>.stop (hd f213 0) (mkS 94 [(0,.d (.sl .int a)),(1,.d (.sl .int b)),(2,.d (.v (.bool true))),(3,.d (.v (.bool true))),(4,.d (.v (.bool true))),(11,.ptr 0 0),(12,.clo (.func 260) [] [.ptr 0 0]),(13,i64 i),(14,i64 (w64 (k+1)))] [(0,.box [.own 1 .int]),(1,.row 3 .int x)] 2))):=by kernel_rfl
theorem Ks (a b out:List Int) (i k:Int):@Eq (Out (bc [.sl .int])) (bf prog codes db f213 (bh [.sl .int]) 0 oo 300 true (rg f213 11) (ou a b true true true out i k)) (.need (((0:Int)≤i∧i < (a.length:Int))∧True) (.callG 260 [i64 (a.getD i.toNat Ty.int.dflt),.d (.v (.bool true)),.ptr 0 0] [(0,.box [.own 1 .int]),(1,.row 3 .int out)] 2 [.sl .int] (fun (a:List Int)=>GRes.mk [] [(0,.box [.own 2 .int]),(2,.row 3 .int a)] 3) fun (x:List Int)=>.stop (hd f213 0) (mkS 94 [(0,.d (.sl .int a)),(1,.d (.sl .int b)),(2,.d (.v (.bool true))),(3,.d (.v (.bool true))),(4,.d (.v (.bool true))),(11,.ptr 0 0),(12,.clo (.func 260) [] [.ptr 0 0]),(13,i64 (w64 (i+1))),(14,i64 (w64 (k+1)))] [(0,.box [.own 1 .int]),(1,.row 3 .int x)] 2))):=by kernel_rfl
end Go.Proofs.Zn

/- Sets as the program makes them: along two, in one of two, the set of a list: contracts. (Own work.) -/
namespace Go.Proofs.Zn
open Go.Proofs.Tryz
open Go Go.VL
theorem zh {f s t:Bool} {x:Int} {a b:List Int} (h:b=[]∨∃ y m,b=y::m∧x < y):cG f s t (x::a) b=tk f x (cG f s t a b):=by
 rcases h with rfl | ⟨y,m,rfl,h⟩
 ·rw [cG]
 ·rw [cG,aF h]
theorem zg {f s t:Bool} {y:Int} {a b:List Int} (h:a=[]∨∃ x m,a=x::m∧y < x):cG f s t a (y::b)=tk s y (cG f s t a b):=by
 rcases h with rfl | ⟨x,m,rfl,h⟩
 ·rw [cG]
 ·rw [cG,aJ (by omega),aF h]
theorem EI {f s t:Bool} {x:Int} {a b:List Int}:cG f s t (x::a) (x::b)=tk t x (cG f s t a b):=by
 rw [cG,aJ (by omega),aJ (by omega)]
theorem pr {a b:List Int} (ha:a.length≤400000) (hb:b.length≤400000) {r:List Int} {A:Pr} (hA:CL codes db f213 [.sl .int] r A)
  (i k:Nat) (hi:i≤a.length) (hk:k≤b.length) (out:List Int) (ho:out.length≤i+k) (h:out++cG true true true (a.drop i) (b.drop k)=r):A (hd f213 0) (ou a b true true true out i k):=by
 have h6:∀ hil:i < a.length,(out++[a[i]])++cG true true true (a.drop (i+1)) (b.drop k)=r→A (rg f213 6) (ou a b true true true out i k):=fun hil e=>by
  refine hA.go (Kv a b out i k) ?_
  rw [bb hil]
  refine ⟨⟨⟨by omega,by omega⟩,trivial⟩,(out++[a[i]]:List Int),xo (by omega),?_⟩
  rw [au (by omega)]
  exact pr ha hb hA (i+1) k (by omega) hk _ (by simp;omega) e
 have h9:∀ hkb:k < b.length,(out++[b[k]])++cG true true true (a.drop i) (b.drop (k+1))=r→A (rg f213 9) (ou a b true true true out i k):=fun hkb e=>by
  refine hA.go (Kt a b out i k) ?_
  rw [bb hkb]
  refine ⟨⟨⟨by omega,by omega⟩,trivial⟩,(out++[b[k]]:List Int),xo (by omega),?_⟩
  rw [au (by omega)]
  exact pr ha hb hA i (k+1) hi (by omega) _ (by simp;omega) e
 have h11:∀ (hil:i < a.length) (_:k < b.length),(out++[a[i]])++cG true true true (a.drop (i+1)) (b.drop (k+1))=r→A (rg f213 11) (ou a b true true true out i k):=fun hil hkb e=>by
  refine hA.go (Ks a b out i k) ?_
  rw [bb hil]
  refine ⟨⟨⟨by omega,by omega⟩,trivial⟩,(out++[a[i]]:List Int),xo (by omega),?_⟩
  rw [au (by omega),au (by omega)]
  exact pr ha hb hA (i+1) (k+1) (by omega) (by omega) _ (by simp;omega) e
 have h8:k < b.length→(∀ hil:i < a.length,∀ hkb:k < b.length,¬ a[i] < b[k])→A (rg f213 8) (ou a b true true true out i k):=fun hkb hc=>by
  refine hA.go (Ku a b out i k) (ah (fun c=>?_) (fun c=>?_))
  ·have c:(i:Int)=(a.length:Int):=by simpa using c
   refine h9 hkb ?_
   rw [dN (by omega:a.length≤i),dG hkb,zg (.inl rfl)] at h
   rw [dN (by omega:a.length≤i),← h];simp [tk]
  ·have c:¬ (i:Int)=(a.length:Int):=by simpa using c
   have hil:i < a.length:=by omega
   rw [bb hil,bb hkb]
   refine ⟨⟨⟨by omega,by omega⟩,trivial⟩,⟨⟨by omega,by omega⟩,trivial⟩,ah (fun c2=>?_) (fun c2=>?_)⟩
   ·have c2:=oT c2
    refine h9 hkb ?_
    rw [dG hil,dG hkb,zg (.inr ⟨_,_,rfl,c2⟩)] at h
    rw [← h,dG hil];simp [tk]
   ·have c2:=oF c2
    have e:a[i]=b[k]:=by have:=hc hil hkb;omega
    refine h11 hil hkb ?_
    rw [dG hil,dG hkb,← e,EI] at h
    rw [← h];simp [tk]
 have h5:i < a.length∨k < b.length→A (rg f213 5) (ou a b true true true out i k):=fun hik=>by
  refine hA.go (Kw a b out i k) (ah (fun c=>?_) (fun c=>?_))
  ·have c:(k:Int)=(b.length:Int):=by simpa using c
   have hil:i < a.length:=by omega
   refine h6 hil ?_
   rw [dN (by omega:b.length≤k),dG hil,zh (.inl rfl)] at h
   rw [dN (by omega:b.length≤k),← h];simp [tk]
  ·have c:¬ (k:Int)=(b.length:Int):=by simpa using c
   have hkb:k < b.length:=by omega
   refine ah (fun c1=>?_) (fun c1=>?_)
   ·have hil:i < a.length:=by have:=oT c1;omega
    rw [bb hil,bb hkb]
    refine ⟨⟨⟨by omega,by omega⟩,trivial⟩,⟨⟨by omega,by omega⟩,trivial⟩,ah (fun c2=>?_) (fun c2=>?_)⟩
    ·have c2:=oT c2
     refine h6 hil ?_
     rw [dG hil,dG hkb,zh (.inr ⟨_,_,rfl,c2⟩)] at h
     rw [← h,dG hkb];simp [tk]
    ·have c2:=oF c2
     exact h8 hkb (fun _ _=>c2)
   ·have c1:=oF c1
    exact h8 hkb (fun hil=>absurd hil (by omega))
 refine hA.go (Kx a b out i k) (ah (fun c=>?_) (fun c=>ah (fun c2=>?_) (fun c2=>?_)))
 ·exact h5 (.inl (by have:=oT c;omega))
 ·exact h5 (.inr (by have:=oT c2;omega))
 ·have c:=oF c
  have c2:=oF c2
  rw [dN (by omega),dN (by omega),cG,ed] at h
  exact ⟨T2',h⟩
termination_by a.length - i+(b.length - k)
theorem Ev {a b:List Int} (ha:a.length≤400000) (hb:b.length≤400000):Pure prog 213 [⟨.sl .int,a⟩,⟨.sl .int,b⟩,⟨.bool,true⟩,⟨.bool,true⟩,⟨.bool,true⟩] [.sl .int] (cG true true true a b):=
 Pure.of_closed (C:=codes) (S:=db) mixed func213 (by kernel_rfl) (ac (by kernel_rfl)) fun A hA=>hA.go (t156 a b true true true)
  (hA.boxrow 0 0 3 .int (s':=ou a b true true true [] 0 0) (by kernel_rfl) (by kernel_rfl) (pr ha hb hA 0 0 (by omega) (by omega) [] (by simp) rfl))
theorem uo {a b:List Int} (ha:a.length≤400000) (hb:b.length≤400000):Pure prog 134 [⟨.sl .int,a⟩,⟨.sl .int,b⟩] [.sl .int] (cG true true true a b):=
 FS func134 (Ik a b) (by kernel_rfl) (by kernel_rfl) fun _=>⟨⟨T2',T2',T2',T2',T2',trivial⟩,_,Ev ha hb,T2',rfl⟩
theorem xI (l:List Int):(gj l).length≤l.length:=by have:=gR (a:=[]) (b:=l);simpa using this
theorem xq {l:List Int} (hl:l.length≤100000):Pure prog 81 [⟨.sl .int,l⟩] [.sl .int] (gj l):=
 FS func81 (t129 l) (by kernel_rfl) (by kernel_rfl) fun _=>by
  refine ah (fun c=>?_) (fun c=>?_)
  ·have c:=oT c
   refine ⟨trivial,⟨by omega,trivial⟩,T2',?_⟩
   match l,c with
   | [],_=>rfl
   | [n],_=>rfl
   | _::_::_,c=>simp only [ag] at c;omega
  ·have c:=oF c
   have hd:Int.tdiv (l.length:Int) 2=((l.length / 2:Nat):Int):=by
    rw [Int.tdiv_eq_ediv_of_nonneg (by omega)];rfl
   have e:w64 (Int.tdiv (l.length:Int) 2)=((l.length / 2:Nat):Int):=by rw [hd,aA (by omega) (by omega)]
   rw [e]
   have e1:List.drop 0 (List.take ((l.length / 2:Nat):Int).toNat l)=l.take (l.length / 2):=by rw [bL,aq]
   have e2:List.drop ((l.length / 2:Nat):Int).toNat l=l.drop (l.length / 2):=by rw [aq]
   rw [e1,e2]
   have l1:=xI (l.take (l.length / 2))
   have l2:=xI (l.drop (l.length / 2))
   rw [aE] at l1
   rw [aQ] at l2
   refine ⟨by decide,⟨⟨by omega,by omega,by omega⟩,trivial⟩,⟨T2',trivial⟩,_,xq (l:=l.take (l.length / 2)) (by rw [aE];omega),⟨⟨by omega,by omega⟩,trivial⟩,⟨T2',trivial⟩,_,xq (l:=l.drop (l.length / 2)) (by rw [aQ];omega),⟨T2',T2',trivial⟩,_,uo (by omega) (by omega),T2',?_⟩
   show cG true true true (gj (l.take (l.length / 2))) (gj (l.drop (l.length / 2)))=gj l
   rw [kx (jN _) (jN _),← Ft,List.take_append_drop]
termination_by l.length
decreasing_by
 all_goals simp only [aE,aQ];omega
end Go.Proofs.Zn

namespace Go.Proofs.Zn
open Go.Proofs.Tryz
open Go Go.VL
def Mi (a b:Int) (l:List Span) (s:Span) (out:List Int) (i k:Int):AS:=mkS 44 [(5,i64 a),(6,i64 b),(8,.own 0 .int),(10,.ptr 1 0),(11,i64 k),(19,.d (.sl .span l)),(20,i64 l.length),(21,i64 i)] [(0,.row 3 .int out),(1,.box [i64 s.lo,i64 s.hi])] 2
theorem t97b (a b:Int) (l:List Span) (s:Span) (out:List Int) (i k:Int):@Eq _ (xL prog codes db f211 [.sl .int] 200 1 (Mi a b l s out i k)) (bif decide (k≤s.hi) then .need (U2∧True) (.need ((out.length+List.length [w64 (w64 (a+b)+k)]) * 9≤35184372088832∧True) (.stop (hd f211 1) (mkS 44 [(5,i64 a),(6,i64 b),(8,.own 0 .int),(10,.ptr 1 0),(11,i64 (w64 (k+1))),(19,.d (.sl .span l)),(20,i64 (l.length:Int)),(21,i64 i)] [(0,.row 3 .int (out++[w64 (w64 (a+b)+k)])),(1,.box [i64 s.lo,i64 s.hi])] 2))) else .stop (hd f211 0) (mkS 44 [(5,i64 a),(6,i64 b),(8,.own 0 .int),(19,.d (.sl .span l)),(20,i64 (l.length:Int)),(21,i64 (w64 (i+1)))] [(0,.row 3 .int out)] 1)):=by kernel_rfl
end Go.Proofs.Zn

namespace Go.Proofs.Sp
open Go.Proofs.Tryz
open Go Go.VL
theorem t75 (a:Span):@Eq _ (xS prog codes sigs f258 [.bool] 60 [⟨.span,a⟩]) (.need U2 (.ret (decide (a.lo > a.hi)))):=by kernel_rfl
theorem t76:@Eq _ (xS prog codes sigs f259 [.span] 60 []) (.need U3 (.ret (Span.mk (0:Int) (-1:Int)))):=by kernel_rfl
theorem t21 (a b:Span):@Eq _ (xS prog codes sigs f212 [.span] 100 [⟨.span,a⟩,⟨.span,b⟩]) (.need (U3∧True) (.callP 258 [⟨.span,a⟩] [.bool] fun x=>bif x then .need (U3∧True) (.callP 258 [⟨.span,b⟩] [.bool] fun x=>bif x then .need True (.callP 259 [] [.span] fun x=>.need U3 (.ret x)) else .need (U3∧True) (.callP 258 [⟨.span,a⟩] [.bool] fun x=>bif x then .need U3 (.ret b) else .need (U3∧True) (.callP 258 [⟨.span,b⟩] [.bool] fun x=>bif x then .need U3 (.ret a) else .need U3 (.ret (Span.mk (if b.lo < a.lo then b.lo else a.lo) (if b.hi > a.hi then b.hi else a.hi)))))) else .need (U3∧True) (.callP 258 [⟨.span,a⟩] [.bool] fun x=>bif x then .need U3 (.ret b) else .need (U3∧True) (.callP 258 [⟨.span,b⟩] [.bool] fun x=>bif x then .need U3 (.ret a) else .need U3 (.ret (Span.mk (if b.lo < a.lo then b.lo else a.lo) (if b.hi > a.hi then b.hi else a.hi))))))):=by kernel_rfl
theorem t82 (a b:Span):@Eq _ (xS prog codes sigs f295 [.bool] 100 [⟨.span,a⟩,⟨.span,b⟩]) (bif decide (b.lo≤a.hi) then .need U2 (.ret true) else .need U2 (.ret (w64 (b.lo - (1:Int))==a.hi))):=by kernel_rfl
end Go.Proofs.Sp

/- The spans' small functions: what they compute. (Own work.) -/
namespace Go.Proofs.Sp
open Go.Proofs.Tryz
open Go Go.VL
theorem ah {α:Type} {P:Program} {A:List Item→AS→Prop} {R0:α→Prop} {b:Bool} {S T:Out α} (h1:b=true→Sat P A R0 S) (h0:b=false→Sat P A R0 T):Sat P A R0 (bif b then S else T):=by
 cases b
 ·exact h0 rfl
 ·exact h1 rfl
abbrev T3:True∧True∧True:=⟨trivial,trivial,trivial⟩
def emp (a:Span):Bool:=decide (a.lo > a.hi)
def nil:Span:=⟨0,-1⟩
def over (a b:Span):Span:=⟨if b.lo < a.lo then b.lo else a.lo,if b.hi > a.hi then b.hi else a.hi⟩
def kj (a b:Span):Span:=bif emp a then (bif emp b then nil else b) else bif emp b then a else over a b
theorem c75 (a:Span):Pure prog 258 [⟨.span,a⟩] [.bool] (emp a):=ofT func258 (t75 a) (by kernel_rfl) (by kernel_rfl) fun _=>⟨q2,rfl⟩
theorem c76:Pure prog 259 [] [.span] nil:=ofT func259 t76 (by kernel_rfl) (by kernel_rfl) fun _=>⟨T3,rfl⟩
theorem c21 (a b:Span):Pure prog 212 [⟨.span,a⟩,⟨.span,b⟩] [.span] (kj a b):=ofT func212 (t21 a b) (by kernel_rfl) (by kernel_rfl) fun A=>by
 refine ⟨⟨T3,trivial⟩,_,c75 a,ah (fun h=>?_) (fun h=>?_)⟩
 ·refine ⟨⟨T3,trivial⟩,_,c75 b,ah (fun h2=>?_) (fun h2=>?_)⟩
  ·refine ⟨trivial,_,c76,T3,?_⟩
   show nil=kj a b
   rw [kj,h,h2];rfl
  ·refine ⟨⟨T3,trivial⟩,_,c75 a,ah (fun h3=>?_) (fun h3=>?_)⟩
   ·refine ⟨T3,?_⟩
    show b=kj a b
    rw [kj,h,h2];rfl
   ·rw [h] at h3;cases h3
 ·refine ⟨⟨T3,trivial⟩,_,c75 a,ah (fun h3=>?_) (fun h3=>?_)⟩
  ·rw [h] at h3;cases h3
  ·refine ⟨⟨T3,trivial⟩,_,c75 b,ah (fun h2=>?_) (fun h2=>?_)⟩
   ·refine ⟨T3,?_⟩
    show a=kj a b
    rw [kj,h,h2];rfl
   ·refine ⟨T3,?_⟩
    show over a b=kj a b
    rw [kj,h,h2];rfl
end Go.Proofs.Sp

namespace Go.Proofs.Sp
open Go.Proofs.Tryz
open Go Go.VL
theorem t79 (xs:List Span):@Eq (Out GRes) (bf prog codes sigs f292 (dX 0) 0 ⟨[],true⟩ 100 false (cq f292) (fA f292 [.d (.sl .span xs)] [] 0)) (.ask (fun (b:Bool)=>b=true→xs.length=0) fun (b:Bool)=>bif b then .stop (rt f292 0) (mkS 8 [(2,nS)] [] 0) else .need True (.need ((0+xs.length) * 17≤35184372088832∧True) (.stop (rt f292 1) (mkS 8 [(2,.own 0 .span)] [(0,.row 175 .span ([]++xs))] 1)))):=by kernel_rfl
theorem t112 (xs:List Span):@Eq _ (yS prog codes sigs f308 1 100 [.own 0 .span,.clo (.func 258) [] []] [(0,.row 175 .span xs)] 1) (.stop (hd f308 0) (mkS 19 [(0,.own 0 .span),(1,.clo (.func 258) [] []),(7,i64 (xs.length:Int)),(8,i64 0)] [(0,.row 175 .span xs)] 1)):=by kernel_rfl
theorem t78 (xs:List Span):@Eq _ (yS prog codes sigs f291 1 100 [.own 0 .span,.clo (.func 258) [] []] [(0,.row 175 .span xs)] 1) (.callG 308 [.own 0 .span,.clo (.func 258) [] []] [(0,.row 175 .span xs)] 1 [.int] (fun (x:Int)=>GRes.mk [i64 x] [(0,.row 175 .span xs)] 1) fun (x:Int)=>bif x==(-1:Int) then .need True (.ret (GRes.mk [.own 0 .span] [(0,.row 175 .span xs)] 1)) else .stop (hd f291 0) (mkS 42 [(0,.own 0 .span),(1,.clo (.func 258) [] []),(5,i64 x),(6,i64 (w64 (x+1)))] [(0,.row 175 .span xs)] 1)):=by kernel_rfl
theorem t31 (xs:List Span):@Eq _ (xS prog codes sigs f257 [.sl .span] 100 [⟨.sl .span,xs⟩]) (.callG 292 [.d (.sl .span xs)] [] 0 [.sl .span] (fun (a:List Span)=>GRes.mk [.own 0 .span] [(0,.row 175 .span a)] 1) fun (x:List Span)=>.callG 291 [.own 0 .span,.clo (.func 258) [] []] [(0,.row 175 .span x)] 1 [.sl .span] (fun (a:List Span)=>GRes.mk [.view 0 .span 0 a.length] [(0,.row 175 .span (pad x.length a))] 1) fun (x_1:List Span)=>.callG 293 [.view 0 .span 0 x_1.length,.clo (.func 294) [] []] [(0,.row 175 .span (pad x.length x_1))] 1 [.sl .span] (fun (a:List Span)=>GRes.mk [] [(0,.row 175 .span a)] 1) fun (x:List Span)=>.stop (hd f257 0) (mkS 49 [(4,nS),(13,.view 0 .span 0 x_1.length),(14,i64 (x_1.length:Int)),(15,i64 0)] [(0,.row 175 .span x)] 1)):=by kernel_rfl
end Go.Proofs.Sp

namespace Go.Proofs.Sp
open Go.Proofs.Tryz
open Go Go.VL
def i64 (n:Int):AV:=.d (.v (.int .i64 n))
def MD (xs:List Span) (i:Int):AS:=mkS 19 [(0,.own 0 .span),(1,.clo (.func 258) [] []),(7,i64 xs.length),(8,i64 i)] [(0,.row 175 .span xs)] 1
def L78 (xs:List Span) (i j:Int):AS:=mkS 42 [(0,.own 0 .span),(1,.clo (.func 258) [] []),(5,i64 i),(6,i64 j)] [(0,.row 175 .span xs)] 1
def L31 (ys:List Span) (n:Nat) (out:List Span) (i:Int):AS:=mkS 49 [(4,.own 0 .span),(13,.view 1 .span 0 n),(14,i64 n),(15,i64 i)] [(0,.row 175 .span out),(1,.row 175 .span ys)] 2
theorem Hg (xs:List Span) (i:Int):@Eq _ (yL prog codes sigs f308 1 100 0 (MD xs i)) (bif decide (i < (xs.length:Int)) then .need ((0:Int)≤i∧i < (xs.length:Int)) (.need (i.toNat < xs.length) (.need (U3∧True) (.callP 258 [⟨.span,(xs.getD i.toNat Ty.span.dflt)⟩] [.bool] fun (x:Bool)=>bif x then .need True (.ret (GRes.mk [i64 i] [(0,.row 175 .span xs)] 1)) else .stop (hd f308 0) (mkS 19 [(0,.own 0 .span),(1,.clo (.func 258) [] []),(7,i64 (xs.length:Int)),(8,i64 (w64 (i+1)))] [(0,.row 175 .span xs)] 1)))) else .need True (.ret (GRes.mk [i64 (-1)] [(0,.row 175 .span xs)] 1))):=by kernel_rfl
theorem Ka (xs:List Span) (i j:Int):@Eq _ (yL prog codes sigs f291 1 100 0 (L78 xs i j)) (bif decide (j < (xs.length:Int)) then .need ((0:Int)≤j∧j < (xs.length:Int)) (.need (j.toNat < xs.length) (.need (U3∧True) (.callP 258 [⟨.span,(xs.getD j.toNat Ty.span.dflt)⟩] [.bool] fun (x:Bool)=>bif !x then .need ((0:Int)≤i∧i < (xs.length:Int)) (.need (i.toNat < xs.length∧U3) (.stop (hd f291 0) (mkS 42 [(0,.own 0 .span),(1,.clo (.func 258) [] []),(5,i64 (w64 (i+1))),(6,i64 (w64 (j+1)))] [(0,.row 175 .span (xs.set i.toNat (xs.getD j.toNat Ty.span.dflt)))] 1))) else .stop (hd f291 0) (mkS 42 [(0,.own 0 .span),(1,.clo (.func 258) [] []),(5,i64 i),(6,i64 (w64 (j+1)))] [(0,.row 175 .span xs)] 1)))) else .need ((0:Int)≤i∧i≤(xs.length:Int)) (.need (i.toNat+(xs.length - i.toNat)≤xs.length) (.need ((0:Int)≤0∧(0:Int)≤i∧i≤(↑(dj xs i.toNat (List.replicate (xs.length - i.toNat) Ty.span.dflt)).length:Int)) (.need True (.ret (GRes.mk [.view 0 .span 0 (i.toNat - 0)] [(0,.row 175 .span (dj xs i.toNat (List.replicate (xs.length - i.toNat) Ty.span.dflt)))] 1)))))):=by kernel_rfl
theorem Ke (ys:List Span) (n:Nat) (out:List Span) (i:Int):@Eq _ (xL prog codes sigs f257 [.sl .span] 150 0 (L31 ys n out i)) (bif decide (i < (↑n:Int)) then .need ((0:Int)≤i∧i < (↑n:Int)) (.need (0+i.toNat < ys.length) (bif decide ((out.length:Int) > 0) then .need ((0:Int)≤w64 ((out.length:Int) - (1:Int))∧w64 ((out.length:Int) - (1:Int)) < (out.length:Int)) (.need ((w64 ((out.length:Int) - (1:Int))).toNat < out.length) (.need (U3∧U3∧True) (.callP 295 [Sigma.mk .span (out.getD (w64 ((out.length:Int) - (1:Int))).toNat Ty.span.dflt),⟨.span,(ys.getD (0+i.toNat) Ty.span.dflt)⟩] [.bool] fun (x:Bool)=>bif x then .need ((0:Int)≤w64 ((out.length:Int) - (1:Int))∧w64 ((out.length:Int) - (1:Int)) < (out.length:Int)) (.need ((w64 ((out.length:Int) - (1:Int))).toNat < out.length) (.need (U3∧U3∧True) (.callP 212 [Sigma.mk .span (out.getD (w64 ((out.length:Int) - (1:Int))).toNat Ty.span.dflt),⟨.span,(ys.getD (0+i.toNat) Ty.span.dflt)⟩] [.span] fun (x:Span)=>.need ((0:Int)≤w64 ((out.length:Int) - (1:Int))∧w64 ((out.length:Int) - (1:Int)) < (out.length:Int)) (.need ((w64 ((out.length:Int) - (1:Int))).toNat < out.length∧U3) (.stop (hd f257 0) (mkS 49 [(4,.own 0 .span),(13,.view 1 .span 0 n),(14,i64 (↑n:Int)),(15,i64 (w64 (i+1)))] [(0,.row 175 .span (out.set (w64 ((out.length:Int) - (1:Int))).toNat x)),(1,.row 175 .span ys)] 2)))))) else .need (U3∧True) (.need ((out.length+List.length [ys.getD (0+i.toNat) Ty.span.dflt]) * 17≤35184372088832∧True) (.stop (hd f257 0) (mkS 49 [(4,.own 0 .span),(13,.view 1 .span 0 n),(14,i64 (↑n:Int)),(15,i64 (w64 (i+1)))] [(0,.row 175 .span (out++[ys.getD (0+i.toNat) Ty.span.dflt])),(1,.row 175 .span ys)] 2)))))) else .need (U3∧True) (.need ((out.length+List.length [ys.getD (0+i.toNat) Ty.span.dflt]) * 17≤35184372088832∧True) (.stop (hd f257 0) (mkS 49 [(4,.own 0 .span),(13,.view 1 .span 0 n),(14,i64 (↑n:Int)),(15,i64 (w64 (i+1)))] [(0,.row 175 .span (out++[ys.getD (0+i.toNat) Ty.span.dflt])),(1,.row 175 .span ys)] 2))))) else .need U2 (.ret out)):=by kernel_rfl
end Go.Proofs.Sp

/- slices.Clone, IndexFunc, DeleteFunc over spans: what they come to. (Own work.) -/
namespace Go.Proofs.Sp
open Go.Proofs.Tryz
open Go Go.VL
theorem mh {n:Int} (h1 : -9223372036854775808≤n) (h2:n < 9223372036854775808):w64 n=n:=by
 unfold w64 IntKind.wrap
 have e:(2 ^ IntKind.i64.bits:Int)=18446744073709551616:=rfl
 have e2:(2 ^ (IntKind.i64.bits - 1):Int)=9223372036854775808:=rfl
 have e3:IntKind.i64.signed=true:=rfl
 simp only [e,e2,e3,cR]
 rcases Int.lt_or_le n 0 with h | h
 ·have:n % 18446744073709551616=n+18446744073709551616:=by omega
  rw [this,aF (by simpa using by omega)];omega
 ·have:n % 18446744073709551616=n:=jz h (by omega)
  rw [this,aJ (by simpa using by omega)]
def Sm (n:Nat):Prop:=n * 17≤35184372088832
def fnd:List Span→Int→Int
 | [],_ => -1
 | x::xs,i=>bif emp x then i else fnd xs (i+1)
theorem yG {xs:List Span} (hl:Sm xs.length) {A:List Item→AS→Prop} (hA:Closed prog codes sigs f308 (dX 1) (fun r'=>GRes.Le r' ⟨[i64 (fnd xs 0)],[(0,.row 175 .span xs)],1⟩) 1 A) :
  ∀ (k i:Nat),i+k=xs.length→fnd (xs.drop i) i=fnd xs 0→A (hd f308 0) (MD xs i)
 | 0, i, hi, hf => by
   refine hA.go (Hg xs i) (ah (fun h=>?_) (fun h=>?_))
   ·simp only [bP] at h;omega
   ·refine ⟨trivial,.of_eq ?_⟩
    rw [dN (by omega)] at hf
    rw [← hf];rfl
 | k + 1, i, hi, hf => by
   have hlt:i < xs.length:=by omega
   have hg:xs.getD i Ty.span.dflt=xs[i]:=by simp [List.getD,hlt]
   refine hA.go (Hg xs i) (ah (fun h=>?_) (fun h=>?_))
   ·refine ⟨⟨by omega,by omega⟩,by simpa using hlt,⟨T3,trivial⟩,_,c75 _,?_⟩
    rw [dG hlt] at hf
    have hf:(bif emp xs[i] then (i:Int) else fnd (xs.drop (i+1)) (i+1))=fnd xs 0:=hf
    refine ah (fun h2=>?_) (fun h2=>?_)
    ·refine ⟨trivial,.of_eq ?_⟩
     have h2:emp (xs.getD i Ty.span.dflt)=true:=h2
     rw [hg] at h2
     rw [h2] at hf
     rw [← hf];rfl
    ·have h2:emp (xs.getD i Ty.span.dflt)=false:=h2
     rw [hg] at h2
     rw [h2] at hf
     have hw:w64 ((i:Int)+1)=((i+1:Nat):Int):=by
      unfold Sm at hl
      rw [mh (by omega) (by omega)];rfl
     rw [hw]
     exact yG hl hA k (i+1) (by omega) hf
   ·simp only [cW] at h;omega
theorem c112 {xs:List Span} (hl:Sm xs.length):Gc prog 308 [.own 0 .span,.clo (.func 258) [] []] [(0,.row 175 .span xs)] 1 ⟨[i64 (fnd xs 0)],[(0,.row 175 .span xs)],1⟩:=
 Gc.of_closed (C:=codes) (S:=sigs) mixed func308 (by kernel_rfl) (fun i T t ys _ h=>⟨ys,h,rfl⟩) fun _ hA=>
  hA.go (t112 xs) (yG hl hA xs.length 0 (by omega) rfl)
end Go.Proofs.Sp

namespace Go.Proofs.Sp
open Go.Proofs.Tryz
open Go Go.VL
theorem JZ (xs:List Span):@Eq (Out GRes) (bf prog codes sigs f292 (dX 0) 0 eU 100 true (rt f292 0) (mkS 8 [(2,.own 0 .span)] [(0,.row 175 .span xs)] 1)) (.need True (.ret (GRes.mk [.own 0 .span] [(0,.row 175 .span xs)] 1))):=by kernel_rfl
theorem JY (xs:List Span):@Eq (Out GRes) (bf prog codes sigs f292 (dX 0) 0 eU 100 true (rt f292 1) (mkS 8 [(2,.own 0 .span)] [(0,.row 175 .span xs)] 1)) (.need True (.ret (GRes.mk [.own 0 .span] [(0,.row 175 .span xs)] 1))):=by kernel_rfl
end Go.Proofs.Sp

/- slices.Clone, DeleteFunc over spans: what they come to. (Own work.) -/
namespace Go.Proofs.Sp
open Go.Proofs.Tryz
open Go Go.VL
theorem c79 {xs:List Span} (hl:Sm xs.length):Gc prog 292 [.d (.sl .span xs)] [] 0 ⟨[.own 0 .span],[(0,.row 175 .span xs)],1⟩:=
 Gc.of_closed (C:=codes) (S:=sigs) mixed func292 (by kernel_rfl) (fun i T t ys hi _=>absurd hi (bA _)) fun A hA=>
  hA.go (t79 xs) fun b hb=>ah (fun h=>by
   have hx:xs=[]:=ay (hb h)
   subst hx
   exact hA.row 2 175 .span (by kernel_rfl) (s':=mkS 8 [(2,.own 0 .span)] [(0,.row 175 .span [])] 1) (by kernel_rfl) (hA.go (JZ []) ⟨trivial,.of_eq rfl⟩))
   (fun _=>⟨trivial,⟨by unfold Sm at hl;omega,trivial⟩,hA.go (JY xs) ⟨trivial,.of_eq rfl⟩⟩)
def keep (xs:List Span):List Span:=xs.filter fun a => !emp a
theorem vJ:∀ {xs:List Span} {i:Int},0≤i→fnd xs i = -1→keep xs=xs
 | [],_,_,_=>rfl
 | x :: xs, i, hi, h => by
   unfold fnd at h
   cases hx:emp x
   ·rw [hx] at h
    have:=vJ (xs:=xs) (i:=i+1) (by omega) h
    simp [keep,hx] at this ⊢
    exact this
   ·rw [hx] at h
    simp only [cT] at h;omega
theorem vI:∀ {xs:List Span} {i:Int},0≤i→fnd xs i ≠ -1→∃ k:Nat,k < xs.length∧fnd xs i=i+k∧keep (xs.take (k+1))=xs.take k
 | [],_,_,h=>absurd rfl h
 | x :: xs, i, hi, h => by
   unfold fnd at h ⊢
   cases hx:emp x
   ·rw [hx] at h
    simp only [cF] at h ⊢
    obtain ⟨k,h1,h2,h3⟩:=vI (xs:=xs) (i:=i+1) (by omega) h
    refine ⟨k+1,by simp;omega,by rw [h2];omega,?_⟩
    simp [keep,hx] at h3 ⊢
    exact h3
   ·refine ⟨0,by simp,by simp,?_⟩
    simp [keep,hx]
theorem lp {xs:List Span} {j:Nat} (hj:j < xs.length):keep (xs.take (j+1))=keep (xs.take j)++(bif emp xs[j] then [] else [xs[j]]):=by
 rw [aY hj]
 unfold keep
 rw [List.filter_append]
 cases h:emp xs[j] <;> simp [h]
abbrev Ce (xs:List Span):GRes:=⟨[.view 0 .span 0 (keep xs).length],[(0,.row 175 .span (pad xs.length (keep xs)))],1⟩
theorem wW {xs:List Span} (hl:Sm xs.length) {A:List Item→AS→Prop} (hA:Closed prog codes sigs f291 (dX 1) (fun r'=>GRes.Le r' (Ce xs)) 1 A) :
  ∀ (k i j:Nat) (zs:List Span),j+k=xs.length→i < j→zs.length=xs.length→zs.take i=keep (xs.take j)→zs.drop j=xs.drop j→A (hd f291 0) (L78 zs i j)
 | 0, i, j, zs, hj, hij, hz, ht, _ => by
   have hi:i≤zs.length:=by omega
   refine hA.go (Ka zs i j) (ah (fun h=>?_) (fun h=>?_))
   ·simp only [bP] at h;omega
   ·have hki:(keep xs).length=i:=by
     have:=congrArg List.length ht
     rw [cn (by omega:xs.length≤j),aE,Nat.min_eq_left hi] at this
     exact this.symm
    have hsp:dj zs i (List.replicate (zs.length - i) Ty.span.dflt)=pad xs.length (keep xs):=by
     unfold dj pad
     rw [ht,cn (by omega:xs.length≤j),hki,hz,bT,dN (by omega),ed]
    refine ⟨⟨by omega,by omega⟩,by simp only [aq];omega,⟨by omega,by omega,?_⟩,trivial,.of_eq ?_⟩
    ·simp only [aq]
     rw [cP _ _ _ (by rw [bT];omega)];omega
    ·simp only [aq,Ce,hsp,hki,cU]
 | k + 1, i, j, zs, hj, hij, hz, ht, hd' => by
   have hjz:j < zs.length:=by omega
   have hjx:j < xs.length:=by omega
   have hg:zs.getD j Ty.span.dflt=xs[j]:=by
    have:=congrArg List.head? hd'
    simp only [List.head?_drop,aj hjz,aj hjx,af] at this
    simp [List.getD,hjz,this]
   have hw:w64 ((j:Int)+1)=((j+1:Nat):Int):=by
    unfold Sm at hl
    rw [mh (by omega) (by omega)];rfl
   have hw2:w64 ((i:Int)+1)=((i+1:Nat):Int):=by
    unfold Sm at hl
    rw [mh (by omega) (by omega)];rfl
   have hdd:zs.drop (j+1)=xs.drop (j+1):=by
    have:=congrArg (List.drop 1) hd'
    simpa [jd,Nat.add_comm] using this
   refine hA.go (Ka zs i j) (ah (fun h=>?_) (fun h=>?_))
   ·refine ⟨⟨by omega,by omega⟩,by simpa using hjz,⟨T3,trivial⟩,_,c75 _,?_⟩
    refine ah (fun h2=>?_) (fun h2=>?_)
    ·have h2:emp xs[j]=false:=by
      rw [← hg];simpa using h2
     refine ⟨⟨by omega,by omega⟩,⟨by simpa using by omega,T3⟩,?_⟩
     rw [hw,hw2]
     have hset:List.set zs ((i:Int).toNat) (zs.getD ((j:Int).toNat) Ty.span.dflt)=zs.set i xs[j]:=by rw [aq,aq,hg]
     show A (hd f291 0) (L78 (List.set zs ((i:Int).toNat) (zs.getD ((j:Int).toNat) Ty.span.dflt)) (i+1:Nat) (j+1:Nat))
     rw [hset]
     refine wW hl hA k (i+1) (j+1) (zs.set i xs[j]) (by omega) (by omega) (by simpa using hz) ?_ ?_
     ·rw [lp hjx,h2,← ht]
      have hiz:i < (zs.set i xs[j]).length:=by simp;omega
      rw [aY hiz,List.take_set_of_le (aH i)]
      simp
     ·rw [List.drop_set_of_lt (by omega)];exact hdd
    ·have h2:emp xs[j]=true:=by
      rw [← hg];simpa using h2
     rw [hw]
     refine wW hl hA k i (j+1) zs (by omega) (by omega) hz ?_ hdd
     rw [lp hjx,h2,ht];simp
   ·simp only [cW] at h;omega
theorem c78 {xs:List Span} (hl:Sm xs.length):Gc prog 291 [.own 0 .span,.clo (.func 258) [] []] [(0,.row 175 .span xs)] 1 (Ce xs):=by
 have hkl:(keep xs).length≤xs.length:=gI _ _
 refine Gc.of_closed (C:=codes) (S:=sigs) mixed func291 (by kernel_rfl) (fun i T t ys hi h=>?_) fun A hA=>hA.go (t78 xs) ⟨fnd xs 0,c112 hl,ah (fun h=>?_) (fun h=>?_)⟩
 ·obtain rfl:i=0:=by omega
  simp only [Heap.get,jT,cT,af,ABlk.row.injEq] at h
  obtain ⟨rfl,rfl,h⟩:=h
  refine ⟨xs,rfl,?_⟩
  rw [← eq_of_heq h]
  simp [pad];omega
 ·have h:fnd xs 0 = -1:=by simpa using h
  have hk:=vJ (jw 0) h
  have hp:pad xs.length (keep xs)=xs:=by rw [hk];simp [pad]
  refine ⟨trivial,⟨rfl,fun i x y hx hy=>?_,fun l b hb=>⟨b,?_,.refl _ b⟩,aH _⟩⟩
  ·cases i with
   | zero =>
     cases hx;cases hy
     rw [hk]
     exact .view rfl
   | succ i=>cases hx
  ·simp only [hp] at hb;exact hb
 ·have h:fnd xs 0 ≠ -1:=by simpa using h
  obtain ⟨k,h1,h2,h3⟩:=vI (jw 0) h
  have h2:fnd xs 0=(k:Int):=by rw [h2];omega
  rw [h2]
  have hw:w64 ((k:Int)+1)=((k+1:Nat):Int):=by
   unfold Sm at hl
   rw [mh (by omega) (by omega)];rfl
  rw [hw]
  exact wW hl hA (xs.length - (k+1)) k (k+1) xs (by omega) (by omega) rfl h3.symm rfl
end Go.Proofs.Sp

/- The reference's small functions. (Own work.) -/
namespace Go.Proofs.Sp
open Go.Proofs.Tryz
open Go Go.VL
theorem c82 (a b:Span):Pure prog 295 [⟨.span,a⟩,⟨.span,b⟩] [.bool] (bif decide (b.lo≤a.hi) then true else (w64 (b.lo - 1)==a.hi)):=ofT func295 (t82 a b) (by kernel_rfl) (by kernel_rfl) fun A=>by
 refine ah (fun h=>?_) (fun h=>?_)
 ·refine ⟨q2,?_⟩
  show true=_
  rw [h];rfl
 ·refine ⟨q2,?_⟩
  show (_:Bool)=_
  rw [h];rfl
end Go.Proofs.Sp
