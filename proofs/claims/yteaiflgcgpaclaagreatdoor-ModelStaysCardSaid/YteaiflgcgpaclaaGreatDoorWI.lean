/- Own work: part WI of the proof. -/
import Derived.Test.YteaiflgcgpaclaaGreatDoorWE
import Derived.Test.YteaiflgcgpaclaaGreatDoorWD
import Derived.Test.YteaiflgcgpaclaaGreatDoorWH
set_option linter.unusedVariables false
set_option linter.unusedSimpArgs false
namespace Go.Proofs.Mo
open Go.Proofs.Tryz
open Go Go.VL
set_option maxRecDepth 20000
open Go.Proofs.Zn Go.Proofs.Mn
def JC (w x:Int):Bool:=bif (x==(0:Int))then true else x==w
theorem c272 (w x:Int) :Gc prog 272 [i64 x,.ptr 0 0] [(0,.box [i64 w])] 1 ((fun x:Bool=>(⟨[ca x],[(0,.box [i64 w])],1⟩:GRes)) (JC w x)):=
 Gc.of_closed (C:=codes) (S:=sigs) mixed func272 (by kernel_rfl) (fun i T t ys hi h=>⟨ys,h,rfl⟩) fun A hA=>hA.go (t272 w x) (by
  generalize h:JC w x=r at hA ⊢
  unfold JC at h
  refine ah h (fun g1 h=>?_) (fun g1 h=>?_)
  ·exact⟨tv,.of_eq (by rw[← h];try rfl)⟩
  ·exact⟨tv,.of_eq (by rw[← h];try rfl)⟩)
def fP (o:List Int)(w x:Int):Bool := !(JC w (o.getD x.toNat Ty.int.dflt))
theorem HG (o:List Int)(w x:Int)(hx:0<=x/\x<o.length):Gc prog 302 [i64 x,.ptr 0 0,.ptr 1 0] [(0,.box [.clo (.func 272) [] [.ptr 2 0]]),(1,.box [.d (.sl .int o)]),(2,.box [i64 w])] 3 ((fun x:Bool=>(⟨[ca x],[(0,.box [.clo (.func 272) [] [.ptr 2 0]]),(1,.box [.d (.sl .int o)]),(2,.box [i64 w])],3⟩:GRes)) (fP o w x)):=
 Gc.of_closed (C:=codes) (S:=sigs) mixed func302 (by kernel_rfl) (fun i T t ys hi h=>⟨ys,h,rfl⟩) fun A hA=>hA.go (EX o w x) (by
  generalize h:fP o w x=r at hA ⊢
  unfold fP at h
  exact⟨⟨⟨(by omega),(by omega)⟩,tv⟩,_,c272 _ _,tv,.of_eq (by rw[← h];try rfl)⟩)
def JB (w x:Int):Bool:=x==w
theorem c273 (w x:Int) :Gc prog 273 [i64 x,.ptr 0 0] [(0,.box [i64 w])] 1 ((fun x:Bool=>(⟨[ca x],[(0,.box [i64 w])],1⟩:GRes)) (JB w x)):=
 Gc.of_closed (C:=codes) (S:=sigs) mixed func273 (by kernel_rfl) (fun i T t ys hi h=>⟨ys,h,rfl⟩) fun A hA=>hA.go (t273 w x) (by
  generalize h:JB w x=r at hA ⊢
  unfold JB at h
  exact⟨tv,.of_eq (by rw[← h];try rfl)⟩)
def fO (o:List Int)(w x:Int):Bool := !(JB w (o.getD x.toNat Ty.int.dflt))
theorem HF (o:List Int)(w x:Int)(hx:0<=x/\x<o.length):Gc prog 302 [i64 x,.ptr 0 0,.ptr 1 0] [(0,.box [.clo (.func 273) [] [.ptr 2 0]]),(1,.box [.d (.sl .int o)]),(2,.box [i64 w])] 3 ((fun x:Bool=>(⟨[ca x],[(0,.box [.clo (.func 273) [] [.ptr 2 0]]),(1,.box [.d (.sl .int o)]),(2,.box [i64 w])],3⟩:GRes)) (fO o w x)):=
 Gc.of_closed (C:=codes) (S:=sigs) mixed func302 (by kernel_rfl) (fun i T t ys hi h=>⟨ys,h,rfl⟩) fun A hA=>hA.go (EW o w x) (by
  generalize h:fO o w x=r at hA ⊢
  unfold fO at h
  exact⟨⟨⟨(by omega),(by omega)⟩,tv⟩,_,c273 _ _,tv,.of_eq (by rw[← h];try rfl)⟩)
def er (o:List Int)(w:Int):List Int->Nat->Int
 | [],ix=>(-1:Int)
 | z::zs,ix=>bif (fP o w (z))then(ix:Int)else er o w zs (ix+1)
theorem jH (o:List Int)(w:Int)(l:List Int)(hl:l.length<=1000000)(hb:∀ x∈l,0<=x/\x<o.length)  {r:Int}{A:List Item->AS->Prop}(hA:Closed prog codes sigs f161 (eG 3) (fun r'=>GRes.Le r' ((fun x:Int=>(⟨[i64 x],[(0,.box [.clo (.func 272) [] [.ptr 2 0]]),(1,.box [.d (.sl .int o)]),(2,.box [i64 w])],3⟩:GRes)) r)) 3 A)(ix:Nat)(h:er o w (List.drop ix l) ix=r):A (hd f161 0) (hO o w l (ix:Int)):=by
 refine hA.go (rA o w l (ix:Int)) (ak (fun h1=>?_) (fun h1=>?_))
 ·have h1:=oT h1
  have hil:ix<l.length:=by omega
  rw[aX hil Ty.int.dflt,er]at h
  refine⟨⟨⟨(by omega),(by omega)⟩,tv⟩,_,HG _ _ _ (hb _ (kX hil)),?_⟩
  refine ah h (fun g1 h=>?_) (fun g1 h=>?_)
  ·exact⟨tv,.of_eq (by rw[← h];try rfl)⟩
  ·rw[aw (by omega)]
   exact jH o w l hl hb  hA (ix+1) h
 ·have h1:=oF h1
  rw[dN (by omega),er]at h
  exact⟨tv,.of_eq (by rw[← h];try rfl)⟩
termination_by l.length-ix
decreasing_by all_goals omega
def dI (o:List Int)(w:Int)(l:List Int):Int:=er o w l 0
theorem wA (o:List Int)(w:Int)(l:List Int)(hl:l.length<=1000000)(hb:∀ x∈l,0<=x/\x<o.length):Gc prog 161 [.d (.sl .int l),.clo (.func 302) [] [.ptr 0 0,.ptr 1 0]] [(0,.box [.clo (.func 272) [] [.ptr 2 0]]),(1,.box [.d (.sl .int o)]),(2,.box [i64 w])] 3 ((fun x:Int=>(⟨[i64 x],[(0,.box [.clo (.func 272) [] [.ptr 2 0]]),(1,.box [.d (.sl .int o)]),(2,.box [i64 w])],3⟩:GRes)) (dI o w l)):=
 Gc.of_closed (C:=codes) (S:=sigs) mixed func161 (by kernel_rfl) (fun i T t ys hi h=>⟨ys,h,rfl⟩) fun A hA=>hA.go (vx o w l) (by
  generalize h:dI o w l=r at hA ⊢
  unfold dI at h
  exact jH o w l hl hb  hA 0 h)
def ej (o:List Int)(w:Int):List Int->Nat->Int
 | [],ix=>(-1:Int)
 | z::zs,ix=>bif (fO o w (z))then(ix:Int)else ej o w zs (ix+1)
theorem jG (o:List Int)(w:Int)(l:List Int)(hl:l.length<=1000000)(hb:∀ x∈l,0<=x/\x<o.length)  {r:Int}{A:List Item->AS->Prop}(hA:Closed prog codes sigs f161 (eG 3) (fun r'=>GRes.Le r' ((fun x:Int=>(⟨[i64 x],[(0,.box [.clo (.func 273) [] [.ptr 2 0]]),(1,.box [.d (.sl .int o)]),(2,.box [i64 w])],3⟩:GRes)) r)) 3 A)(ix:Nat)(h:ej o w (List.drop ix l) ix=r):A (hd f161 0) (hN o w l (ix:Int)):=by
 refine hA.go (rz o w l (ix:Int)) (ak (fun h1=>?_) (fun h1=>?_))
 ·have h1:=oT h1
  have hil:ix<l.length:=by omega
  rw[aX hil Ty.int.dflt,ej]at h
  refine⟨⟨⟨(by omega),(by omega)⟩,tv⟩,_,HF _ _ _ (hb _ (kX hil)),?_⟩
  refine ah h (fun g1 h=>?_) (fun g1 h=>?_)
  ·exact⟨tv,.of_eq (by rw[← h];try rfl)⟩
  ·rw[aw (by omega)]
   exact jG o w l hl hb  hA (ix+1) h
 ·have h1:=oF h1
  rw[dN (by omega),ej]at h
  exact⟨tv,.of_eq (by rw[← h];try rfl)⟩
termination_by l.length-ix
decreasing_by all_goals omega
def dH (o:List Int)(w:Int)(l:List Int):Int:=ej o w l 0
theorem wz (o:List Int)(w:Int)(l:List Int)(hl:l.length<=1000000)(hb:∀ x∈l,0<=x/\x<o.length):Gc prog 161 [.d (.sl .int l),.clo (.func 302) [] [.ptr 0 0,.ptr 1 0]] [(0,.box [.clo (.func 273) [] [.ptr 2 0]]),(1,.box [.d (.sl .int o)]),(2,.box [i64 w])] 3 ((fun x:Int=>(⟨[i64 x],[(0,.box [.clo (.func 273) [] [.ptr 2 0]]),(1,.box [.d (.sl .int o)]),(2,.box [i64 w])],3⟩:GRes)) (dH o w l)):=
 Gc.of_closed (C:=codes) (S:=sigs) mixed func161 (by kernel_rfl) (fun i T t ys hi h=>⟨ys,h,rfl⟩) fun A hA=>hA.go (vw o w l) (by
  generalize h:dH o w l=r at hA ⊢
  unfold dH at h
  exact jG o w l hl hb  hA 0 h)
def np (o:List Int)(x:Int):Bool:=bif decide (x<(0:Int))then true else decide (x>=(o.length:Int))
theorem c301 (o:List Int)(x:Int) :Gc prog 301 [i64 x,.ptr 0 0] [(0,.box [.d (.sl .int o)])] 1 ((fun x:Bool=>(⟨[ca x],[(0,.box [.d (.sl .int o)])],1⟩:GRes)) (np o x)):=
 Gc.of_closed (C:=codes) (S:=sigs) mixed func301 (by kernel_rfl) (fun i T t ys hi h=>⟨ys,h,rfl⟩) fun A hA=>hA.go (t301 o x) (by
  generalize h:np o x=r at hA ⊢
  unfold np at h
  refine ah h (fun g1 h=>?_) (fun g1 h=>?_)
  ·have g1:=oT g1
   exact⟨tv,.of_eq (by rw[← h];try rfl)⟩
  ·have g1:=oF g1
   exact⟨tv,.of_eq (by rw[← h];try rfl)⟩)
def vT (w:Int):Bool:=bif decide (w>=(1:Int))then decide (w<=(8:Int))else false
theorem MN (w:Int) :Pure prog 299 [⟨.int,w⟩] [.bool] (vT w):=
 Pure.of_closed (C:=codes) (S:=sigs) mixed func299 (by kernel_rfl) (ac (by kernel_rfl)) fun A hA=>hA.go (t299 w) (by
  generalize h:vT w=r at hA ⊢
  unfold vT at h
  refine ah h (fun g1 h=>?_) (fun g1 h=>?_)
  ·have g1:=oT g1
   exact⟨q2,h⟩
  ·have g1:=oF g1
   exact⟨q2,h⟩)
def DH (x:Int):Bool:=bif (x != (0:Int))then !(vT x)else false
theorem c311 (x:Int) :Gc prog 311 [i64 x] [] 0 ((fun x:Bool=>(⟨[ca x],[],0⟩:GRes)) (DH x)):=
 Gc.of_closed (C:=codes) (S:=sigs) mixed func311 (by kernel_rfl) (fun i T t ys hi h=>⟨ys,h,rfl⟩) fun A hA=>hA.go (t311 x) (by
  generalize h:DH x=r at hA ⊢
  unfold DH at h
  refine ah h (fun g1 h=>?_) (fun g1 h=>?_)
  ·exact⟨⟨q2,tv⟩,_,MN _,tv,.of_eq (by rw[← h];try rfl)⟩
  ·exact⟨tv,.of_eq (by rw[← h];try rfl)⟩)
def GC (x:Int):Bool:=decide (x>(1:Int))
theorem c222 (x:Int) :Gc prog 222 [i64 x] [] 0 ((fun x:Bool=>(⟨[ca x],[],0⟩:GRes)) (GC x)):=
 Gc.of_closed (C:=codes) (S:=sigs) mixed func222 (by kernel_rfl) (fun i T t ys hi h=>⟨ys,h,rfl⟩) fun A hA=>hA.go (t222 x) (by
  generalize h:GC x=r at hA ⊢
  unfold GC at h
  exact⟨tv,.of_eq (by rw[← h];try rfl)⟩)
def m93 (m:Model)(x:Int):Bool:=bif decide (x<(0:Int))then true else decide (x>m.deck.arms)
theorem c93 (m:Model)(x:Int) :Gc prog 93 [i64 x,.ptr 0 0] [(0,.box (ja m))] 1 ((fun x:Bool=>(⟨[ca x],[(0,.box (ja m))],1⟩:GRes)) (m93 m x)):=
 Gc.of_closed (C:=codes) (S:=sigs) mixed func93 (by kernel_rfl) (fun i T t ys hi h=>⟨ys,h,rfl⟩) fun A hA=>hA.go (t93 m x) (by
  generalize h:m93 m x=r at hA ⊢
  unfold m93 at h
  refine ah h (fun g1 h=>?_) (fun g1 h=>?_)
  ·have g1:=oT g1
   exact⟨tv,.of_eq (by rw[← h];try rfl)⟩
  ·have g1:=oF g1
   exact⟨tv,.of_eq (by rw[← h];try rfl)⟩)
def gE :List Int->Nat->Int
 | [],ix=>(-1:Int)
 | z::zs,ix=>bif (DH (z))then(ix:Int)else gE zs (ix+1)
theorem mn (l:List Int)(hl:l.length<=1000000)  {r:Int}{A:List Item->AS->Prop}(hA:Closed prog codes sigs f161 (eG 0) (fun r'=>GRes.Le r' ((fun x:Int=>(⟨[i64 x],[],0⟩:GRes)) r)) 0 A)(ix:Nat)(h:gE (List.drop ix l) ix=r):A (hd f161 0) (lF l (ix:Int)):=by
 refine hA.go (yY l (ix:Int)) (ak (fun h1=>?_) (fun h1=>?_))
 ·have h1:=oT h1
  have hil:ix<l.length:=by omega
  rw[aX hil Ty.int.dflt,gE]at h
  refine⟨⟨⟨(by omega),(by omega)⟩,tv⟩,_,c311 _,?_⟩
  refine ah h (fun g1 h=>?_) (fun g1 h=>?_)
  ·exact⟨tv,.of_eq (by rw[← h];try rfl)⟩
  ·rw[aw (by omega)]
   exact mn l hl  hA (ix+1) h
 ·have h1:=oF h1
  rw[dN (by omega),gE]at h
  exact⟨tv,.of_eq (by rw[← h];try rfl)⟩
termination_by l.length-ix
decreasing_by all_goals omega
def oS (l:List Int):Int:=gE l 0
theorem HO (l:List Int)(hl:l.length<=1000000):Gc prog 161 [.d (.sl .int l),.clo (.func 311) [] []] [] 0 ((fun x:Int=>(⟨[i64 x],[],0⟩:GRes)) (oS l)):=
 Gc.of_closed (C:=codes) (S:=sigs) mixed func161 (by kernel_rfl) (fun i T t ys hi h=>⟨ys,h,rfl⟩) fun A hA=>hA.go (Fc l) (by
  generalize h:oS l=r at hA ⊢
  unfold oS at h
  exact mn l hl  hA 0 h)
def gM (m:Model):List Int->Nat->Int
 | [],ix=>(-1:Int)
 | z::zs,ix=>bif (m93 m (z))then(ix:Int)else gM m zs (ix+1)
theorem nC (m:Model)(l:List Int)(hl:l.length<=1000000)  {r:Int}{A:List Item->AS->Prop}(hA:Closed prog codes sigs f161 (eG 1) (fun r'=>GRes.Le r' ((fun x:Int=>(⟨[i64 x],[(0,.box (ja m))],1⟩:GRes)) r)) 1 A)(ix:Nat)(h:gM m (List.drop ix l) ix=r):A (hd f161 0) (ni m l (ix:Int)):=by
 refine hA.go (CN m l (ix:Int)) (ak (fun h1=>?_) (fun h1=>?_))
 ·have h1:=oT h1
  have hil:ix<l.length:=by omega
  rw[aX hil Ty.int.dflt,gM]at h
  refine⟨⟨⟨(by omega),(by omega)⟩,tv⟩,_,c93 _ _,?_⟩
  refine ah h (fun g1 h=>?_) (fun g1 h=>?_)
  ·exact⟨tv,.of_eq (by rw[← h];try rfl)⟩
  ·rw[aw (by omega)]
   exact nC m l hl  hA (ix+1) h
 ·have h1:=oF h1
  rw[dN (by omega),gM]at h
  exact⟨tv,.of_eq (by rw[← h];try rfl)⟩
termination_by l.length-ix
decreasing_by all_goals omega
def qU (m:Model)(l:List Int):Int:=gM m l 0
theorem Kg (m:Model)(l:List Int)(hl:l.length<=1000000):Gc prog 161 [.d (.sl .int l),.clo (.func 93) [] [.ptr 0 0]] [(0,.box (ja m))] 1 ((fun x:Int=>(⟨[i64 x],[(0,.box (ja m))],1⟩:GRes)) (qU m l)):=
 Gc.of_closed (C:=codes) (S:=sigs) mixed func161 (by kernel_rfl) (fun i T t ys hi h=>⟨ys,h,rfl⟩) fun A hA=>hA.go (II m l) (by
  generalize h:qU m l=r at hA ⊢
  unfold qU at h
  exact nC m l hl  hA 0 h)
def gG :List Int->Nat->Int
 | [],ix=>(-1:Int)
 | z::zs,ix=>bif (GC (z))then(ix:Int)else gG zs (ix+1)
theorem mt (l:List Int)(hl:l.length<=1000000)  {r:Int}{A:List Item->AS->Prop}(hA:Closed prog codes sigs f161 (eG 0) (fun r'=>GRes.Le r' ((fun x:Int=>(⟨[i64 x],[],0⟩:GRes)) r)) 0 A)(ix:Nat)(h:gG (List.drop ix l) ix=r):A (hd f161 0) (lH l (ix:Int)):=by
 refine hA.go (za l (ix:Int)) (ak (fun h1=>?_) (fun h1=>?_))
 ·have h1:=oT h1
  have hil:ix<l.length:=by omega
  rw[aX hil Ty.int.dflt,gG]at h
  refine⟨⟨⟨(by omega),(by omega)⟩,tv⟩,_,c222 _,?_⟩
  refine ah h (fun g1 h=>?_) (fun g1 h=>?_)
  ·exact⟨tv,.of_eq (by rw[← h];try rfl)⟩
  ·rw[aw (by omega)]
   exact mt l hl  hA (ix+1) h
 ·have h1:=oF h1
  rw[dN (by omega),gG]at h
  exact⟨tv,.of_eq (by rw[← h];try rfl)⟩
termination_by l.length-ix
decreasing_by all_goals omega
def oU (l:List Int):Int:=gG l 0
theorem HP (l:List Int)(hl:l.length<=1000000):Gc prog 161 [.d (.sl .int l),.clo (.func 222) [] []] [] 0 ((fun x:Int=>(⟨[i64 x],[],0⟩:GRes)) (oU l)):=
 Gc.of_closed (C:=codes) (S:=sigs) mixed func161 (by kernel_rfl) (fun i T t ys hi h=>⟨ys,h,rfl⟩) fun A hA=>hA.go (Fe l) (by
  generalize h:oU l=r at hA ⊢
  unfold oU at h
  exact mt l hl  hA 0 h)
def gF (o:List Int):List Int->Nat->Int
 | [],ix=>(-1:Int)
 | z::zs,ix=>bif (np o (z))then(ix:Int)else gF o zs (ix+1)
theorem mr (o l:List Int)(hl:l.length<=1000000)  {r:Int}{A:List Item->AS->Prop}(hA:Closed prog codes sigs f161 (eG 1) (fun r'=>GRes.Le r' ((fun x:Int=>(⟨[i64 x],[(0,.box [.d (.sl .int o)])],1⟩:GRes)) r)) 1 A)(ix:Nat)(h:gF o (List.drop ix l) ix=r):A (hd f161 0) (lG o l (ix:Int)):=by
 refine hA.go (yZ o l (ix:Int)) (ak (fun h1=>?_) (fun h1=>?_))
 ·have h1:=oT h1
  have hil:ix<l.length:=by omega
  rw[aX hil Ty.int.dflt,gF]at h
  refine⟨⟨⟨(by omega),(by omega)⟩,tv⟩,_,c301 _ _,?_⟩
  refine ah h (fun g1 h=>?_) (fun g1 h=>?_)
  ·exact⟨tv,.of_eq (by rw[← h];try rfl)⟩
  ·rw[aw (by omega)]
   exact mr o l hl  hA (ix+1) h
 ·have h1:=oF h1
  rw[dN (by omega),gF]at h
  exact⟨tv,.of_eq (by rw[← h];try rfl)⟩
termination_by l.length-ix
decreasing_by all_goals omega
def dS (o l:List Int):Int:=gF o l 0
theorem yB (o l:List Int)(hl:l.length<=1000000):Gc prog 161 [.d (.sl .int l),.clo (.func 301) [] [.ptr 0 0]] [(0,.box [.d (.sl .int o)])] 1 ((fun x:Int=>(⟨[i64 x],[(0,.box [.d (.sl .int o)])],1⟩:GRes)) (dS o l)):=
 Gc.of_closed (C:=codes) (S:=sigs) mixed func161 (by kernel_rfl) (fun i T t ys hi h=>⟨ys,h,rfl⟩) fun A hA=>hA.go (Fd o l) (by
  generalize h:dS o l=r at hA ⊢
  unfold dS at h
  exact mr o l hl  hA 0 h)
def qT (l:List Int):Bool:=decide ((oS l)>=(0:Int))
theorem JZ (l:List Int)(hl:l.length<=1000000):Gc prog 92 [.d (.sl .int l),.clo (.func 311) [] []] [] 0 ((fun x:Bool=>(⟨[ca x],[],0⟩:GRes)) (qT l)):=
 Gc.of_closed (C:=codes) (S:=sigs) mixed func92 (by kernel_rfl) (fun i T t ys hi h=>⟨ys,h,rfl⟩) fun A hA=>hA.go (IE l) (by
  generalize h:qT l=r at hA ⊢
  unfold qT at h
  exact⟨_,HO _ (by omega),tv,.of_eq (by rw[← h];try rfl)⟩)
def pD (m:Model)(l:List Int):Bool:=decide ((qU m l)>=(0:Int))
theorem ML (m:Model)(l:List Int)(hl:l.length<=1000000):Gc prog 92 [.d (.sl .int l),.clo (.func 93) [] [.ptr 0 0]] [(0,.box (ja m))] 1 ((fun x:Bool=>(⟨[ca x],[(0,.box (ja m))],1⟩:GRes)) (pD m l)):=
 Gc.of_closed (C:=codes) (S:=sigs) mixed func92 (by kernel_rfl) (fun i T t ys hi h=>⟨ys,h,rfl⟩) fun A hA=>hA.go (KZ m l) (by
  generalize h:pD m l=r at hA ⊢
  unfold pD at h
  exact⟨_,Kg _ _ (by omega),tv,.of_eq (by rw[← h];try rfl)⟩)
def oL (l:List Int):Bool:=decide ((oU l)>=(0:Int))
theorem Ka (l:List Int)(hl:l.length<=1000000):Gc prog 92 [.d (.sl .int l),.clo (.func 222) [] []] [] 0 ((fun x:Bool=>(⟨[ca x],[],0⟩:GRes)) (oL l)):=
 Gc.of_closed (C:=codes) (S:=sigs) mixed func92 (by kernel_rfl) (fun i T t ys hi h=>⟨ys,h,rfl⟩) fun A hA=>hA.go (IF l) (by
  generalize h:oL l=r at hA ⊢
  unfold oL at h
  exact⟨_,HP _ (by omega),tv,.of_eq (by rw[← h];try rfl)⟩)
def DG (c:Cell):Int:=bif (!(dc c))then(0:Int)else w64 (c.cap-c.vol)
theorem c326 (c:Cell) :Pure prog 326 [⟨.cell,c⟩] [.int] (DG c):=
 Pure.of_closed (C:=codes) (S:=sigs) mixed func326 (by kernel_rfl) (ac (by kernel_rfl)) fun A hA=>hA.go (t326 c) (by
  generalize h:DG c=r at hA ⊢
  unfold DG at h
  refine⟨⟨q4,tv⟩,_,Mn.HN _,?_⟩
  refine ah h (fun g1 h=>?_) (fun g1 h=>?_)
  ·exact⟨q2,h⟩
  ·exact⟨q2,h⟩)
def zB (c:Cell)(n:Int):Cell×Int:=bif (!(dc c))then(Cell.mk (0:Int) (0:Int) (0:Int),(100:Int))else bif (n==(0:Int))then(Cell.mk (0:Int) (0:Int) (0:Int),(1:Int))else bif (c.ver==(2147483647:Int))then(Cell.mk (0:Int) (0:Int) (0:Int),(101:Int))else bif decide (n<w64 ((0:Int)-c.vol))then(Cell.mk (0:Int) (0:Int) (0:Int),(102:Int))else bif decide (n>(DG c))then(Cell.mk (0:Int) (0:Int) (0:Int),(103:Int))else(Cell.mk c.cap (w64 (c.vol+n)) (w64 (c.ver+(1:Int))),(0:Int))
theorem Pe (c:Cell)(n:Int) :Pure prog 315 [⟨.cell,c⟩,⟨.int,n⟩] [.cell,.int] (zB c n):=
 Pure.of_closed (C:=codes) (S:=sigs) mixed func315 (by kernel_rfl) (ac (by kernel_rfl)) fun A hA=>hA.go (t315 c n) (by
  generalize h:zB c n=r at hA ⊢
  unfold zB at h
  refine⟨⟨q4,tv⟩,_,Mn.HN _,?_⟩
  refine ah h (fun g1 h=>?_) (fun g1 h=>?_)
  ·exact⟨⟨q4,tv,tv⟩,h⟩
  ·refine ah h (fun g2 h=>?_) (fun g2 h=>?_)
   ·exact⟨⟨q4,tv,tv⟩,h⟩
   ·refine ah h (fun g3 h=>?_) (fun g3 h=>?_)
    ·exact⟨⟨q4,tv,tv⟩,h⟩
    ·refine ah h (fun g4 h=>?_) (fun g4 h=>?_)
     ·have g4:=oT g4
      exact⟨⟨q4,tv,tv⟩,h⟩
     ·have g4:=oF g4
      refine⟨⟨q4,tv⟩,_,c326 _,?_⟩
      refine ah h (fun g5 h=>?_) (fun g5 h=>?_)
      ·have g5:=oT g5
       exact⟨⟨q4,tv,tv⟩,h⟩
      ·have g5:=oF g5
       exact⟨⟨q4,tv,tv⟩,h⟩)
def vR (c:Cell)(n s:Int):Cell×Int:=bif (dc c)then bif decide (n<(1:Int))then(Cell.mk (0:Int) (0:Int) (0:Int),(1:Int))else let y1:=zB c (w64 (s*n));(y1.1,y1.2)else let y2:=zB c (w64 (s*n));(y2.1,y2.2)
theorem Pf (c:Cell)(n s:Int) :Pure prog 306 [⟨.cell,c⟩,⟨.int,n⟩,⟨.int,s⟩] [.cell,.int] (vR c n s):=
 Pure.of_closed (C:=codes) (S:=sigs) mixed func306 (by kernel_rfl) (ac (by kernel_rfl)) fun A hA=>hA.go (t306 c n s) (by
  generalize h:vR c n s=r at hA ⊢
  unfold vR at h
  refine⟨⟨q4,tv⟩,_,Mn.HN _,?_⟩
  refine ah h (fun g1 h=>?_) (fun g1 h=>?_)
  ·refine ah h (fun g2 h=>?_) (fun g2 h=>?_)
   ·have g2:=oT g2
    exact⟨⟨q4,tv,tv⟩,h⟩
   ·have g2:=oF g2
    exact⟨⟨q4,q2,tv⟩,_,Pe _ _,⟨q4,tv,tv⟩,h⟩
  ·exact⟨⟨q4,q2,tv⟩,_,Pe _ _,⟨q4,tv,tv⟩,h⟩)
def tG (c:Cell)(n:Int):Cell×Int:=let y1:=vR c n (1:Int);(y1.1,y1.2)
theorem Pk (c:Cell)(n:Int) :Pure prog 282 [⟨.cell,c⟩,⟨.int,n⟩] [.cell,.int] (tG c n):=
 Pure.of_closed (C:=codes) (S:=sigs) mixed func282 (by kernel_rfl) (ac (by kernel_rfl)) fun A hA=>hA.go (t282 c n) (by
  generalize h:tG c n=r at hA ⊢
  unfold tG at h
  exact⟨⟨q4,q2,q2,tv⟩,_,Pf _ _ _,⟨q4,tv,tv⟩,h⟩)
def tF (c:Cell)(n:Int):Cell×Int:=let y1:=vR c n (-1:Int);(y1.1,y1.2)
theorem Pj (c:Cell)(n:Int) :Pure prog 284 [⟨.cell,c⟩,⟨.int,n⟩] [.cell,.int] (tF c n):=
 Pure.of_closed (C:=codes) (S:=sigs) mixed func284 (by kernel_rfl) (ac (by kernel_rfl)) fun A hA=>hA.go (t284 c n) (by
  generalize h:tF c n=r at hA ⊢
  unfold tF at h
  exact⟨⟨q4,q2,q2,tv⟩,_,Pf _ _ _,⟨q4,tv,tv⟩,h⟩)
def tH (a b:Cell)(n:Int):Cell×Cell×Int:=bif ((tF a n).2 != (0:Int))then(Cell.mk (0:Int) (0:Int) (0:Int),Cell.mk (0:Int) (0:Int) (0:Int),(tF a n).2)else bif ((tG b n).2 != (0:Int))then(Cell.mk (0:Int) (0:Int) (0:Int),Cell.mk (0:Int) (0:Int) (0:Int),(tG b n).2)else((tF a n).1,(tG b n).1,(0:Int))
theorem c279 (a b:Cell)(n:Int) :Pure prog 279 [⟨.cell,a⟩,⟨.cell,b⟩,⟨.int,n⟩] [.cell,.cell,.int] (tH a b n):=
 Pure.of_closed (C:=codes) (S:=sigs) mixed func279 (by kernel_rfl) (ac (by kernel_rfl)) fun A hA=>hA.go (t279 a b n) (by
  generalize h:tH a b n=r at hA ⊢
  unfold tH at h
  refine⟨⟨q4,q2,tv⟩,_,Pj _ _,?_⟩
  refine ah h (fun g1 h=>?_) (fun g1 h=>?_)
  ·exact⟨⟨q4,q4,tv,tv⟩,h⟩
  ·refine⟨⟨q4,q2,tv⟩,_,Pk _ _,?_⟩
   refine ah h (fun g2 h=>?_) (fun g2 h=>?_)
   ·exact⟨⟨q4,q4,tv,tv⟩,h⟩
   ·exact⟨⟨q4,q4,tv,tv⟩,h⟩)
def Jy (c:Cell)(n:Int):Cell×Int:=bif (c.ver==(2147483647:Int))then(Cell.mk (0:Int) (0:Int) (0:Int),(101:Int))else bif decide (n<w64 ((0:Int)-c.vol))then(Cell.mk (0:Int) (0:Int) (0:Int),(102:Int))else bif decide (n>w64 (c.cap-c.vol))then(Cell.mk (0:Int) (0:Int) (0:Int),(103:Int))else(Cell.mk c.cap (w64 (c.vol+n)) (w64 (c.ver+(1:Int))),(0:Int))
def nV (c:Cell)(n:Int):Cell×Int:=bif (!(dc c))then(Cell.mk (0:Int) (0:Int) (0:Int),(100:Int))else bif (n==(0:Int))then(Cell.mk (0:Int) (0:Int) (0:Int),(1:Int))else((Jy c n).1,(Jy c n).2)
def pG (c:Cell)(n:Int):Cell×Int:=bif (dc c)then bif decide (n<(1:Int))then(Cell.mk (0:Int) (0:Int) (0:Int),(1:Int))else((nV c n).1,(nV c n).2)else((nV c n).1,(nV c n).2)
def nX (c:Cell)(n:Int):Cell×Int:=bif (dc c)then bif decide (n<(1:Int))then(Cell.mk (0:Int) (0:Int) (0:Int),(1:Int))else bif decide (n<(1:Int))then(Cell.mk (0:Int) (0:Int) (0:Int),(100:Int))else let y1:=nV c (w64 ((0:Int)-n));(y1.1,y1.2)else bif decide (n<(1:Int))then(Cell.mk (0:Int) (0:Int) (0:Int),(100:Int))else let y2:=nV c (w64 ((0:Int)-n));(y2.1,y2.2)
def GA (a b:Cell)(n:Int):Cell×Cell×Int:=bif ((nX a n).2 != (0:Int))then(Cell.mk (0:Int) (0:Int) (0:Int),Cell.mk (0:Int) (0:Int) (0:Int),(nX a n).2)else bif ((pG b n).2 != (0:Int))then(Cell.mk (0:Int) (0:Int) (0:Int),Cell.mk (0:Int) (0:Int) (0:Int),(pG b n).2)else((nX a n).1,(pG b n).1,(0:Int))
def Gx (w e:Int):Int:=bif (w==(1:Int))then(120:Int)else bif (w==(2:Int))then(1:Int)else bif (w==(3:Int))then e else(0:Int)
theorem c313 (w e:Int) :Pure prog 313 [⟨.int,w⟩,⟨.int,e⟩] [.int] (Gx w e):=
 Pure.of_closed (C:=codes) (S:=sigs) mixed func313 (by kernel_rfl) (ac (by kernel_rfl)) fun A hA=>hA.go (t313 w e) (by
  generalize h:Gx w e=r at hA ⊢
  unfold Gx at h
  refine ah h (fun g1 h=>?_) (fun g1 h=>?_)
  ·exact⟨q2,h⟩
  ·refine ah h (fun g2 h=>?_) (fun g2 h=>?_)
   ·exact⟨q2,h⟩
   ·refine ah h (fun g3 h=>?_) (fun g3 h=>?_)
    ·exact⟨q2,h⟩
    ·exact⟨q2,h⟩)
def zC (t:Tip)(b:Int)(w:Tip):Int:=bif (!(fJ t))then(1:Int)else bif (!(oh b))then(2:Int)else bif (!(t.state==w.state&&(t.by'==w.by'&&true)))then(3:Int)else(0:Int)
theorem c314 (t:Tip)(b:Int)(w:Tip) :Pure prog 314 [⟨.tip,t⟩,⟨.int,b⟩,⟨.tip,w⟩] [.int] (zC t b w):=
 Pure.of_closed (C:=codes) (S:=sigs) mixed func314 (by kernel_rfl) (ac (by kernel_rfl)) fun A hA=>hA.go (t314 t b w) (by
  generalize h:zC t b w=r at hA ⊢
  unfold zC at h
  refine⟨⟨q3,tv⟩,_,Mn.MQ _,?_⟩
  refine ah h (fun g1 h=>?_) (fun g1 h=>?_)
  ·exact⟨q2,h⟩
  ·refine⟨⟨q2,tv⟩,_,Mn.Pm _,?_⟩
   refine ah h (fun g2 h=>?_) (fun g2 h=>?_)
   ·exact⟨q2,h⟩
   ·refine ah h (fun g3 h=>?_) (fun g3 h=>?_)
    ·exact⟨q2,h⟩
    ·exact⟨q2,h⟩)
def vS (t:Tip)(b:Int)(f w:Tip)(e:Int):Tip×Int:=bif ((Gx (zC t b f) e) != (0:Int))then(Tip.mk (0:Int) (0:Int),(Gx (zC t b f) e))else(w,(0:Int))
theorem Pg (t:Tip)(b:Int)(f w:Tip)(e:Int) :Pure prog 304 [⟨.tip,t⟩,⟨.int,b⟩,⟨.tip,f⟩,⟨.tip,w⟩,⟨.int,e⟩] [.tip,.int] (vS t b f w e):=
 Pure.of_closed (C:=codes) (S:=sigs) mixed func304 (by kernel_rfl) (ac (by kernel_rfl)) fun A hA=>hA.go (t304 t b f w e) (by
  generalize h:vS t b f w e=r at hA ⊢
  unfold vS at h
  refine⟨⟨q3,q2,q3,tv⟩,_,c314 _ _ _,⟨q2,q2,tv⟩,_,c313 _ _,?_⟩
  refine ah h (fun g1 h=>?_) (fun g1 h=>?_)
  ·exact⟨⟨q3,tv,tv⟩,h⟩
  ·exact⟨⟨q3,tv,tv⟩,h⟩)
def DN (t:Tip)(b:Int):Tip×Int:=let y1:=vS t b (Tip.mk (1:Int) (0:Int)) (Tip.mk (2:Int) b) (121:Int);(y1.1,y1.2)
theorem c276 (t:Tip)(b:Int) :Pure prog 276 [⟨.tip,t⟩,⟨.int,b⟩] [.tip,.int] (DN t b):=
 Pure.of_closed (C:=codes) (S:=sigs) mixed func276 (by kernel_rfl) (ac (by kernel_rfl)) fun A hA=>hA.go (t276 t b) (by
  generalize h:DN t b=r at hA ⊢
  unfold DN at h
  exact⟨⟨q3,q2,q3,q3,q2,tv⟩,_,Pg _ _ _ _ _,⟨q3,tv,tv⟩,h⟩)
def DM (t:Tip)(b:Int):Tip×Int:=let y1:=vS t b (Tip.mk (2:Int) b) (Tip.mk (3:Int) (0:Int)) (122:Int);(y1.1,y1.2)
theorem c277 (t:Tip)(b:Int) :Pure prog 277 [⟨.tip,t⟩,⟨.int,b⟩] [.tip,.int] (DM t b):=
 Pure.of_closed (C:=codes) (S:=sigs) mixed func277 (by kernel_rfl) (ac (by kernel_rfl)) fun A hA=>hA.go (t277 t b) (by
  generalize h:DM t b=r at hA ⊢
  unfold DM at h
  exact⟨⟨q3,q2,q3,q3,q2,tv⟩,_,Pg _ _ _ _ _,⟨q3,tv,tv⟩,h⟩)
def GD (t:Tip)(b:Int):Tip×Int:=bif (!(fJ t))then(Tip.mk (0:Int) (0:Int),(120:Int))else bif (!(oh b))then(Tip.mk (0:Int) (0:Int),(1:Int))else bif (t.state != (1:Int))then(Tip.mk (0:Int) (0:Int),(121:Int))else(Tip.mk (2:Int) b,(0:Int))
def DK (o:List Int):Bool := !(qT o)
theorem Pi (o:List Int)(hl:o.length<=1000000):Pure prog 298 [⟨.sl .int,o⟩] [.bool] (DK o):=
 Pure.of_closed (C:=codes) (S:=sigs) mixed func298 (by kernel_rfl) (ac (by kernel_rfl)) fun A hA=>hA.go (t298 o) (by
  generalize h:DK o=r at hA ⊢
  unfold DK at h
  exact⟨_,JZ _ (by omega),q2,h⟩)
def nU (l:List Int):List Int->Nat->Bool
 | [],ix=>true
 | z::zs,ix=>bif decide (z<=l.getD (w64 ((ix:Int)-(1:Int))).toNat Ty.int.dflt)then false else nU l zs (ix+1)
theorem sq (l:List Int)(hl:l.length<=1000000)  {r:Bool}{A:Pr}(hA:CL codes sigs f300 [.bool] r A)(ix:Nat)(hv:1<=ix)(h:nU l (List.drop ix l) ix=r):A (hd f300 0) (wH l (ix:Int)):=by
 refine hA.go (Lp l (ix:Int)) (ak (fun h1=>?_) (fun h1=>?_))
 ·have h1:=oT h1
  have hil:ix<l.length:=by omega
  rw[aX hil Ty.int.dflt,nU]at h
  refine⟨⟨⟨(by omega),(by omega)⟩,tv⟩,⟨⟨(by first|omega|(rw[ax (by omega) (by omega)];omega)),(by first|omega|(rw[ax (by omega) (by omega)];omega))⟩,tv⟩,?_⟩
  refine ah h (fun g1 h=>?_) (fun g1 h=>?_)
  ·have g1:=oT g1
   exact⟨q2,h⟩
  ·have g1:=oF g1
   rw[aw (by omega)]
   exact sq l hl  hA (ix+1) (by omega) h
 ·have h1:=oF h1
  rw[dN (by omega),nU]at h
  exact⟨q2,h⟩
termination_by l.length-ix
decreasing_by all_goals omega
def DJ (l:List Int):Bool:=nU l (List.drop 1 l) 1
theorem Ph (l:List Int)(hl:l.length<=1000000):Pure prog 300 [⟨.sl .int,l⟩] [.bool] (DJ l):=
 Pure.of_closed (C:=codes) (S:=sigs) mixed func300 (by kernel_rfl) (ac (by kernel_rfl)) fun A hA=>hA.go (t300 l) (by
  generalize h:DJ l=r at hA ⊢
  unfold DJ at h
  exact sq l hl  hA 1 (by decide) h)
def pI :List Int->Nat->Bool
 | [],ix=>true
 | z::zs,ix=>bif decide (z<(0:Int))then false else bif decide (z>(8:Int))then false else pI zs (ix+1)
def xQ (o:List Int):Bool:=pI o 0
def pH (l:List Int):List Int->Nat->Bool
 | [],ix=>true
 | z::zs,ix=>bif decide (l.getD (w64 ((ix:Int)-(1:Int))).toNat Ty.int.dflt>=z)then false else pH l zs (ix+1)
def zG (l:List Int):Bool:=pH l (List.drop 1 l) 1
def qF (s:Stock)(i:Int):Bool:=bif decide (i>=(0:Int))then decide (i<(s.cells.length:Int))else false
def m98 (e i:Int):Resp:=Resp.mk e i (0:Int) (0:Int) []
theorem c98 (e i:Int) :Pure prog 98 [⟨.int,e⟩,⟨.int,i⟩] [.resp] (m98 e i):=
 Pure.of_closed (C:=codes) (S:=sigs) mixed func98 (by kernel_rfl) (ac (by kernel_rfl)) fun A hA=>hA.go (t98 e i) (by
  generalize h:m98 e i=r at hA ⊢
  unfold m98 at h
  exact⟨q6,h⟩)
end Go.Proofs.Mo

namespace Go.Proofs.Mo
open Go.Proofs.Tryz
open Go Go.VL
theorem LI (xs:List Int):@Eq (Out GRes) (bj prog codes sigs f147 (eG 0) 0 ⟨[],true⟩ 100 false (cx f147) (gh f147 [.d (.sl .int xs)] [] 0)) (.ask (fun(b:Bool)=>b=true->xs.length=0) fun(b:Bool)=>bif b then .stop (rt f147 0) (mkS 8 [(2,nS)] [] 0)else .need True (.need ((0+xs.length)*9<=35184372088832/\True) (.stop (rt f147 1) (mkS 8 [(2,.own 0 .int)] [(0,.row 3 .int ([]++xs))] 1)))):=by kernel_rfl
theorem LH (xs:List Int):@Eq (Out GRes) (bj prog codes sigs f147 (eG 0) 0 fu 100 true (rt f147 0) (mkS 8 [(2,.own 0 .int)] [(0,.row 3 .int xs)] 1)) (.need True (.ret ⟨[.own 0 .int],[(0,.row 3 .int xs)],1⟩)):=by kernel_rfl
theorem LG (xs:List Int):@Eq (Out GRes) (bj prog codes sigs f147 (eG 0) 0 fu 100 true (rt f147 1) (mkS 8 [(2,.own 0 .int)] [(0,.row 3 .int xs)] 1)) (.need True (.ret ⟨[.own 0 .int],[(0,.row 3 .int xs)],1⟩)):=by kernel_rfl
theorem wB {xs:List Int}(hl:xs.length<=1000000):Gc prog 147 [.d (.sl .int xs)] [] 0 ⟨[.own 0 .int],[(0,.row 3 .int xs)],1⟩:=
 Gc.of_closed (C:=codes) (S:=sigs) mixed func147 (by kernel_rfl) (fun i T t ys hi _=>absurd hi (bG _)) fun A hA=>
  hA.go (LI xs) fun b hb=>ak (fun h=>by
   have hx:xs=[]:=az (hb h)
   subst hx
   exact hA.row 2 3 .int (by kernel_rfl) (s':=mkS 8 [(2,.own 0 .int)] [(0,.row 3 .int [])] 1) (by kernel_rfl) (hA.go (LH []) ⟨tv,.of_eq rfl⟩))
   (fun _=>⟨tv,⟨by omega,tv⟩,hA.go (LG xs) ⟨tv,.of_eq rfl⟩⟩)
theorem LF (xs:List Cell):@Eq (Out GRes) (bj prog codes sigs f148 (eG 0) 0 ⟨[],true⟩ 100 false (cx f148) (gh f148 [.d (.sl .cell xs)] [] 0)) (.ask (fun(b:Bool)=>b=true->xs.length=0) fun(b:Bool)=>bif b then .stop (rt f148 0) (mkS 8 [(2,nS)] [] 0)else .need True (.need ((0+xs.length)*25<=35184372088832/\True) (.stop (rt f148 1) (mkS 8 [(2,.own 0 .cell)] [(0,.row 76 .cell ([]++xs))] 1)))):=by kernel_rfl
theorem LE (xs:List Cell):@Eq (Out GRes) (bj prog codes sigs f148 (eG 0) 0 fu 100 true (rt f148 0) (mkS 8 [(2,.own 0 .cell)] [(0,.row 76 .cell xs)] 1)) (.need True (.ret ⟨[.own 0 .cell],[(0,.row 76 .cell xs)],1⟩)):=by kernel_rfl
theorem LD (xs:List Cell):@Eq (Out GRes) (bj prog codes sigs f148 (eG 0) 0 fu 100 true (rt f148 1) (mkS 8 [(2,.own 0 .cell)] [(0,.row 76 .cell xs)] 1)) (.need True (.ret ⟨[.own 0 .cell],[(0,.row 76 .cell xs)],1⟩)):=by kernel_rfl
theorem Ki {xs:List Cell}(hl:xs.length<=1000000):Gc prog 148 [.d (.sl .cell xs)] [] 0 ⟨[.own 0 .cell],[(0,.row 76 .cell xs)],1⟩:=
 Gc.of_closed (C:=codes) (S:=sigs) mixed func148 (by kernel_rfl) (fun i T t ys hi _=>absurd hi (bG _)) fun A hA=>
  hA.go (LF xs) fun b hb=>ak (fun h=>by
   have hx:xs=[]:=az (hb h)
   subst hx
   exact hA.row 2 76 .cell (by kernel_rfl) (s':=mkS 8 [(2,.own 0 .cell)] [(0,.row 76 .cell [])] 1) (by kernel_rfl) (hA.go (LE []) ⟨tv,.of_eq rfl⟩))
   (fun _=>⟨tv,⟨by omega,tv⟩,hA.go (LD xs) ⟨tv,.of_eq rfl⟩⟩)
theorem t149 (xs:List Log):@Eq (Out GRes) (bj prog codes sigs f149 (eG 0) 0 ⟨[],true⟩ 100 false (cx f149) (gh f149 [.d (.sl .log xs)] [] 0)) (.ask (fun(b:Bool)=>b=true->xs.length=0) fun(b:Bool)=>bif b then .stop (rt f149 0) (mkS 8 [(2,nS)] [] 0)else .need True (.need ((0+xs.length)*41<=35184372088832/\True) (.stop (rt f149 1) (mkS 8 [(2,.own 0 .log)] [(0,.row 146 .log ([]++xs))] 1)))):=by kernel_rfl
theorem LC (xs:List Log):@Eq (Out GRes) (bj prog codes sigs f149 (eG 0) 0 fu 100 true (rt f149 0) (mkS 8 [(2,.own 0 .log)] [(0,.row 146 .log xs)] 1)) (.need True (.ret ⟨[.own 0 .log],[(0,.row 146 .log xs)],1⟩)):=by kernel_rfl
theorem LB (xs:List Log):@Eq (Out GRes) (bj prog codes sigs f149 (eG 0) 0 fu 100 true (rt f149 1) (mkS 8 [(2,.own 0 .log)] [(0,.row 146 .log xs)] 1)) (.need True (.ret ⟨[.own 0 .log],[(0,.row 146 .log xs)],1⟩)):=by kernel_rfl
theorem Px {xs:List Log}(hl:xs.length<=1000000):Gc prog 149 [.d (.sl .log xs)] [] 0 ⟨[.own 0 .log],[(0,.row 146 .log xs)],1⟩:=
 Gc.of_closed (C:=codes) (S:=sigs) mixed func149 (by kernel_rfl) (fun i T t ys hi _=>absurd hi (bG _)) fun A hA=>
  hA.go (t149 xs) fun b hb=>ak (fun h=>by
   have hx:xs=[]:=az (hb h)
   subst hx
   exact hA.row 2 146 .log (by kernel_rfl) (s':=mkS 8 [(2,.own 0 .log)] [(0,.row 146 .log [])] 1) (by kernel_rfl) (hA.go (LC []) ⟨tv,.of_eq rfl⟩))
   (fun _=>⟨tv,⟨by omega,tv⟩,hA.go (LB xs) ⟨tv,.of_eq rfl⟩⟩)
theorem t150 (xs:List Change):@Eq (Out GRes) (bj prog codes sigs f150 (eG 0) 0 ⟨[],true⟩ 100 false (cx f150) (gh f150 [.d (.sl .change xs)] [] 0)) (.ask (fun(b:Bool)=>b=true->xs.length=0) fun(b:Bool)=>bif b then .stop (rt f150 0) (mkS 8 [(2,nS)] [] 0)else .need True (.need ((0+xs.length)*25<=35184372088832/\True) (.stop (rt f150 1) (mkS 8 [(2,.own 0 .change)] [(0,.row 148 .change ([]++xs))] 1)))):=by kernel_rfl
theorem LA (xs:List Change):@Eq (Out GRes) (bj prog codes sigs f150 (eG 0) 0 fu 100 true (rt f150 0) (mkS 8 [(2,.own 0 .change)] [(0,.row 148 .change xs)] 1)) (.need True (.ret ⟨[.own 0 .change],[(0,.row 148 .change xs)],1⟩)):=by kernel_rfl
theorem Lz (xs:List Change):@Eq (Out GRes) (bj prog codes sigs f150 (eG 0) 0 fu 100 true (rt f150 1) (mkS 8 [(2,.own 0 .change)] [(0,.row 148 .change xs)] 1)) (.need True (.ret ⟨[.own 0 .change],[(0,.row 148 .change xs)],1⟩)):=by kernel_rfl
theorem Pw {xs:List Change}(hl:xs.length<=1000000):Gc prog 150 [.d (.sl .change xs)] [] 0 ⟨[.own 0 .change],[(0,.row 148 .change xs)],1⟩:=
 Gc.of_closed (C:=codes) (S:=sigs) mixed func150 (by kernel_rfl) (fun i T t ys hi _=>absurd hi (bG _)) fun A hA=>
  hA.go (t150 xs) fun b hb=>ak (fun h=>by
   have hx:xs=[]:=az (hb h)
   subst hx
   exact hA.row 2 148 .change (by kernel_rfl) (s':=mkS 8 [(2,.own 0 .change)] [(0,.row 148 .change [])] 1) (by kernel_rfl) (hA.go (LA []) ⟨tv,.of_eq rfl⟩))
   (fun _=>⟨tv,⟨by omega,tv⟩,hA.go (Lz xs) ⟨tv,.of_eq rfl⟩⟩)
theorem t151 (xs:List Tip):@Eq (Out GRes) (bj prog codes sigs f151 (eG 0) 0 ⟨[],true⟩ 100 false (cx f151) (gh f151 [.d (.sl .tip xs)] [] 0)) (.ask (fun(b:Bool)=>b=true->xs.length=0) fun(b:Bool)=>bif b then .stop (rt f151 0) (mkS 8 [(2,nS)] [] 0)else .need True (.need ((0+xs.length)*17<=35184372088832/\True) (.stop (rt f151 1) (mkS 8 [(2,.own 0 .tip)] [(0,.row 194 .tip ([]++xs))] 1)))):=by kernel_rfl
theorem Ly (xs:List Tip):@Eq (Out GRes) (bj prog codes sigs f151 (eG 0) 0 fu 100 true (rt f151 0) (mkS 8 [(2,.own 0 .tip)] [(0,.row 194 .tip xs)] 1)) (.need True (.ret ⟨[.own 0 .tip],[(0,.row 194 .tip xs)],1⟩)):=by kernel_rfl
theorem Lx (xs:List Tip):@Eq (Out GRes) (bj prog codes sigs f151 (eG 0) 0 fu 100 true (rt f151 1) (mkS 8 [(2,.own 0 .tip)] [(0,.row 194 .tip xs)] 1)) (.need True (.ret ⟨[.own 0 .tip],[(0,.row 194 .tip xs)],1⟩)):=by kernel_rfl
theorem Pv {xs:List Tip}(hl:xs.length<=1000000):Gc prog 151 [.d (.sl .tip xs)] [] 0 ⟨[.own 0 .tip],[(0,.row 194 .tip xs)],1⟩:=
 Gc.of_closed (C:=codes) (S:=sigs) mixed func151 (by kernel_rfl) (fun i T t ys hi _=>absurd hi (bG _)) fun A hA=>
  hA.go (t151 xs) fun b hb=>ak (fun h=>by
   have hx:xs=[]:=az (hb h)
   subst hx
   exact hA.row 2 194 .tip (by kernel_rfl) (s':=mkS 8 [(2,.own 0 .tip)] [(0,.row 194 .tip [])] 1) (by kernel_rfl) (hA.go (Ly []) ⟨tv,.of_eq rfl⟩))
   (fun _=>⟨tv,⟨by omega,tv⟩,hA.go (Lx xs) ⟨tv,.of_eq rfl⟩⟩)
theorem LR (xs:List Fl):@Eq (Out GRes) (bj prog codes sigs f144 (eG 0) 0 ⟨[],true⟩ 100 false (cx f144) (gh f144 [.d (.sl .flt xs)] [] 0)) (.ask (fun(b:Bool)=>b=true->xs.length=0) fun(b:Bool)=>bif b then .stop (rt f144 0) (mkS 8 [(2,nS)] [] 0)else .need True (.need ((0+xs.length)*9<=35184372088832/\True) (.stop (rt f144 1) (mkS 8 [(2,.own 0 .flt)] [(0,.row 92 .flt ([]++xs))] 1)))):=by kernel_rfl
theorem LQ (xs:List Fl):@Eq (Out GRes) (bj prog codes sigs f144 (eG 0) 0 fu 100 true (rt f144 0) (mkS 8 [(2,.own 0 .flt)] [(0,.row 92 .flt xs)] 1)) (.need True (.ret ⟨[.own 0 .flt],[(0,.row 92 .flt xs)],1⟩)):=by kernel_rfl
theorem LP (xs:List Fl):@Eq (Out GRes) (bj prog codes sigs f144 (eG 0) 0 fu 100 true (rt f144 1) (mkS 8 [(2,.own 0 .flt)] [(0,.row 92 .flt xs)] 1)) (.need True (.ret ⟨[.own 0 .flt],[(0,.row 92 .flt xs)],1⟩)):=by kernel_rfl
theorem Kj {xs:List Fl}(hl:xs.length<=1000000):Gc prog 144 [.d (.sl .flt xs)] [] 0 ⟨[.own 0 .flt],[(0,.row 92 .flt xs)],1⟩:=
 Gc.of_closed (C:=codes) (S:=sigs) mixed func144 (by kernel_rfl) (fun i T t ys hi _=>absurd hi (bG _)) fun A hA=>
  hA.go (LR xs) fun b hb=>ak (fun h=>by
   have hx:xs=[]:=az (hb h)
   subst hx
   exact hA.row 2 92 .flt (by kernel_rfl) (s':=mkS 8 [(2,.own 0 .flt)] [(0,.row 92 .flt [])] 1) (by kernel_rfl) (hA.go (LQ []) ⟨tv,.of_eq rfl⟩))
   (fun _=>⟨tv,⟨by omega,tv⟩,hA.go (LP xs) ⟨tv,.of_eq rfl⟩⟩)
theorem LO (xs:List Rack):@Eq (Out GRes) (bj prog codes sigs f145 (eG 0) 0 ⟨[],true⟩ 100 false (cx f145) (gh f145 [.d (.sl .rack xs)] [] 0)) (.ask (fun(b:Bool)=>b=true->xs.length=0) fun(b:Bool)=>bif b then .stop (rt f145 0) (mkS 8 [(2,nS)] [] 0)else .need True (.need ((0+xs.length)*41<=35184372088832/\True) (.stop (rt f145 1) (mkS 8 [(2,.own 0 .rack)] [(0,.row 166 .rack ([]++xs))] 1)))):=by kernel_rfl
theorem LN (xs:List Rack):@Eq (Out GRes) (bj prog codes sigs f145 (eG 0) 0 fu 100 true (rt f145 0) (mkS 8 [(2,.own 0 .rack)] [(0,.row 166 .rack xs)] 1)) (.need True (.ret ⟨[.own 0 .rack],[(0,.row 166 .rack xs)],1⟩)):=by kernel_rfl
theorem LM (xs:List Rack):@Eq (Out GRes) (bj prog codes sigs f145 (eG 0) 0 fu 100 true (rt f145 1) (mkS 8 [(2,.own 0 .rack)] [(0,.row 166 .rack xs)] 1)) (.need True (.ret ⟨[.own 0 .rack],[(0,.row 166 .rack xs)],1⟩)):=by kernel_rfl
theorem Ac {xs:List Rack}(hl:xs.length<=1000000):Gc prog 145 [.d (.sl .rack xs)] [] 0 ⟨[.own 0 .rack],[(0,.row 166 .rack xs)],1⟩:=
 Gc.of_closed (C:=codes) (S:=sigs) mixed func145 (by kernel_rfl) (fun i T t ys hi _=>absurd hi (bG _)) fun A hA=>
  hA.go (LO xs) fun b hb=>ak (fun h=>by
   have hx:xs=[]:=az (hb h)
   subst hx
   exact hA.row 2 166 .rack (by kernel_rfl) (s':=mkS 8 [(2,.own 0 .rack)] [(0,.row 166 .rack [])] 1) (by kernel_rfl) (hA.go (LN []) ⟨tv,.of_eq rfl⟩))
   (fun _=>⟨tv,⟨by omega,tv⟩,hA.go (LM xs) ⟨tv,.of_eq rfl⟩⟩)
theorem LL (xs:List Plate):@Eq (Out GRes) (bj prog codes sigs f146 (eG 0) 0 ⟨[],true⟩ 100 false (cx f146) (gh f146 [.d (.sl .plate xs)] [] 0)) (.ask (fun(b:Bool)=>b=true->xs.length=0) fun(b:Bool)=>bif b then .stop (rt f146 0) (mkS 8 [(2,nS)] [] 0)else .need True (.need ((0+xs.length)*73<=35184372088832/\True) (.stop (rt f146 1) (mkS 8 [(2,.own 0 .plate)] [(0,.row 116 .plate ([]++xs))] 1)))):=by kernel_rfl
theorem LK (xs:List Plate):@Eq (Out GRes) (bj prog codes sigs f146 (eG 0) 0 fu 100 true (rt f146 0) (mkS 8 [(2,.own 0 .plate)] [(0,.row 116 .plate xs)] 1)) (.need True (.ret ⟨[.own 0 .plate],[(0,.row 116 .plate xs)],1⟩)):=by kernel_rfl
theorem LJ (xs:List Plate):@Eq (Out GRes) (bj prog codes sigs f146 (eG 0) 0 fu 100 true (rt f146 1) (mkS 8 [(2,.own 0 .plate)] [(0,.row 116 .plate xs)] 1)) (.need True (.ret ⟨[.own 0 .plate],[(0,.row 116 .plate xs)],1⟩)):=by kernel_rfl
theorem MT {xs:List Plate}(hl:xs.length<=1000000):Gc prog 146 [.d (.sl .plate xs)] [] 0 ⟨[.own 0 .plate],[(0,.row 116 .plate xs)],1⟩:=
 Gc.of_closed (C:=codes) (S:=sigs) mixed func146 (by kernel_rfl) (fun i T t ys hi _=>absurd hi (bG _)) fun A hA=>
  hA.go (LL xs) fun b hb=>ak (fun h=>by
   have hx:xs=[]:=az (hb h)
   subst hx
   exact hA.row 2 116 .plate (by kernel_rfl) (s':=mkS 8 [(2,.own 0 .plate)] [(0,.row 116 .plate [])] 1) (by kernel_rfl) (hA.go (LK []) ⟨tv,.of_eq rfl⟩))
   (fun _=>⟨tv,⟨by omega,tv⟩,hA.go (LJ xs) ⟨tv,.of_eq rfl⟩⟩)
end Go.Proofs.Mo

namespace Go.Proofs.Mn
open Go.Proofs.Tryz
open Go Go.VL
theorem NO (a b:Int):@Eq _ (xS prog codes sigs f269 [.int,.int] 300 [⟨.int,a⟩,⟨.int,b⟩]) (bif decide (b>0)then bif decide (a>w64 ((9223372036854775807:Int)-b))then .need (U2/\U2) (.ret ((0:Int),(4:Int)))else bif decide (b<0)then bif decide (a<w64 ((-9223372036854775808:Int)-b))then .need (U2/\U2) (.ret ((0:Int),(4:Int)))else .need (U2/\U2) (.ret (w64 (a+b),(0:Int)))else .need (U2/\U2) (.ret (w64 (a+b),(0:Int)))else bif decide (b<0)then bif decide (a<w64 ((-9223372036854775808:Int)-b))then .need (U2/\U2) (.ret ((0:Int),(4:Int)))else .need (U2/\U2) (.ret (w64 (a+b),(0:Int)))else .need (U2/\U2) (.ret (w64 (a+b),(0:Int)))):=by kernel_rfl
def hJ (l3:List Int)(i2:Int)(l4:List Int):AS:=mkS 77 [(4,.d (.sl .int l4)),(5,.d (.sl .int l3)),(7,i64 i2)] [] 0
def th (l:List Int)(i1:Int)(l1 l2:List Int):AS:=mkS 77 [(0,.d (.sl .int l)),(4,.own 0 .int),(5,.own 1 .int),(6,i64 i1)] [(0,.row 3 .int l2),(1,.row 3 .int l1)] 2
theorem NQ (l:List Int):@Eq _ (xS prog codes sigs f226 [.int,.int] 300 [⟨.sl .int,l⟩]) (.stop (hd f226 0) (mkS 77 [(0,.d (.sl .int l)),(4,nS),(5,nS),(6,i64 0)] [] 0)):=by kernel_rfl
theorem Ls (l:List Int)(i1:Int)(l1 l2:List Int):@Eq _ (xL prog codes sigs f226 [.int,.int] 300 0 (th l i1 l1 l2)) (bif decide (i1<(l.length:Int))then .need (((0:Int)<=i1/\i1<(l.length:Int))/\True) (bif decide (l.getD i1.toNat (Ty.dflt .int)<0)then .need (((0:Int)<=i1/\i1<(l.length:Int))/\True) (.need (U2/\True) (.need ((l1.length+List.length [l.getD i1.toNat (Ty.dflt .int)])*9<=35184372088832/\True) (.stop (hd f226 0) (th l (w64 (i1+1)) (l1++[l.getD i1.toNat (Ty.dflt .int)]) l2))))else .need (((0:Int)<=i1/\i1<(l.length:Int))/\True) (.need (U2/\True) (.need ((l2.length+List.length [l.getD i1.toNat (Ty.dflt .int)])*9<=35184372088832/\True) (.stop (hd f226 0) (th l (w64 (i1+1)) l1 (l2++[l.getD i1.toNat (Ty.dflt .int)]))))))else .stop (hd f226 1) (mkS 77 [(4,.own 0 .int),(5,.own 1 .int),(7,i64 0)] [(0,.row 3 .int l2),(1,.row 3 .int l1)] 2)):=by kernel_rfl
theorem vv (l3:List Int)(i2:Int)(l4:List Int):@Eq _ (xL prog codes sigs f226 [.int,.int] 300 1 (hJ l3 i2 l4)) (bif decide ((l4.length:Int)>0)then bif decide ((l3.length:Int)>0)then bif decide (i2>=0)then .need (((0:Int)<=0/\(0:Int)<(l3.length:Int))/\True) (.need (((0:Int)<=1/\(1:Int)<=(l3.length:Int))/\True) (.need (U2/\U2/\True) (.callP 269 [⟨.int,i2⟩,⟨.int,(l3.getD 0 (Ty.dflt .int))⟩] [.int,.int] fun(x:Int×Int)=>bif x.2 != 0 then .need (U2/\U2) (.ret ((0:Int),x.2))else .stop (hd f226 1) (hJ (List.drop 1 l3) x.1 l4))))else bif (l4.length:Int)==0 then .need (((0:Int)<=0/\(0:Int)<(l3.length:Int))/\True) (.need (((0:Int)<=1/\(1:Int)<=(l3.length:Int))/\True) (.need (U2/\U2/\True) (.callP 269 [⟨.int,i2⟩,⟨.int,(l3.getD 0 (Ty.dflt .int))⟩] [.int,.int] fun(x:Int×Int)=>bif x.2 != 0 then .need (U2/\U2) (.ret ((0:Int),x.2))else .stop (hd f226 1) (hJ (List.drop 1 l3) x.1 l4))))else .need (((0:Int)<=0/\(0:Int)<(l4.length:Int))/\True) (.need (((0:Int)<=1/\(1:Int)<=(l4.length:Int))/\True) (.need (U2/\U2/\True) (.callP 269 [⟨.int,i2⟩,⟨.int,(l4.getD 0 (Ty.dflt .int))⟩] [.int,.int] fun(x:Int×Int)=>bif x.2 != 0 then .need (U2/\U2) (.ret ((0:Int),x.2))else .stop (hd f226 1) (hJ l3 x.1 (List.drop 1 l4)))))else .need (((0:Int)<=0/\(0:Int)<(l4.length:Int))/\True) (.need (((0:Int)<=1/\(1:Int)<=(l4.length:Int))/\True) (.need (U2/\U2/\True) (.callP 269 [⟨.int,i2⟩,⟨.int,(l4.getD 0 (Ty.dflt .int))⟩] [.int,.int] fun(x:Int×Int)=>bif x.2 != 0 then .need (U2/\U2) (.ret ((0:Int),x.2))else .stop (hd f226 1) (hJ l3 x.1 (List.drop 1 l4)))))else bif decide ((l3.length:Int)>0)then bif decide ((l3.length:Int)>0)then bif decide (i2>=0)then .need (((0:Int)<=0/\(0:Int)<(l3.length:Int))/\True) (.need (((0:Int)<=1/\(1:Int)<=(l3.length:Int))/\True) (.need (U2/\U2/\True) (.callP 269 [⟨.int,i2⟩,⟨.int,(l3.getD 0 (Ty.dflt .int))⟩] [.int,.int] fun(x:Int×Int)=>bif x.2 != 0 then .need (U2/\U2) (.ret ((0:Int),x.2))else .stop (hd f226 1) (hJ (List.drop 1 l3) x.1 l4))))else bif (l4.length:Int)==0 then .need (((0:Int)<=0/\(0:Int)<(l3.length:Int))/\True) (.need (((0:Int)<=1/\(1:Int)<=(l3.length:Int))/\True) (.need (U2/\U2/\True) (.callP 269 [⟨.int,i2⟩,⟨.int,(l3.getD 0 (Ty.dflt .int))⟩] [.int,.int] fun(x:Int×Int)=>bif x.2 != 0 then .need (U2/\U2) (.ret ((0:Int),x.2))else .stop (hd f226 1) (hJ (List.drop 1 l3) x.1 l4))))else .need (((0:Int)<=0/\(0:Int)<(l4.length:Int))/\True) (.need (((0:Int)<=1/\(1:Int)<=(l4.length:Int))/\True) (.need (U2/\U2/\True) (.callP 269 [⟨.int,i2⟩,⟨.int,(l4.getD 0 (Ty.dflt .int))⟩] [.int,.int] fun(x:Int×Int)=>bif x.2 != 0 then .need (U2/\U2) (.ret ((0:Int),x.2))else .stop (hd f226 1) (hJ l3 x.1 (List.drop 1 l4)))))else .need (((0:Int)<=0/\(0:Int)<(l4.length:Int))/\True) (.need (((0:Int)<=1/\(1:Int)<=(l4.length:Int))/\True) (.need (U2/\U2/\True) (.callP 269 [⟨.int,i2⟩,⟨.int,(l4.getD 0 (Ty.dflt .int))⟩] [.int,.int] fun(x:Int×Int)=>bif x.2 != 0 then .need (U2/\U2) (.ret ((0:Int),x.2))else .stop (hd f226 1) (hJ l3 x.1 (List.drop 1 l4)))))else .need (U2/\U2) (.ret (i2,(0:Int)))):=by kernel_rfl
end Go.Proofs.Mn

namespace Go.Proofs.Mn
open Go.Proofs.Tryz
open Go Go.VL
set_option maxRecDepth 20000
open Go.Proofs.Zn
def sr (a b:Int):Int×Int:=bif decide (b>(0:Int))then bif decide (a>w64 ((9223372036854775807:Int)-b))then((0:Int),(4:Int))else bif decide (b<(0:Int))then bif decide (a<w64 ((-9223372036854775808:Int)-b))then((0:Int),(4:Int))else(w64 (a+b),(0:Int))else(w64 (a+b),(0:Int))else bif decide (b<(0:Int))then bif decide (a<w64 ((-9223372036854775808:Int)-b))then((0:Int),(4:Int))else(w64 (a+b),(0:Int))else(w64 (a+b),(0:Int))
theorem HL (a b:Int) :Pure prog 269 [⟨.int,a⟩,⟨.int,b⟩] [.int,.int] (sr a b):=
 Pure.of_closed (C:=codes) (S:=sigs) mixed func269 (by kernel_rfl) (ac (by kernel_rfl)) fun A hA=>hA.go (NO a b) (by
  generalize h:sr a b=r at hA ⊢
  unfold sr at h
  refine ah h (fun g1 h=>?_) (fun g1 h=>?_)
  ·have g1:=oT g1
   refine ah h (fun g2 h=>?_) (fun g2 h=>?_)
   ·have g2:=oT g2
    exact⟨⟨q2,tv,tv⟩,h⟩
   ·have g2:=oF g2
    refine ah h (fun g3 h=>?_) (fun g3 h=>?_)
    ·have g3:=oT g3
     refine ah h (fun g4 h=>?_) (fun g4 h=>?_)
     ·have g4:=oT g4
      exact⟨⟨q2,tv,tv⟩,h⟩
     ·have g4:=oF g4
      exact⟨⟨q2,tv,tv⟩,h⟩
    ·have g3:=oF g3
     exact⟨⟨q2,tv,tv⟩,h⟩
  ·have g1:=oF g1
   refine ah h (fun g2 h=>?_) (fun g2 h=>?_)
   ·have g2:=oT g2
    refine ah h (fun g3 h=>?_) (fun g3 h=>?_)
    ·have g3:=oT g3
     exact⟨⟨q2,tv,tv⟩,h⟩
    ·have g3:=oF g3
     exact⟨⟨q2,tv,tv⟩,h⟩
   ·have g2:=oF g2
    exact⟨⟨q2,tv,tv⟩,h⟩)
end Go.Proofs.Mn

namespace Go.Proofs.Mn
open Go.Proofs.Tryz
open Go Go.VL
def tot:List Int->Int
 | []=>0
 | x::l=>x+tot l
theorem oj (l m:List Int):tot (l++m)=tot l+tot m:=by
 induction l with
 | nil=>simp[tot]
 | cons x l ih=>simp only[iG,tot,ih];omega
def gA (t:Int):Int×Int:=bif decide (t < -9223372036854775808)then(0,4)else bif decide (t>9223372036854775807)then(0,4)else(t,0)
def wS (l:List Int):Int×Int:=gA (tot l)
theorem io {t:Int}(h:cy t):gA t=(t,0):=by
 unfold cy at h
 unfold gA
 rw[dF (by omega),dF (by omega)];rfl
theorem lY {t:Int}(h:¬ cy t):gA t=(0,4):=by
 unfold cy at h
 unfold gA
 by_cases h1:t < -9223372036854775808
 ·rw[dT h1];rfl
 ·rw[dF h1,dT (by omega)];rfl
abbrev jP (l:List Int):Prop:=∀ x∈l,cy x
theorem tS:∀ {l:List Int},jP l -> -(9223372036854775808*(l.length:Int))<=tot l/\tot l<=9223372036854775808*(l.length:Int)
 | [],_=>by simp[tot]
 | x :: l, h => by
   have h1:=tS (l:=l) fun y hy=>h y (by simp[hy])
   have h2:cy x:=h x (by simp)
   unfold cy at h2
   simp only[tot,ag]
   omega
def nk (w:Wide):Int:=w.hi*18446744073709551616+w.lo
structure WOk (w:Wide):Prop where
 h0:0<=w.hi
 h1:w.hi<18446744073709551616
 l0:0<=w.lo
 l1:w.lo<18446744073709551616
theorem Al (x:Int):(dw x).hi=(x/9223372036854775808)%18446744073709551616:=by
 have e:(2:Int)^min 63 (IntKind.bits .i64)=9223372036854775808:=by decide
 unfold dw
 simp only[e,kN]
 rw[fQ _ (by decide)]
theorem Ak (x:Int):(dw x).lo=x%18446744073709551616:=by
 unfold dw
 simp only[kN]
theorem Mk {x:Int}(h:cy x):WOk (dw x)/\nk (dw x)=x%340282366920938463463374607431768211456:=by
 have e1:=Al x
 have e2:=Ak x
 unfold cy at h
 refine⟨⟨by omega,by omega,by omega,by omega⟩,?_⟩
 unfold nk
 omega
theorem Jc (a b:Wide):(ie a b).hi=(((a.hi.toNat+b.hi.toNat+(a.lo.toNat+b.lo.toNat)/18446744073709551616)%18446744073709551616:Nat):Int):=by
 unfold ie
 simp only[aq,eN]
theorem FP (a b:Wide):(ie a b).lo=(((a.lo.toNat+b.lo.toNat)%18446744073709551616:Nat):Int):=by
 unfold ie
 simp only[eN]
theorem FO {a b:Wide}(ha:WOk a)(hb:WOk b):WOk (ie a b)/\nk (ie a b)=(nk a+nk b)%340282366920938463463374607431768211456:=by
 obtain⟨a1,a2,a3,a4⟩:=ha
 obtain⟨b1,b2,b3,b4⟩:=hb
 have e1:=Jc a b
 have e2:=FP a b
 refine⟨⟨by omega,by omega,by omega,by omega⟩,?_⟩
 unfold nk
 omega
theorem wK:∀ (l:List Int) (w:Wide),WOk w->jP l->WOk (l.foldl (fun w x=>ie w (dw x)) w)/\nk (l.foldl (fun w x=>ie w (dw x)) w)=(nk w+tot l)%340282366920938463463374607431768211456
 | [], w, hw, _ => by
   obtain⟨a1,a2,a3,a4⟩:=hw
   refine⟨⟨a1,a2,a3,a4⟩,?_⟩
   show nk w=(nk w+0)%_
   unfold nk
   omega
 | x :: l, w, hw, h => by
   have h2:cy x:=h x (by simp)
   obtain⟨p1,p2⟩:=Mk h2
   obtain⟨q1,q2⟩:=FO hw p1
   obtain⟨r1,r2⟩:=wK l (ie w (dw x)) q1 fun y hy=>h y (by simp[hy])
   refine⟨r1,?_⟩
   show nk (l.foldl (fun w x=>ie w (dw x)) (ie w (dw x)))=(nk w+(x+tot l))%_
   rw[r2,q2,p2]
   omega
theorem EA (m:Int):cy (w64 m)/\(w64 m)%18446744073709551616=m%18446744073709551616:=by
 unfold w64 IntKind.wrap
 have e:(2^IntKind.i64.bits:Int)=18446744073709551616:=rfl
 have e2:(2^(IntKind.i64.bits-1):Int)=9223372036854775808:=rfl
 have e3:IntKind.i64.signed=true:=rfl
 simp only[e,e2,e3,cm]
 unfold cy
 by_cases h:m%18446744073709551616>=9223372036854775808
 ·rw[aE (by simpa using h)];omega
 ·rw[aH (by simpa using h)];omega
theorem Jq {w:Wide}(hw:WOk w){t:Int}(h:nk w=t%340282366920938463463374607431768211456)(h0 : -170141183460469231731687303715884105728<=t)(h1:t<170141183460469231731687303715884105728):vM w=gA t:=by
 obtain⟨a1,a2,a3,a4⟩:=hw
 obtain⟨n1,n2⟩:=EA w.lo
 have n1':=n1
 unfold cy at n1'
 unfold vM
 generalize w64 w.lo=n at n1 n2 n1'
 have e1:=Al n
 have e2:=Ak n
 unfold nk at h
 by_cases hh:w.hi=(dw n).hi
 ·have el:w.lo=(dw n).lo:=by omega
  have e3:n/9223372036854775808=0\/n/9223372036854775808 = -1:=by omega
  have et:t=n:=by rcases e3 with e3|e3<;>omega
  have e:(w.hi==(dw n).hi&&(w.lo==(dw n).lo&&true))=true:=by rw[← hh,← el];simp
  rw[e,et,io n1];rfl
 ·have e:(w.hi==(dw n).hi&&(w.lo==(dw n).lo&&true))=false:=by
   have:(w.hi==(dw n).hi)=false:=by simpa using hh
   rw[this];rfl
  rw[e,lY (t:=t) (by unfold cy;omega)];rfl
theorem Jr {l:List Int}(hl:l.length<=1000000)(hf:jP l):vM (qy l)=wS l:=by
 obtain⟨h1,h2⟩:=wK l ⟨0,0⟩ ⟨by decide,by decide,by decide,by decide⟩ hf
 have h3:=tS hf
 have h4:nk (qy l)=(0*18446744073709551616+0+tot l)%340282366920938463463374607431768211456:=h2
 exact Jq (t:=tot l) h1 (by rw[show List.foldl (fun w x=>ie w (dw x)) ⟨0,0⟩ l=qy l from rfl,h4];omega) (by omega) (by omega)
end Go.Proofs.Mn

namespace Go.Proofs.Mn
open Go.Proofs.Tryz
open Go Go.VL
open Wn (dR bK)
theorem Ku {a b:Int}(ha:cy a)(hb:cy b):sr a b=gA (a+b):=by
 unfold cy at ha hb
 unfold sr
 by_cases h1:b>0
 ·rw[dT h1,cT,ax (by omega) (by omega)]
  by_cases h2:a>9223372036854775807-b
  ·rw[dT h2,cT,lY (by unfold cy;omega)]
  ·rw[dF h2,cF,dF (by omega),cF,io (by unfold cy;omega),ax (by omega) (by omega)]
 ·rw[dF h1,cF]
  by_cases h2:b<0
  ·rw[dT h2,cT,ax (n := -9223372036854775808-b) (by omega) (by omega)]
   by_cases h3:a < -9223372036854775808-b
   ·rw[dT h3,cT,lY (by unfold cy;omega)]
   ·rw[dF h3,cF,io (by unfold cy;omega),ax (by omega) (by omega)]
  ·rw[dF h2,cF,io (by unfold cy;omega),ax (by omega) (by omega)]
theorem EK:∀ {l:List Int},(∀ x∈l,0<=x)->0<=tot l
 | [],_=>by simp[tot]
 | x :: l, h => by
   have h1:=h x (by simp)
   have h2:=EK (l:=l) fun y hy=>h y (by simp[hy])
   simp only[tot];omega
theorem wP:∀ {l:List Int},(∀ x∈l,x<0)->tot l<=0
 | [],_=>by simp[tot]
 | x :: l, h => by
   have h1:=h x (by simp)
   have h2:=wP (l:=l) fun y hy=>h y (by simp[hy])
   simp only[tot];omega
theorem CZ (t:Int):(gA t).2=0/\cy t/\(gA t).1=t\/(gA t).2=4/\¬ cy t/\gA t=(0,4):=by
 by_cases h:cy t
 ·rw[io h];exact .inl ⟨rfl,h,rfl⟩
 ·rw[lY h];exact .inr ⟨rfl,h,rfl⟩
abbrev T2p:(True/\True)/\True/\True:=⟨⟨tv,tv⟩,tv,tv⟩
theorem oZ (x:Int)(l:List Int):decide ((↑(List.length (x::l)):Int)>0)=true:=by simp only[ag];exact dT (by omega)
theorem qX:decide ((↑(List.length ([]:List Int)):Int)>0)=false:=rfl
theorem Mw (x:Int)(l:List Int):((↑(List.length (x::l)):Int)==0)=false:=by simp only[ag];exact aN.2 (by omega)
theorem or {s y t rest:Int}{r:Int×Int}{dn up:List Int}{A:List Item->AS->Prop}(hs:cy s)(hy:cy y)(ht:t=s+y+rest)(hov:¬ cy (s+y)->¬ cy t)(h:gA t=r)
  (ih:cy (s+y)->gA (s+y+rest)=r->A (hd f226 1) (hJ dn (s+y) up)) :
  Sat prog A (fun z:Int×Int=>z=r) (bif (sr s y).2 != 0 then .need ((True/\True)/\True/\True) (.ret ((0:Int),(sr s y).2))else .stop (hd f226 1) (hJ dn (sr s y).1 up)):=by
 rw[Ku hs hy]
 rcases CZ (s+y)with⟨h2,h3,h4⟩|⟨h2,h3,h4⟩
 ·rw[h2,h4]
  exact ih h3 (by rw[← ht];exact h)
 ·rw[h4]
  refine⟨T2p,?_⟩
  show((0:Int),(4:Int))=r
  rw[← h,lY (hov h3)]
theorem oW:∀ (k:Nat) (dn up:List Int) (s:Int) {r:Int×Int} {A:List Item->AS->Prop} (_:Closed prog codes sigs f226 (bm [.int,.int]) (fun y=>y=r) 0 A) (_:dn.length+up.length<=k)
  (_:∀ x∈dn,x<0/\cy x) (_:∀ x∈up,0<=x/\cy x) (_:cy s) (_:gA (s+tot dn+tot up)=r),A (hd f226 1) (hJ dn s up)
 | k, [], [], s, r, A, hA, hk, hdn, hu, hs, h => by
   refine hA.go (vv [] s []) (bK qX (bK qX ⟨T2p,?_⟩))
   rw[← h]
   show(s,0)=gA (s+0+0)
   rw[show s+0+0=s by omega,io hs]
 | 0,x::dn,up,s,r,A,hA,hk,hdn,hu,hs,h=>by simp only[ag]at hk;omega
 | 0,[],y::up,s,r,A,hA,hk,hdn,hu,hs,h=>by simp only[ag]at hk;omega
 | k + 1, [], y :: up, s, r, A, hA, hk, hdn, hu, hs, h => by
   have hy:=hu y (by simp)
   have hu':∀ x∈up,0<=x/\cy x:=fun x hx=>hu x (by simp[hx])
   have t1:=EK (l:=up) fun x hx=>(hu' x hx).1
   refine hA.go (vv [] s (y::up)) (dR (oZ _ _) (bK qX ?_))
   refine⟨⟨⟨by omega,by simp only[ag];omega⟩,tv⟩,⟨⟨by omega,by simp only[ag];omega⟩,tv⟩,⟨T1,T1,tv⟩,_,HL _ _,?_⟩
   refine or (s:=s) (y:=y) (t:=s+y+tot up) (rest:=tot up) hs hy.2 rfl ?_ (by rw[← h];simp only[tot];congr 1;omega) (fun h3 h4=>?_)
   ·unfold cy at hs hy ⊢;omega
   ·exact oW k [] up (s+y) hA (by simp only[ag,am]at hk ⊢;omega) (fun x hx=>by simp at hx) hu' h3 (by simp only[tot];rw[← h4];congr 1;omega)
 | k + 1, x :: dn, [], s, r, A, hA, hk, hdn, hu, hs, h => by
   have hx:=hdn x (by simp)
   have hd':∀ x∈dn,x<0/\cy x:=fun y hy=>hdn y (by simp[hy])
   have t1:=wP (l:=dn) fun y hy=>(hd' y hy).1
   have fin:Sat prog A (fun z:Int×Int=>z=r) (bif (sr s x).2 != 0 then .need ((True/\True)/\True/\True) (.ret ((0:Int),(sr s x).2))else .stop (hd f226 1) (hJ dn (sr s x).1 [])):=by
    refine or (s:=s) (y:=x) (t:=s+x+tot dn) (rest:=tot dn) hs hx.2 rfl ?_ (by rw[← h];simp only[tot];congr 1;omega) (fun h3 h4=>?_)
    ·unfold cy at hs hx ⊢;omega
    ·exact oW k dn [] (s+x) hA (by simp only[ag,am]at hk ⊢;omega) hd' (fun x hx=>by simp at hx) h3 (by simp only[tot];rw[← h4];congr 1;omega)
   refine hA.go (vv (x::dn) s []) (bK qX (dR (oZ _ _) (dR (oZ _ _) ?_)))
   refine ak (fun g=>?_) (fun g=>dR rfl ?_)
   ·exact⟨⟨⟨by omega,by simp only[ag];omega⟩,tv⟩,⟨⟨by omega,by simp only[ag];omega⟩,tv⟩,⟨T1,T1,tv⟩,_,HL _ _,fin⟩
   ·exact⟨⟨⟨by omega,by simp only[ag];omega⟩,tv⟩,⟨⟨by omega,by simp only[ag];omega⟩,tv⟩,⟨T1,T1,tv⟩,_,HL _ _,fin⟩
 | k + 1, x :: dn, y :: up, s, r, A, hA, hk, hdn, hu, hs, h => by
   have hx:=hdn x (by simp)
   have hd':∀ x∈dn,x<0/\cy x:=fun y hy=>hdn y (by simp[hy])
   have hy:=hu y (by simp)
   have hu':∀ x∈up,0<=x/\cy x:=fun x hx=>hu x (by simp[hx])
   refine hA.go (vv (x::dn) s (y::up)) (dR (oZ _ _) (dR (oZ _ _) ?_))
   refine ak (fun g=>?_) (fun g=>bK (Mw _ _) ?_)
   ·have g:=oT g
    refine⟨⟨⟨by omega,by simp only[ag];omega⟩,tv⟩,⟨⟨by omega,by simp only[ag];omega⟩,tv⟩,⟨T1,T1,tv⟩,_,HL _ _,?_⟩
    refine or (s:=s) (y:=x) (t:=s+x+(tot dn+tot (y::up))) (rest:=tot dn+tot (y::up)) hs hx.2 rfl ?_ (by rw[← h];simp only[tot];congr 1;omega) (fun h3 h4=>?_)
    ·unfold cy at hs hx ⊢;omega
    ·exact oW k dn (y::up) (s+x) hA (by simp only[ag]at hk ⊢;omega) hd' hu h3 (by rw[← h4];congr 1;omega)
   ·have g:=oF g
    refine⟨⟨⟨by omega,by simp only[ag];omega⟩,tv⟩,⟨⟨by omega,by simp only[ag];omega⟩,tv⟩,⟨T1,T1,tv⟩,_,HL _ _,?_⟩
    refine or (s:=s) (y:=y) (t:=s+y+(tot (x::dn)+tot up)) (rest:=tot (x::dn)+tot up) hs hy.2 rfl ?_ (by rw[← h];simp only[tot];congr 1;omega) (fun h3 h4=>?_)
    ·unfold cy at hs hy ⊢;omega
    ·exact oW k (x::dn) up (s+y) hA (by simp only[ag]at hk ⊢;omega) hdn hu' h3 (by rw[← h4];congr 1;omega)
theorem sw {l:List Int}(hl:l.length<=1000000)(hf:jP l){r:Int×Int}{A:Pr}(hA:CL codes sigs f226 [.int,.int] r A)(h:wS l=r)
  (ix:Nat) (dn up:List Int) (hn:dn.length+up.length<=ix) (hdn:∀ x∈dn,x<0/\cy x) (hu:∀ x∈up,0<=x/\cy x) (ht:tot dn+tot up+tot (l.drop ix)=tot l):A (hd f226 0) (th l (ix:Int) dn up):=by
 refine hA.go (Ls l (ix:Int) dn up) (ak (fun h1=>?_) (fun h1=>?_))
 ·have h1:=oT h1
  have hil:ix<l.length:=by omega
  have hz:cy (l.getD (Int.toNat (ix:Int)) (Ty.dflt .int)):=hf _ (by rw[bf hil];exact aQ _)
  rw[aX hil (Ty.dflt .int)]at ht
  simp only[tot]at ht
  refine⟨⟨⟨by omega,by omega⟩,tv⟩,ak (fun g=>?_) (fun g=>?_)⟩
  ·have g:=oT g
   refine⟨⟨⟨by omega,by omega⟩,tv⟩,⟨T1,tv⟩,⟨by simp only[ag,am];omega,tv⟩,?_⟩
   rw[aw (by omega)]
   refine sw hl hf hA h (ix+1) _ _ (by simp only[al,ag,am];omega) (fun x hx=>?_) hu (by rw[oj];simp only[tot];omega)
   rcases aA.1 hx with hx|hx
   ·exact hdn x hx
   ·obtain rfl:=bz.1 hx;exact⟨g,hz⟩
  ·have g:=oF g
   refine⟨⟨⟨by omega,by omega⟩,tv⟩,⟨T1,tv⟩,⟨by simp only[ag,am];omega,tv⟩,?_⟩
   rw[aw (by omega)]
   refine sw hl hf hA h (ix+1) _ _ (by simp only[al,ag,am];omega) hdn (fun x hx=>?_) (by rw[oj];simp only[tot];omega)
   rcases aA.1 hx with hx|hx
   ·exact hu x hx
   ·obtain rfl:=bz.1 hx;exact⟨by omega,hz⟩
 ·have h1:=oF h1
  rw[dN (by omega)]at ht
  simp only[tot]at ht
  refine hA.frz 0 (by kernel_rfl) rfl ?_
  refine hA.frz 0 (by kernel_rfl) (s':=hJ dn 0 up) (by kernel_rfl) ?_
  exact oW _ dn up 0 hA (aI _) hdn hu (by unfold cy;omega) (by rw[← h];unfold wS;congr 1;omega)
termination_by l.length-ix
decreasing_by all_goals omega
theorem c226 {l:List Int}(hl:l.length<=1000000)(hf:jP l):Pure prog 226 [⟨.sl .int,l⟩] [.int,.int] (wS l):=
 Pure.of_closed (C:=codes) (S:=sigs) mixed func226 (by kernel_rfl) (ac (by kernel_rfl)) fun A hA=>hA.go (NQ l) (by
  refine hA.row 5 3 .int (by kernel_rfl) rfl ?_
  refine hA.row 4 3 .int (by kernel_rfl) (s':=th l (0:Int) [] []) (by kernel_rfl) ?_
  exact sw hl hf hA rfl 0 [] [] (by simp) (fun x hx=>by simp at hx) (fun x hx=>by simp at hx) (by simp[tot]))
end Go.Proofs.Mn

namespace Go.Proofs.Mn
open Go.Proofs.Tryz
open Go Go.VL Go.Proofs.Zn
def cU (z:Plate)(k:Nat):Cell:=⟨z.cap,z.start.getD k 0,0⟩
def eS (z:Plate):List Cell:=(List.range' 0 (z.rows*z.cols).toNat).map (cU z)
def bi (d:Deck):List Cell:=d.plates.flatMap eS
def tJ:Log:=⟨8,0,[]⟩
def eW (d:Deck):Stock×Int:=bif cW d != 0 then(⟨[],[],[],0,0,0⟩,cW d)else
 (⟨bi d,List.replicate (bi d).length tJ,List.replicate (bp (aR d)).toNat ⟨1,0⟩,tot ((bi d).map Cell.vol),0,0⟩,0)
theorem wU {c:Int}:∀ {l:List Int},kf c l=true->∀ x∈l,0<=x/\x<=c
 | [],_=>by simp
 | n :: l, h => by
   unfold kf at h
   by_cases h1:n<0
   ·rw[dT h1]at h;cases h
   rw[dF h1,cF]at h
   by_cases h2:n>c
   ·rw[dT h2]at h;cases h
   rw[dF h2,cF]at h
   intro x hx
   rcases aD.1 hx with rfl|hx
   ·omega
   ·exact wU h x hx
structure PlateOk (z:Plate):Prop where
 cap:1<=z.cap/\z.cap<=1099511627776
 start:∀ k:Nat,0<=z.start.getD k 0/\z.start.getD k 0<=z.cap
 size:1<=z.rows*z.cols/\z.rows*z.cols<=1536
theorem jA {z:Plate}(h:dt z=true):PlateOk z:=by
 unfold dt at h
 cases hb:cN (eL z)
 ·rw[hb]at h;cases h
 rw[hb,cT]at h
 unfold lw at h
 by_cases h1:z.cap<1
 ·rw[dT h1]at h;cases h
 rw[dF h1,cF]at h
 by_cases h2:z.cap>1099511627776
 ·rw[dT h2]at h;cases h
 rw[dF h2,cF]at h
 by_cases h3:(z.start.length:Int)>z.rows*z.cols
 ·rw[dT h3]at h;cases h
 rw[dF h3,cF]at h
 have hs:=wU h
 refine⟨⟨by omega,by omega⟩,fun k=>?_,dU hb⟩
 rcases ay k z.start.length with hk|hk
 ·rw[cJ hk];exact hs _ (aQ hk)
 ·rw[show z.start.getD k 0=0 by simp[List.getD,au hk]];omega
theorem JY {z:Plate}(h:PlateOk z)(k:Nat):dc (cU z k)=true:=by
 obtain⟨h1,h2⟩:=h.cap
 obtain⟨h3,h4⟩:=h.start k
 unfold dc cU
 simp only
 rw[dT (by omega),dT (by omega),dT (by omega),dT (by omega)]
 rfl
theorem KM {z:Plate}(hz:PlateOk z)(kc:Int->List Cell->List Log->Stock×Int):∀ (n ix:Nat) (i:Int) (l1:List Cell) (l2:List Log),0<=i->i+1099511627776*n<=4611686018427387904 ->
  nz z kc n ix i l1 l2=kc (i+tot (((List.range' ix n).map (cU z)).map Cell.vol)) (l1++(List.range' ix n).map (cU z)) (l2++List.replicate n tJ)
 | 0,ix,i,l1,l2,_,_=>by simp[nz,tot]
 | n + 1, ix, i, l1, l2, h0, h1 => by
   have hs:=hz.start ix
   have hc:=hz.cap
   unfold nz
   have e:∀ v,v=z.start.getD ix 0->nz z kc n (ix+1) (w64 (i+v)) (l1++[⟨z.cap,v,0⟩]) (l2++[⟨8,0,[]⟩]) =
     kc (i+tot (((List.range' ix (n+1)).map (cU z)).map Cell.vol)) (l1++(List.range' ix (n+1)).map (cU z)) (l2++List.replicate (n+1) tJ):=by
    intro v hv
    have hv0:0<=v/\v<=1099511627776:=by omega
    rw[ax (by omega) (by omega),KM hz kc n (ix+1) _ _ _ (by omega) (by omega)]
    have ec:cU z ix=⟨z.cap,v,0⟩:=by unfold cU;rw[hv]
    simp only[iE,bk,tot,ec,bb,ij,dp,tJ]
    rw[gq]
   by_cases hx:(ix:Int)<z.start.length
   ·rw[dT hx,cT]
    exact e _ rfl
   ·rw[dF hx,cF]
    exact e 0 (by rw[show z.start.getD ix 0=0 by simp[List.getD,au (show z.start.length<=ix by omega)]])
theorem Ay (i5:Int)(l3:List Cell)(l4:List Log):∀ (n ix:Nat) (l5:List Tip),qh i5 l3 l4 n ix l5=(⟨l3,l4,l5++List.replicate n ⟨1,0⟩,i5,0,0⟩,0)
 | 0,ix,l5=>by simp[qh]
 | n + 1, ix, l5 => by
   unfold qh
   rw[Ay i5 l3 l4 n (ix+1)]
   simp[dp]
theorem jL {z:Plate}:(eS z).length=(z.rows*z.cols).toNat:=by simp[eS]
theorem mQ {l:List Int}(h:∀ c∈l,0<=c/\c<=1099511627776):0<=tot l/\tot l<=1099511627776*l.length:=by
 induction l with
 | nil=>simp[tot]
 | cons x l ih =>
   have h1:=h x (by simp)
   have h2:=ih fun c hc=>h c (by simp[hc])
   simp only[tot,ag];omega
theorem Az (t:Int):∀ (ps:List Plate),(∀ z∈ps,PlateOk z)->∀ (ix:Nat) (i:Int) (l3:List Cell) (l4:List Log),0<=i->i+1688849860263936*ps.length<=4611686018427387904 ->
  qi t ps ix i l3 l4=(⟨l3++ps.flatMap eS,l4++List.replicate (ps.flatMap eS).length tJ,List.replicate t.toNat ⟨1,0⟩,i+tot ((ps.flatMap eS).map Cell.vol),0,0⟩,0)
 | [], _, ix, i, l3, l4, _, _ => by
   unfold qi
   rw[Ay]
   simp[tot]
 | z :: ps, hp, ix, i, l3, l4, h0, h1 => by
   have hz:=hp z (by simp)
   have hs:=hz.size
   have hw:w64 (z.rows*z.cols)=z.rows*z.cols:=ax (by omega) (by omega)
   simp only[ag]at h1
   unfold qi
   rw[hw,cZ,KM hz _ _ _ _ _ _ h0 (by omega)]
   have hb:∀ c∈(eS z).map Cell.vol,0<=c/\c<=1099511627776:=by
    intro c hc
    obtain⟨x,hx,rfl⟩:=aT.1 hc
    obtain⟨k,_,rfl⟩:=aT.1 hx
    have:=hz.start k
    have:=hz.cap
    simp only[cU];omega
   have ht:=mQ hb
   rw[bB,jL]at ht
   have e:(List.range' 0 (z.rows*z.cols).toNat).map (cU z)=eS z:=rfl
   rw[e,Az t ps (fun y hy=>hp y (by simp[hy])) (ix+1) _ _ _ (by omega) (by omega)]
   simp only[eO,bb,bO,oj,al,ic,jL,gq]
theorem tP {d:Deck}(h:(cW d != 0)=false):(dE d != 0)=false:=by
 cases h1:dE d != 0
 ·rfl
 ·have e:cW d=dE d:=by unfold cW dO;rw[h1];rfl
  rw[e,h1]at h;cases h
theorem ly {d:Deck}(h:(cW d != 0)=false):(bu d).2.1=bp (aR d):=by
 unfold bu
 rw[tP h];rfl
theorem AR (d:Deck):m87 d=eW d:=by
 unfold m87 eW
 cases h:cW d != 0
 ·have hk:=cf h
  rw[cF,cF,Az _ _ (fun z hz=>jA (hk.plate z hz)) _ _ _ _ (by omega) (by have:=hk.plates;omega)]
  have hc:=ly h
  simp only[hc,bi,fw,Int.zero_add]
 ·rfl
theorem HE {z:Plate}(hz:PlateOk z)(k:Nat):(qt z.cap (z.start.getD k 0)).1=cU z k:=by
 have h:=JY hz k
 unfold cU at h
 unfold qt cU
 rw[h];rfl
theorem JE:(DU 8).1=tJ:=by decide +kernel
theorem KN {z:Plate}(hz:PlateOk z)(kc:Int->List Cell->List Log->Stock×Int):∀ (n ix:Nat) (i:Int) (l1:List Cell) (l2:List Log),0<=i->i+1099511627776*n<=4611686018427387904 ->
  nA z kc n ix i l1 l2=kc (i+tot (((List.range' ix n).map (cU z)).map Cell.vol)) (l1++(List.range' ix n).map (cU z)) (l2++List.replicate n tJ)
 | 0,ix,i,l1,l2,_,_=>by simp[nA,tot]
 | n + 1, ix, i, l1, l2, h0, h1 => by
   have hs:=hz.start ix
   have hc:=hz.cap
   unfold nA
   have e:∀ v,v=z.start.getD ix 0->nA z kc n (ix+1) (w64 (i+v)) (l1++[(qt z.cap v).1]) (l2++[(DU 8).1]) =
     kc (i+tot (((List.range' ix (n+1)).map (cU z)).map Cell.vol)) (l1++(List.range' ix (n+1)).map (cU z)) (l2++List.replicate (n+1) tJ):=by
    intro v hv
    have hv0:0<=v/\v<=1099511627776:=by omega
    have e1:(qt z.cap v).1=cU z ix:=by rw[hv];exact HE hz ix
    rw[e1,JE,ax (by omega) (by omega),KN hz kc n (ix+1) _ _ _ (by omega) (by omega)]
    have ec:(cU z ix).vol=v:=by unfold cU;rw[hv]
    simp only[iE,bk,tot,ec,bb,ij,dp]
    rw[gq]
   by_cases hx:(ix:Int)<z.start.length
   ·rw[dT hx,cT]
    exact e _ rfl
   ·rw[dF hx,cF]
    exact e 0 (by rw[show z.start.getD ix 0=0 by simp[List.getD,au (show z.start.length<=ix by omega)]])
theorem AA (i4:Int)(l3:List Cell)(l4:List Log):∀ (n ix:Nat) (l5:List Tip),qj i4 l3 l4 n ix l5=(⟨l3,l4,l5++List.replicate n ⟨1,0⟩,i4,0,0⟩,0)
 | 0,ix,l5=>by simp[qj]
 | n + 1, ix, l5 => by
   unfold qj
   rw[AA i4 l3 l4 n (ix+1)]
   simp[dp]
theorem AB (d:Deck):∀ (ps:List Plate),(∀ z∈ps,PlateOk z)->∀ (ix:Nat) (i:Int) (l3:List Cell) (l4:List Log),0<=i->i+1688849860263936*ps.length<=4611686018427387904 ->
  qk d ps ix i l3 l4=(⟨l3++ps.flatMap eS,l4++List.replicate (ps.flatMap eS).length tJ,List.replicate (bu d).2.1.toNat ⟨1,0⟩,i+tot ((ps.flatMap eS).map Cell.vol),0,0⟩,0)
 | [], _, ix, i, l3, l4, _, _ => by
   unfold qk
   rw[AA]
   simp[tot]
 | z :: ps, hp, ix, i, l3, l4, h0, h1 => by
   have hz:=hp z (by simp)
   have hs:=hz.size
   have hw:w64 (z.rows*z.cols)=z.rows*z.cols:=ax (by omega) (by omega)
   simp only[ag]at h1
   unfold qk
   rw[hw,cZ,KN hz _ _ _ _ _ _ h0 (by omega)]
   have hb:∀ c∈(eS z).map Cell.vol,0<=c/\c<=1099511627776:=by
    intro c hc
    obtain⟨x,hx,rfl⟩:=aT.1 hc
    obtain⟨k,_,rfl⟩:=aT.1 hx
    have:=hz.start k
    have:=hz.cap
    simp only[cU];omega
   have ht:=mQ hb
   rw[bB,jL]at ht
   have e:(List.range' 0 (z.rows*z.cols).toNat).map (cU z)=eS z:=rfl
   rw[e,AB d ps (fun y hy=>hp y (by simp[hy])) (ix+1) _ _ _ (by omega) (by omega)]
   simp only[eO,bb,bO,oj,al,ic,jL,gq]
theorem KO (d:Deck):m83 d=eW d:=by
 unfold m83 eW
 cases h:cW d != 0
 ·have hk:=cf h
  rw[cF,cF,AB _ _ (fun z hz=>jA (hk.plate z hz)) _ _ _ _ (by omega) (by have:=hk.plates;omega)]
  have hc:=ly h
  simp only[hc,bi,fw,Int.zero_add]
 ·rfl
theorem pc:∀ (ps:List Plate),(∀ z∈ps,PlateOk z)->((ps.flatMap eS).length:Int)=bp (ps.map eL)
 | [],_=>rfl
 | z :: ps, h => by
   have hz:=(h z (by simp)).size
   have ih:=pc ps fun y hy=>h y (by simp[hy])
   simp only[eO,al,jL,bk,bp,eL]at ih ⊢
   omega
theorem iK {d:Deck}(h:(cW d != 0)=false):((bi d).length:Int)=bp (aL d):=pc d.plates fun z hz=>jA ((cf h).plate z hz)
end Go.Proofs.Mn

namespace Go.Proofs.Mo
open Go.Proofs.Tryz
open Go Go.VL Go.Proofs.Zn Go.Proofs.Mn
def uW (l:Log):Int:=(l.list.length:Int)
def gY (p:Int->Bool):List Int->Nat->Int
 | [],_ => -1
 | x::xs,i=>bif p x then(i:Int)else gY p xs (i+1)
theorem mZ (p:Int->Bool):∀ (l:List Int) (i:Nat),gY p l i = -1\/((i:Int)<=gY p l i/\gY p l i<(i:Int)+l.length)
 | [],i=>.inl rfl
 | x :: xs, i => by
   unfold gY
   cases p x
   ·rw[cF]
    rcases mZ p xs (i+1)with h|⟨h1,h2⟩
    ·exact .inl h
    ·exact .inr ⟨by omega,by simp only[ag];omega⟩
   ·rw[cT]
    exact .inr ⟨by omega,by simp only[ag];omega⟩
theorem yd {p:Int->Bool}:∀ {l:List Int} {i:Nat},gY p l i<0->∀ x∈l,p x=false
 | [],i,_=>by simp
 | x :: xs, i, h => by
   unfold gY at h
   cases hp:p x
   ·rw[hp,cF]at h
    intro y hy
    rcases aD.1 hy with rfl|hy
    ·exact hp
    ·exact yd h y hy
   ·rw[hp,cT]at h;omega
theorem iR (o:List Int):∀ (l:List Int) (i:Nat),gF o l i=gY (np o) l i
 | [],i=>rfl
 | x :: xs, i => by
   unfold gF gY
   rw[iR o xs (i+1)]
theorem AN {o l:List Int}(h:¬ dS o l>=0):∀ x∈l,0<=x/\x<o.length:=by
 have h1:gY (np o) l 0<0:=by
  have e:dS o l=gY (np o) l 0:=iR o l 0
  rw[← e];omega
 intro x hx
 have h2:=yd h1 x hx
 unfold np at h2
 by_cases h3:x<0
 ·rw[dT h3]at h2;cases h2
 ·rw[dF h3,cF]at h2
  have:=oF h2
  omega
theorem uP (o l:List Int):dS o l<l.length /\ -1<=dS o l:=by
 have e:dS o l=gY (np o) l 0:=iR o l 0
 rw[e]
 rcases mZ (np o) l 0 with h|h<;>omega
theorem mq (o:List Int)(w:Int):∀ (l:List Int) (i:Nat),er o w l i=gY (fP o w) l i
 | [],i=>rfl
 | x :: xs, i => by
   unfold er gY
   rw[mq o w xs (i+1)]
theorem mo (o:List Int)(w:Int):∀ (l:List Int) (i:Nat),ej o w l i=gY (fO o w) l i
 | [],i=>rfl
 | x :: xs, i => by
   unfold ej gY
   rw[mo o w xs (i+1)]
theorem uO (o:List Int)(w:Int)(l:List Int):dI o w l<l.length /\ -1<=dI o w l:=by
 have e:dI o w l=gY (fP o w) l 0:=mq o w l 0
 rw[e]
 rcases mZ (fP o w) l 0 with h|h<;>omega
theorem uN (o:List Int)(w:Int)(l:List Int):dH o w l<l.length /\ -1<=dH o w l:=by
 have e:dH o w l=gY (fO o w) l 0:=mo o w l 0
 rw[e]
 rcases mZ (fO o w) l 0 with h|h<;>omega
theorem iP {α:Type}{l:List α}{i:Nat}{x:α}(h:l[i]?=some x):l.set i x=l:=by
 refine ia fun j=>?_
 rw[bF]
 split
 ·rename_i e;subst e
  obtain⟨hi,hx⟩:=an.1 h
  simp[hi,hx]
 ·rfl
theorem getD_some {α:Type}{l:List α}{i:Nat}{d:α}(h:i<l.length):l[i]?=some (l.getD i d):=by simp[List.getD,h]
theorem BE (w:Int)(e:Bool)(x:List Int×Int×Int):∀ (i:Nat) (T:TypeId) (t:Ty) (xs:List t.ty),i<1->(bif e then(⟨[jE,i64 x.2.1,i64 x.2.2],[(0,.box [i64 w])],1⟩:GRes)else⟨[.own 1 .int,i64 0,i64 0],[(0,.box [i64 w]),(1,.row 3 .int x.1)],2⟩).H.get i=some (.row T t xs)->∃ ys,Heap.get [(0,.box [i64 w])] i=some (.row T t ys)/\ys.length=xs.length:=fun i T t xs hi h=>by
 obtain rfl:i=0:=by omega
 cases e<;>cases h
theorem jo {l:Log}(h:fX l=true):1<=l.room/\l.room<=64/\0<=l.last/\l.last<=2147483647/\(l.list.length:Int)<=l.room/\(l.list.length:Int)<=l.last/\qG (jC l) l.list 0=true:=by
 unfold fX at h
 by_cases h1:l.room<1
 ·rw[dT h1]at h;cases h
 rw[dF h1,cF]at h
 by_cases h2:l.room>64
 ·rw[dT h2]at h;cases h
 rw[dF h2,cF]at h
 by_cases h3:l.last<0
 ·rw[dT h3]at h;cases h
 rw[dF h3,cF]at h
 by_cases h4:l.last>2147483647
 ·rw[dT h4]at h;cases h
 rw[dF h4,cF]at h
 by_cases h5:(l.list.length:Int)>l.room
 ·rw[dT h5]at h;cases h
 rw[dF h5,cF]at h
 by_cases h6:(l.list.length:Int)>l.last
 ·rw[dT h6]at h;cases h
 rw[dF h6,cF]at h
 exact⟨by omega,by omega,by omega,by omega,by omega,by omega,h⟩
theorem gi {l:Log}(h:(!fX l)=false):jC l=l.last-l.list.length/\0<=jC l/\l.last<=2147483647/\l.list.length<=64/\0<=l.last/\(l.list.length:Int)<=l.room/\l.room<=64/\1<=l.room:=by
 obtain⟨h1,h2,h3,h4,h5,h6,_⟩:=jo (nf h)
 have e:jC l=l.last-l.list.length:=by
  unfold jC
  exact ax (by omega) (by omega)
 exact⟨e,by omega,h4,by omega,h3,h5,h2,h1⟩
structure OkM (m:Model):Prop where
 borders:m.deck.borders.length<=1000000
 plates:m.deck.plates.length<=1000000
 racks:m.deck.racks.length<=1000000
 cells:m.stock.cells.length<=1000000
 logs:m.stock.logs.length<=1000000
 tips:m.stock.tips.length<=1000000
 owners:m.owners.length<=1000000
 start:∀ p∈m.deck.plates,p.start.length<=1000000
 list:∀ l∈m.stock.logs,l.list.length<=1000000
 fit:jP (m.stock.cells.map Cell.vol)
 own:m.owners.length<=100000
structure OkS (s:Stock):Prop where
 cells:s.cells.length<=1000000
 logs:s.logs.length<=1000000
 tips:s.tips.length<=1000000
 list:∀ l∈s.logs,l.list.length<=1000000
 fit:jP (s.cells.map Cell.vol)
theorem OkM.toS {m:Model}(h:OkM m):OkS m.stock:=⟨h.cells,h.logs,h.tips,h.list,h.fit⟩
theorem tq {α β:Type}{l:List α}{ix:Nat}(h:ix<l.length)(f:α->β)(d:α):(l.take ix).map f++[f (l.getD (Int.toNat (ix:Int)) d)]=(l.take (ix+1)).map f:=by
 rw[bf h,ba h,bO];rfl
theorem Hi {l:List Cell}(h:jP (l.map Cell.vol))(ix:Nat):jP ((l.take ix).map Cell.vol):=fun x hx=>by
 obtain⟨c,hc,rfl⟩:=aT.1 hx
 exact h _ (List.mem_map_of_mem (iX hc))
def EL (s:Stock):Int×Int:=wS (s.cells.map Cell.vol)
theorem Pt {s:Stock}(h:OkS s):Pure prog 160 [⟨.stock,s⟩] [.int,.int] (EL s):=(Mn.c160 h.cells).eq (Jr (by rw[bB];exact h.cells) h.fit)
theorem Gf {d:Deck}(h:((m87 d).2 != 0)=false):(m87 d).1.logs.length=(m87 d).1.cells.length:=by
 rw[AR]at h ⊢
 unfold eW at h ⊢
 cases hz:cW d != 0
 ·simp
 ·rfl
theorem OkM.start' {m:Model}(h:OkM m)(i:Nat):(m.deck.plates.getD i (Ty.dflt Ty.plate)).start.length<=1000000:=by
 rcases ay i m.deck.plates.length with hi|hi
 ·rw[cJ hi];exact h.start _ (aQ hi)
 ·rw[show m.deck.plates.getD i (Ty.dflt Ty.plate)=Ty.dflt Ty.plate by simp[List.getD,au hi]];decide
theorem OkM.list' {m:Model}(h:OkM m)(i:Nat):(m.stock.logs.getD i (Ty.dflt Ty.log)).list.length<=1000000:=by
 rcases ay i m.stock.logs.length with hi|hi
 ·rw[cJ hi];exact h.list _ (aQ hi)
 ·rw[show m.stock.logs.getD i (Ty.dflt Ty.log)=Ty.dflt Ty.log by simp[List.getD,au hi]];decide
end Go.Proofs.Mo

namespace Go.Proofs.Mo
open Go.Proofs.Tryz
open Go Go.VL
set_option maxRecDepth 20000
open Go.Proofs.Zn Go.Proofs.Mn
def fk (to:Int):List Int->Nat->(List Int)->(List Int×Int×Int)
 | [],ix,l1=>(l1,(0:Int),(0:Int))
 | z::zs,ix,l1=>fk to zs (ix+1) (l1.set (z).toNat to)
theorem mj (ids:List Int)(to w:Int)(hl:ids.length<=1000000)(o:List Int)(hb:∀ x∈ids,0<=x/\x<o.length){r:List Int×Int×Int}{A:List Item->AS->Prop}(hA:Closed prog codes sigs f271 (eG 1) (fun r'=>GRes.Le r' ((fun x:List Int×Int×Int=>(bif x.2.2 != 0 then⟨[jE,i64 x.2.1,i64 x.2.2],[(0,.box [i64 w])],1⟩else⟨[.own 1 .int,i64 0,i64 0],[(0,.box [i64 w]),(1,.row 3 .int x.1)],2⟩:GRes)) r)) 1 A)(ix:Nat)(l1:List Int)(hv:l1.length=o.length)(h:fk to (List.drop ix ids) ix l1=r):A (hd f271 0) (iB ids to w l1 (ix:Int)):=by
 refine hA.go (yX ids to w l1 (ix:Int)) (ak (fun h1=>?_) (fun h1=>?_))
 ·have h1:=oT h1
  have hil:ix<ids.length:=by omega
  rw[aX hil Ty.int.dflt,fk]at h
  have hz:=hb _ (kX hil (d:=Ty.dflt Ty.int))
  refine⟨⟨⟨(by omega),(by first|omega|(have:=uP o ids;omega)|(have:=uO o w ids;omega)|(have:=uN o w ids;omega))⟩,tv⟩,⟨(by omega),(by omega)⟩,⟨(by omega),tv,tv⟩,?_⟩
  rw[aw (by omega)]
  exact mj ids to w hl o hb hA (ix+1) _ (by simp only[cM];omega) h
 ·have h1:=oF h1
  rw[dN (by omega),fk]at h
  exact⟨tv,.of_eq (by rw[← h];first|rfl|(simp only[he];rfl))⟩
termination_by ids.length-ix
decreasing_by all_goals omega
def fc (o ids:List Int)(who to e w:Int):List Int×Int×Int:=bif (!(DK o))then([],(0:Int),(1:Int))else bif (!(vT who))then([],(0:Int),(1:Int))else bif (!(DJ ids))then([],(0:Int),(1:Int))else bif decide ((dS o ids)>=(0:Int))then([],ids.getD (dS o ids).toNat Ty.int.dflt,(3:Int))else bif decide ((dI o w ids)>=(0:Int))then([],ids.getD (dI o w ids).toNat Ty.int.dflt,e)else fk to ids 0 o
theorem HK (o ids:List Int)(who to e w:Int)(hl:ids.length<=1000000)(ho:o.length<=1000000)(he:(e != 0)=true):Gc prog 271 [.d (.sl .int o),.d (.sl .int ids),i64 who,i64 to,.clo (.func 272) [] [.ptr 0 0],i64 e] [(0,.box [i64 w])] 1 ((fun x:List Int×Int×Int=>(bif x.2.2 != 0 then⟨[jE,i64 x.2.1,i64 x.2.2],[(0,.box [i64 w])],1⟩else⟨[.own 1 .int,i64 0,i64 0],[(0,.box [i64 w]),(1,.row 3 .int x.1)],2⟩:GRes)) (fc o ids who to e w)):=
 Gc.of_closed (C:=codes) (S:=sigs) mixed func271 (by kernel_rfl) (BE _ _ _) fun A hA=>hA.go (Fb o ids who to e w) (by
  generalize h:fc o ids who to e w=r at hA ⊢
  unfold fc at h
  refine⟨⟨q2,tv⟩,_,Pi _ (by omega),?_⟩
  refine ah h (fun g1 h=>?_) (fun g1 h=>?_)
  ·exact⟨tv,.of_eq (by rw[← h];first|rfl|(simp only[he];rfl))⟩
  ·refine⟨⟨q2,tv⟩,_,MN _,?_⟩
   refine ah h (fun g2 h=>?_) (fun g2 h=>?_)
   ·exact⟨tv,.of_eq (by rw[← h];first|rfl|(simp only[he];rfl))⟩
   ·refine⟨⟨q2,tv⟩,_,Ph _ (by omega),?_⟩
    refine ah h (fun g3 h=>?_) (fun g3 h=>?_)
    ·exact⟨tv,.of_eq (by rw[← h];first|rfl|(simp only[he];rfl))⟩
    ·refine⟨dS o ids,yB _ _ (by omega),?_⟩
     refine ah h (fun g4 h=>?_) (fun g4 h=>?_)
     ·have g4:=oT g4
      exact⟨⟨⟨(by omega),(by first|omega|(have:=uP o ids;omega)|(have:=uO o w ids;omega)|(have:=uN o w ids;omega))⟩,tv⟩,tv,.of_eq (by rw[← h];first|rfl|(simp only[he];rfl))⟩
     ·have g4:=oF g4
      refine⟨dI o w ids,wA _ _ _ (by omega) (AN (by assumption)),?_⟩
      refine ah h (fun g5 h=>?_) (fun g5 h=>?_)
      ·have g5:=oT g5
       exact⟨⟨⟨(by omega),(by first|omega|(have:=uP o ids;omega)|(have:=uO o w ids;omega)|(have:=uN o w ids;omega))⟩,tv⟩,tv,.of_eq (by rw[← h];first|rfl|(simp only[he];rfl))⟩
      ·have g5:=oF g5
       refine⟨o,wB (by omega),?_⟩
       exact mj ids to w hl o (AN (by assumption)) hA 0 o (by rfl) h)
def fj (to:Int):List Int->Nat->(List Int)->(List Int×Int×Int)
 | [],ix,l1=>(l1,(0:Int),(0:Int))
 | z::zs,ix,l1=>fj to zs (ix+1) (l1.set (z).toNat to)
theorem mi (ids:List Int)(to w:Int)(hl:ids.length<=1000000)(o:List Int)(hb:∀ x∈ids,0<=x/\x<o.length){r:List Int×Int×Int}{A:List Item->AS->Prop}(hA:Closed prog codes sigs f271 (eG 1) (fun r'=>GRes.Le r' ((fun x:List Int×Int×Int=>(bif x.2.2 != 0 then⟨[jE,i64 x.2.1,i64 x.2.2],[(0,.box [i64 w])],1⟩else⟨[.own 1 .int,i64 0,i64 0],[(0,.box [i64 w]),(1,.row 3 .int x.1)],2⟩:GRes)) r)) 1 A)(ix:Nat)(l1:List Int)(hv:l1.length=o.length)(h:fj to (List.drop ix ids) ix l1=r):A (hd f271 0) (tf ids to w l1 (ix:Int)):=by
 refine hA.go (yW ids to w l1 (ix:Int)) (ak (fun h1=>?_) (fun h1=>?_))
 ·have h1:=oT h1
  have hil:ix<ids.length:=by omega
  rw[aX hil Ty.int.dflt,fj]at h
  have hz:=hb _ (kX hil (d:=Ty.dflt Ty.int))
  refine⟨⟨⟨(by omega),(by first|omega|(have:=uP o ids;omega)|(have:=uO o w ids;omega)|(have:=uN o w ids;omega))⟩,tv⟩,⟨(by omega),(by omega)⟩,⟨(by omega),tv,tv⟩,?_⟩
  rw[aw (by omega)]
  exact mi ids to w hl o hb hA (ix+1) _ (by simp only[cM];omega) h
 ·have h1:=oF h1
  rw[dN (by omega),fj]at h
  exact⟨tv,.of_eq (by rw[← h];first|rfl|(simp only[he];rfl))⟩
termination_by ids.length-ix
decreasing_by all_goals omega
def eZ (o ids:List Int)(who to e w:Int):List Int×Int×Int:=bif (!(DK o))then([],(0:Int),(1:Int))else bif (!(vT who))then([],(0:Int),(1:Int))else bif (!(DJ ids))then([],(0:Int),(1:Int))else bif decide ((dS o ids)>=(0:Int))then([],ids.getD (dS o ids).toNat Ty.int.dflt,(3:Int))else bif decide ((dH o w ids)>=(0:Int))then([],ids.getD (dH o w ids).toNat Ty.int.dflt,e)else fj to ids 0 o
theorem HJ (o ids:List Int)(who to e w:Int)(hl:ids.length<=1000000)(ho:o.length<=1000000)(he:(e != 0)=true):Gc prog 271 [.d (.sl .int o),.d (.sl .int ids),i64 who,i64 to,.clo (.func 273) [] [.ptr 0 0],i64 e] [(0,.box [i64 w])] 1 ((fun x:List Int×Int×Int=>(bif x.2.2 != 0 then⟨[jE,i64 x.2.1,i64 x.2.2],[(0,.box [i64 w])],1⟩else⟨[.own 1 .int,i64 0,i64 0],[(0,.box [i64 w]),(1,.row 3 .int x.1)],2⟩:GRes)) (eZ o ids who to e w)):=
 Gc.of_closed (C:=codes) (S:=sigs) mixed func271 (by kernel_rfl) (BE _ _ _) fun A hA=>hA.go (Fa o ids who to e w) (by
  generalize h:eZ o ids who to e w=r at hA ⊢
  unfold eZ at h
  refine⟨⟨q2,tv⟩,_,Pi _ (by omega),?_⟩
  refine ah h (fun g1 h=>?_) (fun g1 h=>?_)
  ·exact⟨tv,.of_eq (by rw[← h];first|rfl|(simp only[he];rfl))⟩
  ·refine⟨⟨q2,tv⟩,_,MN _,?_⟩
   refine ah h (fun g2 h=>?_) (fun g2 h=>?_)
   ·exact⟨tv,.of_eq (by rw[← h];first|rfl|(simp only[he];rfl))⟩
   ·refine⟨⟨q2,tv⟩,_,Ph _ (by omega),?_⟩
    refine ah h (fun g3 h=>?_) (fun g3 h=>?_)
    ·exact⟨tv,.of_eq (by rw[← h];first|rfl|(simp only[he];rfl))⟩
    ·refine⟨dS o ids,yB _ _ (by omega),?_⟩
     refine ah h (fun g4 h=>?_) (fun g4 h=>?_)
     ·have g4:=oT g4
      exact⟨⟨⟨(by omega),(by first|omega|(have:=uP o ids;omega)|(have:=uO o w ids;omega)|(have:=uN o w ids;omega))⟩,tv⟩,tv,.of_eq (by rw[← h];first|rfl|(simp only[he];rfl))⟩
     ·have g4:=oF g4
      refine⟨dH o w ids,wz _ _ _ (by omega) (AN (by assumption)),?_⟩
      refine ah h (fun g5 h=>?_) (fun g5 h=>?_)
      ·have g5:=oT g5
       exact⟨⟨⟨(by omega),(by first|omega|(have:=uP o ids;omega)|(have:=uO o w ids;omega)|(have:=uN o w ids;omega))⟩,tv⟩,tv,.of_eq (by rw[← h];first|rfl|(simp only[he];rfl))⟩
      ·have g5:=oF g5
       refine⟨o,wB (by omega),?_⟩
       exact mi ids to w hl o (AN (by assumption)) hA 0 o (by rfl) h)
def oR (o ids:List Int)(w:Int):List Int×Int×Int:=let y1:=fc o ids w w (140:Int) w;bif (kG y1)then([],y1.2.1,y1.2.2)else(y1.1,(0:Int),(0:Int))
theorem c229 (o ids:List Int)(w:Int)(hl:ids.length<=1000000)(ho:o.length<=1000000):Pure prog 229 [⟨.sl .int,o⟩,⟨.sl .int,ids⟩,⟨.int,w⟩] [.sl .int,.int,.int] (oR o ids w):=
 Pure.of_closed (C:=codes) (S:=sigs) mixed func229 (by kernel_rfl) (ac (by kernel_rfl)) fun A hA=>hA.go (t229 o ids w) (by
  generalize h:oR o ids w=r at hA ⊢
  unfold oR at h
  refine⟨fc o ids w w (140:Int) w,HK _ _ _ _ _ _ (by omega) (by omega) (by decide),?_⟩
  refine ah h (fun g1 h=>?_) (fun g1 h=>?_)
  ·exact⟨⟨q2,q2,tv,tv⟩,h⟩
  ·exact⟨⟨q2,q2,tv,tv⟩,h⟩)
def nY (o ids:List Int)(w:Int):List Int×Int×Int:=let y1:=eZ o ids w (0:Int) (141:Int) w;bif (kG y1)then([],y1.2.1,y1.2.2)else(y1.1,(0:Int),(0:Int))
theorem Po (o ids:List Int)(w:Int)(hl:ids.length<=1000000)(ho:o.length<=1000000):Pure prog 231 [⟨.sl .int,o⟩,⟨.sl .int,ids⟩,⟨.int,w⟩] [.sl .int,.int,.int] (nY o ids w):=
 Pure.of_closed (C:=codes) (S:=sigs) mixed func231 (by kernel_rfl) (ac (by kernel_rfl)) fun A hA=>hA.go (t231 o ids w) (by
  generalize h:nY o ids w=r at hA ⊢
  unfold nY at h
  refine⟨eZ o ids w (0:Int) (141:Int) w,HJ _ _ _ _ _ _ (by omega) (by omega) (by decide),?_⟩
  refine ah h (fun g1 h=>?_) (fun g1 h=>?_)
  ·exact⟨⟨q2,q2,tv,tv⟩,h⟩
  ·exact⟨⟨q2,q2,tv,tv⟩,h⟩)
def kJ (w:Int):List Int->Nat->(List Int)->(List Int)
 | [],ix,l1=>l1
 | z::zs,ix,l1=>bif (z==w)then kJ w zs (ix+1) (l1++[(ix:Int)])else kJ w zs (ix+1) l1
theorem nW (o:List Int)(w:Int)(hl:o.length<=1000000)  {r:List Int}{A:Pr}(hA:CL codes sigs f270 [.sl .int] r A)(ix:Nat)(l1:List Int)(hv:l1.length<=ix)(h:kJ w (List.drop ix o) ix l1=r):A (hd f270 0) (tg o w (ix:Int) l1):=by
 refine hA.go (Lr o w (ix:Int) l1) (ak (fun h1=>?_) (fun h1=>?_))
 ·have h1:=oT h1
  have hil:ix<o.length:=by omega
  rw[aX hil Ty.int.dflt,kJ]at h
  refine⟨⟨⟨(by omega),(by omega)⟩,tv⟩,?_⟩
  refine ah h (fun g1 h=>?_) (fun g1 h=>?_)
  ·try replace g1:=aV g1
   refine⟨⟨q2,tv⟩,⟨(by simp only[ag,am];omega),tv⟩,?_⟩
   rw[aw (by omega)]
   exact nW o w hl  hA (ix+1) _ (by first|omega|(simp only[al,ag,am];omega)) h
  ·rw[aw (by omega)]
   exact nW o w hl  hA (ix+1) _ (by first|omega|(simp only[al,ag,am];omega)) h
 ·have h1:=oF h1
  rw[dN (by omega),kJ]at h
  exact⟨q2,h⟩
termination_by o.length-ix
decreasing_by all_goals omega
def zF (o:List Int)(w:Int):List Int:=kJ w o 0 []
theorem c270 (o:List Int)(w:Int)(hl:o.length<=1000000):Pure prog 270 [⟨.sl .int,o⟩,⟨.int,w⟩] [.sl .int] (zF o w):=
 Pure.of_closed (C:=codes) (S:=sigs) mixed func270 (by kernel_rfl) (ac (by kernel_rfl)) fun A hA=>hA.go (t270 o w) (by
  generalize h:zF o w=r at hA ⊢
  unfold zF at h
  refine hA.row 5 3 .int (by kernel_rfl) (s':=tg o w (0:Int) []) (by kernel_rfl) ?_
  exact nW o w hl  hA 0 [] (by simp) h)
def ql (w:Int):List Int->Nat->(List Int)->(List Int)
 | [],ix,l1=>l1
 | z::zs,ix,l1=>bif (z==w)then ql w zs (ix+1) (l1++[(ix:Int)])else ql w zs (ix+1) l1
def m39 (o:List Int)(w:Int):List Int:=ql w o 0 []
def sf (o:List Int)(w:Int):List Int->Nat->(Int×Bool)
 | [],ix=>((0:Int),false)
 | z::zs,ix=>bif decide (z<(0:Int))then(z,true)else bif decide (z>=(o.length:Int))then(z,true)else bif (o.getD (z).toNat Ty.int.dflt != w)then(z,true)else sf o w zs (ix+1)
theorem uv (o ids:List Int)(w:Int)(hl:ids.length<=1000000)  {r:Int×Bool}{A:Pr}(hA:CL codes sigs f99 [.int,.bool] r A)(ix:Nat)(h:sf o w (List.drop ix ids) ix=r):A (hd f99 0) (Cm o ids w (ix:Int)):=by
 refine hA.go (Nt o ids w (ix:Int)) (ak (fun h1=>?_) (fun h1=>?_))
 ·have h1:=oT h1
  have hil:ix<ids.length:=by omega
  rw[aX hil Ty.int.dflt,sf]at h
  refine⟨⟨⟨(by omega),(by omega)⟩,tv⟩,?_⟩
  refine ah h (fun g1 h=>?_) (fun g1 h=>?_)
  ·have g1:=oT g1
   exact⟨⟨q2,tv,tv⟩,h⟩
  ·have g1:=oF g1
   refine ah h (fun g2 h=>?_) (fun g2 h=>?_)
   ·have g2:=oT g2
    exact⟨⟨q2,tv,tv⟩,h⟩
   ·have g2:=oF g2
    refine⟨⟨⟨(by omega),(by omega)⟩,tv⟩,?_⟩
    refine ah h (fun g3 h=>?_) (fun g3 h=>?_)
    ·exact⟨⟨q2,tv,tv⟩,h⟩
    ·try replace g3:=ai.1 g3
     rw[aw (by omega)]
     exact uv o ids w hl  hA (ix+1) h
 ·have h1:=oF h1
  rw[dN (by omega),sf]at h
  exact⟨⟨q2,tv,tv⟩,h⟩
termination_by ids.length-ix
decreasing_by all_goals omega
def m99 (o ids:List Int)(w:Int):Int×Bool:=sf o w ids 0
theorem c99 (o ids:List Int)(w:Int)(hl:ids.length<=1000000):Pure prog 99 [⟨.sl .int,o⟩,⟨.sl .int,ids⟩,⟨.int,w⟩] [.int,.bool] (m99 o ids w):=
 Pure.of_closed (C:=codes) (S:=sigs) mixed func99 (by kernel_rfl) (ac (by kernel_rfl)) fun A hA=>hA.go (t99 o ids w) (by
  generalize h:m99 o ids w=r at hA ⊢
  unfold m99 at h
  exact uv o ids w hl  hA 0 h)
def my (o:List Int)(w:Int):List Int->Nat->(Int×Bool)
 | [],ix=>((0:Int),false)
 | z::zs,ix=>bif decide (z<(0:Int))then(z,true)else bif decide (z>=(o.length:Int))then(z,true)else bif (o.getD (z).toNat Ty.int.dflt != w)then(z,true)else my o w zs (ix+1)
def DS (o ids:List Int)(w:Int):Int×Bool:=my o w ids 0
def iv (o:List Int):List Int->Nat->(Int×Int)
 | [],ix=>((0:Int),(0:Int))
 | z::zs,ix=>bif decide (z<(0:Int))then(z,(3:Int))else bif decide (z>=(o.length:Int))then(z,(3:Int))else iv o zs (ix+1)
def lT (o ids:List Int)(w:Int):Int×Int:=bif (!(xQ o))then((0:Int),(1:Int))else bif decide (w<(1:Int))then((0:Int),(1:Int))else bif decide (w>(8:Int))then((0:Int),(1:Int))else bif (!(zG ids))then((0:Int),(1:Int))else iv o ids 0
def jF (w:Int):List Int->Nat->(List Int)->(List Int)
 | [],ix,l1=>l1
 | z::zs,ix,l1=>jF w zs (ix+1) (l1.set (z).toNat w)
def lS (o ids:List Int)(w:Int):List Int:=jF w ids 0 o
def pJ (l:List Tip)(b:Int):Int×Bool:=let y1:=GB l (0:Int) (Tip.mk (2:Int) b);(y1.1,y1.2)
theorem MR (l:List Tip)(b:Int)(hl:l.length<=1000000):Pure prog 166 [⟨.sl .tip,l⟩,⟨.int,b⟩] [.int,.bool] (pJ l b):=
 Pure.of_closed (C:=codes) (S:=sigs) mixed func166 (by kernel_rfl) (ac (by kernel_rfl)) fun A hA=>hA.go (t166 l b) (by
  generalize h:pJ l b=r at hA ⊢
  unfold pJ at h
  exact⟨⟨q2,q2,q3,tv⟩,_,Mn.c227 _ _ _ (by omega),⟨q2,tv,tv⟩,h⟩)
def eQ (b:Int):List Tip->Nat->Int
 | [],ix=>(-1:Int)
 | z::zs,ix=>bif ((z).state==(2:Int))then bif ((z).by'==b)then(ix:Int)else eQ b zs (ix+1)else eQ b zs (ix+1)
theorem nZ (s:Stock)(b:Int)(hl:s.tips.length<=1000000)  {r:Int}{A:Pr}(hA:CL codes sigs f167 [.int] r A)(ix:Nat)(h:eQ b (List.drop ix s.tips) ix=r):A (hd f167 0) (ti s b (ix:Int)):=by
 refine hA.go (Lt s b (ix:Int)) (ak (fun h1=>?_) (fun h1=>?_))
 ·have h1:=oT h1
  have hil:ix<s.tips.length:=by omega
  rw[aX hil Ty.tip.dflt,eQ]at h
  refine⟨⟨⟨(by omega),(by omega)⟩,tv⟩,?_⟩
  refine ah h (fun g1 h=>?_) (fun g1 h=>?_)
  ·try replace g1:=aV g1
   refine⟨⟨⟨(by omega),(by omega)⟩,tv⟩,?_⟩
   refine ah h (fun g2 h=>?_) (fun g2 h=>?_)
   ·try replace g2:=aV g2
    exact⟨q2,h⟩
   ·rw[aw (by omega)]
    exact nZ s b hl  hA (ix+1) h
  ·rw[aw (by omega)]
   exact nZ s b hl  hA (ix+1) h
 ·have h1:=oF h1
  rw[dN (by omega),eQ]at h
  exact⟨q2,h⟩
termination_by s.tips.length-ix
decreasing_by all_goals omega
def gD (s:Stock)(b:Int):Int:=eQ b s.tips 0
theorem c167 (s:Stock)(b:Int)(hl:s.tips.length<=1000000):Pure prog 167 [⟨.stock,s⟩,⟨.int,b⟩] [.int] (gD s b):=
 Pure.of_closed (C:=codes) (S:=sigs) mixed func167 (by kernel_rfl) (ac (by kernel_rfl)) fun A hA=>hA.go (t167 s b) (by
  generalize h:gD s b=r at hA ⊢
  unfold gD at h
  exact nZ s b hl  hA 0 h)
def zA (m:Model)(l1:List (Option Nat))(l2:List Rack)(l3:List Plate)(l4:List Cell)(l5:List Log)(l6:List Tip) :Model:=Model.mk (Deck.mk l1 l3 l2 m.deck.arms) (Stock.mk l4 l5 l6 m.stock.start m.stock.inn m.stock.out) m.owners
theorem zx (m:Model)(l1:List (Option Nat))(l2:List Rack)(l3:List Plate)(l4:List Cell)(l5:List Log)(l6:List Tip)(hb:OkM m)  {r:Model}{A:Pr}(hA:CL codes sigs f85 [.model] r A)(h:zA m l1 l2 l3 l4 l5 l6=r):A (rg f85 19) (Ah m l1 l2 l3 l4 l5 l6):=by
 refine hA.go (Lj m l1 l2 l3 l4 l5 l6) ?_
 unfold zA at h
 obtain⟨b1,b2,b3,b4,b5,b6,b7,b8,b9,b10,b11⟩:=id hb
 exact⟨m.owners,wB (by omega),q12,h⟩
def vP (m:Model)(l1:List (Option Nat))(l2:List Rack)(l3:List Plate)(l4:List Cell)(l5:List Log) :Model:=zA m l1 l2 l3 l4 l5 m.stock.tips
theorem zy (m:Model)(l1:List (Option Nat))(l2:List Rack)(l3:List Plate)(l4:List Cell)(l5:List Log)(hb:OkM m)  {r:Model}{A:Pr}(hA:CL codes sigs f85 [.model] r A)(h:vP m l1 l2 l3 l4 l5=r):A (rg f85 18) (Ai m l1 l2 l3 l4 l5):=by
 refine hA.go (Lk m l1 l2 l3 l4 l5) ?_
 unfold vP at h
 obtain⟨b1,b2,b3,b4,b5,b6,b7,b8,b9,b10,b11⟩:=id hb
 refine⟨m.stock.tips,Pv (by omega),?_⟩
 exact zx m l1 l2 l3 l4 l5 m.stock.tips hb  hA  h
def Gq (l5:List Log)(i4:Int)(kc8:(List Log)->Model) :Model:=kc8 (l5.set i4.toNat (Log.mk (l5.getD i4.toNat Ty.log.dflt).room (l5.getD i4.toNat Ty.log.dflt).last (l5.getD i4.toNat Ty.log.dflt).list))
theorem Dy (m:Model)(l1:List (Option Nat))(l2:List Rack)(l3:List Plate)(l4:List Cell)(i3:Int)(l5:List Log)(i4:Int)(hb:OkM m)(hq:i3=(m.stock.logs.length:Int)){r:Model}{A:Pr}(hA:CL codes sigs f85 [.model] r A)(kc8:(List Log)->Model)(hkc8:∀ (l5':List Log),(l5'=m.stock.logs)->kc8 l5'=r->A (hd f85 1) (yJ m l1 l2 l3 l4 i3 l5' (w64 (i4+(1:Int)))))(hv:l5=m.stock.logs/\0<=i4/\i4<i3)(h:Gq l5 i4 kc8=r):A (rg f85 16) (Ig m l1 l2 l3 l4 i3 l5 i4):=by
 refine hA.go (Nx m l1 l2 l3 l4 i3 l5 i4) ?_
 unfold Gq at h
 have hl5:l5.length=m.stock.logs.length:=by rw[hv.1]
 have hz:(l5.getD i4.toNat Ty.log.dflt).list.length<=1000000:=by rw[hv.1];exact hb.list' _
 refine⟨(l5.getD i4.toNat Ty.log.dflt).list,Pw (by omega),⟨(by omega),(by omega)⟩,⟨(by omega),tv,tv⟩,?_⟩
 exact hkc8 _ (by first|exact hv|(rw[hv.1];exact iP (getD_some (by omega)))) h
def oM (m:Model)(l1:List (Option Nat))(l2:List Rack)(l3:List Plate)(l4:List Cell):Nat->Nat->(List Log)->Model
 | 0,ix,l5=>vP m l1 l2 l3 l4 l5
 | n+1,ix,l5=>Gq l5 (ix:Int) (fun l5'=>oM m l1 l2 l3 l4 n (ix+1) l5')
theorem uG (m:Model)(l1:List (Option Nat))(l2:List Rack)(l3:List Plate)(l4:List Cell)(i3:Int)(hb:OkM m)(hq:i3=(m.stock.logs.length:Int)){r:Model}{A:Pr}(hA:CL codes sigs f85 [.model] r A)(ix:Nat)(l5:List Log)(hv:l5=m.stock.logs)(h:oM m l1 l2 l3 l4 (i3.toNat-ix) ix l5=r):A (hd f85 1) (yJ m l1 l2 l3 l4 i3 l5 (ix:Int)):=by
 refine hA.go (Ny m l1 l2 l3 l4 i3 l5 (ix:Int)) (ak (fun h1=>?_) (fun h1=>?_))
 ·have h1:=oT h1
  have hil:i3.toNat-ix=(i3.toNat-(ix+1))+1:=by omega
  rw[hil,oM]at h
  obtain⟨b1,b2,b3,b4,b5,b6,b7,b8,b9,b10,b11⟩:=id hb
  have hl5:l5.length=m.stock.logs.length:=by rw[hv]
  refine⟨⟨(by omega),(by omega)⟩,(by omega),?_⟩
  exact Dy m l1 l2 l3 l4 i3 l5 (ix:Int) hb hq hA _ (fun l5' hv h=>by rw[aw (by omega)];exact uG m l1 l2 l3 l4 i3 hb hq hA (ix+1) l5' (by first|exact hv|(rw[hv.1];exact iP (getD_some (by omega)))) h)  (by exact⟨hv,by omega,by omega⟩) h
 ·have h1:=oF h1
  rw[show i3.toNat-ix=0 by omega,oM]at h
  exact zy m l1 l2 l3 l4 l5 hb  hA  h
termination_by i3.toNat-ix
decreasing_by all_goals omega
def Gr (m:Model)(l1:List (Option Nat))(l2:List Rack)(l3:List Plate)(l4:List Cell) :Model:=oM m l1 l2 l3 l4 ((m.stock.logs.length:Int).toNat-0) 0 m.stock.logs
theorem Dz (m:Model)(l1:List (Option Nat))(l2:List Rack)(l3:List Plate)(l4:List Cell)(hb:OkM m)  {r:Model}{A:Pr}(hA:CL codes sigs f85 [.model] r A)(h:Gr m l1 l2 l3 l4=r):A (rg f85 12) (Ih m l1 l2 l3 l4):=by
 refine hA.go (Nz m l1 l2 l3 l4) ?_
 unfold Gr at h
 obtain⟨b1,b2,b3,b4,b5,b6,b7,b8,b9,b10,b11⟩:=id hb
 refine⟨m.stock.logs,Px (by omega),?_⟩
 exact uG m l1 l2 l3 l4 (m.stock.logs.length:Int) hb rfl hA 0 m.stock.logs (by rfl) h
def Gs (m:Model)(l1:List (Option Nat))(l2:List Rack)(l3:List Plate) :Model:=Gr m l1 l2 l3 m.stock.cells
theorem DA (m:Model)(l1:List (Option Nat))(l2:List Rack)(l3:List Plate)(hb:OkM m)  {r:Model}{A:Pr}(hA:CL codes sigs f85 [.model] r A)(h:Gs m l1 l2 l3=r):A (rg f85 11) (Ii m l1 l2 l3):=by
 refine hA.go (NA m l1 l2 l3) ?_
 unfold Gs at h
 obtain⟨b1,b2,b3,b4,b5,b6,b7,b8,b9,b10,b11⟩:=id hb
 refine⟨m.stock.cells,Ki (by omega),?_⟩
 exact Dz m l1 l2 l3 m.stock.cells hb  hA  h
def xM (m:Model)(l1:List (Option Nat))(l2:List Rack)(l3:List Plate) :Model:=Gs m l1 l2 l3
theorem DB (m:Model)(l1:List (Option Nat))(l2:List Rack)(l3:List Plate)(hb:OkM m)  {r:Model}{A:Pr}(hA:CL codes sigs f85 [.model] r A)(h:xM m l1 l2 l3=r):A (rg f85 10) (Ij m l1 l2 l3):=by
 refine hA.go (NB m l1 l2 l3) ?_
 unfold xM at h
 obtain⟨b1,b2,b3,b4,b5,b6,b7,b8,b9,b10,b11⟩:=id hb
 exact DA m l1 l2 l3 hb  hA  h
def Gt (l3:List Plate)(i2:Int)(kc3:(List Plate)->Model) :Model:=kc3 (l3.set i2.toNat (Plate.mk (l3.getD i2.toNat Ty.plate.dflt).rows (l3.getD i2.toNat Ty.plate.dflt).cols (l3.getD i2.toNat Ty.plate.dflt).x (l3.getD i2.toNat Ty.plate.dflt).pitch (l3.getD i2.toNat Ty.plate.dflt).reach (l3.getD i2.toNat Ty.plate.dflt).cap (l3.getD i2.toNat Ty.plate.dflt).start))
theorem DC (m:Model)(l1:List (Option Nat))(l2:List Rack)(i1:Int)(l3:List Plate)(i2:Int)(hb:OkM m)(hq:i1=(m.deck.plates.length:Int)){r:Model}{A:Pr}(hA:CL codes sigs f85 [.model] r A)(kc3:(List Plate)->Model)(hkc3:∀ (l3':List Plate),(l3'=m.deck.plates)->kc3 l3'=r->A (hd f85 0) (yK m l1 l2 i1 l3' (w64 (i2+(1:Int)))))(hv:l3=m.deck.plates/\0<=i2/\i2<i1)(h:Gt l3 i2 kc3=r):A (rg f85 8) (Ik m l1 l2 i1 l3 i2):=by
 refine hA.go (NC m l1 l2 i1 l3 i2) ?_
 unfold Gt at h
 have hl3:l3.length=m.deck.plates.length:=by rw[hv.1]
 have hz:(l3.getD i2.toNat Ty.plate.dflt).start.length<=1000000:=by rw[hv.1];exact hb.start' _
 refine⟨(l3.getD i2.toNat Ty.plate.dflt).start,wB (by omega),⟨(by omega),(by omega)⟩,⟨(by omega),tv,tv⟩,?_⟩
 exact hkc3 _ (by first|exact hv|(rw[hv.1];exact iP (getD_some (by omega)))) h
def oN (m:Model)(l1:List (Option Nat))(l2:List Rack):Nat->Nat->(List Plate)->Model
 | 0,ix,l3=>xM m l1 l2 l3
 | n+1,ix,l3=>Gt l3 (ix:Int) (fun l3'=>oN m l1 l2 n (ix+1) l3')
theorem uH (m:Model)(l1:List (Option Nat))(l2:List Rack)(i1:Int)(hb:OkM m)(hq:i1=(m.deck.plates.length:Int)){r:Model}{A:Pr}(hA:CL codes sigs f85 [.model] r A)(ix:Nat)(l3:List Plate)(hv:l3=m.deck.plates)(h:oN m l1 l2 (i1.toNat-ix) ix l3=r):A (hd f85 0) (yK m l1 l2 i1 l3 (ix:Int)):=by
 refine hA.go (ND m l1 l2 i1 l3 (ix:Int)) (ak (fun h1=>?_) (fun h1=>?_))
 ·have h1:=oT h1
  have hil:i1.toNat-ix=(i1.toNat-(ix+1))+1:=by omega
  rw[hil,oN]at h
  obtain⟨b1,b2,b3,b4,b5,b6,b7,b8,b9,b10,b11⟩:=id hb
  have hl3:l3.length=m.deck.plates.length:=by rw[hv]
  refine⟨⟨(by omega),(by omega)⟩,(by omega),?_⟩
  exact DC m l1 l2 i1 l3 (ix:Int) hb hq hA _ (fun l3' hv h=>by rw[aw (by omega)];exact uH m l1 l2 i1 hb hq hA (ix+1) l3' (by first|exact hv|(rw[hv.1];exact iP (getD_some (by omega)))) h)  (by exact⟨hv,by omega,by omega⟩) h
 ·have h1:=oF h1
  rw[show i1.toNat-ix=0 by omega,oN]at h
  exact DB m l1 l2 l3 hb  hA  h
termination_by i1.toNat-ix
decreasing_by all_goals omega
def Gu (m:Model)(l1:List (Option Nat))(l2:List Rack) :Model:=oN m l1 l2 ((m.deck.plates.length:Int).toNat-0) 0 m.deck.plates
theorem DD (m:Model)(l1:List (Option Nat))(l2:List Rack)(hb:OkM m)  {r:Model}{A:Pr}(hA:CL codes sigs f85 [.model] r A)(h:Gu m l1 l2=r):A (rg f85 4) (Il m l1 l2):=by
 refine hA.go (NE m l1 l2) ?_
 unfold Gu at h
 obtain⟨b1,b2,b3,b4,b5,b6,b7,b8,b9,b10,b11⟩:=id hb
 refine⟨m.deck.plates,MT (by omega),?_⟩
 exact uH m l1 l2 (m.deck.plates.length:Int) hb rfl hA 0 m.deck.plates (by rfl) h
def Gv (m:Model)(l1:List (Option Nat)) :Model:=Gu m l1 m.deck.racks
theorem DE (m:Model)(l1:List (Option Nat))(hb:OkM m)  {r:Model}{A:Pr}(hA:CL codes sigs f85 [.model] r A)(h:Gv m l1=r):A (rg f85 3) (Im m l1):=by
 refine hA.go (NF m l1) ?_
 unfold Gv at h
 obtain⟨b1,b2,b3,b4,b5,b6,b7,b8,b9,b10,b11⟩:=id hb
 refine⟨m.deck.racks,Ac (by omega),?_⟩
 exact DD m l1 m.deck.racks hb  hA  h
def Gw (m:Model) :Model:=Gv m m.deck.borders
theorem DF (m:Model)(hb:OkM m)  {r:Model}{A:Pr}(hA:CL codes sigs f85 [.model] r A)(h:Gw m=r):A (rg f85 2) (In m):=by
 refine hA.go (NG m) ?_
 unfold Gw at h
 obtain⟨b1,b2,b3,b4,b5,b6,b7,b8,b9,b10,b11⟩:=id hb
 refine⟨m.deck.borders,Kj (by omega),?_⟩
 exact DE m m.deck.borders hb  hA  h
def m85 (m:Model):Model:=Gw m
theorem c85 (m:Model)(hb:OkM m):Pure prog 85 [⟨.model,m⟩] [.model] (m85 m):=
 Pure.of_closed (C:=codes) (S:=sigs) mixed func85 (by kernel_rfl) (ac (by kernel_rfl)) fun A hA=>hA.go (t85 m) (by
  generalize h:m85 m=r at hA ⊢
  unfold m85 at h
  exact DF m hb  hA  h)
def pK (l:Log)(v:Int):List Change->Nat->(List Change)->(List Change×Int)
 | [],ix,l1=>bif ((l1.length:Int) != w64 (l.last-v))then([],(111:Int))else(l1,(0:Int))
 | z::zs,ix,l1=>bif decide ((z).ver>v)then pK l v zs (ix+1) (l1++[z])else pK l v zs (ix+1) l1
def iw (l:Log)(v:Int):List Change×Int:=bif (!(fX l))then([],(110:Int))else bif decide (v<(0:Int))then([],(1:Int))else bif decide (v>l.last)then([],(1:Int))else pK l v l.list 0 []
def ss (l:Log)(v:Int):List Change×Int:=bif (!(fX l))then([],(110:Int))else bif decide (v<(0:Int))then([],(1:Int))else bif decide (v>l.last)then([],(1:Int))else bif decide (v<(jC l))then([],(111:Int))else([]++List.drop (w64 (v-(jC l))).toNat l.list,(0:Int))
theorem c235 (l:Log)(v:Int)(hl:l.list.length<=1000000):Pure prog 235 [⟨.log,l⟩,⟨.int,v⟩] [.sl .change,.int] (ss l v):=
 Pure.of_closed (C:=codes) (S:=sigs) mixed func235 (by kernel_rfl) (ac (by kernel_rfl)) fun A hA=>hA.go (t235 l v) (by
  generalize h:ss l v=r at hA ⊢
  unfold ss at h
  refine⟨⟨q4,tv⟩,_,Mn.Kf _,?_⟩
  refine ah h (fun g1 h=>?_) (fun g1 h=>?_)
  ·exact⟨⟨q2,tv,tv⟩,h⟩
  ·refine ah h (fun g2 h=>?_) (fun g2 h=>?_)
   ·have g2:=oT g2
    exact⟨⟨q2,tv,tv⟩,h⟩
   ·have g2:=oF g2
    refine ah h (fun g3 h=>?_) (fun g3 h=>?_)
    ·have g3:=oT g3
     exact⟨⟨q2,tv,tv⟩,h⟩
    ·have g3:=oF g3
     refine⟨⟨q4,tv⟩,_,Mn.MO _,?_⟩
     refine ah h (fun g4 h=>?_) (fun g4 h=>?_)
     ·have g4:=oT g4
      exact⟨⟨q2,tv,tv⟩,h⟩
     ·have g4:=oF g4
      exact⟨tv,⟨q4,tv⟩,_,Mn.MO _,⟨⟨(by first|omega|(exact .inl (by simp))|(have hq:=gi (by assumption);first|omega|(rw[ax (by omega) (by omega)];omega)|(simp only[al,ag,am,aK,aF,aq];omega))),(by first|omega|(exact .inl (by simp))|(have hq:=gi (by assumption);first|omega|(rw[ax (by omega) (by omega)];omega)|(simp only[al,ag,am,aK,aF,aq];omega)))⟩,tv⟩,⟨(by first|omega|(exact .inl (by simp))|(have hq:=gi (by assumption);first|omega|(rw[ax (by omega) (by omega)];omega)|(simp only[al,ag,am,aK,aF,aq];omega))),tv⟩,⟨q2,tv,tv⟩,h⟩)
def Mr (l:Log)(b n:Int):Log×Int:=bif (!(fX l))then(Log.mk (0:Int) (0:Int) [],(110:Int))else bif (!(lB b n))then(Log.mk (0:Int) (0:Int) [],(1:Int))else bif (l.last==(2147483647:Int))then(Log.mk (0:Int) (0:Int) [],(101:Int))else bif decide ((↑([]++l.list++[Change.mk (w64 (l.last+(1:Int))) b n]).length:Int)>l.room)then(Log.mk l.room (w64 (l.last+(1:Int))) (List.take (([]++l.list++[Change.mk (w64 (l.last+(1:Int))) b n]).length-1) (List.drop 1 ([]++l.list++[Change.mk (w64 (l.last+(1:Int))) b n]))),(0:Int))else(Log.mk l.room (w64 (l.last+(1:Int))) ([]++l.list++[Change.mk (w64 (l.last+(1:Int))) b n]),(0:Int))
def DI (l:Log)(b n:Int):Log×Int:=bif (!(fX l))then(Log.mk (0:Int) (0:Int) [],(110:Int))else bif (!(lB b n))then(Log.mk (0:Int) (0:Int) [],(1:Int))else bif (l.last==(2147483647:Int))then(Log.mk (0:Int) (0:Int) [],(101:Int))else bif ((uW l)==l.room)then let y1:=uW (Log.mk l.room (w64 (l.last+(1:Int))) l.list);(Log.mk l.room (w64 (l.last+(1:Int))) (List.drop 1 (List.take y1.toNat l.list)++[Change.mk (w64 (l.last+(1:Int))) b n]),(0:Int))else let y2:=uW (Log.mk l.room (w64 (l.last+(1:Int))) l.list);(Log.mk l.room (w64 (l.last+(1:Int))) (List.drop 0 (List.take y2.toNat l.list)++[Change.mk (w64 (l.last+(1:Int))) b n]),(0:Int))
theorem c305 (l:Log)(b n:Int)(hl:l.list.length<=1000000):Pure prog 305 [⟨.log,l⟩,⟨.int,b⟩,⟨.int,n⟩] [.log,.int] (DI l b n):=
 Pure.of_closed (C:=codes) (S:=sigs) mixed func305 (by kernel_rfl) (ac (by kernel_rfl)) fun A hA=>hA.go (t305 l b n) (by
  generalize h:DI l b n=r at hA ⊢
  unfold DI at h
  refine⟨⟨q4,tv⟩,_,Mn.Kf _,?_⟩
  refine ah h (fun g1 h=>?_) (fun g1 h=>?_)
  ·exact⟨⟨q4,tv,tv⟩,h⟩
  ·refine⟨⟨q2,q2,tv⟩,_,Mn.Pn _ _,?_⟩
   refine ah h (fun g2 h=>?_) (fun g2 h=>?_)
   ·exact⟨⟨q4,tv,tv⟩,h⟩
   ·refine ah h (fun g3 h=>?_) (fun g3 h=>?_)
    ·try replace g3:=aV g3
     exact⟨⟨q4,tv,tv⟩,h⟩
    ·refine⟨⟨q4,tv⟩,_,Mn.Aa _,?_⟩
     refine ah h (fun g4 h=>?_) (fun g4 h=>?_)
     ·try replace g4:=aV g4
      exact⟨⟨q4,tv⟩,_,Mn.Aa _,⟨q4,tv⟩,_,Mn.Aa _,⟨⟨(by first|omega|(exact .inl (by simp))|(have hq:=gi (by assumption);first|omega|(rw[ax (by omega) (by omega)];omega)|(simp only[al,ag,am,aK,aF,aq];omega))),(by first|omega|(exact .inl (by simp))|(have hq:=gi (by assumption);first|omega|(rw[ax (by omega) (by omega)];omega)|(simp only[al,ag,am,aK,aF,aq];omega))),(by first|omega|(exact .inl (by simp))|(have hq:=gi (by assumption);first|omega|(rw[ax (by omega) (by omega)];omega)|(simp only[al,ag,am,aK,aF,aq];omega))),(by first|omega|(exact .inl (by simp))|(have hq:=gi (by assumption);first|omega|(rw[ax (by omega) (by omega)];omega)|(simp only[al,ag,am,aK,aF,aq];omega)))⟩,tv⟩,⟨q4,tv⟩,⟨⟨(by first|omega|(exact .inl (by simp))|(have hq:=gi (by assumption);first|omega|(rw[ax (by omega) (by omega)];omega)|(simp only[al,ag,am,aK,aF,aq];omega))),(by first|omega|(exact .inl (by simp))|(have hq:=gi (by assumption);first|omega|(rw[ax (by omega) (by omega)];omega)|(simp only[al,ag,am,aK,aF,aq];omega)))⟩,tv⟩,⟨q4,tv,tv⟩,h⟩
     ·exact⟨⟨q4,tv⟩,_,Mn.Aa _,⟨q4,tv⟩,_,Mn.Aa _,⟨⟨(by first|omega|(exact .inl (by simp))|(have hq:=gi (by assumption);first|omega|(rw[ax (by omega) (by omega)];omega)|(simp only[al,ag,am,aK,aF,aq];omega))),(by first|omega|(exact .inl (by simp))|(have hq:=gi (by assumption);first|omega|(rw[ax (by omega) (by omega)];omega)|(simp only[al,ag,am,aK,aF,aq];omega))),(by first|omega|(exact .inl (by simp))|(have hq:=gi (by assumption);first|omega|(rw[ax (by omega) (by omega)];omega)|(simp only[al,ag,am,aK,aF,aq];omega))),(by first|omega|(exact .inl (by simp))|(have hq:=gi (by assumption);first|omega|(rw[ax (by omega) (by omega)];omega)|(simp only[al,ag,am,aK,aF,aq];omega)))⟩,tv⟩,⟨q4,tv⟩,⟨⟨(by first|omega|(exact .inl (by simp))|(have hq:=gi (by assumption);first|omega|(rw[ax (by omega) (by omega)];omega)|(simp only[al,ag,am,aK,aF,aq];omega))),(by first|omega|(exact .inl (by simp))|(have hq:=gi (by assumption);first|omega|(rw[ax (by omega) (by omega)];omega)|(simp only[al,ag,am,aK,aF,aq];omega)))⟩,tv⟩,⟨q4,tv,tv⟩,h⟩)
end Go.Proofs.Mo

namespace Go.Proofs.Mo
open Go.Proofs.Tryz
open Go Go.VL Go.Proofs.Zn Go.Proofs.Mn
open Wn (dR bK)
set_option maxRecDepth 20000
def gr (n:Int):List Tip->List Int->Bool
 | [],c => !(oL c)
 | t::ts,c=>bif !(fJ t)then false else bif decide (t.by'>n)then false else bif t.state==2 then gr n ts (c.set t.by'.toNat (w64 (c.getD t.by'.toNat 0+1)))else gr n ts c
def zQ (l:List Tip)(n:Int):Bool:=gr n l [0,0,0,0,0,0,0,0,0]
theorem rr {t:Tip}(h:(!(fJ t))=false)(h2:(t.state==2)=true):t.by'=1\/t.by'=2\/t.by'=3\/t.by'=4\/t.by'=5\/t.by'=6\/t.by'=7\/t.by'=8:=by
 have h:=nf h
 unfold fJ at h
 rw[h2,cT]at h
 unfold oh at h
 by_cases h3:t.by'>=1
 ·rw[dT h3,cT]at h
  have:=oT h
  omega
 ·rw[dF h3]at h;cases h
theorem iL {l:List Tip}{n:Int}(hl:l.length<=1000000){r:Bool}{A:Pr}(hA:CL codes sigs f157 [.bool] r A)(ix:Nat)(c0 c1 c2 c3 c4 c5 c6 c7 c8:Int)
  (h:gr n (l.drop ix) [c0,c1,c2,c3,c4,c5,c6,c7,c8]=r):A (hd f157 0) (aS l n (ix:Int) c8 c7 c6 c5 c4 c3 c2 c1 c0):=by
 refine hA.go (Lv l n (ix:Int) c8 c7 c6 c5 c4 c3 c2 c1 c0) (ak (fun h1=>?_) (fun h1=>?_))
 ·have h1:=oT h1
  have hil:ix<l.length:=by omega
  rw[aX hil (Ty.dflt Ty.tip),gr]at h
  refine⟨⟨⟨by omega,by omega⟩,tv⟩,⟨⟨tv,tv,tv⟩,tv⟩,_,Mn.MQ _,?_⟩
  refine ah h (fun g1 h=>⟨⟨tv,tv⟩,h⟩) (fun g1 h=>?_)
  refine ah h (fun g2 h=>⟨⟨tv,tv⟩,h⟩) (fun g2 h=>?_)
  refine ah h (fun g3 h=>?_) (fun g3 h=>?_)
  ·rw[aw (by omega)]
   rcases rr g1 g3 with e|e|e|e|e|e|e|e
   ·rw[e]at h
    refine bK (by rw[e];rfl) ?_
    refine bK (by rw[e];rfl) ?_
    refine bK (by rw[e];rfl) ?_
    refine bK (by rw[e];rfl) ?_
    refine bK (by rw[e];rfl) ?_
    refine bK (by rw[e];rfl) ?_
    refine bK (by rw[e];rfl) ?_
    refine dR (by rw[e];rfl) ?_
    refine bK (by rw[e];rfl) ?_
    refine bK (by rw[e];rfl) ?_
    refine bK (by rw[e];rfl) ?_
    refine bK (by rw[e];rfl) ?_
    refine bK (by rw[e];rfl) ?_
    refine bK (by rw[e];rfl) ?_
    refine bK (by rw[e];rfl) ?_
    refine dR (by rw[e];rfl) ?_
    exact iL hl hA (ix+1) c0 (w64 (c1+1)) c2 c3 c4 c5 c6 c7 c8 h
   ·rw[e]at h
    refine bK (by rw[e];rfl) ?_
    refine bK (by rw[e];rfl) ?_
    refine bK (by rw[e];rfl) ?_
    refine bK (by rw[e];rfl) ?_
    refine bK (by rw[e];rfl) ?_
    refine bK (by rw[e];rfl) ?_
    refine dR (by rw[e];rfl) ?_
    refine bK (by rw[e];rfl) ?_
    refine bK (by rw[e];rfl) ?_
    refine bK (by rw[e];rfl) ?_
    refine bK (by rw[e];rfl) ?_
    refine bK (by rw[e];rfl) ?_
    refine bK (by rw[e];rfl) ?_
    refine dR (by rw[e];rfl) ?_
    exact iL hl hA (ix+1) c0 c1 (w64 (c2+1)) c3 c4 c5 c6 c7 c8 h
   ·rw[e]at h
    refine bK (by rw[e];rfl) ?_
    refine bK (by rw[e];rfl) ?_
    refine bK (by rw[e];rfl) ?_
    refine bK (by rw[e];rfl) ?_
    refine bK (by rw[e];rfl) ?_
    refine dR (by rw[e];rfl) ?_
    refine bK (by rw[e];rfl) ?_
    refine bK (by rw[e];rfl) ?_
    refine bK (by rw[e];rfl) ?_
    refine bK (by rw[e];rfl) ?_
    refine bK (by rw[e];rfl) ?_
    refine dR (by rw[e];rfl) ?_
    exact iL hl hA (ix+1) c0 c1 c2 (w64 (c3+1)) c4 c5 c6 c7 c8 h
   ·rw[e]at h
    refine bK (by rw[e];rfl) ?_
    refine bK (by rw[e];rfl) ?_
    refine bK (by rw[e];rfl) ?_
    refine bK (by rw[e];rfl) ?_
    refine dR (by rw[e];rfl) ?_
    refine bK (by rw[e];rfl) ?_
    refine bK (by rw[e];rfl) ?_
    refine bK (by rw[e];rfl) ?_
    refine bK (by rw[e];rfl) ?_
    refine dR (by rw[e];rfl) ?_
    exact iL hl hA (ix+1) c0 c1 c2 c3 (w64 (c4+1)) c5 c6 c7 c8 h
   ·rw[e]at h
    refine bK (by rw[e];rfl) ?_
    refine bK (by rw[e];rfl) ?_
    refine bK (by rw[e];rfl) ?_
    refine dR (by rw[e];rfl) ?_
    refine bK (by rw[e];rfl) ?_
    refine bK (by rw[e];rfl) ?_
    refine bK (by rw[e];rfl) ?_
    refine dR (by rw[e];rfl) ?_
    exact iL hl hA (ix+1) c0 c1 c2 c3 c4 (w64 (c5+1)) c6 c7 c8 h
   ·rw[e]at h
    refine bK (by rw[e];rfl) ?_
    refine bK (by rw[e];rfl) ?_
    refine dR (by rw[e];rfl) ?_
    refine bK (by rw[e];rfl) ?_
    refine bK (by rw[e];rfl) ?_
    refine dR (by rw[e];rfl) ?_
    exact iL hl hA (ix+1) c0 c1 c2 c3 c4 c5 (w64 (c6+1)) c7 c8 h
   ·rw[e]at h
    refine bK (by rw[e];rfl) ?_
    refine dR (by rw[e];rfl) ?_
    refine bK (by rw[e];rfl) ?_
    refine dR (by rw[e];rfl) ?_
    exact iL hl hA (ix+1) c0 c1 c2 c3 c4 c5 c6 (w64 (c7+1)) c8 h
   ·rw[e]at h
    refine dR (by rw[e];rfl) ?_
    refine dR (by rw[e];rfl) ?_
    exact iL hl hA (ix+1) c0 c1 c2 c3 c4 c5 c6 c7 (w64 (c8+1)) h
  ·rw[aw (by omega)]
   exact iL hl hA (ix+1) c0 c1 c2 c3 c4 c5 c6 c7 c8 h
 ·have h1:=oF h1
  rw[dN (by omega),gr]at h
  exact⟨tv,_,Ka _ (by simp),⟨tv,tv⟩,h⟩
termination_by l.length-ix
decreasing_by all_goals omega
theorem c157 {l:List Tip}{n:Int}(hl:l.length<=1000000):Pure prog 157 [⟨.sl .tip,l⟩,⟨.int,n⟩] [.bool] (zQ l n):=
 Pure.of_closed (C:=codes) (S:=sigs) mixed func157 (by kernel_rfl) (ac (by kernel_rfl)) fun A hA=>hA.go (t157 l n) (iL hl hA 0 0 0 0 0 0 0 0 0 0 rfl)
end Go.Proofs.Mo

namespace Go.Proofs.Mo
open Go.Proofs.Tryz
open Go Go.VL Go.Proofs.Zn Go.Proofs.Mn
theorem mL {d:Deck}(h:(cW d != 0)=false):(bu d).1=bp (aL d):=by
 unfold bu
 rw[tP h];rfl
theorem wt (d:Deck):w64 (w64 ((bu d).1+(bu d).2.1)+(bu d).2.2)=(bu d).1+(bu d).2.1+(bu d).2.2:=by
 have:=sT d
 rw[ax (n:=(bu d).1+(bu d).2.1) (by omega) (by omega),ax (by omega) (by omega)]
theorem zX (d:Deck):w64 (w64 ((bu d).1+(bu d).2.1)+(bu d).2.2)<=1000000:=by
 have:=sT d
 rw[wt];omega
theorem Jf (n:Int):(Do n).length=n.toNat:=by
 unfold Do
 by_cases h:n<0
 ·rw[dT h,cT,am];omega
 ·rw[dF h,cF,cA]
theorem ua {z:Plate}(h:dt z=true):z.start.length<=1536:=by
 have hs:=(jA h).size
 unfold dt at h
 cases hb:cN (eL z)
 ·rw[hb]at h;cases h
 rw[hb,cT]at h
 unfold lw at h
 by_cases h1:z.cap<1
 ·rw[dT h1]at h;cases h
 rw[dF h1,cF]at h
 by_cases h2:z.cap>1099511627776
 ·rw[dT h2]at h;cases h
 rw[dF h2,cF]at h
 by_cases h3:(z.start.length:Int)>z.rows*z.cols
 ·rw[dT h3]at h;cases h
 omega
theorem Jt {d:Deck}(h:(cW d != 0)=false):∀ c∈bi d,0<=c.vol/\c.vol<=c.cap/\c.cap<=1099511627776:=by
 intro c hc
 obtain⟨z,hz,hc⟩:=iF.1 hc
 obtain⟨k,_,rfl⟩:=aT.1 hc
 have hk:=jA ((cf h).plate z hz)
 have h1:=hk.start k
 have h2:=hk.cap
 simp only[cU];omega
theorem OM {d:Deck}(h:(cW d != 0)=false){o:List Int}(ho:o.length<=100000):OkM ⟨d,(eW d).1,o⟩:=by
 have hk:=cf h
 have hl:=iK h
 have hw:=hk.wells
 have ht:=hk.tips
 unfold eW
 rw[h,cF]
 refine⟨?_,?_,?_,?_,?_,?_,by show o.length<=_;omega,fun p hp=>?_,fun l hl=>?_,fun x hx=>?_,ho⟩
 ·have:=hk.lanes;show d.borders.length<=_;omega
 ·have:=hk.plates;show d.plates.length<=_;omega
 ·have:=hk.racks;show d.racks.length<=_;omega
 ·show(bi d).length<=_;omega
 ·show(List.replicate _ tJ).length<=_;rw[cA];omega
 ·show(List.replicate _ _).length<=_;rw[cA];omega
 ·have:=ua (hk.plate p hp);omega
 ·obtain rfl:=(List.mem_replicate.1 hl).2;decide
 ·obtain⟨c,hc,rfl⟩:=aT.1 hx
  have:=Jt h c hc
  unfold cy;omega
theorem Mp {d:Deck}(h:(m83 d).2=0):(cW d != 0)=false:=by
 rw[KO]at h
 unfold eW at h
 cases hz:cW d != 0
 ·rfl
 ·rw[hz,cT]at h
  rw[show cW d=0 from h]at hz;cases hz
theorem Mi {d:Deck}(h:(m83 d).2=0):OkM ⟨d,(m83 d).1,Do (w64 (w64 ((bu d).1+(bu d).2.1)+(bu d).2.2))⟩:=by
 rw[KO]
 refine OM (Mp h) ?_
 rw[Jf,wt]
 have:=sT d
 omega
theorem OX {s:Stock}{d:Deck}{H0:Heap}:∀ (i:Nat) (T:TypeId) (t:Ty) (xs:List t.ty),i<1->Heap.get (pk s d) i=some (.row T t xs)->∃ ys,H0.get i=some (.row T t ys)/\ys.length=xs.length:=fun i T t xs hi h=>by
 obtain rfl:i=0:=by omega
 cases h
theorem IR {b:List AV}{cs x1:List Cell}{ls x2:List Log}{ts:List Tip}(h1:x1.length=cs.length)(h2:x2.length=ls.length):∀ (i:Nat) (T:TypeId) (t:Ty) (xs:List t.ty),i<4 ->
  Heap.get [(0,.box b),(1,.row 76 .cell x1),(2,.row 146 .log x2),(3,.row 194 .tip ts)] i=some (.row T t xs)->∃ ys,Heap.get [(0,.box b),(1,.row 76 .cell cs),(2,.row 146 .log ls),(3,.row 194 .tip ts)] i=some (.row T t ys)/\ys.length=xs.length:=fun i T t xs hi h=>by
 match i,h with
 | 0,h=>cases h
 | 1,h=>cases h;exact⟨cs,rfl,h1.symm⟩
 | 2,h=>cases h;exact⟨ls,rfl,h2.symm⟩
 | 3,h=>cases h;exact⟨ts,rfl,rfl⟩
 | i+4,h=>omega
theorem OkS.list' {s:Stock}(h:OkS s)(i:Nat):(s.logs.getD i (Ty.dflt Ty.log)).list.length<=1000000:=by
 rcases ay i s.logs.length with hi|hi
 ·rw[cJ hi];exact h.list _ (aQ hi)
 ·rw[show s.logs.getD i (Ty.dflt Ty.log)=Ty.dflt Ty.log by simp[List.getD,au hi]];decide
end Go.Proofs.Mo

namespace Go.Proofs.Mo
open Go.Proofs.Tryz
open Go Go.VL
set_option maxRecDepth 20000
open Go.Proofs.Zn Go.Proofs.Mn
def mm :List Cell->Nat->(List Int)->(Int×Int)
 | [],ix,l1=>((wS l1).1,(wS l1).2)
 | z::zs,ix,l1=>mm zs (ix+1) (l1++[(z).vol])
theorem su (s:Stock)(hb:OkS s)  {r:Int×Int}{A:Pr}(hA:CL codes sigs f165 [.int,.int] r A)(ix:Nat)(l1:List Int)(hv:l1=(s.cells.take ix).map Cell.vol)(h:mm (List.drop ix s.cells) ix l1=r):A (hd f165 0) (wI s (ix:Int) l1):=by
 refine hA.go (Lu s (ix:Int) l1) (ak (fun h1=>?_) (fun h1=>?_))
 ·have h1:=oT h1
  have hil:ix<s.cells.length:=by omega
  rw[aX hil Ty.cell.dflt,mm]at h
  obtain⟨b1,b2,b3,b4,b5⟩:=id hb
  refine⟨⟨⟨(by omega),(by omega)⟩,tv⟩,⟨q2,tv⟩,⟨(by rw[hv];simp only[bB,aF,ag,am];omega),tv⟩,?_⟩
  rw[aw (by omega)]
  exact su s hb  hA (ix+1) _ (by rw[hv];exact tq hil _ _) h
 ·have h1:=oF h1
  rw[dN (by omega),mm]at h
  exact⟨⟨q2,tv⟩,_,Mn.c226 (by rw[hv];simp only[bB,aF];have:=hb.cells;omega) (by rw[hv];exact Hi hb.fit _),⟨q2,tv,tv⟩,h⟩
termination_by s.cells.length-ix
decreasing_by all_goals omega
def vV (s:Stock):Int×Int:=mm s.cells 0 []
theorem c165 (s:Stock)(hb:OkS s):Pure prog 165 [⟨.stock,s⟩] [.int,.int] (vV s):=
 Pure.of_closed (C:=codes) (S:=sigs) mixed func165 (by kernel_rfl) (ac (by kernel_rfl)) fun A hA=>hA.go (t165 s) (by
  generalize h:vV s=r at hA ⊢
  unfold vV at h
  refine hA.row 4 3 .int (by kernel_rfl) (s':=wI s (0:Int) []) (by kernel_rfl) ?_
  exact su s hb  hA 0 [] (by rfl) h)
def qf (l4:List Int)(z1:Tip)(kc1:(List Int)->Bool):List Int->Nat->Bool
 | [],ix=>bif ((z1).state==(2:Int))then kc1 (l4++[(z1).by'])else kc1 l4
 | z::zs,ix=>bif (z==(z1).by')then false else qf l4 z1 kc1 zs (ix+1)
theorem uw (d:Deck)(s:Stock)(l1:List Cell)(l2:List Log)(l3:List Tip)(i1 i2 i3 i5:Int)(l4:List Int)(hb:OkS s)(h4:l4.length<=i5.toNat/\i5<1000000){r:Bool}{A:Pr}(hA:CL codes sigs f94 [.bool] r A)(kc1:(List Int)->Bool)(hkc1:∀ (l4':List Int),(l4'.length<=(i5.toNat+1))->kc1 l4'=r->A (hd f94 1) (vn d s l1 l2 l3 i1 i2 i3 (w64 (i5+(1:Int))) l4'))(ix:Nat)(h:qf l4 (s.tips.getD i5.toNat Ty.tip.dflt) kc1 (List.drop ix l4) ix=r):A (hd f94 2) (Cn d s l1 l2 l3 i1 i2 i3 i5 l4 (ix:Int)):=by
 refine hA.go (Nu d s l1 l2 l3 i1 i2 i3 i5 l4 (ix:Int)) (ak (fun h1=>?_) (fun h1=>?_))
 ·have h1:=oT h1
  have hil:ix<l4.length:=by omega
  rw[aX hil Ty.int.dflt,qf]at h
  obtain⟨b1,b2,b3,b4,b5⟩:=id hb
  refine⟨⟨(by omega),(by omega)⟩,(by omega),?_⟩
  refine ah h (fun g1 h=>?_) (fun g1 h=>?_)
  ·try replace g1:=aV g1
   exact⟨q2,h⟩
  ·rw[aw (by omega)]
   exact uw d s l1 l2 l3 i1 i2 i3 i5 l4 hb h4 hA _ hkc1 (ix+1) h
 ·have h1:=oF h1
  rw[dN (by omega),qf]at h
  refine ah h (fun g1 h=>?_) (fun g1 h=>?_)
  ·try replace g1:=aV g1
   refine⟨⟨q2,tv⟩,⟨(by simp only[ag,am];omega),tv⟩,?_⟩
   exact hkc1 _ (by first|omega|(simp only[al,ag,am];omega)) h
  ·exact hkc1 _ (by first|omega|(simp only[al,ag,am];omega)) h
termination_by l4.length-ix
decreasing_by all_goals omega
def oK (d:Deck)(s:Stock)(i1:Int):List Tip->Nat->(List Int)->Bool
 | [],ix,l4=>bif (s.start != i1)then false else bif decide (s.inn<(0:Int))then false else bif decide (s.inn>(1152921504606846976:Int))then false else bif decide (s.out<(0:Int))then false else bif decide (s.out>(1152921504606846976:Int))then false else bif ((vV s).2==(0:Int))then(vV s).1==w64 (w64 (s.start+s.inn)-s.out)else false
 | z::zs,ix,l4=>bif (!(fJ z))then false else bif decide ((z).by'>d.arms)then false else qf l4 z (fun l4'=>oK d s i1 zs (ix+1) l4') l4 0
theorem ux (d:Deck)(s:Stock)(l1:List Cell)(l2:List Log)(l3:List Tip)(i1 i2 i3:Int)(hb:OkS s)  {r:Bool}{A:Pr}(hA:CL codes sigs f94 [.bool] r A)(ix:Nat)(l4:List Int)(hv:l4.length<=ix)(h:oK d s i1 (List.drop ix s.tips) ix l4=r):A (hd f94 1) (vn d s l1 l2 l3 i1 i2 i3 (ix:Int) l4):=by
 refine hA.go (Nv d s l1 l2 l3 i1 i2 i3 (ix:Int) l4) (ak (fun h1=>?_) (fun h1=>?_))
 ·have h1:=oT h1
  have hil:ix<s.tips.length:=by omega
  rw[aX hil Ty.tip.dflt,oK]at h
  obtain⟨b1,b2,b3,b4,b5⟩:=id hb
  refine⟨⟨⟨(by omega),(by omega)⟩,tv⟩,⟨q3,tv⟩,_,Mn.c164 _,?_⟩
  refine ah h (fun g1 h=>?_) (fun g1 h=>?_)
  ·exact⟨q2,h⟩
  ·refine ah h (fun g2 h=>?_) (fun g2 h=>?_)
   ·have g2:=oT g2
    exact⟨q2,h⟩
   ·have g2:=oF g2
    exact uw d s l1 l2 l3 i1 i2 i3 (ix:Int) l4 hb ⟨by omega,by omega⟩ hA _ (fun l4' hv h=>by rw[aw (by omega)];exact ux d s l1 l2 l3 i1 i2 i3 hb  hA (ix+1) l4' (by first|omega|(simp only[al,ag,am];omega)) h) 0 h
 ·have h1:=oF h1
  rw[dN (by omega),oK]at h
  refine ah h (fun g1 h=>?_) (fun g1 h=>?_)
  ·exact⟨q2,h⟩
  ·try replace g1:=ai.1 g1
   refine ah h (fun g2 h=>?_) (fun g2 h=>?_)
   ·have g2:=oT g2
    exact⟨q2,h⟩
   ·have g2:=oF g2
    refine ah h (fun g3 h=>?_) (fun g3 h=>?_)
    ·have g3:=oT g3
     exact⟨q2,h⟩
    ·have g3:=oF g3
     refine ah h (fun g4 h=>?_) (fun g4 h=>?_)
     ·have g4:=oT g4
      exact⟨q2,h⟩
     ·have g4:=oF g4
      refine ah h (fun g5 h=>?_) (fun g5 h=>?_)
      ·have g5:=oT g5
       exact⟨q2,h⟩
      ·have g5:=oF g5
       refine⟨⟨q7,tv⟩,_,c165 _ hb,?_⟩
       refine ah h (fun g6 h=>?_) (fun g6 h=>?_)
       ·try replace g6:=aV g6
        exact⟨q2,h⟩
       ·exact⟨q2,h⟩
termination_by s.tips.length-ix
decreasing_by all_goals omega
def qg (d:Deck)(s:Stock)(l1:List Cell)(i1:Int):List Cell->Nat->Bool
 | [],ix=>oK d s i1 s.tips 0 []
 | z::zs,ix=>bif (!(dc z))then false else bif ((z).cap != (l1.getD (ix) Ty.cell.dflt).cap)then false else bif (!(fX (s.logs.getD (ix) Ty.log.dflt)))then false else bif ((s.logs.getD (ix) Ty.log.dflt).room != (8:Int))then false else bif ((s.logs.getD (ix) Ty.log.dflt).last != (z).ver)then false else qg d s l1 i1 zs (ix+1)
theorem uy (d:Deck)(s:Stock)(l1:List Cell)(l2:List Log)(l3:List Tip)(i1 i2 i3:Int)(hb:OkS s)(he:s.cells.length=l1.length/\s.logs.length=s.cells.length){r:Bool}{A:Pr}(hA:CL codes sigs f94 [.bool] r A)(ix:Nat)(h:qg d s l1 i1 (List.drop ix s.cells) ix=r):A (hd f94 0) (Co d s l1 l2 l3 i1 i2 i3 (ix:Int)):=by
 refine hA.go (Nw d s l1 l2 l3 i1 i2 i3 (ix:Int)) (ak (fun h1=>?_) (fun h1=>?_))
 ·have h1:=oT h1
  have hil:ix<s.cells.length:=by omega
  rw[aX hil Ty.cell.dflt,qg]at h
  obtain⟨b1,b2,b3,b4,b5⟩:=id hb
  refine⟨⟨⟨(by omega),(by omega)⟩,tv⟩,⟨⟨(by omega),(by omega)⟩,tv⟩,⟨q4,tv⟩,_,Mn.c162 _,?_⟩
  refine ah h (fun g1 h=>?_) (fun g1 h=>?_)
  ·exact⟨q2,h⟩
  ·refine⟨⟨⟨(by omega),(by omega)⟩,tv⟩,?_⟩
   refine ah h (fun g2 h=>?_) (fun g2 h=>?_)
   ·exact⟨q2,h⟩
   ·try replace g2:=ai.1 g2
    refine⟨⟨q4,tv⟩,_,Mn.c163 _,?_⟩
    refine ah h (fun g3 h=>?_) (fun g3 h=>?_)
    ·exact⟨q2,h⟩
    ·refine ah h (fun g4 h=>?_) (fun g4 h=>?_)
     ·exact⟨q2,h⟩
     ·try replace g4:=ai.1 g4
      refine ah h (fun g5 h=>?_) (fun g5 h=>?_)
      ·exact⟨q2,h⟩
      ·try replace g5:=ai.1 g5
       rw[aw (by omega)]
       exact uy d s l1 l2 l3 i1 i2 i3 hb he hA (ix+1) h
 ·have h1:=oF h1
  rw[dN (by omega),qg]at h
  refine hA.row 10 3 .int (by kernel_rfl) (s':=vn d s l1 l2 l3 i1 i2 i3 (0:Int) []) (by kernel_rfl) ?_
  exact ux d s l1 l2 l3 i1 i2 i3 hb  hA 0 [] (by simp) h
termination_by s.cells.length-ix
decreasing_by all_goals omega
def m94 (d:Deck)(s:Stock):Bool:=bif ((m87 d).2 != (0:Int))then false else bif ((s.cells.length:Int) != (↑(m87 d).1.cells.length:Int))then false else bif ((s.logs.length:Int) != (↑(m87 d).1.logs.length:Int))then false else bif ((s.tips.length:Int) != (↑(m87 d).1.tips.length:Int))then false else qg d s (m87 d).1.cells (m87 d).1.start s.cells 0
theorem c94 (d:Deck)(s:Stock)(hb:OkS s):Pure prog 94 [⟨.deck,d⟩,⟨.stock,s⟩] [.bool] (m94 d s):=
 Pure.of_closed (C:=codes) (S:=sigs) mixed func94 (by kernel_rfl) (ac (by kernel_rfl)) fun A hA=>hA.go (t94 d s) (by
  generalize h:m94 d s=r at hA ⊢
  unfold m94 at h
  refine⟨⟨q5,tv⟩,_,Mn.c87 _,?_⟩
  refine ah h (fun g1 h=>?_) (fun g1 h=>?_)
  ·exact⟨q2,h⟩
  ·try replace g1:=ai.1 g1
   refine ah h (fun g2 h=>?_) (fun g2 h=>?_)
   ·exact⟨q2,h⟩
   ·try replace g2:=ai.1 g2
    refine ah h (fun g3 h=>?_) (fun g3 h=>?_)
    ·exact⟨q2,h⟩
    ·try replace g3:=ai.1 g3
     refine ah h (fun g4 h=>?_) (fun g4 h=>?_)
     ·exact⟨q2,h⟩
     ·try replace g4:=ai.1 g4
      exact uy d s (m87 d).1.cells (m87 d).1.logs (m87 d).1.tips (m87 d).1.start (m87 d).1.inn (m87 d).1.out hb ⟨by omega,by have:=Gf (d:=d) (by rw[g1];rfl);omega⟩ hA 0 h)
def m91 (d:Deck)(s:Stock):Bool:=bif ((Zn.cW d) != (0:Int))then false else bif ((s.cells.length:Int) != (Zn.bu d).1)then false else bif ((s.logs.length:Int) != (Zn.bu d).1)then false else bif ((s.tips.length:Int) != (Zn.bu d).2.1)then false else bif (!(zQ s.tips d.arms))then false else bif (!(zK d s).2)then false else bif (s.start != (zK d s).1)then false else bif ((wC s.inn (0:Int) (1152921504606846976:Int)) != s.inn)then false else bif ((wC s.out (0:Int) (1152921504606846976:Int)) != s.out)then false else bif ((EL s).2==(0:Int))then(EL s).1==w64 (w64 (s.start+s.inn)-s.out)else false
theorem c91 (d:Deck)(s:Stock)(hb:OkS s):Pure prog 91 [⟨.deck,d⟩,⟨.stock,s⟩] [.bool] (m91 d s):=
 Pure.of_closed (C:=codes) (S:=sigs) mixed func91 (by kernel_rfl) (ac (by kernel_rfl)) fun A hA=>hA.go (t91 d s) (by
  generalize h:m91 d s=r at hA ⊢
  unfold m91 at h
  refine⟨⟨q5,tv⟩,_,Zn.c47 _,?_⟩
  refine ah h (fun g1 h=>?_) (fun g1 h=>?_)
  ·exact⟨q2,h⟩
  ·try replace g1:=ai.1 g1
   refine⟨⟨q5,tv⟩,_,Zn.Et _,?_⟩
   refine ah h (fun g2 h=>?_) (fun g2 h=>?_)
   ·exact⟨q2,h⟩
   ·try replace g2:=ai.1 g2
    refine ah h (fun g3 h=>?_) (fun g3 h=>?_)
    ·exact⟨q2,h⟩
    ·try replace g3:=ai.1 g3
     refine ah h (fun g4 h=>?_) (fun g4 h=>?_)
     ·exact⟨q2,h⟩
     ·try replace g4:=ai.1 g4
      refine⟨⟨q2,q2,tv⟩,_,c157 (by have:=hb.tips;omega),?_⟩
      refine ah h (fun g5 h=>?_) (fun g5 h=>?_)
      ·exact⟨q2,h⟩
      ·refine⟨⟨q5,q7,tv⟩,_,Mn.Kh _ _ (cf (by rw[g1];rfl)) ⟨by rw[g2];exact mL (by rw[g1];rfl),by omega⟩,?_⟩
       refine ah h (fun g6 h=>?_) (fun g6 h=>?_)
       ·exact⟨q2,h⟩
       ·refine ah h (fun g7 h=>?_) (fun g7 h=>?_)
        ·exact⟨q2,h⟩
        ·try replace g7:=ai.1 g7
         refine⟨⟨q2,q2,q2,tv⟩,_,Mn.Ab _ _ _,?_⟩
         refine ah h (fun g8 h=>?_) (fun g8 h=>?_)
         ·exact⟨q2,h⟩
         ·try replace g8:=ai.1 g8
          refine⟨⟨q2,q2,q2,tv⟩,_,Mn.Ab _ _ _,?_⟩
          refine ah h (fun g9 h=>?_) (fun g9 h=>?_)
          ·exact⟨q2,h⟩
          ·try replace g9:=ai.1 g9
           refine⟨⟨q7,tv⟩,_,Pt hb,?_⟩
           refine ah h (fun g10 h=>?_) (fun g10 h=>?_)
           ·try replace g10:=aV g10
            exact⟨q2,h⟩
           ·exact⟨q2,h⟩)
def m95 (d:Deck)(s:Stock)(b:Int):Int×Bool:=bif (!(m91 d s))then((-1:Int),false)else bif (!(pJ s.tips b).2)then((-1:Int),false)else(w64 ((s.cells.length:Int)+(pJ s.tips b).1),true)
theorem c95 (d:Deck)(s:Stock)(b:Int)(hb:OkS s):Pure prog 95 [⟨.deck,d⟩,⟨.stock,s⟩,⟨.int,b⟩] [.int,.bool] (m95 d s b):=
 Pure.of_closed (C:=codes) (S:=sigs) mixed func95 (by kernel_rfl) (ac (by kernel_rfl)) fun A hA=>hA.go (t95 d s b) (by
  generalize h:m95 d s b=r at hA ⊢
  unfold m95 at h
  refine⟨⟨q5,q7,tv⟩,_,c91 _ _ (by first|exact hb|exact hb.toS),?_⟩
  refine ah h (fun g1 h=>?_) (fun g1 h=>?_)
  ·exact⟨⟨q2,tv,tv⟩,h⟩
  ·refine⟨⟨q2,q2,tv⟩,_,MR _ _ hb.tips,?_⟩
   refine ah h (fun g2 h=>?_) (fun g2 h=>?_)
   ·exact⟨⟨q2,tv,tv⟩,h⟩
   ·exact⟨⟨q2,tv,tv⟩,h⟩)
def m96 (d:Deck)(s:Stock)(b:Int):Int×Bool:=bif (!(m94 d s))then((-1:Int),false)else bif decide ((gD s b)<(0:Int))then((-1:Int),false)else(w64 ((s.cells.length:Int)+(gD s b)),true)
theorem c96 (d:Deck)(s:Stock)(b:Int)(hb:OkS s):Pure prog 96 [⟨.deck,d⟩,⟨.stock,s⟩,⟨.int,b⟩] [.int,.bool] (m96 d s b):=
 Pure.of_closed (C:=codes) (S:=sigs) mixed func96 (by kernel_rfl) (ac (by kernel_rfl)) fun A hA=>hA.go (t96 d s b) (by
  generalize h:m96 d s b=r at hA ⊢
  unfold m96 at h
  refine⟨⟨q5,q7,tv⟩,_,c94 _ _ (by first|exact hb|exact hb.toS),?_⟩
  refine ah h (fun g1 h=>?_) (fun g1 h=>?_)
  ·exact⟨⟨q2,tv,tv⟩,h⟩
  ·refine⟨⟨q7,q2,tv⟩,_,c167 _ _ hb.tips,?_⟩
   refine ah h (fun g2 h=>?_) (fun g2 h=>?_)
   ·have g2:=oT g2
    exact⟨⟨q2,tv,tv⟩,h⟩
   ·have g2:=oF g2
    exact⟨⟨q2,tv,tv⟩,h⟩)
def m31 (m:Model):Bool:=bif ((m.owners.length:Int) != w64 (w64 ((Zn.bu m.deck).1+(Zn.bu m.deck).2.1)+(Zn.bu m.deck).2.2))then false else bif (!(m91 m.deck m.stock))then false else !(pD m m.owners)
theorem c31 (m:Model)(hb:OkM m):Pure prog 31 [⟨.model,m⟩] [.bool] (m31 m):=
 Pure.of_closed (C:=codes) (S:=sigs) mixed func31 (by kernel_rfl) (ac (by kernel_rfl)) fun A hA=>hA.go (t31 m) (by
  generalize h:m31 m=r at hA ⊢
  unfold m31 at h
  refine⟨⟨q5,tv⟩,_,Zn.Et _,?_⟩
  refine ah h (fun g1 h=>?_) (fun g1 h=>?_)
  ·exact⟨q2,h⟩
  ·try replace g1:=ai.1 g1
   refine⟨⟨q5,q7,tv⟩,_,c91 _ _ (by first|exact hb|exact hb.toS),?_⟩
   refine ah h (fun g2 h=>?_) (fun g2 h=>?_)
   ·exact⟨q2,h⟩
   ·exact⟨pD m m.owners,ML _ _ (by have:=hb.owners;omega),q2,h⟩)
def nB (m:Model):List Int->Nat->Bool
 | [],ix=>true
 | z::zs,ix=>bif decide (z<(0:Int))then false else bif decide (z>m.deck.arms)then false else nB m zs (ix+1)
theorem uL (m:Model)(hb:OkM m)  {r:Bool}{A:Pr}(hA:CL codes sigs f32 [.bool] r A)(ix:Nat)(h:nB m (List.drop ix m.owners) ix=r):A (hd f32 0) (Cx m (ix:Int)):=by
 refine hA.go (NL m (ix:Int)) (ak (fun h1=>?_) (fun h1=>?_))
 ·have h1:=oT h1
  have hil:ix<m.owners.length:=by omega
  rw[aX hil Ty.int.dflt,nB]at h
  obtain⟨b1,b2,b3,b4,b5,b6,b7,b8,b9,b10,b11⟩:=id hb
  refine⟨⟨⟨(by omega),(by omega)⟩,tv⟩,?_⟩
  refine ah h (fun g1 h=>?_) (fun g1 h=>?_)
  ·have g1:=oT g1
   exact⟨q2,h⟩
  ·have g1:=oF g1
   refine⟨⟨⟨(by omega),(by omega)⟩,tv⟩,?_⟩
   refine ah h (fun g2 h=>?_) (fun g2 h=>?_)
   ·have g2:=oT g2
    exact⟨q2,h⟩
   ·have g2:=oF g2
    rw[aw (by omega)]
    exact uL m hb  hA (ix+1) h
 ·have h1:=oF h1
  rw[dN (by omega),nB]at h
  exact⟨q2,h⟩
termination_by m.owners.length-ix
decreasing_by all_goals omega
def m32 (m:Model):Bool:=bif (!(m94 m.deck m.stock))then false else bif ((m.owners.length:Int) != (↑(Zn.cO m.deck).length:Int))then false else nB m m.owners 0
theorem c32 (m:Model)(hb:OkM m):Pure prog 32 [⟨.model,m⟩] [.bool] (m32 m):=
 Pure.of_closed (C:=codes) (S:=sigs) mixed func32 (by kernel_rfl) (ac (by kernel_rfl)) fun A hA=>hA.go (t32 m) (by
  generalize h:m32 m=r at hA ⊢
  unfold m32 at h
  refine⟨⟨q5,q7,tv⟩,_,c94 _ _ (by first|exact hb|exact hb.toS),?_⟩
  refine ah h (fun g1 h=>?_) (fun g1 h=>?_)
  ·exact⟨q2,h⟩
  ·refine⟨⟨q5,tv⟩,_,Zn.c90 _,?_⟩
   refine ah h (fun g2 h=>?_) (fun g2 h=>?_)
   ·exact⟨q2,h⟩
   ·try replace g2:=ai.1 g2
    exact uL m hb  hA 0 h)
def m33 (m:Model)(w:Int):Int:=bif (!(m31 m))then(-1:Int)else(m95 m.deck m.stock w).1
theorem c33 (m:Model)(w:Int)(hb:OkM m):Pure prog 33 [⟨.model,m⟩,⟨.int,w⟩] [.int] (m33 m w):=
 Pure.of_closed (C:=codes) (S:=sigs) mixed func33 (by kernel_rfl) (ac (by kernel_rfl)) fun A hA=>hA.go (t33 m w) (by
  generalize h:m33 m w=r at hA ⊢
  unfold m33 at h
  refine⟨⟨q12,tv⟩,_,c31 _ (by assumption),?_⟩
  refine ah h (fun g1 h=>?_) (fun g1 h=>?_)
  ·exact⟨q2,h⟩
  ·exact⟨⟨q5,q7,q2,tv⟩,_,c95 _ _ _ hb.toS,q2,h⟩)
def m34 (m:Model)(w:Int):Int:=bif (!(m96 m.deck m.stock w).2)then(-1:Int)else bif (!(m32 m))then(-1:Int)else(m96 m.deck m.stock w).1
theorem c34 (m:Model)(w:Int)(hb:OkM m):Pure prog 34 [⟨.model,m⟩,⟨.int,w⟩] [.int] (m34 m w):=
 Pure.of_closed (C:=codes) (S:=sigs) mixed func34 (by kernel_rfl) (ac (by kernel_rfl)) fun A hA=>hA.go (t34 m w) (by
  generalize h:m34 m w=r at hA ⊢
  unfold m34 at h
  refine⟨⟨q5,q7,q2,tv⟩,_,c96 _ _ _ hb.toS,?_⟩
  refine ah h (fun g1 h=>?_) (fun g1 h=>?_)
  ·exact⟨q2,h⟩
  ·refine⟨⟨q12,tv⟩,_,c32 _ (by assumption),?_⟩
   refine ah h (fun g2 h=>?_) (fun g2 h=>?_)
   ·exact⟨q2,h⟩
   ·exact⟨q2,h⟩)
def m28 (d:Deck):Model×Int:=bif ((m83 d).2 != (0:Int))then(Model.mk (Deck.mk [] [] [] (0:Int)) (Stock.mk [] [] [] (0:Int) (0:Int) (0:Int)) [],(m83 d).2)else((m85 (Model.mk d (m83 d).1 (Do (w64 (w64 ((Zn.bu d).1+(Zn.bu d).2.1)+(Zn.bu d).2.2))))),(0:Int))
theorem c28 (d:Deck) :Pure prog 28 [⟨.deck,d⟩] [.model,.int] (m28 d):=
 Pure.of_closed (C:=codes) (S:=sigs) mixed func28 (by kernel_rfl) (ac (by kernel_rfl)) fun A hA=>hA.go (t28 d) (by
  generalize h:m28 d=r at hA ⊢
  unfold m28 at h
  refine⟨⟨q5,tv⟩,_,Mn.c83 _,?_⟩
  refine ah h (fun g1 h=>?_) (fun g1 h=>?_)
  ·exact⟨⟨q12,tv,tv⟩,h⟩
  ·try replace g1:=ai.1 g1
   exact⟨⟨q5,tv⟩,_,Zn.Et _,⟨q2,tv⟩,_,Mn.c86 (zX _),⟨q12,tv⟩,_,c85 _ (Mi (by assumption)),⟨q12,tv,tv⟩,h⟩)
end Go.Proofs.Mo

namespace Go.Proofs.Mo
open Go.Proofs.Tryz
open Go Go.VL
set_option maxRecDepth 20000
open Go.Proofs.Zn Go.Proofs.Mn
def Mu (cs:List Cell)(ls:List Log)(ts:List Tip)(st inn out:Int)(d:Deck):Unit:=()
theorem c283 (cs:List Cell)(ls:List Log)(ts:List Tip)(st inn out:Int)(d:Deck) :Gc prog 283 [.ptr 0 0] [(0,.box ([.own 1 .cell,.own 2 .log,.own 3 .tip,i64 st,i64 inn,i64 out]++cw d)),(1,.row 76 .cell cs),(2,.row 146 .log ls),(3,.row 194 .tip ts)] 4 ((fun _:Unit=>(⟨[.ptr 0 4],[(0,.box ([.own 1 .cell,.own 2 .log,.own 3 .tip,i64 st,i64 inn,i64 out]++cw d)),(1,.row 76 .cell cs),(2,.row 146 .log ls),(3,.row 194 .tip ts)],4⟩:GRes)) (Mu cs ls ts st inn out d)):=
 Gc.of_closed (C:=codes) (S:=sigs) mixed func283 (by kernel_rfl) (fun i T t ys hi h=>⟨ys,h,rfl⟩) fun A hA=>hA.go (t283 cs ls ts st inn out d) (by
  generalize h:Mu cs ls ts st inn out d=r at hA ⊢
  unfold Mu at h
  exact⟨tv,.of_eq rfl⟩)
def Mt (cs:List Cell)(ls:List Log)(ts:List Tip)(st inn out:Int)(d:Deck):Unit:=()
theorem c285 (cs:List Cell)(ls:List Log)(ts:List Tip)(st inn out:Int)(d:Deck) :Gc prog 285 [.ptr 0 0] [(0,.box ([.own 1 .cell,.own 2 .log,.own 3 .tip,i64 st,i64 inn,i64 out]++cw d)),(1,.row 76 .cell cs),(2,.row 146 .log ls),(3,.row 194 .tip ts)] 4 ((fun _:Unit=>(⟨[.ptr 0 5],[(0,.box ([.own 1 .cell,.own 2 .log,.own 3 .tip,i64 st,i64 inn,i64 out]++cw d)),(1,.row 76 .cell cs),(2,.row 146 .log ls),(3,.row 194 .tip ts)],4⟩:GRes)) (Mt cs ls ts st inn out d)):=
 Gc.of_closed (C:=codes) (S:=sigs) mixed func285 (by kernel_rfl) (fun i T t ys hi h=>⟨ys,h,rfl⟩) fun A hA=>hA.go (t285 cs ls ts st inn out d) (by
  generalize h:Mt cs ls ts st inn out d=r at hA ⊢
  unfold Mt at h
  exact⟨tv,.of_eq rfl⟩)
def nq (cs:List Cell)(ls:List Log)(ts:List Tip)(st inn out:Int)(d:Deck)(id:Int):Bool:=bif decide (id>=(0:Int))then decide (id<(cs.length:Int))else false
theorem Ke (cs:List Cell)(ls:List Log)(ts:List Tip)(st inn out:Int)(d:Deck)(id:Int) :Gc prog 278 [.ptr 0 0,i64 id] [(0,.box ([.own 1 .cell,.own 2 .log,.own 3 .tip,i64 st,i64 inn,i64 out]++cw d)),(1,.row 76 .cell cs),(2,.row 146 .log ls),(3,.row 194 .tip ts)] 4 ((fun x:Bool=>(⟨[ca x],[(0,.box ([.own 1 .cell,.own 2 .log,.own 3 .tip,i64 st,i64 inn,i64 out]++cw d)),(1,.row 76 .cell cs),(2,.row 146 .log ls),(3,.row 194 .tip ts)],4⟩:GRes)) (nq cs ls ts st inn out d id)):=
 Gc.of_closed (C:=codes) (S:=sigs) mixed func278 (by kernel_rfl) (fun i T t ys hi h=>⟨ys,h,rfl⟩) fun A hA=>hA.go (t278 cs ls ts st inn out d id) (by
  generalize h:nq cs ls ts st inn out d id=r at hA ⊢
  unfold nq at h
  refine ah h (fun g1 h=>?_) (fun g1 h=>?_)
  ·have g1:=oT g1
   exact⟨tv,.of_eq (by rw[← h];try rfl)⟩
  ·have g1:=oF g1
   exact⟨tv,.of_eq (by rw[← h];try rfl)⟩)
def xP (cs:List Cell)(ls:List Log)(ts:List Tip)(st inn out:Int)(d:Deck)(id:Int):Int:=bif decide (id>=(cs.length:Int))then bif decide (w64 (id-(cs.length:Int))<(ts.length:Int))then w64 (id-(cs.length:Int))else(-1:Int)else(-1:Int)
theorem c275 (cs:List Cell)(ls:List Log)(ts:List Tip)(st inn out:Int)(d:Deck)(id:Int)(hl:cs.length<=1000000/\ts.length<=1000000):Gc prog 275 [.ptr 0 0,i64 id] [(0,.box ([.own 1 .cell,.own 2 .log,.own 3 .tip,i64 st,i64 inn,i64 out]++cw d)),(1,.row 76 .cell cs),(2,.row 146 .log ls),(3,.row 194 .tip ts)] 4 ((fun x:Int=>(⟨[i64 x],[(0,.box ([.own 1 .cell,.own 2 .log,.own 3 .tip,i64 st,i64 inn,i64 out]++cw d)),(1,.row 76 .cell cs),(2,.row 146 .log ls),(3,.row 194 .tip ts)],4⟩:GRes)) (xP cs ls ts st inn out d id)):=
 Gc.of_closed (C:=codes) (S:=sigs) mixed func275 (by kernel_rfl) (fun i T t ys hi h=>⟨ys,h,rfl⟩) fun A hA=>hA.go (t275 cs ls ts st inn out d id) (by
  generalize h:xP cs ls ts st inn out d id=r at hA ⊢
  unfold xP at h
  refine ah h (fun g1 h=>?_) (fun g1 h=>?_)
  ·have g1:=oT g1
   refine ah h (fun g2 h=>?_) (fun g2 h=>?_)
   ·have g2:=oT g2
    exact⟨tv,.of_eq (by rw[← h];try rfl)⟩
   ·have g2:=oF g2
    exact⟨tv,.of_eq (by rw[← h];try rfl)⟩
  ·have g1:=oF g1
   exact⟨tv,.of_eq (by rw[← h];try rfl)⟩)
def nT (s:Stock)(d:Deck)(l2:List Cell):Nat->Nat->(List Log)->(Stock×Deck)
 | 0,ix,l1=>(Stock.mk l2 l1 s.tips s.start s.inn s.out,d)
 | n+1,ix,l1=>nT s d l2 n (ix+1) (l1.set (ix) (Log.mk (l1.getD (ix) Ty.log.dflt).room (l1.getD (ix) Ty.log.dflt).last (l1.getD (ix) Ty.log.dflt).list))
theorem sp (s:Stock)(d:Deck)(i1:Int)(l2:List Cell)(hb:OkS s)(hq:i1=(s.logs.length:Int)){r:Stock×Deck}{A:List Item->AS->Prop}(hA:Closed prog codes sigs f312 (eG 1) (fun r'=>GRes.Le r' ((fun x:Stock×Deck=>(⟨[],pk x.1 x.2,4⟩:GRes)) r)) 1 A)(ix:Nat)(l1:List Log)(hv:l1=s.logs)(h:nT s d l2 (i1.toNat-ix) ix l1=r):A (hd f312 0) (wG s d i1 l1 l2 (ix:Int)):=by
 refine hA.go (Lo s d i1 l1 l2 (ix:Int)) (ak (fun h1=>?_) (fun h1=>?_))
 ·have h1:=oT h1
  have hil:i1.toNat-ix=(i1.toNat-(ix+1))+1:=by omega
  rw[hil,nT]at h
  obtain⟨b1,b2,b3,b4,b5⟩:=id hb
  have hl1:l1.length=s.logs.length:=by rw[hv]
  have hz:(l1.getD (ix:Int).toNat Ty.log.dflt).list.length<=1000000:=by rw[hv];exact hb.list' _
  refine⟨⟨(by omega),(by omega)⟩,(by omega),_,Pw (by omega),⟨(by omega),(by omega)⟩,⟨(by omega),tv,tv⟩,?_⟩
  rw[aw (by omega)]
  exact sp s d i1 l2 hb hq hA (ix+1) _ (by rw[hv];exact iP (getD_some (by omega))) h
 ·have h1:=oF h1
  rw[show i1.toNat-ix=0 by omega,nT]at h
  obtain⟨b1,b2,b3,b4,b5⟩:=id hb
  exact⟨_,Pv (by omega),tv,.of_eq (by rw[← h];try rfl)⟩
termination_by i1.toNat-ix
decreasing_by all_goals omega
def zD (s:Stock)(d:Deck):Stock×Deck:=nT s d s.cells ((s.logs.length:Int).toNat-0) 0 s.logs
theorem c312 (s:Stock)(d:Deck)(hb:OkS s):Gc prog 312 [.ptr 0 0] [(0,.box (im s++cw d))] 1 ((fun x:Stock×Deck=>(⟨[],pk x.1 x.2,4⟩:GRes)) (zD s d)):=
 Gc.of_closed (C:=codes) (S:=sigs) mixed func312 (by kernel_rfl) OX fun A hA=>hA.go (t312 s d) (by
  generalize h:zD s d=r at hA ⊢
  unfold zD at h
  obtain⟨b1,b2,b3,b4,b5⟩:=id hb
  refine⟨_,Ki (by omega),_,Px (by omega),?_⟩
  exact sp s d (s.logs.length:Int) s.cells hb rfl hA 0 s.logs (by rfl) h)
def zE (d:Deck)(s:Stock):Stock×Deck:=((zD s d).1,(zD s d).2)
theorem c303 (d:Deck)(s:Stock)(hb:OkS s):Gc prog 303 [.agg (cw d),.agg (im s)] [] 0 ((fun x:Stock×Deck=>(⟨[.ptr 0 0],pk x.1 x.2,4⟩:GRes)) (zE d s)):=
 Gc.of_closed (C:=codes) (S:=sigs) mixed func303 (by kernel_rfl) (fun i T t ys hi _=>absurd hi (bG _)) fun A hA=>hA.go (t303 d s) (by
  generalize h:zE d s=r at hA ⊢
  unfold zE at h
  exact⟨_,c312 _ _ hb,tv,.of_eq (by rw[← h];try rfl)⟩)
def Gz (d:Deck)(s:Stock)(b:Int):Int×Stock×Deck:=bif (!(m91 d s))then((130:Int),s,d)else bif decide (b<(1:Int))then((1:Int),s,d)else bif decide (b>d.arms)then((1:Int),s,d)else((0:Int),(zE d s).1,(zE d s).2)
theorem c274 (d:Deck)(s:Stock)(b:Int)(hb:OkS s):Gc prog 274 [.agg (cw d),.agg (im s),i64 b] [] 0 ((fun x:Int×Stock×Deck=>(bif x.1 != 0 then⟨[.d (.v (.pointer none)),i64 x.1],[],0⟩else⟨[.ptr 0 0,i64 0],pk x.2.1 x.2.2,4⟩:GRes)) (Gz d s b)):=
 Gc.of_closed (C:=codes) (S:=sigs) mixed func274 (by kernel_rfl) (fun i T t ys hi _=>absurd hi (bG _)) fun A hA=>hA.go (t274 d s b) (by
  generalize h:Gz d s b=r at hA ⊢
  unfold Gz at h
  refine⟨⟨q5,q7,tv⟩,_,c91 _ _ (by first|exact hb|exact hb.toS),?_⟩
  refine ah h (fun g1 h=>?_) (fun g1 h=>?_)
  ·exact⟨tv,.of_eq (by rw[← h];try rfl)⟩
  ·refine ah h (fun g2 h=>?_) (fun g2 h=>?_)
   ·have g2:=oT g2
    exact⟨tv,.of_eq (by rw[← h];try rfl)⟩
   ·have g2:=oF g2
    refine ah h (fun g3 h=>?_) (fun g3 h=>?_)
    ·have g3:=oT g3
     exact⟨tv,.of_eq (by rw[← h];try rfl)⟩
    ·have g3:=oF g3
     exact⟨_,c303 _ _ hb,tv,.of_eq (by rw[← h];try rfl)⟩)
def ji (cs:List Cell)(ls:List Log)(ts:List Tip)(st inn out:Int)(d:Deck)(b id:Int)(c:Cell):List Cell×List Log:=(cs.set id.toNat c,ls.set id.toNat (DI (ls.getD id.toNat Ty.log.dflt) b (w64 (c.vol-(cs.getD id.toNat Ty.cell.dflt).vol))).1)
theorem Kb (cs:List Cell)(ls:List Log)(ts:List Tip)(st inn out:Int)(d:Deck)(b id:Int)(c:Cell)(hi:0<=id/\id<cs.length/\id<ls.length)(hg:∀ i:Nat,(ls.getD i Ty.log.dflt).list.length<=1000000):Gc prog 280 [.ptr 0 0,i64 b,i64 id,.agg (BZ c)] [(0,.box ([.own 1 .cell,.own 2 .log,.own 3 .tip,i64 st,i64 inn,i64 out]++cw d)),(1,.row 76 .cell cs),(2,.row 146 .log ls),(3,.row 194 .tip ts)] 4 ((fun x:List Cell×List Log=>(⟨[],[(0,.box ([.own 1 .cell,.own 2 .log,.own 3 .tip,i64 st,i64 inn,i64 out]++cw d)),(1,.row 76 .cell x.1),(2,.row 146 .log x.2),(3,.row 194 .tip ts)],4⟩:GRes)) (ji cs ls ts st inn out d b id c)):=
 Gc.of_closed (C:=codes) (S:=sigs) mixed func280 (by kernel_rfl) (IR (by simp[ji]) (by simp[ji])) fun A hA=>hA.go (t280 cs ls ts st inn out d b id c) (by
  generalize h:ji cs ls ts st inn out d b id c=r at hA ⊢
  unfold ji at h
  exact⟨⟨(by omega),(by omega)⟩,(by omega),⟨(by omega),(by omega)⟩,(by omega),⟨q4,q2,q2,tv⟩,_,c305 _ _ _ (hg _),⟨(by omega),(by omega)⟩,⟨(by omega),tv,tv,tv,tv⟩,⟨(by omega),(by omega)⟩,⟨(by omega),tv,tv,tv,tv⟩,tv,.of_eq (by rw[← h];try rfl)⟩)
end Go.Proofs.Mo

namespace Go.Proofs.Mo
open Go.Proofs.Tryz
open Go Go.VL Go.Proofs.Zn Go.Proofs.Mn
theorem xN (s:Stock)(d:Deck)(cs:List Cell)(ls:List Log):∀ (n ix:Nat),n+ix<=ls.length->nT s d cs n ix ls=(⟨cs,ls,s.tips,s.start,s.inn,s.out⟩,d)
 | 0,ix,_=>rfl
 | n + 1, ix, h => by
   unfold nT
   have e:ls.set ix (Log.mk (ls.getD ix Ty.log.dflt).room (ls.getD ix Ty.log.dflt).last (ls.getD ix Ty.log.dflt).list)=ls:=iP (getD_some (by omega))
   rw[e]
   exact xN s d cs ls n (ix+1) (by omega)
theorem Jx (s:Stock)(d:Deck):zD s d=(s,d):=by
 unfold zD
 rw[xN s d s.cells s.logs _ 0 (by omega)]
theorem Jz (s:Stock)(d:Deck):zE d s=(s,d):=by
 unfold zE
 rw[Jx]
def aU (d:Deck)(s:Stock)(b:Int):Int:=bif !m91 d s then 130 else bif decide (b<1)then 1 else bif decide (b>d.arms)then 1 else 0
theorem JA (d:Deck)(s:Stock)(b:Int):Gz d s b=(aU d s b,s,d):=by
 unfold Gz aU
 rw[Jz]
 cases m91 d s
 ·rfl
 ·by_cases h1:b<1
  ·rw[dT h1];rfl
  ·rw[dF h1]
   by_cases h2:b>d.arms
   ·rw[dT h2];rfl
   ·rw[dF h2];rfl
theorem yA (d:Deck)(s:Stock)(b:Int)(hb:OkS s):Gc prog 274 [.agg (cw d),.agg (im s),i64 b] [] 0 (bif aU d s b != 0 then⟨[.d (.v (.pointer none)),i64 (aU d s b)],[],0⟩else⟨[.ptr 0 0,i64 0],pk s d,4⟩):=by
 have h:=c274 d s b hb
 rw[JA]at h
 exact h
theorem Na {d:Deck}{s:Stock}{b:Int}(h:aU d s b=0):m91 d s=true/\1<=b/\b<=d.arms:=by
 unfold aU at h
 cases hm:m91 d s
 ·rw[hm]at h;cases h
 rw[hm]at h
 by_cases h1:b<1
 ·rw[dT h1]at h;cases h
 rw[dF h1]at h
 by_cases h2:b>d.arms
 ·rw[dT h2]at h;cases h
 exact⟨rfl,by omega,by omega⟩
theorem jw {d:Deck}{s:Stock}(h:m91 d s=true):(cW d != 0)=false/\(s.cells.length:Int)=bp (aL d)/\s.logs.length=s.cells.length/\(s.tips.length:Int)=bp (aR d):=by
 unfold m91 at h
 cases h1:cW d != 0
 ·rw[h1,cF]at h
  have hw:=mL h1
  have ht:=ly h1
  simp only[hw,ht]at h
  cases h2:((s.cells.length:Int) != bp (aL d))
  ·rw[h2,cF]at h
   cases h3:((s.logs.length:Int) != bp (aL d))
   ·rw[h3,cF]at h
    cases h4:((s.tips.length:Int) != bp (aR d))
    ·have h2:=ai.1 h2
     have h3:=ai.1 h3
     have h4:=ai.1 h4
     exact⟨rfl,h2,by omega,h4⟩
    ·rw[h4]at h;cases h
   ·rw[h3]at h;cases h
  ·rw[h2]at h;cases h
 ·rw[h1]at h;cases h
theorem IP {d:Deck}{s:Stock}{b:Int}{x:Stock}{y:Deck}(h:eP (aU d s b,x,y)=false):aU d s b=0:=ai.1 h
theorem HW {d:Deck}{s:Stock}{b:Int}{x:Stock}{y:Deck}(h:eP (aU d s b,x,y)=false):s.logs.length=s.cells.length:=(jw (Na (IP h)).1).2.2.1
theorem fS {cs:List Cell}{ls:List Log}{ts:List Tip}{st inn out:Int}{d:Deck}{id:Int}(h:(!(nq cs ls ts st inn out d id))=false):0<=id/\id<cs.length:=by
 have h:=nf h
 unfold nq at h
 by_cases h1:id>=0
 ·rw[dT h1,cT]at h
  have:=oT h
  omega
 ·rw[dF h1]at h;cases h
theorem qP {s:Stock}{ts:List Tip}{st inn out b:Int}{d d':Deck}{id:Int}{x:Stock}{y:Deck}(h:(!(nq s.cells s.logs ts st inn out d id))=false)(h2:eP (aU d' s b,x,y)=false):0<=id/\id<s.cells.length/\id<s.logs.length:=by
 have h1:=fS h
 have h3:=HW h2
 omega
theorem tM {α:Type}{e:Int}(h:(e != 0)=true){a b:α}:(bif e != 0 then a else b)=a:=by rw[h];rfl
end Go.Proofs.Mo

namespace Go.Proofs.Mo
open Go.Proofs.Tryz
open Go Go.VL
set_option maxRecDepth 20000
open Go.Proofs.Zn Go.Proofs.Mn
open Wn (dR bK)
def gm (d:Deck)(s:Stock)(b id n:Int):Stock×Int:=bif (eP (aU d s b,s,d))then(Stock.mk [] [] [] (0:Int) (0:Int) (0:Int),(aU d s b))else bif (!(nq (s).cells (s).logs (s).tips (s).start (s).inn (s).out (d) id))then(Stock.mk [] [] [] (0:Int) (0:Int) (0:Int),(3:Int))else let y1:=tG ((s).cells.getD id.toNat Ty.cell.dflt) n;bif (y1.2 != (0:Int))then(Stock.mk [] [] [] (0:Int) (0:Int) (0:Int),y1.2)else bif decide (n>w64 ((1152921504606846976:Int)-(s).inn))then(Stock.mk [] [] [] (0:Int) (0:Int) (0:Int),(4:Int))else(Stock.mk (ji (s).cells (s).logs (s).tips (s).start (w64 ((s).inn+n)) (s).out (d) b id y1.1).1 (ji (s).cells (s).logs (s).tips (s).start (w64 ((s).inn+n)) (s).out (d) b id y1.1).2 (s).tips (s).start (w64 ((s).inn+n)) (s).out,(0:Int))
theorem HI (d:Deck)(s:Stock)(b id n:Int)(hb:OkS s):Gc prog 281 [.agg (cw d),.agg (im s),i64 b,i64 id,i64 n,.clo (.func 282) [] [],.clo (.func 283) [] []] [] 0 ((fun x:Stock×Int=>(bif x.2 != 0 then⟨[.agg [jE,jE,jE,i64 0,i64 0,i64 0],i64 x.2],[],0⟩else⟨[vy x.1,i64 0],vz x.1,3⟩:GRes)) (gm d s b id n)):=
 Gc.of_closed (C:=codes) (S:=sigs) mixed func281 (by kernel_rfl) (fun i T t ys hi _=>absurd hi (bG _)) fun A hA=>hA.go (EZ d s b id n) (by
  generalize h:gm d s b id n=r at hA ⊢
  unfold gm at h
  refine⟨(aU d s b,s,d),yA _ _ _ hb,?_⟩
  refine ah h (fun g1 h=>?_) (fun g1 h=>?_)
  ·refine dR g1 ?_
   exact⟨tv,.of_eq (by rw[← h];first|rfl|exact(tM (by assumption)).symm)⟩
  ·refine⟨nq (aU d s b,s,d).2.1.cells (aU d s b,s,d).2.1.logs (aU d s b,s,d).2.1.tips (aU d s b,s,d).2.1.start (aU d s b,s,d).2.1.inn (aU d s b,s,d).2.1.out (aU d s b,s,d).2.2 id,Ke _ _ _ _ _ _ _ _,?_⟩
   refine ah h (fun g2 h=>?_) (fun g2 h=>?_)
   ·exact⟨tv,.of_eq (by rw[← h];first|rfl|exact(tM (by assumption)).symm)⟩
   ·refine⟨⟨(by have hw:=fS (by assumption);(try dsimp only at hw);(try dsimp only);omega),(by have hw:=fS (by assumption);(try dsimp only at hw);(try dsimp only);omega)⟩,(by have hw:=fS (by assumption);(try dsimp only at hw);(try dsimp only);omega),⟨q4,q2,tv⟩,_,Pk _ _,?_⟩
    refine ah h (fun g3 h=>?_) (fun g3 h=>?_)
    ·exact⟨tv,.of_eq (by rw[← h];first|rfl|exact(tM (by assumption)).symm)⟩
    ·try replace g3:=ai.1 g3
     refine⟨(),c283 _ _ _ _ _ _ _,?_⟩
     refine ah h (fun g4 h=>?_) (fun g4 h=>?_)
     ·have g4:=oT g4
      exact⟨tv,.of_eq (by rw[← h];first|rfl|exact(tM (by assumption)).symm)⟩
     ·have g4:=oF g4
      exact⟨ji (aU d s b,s,d).2.1.cells (aU d s b,s,d).2.1.logs (aU d s b,s,d).2.1.tips (aU d s b,s,d).2.1.start (w64 ((aU d s b,s,d).2.1.inn+n)) (aU d s b,s,d).2.1.out (aU d s b,s,d).2.2 b id (tG ((aU d s b,s,d).2.1.cells.getD id.toNat Ty.cell.dflt) n).1,Kb _ _ _ _ _ _ _ _ _ _ (qP (by assumption) (by assumption)) hb.list',tv,.of_eq (by rw[← h];first|rfl|exact(tM (by assumption)).symm)⟩)
def gl (d:Deck)(s:Stock)(b id n:Int):Stock×Int:=bif (eP (aU d s b,s,d))then(Stock.mk [] [] [] (0:Int) (0:Int) (0:Int),(aU d s b))else bif (!(nq (s).cells (s).logs (s).tips (s).start (s).inn (s).out (d) id))then(Stock.mk [] [] [] (0:Int) (0:Int) (0:Int),(3:Int))else let y1:=tF ((s).cells.getD id.toNat Ty.cell.dflt) n;bif (y1.2 != (0:Int))then(Stock.mk [] [] [] (0:Int) (0:Int) (0:Int),y1.2)else bif decide (n>w64 ((1152921504606846976:Int)-(s).out))then(Stock.mk [] [] [] (0:Int) (0:Int) (0:Int),(4:Int))else(Stock.mk (ji (s).cells (s).logs (s).tips (s).start (s).inn (w64 ((s).out+n)) (d) b id y1.1).1 (ji (s).cells (s).logs (s).tips (s).start (s).inn (w64 ((s).out+n)) (d) b id y1.1).2 (s).tips (s).start (s).inn (w64 ((s).out+n)),(0:Int))
theorem HH (d:Deck)(s:Stock)(b id n:Int)(hb:OkS s):Gc prog 281 [.agg (cw d),.agg (im s),i64 b,i64 id,i64 n,.clo (.func 284) [] [],.clo (.func 285) [] []] [] 0 ((fun x:Stock×Int=>(bif x.2 != 0 then⟨[.agg [jE,jE,jE,i64 0,i64 0,i64 0],i64 x.2],[],0⟩else⟨[vy x.1,i64 0],vz x.1,3⟩:GRes)) (gl d s b id n)):=
 Gc.of_closed (C:=codes) (S:=sigs) mixed func281 (by kernel_rfl) (fun i T t ys hi _=>absurd hi (bG _)) fun A hA=>hA.go (EY d s b id n) (by
  generalize h:gl d s b id n=r at hA ⊢
  unfold gl at h
  refine⟨(aU d s b,s,d),yA _ _ _ hb,?_⟩
  refine ah h (fun g1 h=>?_) (fun g1 h=>?_)
  ·refine dR g1 ?_
   exact⟨tv,.of_eq (by rw[← h];first|rfl|exact(tM (by assumption)).symm)⟩
  ·refine⟨nq (aU d s b,s,d).2.1.cells (aU d s b,s,d).2.1.logs (aU d s b,s,d).2.1.tips (aU d s b,s,d).2.1.start (aU d s b,s,d).2.1.inn (aU d s b,s,d).2.1.out (aU d s b,s,d).2.2 id,Ke _ _ _ _ _ _ _ _,?_⟩
   refine ah h (fun g2 h=>?_) (fun g2 h=>?_)
   ·exact⟨tv,.of_eq (by rw[← h];first|rfl|exact(tM (by assumption)).symm)⟩
   ·refine⟨⟨(by have hw:=fS (by assumption);(try dsimp only at hw);(try dsimp only);omega),(by have hw:=fS (by assumption);(try dsimp only at hw);(try dsimp only);omega)⟩,(by have hw:=fS (by assumption);(try dsimp only at hw);(try dsimp only);omega),⟨q4,q2,tv⟩,_,Pj _ _,?_⟩
    refine ah h (fun g3 h=>?_) (fun g3 h=>?_)
    ·exact⟨tv,.of_eq (by rw[← h];first|rfl|exact(tM (by assumption)).symm)⟩
    ·try replace g3:=ai.1 g3
     refine⟨(),c285 _ _ _ _ _ _ _,?_⟩
     refine ah h (fun g4 h=>?_) (fun g4 h=>?_)
     ·have g4:=oT g4
      exact⟨tv,.of_eq (by rw[← h];first|rfl|exact(tM (by assumption)).symm)⟩
     ·have g4:=oF g4
      exact⟨ji (aU d s b,s,d).2.1.cells (aU d s b,s,d).2.1.logs (aU d s b,s,d).2.1.tips (aU d s b,s,d).2.1.start (aU d s b,s,d).2.1.inn (w64 ((aU d s b,s,d).2.1.out+n)) (aU d s b,s,d).2.2 b id (tF ((aU d s b,s,d).2.1.cells.getD id.toNat Ty.cell.dflt) n).1,Kb _ _ _ _ _ _ _ _ _ _ (qP (by assumption) (by assumption)) hb.list',tv,.of_eq (by rw[← h];first|rfl|exact(tM (by assumption)).symm)⟩)
def oP (d:Deck)(s:Stock)(b i n:Int):Stock×Int:=let y1:=gm d s b i n;bif (kF y1)then(Stock.mk [] [] [] (0:Int) (0:Int) (0:Int),y1.2)else(y1.1,(0:Int))
theorem c237 (d:Deck)(s:Stock)(b i n:Int)(hb:OkS s):Pure prog 237 [⟨.deck,d⟩,⟨.stock,s⟩,⟨.int,b⟩,⟨.int,i⟩,⟨.int,n⟩] [.stock,.int] (oP d s b i n):=
 Pure.of_closed (C:=codes) (S:=sigs) mixed func237 (by kernel_rfl) (ac (by kernel_rfl)) fun A hA=>hA.go (t237 d s b i n) (by
  generalize h:oP d s b i n=r at hA ⊢
  unfold oP at h
  refine⟨gm d s b i n,HI _ _ _ _ _ hb,?_⟩
  refine ah h (fun g1 h=>?_) (fun g1 h=>?_)
  ·exact⟨⟨q7,tv,tv⟩,h⟩
  ·exact⟨⟨q7,tv,tv⟩,h⟩)
def oO (d:Deck)(s:Stock)(b i n:Int):Stock×Int:=let y1:=gl d s b i n;bif (kF y1)then(Stock.mk [] [] [] (0:Int) (0:Int) (0:Int),y1.2)else(y1.1,(0:Int))
theorem c238 (d:Deck)(s:Stock)(b i n:Int)(hb:OkS s):Pure prog 238 [⟨.deck,d⟩,⟨.stock,s⟩,⟨.int,b⟩,⟨.int,i⟩,⟨.int,n⟩] [.stock,.int] (oO d s b i n):=
 Pure.of_closed (C:=codes) (S:=sigs) mixed func238 (by kernel_rfl) (ac (by kernel_rfl)) fun A hA=>hA.go (t238 d s b i n) (by
  generalize h:oO d s b i n=r at hA ⊢
  unfold oO at h
  refine⟨gl d s b i n,HH _ _ _ _ _ hb,?_⟩
  refine ah h (fun g1 h=>?_) (fun g1 h=>?_)
  ·exact⟨⟨q7,tv,tv⟩,h⟩
  ·exact⟨⟨q7,tv,tv⟩,h⟩)
def qE (cs:List Cell)(ls:List Log)(ts:List Tip)(st inn out b id:Int)(c:Cell):List Cell×List Log:=(cs.set id.toNat c,ls.set id.toNat (Mr (ls.getD id.toNat Ty.log.dflt) b (w64 (c.vol-(cs.getD id.toNat Ty.cell.dflt).vol))).1)
def iQ (d:Deck)(s:Stock)(b:Int):Int:=bif (!(m94 d s))then(130:Int)else bif decide (b<(1:Int))then(1:Int)else bif decide (b>d.arms)then(1:Int)else(0:Int)
end Go.Proofs.Mo
