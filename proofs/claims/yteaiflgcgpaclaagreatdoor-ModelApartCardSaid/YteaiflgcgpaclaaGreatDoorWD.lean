/- Own work: part WD of the proof. -/
import Derived.Test.YteaiflgcgpaclaaGreatDoorWC
import Derived.ChangeArms
import Derived.ChangeOld
import Derived.WideShapes
import Derived.OpenShut
set_option linter.unusedVariables false
set_option linter.unusedSimpArgs false
namespace Go.VL
variable {P:Program} {C:cd} {S:fw} {E:Entry} {w w':World} {K K':Nat->Prop} {m m':Nat->Option (Option Nat)} {free free':Nat->Prop} {H H':Heap}
 {F:Fm} {f:FuncId} {R:Ending->World->Prop} {a:Act} {k:List Item} {s t s':AS} {α:Type}
abbrev Cl (P:Program)(C:cd)(S:fw)(fn:Func)(n0:Nat)(A:List Item->AS->Prop):Prop:=yP (α:=Unit) P C S fn (λ _ _=>none) (λ _=>False) n0 A
theorem EY {fn:Func}{n0:Nat}(hmx:P.follows .mixedOrders=true)(hn:E.n<=n0):Cl P C S fn n0 (ASat P F E):=
 jO hmx (λ s a w K m free vs x p todo _ _ h=>by cases h) hn
def Kg (todo:List Item):Prop:=todo=[]\/∃ k,todo=.code .ret::k
structure ClR (P:Program) (C:cd) (S:fw) (fn:Func) (n0:Nat) (fine:AS->Prop) (jump:Code->AS->Prop) (A:List Item->AS->Prop):Prop where
 cl:Cl P C S fn n0 A
 fine:∀ s,fine s->A [] s
 ret:∀ k s,jump .ret s->A (.code .ret::k) s
 exit:∀ id k s,exitTo id k=none->jump (.exit id) s->A (.code (.exit id)::k) s
structure ClB (P:Program) (C:cd) (S:fw) (fn:Func) (n0:Nat) (fine:AS->Prop) (jump:Code->AS->Prop) (A:List Item->AS->Prop):Prop where
 cl:Cl P C S fn n0 A
 begin':∀ k s,(∀ A',ClR P C S fn n0 fine jump A'->A' k s)->A (.beginRound::k) s
structure ClD (P:Program) (C:cd) (S:fw) (gfn:Func) (n1:Nat) (done:Heap->Nat->Prop) (A:List Item->AS->Prop):Prop where
 cl:Cl P C S gfn n1 A
 ret:∀ todo s,Kg todo->done s.H s.next->A todo s
def pG:List AV->List Tmp->List AV->List AV
 | ts,p::ps,x::xs=>pG (ts.set p x) ps xs
 | ts,_,_=>ts
structure ClG (P:Program) (C:cd) (S:fw) (gfn fn:Func) (n1 l:Nat) (H0:Heap) (ps:Array Tmp) (x b:Code) (tmps:List AV) (done:Heap->Nat->Prop) (doneJ:Code->Heap->Nat->Prop) (A:List Item->AS->Prop):Prop where
 cl:Cl P C S gfn n1 A
 ret:∀ todo s,Kg todo->done s.H s.next->A todo s
 yield:∀ (ops:Array Oper) (i:Nat) (rest:List Nat) (kk:List Item) (s:AS) (o:Oper) (c:Call) (y:Operand),ops[i]?=some o->oc ops o s=true->o.op=.call c->c.callee=.value y ->
  s.ev y=.clo (.yield l) [] []->c.args.size=ps.size->RowsLe n1 H0 s.H->n1<=s.next ->
  (∀ Ar,ClB P C S fn (s.next+8*ops.size) (λ s2=>RowsLe (s.next+8*ops.size) s.H s2.H/\A (.inRegion ops rest::kk) ⟨ld s.tmps o.dst (ck true),s2.H,s2.next⟩)
   (λ j s2=>RowsLe (s.next+8*ops.size) s.H s2.H/\∀ Ad,ClD P C S gfn n1 (doneJ j) Ad->Ad (.inRegion ops rest::kk) ⟨ld s.tmps o.dst (ck false),s2.H,s2.next⟩) Ar ->
   Ar [.code x,.beginRound,.code b] ⟨pG tmps ps.toList (c.args.toList.map s.ev),s.H,s.next+8*ops.size⟩) ->
  A (.inRegion ops (i::rest)::kk) s
structure ClosedR {α:Type} (P:Program) (C:cd) (S:fw) (fn:Func) (fin:Fin α) (R0:α->Prop) (n0:Nat) (A:List Item->AS->Prop):Prop where
 cl:yP P C S fn fin R0 n0 A
 range:∀ (g:Operand) (ps:Array Tmp) (x b:Code) (k:List Item) (s:AS) (gf:FuncId) (gfn:Func) (gc:Code) (fs cs:List AV),s.ev g=.clo (.func gf) fs cs->P.funcs[gf]?=some gfn->gfn.body=some gc->gh P gf=true ->
  gfn.results=#[]->n0<=s.next ->
  (∀ l A',ClG P C S gfn fn s.next l s.H ps x b s.tmps (λ H n=>RowsLe s.next s.H H/\∀ A2,yP P C S fn fin R0 s.next A2->A2 k ⟨s.tmps,H,n⟩)
   (λ j H n=>RowsLe s.next s.H H/\∀ A2,yP P C S fn fin R0 s.next A2->A2 (.code j::k) ⟨s.tmps,H,n⟩) A' ->
   A' [.code gc] ⟨fs++.clo (.yield l) [] []::cs++List.replicate (gfn.ntmps-(fs.length+1+cs.length)) (.d (.v undef)),s.H,s.next⟩) ->
  A (.code (.rangeFunc g ps x b)::k) s
abbrev mark (D:Nat):Deferred:={ target:=.collected D,args:=#[] }
theorem Hs {fn:Func}{fin:Fin α}{R0:α->Prop}(hf:P.funcs[f]?=some fn)(hfin:wK P fn E fin R0 R){E2:Entry}{D:Nat}
  (hM2:∀ w K m H free,Mem E2 w K m H free->Mem E w K m H free) (hD:E.w.heap.size<=D) (hK:¬ E.K D) (hD2:D<E2.w.heap.size) (hob:E2.w.heap[D]?=some (.deferred (some []))) (hm:∀ l,l<E2.n->E2.m l≠some (some D)) :
  LM P fn E2 fin R0 ⟨f,none,[mark D],Kv P f R⟩:=by
 intro s a w K m free vs x p todo hst hres hx hp h0 ht b cs hb hk hro
 have hob':w.heap[D]?=some (.deferred (some [])):=by rw[hst.mem.keep D hD2 hm];exact hob
 have hlt:D<w.heap.size:=by
  rcases ax D w.heap.size with h|h
  ·exact h
  ·rw[bZ h]at hob';cases hob'
 have hs:Soft D w (w.putObj D (.deferred none)):=Soft.put (λ c T z e=>by rw[hob']at e;cases e) (λ es c e=>by rw[hob']at e;cases e) (λ c T z e=>by cases e) (λ es c e=>by cases e) hlt
 have hst5:St E s a (w.putObj D (.deferred none)) K m free:=⟨hst.len,λ i y v hy hv=>(hst.tmps i y v hy hv).soft hs,hst.defers,(hM2 _ _ _ _ _ hst.mem).soft hs hD hK⟩
 obtain⟨v,hr,hR⟩:=hfin s a _ K m free vs x p hst5 hres hx hp h0
 have h1:step P (lone (b.atR { tmps:=a.tmps,defers:=[mark D] } todo) cs w)=.next (lone { b.atR { tmps:=a.tmps,defers:=[mark D] } todo with mode:=.returning } cs w):=by
  rcases ht with rfl|⟨k,rfl⟩
  ·exact stepR_end hro
  ·exact stepR_ret hro
 have h2:=step_collected (P:=P) (fr:={ b.atR { tmps:=a.tmps,defers:=[mark D] } todo with mode:=.returning }) (cs:=cs) (w:=w) (d:=mark D) (r:=D) (ds:=[]) (by simp) rfl rfl (run_takeDeferred hob')
 have hb:b.fn=f:=hb
 refine⟨_,Steps.trans (.one h1) (.one h2),v,_,_,hR,rfl,hb,rfl,rfl,hk,fn,?_,hr⟩
 show P.funcs[b.fn]?=some fn
 rw[hb];exact hf
theorem EX {x:AV}{fnv:Fn}{fs cs:List AV}{v:Value}(h:Rel w K m H x v)(hx:x=.clo fnv fs cs):∃ us vs:Array Value,v=.func fnv us vs/\us.size=fs.length/\vs.size=cs.length /\
  (∀ (i:Nat) (a:AV) (v:Value),fs[i]?=some a->us[i]?=some v->Rel w K m H a v)/\∀ (i:Nat) (a:AV) (v:Value),cs[i]?=some a->vs[i]?=some v->Rel w K m H a v:=by
 subst hx
 cases h with
 | clo _ _ _ us vs hf hl h1 h2=>exact⟨us,vs,rfl,hf,hl,h1,h2⟩
theorem FE {l:Nat}{v:Value}(h:Rel w K m H (.clo (.yield l) [] []) v):v=.func (.yield l) #[] #[]:=by
 obtain⟨us,vs,rfl,h1,h2,_⟩:=EX h rfl
 have e1:us=#[]:=dZ (by simpa using h1)
 have e2:vs=#[]:=dZ (by simpa using h2)
 rw[e1,e2]
theorem Bm {g:FuncId}(h:gh P g=true)(q:Array Value)(w:World):(callFunc g q).run P w=.ok (.enter g q) w:=by
 unfold gh at h
 split at h
 ·rename_i fn' hfn'
  simp only[aO,cK,ne_eq]at h
  obtain⟨hn,hb⟩:=h
  obtain⟨c,hc⟩:=bM.1 hb
  simp[callFunc,hfn',hn,hc]
 ·cases h
theorem vw:∀ (ps:List Tmp) (ts:List AV) (xs:List AV) (T:Array Value) (vs:List Value),T.size=ts.length->vs.length=xs.length ->
  (∀ (i:Nat) (x:AV) (v:Value),ts[i]?=some x->T[i]?=some v->Rel w K m H x v)->(∀ (i:Nat) (x:AV) (v:Value),xs[i]?=some x->vs[i]?=some v->Rel w K m H x v) ->
  ((ps.zip vs).foldl (λ t (p:Tmp×Value)=>t.setIfInBounds p.1 p.2) T).size=(pG ts ps xs).length /\
   ∀ (i:Nat) (x:AV) (v:Value),(pG ts ps xs)[i]?=some x->((ps.zip vs).foldl (λ t (p:Tmp×Value)=>t.setIfInBounds p.1 p.2) T)[i]?=some v->Rel w K m H x v
 | [],ts,xs,T,vs,hl,_,h,_=>by simpa[pG]using⟨hl,h⟩
 | p :: ps, ts, [], T, vs, hl, hv, h, _ => by
   have:vs=[]:=ay (by simpa using hv)
   subst this
   simpa[pG]using⟨hl,h⟩
 | p::ps,ts,x::xs,T,[],hl,hv,_,_=>by simp at hv
 | p :: ps, ts, x :: xs, T, v :: vs, hl, hv, h, h2 => by
   have ih:=vw ps (ts.set p x) xs (T.setIfInBounds p v) vs (by simpa using hl) (by simpa using hv) (λ i y u hy hu=>?_) (λ i y u hy hu=>h2 (i+1) y u (by simpa using hy) (by simpa using hu))
   ·simpa[pG]using ih
   ·rw[aP]at hy
    rw[fV]at hu
    by_cases hpi:p=i
    ·subst hpi
     rw[aE rfl]at hy hu
     split at hy
     ·rename_i hlt
      rw[aE (by omega)]at hu
      cases hy;cases hu
      exact h2 0 x v rfl rfl
     ·cases hy
    ·rw[aF hpi]at hy hu
     exact h i y u hy hu
end Go.VL
namespace Go.VL
variable {P:Program} {C:cd} {S:fw} {E:Entry} {w w':World} {K K':Nat->Prop} {m m':Nat->Option (Option Nat)} {free free':Nat->Prop} {H H':Heap}
 {F:Fm} {f:FuncId} {R:Ending->World->Prop} {a:Act} {k:List Item} {s t s':AS} {α:Type}
abbrev Su (st:LoopState)(pd:Option Code)(f:FuncId)(tmps:Array Value)(ps:Array Tmp)(x b:Code)(D:Nat):Loop:={ state:=st,pending:=pd,fn:=f,tmps:=tmps,params:=ps,assign:=x,body:=b,defers:=D }
theorem rn {ops:Array Oper}{i:Nat}{rest:List Nat}{kk:List Item}(h:nA (.inRegion ops (i::rest)::kk)):nA (.inRegion ops rest::kk):=
 ⟨⟨(hU.1 h.1.1).2,λ j hj=>h.1.2 j (by simp[hj])⟩,h.2⟩
def OA (P:Program)(f:FuncId)(R:Ending->World->Prop)(D l:Nat)(a:Act)(k:List Item)(w':World):Prop:=
 ∃ jump w4,(Instr.endLoop l).run P w'=.ok jump w4/\Runs P ⟨f,none,[mark D],Kv P f R⟩ a w4 ((jump.map Item.code).toList++k)
theorem xd {as bs:List AV}{us vs:Array Value}(h1:us.size=as.length)(h2:∀ (i:Nat) (a:AV) (v:Value),as[i]?=some a->us[i]?=some v->Rel w K m H a v)
  (h4:∀ (i:Nat) (a:AV) (v:Value),bs[i]?=some a->vs[i]?=some v->Rel w K m H a v):∀ (i:Nat) (a:AV) (v:Value),(as++bs)[i]?=some a->(us++vs)[i]?=some v->Rel w K m H a v:=by
 intro i a v ha hv
 rw[bv]at ha
 rw[dR,h1]at hv
 split at ha
 ·rename_i hi;rw[aE hi]at hv;exact h2 i a v ha hv
 ·rename_i hi;rw[aF hi]at hv;exact h4 _ a v ha hv
theorem EW {fn:Func}{fin:Fin α}{R0:α->Prop}{n0:Nat}(hmx:P.follows .mixedOrders=true)(hf:P.funcs[f]?=some fn)(hfin:wK P fn E fin R0 R)(hn:E.n<=n0)(hEK:∀ b,E.K b->b<E.w.heap.size) :
  ClosedR P C S fn fin R0 n0 (ASat P (.fn P f R) E):=by
 refine⟨jO hmx (xV hf hfin) hn,?_⟩
 intro g ps x b k s gf gfn gc fs cs hev hgf hgc hent hres hn0 h hok a w K m hst
 have hnk:noReg (.code (.rangeFunc g ps x b)::k):=hok
 have hfree:∀ l,s.next<=l->kM (.code (.rangeFunc g ps x b)::k) s.next l:=λ l hl=>(cg hnk _ _).2 hl
 obtain⟨us,vs,hgv,hus,hvs,hur,hvr⟩:=EX (hst.ev g) hev
 let D:=w.heap.size
 let l:=w.heap.size+1
 let rec_:=λ(st:LoopState) (pd:Option Code)=>Obj.loop (Su st pd f a.tmps ps x b D)
 let w1:=(w.alloc (.deferred (some []))).alloc (rec_ .ready none)
 have hb1:RowKit.Below w.heap.size w w1:=((RowKit.Below.refl _ w).alloc (aI _) _).alloc (by rw[World.size_alloc];exact jQ _) _
 obtain⟨M1,e1⟩:=hst.mem.after hb1 (K2:=λ _=>False) (λ b hb=>hb.elim) (λ b hb=>hb.elim)
 generalize hK1:(λ b=>K b\/False)=K1 at M1 e1
 have hsz1:w1.heap.size=l+1:=by show((w.alloc _).alloc _).heap.size=_;rw[World.size_alloc,World.size_alloc]
 have hl1:w1.heap[l]?=some (rec_ .ready none):=by
  have:=World.alloc_heap_new (w.alloc (.deferred (some []))) (rec_ .ready none)
  rw[World.size_alloc]at this;exact this
 have hD1:w1.heap[D]?=some (.deferred (some [])):=by
  have h2:w1.heap[D]?=(w.alloc (.deferred (some []))).heap[D]?:=RowKit.Below.heap_alloc _ _ _ (by rw[World.size_alloc];exact Nat.lt_succ_self _)
  rw[h2];exact World.alloc_heap_new w _
 have hnl:∀ j q,D<=q->m j≠some (some q):=λ j q hq hm=>by have:=hst.mem.mlt j q hm;have:D=w.heap.size:=rfl;omega
 have hKD:∀ q,D<=q->¬ E.K q:=λ q hq hk=>by have:=hEK q hk;have:=hst.mem.size;have:D=w.heap.size:=rfl;omega
 have hED:E.w.heap.size<=D:=hst.mem.size
 have hEn:E.n<=s.next:=bj hn hn0
 have M1s:Mem ⟨w1,K1,m,s.next⟩ w1 K1 m s.H (λ q=>s.next<=q):=M1.start hfree
 have fJ:∀ (w':World) (st:LoopState) (pd:Option Code),(∃ r,w'.heap[l]?=some (.loop r))->True->Soft l w' (w'.putObj l (rec_ st pd)):=λ w' st pd ⟨r,hr⟩ _=>
  Soft.put (λ c T z e=>by rw[hr]at e;cases e) (λ es c e=>by rw[hr]at e;cases e) (λ c T z e=>by cases e) (λ es c e=>by cases e) (by
   rcases ax l w'.heap.size with h|h
   ·exact h
   ·rw[bZ h]at hr;cases hr)
 have recNo:∀ st pd,∀ c T z,rec_ st pd≠.cells c T z:=λ st pd c T z e=>by cases e
 have putG:∀ (w':World) (o:Obj),(∃ r,w'.heap[l]?=some (.loop r))->(w'.putObj l o).heap[l]?=some o:=λ w' o ⟨r,hr⟩=>World.putObj_heap_same (by
  rcases ax l w'.heap.size with h|h
  ·exact h
  ·rw[bZ h]at hr;cases hr)
 let afr:Act:={ tmps:=(us++#[Value.func (.yield l) #[] #[]]++vs)++Array.replicate (gfn.ntmps-(us++#[Value.func (.yield l) #[] #[]]++vs).size) undef,defers:=[] }
 let Fg:Fm:=.fn P gf (λ e w'=>(∃ v,e=.returned v)/\OA P f R D l a k w')
 have hinner:Runs P Fg afr w1 [.code gc]:=by
  have outer:∀ (st:LoopState) (pd:Option Code) (we:World) (s3:AS) (w3:World) (K3:Nat->Prop) (m3:Nat->Option (Option Nat)),st≠.busy->Soft l w1 we->we.heap[l]?=some (rec_ st pd) ->
    Mem ⟨we,K1,m,s.next⟩ w3 K3 m3 s3.H (λ q=>s3.next<=q)->RowsLe s.next s.H s3.H->noReg ((pd.map Item.code).toList++k) ->
    (∀ A2,yP P C S fn fin R0 s.next A2->A2 ((pd.map Item.code).toList++k) ⟨s.tmps,s3.H,s3.next⟩)->OA P f R D l a k w3:=by
   intro st pd we s3 w3 K3 m3 hst0 hsoft hrec hM3 hrows hnr hA2
   have hszE:we.heap.size=l+1:=by rw[hsoft.size];exact hsz1
   have hrec3:w3.heap[l]?=some (rec_ st pd):=by
    rw[hM3.keep l (by show l<we.heap.size;omega) (λ j _=>hnl j l (jQ _))];exact hrec
   refine⟨pd,_,run_endLoop hrec3 hst0,?_⟩
   have s3s:=fJ w3 .exhausted pd ⟨_,hrec3⟩ trivial
   have seS:=fJ we .exhausted pd ⟨_,hrec⟩ trivial
   have hM4:=hM3.soft2 s3s seS ((putG _ _ ⟨_,hrec3⟩).trans (putG _ _ ⟨_,hrec⟩).symm)
   have ME1:Mem E (we.putObj l (rec_ .exhausted pd)) K1 m s.H (λ q=>s.next<=q):=(M1.soft (hsoft.trans seS) (by have:D<l:=Nat.lt_succ_self _;omega) (hKD l (jQ _))).weaken hfree
   have Ms:Mem ⟨we.putObj l (rec_ .exhausted pd),K1,m,s.next⟩ (we.putObj l (rec_ .exhausted pd)) K1 m s.H (λ q=>s.next<=q):=ME1.start (λ q hq=>hq)
   have ex:Ext (we.putObj l (rec_ .exhausted pd)) K1 m s.H (w3.putObj l (rec_ .exhausted pd)) K3 m3 s3.H:=Ext.of_mem Ms hM4 hrows
   have hfR:LM P fn ⟨we.putObj l (rec_ .exhausted pd),K1,m,s.next⟩ fin R0 ⟨f,none,[mark D],Kv P f R⟩:=by
    refine Hs hf hfin (D:=D) (λ w K m' H free hM=>ME1.trans hM hEn) hED (hKD D (aI _)) ?_ ?_ (λ j _=>hnl j D (aI _))
    ·show D<(we.putObj l _).heap.size
     rw[World.putObj_size,hszE];show w.heap.size<w.heap.size+1+1;omega
    ·show(we.putObj l _).heap[D]?=_
     have hne:D≠l:=by show w.heap.size≠w.heap.size+1;omega
     rw[World.putObj_heap_other hne,hsoft.other D hne];exact hD1
   refine hA2 (ASat P ⟨f,none,[mark D],Kv P f R⟩ ⟨we.putObj l (rec_ .exhausted pd),K1,m,s.next⟩) (jO hmx hfR (aI _)) (jh hnr) a _ K3 m3 ?_
   refine⟨hst.len,λ i y v hy hv=>?_,hst.defers,hM4.weaken (λ q hq=>(cg hnr _ _).1 hq)⟩
   exact(((hst.tmps i y v hy hv).ext e1).soft (hsoft.trans seS)).ext ex
  have hnk':∀ pd:Option Code,noReg ((pd.map Item.code).toList++k):=λ pd=>by
   have hk:=noReg.tail hnk
   cases pd with
   | none=>exact hk
   | some c=>exact hk.cons (by simp)
  have retG:∀ (st:LoopState) (pd:Option Code) (we:World) (todo:List Item) (s3:AS),st≠.busy->Soft l w1 we->we.heap[l]?=some (rec_ st pd)->Kg todo->RowsLe s.next s.H s3.H ->
    (∀ A2,yP P C S fn fin R0 s.next A2->A2 ((pd.map Item.code).toList++k) ⟨s.tmps,s3.H,s3.next⟩) ->
    ASat P Fg ⟨we,K1,m,s.next⟩ todo s3:=by
   intro st pd we todo s3 hst0 hsoft hrec hend hrows hA2 hok3 a3 w3 K3 m3 hst3
   have hr:(results gfn a3.tmps).run P w3=.ok (.tuple #[]) w3:=by
    unfold results
    rw[hres]
    simp
   have hnr3:noReg todo:=by
    rcases hend with rfl|⟨kk,rfl⟩
    ·exact λ ops l hm=>by cases hm
    ·exact hok3
   exact Runs.ret hgf hr ⟨⟨_,rfl⟩,outer st pd we s3 w3 K3 m3 hst0 hsoft hrec (hst3.mem.weaken (λ q hq=>(cg hnr3 _ _).2 hq)) hrows (hnk' pd) hA2⟩ hend
  have softR:∀ we:World,(∃ r,we.heap[l]?=some (.loop r))->Soft l we we:=λ we ⟨r,hr⟩=>⟨rfl,rfl,rfl,rfl,λ _ _=>rfl,λ c T z e=>(by rw[hr]at e;cases e),λ c T z e=>(by rw[hr]at e;cases e),λ c T e=>(by rw[hr]at e;cases e),λ c T e=>(by rw[hr]at e;cases e)⟩
  refine h l _ (?_:ClG P C S gfn fn s.next l s.H ps x b s.tmps _ _ (ASat P Fg ⟨w1,K1,m,s.next⟩)) (λ ops q hm=>by simp at hm) afr w1 K1 m ?_
  ·refine⟨EY hmx (aI _),λ todo s3 hend hd=>retG .ready none w1 todo s3 (by simp) (softR w1 ⟨_,hl1⟩) hl1 hend hd.1 hd.2,?_⟩
   intro ops i rest kk s' o c y hops hg hop hcal hev' hsz hrows hn' hround hok' a' w' K' m' hst' bg csg hbg hbk hbro
   have hlE:w'.heap[l]?=some (rec_ .ready none):=by
    rw[hst'.mem.keep l (by show l<w1.heap.size;omega) (λ j _=>hnl j l (jQ _))];exact hl1
   have hyv:a'.eval y=.func (.yield l) #[] #[]:=FE (by have:=hst'.ev y;rw[hev']at this;exact this)
   let tm:=((ps.zip (c.args.map a'.eval)).foldl (λ tmps (t,a)=>tmps.setIfInBounds t a) a.tmps)
   have hexec:(execOp a'.eval o).run P w'=.ok (.round l f tm x b) w':=by
    have hy:=run_yield (P:=P) (args:=c.args.map a'.eval) hlE (by simpa using hsz)
    have:execOp a'.eval o=(do let d ← resolve a'.eval c o.type;invoke d.target d.args):=by simp only[execOp,hop]
    rw[this]
    simp only[resolve,hcal,Sem.run_bind,hyv,Deferred.ofValue,Sem.run_pure,Result.andThen_ok,invoke]
    have e:(#[]:Array Value)++c.args.map a'.eval=c.args.map a'.eval:=by simp
    rw[e];exact hy
   have hnd:∀ c',o.op≠.defer c':=λ c' e=>by rw[hop]at e;cases e
   have hwant:Region.wanted o (yielded ops a'.tmps)=true:=wM hst' hg
   let fr:=bg.atR { tmps:=a'.tmps,defers:=[] } (.inRegion ops (i::rest)::kk)
   have hstep:step P (lone fr csg w')=.next (lone (Frame.round l f tm x b .normal) (fr::csg) w'):=by
    refine step_lone_go ?_
    have hg':=stepGR_op (P:=P) (b:=bg) (a:={ tmps:=a'.tmps,defers:=[] }) (k:=kk) (cs:=csg) (w:=w') (rest:=rest) hops hwant
    rw[Oper.semAt_eq _ _ _ hnd]at hg'
    have hev2:({ tmps:=a'.tmps,defers:=[] }:Act).eval=a'.eval:=by funext z;cases z<;>rfl
    rw[hev2]at hg'
    show(stepG P true { frame:=bg.atR { tmps:=a'.tmps,defers:=[] } (.inRegion ops (i::rest)::kk),callers:=csg,status:=.running,dying:=none } w').bare=_
    rw[hg']
    simp[stepG.apply,hexec,fr,Frame.atR]
   have hfin:∀ v,fr.finish v=bg.atR { tmps:=(a'.put o.dst v).tmps,defers:=[] } (.inRegion ops rest::kk):=by
    intro v
    show(bg.atR { tmps:=a'.tmps,defers:=[] } (.inRegion ops (i::rest)::kk)).finish v=_
    rw[Frame.finish_atR,hops]
    cases hd:o.dst<;>simp[Act.put,hd]
   let N2:=s'.next+8*ops.size
   have hstart:Mem ⟨w',K',m',N2⟩ w' K' m' s'.H (λ q=>N2<=q):=hst'.mem.start (λ q hq=>.inl hq)
   let Fr:Fm:=⟨f,some l,[],λ cs M=>∀ csg',cs=fr::csg'->Fg.G csg' M⟩
   have back:∀ (b3:Frame) (cs3:List Frame) (a3:Act) (w3:World) (todo:List Item),(∀ csg',cs3=fr::csg'->∃ M,Steps P (lone (b3.atR { tmps:=a3.tmps,defers:=[] } todo) cs3 w3) M/\Fg.G csg' M) ->
     ∃ M,Steps P (lone (b3.atR { tmps:=a3.tmps,defers:=[] } todo) cs3 w3) M/\Fr.G cs3 M:=by
    intro b3 cs3 a3 w3 todo hq
    by_cases hc:∃ csg',cs3=fr::csg'
    ·obtain⟨csg',rfl⟩:=hc
     obtain⟨M,h1,h2⟩:=hq csg' rfl
     exact⟨M,h1,λ q e=>by cases e;exact h2⟩
    ·exact⟨_,Steps.refl _ _,λ q e=>absurd ⟨q,e⟩ hc⟩
   have hExt:Ext w1 K1 m s.H w' K' m' s'.H:=Ext.of_mem M1s (hst'.mem.weaken (λ q hq=>hq)) hrows
   have hm'l:∀ j,m' j≠some (some l):=λ j hj=>by
    rcases ax j s.next with hjn|hjn
    ·have e:m' j=m j:=hst'.mem.mold j hjn
     rw[e]at hj
     exact hnl j l (jQ _) hj
    ·rcases hst'.mem.mnew j l hjn hj with h3|⟨q,_,hq⟩
     ·have h3:w1.heap.size<=l:=h3
      omega
     ·exact hnl q l (jQ _) hq
   have hlw':l<w'.heap.size:=by
    rcases ax l w'.heap.size with h|h
    ·exact h
    ·rw[bZ h]at hlE;cases hlE
   have hround':=hround (ASat P Fr ⟨w',K',m',N2⟩) ⟨EY hmx (aI _),?_⟩
   ·obtain⟨hT1,hT2⟩:=vw (w:=w') (K:=K') (m:=m') (H:=s'.H) ps.toList s.tmps (c.args.toList.map s'.ev) a.tmps (c.args.toList.map a'.eval) hst.len (by simp)
     (λ i y v hy hv=>((hst.tmps i y v hy hv).ext e1).ext hExt) (λ i y v hy hv=>by
      simp only[aQ,ac]at hy hv
      obtain⟨z,hz,rfl⟩:=hy
      obtain⟨z',hz',rfl⟩:=hv
      rw[hz]at hz';cases hz'
      exact hst'.ev z)
    have htm:(ps.toList.zip (c.args.toList.map a'.eval)).foldl (λ t (p:Tmp×Value)=>t.setIfInBounds p.1 p.2) a.tmps=tm:=by
     show _=(ps.zip (c.args.map a'.eval)).foldl _ a.tmps
     rw[<-kZ]
     simp
    rw[htm]at hT1 hT2
    obtain⟨M,h1,h2⟩:=hround' (λ ops q hm=>by simp at hm) { tmps:=tm,defers:=[] } w' K' m' ⟨hT1,hT2,rfl,hstart⟩ { (default:Frame)with fn:=f,kind:=.normal,roundOf:=some l } (fr::csg) rfl rfl rfl
    refine⟨M,Steps.trans (.one hstep) ?_,h2 csg rfl⟩
    have hb0:Frame.round l f tm x b .normal=({ (default:Frame)with fn:=f,kind:=.normal,roundOf:=some l }:Frame).atR { tmps:=tm,defers:=[] } [.code x,.beginRound,.code b]:=by
     simp[Frame.round,Frame.atR]
    rw[hb0];exact h1
   ·
    intro k2 s2 h2 hok2 a2 w2 K2 m2 hst2 b2 cs2 hb2 hk2 hro2
    have hnr2:noReg k2:=noReg.tail (show noReg (.beginRound::k2) from hok2)
    have hl2:w2.heap[l]?=some (rec_ .ready none):=by
     rw[hst2.mem.keep l hlw' (λ j _=>hm'l j)];exact hlE
    have sW:=fJ w' .busy none ⟨_,hlE⟩ trivial
    have sW2:=fJ w2 .busy none ⟨_,hl2⟩ trivial
    have hlB:(w'.putObj l (rec_ .busy none)).heap[l]?=some (rec_ .busy none):=putG _ _ ⟨_,hlE⟩
    have hM2:=hst2.mem.soft2 sW2 sW ((putG _ _ ⟨_,hl2⟩).trans hlB.symm)
    have hs1:=stepR_beginRound (a:={ tmps:=a2.tmps,defers:=[] }) (k:=k2) (cs:=cs2) hro2 (run_beginRound (P:=P) hl2 rfl)
    have hl3:∀ (E3:Entry) (w3:World) (K3:Nat->Prop) (m3:Nat->Option (Option Nat)) (H3:Heap) (fr3:Nat->Prop),E3=⟨w'.putObj l (rec_ .busy none),K',m',N2⟩->Mem E3 w3 K3 m3 H3 fr3->w3.heap[l]?=some (rec_ .busy none):=by
     intro E3 w3 K3 m3 H3 fr3 hE3 hM3
     subst hE3
     rw[hM3.keep l (by show l<(w'.putObj l _).heap.size;rw[World.putObj_size];exact hlw') (λ j _=>hm'l j)];exact hlB
    have jumpL:∀ (j:Code) (s3:AS) (a3:Act) (w3:World) (K3:Nat->Prop) (m3:Nat->Option (Option Nat)) (csg':List Frame),Mem ⟨w'.putObj l (rec_ .busy none),K',m',N2⟩ w3 K3 m3 s3.H (λ q=>s3.next<=q) ->
      (RowsLe N2 s'.H s3.H/\∀ Ad,ClD P C S gfn s.next (λ H n=>RowsLe s.next s.H H/\∀ A2,yP P C S fn fin R0 s.next A2->A2 (.code j::k) ⟨s.tmps,H,n⟩) Ad->Ad (.inRegion ops rest::kk) ⟨ld s'.tmps o.dst (ck false),s3.H,s3.next⟩) ->
      ∃ M,Steps P (lone (fr.finish (.bool false)) csg' (w3.putObj l (rec_ .done (some j)))) M/\Fg.G csg' M:=by
     rintro j s3 a3 w3 K3 m3 csg' hM3 ⟨hr3,hAd⟩
     have hlw3:=hl3 _ _ _ _ _ _ rfl hM3
     have sD1:=fJ w1 .done (some j) ⟨_,hl1⟩ trivial
     have sD':=fJ w' .done (some j) ⟨_,hlE⟩ trivial
     have sD3:=fJ w3 .done (some j) ⟨_,hlw3⟩ trivial
     have hg1:=putG w1 (rec_ .done (some j)) ⟨_,hl1⟩
     have hg':=putG w' (rec_ .done (some j)) ⟨_,hlE⟩
     have hg3:=putG w3 (rec_ .done (some j)) ⟨_,hlw3⟩
     have Ma:=hst'.mem.soft2 sD' sD1 (hg'.trans hg1.symm)
     have Mb:=hM3.soft2 sD3 (sW.symm.trans sD') (hg3.trans hg'.symm)
     have Mb0:Mem ⟨w'.putObj l (rec_ .done (some j)),K',m',N2⟩ (w'.putObj l (rec_ .done (some j))) K' m' s'.H (λ q=>N2<=q):=Ma.start (λ q hq=>.inl hq)
     have ex:Ext (w'.putObj l (rec_ .done (some j))) K' m' s'.H (w3.putObj l (rec_ .done (some j))) K3 m3 s3.H:=Ext.of_mem Mb0 Mb hr3
     have Mc:=Ma.trans Mb (bj hn' (mo _ _))
     have hst3:St ⟨w',K',m',0⟩ s' a' w' K' m' (λ _=>False)->True:=λ _=>trivial
     have hS:St ⟨w1.putObj l (rec_ .done (some j)),K1,m,s.next⟩ ⟨ld s'.tmps o.dst (ck false),s3.H,s3.next⟩ (a'.put o.dst (.bool false)) (w3.putObj l (rec_ .done (some j))) K3 m3 (kM (.inRegion ops rest::kk) s3.next):=by
      have h0:St ⟨w1.putObj l (rec_ .done (some j)),K1,m,s.next⟩ s' a' (w'.putObj l (rec_ .done (some j))) K' m' (kM (.inRegion ops (i::rest)::kk) s'.next):=⟨hst'.len,λ i y v hy hv=>(hst'.tmps i y v hy hv).soft sD',hst'.defers,Ma⟩
      refine((h0.put o.dst (v:=ck false) (u:=.bool false) (.d _ _ (.v _)) Mc ex).next_ s3.next).weaken (λ q hq=>?_)
      rcases hq with hq|⟨_,_,_,hq,_⟩
      ·show s3.next<=q;omega
      ·show s3.next<=q;omega
     have hA:=hAd (ASat P Fg ⟨w1.putObj l (rec_ .done (some j)),K1,m,s.next⟩) ⟨EY hmx (aI _),λ todo s5 hend hd=>retG .done (some j) _ todo s5 (by simp) sD1 hg1 hend hd.1 hd.2⟩
     obtain⟨M,g1,g2⟩:=hA (rn hok') _ _ _ _ hS bg csg' hbg hbk hbro
     exact⟨M,by rw[hfin];exact g1,g2⟩
    have hfinal:∀ _:ClR P C S fn N2 (λ s2=>RowsLe N2 s'.H s2.H/\ASat P Fg ⟨w1,K1,m,s.next⟩ (.inRegion ops rest::kk) ⟨ld s'.tmps o.dst (ck true),s2.H,s2.next⟩)
      (λ j s2=>RowsLe N2 s'.H s2.H/\∀ Ad,ClD P C S gfn s.next (λ H n=>RowsLe s.next s.H H/\∀ A2,yP P C S fn fin R0 s.next A2->A2 (.code j::k) ⟨s.tmps,H,n⟩) Ad->Ad (.inRegion ops rest::kk) ⟨ld s'.tmps o.dst (ck false),s2.H,s2.next⟩)
      (ASat P Fr ⟨w'.putObj l (rec_ .busy none),K',m',N2⟩),∃ M,Steps P (lone (b2.atR { tmps:=a2.tmps,defers:=[] } (.beginRound::k2)) cs2 w2) M/\Fr.G cs2 M:=λ hcl=>by
     obtain⟨M,g1,g2⟩:=h2 (ASat P Fr ⟨w'.putObj l (rec_ .busy none),K',m',N2⟩) hcl (jh hnr2) a2 (w2.putObj l (rec_ .busy none)) K2 m2
      ⟨hst2.len,λ i y v hy hv=>(hst2.tmps i y v hy hv).soft sW2,hst2.defers,hM2.weaken (λ q hq=>(cg (show noReg (.beginRound::k2) from hok2) _ _).2 ((cg hnr2 _ _).1 hq))⟩ b2 cs2 hb2 hk2 hro2
     exact⟨M,Steps.trans (.one hs1) g1,g2⟩
    refine hfinal ⟨EY hmx (aI _),?_,?_,?_⟩
    ·rintro s3 ⟨hr3,hA3⟩ _ a3 w3 K3 m3 hst3 b3 cs3 hb3 hk3 hro3
     refine back b3 cs3 a3 w3 [] (λ csg' e=>?_)
     subst e
     have hM3:Mem ⟨w'.putObj l (rec_ .busy none),K',m',N2⟩ w3 K3 m3 s3.H (λ q=>s3.next<=q):=hst3.mem.weaken (λ q hq=>hq)
     have hlw3:=hl3 _ _ _ _ _ _ rfl hM3
     have hs3:=stepR_round_end (P:=P) (a:={ tmps:=a3.tmps,defers:=[] }) (c:=fr) (cs:=csg') hro3 hk3 (run_endRound none hlw3)
     have s3s:=fJ w3 .ready none ⟨_,hlw3⟩ trivial
     have hg3:=putG w3 (rec_ .ready none) ⟨_,hlw3⟩
     have Mb:=hM3.soft2 s3s sW.symm (hg3.trans hlE.symm)
     have ex:Ext w' K' m' s'.H (w3.putObj l (rec_ .ready none)) K3 m3 s3.H:=Ext.of_mem hstart Mb hr3
     have Mc:=hst'.mem.trans Mb (bj hn' (mo _ _))
     have hS:St ⟨w1,K1,m,s.next⟩ ⟨ld s'.tmps o.dst (ck true),s3.H,s3.next⟩ (a'.put o.dst (.bool true)) (w3.putObj l (rec_ .ready none)) K3 m3 (kM (.inRegion ops rest::kk) s3.next):=by
      refine((hst'.put o.dst (v:=ck true) (u:=.bool true) (.d _ _ (.v _)) Mc ex).next_ s3.next).weaken (λ q hq=>?_)
      rcases hq with hq|⟨_,_,_,hq,_⟩
      ·show s3.next<=q;omega
      ·show s3.next<=q;omega
     obtain⟨M,g1,g2⟩:=hA3 (rn hok') _ _ _ _ hS bg csg' hbg hbk hbro
     exact⟨M,Steps.trans (.one hs3) (by show Steps P (lone (fr.finish (.bool true)) csg' _) M;rw[hfin];exact g1),g2⟩
    ·rintro kr s3 hj hok3 a3 w3 K3 m3 hst3 b3 cs3 hb3 hk3 hro3
     refine back b3 cs3 a3 w3 _ (λ csg' e=>?_)
     subst e
     have hM3:Mem ⟨w'.putObj l (rec_ .busy none),K',m',N2⟩ w3 K3 m3 s3.H (λ q=>s3.next<=q):=hst3.mem.weaken (λ q hq=>(cg (show noReg _ from hok3) _ _).2 hq)
     have hs3:=stepR_round_ret (P:=P) (a:={ tmps:=a3.tmps,defers:=[] }) (k:=kr) (c:=fr) (cs:=csg') hro3 hk3 (run_endRound (some .ret) (hl3 _ _ _ _ _ _ rfl hM3))
     obtain⟨M,g1,g2⟩:=jumpL .ret s3 a3 w3 K3 m3 csg' hM3 hj
     exact⟨M,Steps.trans (.one hs3) g1,g2⟩
    ·rintro id kr s3 hx hj hok3 a3 w3 K3 m3 hst3 b3 cs3 hb3 hk3 hro3
     refine back b3 cs3 a3 w3 _ (λ csg' e=>?_)
     subst e
     have hM3:Mem ⟨w'.putObj l (rec_ .busy none),K',m',N2⟩ w3 K3 m3 s3.H (λ q=>s3.next<=q):=hst3.mem.weaken (λ q hq=>(cg (show noReg _ from hok3) _ _).2 hq)
     have hs3:=stepR_round_exit (P:=P) (a:={ tmps:=a3.tmps,defers:=[] }) (k:=kr) (c:=fr) (cs:=csg') hro3 hk3 hx (run_endRound (some (.exit id)) (hl3 _ _ _ _ _ _ rfl hM3))
     obtain⟨M,g1,g2⟩:=jumpL (.exit id) s3 a3 w3 K3 m3 csg' hM3 hj
     exact⟨M,Steps.trans (.one hs3) g1,g2⟩
  ·
   have r1:∀ (i:Nat) (z:AV) (v:Value),(fs++.clo (.yield l) [] []::cs)[i]?=some z->(us++#[Value.func (.yield l) #[] #[]]++vs)[i]?=some v->Rel w1 K1 m s.H z v:=by
    have h2:∀ (i:Nat) (z:AV) (v:Value),([AV.clo (.yield l) [] []]++cs)[i]?=some z->(#[Value.func (.yield l) #[] #[]]++vs)[i]?=some v->Rel w1 K1 m s.H z v:=
     xd rfl (λ i z v hz hv=>by
      cases i with
      | zero =>
        have hz:AV.clo (.yield l) [] []=z:=aJ hz
        have hv:Value.func (.yield l) #[] #[]=v:=by simpa using hv
        subst hz;subst hv
        exact .clo _ _ _ _ _ rfl rfl (λ i z v h=>by cases h) (λ i z v h=>by cases h)
      | succ i=>cases hz) (λ i z v hz hv=>(hvr i z v hz hv).ext e1)
    rw[Array.append_assoc]
    exact xd hus (λ i z v hz hv=>(hur i z v hz hv).ext e1) h2
   have hlen:(us++#[Value.func (.yield l) #[] #[]]++vs).size=(fs++.clo (.yield l) [] []::cs).length:=by
    simp[hus,hvs];omega
   refine⟨?_,xd hlen r1 (λ i z v hz hv=>?_),rfl,M1s.weaken (λ q hq=>(cg (λ ops q hm=>by simp at hm) _ _).1 hq)⟩
   ·show((us++#[Value.func (.yield l) #[] #[]]++vs)++Array.replicate (gfn.ntmps-(us++#[Value.func (.yield l) #[] #[]]++vs).size) undef).size=_
    simp[hus,hvs];omega
   ·rw[dq]at hz
    rw[fx]at hv
    split at hz
    ·split at hv
     ·cases hz;cases hv;exact .d _ _ (.v _)
     ·cases hv
    ·cases hz
 intro bfr csr hbf hbk hbro
 have hbf:bfr.fn=f:=hbf
 have hro:bfr.roundOf=none:=hbro
 have he:=run_enterLoop_outer (P:=P) (w:=w) bfr.fn a.tmps ps x b
 rw[hbf]at he
 have he':(Instr.enterLoop bfr.fn a.tmps ps x b bfr.roundOf).run P w=.ok (l,[mark D]) w1:=by rw[hbf,hro];exact he
 have hev0:({ tmps:=a.tmps,defers:=[] }:Act).eval=a.eval:=by funext z;cases z<;>rfl
 have hrs:(resolve ({ tmps:=a.tmps,defers:=[] }:Act).eval (rangeCall g l) 0).run P w1=.ok { target:=.fn (.func gf) vs,args:=us++#[.func (.yield l) #[] #[]] } w1:=by
  rw[hev0]
  show(Deferred.ofValue (a.eval g) (#[Operand.const (.func (.yield l) #[] #[])].map a.eval)).run P w1=_
  have e:(#[Operand.const (.func (.yield l) #[] #[])].map a.eval)=#[Value.func (.yield l) #[] #[]]:=by simp[Act.eval]
  rw[hgv,e]
  rfl
 have hinv:(invoke (.fn (.func gf) vs) (us++#[.func (.yield l) #[] #[]])).run P w1=.ok (.enter gf (us++#[Value.func (.yield l) #[] #[]]++vs)) w1:=by
  simp only[invoke]
  exact Bm hent _ _
 have hs1:=stepR_rangeFunc (P:=P) (b:=bfr) (a:={ tmps:=a.tmps,defers:=[] }) (k:=k) (cs:=csr) he' hrs hinv
 have henter:Frame.enter P gf (us++#[Value.func (.yield l) #[] #[]]++vs) .normal=({ (default:Frame)with fn:=gf,kind:=.normal,roundOf:=none }:Frame).atR afr [.code gc]:=by
  simp[Frame.enter,Frame.atR,hgf,hgc,afr]
 obtain⟨M,h1,v,w3,fr3,⟨_,jump,w4,hend,hruns⟩,rfl,hfn3,hleave⟩:=hinner { (default:Frame)with fn:=gf,kind:=.normal,roundOf:=none } (bfr.atR { tmps:=a.tmps,defers:=[mark D]++[] } (.inRangeFunc l::k)::csr) rfl rfl rfl
 obtain⟨M2,h2,h3⟩:=hruns bfr csr hbf hbk hro
 refine⟨M2,?_,h3⟩
 have t1:=step_leave_returned (c:=bfr.atR { tmps:=a.tmps,defers:=[mark D]++[] } (.inRangeFunc l::k)) (cs:=csr) hleave
 rw[finish_atR_inRangeFunc]at t1
 have t2:=stepR_endRangeFunc (P:=P) (b:=bfr) (a:={ tmps:=a.tmps,defers:=[mark D]++[] }) (k:=k) (cs:=csr) hend
 rw[henter]at hs1
 exact Steps.trans (.one hs1) (Steps.trans h1 (Steps.trans (.one t1) (Steps.trans (.one t2) h2)))
theorem yJ.of_closedR {fn:Func}(hmx:P.follows .mixedOrders=true)(hf:P.funcs[f]?=some fn)(hb:fn.body.isSome=true){args:List Arg}{ts:List Ty}{x:bc ts}(hnt:args.length<=fn.ntmps)
  (h:∀ A,ClosedR P C S fn (aS ts) (·=x) 0 A->A (cB fn) (fB fn args)):yJ P f args ts x:=
 yJ.of_sat hf hb hnt λ E hE hEK hfin=>h _ (EW hmx hf hfin (by omega) hEK)
theorem Gc.of_closedR {fn:Func}(hmx:P.follows .mixedOrders=true)(hf:P.funcs[f]?=some fn)(hb:fn.body.isSome=true){as:List AV}{H0:Heap}{n0:Nat}{r:yD}
  (hrow:∀ i T t xs,i<n0->r.H.get i=some (.row T t xs)->∃ ys,H0.get i=some (.row T t ys)/\ys.length=xs.length)
  (h:∀ A,ClosedR P C S fn (eW n0) (λ r'=>yD.Le r' r) n0 A->A (cB fn) (gU fn as H0 n0)):Gc P f as H0 n0 r:=by
 refine⟨hrow,λ w K m vs hM hvs hrel=>?_⟩
 obtain⟨c,hc⟩:=bM.1 hb
 have hbody:cB fn=[.code c]:=by simp[cB,hc]
 refine lQ hf hc ?_
 have h1:=h _ (EW (E:=⟨w,K,m,n0⟩) hmx hf (Ov (E:=⟨w,K,m,n0⟩) r) (aI n0) hM.Klt)
 rw[hbody]at h1
 refine h1 (λ ops l hm=>by simp at hm) _ w K m ⟨by simp[gU,hvs],λ i y v hy hv=>?_,rfl,hM⟩
 simp only[gU]at hy ⊢
 rw[bv]at hy
 rw[dR,hvs]at hv
 split at hy
 ·rename_i hi
  rw[aE hi]at hv
  exact hrel i y v hy hv
 ·rename_i hi
  rw[aF hi]at hv
  rw[dq]at hy
  rw[fx]at hv
  by_cases hc2:i-as.length<fn.ntmps-as.length
  ·rw[aE hc2]at hy hv
   simp only[ag]at hy hv;subst hy;subst hv;exact .d _ _ (.v _)
  ·rw[aF hc2]at hy;cases hy
end Go.VL
namespace Go.VL
open Go.ChangeShapes Go.WideShapes
inductive Kd where
 | i (k:IntKind)
 | b
 | s
 | f
 | sl (t:Ty)
  deriving DecidableEq
def D.kd:D->Option Kd
 | .v (.int k _)=>some (.i k)
 | .v (.bool _)=>some .b
 | .v (.string _)=>some .s
 | .f _=>some .f
 | .sl t _=>some (.sl t)
 | _=>none
def Ty.kd (t:Ty):List (Option Kd):=(enc t t.dflt).map D.kd
inductive D.Wf:D->Prop
 | int (k:IntKind) (n:Int) (h:(Lit.int k n).wf=true):D.Wf (.v (.int k n))
 | bool (b:Bool):D.Wf (.v (.bool b))
 | str (b:ByteArray) (h:b.size<=maxLen):D.Wf (.v (.string b))
 | zQ (b:Nat) (h:(Lit.float .f64 b).wf=true):D.Wf (.f (some b))
 | sl (t:Ty) (xs:List t.ty) (hl:xs.length<=maxLen) (h:∀ x∈xs,∀ d∈enc t x,D.Wf d):D.Wf (.sl t xs)
def wfT (t:Ty)(x:t.ty):Prop:=∀ d∈enc t x,D.Wf d
theorem Qb {d:D}{k:IntKind}(h:d.kd=some (.i k)):∃ n,d=.v (.int k n):=by
 unfold D.kd at h;split at h<;>simp at h;subst h;exact⟨_,rfl⟩
theorem Ng {d:D}(h:d.kd=some .b):∃ n,d=.v (.bool n):=by
 unfold D.kd at h;split at h<;>simp at h;exact⟨_,rfl⟩
theorem Qa {d:D}(h:d.kd=some .s):∃ n,d=.v (.string n):=by
 unfold D.kd at h;split at h<;>simp at h;exact⟨_,rfl⟩
theorem Qc {d:D}(h:d.kd=some .f):∃ n,d=.f n:=by
 unfold D.kd at h;split at h<;>simp at h;exact⟨_,rfl⟩
theorem SJ {d:D}{t:Ty}(h:d.kd=some (.sl t)):∃ xs,d=.sl t xs:=by
 unfold D.kd at h;split at h<;>simp at h;subst h;exact⟨_,rfl⟩
theorem wy {t:Ty}{ds:List D}(h:ds.map D.kd=t.kd):∃ x:t.ty,enc t x=ds:=by
 cases t<;>simp only[Ty.kd,enc,Ty.dflt,bn,dD,List.map_eq_cons_iff,List.map_eq_nil_iff,D.kd]at h <;>
  repeat' (first
   | (obtain⟨_,_,rfl,hk,h⟩:=h;obtain⟨_,rfl⟩:=Qb hk;clear hk)
   | (obtain⟨_,_,rfl,hk,h⟩:=h;obtain⟨_,rfl⟩:=Qc hk;clear hk)
   | (obtain⟨_,_,rfl,hk,h⟩:=h;obtain⟨_,rfl⟩:=SJ hk;clear hk)
   | (obtain⟨_,_,rfl,hk,h⟩:=h;obtain⟨_,rfl⟩:=Ng hk;clear hk)
   | (obtain⟨_,_,rfl,hk,h⟩:=h;obtain⟨_,rfl⟩:=Qa hk;clear hk)
   | (subst h))
 all_goals first
  | exact⟨_,rfl⟩
  | exact⟨⟨_,_⟩,rfl⟩
  | exact⟨⟨_,_,_⟩,rfl⟩
  | exact⟨⟨_,_,_,_⟩,rfl⟩
  | exact⟨⟨_,_,_,_,_⟩,rfl⟩
  | exact⟨⟨_,_,_,_,_,_⟩,rfl⟩
  | exact⟨⟨_,_,_,_,_,_,_⟩,rfl⟩
  | exact⟨⟨⟨_,_,_,_⟩,⟨_,_,_,_,_,_⟩,_⟩,rfl⟩
  | exact⟨⟨_,⟨_,_,_,_,_,_⟩⟩,rfl⟩
  | exact⟨⟨_,⟨_,_,_,_,_,_⟩,⟨_,_,_,_,_⟩,_,_⟩,rfl⟩
  | exact⟨⟨_,_,_,⟨_,_,_,_,_,_⟩,_,_,⟨_,_,_,_,_⟩,_,_⟩,rfl⟩
  | exact⟨⟨⟨⟨_,_,_,_⟩,⟨_,_,_,_,_,_⟩,_⟩,_,_,_,_⟩,rfl⟩
def goK (P:Program)(k:TypeId->Option (List (Option Kd))):List Field->Nat->Option (List (Option Kd))
 | [],_=>some []
 | f::fs,off=>(k f.type).bind λ ks=>bif f.offset==off&&ks.length==P.cellsOf f.type then(goK P k fs (off+ks.length)).map λ r=>ks++r else none
def jG (P:Program)(C:cd):Nat->TypeId->Option (List (Option Kd))
 | 0,_=>none
 | n + 1, t => match P.underlying t with
   | some .bool=>some [some .b]
   | some (.int k)=>some [some (.i k)]
   | some (.float .f64)=>some [some .f]
   | some .string=>some [some .s]
   | some (.slice e)=>(C e).bind λ te=>bif P.cellsOf e==te.size&&(jG P C n e==some te.kd)then some [some (.sl te)]else none
   | some (.struct fs)=>(goK P (jG P C n) fs.toList 0).bind λ ks=>bif ks.length==P.cellsOf t then some ks else none
   | _=>none
section
variable {H:Type} {en:TypeId×Value->H} {P:Program} {C:cd} {w:World} {base:Nat} {spare:Nat->Bool} {held:Bool}
structure RdC (w:World) (cs:List Value) (ks:List (Option Kd)) (ds:List D):Prop where
 kd:ds.map D.kd=ks
 len:cs.length=ds.length
 rel:∀ (j:Nat) (d:D) (v:Value),ds[j]?=some d->cs[j]?=some v->RelD w (λ b=>b<w.heap.size) d v
 wf:∀ d∈ds,D.Wf d
theorem RdC.app {cs cs':List Value}{ks ks':List (Option Kd)}{ds ds':List D}(h:RdC w cs ks ds)(h':RdC w cs' ks' ds'):RdC w (cs++cs') (ks++ks') (ds++ds') where
 kd:=by rw[bT,h.kd,h'.kd]
 len:=by simp[h.len,h'.len]
 rel j d v hd hv:=by
  rw[bv]at hd hv
  rw[h.len]at hv
  split at hd
  ·rename_i hj;rw[aE hj]at hv;exact h.rel j d v hd hv
  ·rename_i hj;rw[aF hj]at hv;exact h'.rel _ d v hd hv
 wf d hd:=by
  rcases az.1 hd with hd|hd
  ·exact h.wf d hd
  ·exact h'.wf d hd
theorem RdC.one {v:Value}{d:D}{k:Option Kd}(hk:d.kd=k)(hr:RelD w (λ b=>b<w.heap.size) d v)(hw:D.Wf d):RdC w [v] [k] [d] where
 kd:=by simp[hk]
 len:=rfl
 rel j d' v' hd hv:=by
  cases j with
  | zero=>simp at hd hv;subst hd;subst hv;exact hr
  | succ j=>simp at hd
 wf d' hd:=by simp at hd;subst hd;exact hw
theorem qX {a:Addr}{n:Nat}{cs:List Value}(h:w.cells? base a n=some cs)(hn:0<n):a.spot=none/\a.block<w.heap.size:=by
 obtain⟨_,hl,hc⟩:=World.cells?_some h
 have h0:=hc 0 hn
 have h1:cs[0]?=some cs[0]:=ai (by omega)
 rw[h1]at h0
 have h0:w.cell? a=some cs[0]:=by simpa[Addr.add]using h0
 refine⟨World.cell?_spot h0,?_⟩
 unfold World.cell? at h0
 split at h0
 ·rename_i hb
  rcases ax a.block w.heap.size with h2|h2
  ·exact h2
  ·rw[bZ h2]at hb;cases hb
 ·cases h0
theorem HU {fuel:Nat}{t:TypeId}{cs:List Value}{x:DataW H×List MemPlace}(ht:P.underlying t=some (.float .f64))(h:DataW.trod en P w base spare held fuel t cs=some x) :
  ∃ b,cs=[.float .f64 b]/\x=(.lit (.float .f64 b),[])/\(Lit.float .f64 b).wf=true:=by
 cases fuel with
 | zero=>simp[DataW.trod]at h
 | succ n =>
   unfold DataW.trod at h
   rw[ht]at h
   split at h<;>simp_all
theorem read:∀ (fuel n:Nat) (t:TypeId) (cs:List Value) (x:DataW H×List MemPlace) (ks:List (Option Kd)),
  DataW.trod en P w base spare held fuel t cs=some x->jG P C n t=some ks->∃ ds,RdC w cs ks ds
 | fuel,0,t,cs,x,ks,_,hk=>by simp[jG]at hk
 | fuel, n + 1, t, cs, x, ks, h, hk => by
   unfold jG at hk
   split at hk
   ·rename_i ht
    simp only[ag]at hk;subst hk
    obtain⟨b,rfl,_⟩:=DataW.trod_bool ht h
    exact⟨[.v (.bool b)],.one rfl (.v _) (.bool b)⟩
   ·rename_i k ht
    simp only[ag]at hk;subst hk
    obtain⟨b,rfl,_,hw⟩:=DataW.trod_int ht h
    exact⟨[.v (.int k b)],.one rfl (.v _) (.int k b hw)⟩
   ·rename_i ht
    simp only[ag]at hk;subst hk
    obtain⟨b,rfl,_,hw⟩:=HU ht h
    exact⟨[.f (some b)],.one rfl (.f _ _ rfl) (.zQ b hw)⟩
   ·rename_i ht
    simp only[ag]at hk;subst hk
    obtain⟨b,rfl,_,hw⟩:=DataW.trod_string ht h
    exact⟨[.v (.string b)],.one rfl (.v _) (.str b hw)⟩
   ·rename_i e ht
    simp only[aa]at hk
    obtain⟨te,hC,hk⟩:=hk
    cases hc:(P.cellsOf e==te.size&&(jG P C n e==some te.kd))with
    | false=>rw[hc]at hk;cases hk
    | true =>
      rw[hc]at hk
      simp only[aG,ag]at hk;subst hk
      obtain⟨hsz,hke⟩:=ca.1 hc
      have hsz:P.cellsOf e=te.size:=by simpa using hsz
      have hke:jG P C n e=some te.kd:=by simpa using hke
      rcases DataW.trod_slice ht h with⟨rfl,_⟩|⟨a,len,cap,elems,rest,m,_,rfl,_,hb,hl,hm,hlen,hel,_,_⟩
      ·exact⟨[.sl te []],.one rfl (.sl0 te none 0) (.sl te [] (bK _) (λ x hx=>by cases hx))⟩
      ·have pos:=zl te
       have each:∀ i,i<len->∃ (y:te.ty) (c:List Value),w.cells? base (a.add (i*te.size)) te.size=some c/\RdC w c te.kd (enc te y):=by
        intro i hi
        have h1:=hel i hi
        rw[ai (by omega:i<elems.length)]at h1
        simp only[hsz,aa]at h1
        obtain⟨c,h1,h2⟩:=h1
        obtain⟨ds,h3⟩:=read m n e c _ _ h2 hke
        obtain⟨y,rfl⟩:=wy h3.kd
        exact⟨y,c,h1,h3⟩
       by_cases h0:len=0
       ·subst h0
        exact⟨[.sl te []],.one rfl (.sl0 te (some a) cap) (.sl te [] (bK _) (λ x hx=>by cases hx))⟩
       ·have hch:∃ f:Nat->te.ty,∀ i,i<len->∃ c:List Value,w.cells? base (a.add (i*te.size)) te.size=some c/\RdC w c te.kd (enc te (f i)):=by
         refine⟨λ i=>if hi:i<len then(each i hi).choose else te.dflt,λ i hi=>?_⟩
         simp only[kn hi]
         exact(each i hi).choose_spec
        obtain⟨f,hf⟩:=hch
        obtain⟨c0,hc0,_⟩:=hf 0 (by omega)
        obtain⟨hs,hbl⟩:=qX hc0 pos
        have e0:a.add (0*te.size)=a:=by simp[Addr.add]
        rw[e0]at hs hbl
        obtain⟨ab,ao,asp⟩:=a
        simp only at hs hbl;subst hs
        have add_pl:∀ k:Nat,(⟨ab,ao,none⟩:Addr).add k=⟨ab,ao+k,none⟩:=λ k=>by
         unfold Addr.add;split<;>simp_all
        have cell:∀ i j,i<len->j<te.size->∀ d,(enc te (f i))[j]?=some d->∃ v,w.cell? ⟨ab,ao+(i*te.size+j),none⟩=some v/\RelD w (λ b=>b<w.heap.size) d v:=by
         intro i j hi hj d hd
         obtain⟨c,h1,h2⟩:=hf i hi
         obtain⟨_,h3,h4⟩:=World.cells?_some h1
         have h5:=h4 j hj
         have hjc:c[j]?=some (c[j]'(by omega)):=ai (by omega)
         rw[hjc,add_pl]at h5
         have:(⟨ab,ao+i*te.size,none⟩:Addr).add j=⟨ab,ao+(i*te.size+j),none⟩:=by
          unfold Addr.add;split<;>simp_all [lR]
         rw[this]at h5
         exact⟨_,h5,h2.rel j d _ hd hjc⟩
        have hget:∀ i x,((List.range len).map f)[i]?=some x->i<len/\x=f i:=by
         intro i x hx
         simp only[aQ,ac]at hx
         obtain⟨k,hk,rfl⟩:=hx
         have:i<len:=by
          rcases ax i len with h|h
          ·exact h
          ·rw[aw (by simpa using h)]at hk;cases hk
         rw[kf this]at hk
         cases hk
         exact⟨this,rfl⟩
        have hxl:((List.range len).map f).length=len:=by simp
        have hjs:∀ (y:te.ty) (j:Nat) (d:D),(enc te y)[j]?=some d->j<te.size:=by
         intro y j d hd
         rcases ax j (enc te y).length with h|h
         ·rwa [bY]at h
         ·rw[aw h]at hd;cases hd
        refine⟨[.sl te ((List.range len).map f)],.one rfl ?_ (.sl te _ (by rw[hxl];omega) ?_)⟩
        ·have hrel:RelD w (λ b=>b<w.heap.size) (.sl te ((List.range len).map f)) (.slice (some ⟨ab,ao,none⟩) ((List.range len).map f).length cap):=by
          refine .sl te _ ab ao cap (λ i j=>if h:i<len then((enc te (f i))[j]?).elim (.bool true) (λ d=>((w.cell? ⟨ab,ao+(i*te.size+j),none⟩).getD (.bool true)))else .bool true) hbl (by rw[hxl];exact hl) ?_ ?_
          ·intro i x j d hx hd
           obtain⟨hi,rfl⟩:=hget i x hx
           obtain⟨v,h1,_⟩:=cell i j hi (hjs _ _ _ hd) d hd
           rw[kn hi,hd,h1];rfl
          ·intro i x j d hx hd
           obtain⟨hi,rfl⟩:=hget i x hx
           obtain⟨v,h1,h2⟩:=cell i j hi (hjs _ _ _ hd) d hd
           rw[kn hi,hd,h1];exact h2
         rw[hxl]at hrel
         exact hrel
        ·intro x hx d hd
         obtain⟨i,hi0⟩:=List.getElem?_of_mem hx
         obtain⟨hi,rfl⟩:=hget i x hi0
         obtain⟨_,_,h2⟩:=hf i hi
         exact h2.wf d hd
   ·rename_i fs ht
    simp only[aa]at hk
    obtain⟨kk,hgo,hk⟩:=hk
    cases hc:(kk.length==P.cellsOf t)with
    | false=>rw[hc]at hk;cases hk
    | true =>
      rw[hc]at hk
      simp only[aG,ag]at hk;subst hk
      have hc:kk.length=P.cellsOf t:=by simpa using hc
      obtain⟨xs,m,_,_,hcl,_,hfs⟩:=DataW.trod_struct ht h
      have fields:∀ (l:List Field) (off:Nat) (ks:List (Option Kd)),goK P (jG P C n) l off=some ks->(∀ f∈l,∃ y,DataW.trod en P w base spare held m f.type ((cs.drop f.offset).take (P.cellsOf f.type))=some y) ->
        off+ks.length<=cs.length->∃ ds,RdC w ((cs.drop off).take ks.length) ks ds:=by
       intro l
       induction l with
       | nil =>
         intro off ks hg _ _
         simp only[goK,ag]at hg;subst hg
         exact⟨[],⟨rfl,by simp,λ j d v hd=>by simp at hd,λ d hd=>by cases hd⟩⟩
       | cons f l ih =>
         intro off ks hg hall hle
         simp only[goK,aa]at hg
         obtain⟨k1,hk1,hg⟩:=hg
         cases hq:(f.offset==off&&k1.length==P.cellsOf f.type)with
         | false=>rw[hq]at hg;cases hg
         | true =>
           rw[hq]at hg
           simp only[aG,ac]at hg
           obtain⟨r,hr,rfl⟩:=hg
           obtain⟨q1,q2⟩:=ca.1 hq
           have q1:f.offset=off:=by simpa using q1
           have q2:k1.length=P.cellsOf f.type:=by simpa using q2
           obtain⟨y,hy⟩:=hall f (by simp)
           rw[q1,<-q2]at hy
           obtain⟨d1,h1⟩:=read m n f.type _ _ _ hy hk1
           obtain⟨d2,h2⟩:=ih (off+k1.length) r hr (λ f hf=>hall f (by simp[hf])) (by simp only[al]at hle;omega)
           refine⟨d1++d2,?_⟩
           have:=h1.app h2
           have e:(cs.drop off).take (k1++r).length=(cs.drop off).take k1.length++(cs.drop (off+k1.length)).take r.length:=by
            rw[al,List.take_add,kW]
           rw[e];exact this
      obtain⟨ds,hds⟩:=fields fs.toList 0 kk hgo (λ f hf=>by
       obtain⟨i,hi⟩:=List.getElem?_of_mem hf
       have h1:=hfs i f (by simpa using hi)
       rcases hx:xs[i]? with _|y
       ·have:i<fs.size:=by
         rcases ax i fs.toList.length with h|h
         ·simpa using h
         ·rw[aw h]at hi;cases hi
        rw[List.getElem?_eq_none_iff]at hx;omega
       ·exact⟨y,by rw[h1,hx]⟩) (by omega)
      refine⟨ds,?_⟩
      rw[hc,<-hcl]at hds
      simpa using hds
   ·cases hk
theorem readArg {n:Nat}{te:Ty}{t:TypeId}{v:Value}{d:DataW H}{ps:List MemPlace}{r:Reach}{b0:Nat}(hk:jG P C n t=some te.kd)
  (hs:te.flat = !(match P.underlying t with|some (.struct _)=>true|_=>false)) (hv:Value.okWide P w r b0 t v) (h:DataW.Trod en P w base spare held t v d ps) :
  ∃ x:te.ty,gj w (λ b=>b<w.heap.size) (AV.ofTy te x) v/\wfT te x:=by
 obtain⟨fuel,h⟩:=h
 obtain⟨ds,hr⟩:=read fuel n t _ _ _ h hk
 obtain⟨x,rfl⟩:=wy hr.kd
 refine⟨x,?_,hr.wf⟩
 unfold AV.ofTy
 cases hf:te.flat with
 | false =>
   rw[hf]at hs
   have:∃ fs,P.underlying t=some (.struct fs):=by
    split at hs
    ·rename_i fs h;exact⟨fs,h⟩
    ·cases hs
   obtain⟨fs,hu⟩:=this
   obtain⟨cs,rfl,hcs⟩:=okWide_struct hu hv
   have hlen:=hr.len
   simp only[Value.cells,bl]at hlen
   refine .agg _ _ (by simpa using hlen) (λ i a u ha hu'=>?_)
   simp only[aQ,ac]at ha
   obtain⟨d0,hd0,rfl⟩:=ha
   exact .d _ _ (hr.rel i d0 u hd0 (by simpa[Value.cells]using hu'))
 | true =>
   have hlen:(enc te x).length=1:=by rw[bY];cases te<;>first|rfl|cases hf
   obtain⟨d0,hd0⟩:∃ d0,enc te x=[d0]:=by
    match hq:enc te x,hlen with
    | [d0],_=>exact⟨d0,rfl⟩
   rw[hd0]
   rw[hf]at hs
   have hcv:v.cells=#[v]:=by
    have:∀ cs,v≠.agg cs:=by
     intro cs hcs
     subst hcs
     unfold jG at hk
     cases n with
     | zero=>simp at hk
     | succ n =>
       simp only at hk
       split at hk
       ·rename_i hu;obtain⟨b,hb⟩:=okWide_bool hu hv;cases hb
       ·rename_i hu;obtain⟨b,hb⟩:=okWide_int hu hv;cases hb
       ·rename_i hu
        simp only[Value.okWide,hu,Cell.okWide]at hv
        simp_all [Cell.ok]
       ·rename_i hu;obtain⟨b,hb⟩:=okWide_string hu hv;cases hb
       ·rename_i hu;obtain⟨_,_,_,hb⟩:=okWide_slice hu hv;cases hb
       ·rename_i hu;rw[hu]at hs;cases hs
       ·cases hk
    unfold Value.cells
    split
    ·rename_i cs;exact absurd rfl (this cs)
    ·rfl
   refine .d _ _ (hr.rel 0 d0 v (by rw[hd0];rfl) (by rw[hcv];rfl))
theorem law_calls {f:FuncId}{args:List Arg}(h:yJ P f args [.bool] true){W:World}{vs:Array Value}(hg:GOk W λ b=>b<W.heap.size)(hn:vs.size=args.length)
  (hr:∀ (i:Nat) (a:Arg) (v:Value),args[i]?=some a->vs[i]?=some v->gj W (λ b=>b<W.heap.size) (AV.ofTy a.1 a.2) v) :
  Calls P f vs W λ e w'=>e=.returned (.bool true)/\Go.RowKit.Below W.heap.size W w':=by
 refine(h W (λ b=>b<W.heap.size) vs (λ b hb=>hb) hg hn hr).mono ?_
 rintro e w' ⟨v,K',rfl,hrel,_,_,_,hb⟩
 refine⟨?_,hb⟩
 cases hrel with
 | d _ _ h=>cases h;rfl
end
end Go.VL
namespace Go.VL
theorem ae {α:Type}{P:Program}{A:List Item->AS->Prop}{R0:α->Prop}{b:Bool}{S T:Out α}(h1:b=true->Sat P A R0 S)(h0:b=false->Sat P A R0 T):Sat P A R0 (bif b then S else T):=by
 cases b
 ·exact h0 rfl
 ·exact h1 rfl
theorem cZ {α:Type}{P:Program}{A:List Item->AS->Prop}{x y:α}{b:Bool}{S T:Out α}(h1:b=true->Sat P A (λ z=>z=x) S)(h0:b=false->Sat P A (λ z=>z=y) T):Sat P A (λ z=>z=bif b then x else y) (bif b then S else T):=by
 cases b
 ·exact h0 rfl
 ·exact h1 rfl
theorem ClosedR.at {α:Type}{P:Program}{C:cd}{S:fw}{fn:Func}{fin:Fin α}{R0:α->Prop}{n0:Nat}{A:List Item->AS->Prop}(hA:ClosedR P C S fn fin R0 n0 A)(todo:List Item)(s:AS)(gf:FuncId)(gfn:Func)(gc:Code)(fs cs:List AV)
  (hrf:SK todo=true) (hev:s.ev (rfG todo)=.clo (.func gf) fs cs) (hgf:P.funcs[gf]?=some gfn) (hgc:gfn.body=some gc) (hent:gh P gf=true) (hres:gfn.results=#[]) (hn:n0<=s.next)
  (h:∀ l A',ClG P C S gfn fn s.next l s.H (rfP todo) (rfA todo) (rfB todo) s.tmps (λ H n=>RowsLe s.next s.H H/\∀ A2,yP P C S fn fin R0 s.next A2->A2 (rfK todo) ⟨s.tmps,H,n⟩)
   (λ j H n=>RowsLe s.next s.H H/\∀ A2,yP P C S fn fin R0 s.next A2->A2 (.code j::rfK todo) ⟨s.tmps,H,n⟩) A' ->
   A' (cB gfn) ⟨fs++.clo (.yield l) [] []::cs++List.replicate (gfn.ntmps-(fs.length+1+cs.length)) (.d (.v undef)),s.H,s.next⟩):A todo s:=by
 unfold SK at hrf
 split at hrf
 ·rename_i g ps x b k
  have hb:cB gfn=[.code gc]:=by simp[cB,hgc]
  rw[hb]at h
  exact hA.range g ps x b k s gf gfn gc fs cs hev hgf hgc hent hres hn h
 ·cases hrf
def nU:List Item->Array Oper | .inRegion ops _::_=>ops|_=>#[]
def inIx:List Item->Nat | .inRegion _ (i::_)::_=>i|_=>0
def nV:List Item->List Item | .inRegion ops (_::r)::k=>.inRegion ops r::k|_=>[]
def Kj:List Item->Bool | .inRegion _ (_::_)::_=>true|_=>false
def MJ (t:List Item):Option Oper:=(nU t)[inIx t]?
def yj (o:Oper):Option (Operand×Array Operand):=match o.op with
 | .call { callee:=.value y,args,.. }=>some (y,args)
 | _=>none
theorem ClG.at {P:Program}{C:cd}{S:fw}{gfn fn:Func}{n1 l:Nat}{H0:Heap}{ps:Array Tmp}{x b:Code}{tmps:List AV}{done:Heap->Nat->Prop}{doneJ:Code->Heap->Nat->Prop}{A:List Item->AS->Prop}
  (hA:ClG P C S gfn fn n1 l H0 ps x b tmps done doneJ A) (todo:List Item) (s:AS) (o:Oper) (y:Operand) (args:Array Operand) (hin:Kj todo=true) (ho:MJ todo=some o) (hg:oc (nU todo) o s=true) (hc:yj o=some (y,args))
  (hev:s.ev y=.clo (.yield l) [] []) (hsz:args.size=ps.size) (hr:RowsLe n1 H0 s.H) (hn:n1<=s.next)
  (h:∀ Ar,ClB P C S fn (s.next+8*(nU todo).size) (λ s2=>RowsLe (s.next+8*(nU todo).size) s.H s2.H/\A (nV todo) ⟨ld s.tmps o.dst (ck true),s2.H,s2.next⟩)
   (λ j s2=>RowsLe (s.next+8*(nU todo).size) s.H s2.H/\∀ Ad,ClD P C S gfn n1 (doneJ j) Ad->Ad (nV todo) ⟨ld s.tmps o.dst (ck false),s2.H,s2.next⟩) Ar ->
   Ar [.code x,.beginRound,.code b] ⟨pG tmps ps.toList (args.toList.map s.ev),s.H,s.next+8*(nU todo).size⟩):A todo s:=by
 unfold Kj at hin
 split at hin
 ·rename_i ops i rest kk
  unfold yj at hc
  split at hc
  ·rename_i y' args' ats hop
   cases hc
   exact hA.yield ops i rest kk s o _ y ho hg hop rfl hev hsz hr hn h
  ·cases hc
 ·cases hin
theorem nt {b:Bool}(h:(!b)=true):b=false:=by cases b<;>simp_all
theorem nf {b:Bool}(h:(!b)=false):b=true:=by cases b<;>simp_all
theorem yJ.eq {P:Program}{f:FuncId}{args:List Arg}{ts:List Ty}{x y:bc ts}(h:yJ P f args ts x)(e:x=y):yJ P f args ts y:=e ▸ h
theorem an {n:Int}(h1 : -9223372036854775808<=n)(h2:n<9223372036854775808):w64 n=n:=by
 unfold w64 IntKind.wrap
 have e:(2^IntKind.i64.bits:Int)=18446744073709551616:=rfl
 have e2:(2^(IntKind.i64.bits-1):Int)=9223372036854775808:=rfl
 have e3:IntKind.i64.signed=true:=rfl
 simp only[e,e2,e3,cn]
 rcases Int.lt_or_le n 0 with h|h
 ·have:n%18446744073709551616=n+18446744073709551616:=by omega
  rw[this,aE (by simpa using by omega)];omega
 ·have:n%18446744073709551616=n:=lF h (by omega)
  rw[this,aF (by simpa using by omega)]
theorem lS (n:Int):IntKind.u64.wrap n=n%18446744073709551616:=by
 unfold IntKind.wrap
 have e:(2^IntKind.u64.bits:Int)=18446744073709551616:=rfl
 have e3:IntKind.u64.signed=false:=rfl
 simp only[e,e3,Bool.false_and];rfl
theorem aq {n:Nat}(h:n<9223372036854775807):w64 ((n:Int)+1)=((n+1:Nat):Int):=by
 rw[an (by omega) (by omega)];rfl
abbrev T3':True/\True/\True:=⟨trivial,trivial,trivial⟩
theorem cH {α:Type}{l:List α}{k:Nat}{d:α}(h:k<l.length):l.getD k d=l[k]:=by simp[List.getD,h]
theorem aY {α:Type}{l:List α}{k:Nat}{d:α}(h:k<l.length):l.getD ((k:Int).toNat) d=l[k]:=by rw[au];exact cH h
abbrev i64 (n:Int):AV:=.d (.v (.int .i64 n))
abbrev u64 (n:Int):AV:=.d (.v (.int .u64 n))
abbrev cD (n:Int):Prop := -9223372036854775808<=n/\n<9223372036854775808
theorem aj {α β:Type}{P:Program}{A:List Item->AS->Prop}{R0:α->Prop}{b:Bool}{x y r:β}{S T:Out α}(h:(bif b then x else y)=r)(h1:b=true->x=r->Sat P A R0 S)(h0:b=false->y=r->Sat P A R0 T) :
  Sat P A R0 (bif b then S else T):=by
 cases b
 ·exact h0 rfl h
 ·exact h1 rfl h
theorem be {α:Type}{l:List α}{i:Nat}(h:i<l.length)(d:α):l.drop i=l.getD (Int.toNat (i:Int)) d::l.drop (i+1):=by
 rw[au,List.drop_eq_getElem_cons h,cH h]
end Go.VL
