/- Own work: part WB of the proof. -/
import Derived.Test.YteaiflgcgpaclaaGreatDoorWA
import Derived.ChangeKeysEq
import Derived.MapKept
import Derived.Laws.MakeOwn
import Derived.AtR
set_option linter.unusedVariables false
set_option linter.unusedSimpArgs false
namespace Go.VL
variable {P:Program} {C:cd} {E:Entry} {w:World} {K:Nat->Prop} {m:Nat->Option (Option Nat)} {H:Heap} {free:Nat->Prop} {nm:Nat} {o:Oper}
 {ρ:Operand->Value} {ρA:Operand->AV} {e:Eff}
theorem rI {d:Nat}(w:World):∀ (fs:List Field) (i:Nat) (xs ys:List AV) (r:Bool) (us vs:Array Value),vb.eqFs P i fs xs=true->eU xs ys=some r ->
  (∀ (j:Nat) (a:AV) ,xs[j]?=some a->∃ u,us[i+j]?=some u/\Rel w K m H a u)->(∀ (j:Nat) (a:AV) ,ys[j]?=some a->∃ u,vs[i+j]?=some u/\Rel w K m H a u) ->
  (Op.eqFields (d+1) us vs fs).run P w=.ok r w
 | [], i, xs, ys, r, us, vs, hf, hc, hx, hy => by
   cases xs with
   | cons=>simp[vb.eqFs]at hf
   | nil=>
   cases ys with
   | nil=>simp only[eU,ag]at hc;subst hc;rfl
   | cons=>simp[eU]at hc
 | f :: fs, i, xs, ys, r, us, vs, hf, hc, hx, hy => by
   cases xs with
   | nil=>simp[vb.eqFs]at hf
   | cons a xs=>
   cases ys with
   | nil=>unfold eU at hc;split at hc<;>simp_all
   | cons b ys=>
   simp only[vb.eqFs,aO,bD,cK]at hf
   obtain⟨⟨⟨hoff,hname⟩,hty⟩,hf⟩:=hf
   obtain⟨u,hu,hur⟩:=hx 0 a (by simp)
   obtain⟨v,hv,hvr⟩:=hy 0 b (by simp)
   simp only[fh]at hu hv
   have hx':∀ (j:Nat) (a:AV),xs[j]?=some a->∃ u,us[i+1+j]?=some u/\Rel w K m H a u:=λ j a ha=>by
    obtain⟨u,hu,hr⟩:=hx (j+1) a (by simpa using ha)
    exact⟨u,by rw[<-hu];congr 1;omega,hr⟩
   have hy':∀ (j:Nat) (a:AV),ys[j]?=some a->∃ u,vs[i+1+j]?=some u/\Rel w K m H a u:=λ j a ha=>by
    obtain⟨u,hu,hr⟩:=hy (j+1) a (by simpa using ha)
    exact⟨u,by rw[<-hu];congr 1;omega,hr⟩
   obtain⟨D,hD,hDk⟩:∃ D,P.underlying f.type=some D/\(((∃ k,D=.int k)/\∃ k x,a=.d (.v (.int k x)))\/(D=.bool/\∃ x,a=.d (.v (.bool x)))):=by
    split at hty
    ·rename_i hD;exact⟨_,hD,.inl ⟨⟨_,rfl⟩,_,_,rfl⟩⟩
    ·rename_i hD;exact⟨_,hD,.inr ⟨rfl,_,rfl⟩⟩
    ·cases hty
   have hna:pn D=false:=by rcases hDk with⟨⟨k,rfl⟩,_⟩|⟨rfl,_⟩<;>rfl
   have hpu:(part f.type us f.offset).run P w=.ok u w:=by
    unfold part
    simp[Sem.run_bind,eY hD hna,hoff,hu]
   have hpv:(part f.type vs f.offset).run P w=.ok v w:=by
    unfold part
    simp[Sem.run_bind,eY hD hna,hoff,hv]
   have step:∀ (q r':Bool),(Op.equalIn (d+1) f.type u v).run P w=.ok q w->eU xs ys=some r'->r=(q&&r')->(Op.eqFields (d+1) us vs (f::fs)).run P w=.ok r w:=by
    intro q r' hq hr' hr
    have ih:=rI (d:=d) w fs (i+1) xs ys r' us vs hf hr' hx' hy'
    simp only[Op.eqFields,ne_eq,hname,lA,mU,Sem.run_bind,hpu,hpv,hq,Result.andThen_ok]
    cases q
    ·simp[hr]
    ·simp[hr,ih]
   unfold eU at hc
   split at hc
   ·rename_i h1 h2;cases h1
   ·rename_i k x xs' k' y ys' h1 h2
    cases h1;cases h2
    split at hc
    ·rename_i hk;subst hk
     simp only[ac]at hc
     obtain⟨r',hr',rfl⟩:=hc
     have e1:=cw hur
     have e2:=cw hvr
     subst e1;subst e2
     rcases hDk with⟨⟨k2,rfl⟩,_⟩|⟨_,_,h⟩
     ·exact step (x==y) r' (by simp[Op.equalIn,run_underlying hD]) hr' rfl
     ·cases h
    ·cases hc
   ·rename_i x xs' y ys' h1 h2
    cases h1;cases h2
    simp only[ac]at hc
    obtain⟨r',hr',rfl⟩:=hc
    have e1:=cw hur
    have e2:=cw hvr
    subst e1;subst e2
    rcases hDk with⟨_,_,_,h⟩|⟨rfl,_⟩
    ·cases h
    ·exact step (x==y) r' (by simp[Op.equalIn,run_underlying hD]) hr' rfl
   ·cases hc
theorem lz {cs:List AV}{vs:Array Value}(hl:vs.size=cs.length)(h:∀ (i:Nat) (a:AV) (v:Value),cs[i]?=some a->vs[i]?=some v->Rel w K m H a v) :
  ∀ (j:Nat) (a:AV),cs[j]?=some a->∃ u,vs[0+j]?=some u/\Rel w K m H a u:=by
 intro j a ha
 have hlt:j<vs.size:=by rw[hl];exact(am.1 ha).1
 exact⟨vs[j],by simp[hlt],h j a _ ha (by simp[hlt])⟩
theorem Ba {k:IntKind}{n:Int}{xs:List AV}{b:AV}{ys:List AV}{r:Bool}(h:eU (.d (.v (.int k n))::xs) (b::ys)=some r) :
  ∃ n' r',b=.d (.v (.int k n'))/\eU xs ys=some r'/\r=((n==n')&&r'):=by
 generalize hg:(AV.d (.v (.int k n))::xs)=l1 at h
 generalize hg2:b::ys=l2 at h
 unfold eU at h
 split at h
 ·cases hg
 ·rename_i k1 x xs' k' y ys'
  cases hg;cases hg2
  split at h
  ·rename_i hk;subst hk
   obtain⟨r',hr',rfl⟩:=ac.1 h
   exact⟨_,_,rfl,hr',rfl⟩
  ·cases h
 ·cases hg
 ·cases h
theorem uf {d:Nat}(w:World){ee:TypeId}(hsz:P.cellsOf ee=1):∀ (xs:List AV) (i:Nat) (ys:List AV) (r:Bool) (us vs:Array Value),vb.eqAs P ee xs=true->eU xs ys=some r ->
  (∀ (j:Nat) (a:AV),xs[j]?=some a->∃ u,us[i+j]?=some u/\Rel w K m H a u)->(∀ (j:Nat) (a:AV),ys[j]?=some a->∃ u,vs[i+j]?=some u/\Rel w K m H a u) ->
  (Op.eqItems (d+1) ee (P.cellsOf ee) us vs (List.range' i xs.length)).run P w=.ok r w
 | [], i, ys, r, us, vs, _, hc, _, _ => by
   cases ys with
   | nil=>cases hc;simp[Op.eqItems]
   | cons b ys=>simp[eU]at hc
 | a :: xs, i, ys, r, us, vs, hf, hc, hx, hy => by
   unfold vb.eqAs at hf
   split at hf
   ·rename_i h;cases h
   ·rename_i k n cs he
    cases he
    simp only[aO]at hf
    obtain⟨hty,hf⟩:=hf
    obtain⟨D,hD⟩:∃ k,P.underlying ee=some (.int k):=by
     split at hty
     ·rename_i hD;exact⟨_,hD⟩
     ·cases hty
    cases ys with
    | nil=>simp[eU]at hc
    | cons b ys =>
      obtain⟨n',r',rfl,hr',rfl⟩:=Ba hc
      obtain⟨u,hu,hur⟩:=hx 0 (.d (.v (.int k n))) (by simp)
      obtain⟨v,hv,hvr⟩:=hy 0 (.d (.v (.int k n'))) (by simp)
      simp only[fh]at hu hv
      have e1:=cw hur
      have e2:=cw hvr
      subst e1;subst e2
      have hx':∀ (j:Nat) (a:AV),xs[j]?=some a->∃ u,us[i+1+j]?=some u/\Rel w K m H a u:=λ j a ha=>by
       obtain⟨u,hu,hr⟩:=hx (j+1) a (by simpa using ha)
       exact⟨u,by rw[<-hu];congr 1;omega,hr⟩
      have hy':∀ (j:Nat) (a:AV),ys[j]?=some a->∃ u,vs[i+1+j]?=some u/\Rel w K m H a u:=λ j a ha=>by
       obtain⟨u,hu,hr⟩:=hy (j+1) a (by simpa using ha)
       exact⟨u,by rw[<-hu];congr 1;omega,hr⟩
      have hpu:(part ee us (i*P.cellsOf ee)).run P w=.ok (.int k n) w:=by
       unfold part
       simp[Sem.run_bind,eY hD rfl,hsz,hu]
      have hpv:(part ee vs (i*P.cellsOf ee)).run P w=.ok (.int k n') w:=by
       unfold part
       simp[Sem.run_bind,eY hD rfl,hsz,hv]
      have ih:=uf (d:=d) w hsz xs (i+1) ys r' us vs hf hr' hx' hy'
      have hq:(Op.equalIn (d+1) ee (.int k n) (.int k n')).run P w=.ok (n==n') w:=by simp[Op.equalIn,run_underlying hD]
      rw[af,jv]
      simp only[Op.eqItems,Sem.run_bind,hpu,hpv,hq,Result.andThen_ok]
      cases h:(n==n')
      ·simp
      ·simp[ih]
   ·cases hf
theorem Gn (hM:Mem E w K m H free)(hρ:∀ x,Rel w K m H (ρA x) (ρ x)){op:BinOp}{t yt:TypeId}{x y:Operand}(ho:o.op=.binOp op t x y yt)(he:opE P C ρA H nm o=some e)(hn:e.zF) :
  Ran P E ρ o w K m H free nm e:=by
 simp only[opE,ho]at he
 split at he
 ·rename_i xs ys ha hb
  cases hk:vb P t xs
  ·simp[hk]at he
  ·simp only[hk,aG]at he
   have hx:=hρ x
   have hy:=hρ y
   rw[ha]at hx;rw[hb]at hy
   generalize hgx:ρ x=rx at hx
   generalize hgy:ρ y=ry at hy
   cases hx with
   | agg _ us hul hu=>
   cases hy with
   | agg _ vs hvl hv=>
   unfold vb at hk
   split at hk
   ·rename_i fs hfs
    simp only[aO,lJ]at hk
    obtain⟨⟨hst,hgt⟩,hfk⟩:=hk
    have heq:∀ r,eU xs ys=some r->(Op.equal t (.agg us) (.agg vs)).run P w=.ok r w:=by
     intro r hr
     have hf:P.fieldsOf t=fs:=by simp[Program.fieldsOf,hfs]
     have h1:=run_equalIn_struct (P:=P) w 9999 t us vs (by rw[hf];exact hfs) hst
     rw[hf]at h1
     show(Op.equalIn (9999+1) t (.agg us) (.agg vs)).run P w=_
     rw[h1]
     exact rI (d:=9998) w fs.toList 0 xs ys r us vs hfk hr (lz hul hu) (lz hvl hv)
    have hg:∀ op',(eqGuard op' t x y (.agg us) (.agg vs)).run P w=.ok () w:=by
     intro op'
     unfold eqGuard
     cases op'<;>first|rfl|simp[hgt]
    split at he
    ·simp only[aa]at he
     obtain⟨r,hr,he⟩:=he
     refine bW he hM (u:=.bool r) ?_ (.d _ _ (.v _))
     simp only[execOp,ho,hgx,hgy,Sem.run_bind,hg,Result.andThen_ok,binOp,heq r hr,Sem.run_pure]
    ·simp only[aa]at he
     obtain⟨r,hr,he⟩:=he
     refine bW he hM (u:=.bool (!r)) ?_ (.d _ _ (.v _))
     simp only[execOp,ho,hgx,hgy,Sem.run_bind,hg,Result.andThen_ok,binOp,heq r hr,Sem.run_pure]
    ·cases he
   ·rename_i n ee hu2
    simp only[aO,lJ,bD]at hk
    obtain⟨hgt,hsz,hinf,hnl,hfk⟩:=hk
    obtain⟨inf,hinf⟩:=bM.1 hinf
    have heq:∀ r,eU xs ys=some r->(Op.equal t (.agg us) (.agg vs)).run P w=.ok r w:=by
     intro r hr
     have h1:=run_equalIn_array (P:=P) w 9999 us vs hu2 hinf
     show(Op.equalIn (9999+1) t (.agg us) (.agg vs)).run P w=_
     rw[h1,hnl,List.range_eq_range']
     exact uf (d:=9998) w hsz xs 0 ys r us vs hfk hr (lz hul hu) (lz hvl hv)
    have hg:∀ op',(eqGuard op' t x y (.agg us) (.agg vs)).run P w=.ok () w:=by
     intro op'
     unfold eqGuard
     cases op'<;>first|rfl|simp[hgt]
    split at he
    ·simp only[aa]at he
     obtain⟨r,hr,he⟩:=he
     refine bW he hM (u:=.bool r) ?_ (.d _ _ (.v _))
     simp only[execOp,ho,hgx,hgy,Sem.run_bind,hg,Result.andThen_ok,binOp,heq r hr,Sem.run_pure]
    ·simp only[aa]at he
     obtain⟨r,hr,he⟩:=he
     refine bW he hM (u:=.bool (!r)) ?_ (.d _ _ (.v _))
     simp only[execOp,ho,hgx,hgy,Sem.run_bind,hg,Result.andThen_ok,binOp,heq r hr,Sem.run_pure]
    ·cases he
   ·cases hk
 ·cases hp:xo P t (ρA x) (ρA y)
  ·rw[hp]at he
   exact IM hM hρ ho he hn
  ·rw[hp]at he
   simp only[aG]at he
   unfold xo at hp
   split at hp
   ·rename_i el hu
    obtain⟨h1,h2⟩:=ca.1 hp
    have hx:=hρ x
    have hy:=hρ y
    have ey:ρ y=.pointer none:=by
     split at h2
     ·rename_i e;rw[e]at hy;exact cw hy
     ·cases h2
    have ex:∃ ad,ρ x=.pointer (some ad):=by
     split at h1
     ·rename_i e;rw[e]at hx;generalize ρ x=v at hx;cases hx;exact⟨_,rfl⟩
     ·rename_i e;rw[e]at hx;generalize ρ x=v at hx;cases hx;exact⟨_,rfl⟩
     ·rename_i e;rw[e]at hx;generalize ρ x=v at hx;cases hx;exact⟨_,rfl⟩
     ·cases h1
    obtain⟨ad,ex⟩:=ex
    have heq:(Op.equal t (.pointer (some ad)) (.pointer none)).run P w=.ok false w:=by
     have key:∀ d,(Op.equalIn (d+1) t (.pointer (some ad)) (.pointer none)).run P w=.ok false w:=λ d=>by
      simp[Op.equalIn,run_underlying hu]
     exact key 9999
    have hrb:=λ(u:Value) (w':World) (h:(binOp op t (ρ x) (ρ y)).run P w=.ok u w')=>se (P:=P) (w:=w) ho (by rw[ex];simp) (by rw[ex];simp) h
    rw[ex,ey]at hrb
    split at he
    ·exact bW he hM (hrb (.bool false) w (by simp[binOp,heq])) (.d _ _ (.v _))
    ·exact bW he hM (hrb (.bool true) w (by simp[binOp,heq])) (.d _ _ (.v _))
    ·cases he
   ·cases hp
theorem IJ (hM:Mem E w K m H free)(hρ:∀ x,Rel w K m H (ρA x) (ρ x)){op:UnOp}{t:TypeId}{x:Operand}(ho:o.op=.unOp op t x)(he:opE P C ρA H nm o=some e):Ran P E ρ o w K m H free nm e:=by
 simp only[opE,ho]at he
 split at he
 ·rename_i v hv
  have hx:=hρ x
  rw[hv]at hx
  have ex:=cw hx
  simp only[aa]at he
  obtain⟨r,hr,he⟩:=he
  exact bW he hM (u:=r) (by simp only[execOp,ho,ex];exact fD (xl hr w)) (.d _ _ (.v _))
 ·cases he
theorem zZ (hM:Mem E w K m H free)(hρ:∀ x,Rel w K m H (ρA x) (ρ x)){s t:TypeId}{x:Operand}(ho:o.op=.convert s t x)(he:opE P C ρA H nm o=some e)(hn:e.zF):Ran P E ρ o w K m H free nm e:=by
 have hx:=hρ x
 simp only[opE,ho]at he
 split at he
 ·rename_i k1 k kk n hs ht hv
  rw[hv]at hx
  have ex:=cw hx
  exact bW he hM (u:=.int k (k.wrap n)) (by simp only[execOp,ho,ex];exact fD (by simp[convert,run_underlying hs,run_underlying ht,Conv.intToInt])) (.d _ _ (.v _))
 ·rename_i k1 kk n hs ht hv
  rw[hv]at hx
  have ex:=cw hx
  exact bW he hM (u:=.float .f64 (FloatKind.f64.nearest n)) (by simp only[execOp,ho,ex];exact fD (by simp[convert,run_underlying hs,run_underlying ht,Conv.intToFloat])) (.d _ _ (.f _ _ rfl))
 ·rename_i b hs ht hv
  rw[hv]at hx
  have ex:=cw hx
  exact bW he hM (u:=.string b) (by simp only[execOp,ho,ex];exact fD (by simp[convert,run_underlying hs,run_underlying ht])) (.d _ _ (.v _))
 ·rename_i hs ht
  simp only[aa]at he
  obtain⟨q,hq,he⟩:=he
  obtain⟨b,ex,hb⟩:=uc hq hx
  refine bW he hM (u:=ρ x) ?_ hx
  simp only[execOp,ho,ex]
  exact fD (by simp[convert,run_underlying hs,run_underlying ht,Conv.floatToFloat])
 ·rename_i el hs ht
  split at he
  ·rename_i hel
   cases hsz:(fy P el==some 1)
   ·rw[hsz]at he;cases he
   rw[hsz]at he
   simp only[aG,ac]at he
   obtain⟨q,hq,rfl⟩:=he
   obtain⟨ad,n,cap,ev,hlen,hcap,hc⟩:=lk hM hq hn hx
   have hstr:(Conv.bytesToString (ρ x)).run P w=.ok (.string (Dq q.xs)) w:=by
    by_cases hne:q.xs=[]
    ·have hn0:n=0:=by rw[hlen,hne];rfl
     subst hn0
     rw[ev,hne]
     cases ad with
     | none=>simp[Conv.bytesToString,Dq]
     | some a=>exact run_bytesToString w a 0 cap [] (run_loadCells_list w a [] (λ j v h=>by cases h))
    ·obtain⟨b,off,rfl,_,hcell⟩:=hc hne
     rw[ev]
     refine run_bytesToString w ⟨b,off,none⟩ n cap q.xs ?_
     have hl:=run_loadCells_list (P:=P) w ⟨b,off,none⟩ (q.xs.map (Value.int .u8)) (λ j v hv=>by
      simp only[aQ,ac]at hv
      obtain⟨z,hz,rfl⟩:=hv
      obtain⟨v,hv,hr⟩:=hcell j z 0 (.v (.int .u8 z)) hz rfl
      have e:(⟨b,off,none⟩:Addr).add j=⟨b,off+(j*Ty.u8.size+0),none⟩:=by
       unfold Addr.add
       split
       ·rename_i h0;subst h0;simp
       ·simp[Ty.size]
      rw[e,hv]
      cases hr
      rfl)
     rw[bH,<-hlen]at hl
     exact hl
   refine Ran.same hM (u:=.string (Dq q.xs)) ?_ (.d _ _ (.v _))
   simp only[execOp,ho]
   refine fD ?_
   rw[ev]at hstr ⊢
   simp[convert,run_underlying hs,run_underlying ht,run_underlying hel,hstr]
  ·cases he
 ·cases he
theorem nR (hρ:∀ x,Rel w K m H (ρA x) (ρ x))(xs:Array Operand):(xs.map ρ).size=(xs.toList.map ρA).length /\
  ∀ (i:Nat) (a:AV) (v:Value),(xs.toList.map ρA)[i]?=some a->(xs.map ρ)[i]?=some v->Rel w K m H a v:=by
 refine⟨by simp,λ i a v ha hv=>?_⟩
 simp only[aQ,bw,ac]at ha
 obtain⟨x,hx,rfl⟩:=ha
 simp only[kY,hx,bt,ag]at hv
 subst hv
 exact hρ x
theorem xh (hM:Mem E w K m H free)(hρ:∀ x,Rel w K m H (ρA x) (ρ x)){fn:Fn}{fs cs:Array Operand}(ho:o.op=.makeFunc fn fs cs)(he:opE P C ρA H nm o=some e):Ran P E ρ o w K m H free nm e:=by
 simp only[opE,ho]at he
 exact bW he hM (u:=.func fn (fs.map ρ) (cs.map ρ)) (by simp only[execOp,ho];exact fD (by simp[Instr.makeFunc]))
  (.clo _ _ _ _ _ (nR hρ fs).1 (nR hρ cs).1 (nR hρ fs).2 (nR hρ cs).2)
theorem rH {t:TypeId}{f:Nat}{fd:Field}(h:su P t f=some fd):∃ fs,P.underlying t=some (.struct fs)/\fs[f]?=some fd:=by
 unfold su at h
 split at h
 ·exact⟨_,‹_›,h⟩
 ·cases h
theorem sU {fd:Field}{b off:Nat}(h:Ae P fd.type=true)(w:World):(fieldPlace ⟨b,off,none⟩ fd).run P w=.ok ⟨b,off+fd.offset,none⟩ w:=by
 unfold Ae fy at h
 cases hi:P.info? fd.type with
 | none=>simp[hi]at h
 | some i =>
   have hz:i.size≠0:=by simpa[hi]using h
   simp[fieldPlace,Sem.run_bind,cQ hi,hz,Addr.add_none]
theorem uO (hM:Mem E w K m H free)(hρ:∀ x,Rel w K m H (ρA x) (ρ x)){t:TypeId}{x:Operand}{f:Nat}(ho:o.op=.fieldAddr t x f)(he:opE P C ρA H nm o=some e):Ran P E ρ o w K m H free nm e:=by
 simp only[opE,ho,aa]at he
 obtain⟨fd,hfd,he⟩:=he
 obtain⟨fs,hfs,hf⟩:=rH hfd
 cases hb:Ae P fd.type
 ·simp only[hb,cf]at he;cases he
 ·simp only[hb,aG]at he
  have hr:=hρ x
  have key:∀ {b off:Nat},ρ x=.pointer (some ⟨b,off,none⟩)->(execOp ρ o).run P w=.ok (.value (.pointer (some ⟨b,off+fd.offset,none⟩))) w:=by
   intro b off hp
   simp only[execOp,ho,hp]
   exact fD (by simp[Instr.fieldAt,run_underlying hfs,hf,Instr.sureAddr,sU hb])
  split at he
  ·rename_i l f0 ha
   rw[ha]at hr
   generalize hgv:ρ x=ra at hr
   cases hr with|ptr _ _ b hm=>exact bW he hM (key hgv) (.ptr _ _ _ hm)
  ·rename_i l t' i f0 ha
   rw[ha]at hr
   generalize hgv:ρ x=ra at hr
   cases hr with|eptr _ _ _ _ b hm=>exact bW he hM (key hgv) (by rw[lR];exact .eptr _ _ _ _ _ hm)
  ·rename_i ds ha
   rw[ha]at hr
   generalize hgv:ρ x=ra at hr
   cases hr with
   | ip _ b off u hb' hc hr =>
     exact bW he hM (key hgv) (.ip _ _ _ (λ j=>u (fd.offset+j)) hb' (λ j d hd=>by
      rw[cm]at hd
      rw[<-hc _ d hd];congr 2;omega) (λ j d hd=>by
      rw[cm]at hd
      exact hr _ d hd))
  ·cases he
theorem Gk (hM:Mem E w K m H free)(hρ:∀ x,Rel w K m H (ρA x) (ρ x)){t:TypeId}{x:Operand}{f:Nat}(ho:o.op=.field t x f)(he:opE P C ρA H nm o=some e):Ran P E ρ o w K m H free nm e:=by
 simp only[opE,ho,aa]at he
 obtain⟨fd,hfd,he⟩:=he
 obtain⟨fs,hfs,hf⟩:=rH hfd
 have hr:=hρ x
 split at he
 ·rename_i cs ha
  rw[ha]at hr
  simp only[aa]at he
  obtain⟨v,hv,he⟩:=he
  generalize hgv:ρ x=ra at hr
  cases hr with
  | agg _ vs hl hc =>
    obtain⟨u,hu,hur⟩:=Ah (P:=P) hv hl hc
    exact bW he hM (u:=u) (by simp only[execOp,ho,hgv];exact fD (by simp[Instr.field,run_underlying hfs,hf,asAgg,hu])) hur
 ·cases he
theorem zY (hM:Mem E w K m H free)(hρ:∀ x,Rel w K m H (ρA x) (ρ x)){x:Operand}{i:Nat}(ho:o.op=.extract x i)(he:opE P C ρA H nm o=some e):Ran P E ρ o w K m H free nm e:=by
 simp only[opE,ho]at he
 have hr:=hρ x
 split at he
 ·rename_i cs ha
  rw[ha]at hr
  simp only[aa]at he
  obtain⟨v,hv,he⟩:=he
  generalize hgv:ρ x=ra at hr
  cases hr with
  | tup _ vs hl hc =>
    have hlt:i<vs.size:=by rw[hl];exact(am.1 hv).1
    exact bW he hM (u:=vs[i]) (by simp only[execOp,ho,hgv];exact fD (by simp[Instr.extract,hlt])) (hc i v _ hv (by simp[hlt]))
 ·cases he
theorem il {t e':TypeId}(h:hJ P t=some e'):P.underlying t=some (.slice e'):=by
 unfold hJ at h
 split at h
 ·simp only[ag]at h;subst h;assumption
 ·cases h
theorem mQ {x:AV}{t:TypeId}{p:Nat×Int}(h:yo P x t=some p):∃ el,P.underlying t=some (.array p.1 el)/\x.int?=some p.2:=by
 unfold yo io at h
 split at h
 ·rename_i n e hu
  simp only[aA,ac]at h
  obtain⟨k,hk,rfl⟩:=h
  exact⟨e,hu,hk⟩
 ·cases h
theorem IP (hM:Mem E w K m H free)(hρ:∀ x,Rel w K m H (ρA x) (ρ x)){t:TypeId}{x ix:Operand}(ho:o.op=.indexAddr t x ix){p:Nat×Int}(hp:yo P (ρA ix) t=some p)(he:wH P (ρA x) t p.2=some e)(hn:e.zF) :
  Ran P E ρ o w K m H free nm e:=by
 obtain⟨el,hu,hix⟩:=mQ hp
 obtain⟨k,hix⟩:=hI hix (hρ ix)
 unfold wH io at he
 rw[hu]at he
 simp only[aA]at he
 obtain⟨sz,hsz,he⟩:=aa.1 he
 simp only[fy,ac]at hsz
 obtain⟨inf,hinf,hsz⟩:=hsz
 have hr:=hρ x
 split at he
 ·rename_i l f ha
  rw[ha]at hr
  simp only[ag]at he;subst he
  obtain⟨h0,hl⟩:=hn
  generalize hgv:ρ x=ra at hr
  cases hr with
  | ptr _ _ b hm =>
    refine Ran.same hM (u:=.pointer (some ⟨b,f+p.2.toNat*sz,none⟩)) ?_ (.ptr _ _ _ hm)
    simp only[execOp,ho,hgv,hix]
    exact fD (by simp[Instr.indexAt,Instr.sureAddr,run_underlying hu,asIntOf,h0,hl,cQ hinf,hsz,Addr.add_none])
 ·rename_i ds ha
  rw[ha]at hr
  split at he
  ·rename_i q hq
   cases hsz1:(sz==1&&q.2.length==p.1)
   ·rw[hsz1]at he;cases he
   rw[hsz1]at he
   simp only[aG,ag]at he;subst he
   obtain⟨h0,hl⟩:=hn
   simp only[aO,bD]at hsz1
   obtain⟨hsz1,hlen⟩:=hsz1
   subst hsz1
   unfold Jj at hq
   obtain⟨kd,_,hq⟩:=aa.1 hq
   obtain⟨ns,hns,rfl⟩:=ac.1 hq
   have hds:=tV hns
   simp only at hlen ⊢
   have hlt:p.2.toNat<ns.length:=by omega
   generalize hgv:ρ x=ra at hr
   cases hr with
   | ip _ b off u hb' hc hr =>
     have hd0:ds[p.2.toNat]?=some (D.v (.int kd (ns.getD p.2.toNat 0))):=by
      rw[hds,aQ,ai hlt]
      simp[List.getD,hlt]
     refine Ran.same hM (u:=.pointer (some ⟨b,off+p.2.toNat*1,none⟩)) ?_ (.ip _ _ _ (λ j=>u (p.2.toNat+j)) hb' (λ j d hd=>?_) (λ j d hd=>?_))
     ·simp only[execOp,ho,hgv,hix]
      exact fD (by simp[Instr.indexAt,Instr.sureAddr,run_underlying hu,asIntOf,h0,hl,cQ hinf,hsz,Addr.add_none])
     ·match j,hd with
      | 0,hd=>cases hd;have:=hc _ _ hd0;simpa using this
     ·match j,hd with
      | 0,hd=>cases hd;exact hr _ _ hd0
  ·simp only[ag]at he;subst he
   obtain⟨h0,hl⟩:=hn
   generalize hgv:ρ x=ra at hr
   cases hr with
   | ip _ b off u hb' hc hr =>
     refine Ran.same hM (u:=.pointer (some ⟨b,off+p.2.toNat*sz,none⟩)) ?_ (.ip _ _ _ (λ j=>u (p.2.toNat*sz+j)) hb' (λ j d hd=>by
      rw[cm]at hd
      rw[<-hc _ d hd];congr 2;omega) (λ j d hd=>by
      rw[cm]at hd
      exact hr _ d hd))
     simp only[execOp,ho,hgv,hix]
     exact fD (by simp[Instr.indexAt,Instr.sureAddr,run_underlying hu,asIntOf,h0,hl,cQ hinf,hsz,Addr.add_none])
 ·cases he
theorem IN (hM:Mem E w K m H free)(hρ:∀ x,Rel w K m H (ρA x) (ρ x)){t:TypeId}{x ix:Operand}(ho:o.op=.index t x ix){p:Nat×Int}(hp:yo P (ρA ix) t=some p)(he:wG P (ρA x) t p.2=some e)(hn:e.zF) :
  Ran P E ρ o w K m H free nm e:=by
 obtain⟨el,hu,hix⟩:=mQ hp
 obtain⟨k,hix⟩:=hI hix (hρ ix)
 unfold wG io at he
 rw[hu]at he
 simp only[aA]at he
 obtain⟨sz,hsz,he⟩:=aa.1 he
 simp only[fy,ac]at hsz
 obtain⟨inf,hinf,hsz⟩:=hsz
 have hr:=hρ x
 split at he
 ·rename_i cs ha
  rw[ha]at hr
  simp only[ac]at he
  obtain⟨v,hv,rfl⟩:=he
  obtain⟨h0,hl⟩:=hn
  generalize hgv:ρ x=ra at hr
  cases hr with
  | agg _ vs hlen hc =>
    obtain⟨u,hu',hur⟩:=Ah (P:=P) hv hlen hc
    refine Ran.same hM (u:=u) ?_ hur
    simp only[execOp,ho,hgv,hix]
    exact fD (by simp[Instr.index,run_underlying hu,asIntOf,h0,hl,cQ hinf,hsz,hu'])
 ·cases he
theorem uN (hM:Mem E w K m H free)(hρ:∀ x,Rel w K m H (ρA x) (ρ x)){t:TypeId}{x ix:Operand}(ho:o.op=.indexAddr t x ix)(he:opE P C ρA H nm o=some e)(hn:e.zF) :
  Ran P E ρ o w K m H free nm e:=by
 simp only[opE,ho]at he
 split at he
 ·rename_i p hp
  exact IP hM hρ ho hp he hn
 simp only[aa]at he
 obtain⟨el,hel,te,hte,he⟩:=he
 have hu:=il hel
 cases hb:(fy P el==some te.size)
 ·simp[hb]at he
 ·simp only[hb,aG,aa]at he
  obtain⟨n,hnx,he⟩:=he
  simp only[bD,fy,ac]at hb
  obtain⟨inf,hinf,hsz⟩:=hb
  obtain⟨k,hix⟩:=hI hnx (hρ ix)
  have hr:=hρ x
  have key:∀ {b off len cap:Nat},ρ x=.slice (some ⟨b,off,none⟩) len cap->0<=n->n<len->(execOp ρ o).run P w=.ok (.value (.pointer (some ⟨b,off+n.toNat*te.size,none⟩))) w:=by
   intro b off len cap hs h0 hl
   simp only[execOp,ho,hs,hix]
   exact fD (by simp[Instr.indexAt,run_underlying hu,asIntOf,h0,hl,cQ hinf,hsz,Addr.add_none])
  have bySls:∀ (a:AV),ρA x=a->(a.sls H te).map (λ(s:Sls te)=>(⟨.ip (enc te (s.xs.getD n.toNat te.dflt)),(0<=n/\n<s.xs.length)/\s.zF,s.rd,[]⟩:Eff))=some e ->
    (∀ s,a.sls H te=some s->s.rd=[])->Ran P E ρ o w K m H free nm e:=by
   intro a ha he hrd
   simp only[ac]at he
   obtain⟨s,hs,rfl⟩:=he
   obtain⟨⟨h0,hl⟩,hneed⟩:=hn
   rw[ha]at hr
   obtain⟨ad,len,cap,hv,hsl⟩:=lk hM hs hneed hr
   have hil:n.toNat<s.xs.length:=by omega
   obtain⟨b,off,rfl,hK,hrd'⟩:=hsl.addr (by intro e;rw[e]at hil;simp at hil)
   have hKb:K b:=by
    rcases hK with hK|⟨l,hl,_⟩
    ·exact hK
    ·rw[hrd s hs]at hl;simp at hl
   have hx:s.xs[n.toNat]?=some (s.xs.getD n.toNat te.dflt):=by simp[List.getD,ai hil]
   refine Ran.same hM (key hv h0 (by rw[hsl.len];exact hl)) (.ip _ _ _ (λ j=>(w.cell? ⟨b,off+n.toNat*te.size+j,none⟩).getD undef) hKb (λ j d hd=>?_) (λ j d hd=>?_))
   ·obtain⟨u,hu,_⟩:=hrd' _ _ j d hx hd
    rw[<-lR]at hu
    simp[hu]
   ·obtain⟨u,hu,hr⟩:=hrd' _ _ j d hx hd
    rw[<-lR]at hu
    simpa[hu]using hr
  split at he
  ·rename_i l t' ha
   split at he
   ·rename_i ht;subst ht
    split at he
    ·rename_i T t2 xs hg
     split at he
     ·rename_i ht2;subst ht2
      simp only[ag]at he;subst he
      obtain⟨h0,hl⟩:=hn
      rw[ha]at hr
      generalize hgv:ρ x=ra at hr
      cases hr with
      | own0 _ _ _ hm =>
        rcases hM.heap l _ hg with⟨_,hx⟩|⟨b',cs,hm',_⟩
        ·subst hx;simp at hl;omega
        ·rw[hm]at hm';cases hm'
      | own _ _ b len cap hm hlen hcap hs =>
        have hlen:=hlen T xs hg
        have:=key hgv h0 (by rw[hlen];exact hl)
        rw[cE]at this
        exact Ran.same hM this (.eptr _ _ _ 0 _ hm)
     ·cases he
    ·cases he
   ·cases he
  ·rename_i l t' off len ha
   split at he
   ·rename_i ht;subst ht
    simp only[ag]at he;subst he
    obtain⟨h0,hl⟩:=hn
    rw[ha]at hr
    generalize hgv:ρ x=ra at hr
    cases hr with
    | view0=>omega
    | view _ _ b _ _ cap hm hcap hs =>
      have:=key hgv h0 hl
      rw[<-bA]at this
      exact Ran.same hM this (.eptr _ _ _ 0 _ hm)
   ·cases he
  ·rename_i hno1 hno2
   refine bySls _ rfl he (λ s hs=>?_)
   generalize ρA x=a at hs hno1 hno2
   cases a with
   | d y=>simp only[AV.sls,ac]at hs;obtain⟨_,_,rfl⟩:=hs;rfl
   | fl t' ys=>simp only[AV.sls]at hs;split at hs<;>cases hs;rfl
   | own l t'=>exact absurd rfl (hno1 l t')
   | view l t' off len=>exact absurd rfl (hno2 l t' off len)
   | _=>simp[AV.sls]at hs
theorem Gj (hM:Mem E w K m H free)(hρ:∀ x,Rel w K m H (ρA x) (ρ x)){t:TypeId}{x ix:Operand}(ho:o.op=.index t x ix)(he:opE P C ρA H nm o=some e)(hn:e.zF) :
  Ran P E ρ o w K m H free nm e:=by
 simp only[opE,ho]at he
 split at he
 ·rename_i p hp
  exact IN hM hρ ho hp he hn
 split at he
 ·rename_i s k n ha hb
  split at he
  ·rename_i hu
   simp only[ag]at he;subst he
   obtain⟨h0,hl⟩:=hn
   have hx:=hρ x
   have hy:=hρ ix
   rw[ha]at hx;rw[hb]at hy
   have ex:=cw hx
   have ey:=cw hy
   have hlt:n.toNat<s.size:=by omega
   refine Ran.same hM (u:=.int .u8 (s[n.toNat]'hlt).toNat) ?_ (by simp[hlt];exact .d _ _ (.v _))
   simp only[execOp,ho,ex,ey]
   exact fD (by simp[Instr.index,asIntOf,run_underlying hu,h0,hlt])
  ·cases he
 ·cases he
end Go.VL
namespace Go.VL
variable {P:Program} {C:cd} {E:Entry} {w:World} {K:Nat->Prop} {m:Nat->Option (Option Nat)} {H:Heap} {free:Nat->Prop} {nm:Nat} {o:Oper}
 {ρ:Operand->Value} {ρA:Operand->AV} {e:Eff}
theorem BP {a:AV}{te:Ty}{s:Sls te}(hs:a.sls H te=some s)(h1:∀ l t,a≠.own l t)(h2:∀ l t off len,a≠.view l t off len):s.rd=[]:=by
 cases a with
 | d y=>simp only[AV.sls,ac]at hs;obtain⟨_,_,rfl⟩:=hs;rfl
 | fl t' ys=>simp only[AV.sls]at hs;split at hs<;>cases hs;rfl
 | own l t'=>exact absurd rfl (h1 l t')
 | view l t' off len=>exact absurd rfl (h2 l t' off len)
 | _=>simp[AV.sls]at hs
theorem BS {len cap:Nat}{lo hi mx:Option Value}{l h m':Nat}(hlo:(lo=none/\l=0)\/∃ k,lo=some (.int k (l:Int)))(hhi:(hi=none/\mx=none/\h=len)\/∃ k,hi=some (.int k (h:Int)))
  (hmx:(mx=none/\m'=cap)\/∃ k,mx=some (.int k (m':Int))) (h1:l<=h) (h2:h<=m') (h3:m'<=cap) (w:World):(Instr.sliceBounds true len cap lo hi mx).run P w=.ok (l,h,m') w:=by
 have hb:∀ (k:IntKind) (i y:Nat) (c:BoundsCode),i<=y->(Instr.sliceBound (.int k (i:Int)) y c).run P w=.ok i w:=by
  intro k i y c hi
  have:(i:Int)<=(y:Int):=by omega
  simp[Instr.sliceBound,asIntOf,this]
 rcases hlo with⟨rfl,rfl⟩|⟨k1,rfl⟩<;>rcases hhi with⟨rfl,rfl,rfl⟩|⟨k2,rfl⟩<;>rcases hmx with⟨hm,rfl⟩|⟨k3,hm⟩<;>(try cases hm) <;>
  simp[Instr.sliceBounds,hb _ _ _ _ h1,hb _ _ _ _ h2,hb _ _ _ _ h3]
theorem rl:∀ {as:List AV} {ds:List D},sj as=some ds->as.length=ds.length/\∀ (j:Nat) d,ds[j]?=some d->as[j]?=some (.d d)
 | [],ds,h=>by cases h;exact⟨rfl,λ j d h=>by simp at h⟩
 | .d x :: as, ds, h => by
   obtain⟨ds',h1,rfl⟩:=ac.1 (show(sj as).map (x::·)=some ds from h)
   obtain⟨g1,g2⟩:=rl h1
   refine⟨by simp[g1],λ j d hj=>?_⟩
   cases j with
   | zero=>simp only[bp,ag]at hj ⊢;rw[hj]
   | succ j=>simpa using g2 j d (by simpa using hj)
theorem Bf (te:Ty):∀ {n:Nat} {ds:List D} {xs:List te.ty},Qg te n ds=some xs->ds.length=n*te.size->xs.length=n/\∀ (i:Nat) x j d,xs[i]?=some x->(enc te x)[j]?=some d->∃ d0,ds[i*te.size+j]?=some d0/\d0.le d
 | 0,ds,xs,h,_=>by cases h;exact⟨rfl,λ i x j d h=>by simp at h⟩
 | n + 1, ds, xs, h, hl => by
   obtain⟨x,h1,h2⟩:=aa.1 h
   obtain⟨ys,h3,rfl⟩:=ac.1 h2
   obtain⟨g1,g2⟩:=Bf te h3 (by rw[aL,hl,bA];omega)
   refine⟨by simp[g1],λ i z j d hz hd=>?_⟩
   obtain⟨k1,k2⟩:=(ye h1).get
   have hj:j<te.size:=by rw[<-bY te z];exact(am.1 hd).1
   cases i with
   | zero =>
     simp only[bp,ag]at hz
     subst hz
     have hlt:j<(ds.take te.size).length:=by rw[aD,hl,bA];omega
     have hge:(ds.take te.size)[j]?=some ((ds.take te.size)[j]):=ai hlt
     refine⟨_,?_,k2 j _ _ hge hd⟩
     rw[cS,aE hj]at hge
     rw[gR,cE];exact hge
   | succ i =>
     obtain⟨d0,e1,e2⟩:=g2 i z j d (by simpa using hz) hd
     refine⟨d0,?_,e2⟩
     rw[cm]at e1
     rw[show(i+1)*te.size+j=te.size+(i*te.size+j) by rw[bA];omega];exact e1
theorem Gi (hM:Mem E w K m H free)(hρ:∀ x,Rel w K m H (ρA x) (ρ x)){t:TypeId}{x:Operand}{lo hi mx:Option Operand}(ho:o.op=.slice t x lo hi mx)(he:qs P C H t (ρA x) (lo.map ρA) (hi.map ρA) (mx.map ρA)=some e) :
  Ran P E ρ o w K m H free nm e:=by
 unfold qs at he
 split at he
 ·rename_i n el hu
  obtain⟨te,hte,he⟩:=aa.1 he
  cases hb:(fy P el==some te.size&&((lo.map ρA).isNone&&(Da n (hi.map ρA)&&(Da n (mx.map ρA)&&((hi.map ρA).isSome||(mx.map ρA).isNone)))))
  ·rw[hb]at he;cases he
  rw[hb]at he
  simp only[aG]at he
  obtain⟨⟨l,cs⟩,hbx,he⟩:=aa.1 he
  simp only at he
  cases hc:(cs.length==n*te.size)
  ·rw[hc]at he;cases he
  rw[hc]at he
  simp only[aG]at he
  obtain⟨ds,hds,he⟩:=aa.1 he
  obtain⟨xs,hxs,rfl⟩:=ac.1 he
  have hc:cs.length=n*te.size:=by simpa using hc
  simp only[aO,bD,fy,ac]at hb
  obtain⟨⟨inf,hinf,hsz⟩,hlo,hhi,hmx,hor⟩:=hb
  have hlo:lo=none:=by cases lo<;>simp_all
  subst hlo
  obtain⟨p1,p2⟩:=rl hds
  obtain⟨q1,q2⟩:=Bf te hxs (by omega)
  have hr:=hρ x
  unfold Fb at hbx
  split at hbx
  ·rename_i l' hx
   split at hbx
   ·rename_i cs' hg
    cases hbx
    rw[hx]at hr
    generalize hgv:ρ x=rx at hr
    cases hr with
    | ptr _ _ b hm =>
      obtain⟨b',vs,T,hm',hw,hvs,hrel⟩:=hM.heap l _ hg
      rw[hm]at hm'
      cases hm'
      have bd:∀ (o':Option Operand),Da n (o'.map ρA)=true->o'.map ρ=none\/∃ k,o'.map ρ=some (.int k (n:Int)):=by
       intro o' h
       cases o' with
       | none=>exact .inl rfl
       | some v =>
         have h:((ρA v).int?==some (n:Int))=true:=h
         obtain⟨k,hk⟩:=hI (by simpa using h) (hρ v)
         exact .inr ⟨k,by simp[hk]⟩
      have hrun:(execOp ρ o).run P w=.ok (.value (.slice (some ⟨b,0,none⟩) n n)) w:=by
       simp only[execOp,ho,hgv]
       refine fD ?_
       have hi':=bd hi hhi
       have mx':=bd mx hmx
       have hb:(Instr.sliceBounds false n n none (hi.map ρ) (mx.map ρ)).run P w=.ok (0,n,n) w:=by
        rcases mx' with hm0|⟨k2,hm0⟩
        ·rcases hi' with hh0|⟨k1,hh0⟩<;>simp[Instr.sliceBounds,Instr.sliceBound,asIntOf,hm0,hh0]
        ·rcases hi' with hh0|⟨k1,hh0⟩
         ·exfalso
          have a1:hi=none:=by cases hi<;>simp_all
          have a2:mx≠none:=by intro h;simp[h]at hm0
          subst a1
          cases mx with
          | none=>exact a2 rfl
          | some v=>simp at hor
         ·simp[Instr.sliceBounds,Instr.sliceBound,asIntOf,hm0,hh0]
       simp only[Instr.sliceAt,Sem.run_bind,run_underlying hu,Result.andThen_ok,Instr.sureAddr,Sem.run_pure,mZ,hb,cQ hinf]
       by_cases h0:n=0<;>simp[h0,Addr.add]
      obtain⟨K1,g1,e1,hk1⟩:=Mem.gives [l] hM
      have hsl:SlRel w K m H [l] te xs (some ⟨b,0,none⟩) n n:=⟨q1.symm,aI _,λ _=>⟨b,0,rfl,.inr ⟨l,by simp,hm⟩,λ i z j d hz hd=>by
       obtain⟨d0,e1,e2⟩:=q2 i z j d hz hd
       have e3:=p2 _ _ e1
       have hlt:i*te.size+j<vs.size:=by rw[hvs];exact(am.1 e3).1
       refine⟨vs[i*te.size+j],by simp[World.cell?,hw,hlt],RelD.le e2 ?_⟩
       have:=hrel (i*te.size+j) _ vs[i*te.size+j] e3 (by simp[hlt])
       cases this with
       | d _ _ h=>exact h⟩⟩
      have hrd:RelD w K1 (.sl te xs) (.slice (some ⟨b,0,none⟩) n n):=RelD.slrel hsl (mj e1.hK (λ k hk=>by
       obtain rfl:k=l:=by simpa using hk
       exact⟨_,hg⟩) hk1)
      exact⟨_,_,w,K1,m,hrun,.inl rfl,.d _ _ hrd,g1.weaken (λ _ hl=>hl.1),e1⟩
   ·cases hbx
  ·cases hbx
 ·cases he
theorem Gh (hM:Mem E w K m H free)(hρ:∀ x,Rel w K m H (ρA x) (ρ x)){t:TypeId}{x:Operand}{lo hi mx:Option Operand}(ho:o.op=.slice t x lo hi mx)(he:opE P C ρA H nm o=some e)(hn:e.zF) :
  Ran P E ρ o w K m H free nm e:=by
 simp only[opE,ho]at he
 cases hA:Kh P t
 case true=>rw[hA]at he;exact Gi hM hρ ho he
 rw[hA]at he
 simp only[cf,aa]at he
 obtain⟨el,hel,te,hte,he⟩:=he
 have hu:=il hel
 cases hb:(fy P el==some te.size)
 ·simp[hb]at he
 ·simp only[hb,aG,aa]at he
  obtain⟨l,hl,he⟩:=he
  simp only[bD,fy,ac]at hb
  obtain⟨inf,hinf,hsz⟩:=hb
  have hr:=hρ x
  have hlo:0<=l->(lo.map ρ=none/\l.toNat=0)\/∃ k,lo.map ρ=some (.int k (l.toNat:Int)):=by
   intro h0
   cases lo with
   | none=>simp only[ag]at hl;subst hl;exact .inl ⟨rfl,rfl⟩
   | some v =>
     obtain⟨k,hk⟩:=hI hl (hρ v)
     exact .inr ⟨k,by simp[hk,aK h0]⟩
  have run:∀ {a:Option Addr} {len cap h m':Nat},ρ x=.slice a len cap->0<=l->((hi.map ρ=none/\mx.map ρ=none/\h=len)\/∃ k,hi.map ρ=some (.int k (h:Int))) ->
    ((mx.map ρ=none/\m'=cap)\/∃ k,mx.map ρ=some (.int k (m':Int)))->l.toNat<=h->h<=m'->m'<=cap ->
    (execOp ρ o).run P w=.ok (.value (.slice (if m'=l.toNat then a else a.map (·.add (l.toNat*te.size))) (h-l.toNat) (m'-l.toNat))) w:=by
   intro a len cap h m' hs h0 hh hm h1 h2 h3
   have hbd:=BS (P:=P) (hlo h0) hh hm h1 h2 h3 w
   simp only[execOp,ho,hs]
   refine fD ?_
   have hsl:(Instr.slice t (.slice a len cap) (lo.map ρ) (hi.map ρ) (mx.map ρ)).run P w=.ok (.slice (if m'=l.toNat then a else a.map (·.add (l.toNat*te.size))) (h-l.toNat) (m'-l.toNat)) w:=by
    simp only[Instr.slice,Sem.run_bind,run_underlying hu,Result.andThen_ok,hbd,cQ hinf,hsz,Sem.run_pure]
   simp only[Instr.sliceAt,Sem.run_bind,run_underlying hu,Result.andThen_ok,hsl]
  have imm:∀ {s:Sls te} {h m':Nat} {a:Option Addr} {len cap:Nat},SlRel w K m H [] te s.xs a len cap->l.toNat<=h->h<=m'->m'<=cap->h<=s.xs.length ->
    RelD w K (.sl te ((s.xs.take h).drop l.toNat)) (.slice (if m'=l.toNat then a else a.map (·.add (l.toNat*te.size))) (h-l.toNat) (m'-l.toNat)):=by
   intro s h m' a len cap hsl h1 h2 h3 h4
   have hlen:((s.xs.take h).drop l.toNat).length=h-l.toNat:=by simp;omega
   refine RelD.slrel (K:=K) (m:=m) (H:=H) (rd:=[]) ⟨hlen.symm,by omega,λ hne=>?_⟩ (λ b hb=>by rcases hb with hb|⟨_,hl,_⟩;exact hb;simp at hl)
   have hpos:0<h-l.toNat:=by rw[<-hlen];exact List.length_pos_iff.2 hne
   obtain⟨b,off,rfl,hK,hrd⟩:=hsl.addr (by intro e;rw[e]at hlen;simp at hlen;omega)
   rw[aF (by omega)]
   refine⟨b,off+l.toNat*te.size,by simp[Addr.add_none],hK,?_⟩
   exact(hrd.take h).drop l.toNat
  have mine:∀ {k b off len cap h m':Nat},m k=some (some b)->ρ x=.slice (some ⟨b,off*te.size,none⟩) len cap->(∃ T sz,w.shape? b=some (T,sz)/\(off+cap)*te.size<=sz) ->
    0<=l->((hi.map ρ=none/\mx.map ρ=none/\h=len)\/∃ k,hi.map ρ=some (.int k (h:Int)))->((mx.map ρ=none/\m'=cap)\/∃ k,mx.map ρ=some (.int k (m':Int))) ->
    l.toNat<=h->h<=m'->m'<=cap->∀ {p:Prop} {rd:List Nat},Ran P E ρ o w K m H free nm ⟨.view k te (off+l.toNat) (h-l.toNat),p,rd,[]⟩:=by
   intro k b off len cap h m' hm hs hsz' h0 hh hmx h1 h2 h3 p rd
   refine Ran.same hM (run hs h0 hh hmx h1 h2 h3) ?_
   by_cases hml:m'=l.toNat
   ·rw[aE hml,show h-l.toNat=0 by omega,show m'-l.toNat=0 by omega];exact .view0 _ _ _ _
   ·rw[aF hml]
    obtain⟨T,sz,hT,hle⟩:=hsz'
    simp only[bt,Addr.add_none,<-bA]
    refine .view _ _ _ _ _ _ hm (by omega) ⟨T,sz,hT,bj (aC _ (by omega)) hle⟩
  have mine0:∀ {k off len cap h m':Nat} {a:Option Addr},cap=0->ρ x=.slice a len cap->0<=l->((hi.map ρ=none/\mx.map ρ=none/\h=len)\/∃ k,hi.map ρ=some (.int k (h:Int))) ->
    ((mx.map ρ=none/\m'=cap)\/∃ k,mx.map ρ=some (.int k (m':Int)))->l.toNat<=h->h<=m'->m'<=cap->∀ {p:Prop} {rd:List Nat},Ran P E ρ o w K m H free nm ⟨.view k te off (h-l.toNat),p,rd,[]⟩:=by
   intro k off len cap h m' a hz hs h0 hh hmx h1 h2 h3 p rd
   refine Ran.same hM (run hs h0 hh hmx h1 h2 h3) ?_
   rw[show h-l.toNat=0 by omega,show m'-l.toNat=0 by omega];exact .view0 _ _ _ _
  have whole:∀ {k:Nat} {T:TypeId} {xs:List te.ty} {h:Nat},ρA x=.own k te->H.get k=some (.row T te xs)->0<=l->l.toNat<=h->h<=xs.length ->
    (∀ cap,xs.length<=cap->∃ m',((hi.map ρ=none/\mx.map ρ=none/\h=xs.length)\/∃ k,hi.map ρ=some (.int k (h:Int)))/\((mx.map ρ=none/\m'=cap)\/∃ k,mx.map ρ=some (.int k (m':Int)))/\h<=m'/\m'<=cap) ->
    ∀ {p:Prop} {rd:List Nat},Ran P E ρ o w K m H free nm ⟨.view k te l.toNat (h-l.toNat),p,rd,[]⟩:=by
   intro k T xs h ha hg h0 h1 h2 hbd p rd
   rw[ha]at hr
   generalize hgv:ρ x=ra at hr
   cases hr with
   | own0 _ _ _ hm =>
     rcases hM.heap k _ hg with⟨_,hx⟩|⟨b',cs,hm',_⟩
     ·subst hx
      obtain⟨m',hh,hmx,h3,h4⟩:=hbd 0 (aI _)
      exact mine0 (k:=k) (off:=l.toNat) rfl hgv h0 hh hmx h1 h3 h4
     ·rw[hm]at hm';cases hm'
   | own _ _ b n cap hm hlen hcap hs =>
     have hlen:=hlen T xs hg
     obtain⟨m',hh,hmx,h3,h4⟩:=hbd cap (by omega)
     have:=mine (k:=k) (b:=b) (off:=0) (len:=n) (cap:=cap) (h:=h) (m':=m') hm (by rw[hgv,gR]) (by simpa using hs) h0 (by rw[hlen];exact hh) hmx h1 h3 h4 (p:=p) (rd:=rd)
     rwa [cE]at this
  have some_:∀ {k off len h:Nat},ρA x=.view k te off len->0<=l->l.toNat<=h->h<=len ->
    (∀ cap,len<=cap->∃ m',((hi.map ρ=none/\mx.map ρ=none/\h=len)\/∃ k,hi.map ρ=some (.int k (h:Int)))/\((mx.map ρ=none/\m'=cap)\/∃ k,mx.map ρ=some (.int k (m':Int)))/\h<=m'/\m'<=cap) ->
    ∀ {p:Prop} {rd:List Nat},Ran P E ρ o w K m H free nm ⟨.view k te (off+l.toNat) (h-l.toNat),p,rd,[]⟩:=by
   intro k off len h ha h0 h1 h2 hbd p rd
   rw[ha]at hr
   generalize hgv:ρ x=ra at hr
   cases hr with
   | view0 _ _ _ a =>
     obtain⟨m',hh,hmx,h3,h4⟩:=hbd 0 (bK _)
     exact mine0 (k:=k) rfl hgv h0 hh hmx h1 h3 h4
   | view _ _ b _ _ cap hm hcap hs =>
     obtain⟨m',hh,hmx,h3,h4⟩:=hbd cap hcap
     exact mine hm hgv hs h0 hh hmx h1 h3 h4
  split at he
  ·
   have hbd:∀ len cap:Nat,len<=cap->∃ m',((Option.map ρ none=none/\Option.map ρ none=none/\len=len)\/∃ k,Option.map ρ none=some (.int k (len:Int)))/\((Option.map ρ none=none/\m'=cap)\/∃ k,Option.map ρ none=some (Value.int k (m':Int)))/\len<=m'/\m'<=cap:=
    λ len cap hc=>⟨cap,.inl ⟨rfl,rfl,rfl⟩,.inl ⟨rfl,rfl⟩,hc,aI _⟩
   split at he
   ·rename_i k t' ha
    split at he
    ·rename_i ht;subst ht
     split at he
     ·rename_i T t2 xs hg
      split at he
      ·rename_i ht2;subst ht2
       simp only[ag]at he;subst he
       exact whole ha hg hn.1 (by have:=hn.2;omega) (aI _) (hbd xs.length)
      ·cases he
     ·cases he
    ·cases he
   ·rename_i k t' off len ha
    split at he
    ·rename_i ht;subst ht
     simp only[ag]at he;subst he
     exact some_ ha hn.1 (by have:=hn.2;omega) (aI _) (hbd len)
    ·cases he
   ·rename_i hno1 hno2
    simp only[ac]at he
    obtain⟨s,hs,rfl⟩:=he
    obtain⟨⟨h0,h1⟩,hneed⟩:=hn
    obtain⟨a,len,cap,hv,hsl⟩:=lk hM hs hneed hr
    rw[BP hs hno1 hno2]at hsl
    have hl':=hsl.len
    have himm:=imm (s:=s) (h:=s.xs.length) (m':=cap) hsl (by omega) (by have:=hsl.cap;omega) (aI _) (aI _)
    rw[ju]at himm
    refine Ran.same hM (run (h:=len) (m':=cap) hv h0 (.inl ⟨rfl,rfl,rfl⟩) (.inl ⟨rfl,rfl⟩) (by omega) hsl.cap (aI _)) (.d _ _ ?_)
    rw[hl'];exact himm
  ·cases he
  ·
   rename_i hv
   simp only[aa]at he
   obtain⟨h,hh,he⟩:=he
   obtain⟨kh,hhv⟩:=hI hh (hρ hv)
   have hbd:0<=h->∀ len:Nat,h<=len->∀ cap:Nat,len<=cap->∃ m',((Option.map ρ (some hv)=none/\Option.map ρ none=none/\h.toNat=len)\/∃ k,Option.map ρ (some hv)=some (.int k (h.toNat:Int)))/\((Option.map ρ none=none/\m'=cap)\/∃ k,Option.map ρ none=some (Value.int k (m':Int)))/\h.toNat<=m'/\m'<=cap:=
    λ h0 len hl cap hc=>⟨cap,.inr ⟨kh,by simp[hhv,aK h0]⟩,.inl ⟨rfl,rfl⟩,by omega,aI _⟩
   split at he
   ·rename_i k t' ha
    split at he
    ·rename_i ht;subst ht
     split at he
     ·rename_i T t2 xs hg
      split at he
      ·rename_i ht2;subst ht2
       simp only[ag]at he;subst he
       obtain⟨h0,h1,h2⟩:=hn
       exact whole ha hg h0 (by omega) (by omega) (hbd (by omega) xs.length h2)
      ·cases he
     ·cases he
    ·cases he
   ·rename_i k t' off len ha
    split at he
    ·rename_i ht;subst ht
     simp only[ag]at he;subst he
     obtain⟨h0,h1,h2⟩:=hn
     exact some_ ha h0 (by omega) (by omega) (hbd (by omega) len h2)
    ·cases he
   ·rename_i hno1 hno2
    simp only[ac]at he
    obtain⟨s,hs,rfl⟩:=he
    obtain⟨⟨h0,h1,h2⟩,hneed⟩:=hn
    obtain⟨a,len,cap,hv',hsl⟩:=lk hM hs hneed hr
    rw[BP hs hno1 hno2]at hsl
    have hl':=hsl.len
    have hc':=hsl.cap
    refine Ran.same hM (run (h:=h.toNat) (m':=cap) hv' h0 (.inr ⟨kh,by simp[hhv,aK (show 0<=h by omega)]⟩) (.inl ⟨rfl,rfl⟩) (by omega) (by omega) (aI _)) (.d _ _ ?_)
    exact imm (s:=s) hsl (by omega) (by omega) (aI _) (by omega)
  ·
   rename_i hv mv
   simp only[aa]at he
   obtain⟨h,hh,mI,hmI,he⟩:=he
   obtain⟨kh,hhv⟩:=hI hh (hρ hv)
   obtain⟨km,hmv⟩:=hI hmI (hρ mv)
   have hbd:0<=h->h<=mI->∀ len:Nat,mI<=len->∀ cap:Nat,len<=cap->∃ m',((Option.map ρ (some hv)=none/\Option.map ρ (some mv)=none/\h.toNat=len)\/∃ k,Option.map ρ (some hv)=some (.int k (h.toNat:Int)))/\((Option.map ρ (some mv)=none/\m'=cap)\/∃ k,Option.map ρ (some mv)=some (Value.int k (m':Int)))/\h.toNat<=m'/\m'<=cap:=
    λ h0 hm len hl cap hc=>⟨mI.toNat,.inr ⟨kh,by simp[hhv,aK h0]⟩,.inr ⟨km,by simp[hmv,aK (show 0<=mI by omega)]⟩,by omega,by omega⟩
   split at he
   ·rename_i k t' ha
    split at he
    ·rename_i ht;subst ht
     split at he
     ·rename_i T t2 xs hg
      split at he
      ·rename_i ht2;subst ht2
       simp only[ag]at he;subst he
       obtain⟨h0,h1,h2,h3⟩:=hn
       exact whole ha hg h0 (by omega) (by omega) (hbd (by omega) h2 xs.length h3)
      ·cases he
     ·cases he
    ·cases he
   ·rename_i k t' off len ha
    split at he
    ·rename_i ht;subst ht
     simp only[ag]at he;subst he
     obtain⟨h0,h1,h2,h3⟩:=hn
     exact some_ ha h0 (by omega) (by omega) (hbd (by omega) h2 len h3)
    ·cases he
   ·rename_i hno1 hno2
    simp only[ac]at he
    obtain⟨s,hs,rfl⟩:=he
    obtain⟨⟨h0,h1,h2,h3⟩,hneed⟩:=hn
    obtain⟨a,len,cap,hv',hsl⟩:=lk hM hs hneed hr
    rw[BP hs hno1 hno2]at hsl
    have hl':=hsl.len
    have hc':=hsl.cap
    refine Ran.same hM (run (h:=h.toNat) (m':=h.toNat) hv' h0 (.inr ⟨kh,by simp[hhv,aK (show 0<=h by omega)]⟩) (.inr ⟨km,by simp[hmv,h3,aK (show 0<=h by omega)]⟩) (by omega) (aI _) (by omega)) ?_
    exact .fl _ _ _ _ (imm (s:=s) hsl (by omega) (aI _) (by omega) (by omega))
end Go.VL
namespace Go.VL
variable {P:Program} {C:cd} {E:Entry} {w:World} {K:Nat->Prop} {m:Nat->Option (Option Nat)} {H:Heap} {free:Nat->Prop} {nm:Nat} {o:Oper}
 {ρ:Operand->Value} {ρA:Operand->AV} {e:Eff}
def Oz (w:World)(K:Nat->Prop)(t:Ty)(xs:List t.ty)(cs:Array Value):Prop:=
 ∀ (i:Nat) (x:t.ty) (j:Nat) (d:D),xs[i]?=some x->(enc t x)[j]?=some d->∃ v,cs[i*t.size+j]?=some v/\RelD w K d v
theorem wD (hM:Mem E w K m H free)(te:Ty){places:Nat->Option (Nat×Nat)}(hp:∀ i,places i=some (i*te.size,te.size))(hρ:∀ x,Rel w K m H (ρA x) (ρ x)) :
  ∀ (parts:List (Nat×Operand)) (k n:Nat) (cs:Array Value) (xs:List te.ty) (p:Prop) (fz:List Nat),opE.build H te k (parts.map λ q=>(q.1,ρA q.2))=some (xs,p,fz)->p->cs.size=n*te.size->k+parts.length=n ->
   ∃ us,Instr.fill places cs (parts.map λ q=>(q.1,ρ q.2))=some us/\us.size=cs.size/\(∀ j,j<k*te.size->us[j]?=cs[j]?)/\xs.length=parts.length/\(∀ l∈fz,∃ blk,H.get l=some blk) /\
    ∀ (i:Nat) (x:te.ty) (j:Nat) (d:D),xs[i]?=some x->(enc te x)[j]?=some d->∃ v,us[(k+i)*te.size+j]?=some v/\RelD w (KF K m fz) d v
 | [], k, n, cs, xs, p, fz, h, hp', hs, hk => by
   simp only[dD,opE.build,ag,bB]at h
   obtain⟨rfl,_,rfl⟩:=h
   exact⟨cs,rfl,rfl,λ _ _=>rfl,rfl,λ l hl=>by simp at hl,λ i x j d hx=>by simp at hx⟩
 | (i, x) :: rest, k, n, cs, xs, p, fz, h, hp', hs, hk => by
   simp only[bn,opE.build]at h
   cases hik:(i==k)
   ·simp[hik]at h
   ·simp only[hik,aG,aa,ac,Prod.exists]at h
    obtain⟨ds,p1,f1,hds,y,hy,ys,p2,f2,hrest,he⟩:=h
    simp only[bB]at he
    obtain⟨rfl,rfl,rfl⟩:=he
    simp only[bD]at hik
    subst hik
    simp only[af]at hk
    obtain⟨hll,hlg⟩:=(ye hy).get
    rw[bY]at hll
    have hkn:(ρA x).known=true:=by
     cases hax:ρA x with
     | dead=>rw[hax]at hds;simp[oW,AV.cells,AV.toD]at hds
     | d z =>
       rw[hax]at hds
       cases z with
       | v z =>
         cases z with
         | agg cs' =>
           simp only[oW,AV.cells,AV.toD,aA,bt,ag,bB]at hds
           obtain⟨rfl,_⟩:=hds
           exfalso
           have hone:=D.one
           have h0:([D.v (.agg cs')]:List D)[0]?=some (.v (.agg cs')):=rfl
           have hlt:0<(enc te y).length:=by rw[bY];simp at hll;omega
           have:=hlg 0 _ _ h0 (ai hlt)
           have h1:=ug (aN hlt)
           generalize (enc te y)[0]=q at this h1
           cases this
           simp[D.one]at h1
         | _=>rfl
       | _=>rfl
     | _=>rfl
    obtain⟨hxs,hxc⟩:=kt hkn (hρ x)
    obtain⟨hdl,hdr,hdf⟩:=px hM hds hp'.1 hxs hxc
    have hsz:(ρ x).cells.size=te.size:=by rw[hxs,<-hdl,hll]
    have hbound:i*te.size+te.size<=cs.size:=by
     rw[hs]
     calc i*te.size+te.size=(i+1)*te.size:=by rw[bA,eA]
      _<=n*te.size:=aC _ (by omega)
    have hfold:=qU (i*te.size) (ρ x).cells.toList 0 cs
    have hfe:(ρ x).cells.zipIdx.foldl (λ cs (c,j)=>cs.setIfInBounds (i*te.size+j) c) cs=((ρ x).cells.toList.zipIdx 0).foldl (λ cs (p:Value×Nat)=>cs.setIfInBounds (i*te.size+p.2) p.1) cs:=by
     rw[<-kZ,Array.toList_zipIdx]
    obtain⟨us,h1,h2,h3,h4,h5,h6⟩:=wD hM te hp hρ rest (i+1) n _ ys p2 f2 hrest hp'.2 (by rw[hfold.1];exact hs) (by omega)
    have hKF1:∀ b,KF K m f1 b->KF K m (f1++f2) b:=by
     rintro b (hb|⟨l,hl,hm⟩)
     ·exact .inl hb
     ·exact .inr ⟨l,by simp[hl],hm⟩
    have hKF2:∀ b,KF K m f2 b->KF K m (f1++f2) b:=by
     rintro b (hb|⟨l,hl,hm⟩)
     ·exact .inl hb
     ·exact .inr ⟨l,by simp[hl],hm⟩
    refine⟨us,?_,by rw[h2,hfold.1],λ j hj=>?_,by simp[h4],λ l hl=>?_,λ a z j d hz hd=>?_⟩
    ·simp only[bn,Instr.fill,hp i,hsz,ne_eq,iL,ko,Bool.false_or]
     have:¬ (i*te.size+te.size>cs.size):=by omega
     simp only[this,ko,Bool.false_eq_true,if_false]
     rw[hfe]
     exact h1
    ·rw[h3 j (by rw[bA];omega),hfold.2 j]
     rw[aF (by omega)]
    ·rcases az.1 hl with hl|hl
     ·exact hdf l hl
     ·exact h5 l hl
    ·cases a with
     | zero =>
       simp only[bp,ag]at hz
       subst hz
       have hj:j<te.size:=by have:=(am.1 hd).1;rw[bY]at this;exact this
       have hjd:j<ds.length:=by omega
       have hv:(ρ x).cells[j]?=some ((ρ x).cells[j]'(by rw[hsz];exact hj)):=by simp[hsz,hj]
       refine⟨_,?_,((RelD.le (hlg j _ _ (ai hjd) hd) (hdr j _ _ (ai hjd) hv)).ext hKF1 (λ _ _=>rfl))⟩
       rw[fh,h3 _ (by rw[bA];omega),hfold.2]
       rw[aE (by simp[hsz];omega)]
       simp only[fh,Nat.add_sub_cancel_left,bw]
       exact hv
     | succ a =>
       obtain⟨v,hv,hr⟩:=h6 a z j d (by simpa using hz) hd
       refine⟨v,?_,hr.ext hKF2 (λ _ _=>rfl)⟩
       rw[show i+(a+1)=i+1+a by omega];exact hv
theorem tb (hM:Mem E w K m H free)(hfr:free nm)(hρ:∀ x,Rel w K m H (ρA x) (ρ x)){t:TypeId}{len:Nat}{parts:Array (Nat×Operand)}(ho:o.op=.buildSlice t len parts)(he:opE P C ρA H nm o=some e)(hn:e.zF) :
  Ran P E ρ o w K m H free nm e:=by
 simp only[opE,ho,aa]at he
 obtain⟨el,hel,te,hte,he⟩:=he
 have hu:=il hel
 cases hb:(fy P el==some te.size&&parts.size==len&&Nat.ble (len*te.size) 1000&&ly P el te)
 ·simp[hb]at he
 ·simp only[hb,aG,ac,Prod.exists]at he
  obtain⟨xs,p,fz,hbd,rfl⟩:=he
  simp only[aO,bD]at hb
  obtain⟨⟨⟨hsz,hps⟩,hle⟩,hz⟩:=hb
  have hle:=aV hle
  simp only[fy,ac]at hsz
  obtain⟨inf,hinf,hsz⟩:=hsz
  obtain⟨z,hz1,hz2⟩:∃ z,inf.zero=some z/\z.cells.size=te.size:=by
   unfold ly at hz
   rw[hinf]at hz
   simp only at hz
   split at hz
   ·exact⟨_,‹_›,by simpa using hz⟩
   ·cases hz
  obtain⟨cs0,hcs0,hrun0⟩:∃ cs0:Array Value,cs0.size=len*te.size/\∀ us,Instr.fill (λ i=>some (i*te.size,te.size)) cs0 (parts.toList.map λ q=>(q.1,ρ q.2))=some us ->
    (Instr.buildSlice t len (parts.map λ(i,x)=>(i,ρ x))).run P w=.ok (.slice (some ⟨w.heap.size,0,none⟩) len len) (w.alloc (.cells us el)):=by
   have hl:(Array.map (λ(x:Nat×Operand)=>(match x with|(i,x)=>(i,ρ x))) parts).toList=parts.toList.map λ p=>(p.1,ρ p.2):=by simp
   have h24:¬ (len*te.size>2^24):=by omega
   by_cases h0:len*te.size=0
   ·refine⟨(Array.range (len*te.size)).map ((#[]:Array Value)[· % (#[]:Array Value).size]!),by simp,λ us hus=>?_⟩
    simp only[Instr.buildSlice,Sem.run_bind,run_underlying hu,Result.andThen_ok,cQ hinf,hsz]
    rw[aF h24,aE h0]
    simp only[Sem.run_bind,Sem.run_pure,Result.andThen_ok,hl]
    rw[hus]
    simp[newRow]
   ·refine⟨(Array.range (len*te.size)).map (z.cells[· % z.cells.size]!),by simp,λ us hus=>?_⟩
    have hzv:(zeroValue el).run P w=.ok z w:=by simp[zeroValue,typeInfo,hinf,hz1]
    simp only[Instr.buildSlice,Sem.run_bind,run_underlying hu,Result.andThen_ok,cQ hinf,hsz]
    rw[aF h24,aF h0]
    simp only[Sem.run_bind,Sem.run_pure,Result.andThen_ok,hl,hzv]
    rw[hus]
    simp[newRow]
  obtain⟨us,h1,h2,_,h4,h5,h6⟩:=wD hM te (places:=λ i=>some (i*te.size,te.size)) (λ i=>rfl) hρ parts.toList 0 len cs0 xs p fz hbd hn hcs0 (by simpa using hps)
  have hrun:=hrun0 us h1
  obtain⟨K1,g1,e1,hk1⟩:=Mem.gives fz hM
  have hKF:=mj e1.hK h5 hk1
  have hxl:xs.length=len:=by rw[h4];simpa using hps
  obtain⟨g2,e2⟩:=g1.new hfr us el (.row el te xs) (λ w' m' H' e' hm hw=>.inr ⟨w.heap.size,us,hm,hw,by rw[h2,hcs0,hxl];exact aI _,λ i x j d hx hd=>by
   obtain⟨v,hv,hr⟩:=h6 i x j d hx hd
   rw[cE]at hv
   exact⟨v,hv,hr.ext (λ b hb=>e'.hK b (hKF b hb)) (λ b hb=>e'.keep b (hKF b hb))⟩⟩)
  have happ:H.app ((fz.map λ k=>(k,none))++[(nm,some (.row el te xs))])=(H.app (fz.map λ k=>(k,none))).put nm (some (.row el te xs)):=by simp[Heap.app]
  refine⟨_,.slice (some ⟨w.heap.size,0,none⟩) len len,w.alloc (.cells us el),K1,upd m nm (some w.heap.size),?_,.inl rfl,?_,?_,?_⟩
  ·simp only[execOp,ho]
   exact fD hrun
  ·simp only[happ]
   refine .own _ _ _ _ _ (bG _ _ _) (λ T ys hy=>?_) (aI _) ⟨el,us.size,?_,by rw[h2,hcs0];exact aI _⟩
   ·rw[Heap.get_put_self]at hy;cases hy;exact hxl.symm
   ·have hh:=qd w (.cells us el)
    unfold World.shape?
    rw[hh]
  ·simp only[happ];exact g2
  ·simp only[happ];exact e1.trans e2
theorem Mw (hM:Mem E w K m H free)(hρ:∀ x,Rel w K m H (ρA x) (ρ x)){args:Array Operand}{ts:Array TypeId}(ho:o.op=.call { callee:=.builtin .len,args:=args,argTypes:=ts })(he:opE P C ρA H nm o=some e)(hn:e.zF) :
  Ran P E ρ o w K m H free nm e:=by
 simp only[opE,ho]at he
 split at he
 ·rename_i t x hts hargs
  have hta:ts=#[t]:=by rw[<-cU (xs:=ts),hts]
  have haa:args=#[x]:=by rw[<-cU (xs:=args),hargs]
  subst hta;subst haa
  have hr:=hρ x
  have exec:∀ {u:Value},(Builtin.len_ #[t] o.type #[ρ x]).run P w=.ok u w->(execOp ρ o).run P w=.ok (.value u) w:=by
   intro u h
   simp only[execOp,ho,resolve,Sem.run_bind,Sem.run_pure,Result.andThen_ok,invoke,builtin]
   simp only[List.map_toArray,bn,dD,h,Result.andThen_ok]
  split at he
  ·rename_i s ha
   rw[ha]at hr
   have ex:=cw hr
   split at he
   ·rename_i hu
    exact bW he hM (exec (by simp[Builtin.len_,run_underlying hu,ex,goInt])) (.d _ _ (.v _))
   ·cases he
  ·split at he
   ·rename_i el hu
    simp only[ac,Prod.exists]at he
    obtain⟨n,p,r,hlen,rfl⟩:=he
    have hval:∃ a c,ρ x=.slice a n c:=by
     generalize ρA x=av at hr hlen
     generalize ρ x=v at hr
     cases hr with
     | d y v h =>
       cases h with
       | v =>
         unfold AV.len? at hlen
         split at hlen<;>simp_all
       | f=>simp[AV.len?]at hlen
       | sl0=>simp[AV.len?]at hlen;exact⟨_,_,by rw[hlen.1]⟩
       | sl=>simp[AV.len?]at hlen;exact⟨_,_,by rw[hlen.1]⟩
     | fl t' xs a n' h =>
       simp[AV.len?]at hlen
       cases h<;>exact⟨_,_,by rw[<-hlen.1]<;>rfl⟩
     | own0 l t' a hm =>
       simp only[AV.len?]at hlen
       split at hlen
       ·rename_i T t2 xs hg
        split at hlen
        ·simp only[ag,bB]at hlen
         rcases hM.heap l _ hg with⟨_,hx⟩|⟨b',cs,hm',_⟩
         ·subst hx;exact⟨_,_,by rw[<-hlen.1];rfl⟩
         ·rw[hm]at hm';cases hm'
        ·cases hlen
       ·cases hlen
     | own l t' b n' cap hm hl hcap hs =>
       simp only[AV.len?]at hlen
       split at hlen
       ·rename_i T t2 xs hg
        split at hlen
        ·rename_i ht;subst ht
         simp only[ag,bB]at hlen
         exact⟨_,_,by rw[hl T xs hg,hlen.1]⟩
        ·cases hlen
       ·cases hlen
     | view0=>simp[AV.len?]at hlen;exact⟨_,_,by rw[<-hlen.1]⟩
     | view=>simp[AV.len?]at hlen;exact⟨_,_,by rw[<-hlen.1]⟩
     | _=>simp[AV.len?]at hlen
    obtain⟨a,c,hv⟩:=hval
    exact Ran.same hM (exec (by simp[Builtin.len_,run_underlying hu,hv,goInt])) (.d _ _ (.v _))
   ·cases he
 ·cases he
end Go.VL
namespace Go.VL
variable {P:Program} {C:cd} {E:Entry} {w:World} {K:Nat->Prop} {m:Nat->Option (Option Nat)} {H:Heap} {free:Nat->Prop}
 {ρA:Operand->AV} {ρ:Operand->Value} {o:Oper} {nm:Nat} {e:Eff}
theorem sv {d:D}{v:Value}(h:eqZ d v=true):RelD w K d v:=by
 unfold eqZ at h
 split at h
 ·rename_i k a k' b
  simp only[aO,bC,bD]at h
  obtain⟨rfl,rfl⟩:=h
  exact .v _
 ·rename_i a b
  have:a=b:=by simpa using h
  subst this;exact .v _
 ·exact .sl0 _ none 0
 ·cases h
theorem Nm {d:D}{v:Value}(h:eqZ d v=true):v.oneCell'=true:=by
 unfold eqZ at h
 split at h
 ·rfl
 ·rfl
 ·rfl
 ·cases h
theorem qk:∀ {ds:List D} {vs:List Value},Kt ds vs=true->ds.length=vs.length/\∀ (j:Nat) d v,ds[j]?=some d->vs[j]?=some v->eqZ d v=true
 | [],[],_=>⟨rfl,λ j d v h=>by simp at h⟩
 | [],_::_,h=>by cases h
 | _::_,[],h=>by cases h
 | d :: ds, v :: vs, h => by
   simp only[Kt,aO]at h
   obtain⟨h1,h2⟩:=qk h.2
   refine⟨by simp[h1],λ j d' v' hd hv=>?_⟩
   cases j with
   | zero=>simp only[bp,ag]at hd hv;subst hd;subst hv;exact h.1
   | succ j=>exact h2 j d' v' (by simpa using hd) (by simpa using hv)
theorem Mem.same (h:Mem E w K m H free){H':Heap}(hH:∀ l,H'.get l=H.get l):Mem E w K m H' free/\Ext w K m H w K m H':=by
 have e:Ext w K m H w K m H':=⟨λ _ h=>h,λ _ _=>rfl,λ _ _ h=>h,λ _ _ h=>h,λ l T t xs _ hx=>⟨xs,by rw[<-hH];exact hx,rfl⟩⟩
 exact⟨{ h with
  heap:=λ l b hb=>BlkRel.ext e (h.heap l b (by rw[<-hH];exact hb)) (λ _ _=>rfl)
  own:=λ l b c hb=>h.own l b c (by rw[<-hH];exact hb)
  inj:=λ l l' b b' c hb hb'=>h.inj l l' b b' c (by rw[<-hH];exact hb) (by rw[<-hH];exact hb') },e⟩
theorem Gl (hM:Mem E w K m H free)(hρ:∀ x,Rel w K m H (ρA x) (ρ x)){args:Array Operand}{ts:Array TypeId}(ho:o.op=.call { callee:=.builtin .clear,args:=args,argTypes:=ts })(he:opE P C ρA H nm o=some e)(hn:e.zF) :
  Ran P E ρ o w K m H free nm e:=by
 simp only[opE,ho]at he
 split at he
 ·rename_i t x hts hargs
  have hta:ts=#[t]:=by rw[<-cU (xs:=ts),hts]
  have haa:args=#[x]:=by rw[<-cU (xs:=args),hargs]
  subst hta;subst haa
  have hr:=hρ x
  have exec:∀ {u:Value} {w':World},(Builtin.clear_ #[t] o.type #[ρ x]).run P w=.ok u w'->(execOp ρ o).run P w=.ok (.value u) w':=by
   intro u w' h
   simp only[execOp,ho,resolve,Sem.run_bind,Sem.run_pure,Result.andThen_ok,invoke,builtin]
   simp only[List.map_toArray,bn,dD,h,Result.andThen_ok]
  obtain⟨el,hel,he⟩:=aa.1 he
  obtain⟨te,hte,he⟩:=aa.1 he
  have hu:=il hel
  cases hz:oQ P el te
  ·rw[hz]at he;cases he
  rw[hz]at he
  simp only[aG]at he
  unfold KO at he
  split at he
  ·rename_i l t' off len hx
   rw[hx]at hr
   split at he
   ·rename_i ht
    subst ht
    split at he
    ·rename_i T t2 xs hg
     split at he
     ·rename_i h2
      subst h2
      cases he
      simp only at hn ⊢
      have hsplx:off+(List.replicate len t2.dflt).length<=xs.length:=by simpa using hn
      have nothing:len=0->(Builtin.clear_ #[t] o.type #[ρ x]).run P w=.ok (.tuple #[]) w->Ran P E ρ o w K m H free nm ⟨.tup [],off+len<=xs.length,[l],[(l,some (.row T t2 (dV xs off (List.replicate len t2.dflt))))]⟩:=by
       intro hl hrun
       subst hl
       have e1:dV xs off (List.replicate 0 t2.dflt)=xs:=by simp[dV]
       obtain⟨g1,g2⟩:=hM.same (H':=H.put l (some (.row T t2 (dV xs off (List.replicate 0 t2.dflt))))) (λ k=>by
        by_cases hk:k=l
        ·subst hk;rw[Heap.get_put_self,e1,hg]
        ·rw[Heap.get_put H hk])
       exact⟨_,_,w,K,m,exec hrun,.inl rfl,.tup [] #[] rfl (λ i a v h=>by simp at h),g1.weaken (λ _ hl=>hl.1),g2⟩
      generalize hgv:ρ x=rx at hr
      cases hr with
      | view0 _ _ _ a =>
        refine nothing rfl ?_
        rw[hgv]
        cases a<;>simp[Builtin.clear_,run_underlying hu]
      | view _ _ b _ _ cap hm hcap hsh =>
        by_cases hl0:len=0
        ·refine nothing hl0 ?_
         rw[hgv];subst hl0
         simp[Builtin.clear_,run_underlying hu]
        ·rcases hM.heap l _ hg with⟨hm',_⟩|⟨b',cs,hm',hw,hs,hrel⟩
         ·rw[hm]at hm';cases hm'
         rw[hm]at hm';cases hm'
         unfold oQ at hz
         split at hz
         ·rename_i i hi
          split at hz
          ·rename_i z hzz
           obtain⟨hzl,hzg⟩:=qk hz
           rw[bY,bl]at hzl
           have hzc:(Builtin.zeroCells z.cells len).toList.length=len*t2.size:=by
            rw[bl,size_zeroCells,hzl]
           have hzget:∀ q v,(Builtin.zeroCells z.cells len).toList[q]?=some v->0<t2.size/\q<len*t2.size/\z.cells[q%t2.size]?=some v:=by
            intro q v hq
            have hlt:q<len*t2.size:=by
             rw[<-hzc];exact(am.1 hq).1
            have hpos:0<t2.size:=by
             rcases eR t2.size with h|h
             ·rw[h]at hlt;omega
             ·exact h
            refine⟨hpos,hlt,?_⟩
            have hm1:q%t2.size<z.cells.size:=by rw[<-hzl];exact kU _ hpos
            simp only[Builtin.zeroCells,bw,kY]at hq
            rw[Array.getElem?_range,aE (by rw[<-hzl];exact hlt)]at hq
            simp only[bt,ag]at hq
            rw[<-hzl]at hq
            rw[<-hq,getElem!_pos z.cells (q%t2.size) hm1]
            exact bV hm1
           have hone:∀ u∈(Builtin.zeroCells z.cells len).toList,u.oneCell'=true:=by
            intro u hu
            obtain⟨q,hq,rfl⟩:=dJ hu
            obtain⟨hpos,_,h3⟩:=hzget q _ (ai hq)
            have hj:q%t2.size<(enc t2 t2.dflt).length:=by rw[bY];exact kU _ hpos
            exact Nm (hzg _ _ _ (ai hj) (by rw[bw];exact h3))
           have hbound:off*t2.size+len*t2.size<=cs.size:=by
            calc off*t2.size+len*t2.size=(off+len)*t2.size:=by rw[bA]
             _<=xs.length*t2.size:=aC _ hn
             _<=cs.size:=hs
           have hst:=run_storeCells_at P b (off*t2.size) T (Builtin.zeroCells z.cells len).toList 0 cs w hw (by rw[hzc];omega) hone
           have hspl:off*t2.size+(Builtin.zeroCells z.cells len).toList.length<=cs.toList.length:=by rw[hzc];simpa using hbound
           let ncs:=(dV cs.toList (off*t2.size) (Builtin.zeroCells z.cells len).toList).toArray
           have hrun:(Builtin.clear_ #[t] o.type #[ρ x]).run P w=.ok (.tuple #[]) (w.setRow b ncs):=by
            rw[hgv]
            have hst':(storeCells ⟨b,off*t2.size,none⟩ (Builtin.zeroCells z.cells len).toList).run P w=.ok () (w.setRow b ncs):=by
             rw[hst];simp[ncs,dV,bk]
            obtain⟨len',rfl⟩:∃ q,len=q+1:=⟨len-1,by omega⟩
            simp[Builtin.clear_,run_underlying hu,zeroValue,typeInfo,hi,hzz,hst']
           obtain⟨h2,e2⟩:=hM.write hg hm (blk:=.row T t2 (dV xs off (List.replicate len t2.dflt))) (w':=w.setRow b ncs) (cs':=ncs) hw (setRow_heap w b cs ncs T _ hw)
            (by simp only[ncs];rw[cx,dg _ _ _ hspl,bl]) (λ k hk=>setRow_other w b k _ hk) ⟨rfl,rfl,rfl,by simp⟩
            (λ T' t2 ys hx=>by cases hx;exact⟨xs,rfl,(dg _ _ _ hsplx).symm⟩)
            (λ H' e'=>by
             refine .inr ⟨b,ncs,hm,setRow_heap w b cs ncs T _ hw,by simp only[ncs];rw[cx,dg _ _ _ hspl,dg _ _ _ hsplx,bl];exact hs,λ k y j d hy hd=>?_⟩
             have hjs:j<t2.size:=by have:=(am.1 hd).1;rw[bY]at this;exact this
             simp only[ncs,eV]
             rw[hY _ _ _ hspl,hzc]
             rw[hY _ _ _ hsplx]at hy
             simp only[cL]at hy
             by_cases hin:off<=k/\k<off+len
             ·rw[aE hin]at hy
              have hlo:off*t2.size<=k*t2.size:=aC _ hin.1
              have hhi:k*t2.size+t2.size<=off*t2.size+len*t2.size:=by
               calc k*t2.size+t2.size=(k+1)*t2.size:=by rw[bA,eA]
                _<=(off+len)*t2.size:=aC _ (by omega)
                _=_:=by rw[bA]
              rw[aE (by omega)]
              have hyd:y=t2.dflt:=by
               have:=bu hy
               exact List.eq_of_mem_replicate this
              subst hyd
              have hq:k*t2.size+j-off*t2.size<(Builtin.zeroCells z.cells len).toList.length:=by rw[hzc];omega
              refine⟨_,ai hq,?_⟩
              obtain⟨hpos,_,h3⟩:=hzget _ _ (ai hq)
              have hmod:(k*t2.size+j-off*t2.size)%t2.size=j:=by
               have e1:k*t2.size+j-off*t2.size=j+t2.size*(k-off):=by
                have:k*t2.size=off*t2.size+(k-off)*t2.size:=by rw[<-bA];congr 1;omega
                rw[this,bO t2.size];omega
               rw[e1,Nat.add_mul_mod_self_left];exact cJ hjs
              rw[hmod]at h3
              exact sv (hzg j d _ hd (by rw[bw];exact h3))
             ·rw[aF hin]at hy
              obtain⟨v,hv,hrl⟩:=hrel k y j d hy hd
              have hout:¬ (off*t2.size<=k*t2.size+j/\k*t2.size+j<off*t2.size+len*t2.size):=by
               rcases ax k off with h|h
               ·have:k*t2.size+t2.size<=off*t2.size:=by
                 calc k*t2.size+t2.size=(k+1)*t2.size:=by rw[bA,eA]
                  _<=off*t2.size:=aC _ h
                omega
               ·have h5:off+len<=k:=by omega
                have:off*t2.size+len*t2.size<=k*t2.size:=by
                 rw[<-bA];exact aC _ h5
                omega
              rw[aF hout]
              exact⟨v,by simpa using hv,hrl.ext e'.hK e'.keep⟩)
           exact⟨_,_,w.setRow b ncs,K,m,exec hrun,.inl rfl,.tup [] #[] rfl (λ i a v h=>by simp at h),h2.weaken (λ _ hl=>hl.1),e2⟩
          ·cases hz
         ·cases hz
     ·cases he
    ·cases he
   ·cases he
  ·cases he
 ·cases he
end Go.VL
namespace Go.VL
variable {P:Program} {C:cd} {E:Entry} {w:World} {K:Nat->Prop} {m:Nat->Option (Option Nat)} {H:Heap} {free:Nat->Prop} {ρA:Operand->AV} {ρ:Operand->Value} {nm:Nat} {o:Oper} {e:Eff}
theorem uY {b:AV}{ds es:List D}{p:Prop}{fz:List Nat}(hds:oW H b.cells=some (ds,p,fz))(hle:Les ds es)(hone:∀ d∈es,d.one=true):b.known=true:=by
 cases b with
 | dead=>simp[oW,AV.cells,AV.toD]at hds
 | d z =>
   cases z with
   | v z =>
     cases z with
     | agg cs' =>
       simp only[oW,AV.cells,AV.toD,aA,bt,ag,bB]at hds
       obtain⟨rfl,_⟩:=hds
       cases hle with
       | cons h _ =>
         cases h
         have:=hone (.v (.agg cs')) (by simp)
         simp[D.one]at this
     | _=>rfl
   | _=>rfl
 | _=>rfl
theorem AY {t:Ty}(ht:t.flat=true)(x:t.ty):∃ d,enc t x=[d]:=by
 cases t<;>first|exact⟨_,rfl⟩|(simp[Ty.flat]at ht)
theorem pw (hM:Mem E w K m H free){b:AV}{t:Ty}{x:t.ty}{p:Prop}{fz:List Nat}(hb:b.toTy H t=some (x,p,fz))(hp:p){v:Value}(h:Rel w K m H b v) :
  gj w (KF K m fz) (AV.ofTy t x) v/\∀ l∈fz,∃ blk,H.get l=some blk:=by
 unfold AV.toTy at hb
 cases hag:(b.isAgg == !t.flat)
 ·simp[hag]at hb
 simp only[hag,aG,aa,ac,Prod.exists]at hb
 obtain⟨ds,p',fz',hds,y,hy,he⟩:=hb
 simp only[bB]at he
 obtain⟨rfl,rfl,rfl⟩:=he
 have hle:=ye hy
 obtain⟨hll,hlg⟩:=hle.get
 rw[bY]at hll
 have hkn:=uY hds hle (λ d hd=>ug hd)
 obtain⟨hxs,hxc⟩:=kt hkn h
 obtain⟨hdl,hdr,hdf⟩:=px hM hds hp hxs hxc
 refine⟨?_,hdf⟩
 have hcell:∀ (i:Nat) (d:D) (u:Value),(enc t y)[i]?=some d->v.cells[i]?=some u->RelD w (KF K m fz') d u:=by
  intro i d u hd hu
  have hi:i<ds.length:=by have:=(am.1 hd).1;rw[bY]at this;omega
  exact RelD.le (hlg i _ _ (ai hi) hd) (hdr i _ _ (ai hi) hu)
 cases hf:t.flat
 ·
  have:b.isAgg=true:=by simpa[hf]using hag
  cases b with
  | agg cs =>
    cases h with
    | agg _ vs hl hc =>
      unfold gj AV.ofTy
      simp only[hf,cf]
      refine .agg _ _ (by simp[bY,<-hll,hdl];exact hxs) (λ i a u ha hu=>?_)
      simp only[aQ,ac]at ha
      obtain⟨d,hd,rfl⟩:=ha
      exact .d _ _ (hcell i d u hd hu)
  | _=>simp[AV.isAgg]at this
 ·have hnag:b.isAgg=false:=by simpa[hf]using hag
  obtain⟨d,hd⟩:=AY hf y
  have hv1:v.cells=#[v]:=by
   have hone:v.cells.size=1:=by rw[hxs,<-hdl,hll,<-bY t y,hd];rfl
   cases v with
   | agg vs =>
     exfalso
     cases b with
     | agg=>simp[AV.isAgg]at hnag
     | dead=>simp[AV.known]at hkn
     | d z=>cases h with|d _ _ h=>cases h;simp[AV.known]at hkn
     | _=>cases h
   | _=>rfl
  unfold gj AV.ofTy
  simp only[hf,aG,hd,List.headD_cons]
  exact .d _ _ (hcell 0 d v (by rw[hd];rfl) (by rw[hv1];rfl))
theorem zx {a:AV}{v:Value}(h:gj w K a v):Rel w K m H a v:=
 h.ext ⟨λ _ h=>h,λ _ _=>rfl,λ l x hx=>by simp at hx,λ _ _ h=>h,λ l T t xs hm=>absurd rfl hm⟩
theorem FD {el:TypeId}{te:Ty}(h:yx P el te=true)(w:World)(K:Nat->Prop):∃ z,(zeroValue el).run P w=.ok z w/\gj w K (AV.ofTy te te.dflt) z:=by
 unfold yx at h
 split at h
 ·rename_i i hi
  split at h
  ·rename_i z hz
   refine⟨z,by simp[zeroValue,typeInfo,hi,hz],?_⟩
   unfold AV.ofTy
   cases hf:te.flat
   ·rw[hf]at h
    simp only[cf]at h ⊢
    split at h
    ·rename_i cs
     obtain⟨h1,h2⟩:=qk h
     refine .agg _ _ (by simp[h1]) (λ j a v ha hv=>?_)
     rw[aQ,ac]at ha
     obtain⟨d,hd,rfl⟩:=ha
     exact .d _ _ (sv (h2 j d v hd (by simpa using hv)))
    ·cases h
   ·rw[hf]at h
    exact .d _ _ (sv h)
  ·cases h
 ·cases h
theorem tu {t:TypeId}{p:TypeId×Ty}(h:At P C t=some p):∃ k,P.underlying t=some (.map k p.1)/\P.underlying k=some (.int .i64)/\yx P p.1 p.2=true:=by
 unfold At at h
 split at h
 ·rename_i k e hu
  split at h
  ·rename_i hk
   obtain⟨tv,_,h⟩:=aa.1 h
   cases hz:yx P e tv
   ·rw[hz]at h;cases h
   ·rw[hz]at h;cases h
    exact⟨k,hu,hk,hz⟩
  ·cases h
 ·cases h
theorem qV {α:Type}(n:Int):∀ (kvs:List (Int×α)) (l:List MapEntry) (i:Nat),l.length=kvs.length->(∀ (j:Nat) kv e,kvs[j]?=some kv->l[j]?=some e->e.key=.int .i64 kv.1) ->
  (Instr.findNow (.int .i64) (.int .i64 n) l i=some none/\mK n kvs=none/\∀ x,oB n x kvs=kvs++[(n,x)]) \/
  ∃ j kv e,Instr.findNow (.int .i64) (.int .i64 n) l i=some (some (i+j,e.val))/\l[j]?=some e/\kvs[j]?=some kv/\kv.1=n/\mK n kvs=some kv.2/\∀ x,oB n x kvs=kvs.set j (n,x)
 | [],[],i,_,_=>.inl ⟨rfl,rfl,λ _=>rfl⟩
 | [],_::_,_,h,_=>by simp at h
 | _::_,[],_,h,_=>by simp at h
 | kv :: kvs, e :: l, i, hl, hk => by
   have he:e.key=.int .i64 kv.1:=hk 0 kv e rfl rfl
   have hs:Instr.sameNow (.int .i64) (.int .i64 n) e.key=some (n==kv.1):=by rw[he];rfl
   by_cases h:kv.1=n
   ·refine .inr ⟨0,kv,e,?_,rfl,rfl,h,?_,λ x=>?_⟩
    ·have:(n==kv.1)=true:=by simpa using h.symm
     simp[Instr.findNow,hs,this]
    ·simp[mK,h]
    ·simp[oB,h]
   ·have h1:(n==kv.1)=false:=by simpa using λ e=>h e.symm
    have h2:(kv.1==n)=false:=by simpa using h
    rcases qV n kvs l (i+1) (by simpa using hl) (λ j kv e a b=>hk (j+1) kv e (by simpa using a) (by simpa using b))with⟨a,b,c⟩|⟨j,kv',e',a,b,c,d,f,g⟩
    ·refine .inl ⟨by simp[Instr.findNow,hs,h1,a],by simp[mK,h2,b],λ x=>by simp[oB,h2,c]⟩
    ·refine .inr ⟨j+1,kv',e',?_,by simpa using b,by simpa using c,d,by simp[mK,h2,f],λ x=>by simp[oB,h2,g]⟩
     simp[Instr.findNow,hs,h1,a];omega
theorem zX (hM:Mem E w K m H free)(hn:free nm){t:TypeId}(ho:o.op=.makeMap t none)(he:opE P C ρA H nm o=some e):Ran P E ρ o w K m H free nm e:=by
 simp only[opE,ho,tw,ac]at he
 obtain⟨p,hp,rfl⟩:=he
 obtain⟨h1,h2⟩:=hM.newO hn (.map #[] 0) (.mp .int p.2 []) (λ w' m' H' e' hm hw=>⟨w.heap.size,#[],0,hm,hw,rfl,λ i kv x hx _=>by simp at hx⟩)
 refine⟨_,.map (some w.heap.size),_,_,_,?_,.inl rfl,?_,h1,h2⟩
 ·simp only[execOp,ho]
  exact fD (by simp[Instr.makeMap])
 ·exact .mp _ _ (bG _ _ _)
theorem IC {l:Nat}{v:Value}(h:Rel w K m H (.mp l) v):∃ b,v=.map (some b)/\m l=some (some b):=by
 cases h with
 | mp _ b h=>exact⟨b,rfl,h⟩
theorem xJ {tv:Ty}{kvs:List (Int×tv.ty)}{es:Array MapEntry}(hr:∀ (i:Nat) (kv:Int×tv.ty) e,kvs[i]?=some kv->es[i]?=some e->gj w K (AV.ofTy .int kv.1) e.key/\gj w K (AV.ofTy tv kv.2) e.val) :
  ∀ (j:Nat) (kv:Int×tv.ty) e,kvs[j]?=some kv->es.toList[j]?=some e->e.key=.int .i64 kv.1:=λ j kv e hk he=>by
 have:=(hr j kv e hk (by simpa using he)).1
 exact cw this
theorem BW (hM:Mem E w K m H free)(hρ:∀ x,Rel w K m H (ρA x) (ρ x)){t:TypeId}{x ix:Operand}{ok:Bool}(ho:o.op=.lookup t x ix ok)(he:opE P C ρA H nm o=some e):Ran P E ρ o w K m H free nm e:=by
 simp only[opE,ho,wa,aa]at he
 obtain⟨p,hp,he⟩:=he
 obtain⟨k,hu,hk,hz⟩:=tu hp
 split at he
 ·rename_i l n hx hix
  split at he
  ·rename_i tv kvs hg
   split at he
   ·rename_i htv
    subst htv
    cases he
    have rx:=hρ x
    have ri:=hρ ix
    rw[hx]at rx;rw[hix]at ri
    obtain⟨b,ex,hm⟩:=IC rx
    have ei:=cw ri
    obtain⟨b',es,c,hm',hw,hs,hr⟩:=hM.heap l _ hg
    rw[hm]at hm';cases hm'
    have hck:(Instr.checkKey es.isEmpty 10000 k (.int .i64 n)).run P w=.ok () w:=MapKept.run_checkKey (k:=.int .i64 n) hk (by simp[MapKept.IsKey]) _ 9999
    have fin:∀ (y:p.2.ty) (b:Bool) (v:Value),(∀ i:Value,i=.int .i64 n->∃ u,(Instr.lookup t (ρ x) i ok).run P w=.ok u w/\u=if ok then .tuple #[v,.bool b]else v)->gj w K (AV.ofTy p.2 y) v ->
      Ran P E ρ o w K m H free nm ⟨bif ok then .tup [AV.ofTy p.2 y,.ofV (.bool b)]else AV.ofTy p.2 y,True,[l],[]⟩:=λ y b v hrun hv=>by
     obtain⟨u,hu1,hu2⟩:=hrun _ ei
     refine Ran.same hM (u:=u) ?_ ?_
     ·simp only[execOp,ho]
      exact fD hu1
     ·rw[hu2]
      cases ok
      ·exact zx hv
      ·refine .tup _ _ rfl (λ i a u ha hu=>?_)
       match i with
       | 0=>cases ha;cases hu;exact zx hv
       | 1=>cases ha;cases hu;exact .d _ _ (.v _)
       | i+2=>simp at ha
    rcases qV n kvs es.toList 0 (by simpa using hs) (xJ hr)with⟨f1,f2,_⟩|⟨j,kv,en,f1,f2,f3,_,f5,_⟩
    ·rw[f2]
     obtain⟨z,z1,z2⟩:=FD hz w K
     refine fin p.2.dflt false z (λ i hi=>⟨_,?_,rfl⟩) z2
     subst hi
     simp[Instr.lookup,run_underlying hu,ex,MapKept.run_getObj_map hw,hck,MapKept.run_findKey hk f1,z1,Result.andThen]
    ·rw[f5]
     refine fin kv.2 true en.val (λ i hi=>⟨_,?_,rfl⟩) (hr j kv en f3 (by simpa using f2)).2
     subst hi
     simp[Instr.lookup,run_underlying hu,ex,MapKept.run_getObj_map hw,hck,MapKept.run_findKey hk f1,Result.andThen]
   ·cases he
  ·cases he
 ·cases he
theorem ta (hM:Mem E w K m H free)(hρ:∀ x,Rel w K m H (ρA x) (ρ x)){t:TypeId}{x ix v:Operand}(ho:o.op=.mapUpdate t x ix v\/o.op=.insert t x ix v)(he:mA P C H t (ρA x) (ρA ix) (ρA v)=some e)(hn:e.zF):Ran P E ρ o w K m H free nm e:=by
 simp only[mA,aa]at he
 obtain⟨p,hp,he⟩:=he
 obtain⟨k,hu,hk,hz⟩:=tu hp
 split at he
 ·rename_i l n hx hix
  split at he
  ·rename_i tv kvs hg
   split at he
   ·rename_i htv
    subst htv
    obtain⟨⟨y,q,fz⟩,hq,he⟩:=aa.1 he
    simp only at he
    cases hf:fz.isEmpty
    ·rw[hf]at he;cases he
    rw[hf]at he
    cases he
    have hfz:fz=[]:=by simpa using hf
    subst hfz
    have rx:=hρ x
    have ri:=hρ ix
    rw[hx]at rx;rw[hix]at ri
    obtain⟨b,ex,hm⟩:=IC rx
    have ei:=cw ri
    obtain⟨ry,_⟩:=pw hM hq hn (hρ v)
    have ry:gj w K (AV.ofTy p.2 y) (ρ v):=ry.ext ⟨λ b hb=>hb.elim id (λ⟨l,hl,_⟩=>by simp at hl),λ _ _=>rfl,λ _ _ h=>h,λ _ _ h=>h,λ l T t xs hm=>absurd rfl hm⟩
    obtain⟨b',es,c,hm',hw,hs,hr⟩:=hM.heap l _ hg
    rw[hm]at hm';cases hm'
    have hck:(Instr.checkKey false 10000 k (.int .i64 n)).run P w=.ok () w:=MapKept.run_checkKey (k:=.int .i64 n) hk (by simp[MapKept.IsKey]) _ 9999
    have fin:∀ (es':Array MapEntry) (c':Nat),(Instr.mapUpdate t (ρ x) (ρ ix) (ρ v)).run P w=.ok () { w with heap:=w.heap.setIfInBounds b (.map es' c') }->es'.size=(oB n y kvs).length ->
      (∀ (i:Nat) (kv:Int×p.2.ty) e,(oB n y kvs)[i]?=some kv->es'[i]?=some e->gj w K (AV.ofTy .int kv.1) e.key/\gj w K (AV.ofTy p.2 kv.2) e.val) ->
      Ran P E ρ o w K m H free nm ⟨.dead,q,[l],[(l,some (.mp .int p.2 (oB n y kvs)))]⟩:=λ es' c' hrun hsz hrel=>by
     have hlt:b<w.heap.size:=by
      rcases ax b w.heap.size with h|h
      ·exact h
      ·rw[bZ h]at hw;cases hw
     have hnew:({ w with heap:=w.heap.setIfInBounds b (.map es' c') }:World).heap[b]?=some (.map es' c'):=by simp[hlt]
     obtain⟨M,ee⟩:=hM.writeO (w':={ w with heap:=w.heap.setIfInBounds b (.map es' c') }) (blk:=.mp .int p.2 (oB n y kvs)) hg hm (by unfold World.shape?;rw[hw,hnew]) (λ i hi=>by show(w.heap.setIfInBounds b (.map es' c'))[i]?=_;rw[fV,aF (Ne.symm hi)]) ⟨rfl,rfl,rfl,by simp⟩ (λ T t xs h=>by cases h)
      (λ H' e'=>⟨b,es',c',hm,hnew,hsz,λ i kv en h1 h2=>⟨(hrel i kv en h1 h2).1.ext e'.bare,(hrel i kv en h1 h2).2.ext e'.bare⟩⟩)
     refine⟨.skip,undef,_,K,m,?_,.inr ⟨rfl,rfl⟩,.dead _,M.weaken (λ _ hl=>hl.1),ee⟩
     rcases ho with ho|ho<;>(simp only[execOp,ho];exact Iw hrun)
    rcases qV n kvs es.toList 0 (by simpa using hs) (xJ hr)with⟨f1,_,f3⟩|⟨j,kv,en,f1,f2,f3,f4,_,f6⟩
    ·refine fin (es.push { key:=.int .i64 n,val:=ρ v,born:=c }) (c+1) ?_ (by rw[f3];simpa using hs) (λ i kv e hi h2=>?_)
     ·rw[ex,ei]
      simp[Instr.mapUpdate,run_underlying hu,MapKept.run_getObj_map hw,hck,MapKept.run_findKey hk f1,MapKept.run_setObj_map _ hw,Result.andThen]
     ·rw[f3]at hi
      rw[bv]at hi
      rw[Array.getElem?_push]at h2
      by_cases hlt:i<kvs.length
      ·rw[aE hlt]at hi
       rw[aF (by omega)]at h2
       exact hr i kv e hi h2
      ·rw[aF hlt]at hi
       have hi0:i=es.size:=by
        have:=(am.1 hi).1
        simp only[af,ak]at this;omega
       rw[aE hi0]at h2
       have hii:i-kvs.length=0:=by omega
       rw[hii]at hi
       cases hi;cases h2
       exact⟨.d _ _ (.v _),ry⟩
    ·have hen:en.key=.int .i64 n:=by rw[xJ hr j kv en f3 f2,f4]
     have hjl:j<es.size:=by have:=(am.1 f2).1;simpa using this
     have hej:es[j]?=some en:=by simpa using f2
     refine fin (es.modify (0+j) λ e=>{ e with key:=.int .i64 n,val:=ρ v }) c ?_ (by rw[f6];simpa using hs) (λ i kv' e hi h2=>?_)
     ·rw[ex,ei]
      have hks:(Instr.keyThatStays (.int .i64 n) (.int .i64 n)).run P w=.ok (.int .i64 n) w:=MapKept.run_keyThatStays (d:=.int .i64) (by simp[MapKept.IsKey])
      have hkk:((es[0+j]?).map (·.key)).getD (.int .i64 n)=.int .i64 n:=by rw[cE,hej];exact hen
      simp only[Instr.mapUpdate,Sem.run_bind,run_underlying hu,Result.andThen_ok,MapKept.run_getObj_map hw,hck,MapKept.run_findKey hk f1,hkk,hks,MapKept.run_setObj_map _ hw]
     ·rw[f6,aP]at hi
      rw[cE,iY]at h2
      by_cases hij:j=i
      ·subst hij
       rw[aE rfl]at hi h2
       split at hi
       ·cases hi
        rw[hej]at h2
        cases h2
        exact⟨.d _ _ (.v _),ry⟩
       ·cases hi
      ·rw[aF hij]at hi h2
       exact hr i kv' e hi h2
   ·cases he
  ·cases he
 ·cases he
end Go.VL
namespace Go.VL
variable {P:Program} {C:cd} {E:Entry} {w:World} {K:Nat->Prop} {m:Nat->Option (Option Nat)} {H:Heap} {free:Nat->Prop}
 {ρA:Operand->AV} {ρ:Operand->Value} {o:Oper} {nm:Nat} {e:Eff}
theorem uM (hM:Mem E w K m H free)(hfr:free nm)(hρ:∀ x,Rel w K m H (ρA x) (ρ x)){t:TypeId}{l c:Operand}(ho:o.op=.makeSlice t l c)(he:opE P C ρA H nm o=some e)(hn:e.zF) :
  Ran P E ρ o w K m H free nm e:=by
 simp only[opE,ho,DU,aa]at he
 obtain⟨el,hel,te,hte,i,hi,n,hl,m',hc,he⟩:=he
 have hu:=il hel
 obtain⟨kl,hlv⟩:=hI hl (hρ l)
 obtain⟨kc,hcv⟩:=hI hc (hρ c)
 cases hz:(oQ P el te&&i.size==te.size)
 ·rw[hz]at he;cases he
 rw[hz]at he
 cases he
 obtain⟨h0,hnm,hb⟩:=hn
 simp only[aO,bD]at hz
 obtain⟨hz,hsz⟩:=hz
 unfold oQ at hz
 rw[hi]at hz
 simp only at hz
 split at hz
 ·rename_i z hzz
  obtain⟨hzl,hzg⟩:=qk hz
  rw[bY,bl]at hzl
  have hle:m'.toNat<=m'.toNat*(i.bytes+1):=Nat.le_mul_of_pos_right _ (by omega)
  have hbytes:(i.bytes:Int)*m'<=281474976710656:=by
   have h1:m'.toNat*i.bytes<=m'.toNat*(i.bytes+1):=ch _ (by omega)
   have h2:((i.bytes*m'.toNat:Nat):Int)<=281474976710656:=by rw[bO];omega
   rw[jY,aK (by omega:0<=m')]at h2
   exact h2
  have hrun:=run_make (P:=P) w t el i z hu hi hzz kl kc n m' h0 hnm hbytes (by omega)
  rw[hsz]at hrun
  have hget:∀ (a j:Nat) d,a<n.toNat->(enc te te.dflt)[j]?=some d->∃ v,(madeCells z.cells (m'.toNat*te.size))[a*te.size+j]?=some v/\RelD w K d v:=by
   intro a j d ha hd
   have hj:j<te.size:=by rw[<-bY te te.dflt];exact(am.1 hd).1
   have hlt:a*te.size+j<m'.toNat*te.size:=by
    calc a*te.size+j<a*te.size+te.size:=by omega
     _=(a+1)*te.size:=by rw[bA,eA]
     _<=m'.toNat*te.size:=aC _ (by omega)
   have hm1:(a*te.size+j)%te.size=j:=by rw[bO,na,cJ hj]
   have hj2:j<z.cells.size:=by omega
   refine⟨z.cells[j],?_,sv (hzg j d _ hd (by rw[bw];exact bV hj2))⟩
   unfold madeCells
   rw[kY,Array.getElem?_range,aE hlt]
   simp only[bt,ag]
   rw[<-hzl,hm1,getElem!_pos z.cells j hj2]
  have hsize:=size_madeCells z.cells (m'.toNat*te.size)
  obtain⟨g2,e2⟩:=hM.new hfr (madeCells z.cells (m'.toNat*te.size)) el (.row el te (List.replicate n.toNat te.dflt)) (λ w' m' H' e' hm hw=>.inr ⟨w.heap.size,_,hm,hw,by rw[hsize,cL];exact aC _ (by omega),λ a x j d hx hd=>by
   rw[dq]at hx
   split at hx
   ·rename_i ha
    cases hx
    obtain⟨v,hv,hr⟩:=hget a j d ha hd
    exact⟨v,hv,hr.ext e'.hK e'.keep⟩
   ·cases hx⟩)
  refine⟨_,.slice (some ⟨w.heap.size,0,none⟩) n.toNat m'.toNat,w.alloc (.cells (madeCells z.cells (m'.toNat*te.size)) el),K,upd m nm (some w.heap.size),?_,.inl rfl,?_,?_,?_⟩
  ·simp only[execOp,ho]
   rw[hlv,hcv]
   exact fD hrun
  ·show Rel _ _ _ (H.put nm (some (.row el te (List.replicate n.toNat te.dflt)))) _ _
   refine .own _ _ _ _ _ (bG _ _ _) (λ T ys hy=>?_) (by omega) ⟨el,(madeCells z.cells (m'.toNat*te.size)).size,?_,by rw[hsize];exact aI _⟩
   ·rw[Heap.get_put_self]at hy;cases hy;exact(cL ..).symm
   ·have hh:=qd w (.cells (madeCells z.cells (m'.toNat*te.size)) el)
    unfold World.shape?
    rw[hh]
  ·exact g2
  ·exact e2
 ·cases hz
end Go.VL
namespace Go.VL
variable {P:Program} {C:cd} {E:Entry} {w:World} {K:Nat->Prop} {m:Nat->Option (Option Nat)} {H:Heap} {free:Nat->Prop} {nm:Nat} {o:Oper}
 {ρ:Operand->Value} {ρA:Operand->AV} {e:Eff}
theorem iG {b:Builtin}{args:Array Operand}{ts:Array TypeId}(ho:o.op=.call { callee:=.builtin b,args:=args,argTypes:=ts }){nx:Next}{w':World}
  (h:∀ cs,(builtin b ts o.type cs (args.map ρ)).run P w=.ok nx w'):(execOp ρ o).run P w=.ok nx w':=by
 simp only[execOp,ho,resolve,Sem.run_bind,Sem.run_pure,Result.andThen_ok,invoke]
 exact h _
theorem Mu (hM:Mem E w K m H free)(hρ:∀ x,Rel w K m H (ρA x) (ρ x)){args:Array Operand}{ts:Array TypeId}(ho:o.op=.call { callee:=.builtin .min,args:=args,argTypes:=ts })(he:opE P C ρA H nm o=some e) :
  Ran P E ρ o w K m H free nm e:=by
 simp only[opE,ho,aa]at he
 obtain⟨v,hv,he⟩:=he
 cases hl:args.toList with
 | nil=>rw[hl]at hv;simp[Jr]at hv
 | cons x l =>
   cases l with
   | nil=>rw[hl]at hv;simp[Jr]at hv
   | cons y l =>
     cases l with
     | cons z l=>rw[hl]at hv;simp[Jr]at hv
     | nil =>
       rw[hl]at hv
       have haa:args=#[x,y]:=by rw[<-cU (xs:=args),hl]
       subst haa
       simp only[bn,dD]at hv
       unfold Jr at hv
       split at hv
       ·rename_i k a k' b hab
        simp only[List.cons.injEq,ob]at hab
        simp only[ag]at hv;subst hv
        have hx:=hρ x;have hy:=hρ y
        rw[hab.1]at hx;rw[hab.2]at hy
        have ex:=cw hx;have ey:=cw hy
        refine bW he hM (u:=.int k (if b<a then b else a)) (iG ho λ cs=>?_) (.d _ _ (.v _))
        simp[builtin,Builtin.min_,Builtin.min2,ex,ey]
       ·cases hv
theorem Mv (hM:Mem E w K m H free)(hρ:∀ x,Rel w K m H (ρA x) (ρ x)){args:Array Operand}{ts:Array TypeId}(ho:o.op=.call { callee:=.builtin .max,args:=args,argTypes:=ts })(he:opE P C ρA H nm o=some e) :
  Ran P E ρ o w K m H free nm e:=by
 simp only[opE,ho,aa]at he
 obtain⟨v,hv,he⟩:=he
 cases hl:args.toList with
 | nil=>rw[hl]at hv;simp[Jt]at hv
 | cons x l =>
   cases l with
   | nil=>rw[hl]at hv;simp[Jt]at hv
   | cons y l =>
     cases l with
     | cons z l=>rw[hl]at hv;simp[Jt]at hv
     | nil =>
       rw[hl]at hv
       have haa:args=#[x,y]:=by rw[<-cU (xs:=args),hl]
       subst haa
       simp only[bn,dD]at hv
       unfold Jt at hv
       split at hv
       ·rename_i k a k' b hab
        simp only[List.cons.injEq,ob]at hab
        simp only[ag]at hv;subst hv
        have hx:=hρ x;have hy:=hρ y
        rw[hab.1]at hx;rw[hab.2]at hy
        have ex:=cw hx;have ey:=cw hy
        refine bW he hM (u:=.int k (if b>a then b else a)) (iG ho λ cs=>?_) (.d _ _ (.v _))
        simp[builtin,Builtin.max_,Builtin.max2,ex,ey]
       ·cases hv
theorem gP {t:Ty}{xs ys:List t.ty}{olds news:List Value}{cs:Array Value}{n m':Nat}(hn:n=xs.length)(hm:m'=ys.length)(hol:olds.length=n*t.size)(hnl:news.length=m'*t.size)
  (ho:∀ i x j d,xs[i]?=some x->(enc t x)[j]?=some d->∃ v,olds[i*t.size+j]?=some v/\RelD w K d v) (hnw:∀ i x j d,ys[i]?=some x->(enc t x)[j]?=some d->∃ v,news[i*t.size+j]?=some v/\RelD w K d v)
  (hv:∀ k,k<(n+m')*t.size->cs[k]?=(olds++news)[k]?):Oz w K t (xs++ys) cs:=by
 intro i x j d hx hd
 have hj:j<t.size:=by have:=(am.1 hd).1;rw[bY]at this;exact this
 have hi:i<n+m':=by have:=(am.1 hx).1;simp at this;omega
 have hlt:i*t.size+j<(n+m')*t.size:=by
  calc i*t.size+j<i*t.size+t.size:=by omega
   _=(i+1)*t.size:=by rw[bA,eA]
   _<=(n+m')*t.size:=aC _ hi
 rw[hv _ hlt]
 rw[bv]at hx
 split at hx
 ·rename_i hlt'
  obtain⟨v,hv',hr⟩:=ho i x j d hx hd
  refine⟨v,?_,hr⟩
  rw[bJ (am.1 hv').1]
  exact hv'
 ·rename_i hge
  obtain⟨v,hv',hr⟩:=hnw (i-xs.length) x j d hx hd
  refine⟨v,?_,hr⟩
  have hle:n*t.size<=i*t.size:=aC _ (by omega)
  rw[bP (by omega),hol,<-hv',<-hn,Nat.sub_mul]
  congr 1;omega
theorem oY {t:Ty}{s:List t.ty}{rd:List Nat}{a:Option Addr}{n cap:Nat}(h:SlRel w K m H rd t s a n cap) :
  ∃ news:List Value,news.length=n*t.size/\(∀ v∈news,v.oneCell'=true)/\((a=none/\n=0)\/∃ ad,a=some ad/\∀ j v,news[j]?=some v->w.cell? (ad.add j)=some v) /\
   ∀ i x j d,s[i]?=some x->(enc t x)[j]?=some d->∃ v,news[i*t.size+j]?=some v/\RelD w K d v:=by
 by_cases hs:s=[]
 ·subst hs
  have hn:n=0:=by rw[h.len];rfl
  subst hn
  refine⟨[],by simp,λ v hv=>by simp at hv,?_,λ i x j d hx=>by simp at hx⟩
  cases a with
  | none=>exact .inl ⟨rfl,rfl⟩
  | some ad=>exact .inr ⟨ad,rfl,λ j v hj=>by simp at hj⟩
 ·obtain⟨b,off,rfl,_,hr⟩:=h.addr hs
  obtain⟨vs,h1,h2,h3,h4⟩:=hr.values
  exact⟨vs,by rw[h1,h.len],h3,.inr ⟨_,rfl,h2⟩,h4⟩
theorem qi (hM:Mem E w K m H free)(hfr:free nm){H0:Heap}(hM0:Mem E w K m H0 free)(hE0:Ext w K m H w K m H0){el:TypeId}{te:Ty}{zs:List te.ty}{cs:Array Value}{n' cap':Nat}
  (hrow:Oz w K te zs cs) (hn:n'=zs.length) (hc:n'<=cap') (hcap:cap'*te.size<=cs.size) :
  ∃ m',Rel (w.drew.alloc (.cells cs el)) K m' (H0.put nm (some (.row el te zs))) (.own nm te) (.slice (some ⟨w.heap.size,0,none⟩) n' cap') /\
   Mem E (w.drew.alloc (.cells cs el)) K m' (H0.put nm (some (.row el te zs))) (λ l=>free l/\l≠nm)/\Ext w K m H (w.drew.alloc (.cells cs el)) K m' (H0.put nm (some (.row el te zs))):=by
 have hsz:zs.length*te.size<=cs.size:=by rw[<-hn];exact bj (aC _ hc) hcap
 obtain⟨g1,e1⟩:=hM0.drew.new hfr cs el (.row el te zs) (λ w' m' H' e' hm hw=>.inr ⟨w.heap.size,cs,hm,hw,hsz,λ i x j d hx hd=>by
  obtain⟨v,hv,hr⟩:=hrow i x j d hx hd
  exact⟨v,hv,(RelD.ext (w:=w) (w':=w.drew) (K':=K) (λ _ h=>h) (λ _ _=>rfl) hr).ext e'.hK e'.keep⟩⟩)
 refine⟨_,.own _ _ _ _ _ (bG _ _ _) (λ T ys hy=>?_) hc ⟨el,cs.size,?_,hcap⟩,g1,hE0.trans ((Ext.drew w K m H0).trans e1)⟩
 ·rw[Heap.get_put_self]at hy;cases hy;exact hn
 ·have hh:=qd w.drew (.cells cs el)
  unfold World.shape?
  show(match(w.drew.alloc (.cells cs el)).heap[w.drew.heap.size]? with|some (.cells c elem _)=>some (elem,c.size)|_=>none)=_
  rw[hh]
theorem Lv (w:World)(t ty e:TypeId)(i:TypeInfo)(ht:P.underlying t=some (.slice e))(hi:P.info? e=some i)(a a1:Option Addr)(c:Nat) :
  (Builtin.append_ #[t,t] ty #[.slice a 0 0,.slice a1 0 c]).run P w=.ok (.slice a 0 0) w:=by
 cases a<;>cases a1<;>simp[Builtin.append_,run_underlying ht,sizeOf,typeInfo,hi,Builtin.lenOf,Builtin.firstCells,storeCells,loadCells,loadCellsFrom]<;>rfl
theorem BX (hM:Mem E w K m H free)(hfr:free nm)(hρ:∀ x,Rel w K m H (ρA x) (ρ x)){args:Array Operand}{ts:Array TypeId}(ho:o.op=.call { callee:=.builtin .append,args:=args,argTypes:=ts })
  (he:opE P C ρA H nm o=some e) (hn:e.zF):Ran P E ρ o w K m H free nm e:=by
 simp only[opE,ho]at he
 split at he
 ·rename_i t t2 x y hts hargs
  have hta:ts=#[t,t2]:=by rw[<-cU (xs:=ts),hts]
  have haa:args=#[x,y]:=by rw[<-cU (xs:=args),hargs]
  subst hta;subst haa
  cases htt:(t==t2)
  ·simp[htt]at he
  ·simp only[htt,aG,aa]at he
   have htt:t=t2:=by simpa using htt
   subst htt
   obtain⟨el,hel,te,hte,inf,hinf,he⟩:=he
   have hu:=il hel
   cases hb:(inf.size==te.size&&ly P el te)
   ·simp[hb]at he
   ·simp only[hb,aG,aa]at he
    simp only[aO,bD]at hb
    obtain⟨hsz,hz⟩:=hb
    obtain⟨z,hz1,hz2⟩:∃ z,inf.zero=some z/\z.cells.size=inf.size:=by
     unfold ly at hz
     rw[hinf]at hz
     simp only at hz
     split at hz
     ·exact⟨_,‹_›,by rw[hsz];simpa using hz⟩
     ·cases hz
    obtain⟨s,hs,he⟩:=he
    have hr:=hρ x
    have run:∀ {a0:Option Addr} {n cap:Nat} {olds:List Value},s.zF->ρ x=.slice a0 n cap->olds.length=n*te.size ->
      ((n=0/\cap=0)\/∃ b cs,a0=some ⟨b,0,none⟩/\n<=cap/\w.heap[b]?=some (.cells cs el (0,0))/\cap*te.size<=cs.size/\∀ k,k<n*te.size->cs[k]?=olds[k]?) ->
      (n+s.xs.length)*(inf.bytes+1)<=35184372088832 ->
      ∃ v w' news,(execOp ρ o).run P w=.ok (.value v) w'/\AppOut w el te.size a0 n s.xs.length cap olds news v w'/\news.length=s.xs.length*te.size /\
       ∀ i x j d,s.xs[i]?=some x->(enc te x)[j]?=some d->∃ v,news[i*te.size+j]?=some v/\RelD w K d v:=by
     intro a0 n cap olds hneed hx hol hbase hbytes
     obtain⟨a1,m1,c1,hy,hsl⟩:=lk hM hs hneed (hρ y)
     obtain⟨news,hnl,hone,hsrc,hnews⟩:=oY hsl
     have hm1:=hsl.len
     subst hm1
     obtain⟨v,w',hrun,hout⟩:=NP (P:=P) w t o.type el inf z hu hinf hz1 hz2 a0 n cap olds (by rw[hsz];exact hol) (by rw[hsz];exact hbase) a1 s.xs.length c1 news (by rw[hsz];exact hnl) hone hsrc hbytes
     rw[hsz]at hout
     refine⟨v,w',news,iG ho (λ cs=>?_),hout,hnl,hnews⟩
     simp[builtin,hx,hy,hrun]
    have ownb:∀ {l b n cap:Nat} {xs:List te.ty},H.get l=some (.row el te xs)->m l=some (some b)->ρ x=.slice (some ⟨b,0,none⟩) n cap->n<=xs.length->n<=cap->(∃ T sz,w.shape? b=some (T,sz)/\cap*te.size<=sz) ->
      (n+s.xs.length)*(inf.bytes+1)<=35184372088832->s.zF->∀ {v':AV} {p:Prop} {rd:List Nat},v'=.own nm te->Ran P E ρ o w K m H free nm ⟨v',p,rd,[(l,none),(nm,some (.row el te (xs.take n++s.xs)))]⟩:=by
     intro l b n cap xs hg hm hgv hnx hcap hss hbytes hneed v' p rd hv'
     subst hv'
     have hM0:=hM.del l
     have happ:H.app [(l,none),(nm,some (ABlk.row el te (xs.take n++s.xs)))]=(H.put l none).put nm (some (.row el te (xs.take n++s.xs))):=rfl
     have hnl':(xs.take n).length=n:=by simp;omega
     rcases hM.heap l _ hg with⟨hm',_⟩|⟨b',cs,hm',hw,hsize,hrel⟩
     ·rw[hm]at hm';cases hm'
     rw[hm]at hm';cases hm'
     obtain⟨T',sz',hsh,hsl'⟩:=hss
     have hsz':sz'=cs.size:=by unfold World.shape? at hsh;rw[hw]at hsh;simp only[ag,bB]at hsh;exact hsh.2.symm
     subst hsz'
     have hnsz:n*te.size<=cs.size:=bj (aC _ hcap) hsl'
     have holds:(cs.toList.take (n*te.size)).length=n*te.size:=by simp;omega
     obtain⟨v,w',news,hrun,hout,hnl,hnews⟩:=run (olds:=cs.toList.take (n*te.size)) hneed hgv holds (.inr ⟨b,cs,rfl,hcap,hw,hsl',λ k hk=>by rw[cS,aE hk];simp⟩) hbytes
     have hold:∀ i x j d,(xs.take n)[i]?=some x->(enc te x)[j]?=some d->∃ v,(cs.toList.take (n*te.size))[i*te.size+j]?=some v/\RelD w K d v:=by
      intro i x j d hx hd
      rw[cS]at hx
      split at hx
      ·rename_i hin
       obtain⟨v,hv,hr⟩:=hrel i x j d hx hd
       have hj:j<te.size:=by have:=(am.1 hd).1;rw[bY]at this;exact this
       have hlt:i*te.size+j<n*te.size:=by
        calc i*te.size+j<i*te.size+te.size:=by omega
         _=(i+1)*te.size:=by rw[bA,eA]
         _<=n*te.size:=aC _ hin
       exact⟨v,by rw[cS,aE hlt];simpa using hv,hr⟩
      ·cases hx
     cases hout with
     | nil h0 hm0 =>
       subst h0
       have hx0:s.xs=[]:=ay (by omega)
       have hn0:n=0:=by omega
       obtain⟨g1,e1⟩:=hM0.nil hfr el te
       have hz:xs.take n++s.xs=[]:=by rw[hx0,hn0];rfl
       refine⟨_,_,w,K,upd m nm none,hrun,.inl rfl,?_,?_,?_⟩
       ·exact .own0 _ _ _ (bG _ _ _)
       ·simp only[hz];exact g1
       ·simp only[hz];exact(Ext.del w K m H l).trans e1
     | room b2 cs2 cs' w' h0 hp hc hw2 hw' hszz hcap2 hother hsame hv =>
       cases h0
       rw[hw]at hw2;cases hw2
       have hrow:=gP (xs:=xs.take n) (ys:=s.xs) hnl'.symm rfl holds hnl hold hnews hv
       obtain⟨g1,e1⟩:=hM.move hg hm hfr hw hw' hszz hother hsame (blk:=.row el te (xs.take n++s.xs)) (λ m' H' e' hm'=>.inr ⟨b,cs',hm',hw',by rw[al,hnl',hszz];exact bj (aC _ hc) hsl',λ i x j d hx hd=>by
        obtain⟨v,hv,hr⟩:=hrow i x j d hx hd
        exact⟨v,hv,hr.ext e'.hK e'.keep⟩⟩)
       refine⟨_,_,_,K,_,hrun,.inl rfl,?_,by simpa only[happ]using g1,by simpa only[happ]using e1⟩
       simp only[happ]
       refine .own _ _ _ _ _ (bG _ _ _) (λ T ys hy=>?_) hc ⟨el,cs'.size,?_,by rw[hszz];exact hsl'⟩
       ·rw[Heap.get_put_self]at hy;cases hy;rw[al,hnl']
       ·unfold World.shape?;rw[hw']
     | new cap' cs2 hc hcap2 hv =>
       have hrow:=gP (xs:=xs.take n) (ys:=s.xs) hnl'.symm rfl holds hnl hold hnews hv
       obtain⟨m',r1,r2,r3⟩:=qi hM hfr hM0 (Ext.del w K m H l) (el:=el) (zs:=xs.take n++s.xs) hrow (by simp;omega) hc hcap2
       exact⟨_,_,_,K,m',hrun,.inl rfl,by simpa only[happ]using r1,by simpa only[happ]using r2,by simpa only[happ]using r3⟩
    split at he
    ·
     rename_i ha
     simp only[ag]at he;subst he
     obtain⟨hbytes,hneed⟩:=hn
     rw[ha]at hr
     have ex:=cw hr
     obtain⟨v,w',news,hrun,hout,hnl,hnews⟩:=run (olds:=[]) hneed ex (by simp) (.inl ⟨rfl,rfl⟩) (by simpa using hbytes)
     have happ:H.app [(nm,some (ABlk.row el te s.xs))]=H.put nm (some (.row el te s.xs)):=rfl
     cases hout with
     | nil _ hm0 =>
       have hx0:s.xs=[]:=ay (by omega)
       obtain⟨g1,e1⟩:=hM.nil hfr el te
       refine⟨_,_,w,K,upd m nm none,hrun,.inl rfl,?_,?_,?_⟩
       ·exact .own0 _ _ _ (bG _ _ _)
       ·simp only[hx0];exact g1
       ·simp only[hx0];exact e1
     | room b cs cs' w' h0 hp=>exact absurd hp (by omega)
     | new cap' cs hc hcap hv =>
       have hrow:=gP (xs:=[]) (ys:=s.xs) (n:=0) (m':=s.xs.length) rfl rfl (by simp) hnl (λ i x j d h=>by simp at h) hnews hv
       obtain⟨m',r1,r2,r3⟩:=qi hM hfr hM (Ext.refl w K m H) (el:=el) (zs:=s.xs) hrow (by simp:0+s.xs.length=s.xs.length) hc hcap
       exact⟨_,_,_,K,m',hrun,.inl rfl,by simpa only[happ]using r1,by simpa only[happ]using r2,by simpa only[happ]using r3⟩
    ·
     rename_i l t' ha
     split at he
     ·rename_i ht;subst ht
      split at he
      ·rename_i T2 t3 xs hg
       split at he
       ·rename_i ht2;subst ht2
        cases hT:(T2==el)
        ·simp[hT]at he
        ·simp only[hT,aG,ag]at he
         have hT:T2=el:=by simpa using hT
         subst hT
         subst he
         obtain⟨hbytes,hneed⟩:=hn
         rw[ha]at hr
         have hM0:=hM.del l
         have happ:H.app [(l,none),(nm,some (ABlk.row T2 t3 (xs++s.xs)))]=(H.put l none).put nm (some (.row T2 t3 (xs++s.xs))):=rfl
         generalize hgv:ρ x=ra at hr
         cases hr with
         | own0 _ _ a0 hm =>
           have hx0:xs=[]:=by
            rcases hM.heap l _ hg with⟨_,hx⟩|⟨b',cs,hm',_⟩
            ·exact hx
            ·rw[hm]at hm';cases hm'
           subst hx0
           obtain⟨v,w',news,hrun,hout,hnl,hnews⟩:=run (olds:=[]) hneed hgv (by simp) (.inl ⟨rfl,rfl⟩) (by simpa using hbytes)
           cases hout with
           | nil _ hm0 =>
             have hx0:s.xs=[]:=ay (by omega)
             obtain⟨g1,e1⟩:=hM0.nil hfr T2 t3
             refine⟨_,_,w,K,upd m nm none,hrun,.inl rfl,?_,?_,?_⟩
             ·exact .own0 _ _ _ (bG _ _ _)
             ·simp only[hx0];exact g1
             ·simp only[hx0];exact(Ext.del w K m H l).trans e1
           | room b cs cs' w' h0 hp=>exact absurd hp (by omega)
           | new cap' cs hc hcap hv =>
             have hrow:=gP (xs:=[]) (ys:=s.xs) (n:=0) (m':=s.xs.length) rfl rfl (by simp) hnl (λ i x j d h=>by simp at h) hnews hv
             obtain⟨m',r1,r2,r3⟩:=qi hM hfr hM0 (Ext.del w K m H l) (el:=T2) (zs:=[]++s.xs) hrow (by simp:0+s.xs.length=([]++s.xs).length) hc hcap
             exact⟨_,_,_,K,m',hrun,.inl rfl,by simpa only[happ]using r1,by simpa only[happ]using r2,by simpa only[happ]using r3⟩
         | own _ _ b n cap hm hlen hcap hss =>
           have hlen:=hlen T2 xs hg
           have:=ownb hg hm hgv (by omega) hcap hss (by rw[hlen];exact hbytes) hneed (v':=.own nm t3) (p:=((xs.length+s.xs.length)*(inf.bytes+1)<=35184372088832)/\s.zF) (rd:=nm::l::s.rd) rfl
           rw[hlen,ju]at this
           exact this
       ·cases he
      ·cases he
     ·cases he
    ·
     rename_i l t' off len ha
     split at he
     ·rename_i ht;subst ht
      split at he
      ·rename_i T2 t3 xs hg
       split at he
       ·rename_i ht2;subst ht2
        cases hT:(T2==el)
        ·simp[hT]at he
        ·simp only[hT,aG,ag]at he
         have hT:T2=el:=by simpa using hT
         subst hT
         subst he
         obtain⟨⟨hoff,hlx,hbytes⟩,hneed⟩:=hn
         subst hoff
         rw[ha]at hr
         have hM0:=hM.del l
         generalize hgv:ρ x=ra at hr
         cases hr with
         | view0 _ _ _ a0 =>
           have happ:H.app [(l,none),(nm,some (ABlk.row T2 t3 (xs.take 0++s.xs)))]=(H.put l none).put nm (some (.row T2 t3 (xs.take 0++s.xs))):=rfl
           obtain⟨v,w',news,hrun,hout,hnl,hnews⟩:=run (olds:=[]) hneed hgv (by simp) (.inl ⟨rfl,rfl⟩) (by simpa using hbytes)
           cases hout with
           | nil _ hm0 =>
             have hx0:s.xs=[]:=ay (by omega)
             obtain⟨g1,e1⟩:=hM0.nil hfr T2 t3
             refine⟨_,_,w,K,upd m nm none,hrun,.inl rfl,?_,?_,?_⟩
             ·exact .own0 _ _ _ (bG _ _ _)
             ·simp only[hx0];exact g1
             ·simp only[hx0];exact(Ext.del w K m H l).trans e1
           | room b cs cs' w' h0 hp=>exact absurd hp (by omega)
           | new cap' cs hc hcap hv =>
             have hrow:=gP (xs:=[]) (ys:=s.xs) (n:=0) (m':=s.xs.length) rfl rfl (by simp) hnl (λ i x j d h=>by simp at h) hnews hv
             obtain⟨m',r1,r2,r3⟩:=qi hM hfr hM0 (Ext.del w K m H l) (el:=T2) (zs:=xs.take 0++s.xs) (by simpa using hrow) (by simp:0+s.xs.length=(xs.take 0++s.xs).length) hc hcap
             exact⟨_,_,_,K,m',hrun,.inl rfl,by simpa only[happ]using r1,by simpa only[happ]using r2,by simpa only[happ]using r3⟩
         | view _ _ b _ _ cap hm hcap hss =>
           rw[gR]at hgv
           rw[cE]at hss
           exact ownb hg hm hgv hlx hcap hss hbytes hneed rfl
       ·cases he
      ·cases he
     ·cases he
    ·
     rename_i t' xs ha
     split at he
     ·rename_i ht;subst ht
      simp only[ag]at he;subst he
      obtain⟨⟨hbytes,hpos0⟩,hneed⟩:=hn
      rw[ha]at hr
      generalize hgv:ρ x=ra at hr
      cases hr with
      | fl _ _ a n hrd=>
      have happ:H.app [(nm,some (ABlk.row el t' (xs++s.xs)))]=H.put nm (some (.row el t' (xs++s.xs))):=rfl
      obtain⟨ad,n',cap',hv',hsl'⟩:=uu (m:=m) (H:=H) (d:=.sl t' xs) (t:=t') (xs:=xs) (by simp[D.asSl]) hrd
      cases hv'
      obtain⟨olds,hol,_,holdsrc,holds⟩:=oY hsl'
      have hnl0:=hsl'.len
      subst hnl0
      obtain⟨a1,m1,c1,hy,hsl⟩:=lk hM hs hneed (hρ y)
      obtain⟨news,hnl,hone,hsrc,hnews⟩:=oY hsl
      have hm1:=hsl.len
      subst hm1
      by_cases hpos:0<s.xs.length
      case neg=>
       have hs0:s.xs=[]:=ay (by omega)
       have hx0:xs=[]:=hpos0.resolve_left hpos
       obtain⟨g1,g2⟩:=hM.nil hfr el t'
       have e0:(some (ABlk.row el t' (xs++s.xs)))=some (ABlk.row el t' []):=by rw[hs0,hx0];rfl
       refine⟨.value (.slice a xs.length xs.length),.slice a xs.length xs.length,w,K,upd m nm none,iG ho (λ cs=>by simp[builtin,hgv,hy,Lv w t o.type el inf hu hinf a a1 c1,hx0,hs0]),.inl rfl,?_,?_,?_⟩
       ·rw[hx0];exact .own0 _ _ _ (bG _ _ _)
       ·simp only[happ,e0];exact g1
       ·simp only[happ,e0];exact g2
      obtain⟨ad2,hac⟩:∃ ad2,a1=some ad2:=by
       rcases hsrc with⟨_,h⟩|⟨ad2,h,_⟩
       ·omega
       ·exact⟨ad2,h⟩
      subst hac
      have hsrc':∀ j v,news[j]?=some v->w.cell? (ad2.add j)=some v:=by
       rcases hsrc with⟨h,_⟩|⟨ad3,h,h2⟩
       ·cases h
       ·cases h;exact h2
      obtain⟨v,w',hrun,hout⟩:=Bs (P:=P) w t o.type el inf z hu hinf hz1 hz2 a xs.length xs.length olds (by rw[hsz];exact hol) (by
       rcases holdsrc with⟨_,h⟩|⟨ad3,h,h2⟩
       ·exact .inl ⟨h,h⟩
       ·exact .inr ⟨ad3,h,h2⟩) ad2 s.xs.length c1 news (by rw[hsz];exact hnl) hsrc' (by omega) hbytes
      rw[hsz]at hout
      have hrun':(execOp ρ o).run P w=.ok (.value v) w':=iG ho (λ cs=>by simp[builtin,hgv,hy,hrun])
      cases hout with
      | nil h0 hm0=>omega
      | room b cs cs' w' h0 hp hc=>omega
      | new cap' cs hc hcap hv =>
        have hrow:=gP (xs:=xs) (ys:=s.xs) rfl rfl hol hnl holds hnews hv
        obtain⟨m',r1,r2,r3⟩:=qi hM hfr hM (Ext.refl w K m H) (el:=el) (zs:=xs++s.xs) hrow (by simp) hc hcap
        exact⟨_,_,_,K,m',hrun',.inl rfl,by simpa only[happ]using r1,by simpa only[happ]using r2,by simpa only[happ]using r3⟩
     ·cases he
    ·cases he
 ·cases he
theorem MK (hM:Mem E w K m H free)(hfr:free nm)(hρ:∀ x,Rel w K m H (ρA x) (ρ x))(he:opE P C ρA H nm o=some e)(hn:e.zF):Ran P E ρ o w K m H free nm e:=by
 cases ho:o.op with
 | move x=>exact zz hM hρ (x:=x) (.inl ho) (by simpa[opE,ho]using he)
 | assign x=>exact zz hM hρ (x:=x) (.inr ho) (by simpa[opE,ho]using he)
 | pick c a b=>exact IK hM hρ ho he
 | alloc t=>exact Gp hM hfr ho he
 | box t x=>exact Mx hM hfr hρ ho he
 | build t ps=>exact Gm hM hρ ho he
 | buildSlice t n ps=>exact tb hM hfr hρ ho he hn
 | load t a=>exact IL hM hρ ho he hn
 | store t a x=>exact Gg hM hρ ho he hn
 | nilCheck x=>exact xg hM hρ ho he
 | binOp op t x y yt=>exact Gn hM hρ ho he hn
 | unOp op t x=>exact IJ hM hρ ho he
 | convert s t x=>exact zZ hM hρ ho he hn
 | makeFunc fn fs cs=>exact xh hM hρ ho he
 | fieldAddr t x f=>exact uO hM hρ ho he
 | field t x f=>exact Gk hM hρ ho he
 | indexAddr t x i=>exact uN hM hρ ho he hn
 | index t x i=>exact Gj hM hρ ho he hn
 | extract x i=>exact zY hM hρ ho he
 | slice t x lo hi mx=>exact Gh hM hρ ho he hn
 | makeSlice t l c=>exact uM hM hfr hρ ho he hn
 | makeMap t r =>
   cases r with
   | none=>exact zX hM hfr ho he
   | some r=>simp[opE,ho]at he
 | lookup t x ix ok=>exact BW hM hρ ho he
 | mapUpdate t x ix v=>exact ta hM hρ (.inl ho) (by simpa only[opE,ho]using he) hn
 | insert t x ix v=>exact ta hM hρ (.inr ho) (by simpa only[opE,ho]using he) hn
 | call c =>
   obtain⟨callee,args,ts⟩:=c
   cases callee with
   | builtin b =>
     cases b with
     | len=>exact Mw hM hρ ho he hn
     | min=>exact Mu hM hρ ho he
     | max=>exact Mv hM hρ ho he
     | append=>exact BX hM hfr hρ ho he hn
     | clear=>exact Gl hM hρ ho he hn
     | _=>simp[opE,ho]at he
   | _=>simp[opE,ho]at he
 | _=>simp[opE,ho]at he
end Go.VL
namespace Go.VL
structure AS where
 tmps:List AV
 H:Heap
 next:Nat
def Ko (g:Nat):AV:=match glb.find? λ p=>p.1==g with
 | some p=>.ip (p.2.toList.map .v)
 | none=>.dead
def AS.ev (s:AS):Operand->AV
 | .tmp t=>s.tmps.getD t .dead
 | .const v=>.d (.v v)
 | .func f=>.clo (.func f) [] []
 | .global g=>Ko g
def ld (tmps:List AV)(dst:Option Tmp)(v:AV):List AV:=match dst with
 | some d=>tmps.set d v
 | none=>tmps
abbrev Arg:=(t:Ty)×t.ty
def bc:List Ty->Type
 | []=>Unit
 | [t]=>t.ty
 | t::t'::ts=>t.ty×bc (t'::ts)
def iV:(ts:List Ty)->bc ts->List AV
 | [],_=>[]
 | [t],x=>[AV.ofTy t x]
 | t::t'::ts,x=>AV.ofTy t x.1::iV (t'::ts) x.2
def lu (ts:List Ty)(x:bc ts):AV:=match ts,x with
 | [],_=>.tup []
 | [t],x=>AV.ofTy t x
 | t::t'::ts,x=>.tup (iV (t::t'::ts) x)
def yJ (P:Program)(f:FuncId)(args:List Arg)(ts:List Ty)(x:bc ts):Prop:=
 ∀ (w:World) (K:Nat->Prop) (vs:Array Value),(∀ b,K b->b<w.heap.size)->GOk w K->vs.size=args.length ->
  (∀ (i:Nat) (a:Arg) (v:Value),args[i]?=some a->vs[i]?=some v->gj w K (AV.ofTy a.1 a.2) v) ->
  Calls P f vs w λ e w'=>∃ v K',e=.returned v/\gj w' K' (lu ts x) v/\(∀ b,K b->K' b)/\(∀ b,K' b->K b\/w.heap.size<=b)/\(∀ b,K' b->b<w'.heap.size)/\RowKit.Below w.heap.size w w'
def kw (H:Heap):List Ty->List AV->Option (List Arg×Prop×List Nat)
 | [],[]=>some ([],True,[])
 | t::ts,a::as=>(a.toTy H t).bind λ(x,p,fz)=>(kw H ts as).map λ(xs,q,gz)=>(⟨t,x⟩::xs,p/\q,fz++gz)
 | _,_=>none
def Ty.bare:Ty->Bool
 | .int | .u64 | .u8 | .bool | .zQ | .str | .span | .place | .zN | .part | .cell | .change | .zV | .numb | .box | .row | .flds | .b5 | .deed | .event | .call | .fault | .wide | .fld=>true
 | _=>false
structure yD where
 res:List AV
 H:Heap
 n:Nat
def HT:List AV->AV
 | [a]=>a
 | l=>.tup l
def Gc (P:Program)(f:FuncId)(as:List AV)(H0:Heap)(n0:Nat)(r:yD):Prop:=
 (∀ i T t xs,i<n0->r.H.get i=some (.row T t xs)->∃ ys,H0.get i=some (.row T t ys)/\ys.length=xs.length) /\
 ∀ (w:World) (K:Nat->Prop) (m:Nat->Option (Option Nat)) (vs:Array Value),Mem ⟨w,K,m,n0⟩ w K m H0 (λ l=>n0<=l)->vs.size=as.length ->
  (∀ (i:Nat) (a:AV) (v:Value),as[i]?=some a->vs[i]?=some v->Rel w K m H0 a v) ->
  Calls P f vs w λ e w'=>∃ v K' m',e=.returned v/\Rel w' K' m' r.H (HT r.res) v/\Mem ⟨w,K,m,n0⟩ w' K' m' r.H (λ l=>r.n<=l)
def LN (P:Program)(f:FuncId)(as:List AV)(x:AV):Prop:=
 ∀ (w:World) (K:Nat->Prop) (m:Nat->Option (Option Nat)) (H:Heap) (vs:Array Value),vs.size=as.length->(∀ (i:Nat) (a:AV) (v:Value),as[i]?=some a->vs[i]?=some v->Rel w K m H a v) ->
  ∃ u,(callFunc f vs).run P w=.ok (.value u) w/\Rel w K m H x u
inductive Sig where
 | pure (ps ts:List Ty)
 | heap (ts:List Ty) (out:List AV->Heap->bc ts->yD)
 | heap2 (ts:List Ty) (sel:bc ts->Bool) (out1 out2:List AV->Heap->bc ts->yD)
 | ext (out:List AV->Option AV)
abbrev fw:=FuncId->Option Sig
inductive Out (α:Type) where
 | fail
 | ret (x:α)
 | zF (p:Prop) (k:Out α)
 | zG (f:FuncId) (args:List Arg) (ts:List Ty) (k:bc ts->Out α)
 | ask (p:Bool->Prop) (k:Bool->Out α)
 | zH (f:FuncId) (as:List AV) (H0:Heap) (n0:Nat) (ts:List Ty) (out:bc ts->yD) (k:bc ts->Out α)
 | callX (f:FuncId) (as:List AV) (x:AV) (k:Out α)
 | stop (todo:List Item) (s:AS)
def SF {β:Type}(as:List AV)(r:β):Option β:=match as with|[]=>some r|_=>none
def SB {β:Type}(as:List AV)(k:AV->Option β):Option β:=match as with|[a]=>k a|_=>none
def Ox {β:Type}(as:List AV)(k:AV->List AV->Option β):Option β:=match as with|a::as=>k a as|_=>none
def HY (H:Heap):(ts:List Ty)->List AV->Option (bc ts×Prop×List Nat)
 | []=>λ as=>SF as ((),True,[])
 | [t]=>λ as=>SB as λ a=>a.toTy H t
 | t::t'::ts=>λ as=>Ox as λ a as=>(a.toTy H t).bind λ(x,p,fz)=>(HY H (t'::ts) as).map λ(xs,q,gz)=>((x,xs),p/\q,fz++gz)
def gh (P : Program) (f : FuncId) : Bool := match P.funcs[f]? with
 | some fn => fn.name != "runtime.NumGoroutine" && fn.body.isSome
 | none => false
def Lm (l:List Operand)(m:Nat):Nat:=l.foldl (λ m x=>match x with | .tmp t=>m ||| (1 <<< t)|_=>m) m
def SI (d:Option Tmp)(m:Nat):Nat:=match d with
 | some t=>bif m.testBit t then m-(1 <<< t)else m
 | none=>m
def ED:List Oper->Nat->Nat
 | [],m=>m
 | o::os,m=>Lm o.op.operands.toList (SI o.dst (ED os m))
def Ot (l:List (Nat×Nat))(k:Nat):Nat:=match l with
 | []=>0
 | (a,b)::l=>bif a==k then b else Ot l k
def nQ:Code->Nat->List (Nat×Nat)->Nat->Nat
 | .region _ ops _,m,_,_=>ED ops.toList m
 | .seq a b,m,ex,r=>nQ a (nQ b m ex r) ex r
 | .cond c t e,m,ex,r=>Lm [c] (nQ t m ex r ||| nQ e m ex r)
 | .block id b,m,ex,r=>nQ b m ((id,m)::ex) r
 | .loop b,_,ex,r=>nQ b 0 ex r
 | .exit id,_,ex,_=>Ot ex id
 | .rangeFunc g _ a b,m,ex,r=>Lm [g] (m ||| nQ a (nQ b 0 ex r) ex r)
 | .scope b,m,ex,r=>nQ b m ex r
 | .ret,_,_,r=>r
 | _,m,_,_=>m
def mY (r:Nat):List Item->Nat×List (Nat×Nat)
 | []=>(r,[])
 | .code c::k=>match mY r k with|(m,ex)=>(nQ c m ex r,ex)
 | .inBlock id::k=>match mY r k with|(m,ex)=>(m,(id,m)::ex)
 | .inLoop b::k=>match mY r k with|(_,ex)=>(nQ b 0 ex r,ex)
 | .inScope _::k=>mY r k
 | _::k=>mY r k
def oO (fn:Func):Nat:=fn.results.toList.foldl (λ m r=>match r with | .tmp t=>m ||| (1 <<< t) | .cell t _=>m ||| (1 <<< t)) 0
mutual
def AV.names:AV->List Nat
 | .own l _=>[l]
 | .view l _ _ _=>[l]
 | .ptr l _=>[l]
 | .eptr l _ _ _=>[l]
 | .agg cs=>fE cs
 | .tup cs=>fE cs
 | .clo _ fs cs=>fE fs++fE cs
 | .mp l=>[l]
 | _=>[]
def fE:List AV->List Nat
 | []=>[]
 | a::as=>a.names++fE as
end
def ABlk.names:ABlk->List Nat
 | .box cells=>fE cells
 | .row ..=>[]
 | .mp ..=>[]
def NS (l:List Nat)(x:Nat):List Nat:=bif l.contains x then l else l++[x]
def ka (l xs:List Nat):List Nat:=xs.foldl NS l
def eN (H:Heap):Nat->Nat->List Nat->List Nat
 | 0,_,l=>l
 | n + 1, i, l => match l[i]? with
   | some x => match H.get x with
     | some b=>eN H n (i+1) (ka l b.names)
     | none=>eN H n (i+1) l
   | none=>l
def dK (l:List Nat)(x:Nat):Option Nat:=match l with
 | []=>none
 | y::l=>bif y==x then some 0 else(dK l x).map (·+1)
mutual
def AV.ren (g:Nat->Option Nat):AV->AV
 | .own l t=>match g l with|some i=>.own i t|none=>.dead
 | .view l t o n=>match g l with|some i=>.view i t o n|none=>.dead
 | .ptr l f=>match g l with|some i=>.ptr i f|none=>.dead
 | .eptr l t i f=>match g l with|some k=>.eptr k t i f|none=>.dead
 | .agg cs=>.agg (gI g cs)
 | .tup cs=>.tup (gI g cs)
 | .clo f fs cs=>.clo f (gI g fs) (gI g cs)
 | .mp l=>match g l with|some i=>.mp i|none=>.dead
 | .d x=>.d x
 | .fl t xs=>.fl t xs
 | .ip ds=>.ip ds
 | .dead=>.dead
def gI (g:Nat->Option Nat):List AV->List AV
 | []=>[]
 | a::as=>a.ren g::gI g as
end
def ABlk.ren (g:Nat->Option Nat):ABlk->ABlk
 | .box cells=>.box (gI g cells)
 | .row T t xs=>.row T t xs
 | .mp tk tv kvs=>.mp tk tv kvs
def fO (g:Nat->Option Nat)(H:Heap):List Nat->Nat->Heap
 | [],_=>[]
 | l :: ls, i => match H.get l with
   | some b=>(i,b.ren g)::fO g H ls (i+1)
   | none=>fO g H ls (i+1)
def jR:List Nat->Bool
 | []=>true
 | x::l => !l.contains x&&jR l
def oX:Nat->List Nat->Bool
 | 0,_=>true
 | n+1,l=>(match l[n]? with|some x=>x==n|none=>false)&&oX n l
def nB (m:Nat):Nat->List AV->List AV
 | _,[]=>[]
 | i,a::as=>(bif m.testBit i then a else .dead)::nB m (i+1) as
def AS.canon (n0 live:Nat)(s:AS):AS:=
 let ts:=nB live 0 s.tmps
 let ns:=eN s.H 200 0 (ka (List.range n0) (fE ts))
 bif jR ns&&oX n0 ns then⟨gI (dK ns) ts,fO (dK ns) s.H ns 0,ns.length⟩else s
def ik:List Item->Bool
 | .inRegion ..::_=>false
 | _=>true
section
variable {α:Type}
def oI (ρ:Operand->AV)(o:Oper):Bool:=match o.op with
 | .move _ | .assign _ | .pick .. | .alloc _ | .box .. | .build .. | .nilCheck _ | .unOp .. | .makeFunc .. | .fieldAddr .. | .field .. | .extract .. | .makeMap .. | .lookup ..=>true
 | .convert _ _ x=>match ρ x with | .view ..=>false|_=>true
 | .load _ a | .store _ a _=>match ρ a with | .ptr .. | .ip ..=>true|_=>false
 | .binOp op _ _ _ _=>match op with | .quo | .rem | .shl | .shr=>false|_=>true
 | .call { callee:=.builtin b,.. }=>match b with | .len | .min | .max=>true|_=>false
 | _=>false
def kP (ρ:Operand->AV)(o:Oper):Option (FuncId×List AV):=match o.op with
 | .call { callee := .value f, args, .. } => match ρ f with
   | .clo (.func g) fs cs=>some (g,fs++args.toList.map ρ++cs)
   | _=>none
 | _=>none
structure Ef where
 v:AV
 rd:List Nat
 wr:List (Nat×Option ABlk)
def AS.aft (s:AS)(o:Oper):Option Ef->AS
 | some e=>{ s with tmps:=ld s.tmps o.dst e.v,H:=s.H.app e.wr }
 | none=>{ s with tmps:=ld s.tmps o.dst (.d (.v undef)) }
def iH (ns:List Nat)(nm n j:Nat):Option Nat:=bif Nat.blt j ns.length then ns[j]? else bif Nat.blt j n then some (nm+(j-ns.length))else none
def wrG (ns:List Nat)(nm:Nat)(r:yD):List (Nat×Option ABlk):=
 ((List.range ns.length).map λ i=>(ns.getD i 0,(r.H.get i).map (ABlk.ren (iH ns nm r.n)))) ++
  (List.range (r.n-ns.length)).map λ j=>(nm+j,(r.H.get (ns.length+j)).map (ABlk.ren (iH ns nm r.n)))
def efG (ns:List Nat)(nm:Nat)(r:yD):Ef:=⟨(HT r.res).ren (iH ns nm r.n),ns,wrG ns nm r⟩
def bf (H:Heap)(as:List AV):List Nat:=eN H 200 0 (ka [] (fE as))
def AV.tabB:AV->Bool
 | .ip ds=>(Jj ds).isSome
 | _=>false
def Lr (P:Program)(ρ:Operand->AV)(o:Oper):Option (Nat×Int):=match o.op with
 | .indexAddr t x ix=>bif (ρ x).tabB then none else yo P (ρ ix) t
 | .index t _ ix=>yo P (ρ ix) t
 | _=>none
def Ff (P:Program)(ρ:Operand->AV)(o:Oper)(i:Nat):Option Eff:=match o.op with
 | .indexAddr t x _=>wH P (ρ x) t (i:Int)
 | .index t x _=>wG P (ρ x) t (i:Int)
 | _=>none
def sN (k:Int):Nat->(Nat->Out α)->Out α
 | 0,_=>.fail
 | n+1,g=>bif k==(n:Int)then g n else sN k n g
def opD (P:Program)(C:cd)(S:fw)(nm:Nat)(o:Oper)(s:AS)(k:Ef->AS->Out α):Out α:=
 match kP s.ev o with
 | some (f, as) => match S f with
   | some (.heap ts out) => bif gh P f && jR (bf s.H as) && (bf s.H as).all (fun l => (s.H.get l).isSome) then
     .zH f (gI (dK (bf s.H as)) as) (fO (dK (bf s.H as)) s.H (bf s.H as) 0) (bf s.H as).length ts (out (gI (dK (bf s.H as)) as) (fO (dK (bf s.H as)) s.H (bf s.H as) 0)) λ x=>
      bif Nat.ble (out (gI (dK (bf s.H as)) as) (fO (dK (bf s.H as)) s.H (bf s.H as) 0) x).n ((bf s.H as).length+8)then
       k (efG (bf s.H as) nm (out (gI (dK (bf s.H as)) as) (fO (dK (bf s.H as)) s.H (bf s.H as) 0) x))
        (s.aft o (some (efG (bf s.H as) nm (out (gI (dK (bf s.H as)) as) (fO (dK (bf s.H as)) s.H (bf s.H as) 0) x))))
      else .fail
     else .fail
   | some (.heap2 ts sel out1 out2) => bif gh P f && jR (bf s.H as) && (bf s.H as).all (fun l => (s.H.get l).isSome) then
     .zH f (gI (dK (bf s.H as)) as) (fO (dK (bf s.H as)) s.H (bf s.H as) 0) (bf s.H as).length ts
      (λ x=>bif sel x then out1 (gI (dK (bf s.H as)) as) (fO (dK (bf s.H as)) s.H (bf s.H as) 0) x else out2 (gI (dK (bf s.H as)) as) (fO (dK (bf s.H as)) s.H (bf s.H as) 0) x) λ x=>
      bif sel x then
       bif Nat.ble (out1 (gI (dK (bf s.H as)) as) (fO (dK (bf s.H as)) s.H (bf s.H as) 0) x).n ((bf s.H as).length+8)then
        k (efG (bf s.H as) nm (out1 (gI (dK (bf s.H as)) as) (fO (dK (bf s.H as)) s.H (bf s.H as) 0) x))
         (s.aft o (some (efG (bf s.H as) nm (out1 (gI (dK (bf s.H as)) as) (fO (dK (bf s.H as)) s.H (bf s.H as) 0) x))))
       else .fail
      else
       bif Nat.ble (out2 (gI (dK (bf s.H as)) as) (fO (dK (bf s.H as)) s.H (bf s.H as) 0) x).n ((bf s.H as).length+8)then
        k (efG (bf s.H as) nm (out2 (gI (dK (bf s.H as)) as) (fO (dK (bf s.H as)) s.H (bf s.H as) 0) x))
         (s.aft o (some (efG (bf s.H as) nm (out2 (gI (dK (bf s.H as)) as) (fO (dK (bf s.H as)) s.H (bf s.H as) 0) x))))
       else .fail
     else .fail
   | some (.pure ps ts) => bif gh P f then match kw s.H ps as with
     | some (xs,p,fz)=>.zF p (.zG f xs ts λ x=>k ⟨lu ts x,fz,bif ts.all Ty.bare then[]else fz.map λ l=>(l,none)⟩ (s.aft o (some ⟨lu ts x,fz,bif ts.all Ty.bare then[]else fz.map λ l=>(l,none)⟩)))
     | none=>.fail
     else .fail
   | some (.ext out) => match out as with
     | some v=>.callX f as v (k ⟨v,[],[]⟩ (s.aft o (some ⟨v,[],[]⟩)))
     | none=>.fail
   | none=>.fail
 | none => match Lr P s.ev o with
   | some p => sN p.2 p.1 fun i => match Ff P s.ev o i with
     | some e=>k ⟨e.v,e.rd,e.wr⟩ (s.aft o (some ⟨e.v,e.rd,e.wr⟩))
     | none=>.fail
   | none=>match opE P C s.ev s.H nm o with
   | some e=>bif oI s.ev o then k ⟨e.v,e.rd,e.wr⟩ (s.aft o (some ⟨e.v,e.rd,e.wr⟩))else .zF e.zF (k ⟨e.v,e.rd,e.wr⟩ (s.aft o (some ⟨e.v,e.rd,e.wr⟩)))
   | none=>.fail
def uR (H:Heap):AV->Option Prop
 | .d (.sl _ xs)=>some (xs.length=0)
 | .fl _ xs=>some (xs.length=0)
 | .own l t => match H.get l with
   | some (.row _ t' xs)=>if t'=t then some (xs.length=0)else none
   | _=>none
 | _=>none
def Lq (P:Program)(ρ:Operand->AV)(H:Heap)(o:Oper):Option (Bool->Prop):=match o.op with
 | .binOp op t x y _ => match ρ y with
   | .d (.v (.slice none 0 0)) => bif (hJ P t).isSome && !P.eqGuardType P.depth t then (uR H (ρ x)).bind fun p => match op with
     | .eql=>some λ b=>b=true->p
     | .neq=>some λ b=>b=false->p
     | _=>none
     else none
   | _=>none
 | _=>none
def opK (P:Program)(C:cd)(S:fw)(nm:Nat)(o:Oper)(s:AS)(k:AS->Out α):Out α:=match Lq P s.ev s.H o with
 | some p=>.ask p λ b=>k (s.aft o (some ⟨.ofV (.bool b),[],[]⟩))
 | none=>opD P C S nm o s λ _ s=>k s
def HL (ρ:Operand->AV)(o:Oper):Bool:=match o.op with
 | .call { callee := .value f, .. } => match ρ f with
   | .clo (.yield _) _ _=>true
   | _=>false
 | _=>false
def ck (b:Bool):AV:=.d (.v (.bool b))
def AV.gone:AV->Bool
 | .d (.v (.tuple _))=>true
 | _=>false
theorem AV.gone_eq {a:AV}(h:a.gone=true):∃ q,a=.d (.v (.tuple q)):=by
 unfold AV.gone at h
 split at h
 ·exact⟨_,rfl⟩
 ·cases h
def qQ (ops:Array Oper)(o:Oper)(s:AS)(yes no:AS->Out α):Out α:=
 match o.guard with
 | none=>yes s
 | some (j, want) => match (ops[j]?).bind (·.dst) with
   | some t => match (s.tmps.getD t .dead).bool? with
     | some b=>bif b then(bif want then yes { s with tmps:=s.tmps.set t (ck true) }else no { s with tmps:=s.tmps.set t (ck true) })
      else(bif want then no { s with tmps:=s.tmps.set t (ck false) }else yes { s with tmps:=s.tmps.set t (ck false) })
     | none=>bif (s.tmps.getD t .dead).gone then no s else .fail
   | none=>.fail
def sm:List Oper->List Nat->List Nat
 | [],ms=>ms
 | o::os,ms=>sm os (ms++[o.after.toList.foldl (λ m e=>bif Region.binds .any e then(m ||| (1 <<< e.on)) ||| ms.getD e.on 0 else m) 0])
def rp (ops:Array Oper):List Nat:=sm ops.toList []
def Dn (ops:Array Oper):Bool:=(List.range ops.size).all λ i=>match ops[i]? with
 | some o=>o.after.all λ e => !Region.binds .any e||Nat.blt e.on i
 | none=>true
def Kq (e e':Ef):Bool:=(e.wr.all λ p => !(e'.rd.contains p.1) && !(e'.wr.any λ q=>q.1==p.1))&&e'.wr.all λ p => !(e.rd.contains p.1)
def Ki (ops:Array Oper)(x y:Nat×Option Ef):Bool:=match ops[x.1]?,ops[y.1]? with
 | some a,some b=>a.apart ops b&&(match x.2,y.2 with|some e,some e'=>Kq e e'|_,_=>true)
 | _,_=>false
def tn (ops:Array Oper)(ms:List Nat)(x y:Nat×Option Ef):Bool:=(ms.getD y.1 0).testBit x.1||Ki ops x y
def wz (P:Program)(C:cd)(S:fw)(ops:Array Oper)(ms:List Nat)(k:AS->Out α):List Nat->List (Nat×Option Ef)->AS->Out α
 | [],_,s=>k s
 | i :: rest, acc, s => match ops[i]? with
   | some o=>qQ ops o s (λ s=>opD P C S (s.next+8*i) o s λ ef s'=>bif acc.all (λ x=>tn ops ms x (i,some ef))then wz P C S ops ms k rest ((i,some ef)::acc) s' else .fail)
    (λ s=>bif acc.all (λ x=>tn ops ms x (i,none))then wz P C S ops ms k rest ((i,none)::acc) (s.aft o none)else .fail)
   | none=>.fail
def uL (P:Program)(s:AS):List ResultVar->Option (List AV)
 | []=>some []
 | .tmp t::rs=>(uL P s rs).map λ vs=>s.tmps.getD t .dead::vs
 | .cell a t :: rs => match s.tmps.getD a .dead with
   | .ptr l f => match s.H.get l with
     | some (.box cells)=>(nz P t cells f).bind λ v=>(uL P s rs).map λ vs=>v::vs
     | _=>none
   | _=>none
abbrev Fin (α:Type):=List AV->Heap->Option (α×Prop)
def Mt (P:Program)(fn:Func)(fin:Fin α)(s:AS):Out α:=match uL P s fn.results.toList with
 | some vs => match fin vs s.H with
   | some (x,p)=>.zF p (.ret x)
   | none=>.fail
 | none=>.fail
structure Cuts where
 reg:List Nat
 ret:Bool
def bh (P:Program)(C:cd)(S:fw)(fn:Func)(fin:Fin α)(n0:Nat)(cu:Cuts):Nat->Bool->List Item->AS->Out α
 | 0,_,_,_=>.fail
 | n + 1, fst, todo, s => match todo with
   | []=>bif cu.ret && !fst then .stop [] (s.canon n0 (oO fn))else Mt P fn fin s
   | .code .ret::k=>bif cu.ret && !fst then .stop (.code .ret::k) (s.canon n0 (oO fn))else Mt P fn fin s
   | .code .skip::k | .code (.label _)::k | .inBlock _::k | .inScope _::k=>bh P C S fn fin n0 cu n false k s
   | .code (.seq a b)::k=>bh P C S fn fin n0 cu n false (.code a::.code b::k) s
   | .code (.cond c t e) :: k => match (s.ev c).bool? with
     | some b=>bif b then bh P C S fn fin n0 cu n false (.code t::k) s else bh P C S fn fin n0 cu n false (.code e::k) s
     | none=>.fail
   | .code (.block id b)::k=>bh P C S fn fin n0 cu n false (.code b::.inBlock id::k) s
   | .code (.loop b)::k | .inLoop b::k=>.stop (.code b::.inLoop b::k) (s.canon n0 (mY (oO fn) (.code b::.inLoop b::k)).1)
   | .code (.scope b)::k=>bh P C S fn fin n0 cu n false (.code b::.inScope b::k) s
   | .code (.exit id) :: k => match exitTo id k with
     | some k'=>bh P C S fn fin n0 cu n false k' s
     | none=>.stop (.code (.exit id)::k) (s.canon n0 (oO fn))
   | .code (.rangeFunc g ps x b)::k=>.stop (.code (.rangeFunc g ps x b)::k) (s.canon n0 (mY (oO fn) (.code (.rangeFunc g ps x b)::k)).1)
   | .beginRound::k=>.stop (.beginRound::k) (s.canon n0 (mY (oO fn) k).1)
   | .code (.region id ops draw)::k=>bif cu.reg.contains id && !fst then .stop (.code (.region id ops draw)::k) (s.canon n0 (mY (oO fn) (.code (.region id ops draw)::k)).1)
    else bif draw then(bif Dn ops then wz P C S ops (rp ops) (λ s'=>bh P C S fn fin n0 cu n false k { s' with next:=s'.next+8*ops.size }) (List.range ops.size) [] s else .fail)
    else bh P C S fn fin n0 cu n false (.inRegion ops (List.range ops.size)::k) s
   | .inRegion ops []::k=>bh P C S fn fin n0 cu n false k { s with next:=s.next+8*ops.size }
   | .inRegion ops (i :: rest) :: k => match ops[i]? with
     | some o=>qQ ops o s (λ s=>bif HL s.ev o then .stop (.inRegion ops (i::rest)::k) s else opK P C S (s.next+8*i) o s (bh P C S fn fin n0 cu n false (.inRegion ops rest::k))) (λ s=>bh P C S fn fin n0 cu n false (.inRegion ops rest::k) { s with tmps:=ld s.tmps o.dst (.d (.v undef)) })
     | none=>.fail
   | _=>.fail
end
end Go.VL
namespace Go.VL
variable {P:Program} {C:cd} {S:fw} {E:Entry} {w:World} {K:Nat->Prop} {m:Nat->Option (Option Nat)} {free:Nat->Prop}
structure Fm where
 f:FuncId
 ro:Option Nat
 ds:List Deferred
 G:List Frame->Machine->Prop
def Runs (P:Program)(F:Fm)(a:Act)(w:World)(todo:List Item):Prop:=
 ∀ (b:Frame) (cs:List Frame),b.fn=F.f->b.kind=.normal->b.roundOf=F.ro->∃ M,Steps P (lone (b.atR { tmps:=a.tmps,defers:=F.ds } todo) cs w) M/\F.G cs M
def Kv (P:Program)(f:FuncId)(R:Ending->World->Prop)(cs:List Frame)(M:Machine):Prop:=
 ∃ v w' fr,R (.returned v) w'/\M=lone fr cs w'/\fr.fn=f/\fr.leaving P w' (.returned v)
abbrev Fm.fn (P:Program)(f:FuncId)(R:Ending->World->Prop):Fm:=⟨f,none,[],Kv P f R⟩
variable {F:Fm} {f:FuncId} {R:Ending->World->Prop} {a:Act} {k:List Item}
theorem Runs.next {a':Act}{w':World}{todo todo':List Item}(hs:∀ (b:Frame) (cs:List Frame),step P (lone (b.atR { tmps:=a.tmps,defers:=F.ds } todo) cs w)=.next (lone (b.atR { tmps:=a'.tmps,defers:=F.ds } todo') cs w'))
  (h:Runs P F a' w' todo'):Runs P F a w todo:=
 λ b cs hb hk hr=>let ⟨M,h1,h2⟩:=h b cs hb hk hr;⟨M,Steps.trans (.one (hs b cs)) h1,h2⟩
theorem wY {b:Frame}{cs:List Frame}{c:Code}:step P (lone (b.atR a (.code (.scope c)::k)) cs w)=.next (lone (b.atR a (.code c::.inScope c::k)) cs w):=
 step_lone_go (by simp[stepG,stepG.exec,Frame.atR])
theorem sM {b:Frame}{cs:List Frame}{c:Code}:step P (lone (b.atR a (.inScope c::k)) cs w)=.next (lone (b.atR a k) cs w):=
 step_lone_go (by simp[stepG,stepG.exec,Frame.atR])
theorem Runs.ret {fn:Func}{v:Value}(hf:P.funcs[f]?=some fn)(hr:(results fn a.tmps).run P w=.ok v w)(hR:R (.returned v) w){todo:List Item}(ht:todo=[]\/∃ k,todo=.code .ret::k) :
  Runs P (.fn P f R) a w todo:=by
 intro b cs hb hk hro
 have hf':P.funcs[(Fm.fn P f R).f]?=some fn:=hf
 have hs:step P (lone (b.atR { tmps:=a.tmps,defers:=[] } todo) cs w)=.next (lone { b.atR { tmps:=a.tmps,defers:=[] } todo with mode:=.returning } cs w):=by
  rcases ht with rfl|⟨k,rfl⟩
  ·exact stepR_end hro
  ·exact stepR_ret hro
 exact⟨_,Steps.one hs,v,w,_,hR,rfl,hb,rfl,rfl,hk,fn,by rw[<-hb]at hf';exact hf',hr⟩
theorem Bl {f:FuncId}{args:Array Value}{R:Ending->World->Prop}(h:Calls P f args w R)(hR:∀ e w',¬ R e w'):False:=by
 obtain⟨e,w',_,h,_⟩:=h []
 exact hR e w' h
theorem BT {row:String}{args:Array Value}{R:Value->World->Prop}(h:Rows P row args w R)(hR:∀ e w',¬ R e w'):False:=by
 obtain⟨e,w',h,_⟩:=h default []
 exact hR e w' h
theorem BD {o:Oper}{Q:Act->World->Prop}(h:o.wp P a w (λ a' w'=>a'.defers=[]/\Q a' w') (λ _ _ _=>False)):∀ c,o.op≠.defer c:=by
 intro c hc
 unfold Oper.wp at h
 simp only[execOp,hc]at h
 rw[Sem.run_bind]at h
 cases hr:(resolve a.eval c o.type).run P w with
 | ok d w' =>
   rw[hr]at h
   simp only[Result.andThen_ok,Sem.run_pure,Oper.upon]at h
   have h:=h.1
   cases hd:o.dst<;>simp[Act.put,hd]at h
 | halt x w' =>
   rw[hr]at h
   cases x<;>simp[Result.andThen,Oper.upon]at h
theorem Runs.op {ops:Array Oper}{i:Nat}{rest:List Nat}{o:Oper}(ho:ops[i]?=some o)(hw:Region.wanted o (yielded ops a.tmps)=true)
  (h:o.wp P a w (λ a' w'=>a'.defers=[]/\Runs P F a' w' (.inRegion ops rest::k)) (λ _ _ _=>False)):Runs P F a w (.inRegion ops (i::rest)::k):=by
 intro b cs hb hk hro
 have hnd:=BD h
 have hg:=stepGR_op (P:=P) (b:=b) (a:={ tmps:=a.tmps,defers:=F.ds }) (k:=k) (cs:=cs) (w:=w) (rest:=rest) ho hw
 rw[Oper.semAt_eq _ _ _ hnd]at hg
 have hev:({ tmps:=a.tmps,defers:=F.ds }:Act).eval=a.eval:=by funext x;cases x<;>rfl
 rw[hev]at hg
 have hput:∀ v,(({ tmps:=a.tmps,defers:=F.ds }:Act).put o.dst v)={ tmps:=(a.put o.dst v).tmps,defers:=F.ds }:=by
  intro v;cases hd:o.dst<;>simp[Act.put]
 have hfin:∀ v,(b.atR { tmps:=a.tmps,defers:=F.ds } (.inRegion ops (i::rest)::k)).finish v=b.atR { tmps:=(a.put o.dst v).tmps,defers:=F.ds } (.inRegion ops rest::k):=by
  intro v;rw[Frame.finish_atR,ho,<-hput];rfl
 simp only[Oper.wp,Oper.upon]at h
 split at h
 ·rename_i v w' hr
  obtain⟨M,h1,h2⟩:=h.2 b cs hb hk hro
  refine⟨M,Steps.trans (.one (step_lone_go ?_)) h1,h2⟩
  rw[hg,<-hfin];simp[stepG.apply,hr]
 ·rename_i w' hr
  obtain⟨M,h1,h2⟩:=h.2 b cs hb hk hro
  refine⟨M,Steps.trans (.one (step_lone_go ?_)) h1,h2⟩
  rw[hg,<-hfin];simp[stepG.apply,hr]
 ·rename_i d w' hr
  exfalso
  have h:=h.1
  cases hd:o.dst<;>simp[Act.put,hd]at h
 ·rename_i g args w' hr
  obtain⟨e,w'',fr,hR,hsteps,_,hleave⟩:=h (b.atR { tmps:=a.tmps,defers:=F.ds } (.inRegion ops (i::rest)::k)::cs)
  have henter:step P (lone (b.atR { tmps:=a.tmps,defers:=F.ds } (.inRegion ops (i::rest)::k)) cs w) =
    .next (lone (Frame.enter P g args .normal) (b.atR { tmps:=a.tmps,defers:=F.ds } (.inRegion ops (i::rest)::k)::cs) w'):=
   step_lone_go (by rw[hg];simp[stepG.apply,hr,Frame.atR])
  cases e with
  | returned v =>
    obtain⟨M,h1,h2⟩:=hR.2 b cs hb hk hro
    refine⟨M,Steps.trans (.head henter (Steps.trans hsteps (.one ?_))) h1,h2⟩
    rw[<-hfin];exact step_leave_returned hleave
  | panicked chain=>exact hR.elim
  | outgrown=>obtain⟨_,_,hq⟩:=hR;exact hq.elim
 ·rename_i row args w' hr
  obtain⟨v,w'',hR,hsteps⟩:=h (b.atR { tmps:=a.tmps,defers:=F.ds } (.inRegion ops (i::rest)::k)) cs
  have henter:step P (lone (b.atR { tmps:=a.tmps,defers:=F.ds } (.inRegion ops (i::rest)::k)) cs w) =
    .next (lone (Frame.ofRow P row args .normal) (b.atR { tmps:=a.tmps,defers:=F.ds } (.inRegion ops (i::rest)::k)::cs) w'):=
   step_lone_go (by rw[hg];simp[stepG.apply,hr,Frame.atR])
  obtain⟨M,h1,h2⟩:=hR.2 b cs hb hk hro
  refine⟨M,Steps.trans (.head henter ?_) h1,h2⟩
  rw[<-hfin];exact hsteps
 ·exact h.elim
 ·exact h.elim
theorem Runs.opSkip {ops:Array Oper}{i:Nat}{rest:List Nat}{o:Oper}(ho:ops[i]?=some o)(hw:Region.wanted o (yielded ops a.tmps)=false)
  (h:Runs P F (a.put o.dst undef) w (.inRegion ops rest::k)):Runs P F a w (.inRegion ops (i::rest)::k):=by
 refine Runs.next (λ b cs=>?_) h
 have hs:=stepR_op_skip (P:=P) (b:=b) (a:={ tmps:=a.tmps,defers:=F.ds }) (k:=k) (cs:=cs) (w:=w) (ops:=ops) (i:=i) (rest:=rest) (by simp[ho];simpa using hw)
 simp only[ho,aA]at hs
 rw[hs]
 cases hd:o.dst<;>simp[Act.put]
theorem BF {o:Oper}{r:Result Next}{Q:Exit->Act->World->Prop}(hQ:∀ e a w,e≠.normal->¬ Q e a w){next:Act->World->Prop}(hn:∀ a w,a.defers≠[]->¬ next a w)(ha:a.defers≠[])(h:o.upon P a next Q r):False:=by
 have hput:∀ v,(a.put o.dst v).defers≠[]:=λ v=>by cases hd:o.dst<;>simp[Act.put]<;>exact ha
 unfold Oper.upon at h
 split at h
 ·exact hn _ _ (hput _) h
 ·exact hn _ _ (hput _) h
 ·rename_i d w'
  refine hn _ _ ?_ h
  cases hd:o.dst<;>simp[Act.put]
 ·refine Bl h (λ e w' he=>?_)
  cases e with
  | returned v=>exact hn _ _ (hput _) he
  | panicked c=>exact hQ _ _ _ (by simp) he
  | outgrown=>obtain⟨_,_,he⟩:=he;exact hQ _ _ _ (by simp) he
 ·exact BT h (λ v w' he=>hn _ _ (hput _) he)
 ·exact hQ _ _ _ (by simp) h
 ·exact h
theorem re {ops:Array Oper}{Q:Exit->Act->World->Prop}(hQ:∀ e a w,e≠.normal->¬ Q e a w)(hQ0:∀ a w,a.defers≠[]->¬ Q .normal a w):∀ (l:List Nat) (a:Act) (w:World),a.defers≠[]->¬ wpOps P ops Q l a w
 | [],a,w,ha,h=>hQ0 a w ha h
 | i :: l, a, w, ha, h => by
   have ih:=re (ops:=ops) hQ hQ0 l
   unfold wpOps at h
   split at h
   ·exact ih a w ha h
   ·rename_i o ho
    split at h
    ·rcases h with h|⟨_,_,_,h⟩
     ·exact BF hQ (λ a w ha=>ih a w ha) ha h
     ·exact hQ _ _ _ (by simp) h
    ·refine ih _ w ?_ h
     cases hd:o.dst<;>simp[Act.put]<;>exact ha
theorem Runs.ops {ops:Array Oper}:∀ (l:List Nat) (a:Act) (w:World),a.defers=[]->wpOps P ops (λ e a' w'=>e=.normal/\a'.defers=[]/\Runs P F a' w' k) l a w->Runs P F a w (.inRegion ops l::k)
 | [],a,w,_,h=>Runs.next (λ b cs=>stepR_region_end) h.2.2
 | i :: l, a, w, ha, h => by
   unfold wpOps at h
   split at h
   ·rename_i ho
    refine Runs.next (λ b cs=>?_) (Runs.ops l a w ha h)
    have hs:=stepR_op_skip (P:=P) (b:=b) (a:={ tmps:=a.tmps,defers:=F.ds }) (k:=k) (cs:=cs) (w:=w) (ops:=ops) (i:=i) (rest:=l) (by simp[ho])
    simp only[ho]at hs
    exact hs
   ·rename_i o ho
    split at h
    ·rename_i hw
     rcases h with h|⟨_,_,_,h⟩
     ·refine Runs.op ho hw ?_
      have key:o.wp P a w (λ a' w'=>a'.defers=[]/\Runs P F a' w' (.inRegion ops l::k)) (λ e a' w'=>e=Exit.normal/\a'.defers=[]/\Runs P F a' w' k):=
       Oper.wp_mono (λ a' w' h'=>by
        have hd:a'.defers=[]:=by
         cases hq:a'.defers with
         | nil=>rfl
         | cons x xs=>exact(re (λ e a w he h=>he h.1) (λ a w ha h=>ha h.2.1) l a' w' (by rw[hq];simp) h').elim
        exact⟨hd,Runs.ops l a' w' hd h'⟩) h
      unfold Oper.wp at key ⊢
      generalize (execOp a.eval o).run P w=r at key ⊢
      unfold Oper.upon at key ⊢
      split at key
      ·exact key
      ·exact key
      ·exact key
      ·refine Calls.mono key (λ e w' he=>?_)
       cases e with
       | returned v=>exact he
       | panicked c=>cases he.1
       | outgrown=>obtain⟨_,_,he⟩:=he;cases he.1
      ·exact key
      ·cases key.1
      ·exact key.elim
     ·cases h.1
    ·rename_i hw
     refine Runs.opSkip ho (by simpa using hw) (Runs.ops l _ w ?_ h)
     cases hd:o.dst<;>simp[Act.put]<;>exact ha
theorem Runs.draw {id:Nat}{ops:Array Oper}(ha:a.defers=[])
  (h:∀ t,wpOps P ops (λ e a' w'=>e=.normal/\a'.defers=[]/\Runs P F a' w' k) (Region.schedule (P.follows .mixedOrders) ops t) a { w with drawn:=w.drawn+1 }):Runs P F a w (.code (.region id ops true)::k):=by
 intro b cs hb hk hro
 obtain⟨M,h1,h2⟩:=Runs.ops _ a _ ha (h (w.tape w.drawn (.order b.fn id))) b cs hb hk hro
 exact⟨M,Steps.trans (.one stepR_region_draw) h1,h2⟩
theorem Runs.drawAny {id:Nat}{ops:Array Oper}(hm:P.follows .mixedOrders=true)(ha:a.defers=[])
  (h:wpAny P .any ops (λ e a' w'=>e=.normal/\a'.defers=[]/\Runs P F a' w' k) ops.size (Array.replicate ops.size false) a { w with drawn:=w.drawn+1 }):Runs P F a w (.code (.region id ops true)::k):=
 Runs.draw ha λ t=>by
  simp only[Region.schedule,hm,Bool.true_or,mU]
  exact wpAny_sound ops.size t _ a _ h
theorem lQ {fn:Func}{c:Code}{args:Array Value}(hf:P.funcs[f]?=some fn)(hb:fn.body=some c)
  (h:Runs P (.fn P f R) { tmps:=args++Array.replicate (fn.ntmps-args.size) undef,defers:=[] } w [.code c]):Calls P f args w R:=by
 intro cs
 have henter:Frame.enter P f args .normal=({ (default:Frame)with fn:=f,kind:=.normal,roundOf:=none }:Frame).atR { tmps:=args++Array.replicate (fn.ntmps-args.size) undef,defers:=[] } [.code c]:=by
  simp[Frame.enter,Frame.atR,hf,hb]
 obtain⟨M,h1,v,w',fr,hR,rfl,h2,h3⟩:=h { (default:Frame)with fn:=f,kind:=.normal,roundOf:=none } cs rfl rfl rfl
 exact⟨.returned v,w',fr,hR,by rw[henter];exact h1,h2,h3⟩
end Go.VL
namespace Go.VL
variable {P:Program} {C:cd} {S:fw} {E:Entry} {w:World} {K:Nat->Prop} {m:Nat->Option (Option Nat)} {free:Nat->Prop} {H:Heap}
 {f:FuncId} {R:Ending->World->Prop} {a:Act} {k:List Item} {s:AS} {α:Type}
structure St (E:Entry) (s:AS) (a:Act) (w:World) (K:Nat->Prop) (m:Nat->Option (Option Nat)) (free:Nat->Prop):Prop where
 len:a.tmps.size=s.tmps.length
 tmps:∀ (i:Nat) (x:AV) (v:Value),s.tmps[i]?=some x->a.tmps[i]?=some v->Rel w K m s.H x v
 defers:a.defers=[]
 mem:Mem E w K m s.H free
theorem St.tmp (h:St E s a w K m free)(t:Nat):Rel w K m s.H (s.tmps.getD t .dead) (a.tmps.getD t undef):=by
 by_cases hl:t<s.tmps.length
 ·have h1:s.tmps[t]?=some s.tmps[t]:=ai hl
  have h2:a.tmps[t]?=some (a.tmps[t]'(by rw[h.len];exact hl)):=by simp[h.len,hl]
  have:=h.tmps t _ _ h1 h2
  simpa[List.getD,Array.getD,h1,h.len,hl]using this
 ·have h1:s.tmps[t]?=none:=aw (by omega)
  simp only[List.getD,h1,Option.getD_none]
  exact .dead _
theorem Hp (h:GOk w K)(g:Nat):Rel w K m H (Ko g) (.pointer (some ⟨g,0,none⟩)):=by
 unfold Ko
 split
 ·rename_i p hp
  have hm:=List.mem_of_find?_eq_some hp
  have hg:p.1=g:=by have:=List.find?_some hp;simpa using this
  obtain⟨h1,T,h2⟩:=h p hm
  rw[hg]at h1 h2
  refine .ip _ g 0 (λ j=>p.2.getD j undef) h1 (λ j d hd=>?_) (λ j d hd=>?_)
  ·rw[aQ,ac]at hd
   obtain⟨v,hv,rfl⟩:=hd
   have hv':p.2[j]?=some v:=by simpa using hv
   have hlt:=(ct.1 hv').1
   simp[World.cell?,h2,Array.getD,hlt]
  ·rw[aQ,ac]at hd
   obtain⟨v,hv,rfl⟩:=hd
   have hv':p.2[j]?=some v:=by simpa using hv
   obtain⟨hlt,he⟩:=ct.1 hv'
   have:p.2.getD j undef=v:=by simp[Array.getD,hlt,he]
   rw[this]
   exact .v v
 ·exact .dead _
theorem St.ev (h:St E s a w K m free)(x:Operand):Rel w K m s.H (s.ev x) (a.eval x):=by
 cases x with
 | tmp t=>exact h.tmp t
 | const v=>exact .d _ _ (.v v)
 | global g=>exact Hp h.mem.gok g
 | func g=>exact .clo _ _ _ _ _ rfl rfl (λ i a v h=>by simp at h) (λ i a v h=>by simp at h)
theorem St.put (h:St E s a w K m free){w':World}{K':Nat->Prop}{m':Nat->Option (Option Nat)}{H':Heap}{free':Nat->Prop}(dst:Option Tmp){v:AV}{u:Value}
  (hr:Rel w' K' m' H' v u) (hM:Mem E w' K' m' H' free') (hE:Ext w K m s.H w' K' m' H'):St E ⟨ld s.tmps dst v,H',s.next⟩ (a.put dst u) w' K' m' free':=by
 cases dst with
 | none=>exact⟨h.len,λ i x v hx hv=>(h.tmps i x v hx hv).ext hE,h.defers,hM⟩
 | some d =>
   refine⟨by simp[ld,Act.put,h.len],λ i x v' hx hv=>?_,h.defers,hM⟩
   simp only[ld,aP]at hx
   simp only[Act.put,fV]at hv
   by_cases hdi:d=i
   ·subst hdi
    by_cases hlt:d<s.tmps.length
    ·simp[hlt]at hx
     simp[h.len,hlt]at hv
     subst hx;subst hv;exact hr
    ·simp[hlt]at hx
   ·rw[aF hdi]at hx hv
    exact(h.tmps i x v' hx hv).ext hE
theorem St.weaken (h:St E s a w K m free){free':Nat->Prop}(hf:∀ l,free' l->free l):St E s a w K m free':=⟨h.len,h.tmps,h.defers,h.mem.weaken hf⟩
theorem St.next_ (h:St E s a w K m free)(n:Nat):St E { s with next:=n } a w K m free:=⟨h.len,h.tmps,h.defers,h.mem⟩
theorem zy {ts:List Ty}{x:bc ts}{v:Value}(h:gj w K (lu ts x) v):Rel w K m H (lu ts x) v:=
 h.ext ⟨λ _ h=>h,λ _ _=>rfl,λ l x hx=>by simp at hx,λ _ _ h=>h,λ l T t xs hm=>absurd rfl hm⟩
theorem sG (hM:Mem E w K m H free):∀ {ts:List Ty} {as:List AV} {xs:List Arg} {p:Prop} {fz:List Nat},kw H ts as=some (xs,p,fz)->p->∀ {vs:Array Value},vs.size=as.length ->
  (∀ (i:Nat) (a:AV) (v:Value),as[i]?=some a->vs[i]?=some v->Rel w K m H a v) ->
  xs.length=as.length/\(∀ (i:Nat) (x:Arg) (v:Value),xs[i]?=some x->vs[i]?=some v->gj w (KF K m fz) (AV.ofTy x.1 x.2) v)/\∀ l∈fz,∃ blk,H.get l=some blk
 | [], [], xs, p, fz, h, hp, vs, hs, hr => by
   simp only[kw,ag,bB]at h
   obtain⟨rfl,_,rfl⟩:=h
   exact⟨rfl,λ i d v h=>by simp at h,λ l hl=>by simp at hl⟩
 | [],_::_,xs,p,fz,h,hp,vs,hs,hr=>by simp[kw]at h
 | _::_,[],xs,p,fz,h,hp,vs,hs,hr=>by simp[kw]at h
 | t :: ts, a :: as, xs, p, fz, h, hp, vs, hs, hr => by
   simp only[kw,aa,ac,Prod.exists]at h
   obtain⟨x,p1,l1,h1,xs',p2,l2,h2,h3⟩:=h
   simp only[bB]at h3
   obtain⟨rfl,rfl,rfl⟩:=h3
   have hv0:vs[0]?=some (vs[0]'(by simp at hs;omega)):=by simp at hs;simp[show 0<vs.size by omega]
   obtain⟨hd,hl1⟩:=pw hM h1 hp.1 (hr 0 a _ (by simp) hv0)
   obtain⟨hlen,hrest,hl2⟩:=sG hM h2 hp.2 (vs:=vs.extract 1 vs.size) (by simp at hs ⊢;omega) (λ i b v hb hv=>by
    refine hr (i+1) b v (by simpa using hb) ?_
    rw[cY]at hv
    split at hv
    ·rw[<-hv];congr 1;omega
    ·cases hv)
   have mono:∀ {K1 K2:Nat->Prop} {b:AV} {v:Value},(∀ b,K1 b->K2 b)->gj w K1 b v->gj w K2 b v:=λ hK h=>h.ext ⟨hK,λ _ _=>rfl,λ _ _ h=>h,λ _ _ h=>h,λ l T t xs hm=>absurd rfl hm⟩
   refine⟨by simp[hlen],λ i d' v hd' hv=>?_,λ l hl=>?_⟩
   ·cases i with
    | zero =>
      simp only[bp,ag]at hd'
      subst hd'
      rw[hv0]at hv;simp only[ag]at hv;subst hv
      refine mono (λ b hb=>?_) hd
      rcases hb with hb|⟨l,hl,hm⟩
      ·exact .inl hb
      ·exact .inr ⟨l,by simp[hl],hm⟩
    | succ i =>
      refine mono (λ b hb=>?_) (hrest i d' v (by simpa using hd') ?_)
      ·rcases hb with hb|⟨l,hl,hm⟩
       ·exact .inl hb
       ·exact .inr ⟨l,by simp[hl],hm⟩
      ·rw[cY]
       have:i+1<vs.size:=(ct.1 hv).1
       rw[aE (by omega),<-hv];congr 1;omega
   ·rcases az.1 hl with hl|hl
    ·exact hl1 l hl
    ·exact hl2 l hl
theorem Mem.after (h:Mem E w K m H free){w':World}{K2:Nat->Prop}(hb:RowKit.Below w.heap.size w w')(h1:∀ b,K2 b->K b\/w.heap.size<=b)(h2:∀ b,K2 b->b<w'.heap.size) :
  Mem E w' (λ b=>K b\/K2 b) m H free/\Ext w K m H w' (λ b=>K b\/K2 b) m H:=by
 have hshape:∀ b s,w.shape? b=some s->w'.shape? b=some s:=by
  intro b s hs
  have hlt:b<w.heap.size:=by
   rcases ax b w.heap.size with h1|h1
   ·exact h1
   ·simp[World.shape?,bZ h1]at hs
  unfold World.shape? at hs ⊢
  rw[hb.block b hlt];exact hs
 have e:Ext w K m H w' (λ b=>K b\/K2 b) m H:=
  ⟨λ _ h=>.inl h,λ b hk=>hb.block b (h.Klt b hk),λ _ _ h=>h,hshape,λ _ _ _ xs _ h=>⟨xs,h,rfl⟩⟩
 refine⟨?_,e⟩
 exact
  { os := hb.os.trans h.os, tape := hb.tape.trans h.tape, output := hb.output.trans h.output
    size:=bj h.size hb.size
    keep:=λ b hb1 hb2=>by rw[hb.block b (by have:=h.size;omega)];exact h.keep b hb1 hb2
    Kmono:=λ b hk=>.inl (h.Kmono b hk)
    Klt:=λ b hk=>by
     rcases hk with hk|hk
     ·have:=h.Klt b hk;have:=hb.size;omega
     ·exact h2 b hk
    Knew:=λ b hk=>by
     rcases hk with hk|hk
     ·exact h.Knew b hk
     ·rcases h1 b hk with hk|hk
      ·exact h.Knew b hk
      ·exact .inr (.inl (by have:=h.size;omega))
    mold:=h.mold,mnew:=h.mnew
    mlt:=λ l b hm=>by have:=h.mlt l b hm;have:=hb.size;omega
    mfree:=h.mfree,fnew:=h.fnew
    heap:=λ l blk hl=>(h.heap l blk hl).ext e (λ b hm=>hb.block b (h.mlt l b hm))
    own:=λ l blk b hl hm hk=>by
     rcases hk with hk|hk
     ·exact h.own l blk b hl hm hk
     ·rcases h1 b hk with hk|hk
      ·exact h.own l blk b hl hm hk
      ·have:=h.mlt l b hm;omega
    inj:=h.inj
    shape:=λ b s hs=>hshape b s (h.shape b s hs)
    frozen:=λ b hb=>(e.keep b (h.Kmono b hb)).trans (h.frozen b hb),gok:=h.gok.ext e.hK e.keep }
theorem wF {d:D}(hd:∀ t xs,d≠.sl t xs){v:Value}{w':World}{K':Nat->Prop}(h:RelD w K d v):RelD w' K' d v:=by
 cases h with
 | v=>exact .v _
 | f o b h=>exact .f o b h
 | sl0 t a cap=>exact absurd rfl (hd t [])
 | sl t xs=>exact absurd rfl (hd t xs)
theorem Bq {t:Ty}(ht:t.bare=true){x:t.ty}{d:D}(hd:d∈enc t x):∀ t' xs,d≠.sl t' xs:=by
 intro t' xs e
 subst e
 cases t<;>simp[Ty.bare]at ht<;>simp[enc]at hd
theorem qY {t:Ty}(ht:t.bare=true){x:t.ty}{v:Value}{w':World}{K':Nat->Prop}(h:gj w K (AV.ofTy t x) v):gj w' K' (AV.ofTy t x) v:=by
 unfold gj AV.ofTy at h ⊢
 cases hf:t.flat
 ·simp only[hf,cf]at h ⊢
  cases h with
  | agg _ vs hl hc =>
    refine .agg _ _ hl (λ i a u ha hu=>?_)
    have:=hc i a u ha hu
    simp only[aQ,ac]at ha
    obtain⟨d,hd,rfl⟩:=ha
    cases this with|d _ _ h=>exact .d _ _ (wF (Bq ht (bu hd)) h)
 ·simp only[hf,aG]at h ⊢
  obtain⟨d,hd⟩:=AY hf x
  rw[hd]at h ⊢
  cases h with|d _ _ h=>exact .d _ _ (wF (Bq ht (by rw[hd];simp)) h)
theorem Br:∀ {ts:List Ty},ts.all Ty.bare=true->∀ {x:bc ts} {vs:Array Value} {w':World} {K':Nat->Prop},(∀ (i:Nat) (a:AV) (v:Value),(iV ts x)[i]?=some a->vs[i]?=some v->gj w K a v) ->
  ∀ (i:Nat) (a:AV) (v:Value),(iV ts x)[i]?=some a->vs[i]?=some v->gj w' K' a v
 | [],_,x,vs,w',K',h,i,a,v,ha,hv=>by simp[iV]at ha
 | [t], ht, x, vs, w', K', h, i, a, v, ha, hv => by
   have:=h i a v ha hv
   simp only[iV]at ha
   cases i with
   | zero=>simp at ha;subst ha;exact qY (by simpa using ht) this
   | succ i=>simp at ha
 | t :: t' :: ts, ht, x, vs, w', K', h, i, a, v, ha, hv => by
   simp only[jJ,aO]at ht
   have h0:=h i a v ha hv
   cases i with
   | zero=>simp[iV]at ha;subst ha;exact qY ht.1 h0
   | succ i =>
     simp only[iV,iw]at ha
     refine Br (ts:=t'::ts) (by simpa using ht.2) (x:=x.2) (vs:=vs.extract 1 vs.size) (λ j b u hb hu=>?_) i a v ha ?_
     ·rw[cY]at hu
      split at hu
      ·refine h (j+1) b u (by simpa[iV]using hb) (by rw[<-hu];congr 1;omega)
      ·cases hu
     ·rw[cY]
      have:i+1<vs.size:=(ct.1 hv).1
      rw[aE (by omega),<-hv];congr 1;omega
theorem Lo {ts:List Ty}(ht:ts.all Ty.bare=true){x:bc ts}{v:Value}{w':World}{K':Nat->Prop}(h:gj w K (lu ts x) v):gj w' K' (lu ts x) v:=by
 match ts,x,h,ht with
 | [], _, h, _ =>
   unfold gj at h ⊢
   cases h with
   | tup _ vs hl hc=>exact .tup _ _ hl (λ i a v ha=>by simp at ha)
 | [t],x,h,ht=>exact qY (by simpa using ht) h
 | t :: t' :: ts, x, h, ht =>
   unfold gj lu at h ⊢
   cases h with
   | tup _ vs hl hc=>exact .tup _ _ hl (Br ht hc)
end Go.VL
namespace Go.VL
theorem lv:∀ {l:List Nat},jR l=true->l.Nodup
 | [],_=>.nil
 | x :: l, h => by
   simp only[jR,aO]at h
   refine hU.2 ⟨by simpa using h.1,lv h.2⟩
theorem nl:∀ {n:Nat} {l:List Nat},oX n l=true->∀ i,i<n->l[i]?=some i
 | 0,_,_,i,hi=>absurd hi (bL _)
 | n + 1, l, h, i, hi => by
   simp only[oX,aO]at h
   rcases ax i n with h1|h1
   ·exact nl h.2 i h1
   ·have:i=n:=by omega
    subst this
    have:=h.1
    split at this
    ·rename_i x hx
     rw[hx];congr;simpa using this
    ·cases this
theorem qO:∀ {ns:List Nat} {l i:Nat},dK ns l=some i->ns[i]?=some l
 | [],l,i,h=>by cases h
 | y :: ns, l, i, h => by
   simp only[dK]at h
   cases hy:(y==l)
   ·rw[hy]at h
    obtain⟨j,hj,rfl⟩:=ac.1 h
    simpa using qO hj
   ·rw[hy]at h
    cases h
    have:y=l:=by simpa using hy
    simp[this]
theorem gY {g:Nat->Option Nat}:∀ (cs:List AV) (i:Nat),(gI g cs)[i]?=(cs[i]?).map (AV.ren g)
 | [],i=>by simp[gI]
 | a::cs,0=>by simp[gI]
 | a::cs,i+1=>by simpa[gI]using gY cs i
theorem eu {g:Nat->Option Nat}:∀ (cs:List AV),(gI g cs).length=cs.length
 | []=>rfl
 | a::cs=>by simp[gI,eu cs]
theorem gn {g:Nat->Option Nat}{H:Heap}:∀ (ls:List Nat) (k i:Nat) (b:ABlk),(fO g H ls k).get i=some b->∃ l b',ls[i-k]?=some l/\k<=i/\H.get l=some b'/\b=b'.ren g
 | [],k,i,b,h=>by cases h
 | l :: ls, k, i, b, h => by
   have step:(fO g H ls (k+1)).get i=some b->∃ l' b',(l::ls)[i-k]?=some l'/\k<=i/\H.get l'=some b'/\b=b'.ren g:=by
    intro h
    obtain⟨l',b',h1,h2,h3⟩:=gn ls (k+1) i b h
    have e:i-k=(i-(k+1))+1:=by omega
    exact⟨l',b',by rw[e];simpa using h1,by omega,h3⟩
   simp only[fO]at h
   split at h
   ·rename_i b0 hb0
    simp only[Heap.get]at h
    cases hk:(k==i)
    ·rw[hk]at h;exact step h
    ·rw[hk]at h
     have e:k=i:=by simpa using hk
     subst e
     cases h
     exact⟨l,b0,by simp,aI _,hb0,rfl⟩
   ·exact step h
variable {P:Program} {C:cd} {S:fw} {E:Entry} {w:World} {K:Nat->Prop} {m:Nat->Option (Option Nat)} {free:Nat->Prop} {H:Heap}
 {f:FuncId} {R:Ending->World->Prop} {a:Act} {k:List Item} {s t s':AS} {α:Type}
def mOf (m:Nat->Option (Option Nat))(ns:List Nat):Nat->Option (Option Nat):=λ i=>(ns[i]?).bind m
theorem zw {g:Nat->Option Nat}{m2:Nat->Option (Option Nat)}{H2:Heap}(hmg:∀ l i y,g l=some i->m l=some y->m2 i=some y)(hrg:∀ l i T t xs,g l=some i->H2.get i=some (.row T t xs)->H.get l=some (.row T t xs))
  {x:AV} {v:Value} (h:Rel w K m H x v):Rel w K m2 H2 (x.ren g) v:=by
 induction h with
 | dead v=>simp only[AV.ren];exact .dead v
 | d x v h=>simp only[AV.ren];exact .d x v h
 | fl t xs a n h=>simp only[AV.ren];exact .fl t xs a n h
 | own0 l t a h =>
   simp only[AV.ren]
   split
   ·rename_i i hi;exact .own0 i t a (hmg _ _ _ hi h)
   ·exact .dead _
 | own l t b n cap h hn hcap hs =>
   simp only[AV.ren]
   split
   ·rename_i i hi
    refine .own i t b n cap (hmg _ _ _ hi h) (λ T xs hx=>?_) hcap hs
    exact hn T xs (hrg _ _ _ _ _ hi hx)
   ·exact .dead _
 | view0 l t off a =>
   simp only[AV.ren]
   split
   ·exact .view0 _ t off a
   ·exact .dead _
 | view l t b off len cap h hcap hs =>
   simp only[AV.ren]
   split
   ·rename_i i hi;exact .view i t b off len cap (hmg _ _ _ hi h) hcap hs
   ·exact .dead _
 | ptr l f b h =>
   simp only[AV.ren]
   split
   ·rename_i i hi;exact .ptr i f b (hmg _ _ _ hi h)
   ·exact .dead _
 | eptr l t i f b h =>
   simp only[AV.ren]
   split
   ·rename_i k hi;exact .eptr k t i f b (hmg _ _ _ hi h)
   ·exact .dead _
 | ip ds b off u hb hc hr=>simp only[AV.ren];exact .ip ds b off u hb hc hr
 | agg cs vs hl h ih =>
   simp only[AV.ren]
   refine .agg _ vs (by rw[eu];exact hl) λ i x v hx hv=>?_
   rw[gY]at hx
   obtain⟨y,hy,rfl⟩:=ac.1 hx
   exact ih i y v hy hv
 | tup cs vs hl h ih =>
   simp only[AV.ren]
   refine .tup _ vs (by rw[eu];exact hl) λ i x v hx hv=>?_
   rw[gY]at hx
   obtain⟨y,hy,rfl⟩:=ac.1 hx
   exact ih i y v hy hv
 | clo fn fs cs us vs hf hl h1 h2 ih1 ih2 =>
   simp only[AV.ren]
   refine .clo fn _ _ us vs (by rw[eu];exact hf) (by rw[eu];exact hl) (λ i x v hx hv=>?_) (λ i x v hx hv=>?_)
   ·rw[gY]at hx
    obtain⟨y,hy,rfl⟩:=ac.1 hx
    exact ih1 i y v hy hv
   ·rw[gY]at hx
    obtain⟨y,hy,rfl⟩:=ac.1 hx
    exact ih2 i y v hy hv
 | mp l b h =>
   simp only[AV.ren]
   split
   ·rename_i i hi;exact .mp i b (hmg _ _ _ hi h)
   ·exact .dead _
theorem sf {ns:List Nat}{x:AV}{v:Value}(h:Rel w K m H x v):Rel w K (mOf m ns) (fO (dK ns) H ns 0) (x.ren (dK ns)) v:=
 zw (λ l i y hi hy=>by unfold mOf;rw[qO hi];exact hy) (λ l i T t xs hi hx=>by
  obtain⟨l',b',h1,_,h2,h3⟩:=gn _ _ _ _ hx
  have h4:=qO hi
  rw[di,h4]at h1
  cases h1
  cases b' with
  | box cells=>cases h3
  | row T' t' xs'=>cases h3;exact h2
  | mp=>cases h3) h
theorem Fc {ns:List Nat}{l i:Nat}{b:ABlk}(hi:ns[i]?=some l)(h:BlkRel w K m H l b):BlkRel w K (mOf m ns) (fO (dK ns) H ns 0) i (b.ren (dK ns)):=by
 have hm:mOf m ns i=m l:=by unfold mOf;rw[hi];rfl
 cases b with
 | box cells =>
   obtain⟨b,cs,T,h1,h2,h3,h4⟩:=h
   refine⟨b,cs,T,by rw[hm];exact h1,h2,by rw[eu];exact h3,λ j x v hx hv=>?_⟩
   rw[gY]at hx
   obtain⟨y,hy,rfl⟩:=ac.1 hx
   exact sf (h4 j y v hy hv)
 | row T t xs =>
   rcases h with⟨h1,h2⟩|⟨b,cs,h1,h2,h3,h4⟩
   ·exact .inl ⟨by rw[hm];exact h1,h2⟩
   ·exact .inr ⟨b,cs,by rw[hm];exact h1,h2,h3,h4⟩
 | mp tk tv kvs =>
   obtain⟨b,es,c,h1,h2,h3,h4⟩:=h
   exact⟨b,es,c,by rw[hm];exact h1,h2,h3,h4⟩
theorem Mem.ren (h:Mem E w K m H free){ns:List Nat}(hnd:ns.Nodup)(h0:∀ i,i<E.n->ns[i]?=some i):Mem E w K (mOf m ns) (fO (dK ns) H ns 0) (λ l=>ns.length<=l):=by
 have hin:∀ {i x},mOf m ns i=some x->∃ l,ns[i]?=some l/\m l=some x:=λ hx=>aa.1 hx
 exact
 { os := h.os, tape := h.tape, output := h.output, size := h.size, keep := h.keep, Kmono := h.Kmono, Klt := h.Klt, Knew := h.Knew
   mold:=λ l hl=>by unfold mOf;rw[h0 l hl];exact h.mold l hl
   mnew:=λ l b hl hm=>by
    obtain⟨l',hl',hm'⟩:=hin hm
    by_cases hc:l'<E.n
    ·refine .inr ⟨l',hc,?_⟩
     rw[<-h.mold l' hc];exact hm'
    ·exact h.mnew l' b (by omega) hm'
   mlt:=λ l b hm=>by obtain⟨l',_,hm'⟩:=hin hm;exact h.mlt l' b hm'
   mfree:=λ l hl=>by unfold mOf;rw[aw hl];rfl
   fnew:=λ l hl=>by
    rcases ax l E.n with h1|h1
    ·have:=h0 l h1
     rw[aw hl]at this;cases this
    ·exact h1
   heap:=λ l blk hb=>by
    obtain⟨l',b',h1,_,h2,rfl⟩:=gn _ _ _ _ hb
    exact Fc (by simpa using h1) (h.heap l' b' h2)
   own:=λ l blk b hb hm=>by
    obtain⟨l',b',h1,_,h2,rfl⟩:=gn _ _ _ _ hb
    obtain⟨l2,hl2,hm2⟩:=hin hm
    rw[di,hl2]at h1;cases h1
    exact h.own _ b' b h2 hm2
   inj:=λ l l' blk blk' b hb hb' hm hm'=>by
    obtain⟨x,b1,h1,_,h2,rfl⟩:=gn _ _ _ _ hb
    obtain⟨y,b2,h3,_,h4,rfl⟩:=gn _ _ _ _ hb'
    obtain⟨x',hx',hmx⟩:=hin hm
    obtain⟨y',hy',hmy⟩:=hin hm'
    rw[di,hx']at h1;cases h1
    rw[di,hy']at h3;cases h3
    have e:=h.inj _ _ b1 b2 b h2 h4 hmx hmy
    rw[e]at hx'
    have hl:l<ns.length:=by
     rcases ax l ns.length with h|h
     ·exact h
     ·rw[aw h]at hx';cases hx'
    exact(List.getElem?_inj hl hnd).1 (hx'.trans hy'.symm)
   shape:=h.shape,frozen:=h.frozen,gok:=h.gok }
end Go.VL
