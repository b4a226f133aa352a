/- Own work: part WA of the proof. -/
import GoSem.Core.World
import Derived.WalkKit
import Derived.Orders
import Derived.Deep.Draws
set_option linter.unusedVariables false
set_option linter.unusedSimpArgs false
namespace Go
abbrev w64 (n:Int):Int:=IntKind.i64.wrap n
abbrev aa:=@Option.bind_eq_some_iff
abbrev ac:=@Option.map_eq_some_iff
abbrev af:=@List.length_cons
abbrev ag:=@Option.some.injEq
abbrev ah:=@bne_eq_false_iff_eq
abbrev ai:=@List.getElem?_eq_getElem
abbrev ak:=@List.length_nil
abbrev al:=@List.length_append
abbrev am:=@List.getElem?_eq_some_iff
abbrev au:=@Int.toNat_natCast
abbrev aw:=@List.getElem?_eq_none
abbrev ax:=@Nat.lt_or_ge
abbrev ay:=@List.eq_nil_of_length_eq_zero
abbrev az:=@List.mem_append
abbrev aA:=@Option.bind_some
abbrev aB:=@List.mem_cons
abbrev aC:=@Nat.mul_le_mul_right
abbrev aD:=@List.length_take
abbrev aE:=@if_pos
abbrev aF:=@if_neg
abbrev aG:=@cond_true
abbrev aH:=@beq_eq_false_iff_ne
abbrev aI:=@Nat.le_refl
abbrev aJ:=@Option.some.inj
abbrev aK:=@Int.toNat_of_nonneg
abbrev aL:=@List.length_drop
abbrev aN:=@List.getElem_mem
abbrev aO:=@Bool.and_eq_true
abbrev aP:=@List.getElem?_set
abbrev aQ:=@List.getElem?_map
abbrev aR:=@List.pairwise_cons
abbrev aT:=@Nat.pow_le_pow_right
abbrev aV:=@Nat.le_of_ble_eq_true
abbrev aW:=@List.take_succ_eq_append_getElem
abbrev aZ:=@List.mem_map
abbrev ba:=@Bool.not_true
abbrev bi:=@List.getD_eq_getElem?_getD
abbrev bj:=@Nat.le_trans
abbrev bk:=@List.append_assoc
abbrev bl:=@Array.length_toList
abbrev bn:=@List.map_cons
abbrev bo:=@eq_of_beq
abbrev bp:=@List.getElem?_cons_zero
abbrev bq:=@List.mem_singleton
abbrev bt:=@Option.map_some
abbrev bu:=@List.mem_of_getElem?
abbrev bv:=@List.getElem?_append
abbrev bw:=@Array.getElem?_toList
abbrev bA:=@Nat.add_mul
abbrev bB:=@Prod.mk.injEq
abbrev bC:=@decide_eq_true_eq
abbrev bD:=@beq_iff_eq
abbrev bE:=@List.drop_zero
abbrev bF:=@decide_eq_decide
abbrev bH:=@List.length_map
abbrev bJ:=@List.getElem?_append_left
abbrev bK:=@Nat.zero_le
abbrev bL:=@Nat.not_lt_zero
abbrev bM:=@Option.isSome_iff_exists
abbrev bO:=@Nat.mul_comm
abbrev bP:=@List.getElem?_append_right
abbrev bR:=@List.all_eq_true
abbrev bT:=@List.map_append
abbrev bV:=@Array.getElem?_eq_getElem
abbrev bZ:=@Array.getElem?_eq_none
abbrev ca:=@Bool.and_eq_true_iff
abbrev cf:=@cond_false
abbrev ch:=@Nat.mul_le_mul_left
abbrev cj:=@List.take_of_length_le
abbrev cm:=@List.getElem?_drop
abbrev cn:=@Bool.true_and
abbrev co:=@List.length_set
abbrev cr:=@Bool.cond_eq_ite
abbrev ct:=@Array.getElem?_eq_some_iff
abbrev cx:=@List.size_toArray
abbrev cE:=@Nat.zero_add
abbrev cG:=@Nat.lt_of_lt_of_le
abbrev cI:=@List.mem_range
abbrev cJ:=@Nat.mod_eq_of_lt
abbrev cK:=@bne_iff_ne
abbrev cL:=@List.length_replicate
abbrev cN:=@decide_eq_false_iff_not
abbrev cO:=@Int.eq_ofNat_of_zero_le
abbrev cS:=@List.getElem?_take
abbrev cU:=@Array.toArray_toList
abbrev cY:=@Array.getElem?_extract
abbrev de:=@Nat.pow_pos
abbrev di:=@Nat.sub_zero
abbrev dp:=@List.getElem?_set_ne
abbrev dq:=@List.getElem?_replicate
abbrev dx:=@Nat.mul_assoc
abbrev dB:=@bne_self_eq_false
abbrev dD:=@List.map_nil
abbrev dE:=@List.ext_getElem?
abbrev dH:=@List.takeWhile_cons
abbrev dI:=@List.replicate_succ
abbrev dJ:=@List.getElem_of_mem
abbrev dL:=@Bool.eq_iff_iff
abbrev dQ:=@List.mem_iff_getElem?
abbrev dR:=@Array.getElem?_append
abbrev dY:=@beq_self_eq_true
abbrev dZ:=@Array.eq_empty_of_size_eq_zero
abbrev eA:=@Nat.one_mul
abbrev eB:=@List.pairwise_append
abbrev eL:=@Nat.pow_add
abbrev eR:=@Nat.eq_zero_or_pos
abbrev eS:=@Int.tmod_eq_emod_of_nonneg
abbrev eT:=@Array.getElem?_append_left
abbrev eV:=@List.getElem?_toArray
abbrev fg:=@Nat.pow_succ
abbrev fh:=@Nat.add_zero
abbrev fj:=@List.flatMap_cons
abbrev fx:=@Array.getElem?_replicate
abbrev fI:=@Nat.and_two_pow_sub_one_eq_mod
abbrev fS:=@List.nil_append
abbrev fT:=@List.mem_filter
abbrev fU:=@List.append_nil
abbrev fV:=@Array.getElem?_setIfInBounds
abbrev gb:=@Nat.ble_eq_true_of_le
abbrev ge:=@List.length_filter_le
abbrev gi:=@Nat.mul_lt_mul_of_pos_right
abbrev gy:=@List.mem_of_mem_take
abbrev gA:=@Int.tdiv_eq_ediv_of_nonneg
abbrev gB:=@Int.fdiv_eq_ediv_of_nonneg
abbrev gC:=@Array.mem_toList_iff
abbrev gQ:=@Option.getD_some
abbrev gR:=@Nat.zero_mul
abbrev gS:=@Nat.pow_zero
abbrev gT:=@List.pairwise_iff_getElem
abbrev gX:=@List.map_congr_left
abbrev hN:=@Int.add_assoc
abbrev hU:=@List.nodup_cons
abbrev hX:=@List.foldl_cons
abbrev iu:=@Nat.mul_one
abbrev iv:=@List.pairwise_singleton
abbrev iw:=@List.getElem?_cons_succ
abbrev iy:=@Int.le_refl
abbrev iL:=@not_true_eq_false
abbrev iM:=@List.nodup_append
abbrev iN:=@List.map_map
abbrev iO:=@List.flatten_cons
abbrev iP:=@Int.add_zero
abbrev iT:=@List.replicate_append_replicate
abbrev iW:=@List.singleton_append
abbrev iX:=@List.length_singleton
abbrev iY:=@Array.getElem?_modify
abbrev jt:=@Nat.div_eq_of_lt
abbrev ju:=@List.take_length
abbrev jv:=@List.range'_succ
abbrev jw:=@List.not_mem_nil
abbrev jz:=@List.mem_flatMap
abbrev jA:=@List.cons_append
abbrev jI:=@List.cons.inj
abbrev jJ:=@List.all_cons
abbrev jQ:=@Nat.le_succ
abbrev jX:=@List.find?_cons
abbrev jY:=@Int.natCast_mul
abbrev ke:=@Nat.add_le_add_left
abbrev kf:=@List.getElem?_range
abbrev kn:=@dif_pos
abbrev ko:=@decide_false
abbrev kT:=@Nat.mul_le_mul
abbrev kU:=@Nat.mod_lt
abbrev kV:=@List.mem_cons_self
abbrev kW:=@List.drop_drop
abbrev kX:=@Bool.not_false
abbrev kY:=@Array.getElem?_map
abbrev kZ:=@Array.foldl_toList
abbrev lc:=@Array.all_eq_true'
abbrev lA:=@not_false_eq_true
abbrev lB:=@Nat.mul_pos
abbrev lD:=@List.length_range
abbrev lE:=@List.getElem_take
abbrev lF:=@Int.emod_eq_of_lt
abbrev lG:=@Int.compare_eq_lt
abbrev lH:=@Int.compare_eq_gt
abbrev lI:=@Int.compare_eq_eq
abbrev lJ:=@Bool.not_eq_true'
abbrev lR:=@Nat.add_assoc
abbrev ml:=@or_false
abbrev mm:=@Nat.shiftLeft_eq
abbrev mn:=@Nat.lt_log2_self
abbrev mo:=@Nat.le_add_right
abbrev mq:=@List.elem_eq_mem
abbrev mU:=@if_true
abbrev mZ:=@Option.map_none
abbrev na:=@Nat.mul_add_mod
abbrev nc:=@Nat.div_le_self
abbrev nd:=@Nat.div_add_mod
abbrev ng:=@List.head?_drop
abbrev nh:=@Array.size_push
abbrev ob:=@and_true
end Go
namespace Go.VL
abbrev Fl:=Option Nat
structure yG where
 lo:Int
 hi:Int
  deriving DecidableEq,Inhabited
structure Place where
 row:Int
 col:Int
  deriving DecidableEq,Inhabited
structure yF where
 rows:Int
 zP:Int
 x:Fl
 pitch:Fl
 reach:Fl
 cap:Int
 start:List Int
  deriving DecidableEq,Inhabited
structure yK where
 rows:Int
 zP:Int
 x:Fl
 pitch:Fl
 reach:Fl
  deriving DecidableEq,Inhabited
structure yA where
 zA:List Fl
 zB:List yF
 zC:List yK
 zO:Int
  deriving DecidableEq,Inhabited
structure Part where
 kind:Int
 unit:Int
 row:Int
 col:Int
  deriving DecidableEq,Inhabited
structure Cell where
 cap:Int
 zS:Int
 ver:Int
  deriving DecidableEq,Inhabited
structure yM where
 ver:Int
 by':Int
 n:Int
  deriving DecidableEq,Inhabited
structure Log where
 room:Int
 last:Int
 list:List yM
  deriving DecidableEq,Inhabited
structure Tip where
 state:Int
 by':Int
  deriving DecidableEq,Inhabited
structure yC where
 cells:List Cell
 zL:List Log
 zK:List Tip
 start:Int
 zR:Int
 out:Int
  deriving DecidableEq,Inhabited
structure yT where
 kind:Int
 zU:List Int
 a:Int
 b:Int
 ver:Int
 zS:Int
  deriving DecidableEq,Inhabited
structure yH where
 err:Int
 id:Int
 n:Int
 ver:Int
 list:List yM
  deriving DecidableEq,Inhabited
structure yE where
 zI:yA
 zE:yC
 zD:List Int
  deriving DecidableEq,Inhabited
structure Asked where
 zT:Int
 req:yT
  deriving DecidableEq,Inhabited
structure Numb where
 n:Int
 wide:Int
  deriving DecidableEq,Inhabited
structure Box where
 rows:Int
 zP:Int
  deriving DecidableEq,Inhabited
structure Row where
 x:Fl
 pitch:Fl
 reach:Fl
  deriving DecidableEq,Inhabited
structure Rdr where
 b:List Int
 at':Int
 e:Int
  deriving DecidableEq,Inhabited
structure yB where
 zU:Bool
 a:Bool
 b:Bool
 ver:Bool
 zS:Bool
  deriving DecidableEq,Inhabited
structure Deed where
 kind:Int
 id:Int
  deriving DecidableEq,Inhabited
structure Event where
 kind:Int
 zT:Int
 num:Int
 at':Int
  deriving DecidableEq,Inhabited
structure CallN where
 zT:Int
 num:Int
  deriving DecidableEq,Inhabited
structure Fault where
 kind:Int
 id:Int
  deriving DecidableEq,Inhabited
structure OpR where
 zT:Int
 req:yT
 zM:yH
 from':Int
 to':Int
  deriving DecidableEq,Inhabited
structure Mach where
 zT:Int
 phase:Int
 num:Int
 req:yT
 zU:List Int
 at':Int
 zM:yH
 todo:List yT
 told:List yH
  deriving DecidableEq,Inhabited
structure WorldR where
 model:yE
 locks:List Int
 machs:List Mach
 now:Int
 hist:List Event
  deriving DecidableEq,Inhabited
structure Wide where
 hi:Int
 lo:Int
  deriving DecidableEq,Inhabited
structure Fld3 where
 n:Int
 lo:Int
 hi:Int
  deriving DecidableEq,Inhabited
inductive Ty where
 | int|u64|u8|bool|zQ|str
 | span|place|zJ|zN|zI|part|cell|change|zW|zV|zE|req|zM|model|asked
 | numb|box|row|rdr
 | flds|b5|deed|event|call|fault|op|mach|world|wide|fld
 | sl (t:Ty)
  deriving DecidableEq,Inhabited
abbrev Ty.ty:Ty->Type
 | .int=>Int | .u64=>Int | .u8=>Int | .bool=>Bool | .zQ=>Fl | .str=>ByteArray
 | .span=>yG | .place=>Place | .zJ=>yF | .zN=>yK | .zI=>yA | .part=>Part | .cell=>Cell | .change=>yM | .zW=>Log | .zV=>Tip
 | .zE=>yC | .req=>yT | .zM=>yH | .model=>yE | .asked=>Asked
 | .numb=>Numb | .box=>Box | .row=>Row | .rdr=>Rdr
 | .flds=>yB | .b5=>yB | .deed=>Deed | .event=>Event | .call=>CallN | .fault=>Fault | .op=>OpR | .mach=>Mach | .world=>WorldR | .wide=>Wide | .fld=>Fld3
 | .sl t=>List t.ty
def Ty.dflt:(t:Ty)->t.ty
 | .int=>(0:Int) | .u64=>(0:Int) | .u8=>(0:Int) | .bool=>false | .zQ=>some 0 | .str=>ByteArray.empty
 | .span=>⟨0,0⟩ | .place=>⟨0,0⟩ | .zJ=>⟨0,0,some 0,some 0,some 0,0,[]⟩ | .zN=>⟨0,0,some 0,some 0,some 0⟩
 | .zI=>⟨[],[],[],0⟩ | .part=>⟨0,0,0,0⟩ | .cell=>⟨0,0,0⟩ | .change=>⟨0,0,0⟩ | .zW=>⟨0,0,[]⟩ | .zV=>⟨0,0⟩
 | .zE=>⟨[],[],[],0,0,0⟩ | .req=>⟨0,[],0,0,0,0⟩ | .zM=>⟨0,0,0,0,[]⟩ | .model=>⟨⟨[],[],[],0⟩,⟨[],[],[],0,0,0⟩,[]⟩
 | .asked=>⟨0,⟨0,[],0,0,0,0⟩⟩ | .numb=>⟨0,0⟩ | .box=>⟨0,0⟩ | .row=>⟨some 0,some 0,some 0⟩ | .rdr=>⟨[],0,0⟩
 | .flds=>⟨false,false,false,false,false⟩ | .b5=>⟨false,false,false,false,false⟩ | .deed=>⟨0,0⟩ | .event=>⟨0,0,0,0⟩ | .call=>⟨0,0⟩ | .fault=>⟨0,0⟩ | .wide=>⟨0,0⟩ | .fld=>⟨0,0,0⟩
 | .op=>⟨0,⟨0,[],0,0,0,0⟩,⟨0,0,0,0,[]⟩,0,0⟩ | .mach=>⟨0,0,0,⟨0,[],0,0,0,0⟩,[],0,⟨0,0,0,0,[]⟩,[],[]⟩
 | .world=>⟨⟨⟨[],[],[],0⟩,⟨[],[],[],0,0,0⟩,[]⟩,[],[],0,[]⟩
 | .sl _=>[]
inductive D where
 | v (x:Value)
 | f (o:Fl)
 | sl (t:Ty) (xs:List t.ty)
abbrev D.i (n:Int):D:=.v (.int .i64 n)
abbrev D.u (n:Int):D:=.v (.int .u64 n)
abbrev D.b (b:Bool):D:=.v (.bool b)
abbrev D.nil:D:=.v (.slice none 0 0)
def enc:(t:Ty)->t.ty->List D
 | .int,x=>[.v (.int .i64 x)]
 | .u64,x=>[.v (.int .u64 x)]
 | .u8,x=>[.v (.int .u8 x)]
 | .bool,x=>[.v (.bool x)]
 | .zQ,x=>[.f x]
 | .str,x=>[.v (.string x)]
 | .span,x=>[.i x.lo,.i x.hi]
 | .place,x=>[.i x.row,.i x.col]
 | .zJ,x=>[.i x.rows,.i x.zP,.f x.x,.f x.pitch,.f x.reach,.i x.cap,.sl .int x.start]
 | .zN,x=>[.i x.rows,.i x.zP,.f x.x,.f x.pitch,.f x.reach]
 | .zI,x=>[.sl .zQ x.zA,.sl .zJ x.zB,.sl .zN x.zC,.i x.zO]
 | .part,x=>[.i x.kind,.i x.unit,.i x.row,.i x.col]
 | .cell,x=>[.i x.cap,.i x.zS,.i x.ver]
 | .change,x=>[.i x.ver,.i x.by',.i x.n]
 | .zW,x=>[.i x.room,.i x.last,.sl .change x.list]
 | .zV,x=>[.i x.state,.i x.by']
 | .zE,x=>[.sl .cell x.cells,.sl .zW x.zL,.sl .zV x.zK,.i x.start,.i x.zR,.i x.out]
 | .req,x=>[.i x.kind,.sl .int x.zU,.i x.a,.i x.b,.i x.ver,.u x.zS]
 | .zM,x=>[.i x.err,.i x.id,.i x.n,.i x.ver,.sl .change x.list]
 | .model,x=>[.sl .zQ x.zI.zA,.sl .zJ x.zI.zB,.sl .zN x.zI.zC,.i x.zI.zO,
  .sl .cell x.zE.cells,.sl .zW x.zE.zL,.sl .zV x.zE.zK,.i x.zE.start,.i x.zE.zR,.i x.zE.out,.sl .int x.zD]
 | .asked,x=>[.i x.zT,.i x.req.kind,.sl .int x.req.zU,.i x.req.a,.i x.req.b,.i x.req.ver,.u x.req.zS]
 | .numb,x=>[.u x.n,.i x.wide]
 | .wide,x=>[.u x.hi,.u x.lo]
 | .fld,x=>[.i x.n,.i x.lo,.i x.hi]
 | .box,x=>[.i x.rows,.i x.zP]
 | .row,x=>[.f x.x,.f x.pitch,.f x.reach]
 | .rdr,x=>[.sl .u8 x.b,.i x.at',.i x.e]
 | .flds,x=>[.b x.zU,.b x.a,.b x.b,.b x.ver,.b x.zS]
 | .b5,x=>[.b x.zU,.b x.a,.b x.b,.b x.ver,.b x.zS]
 | .deed,x=>[.i x.kind,.i x.id]
 | .event,x=>[.i x.kind,.i x.zT,.i x.num,.i x.at']
 | .call,x=>[.i x.zT,.i x.num]
 | .fault,x=>[.i x.kind,.i x.id]
 | .op,x=>[.i x.zT,.i x.req.kind,.sl .int x.req.zU,.i x.req.a,.i x.req.b,.i x.req.ver,.u x.req.zS,.i x.zM.err,.i x.zM.id,.i x.zM.n,.i x.zM.ver,.sl .change x.zM.list,.i x.from',.i x.to']
 | .mach,x=>[.i x.zT,.i x.phase,.i x.num,.i x.req.kind,.sl .int x.req.zU,.i x.req.a,.i x.req.b,.i x.req.ver,.u x.req.zS,.sl .int x.zU,.i x.at',.i x.zM.err,.i x.zM.id,.i x.zM.n,.i x.zM.ver,.sl .change x.zM.list,.sl .req x.todo,.sl .zM x.told]
 | .world,x=>[.sl .zQ x.model.zI.zA,.sl .zJ x.model.zI.zB,.sl .zN x.model.zI.zC,.i x.model.zI.zO,
  .sl .cell x.model.zE.cells,.sl .zW x.model.zE.zL,.sl .zV x.model.zE.zK,.i x.model.zE.start,.i x.model.zE.zR,.i x.model.zE.out,.sl .int x.model.zD,.sl .int x.locks,.sl .mach x.machs,.i x.now,.sl .event x.hist]
 | .sl t,x=>[.sl t x]
def Ty.size:Ty->Nat
 | .int | .u64 | .u8 | .bool | .zQ | .str | .sl _=>1
 | .span | .place | .zV | .numb | .box=>2
 | .zJ=>7 | .zN=>5 | .zI=>4 | .part=>4 | .cell=>3 | .change=>3 | .zW=>3 | .zE=>6 | .req=>6 | .zM=>5 | .model=>11 | .asked=>7 | .row=>3 | .rdr=>3
 | .flds | .b5=>5 | .deed | .call | .fault=>2 | .event=>4 | .op=>14 | .mach=>18 | .world=>15 | .wide=>2 | .fld=>3
theorem bY (t:Ty)(x:t.ty):(enc t x).length=t.size:=by cases t<;>rfl
theorem zl (t:Ty):0<t.size:=by cases t<;>simp[Ty.size]
def Ty.flat:Ty->Bool
 | .int | .u64 | .u8 | .bool | .zQ | .str | .sl _=>true
 | _=>false
def D.asI:D->Option Int | .v (.int .i64 n)=>some n|_=>none
def D.asU:D->Option Int | .v (.int .u64 n)=>some n|_=>none
def D.asU8:D->Option Int | .v (.int .u8 n)=>some n|_=>none
def D.asB:D->Option Bool | .v (.bool b)=>some b|_=>none
def D.asS:D->Option ByteArray | .v (.string b)=>some b|_=>none
def D.asF:D->Option Fl | .f o=>some o | .v (.float .f64 b)=>some (some b)|_=>none
def D.asSl (t:Ty):D->Option (List t.ty)
 | .sl t' xs=>if h:t'=t then some (h ▸ xs)else none
 | .v (.slice none 0 0)=>some []
 | _=>none
inductive D.le:D->D->Prop
 | refl (d:D):D.le d d
 | nil (t:Ty):D.le (.v (.slice none 0 0)) (.sl t [])
 | zQ (b:Nat):D.le (.v (.float .f64 b)) (.f (some b))
theorem D.asI_le {d:D}{n:Int}(h:d.asI=some n):d.le (.i n):=by
 unfold D.asI at h;split at h<;>simp at h;subst h;exact .refl _
theorem D.asU_le {d:D}{n:Int}(h:d.asU=some n):d.le (.u n):=by
 unfold D.asU at h;split at h<;>simp at h;subst h;exact .refl _
theorem D.asU8_le {d:D}{n:Int}(h:d.asU8=some n):d.le (.v (.int .u8 n)):=by
 unfold D.asU8 at h;split at h<;>simp at h;subst h;exact .refl _
theorem D.asB_le {d:D}{n:Bool}(h:d.asB=some n):d.le (.b n):=by
 unfold D.asB at h;split at h<;>simp at h;subst h;exact .refl _
theorem D.asS_le {d:D}{n:ByteArray}(h:d.asS=some n):d.le (.v (.string n)):=by
 unfold D.asS at h;split at h<;>simp at h;subst h;exact .refl _
theorem D.asF_le {d:D}{n:Fl}(h:d.asF=some n):d.le (.f n):=by
 unfold D.asF at h;split at h<;>simp at h<;>subst h
 ·exact .refl _
 ·exact .zQ _
theorem D.asSl_le {t:Ty}{d:D}{n:List t.ty}(h:d.asSl t=some n):d.le (.sl t n):=by
 unfold D.asSl at h;split at h
 ·split at h
  ·rename_i ht;subst ht;simp at h;subst h;exact .refl _
  ·simp at h
 ·simp at h;subst h;exact .nil _
 ·simp at h
def dec:(t:Ty)->List D->Option t.ty
 | .int,[a]=>a.asI
 | .u64,[a]=>a.asU
 | .u8,[a]=>a.asU8
 | .bool,[a]=>a.asB
 | .zQ,[a]=>a.asF
 | .str,[a]=>a.asS
 | .span,[a,b]=>a.asI.bind λ a=>b.asI.bind λ b=>some ⟨a,b⟩
 | .place,[a,b]=>a.asI.bind λ a=>b.asI.bind λ b=>some ⟨a,b⟩
 | .zJ,[a,b,c,d,e,f,g]=>a.asI.bind λ a=>b.asI.bind λ b=>c.asF.bind λ c=>d.asF.bind λ d=>e.asF.bind λ e=>f.asI.bind λ f=>(g.asSl .int).bind λ g=>some ⟨a,b,c,d,e,f,g⟩
 | .zN,[a,b,c,d,e]=>a.asI.bind λ a=>b.asI.bind λ b=>c.asF.bind λ c=>d.asF.bind λ d=>e.asF.bind λ e=>some ⟨a,b,c,d,e⟩
 | .zI,[a,b,c,d]=>(a.asSl .zQ).bind λ a=>(b.asSl .zJ).bind λ b=>(c.asSl .zN).bind λ c=>d.asI.bind λ d=>some ⟨a,b,c,d⟩
 | .part,[a,b,c,d]=>a.asI.bind λ a=>b.asI.bind λ b=>c.asI.bind λ c=>d.asI.bind λ d=>some ⟨a,b,c,d⟩
 | .cell,[a,b,c]=>a.asI.bind λ a=>b.asI.bind λ b=>c.asI.bind λ c=>some ⟨a,b,c⟩
 | .change,[a,b,c]=>a.asI.bind λ a=>b.asI.bind λ b=>c.asI.bind λ c=>some ⟨a,b,c⟩
 | .zW,[a,b,c]=>a.asI.bind λ a=>b.asI.bind λ b=>(c.asSl .change).bind λ c=>some ⟨a,b,c⟩
 | .zV,[a,b]=>a.asI.bind λ a=>b.asI.bind λ b=>some ⟨a,b⟩
 | .zE,[a,b,c,d,e,f]=>(a.asSl .cell).bind λ a=>(b.asSl .zW).bind λ b=>(c.asSl .zV).bind λ c=>d.asI.bind λ d=>e.asI.bind λ e=>f.asI.bind λ f=>some ⟨a,b,c,d,e,f⟩
 | .req,[a,b,c,d,e,f]=>a.asI.bind λ a=>(b.asSl .int).bind λ b=>c.asI.bind λ c=>d.asI.bind λ d=>e.asI.bind λ e=>f.asU.bind λ f=>some ⟨a,b,c,d,e,f⟩
 | .zM,[a,b,c,d,e]=>a.asI.bind λ a=>b.asI.bind λ b=>c.asI.bind λ c=>d.asI.bind λ d=>(e.asSl .change).bind λ e=>some ⟨a,b,c,d,e⟩
 | .model,[a1,b1,c1,d1,a,b,c,d,e,f,g]=>(a1.asSl .zQ).bind λ a1=>(b1.asSl .zJ).bind λ b1=>(c1.asSl .zN).bind λ c1=>d1.asI.bind λ d1=>
  (a.asSl .cell).bind λ a=>(b.asSl .zW).bind λ b=>(c.asSl .zV).bind λ c=>d.asI.bind λ d=>e.asI.bind λ e=>f.asI.bind λ f=>(g.asSl .int).bind λ g=>some ⟨⟨a1,b1,c1,d1⟩,⟨a,b,c,d,e,f⟩,g⟩
 | .asked,[w,a,b,c,d,e,f]=>w.asI.bind λ w=>a.asI.bind λ a=>(b.asSl .int).bind λ b=>c.asI.bind λ c=>d.asI.bind λ d=>e.asI.bind λ e=>f.asU.bind λ f=>some ⟨w,⟨a,b,c,d,e,f⟩⟩
 | .numb,[a,b]=>a.asU.bind λ a=>b.asI.bind λ b=>some ⟨a,b⟩
 | .wide,[a,b]=>a.asU.bind λ a=>b.asU.bind λ b=>some ⟨a,b⟩
 | .fld,[a,b,c]=>a.asI.bind λ a=>b.asI.bind λ b=>c.asI.bind λ c=>some ⟨a,b,c⟩
 | .box,[a,b]=>a.asI.bind λ a=>b.asI.bind λ b=>some ⟨a,b⟩
 | .row,[a,b,c]=>a.asF.bind λ a=>b.asF.bind λ b=>c.asF.bind λ c=>some ⟨a,b,c⟩
 | .rdr,[a,b,c]=>(a.asSl .u8).bind λ a=>b.asI.bind λ b=>c.asI.bind λ c=>some ⟨a,b,c⟩
 | .flds,[a,b,c,d,e]=>a.asB.bind λ a=>b.asB.bind λ b=>c.asB.bind λ c=>d.asB.bind λ d=>e.asB.bind λ e=>some ⟨a,b,c,d,e⟩
 | .b5,[a,b,c,d,e]=>a.asB.bind λ a=>b.asB.bind λ b=>c.asB.bind λ c=>d.asB.bind λ d=>e.asB.bind λ e=>some ⟨a,b,c,d,e⟩
 | .deed,[a,b]=>a.asI.bind λ a=>b.asI.bind λ b=>some ⟨a,b⟩
 | .event,[a,b,c,d]=>a.asI.bind λ a=>b.asI.bind λ b=>c.asI.bind λ c=>d.asI.bind λ d=>some ⟨a,b,c,d⟩
 | .call,[a,b]=>a.asI.bind λ a=>b.asI.bind λ b=>some ⟨a,b⟩
 | .fault,[a,b]=>a.asI.bind λ a=>b.asI.bind λ b=>some ⟨a,b⟩
 | .op,[w,a,b,c,d,e,f,g,h,i,j,k,l,n]=>w.asI.bind λ w=>a.asI.bind λ a=>(b.asSl .int).bind λ b=>c.asI.bind λ c=>d.asI.bind λ d=>e.asI.bind λ e=>f.asU.bind λ f=>g.asI.bind λ g=>h.asI.bind λ h=>i.asI.bind λ i=>j.asI.bind λ j=>(k.asSl .change).bind λ k=>l.asI.bind λ l=>n.asI.bind λ n=>some ⟨w,⟨a,b,c,d,e,f⟩,⟨g,h,i,j,k⟩,l,n⟩
 | .mach,[w,p,q,a,b,c,d,e,f,r,s,g,h,i,j,k,l,n]=>w.asI.bind λ w=>p.asI.bind λ p=>q.asI.bind λ q=>a.asI.bind λ a=>(b.asSl .int).bind λ b=>c.asI.bind λ c=>d.asI.bind λ d=>e.asI.bind λ e=>f.asU.bind λ f=>(r.asSl .int).bind λ r=>s.asI.bind λ s=>g.asI.bind λ g=>h.asI.bind λ h=>i.asI.bind λ i=>j.asI.bind λ j=>(k.asSl .change).bind λ k=>(l.asSl .req).bind λ l=>(n.asSl .zM).bind λ n=>some ⟨w,p,q,⟨a,b,c,d,e,f⟩,r,s,⟨g,h,i,j,k⟩,l,n⟩
 | .world,[a1,b1,c1,d1,a,b,c,d,e,f,g,h,i,j,k]=>(a1.asSl .zQ).bind λ a1=>(b1.asSl .zJ).bind λ b1=>(c1.asSl .zN).bind λ c1=>d1.asI.bind λ d1=>(a.asSl .cell).bind λ a=>(b.asSl .zW).bind λ b=>(c.asSl .zV).bind λ c=>d.asI.bind λ d=>e.asI.bind λ e=>f.asI.bind λ f=>(g.asSl .int).bind λ g=>(h.asSl .int).bind λ h=>(i.asSl .mach).bind λ i=>j.asI.bind λ j=>(k.asSl .event).bind λ k=>some ⟨⟨⟨a1,b1,c1,d1⟩,⟨a,b,c,d,e,f⟩,g⟩,h,i,j,k⟩
 | .sl t,[a]=>a.asSl t
 | _,_=>none
inductive Les:List D->List D->Prop
 | nil:Les [] []
 | cons {a b:D} {as bs:List D}:a.le b->Les as bs->Les (a::as) (b::bs)
theorem ye {t:Ty}{ds:List D}{x:t.ty}(h:dec t ds=some x):Les ds (enc t x):=by
 unfold dec at h
 split at h<;>(try simp only[aa,reduceCtorEq]at h) <;>
  (try (obtain⟨_,h1,h⟩:=h))<;>(try (obtain⟨_,h2,h⟩:=h))<;>(try (obtain⟨_,h3,h⟩:=h))<;>(try (obtain⟨_,h4,h⟩:=h)) <;>
  (try (obtain⟨_,h5,h⟩:=h))<;>(try (obtain⟨_,h6,h⟩:=h))<;>(try (obtain⟨_,h7,h⟩:=h))<;>(try (obtain⟨_,h8,h⟩:=h)) <;>
  (try (obtain⟨_,h9,h⟩:=h))<;>(try (obtain⟨_,h10,h⟩:=h))<;>(try (obtain⟨_,h11,h⟩:=h))<;>(try (obtain⟨_,h12,h⟩:=h))<;>(try (obtain⟨_,h13,h⟩:=h))<;>(try (obtain⟨_,h14,h⟩:=h))<;>(try (obtain⟨_,h15,h⟩:=h))<;>(try (obtain⟨_,h16,h⟩:=h))<;>(try (obtain⟨_,h17,h⟩:=h))<;>(try (obtain⟨_,h18,h⟩:=h)) <;>
  (try (simp only[ag]at h;subst h)) <;>
  (simp only[enc];repeat' (first|exact Les.nil|refine Les.cons ?_ ?_)) <;>
  first
   | exact D.asI_le (by assumption)|exact D.asU_le (by assumption)|exact D.asU8_le (by assumption)|exact D.asB_le (by assumption)
   | exact D.asS_le (by assumption)|exact D.asF_le (by assumption)|exact D.asSl_le (by assumption)
def sE:List Nat:=[0,1,56,2,57,49,28,3,61,58,42,50,38,29,17,4,62,47,59,36,45,43,51,22,53,39,33,30,24,18,12,5,63,55,48,27,60,41,37,16,46,35,44,21,52,32,23,11,54,26,40,15,34,20,31,10,25,14,19,9,13,8,7,6]
def glb:List (Nat×Array Value):=[(1,(sE.map λ n:Nat=>Value.int .u8 (n:Int)).toArray)]
inductive AV where
 | dead
 | d (x:D)
 | fl (t:Ty) (xs:List t.ty)
 | own (l:Nat) (t:Ty)
 | view (l:Nat) (t:Ty) (off len:Nat)
 | ptr (l f:Nat)
 | eptr (l:Nat) (t:Ty) (i f:Nat)
 | ip (ds:List D)
 | agg (cs:List AV)
 | tup (vs:List AV)
 | clo (fn:Fn) (first caps:List AV)
 | mp (l:Nat)
inductive ABlk where
 | box (cells:List AV)
 | row (T:TypeId) (t:Ty) (xs:List t.ty)
 | mp (tk tv:Ty) (kvs:List (tk.ty×tv.ty))
def AV.ofTy (t:Ty)(x:t.ty):AV:=bif t.flat then .d ((enc t x).headD .nil)else .agg ((enc t x).map .d)
abbrev Heap:=List (Nat×ABlk)
def Heap.get:Heap->Nat->Option ABlk
 | [],_=>none
 | (k,b)::h,l=>bif k==l then some b else Heap.get h l
def Heap.del:Heap->Nat->Heap
 | [],_=>[]
 | (k,b)::h,l=>bif k==l then Heap.del h l else(k,b)::Heap.del h l
def Heap.put (h:Heap)(l:Nat):Option ABlk->Heap
 | some b=>(l,b)::h.del l
 | none=>h.del l
theorem Heap.get_del_self (h:Heap)(l:Nat):(h.del l).get l=none:=by
 induction h with
 | nil=>rfl
 | cons x h ih =>
   obtain⟨k,b⟩:=x
   cases hk:(k==l)<;>simp only[Heap.del,hk,aG,cf,Heap.get,ih]
theorem Heap.get_del (h:Heap){l k:Nat}(hk:k≠l):(h.del l).get k=h.get k:=by
 induction h with
 | nil=>rfl
 | cons x h ih =>
   obtain⟨j,b⟩:=x
   cases hj:(j==l)
   ·simp only[Heap.del,hj,cf,Heap.get,ih]
   ·have hjl:j=l:=by simpa using hj
    have:(j==k)=false:=by rw[hjl];simpa using λ e=>hk e.symm
    simp only[Heap.del,hj,aG,Heap.get,ih,this,cf]
theorem Heap.get_put_self (h:Heap)(l:Nat)(b:Option ABlk):(h.put l b).get l=b:=by
 cases b<;>simp[Heap.put,Heap.get,Heap.get_del_self]
theorem Heap.get_put (h:Heap){l k:Nat}(hk:k≠l)(b:Option ABlk):(h.put l b).get k=h.get k:=by
 have e:(l==k)=false:=by simpa using λ e=>hk e.symm
 cases b<;>simp[Heap.put,Heap.get,Heap.get_del _ hk,e]
def nanBits (b:Nat):Prop:=(FloatKind.f64.format.read b).isNaN=true
def ud:Fl->Nat->Prop
 | some r,b=>b=r
 | none,b=>nanBits b
inductive RelD (w:World) (K:Nat->Prop):D->Value->Prop
 | v (x:Value):RelD w K (.v x) x
 | f (o:Fl) (b:Nat) (h:ud o b):RelD w K (.f o) (.float .f64 b)
 | sl0 (t:Ty) (a:Option Addr) (cap:Nat):RelD w K (.sl t []) (.slice a 0 cap)
 | sl (t:Ty) (xs:List t.ty) (b off cap:Nat) (u:Nat->Nat->Value) (hb:K b) (hcap:xs.length<=cap)
  (hc:∀ i x j d,xs[i]?=some x->(enc t x)[j]?=some d->w.cell? ⟨b,off+(i*t.size+j),none⟩=some (u i j))
  (hr:∀ i x j d,xs[i]?=some x->(enc t x)[j]?=some d->RelD w K d (u i j)):RelD w K (.sl t xs) (.slice (some ⟨b,off,none⟩) xs.length cap)
theorem RelD.ext {w w':World}{K K':Nat->Prop}(hK:∀ b,K b->K' b)(hw:∀ b,K b->w'.heap[b]?=w.heap[b]?){d:D}{v:Value}(h:RelD w K d v):RelD w' K' d v:=by
 induction h with
 | v x=>exact .v x
 | f o b h=>exact .f o b h
 | sl0 t a cap=>exact .sl0 t a cap
 | sl t xs b off cap u hb hcap hc hr ih =>
   refine .sl t xs b off cap u (hK _ hb) hcap (λ i x j d hx hd=>?_) (λ i x j d hx hd=>ih i x j d hx hd)
   rw[World.cell?_of_block (w:=w) (hw b hb)]
   exact hc i x j d hx hd
theorem RelD.le {w:World}{K:Nat->Prop}{d d':D}{v:Value}(hd:d.le d')(h:RelD w K d v):RelD w K d' v:=by
 cases hd with
 | refl=>exact h
 | nil t=>cases h;exact .sl0 t none 0
 | zQ b=>cases h;exact .f _ _ rfl
inductive Rel (w:World) (K:Nat->Prop) (m:Nat->Option (Option Nat)) (H:Heap):AV->Value->Prop
 | dead (v:Value):Rel w K m H .dead v
 | d (x:D) (v:Value) (h:RelD w K x v):Rel w K m H (.d x) v
 | fl (t:Ty) (xs:List t.ty) (a:Option Addr) (n:Nat) (h:RelD w K (.sl t xs) (.slice a n n)):Rel w K m H (.fl t xs) (.slice a n n)
 | own0 (l:Nat) (t:Ty) (a:Option Addr) (h:m l=some none):Rel w K m H (.own l t) (.slice a 0 0)
 | own (l:Nat) (t:Ty) (b n cap:Nat) (h:m l=some (some b)) (hn:∀ T xs,H.get l=some (.row T t xs)->n=xs.length) (hcap:n<=cap)
  (hs:∃ T sz,w.shape? b=some (T,sz)/\cap*t.size<=sz):Rel w K m H (.own l t) (.slice (some ⟨b,0,none⟩) n cap)
 | view0 (l:Nat) (t:Ty) (off:Nat) (a:Option Addr):Rel w K m H (.view l t off 0) (.slice a 0 0)
 | view (l:Nat) (t:Ty) (b off len cap:Nat) (h:m l=some (some b)) (hcap:len<=cap)
  (hs:∃ T sz,w.shape? b=some (T,sz)/\(off+cap)*t.size<=sz):Rel w K m H (.view l t off len) (.slice (some ⟨b,off*t.size,none⟩) len cap)
 | ptr (l f b:Nat) (h:m l=some (some b)):Rel w K m H (.ptr l f) (.pointer (some ⟨b,f,none⟩))
 | eptr (l:Nat) (t:Ty) (i f b:Nat) (h:m l=some (some b)):Rel w K m H (.eptr l t i f) (.pointer (some ⟨b,i*t.size+f,none⟩))
 | ip (ds:List D) (b off:Nat) (u:Nat->Value) (hb:K b) (hc:∀ j d,ds[j]?=some d->w.cell? ⟨b,off+j,none⟩=some (u j))
  (hr:∀ j d,ds[j]?=some d->RelD w K d (u j)):Rel w K m H (.ip ds) (.pointer (some ⟨b,off,none⟩))
 | agg (cs:List AV) (vs:Array Value) (hl:vs.size=cs.length) (h:∀ (i:Nat) (a:AV) (v:Value),cs[i]?=some a->vs[i]?=some v->Rel w K m H a v):Rel w K m H (.agg cs) (.agg vs)
 | tup (cs:List AV) (vs:Array Value) (hl:vs.size=cs.length) (h:∀ (i:Nat) (a:AV) (v:Value),cs[i]?=some a->vs[i]?=some v->Rel w K m H a v):Rel w K m H (.tup cs) (.tuple vs)
 | clo (fn:Fn) (fs cs:List AV) (us vs:Array Value) (hf:us.size=fs.length) (hl:vs.size=cs.length)
  (h1:∀ (i:Nat) (a:AV) (v:Value),fs[i]?=some a->us[i]?=some v->Rel w K m H a v) (h2:∀ (i:Nat) (a:AV) (v:Value),cs[i]?=some a->vs[i]?=some v->Rel w K m H a v) :
  Rel w K m H (.clo fn fs cs) (.func fn us vs)
 | mp (l b:Nat) (h:m l=some (some b)):Rel w K m H (.mp l) (.map (some b))
structure Ext (w:World) (K:Nat->Prop) (m:Nat->Option (Option Nat)) (H:Heap) (w':World) (K':Nat->Prop) (m':Nat->Option (Option Nat)) (H':Heap):Prop where
 hK:∀ b,K b->K' b
 keep:∀ b,K b->w'.heap[b]?=w.heap[b]?
 hm:∀ l x,m l=some x->m' l=some x
 shape:∀ b s,w.shape? b=some s->w'.shape? b=some s
 row:∀ l T t xs,m l≠none->H'.get l=some (.row T t xs)->∃ ys,H.get l=some (.row T t ys)/\ys.length=xs.length
theorem Ext.refl (w:World)(K:Nat->Prop)(m:Nat->Option (Option Nat))(H:Heap):Ext w K m H w K m H:=
 ⟨λ _ h=>h,λ _ _=>rfl,λ _ _ h=>h,λ _ _ h=>h,λ _ _ _ xs _ h=>⟨xs,h,rfl⟩⟩
theorem Ext.trans {w w1 w2:World}{K K1 K2:Nat->Prop}{m m1 m2:Nat->Option (Option Nat)}{H H1 H2:Heap}(h:Ext w K m H w1 K1 m1 H1)(g:Ext w1 K1 m1 H1 w2 K2 m2 H2) :
  Ext w K m H w2 K2 m2 H2:=
 ⟨λ b hb=>g.hK b (h.hK b hb),λ b hb=>(g.keep b (h.hK b hb)).trans (h.keep b hb),λ l x hx=>g.hm l x (h.hm l x hx),λ b s hs=>g.shape b s (h.shape b s hs),
  λ l T t xs hm hx=>by
   obtain⟨x,hm'⟩:=Option.ne_none_iff_exists'.1 hm
   obtain⟨ys,hy,hl⟩:=g.row l T t xs (by rw[h.hm l x hm'];simp) hx
   obtain⟨zs,hz,hl'⟩:=h.row l T t ys hm hy
   exact⟨zs,hz,hl'.trans hl⟩⟩
theorem Rel.ext {w w':World}{K K':Nat->Prop}{m m':Nat->Option (Option Nat)}{H H':Heap}(E:Ext w K m H w' K' m' H'){a:AV}{v:Value}
  (h:Rel w K m H a v):Rel w' K' m' H' a v:=by
 induction h with
 | dead v=>exact .dead v
 | d x v h=>exact .d x v (h.ext E.hK E.keep)
 | fl t xs a n h=>exact .fl t xs a n (h.ext E.hK E.keep)
 | own0 l t a h=>exact .own0 l t a (E.hm _ _ h)
 | own l t b n cap h hn hcap hs =>
   obtain⟨T,sz,hs,hle⟩:=hs
   refine .own l t b n cap (E.hm _ _ h) (λ T xs hx=>?_) hcap ⟨T,sz,E.shape _ _ hs,hle⟩
   obtain⟨ys,hy,hl⟩:=E.row l T t xs (by rw[h];simp) hx
   rw[hn T ys hy,hl]
 | view0 l t off a=>exact .view0 l t off a
 | view l t b off len cap h hcap hs =>
   obtain⟨T,sz,hs,hle⟩:=hs
   exact .view l t b off len cap (E.hm _ _ h) hcap ⟨T,sz,E.shape _ _ hs,hle⟩
 | ptr l f b h=>exact .ptr l f b (E.hm _ _ h)
 | eptr l t i f b h=>exact .eptr l t i f b (E.hm _ _ h)
 | ip ds b off u hb hc hr =>
   refine .ip ds b off u (E.hK _ hb) (λ j d hd=>?_) (λ j d hd=>(hr j d hd).ext E.hK E.keep)
   rw[World.cell?_of_block (w:=w) (E.keep b hb)]
   exact hc j d hd
 | agg cs vs hl h ih=>exact .agg cs vs hl ih
 | tup cs vs hl h ih=>exact .tup cs vs hl ih
 | clo fn fs cs us vs hf hl h1 h2 ih1 ih2=>exact .clo fn fs cs us vs hf hl ih1 ih2
 | mp l b h=>exact .mp l b (E.hm _ _ h)
def BlkRel (w:World)(K:Nat->Prop)(m:Nat->Option (Option Nat))(H:Heap)(l:Nat):ABlk->Prop
 | .box cells=>∃ b cs T,m l=some (some b)/\w.heap[b]?=some (.cells cs T (0,0))/\cs.size=cells.length/\∀ (i:Nat) (x:AV) (v:Value),cells[i]?=some x->cs[i]?=some v->Rel w K m H x v
 | .row T t xs=>(m l=some none/\xs=[])\/∃ b cs,m l=some (some b)/\w.heap[b]?=some (.cells cs T (0,0))/\xs.length*t.size<=cs.size /\
  ∀ i x j d,xs[i]?=some x->(enc t x)[j]?=some d->∃ v,cs[i*t.size+j]?=some v/\RelD w K d v
 | .mp tk tv kvs=>∃ b es clock,m l=some (some b)/\w.heap[b]?=some (.map es clock)/\es.size=kvs.length /\
  ∀ (i:Nat) kv e,kvs[i]?=some kv->es[i]?=some e->Rel w K (λ _=>none) [] (AV.ofTy tk kv.1) e.key/\Rel w K (λ _=>none) [] (AV.ofTy tv kv.2) e.val
theorem Ext.bare {w w':World}{K K':Nat->Prop}{m m':Nat->Option (Option Nat)}{H H':Heap}(e:Ext w K m H w' K' m' H'):Ext w K (λ _=>none) [] w' K' (λ _=>none) []:=
 ⟨e.hK,e.keep,λ _ _ h=>h,e.shape,λ l T t xs h=>absurd rfl h⟩
def GOk (w:World)(K:Nat->Prop):Prop:=∀ p∈glb,K p.1/\∃ T,w.heap[p.1]?=some (.cells p.2 T (0,0))
theorem GOk.ext {w w':World}{K K':Nat->Prop}(h:GOk w K)(hK:∀ b,K b->K' b)(hw:∀ b,K b->w'.heap[b]?=w.heap[b]?):GOk w' K':=λ p hp=>by
 obtain⟨h1,T,h2⟩:=h p hp
 exact⟨hK _ h1,T,by rw[hw _ h1];exact h2⟩
structure Entry where
 w:World
 K:Nat->Prop
 m:Nat->Option (Option Nat)
 n:Nat
structure Mem (E:Entry) (w:World) (K:Nat->Prop) (m:Nat->Option (Option Nat)) (H:Heap) (free:Nat->Prop):Prop where
 os:w.os=E.w.os
 tape:w.tape=E.w.tape
 output:w.output=E.w.output
 size:E.w.heap.size<=w.heap.size
 keep:∀ b,b<E.w.heap.size->(∀ l,l<E.n->E.m l≠some (some b))->w.heap[b]?=E.w.heap[b]?
 Kmono:∀ b,E.K b->K b
 Klt:∀ b,K b->b<w.heap.size
 Knew:∀ b,K b->E.K b\/E.w.heap.size<=b\/∃ l,l<E.n/\E.m l=some (some b)
 mold:∀ l,l<E.n->m l=E.m l
 mnew:∀ l b,E.n<=l->m l=some (some b)->E.w.heap.size<=b\/∃ k,k<E.n/\E.m k=some (some b)
 mlt:∀ l b,m l=some (some b)->b<w.heap.size
 mfree:∀ l,free l->m l=none
 fnew:∀ l,free l->E.n<=l
 heap:∀ l blk,H.get l=some blk->BlkRel w K m H l blk
 own:∀ l blk b,H.get l=some blk->m l=some (some b)->¬ K b
 inj:∀ l l' blk blk' b,H.get l=some blk->H.get l'=some blk'->m l=some (some b)->m l'=some (some b)->l=l'
 shape:∀ b s,E.w.shape? b=some s->w.shape? b=some s
 frozen:∀ b,E.K b->w.heap[b]?=E.w.heap[b]?
 gok:GOk w K
def pur {α:Type}(P:Program):Sem α->Option α
 | .pure a=>some a
 | .program k=>pur P (k P)
 | .mark _ k=>pur P k
 | _=>none
theorem xl {α:Type}{P:Program}{s:Sem α}{a:α}(h:pur P s=some a)(w:World):s.run P w=.ok a w:=by
 induction s with
 | pure b=>simp[pur]at h;subst h;rfl
 | program k ih=>simp only[Sem.run];exact ih P (by simpa[pur]using h)
 | mark m k ih=>simp only[Sem.run];exact ih (by simpa[pur]using h)
 | _=>simp[pur]at h
structure Eff where
 v:AV
 zF:Prop
 rd:List Nat
 wr:List (Nat×Option ABlk)
def Heap.app (H:Heap)(wr:List (Nat×Option ABlk)):Heap:=wr.foldl (λ H p=>H.put p.1 p.2) H
abbrev cd:=TypeId->Option Ty
def fy (P:Program)(t:TypeId):Option Nat:=(P.info? t).map (·.size)
def Ae (P:Program)(t:TypeId):Bool:=match fy P t with|some n=>n != 0|none=>false
def ly (P:Program)(t:TypeId)(te:Ty):Bool:=match P.info? t with|some i=>(match i.zero with|some z=>z.cells.size==te.size|none=>false)|none=>false
def su (P:Program)(t:TypeId)(i:Nat):Option Field:=match P.underlying t with|some (.struct fs)=>fs[i]? | _=>none
def hJ (P:Program)(t:TypeId):Option TypeId:=match P.underlying t with|some (.slice e)=>some e|_=>none
def AV.cells:AV->List AV
 | .agg cs=>cs
 | a=>[a]
def nz (P:Program)(t:TypeId)(cs:List AV)(off:Nat):Option AV:=
 match P.underlying t,P.info? t with
 | some u, some i => match u with
   | .struct _ | .array _ _=>bif Nat.ble (off+i.size) cs.length then some (.agg ((cs.drop off).take i.size))else none
   | _=>bif i.size==1 then cs[off]? else none
 | _,_=>none
def AV.known:AV->Bool
 | .dead | .d (.v (.agg _))=>false
 | _=>true
def AV.one:AV->Bool
 | .d (.v (.agg _)) | .d (.v (.tuple _)) | .dead | .agg _ | .tup _=>false
 | _=>true
structure Sls (t:Ty) where
 xs:List t.ty
 zF:Prop
 rd:List Nat
def AV.sls (H:Heap)(t:Ty):AV->Option (Sls t)
 | .d x=>(x.asSl t).map λ xs=>⟨xs,True,[]⟩
 | .fl t' xs=>if h:t'=t then some ⟨h ▸ xs,True,[]⟩else none
 | .own l t'=>if t'=t then
  (match H.get l with
  | some (.row _ t2 xs)=>if h2:t2=t then some ⟨h2 ▸ xs,True,[l]⟩else none
  | _=>none)else none
 | .view l t' off len=>if t'=t then
  (match H.get l with
  | some (.row _ t2 xs)=>if h2:t2=t then some ⟨((h2 ▸ xs).drop off).take len,off+len<=xs.length,[l]⟩else none
  | _=>none)else none
 | _=>none
def AV.len? (H:Heap):AV->Option (Nat×Prop×List Nat)
 | .d (.sl _ xs)=>some (xs.length,True,[])
 | .d (.v (.slice none 0 0))=>some (0,True,[])
 | .fl _ xs=>some (xs.length,True,[])
 | .own l t => match H.get l with
   | some (.row _ t' xs)=>if t'=t then some (xs.length,True,[l])else none
   | _=>none
 | .view _ _ _ len=>some (len,True,[])
 | _=>none
def AV.zQ?:AV->Option Fl
 | .d (.f o)=>some o
 | .d (.v (.float .f64 b))=>some (some b)
 | _=>none
def AV.int?:AV->Option Int
 | .d (.v (.int _ n))=>some n
 | _=>none
def AV.bool?:AV->Option Bool
 | .d (.v (.bool b))=>some b
 | _=>none
abbrev AV.ofV (x:Value):AV:=.d (.v x)
def AV.toD (H:Heap):AV->Option (D×Prop×List Nat)
 | .d x=>some (x,True,[])
 | .fl t xs=>some (.sl t xs,True,[])
 | .own l t => match H.get l with
   | some (.row _ t' xs)=>if t'=t then some (.sl t' xs,True,[l])else none
   | _=>none
 | .view l t off len => match H.get l with
   | some (.row _ t' xs)=>if t'=t then some (.sl t' ((xs.drop off).take len),off+len<=xs.length,[l])else none
   | _=>none
 | _=>none
def oW (H:Heap):List AV->Option (List D×Prop×List Nat)
 | []=>some ([],True,[])
 | a::as=>(a.toD H).bind λ(d,p,l)=>(oW H as).map λ(ds,q,ls)=>(d::ds,p/\q,l++ls)
def dV {α:Type}(cs:List α)(off:Nat)(new:List α):List α:=cs.take off++(new++cs.drop (off+new.length))
def Fl.cmp (a b:Fl):Option Ordering:=a.bind λ x=>b.bind λ y=>FloatKind.f64.format.order x y
def Fl.arith (op:BinOp)(a b:Fl):Fl:=a.bind λ x=>b.bind λ y=>match op with
 | .add=>FloatKind.f64.format.add x y
 | .sub=>FloatKind.f64.format.sub x y
 | .mul=>FloatKind.f64.format.mul x y
 | .quo=>FloatKind.f64.format.div x y
 | _=>none
def Fl.test (op:BinOp)(a b:Fl):Option Bool:=
 match op with
 | .eql=>some (Fl.cmp a b==some .eq)
 | .neq=>some (Fl.cmp a b != some .eq)
 | .lss=>some (Fl.cmp a b==some .lt)
 | .leq=>some (Fl.cmp a b==some .lt||Fl.cmp a b==some .eq)
 | .gtr=>some (Fl.cmp a b==some .gt)
 | .geq=>some (Fl.cmp a b==some .gt||Fl.cmp a b==some .eq)
 | _=>none
def eU:List AV->List AV->Option Bool
 | [],[]=>some true
 | .d (.v (.int k a))::xs,.d (.v (.int k' b))::ys=>if k=k' then(eU xs ys).map λ r=>(a==b)&&r else none
 | .d (.v (.bool a))::xs,.d (.v (.bool b))::ys=>(eU xs ys).map λ r=>(a==b)&&r
 | _,_=>none
def vb (P : Program) (t : TypeId) (cs : List AV) : Bool := match P.underlying t with
 | some (.struct fs) => !P.stoodInHeld t && !P.eqGuardType P.depth t && eqFs P 0 fs.toList cs
 | some (.array n e) => !P.eqGuardType P.depth t && (P.cellsOf e == 1 && ((P.info? e).isSome && (n == cs.length && eqAs P e cs)))
 | _ => false
  where
 eqAs (P : Program) (e : TypeId) : List AV → Bool
  | [] => true
  | .d (.v (.int _ _)) :: cs => (match P.underlying e with | some (.int _) => true | _ => false) && eqAs P e cs
  | _ :: _ => false
 eqFs (P : Program) : Nat → List Field → List AV → Bool
  | _, [], [] => true
  | i, f :: fs, c :: cs => f.offset == i && f.name != "_" && (match P.underlying f.type, c with | some (.int _), .d (.v (.int _ _)) => true | some .bool, .d (.v (.bool _)) => true | _, _ => false) && eqFs P (i + 1) fs cs
  | _, _, _ => false
def eqZ:D->Value->Bool
 | .v (.int k a),.int k' b=>decide (k=k')&&a==b
 | .v (.bool a),.bool b=>a==b
 | .sl _ [],.slice none 0 0=>true
 | _,_=>false
def Kt:List D->List Value->Bool
 | [],[]=>true
 | d::ds,v::vs=>eqZ d v&&Kt ds vs
 | _,_=>false
def oQ (P:Program)(e:TypeId)(te:Ty):Bool:=match P.info? e with
 | some i=>(match i.zero with|some z=>Kt (enc te te.dflt) z.cells.toList|none=>false)
 | none=>false
def KO (H:Heap)(te:Ty):AV->Option Eff
 | .view l t' off len=>if t'=te then
  (match H.get l with
  | some (.row T t2 xs)=>if h2:t2=te then some ⟨.tup [],off+len<=xs.length,[l],[(l,some (.row T te (dV (h2 ▸ xs:List te.ty) off (List.replicate len te.dflt))))]⟩else none
  | _=>none)else none
 | _=>none
def Kh (P:Program)(t:TypeId):Bool:=match P.underlying t with|some (.array _ _)=>true|_=>false
def sj:List AV->Option (List D)
 | []=>some []
 | .d d::as=>(sj as).map (d::·)
 | _::_=>none
def Qg (te:Ty):Nat->List D->Option (List te.ty)
 | 0,_=>some []
 | n+1,ds=>(dec te (ds.take te.size)).bind λ x=>(Qg te n (ds.drop te.size)).map (x::·)
def Da (n:Nat):Option AV->Bool
 | none=>true
 | some a=>a.int?==some (n:Int)
def Fb (H:Heap):AV->Option (Nat×List AV)
 | .ptr l 0 => match H.get l with
   | some (.box cs)=>some (l,cs)
   | _=>none
 | _=>none
def qs (P:Program)(C:cd)(H:Heap)(t:TypeId)(a:AV)(lo hi mx:Option AV):Option Eff:=match P.underlying t with
 | some (.array n el) => (C el).bind fun te => bif fy P el == some te.size && (lo.isNone && (Da n hi && (Da n mx && (hi.isSome || mx.isNone)))) then
   (Fb H a).bind λ(l,cs)=>bif cs.length==n*te.size then(sj cs).bind λ ds=>(Qg te n ds).map λ xs=>⟨.d (.sl te xs),True,[l],[(l,none)]⟩else none
   else none
 | _=>none
def DU (P:Program)(C:cd)(nm:Nat)(t:TypeId)(l c:AV):Option Eff:=
 (hJ P t).bind λ e=>(C e).bind λ te=>(P.info? e).bind λ i=>l.int?.bind λ n=>c.int?.bind λ m=>
  bif oQ P e te&&i.size==te.size then some ⟨.own nm te,0<=n/\n<=m/\m.toNat*(i.bytes+1)<=35184372088832,[nm],[(nm,some (.row e te (List.replicate n.toNat te.dflt)))]⟩else none
def eff (v:AV):Option Eff:=some ⟨v,True,[],[]⟩
def NL (P:Program)(op:BinOp)(t:TypeId)(a b:AV):Option Eff:=
 match a.zQ?,b.zQ? with
 | some x, some y => match op with
   | .add | .sub | .mul | .quo=>eff (.d (.f (Fl.arith op x y)))
   | _=>(Fl.test op x y).bind λ r=>eff (.ofV (.bool r))
 | _, _ => match a, b with
   | .d (.v (.int k x)), .d (.v (.int k' y)) => match op with
     | .quo | .rem=>if k=k' then some ⟨.ofV (.int k (match op with | .quo=>k.wrap (x.tdiv y)|_=>x.tmod y)),y≠0,[],[]⟩else none
     | .shl=>some ⟨.ofV (.int k (k.wrap (x*2^(min y.toNat k.bits)))),0<=y,[],[]⟩
     | .shr=>some ⟨.ofV (.int k (x.fdiv (2^(min y.toNat k.bits)))),0<=y,[],[]⟩
     | _=>(pur P (binOp op t (.int k x) (.int k' y))).bind λ r=>eff (.ofV r)
   | .d (.v x), .d (.v y) => match x with
     | .string _ | .bool _ | .nilFunc=>(pur P (binOp op t x y)).bind λ r=>eff (.ofV r)
     | _=>none
   | _,_=>none
def Jr:List AV->Option AV
 | [.d (.v (.int k x)),.d (.v (.int _ y))]=>some (.ofV (.int k (if y<x then y else x)))
 | _=>none
def Jt:List AV->Option AV
 | [.d (.v (.int k x)),.d (.v (.int _ y))]=>some (.ofV (.int k (if y>x then y else x)))
 | _=>none
def vf (P:Program)(t:TypeId):Option (List AV):=(P.info? t).bind λ i=>i.zero.map λ z=>z.cells.toList.map λ v=>.d (.v v)
def ww (P:Program)(fs:Array Field):List AV->List (Nat×AV)->Option (List AV)
 | cs,[]=>some cs
 | cs, (i, x) :: rest => match fs[i]? with
   | some f=>(fy P f.type).bind λ n=>bif x.known&&x.cells.length==n&&Nat.ble (f.offset+n) cs.length then ww P fs (dV cs f.offset x.cells) rest else none
   | none=>none
def Dq (xs:List Int):ByteArray:=xs.foldl (λ r n=>r.push (UInt8.ofNat n.toNat)) ByteArray.empty
def xo (P:Program)(t:TypeId)(a b:AV):Bool:=match P.underlying t with
 | some (.pointer _)=>(match a with | .ptr .. | .eptr .. | .ip ..=>true|_=>false)&&(match b with | .d (.v (.pointer none))=>true|_=>false)
 | _=>false
def io (P:Program)(t:TypeId):Option (Nat×TypeId):=match P.underlying t with|some (.array n e)=>some (n,e)|_=>none
def yo (P:Program)(ix:AV)(t:TypeId):Option (Nat×Int):=(io P t).bind λ p=>ix.int?.map λ k=>(p.1,k)
def SH:List D->Option IntKind
 | .v (.int k _)::_=>some k
 | _=>none
def tW (k:IntKind):List D->Option (List Int)
 | []=>some []
 | .v (.int k' n)::ds=>if k'=k then(tW k ds).map (n::·)else none
 | _::_=>none
def Jj (ds:List D):Option (IntKind×List Int):=(SH ds).bind λ k=>(tW k ds).map λ ns=>(k,ns)
theorem tV {k:IntKind}:∀ {ds:List D} {ns:List Int},tW k ds=some ns->ds=ns.map λ n=>D.v (.int k n)
 | [],ns,h=>by simp[tW]at h;subst h;rfl
 | d :: ds, ns, h => by
   cases d with
   | v x =>
     cases x with
     | int k' n =>
       simp only[tW]at h
       split at h
       ·rename_i hk
        subst hk
        obtain⟨ms,hm,rfl⟩:=ac.1 h
        rw[tV hm];rfl
       ·cases h
     | _=>simp[tW]at h
   | _=>simp[tW]at h
def wH (P:Program)(x:AV)(t:TypeId)(k:Int):Option Eff:=(io P t).bind λ p=>(fy P p.2).bind λ sz=>match x with
 | .ptr l f=>some ⟨.ptr l (f+k.toNat*sz),0<=k/\k<(p.1:Int),[],[]⟩
 | .ip ds => match Jj ds with
   | some q=>bif sz==1&&q.2.length==p.1 then some ⟨.ip [.v (.int q.1 (q.2.getD k.toNat 0))],0<=k/\k<(p.1:Int),[],[]⟩else none
   | none=>some ⟨.ip (ds.drop (k.toNat*sz)),0<=k/\k<(p.1:Int),[],[]⟩
 | _=>none
def wG (P:Program)(x:AV)(t:TypeId)(k:Int):Option Eff:=(io P t).bind λ p=>(fy P p.2).bind λ sz=>match x with
 | .agg cs=>(nz P p.2 cs (k.toNat*sz)).map λ v=>⟨v,0<=k/\k<(p.1:Int),[],[]⟩
 | _=>none
def Ls (el : TypeId) (n sz : Nat) : Array Field := ((List.range n).map fun i => (⟨"", el, i * sz, false, "", "", 0⟩ : Field)).toArray
abbrev gj (w:World)(K:Nat->Prop)(a:AV)(v:Value):Prop:=Rel w K (λ _=>none) [] a v
def AV.isAgg:AV->Bool
 | .agg _=>true
 | _=>false
def AV.toTy (H:Heap)(t:Ty)(a:AV):Option (t.ty×Prop×List Nat):=
 bif a.isAgg == !t.flat then(oW H a.cells).bind λ(ds,p,fz)=>(dec t ds).map λ x=>(x,p,fz)else none
def yx (P:Program)(e:TypeId)(te:Ty):Bool:=match P.info? e with
 | some i => (match i.zero with
   | some z=>bif te.flat then eqZ ((enc te te.dflt).headD .nil) z else(match z with | .agg cs=>Kt (enc te te.dflt) cs.toList|_=>false)
   | none=>false)
 | none=>false
def mK {α:Type}(n:Int):List (Int×α)->Option α
 | []=>none
 | kv::l=>bif kv.1==n then some kv.2 else mK n l
def oB {α:Type}(n:Int)(x:α):List (Int×α)->List (Int×α)
 | []=>[(n,x)]
 | kv::l=>bif kv.1==n then(n,x)::l else kv::oB n x l
def At (P:Program)(C:cd)(t:TypeId):Option (TypeId×Ty):=match P.underlying t with
 | some (.map k e) => match P.underlying k with
   | some (.int .i64)=>(C e).bind λ tv=>bif yx P e tv then some (e,tv)else none
   | _=>none
 | _=>none
def tw (P:Program)(C:cd)(nm:Nat)(t:TypeId):Option Eff:=(At P C t).map λ p=>⟨.mp nm,True,[nm],[(nm,some (.mp .int p.2 []))]⟩
def wa (P:Program)(C:cd)(H:Heap)(t:TypeId)(x ix:AV)(ok:Bool):Option Eff:=(At P C t).bind λ p=>match x,ix with
 | .mp l, .d (.v (.int .i64 n)) => match H.get l with
   | some (.mp .int tv kvs)=>if tv=p.2 then some ⟨bif ok then .tup [AV.ofTy tv ((mK n kvs).getD tv.dflt),.ofV (.bool (mK n kvs).isSome)]else AV.ofTy tv ((mK n kvs).getD tv.dflt),True,[l],[]⟩else none
   | _=>none
 | _,_=>none
def mA (P:Program)(C:cd)(H:Heap)(t:TypeId)(x ix v:AV):Option Eff:=(At P C t).bind λ p=>match x,ix with
 | .mp l, .d (.v (.int .i64 n)) => match H.get l with
   | some (.mp .int tv kvs)=>if tv=p.2 then(v.toTy H tv).bind λ q=>bif q.2.2.isEmpty then some ⟨.dead,q.2.1,[l],[(l,some (.mp .int tv (oB n q.1 kvs)))]⟩else none else none
   | _=>none
 | _,_=>none
def opE (P:Program)(C:cd)(ρ:Operand->AV)(H:Heap)(nm:Nat)(o:Oper):Option Eff:=
 match o.op with
 | .move x | .assign x=>eff (ρ x)
 | .pick c a b => (ρ c).bool?.bind fun c => match (ρ a).bool?, (ρ b).bool? with
   | some x,some y=>eff (.ofV (.bool (bif c then x else y)))
   | some x,none=>bif c then eff (.ofV (.bool x))else none
   | none,some y=>bif c then none else eff (.ofV (.bool y))
   | none,none=>none
 | .alloc t=>(vf P t).map λ cs=>⟨.ptr nm 0,True,[nm],[(nm,some (.box cs))]⟩
 | .box _ x=>bif (ρ x).known then some ⟨.ptr nm 0,True,[nm],[(nm,some (.box (ρ x).cells))]⟩else none
 | .build t parts => match P.underlying t with
   | some (.struct fs)=>bif fs.toList.all λ f=>(fy P f.type).isSome then(vf P t).bind λ z=>(ww P fs z (parts.toList.map λ p=>(p.1,ρ p.2))).bind λ cs=>eff (.agg cs)else none
   | some (.array n el)=>(fy P el).bind λ sz=>(vf P t).bind λ z=>(ww P (Ls el n sz) z (parts.toList.map λ p=>(p.1,ρ p.2))).bind λ cs=>eff (.agg cs)
   | _=>none
 | .load t a => match ρ a with
   | .ptr l f => match H.get l with
     | some (.box cells)=>(nz P t cells f).map λ v=>⟨v,True,[l],[]⟩
     | _=>none
   | .eptr l t' i f => match H.get l with
     | some (.row _ t2 xs)=>if t'=t2 then(nz P t ((enc t2 (xs.getD i t2.dflt)).map .d) f).map λ v=>⟨v,i<xs.length,[l],[]⟩else none
     | _=>none
   | .ip ds=>(nz P t (ds.map .d) 0).bind eff
   | _=>none
 | .store t a x => match fy P t, ρ a with
   | some n, .ptr l f => match H.get l with
     | some (.box cells)=>bif (ρ x).cells.length==n&&Nat.ble (f+n) cells.length&&(ρ x).cells.all AV.one then some ⟨.dead,True,[l],[(l,some (.box (dV cells f (ρ x).cells)))]⟩else none
     | _=>none
   | some n, .eptr l t' i f => match H.get l with
     | some (.row T t2 xs) => if t' = t2 then
       (oW H (ρ x).cells).bind λ(ds,p,fz)=>bif ds.length==n&&Nat.ble (f+n) t2.size&&(ρ x).cells.all AV.one&&fz.all (· != l)then
        (dec t2 (dV (enc t2 (xs.getD i t2.dflt)) f ds)).map λ y=>⟨.dead,i<xs.length/\p,l::fz,(fz.map λ k=>(k,none))++[(l,some (.row T t2 (xs.set i y)))]⟩
       else none
       else none
     | _=>none
   | _,_=>none
 | .nilCheck x => match ρ x with
   | .ptr .. | .eptr .. | .ip ..=>eff (ρ x)
   | .clo (.func f) fs cs=>eff (.clo (.func f) fs cs)
   | _=>none
 | .binOp op t x y _ => match ρ x, ρ y with
   | .agg xs, .agg ys => bif vb P t xs then (match op with
     | .eql=>(eU xs ys).bind λ r=>eff (.ofV (.bool r))
     | .neq=>(eU xs ys).bind λ r=>eff (.ofV (.bool (!r)))
     | _=>none)else none
   | a, b => bif xo P t a b then (match op with
     | .eql=>eff (.ofV (.bool false))
     | .neq=>eff (.ofV (.bool true))
     | _=>none)else NL P op t a b
 | .unOp op _ x => match ρ x with
   | .d (.v v)=>(pur P (Op.unary op v)).bind λ r=>eff (.ofV r)
   | _=>none
 | .convert s t x => match P.underlying s, P.underlying t, ρ x with
   | some (.int _),some (.int k),.d (.v (.int _ n))=>eff (.ofV (.int k (k.wrap n)))
   | some (.int _),some (.float .f64),.d (.v (.int _ n))=>eff (.d (.f (some (FloatKind.f64.nearest n))))
   | some (.string),some (.string),.d (.v (.string b))=>eff (.ofV (.string b))
   | some (.float .f64),some (.float .f64),a=>a.zQ?.bind λ _=>eff a
   | some (.slice e), some (.string), a => match P.underlying e with
     | some (.int .u8)=>bif fy P e==some 1 then(a.sls H .u8).map λ(s:Sls .u8)=>⟨.ofV (.string (Dq s.xs)),s.zF,s.rd,[]⟩else none
     | _=>none
   | _,_,_=>none
 | .makeFunc fn fs cs=>eff (.clo fn (fs.toList.map ρ) (cs.toList.map ρ))
 | .fieldAddr t x f => (su P t f).bind fun fd => bif Ae P fd.type then match ρ x with
   | .ptr l f0=>eff (.ptr l (f0+fd.offset))
   | .eptr l t' i f0=>eff (.eptr l t' i (f0+fd.offset))
   | .ip ds=>eff (.ip (ds.drop fd.offset))
   | _=>none
   else none
 | .field t x f => (su P t f).bind fun fd => match ρ x with
   | .agg cs=>(nz P fd.type cs fd.offset).bind eff
   | _=>none
 | .indexAddr t x ix => match yo P (ρ ix) t with
   | some p=>wH P (ρ x) t p.2
   | none => (hJ P t).bind fun e => (C e).bind fun te => bif fy P e == some te.size then
     (ρ ix).int?.bind λ n=>match ρ x with
     | .own l t'=>if t'=te then(match H.get l with
      | some (.row _ t2 xs)=>if t2=te then some ⟨.eptr l te n.toNat 0,0<=n/\n<xs.length,[l],[]⟩else none
      | _=>none)else none
     | .view l t' off len=>if t'=te then some ⟨.eptr l te (off+n.toNat) 0,0<=n/\n<len,[],[]⟩else none
     | a=>(a.sls H te).map λ(s:Sls te)=>⟨.ip (enc te (s.xs.getD n.toNat te.dflt)),(0<=n/\n<s.xs.length)/\s.zF,s.rd,[]⟩
   else none
 | .index t x ix => match yo P (ρ ix) t with
   | some p=>wG P (ρ x) t p.2
   | none=>match ρ x,ρ ix with
   | .d (.v (.string s)), .d (.v (.int _ n)) => match P.underlying t with
     | some .string=>some ⟨.ofV (.int .u8 ((s[n.toNat]?).getD 0).toNat),0<=n/\n<s.size,[],[]⟩
     | _=>none
   | _,_=>none
 | .extract x i => match ρ x with
   | .tup vs=>vs[i]?.bind eff
   | _=>none
 | .slice t x lo hi mx => bif Kh P t then qs P C H t (ρ x) (lo.map ρ) (hi.map ρ) (mx.map ρ) else (hJ P t).bind fun e => (C e).bind fun te => bif fy P e == some te.size then
   (match lo with|some v=>(ρ v).int? | none=>some 0).bind λ l=>match hi,mx with
   | none, none => (match ρ x with
     | .own k t' => if t' = te then (match H.get k with
       | some (.row _ t2 xs)=>if t2=te then some ⟨.view k te l.toNat (xs.length-l.toNat),0<=l/\l<=xs.length,[k],[]⟩else none
       | _=>none)else none
     | .view k t' off len=>if t'=te then some ⟨.view k te (off+l.toNat) (len-l.toNat),0<=l/\l<=len,[],[]⟩else none
     | a=>(a.sls H te).map λ(s:Sls te)=>⟨.d (.sl te (s.xs.drop l.toNat)),(0<=l/\l<=s.xs.length)/\s.zF,s.rd,[]⟩)
   | none,some _=>none
   | some hv, none => (ρ hv).int?.bind fun h => (match ρ x with
     | .own k t' => if t' = te then (match H.get k with
       | some (.row _ t2 xs)=>if t2=te then some ⟨.view k te l.toNat (h.toNat-l.toNat),0<=l/\l<=h/\h<=xs.length,[k],[]⟩else none
       | _=>none)else none
     | .view k t' off len=>if t'=te then some ⟨.view k te (off+l.toNat) (h.toNat-l.toNat),0<=l/\l<=h/\h<=len,[],[]⟩else none
     | a=>(a.sls H te).map λ(s:Sls te)=>⟨.d (.sl te ((s.xs.take h.toNat).drop l.toNat)),(0<=l/\l<=h/\h<=s.xs.length)/\s.zF,s.rd,[]⟩)
   | some hv, some mv => (ρ hv).int?.bind fun h => (ρ mv).int?.bind fun m => (match ρ x with
     | .own k t' => if t' = te then (match H.get k with
       | some (.row _ t2 xs)=>if t2=te then some ⟨.view k te l.toNat (h.toNat-l.toNat),0<=l/\l<=h/\h<=m/\m<=xs.length,[k],[]⟩else none
       | _=>none)else none
     | .view k t' off len=>if t'=te then some ⟨.view k te (off+l.toNat) (h.toNat-l.toNat),0<=l/\l<=h/\h<=m/\m<=len,[],[]⟩else none
     | a=>(a.sls H te).map λ(s:Sls te)=>⟨.fl te ((s.xs.take h.toNat).drop l.toNat),(0<=l/\l<=h/\h<=s.xs.length/\m=h)/\s.zF,s.rd,[]⟩)
   else none
 | .buildSlice t len parts => (hJ P t).bind fun e => (C e).bind fun te => bif fy P e == some te.size && parts.size == len && Nat.ble (len * te.size) 1000 && ly P e te then
   (build te 0 (parts.toList.map λ p=>(p.1,ρ p.2))).map λ(xs,p,fz)=>⟨.own nm te,p,nm::fz,(fz.map λ k=>(k,none))++[(nm,some (.row e te xs))]⟩
   else none
 | .makeSlice t l c=>DU P C nm t (ρ l) (ρ c)
 | .makeMap t none=>tw P C nm t
 | .lookup t x ix ok=>wa P C H t (ρ x) (ρ ix) ok
 | .mapUpdate t x k v=>mA P C H t (ρ x) (ρ k) (ρ v)
 | .insert t x k v=>mA P C H t (ρ x) (ρ k) (ρ v)
 | .call { callee := .builtin b, args, argTypes } => match b with
   | .len => match argTypes.toList, args.toList with
     | [t], [x] => match ρ x with
       | .d (.v (.string s))=>(match P.underlying t with|some .string=>eff (.ofV (.int .i64 s.size))|_=>none)
       | a=>(match P.underlying t with|some (.slice _)=>(a.len? H).map λ(n,p,r)=>⟨.ofV (.int .i64 n),p,r,[]⟩|_=>none)
     | _,_=>none
   | .min=>(Jr (args.toList.map ρ)).bind eff
   | .max=>(Jt (args.toList.map ρ)).bind eff
   | .clear => match argTypes.toList, args.toList with
     | [t],[x]=>(hJ P t).bind λ e=>(C e).bind λ te=>bif oQ P e te then KO H te (ρ x)else none
     | _,_=>none
   | .append => match argTypes.toList, args.toList with
     | [t, t2], [x, y] => bif t == t2 then (hJ P t).bind fun e => (C e).bind fun te => (P.info? e).bind fun i =>
       bif i.size==te.size&&ly P e te then
        ((ρ y).sls H te).bind λ(s:Sls te)=>match ρ x with
        | .d (.v (.slice none 0 0))=>some ⟨.own nm te,(s.xs.length*(i.bytes+1)<=35184372088832)/\s.zF,nm::s.rd,[(nm,some (.row e te s.xs))]⟩
        | .own l t' => if t' = te then (match H.get l with
          | some (.row T2 t2 xs)=>if h2:t2=te then bif T2==e then some ⟨.own nm te,((xs.length+s.xs.length)*(i.bytes+1)<=35184372088832)/\s.zF,nm::l::s.rd,[(l,none),(nm,some (.row e te ((h2 ▸ xs)++s.xs)))]⟩else none else none
          | _=>none)else none
        | .view l t' off len => if t' = te then (match H.get l with
          | some (.row T2 t2 xs)=>if h2:t2=te then bif T2==e then some ⟨.own nm te,(off=0/\len<=xs.length/\(len+s.xs.length)*(i.bytes+1)<=35184372088832)/\s.zF,nm::l::s.rd,[(l,none),(nm,some (.row e te ((h2 ▸ xs:List te.ty).take len++s.xs)))]⟩else none else none
          | _=>none)else none
        | .fl t' xs=>if h:t'=te then some ⟨.own nm te,((xs.length+s.xs.length)*(i.bytes+1)<=35184372088832/\(0<s.xs.length\/xs=[]))/\s.zF,nm::s.rd,[(nm,some (.row e te ((h ▸ xs)++s.xs)))]⟩else none
        | _=>none
       else none
       else none
     | _,_=>none
   | _=>none
 | _=>none
  where
 build (te:Ty):Nat->List (Nat×AV)->Option (List te.ty×Prop×List Nat)
  | _,[]=>some ([],True,[])
  | k,(i,x)::rest=>bif i==k then(oW H x.cells).bind λ(ds,p,fz)=>(dec te ds).bind λ y=>(build te (k+1) rest).map λ(ys,q,gz)=>(y::ys,p/\q,fz++gz)else none
end Go.VL
namespace Go.VL
variable {P:Program} {E:Entry} {w:World} {K:Nat->Prop} {m:Nat->Option (Option Nat)} {H:Heap} {free:Nat->Prop}
def upd (m:Nat->Option (Option Nat))(l:Nat)(x:Option Nat):Nat->Option (Option Nat):=λ k=>if k=l then some x else m k
theorem bG (m:Nat->Option (Option Nat))(l:Nat)(x:Option Nat):upd m l x l=some x:=by simp[upd]
theorem cM (m:Nat->Option (Option Nat)){l k:Nat}(x:Option Nat)(h:k≠l):upd m l x k=m k:=by simp[upd,h]
theorem sP (w:World)(o:Obj)(b:Nat)(s:TypeId×Nat)(h:w.shape? b=some s):(w.alloc o).shape? b=some s:=by
 have hb:b<w.heap.size:=by
  rcases ax b w.heap.size with h1|h1
  ·exact h1
  ·simp[World.shape?,bZ h1]at h
 unfold World.shape? at h ⊢
 rw[RowKit.Below.heap_alloc w o b hb]
 exact h
theorem qd (w:World)(o:Obj):(w.alloc o).heap[w.heap.size]?=some o:=by
 show(w.heap.push o)[w.heap.size]?=some o
 simp
theorem Heap.get_put_row {H:Heap}{l k:Nat}{b:Option ABlk}{T:TypeId}{t:Ty}{xs:List t.ty}(hk:k≠l)(h:(H.put l b).get k=some (.row T t xs)):H.get k=some (.row T t xs):=by
 rw[Heap.get_put H hk]at h;exact h
theorem Ext.del (w:World)(K:Nat->Prop)(m:Nat->Option (Option Nat))(H:Heap)(l:Nat):Ext w K m H w K m (H.put l none):=
 ⟨λ _ h=>h,λ _ _=>rfl,λ _ _ h=>h,λ _ _ h=>h,λ k T t xs _ h=>by
  by_cases hk:k=l
  ·subst hk;rw[Heap.get_put_self]at h;cases h
  ·exact⟨xs,Heap.get_put_row hk h,rfl⟩⟩
theorem BlkRel.ext {w':World}{K':Nat->Prop}{m':Nat->Option (Option Nat)}{H':Heap}(e:Ext w K m H w' K' m' H'){l:Nat}{blk:ABlk}(h:BlkRel w K m H l blk)
  (hk:∀ b,m l=some (some b)->w'.heap[b]?=w.heap[b]?):BlkRel w' K' m' H' l blk:=by
 cases blk with
 | box cells =>
   obtain⟨b,cs,T,hm,hw,hs,hr⟩:=h
   exact⟨b,cs,T,e.hm _ _ hm,by rw[hk b hm];exact hw,hs,λ i x v hx hv=>(hr i x v hx hv).ext e⟩
 | row T t xs =>
   rcases h with⟨hm,hx⟩|⟨b,cs,hm,hw,hs,hr⟩
   ·exact .inl ⟨e.hm _ _ hm,hx⟩
   ·refine .inr ⟨b,cs,e.hm _ _ hm,by rw[hk b hm];exact hw,hs,λ i x j d hx hd=>?_⟩
    obtain⟨v,hv,hr⟩:=hr i x j d hx hd
    exact⟨v,hv,hr.ext e.hK e.keep⟩
 | mp tk tv kvs =>
   obtain⟨b,es,c,hm,hw,hs,hr⟩:=h
   exact⟨b,es,c,e.hm _ _ hm,by rw[hk b hm];exact hw,hs,λ i kv x hx hv=>⟨(hr i kv x hx hv).1.ext e.bare,(hr i kv x hx hv).2.ext e.bare⟩⟩
theorem Mem.weaken {free':Nat->Prop}(h:Mem E w K m H free)(hf:∀ l,free' l->free l):Mem E w K m H free':=
 { h with mfree:=λ l hl=>h.mfree l (hf l hl),fnew:=λ l hl=>h.fnew l (hf l hl) }
theorem Mem.del (h:Mem E w K m H free)(l:Nat):Mem E w K m (H.put l none) free:=by
 have hg:∀ k blk,(H.put l none).get k=some blk->k≠l/\H.get k=some blk:=by
  intro k blk hk
  by_cases e:k=l
  ·subst e;rw[Heap.get_put_self]at hk;cases hk
  ·exact⟨e,by rw[Heap.get_put H e]at hk;exact hk⟩
 exact { h with
  heap:=λ k blk hk=>(h.heap k blk (hg k blk hk).2).ext (Ext.del w K m H l) (λ _ _=>rfl)
  own:=λ k blk b hk=>h.own k blk b (hg k blk hk).2
  inj:=λ k k' blk blk' b hk hk'=>h.inj k k' blk blk' b (hg k blk hk).2 (hg k' blk' hk').2 }
theorem Mem.newO (h:Mem E w K m H free){nm:Nat}(hn:free nm)(o:Obj)(blk:ABlk)
  (hb:∀ w' m' H',Ext w K m H w' K m' H'->m' nm=some (some w.heap.size)->w'.heap[w.heap.size]?=some o->BlkRel w' K m' H' nm blk) :
  Mem E (w.alloc o) K (upd m nm (some w.heap.size)) (H.put nm (some blk)) (λ l=>free l/\l≠nm) /\
   Ext w K m H (w.alloc o) K (upd m nm (some w.heap.size)) (H.put nm (some blk)):=by
 have hnm:=h.mfree nm hn
 have e:Ext w K m H (w.alloc o) K (upd m nm (some w.heap.size)) (H.put nm (some blk)):=
  ⟨λ _ hk=>hk,λ b hk=>RowKit.Below.heap_alloc w _ b (h.Klt b hk),λ l x hx=>by
    by_cases hl:l=nm
    ·subst hl;rw[hnm]at hx;cases hx
    ·rw[cM _ _ hl];exact hx,
   λ b s hs=>sP w _ b s hs,λ l T t xs hm hx=>by
    by_cases hl:l=nm
    ·subst hl;exact absurd hnm hm
    ·exact⟨xs,Heap.get_put_row hl hx,rfl⟩⟩
 refine⟨?_,e⟩
 have hg:∀ k b',(H.put nm (some blk)).get k=some b'->(k=nm/\b'=blk)\/(k≠nm/\H.get k=some b'):=by
  intro k b' hk
  by_cases hl:k=nm
  ·subst hl;rw[Heap.get_put_self]at hk;cases hk;exact .inl ⟨rfl,rfl⟩
  ·exact .inr ⟨hl,by rw[Heap.get_put H hl]at hk;exact hk⟩
 exact
  { os := h.os, tape := h.tape, output := h.output
    size:=by show _<=(w.heap.push _).size;rw[nh];have:=h.size;omega
    keep:=λ b hb1 hb2=>by rw[RowKit.Below.heap_alloc w _ b (by have:=h.size;omega)];exact h.keep b hb1 hb2
    Kmono:=h.Kmono
    Klt:=λ b hk=>by show b<(w.heap.push _).size;rw[nh];have:=h.Klt b hk;omega
    Knew:=h.Knew
    mold:=λ l hl=>by
     have:=h.fnew nm hn
     rw[cM _ _ (by omega)];exact h.mold l hl
    mnew:=λ l b hl hm=>by
     by_cases he:l=nm
     ·subst he;rw[bG]at hm;cases hm;exact .inl h.size
     ·rw[cM _ _ he]at hm;exact h.mnew l b hl hm
    mlt:=λ l b hm=>by
     show b<(w.heap.push _).size
     rw[nh]
     by_cases he:l=nm
     ·subst he;rw[bG]at hm;cases hm;omega
     ·rw[cM _ _ he]at hm;have:=h.mlt l b hm;omega
    mfree:=λ l hl=>by rw[cM _ _ hl.2];exact h.mfree l hl.1
    fnew:=λ l hl=>h.fnew l hl.1
    heap:=λ k b' hk=>by
     rcases hg k b' hk with⟨rfl,rfl⟩|⟨hne,hk'⟩
     ·exact hb _ _ _ e (bG _ _ _) (qd w _)
     ·exact(h.heap k b' hk').ext e (λ b hm=>RowKit.Below.heap_alloc w _ b (h.mlt k b hm))
    own:=λ k b' b hk hm hK=>by
     rcases hg k b' hk with⟨rfl,rfl⟩|⟨hne,hk'⟩
     ·rw[bG]at hm;cases hm;have:=h.Klt _ hK;omega
     ·rw[cM _ _ hne]at hm;exact h.own k b' b hk' hm hK
    inj:=λ k k' b1 b2 b hk hk' hm hm'=>by
     rcases hg k b1 hk with⟨rfl,rfl⟩|⟨hne,hk1⟩<;>rcases hg k' b2 hk' with⟨rfl,rfl⟩|⟨hne',hk2⟩
     ·rfl
     ·rw[bG]at hm;cases hm;rw[cM _ _ hne']at hm';have:=h.mlt k' _ hm';omega
     ·rw[bG]at hm';cases hm';rw[cM _ _ hne]at hm;have:=h.mlt k _ hm;omega
     ·rw[cM _ _ hne]at hm;rw[cM _ _ hne']at hm';exact h.inj k k' b1 b2 b hk1 hk2 hm hm'
    shape:=λ b s hs=>sP w _ b s (h.shape b s hs)
    frozen:=λ b hb=>(e.keep b (h.Kmono b hb)).trans (h.frozen b hb),gok:=h.gok.ext e.hK e.keep }
theorem Mem.new (h:Mem E w K m H free){nm:Nat}(hn:free nm)(cs:Array Value)(T:TypeId)(blk:ABlk)
 (hb:∀ w' m' H',Ext w K m H w' K m' H'->m' nm=some (some w.heap.size)->w'.heap[w.heap.size]?=some (.cells cs T (0,0))->BlkRel w' K m' H' nm blk) :
 Mem E (w.alloc (.cells cs T)) K (upd m nm (some w.heap.size)) (H.put nm (some blk)) (λ l=>free l/\l≠nm) /\
  Ext w K m H (w.alloc (.cells cs T)) K (upd m nm (some w.heap.size)) (H.put nm (some blk)):=h.newO hn (.cells cs T) blk hb
theorem Mem.writeO (h:Mem E w K m H free){l b:Nat}{blk0 blk:ABlk}(hl:H.get l=some blk0)(hm:m l=some (some b)){w':World}(hsb:w'.shape? b=w.shape? b)(hother:∀ k,k≠b->w'.heap[k]?=w.heap[k]?)
  (hsame:w'.os=w.os/\w'.tape=w.tape/\w'.output=w.output/\w'.heap.size=w.heap.size)
  (hrow:∀ T t xs,blk=.row T t xs->∃ ys,blk0=.row T t ys/\ys.length=xs.length)
  (hb:∀ H',Ext w K m H w' K m H'->BlkRel w' K m H' l blk) :
  Mem E w' K m (H.put l (some blk)) free/\Ext w K m H w' K m (H.put l (some blk)):=by
 have hnK:¬ K b:=h.own l blk0 b hl hm
 have hshape:∀ b' s,w.shape? b'=some s->w'.shape? b'=some s:=by
  intro b' s hs
  by_cases he:b'=b
  ·subst he
   rw[hsb];exact hs
  ·unfold World.shape? at hs ⊢
   rw[hother b' he];exact hs
 have e:Ext w K m H w' K m (H.put l (some blk)):=
  ⟨λ _ hk=>hk,λ b' hk=>hother b' (λ e=>hnK (e ▸ hk)),λ _ _ hx=>hx,hshape,λ k T' t xs _ hx=>by
   by_cases hk:k=l
   ·subst hk
    rw[Heap.get_put_self]at hx
    cases hx
    obtain⟨ys,hy,hlen⟩:=hrow T' t xs rfl
    exact⟨ys,by rw[hl,hy],hlen⟩
   ·exact⟨xs,Heap.get_put_row hk hx,rfl⟩⟩
 refine⟨?_,e⟩
 have hg:∀ k b',(H.put l (some blk)).get k=some b'->(k=l/\b'=blk)\/(k≠l/\H.get k=some b'):=by
  intro k b' hk
  by_cases hkl:k=l
  ·subst hkl;rw[Heap.get_put_self]at hk;cases hk;exact .inl ⟨rfl,rfl⟩
  ·exact .inr ⟨hkl,by rw[Heap.get_put H hkl]at hk;exact hk⟩
 exact
  { os := hsame.1.trans h.os, tape := hsame.2.1.trans h.tape, output := hsame.2.2.1.trans h.output
    size:=by rw[hsame.2.2.2];exact h.size
    keep:=λ b' hb1 hb2=>by
     rw[hother b' (λ he=>?_)]
     ·exact h.keep b' hb1 hb2
     ·subst he
      rcases ax l E.n with hln|hln
      ·exact hb2 l hln (by rw[<-h.mold l hln];exact hm)
      ·rcases h.mnew l b' hln hm with h1|⟨k,hk,hkm⟩
       ·omega
       ·exact hb2 k hk hkm
    Kmono:=h.Kmono
    Klt:=λ b' hk=>by rw[hsame.2.2.2];exact h.Klt b' hk
    Knew:=h.Knew,mold:=h.mold,mnew:=h.mnew
    mlt:=λ k b' hk=>by rw[hsame.2.2.2];exact h.mlt k b' hk
    mfree:=h.mfree,fnew:=h.fnew
    heap:=λ k b' hk=>by
     rcases hg k b' hk with⟨rfl,rfl⟩|⟨hne,hk'⟩
     ·exact hb _ e
     ·refine(h.heap k b' hk').ext e (λ b2 hm2=>hother b2 (λ he=>?_))
      subst he
      exact hne (h.inj k l b' blk0 b2 hk' hl hm2 hm)
    own:=λ k b' b2 hk hm2=>by
     rcases hg k b' hk with⟨rfl,rfl⟩|⟨hne,hk'⟩
     ·exact h.own k blk0 b2 hl hm2
     ·exact h.own k b' b2 hk' hm2
    inj:=λ k k' b1 b2 b' hk hk' hm1 hm2=>by
     rcases hg k b1 hk with⟨rfl,rfl⟩|⟨hne,hk1⟩<;>rcases hg k' b2 hk' with⟨rfl,rfl⟩|⟨hne',hk2⟩
     ·rfl
     ·exact h.inj k k' blk0 b2 b' hl hk2 hm1 hm2
     ·exact h.inj k k' b1 blk0 b' hk1 hl hm1 hm2
     ·exact h.inj k k' b1 b2 b' hk1 hk2 hm1 hm2
    shape:=λ b' s hs=>hshape b' s (h.shape b' s hs)
    frozen:=λ b hb=>(e.keep b (h.Kmono b hb)).trans (h.frozen b hb),gok:=h.gok.ext e.hK e.keep }
theorem Mem.write (h:Mem E w K m H free){l b:Nat}{blk0 blk:ABlk}(hl:H.get l=some blk0)(hm:m l=some (some b)){w':World}{cs cs':Array Value}{T:TypeId}
  (hw:w.heap[b]?=some (.cells cs T (0,0))) (hw':w'.heap[b]?=some (.cells cs' T (0,0))) (hsz:cs'.size=cs.size) (hother:∀ k,k≠b->w'.heap[k]?=w.heap[k]?)
  (hsame:w'.os=w.os/\w'.tape=w.tape/\w'.output=w.output/\w'.heap.size=w.heap.size)
  (hrow:∀ T t xs,blk=.row T t xs->∃ ys,blk0=.row T t ys/\ys.length=xs.length)
  (hb:∀ H',Ext w K m H w' K m H'->BlkRel w' K m H' l blk) :
  Mem E w' K m (H.put l (some blk)) free/\Ext w K m H w' K m (H.put l (some blk)):=
 h.writeO hl hm (by unfold World.shape?;rw[hw,hw'];simp only[ag];rw[hsz]) hother hsame hrow hb
theorem Mem.freeze (h:Mem E w K m H free){l b:Nat}{blk:ABlk}(hl:H.get l=some blk)(hm:m l=some (some b)) :
  Mem E w (λ k=>K k\/k=b) m (H.put l none) free/\Ext w K m H w (λ k=>K k\/k=b) m (H.put l none):=by
 have e:Ext w K m H w (λ k=>K k\/k=b) m (H.put l none):=
  ⟨λ _ hk=>.inl hk,λ _ _=>rfl,λ _ _ hx=>hx,λ _ _ hs=>hs,(Ext.del w K m H l).row⟩
 refine⟨?_,e⟩
 have hg:∀ k blk,(H.put l none).get k=some blk->k≠l/\H.get k=some blk:=by
  intro k blk hk
  by_cases e:k=l
  ·subst e;rw[Heap.get_put_self]at hk;cases hk
  ·exact⟨e,by rw[Heap.get_put H e]at hk;exact hk⟩
 exact { h with
  gok:=h.gok.ext (λ _ hk=>.inl hk) (λ _ _=>rfl)
  Kmono:=λ k hk=>.inl (h.Kmono k hk)
  Klt:=λ k hk=>by
   rcases hk with hk|rfl
   ·exact h.Klt k hk
   ·exact h.mlt l k hm
  Knew:=λ k hk=>by
   rcases hk with hk|rfl
   ·exact h.Knew k hk
   ·rcases ax l E.n with hln|hln
    ·exact .inr (.inr ⟨l,hln,by rw[<-h.mold l hln];exact hm⟩)
    ·rcases h.mnew l k hln hm with h1|h1
     ·exact .inr (.inl h1)
     ·exact .inr (.inr h1)
  heap:=λ k b' hk=>(h.heap k b' (hg k b' hk).2).ext e (λ _ _=>rfl)
  own:=λ k b' b2 hk hm2 hK=>by
   rcases hK with hK|rfl
   ·exact h.own k b' b2 (hg k b' hk).2 hm2 hK
   ·exact(hg k b' hk).1 (h.inj k l b' blk b2 (hg k b' hk).2 hl hm2 hm)
  inj:=λ k k' b1 b2 b' hk hk'=>h.inj k k' b1 b2 b' (hg k b1 hk).2 (hg k' b2 hk').2 }
end Go.VL
namespace Go.VL
variable {P:Program} {E:Entry} {w:World} {K:Nat->Prop} {m:Nat->Option (Option Nat)} {H:Heap} {free:Nat->Prop}
def D.one:D->Bool
 | .v (.agg _) | .v (.tuple _)=>false
 | _=>true
theorem D.one_rel {d:D}(hd:d.one=true){v:Value}(h:RelD w K d v):v.oneCell'=true:=by
 cases h with
 | v=>cases v<;>first|rfl|(simp[D.one]at hd)
 | _=>rfl
theorem ug {t:Ty}{x:t.ty}{d:D}(hd:d∈enc t x):d.one=true:=by
 have h:(enc t x).all D.one=true:=by cases t<;>rfl
 exact bR.1 h d hd
theorem Nn {t:Ty}{x:t.ty}{d:D}(hd:d∈enc t x){v:Value}(h:RelD w K d v):v.oneCell'=true:=D.one_rel (ug hd) h
theorem AV.one_rel {a:AV}(ha:a.one=true){v:Value}(h:Rel w K m H a v):v.oneCell'=true:=by
 cases h with
 | d x v h =>
   cases h with
   | v=>cases v<;>first|rfl|(simp[AV.one]at ha)
   | _=>rfl
 | dead=>simp[AV.one]at ha
 | agg=>simp[AV.one]at ha
 | tup=>simp[AV.one]at ha
 | _=>rfl
def Reads (w:World)(K:Nat->Prop)(t:Ty)(xs:List t.ty)(b off:Nat):Prop:=
 ∀ i x j d,xs[i]?=some x->(enc t x)[j]?=some d->∃ u,w.cell? ⟨b,off+(i*t.size+j),none⟩=some u/\RelD w K d u
structure SlRel (w:World) (K:Nat->Prop) (m:Nat->Option (Option Nat)) (H:Heap) (rd:List Nat) (t:Ty) (xs:List t.ty) (a:Option Addr) (n cap:Nat):Prop where
 len:n=xs.length
 cap:n<=cap
 addr:xs≠[]->∃ b off,a=some ⟨b,off,none⟩/\(K b\/∃ l,l∈rd/\m l=some (some b))/\Reads w K t xs b off
theorem pF {T:TypeId}{t:Ty}{xs:List t.ty}{b:Nat}{cs:Array Value}(hw:w.heap[b]?=some (.cells cs T (0,0)))
  (hr:∀ i x j d,xs[i]?=some x->(enc t x)[j]?=some d->∃ v,cs[i*t.size+j]?=some v/\RelD w K d v):Reads w K t xs b 0:=by
 intro i x j d hx hd
 obtain⟨v,hv,hrel⟩:=hr i x j d hx hd
 exact⟨v,by simp[World.cell?,hw,hv],hrel⟩
theorem Reads.drop {t:Ty}{xs:List t.ty}{b off:Nat}(h:Reads w K t xs b off)(k:Nat):Reads w K t (xs.drop k) b (off+k*t.size):=by
 intro i x j d hx hd
 obtain⟨u,hu,hr⟩:=h (k+i) x j d (by simpa[cm]using hx) hd
 refine⟨u,?_,hr⟩
 rw[<-hu];congr 2
 rw[bA];omega
theorem Reads.take {t:Ty}{xs:List t.ty}{b off:Nat}(h:Reads w K t xs b off)(k:Nat):Reads w K t (xs.take k) b off:=by
 intro i x j d hx hd
 refine h i x j d ?_ hd
 rw[cS]at hx
 split at hx
 ·exact hx
 ·cases hx
theorem uu {d:D}{t:Ty}{xs:List t.ty}(hd:d.asSl t=some xs){v:Value}(h:RelD w K d v) :
  ∃ a n cap,v=.slice a n cap/\SlRel w K m H [] t xs a n cap:=by
 have h':=RelD.le (D.asSl_le hd) h
 cases h' with
 | sl0 _ a cap=>exact⟨a,0,cap,rfl,rfl,bK _,λ hne=>absurd rfl hne⟩
 | sl _ _ b off cap u hb hcap hc hr =>
   exact⟨_,_,cap,rfl,rfl,hcap,λ _=>⟨b,off,rfl,.inl hb,λ i x j d hx hd=>⟨_,hc i x j d hx hd,hr i x j d hx hd⟩⟩⟩
theorem lk (hM:Mem E w K m H free){a:AV}{t:Ty}{s:Sls t}(hs:a.sls H t=some s)(hn:s.zF){v:Value}(h:Rel w K m H a v) :
  ∃ ad n cap,v=.slice ad n cap/\SlRel w K m H s.rd t s.xs ad n cap:=by
 cases h with
 | d x v h =>
   simp only[AV.sls,ac]at hs
   obtain⟨xs,hx,rfl⟩:=hs
   exact uu hx h
 | fl t' xs a n h =>
   simp only[AV.sls]at hs
   split at hs
   ·rename_i ht;subst ht;simp only[ag]at hs;subst hs
    obtain⟨a',n',cap',e,hr⟩:=uu (m:=m) (H:=H) (d:=.sl t' xs) (t:=t') (xs:=xs) (by simp[D.asSl]) h
    cases e
    exact⟨_,_,_,rfl,hr⟩
   ·cases hs
 | own0 l t' ad hm =>
   simp only[AV.sls]at hs
   split at hs
   ·split at hs
    ·rename_i ht _ T2 t2 xs hget
     split at hs
     ·rename_i ht2;subst ht2;simp only[ag]at hs;subst hs
      have hb:=hM.heap l _ hget
      rcases hb with⟨_,hx⟩|⟨b,cs,hm',_⟩
      ·subst hx;exact⟨_,_,_,rfl,rfl,aI _,λ hne=>absurd rfl hne⟩
      ·rw[hm]at hm';cases hm'
     ·cases hs
    ·cases hs
   ·cases hs
 | own l t' b n cap hm hlen hcap hsz =>
   simp only[AV.sls]at hs
   split at hs
   ·rename_i ht;subst ht
    split at hs
    ·rename_i T2 t2 xs hget
     split at hs
     ·rename_i ht2;subst ht2;simp only[ag]at hs;subst hs
      have hb:=hM.heap l _ hget
      rcases hb with⟨hm',_⟩|⟨b',cs,hm',hw,_,hr⟩
      ·rw[hm]at hm';cases hm'
      ·rw[hm]at hm';simp only[ag]at hm';subst hm'
       exact⟨_,_,_,rfl,hlen T2 xs hget,hcap,λ _=>⟨b,0,rfl,.inr ⟨l,by simp,hm⟩,pF hw hr⟩⟩
     ·cases hs
    ·cases hs
   ·cases hs
 | view0 l t' off ad =>
   simp only[AV.sls]at hs
   split at hs
   ·split at hs
    ·split at hs
     ·rename_i ht2;subst ht2;simp only[ag]at hs;subst hs
      exact⟨_,_,_,rfl,by simp,bK _,λ hne=>absurd (by simp) hne⟩
     ·cases hs
    ·cases hs
   ·cases hs
 | view l t' b off len cap hm hcap hsz =>
   simp only[AV.sls]at hs
   split at hs
   ·rename_i ht;subst ht
    split at hs
    ·rename_i T2 t2 xs hget
     split at hs
     ·rename_i ht2;subst ht2;simp only[ag]at hs;subst hs
      have hb:=hM.heap l _ hget
      rcases hb with⟨hm',_⟩|⟨b',cs,hm',hw,_,hr⟩
      ·rw[hm]at hm';cases hm'
      ·rw[hm]at hm';simp only[ag]at hm';subst hm'
       refine⟨_,_,_,rfl,by simp only[aD,aL];simp only at hn;omega,hcap,λ _=>⟨b,_,rfl,.inr ⟨l,by simp,hm⟩,?_⟩⟩
       have:=((pF hw hr).drop off).take len
       simpa using this
     ·cases hs
    ·cases hs
   ·cases hs
 | _=>simp[AV.sls]at hs
theorem Reads.values {t:Ty}{xs:List t.ty}{b off:Nat}(h:Reads w K t xs b off) :
  ∃ vs:List Value,vs.length=xs.length*t.size/\(∀ j v,vs[j]?=some v->w.cell? (Addr.add ⟨b,off,none⟩ j)=some v)/\(∀ v∈vs,v.oneCell'=true) /\
   ∀ i x j d,xs[i]?=some x->(enc t x)[j]?=some d->∃ v,vs[i*t.size+j]?=some v/\RelD w K d v:=by
 have hpos:=zl t
 have key:∀ k,k<xs.length*t.size->∃ i x j d u,k=i*t.size+j/\xs[i]?=some x/\(enc t x)[j]?=some d/\w.cell? ⟨b,off+k,none⟩=some u/\RelD w K d u:=by
  intro k hk
  have hi:k/t.size<xs.length:=Nat.div_lt_of_lt_mul (by rw[bO];exact hk)
  have hj:k%t.size<t.size:=kU _ hpos
  have hx:xs[k/t.size]?=some xs[k/t.size]:=ai hi
  have hd:(enc t xs[k/t.size])[k%t.size]?=some ((enc t xs[k/t.size])[k%t.size]'(by rw[bY];exact hj)):=ai _
  obtain⟨u,hu,hr⟩:=h _ _ _ _ hx hd
  have e:k/t.size*t.size+k%t.size=k:=by rw[bO];exact nd _ _
  rw[e]at hu
  exact⟨_,_,_,_,u,e.symm,hx,hd,hu,hr⟩
 have key2:∀ n,n<=xs.length*t.size->∃ vs:List Value,vs.length=n/\(∀ j v,vs[j]?=some v->w.cell? ⟨b,off+j,none⟩=some v):=by
  intro n
  induction n with
  | zero=>exact λ _=>⟨[],rfl,λ j v hj=>by simp at hj⟩
  | succ n ih =>
    intro hn
    obtain⟨vs,hl,hv⟩:=ih (by omega)
    obtain⟨_,_,_,_,u,_,_,_,hu,_⟩:=key n (by omega)
    refine⟨vs++[u],by simp[hl],λ j v hj=>?_⟩
    rw[bv]at hj
    split at hj
    ·exact hv j v hj
    ·rename_i hge
     have:j=n:=by
      rcases ax (j-vs.length) 1 with h1|h1
      ·omega
      ·rw[aw (by simpa using h1)]at hj;cases hj
     subst this
     simp only[hl,Nat.sub_self,bp,ag]at hj
     subst hj
     exact hu
 obtain⟨vs,hl,hv⟩:=key2 _ (aI _)
 refine⟨vs,hl,λ j v hj=>?_,λ v hv'=>?_,λ i x j d hx hd=>?_⟩
 ·have:Addr.add ⟨b,off,none⟩ j=⟨b,off+j,none⟩:=by unfold Addr.add;split<;>simp_all
  rw[this]
  exact hv j v hj
 ·obtain⟨j,hj,rfl⟩:=dJ hv'
  obtain⟨i,x,j',d,u,e,hx,hd,hu,hr⟩:=key j (by omega)
  have:=hv j _ (ai hj)
  rw[hu]at this
  simp only[ag]at this
  rw[<-this]
  exact Nn (bu hd) hr
 ·obtain⟨u,hu,hr⟩:=h i x j d hx hd
  have hi:i<xs.length:=(am.1 hx).1
  have hj:j<t.size:=by have:=(am.1 hd).1;rw[bY]at this;exact this
  have hlt:i*t.size+j<vs.length:=by
   rw[hl]
   calc i*t.size+j<i*t.size+t.size:=by omega
    _=(i+1)*t.size:=by rw[bA,eA]
    _<=xs.length*t.size:=aC _ hi
  have:=hv _ _ (ai hlt)
  rw[hu]at this
  simp only[ag]at this
  exact⟨_,ai hlt,this ▸ hr⟩
end Go.VL
namespace Go.VL
variable {P:Program} {E:Entry} {w:World} {K:Nat->Prop} {m:Nat->Option (Option Nat)} {H:Heap} {free:Nat->Prop}
theorem Ext.drew (w:World)(K:Nat->Prop)(m:Nat->Option (Option Nat))(H:Heap):Ext w K m H w.drew K m H:=
 ⟨λ _ h=>h,λ _ _=>rfl,λ _ _ h=>h,λ _ _ h=>h,λ _ _ _ xs _ h=>⟨xs,h,rfl⟩⟩
theorem Mem.drew (h:Mem E w K m H free):Mem E w.drew K m H free:=
 { os := h.os, tape := h.tape, output := h.output, size := h.size, keep := h.keep, Kmono := h.Kmono, Klt := h.Klt, Knew := h.Knew, mold := h.mold, mnew := h.mnew, mlt := h.mlt,
   mfree:=h.mfree,fnew:=h.fnew,heap:=λ l blk hl=>(h.heap l blk hl).ext (Ext.drew w K m H) (λ _ _=>rfl),own:=h.own,inj:=h.inj,shape:=h.shape,frozen:=h.frozen,gok:=h.gok.ext (λ _ h=>h) (λ _ _=>rfl) }
theorem Mem.nil (h:Mem E w K m H free){nm:Nat}(hn:free nm)(T:TypeId)(t:Ty) :
  Mem E w K (upd m nm none) (H.put nm (some (.row T t []))) (λ l=>free l/\l≠nm)/\Ext w K m H w K (upd m nm none) (H.put nm (some (.row T t []))):=by
 have hnm:=h.mfree nm hn
 have e:Ext w K m H w K (upd m nm none) (H.put nm (some (.row T t []))):=
  ⟨λ _ hk=>hk,λ b hk=>rfl,λ l x hx=>by
    by_cases hl:l=nm
    ·subst hl;rw[hnm]at hx;cases hx
    ·rw[cM _ _ hl];exact hx,
   λ b s hs=>hs,λ l T' t' xs hm hx=>by
    by_cases hl:l=nm
    ·subst hl;exact absurd hnm hm
    ·exact⟨xs,Heap.get_put_row hl hx,rfl⟩⟩
 refine⟨?_,e⟩
 have hg:∀ k b',(H.put nm (some (.row T t []))).get k=some b'->(k=nm/\b'=.row T t [])\/(k≠nm/\H.get k=some b'):=by
  intro k b' hk
  by_cases hl:k=nm
  ·subst hl;rw[Heap.get_put_self]at hk;cases hk;exact .inl ⟨rfl,rfl⟩
  ·exact .inr ⟨hl,by rw[Heap.get_put H hl]at hk;exact hk⟩
 exact { h with
  mold:=λ l hl=>by
   have:=h.fnew nm hn
   rw[cM _ _ (by omega)];exact h.mold l hl
  mnew:=λ l b hl hm=>by
   by_cases he:l=nm
   ·subst he;rw[bG]at hm;cases hm
   ·rw[cM _ _ he]at hm;exact h.mnew l b hl hm
  mlt:=λ l b hm=>by
   by_cases he:l=nm
   ·subst he;rw[bG]at hm;cases hm
   ·rw[cM _ _ he]at hm;exact h.mlt l b hm
  mfree:=λ l hl=>by rw[cM _ _ hl.2];exact h.mfree l hl.1
  fnew:=λ l hl=>h.fnew l hl.1
  heap:=λ k b' hk=>by
   rcases hg k b' hk with⟨rfl,rfl⟩|⟨hne,hk'⟩
   ·exact .inl ⟨bG _ _ _,rfl⟩
   ·exact(h.heap k b' hk').ext e (λ b hm=>rfl)
  own:=λ k b' b hk hm hK=>by
   rcases hg k b' hk with⟨rfl,rfl⟩|⟨hne,hk'⟩
   ·rw[bG]at hm;cases hm
   ·rw[cM _ _ hne]at hm;exact h.own k b' b hk' hm hK
  inj:=λ k k' b1 b2 b hk hk' hm hm'=>by
   rcases hg k b1 hk with⟨rfl,rfl⟩|⟨hne,hk1⟩<;>rcases hg k' b2 hk' with⟨rfl,rfl⟩|⟨hne',hk2⟩
   ·rfl
   ·rw[bG]at hm;cases hm
   ·rw[bG]at hm';cases hm'
   ·rw[cM _ _ hne]at hm;rw[cM _ _ hne']at hm';exact h.inj k k' b1 b2 b hk1 hk2 hm hm' }
theorem Mem.move (h:Mem E w K m H free){l b nm:Nat}{blk0 blk:ABlk}(hl:H.get l=some blk0)(hm:m l=some (some b))(hn:free nm){w':World}{cs cs':Array Value}{T:TypeId}
  (hw:w.heap[b]?=some (.cells cs T (0,0))) (hw':w'.heap[b]?=some (.cells cs' T (0,0))) (hsz:cs'.size=cs.size) (hother:∀ k,k≠b->w'.heap[k]?=w.heap[k]?)
  (hsame:w'.os=w.os/\w'.tape=w.tape/\w'.output=w.output/\w'.heap.size=w.heap.size)
  (hb:∀ m' H',Ext w K m H w' K m' H'->m' nm=some (some b)->BlkRel w' K m' H' nm blk) :
  Mem E w' K (upd m nm (some b)) ((H.put l none).put nm (some blk)) (λ k=>free k/\k≠nm)/\Ext w K m H w' K (upd m nm (some b)) ((H.put l none).put nm (some blk)):=by
 have hnK:¬ K b:=h.own l blk0 b hl hm
 have hnm:=h.mfree nm hn
 have hne0:l≠nm:=λ e=>by rw[e,hnm]at hm;cases hm
 have hshape:∀ b' s,w.shape? b'=some s->w'.shape? b'=some s:=by
  intro b' s hs
  by_cases he:b'=b
  ·subst he
   unfold World.shape? at hs ⊢
   rw[hw]at hs;rw[hw'];simp only[ag]at hs ⊢;rw[<-hs,hsz]
  ·unfold World.shape? at hs ⊢
   rw[hother b' he];exact hs
 have hg:∀ k b',((H.put l none).put nm (some blk)).get k=some b'->(k=nm/\b'=blk)\/(k≠nm/\k≠l/\H.get k=some b'):=by
  intro k b' hk
  by_cases hkn:k=nm
  ·subst hkn;rw[Heap.get_put_self]at hk;cases hk;exact .inl ⟨rfl,rfl⟩
  ·rw[Heap.get_put _ hkn]at hk
   by_cases hkl:k=l
   ·subst hkl;rw[Heap.get_put_self]at hk;cases hk
   ·rw[Heap.get_put _ hkl]at hk;exact .inr ⟨hkn,hkl,hk⟩
 have e:Ext w K m H w' K (upd m nm (some b)) ((H.put l none).put nm (some blk)):=
  ⟨λ _ hk=>hk,λ b' hk=>hother b' (λ e=>hnK (e ▸ hk)),λ k x hx=>by
    by_cases hk:k=nm
    ·subst hk;rw[hnm]at hx;cases hx
    ·rw[cM _ _ hk];exact hx,
   hshape,λ k T' t xs hm' hx=>by
    rcases hg k _ hx with⟨rfl,_⟩|⟨_,_,hk⟩
    ·exact absurd hnm hm'
    ·exact⟨xs,hk,rfl⟩⟩
 refine⟨?_,e⟩
 exact
  { os := hsame.1.trans h.os, tape := hsame.2.1.trans h.tape, output := hsame.2.2.1.trans h.output
    size:=by rw[hsame.2.2.2];exact h.size
    keep:=λ b' hb1 hb2=>by
     rw[hother b' (λ he=>?_)]
     ·exact h.keep b' hb1 hb2
     ·subst he
      rcases ax l E.n with hln|hln
      ·exact hb2 l hln (by rw[<-h.mold l hln];exact hm)
      ·rcases h.mnew l b' hln hm with h1|⟨k,hk,hkm⟩
       ·omega
       ·exact hb2 k hk hkm
    Kmono:=h.Kmono
    Klt:=λ b' hk=>by rw[hsame.2.2.2];exact h.Klt b' hk
    Knew:=h.Knew
    mold:=λ k hk=>by
     have:=h.fnew nm hn
     rw[cM _ _ (by omega)];exact h.mold k hk
    mnew:=λ k b' hk hm'=>by
     by_cases he:k=nm
     ·subst he;rw[bG]at hm';cases hm'
      rcases ax l E.n with hln|hln
      ·exact .inr ⟨l,hln,by rw[<-h.mold l hln];exact hm⟩
      ·exact h.mnew l b hln hm
     ·rw[cM _ _ he]at hm';exact h.mnew k b' hk hm'
    mlt:=λ k b' hk=>by
     rw[hsame.2.2.2]
     by_cases he:k=nm
     ·subst he;rw[bG]at hk;cases hk;exact h.mlt l b hm
     ·rw[cM _ _ he]at hk;exact h.mlt k b' hk
    mfree:=λ k hk=>by rw[cM _ _ hk.2];exact h.mfree k hk.1
    fnew:=λ k hk=>h.fnew k hk.1
    heap:=λ k b' hk=>by
     rcases hg k b' hk with⟨rfl,rfl⟩|⟨hkn,hkl,hk'⟩
     ·exact hb _ _ e (bG _ _ _)
     ·refine(h.heap k b' hk').ext e (λ b2 hm2=>hother b2 (λ he=>?_))
      subst he
      exact hkl (h.inj k l b' blk0 b2 hk' hl hm2 hm)
    own:=λ k b' b2 hk hm2=>by
     rcases hg k b' hk with⟨rfl,rfl⟩|⟨hkn,hkl,hk'⟩
     ·rw[bG]at hm2;cases hm2;exact hnK
     ·rw[cM _ _ hkn]at hm2;exact h.own k b' b2 hk' hm2
    inj:=λ k k' b1 b2 b' hk hk' hm1 hm2=>by
     rcases hg k b1 hk with⟨rfl,rfl⟩|⟨hne,hnl,hk1⟩<;>rcases hg k' b2 hk' with⟨rfl,rfl⟩|⟨hne',hnl',hk2⟩
     ·rfl
     ·rw[bG]at hm1;cases hm1;rw[cM _ _ hne']at hm2;exact absurd (h.inj k' l b2 blk0 b hk2 hl hm2 hm) hnl'
     ·rw[bG]at hm2;cases hm2;rw[cM _ _ hne]at hm1;exact absurd (h.inj k l b1 blk0 b hk1 hl hm1 hm) hnl
     ·rw[cM _ _ hne]at hm1;rw[cM _ _ hne']at hm2;exact h.inj k k' b1 b2 b' hk1 hk2 hm1 hm2
    shape:=λ b' s hs=>hshape b' s (h.shape b' s hs)
    frozen:=λ b hb=>(e.keep b (h.Kmono b hb)).trans (h.frozen b hb),gok:=h.gok.ext e.hK e.keep }
inductive AppOut (w:World) (e:TypeId) (size:Nat) (a0:Option Addr) (n m cap:Nat) (olds news:List Value):Value->World->Prop
 | nil (h0:cap=0) (hm:n+m=0):AppOut w e size a0 n m cap olds news (.slice a0 0 0) w
 | room (b:Nat) (cs cs':Array Value) (w':World) (h0:a0=some ⟨b,0,none⟩) (hp:0<cap) (hc:n+m<=cap) (hw:w.heap[b]?=some (.cells cs e (0,0))) (hw':w'.heap[b]?=some (.cells cs' e (0,0)))
  (hsz:cs'.size=cs.size) (hcap:cap*size<=cs.size) (hother:∀ k,k≠b->w'.heap[k]?=w.heap[k]?) (hsame:w'.os=w.os/\w'.tape=w.tape/\w'.output=w.output/\w'.heap.size=w.heap.size)
  (hv:∀ k,k<(n+m)*size->cs'[k]?=(olds++news)[k]?):AppOut w e size a0 n m cap olds news (.slice a0 (n+m) cap) w'
 | new (cap':Nat) (cs:Array Value) (hc:n+m<=cap') (hcap:cap'*size<=cs.size) (hv:∀ k,k<(n+m)*size->cs[k]?=(olds++news)[k]?) :
  AppOut w e size a0 n m cap olds news (.slice (some ⟨w.heap.size,0,none⟩) (n+m) cap') (w.drew.alloc (.cells cs e))
theorem uZ (a b c:Array Value)(k:Nat)(h:k<a.size+b.size):(a++b++c)[k]?=(a.toList++b.toList)[k]?:=by
 rw[eT (by simpa using h)]
 simp only[<-bw,Array.toList_append]
theorem Bs (w:World)(t ty e:TypeId)(i:TypeInfo)(z:Value)(ht:P.underlying t=some (.slice e))(hi:P.info? e=some i)(hz:i.zero=some z)(hzs:z.cells.size=i.size)
  (a0:Option Addr) (n cap:Nat) (olds:List Value) (hlo:olds.length=n*i.size) (ha0:(n=0/\cap=0)\/∃ b,a0=some b/\∀ j v,olds[j]?=some v->w.cell? (b.add j)=some v)
  (a:Addr) (m c:Nat) (news:List Value) (hl:news.length=m*i.size) (hnews:∀ j v,news[j]?=some v->w.cell? (a.add j)=some v)
  (hg:cap<n+m) (hb:(n+m)*(i.bytes+1)<=35184372088832) :
  ∃ v w',(Builtin.append_ #[t,t] ty #[.slice a0 n cap,.slice (some a) m c]).run P w=.ok v w'/\AppOut w e i.size a0 n m cap olds news v w':=by
 have hbytes:(n+m)*i.bytes<=35184372088832:=bj (ch _ (by omega)) hb
 have hnm:n+m<=35184372088832:=bj (Nat.le_mul_of_pos_right _ (by omega)) hb
 have ha0':(a0=none/\n=0/\cap=0)\/∃ b,a0=some b/\∀ j v,olds[j]?=some v->w.cell? (b.add j)=some v:=by
  rcases ha0 with⟨h1,h2⟩|h
  ·cases a0 with
   | none=>exact .inl ⟨rfl,h1,h2⟩
   | some b=>exact .inr ⟨b,rfl,λ j v hj=>by rw[h1,gR]at hlo;rw[ay hlo]at hj;simp at hj⟩
  ·exact .inr h
 rcases ha0' with⟨rfl,rfl,rfl⟩|⟨b,rfl,holds⟩
 ·have ho:olds=[]:=ay (by simpa using hlo)
  subst ho
  simp only[cE]at hg hbytes hnm
  have hr:=run_append_nil (P:=P) w t ty e i z ht hi hz a m c news hl hnews hg (by omega) (by omega)
  refine⟨_,_,hr,?_⟩
  have hge:=grownCap_ge w m 0 e
  have:=AppOut.new (w:=w) (e:=e) (size:=i.size) (a0:=none) (n:=0) (m:=m) (cap:=0) (olds:=[]) (news:=news) (grownCap w m 0 e) (news.toArray++Builtin.zeroCells z.cells (grownCap w m 0 e-m)) (by omega)
   (by simp only[Array.size_append,cx,size_zeroCells,hzs,hl,<-bA];exact aC _ (by omega))
   (λ k hk=>by rw[eT (by simp[hl];simpa using hk)];simp)
  simpa using this
 ·have hr:=run_append_grow (P:=P) w t ty e i z ht hi hz b n cap olds hlo holds a m c news hl hnews hg (by omega) (growslice_fits hg (by omega))
  refine⟨_,_,hr,?_⟩
  have hge:=grownCap_ge w (n+m) cap e
  exact AppOut.new _ _ hge (by simp only[Array.size_append,cx,size_zeroCells,hzs,hl,hlo,<-bA];exact aC _ (by omega))
   (λ k hk=>by rw[uZ _ _ _ _ (by simp[hl,hlo,<-bA];exact hk)])
theorem NP (w:World)(t ty e:TypeId)(i:TypeInfo)(z:Value)(ht:P.underlying t=some (.slice e))(hi:P.info? e=some i)(hz:i.zero=some z)(hzs:z.cells.size=i.size)
  (a0:Option Addr) (n cap:Nat) (olds:List Value) (hlo:olds.length=n*i.size)
  (ha0:(n=0/\cap=0)\/∃ b cs,a0=some ⟨b,0,none⟩/\n<=cap/\w.heap[b]?=some (.cells cs e (0,0))/\cap*i.size<=cs.size/\∀ k,k<n*i.size->cs[k]?=olds[k]?)
  (a1:Option Addr) (m c:Nat) (news:List Value) (hl:news.length=m*i.size) (hone:∀ v∈news,v.oneCell'=true)
  (ha1:(a1=none/\m=0)\/∃ a,a1=some a/\∀ j v,news[j]?=some v->w.cell? (a.add j)=some v) (hb:(n+m)*(i.bytes+1)<=35184372088832) :
  ∃ v w',(Builtin.append_ #[t,t] ty #[.slice a0 n cap,.slice a1 m c]).run P w=.ok v w'/\AppOut w e i.size a0 n m cap olds news v w':=by
 rcases ha1 with⟨rfl,rfl⟩|⟨a,rfl,hnews⟩
 ·have hn:news=[]:=ay (by simpa using hl)
  subst hn
  rcases ha0 with⟨rfl,rfl⟩|⟨b,cs,rfl,hnc,hw,hcs,hov⟩
  ·refine⟨_,w,by cases a0<;>simp[Builtin.append_,run_underlying ht,sizeOf,typeInfo,hi,Builtin.lenOf,Builtin.firstCells,storeCells]<;>rfl,.nil rfl rfl⟩
  ·refine⟨_,w,by simp[Builtin.append_,run_underlying ht,sizeOf,typeInfo,hi,Builtin.lenOf,Builtin.firstCells,hnc,storeCells];rfl,?_⟩
   by_cases hc0:cap=0
   ·have hn0:n=0:=by omega
    subst hc0;subst hn0
    exact .nil rfl rfl
   exact .room b cs cs w rfl (by omega) hnc hw hw rfl hcs (λ _ _=>rfl) ⟨rfl,rfl,rfl,rfl⟩ (λ k hk=>by simpa using hov k hk)
 ·by_cases hroom:n+m<=cap/\cap≠0
  ·rcases ha0 with⟨_,hc0⟩|⟨b,cs,rfl,hnc,hw,hcs,hov⟩
   ·exact absurd hc0 hroom.2
   ·have hfit:n*i.size+news.length<=cs.size:=by rw[hl,<-bA];exact bj (aC _ hroom.1) hcs
    have hr:=run_append_room (P:=P) w t ty e i ht hi b n cap cs hw a m c news hl hnews hone hroom.1 hfit
    refine⟨_,_,hr,.room b cs _ _ rfl (by omega) hroom.1 hw (setRow_heap w b cs _ e _ hw) ?_ hcs (λ k hk=>setRow_other w b k _ (λ e=>hk (by simp[e]))) ⟨rfl,rfl,rfl,by simp⟩ (λ k hk=>?_)⟩
    ·simp only[cx,al,aD,aL,bl];omega
    ·rw[bA,<-hl]at hk
     simp only[eV,bk]
     have hlt:(cs.toList.take (n*i.size)).length=n*i.size:=by simp;omega
     by_cases hkn:k<n*i.size
     ·rw[bJ (by omega),bJ (by omega),cS,aE hkn,<-hov k hkn];simp
     ·have e2:(olds++news)[k]?=news[k-n*i.size]?:=by rw[bP (by omega),hlo]
      rw[e2,bP (by omega),hlt,bJ (by omega)]
  ·by_cases h0:n+m=0/\cap=0
   ·obtain⟨h0,rfl⟩:=h0
    have hn0:n=0:=by omega
    subst hn0
    have hm:m=0:=by omega
    subst hm
    have hn:news=[]:=ay (by simpa using hl)
    subst hn
    refine⟨_,w,by cases a0<;>simp[Builtin.append_,run_underlying ht,sizeOf,typeInfo,hi,Builtin.lenOf,Builtin.firstCells,loadCells,loadCellsFrom,storeCells]<;>rfl,.nil rfl rfl⟩
   ·refine Bs w t ty e i z ht hi hz hzs a0 n cap olds hlo ?_ a m c news hl hnews ?_ hb
    ·rcases ha0 with h|⟨b,cs,rfl,hnc,hw,hcs,hov⟩
     ·exact .inl h
     ·refine .inr ⟨_,rfl,λ j v hj=>?_⟩
      have hjl:j<n*i.size:=by have:=(am.1 hj).1;omega
      have:Addr.add ⟨b,0,none⟩ j=⟨b,j,none⟩:=by unfold Addr.add;split<;>simp_all
      rw[this]
      simp[World.cell?,hw,hov j hjl,hj]
    ·omega
end Go.VL
namespace Go.VL
variable {P:Program} {C:cd} {E:Entry} {w:World} {K:Nat->Prop} {m:Nat->Option (Option Nat)} {H:Heap} {free:Nat->Prop}
def Ran (P:Program)(E:Entry)(ρ:Operand->Value)(o:Oper)(w:World)(K:Nat->Prop)(m:Nat->Option (Option Nat))(H:Heap)(free:Nat->Prop)(nm:Nat)(e:Eff):Prop:=
 ∃ nx u w' K' m',(execOp ρ o).run P w=.ok nx w'/\(nx=.value u\/(nx=.skip/\u=undef))/\Rel w' K' m' (H.app e.wr) e.v u /\
  Mem E w' K' m' (H.app e.wr) (λ l=>free l/\l≠nm)/\Ext w K m H w' K' m' (H.app e.wr)
theorem Ran.same {ρ:Operand->Value}{o:Oper}{nm:Nat}{v:AV}{p:Prop}{rd:List Nat}(hM:Mem E w K m H free){u:Value}
  (hr:(execOp ρ o).run P w=.ok (.value u) w) (h:Rel w K m H v u):Ran P E ρ o w K m H free nm ⟨v,p,rd,[]⟩:=
 ⟨_,u,w,K,m,hr,.inl rfl,h,hM.weaken (λ _ hl=>hl.1),Ext.refl w K m H⟩
theorem bW {ρ:Operand->Value}{o:Oper}{nm:Nat}{v:AV}{e:Eff}(he:eff v=some e)(hM:Mem E w K m H free){u:Value}
  (hr:(execOp ρ o).run P w=.ok (.value u) w) (h:Rel w K m H v u):Ran P E ρ o w K m H free nm e:=by
 simp only[eff,ag]at he
 subst he
 exact Ran.same hM hr h
theorem eZ {a:AV}{b:Bool}(ha:a.bool?=some b){v:Value}(h:Rel w K m H a v):v=.bool b:=by
 unfold AV.bool? at ha
 split at ha
 ·simp only[ag]at ha;subst ha;cases h with|d x v h=>cases h;rfl
 ·cases ha
theorem hI {a:AV}{n:Int}(ha:a.int?=some n){v:Value}(h:Rel w K m H a v):∃ k,v=.int k n:=by
 unfold AV.int? at ha
 split at ha
 ·simp only[ag]at ha;subst ha;cases h with|d x v h=>cases h;exact⟨_,rfl⟩
 ·cases ha
theorem cw {x v:Value}(h:Rel w K m H (.d (.v x)) v):v=x:=by cases h with|d x v h=>cases h;rfl
theorem uc {a:AV}{o:Fl}(ha:a.zQ?=some o){v:Value}(h:Rel w K m H a v):∃ b,v=.float .f64 b/\ud o b:=by
 unfold AV.zQ? at ha
 split at ha
 ·simp only[ag]at ha;subst ha;cases h with|d x v h=>cases h with|f o b h=>exact⟨b,rfl,h⟩
 ·simp only[ag]at ha;subst ha;cases h with|d x v h=>cases h;exact⟨_,rfl,rfl⟩
 ·cases ha
theorem kt {a:AV}(ha:a.known=true){v:Value}(h:Rel w K m H a v) :
  v.cells.size=a.cells.length/\∀ (i:Nat) (x:AV) (u:Value),a.cells[i]?=some x->v.cells[i]?=some u->Rel w K m H x u:=by
 have single:∀ (a:AV) (v:Value),a.cells=[a]->v.cells=#[v]->Rel w K m H a v->v.cells.size=a.cells.length/\∀ (i:Nat) (x:AV) (u:Value),a.cells[i]?=some x->v.cells[i]?=some u->Rel w K m H x u:=by
  intro a v e1 e2 h
  rw[e1,e2]
  refine⟨rfl,λ i x u hx hu=>?_⟩
  cases i with
  | zero=>simp at hx hu;subst hx;subst hu;exact h
  | succ i=>simp at hx
 cases h with
 | dead=>simp[AV.known]at ha
 | agg cs vs hl h=>exact⟨hl,h⟩
 | d x v h =>
   refine single _ _ rfl ?_ (.d x v h)
   cases h with
   | v=>cases v<;>first|rfl|(simp[AV.known]at ha)
   | _=>rfl
 | fl t xs a n h=>exact single _ _ rfl rfl (.fl t xs a n h)
 | own0 l t a h=>exact single _ _ rfl rfl (.own0 l t a h)
 | own l t b n cap h hn hc hs=>exact single _ _ rfl rfl (.own l t b n cap h hn hc hs)
 | view0 l t off a=>exact single _ _ rfl rfl (.view0 l t off a)
 | view l t b off len cap h hc hs=>exact single _ _ rfl rfl (.view l t b off len cap h hc hs)
 | ptr l f b h=>exact single _ _ rfl rfl (.ptr l f b h)
 | eptr l t i f b h=>exact single _ _ rfl rfl (.eptr l t i f b h)
 | ip ds b off u hb hc hr=>exact single _ _ rfl rfl (.ip ds b off u hb hc hr)
 | tup cs vs hl h=>exact single _ _ rfl rfl (.tup cs vs hl h)
 | clo fn fs cs us vs hf hl h1 h2=>exact single _ _ rfl rfl (.clo fn fs cs us vs hf hl h1 h2)
 | mp l b h=>exact single _ _ rfl rfl (.mp l b h)
theorem Addr.add_none (b off j:Nat):Addr.add ⟨b,off,none⟩ j=⟨b,off+j,none⟩:=by unfold Addr.add;split<;>simp_all
def pn:TypeDesc->Bool
 | .struct _ | .array _ _=>true
 | _=>false
theorem np {t:TypeId}{u:TypeDesc}(hu:P.underlying t=some u)(h:pn u=true)(w:World):(isAgg t).run P w=.ok true w:=by
 unfold isAgg
 simp only[Sem.run_bind,run_underlying hu,Result.andThen_ok]
 cases u<;>first|rfl|(simp[pn]at h)
theorem eY {t:TypeId}{u:TypeDesc}(hu:P.underlying t=some u)(h:pn u=false)(w:World):(isAgg t).run P w=.ok false w:=by
 unfold isAgg
 simp only[Sem.run_bind,run_underlying hu,Result.andThen_ok]
 cases u<;>first|rfl|(simp[pn]at h)
theorem cQ {t:TypeId}{i:TypeInfo}(hi:P.info? t=some i)(w:World):(sizeOf t).run P w=.ok i.size w:=by
 simp[sizeOf,typeInfo,hi]
theorem rm {t:TypeId}{cs:List AV}{off:Nat}{v:AV}(h:nz P t cs off=some v) :
  ∃ u i,P.underlying t=some u/\P.info? t=some i /\
   ((pn u=true/\off+i.size<=cs.length/\v=.agg ((cs.drop off).take i.size)) \/
    (pn u=false/\cs[off]?=some v)):=by
 unfold nz at h
 split at h
 ·rename_i u i hu hi
  refine⟨u,i,hu,hi,?_⟩
  split at h
  ·refine .inl ⟨rfl,?_⟩
   cases hb:Nat.ble (off+i.size) cs.length
   ·simp[hb]at h
   ·simp[hb]at h;exact⟨aV hb,h.symm⟩
  ·refine .inl ⟨rfl,?_⟩
   cases hb:Nat.ble (off+i.size) cs.length
   ·simp[hb]at h
   ·simp[hb]at h;exact⟨aV hb,h.symm⟩
  ·rename_i h1 h2
   refine .inr ⟨?_,?_⟩
   ·cases u<;>first|rfl|(exact absurd rfl (h1 _))|(exact absurd rfl (h2 _ _))
   ·cases hb:(i.size==1)
    ·simp[hb]at h
    ·simpa[hb]using h
 ·cases h
def sA (w:World)(K:Nat->Prop)(m:Nat->Option (Option Nat))(H:Heap)(b off:Nat)(cs:List AV):Prop:=
 ∀ (i:Nat) (x:AV),cs[i]?=some x->∃ u,w.cell? ⟨b,off+i,none⟩=some u/\Rel w K m H x u
theorem FI {α:Type}(n:Nat)(f:Nat->Option α)(h:∀ i,i<n->∃ u,f i=some u):∃ vs:List α,vs.length=n/\∀ i,i<n->vs[i]?=f i:=by
 induction n with
 | zero=>exact⟨[],rfl,λ i hi=>by omega⟩
 | succ n ih =>
   obtain⟨vs,hl,hv⟩:=ih λ i hi=>h i (by omega)
   obtain⟨u,hu⟩:=h n (by omega)
   refine⟨vs++[u],by simp[hl],λ i hi=>?_⟩
   rw[bv]
   split
   ·exact hv i (by omega)
   ·have:i=n:=by omega
    subst this
    simp[hl,hu]
theorem rB {t:TypeId}{cs:List AV}{b o f:Nat}{v:AV}(h:nz P t cs f=some v)(hc:sA w K m H b o cs) :
  ∃ u,(loadVar t ⟨b,o+f,none⟩).run P w=.ok u w/\Rel w K m H v u:=by
 obtain⟨u,i,hu,hi,⟨hag,hle,rfl⟩|⟨hag,hx⟩⟩:=rm h
 ·obtain⟨vs,hl,hv⟩:=FI i.size (λ j=>w.cell? ⟨b,o+f+j,none⟩) (λ j hj=>by
   obtain⟨u,hu,_⟩:=hc (f+j) (cs[f+j]) (ai (by omega))
   exact⟨u,by rw[<-hu];congr 2;omega⟩)
  have hload:=run_loadCells_list (P:=P) w ⟨b,o+f,none⟩ vs (λ j v hj=>by
   have hjl:=(am.1 hj).1
   rw[Addr.add_none,<-hv j (by omega)];exact hj)
  rw[hl]at hload
  refine⟨.agg vs.toArray,?_,.agg _ _ (by simp[hl];omega) (λ j x u hx hu=>?_)⟩
  ·unfold loadVar
   simp only[Sem.run_bind,np hu hag,Result.andThen_ok,mU,cQ hi,hload,Sem.run_pure]
  ·rw[cS]at hx
   split at hx
   ·rw[cm]at hx
    obtain⟨u',hu',hr⟩:=hc _ _ hx
    have:vs[j]?=some u:=by simpa using hu
    rw[hv j (by omega)]at this
    have e:u=u':=by
     have h2:w.cell? ⟨b,o+f+j,none⟩=some u':=by rw[<-hu'];congr 2;omega
     rw[this]at h2;exact aJ h2
    rw[e];exact hr
   ·cases hx
 ·obtain⟨u',hu',hr⟩:=hc _ _ hx
  refine⟨u',?_,hr⟩
  unfold loadVar
  simp[Sem.run_bind,eY hu hag,hu']
theorem Ah {t:TypeId}{cs:List AV}{vs:Array Value}{f:Nat}{v:AV}(h:nz P t cs f=some v)(hl:vs.size=cs.length)
  (hc:∀ (i:Nat) (a:AV) (v:Value),cs[i]?=some a->vs[i]?=some v->Rel w K m H a v):∃ u,(part t vs f).run P w=.ok u w/\Rel w K m H v u:=by
 obtain⟨u,i,hu,hi,⟨hag,hle,rfl⟩|⟨hag,hx⟩⟩:=rm h
 ·refine⟨.agg (vs.extract f (f+i.size)),?_,.agg _ _ (by simp;omega) (λ j x u hx hu=>?_)⟩
  ·unfold part
   simp only[Sem.run_bind,np hu hag,Result.andThen_ok,mU,cQ hi,Sem.run_pure]
  ·rw[cS]at hx
   split at hx
   ·rw[cm]at hx
    refine hc (f+j) x u hx ?_
    rw[cY]at hu
    split at hu
    ·exact hu
    ·cases hu
   ·cases hx
 ·have hlt:f<vs.size:=by rw[hl];exact(am.1 hx).1
  refine⟨vs[f],?_,hc f v vs[f] hx (by simp[hlt])⟩
  unfold part
  simp[Sem.run_bind,eY hu hag,hlt]
end Go.VL
namespace Go.VL
variable {P:Program} {C:cd} {E:Entry} {w:World} {K:Nat->Prop} {m:Nat->Option (Option Nat)} {H:Heap} {free:Nat->Prop} {nm:Nat} {o:Oper}
 {ρ:Operand->Value} {ρA:Operand->AV} {e:Eff}
theorem fD {s:Sem Value}{u:Value}{w w':World}(h:s.run P w=.ok u w'):(do pure (Next.value (<-s)):Sem Next).run P w=.ok (.value u) w':=by
 simp[h]
theorem Iw {s:Sem Unit}{w w':World}(h:s.run P w=.ok () w'):(do s;pure Next.skip:Sem Next).run P w=.ok .skip w':=by
 simp[h]
theorem zz (hM:Mem E w K m H free)(hρ:∀ x,Rel w K m H (ρA x) (ρ x)){x:Operand}(ho:o.op=.move x\/o.op=.assign x)(he:eff (ρA x)=some e):Ran P E ρ o w K m H free nm e:=
 bW he hM (u:=ρ x) (by rcases ho with ho|ho<;>simp[execOp,ho]) (hρ x)
theorem IK (hM:Mem E w K m H free)(hρ:∀ x,Rel w K m H (ρA x) (ρ x)){c a b:Operand}(ho:o.op=.pick c a b)(he:opE P C ρA H nm o=some e):Ran P E ρ o w K m H free nm e:=by
 simp only[opE,ho,aa]at he
 obtain⟨cb,hc,he⟩:=he
 split at he
 ·rename_i x y hx hy
  have h1:=eZ hc (hρ c)
  have h2:=eZ hx (hρ a)
  have h3:=eZ hy (hρ b)
  refine bW he hM (u:=.bool (bif cb then x else y)) ?_ (.d _ _ (.v _))
  simp only[execOp,ho,h1,h2,h3,asBool,Sem.run_bind,Sem.run_pure,Result.andThen_ok]
  cases cb<;>rfl
 ·rename_i x hx hy
  have h1:=eZ hc (hρ c)
  have h2:=eZ hx (hρ a)
  cases cb
  ·cases he
  refine bW he hM (u:=.bool x) ?_ (.d _ _ (.v _))
  simp only[execOp,ho,h1,h2,asBool,Sem.run_bind,Sem.run_pure,Result.andThen_ok]
  rfl
 ·rename_i y hx hy
  have h1:=eZ hc (hρ c)
  have h3:=eZ hy (hρ b)
  cases cb
  ·refine bW he hM (u:=.bool y) ?_ (.d _ _ (.v _))
   simp only[execOp,ho,h1,h3,asBool,Sem.run_bind,Sem.run_pure,Result.andThen_ok]
   rfl
  ·cases he
 ·cases he
theorem Gp (hM:Mem E w K m H free)(hn:free nm){t:TypeId}(ho:o.op=.alloc t)(he:opE P C ρA H nm o=some e):Ran P E ρ o w K m H free nm e:=by
 simp only[opE,ho,vf,ac,aa]at he
 obtain⟨cs,⟨i,hi,z,hz,rfl⟩,rfl⟩:=he
 obtain⟨h1,h2⟩:=hM.new hn z.cells t (.box (z.cells.toList.map λ v=>.d (.v v))) (λ w' m' H' e' hm hw=>⟨w.heap.size,z.cells,t,hm,hw,by simp,λ i x v hx hv=>by
  simp only[aQ,bw,hv,bt,ag]at hx
  subst hx
  exact .d _ _ (.v _)⟩)
 refine⟨_,.pointer (some ⟨w.heap.size,0,none⟩),_,_,_,?_,.inl rfl,?_,h1,h2⟩
 ·simp only[execOp,ho]
  exact fD (by simp[Instr.alloc,zeroValue,typeInfo,hi,hz,newVar,newRow])
 ·exact .ptr _ _ _ (bG _ _ _)
theorem Mx (hM:Mem E w K m H free)(hn:free nm)(hρ:∀ x,Rel w K m H (ρA x) (ρ x)){t:TypeId}{x:Operand}(ho:o.op=.box t x)(he:opE P C ρA H nm o=some e):Ran P E ρ o w K m H free nm e:=by
 simp only[opE,ho]at he
 cases hk:(ρA x).known
 ·simp[hk]at he
 ·simp only[hk,aG,ag]at he
  subst he
  obtain⟨hs,hc⟩:=kt hk (hρ x)
  obtain⟨h1,h2⟩:=hM.new hn (ρ x).cells t (.box (ρA x).cells) (λ w' m' H' e' hm hw=>⟨w.heap.size,_,t,hm,hw,hs,λ i y v hy hv=>(hc i y v hy hv).ext e'⟩)
  refine⟨_,.pointer (some ⟨w.heap.size,0,none⟩),_,_,_,?_,.inl rfl,?_,h1,h2⟩
  ·simp only[execOp,ho]
   exact fD (by simp[Instr.box,newVar,newRow])
  ·exact .ptr _ _ _ (bG _ _ _)
theorem qU (off:Nat):∀ (l:List Value) (n:Nat) (cs:Array Value),
  ((l.zipIdx n).foldl (λ cs (p:Value×Nat)=>cs.setIfInBounds (off+p.2) p.1) cs).size=cs.size /\
  ∀ k,((l.zipIdx n).foldl (λ cs (p:Value×Nat)=>cs.setIfInBounds (off+p.2) p.1) cs)[k]?=if off+n<=k/\k<off+n+l.length/\k<cs.size then l[k-(off+n)]? else cs[k]?
 | [],n,cs=>by simp;intro k h1 h2;omega
 | v :: l, n, cs => by
   simp only[List.zipIdx_cons,hX]
   obtain⟨h1,h2⟩:=qU off l (n+1) (cs.setIfInBounds (off+n) v)
   refine⟨by rw[h1];simp,λ k=>?_⟩
   rw[h2 k]
   simp only[Array.size_setIfInBounds,af]
   by_cases hk:k=off+n
   ·subst hk
    have:¬ (off+(n+1)<=off+n):=by omega
    simp only[this,false_and,if_false]
    by_cases hlt:off+n<cs.size
    ·simp[hlt]
    ·simp[hlt]
   ·by_cases hin:off+(n+1)<=k/\k<off+(n+1)+l.length/\k<cs.size
    ·have hin':off+n<=k/\k<off+n+(l.length+1)/\k<cs.size:=by omega
     rw[aE hin,aE hin']
     rw[show k-(off+n)=(k-(off+(n+1)))+1 by omega,iw]
    ·have hin':¬ (off+n<=k/\k<off+n+(l.length+1)/\k<cs.size):=by omega
     rw[aF hin,aF hin',Array.getElem?_setIfInBounds_ne (by omega)]
theorem dg {α:Type}(cs new:List α)(off:Nat)(h:off+new.length<=cs.length):(dV cs off new).length=cs.length:=by
 simp only[dV,al,aD,aL];omega
theorem hY {α:Type}(cs new:List α)(off:Nat)(h:off+new.length<=cs.length)(k:Nat) :
  (dV cs off new)[k]?=if off<=k/\k<off+new.length then new[k-off]? else cs[k]?:=by
 have hl:(cs.take off).length=off:=by simp;omega
 unfold dV
 by_cases h1:k<off
 ·rw[bJ (by omega),cS,aE h1,aF (by omega)]
 ·rw[bP (by omega),hl]
  by_cases h2:k<off+new.length
  ·rw[bJ (by omega),aE ⟨by omega,h2⟩]
  ·rw[bP (by omega),cm,aF (by omega)]
   congr 1;omega
theorem ue {places:Nat->Option (Nat×Nat)}{fs:Array Field}(hp:∀ (i:Nat) (f:Field) (n:Nat),fs[i]?=some f->fy P f.type=some n->places i=some (f.offset,n)) :
  ∀ (parts:List (Nat×Operand)) (cs:List AV) (vs:Array Value) (out:List AV),ww P fs cs (parts.map λ p=>(p.1,ρA p.2))=some out->(∀ x,Rel w K m H (ρA x) (ρ x))->vs.size=cs.length ->
   (∀ (i:Nat) (x:AV) (u:Value),cs[i]?=some x->vs[i]?=some u->Rel w K m H x u) ->
   ∃ us,Instr.fill places vs (parts.map λ p=>(p.1,ρ p.2))=some us/\us.size=out.length/\∀ (i:Nat) (x:AV) (u:Value),out[i]?=some x->us[i]?=some u->Rel w K m H x u
 | [], cs, vs, out, h, hρ, hs, hr => by
   simp only[dD,ww,ag]at h
   subst h
   exact⟨vs,rfl,hs,hr⟩
 | (i, x) :: rest, cs, vs, out, h, hρ, hs, hr => by
   simp only[bn,ww]at h
   split at h
   ·rename_i f hf
    simp only[aa]at h
    obtain⟨n,hn,h⟩:=h
    cases hb:((ρA x).known&&(ρA x).cells.length==n&&Nat.ble (f.offset+n) cs.length)
    ·simp[hb]at h
    ·simp only[hb,aG]at h
     simp only[aO,bD]at hb
     obtain⟨⟨hk,hlen⟩,hle⟩:=hb
     have hle:=aV hle
     obtain⟨hs',hc'⟩:=kt hk (hρ x)
     have hfold:=qU f.offset (ρ x).cells.toList 0 vs
     have hsz:(ρ x).cells.size=n:=by rw[hs',hlen]
     have hspl:f.offset+(ρA x).cells.length<=cs.length:=by omega
     have hfe:(ρ x).cells.zipIdx.foldl (λ cs (c,j)=>cs.setIfInBounds (f.offset+j) c) vs=((ρ x).cells.toList.zipIdx 0).foldl (λ cs (p:Value×Nat)=>cs.setIfInBounds (f.offset+p.2) p.1) vs:=by
      rw[<-kZ,Array.toList_zipIdx]
     obtain⟨us,h1,h2,h3⟩:=ue hp rest (dV cs f.offset (ρA x).cells) _ out h hρ (by rw[hfold.1,dg _ _ _ hspl];exact hs) (λ k y u hy hu=>by
      rw[hfold.2 k]at hu
      rw[hY _ _ _ hspl k]at hy
      simp only[fh,bl,hsz]at hu
      rw[hlen]at hy
      by_cases hin:f.offset<=k/\k<f.offset+n
      ·rw[aE hin]at hy
       have hkv:k<vs.size:=by omega
       rw[aE ⟨hin.1,hin.2,hkv⟩]at hu
       exact hc' _ _ _ hy (by simpa using hu)
      ·rw[aF hin]at hy
       rw[aF (by omega)]at hu
       exact hr k y u hy hu)
     refine⟨us,?_,h2,h3⟩
     simp only[bn,Instr.fill,hp i f n hf hn,hsz,ne_eq,iL,ko,Bool.false_or]
     have:¬ (f.offset+n>vs.size):=by omega
     simp only[this,ko,Bool.false_eq_true,if_false]
     rw[hfe]
     exact h1
   ·cases h
theorem Au (fs:List Field)(w:World)(hall:∀ f∈fs,∃ n,fy P f.type=some n):∃ ps:List (Nat×Nat),
  (fs.mapM λ(f:Field)=>(do pure (f.offset,<-sizeOf f.type):Sem (Nat×Nat))).run P w=.ok ps w/\ps.length=fs.length/\∀ (i:Nat) (f:Field) (n:Nat),fs[i]?=some f->fy P f.type=some n->ps[i]?=some (f.offset,n):=by
 induction fs with
 | nil=>exact⟨[],rfl,rfl,λ i f n h=>by simp at h⟩
 | cons f fs ih =>
   obtain⟨ps,h1,h2,h3⟩:=ih λ g hg=>hall g (by simp[hg])
   obtain⟨n,hn⟩:=hall f (by simp)
   simp only[fy,ac]at hn
   obtain⟨i,hi,rfl⟩:=hn
   refine⟨(f.offset,i.size)::ps,?_,by simp[h2],λ k g n hk hn=>?_⟩
   ·rw[List.mapM_cons]
    simp only[Sem.run_bind,cQ hi,Result.andThen_ok,Sem.run_pure,h1]
   ·cases k with
    | zero =>
      simp only[bp,ag]at hk
      subst hk
      simp only[fy,hi,bt,ag]at hn
      subst hn
      rfl
    | succ k=>simpa using h3 k g n (by simpa using hk) hn
end Go.VL
namespace Go.VL
variable {P:Program} {C:cd} {E:Entry} {w:World} {K:Nat->Prop} {m:Nat->Option (Option Nat)} {H:Heap} {free:Nat->Prop} {nm:Nat} {o:Oper}
 {ρ:Operand->Value} {ρA:Operand->AV} {e:Eff}
theorem Gm (hM:Mem E w K m H free)(hρ:∀ x,Rel w K m H (ρA x) (ρ x)){t:TypeId}{parts:Array (Nat×Operand)}(ho:o.op=.build t parts)(he:opE P C ρA H nm o=some e) :
  Ran P E ρ o w K m H free nm e:=by
 simp only[opE,ho]at he
 split at he
 ·rename_i fs hfs
  cases hall:(fs.toList.all λ f=>(fy P f.type).isSome)
  ·simp[hall]at he
  ·simp only[hall,aG,aa,vf,ac]at he
   obtain⟨z,⟨i,hi,zv,hz,rfl⟩,cs,hcs,he⟩:=he
   obtain⟨ps,hps,hpl,hpg⟩:=Au (P:=P) fs.toList w (λ f hf=>by
    have:=bR.1 hall f hf
    exact bM.1 this)
   obtain⟨us,h1,h2,h3⟩:=ue (P:=P) (places:=(ps.toArray[·]?)) (fs:=fs) (λ k f n hk hn=>by
    simpa using hpg k f n (by simpa using hk) hn) parts.toList _ zv.cells cs hcs hρ (by simp) (λ k x u hx hu=>by
     simp only[aQ,bw,hu,bt,ag]at hx
     subst hx
     exact .d _ _ (.v _))
   refine bW he hM (u:=.agg us) ?_ (.agg _ _ h2 h3)
   simp only[execOp,ho]
   refine fD ?_
   have hm:(fs.mapM λ(f:Field)=>(do pure (f.offset,<-sizeOf f.type):Sem (Nat×Nat))).run P w=.ok ps.toArray w:=by
    rw[Array.mapM_eq_mapM_toList]
    show(List.toArray <$> _:Sem _).run P w=_
    rw[map_eq_pure_bind]
    simp only[Sem.run_bind,hps,Result.andThen_ok,Sem.run_pure]
   simp only[Instr.build,Sem.run_bind,zeroValue,typeInfo,run_program,Result.andThen_ok,hi,Sem.run_pure,hz,run_underlying hfs,hm]
   have hl:(Array.map (λ(x:Nat×Operand)=>(match x with|(i,x)=>(i,ρ x))) parts).toList=parts.toList.map λ p=>(p.1,ρ p.2):=by simp
   rw[hl,h1]
   rfl
 ·rename_i n el hfs
  simp only[aa,vf,ac]at he
  obtain⟨sz,hsz,z,⟨i,hi,zv,hz,rfl⟩,cs,hcs,he⟩:=he
  obtain⟨us,h1,h2,h3⟩:=ue (P:=P) (places:=λ i=>some (i*sz,sz)) (fs:=Ls el n sz) (λ k f n' hk hn=>by
   unfold Ls at hk
   simp only[eV,aQ,ac]at hk
   obtain⟨j,hj,rfl⟩:=hk
   have hjk:j=k:=by
    rw[am]at hj
    obtain⟨_,hj⟩:=hj
    simpa using hj.symm
   subst hjk
   simp only at hn
   rw[hsz]at hn;cases hn;rfl) parts.toList _ zv.cells cs hcs hρ (by simp) (λ k x u hx hu=>by
    simp only[aQ,bw,hu,bt,ag]at hx
    subst hx
    exact .d _ _ (.v _))
  refine bW he hM (u:=.agg us) ?_ (.agg _ _ h2 h3)
  simp only[execOp,ho]
  refine fD ?_
  simp only[fy,ac]at hsz
  obtain⟨inf,hinf,rfl⟩:=hsz
  simp only[Instr.build,Sem.run_bind,zeroValue,typeInfo,run_program,Result.andThen_ok,hi,Sem.run_pure,hz,run_underlying hfs,cQ hinf]
  have hl:(Array.map (λ(x:Nat×Operand)=>(match x with|(i,x)=>(i,ρ x))) parts).toList=parts.toList.map λ p=>(p.1,ρ p.2):=by simp
  rw[hl,h1]
  rfl
 ·cases he
theorem Fd (hM:Mem E w K m H free){l b:Nat}{cells:List AV}(hg:H.get l=some (.box cells))(hm:m l=some (some b)):sA w K m H b 0 cells:=by
 obtain⟨b',cs,T,hm',hw,hs,hr⟩:=hM.heap l _ hg
 rw[hm]at hm'
 cases hm'
 intro i x hx
 have hlt:i<cs.size:=by rw[hs];exact(am.1 hx).1
 exact⟨cs[i],by simp[World.cell?,hw,hlt],hr i x cs[i] hx (by simp[hlt])⟩
theorem NK (hM:Mem E w K m H free){l b:Nat}{T:TypeId}{t:Ty}{xs:List t.ty}(hg:H.get l=some (.row T t xs))(hm:m l=some (some b)){i:Nat}(hi:i<xs.length)(d0:t.ty) :
  sA w K m H b (i*t.size) ((enc t (xs.getD i d0)).map .d):=by
 rcases hM.heap l _ hg with⟨hm',_⟩|⟨b',cs,hm',hw,hs,hr⟩
 ·rw[hm]at hm';cases hm'
 ·rw[hm]at hm'
  cases hm'
  intro j x hx
  simp only[aQ,ac]at hx
  obtain⟨d,hd,rfl⟩:=hx
  have hx:xs[i]?=some (xs.getD i d0):=by simp[List.getD,ai hi]
  obtain⟨v,hv,hrel⟩:=hr i _ j d hx hd
  exact⟨v,by simp[World.cell?,hw,hv],.d _ _ hrel⟩
theorem IL (hM:Mem E w K m H free)(hρ:∀ x,Rel w K m H (ρA x) (ρ x)){t:TypeId}{a:Operand}(ho:o.op=.load t a)(he:opE P C ρA H nm o=some e)(hn:e.zF) :
  Ran P E ρ o w K m H free nm e:=by
 have fin:∀ {v:AV} {p:Prop} {rd:List Nat} {b off f:Nat} {cs:List AV},ρ a=.pointer (some ⟨b,off+f,none⟩)->nz P t cs f=some v->sA w K m H b off cs->Ran P E ρ o w K m H free nm ⟨v,p,rd,[]⟩:=by
  intro v p rd b off f cs hp hpart hcs
  obtain⟨u,hu,hr⟩:=rB hpart hcs
  refine Ran.same hM (u:=u) ?_ hr
  simp only[execOp,ho]
  exact fD (by simp[Instr.loadAt,Instr.sureAddr,hp,hu])
 have hr:=hρ a
 simp only[opE,ho]at he
 split at he
 ·rename_i l f ha
  rw[ha]at hr
  split at he
  ·rename_i cells hg
   simp only[ac]at he
   obtain⟨v,hv,rfl⟩:=he
   generalize hgv:ρ a=ra at hr
   cases hr with
   | ptr _ _ b hm=>exact fin (off:=0) (by rw[hgv,cE]) hv (Fd hM hg hm)
  ·cases he
 ·rename_i l t' i f ha
  rw[ha]at hr
  split at he
  ·rename_i T t2 xs hg
   split at he
   ·rename_i ht;subst ht
    simp only[ac]at he
    obtain⟨v,hv,rfl⟩:=he
    generalize hgv:ρ a=ra at hr
    cases hr with
    | eptr _ _ _ _ b hm=>exact fin (by rw[hgv]) hv (NK hM hg hm hn _)
   ·cases he
  ·cases he
 ·rename_i ds ha
  rw[ha]at hr
  simp only[aa,eff,ag]at he
  obtain⟨v,hv,rfl⟩:=he
  generalize hgv:ρ a=ra at hr
  cases hr with
  | ip _ b off u hb hc hr =>
    refine fin (off:=off) (f:=0) (by rw[hgv];rfl) hv (λ i x hx=>?_)
    simp only[aQ,ac]at hx
    obtain⟨d,hd,rfl⟩:=hx
    exact⟨_,hc i d hd,.d _ _ (hr i d hd)⟩
 ·cases he
theorem wC {a:AV}(ha:a.cells.all AV.one=true):a.known=true:=by
 cases a with
 | dead=>simp[AV.cells,AV.one]at ha
 | d x =>
   cases x with
   | v x=>cases x<;>first|rfl|(simp[AV.cells,AV.one]at ha)
   | _=>rfl
 | _=>rfl
theorem vm {t:TypeId}{n b off:Nat}{v:Value}{cs:Array Value}{T:TypeId}(hsz:fy P t=some n)(hv:v.cells.size=n)(hone:∀ u∈v.cells.toList,u.oneCell'=true)
  (hw:w.heap[b]?=some (.cells cs T (0,0))) (hle:off+n<=cs.size) :
  (storeVar t ⟨b,off,none⟩ v).run P w=.ok () (w.setRow b (dV cs.toList off v.cells.toList).toArray):=by
 simp only[fy,ac]at hsz
 obtain⟨i,hi,rfl⟩:=hsz
 have hst:=run_storeCells_at P b off T v.cells.toList 0 cs w hw (by simpa[hv]using hle) hone
 unfold storeVar
 simp only[Sem.run_bind,cQ hi,Result.andThen_ok,hv,ne_eq,iL,if_false,hst]
 simp[dV,bk]
def KF (K:Nat->Prop)(m:Nat->Option (Option Nat))(fz:List Nat):Nat->Prop:=λ b=>K b\/∃ l,l∈fz/\m l=some (some b)
theorem RelD.slrel {t:Ty}{xs:List t.ty}{K':Nat->Prop}{rd:List Nat}{a:Option Addr}{n cap:Nat}(h:SlRel w K m H rd t xs a n cap)(hK:∀ b,KF K m rd b->K' b):RelD w K' (.sl t xs) (.slice a n cap):=by
 obtain⟨rfl,hcap,haddr⟩:=h
 by_cases hx:xs=[]
 ·subst hx;exact .sl0 t a cap
 ·obtain⟨b,off,rfl,hb,hr⟩:=haddr hx
  have hKb:K' b:=hK b hb
  have hch:∃ u:Nat->Nat->Value,∀ i x j d,xs[i]?=some x->(enc t x)[j]?=some d->w.cell? ⟨b,off+(i*t.size+j),none⟩=some (u i j)/\RelD w K d (u i j):=by
   refine⟨λ i j=>(w.cell? ⟨b,off+(i*t.size+j),none⟩).getD undef,λ i x j d hx hd=>?_⟩
   obtain⟨u,hu,hrel⟩:=hr i x j d hx hd
   exact⟨by simp[hu],by simpa[hu]using hrel⟩
  obtain⟨u,hu⟩:=hch
  exact .sl t xs b off cap u hKb hcap (λ i x j d hx hd=>(hu i x j d hx hd).1) (λ i x j d hx hd=>((hu i x j d hx hd).2).ext (λ b hb=>hK b (.inl hb)) (λ _ _=>rfl))
theorem Dm (hM:Mem E w K m H free){a:AV}{d:D}{p:Prop}{fz:List Nat}(ha:a.toD H=some (d,p,fz))(hp:p){v:Value}(h:Rel w K m H a v) :
  RelD w (KF K m fz) d v/\∀ l∈fz,∃ blk,H.get l=some blk:=by
 have viaS:∀ {t:Ty} (s:Sls t),a.sls H t=some s->s.zF->s.rd=fz->d=.sl t s.xs->RelD w (KF K m fz) d v:=by
  intro t s hs hn hrd hd
  obtain⟨ad,n,cap,rfl,hsl⟩:=lk hM hs hn h
  subst hrd;subst hd
  exact RelD.slrel hsl (λ _ h=>h)
 cases a with
 | d x =>
   simp only[AV.toD,ag,bB]at ha
   obtain⟨rfl,_,rfl⟩:=ha
   cases h with
   | d _ _ h=>exact⟨h.ext (λ b hb=>.inl hb) (λ _ _=>rfl),λ l hl=>by simp at hl⟩
 | fl t xs =>
   simp only[AV.toD,ag,bB]at ha
   obtain⟨rfl,_,rfl⟩:=ha
   exact⟨viaS (t:=t) ⟨xs,True,[]⟩ (by simp[AV.sls]) trivial rfl rfl,λ l hl=>by simp at hl⟩
 | own l t =>
   simp only[AV.toD]at ha
   split at ha
   ·rename_i T t' xs hg
    split at ha
    ·rename_i ht;subst ht
     simp only[ag,bB]at ha
     obtain⟨rfl,_,rfl⟩:=ha
     exact⟨viaS (t:=t') ⟨xs,True,[l]⟩ (by simp[AV.sls,hg]) trivial rfl rfl,λ k hk=>by simp at hk;subst hk;exact⟨_,hg⟩⟩
    ·cases ha
   ·cases ha
 | view l t off len =>
   simp only[AV.toD]at ha
   split at ha
   ·rename_i T t' xs hg
    split at ha
    ·rename_i ht;subst ht
     simp only[ag,bB]at ha
     obtain⟨rfl,rfl,rfl⟩:=ha
     exact⟨viaS (t:=t') ⟨(xs.drop off).take len,off+len<=xs.length,[l]⟩ (by simp[AV.sls,hg]) hp rfl rfl,λ k hk=>by simp at hk;subst hk;exact⟨_,hg⟩⟩
    ·cases ha
   ·cases ha
 | _=>simp[AV.toD]at ha
theorem px (hM:Mem E w K m H free):∀ {as:List AV} {ds:List D} {p:Prop} {fz:List Nat},oW H as=some (ds,p,fz)->p->∀ {vs:Array Value},vs.size=as.length ->
  (∀ (i:Nat) (a:AV) (v:Value),as[i]?=some a->vs[i]?=some v->Rel w K m H a v) ->
  ds.length=as.length/\(∀ (i:Nat) (d:D) (v:Value),ds[i]?=some d->vs[i]?=some v->RelD w (KF K m fz) d v)/\∀ l∈fz,∃ blk,H.get l=some blk
 | [], ds, p, fz, h, hp, vs, hs, hr => by
   simp only[oW,ag,bB]at h
   obtain⟨rfl,_,rfl⟩:=h
   exact⟨rfl,λ i d v h=>by simp at h,λ l hl=>by simp at hl⟩
 | a :: as, ds, p, fz, h, hp, vs, hs, hr => by
   simp only[oW,aa,ac,Prod.exists]at h
   obtain⟨d,p1,l1,h1,ds',p2,l2,h2,h3⟩:=h
   simp only[bB]at h3
   obtain⟨rfl,rfl,rfl⟩:=h3
   have hv0:vs[0]?=some (vs[0]'(by simp at hs;omega)):=by simp at hs;simp[show 0<vs.size by omega]
   obtain⟨hd,hl1⟩:=Dm hM h1 hp.1 (hr 0 a _ (by simp) hv0)
   obtain⟨hlen,hrest,hl2⟩:=px hM h2 hp.2 (vs:=vs.extract 1 vs.size) (by simp at hs ⊢;omega) (λ i b v hb hv=>by
    refine hr (i+1) b v (by simpa using hb) ?_
    rw[cY]at hv
    split at hv
    ·rw[<-hv];congr 1;omega
    ·cases hv)
   refine⟨by simp[hlen],λ i d' v hd' hv=>?_,λ l hl=>?_⟩
   ·cases i with
    | zero =>
      simp only[bp,ag]at hd'
      subst hd'
      rw[hv0]at hv;simp only[ag]at hv;subst hv
      exact hd.ext (λ b hb=>by rcases hb with hb|⟨l,hl,hm⟩;exact .inl hb;exact .inr ⟨l,by simp[hl],hm⟩) (λ _ _=>rfl)
    | succ i =>
      refine(hrest i d' v (by simpa using hd') ?_).ext (λ b hb=>by rcases hb with hb|⟨l,hl,hm⟩;exact .inl hb;exact .inr ⟨l,by simp[hl],hm⟩) (λ _ _=>rfl)
      rw[cY]
      have:i+1<vs.size:=(ct.1 hv).1
      rw[aE (by omega),<-hv];congr 1;omega
   ·rcases az.1 hl with hl|hl
    ·exact hl1 l hl
    ·exact hl2 l hl
theorem Mem.give (h:Mem E w K m H free)(l:Nat):∃ K',Mem E w K' m (H.put l none) free/\Ext w K m H w K' m (H.put l none)/\∀ b blk,H.get l=some blk->m l=some (some b)->K' b:=by
 cases hg:H.get l with
 | none=>exact⟨K,h.del l,Ext.del w K m H l,λ b blk hb=>by simp at hb⟩
 | some blk =>
   cases hm:m l with
   | none=>exact⟨K,h.del l,Ext.del w K m H l,λ b blk hb hmb=>by simp at hmb⟩
   | some x =>
     cases x with
     | none=>exact⟨K,h.del l,Ext.del w K m H l,λ b blk hb hmb=>by simp at hmb⟩
     | some b =>
       obtain⟨h1,h2⟩:=h.freeze hg hm
       exact⟨_,h1,h2,λ b' blk' hb hmb=>by simp at hmb;exact .inr hmb.symm⟩
theorem Mem.gives:∀ (fz:List Nat) {K:Nat->Prop} {H:Heap},Mem E w K m H free->∃ K',Mem E w K' m (H.app (fz.map λ k=>(k,none))) free/\Ext w K m H w K' m (H.app (fz.map λ k=>(k,none))) /\
  ∀ l∈fz,∀ b blk,H.get l=some blk->m l=some (some b)->K' b
 | [],K,H,h=>⟨K,h,Ext.refl w K m H,λ l hl=>by simp at hl⟩
 | l :: fz, K, H, h => by
   obtain⟨K1,h1,e1,hk1⟩:=h.give l
   obtain⟨K2,h2,e2,hk2⟩:=Mem.gives fz h1
   refine⟨K2,h2,e1.trans e2,λ k hk b blk hb hm=>?_⟩
   by_cases hkl:k=l
   ·subst hkl;exact e2.hK b (hk1 b blk hb hm)
   ·rcases aB.1 hk with hk|hk
    ·exact absurd hk hkl
    ·exact hk2 k hk b blk (by rw[Heap.get_put _ hkl];exact hb) hm
theorem Heap.app_get_gone:∀ (fz:List Nat) (H:Heap) {l:Nat},(∀ k∈fz,k≠l)->(H.app (fz.map λ k=>(k,none))).get l=H.get l
 | [],H,l,_=>rfl
 | k :: fz, H, l, h => by
   show(Heap.app (H.put k none) (fz.map λ k=>(k,none))).get l=H.get l
   rw[Heap.app_get_gone fz (H.put k none) (λ j hj=>h j (by simp[hj])),Heap.get_put _ (λ e=>h k (by simp) e.symm)]
theorem mj {fz:List Nat}{K':Nat->Prop}(hK:∀ b,K b->K' b)(hl:∀ l∈fz,∃ blk,H.get l=some blk)(hk:∀ l∈fz,∀ b blk,H.get l=some blk->m l=some (some b)->K' b) :
  ∀ b,KF K m fz b->K' b:=by
 rintro b (hb|⟨l,hlf,hm⟩)
 ·exact hK b hb
 ·obtain⟨blk,hg⟩:=hl l hlf
  exact hk l hlf b blk hg hm
theorem Les.get {as bs:List D}(h:Les as bs):as.length=bs.length/\∀ (i:Nat) (a b:D),as[i]?=some a->bs[i]?=some b->a.le b:=by
 induction h with
 | nil=>exact⟨rfl,λ i a b h=>by simp at h⟩
 | cons hab _ ih =>
   refine⟨by simp[ih.1],λ i x y hx hy=>?_⟩
   cases i with
   | zero=>simp at hx hy;subst hx;subst hy;exact hab
   | succ i=>exact ih.2 i x y (by simpa using hx) (by simpa using hy)
theorem Gg (hM:Mem E w K m H free)(hρ:∀ x,Rel w K m H (ρA x) (ρ x)){t:TypeId}{a x:Operand}(ho:o.op=.store t a x)(he:opE P C ρA H nm o=some e)(hn:e.zF) :
  Ran P E ρ o w K m H free nm e:=by
 have hr:=hρ a
 simp only[opE,ho]at he
 split at he
 ·rename_i n l f hsz ha
  rw[ha]at hr
  split at he
  ·rename_i cells hg
   cases hb:((ρA x).cells.length==n&&Nat.ble (f+n) cells.length&&(ρA x).cells.all AV.one)
   ·simp[hb]at he
   ·simp only[hb,aG,ag]at he
    subst he
    simp only[aO,bD]at hb
    obtain⟨⟨hlen,hle⟩,hone⟩:=hb
    have hle:=aV hle
    generalize hgv:ρ a=ra at hr
    cases hr with
    | ptr _ _ b hm=>
    obtain⟨b',cs,T,hm',hw,hs,hrel⟩:=hM.heap l _ hg
    rw[hm]at hm';cases hm'
    obtain⟨hxs,hxc⟩:=kt (wC hone) (hρ x)
    have hxone:∀ u∈(ρ x).cells.toList,u.oneCell'=true:=by
     intro u hu
     obtain⟨i,hi,rfl⟩:=dJ hu
     have hil:i<(ρA x).cells.length:=by rw[<-hxs];simpa using hi
     exact AV.one_rel (bR.1 hone _ (aN hil)) (hxc i _ _ (ai hil) (by rw[<-bw];exact ai hi))
    have hrun:=vm (P:=P) (w:=w) (off:=f) hsz (by rw[hxs,hlen]) hxone hw (by omega)
    have hspl:f+(ρ x).cells.toList.length<=cs.toList.length:=by simp[hxs,hlen];omega
    obtain⟨h1,h2⟩:=hM.write hg hm (blk:=.box (dV cells f (ρA x).cells)) (w':=w.setRow b (dV cs.toList f (ρ x).cells.toList).toArray) (cs':=(dV cs.toList f (ρ x).cells.toList).toArray) hw (setRow_heap w b cs _ T _ hw) (by rw[cx,dg _ _ _ hspl,bl])
     (λ k hk=>setRow_other w b k _ hk) ⟨rfl,rfl,rfl,by simp⟩ (λ T' t' xs hx=>by cases hx)
     (λ H' e'=>⟨b,(dV cs.toList f (ρ x).cells.toList).toArray,T,hm,setRow_heap w b cs _ T _ hw,by rw[cx,dg _ _ _ hspl,dg _ _ _ (by omega),bl];exact hs,λ i y v hy hv=>by
      rw[eV,hY _ _ _ hspl]at hv
      rw[hY _ _ _ (by omega)]at hy
      simp only[bl,hxs]at hv
      by_cases hin:f<=i/\i<f+(ρA x).cells.length
      ·rw[aE hin]at hv hy
       exact(hxc _ _ _ hy (by simpa using hv)).ext e'
      ·rw[aF hin]at hv hy
       exact(hrel i y v hy (by simpa using hv)).ext e'⟩)
    refine⟨_,undef,_,_,_,?_,.inr ⟨rfl,rfl⟩,.dead _,h1.weaken (λ _ hl=>hl.1),h2⟩
    simp only[execOp,ho]
    exact Iw (by simp[Instr.storeAt,Instr.sureAddr,hgv,hrun])
  ·cases he
 ·rename_i n l t' i f hsz ha
  rw[ha]at hr
  split at he
  ·rename_i T t2 xs hg
   split at he
   ·rename_i ht;subst ht
    simp only[aa,Prod.exists]at he
    obtain⟨ds,p,fz,hds,he⟩:=he
    cases hb:(ds.length==n&&Nat.ble (f+n) t'.size&&(ρA x).cells.all AV.one&&fz.all (· != l))
    ·simp[hb]at he
    ·simp only[hb,aG,ac]at he
     obtain⟨y,hy,rfl⟩:=he
     simp only[aO,bD]at hb
     obtain⟨⟨⟨hlen,hle⟩,hone⟩,hnl⟩:=hb
     have hle:=aV hle
     obtain⟨hi,hp⟩:=hn
     generalize hgv:ρ a=ra at hr
     cases hr with
     | eptr _ _ _ _ b hm=>
     rcases hM.heap l _ hg with⟨hm',_⟩|⟨b',cs,hm',hw,hs,hrel⟩
     ·rw[hm]at hm';cases hm'
     rw[hm]at hm';cases hm'
     obtain⟨hxs,hxc⟩:=kt (wC hone) (hρ x)
     obtain⟨hdl,hdr,hdf⟩:=px hM hds hp hxs hxc
     have hxone:∀ u∈(ρ x).cells.toList,u.oneCell'=true:=by
      intro u hu
      obtain⟨i,hi,rfl⟩:=dJ hu
      have hil:i<(ρA x).cells.length:=by rw[<-hxs];simpa using hi
      exact AV.one_rel (bR.1 hone _ (aN hil)) (hxc i _ _ (ai hil) (by rw[<-bw];exact ai hi))
     have hbound:i*t'.size+t'.size<=cs.size:=by
      calc i*t'.size+t'.size=(i+1)*t'.size:=by rw[bA,eA]
       _<=xs.length*t'.size:=aC _ hi
       _<=cs.size:=hs
     have hrun:=vm (P:=P) (w:=w) (off:=i*t'.size+f) hsz (by rw[hxs,<-hdl,hlen]) hxone hw (by omega)
     have hspl:i*t'.size+f+(ρ x).cells.toList.length<=cs.toList.length:=by simp[hxs,<-hdl,hlen];omega
     have hx0:xs[i]?=some (xs.getD i t'.dflt):=by simp[List.getD,ai hi]
     have hspd:f+ds.length<=(enc t' (xs.getD i t'.dflt)).length:=by rw[bY];omega
     obtain⟨hll,hlg⟩:=(ye hy).get
     obtain⟨K1,h1,e1,hk1⟩:=Mem.gives fz hM
     have hlf:∀ k∈fz,k≠l:=λ k hk=>by simpa using bR.1 hnl k hk
     have hg1:(H.app (fz.map λ k=>(k,none))).get l=some (.row T t' xs):=by rw[Heap.app_get_gone fz H hlf];exact hg
     have hKF:=mj e1.hK hdf hk1
     let ncs:=(dV cs.toList (i*t'.size+f) (ρ x).cells.toList).toArray
     obtain⟨h2,e2⟩:=h1.write hg1 hm (blk:=.row T t' (xs.set i y)) (w':=w.setRow b ncs) (cs':=ncs) hw (setRow_heap w b cs ncs T _ hw)
      (by simp only[ncs];rw[cx,dg _ _ _ hspl,bl]) (λ k hk=>setRow_other w b k _ hk) ⟨rfl,rfl,rfl,by simp⟩
      (λ T' t2 ys hx=>by cases hx;exact⟨xs,rfl,by simp⟩)
      (λ H' e'=>by
       refine .inr ⟨b,ncs,hm,setRow_heap w b cs ncs T _ hw,by simp only[ncs];rw[cx,dg _ _ _ hspl,co,bl];exact hs,λ k z j d hz hd=>?_⟩
       have hjs:j<t'.size:=by have:=(am.1 hd).1;rw[bY]at this;exact this
       simp only[ncs,eV]
       rw[hY _ _ _ hspl]
       simp only[bl,hxs,<-hdl]
       rw[aP]at hz
       by_cases hki:i=k
       ·subst hki
        rw[aE rfl,aE hi]at hz
        simp only[ag]at hz
        subst hz
        have hspg:=hY _ _ _ hspd j
        by_cases hin:f<=j/\j<f+ds.length
        ·rw[aE (by omega),show i*t'.size+j-(i*t'.size+f)=j-f by omega]
         rw[aE hin]at hspg
         have hjd:j-f<ds.length:=by omega
         have hv:(ρ x).cells.toList[j-f]?=some ((ρ x).cells.toList[j-f]'(by simp[hxs,<-hdl];exact hjd)):=ai _
         refine⟨_,hv,?_⟩
         have hle1:=hlg j _ d (by rw[hspg];exact ai hjd) hd
         refine RelD.le hle1 ?_
         exact(hdr (j-f) _ _ (ai hjd) (by rw[<-bw];exact hv)).ext (λ b hb=>e'.hK b (hKF b hb)) (λ b2 hb2=>e'.keep b2 (hKF b2 hb2))
        ·rw[aF (by omega)]
         rw[aF hin]at hspg
         have hjl:j<(enc t' (xs.getD i t'.dflt)).length:=by rw[bY];exact hjs
         obtain⟨v,hv,hrl⟩:=hrel i _ j _ hx0 (ai hjl)
         refine⟨v,by simpa using hv,?_⟩
         have hle1:=hlg j _ d (by rw[hspg];exact ai hjl) hd
         exact RelD.le hle1 (hrl.ext (λ b hb=>e'.hK b (e1.hK b hb)) (λ b2 hb2=>e'.keep b2 (e1.hK b2 hb2)))
       ·rw[aF hki]at hz
        obtain⟨v,hv,hrl⟩:=hrel k z j d hz hd
        have hout:¬ (i*t'.size+f<=k*t'.size+j/\k*t'.size+j<i*t'.size+f+ds.length):=by
         rcases ax k i with h|h
         ·have:k*t'.size+t'.size<=i*t'.size:=by
           calc k*t'.size+t'.size=(k+1)*t'.size:=by rw[bA,eA]
            _<=i*t'.size:=aC _ h
          omega
         ·have:i*t'.size+t'.size<=k*t'.size:=by
           calc i*t'.size+t'.size=(i+1)*t'.size:=by rw[bA,eA]
            _<=k*t'.size:=aC _ (by omega)
          omega
        rw[aF hout]
        exact⟨v,by simpa using hv,hrl.ext (λ b hb=>e'.hK b (e1.hK b hb)) (λ b2 hb2=>e'.keep b2 (e1.hK b2 hb2))⟩)
     have happ:H.app ((fz.map λ k=>(k,none))++[(l,some (.row T t' (xs.set i y)))])=(H.app (fz.map λ k=>(k,none))).put l (some (.row T t' (xs.set i y))):=by simp[Heap.app]
     refine⟨_,undef,w.setRow b ncs,K1,m,?_,.inr ⟨rfl,rfl⟩,.dead _,?_,?_⟩
     ·simp only[execOp,ho]
      exact Iw (by simp[Instr.storeAt,Instr.sureAddr,hgv,hrun];rfl)
     ·simp only[happ];exact h2.weaken (λ _ hl=>hl.1)
     ·simp only[happ];exact e1.trans e2
   ·cases he
  ·cases he
 ·cases he
end Go.VL
namespace Go.VL
variable {P:Program} {C:cd} {E:Entry} {w:World} {K:Nat->Prop} {m:Nat->Option (Option Nat)} {H:Heap} {free:Nat->Prop} {nm:Nat} {o:Oper}
 {ρ:Operand->Value} {ρA:Operand->AV} {e:Eff}
theorem xg (hM:Mem E w K m H free)(hρ:∀ x,Rel w K m H (ρA x) (ρ x)){x:Operand}(ho:o.op=.nilCheck x)(he:opE P C ρA H nm o=some e):Ran P E ρ o w K m H free nm e:=by
 have hr:=hρ x
 simp only[opE,ho]at he
 have key:∀ {u:Value},ρ x=u->(∃ a,u=.pointer (some a))\/(∃ f us vs,u=.func (.func f) us vs)->(execOp ρ o).run P w=.ok (.value u) w:=by
  intro u hu h
  rcases h with⟨a,rfl⟩|⟨f,us,vs,rfl⟩<;>simp[execOp,ho,hu]
 split at he
 ·rename_i ha;rw[ha]at hr he
  generalize hgv:ρ x=ra at hr
  cases hr with|ptr _ _ b hm=>exact bW he hM (key hgv (.inl ⟨_,rfl⟩)) (.ptr _ _ _ hm)
 ·rename_i ha;rw[ha]at hr he
  generalize hgv:ρ x=ra at hr
  cases hr with|eptr _ _ _ _ b hm=>exact bW he hM (key hgv (.inl ⟨_,rfl⟩)) (.eptr _ _ _ _ _ hm)
 ·rename_i ha;rw[ha]at hr he
  generalize hgv:ρ x=ra at hr
  cases hr with|ip _ b off u hb hc hr=>exact bW he hM (key hgv (.inl ⟨_,rfl⟩)) (.ip _ _ _ _ hb hc hr)
 ·rename_i f fs cs ha;rw[ha]at hr
  generalize hgv:ρ x=ra at hr
  cases hr with|clo _ _ _ us vs hf hl h1 h2=>exact bW he hM (key hgv (.inr ⟨_,_,_,rfl⟩)) (.clo _ _ _ _ _ hf hl h1 h2)
 ·cases he
theorem Al {x y:Nat}(h:nanBits x):FloatKind.f64.format.order x y=none:=by
 unfold nanBits at h
 unfold Ieee.Format.order Ieee.Datum.order
 generalize FloatKind.f64.format.read x=a at h
 cases a<;>first|rfl|(simp[Ieee.Datum.isNaN]at h)
theorem Ak {x y:Nat}(h:nanBits y):FloatKind.f64.format.order x y=none:=by
 unfold nanBits at h
 unfold Ieee.Format.order Ieee.Datum.order
 generalize FloatKind.f64.format.read y=a at h
 generalize FloatKind.f64.format.read x=b
 cases a<;>first|(cases b<;>rfl)|(simp[Ieee.Datum.isNaN]at h)
theorem Qj {a b:Fl}{x y:Nat}(ha:ud a x)(hb:ud b y):FloatKind.f64.format.order x y=Fl.cmp a b:=by
 cases a with
 | none=>simp only[Fl.cmp,Option.bind_none];exact Al ha
 | some r =>
   cases b with
   | none=>simp only[Fl.cmp,aA,Option.bind_none];exact Ak hb
   | some s=>simp only[ud]at ha hb;subst ha;subst hb;rfl
theorem uS (q:Nat):nanBits ((q%2)*2^63+0x7ff0000000000000+1+(q/2)%(2^52-1)):=by
 unfold nanBits
 have h1:FloatKind.f64.format.signWeight=9223372036854775808:=by decide
 have h2:FloatKind.f64.format.binade=4503599627370496:=by decide
 have h3:FloatKind.f64.format.infRung=9218868437227405312:=by decide
 simp only[Ieee.Format.read,h1,h2,h3]
 generalize hw:(q%2)*2^63+0x7ff0000000000000+1+(q/2)%(2^52-1)=x
 have h4:9218868437227405312<x%9223372036854775808:=by
  rcases Nat.mod_two_eq_zero_or_one q with h|h<;>rw[h]at hw<;>omega
 rw[aF (by omega),aF (by omega),aF (by omega)]
 rfl
theorem FR {a b:Ieee.Datum}(h:a.isNaN=true):a.sum b=none:=by cases a<;>first|rfl|(simp[Ieee.Datum.isNaN]at h)
theorem vl {a b:Ieee.Datum}(h:b.isNaN=true):a.sum b=none:=by cases b<;>first|(cases a<;>rfl)|(simp[Ieee.Datum.isNaN]at h)
theorem uQ {a b:Ieee.Datum}(h:a.isNaN=true):a.product b=none:=by cases a<;>first|rfl|(simp[Ieee.Datum.isNaN]at h)
theorem uP {a b:Ieee.Datum}(h:b.isNaN=true):a.product b=none:=by cases b<;>first|(cases a<;>rfl)|(simp[Ieee.Datum.isNaN]at h)
theorem td {n:Nat}{a b:Ieee.Datum}(h:a.isNaN=true):a.quotient n b=none:=by cases a<;>first|rfl|(simp[Ieee.Datum.isNaN]at h)
theorem tc {n:Nat}{a b:Ieee.Datum}(h:b.isNaN=true):a.quotient n b=none:=by cases b<;>first|(cases a<;>rfl)|(simp[Ieee.Datum.isNaN]at h)
theorem MI {a:Ieee.Datum}(h:a.isNaN=true):a.opposite.isNaN=true:=by cases a<;>first|rfl|(simp[Ieee.Datum.isNaN]at h)
def kA (op:BinOp)(x y:Nat):Option Nat:=match op with
 | .add=>FloatKind.f64.format.add x y
 | .sub=>FloatKind.f64.format.sub x y
 | .mul=>FloatKind.f64.format.mul x y
 | .quo=>FloatKind.f64.format.div x y
 | _=>none
theorem Ge {op:BinOp}{x y:Nat}(h:nanBits x):kA op x y=none:=by
 unfold nanBits at h
 cases op<;>simp only[kA,Ieee.Format.add,Ieee.Format.sub,Ieee.Format.mul,Ieee.Format.div,FR h,uQ h,td h,mZ]
theorem Gb {op:BinOp}{x y:Nat}(h:nanBits y):kA op x y=none:=by
 unfold nanBits at h
 cases op<;>simp only[kA,Ieee.Format.add,Ieee.Format.sub,Ieee.Format.mul,Ieee.Format.div,vl h,vl (MI h),uP h,tc h,mZ]
theorem Lu {op:BinOp}{a b:Fl}{x y:Nat}(ha:ud a x)(hb:ud b y):kA op x y=Fl.arith op a b:=by
 cases a with
 | none=>rw[Ge ha];rfl
 | some r =>
   cases b with
   | none=>rw[Gb hb];rfl
   | some s=>simp only[ud]at ha hb;subst ha;subst hb;cases op<;>rfl
theorem sT {op:BinOp}(hop:op=.add\/op=.sub\/op=.mul\/op=.quo)(x y:Nat)(w:World) :
  ∃ b n,(Op.floatArith op .f64 x y).run P w=.ok (.float .f64 b) (w.drewN n)/\ud (kA op x y) b:=by
 have fin:∀ (r:Option Nat),∃ b n,((match r with|some r=>(pure (.float .f64 r):Sem Value)|none=>do pure (.float .f64 (<-choose (.nanBits .f64 x y)))):Sem Value).run P w=.ok (.float .f64 b) (w.drewN n)/\ud r b:=by
  intro r
  cases r with
  | some r=>exact⟨r,0,rfl,rfl⟩
  | none=>exact⟨_,1,rfl,uS _⟩
 rcases hop with rfl|rfl|rfl|rfl<;>(simp only[Op.floatArith,Sem.run_bind,Sem.run_pure,Result.andThen_ok,kA];exact fin _)
theorem Ext.drewN (w:World)(K:Nat->Prop)(m:Nat->Option (Option Nat))(H:Heap)(n:Nat):Ext w K m H (w.drewN n) K m H:=
 ⟨λ _ h=>h,λ _ _=>rfl,λ _ _ h=>h,λ _ _ h=>h,λ _ _ _ xs _ h=>⟨xs,h,rfl⟩⟩
theorem Mem.drewN (h:Mem E w K m H free)(n:Nat):Mem E (w.drewN n) K m H free:=
 { os := h.os, tape := h.tape, output := h.output, size := h.size, keep := h.keep, Kmono := h.Kmono, Klt := h.Klt, Knew := h.Knew, mold := h.mold, mnew := h.mnew, mlt := h.mlt,
   mfree:=h.mfree,fnew:=h.fnew,heap:=λ l blk hl=>(h.heap l blk hl).ext (Ext.drewN w K m H n) (λ _ _=>rfl),
   own:=h.own,inj:=h.inj,shape:=h.shape,frozen:=h.frozen,gok:=h.gok.ext (λ _ h=>h) (λ _ _=>rfl) }
theorem Ran.sameN {nm:Nat}{v:AV}{p:Prop}{rd:List Nat}(hM:Mem E w K m H free){u:Value}{n:Nat}
  (hr:(execOp ρ o).run P w=.ok (.value u) (w.drewN n)) (h:Rel (w.drewN n) K m H v u):Ran P E ρ o w K m H free nm ⟨v,p,rd,[]⟩:=
 ⟨_,u,w.drewN n,K,m,hr,.inl rfl,h,(hM.drewN n).weaken (λ _ hl=>hl.1),Ext.drewN w K m H n⟩
theorem AM {op:BinOp}{t:TypeId}{x y:Operand}{a b:Value}(h1:a≠.nilIface)(h2:∀ cs,a≠.agg cs)(w:World):(eqGuard op t x y a b).run P w=.ok () w:=by
 unfold eqGuard
 cases op<;>first|rfl|(simp only[];cases a<;>first|rfl|(exact absurd rfl h1)|(exact absurd rfl (h2 _))|(cases b<;>rfl))
theorem se {op:BinOp}{t yt:TypeId}{x y:Operand}{u:Value}{w':World}(ho:o.op=.binOp op t x y yt)(h1:ρ x≠.nilIface)(h2:∀ cs,ρ x≠.agg cs)
  (h:(binOp op t (ρ x) (ρ y)).run P w=.ok u w'):(execOp ρ o).run P w=.ok (.value u) w':=by
 simp only[execOp,ho,Sem.run_bind,AM h1 h2,Result.andThen_ok,h,Sem.run_pure]
theorem IM (hM:Mem E w K m H free)(hρ:∀ x,Rel w K m H (ρA x) (ρ x)){op:BinOp}{t yt:TypeId}{x y:Operand}(ho:o.op=.binOp op t x y yt)(he:NL P op t (ρA x) (ρA y)=some e)(hn:e.zF) :
  Ran P E ρ o w K m H free nm e:=by
 have hx:=hρ x
 have hy:=hρ y
 unfold NL at he
 split at he
 ·rename_i a b ha hb
  obtain⟨xa,ex,hxa⟩:=uc ha hx
  obtain⟨xb,ey,hxb⟩:=uc hb hy
  have hrb:=λ(u:Value) (w':World) (h:(binOp op t (ρ x) (ρ y)).run P w=.ok u w')=>se (P:=P) (w:=w) ho (by rw[ex];simp) (by rw[ex];simp) h
  rw[ex,ey]at hrb
  have arith:∀ (hop:op=.add\/op=.sub\/op=.mul\/op=.quo),eff (.d (.f (Fl.arith op a b)))=some e->Ran P E ρ o w K m H free nm e:=by
   intro hop he
   simp only[eff,ag]at he
   subst he
   obtain⟨b',n,hr,hok⟩:=sT (P:=P) hop xa xb w
   refine Ran.sameN hM (n:=n) (hrb _ _ ?_) (.d _ _ (.f _ _ (by rw[<-Lu hxa hxb];exact hok)))
   rcases hop with rfl|rfl|rfl|rfl<;>simpa[binOp]using hr
  have test:(Fl.test op a b).bind (λ r=>eff (.ofV (.bool r)))=some e->Ran P E ρ o w K m H free nm e:=by
   intro he
   simp only[aa]at he
   obtain⟨r,hr,he⟩:=he
   refine bW he hM (hrb (.bool r) w ?_) (.d _ _ (.v _))
   have hc:=Qj hxa hxb
   cases op<;>simp only[Fl.test,ag,reduceCtorEq]at hr<;>(subst hr;simp[binOp,Op.floatCmp,hc])
  split at he
  ·exact arith (by simp) he
  ·exact arith (by simp) he
  ·exact arith (by simp) he
  ·exact arith (by simp) he
  ·exact test he
 ·split at he
  ·rename_i k a k' b ha hb
   rw[ha]at hx;rw[hb]at hy
   have ex:=cw hx
   have ey:=cw hy
   have hrb:=λ(u:Value) (w':World) (h:(binOp op t (ρ x) (ρ y)).run P w=.ok u w')=>se (P:=P) (w:=w) ho (by rw[ex];simp) (by rw[ex];simp) h
   rw[ex,ey]at hrb
   split at he
   ·split at he
    ·rename_i hk;subst hk
     simp only[ag]at he;subst he
     exact Ran.same hM (hrb _ _ (by simp only[ne_eq]at hn;simp[binOp,Op.intDiv,hn])) (.d _ _ (.v _))
    ·cases he
   ·split at he
    ·rename_i hk;subst hk
     simp only[ag]at he;subst he
     exact Ran.same hM (hrb _ _ (by simp only[ne_eq]at hn;simp[binOp,Op.intDiv,hn])) (.d _ _ (.v _))
    ·cases he
   ·simp only[ag]at he;subst he
    exact Ran.same hM (hrb _ _ (by simp only at hn;have:¬ b<0:=(by omega);simp[binOp,Op.shift,this])) (.d _ _ (.v _))
   ·simp only[ag]at he;subst he
    exact Ran.same hM (hrb _ _ (by simp only at hn;have:¬ b<0:=(by omega);simp[binOp,Op.shift,this])) (.d _ _ (.v _))
   ·simp only[aa]at he
    obtain⟨r,hr,he⟩:=he
    exact bW he hM (hrb _ _ (xl hr w)) (.d _ _ (.v _))
  ·rename_i a b _ ha hb
   rw[ha]at hx;rw[hb]at hy
   have ex:=cw hx
   have ey:=cw hy
   have fin:(pur P (binOp op t a b)).bind (λ r=>eff (.ofV r))=some e->ρ x≠.nilIface->(∀ cs,ρ x≠.agg cs)->Ran P E ρ o w K m H free nm e:=by
    intro he h1 h2
    simp only[aa]at he
    obtain⟨r,hr,he⟩:=he
    exact bW he hM (se ho h1 h2 (by rw[ex,ey];exact xl hr w)) (.d _ _ (.v _))
   split at he
   ·exact fin he (by rw[ex];simp) (by rw[ex];simp)
   ·exact fin he (by rw[ex];simp) (by rw[ex];simp)
   ·exact fin he (by rw[ex];simp) (by rw[ex];simp)
   ·cases he
  ·cases he
end Go.VL
