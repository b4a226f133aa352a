/- Own work: part WA of the proof. -/
import GoSem.Core.World
import Derived.WalkKit
import Derived.Orders
import Derived.Deep.Draws
set_option linter.unusedVariables false
set_option linter.unusedSimpArgs false
namespace Go
abbrev w64 (n:Int):Int:=IntKind.i64.wrap n
abbrev aa:=@Option.bind_eq_some_iff
abbrev ac:=@Nat.le_of_ble_eq_true
abbrev ae:=@Option.map_eq_some_iff
abbrev af:=@Option.some.injEq
abbrev ag:=@List.length_cons
abbrev ai:=@bne_eq_false_iff_eq
abbrev aj:=@List.getElem?_eq_getElem
abbrev al:=@List.length_append
abbrev am:=@List.length_nil
abbrev an:=@List.getElem?_eq_some_iff
abbrev aq:=@Int.toNat_natCast
abbrev au:=@List.getElem?_eq_none
abbrev ay:=@Nat.lt_or_ge
abbrev az:=@List.eq_nil_of_length_eq_zero
abbrev aA:=@List.mem_append
abbrev aB:=@Option.bind_some
abbrev aC:=@Nat.mul_le_mul_right
abbrev aD:=@List.mem_cons
abbrev aE:=@if_pos
abbrev aF:=@List.length_take
abbrev aG:=@cond_true
abbrev aH:=@if_neg
abbrev aI:=@Nat.le_refl
abbrev aJ:=@Option.some.inj
abbrev aK:=@List.length_drop
abbrev aM:=@Bool.and_eq_true
abbrev aN:=@beq_eq_false_iff_ne
abbrev aO:=@List.getElem?_map
abbrev aP:=@List.pairwise_cons
abbrev aQ:=@List.getElem_mem
abbrev aT:=@List.mem_map
abbrev aV:=@eq_of_beq
abbrev aY:=@Nat.pow_le_pow_right
abbrev aZ:=@Nat.le_trans
abbrev ba:=@List.take_succ_eq_append_getElem
abbrev bb:=@List.append_assoc
abbrev bc:=@Bool.not_true
abbrev be:=@Array.length_toList
abbrev bk:=@List.map_cons
abbrev bl:=@List.getElem?_cons_zero
abbrev bn:=@List.getD_eq_getElem?_getD
abbrev bo:=@Option.map_some
abbrev bq:=@List.mem_of_getElem?
abbrev br:=@List.getElem?_append
abbrev bt:=@Array.getElem?_toList
abbrev bv:=@Nat.add_mul
abbrev bw:=@Prod.mk.injEq
abbrev bx:=@decide_eq_true_eq
abbrev bz:=@List.mem_singleton
abbrev bB:=@List.length_map
abbrev bC:=@List.getElem?_append_left
abbrev bD:=@List.drop_zero
abbrev bE:=@Nat.zero_le
abbrev bF:=@List.getElem?_set
abbrev bG:=@Nat.not_lt_zero
abbrev bH:=@Int.toNat_of_nonneg
abbrev bJ:=@Option.isSome_iff_exists
abbrev bL:=@List.getElem?_append_right
abbrev bM:=@List.all_eq_true
abbrev bO:=@List.map_append
abbrev bP:=@Array.getElem?_eq_getElem
abbrev bT:=@Array.getElem?_eq_none
abbrev bU:=@cond_false
abbrev bV:=@beq_iff_eq
abbrev bW:=@Nat.mul_comm
abbrev cc:=@List.getElem?_drop
abbrev cd:=@Nat.mul_le_mul_left
abbrev cg:=@decide_eq_decide
abbrev ch:=@Bool.cond_eq_ite
abbrev ci:=@Array.getElem?_eq_some_iff
abbrev ck:=@List.size_toArray
abbrev cm:=@Bool.true_and
abbrev cp:=@Bool.and_eq_true_iff
abbrev cq:=@Nat.zero_add
abbrev cr:=@Nat.lt_of_lt_of_le
abbrev ct:=@List.take_of_length_le
abbrev cz:=@List.mem_range
abbrev cA:=@List.length_replicate
abbrev cE:=@decide_eq_false_iff_not
abbrev cG:=@Int.eq_ofNat_of_zero_le
abbrev cK:=@List.getElem?_take
abbrev cL:=@Array.toArray_toList
abbrev cM:=@List.length_set
abbrev cQ:=@Nat.mod_eq_of_lt
abbrev cR:=@Array.getElem?_extract
abbrev cZ:=@Nat.sub_zero
abbrev de:=@Nat.pow_pos
abbrev df:=@List.getElem?_replicate
abbrev dl:=@bne_iff_ne
abbrev dm:=@List.map_nil
abbrev dp:=@List.replicate_succ
abbrev du:=@List.mem_iff_getElem?
abbrev dv:=@Array.getElem?_append
abbrev dA:=@beq_self_eq_true
abbrev dB:=@Array.eq_empty_of_size_eq_zero
abbrev dL:=@List.pairwise_append
abbrev dV:=@List.getElem_of_mem
abbrev dZ:=@Nat.pow_add
abbrev ea:=@Nat.one_mul
abbrev eA:=@Nat.eq_zero_or_pos
abbrev eB:=@Int.tmod_eq_emod_of_nonneg
abbrev eC:=@Array.getElem?_append_left
abbrev eF:=@List.getElem?_toArray
abbrev eN:=@Nat.add_zero
abbrev eO:=@List.flatMap_cons
abbrev eT:=@Nat.mul_assoc
abbrev eU:=@Array.getElem?_replicate
abbrev fg:=@Nat.and_two_pow_sub_one_eq_mod
abbrev fw:=@List.nil_append
abbrev fx:=@List.append_nil
abbrev fy:=@Bool.eq_iff_iff
abbrev fA:=@Array.getElem?_setIfInBounds
abbrev fE:=@List.length_filter_le
abbrev fG:=@Nat.mul_lt_mul_of_pos_right
abbrev fQ:=@Int.fdiv_eq_ediv_of_nonneg
abbrev fR:=@Array.mem_toList_iff
abbrev ga:=@Option.getD_some
abbrev gb:=@Nat.zero_mul
abbrev ge:=@List.pairwise_iff_getElem
abbrev gj:=@List.map_congr_left
abbrev gq:=@Int.add_assoc
abbrev gv:=@List.nodup_cons
abbrev gw:=@List.mem_filter
abbrev gx:=@List.foldl_cons
abbrev gQ:=@List.pairwise_singleton
abbrev gR:=@List.getElem?_cons_succ
abbrev gS:=@Int.le_refl
abbrev hP:=@not_true_eq_false
abbrev hU:=@Nat.pow_succ
abbrev hX:=@List.nodup_append
abbrev hY:=@List.map_map
abbrev hZ:=@List.flatten_cons
abbrev ia:=@List.ext_getElem?
abbrev ic:=@List.replicate_append_replicate
abbrev ii:=@Nat.ble_eq_true_of_le
abbrev ij:=@List.singleton_append
abbrev ik:=@Array.getElem?_modify
abbrev iC:=@Nat.div_eq_of_lt
abbrev iD:=@List.take_length
abbrev iE:=@List.range'_succ
abbrev iF:=@List.mem_flatMap
abbrev iG:=@List.cons_append
abbrev iN:=@List.cons.inj
abbrev iO:=@List.all_cons
abbrev iV:=@Nat.mul_one
abbrev iW:=@Nat.le_succ
abbrev iX:=@List.mem_of_mem_take
abbrev iY:=@List.getElem?_set_ne
abbrev jd:=@List.find?_cons
abbrev je:=@Int.natCast_mul
abbrev jg:=@Nat.add_le_add_left
abbrev jh:=@List.getElem?_range
abbrev jm:=@dif_pos
abbrev jn:=@decide_false
abbrev jQ:=@Nat.mul_le_mul
abbrev jR:=@Nat.mod_lt
abbrev jS:=@List.mem_cons_self
abbrev jT:=@List.drop_drop
abbrev jU:=@Bool.not_false
abbrev jV:=@Array.getElem?_map
abbrev jW:=@Array.foldl_toList
abbrev jX:=@Array.all_eq_true'
abbrev ku:=@not_false_eq_true
abbrev kw:=@bne_self_eq_false
abbrev kx:=@Nat.mul_pos
abbrev ky:=@List.length_range
abbrev kz:=@List.getElem_take
abbrev kA:=@Int.emod_eq_of_lt
abbrev kB:=@Int.compare_eq_lt
abbrev kC:=@Int.compare_eq_gt
abbrev kD:=@Int.compare_eq_eq
abbrev kE:=@Bool.not_eq_true'
abbrev kM:=@Nat.add_assoc
abbrev ld:=@Nat.shiftLeft_eq
abbrev lf:=@Nat.lt_log2_self
abbrev lg:=@Nat.le_add_right
abbrev lh:=@List.elem_eq_mem
abbrev lI:=@Nat.pow_zero
abbrev lJ:=@Int.add_zero
abbrev lN:=@Option.map_none
abbrev lO:=@Nat.mul_add_mod
abbrev lP:=@Nat.div_add_mod
abbrev lQ:=@List.head?_drop
abbrev lR:=@Array.size_push
abbrev mM:=@or_false
abbrev mN:=@and_true
abbrev nj:=@if_true
end Go

namespace Go.VL
abbrev Fl:=Option Nat
structure Span where
 lo:Int
 hi:Int
  deriving DecidableEq,Inhabited
structure Place where
 row:Int
 col:Int
  deriving DecidableEq,Inhabited
structure Plate where
 rows:Int
 cols:Int
 x:Fl
 pitch:Fl
 reach:Fl
 cap:Int
 start:List Int
  deriving DecidableEq,Inhabited
structure Rack where
 rows:Int
 cols:Int
 x:Fl
 pitch:Fl
 reach:Fl
  deriving DecidableEq,Inhabited
structure Deck where
 borders:List Fl
 plates:List Plate
 racks:List Rack
 arms:Int
  deriving DecidableEq,Inhabited
structure Part where
 kind:Int
 unit:Int
 row:Int
 col:Int
  deriving DecidableEq,Inhabited
structure Cell where
 cap:Int
 vol:Int
 ver:Int
  deriving DecidableEq,Inhabited
structure Change where
 ver:Int
 by':Int
 n:Int
  deriving DecidableEq,Inhabited
structure Log where
 room:Int
 last:Int
 list:List Change
  deriving DecidableEq,Inhabited
structure Tip where
 state:Int
 by':Int
  deriving DecidableEq,Inhabited
structure Stock where
 cells:List Cell
 logs:List Log
 tips:List Tip
 start:Int
 inn:Int
 out:Int
  deriving DecidableEq,Inhabited
structure Req where
 kind:Int
 ids:List Int
 a:Int
 b:Int
 ver:Int
 vol:Int
  deriving DecidableEq,Inhabited
structure Resp where
 err:Int
 id:Int
 n:Int
 ver:Int
 list:List Change
  deriving DecidableEq,Inhabited
structure Model where
 deck:Deck
 stock:Stock
 owners:List Int
  deriving DecidableEq,Inhabited
structure Asked where
 who:Int
 req:Req
  deriving DecidableEq,Inhabited
structure Numb where
 n:Int
 wide:Int
  deriving DecidableEq,Inhabited
structure Box where
 rows:Int
 cols:Int
  deriving DecidableEq,Inhabited
structure Row where
 x:Fl
 pitch:Fl
 reach:Fl
  deriving DecidableEq,Inhabited
structure Rdr where
 b:List Int
 at':Int
 e:Int
  deriving DecidableEq,Inhabited
structure Flds where
 ids:Bool
 a:Bool
 b:Bool
 ver:Bool
 vol:Bool
  deriving DecidableEq,Inhabited
structure Deed where
 kind:Int
 id:Int
  deriving DecidableEq,Inhabited
structure Event where
 kind:Int
 who:Int
 num:Int
 at':Int
  deriving DecidableEq,Inhabited
structure CallN where
 who:Int
 num:Int
  deriving DecidableEq,Inhabited
structure Fault where
 kind:Int
 id:Int
  deriving DecidableEq,Inhabited
structure OpR where
 who:Int
 req:Req
 resp:Resp
 from':Int
 to':Int
  deriving DecidableEq,Inhabited
structure Mach where
 who:Int
 phase:Int
 num:Int
 req:Req
 ids:List Int
 at':Int
 resp:Resp
 todo:List Req
 told:List Resp
  deriving DecidableEq,Inhabited
structure WorldR where
 model:Model
 locks:List Int
 machs:List Mach
 now:Int
 hist:List Event
  deriving DecidableEq,Inhabited
structure Wide where
 hi:Int
 lo:Int
  deriving DecidableEq,Inhabited
structure Fld3 where
 n:Int
 lo:Int
 hi:Int
  deriving DecidableEq,Inhabited
inductive Ty where
 | int|u64|u8|bool|flt|str
 | span|place|plate|rack|deck|part|cell|change|log|tip|stock|req|resp|model|asked
 | numb|box|row|rdr
 | flds|b5|deed|event|call|fault|op|mach|world|wide|fld
 | sl (t:Ty)
  deriving DecidableEq,Inhabited
abbrev Ty.ty:Ty->Type
 | .int=>Int | .u64=>Int | .u8=>Int | .bool=>Bool | .flt=>Fl | .str=>ByteArray
 | .span=>Span | .place=>Place | .plate=>Plate | .rack=>Rack | .deck=>Deck | .part=>Part | .cell=>Cell | .change=>Change | .log=>Log | .tip=>Tip
 | .stock=>Stock | .req=>Req | .resp=>Resp | .model=>Model | .asked=>Asked
 | .numb=>Numb | .box=>Box | .row=>Row | .rdr=>Rdr
 | .flds=>Flds | .b5=>Flds | .deed=>Deed | .event=>Event | .call=>CallN | .fault=>Fault | .op=>OpR | .mach=>Mach | .world=>WorldR | .wide=>Wide | .fld=>Fld3
 | .sl t=>List t.ty
def Ty.dflt:(t:Ty)->t.ty
 | .int=>(0:Int) | .u64=>(0:Int) | .u8=>(0:Int) | .bool=>false | .flt=>some 0 | .str=>ByteArray.empty
 | .span=>⟨0,0⟩ | .place=>⟨0,0⟩ | .plate=>⟨0,0,some 0,some 0,some 0,0,[]⟩ | .rack=>⟨0,0,some 0,some 0,some 0⟩
 | .deck=>⟨[],[],[],0⟩ | .part=>⟨0,0,0,0⟩ | .cell=>⟨0,0,0⟩ | .change=>⟨0,0,0⟩ | .log=>⟨0,0,[]⟩ | .tip=>⟨0,0⟩
 | .stock=>⟨[],[],[],0,0,0⟩ | .req=>⟨0,[],0,0,0,0⟩ | .resp=>⟨0,0,0,0,[]⟩ | .model=>⟨⟨[],[],[],0⟩,⟨[],[],[],0,0,0⟩,[]⟩
 | .asked=>⟨0,⟨0,[],0,0,0,0⟩⟩ | .numb=>⟨0,0⟩ | .box=>⟨0,0⟩ | .row=>⟨some 0,some 0,some 0⟩ | .rdr=>⟨[],0,0⟩
 | .flds=>⟨false,false,false,false,false⟩ | .b5=>⟨false,false,false,false,false⟩ | .deed=>⟨0,0⟩ | .event=>⟨0,0,0,0⟩ | .call=>⟨0,0⟩ | .fault=>⟨0,0⟩ | .wide=>⟨0,0⟩ | .fld=>⟨0,0,0⟩
 | .op=>⟨0,⟨0,[],0,0,0,0⟩,⟨0,0,0,0,[]⟩,0,0⟩ | .mach=>⟨0,0,0,⟨0,[],0,0,0,0⟩,[],0,⟨0,0,0,0,[]⟩,[],[]⟩
 | .world=>⟨⟨⟨[],[],[],0⟩,⟨[],[],[],0,0,0⟩,[]⟩,[],[],0,[]⟩
 | .sl _=>[]
inductive D where
 | v (x:Value)
 | f (o:Fl)
 | sl (t:Ty) (xs:List t.ty)
abbrev D.i (n:Int):D:=.v (.int .i64 n)
abbrev D.u (n:Int):D:=.v (.int .u64 n)
abbrev D.b (b:Bool):D:=.v (.bool b)
abbrev D.nil:D:=.v (.slice none 0 0)
def enc:(t:Ty)->t.ty->List D
 | .int,x=>[.v (.int .i64 x)]
 | .u64,x=>[.v (.int .u64 x)]
 | .u8,x=>[.v (.int .u8 x)]
 | .bool,x=>[.v (.bool x)]
 | .flt,x=>[.f x]
 | .str,x=>[.v (.string x)]
 | .span,x=>[.i x.lo,.i x.hi]
 | .place,x=>[.i x.row,.i x.col]
 | .plate,x=>[.i x.rows,.i x.cols,.f x.x,.f x.pitch,.f x.reach,.i x.cap,.sl .int x.start]
 | .rack,x=>[.i x.rows,.i x.cols,.f x.x,.f x.pitch,.f x.reach]
 | .deck,x=>[.sl .flt x.borders,.sl .plate x.plates,.sl .rack x.racks,.i x.arms]
 | .part,x=>[.i x.kind,.i x.unit,.i x.row,.i x.col]
 | .cell,x=>[.i x.cap,.i x.vol,.i x.ver]
 | .change,x=>[.i x.ver,.i x.by',.i x.n]
 | .log,x=>[.i x.room,.i x.last,.sl .change x.list]
 | .tip,x=>[.i x.state,.i x.by']
 | .stock,x=>[.sl .cell x.cells,.sl .log x.logs,.sl .tip x.tips,.i x.start,.i x.inn,.i x.out]
 | .req,x=>[.i x.kind,.sl .int x.ids,.i x.a,.i x.b,.i x.ver,.u x.vol]
 | .resp,x=>[.i x.err,.i x.id,.i x.n,.i x.ver,.sl .change x.list]
 | .model,x=>[.sl .flt x.deck.borders,.sl .plate x.deck.plates,.sl .rack x.deck.racks,.i x.deck.arms,
  .sl .cell x.stock.cells,.sl .log x.stock.logs,.sl .tip x.stock.tips,.i x.stock.start,.i x.stock.inn,.i x.stock.out,.sl .int x.owners]
 | .asked,x=>[.i x.who,.i x.req.kind,.sl .int x.req.ids,.i x.req.a,.i x.req.b,.i x.req.ver,.u x.req.vol]
 | .numb,x=>[.u x.n,.i x.wide]
 | .wide,x=>[.u x.hi,.u x.lo]
 | .fld,x=>[.i x.n,.i x.lo,.i x.hi]
 | .box,x=>[.i x.rows,.i x.cols]
 | .row,x=>[.f x.x,.f x.pitch,.f x.reach]
 | .rdr,x=>[.sl .u8 x.b,.i x.at',.i x.e]
 | .flds,x=>[.b x.ids,.b x.a,.b x.b,.b x.ver,.b x.vol]
 | .b5,x=>[.b x.ids,.b x.a,.b x.b,.b x.ver,.b x.vol]
 | .deed,x=>[.i x.kind,.i x.id]
 | .event,x=>[.i x.kind,.i x.who,.i x.num,.i x.at']
 | .call,x=>[.i x.who,.i x.num]
 | .fault,x=>[.i x.kind,.i x.id]
 | .op,x=>[.i x.who,.i x.req.kind,.sl .int x.req.ids,.i x.req.a,.i x.req.b,.i x.req.ver,.u x.req.vol,.i x.resp.err,.i x.resp.id,.i x.resp.n,.i x.resp.ver,.sl .change x.resp.list,.i x.from',.i x.to']
 | .mach,x=>[.i x.who,.i x.phase,.i x.num,.i x.req.kind,.sl .int x.req.ids,.i x.req.a,.i x.req.b,.i x.req.ver,.u x.req.vol,.sl .int x.ids,.i x.at',.i x.resp.err,.i x.resp.id,.i x.resp.n,.i x.resp.ver,.sl .change x.resp.list,.sl .req x.todo,.sl .resp x.told]
 | .world,x=>[.sl .flt x.model.deck.borders,.sl .plate x.model.deck.plates,.sl .rack x.model.deck.racks,.i x.model.deck.arms,
  .sl .cell x.model.stock.cells,.sl .log x.model.stock.logs,.sl .tip x.model.stock.tips,.i x.model.stock.start,.i x.model.stock.inn,.i x.model.stock.out,.sl .int x.model.owners,.sl .int x.locks,.sl .mach x.machs,.i x.now,.sl .event x.hist]
 | .sl t,x=>[.sl t x]
def Ty.size:Ty->Nat
 | .int | .u64 | .u8 | .bool | .flt | .str | .sl _=>1
 | .span | .place | .tip | .numb | .box=>2
 | .plate=>7 | .rack=>5 | .deck=>4 | .part=>4 | .cell=>3 | .change=>3 | .log=>3 | .stock=>6 | .req=>6 | .resp=>5 | .model=>11 | .asked=>7 | .row=>3 | .rdr=>3
 | .flds | .b5=>5 | .deed | .call | .fault=>2 | .event=>4 | .op=>14 | .mach=>18 | .world=>15 | .wide=>2 | .fld=>3
theorem bS (t:Ty)(x:t.ty):(enc t x).length=t.size:=by cases t<;>rfl
theorem wX (t:Ty):0<t.size:=by cases t<;>simp[Ty.size]
def Ty.flat:Ty->Bool
 | .int | .u64 | .u8 | .bool | .flt | .str | .sl _=>true
 | _=>false
def D.asI:D->Option Int | .v (.int .i64 n)=>some n|_=>none
def D.asU:D->Option Int | .v (.int .u64 n)=>some n|_=>none
def D.asU8:D->Option Int | .v (.int .u8 n)=>some n|_=>none
def D.asB:D->Option Bool | .v (.bool b)=>some b|_=>none
def D.asS:D->Option ByteArray | .v (.string b)=>some b|_=>none
def D.asF:D->Option Fl | .f o=>some o | .v (.float .f64 b)=>some (some b)|_=>none
def D.asSl (t:Ty):D->Option (List t.ty)
 | .sl t' xs=>if h:t'=t then some (h ▸ xs)else none
 | .v (.slice none 0 0)=>some []
 | _=>none
inductive D.le:D->D->Prop
 | refl (d:D):D.le d d
 | nil (t:Ty):D.le (.v (.slice none 0 0)) (.sl t [])
 | flt (b:Nat):D.le (.v (.float .f64 b)) (.f (some b))
theorem D.asI_le {d:D}{n:Int}(h:d.asI=some n):d.le (.i n):=by
 unfold D.asI at h;split at h<;>simp at h;subst h;exact .refl _
theorem D.asU_le {d:D}{n:Int}(h:d.asU=some n):d.le (.u n):=by
 unfold D.asU at h;split at h<;>simp at h;subst h;exact .refl _
theorem D.asU8_le {d:D}{n:Int}(h:d.asU8=some n):d.le (.v (.int .u8 n)):=by
 unfold D.asU8 at h;split at h<;>simp at h;subst h;exact .refl _
theorem D.asB_le {d:D}{n:Bool}(h:d.asB=some n):d.le (.b n):=by
 unfold D.asB at h;split at h<;>simp at h;subst h;exact .refl _
theorem D.asS_le {d:D}{n:ByteArray}(h:d.asS=some n):d.le (.v (.string n)):=by
 unfold D.asS at h;split at h<;>simp at h;subst h;exact .refl _
theorem D.asF_le {d:D}{n:Fl}(h:d.asF=some n):d.le (.f n):=by
 unfold D.asF at h;split at h<;>simp at h<;>subst h
 ·exact .refl _
 ·exact .flt _
theorem D.asSl_le {t:Ty}{d:D}{n:List t.ty}(h:d.asSl t=some n):d.le (.sl t n):=by
 unfold D.asSl at h;split at h
 ·split at h
  ·rename_i ht;subst ht;simp at h;subst h;exact .refl _
  ·simp at h
 ·simp at h;subst h;exact .nil _
 ·simp at h
def dec:(t:Ty)->List D->Option t.ty
 | .int,[a]=>a.asI
 | .u64,[a]=>a.asU
 | .u8,[a]=>a.asU8
 | .bool,[a]=>a.asB
 | .flt,[a]=>a.asF
 | .str,[a]=>a.asS
 | .span,[a,b]=>a.asI.bind fun a=>b.asI.bind fun b=>some ⟨a,b⟩
 | .place,[a,b]=>a.asI.bind fun a=>b.asI.bind fun b=>some ⟨a,b⟩
 | .plate,[a,b,c,d,e,f,g]=>a.asI.bind fun a=>b.asI.bind fun b=>c.asF.bind fun c=>d.asF.bind fun d=>e.asF.bind fun e=>f.asI.bind fun f=>(g.asSl .int).bind fun g=>some ⟨a,b,c,d,e,f,g⟩
 | .rack,[a,b,c,d,e]=>a.asI.bind fun a=>b.asI.bind fun b=>c.asF.bind fun c=>d.asF.bind fun d=>e.asF.bind fun e=>some ⟨a,b,c,d,e⟩
 | .deck,[a,b,c,d]=>(a.asSl .flt).bind fun a=>(b.asSl .plate).bind fun b=>(c.asSl .rack).bind fun c=>d.asI.bind fun d=>some ⟨a,b,c,d⟩
 | .part,[a,b,c,d]=>a.asI.bind fun a=>b.asI.bind fun b=>c.asI.bind fun c=>d.asI.bind fun d=>some ⟨a,b,c,d⟩
 | .cell,[a,b,c]=>a.asI.bind fun a=>b.asI.bind fun b=>c.asI.bind fun c=>some ⟨a,b,c⟩
 | .change,[a,b,c]=>a.asI.bind fun a=>b.asI.bind fun b=>c.asI.bind fun c=>some ⟨a,b,c⟩
 | .log,[a,b,c]=>a.asI.bind fun a=>b.asI.bind fun b=>(c.asSl .change).bind fun c=>some ⟨a,b,c⟩
 | .tip,[a,b]=>a.asI.bind fun a=>b.asI.bind fun b=>some ⟨a,b⟩
 | .stock,[a,b,c,d,e,f]=>(a.asSl .cell).bind fun a=>(b.asSl .log).bind fun b=>(c.asSl .tip).bind fun c=>d.asI.bind fun d=>e.asI.bind fun e=>f.asI.bind fun f=>some ⟨a,b,c,d,e,f⟩
 | .req,[a,b,c,d,e,f]=>a.asI.bind fun a=>(b.asSl .int).bind fun b=>c.asI.bind fun c=>d.asI.bind fun d=>e.asI.bind fun e=>f.asU.bind fun f=>some ⟨a,b,c,d,e,f⟩
 | .resp,[a,b,c,d,e]=>a.asI.bind fun a=>b.asI.bind fun b=>c.asI.bind fun c=>d.asI.bind fun d=>(e.asSl .change).bind fun e=>some ⟨a,b,c,d,e⟩
 | .model,[a1,b1,c1,d1,a,b,c,d,e,f,g]=>(a1.asSl .flt).bind fun a1=>(b1.asSl .plate).bind fun b1=>(c1.asSl .rack).bind fun c1=>d1.asI.bind fun d1=>
  (a.asSl .cell).bind fun a=>(b.asSl .log).bind fun b=>(c.asSl .tip).bind fun c=>d.asI.bind fun d=>e.asI.bind fun e=>f.asI.bind fun f=>(g.asSl .int).bind fun g=>some ⟨⟨a1,b1,c1,d1⟩,⟨a,b,c,d,e,f⟩,g⟩
 | .asked,[w,a,b,c,d,e,f]=>w.asI.bind fun w=>a.asI.bind fun a=>(b.asSl .int).bind fun b=>c.asI.bind fun c=>d.asI.bind fun d=>e.asI.bind fun e=>f.asU.bind fun f=>some ⟨w,⟨a,b,c,d,e,f⟩⟩
 | .numb,[a,b]=>a.asU.bind fun a=>b.asI.bind fun b=>some ⟨a,b⟩
 | .wide,[a,b]=>a.asU.bind fun a=>b.asU.bind fun b=>some ⟨a,b⟩
 | .fld,[a,b,c]=>a.asI.bind fun a=>b.asI.bind fun b=>c.asI.bind fun c=>some ⟨a,b,c⟩
 | .box,[a,b]=>a.asI.bind fun a=>b.asI.bind fun b=>some ⟨a,b⟩
 | .row,[a,b,c]=>a.asF.bind fun a=>b.asF.bind fun b=>c.asF.bind fun c=>some ⟨a,b,c⟩
 | .rdr,[a,b,c]=>(a.asSl .u8).bind fun a=>b.asI.bind fun b=>c.asI.bind fun c=>some ⟨a,b,c⟩
 | .flds,[a,b,c,d,e]=>a.asB.bind fun a=>b.asB.bind fun b=>c.asB.bind fun c=>d.asB.bind fun d=>e.asB.bind fun e=>some ⟨a,b,c,d,e⟩
 | .b5,[a,b,c,d,e]=>a.asB.bind fun a=>b.asB.bind fun b=>c.asB.bind fun c=>d.asB.bind fun d=>e.asB.bind fun e=>some ⟨a,b,c,d,e⟩
 | .deed,[a,b]=>a.asI.bind fun a=>b.asI.bind fun b=>some ⟨a,b⟩
 | .event,[a,b,c,d]=>a.asI.bind fun a=>b.asI.bind fun b=>c.asI.bind fun c=>d.asI.bind fun d=>some ⟨a,b,c,d⟩
 | .call,[a,b]=>a.asI.bind fun a=>b.asI.bind fun b=>some ⟨a,b⟩
 | .fault,[a,b]=>a.asI.bind fun a=>b.asI.bind fun b=>some ⟨a,b⟩
 | .op,[w,a,b,c,d,e,f,g,h,i,j,k,l,n]=>w.asI.bind fun w=>a.asI.bind fun a=>(b.asSl .int).bind fun b=>c.asI.bind fun c=>d.asI.bind fun d=>e.asI.bind fun e=>f.asU.bind fun f=>g.asI.bind fun g=>h.asI.bind fun h=>i.asI.bind fun i=>j.asI.bind fun j=>(k.asSl .change).bind fun k=>l.asI.bind fun l=>n.asI.bind fun n=>some ⟨w,⟨a,b,c,d,e,f⟩,⟨g,h,i,j,k⟩,l,n⟩
 | .mach,[w,p,q,a,b,c,d,e,f,r,s,g,h,i,j,k,l,n]=>w.asI.bind fun w=>p.asI.bind fun p=>q.asI.bind fun q=>a.asI.bind fun a=>(b.asSl .int).bind fun b=>c.asI.bind fun c=>d.asI.bind fun d=>e.asI.bind fun e=>f.asU.bind fun f=>(r.asSl .int).bind fun r=>s.asI.bind fun s=>g.asI.bind fun g=>h.asI.bind fun h=>i.asI.bind fun i=>j.asI.bind fun j=>(k.asSl .change).bind fun k=>(l.asSl .req).bind fun l=>(n.asSl .resp).bind fun n=>some ⟨w,p,q,⟨a,b,c,d,e,f⟩,r,s,⟨g,h,i,j,k⟩,l,n⟩
 | .world,[a1,b1,c1,d1,a,b,c,d,e,f,g,h,i,j,k]=>(a1.asSl .flt).bind fun a1=>(b1.asSl .plate).bind fun b1=>(c1.asSl .rack).bind fun c1=>d1.asI.bind fun d1=>(a.asSl .cell).bind fun a=>(b.asSl .log).bind fun b=>(c.asSl .tip).bind fun c=>d.asI.bind fun d=>e.asI.bind fun e=>f.asI.bind fun f=>(g.asSl .int).bind fun g=>(h.asSl .int).bind fun h=>(i.asSl .mach).bind fun i=>j.asI.bind fun j=>(k.asSl .event).bind fun k=>some ⟨⟨⟨a1,b1,c1,d1⟩,⟨a,b,c,d,e,f⟩,g⟩,h,i,j,k⟩
 | .sl t,[a]=>a.asSl t
 | _,_=>none
inductive Les:List D->List D->Prop
 | nil:Les [] []
 | cons {a b:D} {as bs:List D}:a.le b->Les as bs->Les (a::as) (b::bs)
theorem ws {t:Ty}{ds:List D}{x:t.ty}(h:dec t ds=some x):Les ds (enc t x):=by
 unfold dec at h
 split at h<;>(try simp only[aa,reduceCtorEq]at h) <;>
  (try (obtain⟨_,h1,h⟩:=h))<;>(try (obtain⟨_,h2,h⟩:=h))<;>(try (obtain⟨_,h3,h⟩:=h))<;>(try (obtain⟨_,h4,h⟩:=h)) <;>
  (try (obtain⟨_,h5,h⟩:=h))<;>(try (obtain⟨_,h6,h⟩:=h))<;>(try (obtain⟨_,h7,h⟩:=h))<;>(try (obtain⟨_,h8,h⟩:=h)) <;>
  (try (obtain⟨_,h9,h⟩:=h))<;>(try (obtain⟨_,h10,h⟩:=h))<;>(try (obtain⟨_,h11,h⟩:=h))<;>(try (obtain⟨_,h12,h⟩:=h))<;>(try (obtain⟨_,h13,h⟩:=h))<;>(try (obtain⟨_,h14,h⟩:=h))<;>(try (obtain⟨_,h15,h⟩:=h))<;>(try (obtain⟨_,h16,h⟩:=h))<;>(try (obtain⟨_,h17,h⟩:=h))<;>(try (obtain⟨_,h18,h⟩:=h)) <;>
  (try (simp only[af]at h;subst h)) <;>
  (simp only[enc];repeat' (first|exact Les.nil|refine Les.cons ?_ ?_)) <;>
  first
   | exact D.asI_le (by assumption)|exact D.asU_le (by assumption)|exact D.asU8_le (by assumption)|exact D.asB_le (by assumption)
   | exact D.asS_le (by assumption)|exact D.asF_le (by assumption)|exact D.asSl_le (by assumption)
end Go.VL

namespace Go.VL
def rm:List Nat:=[0,1,56,2,57,49,28,3,61,58,42,50,38,29,17,4,62,47,59,36,45,43,51,22,53,39,33,30,24,18,12,5,63,55,48,27,60,41,37,16,46,35,44,21,52,32,23,11,54,26,40,15,34,20,31,10,25,14,19,9,13,8,7,6]
def glb:List (Nat×Array Value):=[(1,(rm.map fun n:Nat=>Value.int .u8 (n:Int)).toArray)]
end Go.VL

namespace Go.VL
inductive AV where
 | dead
 | d (x:D)
 | fl (t:Ty) (xs:List t.ty)
 | own (l:Nat) (t:Ty)
 | view (l:Nat) (t:Ty) (off len:Nat)
 | ptr (l f:Nat)
 | eptr (l:Nat) (t:Ty) (i f:Nat)
 | ip (ds:List D)
 | agg (cs:List AV)
 | tup (vs:List AV)
 | clo (fn:Fn) (first caps:List AV)
 | mp (l:Nat)
inductive ABlk where
 | box (cells:List AV)
 | row (T:TypeId) (t:Ty) (xs:List t.ty)
 | mp (tk tv:Ty) (kvs:List (tk.ty×tv.ty))
def AV.ofTy (t:Ty)(x:t.ty):AV:=bif t.flat then .d ((enc t x).headD .nil)else .agg ((enc t x).map .d)
abbrev Heap:=List (Nat×ABlk)
def Heap.get:Heap->Nat->Option ABlk
 | [],_=>none
 | (k,b)::h,l=>bif k==l then some b else Heap.get h l
def Heap.del:Heap->Nat->Heap
 | [],_=>[]
 | (k,b)::h,l=>bif k==l then Heap.del h l else(k,b)::Heap.del h l
def Heap.put (h:Heap)(l:Nat):Option ABlk->Heap
 | some b=>(l,b)::h.del l
 | none=>h.del l
theorem Heap.get_del_self (h:Heap)(l:Nat):(h.del l).get l=none:=by
 induction h with
 | nil=>rfl
 | cons x h ih =>
   obtain⟨k,b⟩:=x
   cases hk:(k==l)<;>simp only[Heap.del,hk,aG,bU,Heap.get,ih]
theorem Heap.get_del (h:Heap){l k:Nat}(hk:k≠l):(h.del l).get k=h.get k:=by
 induction h with
 | nil=>rfl
 | cons x h ih =>
   obtain⟨j,b⟩:=x
   cases hj:(j==l)
   ·simp only[Heap.del,hj,bU,Heap.get,ih]
   ·have hjl:j=l:=by simpa using hj
    have:(j==k)=false:=by rw[hjl];simpa using fun e=>hk e.symm
    simp only[Heap.del,hj,aG,Heap.get,ih,this,bU]
theorem Heap.get_put_self (h:Heap)(l:Nat)(b:Option ABlk):(h.put l b).get l=b:=by
 cases b<;>simp[Heap.put,Heap.get,Heap.get_del_self]
theorem Heap.get_put (h:Heap){l k:Nat}(hk:k≠l)(b:Option ABlk):(h.put l b).get k=h.get k:=by
 have e:(l==k)=false:=by simpa using fun e=>hk e.symm
 cases b<;>simp[Heap.put,Heap.get,Heap.get_del _ hk,e]
def nanBits (b:Nat):Prop:=(FloatKind.f64.format.read b).isNaN=true
def sL:Fl->Nat->Prop
 | some r,b=>b=r
 | none,b=>nanBits b
inductive RelD (w:World) (K:Nat->Prop):D->Value->Prop
 | v (x:Value):RelD w K (.v x) x
 | f (o:Fl) (b:Nat) (h:sL o b):RelD w K (.f o) (.float .f64 b)
 | sl0 (t:Ty) (a:Option Addr) (cap:Nat):RelD w K (.sl t []) (.slice a 0 cap)
 | sl (t:Ty) (xs:List t.ty) (b off cap:Nat) (u:Nat->Nat->Value) (hb:K b) (hcap:xs.length<=cap)
  (hc:∀ i x j d,xs[i]?=some x->(enc t x)[j]?=some d->w.cell? ⟨b,off+(i*t.size+j),none⟩=some (u i j))
  (hr:∀ i x j d,xs[i]?=some x->(enc t x)[j]?=some d->RelD w K d (u i j)):RelD w K (.sl t xs) (.slice (some ⟨b,off,none⟩) xs.length cap)
theorem RelD.ext {w w':World}{K K':Nat->Prop}(hK:∀ b,K b->K' b)(hw:∀ b,K b->w'.heap[b]?=w.heap[b]?){d:D}{v:Value}(h:RelD w K d v):RelD w' K' d v:=by
 induction h with
 | v x=>exact .v x
 | f o b h=>exact .f o b h
 | sl0 t a cap=>exact .sl0 t a cap
 | sl t xs b off cap u hb hcap hc hr ih =>
   refine .sl t xs b off cap u (hK _ hb) hcap (fun i x j d hx hd=>?_) (fun i x j d hx hd=>ih i x j d hx hd)
   rw[World.cell?_of_block (w:=w) (hw b hb)]
   exact hc i x j d hx hd
theorem RelD.le {w:World}{K:Nat->Prop}{d d':D}{v:Value}(hd:d.le d')(h:RelD w K d v):RelD w K d' v:=by
 cases hd with
 | refl=>exact h
 | nil t=>cases h;exact .sl0 t none 0
 | flt b=>cases h;exact .f _ _ rfl
inductive Rel (w:World) (K:Nat->Prop) (m:Nat->Option (Option Nat)) (H:Heap):AV->Value->Prop
 | dead (v:Value):Rel w K m H .dead v
 | d (x:D) (v:Value) (h:RelD w K x v):Rel w K m H (.d x) v
 | fl (t:Ty) (xs:List t.ty) (a:Option Addr) (n:Nat) (h:RelD w K (.sl t xs) (.slice a n n)):Rel w K m H (.fl t xs) (.slice a n n)
 | own0 (l:Nat) (t:Ty) (a:Option Addr) (h:m l=some none):Rel w K m H (.own l t) (.slice a 0 0)
 | own (l:Nat) (t:Ty) (b n cap:Nat) (h:m l=some (some b)) (hn:∀ T xs,H.get l=some (.row T t xs)->n=xs.length) (hcap:n<=cap)
  (hs:∃ T sz,w.shape? b=some (T,sz)/\cap*t.size<=sz):Rel w K m H (.own l t) (.slice (some ⟨b,0,none⟩) n cap)
 | view0 (l:Nat) (t:Ty) (off:Nat) (a:Option Addr):Rel w K m H (.view l t off 0) (.slice a 0 0)
 | view (l:Nat) (t:Ty) (b off len cap:Nat) (h:m l=some (some b)) (hcap:len<=cap)
  (hs:∃ T sz,w.shape? b=some (T,sz)/\(off+cap)*t.size<=sz):Rel w K m H (.view l t off len) (.slice (some ⟨b,off*t.size,none⟩) len cap)
 | ptr (l f b:Nat) (h:m l=some (some b)):Rel w K m H (.ptr l f) (.pointer (some ⟨b,f,none⟩))
 | eptr (l:Nat) (t:Ty) (i f b:Nat) (h:m l=some (some b)):Rel w K m H (.eptr l t i f) (.pointer (some ⟨b,i*t.size+f,none⟩))
 | ip (ds:List D) (b off:Nat) (u:Nat->Value) (hb:K b) (hc:∀ j d,ds[j]?=some d->w.cell? ⟨b,off+j,none⟩=some (u j))
  (hr:∀ j d,ds[j]?=some d->RelD w K d (u j)):Rel w K m H (.ip ds) (.pointer (some ⟨b,off,none⟩))
 | agg (cs:List AV) (vs:Array Value) (hl:vs.size=cs.length) (h:∀ (i:Nat) (a:AV) (v:Value),cs[i]?=some a->vs[i]?=some v->Rel w K m H a v):Rel w K m H (.agg cs) (.agg vs)
 | tup (cs:List AV) (vs:Array Value) (hl:vs.size=cs.length) (h:∀ (i:Nat) (a:AV) (v:Value),cs[i]?=some a->vs[i]?=some v->Rel w K m H a v):Rel w K m H (.tup cs) (.tuple vs)
 | clo (fn:Fn) (fs cs:List AV) (us vs:Array Value) (hf:us.size=fs.length) (hl:vs.size=cs.length)
  (h1:∀ (i:Nat) (a:AV) (v:Value),fs[i]?=some a->us[i]?=some v->Rel w K m H a v) (h2:∀ (i:Nat) (a:AV) (v:Value),cs[i]?=some a->vs[i]?=some v->Rel w K m H a v) :
  Rel w K m H (.clo fn fs cs) (.func fn us vs)
 | mp (l b:Nat) (h:m l=some (some b)):Rel w K m H (.mp l) (.map (some b))
structure Ext (w:World) (K:Nat->Prop) (m:Nat->Option (Option Nat)) (H:Heap) (w':World) (K':Nat->Prop) (m':Nat->Option (Option Nat)) (H':Heap):Prop where
 hK:∀ b,K b->K' b
 keep:∀ b,K b->w'.heap[b]?=w.heap[b]?
 hm:∀ l x,m l=some x->m' l=some x
 shape:∀ b s,w.shape? b=some s->w'.shape? b=some s
 row:∀ l T t xs,m l≠none->H'.get l=some (.row T t xs)->∃ ys,H.get l=some (.row T t ys)/\ys.length=xs.length
theorem Ext.refl (w:World)(K:Nat->Prop)(m:Nat->Option (Option Nat))(H:Heap):Ext w K m H w K m H:=
 ⟨fun _ h=>h,fun _ _=>rfl,fun _ _ h=>h,fun _ _ h=>h,fun _ _ _ xs _ h=>⟨xs,h,rfl⟩⟩
theorem Ext.trans {w w1 w2:World}{K K1 K2:Nat->Prop}{m m1 m2:Nat->Option (Option Nat)}{H H1 H2:Heap}(h:Ext w K m H w1 K1 m1 H1)(g:Ext w1 K1 m1 H1 w2 K2 m2 H2) :
  Ext w K m H w2 K2 m2 H2:=
 ⟨fun b hb=>g.hK b (h.hK b hb),fun b hb=>(g.keep b (h.hK b hb)).trans (h.keep b hb),fun l x hx=>g.hm l x (h.hm l x hx),fun b s hs=>g.shape b s (h.shape b s hs),
  fun l T t xs hm hx=>by
   obtain⟨x,hm'⟩:=Option.ne_none_iff_exists'.1 hm
   obtain⟨ys,hy,hl⟩:=g.row l T t xs (by rw[h.hm l x hm'];simp) hx
   obtain⟨zs,hz,hl'⟩:=h.row l T t ys hm hy
   exact⟨zs,hz,hl'.trans hl⟩⟩
theorem Rel.ext {w w':World}{K K':Nat->Prop}{m m':Nat->Option (Option Nat)}{H H':Heap}(E:Ext w K m H w' K' m' H'){a:AV}{v:Value}
  (h:Rel w K m H a v):Rel w' K' m' H' a v:=by
 induction h with
 | dead v=>exact .dead v
 | d x v h=>exact .d x v (h.ext E.hK E.keep)
 | fl t xs a n h=>exact .fl t xs a n (h.ext E.hK E.keep)
 | own0 l t a h=>exact .own0 l t a (E.hm _ _ h)
 | own l t b n cap h hn hcap hs =>
   obtain⟨T,sz,hs,hle⟩:=hs
   refine .own l t b n cap (E.hm _ _ h) (fun T xs hx=>?_) hcap ⟨T,sz,E.shape _ _ hs,hle⟩
   obtain⟨ys,hy,hl⟩:=E.row l T t xs (by rw[h];simp) hx
   rw[hn T ys hy,hl]
 | view0 l t off a=>exact .view0 l t off a
 | view l t b off len cap h hcap hs =>
   obtain⟨T,sz,hs,hle⟩:=hs
   exact .view l t b off len cap (E.hm _ _ h) hcap ⟨T,sz,E.shape _ _ hs,hle⟩
 | ptr l f b h=>exact .ptr l f b (E.hm _ _ h)
 | eptr l t i f b h=>exact .eptr l t i f b (E.hm _ _ h)
 | ip ds b off u hb hc hr =>
   refine .ip ds b off u (E.hK _ hb) (fun j d hd=>?_) (fun j d hd=>(hr j d hd).ext E.hK E.keep)
   rw[World.cell?_of_block (w:=w) (E.keep b hb)]
   exact hc j d hd
 | agg cs vs hl h ih=>exact .agg cs vs hl ih
 | tup cs vs hl h ih=>exact .tup cs vs hl ih
 | clo fn fs cs us vs hf hl h1 h2 ih1 ih2=>exact .clo fn fs cs us vs hf hl ih1 ih2
 | mp l b h=>exact .mp l b (E.hm _ _ h)
def BlkRel (w:World)(K:Nat->Prop)(m:Nat->Option (Option Nat))(H:Heap)(l:Nat):ABlk->Prop
 | .box cells=>∃ b cs T,m l=some (some b)/\w.heap[b]?=some (.cells cs T (0,0))/\cs.size=cells.length/\∀ (i:Nat) (x:AV) (v:Value),cells[i]?=some x->cs[i]?=some v->Rel w K m H x v
 | .row T t xs=>(m l=some none/\xs=[])\/∃ b cs,m l=some (some b)/\w.heap[b]?=some (.cells cs T (0,0))/\xs.length*t.size<=cs.size /\
  ∀ i x j d,xs[i]?=some x->(enc t x)[j]?=some d->∃ v,cs[i*t.size+j]?=some v/\RelD w K d v
 | .mp tk tv kvs=>∃ b es clock,m l=some (some b)/\w.heap[b]?=some (.map es clock)/\es.size=kvs.length /\
  ∀ (i:Nat) kv e,kvs[i]?=some kv->es[i]?=some e->Rel w K (fun _=>none) [] (AV.ofTy tk kv.1) e.key/\Rel w K (fun _=>none) [] (AV.ofTy tv kv.2) e.val
theorem Ext.bare {w w':World}{K K':Nat->Prop}{m m':Nat->Option (Option Nat)}{H H':Heap}(e:Ext w K m H w' K' m' H'):Ext w K (fun _=>none) [] w' K' (fun _=>none) []:=
 ⟨e.hK,e.keep,fun _ _ h=>h,e.shape,fun l T t xs h=>absurd rfl h⟩
def GOk (w:World)(K:Nat->Prop):Prop:=∀ p∈glb,K p.1/\∃ T,w.heap[p.1]?=some (.cells p.2 T (0,0))
theorem GOk.ext {w w':World}{K K':Nat->Prop}(h:GOk w K)(hK:∀ b,K b->K' b)(hw:∀ b,K b->w'.heap[b]?=w.heap[b]?):GOk w' K':=fun p hp=>by
 obtain⟨h1,T,h2⟩:=h p hp
 exact⟨hK _ h1,T,by rw[hw _ h1];exact h2⟩
structure Entry where
 w:World
 K:Nat->Prop
 m:Nat->Option (Option Nat)
 n:Nat
structure Mem (E:Entry) (w:World) (K:Nat->Prop) (m:Nat->Option (Option Nat)) (H:Heap) (free:Nat->Prop):Prop where
 os:w.os=E.w.os
 tape:w.tape=E.w.tape
 output:w.output=E.w.output
 size:E.w.heap.size<=w.heap.size
 keep:∀ b,b<E.w.heap.size->(∀ l,l<E.n->E.m l≠some (some b))->w.heap[b]?=E.w.heap[b]?
 Kmono:∀ b,E.K b->K b
 Klt:∀ b,K b->b<w.heap.size
 Knew:∀ b,K b->E.K b\/E.w.heap.size<=b\/∃ l,l<E.n/\E.m l=some (some b)
 mold:∀ l,l<E.n->m l=E.m l
 mnew:∀ l b,E.n<=l->m l=some (some b)->E.w.heap.size<=b\/∃ k,k<E.n/\E.m k=some (some b)
 mlt:∀ l b,m l=some (some b)->b<w.heap.size
 mfree:∀ l,free l->m l=none
 fnew:∀ l,free l->E.n<=l
 heap:∀ l blk,H.get l=some blk->BlkRel w K m H l blk
 own:∀ l blk b,H.get l=some blk->m l=some (some b)->¬ K b
 inj:∀ l l' blk blk' b,H.get l=some blk->H.get l'=some blk'->m l=some (some b)->m l'=some (some b)->l=l'
 shape:∀ b s,E.w.shape? b=some s->w.shape? b=some s
 frozen:∀ b,E.K b->w.heap[b]?=E.w.heap[b]?
 gok:GOk w K
end Go.VL

namespace Go.VL
def pur {α:Type}(P:Program):Sem α->Option α
 | .pure a=>some a
 | .program k=>pur P (k P)
 | .mark _ k=>pur P k
 | _=>none
theorem vG {α:Type}{P:Program}{s:Sem α}{a:α}(h:pur P s=some a)(w:World):s.run P w=.ok a w:=by
 induction s with
 | pure b=>simp[pur]at h;subst h;rfl
 | program k ih=>simp only[Sem.run];exact ih P (by simpa[pur]using h)
 | mark m k ih=>simp only[Sem.run];exact ih (by simpa[pur]using h)
 | _=>simp[pur]at h
structure Eff where
 v:AV
 need:Prop
 rd:List Nat
 wr:List (Nat×Option ABlk)
def Heap.app (H:Heap)(wr:List (Nat×Option ABlk)):Heap:=wr.foldl (fun H p=>H.put p.1 p.2) H
abbrev bY:=TypeId->Option Ty
def eV (P:Program)(t:TypeId):Option Nat:=(P.info? t).map (·.size)
def xw (P:Program)(t:TypeId):Bool:=match eV P t with|some n=>n != 0|none=>false
def kq (P:Program)(t:TypeId)(te:Ty):Bool:=match P.info? t with|some i=>(match i.zero with|some z=>z.cells.size==te.size|none=>false)|none=>false
def rc (P:Program)(t:TypeId)(i:Nat):Option Field:=match P.underlying t with|some (.struct fs)=>fs[i]? | _=>none
def gp (P:Program)(t:TypeId):Option TypeId:=match P.underlying t with|some (.slice e)=>some e|_=>none
def AV.cells:AV->List AV
 | .agg cs=>cs
 | a=>[a]
def mf (P:Program)(t:TypeId)(cs:List AV)(off:Nat):Option AV:=
 match P.underlying t,P.info? t with
 | some u, some i => match u with
   | .struct _ | .array _ _=>bif Nat.ble (off+i.size) cs.length then some (.agg ((cs.drop off).take i.size))else none
   | _=>bif i.size==1 then cs[off]? else none
 | _,_=>none
def AV.known:AV->Bool
 | .dead | .d (.v (.agg _))=>false
 | _=>true
def AV.one:AV->Bool
 | .d (.v (.agg _)) | .d (.v (.tuple _)) | .dead | .agg _ | .tup _=>false
 | _=>true
structure Sls (t:Ty) where
 xs:List t.ty
 need:Prop
 rd:List Nat
def AV.sls (H:Heap)(t:Ty):AV->Option (Sls t)
 | .d x=>(x.asSl t).map fun xs=>⟨xs,True,[]⟩
 | .fl t' xs=>if h:t'=t then some ⟨h ▸ xs,True,[]⟩else none
 | .own l t'=>if t'=t then
  (match H.get l with
  | some (.row _ t2 xs)=>if h2:t2=t then some ⟨h2 ▸ xs,True,[l]⟩else none
  | _=>none)else none
 | .view l t' off len=>if t'=t then
  (match H.get l with
  | some (.row _ t2 xs)=>if h2:t2=t then some ⟨((h2 ▸ xs).drop off).take len,off+len<=xs.length,[l]⟩else none
  | _=>none)else none
 | _=>none
def AV.len? (H:Heap):AV->Option (Nat×Prop×List Nat)
 | .d (.sl _ xs)=>some (xs.length,True,[])
 | .d (.v (.slice none 0 0))=>some (0,True,[])
 | .fl _ xs=>some (xs.length,True,[])
 | .own l t => match H.get l with
   | some (.row _ t' xs)=>if t'=t then some (xs.length,True,[l])else none
   | _=>none
 | .view _ _ _ len=>some (len,True,[])
 | _=>none
def AV.flt?:AV->Option Fl
 | .d (.f o)=>some o
 | .d (.v (.float .f64 b))=>some (some b)
 | _=>none
def AV.int?:AV->Option Int
 | .d (.v (.int _ n))=>some n
 | _=>none
def AV.bool?:AV->Option Bool
 | .d (.v (.bool b))=>some b
 | _=>none
abbrev AV.ofV (x:Value):AV:=.d (.v x)
def AV.toD (H:Heap):AV->Option (D×Prop×List Nat)
 | .d x=>some (x,True,[])
 | .fl t xs=>some (.sl t xs,True,[])
 | .own l t => match H.get l with
   | some (.row _ t' xs)=>if t'=t then some (.sl t' xs,True,[l])else none
   | _=>none
 | .view l t off len => match H.get l with
   | some (.row _ t' xs)=>if t'=t then some (.sl t' ((xs.drop off).take len),off+len<=xs.length,[l])else none
   | _=>none
 | _=>none
def nL (H:Heap):List AV->Option (List D×Prop×List Nat)
 | []=>some ([],True,[])
 | a::as=>(a.toD H).bind fun(d,p,l)=>(nL H as).map fun(ds,q,ls)=>(d::ds,p/\q,l++ls)
def dx {α:Type}(cs:List α)(off:Nat)(new:List α):List α:=cs.take off++(new++cs.drop (off+new.length))
def Fl.cmp (a b:Fl):Option Ordering:=a.bind fun x=>b.bind fun y=>FloatKind.f64.format.order x y
def Fl.arith (op:BinOp)(a b:Fl):Fl:=a.bind fun x=>b.bind fun y=>match op with
 | .add=>FloatKind.f64.format.add x y
 | .sub=>FloatKind.f64.format.sub x y
 | .mul=>FloatKind.f64.format.mul x y
 | .quo=>FloatKind.f64.format.div x y
 | _=>none
def Fl.test (op:BinOp)(a b:Fl):Option Bool:=
 match op with
 | .eql=>some (Fl.cmp a b==some .eq)
 | .neq=>some (Fl.cmp a b != some .eq)
 | .lss=>some (Fl.cmp a b==some .lt)
 | .leq=>some (Fl.cmp a b==some .lt||Fl.cmp a b==some .eq)
 | .gtr=>some (Fl.cmp a b==some .gt)
 | .geq=>some (Fl.cmp a b==some .gt||Fl.cmp a b==some .eq)
 | _=>none
def eD:List AV->List AV->Option Bool
 | [],[]=>some true
 | .d (.v (.int k a))::xs,.d (.v (.int k' b))::ys=>if k=k' then(eD xs ys).map fun r=>(a==b)&&r else none
 | .d (.v (.bool a))::xs,.d (.v (.bool b))::ys=>(eD xs ys).map fun r=>(a==b)&&r
 | _,_=>none
def tN (P : Program) (t : TypeId) (cs : List AV) : Bool := match P.underlying t with
 | some (.struct fs) => !P.stoodInHeld t && !P.eqGuardType P.depth t && eqFs P 0 fs.toList cs
 | some (.array n e) => !P.eqGuardType P.depth t && (P.cellsOf e == 1 && ((P.info? e).isSome && (n == cs.length && eqAs P e cs)))
 | _ => false
  where
 eqAs (P : Program) (e : TypeId) : List AV → Bool
  | [] => true
  | .d (.v (.int _ _)) :: cs => (match P.underlying e with | some (.int _) => true | _ => false) && eqAs P e cs
  | _ :: _ => false
 eqFs (P : Program) : Nat → List Field → List AV → Bool
  | _, [], [] => true
  | i, f :: fs, c :: cs => f.offset == i && f.name != "_" && (match P.underlying f.type, c with | some (.int _), .d (.v (.int _ _)) => true | some .bool, .d (.v (.bool _)) => true | _, _ => false) && eqFs P (i + 1) fs cs
  | _, _, _ => false
def eqZ:D->Value->Bool
 | .v (.int k a),.int k' b=>decide (k=k')&&a==b
 | .v (.bool a),.bool b=>a==b
 | .sl _ [],.slice none 0 0=>true
 | _,_=>false
def Hk:List D->List Value->Bool
 | [],[]=>true
 | d::ds,v::vs=>eqZ d v&&Hk ds vs
 | _,_=>false
def nF (P:Program)(e:TypeId)(te:Ty):Bool:=match P.info? e with
 | some i=>(match i.zero with|some z=>Hk (enc te te.dflt) z.cells.toList|none=>false)
 | none=>false
def HA (H:Heap)(te:Ty):AV->Option Eff
 | .view l t' off len=>if t'=te then
  (match H.get l with
  | some (.row T t2 xs)=>if h2:t2=te then some ⟨.tup [],off+len<=xs.length,[l],[(l,some (.row T te (dx (h2 ▸ xs:List te.ty) off (List.replicate len te.dflt))))]⟩else none
  | _=>none)else none
 | _=>none
def GU (P:Program)(t:TypeId):Bool:=match P.underlying t with|some (.array _ _)=>true|_=>false
def qR:List AV->Option (List D)
 | []=>some []
 | .d d::as=>(qR as).map (d::·)
 | _::_=>none
def MF (te:Ty):Nat->List D->Option (List te.ty)
 | 0,_=>some []
 | n+1,ds=>(dec te (ds.take te.size)).bind fun x=>(MF te n (ds.drop te.size)).map (x::·)
def Ag (n:Nat):Option AV->Bool
 | none=>true
 | some a=>a.int?==some (n:Int)
def Ca (H:Heap):AV->Option (Nat×List AV)
 | .ptr l 0 => match H.get l with
   | some (.box cs)=>some (l,cs)
   | _=>none
 | _=>none
def pq (P:Program)(C:bY)(H:Heap)(t:TypeId)(a:AV)(lo hi mx:Option AV):Option Eff:=match P.underlying t with
 | some (.array n el) => (C el).bind fun te => bif eV P el == some te.size && (lo.isNone && (Ag n hi && (Ag n mx && (hi.isSome || mx.isNone)))) then
   (Ca H a).bind fun(l,cs)=>bif cs.length==n*te.size then(qR cs).bind fun ds=>(MF te n ds).map fun xs=>⟨.d (.sl te xs),True,[l],[(l,none)]⟩else none
   else none
 | _=>none
def AW (P:Program)(C:bY)(nm:Nat)(t:TypeId)(l c:AV):Option Eff:=
 (gp P t).bind fun e=>(C e).bind fun te=>(P.info? e).bind fun i=>l.int?.bind fun n=>c.int?.bind fun m=>
  bif nF P e te&&i.size==te.size then some ⟨.own nm te,0<=n/\n<=m/\m.toNat*(i.bytes+1)<=35184372088832,[nm],[(nm,some (.row e te (List.replicate n.toNat te.dflt)))]⟩else none
def eff (v:AV):Option Eff:=some ⟨v,True,[],[]⟩
def Ko (P:Program)(op:BinOp)(t:TypeId)(a b:AV):Option Eff:=
 match a.flt?,b.flt? with
 | some x, some y => match op with
   | .add | .sub | .mul | .quo=>eff (.d (.f (Fl.arith op x y)))
   | _=>(Fl.test op x y).bind fun r=>eff (.ofV (.bool r))
 | _, _ => match a, b with
   | .d (.v (.int k x)), .d (.v (.int k' y)) => match op with
     | .quo | .rem=>if k=k' then some ⟨.ofV (.int k (match op with | .quo=>k.wrap (x.tdiv y)|_=>x.tmod y)),y≠0,[],[]⟩else none
     | .shl=>some ⟨.ofV (.int k (k.wrap (x*2^(min y.toNat k.bits)))),0<=y,[],[]⟩
     | .shr=>some ⟨.ofV (.int k (x.fdiv (2^(min y.toNat k.bits)))),0<=y,[],[]⟩
     | _=>(pur P (binOp op t (.int k x) (.int k' y))).bind fun r=>eff (.ofV r)
   | .d (.v x), .d (.v y) => match x with
     | .string _ | .bool _ | .nilFunc=>(pur P (binOp op t x y)).bind fun r=>eff (.ofV r)
     | _=>none
   | _,_=>none
def Gl:List AV->Option AV
 | [.d (.v (.int k x)),.d (.v (.int _ y))]=>some (.ofV (.int k (if y<x then y else x)))
 | _=>none
def Gn:List AV->Option AV
 | [.d (.v (.int k x)),.d (.v (.int _ y))]=>some (.ofV (.int k (if y>x then y else x)))
 | _=>none
def tQ (P:Program)(t:TypeId):Option (List AV):=(P.info? t).bind fun i=>i.zero.map fun z=>z.cells.toList.map fun v=>.d (.v v)
def vc (P:Program)(fs:Array Field):List AV->List (Nat×AV)->Option (List AV)
 | cs,[]=>some cs
 | cs, (i, x) :: rest => match fs[i]? with
   | some f=>(eV P f.type).bind fun n=>bif x.known&&x.cells.length==n&&Nat.ble (f.offset+n) cs.length then vc P fs (dx cs f.offset x.cells) rest else none
   | none=>none
def Au (xs:List Int):ByteArray:=xs.foldl (fun r n=>r.push (UInt8.ofNat n.toNat)) ByteArray.empty
def vI (P:Program)(t:TypeId)(a b:AV):Bool:=match P.underlying t with
 | some (.pointer _)=>(match a with | .ptr .. | .eptr .. | .ip ..=>true|_=>false)&&(match b with | .d (.v (.pointer none))=>true|_=>false)
 | _=>false
def gN (P:Program)(t:TypeId):Option (Nat×TypeId):=match P.underlying t with|some (.array n e)=>some (n,e)|_=>none
def wD (P:Program)(ix:AV)(t:TypeId):Option (Nat×Int):=(gN P t).bind fun p=>ix.int?.map fun k=>(p.1,k)
def OS:List D->Option IntKind
 | .v (.int k _)::_=>some k
 | _=>none
def sF (k:IntKind):List D->Option (List Int)
 | []=>some []
 | .v (.int k' n)::ds=>if k'=k then(sF k ds).map (n::·)else none
 | _::_=>none
def Gb (ds:List D):Option (IntKind×List Int):=(OS ds).bind fun k=>(sF k ds).map fun ns=>(k,ns)
theorem sE {k:IntKind}:∀ {ds:List D} {ns:List Int},sF k ds=some ns->ds=ns.map fun n=>D.v (.int k n)
 | [],ns,h=>by simp[sF]at h;subst h;rfl
 | d :: ds, ns, h => by
   cases d with
   | v x =>
     cases x with
     | int k' n =>
       simp only[sF]at h
       split at h
       ·rename_i hk
        subst hk
        obtain⟨ms,hm,rfl⟩:=ae.1 h
        rw[sE hm];rfl
       ·cases h
     | _=>simp[sF]at h
   | _=>simp[sF]at h
def vl (P:Program)(x:AV)(t:TypeId)(k:Int):Option Eff:=(gN P t).bind fun p=>(eV P p.2).bind fun sz=>match x with
 | .ptr l f=>some ⟨.ptr l (f+k.toNat*sz),0<=k/\k<(p.1:Int),[],[]⟩
 | .ip ds => match Gb ds with
   | some q=>bif sz==1&&q.2.length==p.1 then some ⟨.ip [.v (.int q.1 (q.2.getD k.toNat 0))],0<=k/\k<(p.1:Int),[],[]⟩else none
   | none=>some ⟨.ip (ds.drop (k.toNat*sz)),0<=k/\k<(p.1:Int),[],[]⟩
 | _=>none
def vk (P:Program)(x:AV)(t:TypeId)(k:Int):Option Eff:=(gN P t).bind fun p=>(eV P p.2).bind fun sz=>match x with
 | .agg cs=>(mf P p.2 cs (k.toNat*sz)).map fun v=>⟨v,0<=k/\k<(p.1:Int),[],[]⟩
 | _=>none
def HZ (el : TypeId) (n sz : Nat) : Array Field := ((List.range n).map fun i => (⟨"", el, i * sz, false, "", "", 0⟩ : Field)).toArray
abbrev fH (w:World)(K:Nat->Prop)(a:AV)(v:Value):Prop:=Rel w K (fun _=>none) [] a v
def AV.isAgg:AV->Bool
 | .agg _=>true
 | _=>false
def AV.toTy (H:Heap)(t:Ty)(a:AV):Option (t.ty×Prop×List Nat):=
 bif a.isAgg == !t.flat then(nL H a.cells).bind fun(ds,p,fz)=>(dec t ds).map fun x=>(x,p,fz)else none
def wJ (P:Program)(e:TypeId)(te:Ty):Bool:=match P.info? e with
 | some i => (match i.zero with
   | some z=>bif te.flat then eqZ ((enc te te.dflt).headD .nil) z else(match z with | .agg cs=>Hk (enc te te.dflt) cs.toList|_=>false)
   | none=>false)
 | none=>false
def lx {α:Type}(n:Int):List (Int×α)->Option α
 | []=>none
 | kv::l=>bif kv.1==n then some kv.2 else lx n l
def nl {α:Type}(n:Int)(x:α):List (Int×α)->List (Int×α)
 | []=>[(n,x)]
 | kv::l=>bif kv.1==n then(n,x)::l else kv::nl n x l
def xI (P:Program)(C:bY)(t:TypeId):Option (TypeId×Ty):=match P.underlying t with
 | some (.map k e) => match P.underlying k with
   | some (.int .i64)=>(C e).bind fun tv=>bif wJ P e tv then some (e,tv)else none
   | _=>none
 | _=>none
def se (P:Program)(C:bY)(nm:Nat)(t:TypeId):Option Eff:=(xI P C t).map fun p=>⟨.mp nm,True,[nm],[(nm,some (.mp .int p.2 []))]⟩
def uQ (P:Program)(C:bY)(H:Heap)(t:TypeId)(x ix:AV)(ok:Bool):Option Eff:=(xI P C t).bind fun p=>match x,ix with
 | .mp l, .d (.v (.int .i64 n)) => match H.get l with
   | some (.mp .int tv kvs)=>if tv=p.2 then some ⟨bif ok then .tup [AV.ofTy tv ((lx n kvs).getD tv.dflt),.ofV (.bool (lx n kvs).isSome)]else AV.ofTy tv ((lx n kvs).getD tv.dflt),True,[l],[]⟩else none
   | _=>none
 | _,_=>none
def ln (P:Program)(C:bY)(H:Heap)(t:TypeId)(x ix v:AV):Option Eff:=(xI P C t).bind fun p=>match x,ix with
 | .mp l, .d (.v (.int .i64 n)) => match H.get l with
   | some (.mp .int tv kvs)=>if tv=p.2 then(v.toTy H tv).bind fun q=>bif q.2.2.isEmpty then some ⟨.dead,q.2.1,[l],[(l,some (.mp .int tv (nl n q.1 kvs)))]⟩else none else none
   | _=>none
 | _,_=>none
def opE (P:Program)(C:bY)(ρ:Operand->AV)(H:Heap)(nm:Nat)(o:Oper):Option Eff:=
 match o.op with
 | .move x | .assign x=>eff (ρ x)
 | .pick c a b => (ρ c).bool?.bind fun c => match (ρ a).bool?, (ρ b).bool? with
   | some x,some y=>eff (.ofV (.bool (bif c then x else y)))
   | some x,none=>bif c then eff (.ofV (.bool x))else none
   | none,some y=>bif c then none else eff (.ofV (.bool y))
   | none,none=>none
 | .alloc t=>(tQ P t).map fun cs=>⟨.ptr nm 0,True,[nm],[(nm,some (.box cs))]⟩
 | .box _ x=>bif (ρ x).known then some ⟨.ptr nm 0,True,[nm],[(nm,some (.box (ρ x).cells))]⟩else none
 | .build t parts => match P.underlying t with
   | some (.struct fs)=>bif fs.toList.all fun f=>(eV P f.type).isSome then(tQ P t).bind fun z=>(vc P fs z (parts.toList.map fun p=>(p.1,ρ p.2))).bind fun cs=>eff (.agg cs)else none
   | some (.array n el)=>(eV P el).bind fun sz=>(tQ P t).bind fun z=>(vc P (HZ el n sz) z (parts.toList.map fun p=>(p.1,ρ p.2))).bind fun cs=>eff (.agg cs)
   | _=>none
 | .load t a => match ρ a with
   | .ptr l f => match H.get l with
     | some (.box cells)=>(mf P t cells f).map fun v=>⟨v,True,[l],[]⟩
     | _=>none
   | .eptr l t' i f => match H.get l with
     | some (.row _ t2 xs)=>if t'=t2 then(mf P t ((enc t2 (xs.getD i t2.dflt)).map .d) f).map fun v=>⟨v,i<xs.length,[l],[]⟩else none
     | _=>none
   | .ip ds=>(mf P t (ds.map .d) 0).bind eff
   | _=>none
 | .store t a x => match eV P t, ρ a with
   | some n, .ptr l f => match H.get l with
     | some (.box cells)=>bif (ρ x).cells.length==n&&Nat.ble (f+n) cells.length&&(ρ x).cells.all AV.one then some ⟨.dead,True,[l],[(l,some (.box (dx cells f (ρ x).cells)))]⟩else none
     | _=>none
   | some n, .eptr l t' i f => match H.get l with
     | some (.row T t2 xs) => if t' = t2 then
       (nL H (ρ x).cells).bind fun(ds,p,fz)=>bif ds.length==n&&Nat.ble (f+n) t2.size&&(ρ x).cells.all AV.one&&fz.all (· != l)then
        (dec t2 (dx (enc t2 (xs.getD i t2.dflt)) f ds)).map fun y=>⟨.dead,i<xs.length/\p,l::fz,(fz.map fun k=>(k,none))++[(l,some (.row T t2 (xs.set i y)))]⟩
       else none
       else none
     | _=>none
   | _,_=>none
 | .nilCheck x => match ρ x with
   | .ptr .. | .eptr .. | .ip ..=>eff (ρ x)
   | .clo (.func f) fs cs=>eff (.clo (.func f) fs cs)
   | _=>none
 | .binOp op t x y _ => match ρ x, ρ y with
   | .agg xs, .agg ys => bif tN P t xs then (match op with
     | .eql=>(eD xs ys).bind fun r=>eff (.ofV (.bool r))
     | .neq=>(eD xs ys).bind fun r=>eff (.ofV (.bool (!r)))
     | _=>none)else none
   | a, b => bif vI P t a b then (match op with
     | .eql=>eff (.ofV (.bool false))
     | .neq=>eff (.ofV (.bool true))
     | _=>none)else Ko P op t a b
 | .unOp op _ x => match ρ x with
   | .d (.v v)=>(pur P (Op.unary op v)).bind fun r=>eff (.ofV r)
   | _=>none
 | .convert s t x => match P.underlying s, P.underlying t, ρ x with
   | some (.int _),some (.int k),.d (.v (.int _ n))=>eff (.ofV (.int k (k.wrap n)))
   | some (.int _),some (.float .f64),.d (.v (.int _ n))=>eff (.d (.f (some (FloatKind.f64.nearest n))))
   | some (.string),some (.string),.d (.v (.string b))=>eff (.ofV (.string b))
   | some (.float .f64),some (.float .f64),a=>a.flt?.bind fun _=>eff a
   | some (.slice e), some (.string), a => match P.underlying e with
     | some (.int .u8)=>bif eV P e==some 1 then(a.sls H .u8).map fun(s:Sls .u8)=>⟨.ofV (.string (Au s.xs)),s.need,s.rd,[]⟩else none
     | _=>none
   | _,_,_=>none
 | .makeFunc fn fs cs=>eff (.clo fn (fs.toList.map ρ) (cs.toList.map ρ))
 | .fieldAddr t x f => (rc P t f).bind fun fd => bif xw P fd.type then match ρ x with
   | .ptr l f0=>eff (.ptr l (f0+fd.offset))
   | .eptr l t' i f0=>eff (.eptr l t' i (f0+fd.offset))
   | .ip ds=>eff (.ip (ds.drop fd.offset))
   | _=>none
   else none
 | .field t x f => (rc P t f).bind fun fd => match ρ x with
   | .agg cs=>(mf P fd.type cs fd.offset).bind eff
   | _=>none
 | .indexAddr t x ix => match wD P (ρ ix) t with
   | some p=>vl P (ρ x) t p.2
   | none => (gp P t).bind fun e => (C e).bind fun te => bif eV P e == some te.size then
     (ρ ix).int?.bind fun n=>match ρ x with
     | .own l t'=>if t'=te then(match H.get l with
      | some (.row _ t2 xs)=>if t2=te then some ⟨.eptr l te n.toNat 0,0<=n/\n<xs.length,[l],[]⟩else none
      | _=>none)else none
     | .view l t' off len=>if t'=te then some ⟨.eptr l te (off+n.toNat) 0,0<=n/\n<len,[],[]⟩else none
     | a=>(a.sls H te).map fun(s:Sls te)=>⟨.ip (enc te (s.xs.getD n.toNat te.dflt)),(0<=n/\n<s.xs.length)/\s.need,s.rd,[]⟩
   else none
 | .index t x ix => match wD P (ρ ix) t with
   | some p=>vk P (ρ x) t p.2
   | none=>match ρ x,ρ ix with
   | .d (.v (.string s)), .d (.v (.int _ n)) => match P.underlying t with
     | some .string=>some ⟨.ofV (.int .u8 ((s[n.toNat]?).getD 0).toNat),0<=n/\n<s.size,[],[]⟩
     | _=>none
   | _,_=>none
 | .extract x i => match ρ x with
   | .tup vs=>vs[i]?.bind eff
   | _=>none
 | .slice t x lo hi mx => bif GU P t then pq P C H t (ρ x) (lo.map ρ) (hi.map ρ) (mx.map ρ) else (gp P t).bind fun e => (C e).bind fun te => bif eV P e == some te.size then
   (match lo with|some v=>(ρ v).int? | none=>some 0).bind fun l=>match hi,mx with
   | none, none => (match ρ x with
     | .own k t' => if t' = te then (match H.get k with
       | some (.row _ t2 xs)=>if t2=te then some ⟨.view k te l.toNat (xs.length-l.toNat),0<=l/\l<=xs.length,[k],[]⟩else none
       | _=>none)else none
     | .view k t' off len=>if t'=te then some ⟨.view k te (off+l.toNat) (len-l.toNat),0<=l/\l<=len,[],[]⟩else none
     | a=>(a.sls H te).map fun(s:Sls te)=>⟨.d (.sl te (s.xs.drop l.toNat)),(0<=l/\l<=s.xs.length)/\s.need,s.rd,[]⟩)
   | none,some _=>none
   | some hv, none => (ρ hv).int?.bind fun h => (match ρ x with
     | .own k t' => if t' = te then (match H.get k with
       | some (.row _ t2 xs)=>if t2=te then some ⟨.view k te l.toNat (h.toNat-l.toNat),0<=l/\l<=h/\h<=xs.length,[k],[]⟩else none
       | _=>none)else none
     | .view k t' off len=>if t'=te then some ⟨.view k te (off+l.toNat) (h.toNat-l.toNat),0<=l/\l<=h/\h<=len,[],[]⟩else none
     | a=>(a.sls H te).map fun(s:Sls te)=>⟨.d (.sl te ((s.xs.take h.toNat).drop l.toNat)),(0<=l/\l<=h/\h<=s.xs.length)/\s.need,s.rd,[]⟩)
   | some hv, some mv => (ρ hv).int?.bind fun h => (ρ mv).int?.bind fun m => (match ρ x with
     | .own k t' => if t' = te then (match H.get k with
       | some (.row _ t2 xs)=>if t2=te then some ⟨.view k te l.toNat (h.toNat-l.toNat),0<=l/\l<=h/\h<=m/\m<=xs.length,[k],[]⟩else none
       | _=>none)else none
     | .view k t' off len=>if t'=te then some ⟨.view k te (off+l.toNat) (h.toNat-l.toNat),0<=l/\l<=h/\h<=m/\m<=len,[],[]⟩else none
     | a=>(a.sls H te).map fun(s:Sls te)=>⟨.fl te ((s.xs.take h.toNat).drop l.toNat),(0<=l/\l<=h/\h<=s.xs.length/\m=h)/\s.need,s.rd,[]⟩)
   else none
 | .buildSlice t len parts => (gp P t).bind fun e => (C e).bind fun te => bif eV P e == some te.size && parts.size == len && Nat.ble (len * te.size) 1000 && kq P e te then
   (build te 0 (parts.toList.map fun p=>(p.1,ρ p.2))).map fun(xs,p,fz)=>⟨.own nm te,p,nm::fz,(fz.map fun k=>(k,none))++[(nm,some (.row e te xs))]⟩
   else none
 | .makeSlice t l c=>AW P C nm t (ρ l) (ρ c)
 | .makeMap t none=>se P C nm t
 | .lookup t x ix ok=>uQ P C H t (ρ x) (ρ ix) ok
 | .mapUpdate t x k v=>ln P C H t (ρ x) (ρ k) (ρ v)
 | .insert t x k v=>ln P C H t (ρ x) (ρ k) (ρ v)
 | .call { callee := .builtin b, args, argTypes } => match b with
   | .len => match argTypes.toList, args.toList with
     | [t], [x] => match ρ x with
       | .d (.v (.string s))=>(match P.underlying t with|some .string=>eff (.ofV (.int .i64 s.size))|_=>none)
       | a=>(match P.underlying t with|some (.slice _)=>(a.len? H).map fun(n,p,r)=>⟨.ofV (.int .i64 n),p,r,[]⟩|_=>none)
     | _,_=>none
   | .min=>(Gl (args.toList.map ρ)).bind eff
   | .max=>(Gn (args.toList.map ρ)).bind eff
   | .clear => match argTypes.toList, args.toList with
     | [t],[x]=>(gp P t).bind fun e=>(C e).bind fun te=>bif nF P e te then HA H te (ρ x)else none
     | _,_=>none
   | .append => match argTypes.toList, args.toList with
     | [t, t2], [x, y] => bif t == t2 then (gp P t).bind fun e => (C e).bind fun te => (P.info? e).bind fun i =>
       bif i.size==te.size&&kq P e te then
        ((ρ y).sls H te).bind fun(s:Sls te)=>match ρ x with
        | .d (.v (.slice none 0 0))=>some ⟨.own nm te,(s.xs.length*(i.bytes+1)<=35184372088832)/\s.need,nm::s.rd,[(nm,some (.row e te s.xs))]⟩
        | .own l t' => if t' = te then (match H.get l with
          | some (.row T2 t2 xs)=>if h2:t2=te then bif T2==e then some ⟨.own nm te,((xs.length+s.xs.length)*(i.bytes+1)<=35184372088832)/\s.need,nm::l::s.rd,[(l,none),(nm,some (.row e te ((h2 ▸ xs)++s.xs)))]⟩else none else none
          | _=>none)else none
        | .view l t' off len => if t' = te then (match H.get l with
          | some (.row T2 t2 xs)=>if h2:t2=te then bif T2==e then some ⟨.own nm te,(off=0/\len<=xs.length/\(len+s.xs.length)*(i.bytes+1)<=35184372088832)/\s.need,nm::l::s.rd,[(l,none),(nm,some (.row e te ((h2 ▸ xs:List te.ty).take len++s.xs)))]⟩else none else none
          | _=>none)else none
        | .fl t' xs=>if h:t'=te then some ⟨.own nm te,((xs.length+s.xs.length)*(i.bytes+1)<=35184372088832/\(0<s.xs.length\/xs=[]))/\s.need,nm::s.rd,[(nm,some (.row e te ((h ▸ xs)++s.xs)))]⟩else none
        | _=>none
       else none
       else none
     | _,_=>none
   | _=>none
 | _=>none
  where
 build (te:Ty):Nat->List (Nat×AV)->Option (List te.ty×Prop×List Nat)
  | _,[]=>some ([],True,[])
  | k,(i,x)::rest=>bif i==k then(nL H x.cells).bind fun(ds,p,fz)=>(dec te ds).bind fun y=>(build te (k+1) rest).map fun(ys,q,gz)=>(y::ys,p/\q,fz++gz)else none
end Go.VL

namespace Go.VL
variable {P:Program} {E:Entry} {w:World} {K:Nat->Prop} {m:Nat->Option (Option Nat)} {H:Heap} {free:Nat->Prop}
def upd (m:Nat->Option (Option Nat))(l:Nat)(x:Option Nat):Nat->Option (Option Nat):=fun k=>if k=l then some x else m k
theorem bA (m:Nat->Option (Option Nat))(l:Nat)(x:Option Nat):upd m l x l=some x:=by simp[upd]
theorem cD (m:Nat->Option (Option Nat)){l k:Nat}(x:Option Nat)(h:k≠l):upd m l x k=m k:=by simp[upd,h]
theorem rG (w:World)(o:Obj)(b:Nat)(s:TypeId×Nat)(h:w.shape? b=some s):(w.alloc o).shape? b=some s:=by
 have hb:b<w.heap.size:=by
  rcases ay b w.heap.size with h1|h1
  ·exact h1
  ·simp[World.shape?,bT h1]at h
 unfold World.shape? at h ⊢
 rw[RowKit.Below.heap_alloc w o b hb]
 exact h
theorem pb (w:World)(o:Obj):(w.alloc o).heap[w.heap.size]?=some o:=by
 show(w.heap.push o)[w.heap.size]?=some o
 simp
theorem Heap.get_put_row {H:Heap}{l k:Nat}{b:Option ABlk}{T:TypeId}{t:Ty}{xs:List t.ty}(hk:k≠l)(h:(H.put l b).get k=some (.row T t xs)):H.get k=some (.row T t xs):=by
 rw[Heap.get_put H hk]at h;exact h
theorem Ext.del (w:World)(K:Nat->Prop)(m:Nat->Option (Option Nat))(H:Heap)(l:Nat):Ext w K m H w K m (H.put l none):=
 ⟨fun _ h=>h,fun _ _=>rfl,fun _ _ h=>h,fun _ _ h=>h,fun k T t xs _ h=>by
  by_cases hk:k=l
  ·subst hk;rw[Heap.get_put_self]at h;cases h
  ·exact⟨xs,Heap.get_put_row hk h,rfl⟩⟩
theorem BlkRel.ext {w':World}{K':Nat->Prop}{m':Nat->Option (Option Nat)}{H':Heap}(e:Ext w K m H w' K' m' H'){l:Nat}{blk:ABlk}(h:BlkRel w K m H l blk)
  (hk:∀ b,m l=some (some b)->w'.heap[b]?=w.heap[b]?):BlkRel w' K' m' H' l blk:=by
 cases blk with
 | box cells =>
   obtain⟨b,cs,T,hm,hw,hs,hr⟩:=h
   exact⟨b,cs,T,e.hm _ _ hm,by rw[hk b hm];exact hw,hs,fun i x v hx hv=>(hr i x v hx hv).ext e⟩
 | row T t xs =>
   rcases h with⟨hm,hx⟩|⟨b,cs,hm,hw,hs,hr⟩
   ·exact .inl ⟨e.hm _ _ hm,hx⟩
   ·refine .inr ⟨b,cs,e.hm _ _ hm,by rw[hk b hm];exact hw,hs,fun i x j d hx hd=>?_⟩
    obtain⟨v,hv,hr⟩:=hr i x j d hx hd
    exact⟨v,hv,hr.ext e.hK e.keep⟩
 | mp tk tv kvs =>
   obtain⟨b,es,c,hm,hw,hs,hr⟩:=h
   exact⟨b,es,c,e.hm _ _ hm,by rw[hk b hm];exact hw,hs,fun i kv x hx hv=>⟨(hr i kv x hx hv).1.ext e.bare,(hr i kv x hx hv).2.ext e.bare⟩⟩
theorem Mem.weaken {free':Nat->Prop}(h:Mem E w K m H free)(hf:∀ l,free' l->free l):Mem E w K m H free':=
 { h with mfree:=fun l hl=>h.mfree l (hf l hl),fnew:=fun l hl=>h.fnew l (hf l hl) }
theorem Mem.del (h:Mem E w K m H free)(l:Nat):Mem E w K m (H.put l none) free:=by
 have hg:∀ k blk,(H.put l none).get k=some blk->k≠l/\H.get k=some blk:=by
  intro k blk hk
  by_cases e:k=l
  ·subst e;rw[Heap.get_put_self]at hk;cases hk
  ·exact⟨e,by rw[Heap.get_put H e]at hk;exact hk⟩
 exact { h with
  heap:=fun k blk hk=>(h.heap k blk (hg k blk hk).2).ext (Ext.del w K m H l) (fun _ _=>rfl)
  own:=fun k blk b hk=>h.own k blk b (hg k blk hk).2
  inj:=fun k k' blk blk' b hk hk'=>h.inj k k' blk blk' b (hg k blk hk).2 (hg k' blk' hk').2 }
theorem Mem.newO (h:Mem E w K m H free){nm:Nat}(hn:free nm)(o:Obj)(blk:ABlk)
  (hb:∀ w' m' H',Ext w K m H w' K m' H'->m' nm=some (some w.heap.size)->w'.heap[w.heap.size]?=some o->BlkRel w' K m' H' nm blk) :
  Mem E (w.alloc o) K (upd m nm (some w.heap.size)) (H.put nm (some blk)) (fun l=>free l/\l≠nm) /\
   Ext w K m H (w.alloc o) K (upd m nm (some w.heap.size)) (H.put nm (some blk)):=by
 have hnm:=h.mfree nm hn
 have e:Ext w K m H (w.alloc o) K (upd m nm (some w.heap.size)) (H.put nm (some blk)):=
  ⟨fun _ hk=>hk,fun b hk=>RowKit.Below.heap_alloc w _ b (h.Klt b hk),fun l x hx=>by
    by_cases hl:l=nm
    ·subst hl;rw[hnm]at hx;cases hx
    ·rw[cD _ _ hl];exact hx,
   fun b s hs=>rG w _ b s hs,fun l T t xs hm hx=>by
    by_cases hl:l=nm
    ·subst hl;exact absurd hnm hm
    ·exact⟨xs,Heap.get_put_row hl hx,rfl⟩⟩
 refine⟨?_,e⟩
 have hg:∀ k b',(H.put nm (some blk)).get k=some b'->(k=nm/\b'=blk)\/(k≠nm/\H.get k=some b'):=by
  intro k b' hk
  by_cases hl:k=nm
  ·subst hl;rw[Heap.get_put_self]at hk;cases hk;exact .inl ⟨rfl,rfl⟩
  ·exact .inr ⟨hl,by rw[Heap.get_put H hl]at hk;exact hk⟩
 exact
  { os := h.os, tape := h.tape, output := h.output
    size:=by show _<=(w.heap.push _).size;rw[lR];have:=h.size;omega
    keep:=fun b hb1 hb2=>by rw[RowKit.Below.heap_alloc w _ b (by have:=h.size;omega)];exact h.keep b hb1 hb2
    Kmono:=h.Kmono
    Klt:=fun b hk=>by show b<(w.heap.push _).size;rw[lR];have:=h.Klt b hk;omega
    Knew:=h.Knew
    mold:=fun l hl=>by
     have:=h.fnew nm hn
     rw[cD _ _ (by omega)];exact h.mold l hl
    mnew:=fun l b hl hm=>by
     by_cases he:l=nm
     ·subst he;rw[bA]at hm;cases hm;exact .inl h.size
     ·rw[cD _ _ he]at hm;exact h.mnew l b hl hm
    mlt:=fun l b hm=>by
     show b<(w.heap.push _).size
     rw[lR]
     by_cases he:l=nm
     ·subst he;rw[bA]at hm;cases hm;omega
     ·rw[cD _ _ he]at hm;have:=h.mlt l b hm;omega
    mfree:=fun l hl=>by rw[cD _ _ hl.2];exact h.mfree l hl.1
    fnew:=fun l hl=>h.fnew l hl.1
    heap:=fun k b' hk=>by
     rcases hg k b' hk with⟨rfl,rfl⟩|⟨hne,hk'⟩
     ·exact hb _ _ _ e (bA _ _ _) (pb w _)
     ·exact(h.heap k b' hk').ext e (fun b hm=>RowKit.Below.heap_alloc w _ b (h.mlt k b hm))
    own:=fun k b' b hk hm hK=>by
     rcases hg k b' hk with⟨rfl,rfl⟩|⟨hne,hk'⟩
     ·rw[bA]at hm;cases hm;have:=h.Klt _ hK;omega
     ·rw[cD _ _ hne]at hm;exact h.own k b' b hk' hm hK
    inj:=fun k k' b1 b2 b hk hk' hm hm'=>by
     rcases hg k b1 hk with⟨rfl,rfl⟩|⟨hne,hk1⟩<;>rcases hg k' b2 hk' with⟨rfl,rfl⟩|⟨hne',hk2⟩
     ·rfl
     ·rw[bA]at hm;cases hm;rw[cD _ _ hne']at hm';have:=h.mlt k' _ hm';omega
     ·rw[bA]at hm';cases hm';rw[cD _ _ hne]at hm;have:=h.mlt k _ hm;omega
     ·rw[cD _ _ hne]at hm;rw[cD _ _ hne']at hm';exact h.inj k k' b1 b2 b hk1 hk2 hm hm'
    shape:=fun b s hs=>rG w _ b s (h.shape b s hs)
    frozen:=fun b hb=>(e.keep b (h.Kmono b hb)).trans (h.frozen b hb),gok:=h.gok.ext e.hK e.keep }
theorem Mem.new (h:Mem E w K m H free){nm:Nat}(hn:free nm)(cs:Array Value)(T:TypeId)(blk:ABlk)
 (hb:∀ w' m' H',Ext w K m H w' K m' H'->m' nm=some (some w.heap.size)->w'.heap[w.heap.size]?=some (.cells cs T (0,0))->BlkRel w' K m' H' nm blk) :
 Mem E (w.alloc (.cells cs T)) K (upd m nm (some w.heap.size)) (H.put nm (some blk)) (fun l=>free l/\l≠nm) /\
  Ext w K m H (w.alloc (.cells cs T)) K (upd m nm (some w.heap.size)) (H.put nm (some blk)):=h.newO hn (.cells cs T) blk hb
theorem Mem.writeO (h:Mem E w K m H free){l b:Nat}{blk0 blk:ABlk}(hl:H.get l=some blk0)(hm:m l=some (some b)){w':World}(hsb:w'.shape? b=w.shape? b)(hother:∀ k,k≠b->w'.heap[k]?=w.heap[k]?)
  (hsame:w'.os=w.os/\w'.tape=w.tape/\w'.output=w.output/\w'.heap.size=w.heap.size)
  (hrow:∀ T t xs,blk=.row T t xs->∃ ys,blk0=.row T t ys/\ys.length=xs.length)
  (hb:∀ H',Ext w K m H w' K m H'->BlkRel w' K m H' l blk) :
  Mem E w' K m (H.put l (some blk)) free/\Ext w K m H w' K m (H.put l (some blk)):=by
 have hnK:¬ K b:=h.own l blk0 b hl hm
 have hshape:∀ b' s,w.shape? b'=some s->w'.shape? b'=some s:=by
  intro b' s hs
  by_cases he:b'=b
  ·subst he
   rw[hsb];exact hs
  ·unfold World.shape? at hs ⊢
   rw[hother b' he];exact hs
 have e:Ext w K m H w' K m (H.put l (some blk)):=
  ⟨fun _ hk=>hk,fun b' hk=>hother b' (fun e=>hnK (e ▸ hk)),fun _ _ hx=>hx,hshape,fun k T' t xs _ hx=>by
   by_cases hk:k=l
   ·subst hk
    rw[Heap.get_put_self]at hx
    cases hx
    obtain⟨ys,hy,hlen⟩:=hrow T' t xs rfl
    exact⟨ys,by rw[hl,hy],hlen⟩
   ·exact⟨xs,Heap.get_put_row hk hx,rfl⟩⟩
 refine⟨?_,e⟩
 have hg:∀ k b',(H.put l (some blk)).get k=some b'->(k=l/\b'=blk)\/(k≠l/\H.get k=some b'):=by
  intro k b' hk
  by_cases hkl:k=l
  ·subst hkl;rw[Heap.get_put_self]at hk;cases hk;exact .inl ⟨rfl,rfl⟩
  ·exact .inr ⟨hkl,by rw[Heap.get_put H hkl]at hk;exact hk⟩
 exact
  { os := hsame.1.trans h.os, tape := hsame.2.1.trans h.tape, output := hsame.2.2.1.trans h.output
    size:=by rw[hsame.2.2.2];exact h.size
    keep:=fun b' hb1 hb2=>by
     rw[hother b' (fun he=>?_)]
     ·exact h.keep b' hb1 hb2
     ·subst he
      rcases ay l E.n with hln|hln
      ·exact hb2 l hln (by rw[← h.mold l hln];exact hm)
      ·rcases h.mnew l b' hln hm with h1|⟨k,hk,hkm⟩
       ·omega
       ·exact hb2 k hk hkm
    Kmono:=h.Kmono
    Klt:=fun b' hk=>by rw[hsame.2.2.2];exact h.Klt b' hk
    Knew:=h.Knew,mold:=h.mold,mnew:=h.mnew
    mlt:=fun k b' hk=>by rw[hsame.2.2.2];exact h.mlt k b' hk
    mfree:=h.mfree,fnew:=h.fnew
    heap:=fun k b' hk=>by
     rcases hg k b' hk with⟨rfl,rfl⟩|⟨hne,hk'⟩
     ·exact hb _ e
     ·refine(h.heap k b' hk').ext e (fun b2 hm2=>hother b2 (fun he=>?_))
      subst he
      exact hne (h.inj k l b' blk0 b2 hk' hl hm2 hm)
    own:=fun k b' b2 hk hm2=>by
     rcases hg k b' hk with⟨rfl,rfl⟩|⟨hne,hk'⟩
     ·exact h.own k blk0 b2 hl hm2
     ·exact h.own k b' b2 hk' hm2
    inj:=fun k k' b1 b2 b' hk hk' hm1 hm2=>by
     rcases hg k b1 hk with⟨rfl,rfl⟩|⟨hne,hk1⟩<;>rcases hg k' b2 hk' with⟨rfl,rfl⟩|⟨hne',hk2⟩
     ·rfl
     ·exact h.inj k k' blk0 b2 b' hl hk2 hm1 hm2
     ·exact h.inj k k' b1 blk0 b' hk1 hl hm1 hm2
     ·exact h.inj k k' b1 b2 b' hk1 hk2 hm1 hm2
    shape:=fun b' s hs=>hshape b' s (h.shape b' s hs)
    frozen:=fun b hb=>(e.keep b (h.Kmono b hb)).trans (h.frozen b hb),gok:=h.gok.ext e.hK e.keep }
theorem Mem.write (h:Mem E w K m H free){l b:Nat}{blk0 blk:ABlk}(hl:H.get l=some blk0)(hm:m l=some (some b)){w':World}{cs cs':Array Value}{T:TypeId}
  (hw:w.heap[b]?=some (.cells cs T (0,0))) (hw':w'.heap[b]?=some (.cells cs' T (0,0))) (hsz:cs'.size=cs.size) (hother:∀ k,k≠b->w'.heap[k]?=w.heap[k]?)
  (hsame:w'.os=w.os/\w'.tape=w.tape/\w'.output=w.output/\w'.heap.size=w.heap.size)
  (hrow:∀ T t xs,blk=.row T t xs->∃ ys,blk0=.row T t ys/\ys.length=xs.length)
  (hb:∀ H',Ext w K m H w' K m H'->BlkRel w' K m H' l blk) :
  Mem E w' K m (H.put l (some blk)) free/\Ext w K m H w' K m (H.put l (some blk)):=
 h.writeO hl hm (by unfold World.shape?;rw[hw,hw'];simp only[af];rw[hsz]) hother hsame hrow hb
theorem Mem.freeze (h:Mem E w K m H free){l b:Nat}{blk:ABlk}(hl:H.get l=some blk)(hm:m l=some (some b)) :
  Mem E w (fun k=>K k\/k=b) m (H.put l none) free/\Ext w K m H w (fun k=>K k\/k=b) m (H.put l none):=by
 have e:Ext w K m H w (fun k=>K k\/k=b) m (H.put l none):=
  ⟨fun _ hk=>.inl hk,fun _ _=>rfl,fun _ _ hx=>hx,fun _ _ hs=>hs,(Ext.del w K m H l).row⟩
 refine⟨?_,e⟩
 have hg:∀ k blk,(H.put l none).get k=some blk->k≠l/\H.get k=some blk:=by
  intro k blk hk
  by_cases e:k=l
  ·subst e;rw[Heap.get_put_self]at hk;cases hk
  ·exact⟨e,by rw[Heap.get_put H e]at hk;exact hk⟩
 exact { h with
  gok:=h.gok.ext (fun _ hk=>.inl hk) (fun _ _=>rfl)
  Kmono:=fun k hk=>.inl (h.Kmono k hk)
  Klt:=fun k hk=>by
   rcases hk with hk|rfl
   ·exact h.Klt k hk
   ·exact h.mlt l k hm
  Knew:=fun k hk=>by
   rcases hk with hk|rfl
   ·exact h.Knew k hk
   ·rcases ay l E.n with hln|hln
    ·exact .inr (.inr ⟨l,hln,by rw[← h.mold l hln];exact hm⟩)
    ·rcases h.mnew l k hln hm with h1|h1
     ·exact .inr (.inl h1)
     ·exact .inr (.inr h1)
  heap:=fun k b' hk=>(h.heap k b' (hg k b' hk).2).ext e (fun _ _=>rfl)
  own:=fun k b' b2 hk hm2 hK=>by
   rcases hK with hK|rfl
   ·exact h.own k b' b2 (hg k b' hk).2 hm2 hK
   ·exact(hg k b' hk).1 (h.inj k l b' blk b2 (hg k b' hk).2 hl hm2 hm)
  inj:=fun k k' b1 b2 b' hk hk'=>h.inj k k' b1 b2 b' (hg k b1 hk).2 (hg k' b2 hk').2 }
end Go.VL

namespace Go.VL
variable {P:Program} {E:Entry} {w:World} {K:Nat->Prop} {m:Nat->Option (Option Nat)} {H:Heap} {free:Nat->Prop}
def D.one:D->Bool
 | .v (.agg _) | .v (.tuple _)=>false
 | _=>true
theorem D.one_rel {d:D}(hd:d.one=true){v:Value}(h:RelD w K d v):v.oneCell'=true:=by
 cases h with
 | v=>cases v<;>first|rfl|(simp[D.one]at hd)
 | _=>rfl
theorem sO {t:Ty}{x:t.ty}{d:D}(hd:d∈enc t x):d.one=true:=by
 have h:(enc t x).all D.one=true:=by cases t<;>rfl
 exact bM.1 h d hd
theorem JR {t:Ty}{x:t.ty}{d:D}(hd:d∈enc t x){v:Value}(h:RelD w K d v):v.oneCell'=true:=D.one_rel (sO hd) h
theorem AV.one_rel {a:AV}(ha:a.one=true){v:Value}(h:Rel w K m H a v):v.oneCell'=true:=by
 cases h with
 | d x v h =>
   cases h with
   | v=>cases v<;>first|rfl|(simp[AV.one]at ha)
   | _=>rfl
 | dead=>simp[AV.one]at ha
 | agg=>simp[AV.one]at ha
 | tup=>simp[AV.one]at ha
 | _=>rfl
def Reads (w:World)(K:Nat->Prop)(t:Ty)(xs:List t.ty)(b off:Nat):Prop:=
 ∀ i x j d,xs[i]?=some x->(enc t x)[j]?=some d->∃ u,w.cell? ⟨b,off+(i*t.size+j),none⟩=some u/\RelD w K d u
structure SlRel (w:World) (K:Nat->Prop) (m:Nat->Option (Option Nat)) (H:Heap) (rd:List Nat) (t:Ty) (xs:List t.ty) (a:Option Addr) (n cap:Nat):Prop where
 len:n=xs.length
 cap:n<=cap
 addr:xs≠[]->∃ b off,a=some ⟨b,off,none⟩/\(K b\/∃ l,l∈rd/\m l=some (some b))/\Reads w K t xs b off
theorem ow {T:TypeId}{t:Ty}{xs:List t.ty}{b:Nat}{cs:Array Value}(hw:w.heap[b]?=some (.cells cs T (0,0)))
  (hr:∀ i x j d,xs[i]?=some x->(enc t x)[j]?=some d->∃ v,cs[i*t.size+j]?=some v/\RelD w K d v):Reads w K t xs b 0:=by
 intro i x j d hx hd
 obtain⟨v,hv,hrel⟩:=hr i x j d hx hd
 exact⟨v,by simp[World.cell?,hw,hv],hrel⟩
theorem Reads.drop {t:Ty}{xs:List t.ty}{b off:Nat}(h:Reads w K t xs b off)(k:Nat):Reads w K t (xs.drop k) b (off+k*t.size):=by
 intro i x j d hx hd
 obtain⟨u,hu,hr⟩:=h (k+i) x j d (by simpa[cc]using hx) hd
 refine⟨u,?_,hr⟩
 rw[← hu];congr 2
 rw[bv];omega
theorem Reads.take {t:Ty}{xs:List t.ty}{b off:Nat}(h:Reads w K t xs b off)(k:Nat):Reads w K t (xs.take k) b off:=by
 intro i x j d hx hd
 refine h i x j d ?_ hd
 rw[cK]at hx
 split at hx
 ·exact hx
 ·cases hx
theorem tc {d:D}{t:Ty}{xs:List t.ty}(hd:d.asSl t=some xs){v:Value}(h:RelD w K d v) :
  ∃ a n cap,v=.slice a n cap/\SlRel w K m H [] t xs a n cap:=by
 have h':=RelD.le (D.asSl_le hd) h
 cases h' with
 | sl0 _ a cap=>exact⟨a,0,cap,rfl,rfl,bE _,fun hne=>absurd rfl hne⟩
 | sl _ _ b off cap u hb hcap hc hr =>
   exact⟨_,_,cap,rfl,rfl,hcap,fun _=>⟨b,off,rfl,.inl hb,fun i x j d hx hd=>⟨_,hc i x j d hx hd,hr i x j d hx hd⟩⟩⟩
theorem kg (hM:Mem E w K m H free){a:AV}{t:Ty}{s:Sls t}(hs:a.sls H t=some s)(hn:s.need){v:Value}(h:Rel w K m H a v) :
  ∃ ad n cap,v=.slice ad n cap/\SlRel w K m H s.rd t s.xs ad n cap:=by
 cases h with
 | d x v h =>
   simp only[AV.sls,ae]at hs
   obtain⟨xs,hx,rfl⟩:=hs
   exact tc hx h
 | fl t' xs a n h =>
   simp only[AV.sls]at hs
   split at hs
   ·rename_i ht;subst ht;simp only[af]at hs;subst hs
    obtain⟨a',n',cap',e,hr⟩:=tc (m:=m) (H:=H) (d:=.sl t' xs) (t:=t') (xs:=xs) (by simp[D.asSl]) h
    cases e
    exact⟨_,_,_,rfl,hr⟩
   ·cases hs
 | own0 l t' ad hm =>
   simp only[AV.sls]at hs
   split at hs
   ·split at hs
    ·rename_i ht _ T2 t2 xs hget
     split at hs
     ·rename_i ht2;subst ht2;simp only[af]at hs;subst hs
      have hb:=hM.heap l _ hget
      rcases hb with⟨_,hx⟩|⟨b,cs,hm',_⟩
      ·subst hx;exact⟨_,_,_,rfl,rfl,aI _,fun hne=>absurd rfl hne⟩
      ·rw[hm]at hm';cases hm'
     ·cases hs
    ·cases hs
   ·cases hs
 | own l t' b n cap hm hlen hcap hsz =>
   simp only[AV.sls]at hs
   split at hs
   ·rename_i ht;subst ht
    split at hs
    ·rename_i T2 t2 xs hget
     split at hs
     ·rename_i ht2;subst ht2;simp only[af]at hs;subst hs
      have hb:=hM.heap l _ hget
      rcases hb with⟨hm',_⟩|⟨b',cs,hm',hw,_,hr⟩
      ·rw[hm]at hm';cases hm'
      ·rw[hm]at hm';simp only[af]at hm';subst hm'
       exact⟨_,_,_,rfl,hlen T2 xs hget,hcap,fun _=>⟨b,0,rfl,.inr ⟨l,by simp,hm⟩,ow hw hr⟩⟩
     ·cases hs
    ·cases hs
   ·cases hs
 | view0 l t' off ad =>
   simp only[AV.sls]at hs
   split at hs
   ·split at hs
    ·split at hs
     ·rename_i ht2;subst ht2;simp only[af]at hs;subst hs
      exact⟨_,_,_,rfl,by simp,bE _,fun hne=>absurd (by simp) hne⟩
     ·cases hs
    ·cases hs
   ·cases hs
 | view l t' b off len cap hm hcap hsz =>
   simp only[AV.sls]at hs
   split at hs
   ·rename_i ht;subst ht
    split at hs
    ·rename_i T2 t2 xs hget
     split at hs
     ·rename_i ht2;subst ht2;simp only[af]at hs;subst hs
      have hb:=hM.heap l _ hget
      rcases hb with⟨hm',_⟩|⟨b',cs,hm',hw,_,hr⟩
      ·rw[hm]at hm';cases hm'
      ·rw[hm]at hm';simp only[af]at hm';subst hm'
       refine⟨_,_,_,rfl,by simp only[aF,aK];simp only at hn;omega,hcap,fun _=>⟨b,_,rfl,.inr ⟨l,by simp,hm⟩,?_⟩⟩
       have:=((ow hw hr).drop off).take len
       simpa using this
     ·cases hs
    ·cases hs
   ·cases hs
 | _=>simp[AV.sls]at hs
theorem Reads.values {t:Ty}{xs:List t.ty}{b off:Nat}(h:Reads w K t xs b off) :
  ∃ vs:List Value,vs.length=xs.length*t.size/\(∀ j v,vs[j]?=some v->w.cell? (Addr.add ⟨b,off,none⟩ j)=some v)/\(∀ v∈vs,v.oneCell'=true) /\
   ∀ i x j d,xs[i]?=some x->(enc t x)[j]?=some d->∃ v,vs[i*t.size+j]?=some v/\RelD w K d v:=by
 have hpos:=wX t
 have key:∀ k,k<xs.length*t.size->∃ i x j d u,k=i*t.size+j/\xs[i]?=some x/\(enc t x)[j]?=some d/\w.cell? ⟨b,off+k,none⟩=some u/\RelD w K d u:=by
  intro k hk
  have hi:k/t.size<xs.length:=Nat.div_lt_of_lt_mul (by rw[bW];exact hk)
  have hj:k%t.size<t.size:=jR _ hpos
  have hx:xs[k/t.size]?=some xs[k/t.size]:=aj hi
  have hd:(enc t xs[k/t.size])[k%t.size]?=some ((enc t xs[k/t.size])[k%t.size]'(by rw[bS];exact hj)):=aj _
  obtain⟨u,hu,hr⟩:=h _ _ _ _ hx hd
  have e:k/t.size*t.size+k%t.size=k:=by rw[bW];exact lP _ _
  rw[e]at hu
  exact⟨_,_,_,_,u,e.symm,hx,hd,hu,hr⟩
 have key2:∀ n,n<=xs.length*t.size->∃ vs:List Value,vs.length=n/\(∀ j v,vs[j]?=some v->w.cell? ⟨b,off+j,none⟩=some v):=by
  intro n
  induction n with
  | zero=>exact fun _=>⟨[],rfl,fun j v hj=>by simp at hj⟩
  | succ n ih =>
    intro hn
    obtain⟨vs,hl,hv⟩:=ih (by omega)
    obtain⟨_,_,_,_,u,_,_,_,hu,_⟩:=key n (by omega)
    refine⟨vs++[u],by simp[hl],fun j v hj=>?_⟩
    rw[br]at hj
    split at hj
    ·exact hv j v hj
    ·rename_i hge
     have:j=n:=by
      rcases ay (j-vs.length) 1 with h1|h1
      ·omega
      ·rw[au (by simpa using h1)]at hj;cases hj
     subst this
     simp only[hl,Nat.sub_self,bl,af]at hj
     subst hj
     exact hu
 obtain⟨vs,hl,hv⟩:=key2 _ (aI _)
 refine⟨vs,hl,fun j v hj=>?_,fun v hv'=>?_,fun i x j d hx hd=>?_⟩
 ·have:Addr.add ⟨b,off,none⟩ j=⟨b,off+j,none⟩:=by unfold Addr.add;split<;>simp_all
  rw[this]
  exact hv j v hj
 ·obtain⟨j,hj,rfl⟩:=dV hv'
  obtain⟨i,x,j',d,u,e,hx,hd,hu,hr⟩:=key j (by omega)
  have:=hv j _ (aj hj)
  rw[hu]at this
  simp only[af]at this
  rw[← this]
  exact JR (bq hd) hr
 ·obtain⟨u,hu,hr⟩:=h i x j d hx hd
  have hi:i<xs.length:=(an.1 hx).1
  have hj:j<t.size:=by have:=(an.1 hd).1;rw[bS]at this;exact this
  have hlt:i*t.size+j<vs.length:=by
   rw[hl]
   calc i*t.size+j<i*t.size+t.size:=by omega
    _=(i+1)*t.size:=by rw[bv,ea]
    _<=xs.length*t.size:=aC _ hi
  have:=hv _ _ (aj hlt)
  rw[hu]at this
  simp only[af]at this
  exact⟨_,aj hlt,this ▸ hr⟩
end Go.VL

namespace Go.VL
variable {P:Program} {E:Entry} {w:World} {K:Nat->Prop} {m:Nat->Option (Option Nat)} {H:Heap} {free:Nat->Prop}
theorem Ext.drew (w:World)(K:Nat->Prop)(m:Nat->Option (Option Nat))(H:Heap):Ext w K m H w.drew K m H:=
 ⟨fun _ h=>h,fun _ _=>rfl,fun _ _ h=>h,fun _ _ h=>h,fun _ _ _ xs _ h=>⟨xs,h,rfl⟩⟩
theorem Mem.drew (h:Mem E w K m H free):Mem E w.drew K m H free:=
 { os := h.os, tape := h.tape, output := h.output, size := h.size, keep := h.keep, Kmono := h.Kmono, Klt := h.Klt, Knew := h.Knew, mold := h.mold, mnew := h.mnew, mlt := h.mlt,
   mfree:=h.mfree,fnew:=h.fnew,heap:=fun l blk hl=>(h.heap l blk hl).ext (Ext.drew w K m H) (fun _ _=>rfl),own:=h.own,inj:=h.inj,shape:=h.shape,frozen:=h.frozen,gok:=h.gok.ext (fun _ h=>h) (fun _ _=>rfl) }
theorem Mem.nil (h:Mem E w K m H free){nm:Nat}(hn:free nm)(T:TypeId)(t:Ty) :
  Mem E w K (upd m nm none) (H.put nm (some (.row T t []))) (fun l=>free l/\l≠nm)/\Ext w K m H w K (upd m nm none) (H.put nm (some (.row T t []))):=by
 have hnm:=h.mfree nm hn
 have e:Ext w K m H w K (upd m nm none) (H.put nm (some (.row T t []))):=
  ⟨fun _ hk=>hk,fun b hk=>rfl,fun l x hx=>by
    by_cases hl:l=nm
    ·subst hl;rw[hnm]at hx;cases hx
    ·rw[cD _ _ hl];exact hx,
   fun b s hs=>hs,fun l T' t' xs hm hx=>by
    by_cases hl:l=nm
    ·subst hl;exact absurd hnm hm
    ·exact⟨xs,Heap.get_put_row hl hx,rfl⟩⟩
 refine⟨?_,e⟩
 have hg:∀ k b',(H.put nm (some (.row T t []))).get k=some b'->(k=nm/\b'=.row T t [])\/(k≠nm/\H.get k=some b'):=by
  intro k b' hk
  by_cases hl:k=nm
  ·subst hl;rw[Heap.get_put_self]at hk;cases hk;exact .inl ⟨rfl,rfl⟩
  ·exact .inr ⟨hl,by rw[Heap.get_put H hl]at hk;exact hk⟩
 exact { h with
  mold:=fun l hl=>by
   have:=h.fnew nm hn
   rw[cD _ _ (by omega)];exact h.mold l hl
  mnew:=fun l b hl hm=>by
   by_cases he:l=nm
   ·subst he;rw[bA]at hm;cases hm
   ·rw[cD _ _ he]at hm;exact h.mnew l b hl hm
  mlt:=fun l b hm=>by
   by_cases he:l=nm
   ·subst he;rw[bA]at hm;cases hm
   ·rw[cD _ _ he]at hm;exact h.mlt l b hm
  mfree:=fun l hl=>by rw[cD _ _ hl.2];exact h.mfree l hl.1
  fnew:=fun l hl=>h.fnew l hl.1
  heap:=fun k b' hk=>by
   rcases hg k b' hk with⟨rfl,rfl⟩|⟨hne,hk'⟩
   ·exact .inl ⟨bA _ _ _,rfl⟩
   ·exact(h.heap k b' hk').ext e (fun b hm=>rfl)
  own:=fun k b' b hk hm hK=>by
   rcases hg k b' hk with⟨rfl,rfl⟩|⟨hne,hk'⟩
   ·rw[bA]at hm;cases hm
   ·rw[cD _ _ hne]at hm;exact h.own k b' b hk' hm hK
  inj:=fun k k' b1 b2 b hk hk' hm hm'=>by
   rcases hg k b1 hk with⟨rfl,rfl⟩|⟨hne,hk1⟩<;>rcases hg k' b2 hk' with⟨rfl,rfl⟩|⟨hne',hk2⟩
   ·rfl
   ·rw[bA]at hm;cases hm
   ·rw[bA]at hm';cases hm'
   ·rw[cD _ _ hne]at hm;rw[cD _ _ hne']at hm';exact h.inj k k' b1 b2 b hk1 hk2 hm hm' }
theorem Mem.move (h:Mem E w K m H free){l b nm:Nat}{blk0 blk:ABlk}(hl:H.get l=some blk0)(hm:m l=some (some b))(hn:free nm){w':World}{cs cs':Array Value}{T:TypeId}
  (hw:w.heap[b]?=some (.cells cs T (0,0))) (hw':w'.heap[b]?=some (.cells cs' T (0,0))) (hsz:cs'.size=cs.size) (hother:∀ k,k≠b->w'.heap[k]?=w.heap[k]?)
  (hsame:w'.os=w.os/\w'.tape=w.tape/\w'.output=w.output/\w'.heap.size=w.heap.size)
  (hb:∀ m' H',Ext w K m H w' K m' H'->m' nm=some (some b)->BlkRel w' K m' H' nm blk) :
  Mem E w' K (upd m nm (some b)) ((H.put l none).put nm (some blk)) (fun k=>free k/\k≠nm)/\Ext w K m H w' K (upd m nm (some b)) ((H.put l none).put nm (some blk)):=by
 have hnK:¬ K b:=h.own l blk0 b hl hm
 have hnm:=h.mfree nm hn
 have hne0:l≠nm:=fun e=>by rw[e,hnm]at hm;cases hm
 have hshape:∀ b' s,w.shape? b'=some s->w'.shape? b'=some s:=by
  intro b' s hs
  by_cases he:b'=b
  ·subst he
   unfold World.shape? at hs ⊢
   rw[hw]at hs;rw[hw'];simp only[af]at hs ⊢;rw[← hs,hsz]
  ·unfold World.shape? at hs ⊢
   rw[hother b' he];exact hs
 have hg:∀ k b',((H.put l none).put nm (some blk)).get k=some b'->(k=nm/\b'=blk)\/(k≠nm/\k≠l/\H.get k=some b'):=by
  intro k b' hk
  by_cases hkn:k=nm
  ·subst hkn;rw[Heap.get_put_self]at hk;cases hk;exact .inl ⟨rfl,rfl⟩
  ·rw[Heap.get_put _ hkn]at hk
   by_cases hkl:k=l
   ·subst hkl;rw[Heap.get_put_self]at hk;cases hk
   ·rw[Heap.get_put _ hkl]at hk;exact .inr ⟨hkn,hkl,hk⟩
 have e:Ext w K m H w' K (upd m nm (some b)) ((H.put l none).put nm (some blk)):=
  ⟨fun _ hk=>hk,fun b' hk=>hother b' (fun e=>hnK (e ▸ hk)),fun k x hx=>by
    by_cases hk:k=nm
    ·subst hk;rw[hnm]at hx;cases hx
    ·rw[cD _ _ hk];exact hx,
   hshape,fun k T' t xs hm' hx=>by
    rcases hg k _ hx with⟨rfl,_⟩|⟨_,_,hk⟩
    ·exact absurd hnm hm'
    ·exact⟨xs,hk,rfl⟩⟩
 refine⟨?_,e⟩
 exact
  { os := hsame.1.trans h.os, tape := hsame.2.1.trans h.tape, output := hsame.2.2.1.trans h.output
    size:=by rw[hsame.2.2.2];exact h.size
    keep:=fun b' hb1 hb2=>by
     rw[hother b' (fun he=>?_)]
     ·exact h.keep b' hb1 hb2
     ·subst he
      rcases ay l E.n with hln|hln
      ·exact hb2 l hln (by rw[← h.mold l hln];exact hm)
      ·rcases h.mnew l b' hln hm with h1|⟨k,hk,hkm⟩
       ·omega
       ·exact hb2 k hk hkm
    Kmono:=h.Kmono
    Klt:=fun b' hk=>by rw[hsame.2.2.2];exact h.Klt b' hk
    Knew:=h.Knew
    mold:=fun k hk=>by
     have:=h.fnew nm hn
     rw[cD _ _ (by omega)];exact h.mold k hk
    mnew:=fun k b' hk hm'=>by
     by_cases he:k=nm
     ·subst he;rw[bA]at hm';cases hm'
      rcases ay l E.n with hln|hln
      ·exact .inr ⟨l,hln,by rw[← h.mold l hln];exact hm⟩
      ·exact h.mnew l b hln hm
     ·rw[cD _ _ he]at hm';exact h.mnew k b' hk hm'
    mlt:=fun k b' hk=>by
     rw[hsame.2.2.2]
     by_cases he:k=nm
     ·subst he;rw[bA]at hk;cases hk;exact h.mlt l b hm
     ·rw[cD _ _ he]at hk;exact h.mlt k b' hk
    mfree:=fun k hk=>by rw[cD _ _ hk.2];exact h.mfree k hk.1
    fnew:=fun k hk=>h.fnew k hk.1
    heap:=fun k b' hk=>by
     rcases hg k b' hk with⟨rfl,rfl⟩|⟨hkn,hkl,hk'⟩
     ·exact hb _ _ e (bA _ _ _)
     ·refine(h.heap k b' hk').ext e (fun b2 hm2=>hother b2 (fun he=>?_))
      subst he
      exact hkl (h.inj k l b' blk0 b2 hk' hl hm2 hm)
    own:=fun k b' b2 hk hm2=>by
     rcases hg k b' hk with⟨rfl,rfl⟩|⟨hkn,hkl,hk'⟩
     ·rw[bA]at hm2;cases hm2;exact hnK
     ·rw[cD _ _ hkn]at hm2;exact h.own k b' b2 hk' hm2
    inj:=fun k k' b1 b2 b' hk hk' hm1 hm2=>by
     rcases hg k b1 hk with⟨rfl,rfl⟩|⟨hne,hnl,hk1⟩<;>rcases hg k' b2 hk' with⟨rfl,rfl⟩|⟨hne',hnl',hk2⟩
     ·rfl
     ·rw[bA]at hm1;cases hm1;rw[cD _ _ hne']at hm2;exact absurd (h.inj k' l b2 blk0 b hk2 hl hm2 hm) hnl'
     ·rw[bA]at hm2;cases hm2;rw[cD _ _ hne]at hm1;exact absurd (h.inj k l b1 blk0 b hk1 hl hm1 hm) hnl
     ·rw[cD _ _ hne]at hm1;rw[cD _ _ hne']at hm2;exact h.inj k k' b1 b2 b' hk1 hk2 hm1 hm2
    shape:=fun b' s hs=>hshape b' s (h.shape b' s hs)
    frozen:=fun b hb=>(e.keep b (h.Kmono b hb)).trans (h.frozen b hb),gok:=h.gok.ext e.hK e.keep }
inductive AppOut (w:World) (e:TypeId) (size:Nat) (a0:Option Addr) (n m cap:Nat) (olds news:List Value):Value->World->Prop
 | nil (h0:cap=0) (hm:n+m=0):AppOut w e size a0 n m cap olds news (.slice a0 0 0) w
 | room (b:Nat) (cs cs':Array Value) (w':World) (h0:a0=some ⟨b,0,none⟩) (hp:0<cap) (hc:n+m<=cap) (hw:w.heap[b]?=some (.cells cs e (0,0))) (hw':w'.heap[b]?=some (.cells cs' e (0,0)))
  (hsz:cs'.size=cs.size) (hcap:cap*size<=cs.size) (hother:∀ k,k≠b->w'.heap[k]?=w.heap[k]?) (hsame:w'.os=w.os/\w'.tape=w.tape/\w'.output=w.output/\w'.heap.size=w.heap.size)
  (hv:∀ k,k<(n+m)*size->cs'[k]?=(olds++news)[k]?):AppOut w e size a0 n m cap olds news (.slice a0 (n+m) cap) w'
 | new (cap':Nat) (cs:Array Value) (hc:n+m<=cap') (hcap:cap'*size<=cs.size) (hv:∀ k,k<(n+m)*size->cs[k]?=(olds++news)[k]?) :
  AppOut w e size a0 n m cap olds news (.slice (some ⟨w.heap.size,0,none⟩) (n+m) cap') (w.drew.alloc (.cells cs e))
theorem tL (a b c:Array Value)(k:Nat)(h:k<a.size+b.size):(a++b++c)[k]?=(a.toList++b.toList)[k]?:=by
 rw[eC (by simpa using h)]
 simp only[← bt,Array.toList_append]
theorem yF (w:World)(t ty e:TypeId)(i:TypeInfo)(z:Value)(ht:P.underlying t=some (.slice e))(hi:P.info? e=some i)(hz:i.zero=some z)(hzs:z.cells.size=i.size)
  (a0:Option Addr) (n cap:Nat) (olds:List Value) (hlo:olds.length=n*i.size) (ha0:(n=0/\cap=0)\/∃ b,a0=some b/\∀ j v,olds[j]?=some v->w.cell? (b.add j)=some v)
  (a:Addr) (m c:Nat) (news:List Value) (hl:news.length=m*i.size) (hnews:∀ j v,news[j]?=some v->w.cell? (a.add j)=some v)
  (hg:cap<n+m) (hb:(n+m)*(i.bytes+1)<=35184372088832) :
  ∃ v w',(Builtin.append_ #[t,t] ty #[.slice a0 n cap,.slice (some a) m c]).run P w=.ok v w'/\AppOut w e i.size a0 n m cap olds news v w':=by
 have hbytes:(n+m)*i.bytes<=35184372088832:=aZ (cd _ (by omega)) hb
 have hnm:n+m<=35184372088832:=aZ (Nat.le_mul_of_pos_right _ (by omega)) hb
 have ha0':(a0=none/\n=0/\cap=0)\/∃ b,a0=some b/\∀ j v,olds[j]?=some v->w.cell? (b.add j)=some v:=by
  rcases ha0 with⟨h1,h2⟩|h
  ·cases a0 with
   | none=>exact .inl ⟨rfl,h1,h2⟩
   | some b=>exact .inr ⟨b,rfl,fun j v hj=>by rw[h1,gb]at hlo;rw[az hlo]at hj;simp at hj⟩
  ·exact .inr h
 rcases ha0' with⟨rfl,rfl,rfl⟩|⟨b,rfl,holds⟩
 ·have ho:olds=[]:=az (by simpa using hlo)
  subst ho
  simp only[cq]at hg hbytes hnm
  have hr:=run_append_nil (P:=P) w t ty e i z ht hi hz a m c news hl hnews hg (by omega) (by omega)
  refine⟨_,_,hr,?_⟩
  have hge:=grownCap_ge w m 0 e
  have:=AppOut.new (w:=w) (e:=e) (size:=i.size) (a0:=none) (n:=0) (m:=m) (cap:=0) (olds:=[]) (news:=news) (grownCap w m 0 e) (news.toArray++Builtin.zeroCells z.cells (grownCap w m 0 e-m)) (by omega)
   (by simp only[Array.size_append,ck,size_zeroCells,hzs,hl,← bv];exact aC _ (by omega))
   (fun k hk=>by rw[eC (by simp[hl];simpa using hk)];simp)
  simpa using this
 ·have hr:=run_append_grow (P:=P) w t ty e i z ht hi hz b n cap olds hlo holds a m c news hl hnews hg (by omega) (growslice_fits hg (by omega))
  refine⟨_,_,hr,?_⟩
  have hge:=grownCap_ge w (n+m) cap e
  exact AppOut.new _ _ hge (by simp only[Array.size_append,ck,size_zeroCells,hzs,hl,hlo,← bv];exact aC _ (by omega))
   (fun k hk=>by rw[tL _ _ _ _ (by simp[hl,hlo,← bv];exact hk)])
theorem Ks (w:World)(t ty e:TypeId)(i:TypeInfo)(z:Value)(ht:P.underlying t=some (.slice e))(hi:P.info? e=some i)(hz:i.zero=some z)(hzs:z.cells.size=i.size)
  (a0:Option Addr) (n cap:Nat) (olds:List Value) (hlo:olds.length=n*i.size)
  (ha0:(n=0/\cap=0)\/∃ b cs,a0=some ⟨b,0,none⟩/\n<=cap/\w.heap[b]?=some (.cells cs e (0,0))/\cap*i.size<=cs.size/\∀ k,k<n*i.size->cs[k]?=olds[k]?)
  (a1:Option Addr) (m c:Nat) (news:List Value) (hl:news.length=m*i.size) (hone:∀ v∈news,v.oneCell'=true)
  (ha1:(a1=none/\m=0)\/∃ a,a1=some a/\∀ j v,news[j]?=some v->w.cell? (a.add j)=some v) (hb:(n+m)*(i.bytes+1)<=35184372088832) :
  ∃ v w',(Builtin.append_ #[t,t] ty #[.slice a0 n cap,.slice a1 m c]).run P w=.ok v w'/\AppOut w e i.size a0 n m cap olds news v w':=by
 rcases ha1 with⟨rfl,rfl⟩|⟨a,rfl,hnews⟩
 ·have hn:news=[]:=az (by simpa using hl)
  subst hn
  rcases ha0 with⟨rfl,rfl⟩|⟨b,cs,rfl,hnc,hw,hcs,hov⟩
  ·refine⟨_,w,by cases a0<;>simp[Builtin.append_,run_underlying ht,sizeOf,typeInfo,hi,Builtin.lenOf,Builtin.firstCells,storeCells]<;>rfl,.nil rfl rfl⟩
  ·refine⟨_,w,by simp[Builtin.append_,run_underlying ht,sizeOf,typeInfo,hi,Builtin.lenOf,Builtin.firstCells,hnc,storeCells];rfl,?_⟩
   by_cases hc0:cap=0
   ·have hn0:n=0:=by omega
    subst hc0;subst hn0
    exact .nil rfl rfl
   exact .room b cs cs w rfl (by omega) hnc hw hw rfl hcs (fun _ _=>rfl) ⟨rfl,rfl,rfl,rfl⟩ (fun k hk=>by simpa using hov k hk)
 ·by_cases hroom:n+m<=cap/\cap≠0
  ·rcases ha0 with⟨_,hc0⟩|⟨b,cs,rfl,hnc,hw,hcs,hov⟩
   ·exact absurd hc0 hroom.2
   ·have hfit:n*i.size+news.length<=cs.size:=by rw[hl,← bv];exact aZ (aC _ hroom.1) hcs
    have hr:=run_append_room (P:=P) w t ty e i ht hi b n cap cs hw a m c news hl hnews hone hroom.1 hfit
    refine⟨_,_,hr,.room b cs _ _ rfl (by omega) hroom.1 hw (setRow_heap w b cs _ e _ hw) ?_ hcs (fun k hk=>setRow_other w b k _ (fun e=>hk (by simp[e]))) ⟨rfl,rfl,rfl,by simp⟩ (fun k hk=>?_)⟩
    ·simp only[ck,al,aF,aK,be];omega
    ·rw[bv,← hl]at hk
     simp only[eF,bb]
     have hlt:(cs.toList.take (n*i.size)).length=n*i.size:=by simp;omega
     by_cases hkn:k<n*i.size
     ·rw[bC (by omega),bC (by omega),cK,aE hkn,← hov k hkn];simp
     ·have e2:(olds++news)[k]?=news[k-n*i.size]?:=by rw[bL (by omega),hlo]
      rw[e2,bL (by omega),hlt,bC (by omega)]
  ·by_cases h0:n+m=0/\cap=0
   ·obtain⟨h0,rfl⟩:=h0
    have hn0:n=0:=by omega
    subst hn0
    have hm:m=0:=by omega
    subst hm
    have hn:news=[]:=az (by simpa using hl)
    subst hn
    refine⟨_,w,by cases a0<;>simp[Builtin.append_,run_underlying ht,sizeOf,typeInfo,hi,Builtin.lenOf,Builtin.firstCells,loadCells,loadCellsFrom,storeCells]<;>rfl,.nil rfl rfl⟩
   ·refine yF w t ty e i z ht hi hz hzs a0 n cap olds hlo ?_ a m c news hl hnews ?_ hb
    ·rcases ha0 with h|⟨b,cs,rfl,hnc,hw,hcs,hov⟩
     ·exact .inl h
     ·refine .inr ⟨_,rfl,fun j v hj=>?_⟩
      have hjl:j<n*i.size:=by have:=(an.1 hj).1;omega
      have:Addr.add ⟨b,0,none⟩ j=⟨b,j,none⟩:=by unfold Addr.add;split<;>simp_all
      rw[this]
      simp[World.cell?,hw,hov j hjl,hj]
    ·omega
end Go.VL

namespace Go.VL
variable {P:Program} {C:bY} {E:Entry} {w:World} {K:Nat->Prop} {m:Nat->Option (Option Nat)} {H:Heap} {free:Nat->Prop}
def Ran (P:Program)(E:Entry)(ρ:Operand->Value)(o:Oper)(w:World)(K:Nat->Prop)(m:Nat->Option (Option Nat))(H:Heap)(free:Nat->Prop)(nm:Nat)(e:Eff):Prop:=
 ∃ nx u w' K' m',(execOp ρ o).run P w=.ok nx w'/\(nx=.value u\/(nx=.skip/\u=undef))/\Rel w' K' m' (H.app e.wr) e.v u /\
  Mem E w' K' m' (H.app e.wr) (fun l=>free l/\l≠nm)/\Ext w K m H w' K' m' (H.app e.wr)
theorem Ran.same {ρ:Operand->Value}{o:Oper}{nm:Nat}{v:AV}{p:Prop}{rd:List Nat}(hM:Mem E w K m H free){u:Value}
  (hr:(execOp ρ o).run P w=.ok (.value u) w) (h:Rel w K m H v u):Ran P E ρ o w K m H free nm ⟨v,p,rd,[]⟩:=
 ⟨_,u,w,K,m,hr,.inl rfl,h,hM.weaken (fun _ hl=>hl.1),Ext.refl w K m H⟩
theorem bR {ρ:Operand->Value}{o:Oper}{nm:Nat}{v:AV}{e:Eff}(he:eff v=some e)(hM:Mem E w K m H free){u:Value}
  (hr:(execOp ρ o).run P w=.ok (.value u) w) (h:Rel w K m H v u):Ran P E ρ o w K m H free nm e:=by
 simp only[eff,af]at he
 subst he
 exact Ran.same hM hr h
theorem eJ {a:AV}{b:Bool}(ha:a.bool?=some b){v:Value}(h:Rel w K m H a v):v=.bool b:=by
 unfold AV.bool? at ha
 split at ha
 ·simp only[af]at ha;subst ha;cases h with|d x v h=>cases h;rfl
 ·cases ha
theorem gn {a:AV}{n:Int}(ha:a.int?=some n){v:Value}(h:Rel w K m H a v):∃ k,v=.int k n:=by
 unfold AV.int? at ha
 split at ha
 ·simp only[af]at ha;subst ha;cases h with|d x v h=>cases h;exact⟨_,rfl⟩
 ·cases ha
theorem cj {x v:Value}(h:Rel w K m H (.d (.v x)) v):v=x:=by cases h with|d x v h=>cases h;rfl
theorem sK {a:AV}{o:Fl}(ha:a.flt?=some o){v:Value}(h:Rel w K m H a v):∃ b,v=.float .f64 b/\sL o b:=by
 unfold AV.flt? at ha
 split at ha
 ·simp only[af]at ha;subst ha;cases h with|d x v h=>cases h with|f o b h=>exact⟨b,rfl,h⟩
 ·simp only[af]at ha;subst ha;cases h with|d x v h=>cases h;exact⟨_,rfl,rfl⟩
 ·cases ha
theorem jq {a:AV}(ha:a.known=true){v:Value}(h:Rel w K m H a v) :
  v.cells.size=a.cells.length/\∀ (i:Nat) (x:AV) (u:Value),a.cells[i]?=some x->v.cells[i]?=some u->Rel w K m H x u:=by
 have single:∀ (a:AV) (v:Value),a.cells=[a]->v.cells=#[v]->Rel w K m H a v->v.cells.size=a.cells.length/\∀ (i:Nat) (x:AV) (u:Value),a.cells[i]?=some x->v.cells[i]?=some u->Rel w K m H x u:=by
  intro a v e1 e2 h
  rw[e1,e2]
  refine⟨rfl,fun i x u hx hu=>?_⟩
  cases i with
  | zero=>simp at hx hu;subst hx;subst hu;exact h
  | succ i=>simp at hx
 cases h with
 | dead=>simp[AV.known]at ha
 | agg cs vs hl h=>exact⟨hl,h⟩
 | d x v h =>
   refine single _ _ rfl ?_ (.d x v h)
   cases h with
   | v=>cases v<;>first|rfl|(simp[AV.known]at ha)
   | _=>rfl
 | fl t xs a n h=>exact single _ _ rfl rfl (.fl t xs a n h)
 | own0 l t a h=>exact single _ _ rfl rfl (.own0 l t a h)
 | own l t b n cap h hn hc hs=>exact single _ _ rfl rfl (.own l t b n cap h hn hc hs)
 | view0 l t off a=>exact single _ _ rfl rfl (.view0 l t off a)
 | view l t b off len cap h hc hs=>exact single _ _ rfl rfl (.view l t b off len cap h hc hs)
 | ptr l f b h=>exact single _ _ rfl rfl (.ptr l f b h)
 | eptr l t i f b h=>exact single _ _ rfl rfl (.eptr l t i f b h)
 | ip ds b off u hb hc hr=>exact single _ _ rfl rfl (.ip ds b off u hb hc hr)
 | tup cs vs hl h=>exact single _ _ rfl rfl (.tup cs vs hl h)
 | clo fn fs cs us vs hf hl h1 h2=>exact single _ _ rfl rfl (.clo fn fs cs us vs hf hl h1 h2)
 | mp l b h=>exact single _ _ rfl rfl (.mp l b h)
theorem Addr.add_none (b off j:Nat):Addr.add ⟨b,off,none⟩ j=⟨b,off+j,none⟩:=by unfold Addr.add;split<;>simp_all
def od:TypeDesc->Bool
 | .struct _ | .array _ _=>true
 | _=>false
theorem lX {t:TypeId}{u:TypeDesc}(hu:P.underlying t=some u)(h:od u=true)(w:World):(isAgg t).run P w=.ok true w:=by
 unfold isAgg
 simp only[Sem.run_bind,run_underlying hu,Result.andThen_ok]
 cases u<;>first|rfl|(simp[od]at h)
theorem eI {t:TypeId}{u:TypeDesc}(hu:P.underlying t=some u)(h:od u=false)(w:World):(isAgg t).run P w=.ok false w:=by
 unfold isAgg
 simp only[Sem.run_bind,run_underlying hu,Result.andThen_ok]
 cases u<;>first|rfl|(simp[od]at h)
theorem cH {t:TypeId}{i:TypeInfo}(hi:P.info? t=some i)(w:World):(sizeOf t).run P w=.ok i.size w:=by
 simp[sizeOf,typeInfo,hi]
theorem qc {t:TypeId}{cs:List AV}{off:Nat}{v:AV}(h:mf P t cs off=some v) :
  ∃ u i,P.underlying t=some u/\P.info? t=some i /\
   ((od u=true/\off+i.size<=cs.length/\v=.agg ((cs.drop off).take i.size)) \/
    (od u=false/\cs[off]?=some v)):=by
 unfold mf at h
 split at h
 ·rename_i u i hu hi
  refine⟨u,i,hu,hi,?_⟩
  split at h
  ·refine .inl ⟨rfl,?_⟩
   cases hb:Nat.ble (off+i.size) cs.length
   ·simp[hb]at h
   ·simp[hb]at h;exact⟨ac hb,h.symm⟩
  ·refine .inl ⟨rfl,?_⟩
   cases hb:Nat.ble (off+i.size) cs.length
   ·simp[hb]at h
   ·simp[hb]at h;exact⟨ac hb,h.symm⟩
  ·rename_i h1 h2
   refine .inr ⟨?_,?_⟩
   ·cases u<;>first|rfl|(exact absurd rfl (h1 _))|(exact absurd rfl (h2 _ _))
   ·cases hb:(i.size==1)
    ·simp[hb]at h
    ·simpa[hb]using h
 ·cases h
def rk (w:World)(K:Nat->Prop)(m:Nat->Option (Option Nat))(H:Heap)(b off:Nat)(cs:List AV):Prop:=
 ∀ (i:Nat) (x:AV),cs[i]?=some x->∃ u,w.cell? ⟨b,off+i,none⟩=some u/\Rel w K m H x u
theorem CE {α:Type}(n:Nat)(f:Nat->Option α)(h:∀ i,i<n->∃ u,f i=some u):∃ vs:List α,vs.length=n/\∀ i,i<n->vs[i]?=f i:=by
 induction n with
 | zero=>exact⟨[],rfl,fun i hi=>by omega⟩
 | succ n ih =>
   obtain⟨vs,hl,hv⟩:=ih fun i hi=>h i (by omega)
   obtain⟨u,hu⟩:=h n (by omega)
   refine⟨vs++[u],by simp[hl],fun i hi=>?_⟩
   rw[br]
   split
   ·exact hv i (by omega)
   ·have:i=n:=by omega
    subst this
    simp[hl,hu]
theorem qm {t:TypeId}{cs:List AV}{b o f:Nat}{v:AV}(h:mf P t cs f=some v)(hc:rk w K m H b o cs) :
  ∃ u,(loadVar t ⟨b,o+f,none⟩).run P w=.ok u w/\Rel w K m H v u:=by
 obtain⟨u,i,hu,hi,⟨hag,hle,rfl⟩|⟨hag,hx⟩⟩:=qc h
 ·obtain⟨vs,hl,hv⟩:=CE i.size (fun j=>w.cell? ⟨b,o+f+j,none⟩) (fun j hj=>by
   obtain⟨u,hu,_⟩:=hc (f+j) (cs[f+j]) (aj (by omega))
   exact⟨u,by rw[← hu];congr 2;omega⟩)
  have hload:=run_loadCells_list (P:=P) w ⟨b,o+f,none⟩ vs (fun j v hj=>by
   have hjl:=(an.1 hj).1
   rw[Addr.add_none,← hv j (by omega)];exact hj)
  rw[hl]at hload
  refine⟨.agg vs.toArray,?_,.agg _ _ (by simp[hl];omega) (fun j x u hx hu=>?_)⟩
  ·unfold loadVar
   simp only[Sem.run_bind,lX hu hag,Result.andThen_ok,nj,cH hi,hload,Sem.run_pure]
  ·rw[cK]at hx
   split at hx
   ·rw[cc]at hx
    obtain⟨u',hu',hr⟩:=hc _ _ hx
    have:vs[j]?=some u:=by simpa using hu
    rw[hv j (by omega)]at this
    have e:u=u':=by
     have h2:w.cell? ⟨b,o+f+j,none⟩=some u':=by rw[← hu'];congr 2;omega
     rw[this]at h2;exact aJ h2
    rw[e];exact hr
   ·cases hx
 ·obtain⟨u',hu',hr⟩:=hc _ _ hx
  refine⟨u',?_,hr⟩
  unfold loadVar
  simp[Sem.run_bind,eI hu hag,hu']
theorem xz {t:TypeId}{cs:List AV}{vs:Array Value}{f:Nat}{v:AV}(h:mf P t cs f=some v)(hl:vs.size=cs.length)
  (hc:∀ (i:Nat) (a:AV) (v:Value),cs[i]?=some a->vs[i]?=some v->Rel w K m H a v):∃ u,(part t vs f).run P w=.ok u w/\Rel w K m H v u:=by
 obtain⟨u,i,hu,hi,⟨hag,hle,rfl⟩|⟨hag,hx⟩⟩:=qc h
 ·refine⟨.agg (vs.extract f (f+i.size)),?_,.agg _ _ (by simp;omega) (fun j x u hx hu=>?_)⟩
  ·unfold part
   simp only[Sem.run_bind,lX hu hag,Result.andThen_ok,nj,cH hi,Sem.run_pure]
  ·rw[cK]at hx
   split at hx
   ·rw[cc]at hx
    refine hc (f+j) x u hx ?_
    rw[cR]at hu
    split at hu
    ·exact hu
    ·cases hu
   ·cases hx
 ·have hlt:f<vs.size:=by rw[hl];exact(an.1 hx).1
  refine⟨vs[f],?_,hc f v vs[f] hx (by simp[hlt])⟩
  unfold part
  simp[Sem.run_bind,eI hu hag,hlt]
end Go.VL

namespace Go.VL
variable {P:Program} {C:bY} {E:Entry} {w:World} {K:Nat->Prop} {m:Nat->Option (Option Nat)} {H:Heap} {free:Nat->Prop} {nm:Nat} {o:Oper}
 {ρ:Operand->Value} {ρA:Operand->AV} {e:Eff}
theorem eX {s:Sem Value}{u:Value}{w w':World}(h:s.run P w=.ok u w'):(do pure (Next.value (← s)):Sem Next).run P w=.ok (.value u) w':=by
 simp[h]
theorem Fo {s:Sem Unit}{w w':World}(h:s.run P w=.ok () w'):(do s;pure Next.skip:Sem Next).run P w=.ok .skip w':=by
 simp[h]
theorem xm (hM:Mem E w K m H free)(hρ:∀ x,Rel w K m H (ρA x) (ρ x)){x:Operand}(ho:o.op=.move x\/o.op=.assign x)(he:eff (ρA x)=some e):Ran P E ρ o w K m H free nm e:=
 bR he hM (u:=ρ x) (by rcases ho with ho|ho<;>simp[execOp,ho]) (hρ x)
theorem FD (hM:Mem E w K m H free)(hρ:∀ x,Rel w K m H (ρA x) (ρ x)){c a b:Operand}(ho:o.op=.pick c a b)(he:opE P C ρA H nm o=some e):Ran P E ρ o w K m H free nm e:=by
 simp only[opE,ho,aa]at he
 obtain⟨cb,hc,he⟩:=he
 split at he
 ·rename_i x y hx hy
  have h1:=eJ hc (hρ c)
  have h2:=eJ hx (hρ a)
  have h3:=eJ hy (hρ b)
  refine bR he hM (u:=.bool (bif cb then x else y)) ?_ (.d _ _ (.v _))
  simp only[execOp,ho,h1,h2,h3,asBool,Sem.run_bind,Sem.run_pure,Result.andThen_ok]
  cases cb<;>rfl
 ·rename_i x hx hy
  have h1:=eJ hc (hρ c)
  have h2:=eJ hx (hρ a)
  cases cb
  ·cases he
  refine bR he hM (u:=.bool x) ?_ (.d _ _ (.v _))
  simp only[execOp,ho,h1,h2,asBool,Sem.run_bind,Sem.run_pure,Result.andThen_ok]
  rfl
 ·rename_i y hx hy
  have h1:=eJ hc (hρ c)
  have h3:=eJ hy (hρ b)
  cases cb
  ·refine bR he hM (u:=.bool y) ?_ (.d _ _ (.v _))
   simp only[execOp,ho,h1,h3,asBool,Sem.run_bind,Sem.run_pure,Result.andThen_ok]
   rfl
  ·cases he
 ·cases he
theorem Di (hM:Mem E w K m H free)(hn:free nm){t:TypeId}(ho:o.op=.alloc t)(he:opE P C ρA H nm o=some e):Ran P E ρ o w K m H free nm e:=by
 simp only[opE,ho,tQ,ae,aa]at he
 obtain⟨cs,⟨i,hi,z,hz,rfl⟩,rfl⟩:=he
 obtain⟨h1,h2⟩:=hM.new hn z.cells t (.box (z.cells.toList.map fun v=>.d (.v v))) (fun w' m' H' e' hm hw=>⟨w.heap.size,z.cells,t,hm,hw,by simp,fun i x v hx hv=>by
  simp only[aO,bt,hv,bo,af]at hx
  subst hx
  exact .d _ _ (.v _)⟩)
 refine⟨_,.pointer (some ⟨w.heap.size,0,none⟩),_,_,_,?_,.inl rfl,?_,h1,h2⟩
 ·simp only[execOp,ho]
  exact eX (by simp[Instr.alloc,zeroValue,typeInfo,hi,hz,newVar,newRow])
 ·exact .ptr _ _ _ (bA _ _ _)
theorem IX (hM:Mem E w K m H free)(hn:free nm)(hρ:∀ x,Rel w K m H (ρA x) (ρ x)){t:TypeId}{x:Operand}(ho:o.op=.box t x)(he:opE P C ρA H nm o=some e):Ran P E ρ o w K m H free nm e:=by
 simp only[opE,ho]at he
 cases hk:(ρA x).known
 ·simp[hk]at he
 ·simp only[hk,aG,af]at he
  subst he
  obtain⟨hs,hc⟩:=jq hk (hρ x)
  obtain⟨h1,h2⟩:=hM.new hn (ρ x).cells t (.box (ρA x).cells) (fun w' m' H' e' hm hw=>⟨w.heap.size,_,t,hm,hw,hs,fun i y v hy hv=>(hc i y v hy hv).ext e'⟩)
  refine⟨_,.pointer (some ⟨w.heap.size,0,none⟩),_,_,_,?_,.inl rfl,?_,h1,h2⟩
  ·simp only[execOp,ho]
   exact eX (by simp[Instr.box,newVar,newRow])
  ·exact .ptr _ _ _ (bA _ _ _)
theorem pR (off:Nat):∀ (l:List Value) (n:Nat) (cs:Array Value),
  ((l.zipIdx n).foldl (fun cs (p:Value×Nat)=>cs.setIfInBounds (off+p.2) p.1) cs).size=cs.size /\
  ∀ k,((l.zipIdx n).foldl (fun cs (p:Value×Nat)=>cs.setIfInBounds (off+p.2) p.1) cs)[k]?=if off+n<=k/\k<off+n+l.length/\k<cs.size then l[k-(off+n)]? else cs[k]?
 | [],n,cs=>by simp;intro k h1 h2;omega
 | v :: l, n, cs => by
   simp only[List.zipIdx_cons,gx]
   obtain⟨h1,h2⟩:=pR off l (n+1) (cs.setIfInBounds (off+n) v)
   refine⟨by rw[h1];simp,fun k=>?_⟩
   rw[h2 k]
   simp only[Array.size_setIfInBounds,ag]
   by_cases hk:k=off+n
   ·subst hk
    have:¬ (off+(n+1)<=off+n):=by omega
    simp only[this,false_and,if_false]
    by_cases hlt:off+n<cs.size
    ·simp[hlt]
    ·simp[hlt]
   ·by_cases hin:off+(n+1)<=k/\k<off+(n+1)+l.length/\k<cs.size
    ·have hin':off+n<=k/\k<off+n+(l.length+1)/\k<cs.size:=by omega
     rw[aE hin,aE hin']
     rw[show k-(off+n)=(k-(off+(n+1)))+1 by omega,gR]
    ·have hin':¬ (off+n<=k/\k<off+n+(l.length+1)/\k<cs.size):=by omega
     rw[aH hin,aH hin',Array.getElem?_setIfInBounds_ne (by omega)]
theorem cX {α:Type}(cs new:List α)(off:Nat)(h:off+new.length<=cs.length):(dx cs off new).length=cs.length:=by
 simp only[dx,al,aF,aK];omega
theorem gy {α:Type}(cs new:List α)(off:Nat)(h:off+new.length<=cs.length)(k:Nat) :
  (dx cs off new)[k]?=if off<=k/\k<off+new.length then new[k-off]? else cs[k]?:=by
 have hl:(cs.take off).length=off:=by simp;omega
 unfold dx
 by_cases h1:k<off
 ·rw[bC (by omega),cK,aE h1,aH (by omega)]
 ·rw[bL (by omega),hl]
  by_cases h2:k<off+new.length
  ·rw[bC (by omega),aE ⟨by omega,h2⟩]
  ·rw[bL (by omega),cc,aH (by omega)]
   congr 1;omega
theorem sM {places:Nat->Option (Nat×Nat)}{fs:Array Field}(hp:∀ (i:Nat) (f:Field) (n:Nat),fs[i]?=some f->eV P f.type=some n->places i=some (f.offset,n)) :
  ∀ (parts:List (Nat×Operand)) (cs:List AV) (vs:Array Value) (out:List AV),vc P fs cs (parts.map fun p=>(p.1,ρA p.2))=some out->(∀ x,Rel w K m H (ρA x) (ρ x))->vs.size=cs.length ->
   (∀ (i:Nat) (x:AV) (u:Value),cs[i]?=some x->vs[i]?=some u->Rel w K m H x u) ->
   ∃ us,Instr.fill places vs (parts.map fun p=>(p.1,ρ p.2))=some us/\us.size=out.length/\∀ (i:Nat) (x:AV) (u:Value),out[i]?=some x->us[i]?=some u->Rel w K m H x u
 | [], cs, vs, out, h, hρ, hs, hr => by
   simp only[dm,vc,af]at h
   subst h
   exact⟨vs,rfl,hs,hr⟩
 | (i, x) :: rest, cs, vs, out, h, hρ, hs, hr => by
   simp only[bk,vc]at h
   split at h
   ·rename_i f hf
    simp only[aa]at h
    obtain⟨n,hn,h⟩:=h
    cases hb:((ρA x).known&&(ρA x).cells.length==n&&Nat.ble (f.offset+n) cs.length)
    ·simp[hb]at h
    ·simp only[hb,aG]at h
     simp only[aM,bV]at hb
     obtain⟨⟨hk,hlen⟩,hle⟩:=hb
     have hle:=ac hle
     obtain⟨hs',hc'⟩:=jq hk (hρ x)
     have hfold:=pR f.offset (ρ x).cells.toList 0 vs
     have hsz:(ρ x).cells.size=n:=by rw[hs',hlen]
     have hspl:f.offset+(ρA x).cells.length<=cs.length:=by omega
     have hfe:(ρ x).cells.zipIdx.foldl (fun cs (c,j)=>cs.setIfInBounds (f.offset+j) c) vs=((ρ x).cells.toList.zipIdx 0).foldl (fun cs (p:Value×Nat)=>cs.setIfInBounds (f.offset+p.2) p.1) vs:=by
      rw[← jW,Array.toList_zipIdx]
     obtain⟨us,h1,h2,h3⟩:=sM hp rest (dx cs f.offset (ρA x).cells) _ out h hρ (by rw[hfold.1,cX _ _ _ hspl];exact hs) (fun k y u hy hu=>by
      rw[hfold.2 k]at hu
      rw[gy _ _ _ hspl k]at hy
      simp only[eN,be,hsz]at hu
      rw[hlen]at hy
      by_cases hin:f.offset<=k/\k<f.offset+n
      ·rw[aE hin]at hy
       have hkv:k<vs.size:=by omega
       rw[aE ⟨hin.1,hin.2,hkv⟩]at hu
       exact hc' _ _ _ hy (by simpa using hu)
      ·rw[aH hin]at hy
       rw[aH (by omega)]at hu
       exact hr k y u hy hu)
     refine⟨us,?_,h2,h3⟩
     simp only[bk,Instr.fill,hp i f n hf hn,hsz,ne_eq,hP,jn,Bool.false_or]
     have:¬ (f.offset+n>vs.size):=by omega
     simp only[this,jn,Bool.false_eq_true,if_false]
     rw[hfe]
     exact h1
   ·cases h
theorem xJ (fs:List Field)(w:World)(hall:∀ f∈fs,∃ n,eV P f.type=some n):∃ ps:List (Nat×Nat),
  (fs.mapM fun(f:Field)=>(do pure (f.offset,← sizeOf f.type):Sem (Nat×Nat))).run P w=.ok ps w/\ps.length=fs.length/\∀ (i:Nat) (f:Field) (n:Nat),fs[i]?=some f->eV P f.type=some n->ps[i]?=some (f.offset,n):=by
 induction fs with
 | nil=>exact⟨[],rfl,rfl,fun i f n h=>by simp at h⟩
 | cons f fs ih =>
   obtain⟨ps,h1,h2,h3⟩:=ih fun g hg=>hall g (by simp[hg])
   obtain⟨n,hn⟩:=hall f (by simp)
   simp only[eV,ae]at hn
   obtain⟨i,hi,rfl⟩:=hn
   refine⟨(f.offset,i.size)::ps,?_,by simp[h2],fun k g n hk hn=>?_⟩
   ·rw[List.mapM_cons]
    simp only[Sem.run_bind,cH hi,Result.andThen_ok,Sem.run_pure,h1]
   ·cases k with
    | zero =>
      simp only[bl,af]at hk
      subst hk
      simp only[eV,hi,bo,af]at hn
      subst hn
      rfl
    | succ k=>simpa using h3 k g n (by simpa using hk) hn
end Go.VL

namespace Go.VL
variable {P:Program} {C:bY} {E:Entry} {w:World} {K:Nat->Prop} {m:Nat->Option (Option Nat)} {H:Heap} {free:Nat->Prop} {nm:Nat} {o:Oper}
 {ρ:Operand->Value} {ρA:Operand->AV} {e:Eff}
theorem Dg (hM:Mem E w K m H free)(hρ:∀ x,Rel w K m H (ρA x) (ρ x)){t:TypeId}{parts:Array (Nat×Operand)}(ho:o.op=.build t parts)(he:opE P C ρA H nm o=some e) :
  Ran P E ρ o w K m H free nm e:=by
 simp only[opE,ho]at he
 split at he
 ·rename_i fs hfs
  cases hall:(fs.toList.all fun f=>(eV P f.type).isSome)
  ·simp[hall]at he
  ·simp only[hall,aG,aa,tQ,ae]at he
   obtain⟨z,⟨i,hi,zv,hz,rfl⟩,cs,hcs,he⟩:=he
   obtain⟨ps,hps,hpl,hpg⟩:=xJ (P:=P) fs.toList w (fun f hf=>by
    have:=bM.1 hall f hf
    exact bJ.1 this)
   obtain⟨us,h1,h2,h3⟩:=sM (P:=P) (places:=(ps.toArray[·]?)) (fs:=fs) (fun k f n hk hn=>by
    simpa using hpg k f n (by simpa using hk) hn) parts.toList _ zv.cells cs hcs hρ (by simp) (fun k x u hx hu=>by
     simp only[aO,bt,hu,bo,af]at hx
     subst hx
     exact .d _ _ (.v _))
   refine bR he hM (u:=.agg us) ?_ (.agg _ _ h2 h3)
   simp only[execOp,ho]
   refine eX ?_
   have hm:(fs.mapM fun(f:Field)=>(do pure (f.offset,← sizeOf f.type):Sem (Nat×Nat))).run P w=.ok ps.toArray w:=by
    rw[Array.mapM_eq_mapM_toList]
    show(List.toArray <$> _:Sem _).run P w=_
    rw[map_eq_pure_bind]
    simp only[Sem.run_bind,hps,Result.andThen_ok,Sem.run_pure]
   simp only[Instr.build,Sem.run_bind,zeroValue,typeInfo,run_program,Result.andThen_ok,hi,Sem.run_pure,hz,run_underlying hfs,hm]
   have hl:(Array.map (fun(x:Nat×Operand)=>(match x with|(i,x)=>(i,ρ x))) parts).toList=parts.toList.map fun p=>(p.1,ρ p.2):=by simp
   rw[hl,h1]
   rfl
 ·rename_i n el hfs
  simp only[aa,tQ,ae]at he
  obtain⟨sz,hsz,z,⟨i,hi,zv,hz,rfl⟩,cs,hcs,he⟩:=he
  obtain⟨us,h1,h2,h3⟩:=sM (P:=P) (places:=fun i=>some (i*sz,sz)) (fs:=HZ el n sz) (fun k f n' hk hn=>by
   unfold HZ at hk
   simp only[eF,aO,ae]at hk
   obtain⟨j,hj,rfl⟩:=hk
   have hjk:j=k:=by
    rw[an]at hj
    obtain⟨_,hj⟩:=hj
    simpa using hj.symm
   subst hjk
   simp only at hn
   rw[hsz]at hn;cases hn;rfl) parts.toList _ zv.cells cs hcs hρ (by simp) (fun k x u hx hu=>by
    simp only[aO,bt,hu,bo,af]at hx
    subst hx
    exact .d _ _ (.v _))
  refine bR he hM (u:=.agg us) ?_ (.agg _ _ h2 h3)
  simp only[execOp,ho]
  refine eX ?_
  simp only[eV,ae]at hsz
  obtain⟨inf,hinf,rfl⟩:=hsz
  simp only[Instr.build,Sem.run_bind,zeroValue,typeInfo,run_program,Result.andThen_ok,hi,Sem.run_pure,hz,run_underlying hfs,cH hinf]
  have hl:(Array.map (fun(x:Nat×Operand)=>(match x with|(i,x)=>(i,ρ x))) parts).toList=parts.toList.map fun p=>(p.1,ρ p.2):=by simp
  rw[hl,h1]
  rfl
 ·cases he
theorem Cc (hM:Mem E w K m H free){l b:Nat}{cells:List AV}(hg:H.get l=some (.box cells))(hm:m l=some (some b)):rk w K m H b 0 cells:=by
 obtain⟨b',cs,T,hm',hw,hs,hr⟩:=hM.heap l _ hg
 rw[hm]at hm'
 cases hm'
 intro i x hx
 have hlt:i<cs.size:=by rw[hs];exact(an.1 hx).1
 exact⟨cs[i],by simp[World.cell?,hw,hlt],hr i x cs[i] hx (by simp[hlt])⟩
theorem Kn (hM:Mem E w K m H free){l b:Nat}{T:TypeId}{t:Ty}{xs:List t.ty}(hg:H.get l=some (.row T t xs))(hm:m l=some (some b)){i:Nat}(hi:i<xs.length)(d0:t.ty) :
  rk w K m H b (i*t.size) ((enc t (xs.getD i d0)).map .d):=by
 rcases hM.heap l _ hg with⟨hm',_⟩|⟨b',cs,hm',hw,hs,hr⟩
 ·rw[hm]at hm';cases hm'
 ·rw[hm]at hm'
  cases hm'
  intro j x hx
  simp only[aO,ae]at hx
  obtain⟨d,hd,rfl⟩:=hx
  have hx:xs[i]?=some (xs.getD i d0):=by simp[List.getD,aj hi]
  obtain⟨v,hv,hrel⟩:=hr i _ j d hx hd
  exact⟨v,by simp[World.cell?,hw,hv],.d _ _ hrel⟩
theorem FE (hM:Mem E w K m H free)(hρ:∀ x,Rel w K m H (ρA x) (ρ x)){t:TypeId}{a:Operand}(ho:o.op=.load t a)(he:opE P C ρA H nm o=some e)(hn:e.need) :
  Ran P E ρ o w K m H free nm e:=by
 have fin:∀ {v:AV} {p:Prop} {rd:List Nat} {b off f:Nat} {cs:List AV},ρ a=.pointer (some ⟨b,off+f,none⟩)->mf P t cs f=some v->rk w K m H b off cs->Ran P E ρ o w K m H free nm ⟨v,p,rd,[]⟩:=by
  intro v p rd b off f cs hp hpart hcs
  obtain⟨u,hu,hr⟩:=qm hpart hcs
  refine Ran.same hM (u:=u) ?_ hr
  simp only[execOp,ho]
  exact eX (by simp[Instr.loadAt,Instr.sureAddr,hp,hu])
 have hr:=hρ a
 simp only[opE,ho]at he
 split at he
 ·rename_i l f ha
  rw[ha]at hr
  split at he
  ·rename_i cells hg
   simp only[ae]at he
   obtain⟨v,hv,rfl⟩:=he
   generalize hgv:ρ a=ra at hr
   cases hr with
   | ptr _ _ b hm=>exact fin (off:=0) (by rw[hgv,cq]) hv (Cc hM hg hm)
  ·cases he
 ·rename_i l t' i f ha
  rw[ha]at hr
  split at he
  ·rename_i T t2 xs hg
   split at he
   ·rename_i ht;subst ht
    simp only[ae]at he
    obtain⟨v,hv,rfl⟩:=he
    generalize hgv:ρ a=ra at hr
    cases hr with
    | eptr _ _ _ _ b hm=>exact fin (by rw[hgv]) hv (Kn hM hg hm hn _)
   ·cases he
  ·cases he
 ·rename_i ds ha
  rw[ha]at hr
  simp only[aa,eff,af]at he
  obtain⟨v,hv,rfl⟩:=he
  generalize hgv:ρ a=ra at hr
  cases hr with
  | ip _ b off u hb hc hr =>
    refine fin (off:=off) (f:=0) (by rw[hgv];rfl) hv (fun i x hx=>?_)
    simp only[aO,ae]at hx
    obtain⟨d,hd,rfl⟩:=hx
    exact⟨_,hc i d hd,.d _ _ (hr i d hd)⟩
 ·cases he
theorem vh {a:AV}(ha:a.cells.all AV.one=true):a.known=true:=by
 cases a with
 | dead=>simp[AV.cells,AV.one]at ha
 | d x =>
   cases x with
   | v x=>cases x<;>first|rfl|(simp[AV.cells,AV.one]at ha)
   | _=>rfl
 | _=>rfl
theorem tZ {t:TypeId}{n b off:Nat}{v:Value}{cs:Array Value}{T:TypeId}(hsz:eV P t=some n)(hv:v.cells.size=n)(hone:∀ u∈v.cells.toList,u.oneCell'=true)
  (hw:w.heap[b]?=some (.cells cs T (0,0))) (hle:off+n<=cs.size) :
  (storeVar t ⟨b,off,none⟩ v).run P w=.ok () (w.setRow b (dx cs.toList off v.cells.toList).toArray):=by
 simp only[eV,ae]at hsz
 obtain⟨i,hi,rfl⟩:=hsz
 have hst:=run_storeCells_at P b off T v.cells.toList 0 cs w hw (by simpa[hv]using hle) hone
 unfold storeVar
 simp only[Sem.run_bind,cH hi,Result.andThen_ok,hv,ne_eq,hP,if_false,hst]
 simp[dx,bb]
def KF (K:Nat->Prop)(m:Nat->Option (Option Nat))(fz:List Nat):Nat->Prop:=fun b=>K b\/∃ l,l∈fz/\m l=some (some b)
theorem RelD.slrel {t:Ty}{xs:List t.ty}{K':Nat->Prop}{rd:List Nat}{a:Option Addr}{n cap:Nat}(h:SlRel w K m H rd t xs a n cap)(hK:∀ b,KF K m rd b->K' b):RelD w K' (.sl t xs) (.slice a n cap):=by
 obtain⟨rfl,hcap,haddr⟩:=h
 by_cases hx:xs=[]
 ·subst hx;exact .sl0 t a cap
 ·obtain⟨b,off,rfl,hb,hr⟩:=haddr hx
  have hKb:K' b:=hK b hb
  have hch:∃ u:Nat->Nat->Value,∀ i x j d,xs[i]?=some x->(enc t x)[j]?=some d->w.cell? ⟨b,off+(i*t.size+j),none⟩=some (u i j)/\RelD w K d (u i j):=by
   refine⟨fun i j=>(w.cell? ⟨b,off+(i*t.size+j),none⟩).getD undef,fun i x j d hx hd=>?_⟩
   obtain⟨u,hu,hrel⟩:=hr i x j d hx hd
   exact⟨by simp[hu],by simpa[hu]using hrel⟩
  obtain⟨u,hu⟩:=hch
  exact .sl t xs b off cap u hKb hcap (fun i x j d hx hd=>(hu i x j d hx hd).1) (fun i x j d hx hd=>((hu i x j d hx hd).2).ext (fun b hb=>hK b (.inl hb)) (fun _ _=>rfl))
theorem Ao (hM:Mem E w K m H free){a:AV}{d:D}{p:Prop}{fz:List Nat}(ha:a.toD H=some (d,p,fz))(hp:p){v:Value}(h:Rel w K m H a v) :
  RelD w (KF K m fz) d v/\∀ l∈fz,∃ blk,H.get l=some blk:=by
 have viaS:∀ {t:Ty} (s:Sls t),a.sls H t=some s->s.need->s.rd=fz->d=.sl t s.xs->RelD w (KF K m fz) d v:=by
  intro t s hs hn hrd hd
  obtain⟨ad,n,cap,rfl,hsl⟩:=kg hM hs hn h
  subst hrd;subst hd
  exact RelD.slrel hsl (fun _ h=>h)
 cases a with
 | d x =>
   simp only[AV.toD,af,bw]at ha
   obtain⟨rfl,_,rfl⟩:=ha
   cases h with
   | d _ _ h=>exact⟨h.ext (fun b hb=>.inl hb) (fun _ _=>rfl),fun l hl=>by simp at hl⟩
 | fl t xs =>
   simp only[AV.toD,af,bw]at ha
   obtain⟨rfl,_,rfl⟩:=ha
   exact⟨viaS (t:=t) ⟨xs,True,[]⟩ (by simp[AV.sls]) trivial rfl rfl,fun l hl=>by simp at hl⟩
 | own l t =>
   simp only[AV.toD]at ha
   split at ha
   ·rename_i T t' xs hg
    split at ha
    ·rename_i ht;subst ht
     simp only[af,bw]at ha
     obtain⟨rfl,_,rfl⟩:=ha
     exact⟨viaS (t:=t') ⟨xs,True,[l]⟩ (by simp[AV.sls,hg]) trivial rfl rfl,fun k hk=>by simp at hk;subst hk;exact⟨_,hg⟩⟩
    ·cases ha
   ·cases ha
 | view l t off len =>
   simp only[AV.toD]at ha
   split at ha
   ·rename_i T t' xs hg
    split at ha
    ·rename_i ht;subst ht
     simp only[af,bw]at ha
     obtain⟨rfl,rfl,rfl⟩:=ha
     exact⟨viaS (t:=t') ⟨(xs.drop off).take len,off+len<=xs.length,[l]⟩ (by simp[AV.sls,hg]) hp rfl rfl,fun k hk=>by simp at hk;subst hk;exact⟨_,hg⟩⟩
    ·cases ha
   ·cases ha
 | _=>simp[AV.toD]at ha
theorem om (hM:Mem E w K m H free):∀ {as:List AV} {ds:List D} {p:Prop} {fz:List Nat},nL H as=some (ds,p,fz)->p->∀ {vs:Array Value},vs.size=as.length ->
  (∀ (i:Nat) (a:AV) (v:Value),as[i]?=some a->vs[i]?=some v->Rel w K m H a v) ->
  ds.length=as.length/\(∀ (i:Nat) (d:D) (v:Value),ds[i]?=some d->vs[i]?=some v->RelD w (KF K m fz) d v)/\∀ l∈fz,∃ blk,H.get l=some blk
 | [], ds, p, fz, h, hp, vs, hs, hr => by
   simp only[nL,af,bw]at h
   obtain⟨rfl,_,rfl⟩:=h
   exact⟨rfl,fun i d v h=>by simp at h,fun l hl=>by simp at hl⟩
 | a :: as, ds, p, fz, h, hp, vs, hs, hr => by
   simp only[nL,aa,ae,Prod.exists]at h
   obtain⟨d,p1,l1,h1,ds',p2,l2,h2,h3⟩:=h
   simp only[bw]at h3
   obtain⟨rfl,rfl,rfl⟩:=h3
   have hv0:vs[0]?=some (vs[0]'(by simp at hs;omega)):=by simp at hs;simp[show 0<vs.size by omega]
   obtain⟨hd,hl1⟩:=Ao hM h1 hp.1 (hr 0 a _ (by simp) hv0)
   obtain⟨hlen,hrest,hl2⟩:=om hM h2 hp.2 (vs:=vs.extract 1 vs.size) (by simp at hs ⊢;omega) (fun i b v hb hv=>by
    refine hr (i+1) b v (by simpa using hb) ?_
    rw[cR]at hv
    split at hv
    ·rw[← hv];congr 1;omega
    ·cases hv)
   refine⟨by simp[hlen],fun i d' v hd' hv=>?_,fun l hl=>?_⟩
   ·cases i with
    | zero =>
      simp only[bl,af]at hd'
      subst hd'
      rw[hv0]at hv;simp only[af]at hv;subst hv
      exact hd.ext (fun b hb=>by rcases hb with hb|⟨l,hl,hm⟩;exact .inl hb;exact .inr ⟨l,by simp[hl],hm⟩) (fun _ _=>rfl)
    | succ i =>
      refine(hrest i d' v (by simpa using hd') ?_).ext (fun b hb=>by rcases hb with hb|⟨l,hl,hm⟩;exact .inl hb;exact .inr ⟨l,by simp[hl],hm⟩) (fun _ _=>rfl)
      rw[cR]
      have:i+1<vs.size:=(ci.1 hv).1
      rw[aE (by omega),← hv];congr 1;omega
   ·rcases aA.1 hl with hl|hl
    ·exact hl1 l hl
    ·exact hl2 l hl
theorem Mem.give (h:Mem E w K m H free)(l:Nat):∃ K',Mem E w K' m (H.put l none) free/\Ext w K m H w K' m (H.put l none)/\∀ b blk,H.get l=some blk->m l=some (some b)->K' b:=by
 cases hg:H.get l with
 | none=>exact⟨K,h.del l,Ext.del w K m H l,fun b blk hb=>by simp at hb⟩
 | some blk =>
   cases hm:m l with
   | none=>exact⟨K,h.del l,Ext.del w K m H l,fun b blk hb hmb=>by simp at hmb⟩
   | some x =>
     cases x with
     | none=>exact⟨K,h.del l,Ext.del w K m H l,fun b blk hb hmb=>by simp at hmb⟩
     | some b =>
       obtain⟨h1,h2⟩:=h.freeze hg hm
       exact⟨_,h1,h2,fun b' blk' hb hmb=>by simp at hmb;exact .inr hmb.symm⟩
theorem Mem.gives:∀ (fz:List Nat) {K:Nat->Prop} {H:Heap},Mem E w K m H free->∃ K',Mem E w K' m (H.app (fz.map fun k=>(k,none))) free/\Ext w K m H w K' m (H.app (fz.map fun k=>(k,none))) /\
  ∀ l∈fz,∀ b blk,H.get l=some blk->m l=some (some b)->K' b
 | [],K,H,h=>⟨K,h,Ext.refl w K m H,fun l hl=>by simp at hl⟩
 | l :: fz, K, H, h => by
   obtain⟨K1,h1,e1,hk1⟩:=h.give l
   obtain⟨K2,h2,e2,hk2⟩:=Mem.gives fz h1
   refine⟨K2,h2,e1.trans e2,fun k hk b blk hb hm=>?_⟩
   by_cases hkl:k=l
   ·subst hkl;exact e2.hK b (hk1 b blk hb hm)
   ·rcases aD.1 hk with hk|hk
    ·exact absurd hk hkl
    ·exact hk2 k hk b blk (by rw[Heap.get_put _ hkl];exact hb) hm
theorem Heap.app_get_gone:∀ (fz:List Nat) (H:Heap) {l:Nat},(∀ k∈fz,k≠l)->(H.app (fz.map fun k=>(k,none))).get l=H.get l
 | [],H,l,_=>rfl
 | k :: fz, H, l, h => by
   show(Heap.app (H.put k none) (fz.map fun k=>(k,none))).get l=H.get l
   rw[Heap.app_get_gone fz (H.put k none) (fun j hj=>h j (by simp[hj])),Heap.get_put _ (fun e=>h k (by simp) e.symm)]
theorem lc {fz:List Nat}{K':Nat->Prop}(hK:∀ b,K b->K' b)(hl:∀ l∈fz,∃ blk,H.get l=some blk)(hk:∀ l∈fz,∀ b blk,H.get l=some blk->m l=some (some b)->K' b) :
  ∀ b,KF K m fz b->K' b:=by
 rintro b (hb|⟨l,hlf,hm⟩)
 ·exact hK b hb
 ·obtain⟨blk,hg⟩:=hl l hlf
  exact hk l hlf b blk hg hm
theorem Les.get {as bs:List D}(h:Les as bs):as.length=bs.length/\∀ (i:Nat) (a b:D),as[i]?=some a->bs[i]?=some b->a.le b:=by
 induction h with
 | nil=>exact⟨rfl,fun i a b h=>by simp at h⟩
 | cons hab _ ih =>
   refine⟨by simp[ih.1],fun i x y hx hy=>?_⟩
   cases i with
   | zero=>simp at hx hy;subst hx;subst hy;exact hab
   | succ i=>exact ih.2 i x y (by simpa using hx) (by simpa using hy)
theorem Da (hM:Mem E w K m H free)(hρ:∀ x,Rel w K m H (ρA x) (ρ x)){t:TypeId}{a x:Operand}(ho:o.op=.store t a x)(he:opE P C ρA H nm o=some e)(hn:e.need) :
  Ran P E ρ o w K m H free nm e:=by
 have hr:=hρ a
 simp only[opE,ho]at he
 split at he
 ·rename_i n l f hsz ha
  rw[ha]at hr
  split at he
  ·rename_i cells hg
   cases hb:((ρA x).cells.length==n&&Nat.ble (f+n) cells.length&&(ρA x).cells.all AV.one)
   ·simp[hb]at he
   ·simp only[hb,aG,af]at he
    subst he
    simp only[aM,bV]at hb
    obtain⟨⟨hlen,hle⟩,hone⟩:=hb
    have hle:=ac hle
    generalize hgv:ρ a=ra at hr
    cases hr with
    | ptr _ _ b hm=>
    obtain⟨b',cs,T,hm',hw,hs,hrel⟩:=hM.heap l _ hg
    rw[hm]at hm';cases hm'
    obtain⟨hxs,hxc⟩:=jq (vh hone) (hρ x)
    have hxone:∀ u∈(ρ x).cells.toList,u.oneCell'=true:=by
     intro u hu
     obtain⟨i,hi,rfl⟩:=dV hu
     have hil:i<(ρA x).cells.length:=by rw[← hxs];simpa using hi
     exact AV.one_rel (bM.1 hone _ (aQ hil)) (hxc i _ _ (aj hil) (by rw[← bt];exact aj hi))
    have hrun:=tZ (P:=P) (w:=w) (off:=f) hsz (by rw[hxs,hlen]) hxone hw (by omega)
    have hspl:f+(ρ x).cells.toList.length<=cs.toList.length:=by simp[hxs,hlen];omega
    obtain⟨h1,h2⟩:=hM.write hg hm (blk:=.box (dx cells f (ρA x).cells)) (w':=w.setRow b (dx cs.toList f (ρ x).cells.toList).toArray) (cs':=(dx cs.toList f (ρ x).cells.toList).toArray) hw (setRow_heap w b cs _ T _ hw) (by rw[ck,cX _ _ _ hspl,be])
     (fun k hk=>setRow_other w b k _ hk) ⟨rfl,rfl,rfl,by simp⟩ (fun T' t' xs hx=>by cases hx)
     (fun H' e'=>⟨b,(dx cs.toList f (ρ x).cells.toList).toArray,T,hm,setRow_heap w b cs _ T _ hw,by rw[ck,cX _ _ _ hspl,cX _ _ _ (by omega),be];exact hs,fun i y v hy hv=>by
      rw[eF,gy _ _ _ hspl]at hv
      rw[gy _ _ _ (by omega)]at hy
      simp only[be,hxs]at hv
      by_cases hin:f<=i/\i<f+(ρA x).cells.length
      ·rw[aE hin]at hv hy
       exact(hxc _ _ _ hy (by simpa using hv)).ext e'
      ·rw[aH hin]at hv hy
       exact(hrel i y v hy (by simpa using hv)).ext e'⟩)
    refine⟨_,undef,_,_,_,?_,.inr ⟨rfl,rfl⟩,.dead _,h1.weaken (fun _ hl=>hl.1),h2⟩
    simp only[execOp,ho]
    exact Fo (by simp[Instr.storeAt,Instr.sureAddr,hgv,hrun])
  ·cases he
 ·rename_i n l t' i f hsz ha
  rw[ha]at hr
  split at he
  ·rename_i T t2 xs hg
   split at he
   ·rename_i ht;subst ht
    simp only[aa,Prod.exists]at he
    obtain⟨ds,p,fz,hds,he⟩:=he
    cases hb:(ds.length==n&&Nat.ble (f+n) t'.size&&(ρA x).cells.all AV.one&&fz.all (· != l))
    ·simp[hb]at he
    ·simp only[hb,aG,ae]at he
     obtain⟨y,hy,rfl⟩:=he
     simp only[aM,bV]at hb
     obtain⟨⟨⟨hlen,hle⟩,hone⟩,hnl⟩:=hb
     have hle:=ac hle
     obtain⟨hi,hp⟩:=hn
     generalize hgv:ρ a=ra at hr
     cases hr with
     | eptr _ _ _ _ b hm=>
     rcases hM.heap l _ hg with⟨hm',_⟩|⟨b',cs,hm',hw,hs,hrel⟩
     ·rw[hm]at hm';cases hm'
     rw[hm]at hm';cases hm'
     obtain⟨hxs,hxc⟩:=jq (vh hone) (hρ x)
     obtain⟨hdl,hdr,hdf⟩:=om hM hds hp hxs hxc
     have hxone:∀ u∈(ρ x).cells.toList,u.oneCell'=true:=by
      intro u hu
      obtain⟨i,hi,rfl⟩:=dV hu
      have hil:i<(ρA x).cells.length:=by rw[← hxs];simpa using hi
      exact AV.one_rel (bM.1 hone _ (aQ hil)) (hxc i _ _ (aj hil) (by rw[← bt];exact aj hi))
     have hbound:i*t'.size+t'.size<=cs.size:=by
      calc i*t'.size+t'.size=(i+1)*t'.size:=by rw[bv,ea]
       _<=xs.length*t'.size:=aC _ hi
       _<=cs.size:=hs
     have hrun:=tZ (P:=P) (w:=w) (off:=i*t'.size+f) hsz (by rw[hxs,← hdl,hlen]) hxone hw (by omega)
     have hspl:i*t'.size+f+(ρ x).cells.toList.length<=cs.toList.length:=by simp[hxs,← hdl,hlen];omega
     have hx0:xs[i]?=some (xs.getD i t'.dflt):=by simp[List.getD,aj hi]
     have hspd:f+ds.length<=(enc t' (xs.getD i t'.dflt)).length:=by rw[bS];omega
     obtain⟨hll,hlg⟩:=(ws hy).get
     obtain⟨K1,h1,e1,hk1⟩:=Mem.gives fz hM
     have hlf:∀ k∈fz,k≠l:=fun k hk=>by simpa using bM.1 hnl k hk
     have hg1:(H.app (fz.map fun k=>(k,none))).get l=some (.row T t' xs):=by rw[Heap.app_get_gone fz H hlf];exact hg
     have hKF:=lc e1.hK hdf hk1
     let ncs:=(dx cs.toList (i*t'.size+f) (ρ x).cells.toList).toArray
     obtain⟨h2,e2⟩:=h1.write hg1 hm (blk:=.row T t' (xs.set i y)) (w':=w.setRow b ncs) (cs':=ncs) hw (setRow_heap w b cs ncs T _ hw)
      (by simp only[ncs];rw[ck,cX _ _ _ hspl,be]) (fun k hk=>setRow_other w b k _ hk) ⟨rfl,rfl,rfl,by simp⟩
      (fun T' t2 ys hx=>by cases hx;exact⟨xs,rfl,by simp⟩)
      (fun H' e'=>by
       refine .inr ⟨b,ncs,hm,setRow_heap w b cs ncs T _ hw,by simp only[ncs];rw[ck,cX _ _ _ hspl,cM,be];exact hs,fun k z j d hz hd=>?_⟩
       have hjs:j<t'.size:=by have:=(an.1 hd).1;rw[bS]at this;exact this
       simp only[ncs,eF]
       rw[gy _ _ _ hspl]
       simp only[be,hxs,← hdl]
       rw[bF]at hz
       by_cases hki:i=k
       ·subst hki
        rw[aE rfl,aE hi]at hz
        simp only[af]at hz
        subst hz
        have hspg:=gy _ _ _ hspd j
        by_cases hin:f<=j/\j<f+ds.length
        ·rw[aE (by omega),show i*t'.size+j-(i*t'.size+f)=j-f by omega]
         rw[aE hin]at hspg
         have hjd:j-f<ds.length:=by omega
         have hv:(ρ x).cells.toList[j-f]?=some ((ρ x).cells.toList[j-f]'(by simp[hxs,← hdl];exact hjd)):=aj _
         refine⟨_,hv,?_⟩
         have hle1:=hlg j _ d (by rw[hspg];exact aj hjd) hd
         refine RelD.le hle1 ?_
         exact(hdr (j-f) _ _ (aj hjd) (by rw[← bt];exact hv)).ext (fun b hb=>e'.hK b (hKF b hb)) (fun b2 hb2=>e'.keep b2 (hKF b2 hb2))
        ·rw[aH (by omega)]
         rw[aH hin]at hspg
         have hjl:j<(enc t' (xs.getD i t'.dflt)).length:=by rw[bS];exact hjs
         obtain⟨v,hv,hrl⟩:=hrel i _ j _ hx0 (aj hjl)
         refine⟨v,by simpa using hv,?_⟩
         have hle1:=hlg j _ d (by rw[hspg];exact aj hjl) hd
         exact RelD.le hle1 (hrl.ext (fun b hb=>e'.hK b (e1.hK b hb)) (fun b2 hb2=>e'.keep b2 (e1.hK b2 hb2)))
       ·rw[aH hki]at hz
        obtain⟨v,hv,hrl⟩:=hrel k z j d hz hd
        have hout:¬ (i*t'.size+f<=k*t'.size+j/\k*t'.size+j<i*t'.size+f+ds.length):=by
         rcases ay k i with h|h
         ·have:k*t'.size+t'.size<=i*t'.size:=by
           calc k*t'.size+t'.size=(k+1)*t'.size:=by rw[bv,ea]
            _<=i*t'.size:=aC _ h
          omega
         ·have:i*t'.size+t'.size<=k*t'.size:=by
           calc i*t'.size+t'.size=(i+1)*t'.size:=by rw[bv,ea]
            _<=k*t'.size:=aC _ (by omega)
          omega
        rw[aH hout]
        exact⟨v,by simpa using hv,hrl.ext (fun b hb=>e'.hK b (e1.hK b hb)) (fun b2 hb2=>e'.keep b2 (e1.hK b2 hb2))⟩)
     have happ:H.app ((fz.map fun k=>(k,none))++[(l,some (.row T t' (xs.set i y)))])=(H.app (fz.map fun k=>(k,none))).put l (some (.row T t' (xs.set i y))):=by simp[Heap.app]
     refine⟨_,undef,w.setRow b ncs,K1,m,?_,.inr ⟨rfl,rfl⟩,.dead _,?_,?_⟩
     ·simp only[execOp,ho]
      exact Fo (by simp[Instr.storeAt,Instr.sureAddr,hgv,hrun];rfl)
     ·simp only[happ];exact h2.weaken (fun _ hl=>hl.1)
     ·simp only[happ];exact e1.trans e2
   ·cases he
  ·cases he
 ·cases he
end Go.VL

namespace Go.VL
variable {P:Program} {C:bY} {E:Entry} {w:World} {K:Nat->Prop} {m:Nat->Option (Option Nat)} {H:Heap} {free:Nat->Prop} {nm:Nat} {o:Oper}
 {ρ:Operand->Value} {ρA:Operand->AV} {e:Eff}
theorem vE (hM:Mem E w K m H free)(hρ:∀ x,Rel w K m H (ρA x) (ρ x)){x:Operand}(ho:o.op=.nilCheck x)(he:opE P C ρA H nm o=some e):Ran P E ρ o w K m H free nm e:=by
 have hr:=hρ x
 simp only[opE,ho]at he
 have key:∀ {u:Value},ρ x=u->(∃ a,u=.pointer (some a))\/(∃ f us vs,u=.func (.func f) us vs)->(execOp ρ o).run P w=.ok (.value u) w:=by
  intro u hu h
  rcases h with⟨a,rfl⟩|⟨f,us,vs,rfl⟩<;>simp[execOp,ho,hu]
 split at he
 ·rename_i ha;rw[ha]at hr he
  generalize hgv:ρ x=ra at hr
  cases hr with|ptr _ _ b hm=>exact bR he hM (key hgv (.inl ⟨_,rfl⟩)) (.ptr _ _ _ hm)
 ·rename_i ha;rw[ha]at hr he
  generalize hgv:ρ x=ra at hr
  cases hr with|eptr _ _ _ _ b hm=>exact bR he hM (key hgv (.inl ⟨_,rfl⟩)) (.eptr _ _ _ _ _ hm)
 ·rename_i ha;rw[ha]at hr he
  generalize hgv:ρ x=ra at hr
  cases hr with|ip _ b off u hb hc hr=>exact bR he hM (key hgv (.inl ⟨_,rfl⟩)) (.ip _ _ _ _ hb hc hr)
 ·rename_i f fs cs ha;rw[ha]at hr
  generalize hgv:ρ x=ra at hr
  cases hr with|clo _ _ _ us vs hf hl h1 h2=>exact bR he hM (key hgv (.inr ⟨_,_,_,rfl⟩)) (.clo _ _ _ _ _ hf hl h1 h2)
 ·cases he
theorem xC {x y:Nat}(h:nanBits x):FloatKind.f64.format.order x y=none:=by
 unfold nanBits at h
 unfold Ieee.Format.order Ieee.Datum.order
 generalize FloatKind.f64.format.read x=a at h
 cases a<;>first|rfl|(simp[Ieee.Datum.isNaN]at h)
theorem xB {x y:Nat}(h:nanBits y):FloatKind.f64.format.order x y=none:=by
 unfold nanBits at h
 unfold Ieee.Format.order Ieee.Datum.order
 generalize FloatKind.f64.format.read y=a at h
 generalize FloatKind.f64.format.read x=b
 cases a<;>first|(cases b<;>rfl)|(simp[Ieee.Datum.isNaN]at h)
theorem MI {a b:Fl}{x y:Nat}(ha:sL a x)(hb:sL b y):FloatKind.f64.format.order x y=Fl.cmp a b:=by
 cases a with
 | none=>simp only[Fl.cmp,Option.bind_none];exact xC ha
 | some r =>
   cases b with
   | none=>simp only[Fl.cmp,aB,Option.bind_none];exact xB hb
   | some s=>simp only[sL]at ha hb;subst ha;subst hb;rfl
theorem tD (q:Nat):nanBits ((q%2)*2^63+0x7ff0000000000000+1+(q/2)%(2^52-1)):=by
 unfold nanBits
 have h1:FloatKind.f64.format.signWeight=9223372036854775808:=by decide
 have h2:FloatKind.f64.format.binade=4503599627370496:=by decide
 have h3:FloatKind.f64.format.infRung=9218868437227405312:=by decide
 simp only[Ieee.Format.read,h1,h2,h3]
 generalize hw:(q%2)*2^63+0x7ff0000000000000+1+(q/2)%(2^52-1)=x
 have h4:9218868437227405312<x%9223372036854775808:=by
  rcases Nat.mod_two_eq_zero_or_one q with h|h<;>rw[h]at hw<;>omega
 rw[aH (by omega),aH (by omega),aH (by omega)]
 rfl
theorem CO {a b:Ieee.Datum}(h:a.isNaN=true):a.sum b=none:=by cases a<;>first|rfl|(simp[Ieee.Datum.isNaN]at h)
theorem tY {a b:Ieee.Datum}(h:b.isNaN=true):a.sum b=none:=by cases b<;>first|(cases a<;>rfl)|(simp[Ieee.Datum.isNaN]at h)
theorem tA {a b:Ieee.Datum}(h:a.isNaN=true):a.product b=none:=by cases a<;>first|rfl|(simp[Ieee.Datum.isNaN]at h)
theorem tz {a b:Ieee.Datum}(h:b.isNaN=true):a.product b=none:=by cases b<;>first|(cases a<;>rfl)|(simp[Ieee.Datum.isNaN]at h)
theorem rT {n:Nat}{a b:Ieee.Datum}(h:a.isNaN=true):a.quotient n b=none:=by cases a<;>first|rfl|(simp[Ieee.Datum.isNaN]at h)
theorem rS {n:Nat}{a b:Ieee.Datum}(h:b.isNaN=true):a.quotient n b=none:=by cases b<;>first|(cases a<;>rfl)|(simp[Ieee.Datum.isNaN]at h)
theorem Ji {a:Ieee.Datum}(h:a.isNaN=true):a.opposite.isNaN=true:=by cases a<;>first|rfl|(simp[Ieee.Datum.isNaN]at h)
def jz (op:BinOp)(x y:Nat):Option Nat:=match op with
 | .add=>FloatKind.f64.format.add x y
 | .sub=>FloatKind.f64.format.sub x y
 | .mul=>FloatKind.f64.format.mul x y
 | .quo=>FloatKind.f64.format.div x y
 | _=>none
theorem CY {op:BinOp}{x y:Nat}(h:nanBits x):jz op x y=none:=by
 unfold nanBits at h
 cases op<;>simp only[jz,Ieee.Format.add,Ieee.Format.sub,Ieee.Format.mul,Ieee.Format.div,CO h,tA h,rT h,lN]
theorem CX {op:BinOp}{x y:Nat}(h:nanBits y):jz op x y=none:=by
 unfold nanBits at h
 cases op<;>simp only[jz,Ieee.Format.add,Ieee.Format.sub,Ieee.Format.mul,Ieee.Format.div,tY h,tY (Ji h),tz h,rS h,lN]
theorem Ib {op:BinOp}{a b:Fl}{x y:Nat}(ha:sL a x)(hb:sL b y):jz op x y=Fl.arith op a b:=by
 cases a with
 | none=>rw[CY ha];rfl
 | some r =>
   cases b with
   | none=>rw[CX hb];rfl
   | some s=>simp only[sL]at ha hb;subst ha;subst hb;cases op<;>rfl
theorem rK {op:BinOp}(hop:op=.add\/op=.sub\/op=.mul\/op=.quo)(x y:Nat)(w:World) :
  ∃ b n,(Op.floatArith op .f64 x y).run P w=.ok (.float .f64 b) (w.drewN n)/\sL (jz op x y) b:=by
 have fin:∀ (r:Option Nat),∃ b n,((match r with|some r=>(pure (.float .f64 r):Sem Value)|none=>do pure (.float .f64 (← choose (.nanBits .f64 x y)))):Sem Value).run P w=.ok (.float .f64 b) (w.drewN n)/\sL r b:=by
  intro r
  cases r with
  | some r=>exact⟨r,0,rfl,rfl⟩
  | none=>exact⟨_,1,rfl,tD _⟩
 rcases hop with rfl|rfl|rfl|rfl<;>(simp only[Op.floatArith,Sem.run_bind,Sem.run_pure,Result.andThen_ok,jz];exact fin _)
theorem Ext.drewN (w:World)(K:Nat->Prop)(m:Nat->Option (Option Nat))(H:Heap)(n:Nat):Ext w K m H (w.drewN n) K m H:=
 ⟨fun _ h=>h,fun _ _=>rfl,fun _ _ h=>h,fun _ _ h=>h,fun _ _ _ xs _ h=>⟨xs,h,rfl⟩⟩
theorem Mem.drewN (h:Mem E w K m H free)(n:Nat):Mem E (w.drewN n) K m H free:=
 { os := h.os, tape := h.tape, output := h.output, size := h.size, keep := h.keep, Kmono := h.Kmono, Klt := h.Klt, Knew := h.Knew, mold := h.mold, mnew := h.mnew, mlt := h.mlt,
   mfree:=h.mfree,fnew:=h.fnew,heap:=fun l blk hl=>(h.heap l blk hl).ext (Ext.drewN w K m H n) (fun _ _=>rfl),
   own:=h.own,inj:=h.inj,shape:=h.shape,frozen:=h.frozen,gok:=h.gok.ext (fun _ h=>h) (fun _ _=>rfl) }
theorem Ran.sameN {nm:Nat}{v:AV}{p:Prop}{rd:List Nat}(hM:Mem E w K m H free){u:Value}{n:Nat}
  (hr:(execOp ρ o).run P w=.ok (.value u) (w.drewN n)) (h:Rel (w.drewN n) K m H v u):Ran P E ρ o w K m H free nm ⟨v,p,rd,[]⟩:=
 ⟨_,u,w.drewN n,K,m,hr,.inl rfl,h,(hM.drewN n).weaken (fun _ hl=>hl.1),Ext.drewN w K m H n⟩
theorem ye {op:BinOp}{t:TypeId}{x y:Operand}{a b:Value}(h1:a≠.nilIface)(h2:∀ cs,a≠.agg cs)(w:World):(eqGuard op t x y a b).run P w=.ok () w:=by
 unfold eqGuard
 cases op<;>first|rfl|(simp only[];cases a<;>first|rfl|(exact absurd rfl h1)|(exact absurd rfl (h2 _))|(cases b<;>rfl))
theorem qM {op:BinOp}{t yt:TypeId}{x y:Operand}{u:Value}{w':World}(ho:o.op=.binOp op t x y yt)(h1:ρ x≠.nilIface)(h2:∀ cs,ρ x≠.agg cs)
  (h:(binOp op t (ρ x) (ρ y)).run P w=.ok u w'):(execOp ρ o).run P w=.ok (.value u) w':=by
 simp only[execOp,ho,Sem.run_bind,ye h1 h2,Result.andThen_ok,h,Sem.run_pure]
theorem FF (hM:Mem E w K m H free)(hρ:∀ x,Rel w K m H (ρA x) (ρ x)){op:BinOp}{t yt:TypeId}{x y:Operand}(ho:o.op=.binOp op t x y yt)(he:Ko P op t (ρA x) (ρA y)=some e)(hn:e.need) :
  Ran P E ρ o w K m H free nm e:=by
 have hx:=hρ x
 have hy:=hρ y
 unfold Ko at he
 split at he
 ·rename_i a b ha hb
  obtain⟨xa,ex,hxa⟩:=sK ha hx
  obtain⟨xb,ey,hxb⟩:=sK hb hy
  have hrb:=fun(u:Value) (w':World) (h:(binOp op t (ρ x) (ρ y)).run P w=.ok u w')=>qM (P:=P) (w:=w) ho (by rw[ex];simp) (by rw[ex];simp) h
  rw[ex,ey]at hrb
  have arith:∀ (hop:op=.add\/op=.sub\/op=.mul\/op=.quo),eff (.d (.f (Fl.arith op a b)))=some e->Ran P E ρ o w K m H free nm e:=by
   intro hop he
   simp only[eff,af]at he
   subst he
   obtain⟨b',n,hr,hok⟩:=rK (P:=P) hop xa xb w
   refine Ran.sameN hM (n:=n) (hrb _ _ ?_) (.d _ _ (.f _ _ (by rw[← Ib hxa hxb];exact hok)))
   rcases hop with rfl|rfl|rfl|rfl<;>simpa[binOp]using hr
  have test:(Fl.test op a b).bind (fun r=>eff (.ofV (.bool r)))=some e->Ran P E ρ o w K m H free nm e:=by
   intro he
   simp only[aa]at he
   obtain⟨r,hr,he⟩:=he
   refine bR he hM (hrb (.bool r) w ?_) (.d _ _ (.v _))
   have hc:=MI hxa hxb
   cases op<;>simp only[Fl.test,af,reduceCtorEq]at hr<;>(subst hr;simp[binOp,Op.floatCmp,hc])
  split at he
  ·exact arith (by simp) he
  ·exact arith (by simp) he
  ·exact arith (by simp) he
  ·exact arith (by simp) he
  ·exact test he
 ·split at he
  ·rename_i k a k' b ha hb
   rw[ha]at hx;rw[hb]at hy
   have ex:=cj hx
   have ey:=cj hy
   have hrb:=fun(u:Value) (w':World) (h:(binOp op t (ρ x) (ρ y)).run P w=.ok u w')=>qM (P:=P) (w:=w) ho (by rw[ex];simp) (by rw[ex];simp) h
   rw[ex,ey]at hrb
   split at he
   ·split at he
    ·rename_i hk;subst hk
     simp only[af]at he;subst he
     exact Ran.same hM (hrb _ _ (by simp only[ne_eq]at hn;simp[binOp,Op.intDiv,hn])) (.d _ _ (.v _))
    ·cases he
   ·split at he
    ·rename_i hk;subst hk
     simp only[af]at he;subst he
     exact Ran.same hM (hrb _ _ (by simp only[ne_eq]at hn;simp[binOp,Op.intDiv,hn])) (.d _ _ (.v _))
    ·cases he
   ·simp only[af]at he;subst he
    exact Ran.same hM (hrb _ _ (by simp only at hn;have:¬ b<0:=(by omega);simp[binOp,Op.shift,this])) (.d _ _ (.v _))
   ·simp only[af]at he;subst he
    exact Ran.same hM (hrb _ _ (by simp only at hn;have:¬ b<0:=(by omega);simp[binOp,Op.shift,this])) (.d _ _ (.v _))
   ·simp only[aa]at he
    obtain⟨r,hr,he⟩:=he
    exact bR he hM (hrb _ _ (vG hr w)) (.d _ _ (.v _))
  ·rename_i a b _ ha hb
   rw[ha]at hx;rw[hb]at hy
   have ex:=cj hx
   have ey:=cj hy
   have fin:(pur P (binOp op t a b)).bind (fun r=>eff (.ofV r))=some e->ρ x≠.nilIface->(∀ cs,ρ x≠.agg cs)->Ran P E ρ o w K m H free nm e:=by
    intro he h1 h2
    simp only[aa]at he
    obtain⟨r,hr,he⟩:=he
    exact bR he hM (qM ho h1 h2 (by rw[ex,ey];exact vG hr w)) (.d _ _ (.v _))
   split at he
   ·exact fin he (by rw[ex];simp) (by rw[ex];simp)
   ·exact fin he (by rw[ex];simp) (by rw[ex];simp)
   ·exact fin he (by rw[ex];simp) (by rw[ex];simp)
   ·cases he
  ·cases he
end Go.VL
