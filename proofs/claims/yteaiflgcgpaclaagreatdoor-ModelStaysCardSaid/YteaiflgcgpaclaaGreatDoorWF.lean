/- Own work: part WF of the proof. -/
import Derived.Test.YteaiflgcgpaclaaGreatDoorWE
set_option linter.unusedVariables false
set_option linter.unusedSimpArgs false
namespace Go.Proofs.Zn
open Go.Proofs.Tryz
open Go Go.VL
theorem Og (x:Fl):@Eq _ (xS prog codes sigs f119 [.int] 200 [⟨.flt,x⟩]) (.need (U2/\True) (.callP 198 [⟨.flt,x⟩] [.flt] fun(x_1:Option Nat)=>bif Fl.cmp x x != some Ordering.eq then .need U2 (.ret (1:Int))else bif Fl.cmp x_1 (some 9218868437227405311)==some Ordering.gt then .need U2 (.ret (2:Int))else bif Fl.cmp x_1 (some 0)==some Ordering.eq then .need U2 (.ret (3:Int))else bif Fl.cmp x_1 (some 4503599627370496)==some Ordering.lt then .need U2 (.ret (4:Int))else .need U2 (.ret (5:Int)))):=by kernel_rfl
theorem Lw (x:Int):@Eq _ (xS prog codes sigs f122 [.int] 200 [⟨.u64,x⟩]) (.need ((0:Int)<=52) (.need ((2048:Int)≠(0:Int)) (.need ((4503599627370496:Int)≠(0:Int)) (bif Int.tmod (Int.fdiv x ((2:Int)^min 52 (IntKind.bits .u64))) (2048:Int)==2047 then bif Int.tmod x (4503599627370496:Int) != 0 then .need U2 (.ret (1:Int))else bif Int.tmod (Int.fdiv x ((2:Int)^min 52 (IntKind.bits .u64))) (2048:Int)==2047 then .need U2 (.ret (2:Int))else bif Int.tmod (Int.fdiv x ((2:Int)^min 52 (IntKind.bits .u64))) (2048:Int)==0 then bif Int.tmod x (4503599627370496:Int)==0 then .need U2 (.ret (3:Int))else bif Int.tmod (Int.fdiv x ((2:Int)^min 52 (IntKind.bits .u64))) (2048:Int)==0 then .need U2 (.ret (4:Int))else .need U2 (.ret (5:Int))else bif Int.tmod (Int.fdiv x ((2:Int)^min 52 (IntKind.bits .u64))) (2048:Int)==0 then .need U2 (.ret (4:Int))else .need U2 (.ret (5:Int))else bif Int.tmod (Int.fdiv x ((2:Int)^min 52 (IntKind.bits .u64))) (2048:Int)==2047 then .need U2 (.ret (2:Int))else bif Int.tmod (Int.fdiv x ((2:Int)^min 52 (IntKind.bits .u64))) (2048:Int)==0 then bif Int.tmod x (4503599627370496:Int)==0 then .need U2 (.ret (3:Int))else bif Int.tmod (Int.fdiv x ((2:Int)^min 52 (IntKind.bits .u64))) (2048:Int)==0 then .need U2 (.ret (4:Int))else .need U2 (.ret (5:Int))else bif Int.tmod (Int.fdiv x ((2:Int)^min 52 (IntKind.bits .u64))) (2048:Int)==0 then .need U2 (.ret (4:Int))else .need U2 (.ret (5:Int)))))):=by kernel_rfl
theorem t142 (x:Fl):@Eq _ (xS prog codes sigs f251 [.bool] 200 [⟨.flt,x⟩]) (.need (U2/\True) (.callP 119 [⟨.flt,x⟩] [.int] fun(x:Int)=>.need U2 (.ret (x==1)))):=by kernel_rfl
theorem LO (x:Fl):@Eq _ (xS prog codes sigs f264 [.bool] 200 [⟨.flt,x⟩]) (.need (U2/\True) (.callP 296 [⟨.flt,x⟩] [.u64] fun(x:Int)=>.need (U2/\True) (.callP 122 [⟨.u64,x⟩] [.int] fun(x:Int)=>.need U2 (.ret (x==1))))):=by kernel_rfl
theorem t143 (l:List Fl):@Eq _ (xS prog codes sigs f252 [.int] 200 [⟨.sl .flt,l⟩]) (.need U2 (.ret (w64 ((l.length:Int)-(1:Int))))):=by kernel_rfl
theorem LR (l:List Fl)(x:Fl):@Eq _ (xS prog codes sigs f253 [.int] 200 [⟨.sl .flt,l⟩,⟨.flt,x⟩]) (.need (U2/\True) (.callP 252 [⟨.sl .flt,l⟩] [.int] fun(x_1:Int)=>.need (((0:Int)<=0/\(0:Int)<=x_1/\x_1<=(l.length:Int))/\True) (.stop (hd f253 0) (mkS 25 [(1,.d (.f x)),(5,i64 0),(11,.d (.sl .flt (List.drop 0 (List.take x_1.toNat l)))),(12,i64 (↑(List.drop 0 (List.take x_1.toNat l)).length:Int)),(13,i64 0)] [] 0)))):=by kernel_rfl
theorem t125 (l:List Fl):@Eq _ (xS prog codes sigs f202 [.int] 200 [⟨.sl .flt,l⟩]) (bif decide ((l.length:Int)<2)then .need U2 (.ret (1:Int))else bif decide ((l.length:Int)>25)then .need U2 (.ret (2:Int))else .stop (hd f202 0) (mkS 35 [(0,.d (.sl .flt l)),(13,.d (.sl .flt l)),(14,i64 (l.length:Int)),(15,i64 0)] [] 0)):=by kernel_rfl
theorem LT (l:List Fl):@Eq _ (xS prog codes sigs f218 [.int] 200 [⟨.sl .flt,l⟩]) (bif decide ((l.length:Int)<2)then .need U2 (.ret (1:Int))else bif decide ((l.length:Int)>25)then .need U2 (.ret (2:Int))else .stop (hd f218 0) (mkS 35 [(0,.d (.sl .flt l)),(3,i64 0)] [] 0)):=by kernel_rfl
theorem t119 (l:List Fl)(x r:Fl):@Eq _ (xS prog codes sigs f206 [.span,.int] 200 [⟨.sl .flt,l⟩,⟨.flt,x⟩,⟨.flt,r⟩]) (.need (U2/\True) (.callP 202 [⟨.sl .flt,l⟩] [.int] fun(x_1:Int)=>bif x_1 != 0 then .need (U3/\U2) (.ret (Span.mk (0:Int) (0:Int),x_1))else .need (U2/\True) (.callP 251 [⟨.flt,x⟩] [.bool] fun(x_2:Bool)=>bif x_2 then .need (U3/\U2) (.ret (Span.mk (0:Int) (0:Int),(20:Int)))else .need (U2/\True) (.callP 251 [⟨.flt,r⟩] [.bool] fun(x_3:Bool)=>bif x_3 then .need (U3/\U2) (.ret (Span.mk (0:Int) (0:Int),(20:Int)))else bif Fl.cmp r (some 0)==some Ordering.lt then .need (U3/\U2) (.ret (Span.mk (0:Int) (0:Int),(22:Int)))else .need (U2/\True) (.callP 251 [⟨.flt,(Fl.arith BinOp.sub x r)⟩] [.bool] fun(x_4:Bool)=>bif x_4 then .need (U3/\U2) (.ret (Span.mk (0:Int) (0:Int),(20:Int)))else .need (U2/\True) (.callP 251 [⟨.flt,(Fl.arith BinOp.add x r)⟩] [.bool] fun(x_5:Bool)=>bif x_5 then .need (U3/\U2) (.ret (Span.mk (0:Int) (0:Int),(20:Int)))else .need (((0:Int)<=0/\(0:Int)<(l.length:Int))/\True) (bif Fl.cmp (Fl.arith BinOp.add x r) (l.getD 0 Ty.flt.dflt)==some Ordering.lt then .need (U3/\U2) (.ret (Span.mk (0:Int) (0:Int),(71:Int)))else .need (U2/\True) (.callP 252 [⟨.sl .flt,l⟩] [.int] fun(x_6:Int)=>.need (((0:Int)<=x_6/\x_6<(l.length:Int))/\True) (bif Fl.cmp (Fl.arith BinOp.sub x r) (l.getD x_6.toNat Ty.flt.dflt)==some Ordering.gt then .need (U3/\U2) (.ret (Span.mk (0:Int) (0:Int),(71:Int)))else .need (U2/\U2/\True) (.callP 253 [⟨.sl .flt,l⟩,⟨.flt,(Fl.arith BinOp.sub x r)⟩] [.int] fun(x_7:Int)=>.need (U2/\U2/\True) (.callP 253 [⟨.sl .flt,l⟩,⟨.flt,(Fl.arith BinOp.add x r)⟩] [.int] fun(x:Int)=>.need (U3/\U2) (.ret (Span.mk (w64 ((if(1:Int)>x_7 then(1:Int)else x_7)-(1:Int))) (w64 (x-(1:Int))),(0:Int)))))))))))))):=by kernel_rfl
theorem LU (l:List Fl)(x r:Fl):@Eq _ (xS prog codes sigs f255 [.span,.int] 200 [⟨.sl .flt,l⟩,⟨.flt,x⟩,⟨.flt,r⟩]) (.need (U2/\True) (.callP 218 [⟨.sl .flt,l⟩] [.int] fun(x_1:Int)=>bif x_1 != 0 then .need (U3/\U2) (.ret (Span.mk (0:Int) (0:Int),x_1))else .need (U2/\True) (.callP 264 [⟨.flt,x⟩] [.bool] fun(x_2:Bool)=>bif x_2 then .need (U3/\U2) (.ret (Span.mk (0:Int) (0:Int),(20:Int)))else .need (U2/\True) (.callP 264 [⟨.flt,r⟩] [.bool] fun(x_3:Bool)=>bif x_3 then .need (U3/\U2) (.ret (Span.mk (0:Int) (0:Int),(20:Int)))else bif Fl.cmp r (some 0)==some Ordering.lt then .need (U3/\U2) (.ret (Span.mk (0:Int) (0:Int),(22:Int)))else .need (U2/\True) (.callP 264 [⟨.flt,(Fl.arith BinOp.sub x r)⟩] [.bool] fun(x_4:Bool)=>bif x_4 then .need (U3/\U2) (.ret (Span.mk (0:Int) (0:Int),(20:Int)))else .need (U2/\True) (.callP 264 [⟨.flt,(Fl.arith BinOp.add x r)⟩] [.bool] fun(x_5:Bool)=>bif x_5 then .need (U3/\U2) (.ret (Span.mk (0:Int) (0:Int),(20:Int)))else .stop (hd f255 0) (mkS 72 [(0,.d (.sl .flt l)),(6,.ptr 0 0),(9,.d (.f (Fl.arith BinOp.sub x r))),(10,.d (.f (Fl.arith BinOp.add x r))),(11,nS),(12,i64 0)] [(0,.box [i64 0,i64 0])] 1))))))):=by kernel_rfl
theorem LL (l:List Fl)(k:Int)(a b:Fl):@Eq _ (xS prog codes sigs f288 [.bool] 200 [⟨.sl .flt,l⟩,⟨.int,k⟩,⟨.flt,a⟩,⟨.flt,b⟩]) (bif w64 (k+2)==(l.length:Int)then .need (((0:Int)<=w64 (k+1)/\w64 (k+1)<(l.length:Int))/\True) (bif Fl.cmp a (l.getD (w64 (k+1)).toNat Ty.flt.dflt)==some Ordering.lt||Fl.cmp a (l.getD (w64 (k+1)).toNat Ty.flt.dflt)==some Ordering.eq then .need (((0:Int)<=k/\k<(l.length:Int))/\True) (.need U2 (.ret (Fl.cmp b (l.getD k.toNat Ty.flt.dflt)==some Ordering.gt||Fl.cmp b (l.getD k.toNat Ty.flt.dflt)==some Ordering.eq)))else .need U2 (.ret false))else .need (((0:Int)<=w64 (k+1)/\w64 (k+1)<(l.length:Int))/\True) (bif Fl.cmp a (l.getD (w64 (k+1)).toNat Ty.flt.dflt)==some Ordering.lt then .need (((0:Int)<=k/\k<(l.length:Int))/\True) (.need U2 (.ret (Fl.cmp b (l.getD k.toNat Ty.flt.dflt)==some Ordering.gt||Fl.cmp b (l.getD k.toNat Ty.flt.dflt)==some Ordering.eq)))else .need U2 (.ret false))):=by kernel_rfl
theorem t141 (b:Go.VL.Box):@Eq _ (xS prog codes sigs f217 [.int] 200 [⟨.box,b⟩]) (.need U2 (.ret (w64 (Box.rows b*Box.cols b)))):=by kernel_rfl
theorem t126 (b:Go.VL.Box):@Eq _ (xS prog codes sigs f203 [.bool] 200 [⟨.box,b⟩]) (bif decide (Box.rows b>=1)then bif decide (Box.rows b<=32)then bif decide (Box.cols b>=1)then .need U2 (.ret (decide (Box.cols b<=48)))else .need U2 (.ret false)else .need U2 (.ret false)else .need U2 (.ret false)):=by kernel_rfl
theorem t127 (p:Plate):@Eq _ (xS prog codes sigs f204 [.bool] 200 [⟨.plate,p⟩]) (bif decide (p.cap<1)then .need U2 (.ret false)else bif decide (p.cap>1099511627776)then .need U2 (.ret false)else bif decide ((p.start.length:Int)>w64 (p.rows*p.cols))then .need U2 (.ret false)else .stop (hd f204 0) (mkS 40 [(1,.ptr 0 0),(25,.d (.sl .int p.start)),(26,i64 (p.start.length:Int)),(27,i64 0)] [(0,.box [i64 p.rows,i64 p.cols,.d (.f p.x),.d (.f p.pitch),.d (.f p.reach),i64 p.cap,.d (.sl .int p.start)])] 1)):=by kernel_rfl
theorem LS (l:List Go.VL.Box):@Eq _ (xS prog codes sigs f141 [.int] 200 [⟨.sl .box,l⟩]) (.stop (hd f141 0) (mkS 18 [(3,i64 0),(6,.d (.sl .box l)),(7,i64 (l.length:Int)),(8,i64 0)] [] 0)):=by kernel_rfl
theorem t117 (d:Deck):@Eq _ (xS prog codes sigs f142 [.sl .box] 200 [⟨.deck,d⟩]) (.stop (hd f142 0) (mkS 23 [(3,nS),(7,.d (.sl .plate d.plates)),(8,i64 (d.plates.length:Int)),(9,i64 0)] [] 0)):=by kernel_rfl
theorem t118 (d:Deck):@Eq _ (xS prog codes sigs f143 [.sl .box] 200 [⟨.deck,d⟩]) (.stop (hd f143 0) (mkS 23 [(3,nS),(7,.d (.sl .rack d.racks)),(8,i64 (d.racks.length:Int)),(9,i64 0)] [] 0)):=by kernel_rfl
theorem t92 (d:Deck):@Eq _ (xS prog codes sigs f125 [.int] 300 [⟨.deck,d⟩]) (.need (U2/\True) (.callP 202 [⟨.sl .flt,d.borders⟩] [.int] fun(x:Int)=>bif x != 0 then .need U2 (.ret x)else bif decide (d.arms<1)then .need U2 (.ret (80:Int))else bif decide (d.arms>8)then .need U2 (.ret (80:Int))else bif decide ((d.plates.length:Int)>4)then .need U2 (.ret (2:Int))else bif decide ((d.racks.length:Int)>4)then .need U2 (.ret (2:Int))else .need (U5/\True) (.callP 142 [⟨.deck,d⟩] [.sl .box] fun(x:List Box)=>.need (U5/\True) (.callP 143 [⟨.deck,d⟩] [.sl .box] fun(x_1:List Box)=>.stop (hd f125 0) (mkS 78 [(1,.ptr 0 0),(4,.d (.sl .box x)),(5,.d (.sl .box x_1)),(40,.d (.sl .box x)),(41,i64 (x.length:Int)),(42,i64 0)] [(0,.box (dC d))] 1))))):=by kernel_rfl
theorem t115 (d:Deck):@Eq _ (xS prog codes sigs f84 [.int,.int,.int] 200 [⟨.deck,d⟩]) (.need (U5/\True) (.callP 125 [⟨.deck,d⟩] [.int] fun(x:Int)=>bif x != 0 then .need (U2/\U2/\U2) (.ret ((0:Int),(0:Int),(0:Int)))else .need (U5/\True) (.callP 142 [⟨.deck,d⟩] [.sl .box] fun(x:List Box)=>.need (U2/\True) (.callP 141 [⟨.sl .box,x⟩] [.int] fun(x:Int)=>.need (U5/\True) (.callP 143 [⟨.deck,d⟩] [.sl .box] fun(x_1:List Box)=>.need (U2/\True) (.callP 141 [⟨.sl .box,x_1⟩] [.int] fun(x_2:Int)=>.need (U2/\U2/\U2) (.ret (x,x_2,w64 ((d.borders.length:Int)-(1:Int)))))))))):=by kernel_rfl
theorem t116 (l:List Go.VL.Box)(k n:Int):@Eq _ (xS prog codes sigs f208 [.part] 200 [⟨.sl .box,l⟩,⟨.int,k⟩,⟨.int,n⟩]) (.stop (hd f208 0) (mkS 41 [(2,i64 n),(6,.ptr 0 0),(7,.ptr 1 0),(12,.d (.sl .box l)),(13,i64 (l.length:Int)),(14,i64 0)] [(0,.box [i64 0,i64 0,i64 0,i64 0]),(1,.box [i64 k,i64 0,i64 0,i64 0])] 2)):=by kernel_rfl
theorem t84 (d:Deck)(i:Int):@Eq _ (xS prog codes sigs f130 [.part,.int] 200 [⟨.deck,d⟩,⟨.int,i⟩]) (.need (U5/\True) (.callP 125 [⟨.deck,d⟩] [.int] fun(x:Int)=>bif x != 0 then .need (U5/\U2) (.ret (Part.mk (0:Int) (0:Int) (0:Int) (0:Int),x))else .need (U5/\True) (.callP 84 [⟨.deck,d⟩] [.int,.int,.int] fun(x:Int×Int×Int)=>bif decide (i<0)then .need (U5/\U2) (.ret (Part.mk (0:Int) (0:Int) (0:Int) (0:Int),(3:Int)))else bif decide (i>=w64 (w64 (x.1+x.2.1)+x.2.2))then .need (U5/\U2) (.ret (Part.mk (0:Int) (0:Int) (0:Int) (0:Int),(3:Int)))else bif decide (i<x.1)then .need (U5/\True) (.callP 142 [⟨.deck,d⟩] [.sl .box] fun(x:List Box)=>.need (U2/\U2/\U2/\True) (.callP 208 [⟨.sl .box,x⟩,⟨.int,(1:Int)⟩,⟨.int,i⟩] [.part] fun(x:Part)=>.need (U5/\U2) (.ret (x,(0:Int)))))else bif decide (i<w64 (x.1+x.2.1))then .need (U5/\True) (.callP 143 [⟨.deck,d⟩] [.sl .box] fun(x_1:List Box)=>.need (U2/\U2/\U2/\True) (.callP 208 [⟨.sl .box,x_1⟩,⟨.int,(2:Int)⟩,⟨.int,(w64 (i-x.1))⟩] [.part] fun(x:Part)=>.need (U5/\U2) (.ret (x,(0:Int)))))else .need (U5/\U2) (.ret (Part.mk (3:Int) (w64 (w64 (i-x.1)-x.2.1)) (0:Int) (0:Int),(0:Int)))))):=by kernel_rfl
theorem t123 (r c:Int):@Eq _ (xS prog codes sigs f220 [.bool] 200 [⟨.int,r⟩,⟨.int,c⟩]) (bif decide (r>=1)then bif decide (r<=32)then bif decide (c>=1)then .need U2 (.ret (decide (c<=48)))else .need U2 (.ret false)else .need U2 (.ret false)else .need U2 (.ret false)):=by kernel_rfl
theorem t122 (p:Plate):@Eq _ (xS prog codes sigs f219 [.bool] 200 [⟨.plate,p⟩]) (.need (U2/\U2/\True) (.callP 220 [⟨.int,p.rows⟩,⟨.int,p.cols⟩] [.bool] fun(x:Bool)=>bif !x then .need U2 (.ret false)else bif decide (p.cap<1)then .need U2 (.ret false)else bif decide (p.cap>1099511627776)then .need U2 (.ret false)else bif decide ((p.start.length:Int)>w64 (p.rows*p.cols))then .need U2 (.ret false)else .stop (hd f219 0) (mkS 54 [(1,.ptr 0 0),(3,i64 0)] [(0,.box [i64 p.rows,i64 p.cols,.d (.f p.x),.d (.f p.pitch),.d (.f p.reach),i64 p.cap,.d (.sl .int p.start)])] 1))):=by kernel_rfl
theorem t89 (d:Deck):@Eq _ (xS prog codes sigs f153 [.int] 300 [⟨.deck,d⟩]) (.need (U2/\True) (.callP 218 [⟨.sl .flt,d.borders⟩] [.int] fun(x:Int)=>bif x != 0 then .need U2 (.ret x)else bif decide (d.arms<1)then .need U2 (.ret (80:Int))else bif decide (d.arms>8)then .need U2 (.ret (80:Int))else bif decide ((d.plates.length:Int)>4)then .need U2 (.ret (2:Int))else bif decide ((d.racks.length:Int)>4)then .need U2 (.ret (2:Int))else .stop (hd f153 0) (mkS 103 [(1,.ptr 0 0),(4,i64 0),(5,i64 0),(6,i64 0)] [(0,.box (dC d))] 1))):=by kernel_rfl
theorem t124 (k u r c:Int):@Eq _ (xS prog codes sigs f154 [.sl .part] 200 [⟨.int,k⟩,⟨.int,u⟩,⟨.int,r⟩,⟨.int,c⟩]) (.stop (hd f154 0) (mkS 31 [(0,i64 k),(1,i64 u),(2,i64 r),(3,i64 c),(9,nS),(10,i64 0)] [] 0)):=by kernel_rfl
theorem t90 (d:Deck):@Eq _ (xS prog codes sigs f88 [.sl .part] 200 [⟨.deck,d⟩]) (.need (U5/\True) (.callP 153 [⟨.deck,d⟩] [.int] fun(x:Int)=>bif x != 0 then .need U2 (.ret [])else .stop (hd f88 0) (mkS 71 [(1,.ptr 0 0),(3,nS),(4,i64 0)] [(0,.box (dC d))] 1))):=by kernel_rfl
theorem LF (d:Deck):@Eq _ (xS prog codes sigs f152 [.int,.int,.int] 200 [⟨.deck,d⟩]) (.need (U5/\True) (.callP 88 [⟨.deck,d⟩] [.sl .part] fun(x:List Part)=>.stop (hd f152 0) (mkS 31 [(5,.ptr 0 0),(6,.d (.sl .part x)),(7,i64 0)] [(0,.box [i64 0,i64 0,i64 0,i64 0])] 1))):=by kernel_rfl
theorem t87 (d:Deck)(p:Part):@Eq _ (xS prog codes sigs f205 [.row] 200 [⟨.deck,d⟩,⟨.part,p⟩]) (bif p.kind==2 then .need (((0:Int)<=p.unit/\p.unit<(d.racks.length:Int))/\True) (.need U4 (.ret (Row.mk (d.racks.getD p.unit.toNat Ty.rack.dflt).x (d.racks.getD p.unit.toNat Ty.rack.dflt).pitch (d.racks.getD p.unit.toNat Ty.rack.dflt).reach)))else .need (((0:Int)<=p.unit/\p.unit<(d.plates.length:Int))/\True) (.need U4 (.ret (Row.mk (d.plates.getD p.unit.toNat Ty.plate.dflt).x (d.plates.getD p.unit.toNat Ty.plate.dflt).pitch (d.plates.getD p.unit.toNat Ty.plate.dflt).reach)))):=by kernel_rfl
theorem t88 (r:Row)(c:Int):@Eq _ (xS prog codes sigs f207 [.flt] 200 [⟨.row,r⟩,⟨.int,c⟩]) (.need U2 (.ret (Fl.arith BinOp.add (Row.x r) (Fl.arith BinOp.mul (some (FloatKind.nearest FloatKind.f64 c)) (Row.pitch r))))):=by kernel_rfl
theorem t85 (d:Deck)(p:Part):@Eq _ (xS prog codes sigs f127 [.span,.int] 200 [⟨.deck,d⟩,⟨.part,p⟩]) (bif p.kind==3 then .need (U3/\U2) (.ret (Span.mk p.unit p.unit,(0:Int)))else .need (U5/\U5/\True) (.callP 205 [⟨.deck,d⟩,⟨.part,p⟩] [.row] fun(x:Row)=>.need (U4/\U2/\True) (.callP 207 [⟨.row,x⟩,⟨.int,p.col⟩] [.flt] fun(x_1:Option Nat)=>.need (U2/\U2/\U2/\True) (.callP 206 [⟨.sl .flt,d.borders⟩,⟨.flt,x_1⟩,⟨.flt,(Row.reach x)⟩] [.span,.int] fun(x:Span×Int)=>.need (U3/\U2) (.ret (x.1,x.2)))))):=by kernel_rfl
theorem t44 (d:Deck)(p:Part):@Eq _ (xS prog codes sigs f254 [.flt,.flt] 200 [⟨.deck,d⟩,⟨.part,p⟩]) (bif p.kind==1 then .need (((0:Int)<=p.unit/\p.unit<(d.plates.length:Int))/\True) (.need (U2/\U2) (.ret (Fl.arith BinOp.add (d.plates.getD p.unit.toNat Ty.plate.dflt).x (Fl.arith BinOp.mul (some (FloatKind.nearest FloatKind.f64 p.col)) (d.plates.getD p.unit.toNat Ty.plate.dflt).pitch),(d.plates.getD p.unit.toNat Ty.plate.dflt).reach)))else .need (((0:Int)<=p.unit/\p.unit<(d.racks.length:Int))/\True) (.need (U2/\U2) (.ret (Fl.arith BinOp.add (d.racks.getD p.unit.toNat Ty.rack.dflt).x (Fl.arith BinOp.mul (some (FloatKind.nearest FloatKind.f64 p.col)) (d.racks.getD p.unit.toNat Ty.rack.dflt).pitch),(d.racks.getD p.unit.toNat Ty.rack.dflt).reach)))):=by kernel_rfl
theorem t86 (d:Deck)(p:Part):@Eq _ (xS prog codes sigs f209 [.span,.int] 200 [⟨.deck,d⟩,⟨.part,p⟩]) (bif p.kind==3 then .need (U3/\U2) (.ret (Span.mk p.unit p.unit,(0:Int)))else .need (U5/\U5/\True) (.callP 254 [⟨.deck,d⟩,⟨.part,p⟩] [.flt,.flt] fun(x:Option Nat×Option Nat)=>.need (U2/\U2/\U2/\True) (.callP 255 [⟨.sl .flt,d.borders⟩,⟨.flt,x.1⟩,⟨.flt,x.2⟩] [.span,.int] fun(x:Span×Int)=>.need (U3/\U2) (.ret (x.1,x.2))))):=by kernel_rfl
theorem t37 (d:Deck):@Eq _ (xS prog codes sigs f25 [.bool] 200 [⟨.deck,d⟩]) (bif decide ((d.borders.length:Int)>60)then .need U2 (.ret true)else bif decide ((d.plates.length:Int)>8)then .need U2 (.ret true)else bif decide ((d.racks.length:Int)>8)then .need U2 (.ret true)else .stop (hd f25 0) (mkS 35 [(1,.ptr 0 0),(3,i64 0)] [(0,.box (dC d))] 1)):=by kernel_rfl
end Go.Proofs.Zn

namespace Go.Proofs.Zn
open Go.Proofs.Tryz
open Go Go.VL
def dh:Fl->Bool
 | none=>true
 | some b=>(FloatKind.f64.format.read b).isNaN
theorem zo (d:Ieee.Datum):(d.order d != some .eq)=d.isNaN:=by
 cases d with
 | nan s t=>rfl
 | infinity s=>cases s<;>rfl
 | number s m i =>
   have:(Ieee.Datum.number s m i).order (Ieee.Datum.number s m i)=some .eq:=by
    simp only[Ieee.Datum.order]
    congr 1
    exact Std.ReflCmp.compare_self
   rw[this];rfl
theorem yv (x:Fl):(Fl.cmp x x != some .eq)=dh x:=by
 cases x with
 | none=>rfl
 | some b=>exact zo (FloatKind.f64.format.read b)
theorem xH (b:Nat):(FloatKind.f64.format.read b).isNaN=decide (b/4503599627370496%2048=2047/\b%4503599627370496≠0):=by
 have e1:FloatKind.f64.format.signWeight=9223372036854775808:=by decide
 have e2:FloatKind.f64.format.binade=4503599627370496:=by decide
 have e3:FloatKind.f64.format.infRung=9218868437227405312:=by decide
 simp only[Ieee.Format.read,e1,e2,e3]
 by_cases h1:b%9223372036854775808<4503599627370496
 ·rw[aE h1,dF (by omega)];rfl
 ·rw[aH h1]
  by_cases h2:b%9223372036854775808<9218868437227405312
  ·rw[aE h2,dF (by omega)];rfl
  ·rw[aH h2]
   by_cases h3:b%9223372036854775808=9218868437227405312
   ·rw[aE h3,dF (by omega)];rfl
   ·rw[aH h3,dT (by omega)];rfl
def cls5 (p q r s:Bool):Int:=bif p&&q then 1 else bif p then 2 else bif r&&s then 3 else bif r then 4 else 5
theorem MS (n:Nat):∃ r:Int,Pure prog 122 [⟨.u64,(n:Int)⟩] [.int] r/\(r==1)=dh (some n):=by
 refine⟨cls5 (Int.tmod (Int.fdiv (n:Int) (2^min 52 (IntKind.bits IntKind.u64))) 2048==2047) (Int.tmod (n:Int) 4503599627370496 != 0) (Int.tmod (Int.fdiv (n:Int) (2^min 52 (IntKind.bits IntKind.u64))) 2048==0) (Int.tmod (n:Int) 4503599627370496==0),?_,?_⟩
 ·refine ofT func122 (Lw n) (by kernel_rfl) (by kernel_rfl) fun A=>?_
  generalize (Int.tmod (Int.fdiv (n:Int) (2^min 52 (IntKind.bits IntKind.u64))) 2048==2047)=p
  generalize (Int.tmod (n:Int) 4503599627370496 != 0)=q
  generalize (Int.tmod (Int.fdiv (n:Int) (2^min 52 (IntKind.bits IntKind.u64))) 2048==0)=r
  generalize (Int.tmod (n:Int) 4503599627370496==0)=s
  refine⟨by decide,by decide,by decide,?_⟩
  cases p<;>cases q<;>cases r<;>cases s<;>exact⟨q2,rfl⟩
 ·have e1:(2:Int)^min 52 (IntKind.bits IntKind.u64)=4503599627370496:=by decide
  have e2:Int.tmod (Int.fdiv (n:Int) 4503599627370496) 2048=((n/4503599627370496%2048:Nat):Int):=by
   rw[fQ _ (by decide),eB (by omega)];omega
  have e3:Int.tmod (n:Int) 4503599627370496=((n%4503599627370496:Nat):Int):=by
   rw[eB (by omega)];omega
  rw[e1,e2,e3]
  show _=(FloatKind.f64.format.read n).isNaN
  rw[xH]
  generalize n/4503599627370496%2048=a
  generalize n%4503599627370496=c
  by_cases ha:a=2047
  ·subst ha
   by_cases hc:c=0
   ·subst hc;rfl
   ·have h1:((c:Int) != 0)=true:=by simpa using hc
    have h2:((c:Int)==0)=false:=by simpa using hc
    rw[h1,h2,dT ⟨rfl,hc⟩];rfl
  ·have h1:((a:Int)==2047)=false:=by simp;omega
   rw[h1,dF (fun h=>ha h.1)]
   generalize ((c:Int) != 0)=x
   generalize ((a:Int)==0)=y
   generalize ((c:Int)==0)=z
   cases x<;>cases y<;>cases z<;>rfl
theorem Ac (x:Fl):Pure prog 264 [⟨.flt,x⟩] [.bool] (dh x):=by
 have key:∀ b:Nat,Pure prog 264 [⟨.flt,some b⟩] [.bool] (dh (some b)):=fun b=>by
  obtain⟨r,h1,h2⟩:=MS b
  exact ofT func264 (LO (some b)) (by kernel_rfl) (by kernel_rfl) fun _=>⟨⟨q2,tv⟩,_,c43 b,⟨q2,tv⟩,_,h1,q2,h2⟩
 cases x with
 | some b=>exact key b
 | none=>exact Pure.nan fun b hb=>(key b).eq hb
theorem c154 (x:Fl):∃ r:Int,Pure prog 119 [⟨.flt,x⟩] [.int] r/\(r==1)=dh x:=by
 have key:∀ b:Nat,∃ r:Int,Pure prog 119 [⟨.flt,some b⟩] [.int] r/\(r==1)=dh (some b)/\(dh (some b)=true->r=1):=fun b=>by
  generalize hy:(some (bits BinOp.andNot IntKind.u64 (b:Int) 9223372036854775808).toNat:Fl)=y
  have c:=Kh b
  rw[hy]at c
  refine⟨bif dh (some b)then 1 else bif Fl.cmp y (some 9218868437227405311)==some Ordering.gt then 2 else bif Fl.cmp y (some 0)==some Ordering.eq then 3 else bif Fl.cmp y (some 4503599627370496)==some Ordering.lt then 4 else 5,?_,?_,fun h=>by rw[h];rfl⟩
  ·refine ofT func119 (Og (some b)) (by kernel_rfl) (by kernel_rfl) fun A=>⟨⟨q2,tv⟩,_,c,?_⟩
   rw[yv]
   exact cS (fun _=>⟨q2,rfl⟩) (fun _=>cS (fun _=>⟨q2,rfl⟩) (fun _=>cS (fun _=>⟨q2,rfl⟩) (fun _=>cS (fun _=>⟨q2,rfl⟩) (fun _=>⟨q2,rfl⟩))))
  ·cases dh (some b)
   ·cases Fl.cmp y (some 9218868437227405311)==some Ordering.gt<;>cases Fl.cmp y (some 0)==some Ordering.eq<;>cases Fl.cmp y (some 4503599627370496)==some Ordering.lt<;>rfl
   ·rfl
 cases x with
 | some b=>obtain⟨r,h1,h2,_⟩:=key b;exact⟨r,h1,h2⟩
 | none=>exact⟨1,Pure.nan fun b hb=>by
  obtain⟨r,h1,_,h3⟩:=key b
  exact h1.eq (h3 hb),rfl⟩
theorem HR (x:Fl):Pure prog 251 [⟨.flt,x⟩] [.bool] (dh x):=by
 obtain⟨r,h1,h2⟩:=c154 x
 exact ofT func251 (t142 x) (by kernel_rfl) (by kernel_rfl) fun _=>⟨⟨q2,tv⟩,_,h1,q2,h2⟩
def lu (l:List Fl):Int:=(l.length:Int)-1
theorem Py {l:List Fl}(h:l.length<=1000000):Pure prog 252 [⟨.sl .flt,l⟩] [.int] (lu l):=
 ofT func252 (t143 l) (by kernel_rfl) (by kernel_rfl) fun _=>⟨q2,ax (by omega) (by omega)⟩
end Go.Proofs.Zn

namespace Go.Proofs.Zn
open Go.Proofs.Tryz
open Go Go.VL
def Qc (l:List Fl)(x:Fl)(n i:Int):AS:=mkS 25 [(1,.d (.f x)),(5,i64 n),(11,.d (.sl .flt l)),(12,i64 l.length),(13,i64 i)] [] 0
def Qe (l:List Fl)(i:Int):AS:=mkS 35 [(0,.d (.sl .flt l)),(13,.d (.sl .flt l)),(14,i64 l.length),(15,i64 i)] [] 0
def Qg (l:List Fl)(i:Int):AS:=mkS 35 [(0,.d (.sl .flt l)),(3,i64 i)] [] 0
def Ni (l:List Fl)(a b:Fl)(out:List Int)(i:Int):AS:=mkS 72 [(0,.d (.sl .flt l)),(6,.ptr 0 0),(9,.d (.f a)),(10,.d (.f b)),(11,.own 1 .int),(12,i64 i)] [(0,.box [i64 0,i64 0]),(1,.row 3 .int out)] 2
theorem Oi (l:List Fl)(x:Fl)(n i:Int):@Eq _ (xL prog codes sigs f253 [.int] 200 0 (Qc l x n i)) (bif decide (i<(l.length:Int))then .need (((0:Int)<=i/\i<(l.length:Int))/\True) (bif ! (Fl.cmp (l.getD i.toNat Ty.flt.dflt) x==some Ordering.lt||Fl.cmp (l.getD i.toNat Ty.flt.dflt) x==some Ordering.eq)then .need U2 (.ret n)else .stop (hd f253 0) (mkS 25 [(1,.d (.f x)),(5,i64 (w64 (n+1))),(11,.d (.sl .flt l)),(12,i64 (l.length:Int)),(13,i64 (w64 (i+1)))] [] 0))else .need U2 (.ret n)):=by kernel_rfl
theorem Ov (l:List Fl)(i:Int):@Eq _ (xL prog codes sigs f202 [.int] 200 0 (Qe l i)) (bif decide (i<(l.length:Int))then .need (((0:Int)<=i/\i<(l.length:Int))/\True) (.need (U2/\True) (.callP 251 [⟨.flt,(l.getD i.toNat Ty.flt.dflt)⟩] [.bool] fun(x:Bool)=>bif x then .need U2 (.ret (20:Int))else bif decide (i>0)then .need (((0:Int)<=w64 (i-(1:Int))/\w64 (i-(1:Int))<(l.length:Int))/\True) (bif !Fl.cmp (l.getD (w64 (i-(1:Int))).toNat Ty.flt.dflt) (l.getD i.toNat Ty.flt.dflt)==some Ordering.lt then .need U2 (.ret (70:Int))else .stop (hd f202 0) (mkS 35 [(0,.d (.sl .flt l)),(13,.d (.sl .flt l)),(14,i64 (l.length:Int)),(15,i64 (w64 (i+1)))] [] 0))else .stop (hd f202 0) (mkS 35 [(0,.d (.sl .flt l)),(13,.d (.sl .flt l)),(14,i64 (l.length:Int)),(15,i64 (w64 (i+1)))] [] 0)))else .need U2 (.ret (0:Int))):=by kernel_rfl
theorem Oz (l:List Fl)(i:Int):@Eq _ (xL prog codes sigs f218 [.int] 200 0 (Qg l i)) (bif decide (i<(l.length:Int))then .need (((0:Int)<=i/\i<(l.length:Int))/\True) (.need (U2/\True) (.callP 264 [⟨.flt,(l.getD i.toNat Ty.flt.dflt)⟩] [.bool] fun(x:Bool)=>bif x then .need U2 (.ret (20:Int))else bif decide (i>0)then .need (((0:Int)<=i/\i<(l.length:Int))/\True) (.need (((0:Int)<=w64 (i-(1:Int))/\w64 (i-(1:Int))<(l.length:Int))/\True) (bif Fl.cmp (l.getD i.toNat Ty.flt.dflt) (l.getD (w64 (i-(1:Int))).toNat Ty.flt.dflt)==some Ordering.lt||Fl.cmp (l.getD i.toNat Ty.flt.dflt) (l.getD (w64 (i-(1:Int))).toNat Ty.flt.dflt)==some Ordering.eq then .need U2 (.ret (70:Int))else .stop (hd f218 0) (mkS 35 [(0,.d (.sl .flt l)),(3,i64 (w64 (i+1)))] [] 0)))else .stop (hd f218 0) (mkS 35 [(0,.d (.sl .flt l)),(3,i64 (w64 (i+1)))] [] 0)))else .need U2 (.ret (0:Int))):=by kernel_rfl
theorem OA (l:List Fl)(a b:Fl)(out:List Int)(i:Int):@Eq _ (xL prog codes sigs f255 [.span,.int] 200 0 (Ni l a b out i)) (bif decide (w64 (i+1)<(l.length:Int))then .need (U2/\U2/\U2/\U2/\True) (.callP 288 [⟨.sl .flt,l⟩,⟨.int,i⟩,⟨.flt,a⟩,⟨.flt,b⟩] [.bool] fun(x:Bool)=>bif x then .need (U2/\True) (.need ((out.length+List.length [i])*9<=35184372088832/\True) (.stop (hd f255 0) (mkS 72 [(0,.d (.sl .flt l)),(6,.ptr 0 0),(9,.d (.f a)),(10,.d (.f b)),(11,.own 1 .int),(12,i64 (w64 (i+1)))] [(0,.box [i64 0,i64 0]),(1,.row 3 .int (out++[i]))] 2)))else .stop (hd f255 0) (mkS 72 [(0,.d (.sl .flt l)),(6,.ptr 0 0),(9,.d (.f a)),(10,.d (.f b)),(11,.own 1 .int),(12,i64 (w64 (i+1)))] [(0,.box [i64 0,i64 0]),(1,.row 3 .int out)] 2))else bif (out.length:Int)==0 then .need (U3/\U2) (.ret (Span.mk (0:Int) (0:Int),(71:Int)))else .need ((0:Int)<=0/\(0:Int)<(out.length:Int)) (.need (0<out.length) (.need ((0:Int)<=w64 ((out.length:Int)-(1:Int))/\w64 ((out.length:Int)-(1:Int))<(out.length:Int)) (.need ((w64 ((out.length:Int)-(1:Int))).toNat<out.length) (.need (U3/\U2) (.ret (Span.mk (out.getD 0 Ty.int.dflt) (out.getD (w64 ((out.length:Int)-(1:Int))).toNat Ty.int.dflt),(0:Int)))))))):=by kernel_rfl
end Go.Proofs.Zn

set_option exponentiation.threshold 4096
namespace Go.Proofs.Zn
open Go.Proofs.Tryz
open Go Go.VL
def big:Nat:=2^2999
theorem ta:2^53*2^2046<=big:=by
 rw[← dZ];exact aY (by decide) (by decide)
attribute [irreducible] big
def dY:Int:=FloatKind.f64.format.leastPlace
def nu:Ieee.Datum->Int
 | .number s m i=>Ieee.signed s m (i-dY).toNat
 | .infinity s=>bif s then -(big:Int)else big
 | .nan _ _=>0
def Kw:Ieee.Datum->Prop
 | .number _ m i=>m<2^53/\dY<=i/\i<=dY+2046
 | _=>True
theorem tW (b:Nat):Kw (FloatKind.f64.format.read b):=by
 have e1:FloatKind.f64.format.signWeight=9223372036854775808:=by decide
 have e2:FloatKind.f64.format.binade=4503599627370496:=by decide
 have e3:FloatKind.f64.format.infRung=9218868437227405312:=by decide
 simp only[Ieee.Format.read,e1,e2,e3]
 by_cases h1:b%9223372036854775808<4503599627370496
 ·rw[aE h1];exact⟨by omega,gS _,(by show dY<=dY+2046;omega)⟩
 ·rw[aH h1]
  by_cases h2:b%9223372036854775808<9218868437227405312
  ·rw[aE h2]
   refine⟨by omega,?_,?_⟩
   ·show dY<=dY+_;omega
   ·show dY+_<=dY+2046;omega
  ·rw[aH h2]
   by_cases h3:b%9223372036854775808=9218868437227405312
   ·rw[aE h3];trivial
   ·rw[aH h3];trivial
theorem fV (s:Bool)(m k:Nat):Ieee.signed s m k=(bif s then -1 else 1)*((m*2^k:Nat):Int):=by
 simp only[Ieee.signed,ld]
 cases s<;>simp
theorem JW {a b p:Int}(hp:0<p):compare (a*p) (b*p)=compare a b:=by
 simp only[compare,compareOfLessAndEq]
 have h1:a*p<b*p↔a<b:=⟨fun h=>Int.lt_of_mul_lt_mul_right h (Int.le_of_lt hp),fun h=>Int.mul_lt_mul_of_pos_right h hp⟩
 have h2:a*p=b*p↔a=b:=⟨fun h=>Int.eq_of_mul_eq_mul_right (Int.ne_of_gt hp) h,fun h=>by rw[h]⟩
 simp only[h1,h2]
theorem ov (s:Bool)(m k d:Nat):Ieee.signed s m (k+d)=Ieee.signed s m k*2^d:=by
 rw[fV,fV,Int.mul_assoc]
 congr 1
 rw[dZ,← eT]
 simp
theorem uV {s:Bool}{m:Nat}{i:Int}(h:Kw (.number s m i)) : -(big:Int)<nu (.number s m i)/\nu (.number s m i)<(big:Int):=by
 obtain⟨h1,h2,h3⟩:=h
 have hk:(i-dY).toNat<=2046:=by omega
 show -(big:Int)<Ieee.signed s m (i-dY).toNat/\Ieee.signed s m (i-dY).toNat<(big:Int)
 generalize (i-dY).toNat=k at *
 have hb:m*2^k<big:=by
  have g1:2^k<=2^2046:=aY (by decide) hk
  have g2:m*2^k<=m*2^2046:=cd _ g1
  have g3:m*2^2046<2^53*2^2046:=fG h1 (de (by decide))
  exact Nat.lt_of_le_of_lt g2 (cr g3 ta)
 rw[fV]
 generalize m*2^k=z at *
 cases s
 ·rw[cF];omega
 ·rw[cT];omega
theorem Dp {d e:Ieee.Datum}(hd:Kw d)(he:Kw e)(h1:d.isNaN=false)(h2:e.isNaN=false):d.order e=some (compare (nu d) (nu e)):=by
 have lt:∀ {a b:Int},a<b->compare a b=.lt:=fun {a b} h=>by simp only[compare,compareOfLessAndEq];rw[aE h]
 have gt:∀ {a b:Int},b<a->compare a b=.gt:=fun {a b} h=>by simp only[compare,compareOfLessAndEq];rw[aH (by omega),aH (by omega)]
 have eq:∀ {a:Int},compare a a=.eq:=fun {a}=>Std.ReflCmp.compare_self
 have hbig:(0:Int)<(big:Int):=by
  have:=ta
  have h0:0<2^53*2^2046:=kx (de (by decide)) (de (by decide))
  exact Int.ofNat_lt.2 (cr h0 this)
 cases d with
 | nan s t=>cases h1
 | infinity s =>
   cases e with
   | nan s t=>cases h2
   | infinity t =>
     show some _=some (compare (bif s then -(big:Int)else big) (bif t then -(big:Int)else big))
     cases s<;>cases t
     ·rw[cF,eq];rfl
     ·rw[cF,cT,gt (by omega)];rfl
     ·rw[cF,cT,lt (by omega)];rfl
     ·rw[cT,eq];rfl
   | number t n j =>
     obtain⟨k1,k2⟩:=uV he
     show some _=some (compare (bif s then -(big:Int)else big) (nu (.number t n j)))
     cases s
     ·rw[cF,gt k2];rfl
     ·rw[cT,lt k1];rfl
 | number s m i =>
   cases e with
   | nan s t=>cases h2
   | infinity t =>
     obtain⟨k1,k2⟩:=uV hd
     show some _=some (compare (nu (.number s m i)) (bif t then -(big:Int)else big))
     cases t
     ·rw[cF,lt k2];rfl
     ·rw[cT,gt k1];rfl
   | number t n j =>
     obtain⟨_,a2,_⟩:=hd
     obtain⟨_,b2,_⟩:=he
     show some (compare (Ieee.signed s m (i-min i j).toNat) (Ieee.signed t n (j-min i j).toNat))=some (compare (Ieee.signed s m (i-dY).toNat) (Ieee.signed t n (j-dY).toNat))
     have e1:(i-dY).toNat=(i-min i j).toNat+(min i j-dY).toNat:=by omega
     have e2:(j-dY).toNat=(j-min i j).toNat+(min i j-dY).toNat:=by omega
     rw[e1,e2,ov,ov,JW (Int.pow_pos (by decide))]
def cI:Fl->Int
 | none=>0
 | some b=>nu (FloatKind.f64.format.read b)
theorem lA {x y:Fl}(hx:dh x=false)(hy:dh y=false):Fl.cmp x y=some (compare (cI x) (cI y)):=by
 cases x with
 | none=>cases hx
 | some a => cases y with
   | none=>cases hy
   | some b=>exact Dp (tW a) (tW b) hx hy
end Go.Proofs.Zn

namespace Go.Proofs.Zn
open Go.Proofs.Tryz
open Go Go.VL
def ltF (x y:Fl):Bool:=Fl.cmp x y==some Ordering.lt
def leF (x y:Fl):Bool:=Fl.cmp x y==some Ordering.lt||Fl.cmp x y==some Ordering.eq
theorem lr {x y:Fl}(hx:dh x=false)(hy:dh y=false):ltF x y=decide (cI x<cI y):=by
 rw[ltF,lA hx hy]
 simp only[compare,compareOfLessAndEq]
 by_cases h:cI x<cI y
 ·rw[aE h,dT h];rfl
 ·rw[aH h,dF h]
  by_cases h2:cI x=cI y
  ·rw[aE h2];rfl
  ·rw[aH h2];rfl
theorem qY {x y:Fl}(hx:dh x=false)(hy:dh y=false):leF x y=decide (cI x<=cI y):=by
 rw[leF,lA hx hy]
 simp only[compare,compareOfLessAndEq]
 by_cases h:cI x<cI y
 ·rw[aE h,dT (by omega)];rfl
 ·rw[aH h]
  by_cases h2:cI x=cI y
  ·rw[aE h2,dT (by omega)];rfl
  ·rw[aH h2,dF (by omega)];rfl
def kZ:Option Fl->List Fl->Int
 | _,[]=>0
 | p, x :: r => bif dh x then 20 else match p with
   | none=>kZ (some x) r
   | some q=>bif ltF q x then kZ (some x) r else 70
def chkN (p:Option Fl)(x:Fl)(k:Int):Int:=match p with
 | none=>k
 | some q=>bif ltF q x then k else 70
theorem pj (p:Option Fl)(x:Fl)(r:List Fl):kZ p (x::r)=bif dh x then 20 else chkN p x (kZ (some x) r):=by
 cases p<;>rfl
def ma (l:List Fl)(i:Nat):Option Fl:=match i with|0=>none|i+1=>l[i]?
def db (l:List Fl):Int:=bif decide ((l.length:Int)<2)then 1 else bif decide ((l.length:Int)>25)then 2 else kZ none l
theorem vW {l:List Fl}(hl:l.length<=25){r:Int}{A:Pr}(hA:CL codes sigs f202 [.int] r A)
  (i:Nat) (hi:i<=l.length) (h:kZ (ma l i) (l.drop i)=r):A (hd f202 0) (Qe l i):=by
 refine hA.go (Ov l i) (ak (fun h1=>?_) (fun h1=>?_))
 ·have h1:=oT h1
  have hil:i<l.length:=by omega
  rw[bf hil]
  rw[dG hil,pj]at h
  refine⟨⟨⟨by omega,by omega⟩,tv⟩,⟨⟨tv,tv⟩,tv⟩,_,HR _,ak (fun h2=>⟨⟨tv,tv⟩,?_⟩) (fun h2=>?_)⟩
  ·rw[h2]at h;exact h
  ·rw[h2,cF]at h
   rw[aw (by omega)]
   cases i with
   | zero =>
     refine ak (fun h3=>by cases h3) (fun _=>?_)
     exact vW hl hA 1 (by omega) (by rw[show ma l 1=some l[0] from aj hil];exact h)
   | succ j =>
     have hj:j<l.length:=by omega
     have ep:ma l (j+1)=some l[j]:=aj hj
     have en:ma l (j+1+1)=some l[j+1]:=aj hil
     rw[ep]at h
     have ew:w64 (((j+1:Nat):Int)-1)=(j:Int):=by rw[ax (by omega) (by omega)];omega
     refine ak (fun _=>?_) (fun h3=>absurd (oF h3) (by omega))
     rw[ew,bf hj]
     refine⟨⟨⟨by omega,by omega⟩,tv⟩,ak (fun h4=>⟨⟨tv,tv⟩,?_⟩) (fun h4=>?_)⟩
     ·have h4:ltF l[j] l[j+1]=false:=nt h4
      have h:(bif ltF l[j] l[j+1]then kZ (some l[j+1]) (l.drop (j+1+1))else 70)=r:=h
      rw[h4]at h;exact h
     ·have h4:ltF l[j] l[j+1]=true:=nf h4
      have h:(bif ltF l[j] l[j+1]then kZ (some l[j+1]) (l.drop (j+1+1))else 70)=r:=h
      rw[h4,cT]at h
      exact vW hl hA (j+1+1) (by omega) (by rw[en];exact h)
 ·have h1:=oF h1
  refine⟨⟨tv,tv⟩,?_⟩
  rw[dN (by omega)]at h
  generalize ma l i=p at h
  cases p<;>exact h
termination_by l.length-i
theorem PC (l:List Fl):Pure prog 202 [⟨.sl .flt,l⟩] [.int] (db l):=
 Pure.of_closed (C:=codes) (S:=sigs) mixed func202 (by kernel_rfl) (ac (by kernel_rfl)) fun A hA=>hA.go (t125 l) (by
  refine ak (fun h=>⟨q2,?_⟩) (fun h=>ak (fun h2=>⟨q2,?_⟩) (fun h2=>?_))
  ·rw[db,h];rfl
  ·rw[db,h,h2];rfl
  ·have:=oF h2
   exact vW (by omega) hA 0 (by omega) (by rw[db,h,h2];rfl))
theorem vX {l:List Fl}(hl:l.length<=25){r:Int}{A:Pr}(hA:CL codes sigs f218 [.int] r A)
  (i:Nat) (hi:i<=l.length) (hp:∀ q,ma l i=some q->dh q=false) (h:kZ (ma l i) (l.drop i)=r):A (hd f218 0) (Qg l i):=by
 refine hA.go (Oz l i) (ak (fun h1=>?_) (fun h1=>?_))
 ·have h1:=oT h1
  have hil:i<l.length:=by omega
  rw[bf hil]
  rw[dG hil,pj]at h
  refine⟨⟨⟨by omega,by omega⟩,tv⟩,⟨⟨tv,tv⟩,tv⟩,_,Ac _,ak (fun h2=>⟨⟨tv,tv⟩,?_⟩) (fun h2=>?_)⟩
  ·rw[h2]at h;exact h
  ·rw[h2,cF]at h
   rw[aw (by omega)]
   cases i with
   | zero =>
     have e0:ma l 1=some l[0]:=aj hil
     refine ak (fun h3=>by cases h3) (fun _=>?_)
     exact vX hl hA 1 (by omega) (fun q hq=>by rw[e0]at hq;cases hq;exact h2) (by rw[e0];exact h)
   | succ j =>
     have hj:j<l.length:=by omega
     have ep:ma l (j+1)=some l[j]:=aj hj
     have en:ma l (j+1+1)=some l[j+1]:=aj hil
     have hq:=hp _ ep
     rw[ep]at h
     have ew:w64 (((j+1:Nat):Int)-1)=(j:Int):=by rw[ax (by omega) (by omega)];omega
     refine ak (fun _=>?_) (fun h3=>absurd (oF h3) (by omega))
     rw[ew,bf hj]
     have h:(bif ltF l[j] l[j+1]then kZ (some l[j+1]) (l.drop (j+1+1))else 70)=r:=h
     rw[lr hq h2]at h
     refine⟨⟨⟨by omega,by omega⟩,tv⟩,⟨⟨by omega,by omega⟩,tv⟩,ak (fun h4=>⟨⟨tv,tv⟩,?_⟩) (fun h4=>?_)⟩
     ·have h4:leF l[j+1] l[j]=true:=h4
      rw[qY h2 hq]at h4
      have h4:=oT h4
      rw[dF (by omega)]at h;exact h
     ·have h4:leF l[j+1] l[j]=false:=h4
      rw[qY h2 hq]at h4
      have h4:=oF h4
      rw[dT (by omega),cT]at h
      exact vX hl hA (j+1+1) (by omega) (fun q hq=>by rw[en]at hq;cases hq;exact h2) (by rw[en];exact h)
 ·have h1:=oF h1
  refine⟨⟨tv,tv⟩,?_⟩
  rw[dN (by omega)]at h
  generalize ma l i=p at h
  cases p<;>exact h
termination_by l.length-i
theorem Kk (l:List Fl):Pure prog 218 [⟨.sl .flt,l⟩] [.int] (db l):=
 Pure.of_closed (C:=codes) (S:=sigs) mixed func218 (by kernel_rfl) (ac (by kernel_rfl)) fun A hA=>hA.go (LT l) (by
  refine ak (fun h=>⟨q2,?_⟩) (fun h=>ak (fun h2=>⟨q2,?_⟩) (fun h2=>?_))
  ·rw[db,h];rfl
  ·rw[db,h,h2];rfl
  ·have:=oF h2
   exact vX (by omega) hA 0 (by omega) (fun q hq=>by cases hq) (by rw[db,h,h2];rfl))
end Go.Proofs.Zn

namespace Go.Proofs.Zn
open Go.Proofs.Tryz
open Go Go.VL
def tO (m:List Fl)(x:Fl):Nat:=(m.takeWhile fun b=>leF b x).length
def bZ (l:List Fl)(x:Fl):Nat:=tO (l.take (l.length-1)) x
theorem wv (m:List Fl)(x:Fl):tO m x<=m.length:=(List.takeWhile_sublist _).length_le
theorem Bs {m:List Fl}{x:Fl}(hl:m.length<=1000){r:Int}{A:Pr}(hA:CL codes sigs f253 [.int] r A)
  (i:Nat) (hi:i<=m.length) (h:((i+tO (m.drop i) x:Nat):Int)=r):A (hd f253 0) (Qc m x i i):=by
 refine hA.go (Oi m x i i) (ak (fun h1=>?_) (fun h1=>?_))
 ·have h1:=oT h1
  have hil:i<m.length:=by omega
  rw[bf hil]
  rw[dG hil,tO,List.takeWhile_cons]at h
  refine⟨⟨⟨by omega,by omega⟩,tv⟩,ak (fun h2=>⟨⟨tv,tv⟩,?_⟩) (fun h2=>?_)⟩
  ·have h2:leF m[i] x=false:=nt h2
   rw[h2]at h
   exact h
  ·have h2:leF m[i] x=true:=nf h2
   rw[h2]at h
   rw[aw (by omega)]
   exact Bs hl hA (i+1) (by omega) (by rw[← h];simp[tO];omega)
 ·have h1:=oF h1
  refine⟨⟨tv,tv⟩,?_⟩
  rw[dN (by omega)]at h
  exact h
termination_by m.length-i
theorem Kj {l:List Fl}{x:Fl}(h1:1<=l.length)(h2:l.length<=1000):Pure prog 253 [⟨.sl .flt,l⟩,⟨.flt,x⟩] [.int] ((bZ l x:Nat):Int):=
 Pure.of_closed (C:=codes) (S:=sigs) mixed func253 (by kernel_rfl) (ac (by kernel_rfl)) fun A hA=>hA.go (LR l x) (by
  refine⟨⟨q2,tv⟩,_,Py (by omega),⟨⟨by omega,by unfold lu;omega,by unfold lu;omega⟩,tv⟩,?_⟩
  have e:(List.take (lu l).toNat l).drop 0=l.take (l.length-1):=by
   rw[bD];congr 1;unfold lu;omega
  rw[e]
  exact Bs (x:=x) (by rw[aF];omega) hA 0 (by omega) (by rw[bD,cq];rfl))
def gtF (x y:Fl):Bool:=Fl.cmp x y==some Ordering.gt
theorem JM {x y:Fl}(hx:dh x=false)(hy:dh y=false):gtF x y=decide (cI y<cI x):=by
 rw[gtF,lA hx hy]
 simp only[compare,compareOfLessAndEq]
 by_cases h:cI x<cI y
 ·rw[aE h,dF (by omega)];rfl
 ·rw[aH h]
  by_cases h2:cI x=cI y
  ·rw[aE h2,dF (by omega)];rfl
  ·rw[aH h2,dT (by omega)];rfl
abbrev no (e:Int):Span×Int:=(⟨0,0⟩,e)
abbrev loF (x r:Fl):Fl:=Fl.arith BinOp.sub x r
abbrev hiF (x r:Fl):Fl:=Fl.arith BinOp.add x r
def inS (l:List Fl)(a b:Fl):Span×Int:=
 bif ltF b (l.getD 0 (some 0))then no 71 else bif gtF a (l.getD (l.length-1) (some 0))then no 71 else(⟨((max (bZ l a) 1:Nat):Int)-1,((bZ l b:Nat):Int)-1⟩,0)
def kH (l:List Fl)(x r:Fl):Span×Int:=
 bif db l != 0 then no (db l)else bif dh x then no 20 else bif dh r then no 20 else bif ltF r (some 0)then no 22 else bif dh (loF x r)then no 20 else bif dh (hiF x r)then no 20 else inS l (loF x r) (hiF x r)
theorem jp {l:List Fl}(h:db l=0):2<=l.length/\l.length<=25:=by
 unfold db at h
 by_cases h1:(l.length:Int)<2
 ·rw[dT h1,cT]at h;cases h
 ·rw[dF h1,cF]at h
  by_cases h2:(l.length:Int)>25
  ·rw[dT h2,cT]at h;cases h
  ·omega
theorem Km (l:List Fl)(x r:Fl):Pure prog 206 [⟨.sl .flt,l⟩,⟨.flt,x⟩,⟨.flt,r⟩] [.span,.int] (kH l x r):=
 ofT func206 (t119 l x r) (by kernel_rfl) (by kernel_rfl) fun A=>by
  have N1:U2/\True:=⟨q2,tv⟩
  have N2:U2/\U2/\True:=⟨q2,q2,tv⟩
  have N3:U3/\U2:=⟨q3,tv,tv⟩
  refine⟨N1,_,PC l,cS (fun _=>⟨N3,rfl⟩) (fun hc=>⟨N1,_,HR x,cS (fun _=>⟨N3,rfl⟩) (fun _=>⟨N1,_,HR r,cS (fun _=>⟨N3,rfl⟩) (fun _=>cS (fun _=>⟨N3,rfl⟩) (fun _=>⟨N1,_,HR _,cS (fun _=>⟨N3,rfl⟩) (fun _=>⟨N1,_,HR _,cS (fun _=>⟨N3,rfl⟩) (fun _=>?_)⟩)⟩))⟩)⟩)⟩
  have hc:db l=0:=by simpa using hc
  obtain⟨l2,l25⟩:=jp hc
  refine⟨⟨⟨by omega,by omega⟩,tv⟩,cS (fun _=>⟨N3,rfl⟩) (fun _=>⟨N1,_,Py (by omega),⟨⟨by unfold lu;omega,by unfold lu;omega⟩,tv⟩,?_⟩)⟩
  have e:(lu l).toNat=l.length-1:=by unfold lu;omega
  rw[e]
  refine cS (fun _=>⟨N3,rfl⟩) (fun _=>⟨N2,_,Kj (by omega) (by omega),N2,_,Kj (by omega) (by omega),N3,?_⟩)
  have b1:=wv (l.take (l.length-1)) (loF x r)
  have b2:=wv (l.take (l.length-1)) (hiF x r)
  rw[aF]at b1 b2
  have e1:w64 ((if(1:Int)>((bZ l (loF x r):Nat):Int)then 1 else((bZ l (loF x r):Nat):Int))-1)=((max (bZ l (loF x r)) 1:Nat):Int)-1:=by
   unfold bZ
   split
   ·rw[ax (by omega) (by omega)];omega
   ·rw[ax (by omega) (by omega)];omega
  have e2:w64 (((bZ l (hiF x r):Nat):Int)-1)=((bZ l (hiF x r):Nat):Int)-1:=by
   unfold bZ
   exact ax (by omega) (by omega)
  show((⟨w64 ((if(1:Int)>((bZ l (loF x r):Nat):Int)then 1 else((bZ l (loF x r):Nat):Int))-1),w64 (((bZ l (hiF x r):Nat):Int)-1)⟩:Span),(0:Int))=_
  rw[e1,e2]
end Go.Proofs.Zn

namespace Go.Proofs.Zn
open Go.Proofs.Tryz
open Go Go.VL
def geF (x y:Fl):Bool:=Fl.cmp x y==some Ordering.gt||Fl.cmp x y==some Ordering.eq
def nK (l:List Fl)(k:Nat)(a b:Fl):Bool:=
 bif (k+2==l.length)then(bif leF a (l.getD (k+1) (some 0))then geF b (l.getD k (some 0))else false)else(bif ltF a (l.getD (k+1) (some 0))then geF b (l.getD k (some 0))else false)
theorem MT {l:List Fl}{k:Nat}{a b:Fl}(hk:k+1<l.length)(hl:l.length<=25):Pure prog 288 [⟨.sl .flt,l⟩,⟨.int,(k:Int)⟩,⟨.flt,a⟩,⟨.flt,b⟩] [.bool] (nK l k a b):=
 ofT func288 (LL l k a b) (by kernel_rfl) (by kernel_rfl) fun A=>by
  have w1:w64 ((k:Int)+1)=((k+1:Nat):Int):=aw (by omega)
  have w2:w64 ((k:Int)+2)=((k+2:Nat):Int):=by rw[ax (by omega) (by omega)];rfl
  have e:(((k+2:Nat):Int)==(l.length:Int))=(k+2==l.length):=by
   by_cases h:k+2=l.length
   ·rw[h];simp
   ·have h1:(k+2==l.length)=false:=by simpa using h
    rw[h1];simp;omega
  rw[w1,w2,e,aq,aq]
  have I1:((0:Int)<=((k+1:Nat):Int)/\((k+1:Nat):Int)<(l.length:Int))/\True:=⟨⟨by omega,by omega⟩,tv⟩
  have I0:((0:Int)<=(k:Int)/\(k:Int)<(l.length:Int))/\True:=⟨⟨by omega,by omega⟩,tv⟩
  exact cS (fun _=>⟨I1,cS (fun _=>⟨I0,q2,rfl⟩) (fun _=>⟨q2,rfl⟩)⟩) (fun _=>⟨I1,cS (fun _=>⟨I0,q2,rfl⟩) (fun _=>⟨q2,rfl⟩)⟩)
def oq (l:List Fl)(a b:Fl):Nat->List Int
 | 0=>[]
 | k+1=>bif nK l k a b then oq l a b k++[(k:Int)]else oq l a b k
theorem Aq (l:List Fl)(a b:Fl):∀ k,(oq l a b k).length<=k
 | 0=>aI _
 | k + 1 => by
   have:=Aq l a b k
   rw[oq]
   cases nK l k a b
   ·rw[cF];omega
   ·rw[cT,al];simp;omega
def xA (out:List Int):Span×Int:=bif (out.length:Int)==0 then no 71 else(⟨out.getD 0 0,out.getD (out.length-1) 0⟩,0)
theorem vY {l:List Fl}(h2:2<=l.length)(hl:l.length<=25)(a b:Fl){r:Span×Int}(hr:r=xA (oq l a b (l.length-1))){A:Pr}(hA:CL codes sigs f255 [.span,.int] r A)
  (i:Nat) (hi:i<=l.length-1):A (hd f255 0) (Ni l a b (oq l a b i) i):=by
 refine hA.go (OA l a b _ i) ?_
 rw[aw (by omega)]
 have ht:=Aq l a b i
 refine ak (fun h1=>?_) (fun h1=>?_)
 ·have h1:=oT h1
  refine⟨⟨⟨tv,tv⟩,⟨tv,tv⟩,⟨tv,tv⟩,⟨tv,tv⟩,tv⟩,_,MT (by omega) hl,ak (fun h3=>⟨⟨⟨tv,tv⟩,tv⟩,⟨by simp only[ag,am];omega,tv⟩,?_⟩) (fun h3=>?_)⟩
  ·have:=vY h2 hl a b hr hA (i+1) (by omega)
   rw[oq,h3]at this
   exact this
  ·have:=vY h2 hl a b hr hA (i+1) (by omega)
   rw[oq,h3]at this
   exact this
 ·have h1:=oF h1
  have e:i=l.length-1:=by omega
  rw[← e]at hr
  generalize oq l a b i=out at *
  have N3:(True/\True/\True)/\True/\True:=⟨⟨tv,tv,tv⟩,tv,tv⟩
  subst hr
  refine ak (fun h=>⟨N3,?_⟩) (fun h=>?_)
  ·show no 71=_
   rw[xA,h];rfl
  ·have hpos:0<out.length:=by
    rcases eA out.length with h0|h0
    ·rw[h0]at h;cases h
    ·exact h0
   have ew:w64 ((out.length:Int)-1)=((out.length-1:Nat):Int):=by rw[ax (by omega) (by omega)];omega
   rw[ew,aq]
   refine⟨⟨by omega,by omega⟩,hpos,⟨by omega,by omega⟩,by omega,N3,?_⟩
   show((⟨out.getD 0 0,out.getD (out.length-1) 0⟩:Span),(0:Int))=_
   rw[xA,h];rfl
termination_by l.length-i
def fB (l:List Fl)(x r:Fl):Span×Int:=
 bif db l != 0 then no (db l)else bif dh x then no 20 else bif dh r then no 20 else bif ltF r (some 0)then no 22 else bif dh (loF x r)then no 20 else bif dh (hiF x r)then no 20 else xA (oq l (loF x r) (hiF x r) (l.length-1))
theorem Kl (l:List Fl)(x r:Fl):Pure prog 255 [⟨.sl .flt,l⟩,⟨.flt,x⟩,⟨.flt,r⟩] [.span,.int] (fB l x r):=
 Pure.of_closed (C:=codes) (S:=sigs) mixed func255 (by kernel_rfl) (ac (by kernel_rfl)) fun A hA=>hA.go (LU l x r) (by
  have N1:U2/\True:=⟨q2,tv⟩
  have N3:U3/\U2:=⟨q3,tv,tv⟩
  refine⟨N1,_,Kk l,ak (fun h1=>⟨N3,?_⟩) (fun h1=>⟨N1,_,Ac x,ak (fun h2=>⟨N3,?_⟩) (fun h2=>⟨N1,_,Ac r,ak (fun h3=>⟨N3,?_⟩) (fun h3=>ak (fun h4=>⟨N3,?_⟩) (fun h4=>⟨N1,_,Ac _,ak (fun h5=>⟨N3,?_⟩) (fun h5=>⟨N1,_,Ac _,ak (fun h6=>⟨N3,?_⟩) (fun h6=>?_)⟩)⟩))⟩)⟩)⟩
  ·rw[fB,h1];rfl
  ·rw[fB,h1,h2];rfl
  ·rw[fB,h1,h2,h3];rfl
  ·have h4:ltF r (some 0)=true:=h4
   rw[fB,h1,h2,h3,h4];rfl
  ·have h4:ltF r (some 0)=false:=h4
   rw[fB,h1,h2,h3,h4,h5];rfl
  ·have h4:ltF r (some 0)=false:=h4
   rw[fB,h1,h2,h3,h4,h5,h6];rfl
  ·have h4:ltF r (some 0)=false:=h4
   have hc:db l=0:=by simpa using h1
   obtain⟨l2,l25⟩:=jp hc
   refine hA.row 11 3 .int (by kernel_rfl) (s':=Ni l (loF x r) (hiF x r) [] 0) (by kernel_rfl) ?_
   exact vY l2 l25 (loF x r) (hiF x r) (by rw[fB,h1,h2,h3,h4,h5,h6];rfl) hA 0 (by omega))
end Go.Proofs.Zn

namespace Go.Proofs.Zn
open Go.Proofs.Tryz
open Go Go.VL
theorem yw:∀ (l:List Fl) (q:Fl),dh q=false->kZ (some q) l=0->(∀ x∈q::l,dh x=false)/\List.Pairwise (fun x y=>cI x<cI y) (q::l)
 | [],q,hq,_=>⟨fun x hx=>by simp at hx;subst hx;exact hq,gQ _ _⟩
 | x :: r, q, hq, h => by
   rw[pj]at h
   cases hx:dh x with
   | true=>rw[hx]at h;cases h
   | false =>
     rw[hx,cF]at h
     have h:(bif ltF q x then kZ (some x) r else 70)=0:=h
     cases hl:ltF q x with
     | false=>rw[hl]at h;cases h
     | true =>
       rw[hl,cT]at h
       obtain⟨i1,i2⟩:=yw r x hx h
       rw[lr hq hx]at hl
       have hl:=oT hl
       refine⟨fun y hy=>?_,aP.2 ⟨fun y hy=>?_,i2⟩⟩
       ·rcases aD.1 hy with rfl|hy
        ·exact hq
        ·exact i1 y hy
       ·rcases aD.1 hy with rfl|hy
        ·exact hl
        ·have:=(aP.1 i2).1 y hy;omega
theorem sU {l:List Fl}(h:db l=0):(∀ x∈l,dh x=false)/\List.Pairwise (fun x y=>cI x<cI y) l:=by
 obtain⟨h2,h25⟩:=jp h
 have h:kZ none l=0:=by
  unfold db at h
  rw[dF (by omega),cF,dF (by omega),cF]at h
  exact h
 cases l with
 | nil=>simp at h2
 | cons x r =>
   rw[pj]at h
   cases hx:dh x with
   | true=>rw[hx]at h;cases h
   | false=>rw[hx,cF]at h;exact yw r x hx h
theorem BU {x:Fl}(hx:dh x=false):∀ (m:List Fl),(∀ y∈m,dh y=false)->List.Pairwise (fun x y=>cI x<cI y) m->∀ (k:Nat) (h:k<m.length),cI m[k]<=cI x↔k<tO m x
 | [],_,_,k,h=>by simp at h
 | c :: m, hn, hp, k, h => by
   have hc:=hn c (.head _)
   have e:tO (c::m) x=if leF c x then tO m x+1 else 0:=by
    rw[tO,List.takeWhile_cons]
    cases leF c x<;>simp[tO]
   rw[e,qY hc hx]
   have ih:=BU hx m (fun y hy=>hn y (.tail _ hy)) (aP.1 hp).2
   by_cases hle:cI c<=cI x
   ·rw[dT hle,aE rfl]
    cases k with
    | zero=>exact⟨fun _=>by omega,fun _=>hle⟩
    | succ k =>
      have hk:k<m.length:=by simpa using h
      have:=ih k hk
      show cI m[k]<=cI x↔_
      omega
   ·rw[dF hle,aH (by decide)]
    refine⟨fun h'=>?_,fun h'=>absurd h' (by omega)⟩
    cases k with
    | zero=>exact absurd h' hle
    | succ k =>
      have hk:k<m.length:=by simpa using h
      have h3:=(aP.1 hp).1 m[k] (aQ _)
      have h':cI m[k]<=cI x:=h'
      omega
theorem jN {l:List Fl}{x:Fl}(hx:dh x=false)(hn:∀ y∈l,dh y=false)(hp:List.Pairwise (fun x y=>cI x<cI y) l)(k:Nat)(h:k<l.length-1):cI (l.getD k (some 0))<=cI x↔k<bZ l x:=by
 have:=BU hx (l.take (l.length-1)) (fun y hy=>hn y (iX hy)) (hp.sublist (List.take_sublist _ _)) k (by rw[aF];omega)
 rw[kz]at this
 rw[cJ (by omega)]
 exact this
theorem nh (l:List Fl)(x:Fl):bZ l x<=l.length-1:=by
 have:=wv (l.take (l.length-1)) x
 rw[aF]at this
 unfold bZ;omega
theorem AC {l:List Fl}(hp:List.Pairwise (fun x y=>cI x<cI y) l){i j:Nat}(hij:i<j)(hj:j<l.length):cI (l.getD i (some 0))<cI (l.getD j (some 0)):=by
 rw[cJ (by omega),cJ hj]
 exact ge.1 hp i j (by omega) hj hij
theorem JN {x y:Fl}(hx:dh x=false)(hy:dh y=false):geF x y=decide (cI y<=cI x):=by
 rw[geF,lA hx hy]
 simp only[compare,compareOfLessAndEq]
 by_cases h:cI x<cI y
 ·rw[aE h,dF (by omega)];rfl
 ·rw[aH h]
  by_cases h2:cI x=cI y
  ·rw[aE h2,dT (by omega)];rfl
  ·rw[aH h2,dT (by omega)];rfl
theorem mR {l:List Fl}{a b:Fl}{lo hi:Nat}:∀ m:Nat,(∀ k,k<m->(nK l k a b=true↔lo<=k/\k<hi))->oq l a b m=(List.range' lo (min hi m-lo)).map fun n:Nat=>Int.ofNat n
 | 0,_=>by simp[oq]
 | m + 1, h => by
   have ih:=mR m (fun k hk=>h k (by omega))
   rw[oq,ih]
   have hm:=h m (by omega)
   cases ht:nK l m a b with
   | true =>
     obtain⟨h1,h2⟩:=hm.1 ht
     have e:min hi (m+1)-lo=min hi m-lo+1:=by omega
     rw[e,List.range'_concat,cT,bO]
     have e2:lo+1*(min hi m-lo)=m:=by omega
     rw[e2];rfl
   | false =>
     have:¬ (lo<=m/\m<hi):=fun h'=>by rw[hm.2 h']at ht;cases ht
     have e:min hi (m+1)-lo=min hi m-lo:=by omega
     rw[e,cF]
theorem MB {l:List Fl}{a b:Fl}(hc:db l=0)(ha:dh a=false)(hb:dh b=false)(hab:cI a<=cI b):inS l a b=xA (oq l a b (l.length-1)):=by
 obtain⟨h2,h25⟩:=jp hc
 obtain⟨hn,hp⟩:=sU hc
 have nn:∀ k,k<l.length->dh (l.getD k (some 0))=false:=fun k hk=>by rw[cJ hk];exact hn _ (aQ _)
 have tk:∀ k,k<l.length-1->(nK l k a b=true↔((k+2=l.length/\cI a<=cI (l.getD (k+1) (some 0))\/k+2≠l.length/\cI a<cI (l.getD (k+1) (some 0)))/\cI (l.getD k (some 0))<=cI b)):=by
  intro k hk
  unfold nK
  rw[qY ha (nn _ (by omega)),lr ha (nn _ (by omega)),JN hb (nn _ (by omega))]
  generalize cI (l.getD (k+1) (some 0))=u
  generalize cI (l.getD k (some 0))=v
  by_cases e:k+2=l.length
  ·rw[show(k+2==l.length)=true by simpa using e,cT]
   by_cases e2:cI a<=u
   ·rw[dT e2,cT,bx]
    exact⟨fun h=>⟨.inl ⟨e,e2⟩,h⟩,fun h=>h.2⟩
   ·rw[dF e2,cF]
    exact⟨fun h=>(by cases h),fun h=>absurd h (by omega)⟩
  ·rw[show(k+2==l.length)=false by simpa using e,cF]
   by_cases e2:cI a<u
   ·rw[dT e2,cT,bx]
    exact⟨fun h=>⟨.inr ⟨e,e2⟩,h⟩,fun h=>h.2⟩
   ·rw[dF e2,cF]
    exact⟨fun h=>(by cases h),fun h=>absurd h (by omega)⟩
 rw[inS,lr hb (nn _ (by omega)),JM ha (nn _ (by omega))]
 by_cases g1:cI b<cI (l.getD 0 (some 0))
 ·rw[dT g1,cT,mR (lo:=0) (hi:=0) _ (fun k hk=>by
   rw[tk k hk]
   refine⟨fun h=>?_,fun h=>absurd h.2 (by omega)⟩
   rcases eA k with h0|h0
   ·subst h0;omega
   ·have:=AC hp h0 (show k<l.length by omega);omega)]
  simp[xA]
 ·rw[dF g1,cF]
  by_cases g2:cI (l.getD (l.length-1) (some 0))<cI a
  ·rw[dT g2,cT,mR (lo:=0) (hi:=0) _ (fun k hk=>by
    rw[tk k hk]
    refine⟨fun h=>?_,fun h=>absurd h.2 (by omega)⟩
    rcases ay (k+1) (l.length-1)with h0|h0
    ·have:=AC hp h0 (show l.length-1<l.length by omega);omega
    ·have e:k+1=l.length-1:=by omega
     rw[e]at h;omega)]
   simp[xA]
  ·rw[dF g2,cF]
   have A:=fun k h=>jN ha hn hp k h
   have B:=fun k h=>jN hb hn hp k h
   have la:=nh l a
   have lb:=nh l b
   have b1:0<bZ l b:=(B 0 (by omega)).1 (by omega)
   have ab:bZ l a<=bZ l b:=by
    rcases ay (bZ l b) (bZ l a)with h|h
    ·have h1:=(A (bZ l b) (by omega)).2 h
     have h3:=(B (bZ l b) (by omega)).1 (by omega)
     omega
    ·exact h
   have hr:=mR (l:=l) (a:=a) (b:=b) (lo:=max (bZ l a) 1-1) (hi:=bZ l b) (l.length-1) (fun k hk=>by
    rw[tk k hk,B k hk]
    by_cases e:k+2=l.length
    ·have e3:k+1=l.length-1:=by omega
     rw[e3]
     omega
    ·have h4:=A (k+1) (by omega)
     omega)
   rw[hr]
   have e5:min (bZ l b) (l.length-1)=bZ l b:=by omega
   rw[e5]
   generalize bZ l a=p at *
   generalize bZ l b=q at *
   have e6:((List.range' (max p 1-1) (q-(max p 1-1))).map fun n:Nat=>Int.ofNat n).length=q-(max p 1-1):=by simp
   rw[xA,e6]
   have hpos:0<q-(max p 1-1):=by omega
   have e7:(((q-(max p 1-1):Nat):Int)==0)=false:=by simp;omega
   rw[e7,cF]
   rw[cJ (by rw[e6];exact hpos),cJ (by rw[e6];omega)]
   simp only[List.getElem_map,List.getElem_range']
   congr 1
   congr 1
   ·show((max p 1:Nat):Int)-1=((max p 1-1+1*0:Nat):Int)
    omega
   ·show((q:Nat):Int)-1=((max p 1-1+1*(q-(max p 1-1)-1):Nat):Int)
    omega
end Go.Proofs.Zn

namespace Go.Proofs.Zn
open Go.Proofs.Tryz
def rne (n g:Nat):Nat:=n/g+(decide (g<2*(n%g))||(g==2*(n%g)&&n/g%2==1)).toNat
theorem MG (neg:Bool)(n d:Nat):Ieee.Toward.even.cut neg n d=rne n (2^d):=by
 have key:∀ k,Ieee.Toward.even.cut neg n d=rne n (1 <<< min d (n.log2+2))/\(k=0->True):=fun k=>⟨rfl,fun _=>trivial⟩
 rw[(key 0).1,ld,ea]
 by_cases h:d<=n.log2+2
 ·rw[Nat.min_eq_left h]
 ·rw[Nat.min_eq_right (by omega)]
  have h1:n<2^(n.log2+1):=lf
  have e2:2^(n.log2+2)=2*2^(n.log2+1):=by rw[hU,bW]
  have h2:2*n<2^(n.log2+2):=by omega
  have h3:2^(n.log2+2)<=2^d:=aY (by decide) (by omega)
  have z:∀ g,2*n<g->rne n g=0:=by
   intro g hg
   have e1:n/g=0:=iC (by omega)
   have e2:n%g=n:=cQ (by omega)
   unfold rne
   rw[e1,e2,dF (by omega)]
   simp
  rw[z _ h2,z _ (by omega)]
theorem xf {n n' g:Nat}(hg:0<g)(h:n<=n'):rne n g<=rne n' g:=by
 have hq:n/g<=n'/g:=Nat.div_le_div_right h
 have b1:∀ b:Bool,b.toNat<=1:=fun b=>by cases b<;>decide
 unfold rne
 rcases ay (n/g) (n'/g)with hl|hge
 ·have:=b1 (decide (g<2*(n%g))||(g==2*(n%g)&&n/g%2==1))
  omega
 ·have e:n/g=n'/g:=by omega
  have m1:=lP n g
  have m2:=lP n' g
  rw[e]at m1 ⊢
  have hm:n%g<=n'%g:=by omega
  have hb:(decide (g<2*(n%g))||(g==2*(n%g)&&n'/g%2==1)).toNat<=(decide (g<2*(n'%g))||(g==2*(n'%g)&&n'/g%2==1)).toNat:=by
   by_cases h1:g<2*(n'%g)
   ·rw[dT h1,Bool.true_or]
    exact b1 _
   ·by_cases h2:n%g=n'%g
    ·rw[h2];exact aI _
    ·have h3:¬ g<2*(n%g):=by omega
     have h4:(g==2*(n%g))=false:=by simp;omega
     rw[dF h3,h4]
     exact bE _
  omega
theorem LZ {n g k:Nat}(hg:0<g)(h:n<=k*g):rne n g<=k:=by
 have:=xf hg h
 have e:rne (k*g) g=k:=by
  unfold rne
  rw[Nat.mul_div_cancel _ hg,Nat.mul_mod_left,dF (by omega)]
  have:(g==2*0)=false:=by simp;omega
  rw[this];rfl
 omega
theorem Mx {n g k:Nat}(hg:0<g)(h:k*g<=n):k<=rne n g:=by
 have:k<=n/g:=(Nat.le_div_iff_mul_le hg).2 h
 unfold rne
 omega
end Go.Proofs.Zn

namespace Go.Proofs.Zn
open Go.Proofs.Tryz
open Go
def uR (base:Int)(mag:Nat):Int:=max (base+mag.log2-52) dY
def GS (base L:Int)(mag:Nat):Nat:=rne (mag*2^(base-L).toNat) (2^(L-base).toNat)
def lK (base:Int)(mag:Nat):Nat:=if mag=0 then 0 else min ((uR base mag-dY).toNat*4503599627370496+GS base (uR base mag) mag) 9218868437227405312
theorem zq (neg:Bool)(mag:Nat)(base:Int):FloatKind.f64.format.nearest neg mag base=FloatKind.f64.format.word neg (lK base mag):=by
 have e2:FloatKind.f64.format.binade=4503599627370496:=by decide
 have e3:FloatKind.f64.format.infRung=9218868437227405312:=by decide
 have e4:FloatKind.f64.format.fractionBits=52:=by decide
 unfold Ieee.Format.nearest lK
 rw[e2,e3,e4]
 by_cases h:mag=0
 ·rw[aE h,aE h]
 ·rw[aH h,aH h]
  simp only[MG,ld]
  rfl
theorem mb (k:Nat):0<2^k:=de (by decide)
theorem JF {base:Int}{mag:Nat}(h0:mag≠0){L:Int}(hL:L=base+mag.log2-52):4503599627370496<=GS base L mag:=by
 have h1:2^mag.log2<=mag:=Nat.log2_self_le h0
 have e:(4503599627370496:Nat)=2^52:=by decide
 rw[e]
 refine Mx (mb _) ?_
 by_cases h:52<=mag.log2
 ·have a1:(base-L).toNat=0:=by omega
  have a2:(L-base).toNat=mag.log2-52:=by omega
  rw[a1,a2,lI,iV,← dZ,Nat.add_sub_cancel' h]
  exact h1
 ·have a1:(base-L).toNat=52-mag.log2:=by omega
  have a2:(L-base).toNat=0:=by omega
  rw[a1,a2,lI,iV]
  have:2^52=2^mag.log2*2^(52-mag.log2):=by rw[← dZ];congr 1;omega
  rw[this]
  exact aC _ h1
theorem JG {base:Int}{mag:Nat}{L:Int}(hL:base+mag.log2-52<=L):GS base L mag<=9007199254740992:=by
 have h1:mag<2^(mag.log2+1):=lf
 have e:(9007199254740992:Nat)=2^53:=by decide
 rw[e]
 refine LZ (mb _) ?_
 by_cases h:base<=L
 ·have a1:(base-L).toNat=0:=by omega
  rw[a1,lI,iV,← dZ]
  have:2^(mag.log2+1)<=2^(53+(L-base).toNat):=aY (by decide) (by omega)
  omega
 ·have a2:(L-base).toNat=0:=by omega
  rw[a2,lI,iV]
  have g1:mag*2^(base-L).toNat<=2^(mag.log2+1)*2^(base-L).toNat:=aC _ (Nat.le_of_lt h1)
  rw[← dZ]at g1
  have g2:2^(mag.log2+1+(base-L).toNat)<=2^53:=aY (by decide) (by omega)
  omega
theorem DV {m n:Nat}(h0:m≠0)(h:m<=n):m.log2<=n.log2:=by
 have h1:2^m.log2<=m:=Nat.log2_self_le h0
 have h2:n<2^(n.log2+1):=lf
 have h3:2^m.log2<2^(n.log2+1):=by omega
 have:=(Nat.pow_lt_pow_iff_right (a:=2) (by decide)).1 h3
 omega
theorem Gk {a b c:Nat}(h:a<=b):min a c<=min b c:=by omega
theorem Ea {base L:Int}{m n:Nat}(h:m<=n):GS base L m<=GS base L n:=xf (mb _) (aC _ h)
theorem CP {x y a b:Nat}(h:x+1<=y)(ha:a<=9007199254740992)(hb:4503599627370496<=b):x*4503599627370496+a<=y*4503599627370496+b:=by omega
theorem uc {base:Int}{m n:Nat}(h:m<=n):lK base m<=lK base n:=by
 unfold lK
 by_cases h0:m=0
 ·rw[aE h0];exact bE _
 ·rw[aH h0,aH (show n≠0 by omega)]
  refine Gk ?_
  have hl:=DV h0 h
  have d1:uR base m=max (base+m.log2-52) dY:=rfl
  have d2:uR base n=max (base+n.log2-52) dY:=rfl
  generalize uR base m=L at *
  generalize uR base n=L' at *
  generalize dY=z at *
  by_cases hlt:L<L'
  ·exact CP (by omega) (JG (by omega)) (JF (by omega) (by omega))
  ·have e:L'=L:=by omega
   rw[e]
   exact jg (Ea h) _
end Go.Proofs.Zn

namespace Go.Proofs.Zn
open Go.Proofs.Tryz
open Go
def fT (k:Nat):Nat:=if k<4503599627370496 then k else if k<9218868437227405312 then(4503599627370496+k%4503599627370496)*2^(k/4503599627370496-1)else big
theorem sD (s:Bool){k:Nat}(h:k<=9218868437227405312):nu (FloatKind.f64.format.read (FloatKind.f64.format.word s k))=bif s then -(fT k:Int)else(fT k:Int):=by
 have e1:FloatKind.f64.format.signWeight=9223372036854775808:=by decide
 have e2:FloatKind.f64.format.binade=4503599627370496:=by decide
 have e3:FloatKind.f64.format.infRung=9218868437227405312:=by decide
 have w1:FloatKind.f64.format.word s k%9223372036854775808=k:=by
  unfold Ieee.Format.word;rw[e1];cases s
  ·rw[aH (by decide)];omega
  ·rw[aE rfl];omega
 have w2:(FloatKind.f64.format.word s k/9223372036854775808%2==1)=s:=by
  unfold Ieee.Format.word;rw[e1];cases s
  ·rw[aH (by decide)];simp;omega
  ·rw[aE rfl];simp;omega
 simp only[Ieee.Format.read,e1,e2,e3,w1,w2]
 unfold fT
 by_cases h1:k<4503599627370496
 ·rw[aE h1,aE h1]
  show Ieee.signed s k (dY-dY).toNat=_
  rw[Int.sub_self,fV]
  cases s<;>simp
 ·rw[aH h1,aH h1]
  by_cases h2:k<9218868437227405312
  ·rw[aE h2,aE h2]
   show Ieee.signed s _ (dY+((k/4503599627370496-1:Nat):Int)-dY).toNat=_
   have e:(dY+((k/4503599627370496-1:Nat):Int)-dY).toNat=k/4503599627370496-1:=by
    generalize dY=z;omega
   rw[e,fV]
   cases s<;>simp
  ·rw[aH h2,aH h2,aE (by omega)]
   rfl
end Go.Proofs.Zn

set_option exponentiation.threshold 4096
namespace Go.Proofs.Zn
open Go.Proofs.Tryz
open Go
theorem kP {k j:Nat}(h:k<=j):fT k<=fT j:=by
 unfold fT
 have hb:∀ q r,q<=2046->r<4503599627370496->(4503599627370496+r)*2^(q-1)<=big:=by
  intro q r hq hr
  have g1:2^(q-1)<=2^2046:=aY (by decide) (by omega)
  have g2:4503599627370496+r<=2^53:=by
   have:(2:Nat)^53=9007199254740992:=by decide
   omega
  exact aZ (jQ g2 g1) ta
 by_cases k1:k<4503599627370496
 ·rw[aE k1]
  by_cases j1:j<4503599627370496
  ·rw[aE j1];exact h
  ·rw[aH j1]
   by_cases j2:j<9218868437227405312
   ·rw[aE j2]
    have:=jQ (show 4503599627370496<=4503599627370496+j%4503599627370496 by omega) (mb (j/4503599627370496-1))
    omega
   ·rw[aH j2]
    have:=hb 0 0 (by decide) (by decide)
    simp at this;omega
 ·rw[aH k1,aH (show ¬ j<4503599627370496 by omega)]
  by_cases j2:j<9218868437227405312
  ·rw[aE (show k<9218868437227405312 by omega),aE j2]
   have q:k/4503599627370496<=j/4503599627370496:=Nat.div_le_div_right h
   have q1:1<=k/4503599627370496:=by omega
   by_cases e:k/4503599627370496=j/4503599627370496
   ·rw[e];exact aC _ (by omega)
   ·have r1:4503599627370496+k%4503599627370496<=4503599627370496*2:=by omega
    have r2:2*2^(k/4503599627370496-1)<=2^(j/4503599627370496-1):=by
     rw[bW,← hU];exact aY (by decide) (by omega)
    have r3:=aC (2^(k/4503599627370496-1)) r1
    have r4:=jQ (show 4503599627370496<=4503599627370496+j%4503599627370496 by omega) r2
    rw[eT]at r3
    exact aZ r3 r4
  ·rw[aH j2]
   by_cases k2:k<9218868437227405312
   ·rw[aE k2];exact hb _ _ (by omega) (jR _ (by decide))
   ·rw[aH k2];exact aI _
end Go.Proofs.Zn

namespace Go.Proofs.Zn
open Go.Proofs.Tryz
open Go Go.VL
def xG (base T:Int):Int:=bif decide (T<0)then -(fT (lK base T.natAbs):Int)else(fT (lK base T.natAbs):Int)
theorem IQ (base:Int)(m:Nat):lK base m<=9218868437227405312:=by
 unfold lK
 by_cases h:m=0
 ·rw[aE h];exact bE _
 ·rw[aH h];exact Nat.min_le_right _ _
theorem zr {base T S:Int}(h:T<=S):xG base T<=xG base S:=by
 unfold xG
 by_cases t:T<0
 ·rw[dT t,cT]
  by_cases s:S<0
  ·rw[dT s,cT]
   have:=kP (uc (base:=base) (show S.natAbs<=T.natAbs by omega))
   omega
  ·rw[dF s,cF];omega
 ·rw[dF t,cF,dF (by omega),cF]
  have:=kP (uc (base:=base) (show T.natAbs<=S.natAbs by omega))
  omega
theorem CU (base:Int):fT (lK base 0)=0:=by
 unfold lK fT
 rw[aE rfl,aE (by decide)]
theorem yc {base T:Int}{g:Bool}(hg:T≠0->g=decide (T<0)):nu (FloatKind.f64.format.read (FloatKind.f64.format.nearest g T.natAbs base))=xG base T:=by
 rw[zq,sD _ (IQ _ _),xG]
 by_cases h:T=0
 ·subst h
  have:fT (lK base (0:Int).natAbs)=0:=CU base
  rw[this]
  cases g<;>rfl
 ·rw[hg h]
end Go.Proofs.Zn

namespace Go.Proofs.Zn
open Go.Proofs.Tryz
open Go Go.VL
theorem zd (t:Bool)(n k:Nat):Ieee.signed (!t) n k = -Ieee.signed t n k:=by
 rw[fV,fV];cases t<;>simp
theorem tr {t:Bool}{n k k':Nat}(h:0<=Ieee.signed t n k):0<=Ieee.signed t n k':=by
 rw[fV]at *
 cases t
 ·simp;exact Int.mul_nonneg (Int.natCast_nonneg _) (Int.pow_nonneg (by decide))
 ·have hp:=mb k
  have hn:n=0:=by
   rcases eA n with h0|h0
   ·exact h0
   ·have:=kx h0 hp
    rw[cT]at h;omega
  subst hn;simp
theorem DW {s t:Bool}{m n:Nat}{i j:Int}(h:0<=Ieee.signed t n (j-dY).toNat) :
  nu (FloatKind.f64.format.read (FloatKind.f64.format.write (.number (if Ieee.signed s m (i-min i j).toNat+Ieee.signed (!t) n (j-min i j).toNat=0 then s && !t else Ieee.signed s m (i-min i j).toNat+Ieee.signed (!t) n (j-min i j).toNat<0) (Ieee.signed s m (i-min i j).toNat+Ieee.signed (!t) n (j-min i j).toNat).natAbs (min i j)))) <=
  nu (FloatKind.f64.format.read (FloatKind.f64.format.write (.number (if Ieee.signed s m (i-min i j).toNat+Ieee.signed t n (j-min i j).toNat=0 then s&&t else Ieee.signed s m (i-min i j).toNat+Ieee.signed t n (j-min i j).toNat<0) (Ieee.signed s m (i-min i j).toNat+Ieee.signed t n (j-min i j).toNat).natAbs (min i j)))):=by
 have h0:=tr (k':=(j-min i j).toNat) h
 rw[zd]
 generalize Ieee.signed s m (i-min i j).toNat=X at *
 generalize Ieee.signed t n (j-min i j).toNat=R at *
 unfold Ieee.Format.write
 rw[yc (T:=X + -R) (fun h=>by simp[h]),yc (T:=X+R) (fun h=>by simp[h])]
 exact zr (by omega)
end Go.Proofs.Zn

set_option exponentiation.threshold 4096
namespace Go.Proofs.Zn
open Go.Proofs.Tryz
open Go Go.VL
theorem sB:cI (some 0)=0:=by
 have h:FloatKind.f64.format.read 0=.number false 0 FloatKind.f64.format.leastPlace:=by decide
 show nu (FloatKind.f64.format.read 0)=0
 rw[h]
 show Ieee.signed false 0 _=0
 rw[fV];simp
theorem BC (s:Bool):nu (FloatKind.f64.format.read (FloatKind.f64.format.write (.infinity s)))=bif s then -(big:Int)else big:=by
 have e3:FloatKind.f64.format.infRung=9218868437227405312:=by decide
 unfold Ieee.Format.write
 rw[e3,sD s (aI _)]
 rfl
theorem KQ {x r:Fl}(hx:dh x=false)(hr:dh r=false)(h0:0<=cI r)(hl:dh (loF x r)=false)(hh:dh (hiF x r)=false):cI (loF x r)<=cI (hiF x r):=by
 cases x with
 | none=>cases hx
 | some a => cases r with
   | none=>cases hr
   | some b =>
     have el:loF (some a) (some b)=((FloatKind.f64.format.read a).sum (FloatKind.f64.format.read b).opposite).map FloatKind.f64.format.write:=rfl
     have eh:hiF (some a) (some b)=((FloatKind.f64.format.read a).sum (FloatKind.f64.format.read b)).map FloatKind.f64.format.write:=rfl
     rw[el]at hl ⊢
     rw[eh]at hh ⊢
     have hx:(FloatKind.f64.format.read a).isNaN=false:=hx
     have hr:(FloatKind.f64.format.read b).isNaN=false:=hr
     have h0:0<=nu (FloatKind.f64.format.read b):=h0
     have hbig:(0:Int)<(big:Int):=by
      have:=ta
      have h0:0<2^53*2^2046:=kx (de (by decide)) (de (by decide))
      exact Int.ofNat_lt.2 (cr h0 this)
     generalize FloatKind.f64.format.read a=d at *
     generalize FloatKind.f64.format.read b=e at *
     cases d with
     | nan s t=>cases hx
     | infinity s =>
       cases e with
       | nan s t=>cases hr
       | infinity t=>cases s<;>cases t<;>first|(cases hl;done)|(cases hh;done)
       | number t n j=>exact gS _
     | number s m i =>
       cases e with
       | nan s t=>cases hr
       | infinity t =>
         cases t
         ·show nu (FloatKind.f64.format.read (FloatKind.f64.format.write (.infinity true)))<=nu (FloatKind.f64.format.read (FloatKind.f64.format.write (.infinity false)))
          rw[BC,BC,cT,cF];omega
         ·have h0:0 <= -(big:Int):=h0
          omega
       | number t n j=>exact DW h0
theorem FA (l:List Fl)(x r:Fl):kH l x r=fB l x r:=by
 unfold kH fB
 cases h1:(db l != 0)
 ·cases h2:dh x
  ·cases h3:dh r
   ·cases h4:ltF r (some 0)
    ·cases h5:dh (loF x r)
     ·cases h6:dh (hiF x r)
      ·simp only[cF]
       have hc:db l=0:=by simpa using h1
       refine MB hc h5 h6 (KQ h2 h3 ?_ h5 h6)
       have z:dh (some 0)=false:=by decide
       rw[lr h3 z,sB]at h4
       have:=oF h4
       omega
      ·rfl
     ·rfl
    ·rfl
   ·rfl
  ·rfl
 ·rfl
end Go.Proofs.Zn

set_option exponentiation.threshold 4096
namespace Go.Proofs.Wn
open Go.Proofs.Tryz
open Go Go.VL Go.Proofs.Zn
theorem Kt {n k m:Nat}(hn:n=2^k*(2*m+1))(h:n<2^64):n &&& (2^64-n)=2^k:=by
 have hk:0<2^k:=de (by decide)
 have hpos:0<n:=by rw[hn];exact kx hk (by omega)
 have e:2^64-n=2^64-((n-1)+1):=by rw[Nat.sub_add_cancel hpos]
 have e1:n-1=2^k*(2*m)+(2^k-1):=by
  rw[hn,Nat.mul_add,iV];omega
 rw[e]
 refine Nat.eq_of_testBit_eq fun i=>?_
 rw[Nat.testBit_and,Nat.testBit_two_pow_sub_succ (by omega),e1,Nat.testBit_two_pow_mul_add _ (by omega),hn,Nat.testBit_two_pow_mul,Nat.testBit_two_pow]
 by_cases h1:i<k
 ·have:¬ i>=k:=by omega
  simp[this];omega
 ·rw[aH h1]
  have hki:k<64:=by
   rcases ay k 64 with h|h
   ·exact h
   ·have:2^64<=2^k:=aY (by decide) h
    have:2^k*1<=2^k*(2*m+1):=cd _ (by omega)
    omega
  by_cases h2:i=k
  ·subst h2
   simp[hki]
  ·have h3:i-k=(i-k-1)+1:=by omega
   have t1:(2*m+1).testBit (i-k)=m.testBit (i-k-1):=by
    rw[h3,Nat.testBit_succ];congr 1;omega
   have t2:(2*m).testBit (i-k)=m.testBit (i-k-1):=by
    rw[h3,Nat.testBit_succ];congr 1;omega
   rw[t1,t2]
   have:¬ k=i:=fun e=>h2 e.symm
   cases m.testBit (i-k-1)<;>simp[this]
def Kz:List Int:=[0,1,56,2,57,49,28,3,61,58,42,50,38,29,17,4,62,47,59,36,45,43,51,22,53,39,33,30,24,18,12,5,63,55,48,27,60,41,37,16,46,35,44,21,52,32,23,11,54,26,40,15,34,20,31,10,25,14,19,9,13,8,7,6]
theorem KY:∀ k:Fin 64,(2^k.1*285870213051353865%2^64)/2^58<64/\Kz.getD ((2^k.1*285870213051353865%2^64)/2^58) 0=(k.1:Int):=by decide +kernel
theorem xE:∀ n:Nat,0<n->∃ k m,n=2^k*(2*m+1)
 | n, h => by
   by_cases h2:n%2=1
   ·exact⟨0,n/2,by omega⟩
   ·obtain⟨k,m,e⟩:=xE (n/2) (by omega)
    exact⟨k+1,m,by rw[hU,Nat.mul_right_comm,← e];omega⟩
termination_by n=>n
def qz (n s:Nat):Nat:=n/2^s+(bif decide (2^s<2*(n%2^s))||(2^s==2*(n%2^s)&&n/2^s%2==1)then 1 else 0)
theorem Md (n s:Nat):n/2^s<=qz n s:=by unfold qz;omega
theorem Fq {n s:Nat}(h:2*n<2^s):qz n s=0:=by
 unfold qz
 rw[iC (by omega),cQ (by omega),dF (by omega)]
 have:(2^s==2*n)=false:=by simp;omega
 rw[this];rfl
def jj (r:Nat):Int:=bif decide (r>9218868437227405312)then 1 else bif decide (r=9218868437227405312)then 2 else bif decide (r=0)then 3 else bif decide (r<4503599627370496)then 4 else 5
theorem vN (b:Nat):dh (some b)=decide (b%9223372036854775808>9218868437227405312):=by
 show(FloatKind.f64.format.read b).isNaN=_
 rw[xH]
 by_cases h:b%9223372036854775808>9218868437227405312
 ·rw[dT h,dT (by omega)]
 ·rw[dF h,dF (by omega)]
theorem Is {b:Nat}(hb:b<18446744073709551616):FloatKind.f64.format.word (decide (9223372036854775808<=b)) (b%9223372036854775808)=b:=by
 have e1:FloatKind.f64.format.signWeight=9223372036854775808:=by decide
 unfold Ieee.Format.word
 rw[e1]
 by_cases h:9223372036854775808<=b
 ·rw[dT h];simp;omega
 ·rw[dF h];simp;omega
theorem wa {b:Nat}(hb:b<18446744073709551616)(h:b%9223372036854775808<=9218868437227405312):cI (some b)=bif decide (9223372036854775808<=b)then -(fT (b%9223372036854775808):Int)else(fT (b%9223372036854775808):Int):=by
 have:=sD (decide (9223372036854775808<=b)) h
 rw[Is hb]at this
 exact this
theorem kO {r:Nat}(h:r<4503599627370496):fT r=r:=by unfold fT;rw[aE h]
theorem Iw {r:Nat}(h:0<r):0<fT r:=by
 have:=kP (k:=1) (j:=r) h
 rw[kO (by decide:1<4503599627370496)]at this;omega
theorem EF:fT 0=0:=kO (by decide)
theorem EG {r:Nat}(h:r<9218868437227405312):fT r<fT (r+1):=by
 by_cases h1:r+1<4503599627370496
 ·rw[kO (by omega),kO h1];omega
 ·by_cases h0:r<4503599627370496
  ·have:r=4503599627370495:=by omega
   subst this
   rw[kO h0]
   decide +kernel
  ·by_cases h2:r+1<9218868437227405312
   ·unfold fT
    rw[aH h0,aE h,aH h1,aE h2]
    by_cases h3:r%4503599627370496+1<4503599627370496
    ·have e1:(r+1)/4503599627370496=r/4503599627370496:=by omega
     have e2:(r+1)%4503599627370496=r%4503599627370496+1:=by omega
     rw[e1,e2]
     exact fG (by omega) (de (by decide))
    ·have e1:(r+1)/4503599627370496=r/4503599627370496+1:=by omega
     have e2:(r+1)%4503599627370496=0:=by omega
     have e3:r/4503599627370496+1-1=(r/4503599627370496-1)+1:=by omega
     rw[e1,e2,e3,hU]
     have hp:0<2^(r/4503599627370496-1):=de (by decide)
     generalize 2^(r/4503599627370496-1)=P at hp
     have e4:r%4503599627370496=4503599627370495:=by omega
     rw[e4]
     omega
   ·have e:r=9218868437227405311:=by omega
    subst e
    have hb:=ta
    unfold fT
    rw[aH (by decide),aE (by decide),aH (by decide),aH (by decide)]
    have:(4503599627370496+9218868437227405311%4503599627370496)*2^(9218868437227405311/4503599627370496-1)<2^53*2^2046:=by decide +kernel
    omega
theorem KX {r q:Nat}(h:r<q)(hq:q<=9218868437227405312):fT r<fT q:=cr (EG (by omega)) (kP h)
theorem vq {r q:Nat}(hr:r<=9218868437227405312)(hq:q<=9218868437227405312):fT r<fT q↔r<q:=
 ⟨fun h=>by
  rcases ay r q with g|g
  ·exact g
  ·have:=kP g;omega,fun h=>KX h hq⟩
end Go.Proofs.Wn

set_option exponentiation.threshold 4096
namespace Go.Proofs.Wn
open Go.Proofs.Tryz
open Go Go.VL Go.Proofs.Zn
theorem sZ {a:Nat}(h:a<18446744073709551616):(BitVec.ofInt (IntKind.bits .u64) (a:Int)).toNat=a:=by
 show(BitVec.ofInt 64 (a:Int)).toNat=a
 rw[BitVec.toNat_ofInt];omega
theorem Af {a c:Nat}(ha:a<18446744073709551616)(hc:c<18446744073709551616):(BitVec.ofInt (IntKind.bits .u64) (a:Int) &&& BitVec.ofInt (IntKind.bits .u64) (c:Int)).toNat=a &&& c:=by
 rw[BitVec.toNat_and,sZ ha,sZ hc]
theorem PG {a c:Nat}(ha:a<18446744073709551616)(hc:c<18446744073709551616):(BitVec.ofInt (IntKind.bits .u64) (a:Int) ||| BitVec.ofInt (IntKind.bits .u64) (c:Int)).toNat=a ||| c:=by
 rw[BitVec.toNat_or,sZ ha,sZ hc]
theorem tR {a:Nat}(h:a<18446744073709551616):IntKind.u64.wrap (a:Int)=(a:Int):=by
 rw[kN];omega
theorem PI (a:Nat):a &&& 4503599627370495=a%4503599627370496:=fg a 52
theorem PJ (a:Nat):a &&& 2047=a%2048:=fg a 11
theorem or52 {a:Nat}(h:a<4503599627370496):a ||| 4503599627370496=a+4503599627370496:=by
 have:=Nat.two_pow_add_eq_or_of_lt (i:=52) (b:=a) h 1
 rw[Nat.or_comm]
 have e:2^52*1=4503599627370496:=by decide
 rw[e]at this
 omega
theorem mJ (a c:Nat):Int.fdiv (a:Int) (c:Int)=((a/c:Nat):Int):=by
 rw[fQ _ (by omega)];rfl
theorem EO (a c:Nat):Int.tmod (a:Int) (c:Int)=((a%c:Nat):Int):=by
 rw[eB (by omega)];rfl
theorem Gg {n:Nat}(h0:0<n)(h:n<18446744073709551616):IntKind.u64.wrap (0-(n:Int))=((2^64-n:Nat):Int):=by
 rw[kN]
 have:(2^64:Nat)=18446744073709551616:=by decide
 omega
def tzF:Nat->Nat->Nat
 | 0,_=>0
 | f+1,n=>bif n%2==1 then 0 else tzF f (n/2)+1
def tzN (n:Nat):Nat:=tzF 64 n
theorem wO:∀ (f k m:Nat),k<f->tzF f (2^k*(2*m+1))=k
 | 0,_,_,h=>by omega
 | f + 1, 0, m, _ => by
   have:((2^0*(2*m+1))%2==1)=true:=by simp
   rw[tzF,this];rfl
 | f + 1, k + 1, m, h => by
   have e:2^(k+1)*(2*m+1)=2*(2^k*(2*m+1)):=by rw[hU,bW (2^k) 2,eT]
   have:(2*(2^k*(2*m+1))%2==1)=false:=by
    have:2*(2^k*(2*m+1))%2=0:=Nat.mul_mod_right 2 _
    rw[this];rfl
   rw[e,tzF,this,cF,Nat.mul_div_cancel_left _ (by decide),wO f k m (by omega)]
theorem FN {k n m:Nat}(hn:n=2^k*(2*m+1))(h:n<18446744073709551616):k<64:=by
 rcases ay k 64 with g|g
 ·exact g
 ·have h1:2^64<=2^k:=aY (by decide) g
  have h2:2^k*1<=2^k*(2*m+1):=cd _ (by omega)
  have:(2^64:Nat)=18446744073709551616:=by decide
  omega
def M0 (r:Nat):Nat:=bif decide (r<4503599627370496)then r else r%4503599627370496+4503599627370496
def E0 (r:Nat):Int:=bif decide (r<4503599627370496)then -1074 else((r/4503599627370496:Nat):Int)-1075
theorem Ck (r:Nat):M0 r<9007199254740992:=by
 unfold M0
 by_cases h:r<4503599627370496
 ·rw[dT h,cT];omega
 ·rw[dF h,cF];omega
theorem Nc {r:Nat}(h:0<r):0<M0 r:=by
 unfold M0
 by_cases h:r<4503599627370496
 ·rw[dT h,cT];omega
 ·rw[dF h,cF];omega
def dM (r:Nat):Nat:=M0 r/2^tzN (M0 r)
def eK (r:Nat):Int:=E0 r+(tzN (M0 r):Int)
def pz (b:Nat):Bool:=decide (9223372036854775808<=b)
def rN (b:Nat):Nat:=b%9223372036854775808
def pw (b:Nat):Int×Int:=bif decide (jj (rN b)<4)then(0,0)else(bif pz b then -(dM (rN b):Int)else(dM (rN b):Int),eK (rN b))
def tp (r:Nat):Nat:=bif decide (eK r<0)then qz (dM r*1000) (-eK r).toNat else dM r*1000*2^(eK r).toNat
def ofS (b:Nat):Int×Int:=bif jj (rN b)==1 then(0,20)else bif jj (rN b)==2 then(0,21)else bif jj (rN b)==3 then(0,0)else bif pz b then(0,22)else
 bif decide (tp (rN b)>1099511627776)then(0,4)else((tp (rN b):Int),0)
theorem oE {r:Nat}(h:0<r):∃ m,M0 r=2^tzN (M0 r)*(2*m+1)/\dM r=2*m+1/\tzN (M0 r)<53:=by
 obtain⟨k,m,e⟩:=xE (M0 r) (Nc h)
 have hl:=Ck r
 have hk:=FN e (by omega)
 have ht:tzN (M0 r)=k:=by rw[e];exact wO 64 k m hk
 have hk2:k<53:=by
  rcases ay k 53 with g|g
  ·exact g
  ·have h1:2^53<=2^k:=aY (by decide) g
   have h2:2^k*1<=2^k*(2*m+1):=cd _ (by omega)
   have:(2^53:Nat)=9007199254740992:=by decide
   omega
 refine⟨m,by rw[ht];exact e,?_,by omega⟩
 unfold dM
 rw[ht,e,Nat.mul_div_cancel_left _ (de (by decide))]
theorem odd_lt {r:Nat}:dM r<9007199254740992:=Nat.lt_of_le_of_lt (Nat.div_le_self _ _) (Ck r)
theorem Jp {r:Nat}(h:0<r):0<dM r:=by obtain⟨m,_,e,_⟩:=oE h;omega
theorem pow_lo {r:Nat} : -1074<=eK r:=by
 unfold eK E0
 by_cases h:r<4503599627370496
 ·rw[dT h,cT];omega
 ·rw[dF h,cF];omega
theorem CQ {r:Nat}(h0:0<r)(h:r<=4787326403894837248)(hp:0<=eK r):dM r*2^(eK r).toNat<=1099511627776:=by
 obtain⟨m,e1,e2,e3⟩:=oE h0
 have hM:=Ck r
 unfold eK at hp ⊢
 have hr:¬ r<4503599627370496:=fun hr=>by unfold E0 at hp;rw[dT hr,cT]at hp;omega
 have hE:E0 r=((r/4503599627370496:Nat):Int)-1075:=by unfold E0;rw[dF hr,cF]
 rw[← e2]at e1
 have hE2:r/4503599627370496<=1063:=by omega
 obtain⟨q,hq⟩:∃ q:Nat,E0 r = -(q:Int):=⟨(-E0 r).toNat,by omega⟩
 have hs:tzN (M0 r)=(E0 r+(tzN (M0 r):Int)).toNat+q:=by omega
 have e4:M0 r=dM r*2^(E0 r+(tzN (M0 r):Int)).toNat*2^q:=by
  rw[eT,← dZ,← hs,bW];exact e1
 generalize dM r*2^(E0 r+(tzN (M0 r):Int)).toNat=Z at e4
 have hq12:12<=q:=by omega
 by_cases h13:q=12
 ·subst h13
  have:M0 r=4503599627370496:=by
   unfold M0;rw[dF hr,cF];omega
  have e5:(2^12:Nat)=4096:=by decide
  rw[e5]at e4;omega
 ·have:(2^13:Nat)<=2^q:=aY (by decide) (by omega)
  have h5:Z*2^13<=Z*2^q:=cd _ this
  have e5:(2^13:Nat)=8192:=by decide
  rw[e5]at h5;omega
theorem DY {r:Nat}(h:r>4787326403894837248)(hi:r<9218868437227405312):tp r>1099511627776:=by
 have h0:0<r:=by omega
 obtain⟨m,e1,e2,e3⟩:=oE h0
 rw[← e2]at e1
 have hr:¬ r<4503599627370496:=by omega
 have hE:E0 r=((r/4503599627370496:Nat):Int)-1075:=by unfold E0;rw[dF hr,cF]
 have hM:M0 r=r%4503599627370496+4503599627370496:=by unfold M0;rw[dF hr,cF]
 have hE2:1063<=r/4503599627370496:=by omega
 unfold tp
 by_cases hp:eK r<0
 ·rw[dT hp,cT]
  have hge:=Md (dM r*1000) (-eK r).toNat
  have key:1099511627776*2^(-eK r).toNat<dM r:=by
   unfold eK at hp ⊢
   obtain⟨q,hq⟩:∃ q:Nat,E0 r = -(q:Int):=⟨(-E0 r).toNat,by omega⟩
   have hs:q=tzN (M0 r)+(-(E0 r+(tzN (M0 r):Int))).toNat:=by omega
   have hq12:q<=12:=by omega
   have h5:1099511627776*2^q<M0 r:=by
    by_cases h12:q=12
    ·subst h12
     have e5:(2^12:Nat)=4096:=by decide
     rw[e5];omega
    ·have:(2^q:Nat)<=2^11:=aY (by decide) (by omega)
     have e5:(2^11:Nat)=2048:=by decide
     rw[e5]at this;omega
   rw[hs,dZ]at h5
   have e6:M0 r=dM r*2^tzN (M0 r):=by rw[bW];exact e1
   have h6:(1099511627776*2^(-(E0 r+(tzN (M0 r):Int))).toNat)*2^tzN (M0 r)<dM r*2^tzN (M0 r):=by
    rw[← e6,eT,bW (2^(-(E0 r+(tzN (M0 r):Int))).toNat)];exact h5
   exact Nat.lt_of_mul_lt_mul_right h6
  have hp2:0<2^(-eK r).toNat:=de (by decide)
  have:1099511627776*1000<=dM r*1000/2^(-eK r).toNat:=by
   rw[Nat.le_div_iff_mul_le hp2,Nat.mul_right_comm]
   exact aC _ (Nat.le_of_lt key)
  omega
 ·rw[dF hp,cF]
  unfold eK at hp ⊢
  have key:1099511627776*1<=dM r*2^(E0 r+(tzN (M0 r):Int)).toNat:=by
   rcases Int.lt_or_le (E0 r) 0 with hn|hn
   ·obtain⟨q,hq⟩:∃ q:Nat,E0 r = -(q:Int):=⟨(-E0 r).toNat,by omega⟩
    have hs:tzN (M0 r)=(E0 r+(tzN (M0 r):Int)).toNat+q:=by omega
    have e4:M0 r=dM r*2^(E0 r+(tzN (M0 r):Int)).toNat*2^q:=by
     rw[eT,← dZ,← hs,bW];exact e1
    generalize dM r*2^(E0 r+(tzN (M0 r):Int)).toNat=Z at e4
    have:(2^q:Nat)<=2^12:=aY (by decide) (by omega)
    have h5:Z*2^q<=Z*2^12:=cd _ this
    have e5:(2^12:Nat)=4096:=by decide
    rw[e5]at h5;omega
   ·have h1:2^tzN (M0 r)<=2^(E0 r+(tzN (M0 r):Int)).toNat:=aY (by decide) (by omega)
    have h2:dM r*2^tzN (M0 r)<=dM r*2^(E0 r+(tzN (M0 r):Int)).toNat:=cd _ h1
    have e6:M0 r=dM r*2^tzN (M0 r):=by rw[bW];exact e1
    omega
  have:dM r*1000*2^(E0 r+(tzN (M0 r):Int)).toNat=1000*(dM r*2^(E0 r+(tzN (M0 r):Int)).toNat):=by
   rw[bW (dM r) 1000,eT]
  omega
end Go.Proofs.Wn

namespace Go.Proofs.Wn
open Go.Proofs.Tryz
open Go Go.VL
theorem t63 (k:Int):@Eq _ (xS prog codes sigs f63 [.flds] 300 [⟨.int,k⟩]) (bif k==1 then bif k==1 then .need U6 (.ret (Flds.mk true false false false false))else bif k==4 then .need U6 (.ret (Flds.mk false true true false true))else bif k==5 then bif k==5 then .need U6 (.ret (Flds.mk false true false false true))else bif k==7 then bif k==7 then .need U6 (.ret (Flds.mk false true false false false))else bif k==10 then .need U6 (.ret (Flds.mk false true false true false))else .need U6 (.ret (Flds.mk false false false false false))else bif k==9 then .need U6 (.ret (Flds.mk false true false false false))else bif k==10 then .need U6 (.ret (Flds.mk false true false true false))else .need U6 (.ret (Flds.mk false false false false false))else bif k==6 then .need U6 (.ret (Flds.mk false true false false true))else bif k==7 then bif k==7 then .need U6 (.ret (Flds.mk false true false false false))else bif k==10 then .need U6 (.ret (Flds.mk false true false true false))else .need U6 (.ret (Flds.mk false false false false false))else bif k==9 then .need U6 (.ret (Flds.mk false true false false false))else bif k==10 then .need U6 (.ret (Flds.mk false true false true false))else .need U6 (.ret (Flds.mk false false false false false))else bif k==2 then .need U6 (.ret (Flds.mk true false false false false))else bif k==4 then .need U6 (.ret (Flds.mk false true true false true))else bif k==5 then bif k==5 then .need U6 (.ret (Flds.mk false true false false true))else bif k==7 then bif k==7 then .need U6 (.ret (Flds.mk false true false false false))else bif k==10 then .need U6 (.ret (Flds.mk false true false true false))else .need U6 (.ret (Flds.mk false false false false false))else bif k==9 then .need U6 (.ret (Flds.mk false true false false false))else bif k==10 then .need U6 (.ret (Flds.mk false true false true false))else .need U6 (.ret (Flds.mk false false false false false))else bif k==6 then .need U6 (.ret (Flds.mk false true false false true))else bif k==7 then bif k==7 then .need U6 (.ret (Flds.mk false true false false false))else bif k==10 then .need U6 (.ret (Flds.mk false true false true false))else .need U6 (.ret (Flds.mk false false false false false))else bif k==9 then .need U6 (.ret (Flds.mk false true false false false))else bif k==10 then .need U6 (.ret (Flds.mk false true false true false))else .need U6 (.ret (Flds.mk false false false false false))):=by kernel_rfl
theorem t64 (r:Req):@Eq _ (xS prog codes sigs f64 [.flds] 300 [⟨.req,r⟩]) (.need U6 (.ret (Flds.mk (decide ((r.ids.length:Int)>0)) (r.a != 0) (r.b != 0) (r.ver != 0) (r.vol != 0)))):=by kernel_rfl
theorem t65 (f g:Flds):@Eq _ (xS prog codes sigs f65 [.bool] 300 [⟨.flds,f⟩,⟨.flds,g⟩]) (bif Flds.ids f then bif Flds.a f then bif Flds.b f then bif Flds.ver f then bif Flds.vol f then .need U2 (.ret (Flds.ids g==Flds.ids f&&(Flds.a g==Flds.a f&&(Flds.b g==Flds.b f&&(Flds.ver g==Flds.ver f&&(Flds.vol g==Flds.vol f&&true))))))else .need U2 (.ret (Flds.ids g==Flds.ids f&&(Flds.a g==Flds.a f&&(Flds.b g==Flds.b f&&(Flds.ver g==Flds.ver f&&(false==Flds.vol f&&true))))))else bif Flds.vol f then .need U2 (.ret (Flds.ids g==Flds.ids f&&(Flds.a g==Flds.a f&&(Flds.b g==Flds.b f&&(false==Flds.ver f&&(Flds.vol g==Flds.vol f&&true))))))else .need U2 (.ret (Flds.ids g==Flds.ids f&&(Flds.a g==Flds.a f&&(Flds.b g==Flds.b f&&(false==Flds.ver f&&(false==Flds.vol f&&true))))))else bif Flds.ver f then bif Flds.vol f then .need U2 (.ret (Flds.ids g==Flds.ids f&&(Flds.a g==Flds.a f&&(false==Flds.b f&&(Flds.ver g==Flds.ver f&&(Flds.vol g==Flds.vol f&&true))))))else .need U2 (.ret (Flds.ids g==Flds.ids f&&(Flds.a g==Flds.a f&&(false==Flds.b f&&(Flds.ver g==Flds.ver f&&(false==Flds.vol f&&true))))))else bif Flds.vol f then .need U2 (.ret (Flds.ids g==Flds.ids f&&(Flds.a g==Flds.a f&&(false==Flds.b f&&(false==Flds.ver f&&(Flds.vol g==Flds.vol f&&true))))))else .need U2 (.ret (Flds.ids g==Flds.ids f&&(Flds.a g==Flds.a f&&(false==Flds.b f&&(false==Flds.ver f&&(false==Flds.vol f&&true))))))else bif Flds.b f then bif Flds.ver f then bif Flds.vol f then .need U2 (.ret (Flds.ids g==Flds.ids f&&(false==Flds.a f&&(Flds.b g==Flds.b f&&(Flds.ver g==Flds.ver f&&(Flds.vol g==Flds.vol f&&true))))))else .need U2 (.ret (Flds.ids g==Flds.ids f&&(false==Flds.a f&&(Flds.b g==Flds.b f&&(Flds.ver g==Flds.ver f&&(false==Flds.vol f&&true))))))else bif Flds.vol f then .need U2 (.ret (Flds.ids g==Flds.ids f&&(false==Flds.a f&&(Flds.b g==Flds.b f&&(false==Flds.ver f&&(Flds.vol g==Flds.vol f&&true))))))else .need U2 (.ret (Flds.ids g==Flds.ids f&&(false==Flds.a f&&(Flds.b g==Flds.b f&&(false==Flds.ver f&&(false==Flds.vol f&&true))))))else bif Flds.ver f then bif Flds.vol f then .need U2 (.ret (Flds.ids g==Flds.ids f&&(false==Flds.a f&&(false==Flds.b f&&(Flds.ver g==Flds.ver f&&(Flds.vol g==Flds.vol f&&true))))))else .need U2 (.ret (Flds.ids g==Flds.ids f&&(false==Flds.a f&&(false==Flds.b f&&(Flds.ver g==Flds.ver f&&(false==Flds.vol f&&true))))))else bif Flds.vol f then .need U2 (.ret (Flds.ids g==Flds.ids f&&(false==Flds.a f&&(false==Flds.b f&&(false==Flds.ver f&&(Flds.vol g==Flds.vol f&&true))))))else .need U2 (.ret (Flds.ids g==Flds.ids f&&(false==Flds.a f&&(false==Flds.b f&&(false==Flds.ver f&&(false==Flds.vol f&&true))))))else bif Flds.a f then bif Flds.b f then bif Flds.ver f then bif Flds.vol f then .need U2 (.ret (false==Flds.ids f&&(Flds.a g==Flds.a f&&(Flds.b g==Flds.b f&&(Flds.ver g==Flds.ver f&&(Flds.vol g==Flds.vol f&&true))))))else .need U2 (.ret (false==Flds.ids f&&(Flds.a g==Flds.a f&&(Flds.b g==Flds.b f&&(Flds.ver g==Flds.ver f&&(false==Flds.vol f&&true))))))else bif Flds.vol f then .need U2 (.ret (false==Flds.ids f&&(Flds.a g==Flds.a f&&(Flds.b g==Flds.b f&&(false==Flds.ver f&&(Flds.vol g==Flds.vol f&&true))))))else .need U2 (.ret (false==Flds.ids f&&(Flds.a g==Flds.a f&&(Flds.b g==Flds.b f&&(false==Flds.ver f&&(false==Flds.vol f&&true))))))else bif Flds.ver f then bif Flds.vol f then .need U2 (.ret (false==Flds.ids f&&(Flds.a g==Flds.a f&&(false==Flds.b f&&(Flds.ver g==Flds.ver f&&(Flds.vol g==Flds.vol f&&true))))))else .need U2 (.ret (false==Flds.ids f&&(Flds.a g==Flds.a f&&(false==Flds.b f&&(Flds.ver g==Flds.ver f&&(false==Flds.vol f&&true))))))else bif Flds.vol f then .need U2 (.ret (false==Flds.ids f&&(Flds.a g==Flds.a f&&(false==Flds.b f&&(false==Flds.ver f&&(Flds.vol g==Flds.vol f&&true))))))else .need U2 (.ret (false==Flds.ids f&&(Flds.a g==Flds.a f&&(false==Flds.b f&&(false==Flds.ver f&&(false==Flds.vol f&&true))))))else bif Flds.b f then bif Flds.ver f then bif Flds.vol f then .need U2 (.ret (false==Flds.ids f&&(false==Flds.a f&&(Flds.b g==Flds.b f&&(Flds.ver g==Flds.ver f&&(Flds.vol g==Flds.vol f&&true))))))else .need U2 (.ret (false==Flds.ids f&&(false==Flds.a f&&(Flds.b g==Flds.b f&&(Flds.ver g==Flds.ver f&&(false==Flds.vol f&&true))))))else bif Flds.vol f then .need U2 (.ret (false==Flds.ids f&&(false==Flds.a f&&(Flds.b g==Flds.b f&&(false==Flds.ver f&&(Flds.vol g==Flds.vol f&&true))))))else .need U2 (.ret (false==Flds.ids f&&(false==Flds.a f&&(Flds.b g==Flds.b f&&(false==Flds.ver f&&(false==Flds.vol f&&true))))))else bif Flds.ver f then bif Flds.vol f then .need U2 (.ret (false==Flds.ids f&&(false==Flds.a f&&(false==Flds.b f&&(Flds.ver g==Flds.ver f&&(Flds.vol g==Flds.vol f&&true))))))else .need U2 (.ret (false==Flds.ids f&&(false==Flds.a f&&(false==Flds.b f&&(Flds.ver g==Flds.ver f&&(false==Flds.vol f&&true))))))else bif Flds.vol f then .need U2 (.ret (false==Flds.ids f&&(false==Flds.a f&&(false==Flds.b f&&(false==Flds.ver f&&(Flds.vol g==Flds.vol f&&true))))))else .need U2 (.ret (false==Flds.ids f&&(false==Flds.a f&&(false==Flds.b f&&(false==Flds.ver f&&(false==Flds.vol f&&true))))))):=by kernel_rfl
theorem t62 (e:Int):@Eq _ (xS prog codes sigs f62 [.resp] 300 [⟨.int,e⟩]) (.need U6 (.ret (Resp.mk e (0:Int) (0:Int) (0:Int) []))):=by kernel_rfl
theorem t69 (e i:Int):@Eq _ (xS prog codes sigs f69 [.resp] 300 [⟨.int,e⟩,⟨.int,i⟩]) (.need U6 (.ret (Resp.mk e i (0:Int) (0:Int) []))):=by kernel_rfl
theorem t68 (d:Deck)(i:Int):@Eq _ (xS prog codes sigs f68 [.int] 300 [⟨.deck,d⟩,⟨.int,i⟩]) (.need (U5/\U2/\True) (.callP 130 [⟨.deck,d⟩,⟨.int,i⟩] [.part,.int] fun(x:Part×Int)=>.need U2 (.ret x.1.kind))):=by kernel_rfl
theorem t15 (r:Req):@Eq _ (xS prog codes sigs f15 [.int,.int] 300 [⟨.req,r⟩]) (Out.callX 58 [.d (.v (.int .u64 r.vol))] (.d (.f (some r.vol.toNat))) (.need (U2/\True) (.callP 57 [⟨.flt,(some r.vol.toNat)⟩] [.int,.int] fun(x:Int×Int)=>bif x.2==0 then bif x.1==0 then .need (U2/\U2) (.ret ((0:Int),(1:Int)))else .need (U2/\U2) (.ret (x.1,x.2))else .need (U2/\U2) (.ret (x.1,x.2))))):=by kernel_rfl
theorem t75 (d:Deck)(r:Req):@Eq _ (xS prog codes sigs f75 [.bool] 300 [⟨.deck,d⟩,⟨.req,r⟩]) (.need (U5/\U7/\True) (.callP 18 [⟨.deck,d⟩,⟨.req,r⟩] [.resp] fun(x:Resp)=>.need U2 (.ret (x.err==0)))):=by kernel_rfl
theorem t60 (a b:List Change):@Eq _ (xS prog codes sigs f60 [.bool] 300 [⟨.sl .change,a⟩,⟨.sl .change,b⟩]) (bif (a.length:Int) != (b.length:Int)then .need U2 (.ret false)else .stop (hd f60 0) (mkS 26 [(0,.d (.sl .change a)),(1,.d (.sl .change b)),(5,i64 0)] [] 0)):=by kernel_rfl
theorem t66 (d:Deck)(l:List Int):@Eq _ (xS prog codes sigs f66 [.resp] 300 [⟨.deck,d⟩,⟨.sl .int,l⟩]) (bif (l.length:Int)==0 then .need (U2/\True) (.callP 62 [⟨.int,(1:Int)⟩] [.resp] fun(x:Resp)=>.need U6 (.ret x))else bif decide ((l.length:Int)>16)then .need (U2/\True) (.callP 62 [⟨.int,(2:Int)⟩] [.resp] fun(x:Resp)=>.need U6 (.ret x))else .need (U2/\True) (.callP 128 [⟨.sl .int,l⟩] [.int] fun(x:Int)=>bif decide (x>=0)then .need (((0:Int)<=x/\x<(l.length:Int))/\True) (.need (U2/\U2/\True) (.callP 69 [⟨.int,(152:Int)⟩,⟨.int,(l.getD x.toNat Ty.int.dflt)⟩] [.resp] fun(x:Resp)=>.need U6 (.ret x)))else .stop (hd f66 0) (mkS 41 [(2,.ptr 0 0),(4,.ptr 1 0),(27,.d (.sl .int l)),(28,i64 (l.length:Int)),(29,i64 0)] [(0,.box (dC d)),(1,.box [i64 0,i64 0,i64 0,i64 0,nS])] 2))):=by kernel_rfl
theorem LS (l:List Int):@Eq _ (xS prog codes sigs f128 [.int] 300 [⟨.sl .int,l⟩]) (.stop (hd f128 0) (mkS 28 [(3,.mp 0),(9,.d (.sl .int l)),(10,i64 (l.length:Int)),(11,i64 0)] [(0,.mp .int .int [])] 1)):=by kernel_rfl
theorem t77 (l:List Int):@Eq _ (xS prog codes sigs f77 [.sl .int] 300 [⟨.sl .int,l⟩]) (.stop (hd f77 0) (mkS 18 [(0,.d (.sl .int l)),(3,nS),(4,i64 0)] [] 0)):=by kernel_rfl
theorem t76 (d:Deck)(r:Req):@Eq _ (xS prog codes sigs f76 [.sl .int] 300 [⟨.deck,d⟩,⟨.req,r⟩]) (bif r.kind==2 then .need (U2/\True) (.callP 81 [⟨.sl .int,r.ids⟩] [.sl .int] fun(x:List Int)=>.need U2 (.ret x))else bif r.kind==4 then .need (U5/\U2/\U2/\True) (.callP 133 [⟨.deck,d⟩,⟨.int,r.a⟩,⟨.int,r.b⟩] [.sl .int,.int] fun(x:List Int×Int)=>.need (U2/\U2/\True) (.need (U2/\True) (.callP 81 [Sigma.mk (.sl .int) [r.a,r.b]] [.sl .int] fun(x_1:List Int)=>.need (U2/\U2/\True) (.callP 134 [⟨.sl .int,x.1⟩,⟨.sl .int,x_1⟩] [.sl .int] fun(x:List Int)=>.need U2 (.ret x)))))else bif r.kind==5 then bif r.kind==5 then .need (U2/\True) (.need (U5/\U2/\True) (.callP 135 [⟨.deck,d⟩,Sigma.mk (.sl .int) [r.a]] [.sl .int,.int] fun(x:List Int×Int)=>.need (U2/\True) (.need (U2/\U2/\True) (.callP 134 [⟨.sl .int,x.1⟩,Sigma.mk (.sl .int) [r.a]] [.sl .int] fun(x:List Int)=>.need U2 (.ret x)))))else .need U2 (.ret [])else bif r.kind==6 then bif r.kind==6 then .need (U2/\True) (.need (U5/\U2/\True) (.callP 135 [⟨.deck,d⟩,Sigma.mk (.sl .int) [r.a]] [.sl .int,.int] fun(x:List Int×Int)=>.need (U2/\True) (.need (U2/\U2/\True) (.callP 134 [⟨.sl .int,x.1⟩,Sigma.mk (.sl .int) [r.a]] [.sl .int] fun(x:List Int)=>.need U2 (.ret x)))))else .need U2 (.ret [])else bif r.kind==7 then .need (U2/\True) (.need (U5/\U2/\True) (.callP 135 [⟨.deck,d⟩,Sigma.mk (.sl .int) [r.a]] [.sl .int,.int] fun(x:List Int×Int)=>.need (U2/\True) (.need (U2/\U2/\True) (.callP 134 [⟨.sl .int,x.1⟩,Sigma.mk (.sl .int) [r.a]] [.sl .int] fun(x:List Int)=>.need U2 (.ret x)))))else .need U2 (.ret [])):=by kernel_rfl
theorem t21 (d:Deck)(r:Req):@Eq _ (xS prog codes sigs f21 [.sl .int] 300 [⟨.deck,d⟩,⟨.req,r⟩]) (.need (U5/\U7/\True) (.callP 75 [⟨.deck,d⟩,⟨.req,r⟩] [.bool] fun(x:Bool)=>bif !x then .need U2 (.ret [])else .need (U5/\U7/\True) (.callP 76 [⟨.deck,d⟩,⟨.req,r⟩] [.sl .int] fun(x:List Int)=>.need U2 (.ret x)))):=by kernel_rfl
theorem t22 (d:Deck)(r:Req):@Eq _ (xS prog codes sigs f22 [.sl .int] 300 [⟨.deck,d⟩,⟨.req,r⟩]) (.need (U5/\U7/\True) (.callP 19 [⟨.deck,d⟩,⟨.req,r⟩] [.resp] fun(x:Resp)=>bif x.err != 0 then .need U2 (.ret [])else bif r.kind==2 then .need (U2/\True) (.callP 77 [⟨.sl .int,r.ids⟩] [.sl .int] fun(x:List Int)=>.need U2 (.ret x))else bif r.kind==4 then .need (U5/\U2/\U2/\True) (.callP 78 [⟨.deck,d⟩,⟨.int,r.a⟩,⟨.int,r.b⟩] [.sl .int,.int] fun(x:List Int×Int)=>.need (U2/\U2/\True) (.callP 79 [⟨.sl .int,x.1⟩,⟨.int,r.a⟩] [.sl .int] fun(x:List Int)=>.need (U2/\U2/\True) (.callP 79 [⟨.sl .int,x⟩,⟨.int,r.b⟩] [.sl .int] fun(x:List Int)=>.need U2 (.ret x))))else bif r.kind==5 then bif r.kind==5 then .need (U2/\True) (.need (U5/\U2/\True) (.callP 80 [⟨.deck,d⟩,Sigma.mk (.sl .int) [r.a]] [.sl .int,.int] fun(x:List Int×Int)=>.need (U2/\U2/\True) (.callP 79 [⟨.sl .int,x.1⟩,⟨.int,r.a⟩] [.sl .int] fun(x:List Int)=>.need U2 (.ret x))))else .need U2 (.ret [])else bif r.kind==6 then bif r.kind==6 then .need (U2/\True) (.need (U5/\U2/\True) (.callP 80 [⟨.deck,d⟩,Sigma.mk (.sl .int) [r.a]] [.sl .int,.int] fun(x:List Int×Int)=>.need (U2/\U2/\True) (.callP 79 [⟨.sl .int,x.1⟩,⟨.int,r.a⟩] [.sl .int] fun(x:List Int)=>.need U2 (.ret x))))else .need U2 (.ret [])else bif r.kind==7 then .need (U2/\True) (.need (U5/\U2/\True) (.callP 80 [⟨.deck,d⟩,Sigma.mk (.sl .int) [r.a]] [.sl .int,.int] fun(x:List Int×Int)=>.need (U2/\U2/\True) (.callP 79 [⟨.sl .int,x.1⟩,⟨.int,r.a⟩] [.sl .int] fun(x:List Int)=>.need U2 (.ret x))))else .need U2 (.ret []))):=by kernel_rfl
theorem LT (m e:Int):@Eq _ (xS prog codes sigs f121 [.int] 300 [⟨.int,m⟩,⟨.int,e⟩]) (bif decide (e<(-63:Int))then .need U2 (.ret (0:Int))else .need ((0:Int)<=w64 ((0:Int)-e)) (bif e==(-63:Int)then .need ((0:Int)<=w64 ((64:Int)+e)) (bif decide (IntKind.wrap .u64 (IntKind.wrap .u64 m*(2:Int)^min (w64 ((64:Int)+e)).toNat (IntKind.bits .u64))>9223372036854775808)then .need U2 (.ret (w64 ((0:Int)+1)))else bif IntKind.wrap .u64 (IntKind.wrap .u64 m*(2:Int)^min (w64 ((64:Int)+e)).toNat (IntKind.bits .u64))==9223372036854775808 then .need ((2:Int)≠(0:Int)) (.need U2 (.ret (0:Int)))else .need U2 (.ret (0:Int)))else .need ((0:Int)<=w64 ((64:Int)+e)) (bif decide (IntKind.wrap .u64 (IntKind.wrap .u64 m*(2:Int)^min (w64 ((64:Int)+e)).toNat (IntKind.bits .u64))>9223372036854775808)then .need U2 (.ret (w64 (Int.fdiv m ((2:Int)^min (w64 ((0:Int)-e)).toNat (IntKind.bits .i64))+1)))else bif IntKind.wrap .u64 (IntKind.wrap .u64 m*(2:Int)^min (w64 ((64:Int)+e)).toNat (IntKind.bits .u64))==9223372036854775808 then .need ((2:Int)≠(0:Int)) (bif Int.tmod (Int.fdiv m ((2:Int)^min (w64 ((0:Int)-e)).toNat (IntKind.bits .i64))) (2:Int)==1 then .need U2 (.ret (w64 (Int.fdiv m ((2:Int)^min (w64 ((0:Int)-e)).toNat (IntKind.bits .i64))+1)))else .need U2 (.ret (Int.fdiv m ((2:Int)^min (w64 ((0:Int)-e)).toNat (IntKind.bits .i64)))))else .need U2 (.ret (Int.fdiv m ((2:Int)^min (w64 ((0:Int)-e)).toNat (IntKind.bits .i64))))))):=by kernel_rfl
theorem t56:@Eq _ (xS prog codes sigs f56 [.deck] 300 []) (.need (U2/\U2/\U2/\True) (.need (U2/\True) (.need (U8/\True) (.need (U6/\True) (.need U5 (.ret (Deck.mk [some 0,some 4621256167635550208,some 4625759767262920704] [Plate.mk (1:Int) (2:Int) (some 4621256167635550208) (some 4620693217682128896) (some 4602678819172646912) (100:Int) [(40:Int)]] [Rack.mk (1:Int) (1:Int) (some 4611686018427387904) (some 0) (some 0)] (2:Int)))))))):=by kernel_rfl
theorem t3 (d:Deck)(r:Req):@Eq _ (xS prog codes sigs f3 [.bool] 300 [⟨.deck,d⟩,⟨.req,r⟩]) (.need (U5/\U7/\True) (.callP 13 [⟨.deck,d⟩,⟨.req,r⟩] [.bool] fun(x:Bool)=>bif x then .need True (.callP 14 [] [.bool] fun(x:Bool)=>.need U2 (.ret x))else .need (U7/\True) (.callP 15 [⟨.req,r⟩] [.int,.int] fun(x:Int×Int)=>.need (U7/\True) (.callP 16 [⟨.req,r⟩] [.int,.int] fun(x_1:Int×Int)=>.need True (.callP 14 [] [.bool] fun(x_2:Bool)=>bif x_2 then .need (U5/\U7/\True) (.callP 18 [⟨.deck,d⟩,⟨.req,r⟩] [.resp] fun(x_3:Resp)=>.need (U5/\U7/\True) (.callP 19 [⟨.deck,d⟩,⟨.req,r⟩] [.resp] fun(x_4:Resp)=>.need (U6/\U6/\True) (.callP 17 [⟨.resp,x_3⟩,⟨.resp,x_4⟩] [.bool] fun(x_5:Bool)=>bif x_5 then bif x.1==x_1.1 then .need U2 (.ret (x.2==x_1.2))else .need U2 (.ret false)else .need U2 (.ret false))))else .need U2 (.ret false)))))):=by kernel_rfl
theorem t4 (d:Deck)(r:Req)(o:List Int)(h:Int):@Eq _ (xS prog codes sigs f4 [.bool] 300 [⟨.deck,d⟩,⟨.req,r⟩,⟨.sl .int,o⟩,⟨.int,h⟩]) (.need (U5/\U7/\True) (.callP 13 [⟨.deck,d⟩,⟨.req,r⟩] [.bool] fun(x:Bool)=>bif x then .need True (.callP 14 [] [.bool] fun(x:Bool)=>.need U2 (.ret x))else bif decide ((o.length:Int)>1000)then .need True (.callP 14 [] [.bool] fun(x:Bool)=>.need U2 (.ret x))else .need True (.callP 14 [] [.bool] fun(x:Bool)=>bif x then .need (U5/\U7/\True) (.callP 21 [⟨.deck,d⟩,⟨.req,r⟩] [.sl .int] fun(x:List Int)=>.need (U5/\U7/\True) (.callP 22 [⟨.deck,d⟩,⟨.req,r⟩] [.sl .int] fun(x_1:List Int)=>.need (U2/\U2/\True) (.callP 20 [⟨.sl .int,x⟩,⟨.sl .int,x_1⟩] [.bool] fun(x:Bool)=>bif x then .need (U5/\U7/\U2/\U2/\True) (.callP 23 [⟨.deck,d⟩,⟨.req,r⟩,⟨.sl .int,o⟩,⟨.int,h⟩] [.sl .int] fun(x:List Int)=>.need (U5/\U7/\U2/\U2/\True) (.callP 24 [⟨.deck,d⟩,⟨.req,r⟩,⟨.sl .int,o⟩,⟨.int,h⟩] [.sl .int] fun(x_2:List Int)=>.need (U2/\U2/\True) (.callP 20 [⟨.sl .int,x⟩,⟨.sl .int,x_2⟩] [.bool] fun(x:Bool)=>.need U2 (.ret x))))else .need U2 (.ret false))))else .need U2 (.ret false)))):=by kernel_rfl
theorem t200 (n:Int):@Eq _ (xS prog codes sigs f200 [.int] 300 [⟨.u64,n⟩]) (bif n==0 then .need U2 (.ret (64:Int))else .need ((0:Int)<=58) (.need ((0:Int)<=Int.fdiv (IntKind.wrap .u64 (IntKind.wrap .u64 (↑(BitVec.toNat (BitVec.ofInt (IntKind.bits .u64) n &&& BitVec.ofInt (IntKind.bits .u64) (IntKind.wrap .u64 ((0:Int)-n)))):Int)*(285870213051353865:Int))) ((2:Int)^min 58 (IntKind.bits .u64))/\Int.fdiv (IntKind.wrap .u64 (IntKind.wrap .u64 (↑(BitVec.toNat (BitVec.ofInt (IntKind.bits .u64) n &&& BitVec.ofInt (IntKind.bits .u64) (IntKind.wrap .u64 ((0:Int)-n)))):Int)*(285870213051353865:Int))) ((2:Int)^min 58 (IntKind.bits .u64))<(↑64:Int)) (.need U2 (.ret (w64 (List.getD [(↑0:Int),(↑1:Int),(↑56:Int),(↑2:Int),(↑57:Int),(↑49:Int),(↑28:Int),(↑3:Int),(↑61:Int),(↑58:Int),(↑42:Int),(↑50:Int),(↑38:Int),(↑29:Int),(↑17:Int),(↑4:Int),(↑62:Int),(↑47:Int),(↑59:Int),(↑36:Int),(↑45:Int),(↑43:Int),(↑51:Int),(↑22:Int),(↑53:Int),(↑39:Int),(↑33:Int),(↑30:Int),(↑24:Int),(↑18:Int),(↑12:Int),(↑5:Int),(↑63:Int),(↑55:Int),(↑48:Int),(↑27:Int),(↑60:Int),(↑41:Int),(↑37:Int),(↑16:Int),(↑46:Int),(↑35:Int),(↑44:Int),(↑21:Int),(↑52:Int),(↑32:Int),(↑23:Int),(↑11:Int),(↑54:Int),(↑26:Int),(↑40:Int),(↑15:Int),(↑34:Int),(↑20:Int),(↑31:Int),(↑10:Int),(↑25:Int),(↑14:Int),(↑19:Int),(↑9:Int),(↑13:Int),(↑8:Int),(↑7:Int),(↑6:Int)] (Int.fdiv (IntKind.wrap .u64 (IntKind.wrap .u64 (↑(BitVec.toNat (BitVec.ofInt (IntKind.bits .u64) n &&& BitVec.ofInt (IntKind.bits .u64) (IntKind.wrap .u64 ((0:Int)-n)))):Int)*(285870213051353865:Int))) ((2:Int)^min 58 (IntKind.bits .u64))).toNat (0:Int))))))):=by kernel_rfl
theorem t201 (p:Nat):@Eq _ (xS prog codes sigs f201 [.bool] 300 [⟨.flt,some p⟩]) (Out.callX 199 [.d (.f (some p))] (.d (.v (.int .u64 (↑p:Int)))) (.need U2 (.ret (decide (w64 (↑p:Int)<0))))):=by kernel_rfl
theorem LU (p:Nat):@Eq _ (xS prog codes sigs f120 [.int,.int] 300 [⟨.flt,some p⟩]) (.need (U2/\True) (.callP 119 [⟨.flt,(some p)⟩] [.int] fun(x:Int)=>bif decide (x<4)then .need (U2/\U2) (.ret ((0:Int),(0:Int)))else Out.callX 199 [.d (.f (some p))] (.d (.v (.int .u64 (↑p:Int)))) (bif x==5 then .need ((0:Int)<=52) (.need (U2/\True) (.callP 200 [Sigma.mk .u64 (IntKind.wrap .u64 (↑(BitVec.toNat (BitVec.ofInt (IntKind.bits .u64) (IntKind.wrap .u64 (↑(BitVec.toNat (BitVec.ofInt (IntKind.bits .u64) (↑p:Int) &&& BitVec.ofInt (IntKind.bits .u64) (4503599627370495:Int))):Int)) ||| BitVec.ofInt (IntKind.bits .u64) (4503599627370496:Int))):Int))] [.int] fun(x:Int)=>.need ((0:Int)<=x) (.need (U2/\True) (.callP 201 [⟨.flt,(some p)⟩] [.bool] fun(x_1:Bool)=>bif x_1 then .need (U2/\U2) (.ret (w64 ((0:Int)-w64 (Int.fdiv (IntKind.wrap .u64 (↑(BitVec.toNat (BitVec.ofInt (IntKind.bits .u64) (IntKind.wrap .u64 (↑(BitVec.toNat (BitVec.ofInt (IntKind.bits .u64) (↑p:Int) &&& BitVec.ofInt (IntKind.bits .u64) (4503599627370495:Int))):Int)) ||| BitVec.ofInt (IntKind.bits .u64) (4503599627370496:Int))):Int)) ((2:Int)^min x.toNat (IntKind.bits .u64)))),w64 (w64 ((-1074:Int)+w64 (w64 (IntKind.wrap .u64 (↑(BitVec.toNat (BitVec.ofInt (IntKind.bits .u64) (Int.fdiv (↑p:Int) ((2:Int)^min 52 (IntKind.bits .u64))) &&& BitVec.ofInt (IntKind.bits .u64) (2047:Int))):Int))-(1:Int)))+x)))else .need (U2/\U2) (.ret (w64 (Int.fdiv (IntKind.wrap .u64 (↑(BitVec.toNat (BitVec.ofInt (IntKind.bits .u64) (IntKind.wrap .u64 (↑(BitVec.toNat (BitVec.ofInt (IntKind.bits .u64) (↑p:Int) &&& BitVec.ofInt (IntKind.bits .u64) (4503599627370495:Int))):Int)) ||| BitVec.ofInt (IntKind.bits .u64) (4503599627370496:Int))):Int)) ((2:Int)^min x.toNat (IntKind.bits .u64))),w64 (w64 ((-1074:Int)+w64 (w64 (IntKind.wrap .u64 (↑(BitVec.toNat (BitVec.ofInt (IntKind.bits .u64) (Int.fdiv (↑p:Int) ((2:Int)^min 52 (IntKind.bits .u64))) &&& BitVec.ofInt (IntKind.bits .u64) (2047:Int))):Int))-(1:Int)))+x)))))))else .need (U2/\True) (.callP 200 [Sigma.mk .u64 (IntKind.wrap .u64 (↑(BitVec.toNat (BitVec.ofInt (IntKind.bits .u64) (↑p:Int) &&& BitVec.ofInt (IntKind.bits .u64) (4503599627370495:Int))):Int))] [.int] fun(x:Int)=>.need ((0:Int)<=x) (.need (U2/\True) (.callP 201 [⟨.flt,(some p)⟩] [.bool] fun(x_1:Bool)=>bif x_1 then .need (U2/\U2) (.ret (w64 ((0:Int)-w64 (Int.fdiv (IntKind.wrap .u64 (↑(BitVec.toNat (BitVec.ofInt (IntKind.bits .u64) (↑p:Int) &&& BitVec.ofInt (IntKind.bits .u64) (4503599627370495:Int))):Int)) ((2:Int)^min x.toNat (IntKind.bits .u64)))),w64 ((-1074:Int)+x)))else .need (U2/\U2) (.ret (w64 (Int.fdiv (IntKind.wrap .u64 (↑(BitVec.toNat (BitVec.ofInt (IntKind.bits .u64) (↑p:Int) &&& BitVec.ofInt (IntKind.bits .u64) (4503599627370495:Int))):Int)) ((2:Int)^min x.toNat (IntKind.bits .u64))),w64 ((-1074:Int)+x))))))))):=by kernel_rfl
theorem t57 (x:Fl):@Eq _ (xS prog codes sigs f57 [.int,.int] 300 [⟨.flt,x⟩]) (.need (U2/\True) (.callP 119 [⟨.flt,x⟩] [.int] fun(x_1:Int)=>bif x_1==1 then .need (U2/\U2) (.ret ((0:Int),(20:Int)))else bif x_1==2 then .need (U2/\U2) (.ret ((0:Int),(21:Int)))else bif Fl.cmp x (some 0)==some Ordering.lt then .need (U2/\U2) (.ret ((0:Int),(22:Int)))else bif Fl.cmp x (some 4787326403894837248)==some Ordering.gt then .need (U2/\U2) (.ret ((0:Int),(4:Int)))else .need (U2/\True) (.callP 120 [⟨.flt,x⟩] [.int,.int] fun(x:Int×Int)=>bif decide (x.2<0)then .need (U2/\U2/\True) (.callP 121 [⟨.int,(w64 (x.1*(1000:Int)))⟩,⟨.int,x.2⟩] [.int] fun(x:Int)=>bif decide (x>1099511627776)then .need (U2/\U2) (.ret ((0:Int),(4:Int)))else .need (U2/\U2) (.ret (x,(0:Int))))else .need ((0:Int)<=x.2) (bif decide (w64 (w64 (x.1*(1000:Int))*(2:Int)^min x.2.toNat (IntKind.bits .i64))>1099511627776)then .need (U2/\U2) (.ret ((0:Int),(4:Int)))else .need (U2/\U2) (.ret (w64 (w64 (x.1*(1000:Int))*(2:Int)^min x.2.toNat (IntKind.bits .i64)),(0:Int))))))):=by kernel_rfl
theorem t70 (d:Deck):@Eq _ (xS prog codes sigs f70 [.int] 300 [⟨.deck,d⟩]) (.need (U5/\True) (.callP 131 [⟨.deck,d⟩] [.sl .span,.int] fun(x:List Span×Int)=>.need U2 (.ret x.2))):=by kernel_rfl
end Go.Proofs.Wn

namespace Go.Proofs.Zn
open Go.Proofs.Tryz
open Go Go.VL
def FQ (p:Plate):List AV:=[i64 p.rows,i64 p.cols,.d (.f p.x),.d (.f p.pitch),.d (.f p.reach),i64 p.cap,.d (.sl .int p.start)]
def cw (d:Deck):List AV:=[.d (.sl .flt d.borders),.d (.sl .plate d.plates),.d (.sl .rack d.racks),i64 d.arms]
def Qd (p:Plate)(i:Int):AS:=mkS 40 [(1,.ptr 0 0),(25,.d (.sl .int p.start)),(26,i64 p.start.length),(27,i64 i)] [(0,.box (FQ p))] 1
def Ey (l:List Go.VL.Box)(n i:Int):AS:=mkS 18 [(3,i64 n),(6,.d (.sl .box l)),(7,i64 l.length),(8,i64 i)] [] 0
def Nk (d:Deck)(out:List Go.VL.Box)(i:Int):AS:=mkS 23 [(3,.own 0 .box),(7,.d (.sl .plate d.plates)),(8,i64 d.plates.length),(9,i64 i)] [(0,.row 244 .box out)] 1
def Nj (d:Deck)(out:List Go.VL.Box)(i:Int):AS:=mkS 23 [(3,.own 0 .box),(7,.d (.sl .rack d.racks)),(8,i64 d.racks.length),(9,i64 i)] [(0,.row 244 .box out)] 1
def L92 (d:Deck)(x y:List Go.VL.Box)(i:Int):AS:=mkS 78 [(1,.ptr 0 0),(4,.d (.sl .box x)),(5,.d (.sl .box y)),(40,.d (.sl .box x)),(41,i64 x.length),(42,i64 i)] [(0,.box (cw d))] 1
def Nl (l:List Go.VL.Box)(k n i:Int):AS:=mkS 41 [(2,i64 n),(6,.ptr 0 0),(7,.ptr 1 0),(12,.d (.sl .box l)),(13,i64 l.length),(14,i64 i)] [(0,.box [i64 0,i64 0,i64 0,i64 0]),(1,.box [i64 k,i64 0,i64 0,i64 0])] 2
def Qf (p:Plate)(i:Int):AS:=mkS 54 [(1,.ptr 0 0),(3,i64 i)] [(0,.box (FQ p))] 1
def L89 (d:Deck)(w t i:Int):AS:=mkS 103 [(1,.ptr 0 0),(4,i64 w),(5,i64 t),(6,i64 i)] [(0,.box (cw d))] 1
def Kx (k u r c:Int)(out:List Part)(i:Int):AS:=mkS 31 [(0,i64 k),(1,i64 u),(2,i64 r),(3,i64 c),(9,.own 0 .part),(10,i64 i)] [(0,.row 179 .part out)] 1
def L90 (d:Deck)(out:List Part)(i:Int):AS:=mkS 71 [(1,.ptr 0 0),(3,.own 1 .part),(4,i64 i)] [(0,.box (cw d)),(1,.row 179 .part out)] 2
def L37 (d:Deck)(i:Int):AS:=mkS 35 [(1,.ptr 0 0),(3,i64 i)] [(0,.box (cw d))] 1
theorem Ou (p:Plate)(i:Int):@Eq _ (xL prog codes sigs f204 [.bool] 200 0 (Qd p i)) (bif decide (i<(p.start.length:Int))then .need (((0:Int)<=i/\i<(p.start.length:Int))/\True) (bif decide (p.start.getD i.toNat Ty.int.dflt<0)then .need U2 (.ret false)else bif decide (p.start.getD i.toNat Ty.int.dflt>p.cap)then .need U2 (.ret false)else .stop (hd f204 0) (mkS 40 [(1,.ptr 0 0),(25,.d (.sl .int p.start)),(26,i64 (p.start.length:Int)),(27,i64 (w64 (i+1)))] [(0,.box [i64 p.rows,i64 p.cols,.d (.f p.x),.d (.f p.pitch),.d (.f p.reach),i64 p.cap,.d (.sl .int p.start)])] 1))else .need U2 (.ret true)):=by kernel_rfl
theorem Ff (l:List Go.VL.Box)(n i:Int):@Eq _ (xL prog codes sigs f141 [.int] 200 0 (Ey l n i)) (bif decide (i<(l.length:Int))then .need (((0:Int)<=i/\i<(l.length:Int))/\True) (.need (U3/\True) (.callP 217 [⟨.box,(l.getD i.toNat Ty.box.dflt)⟩] [.int] fun(x:Int)=>.stop (hd f141 0) (mkS 18 [(3,i64 (w64 (n+x))),(6,.d (.sl .box l)),(7,i64 (l.length:Int)),(8,i64 (w64 (i+1)))] [] 0)))else .need U2 (.ret n)):=by kernel_rfl
theorem OC (d:Deck)(out:List Go.VL.Box)(i:Int):@Eq _ (xL prog codes sigs f142 [.sl .box] 200 0 (Nk d out i)) (bif decide (i<(d.plates.length:Int))then .need (((0:Int)<=i/\i<(d.plates.length:Int))/\True) (.need (U3/\True) (.need ((out.length+List.length [Box.mk (d.plates.getD i.toNat Ty.plate.dflt).rows (d.plates.getD i.toNat Ty.plate.dflt).cols])*17<=35184372088832/\True) (.stop (hd f142 0) (mkS 23 [(3,.own 0 .box),(7,.d (.sl .plate d.plates)),(8,i64 (d.plates.length:Int)),(9,i64 (w64 (i+1)))] [(0,.row 244 .box (out++[Box.mk (d.plates.getD i.toNat Ty.plate.dflt).rows (d.plates.getD i.toNat Ty.plate.dflt).cols]))] 1))))else .need U2 (.ret out)):=by kernel_rfl
theorem OB (d:Deck)(out:List Go.VL.Box)(i:Int):@Eq _ (xL prog codes sigs f143 [.sl .box] 200 0 (Nj d out i)) (bif decide (i<(d.racks.length:Int))then .need (((0:Int)<=i/\i<(d.racks.length:Int))/\True) (.need (U3/\True) (.need ((out.length+List.length [Box.mk (d.racks.getD i.toNat Ty.rack.dflt).rows (d.racks.getD i.toNat Ty.rack.dflt).cols])*17<=35184372088832/\True) (.stop (hd f143 0) (mkS 23 [(3,.own 0 .box),(7,.d (.sl .rack d.racks)),(8,i64 (d.racks.length:Int)),(9,i64 (w64 (i+1)))] [(0,.row 244 .box (out++[Box.mk (d.racks.getD i.toNat Ty.rack.dflt).rows (d.racks.getD i.toNat Ty.rack.dflt).cols]))] 1))))else .need U2 (.ret out)):=by kernel_rfl
theorem t92a (d:Deck)(x y:List Go.VL.Box)(i:Int):@Eq _ (xL prog codes sigs f125 [.int] 200 0 (L92 d x y i)) (bif decide (i<(x.length:Int))then .need (((0:Int)<=i/\i<(x.length:Int))/\True) (.need (U3/\True) (.callP 203 [⟨.box,(x.getD i.toNat Ty.box.dflt)⟩] [.bool] fun(x_1:Bool)=>bif !x_1 then .need U2 (.ret (81:Int))else .need (((0:Int)<=i/\i<(d.plates.length:Int))/\True) (.need (U8/\True) (.callP 204 [⟨.plate,(d.plates.getD i.toNat Ty.plate.dflt)⟩] [.bool] fun(x_2:Bool)=>bif !x_2 then .need U2 (.ret (81:Int))else .stop (hd f125 0) (mkS 78 [(1,.ptr 0 0),(4,.d (.sl .box x)),(5,.d (.sl .box y)),(40,.d (.sl .box x)),(41,i64 (x.length:Int)),(42,i64 (w64 (i+1)))] [(0,.box (dC d))] 1)))))else .stop (hd f125 1) (mkS 78 [(4,.d (.sl .box x)),(5,.d (.sl .box y)),(60,.d (.sl .box y)),(61,i64 (y.length:Int)),(62,i64 0)] [] 0)):=by kernel_rfl
theorem OD (l:List Go.VL.Box)(k n i:Int):@Eq _ (xL prog codes sigs f208 [.part] 200 0 (Nl l k n i)) (bif decide (i<(l.length:Int))then .need (((0:Int)<=i/\i<(l.length:Int))/\True) (.need (U3/\True) (.callP 217 [⟨.box,(l.getD i.toNat Ty.box.dflt)⟩] [.int] fun(x:Int)=>bif decide (n<x)then .need (Box.cols (l.getD i.toNat Ty.box.dflt)≠(0:Int)) (.need (Box.cols (l.getD i.toNat Ty.box.dflt)≠(0:Int)) (.need U5 (.ret (Part.mk k i (w64 (Int.tdiv n (Box.cols (l.getD i.toNat Ty.box.dflt)))) (Int.tmod n (Box.cols (l.getD i.toNat Ty.box.dflt)))))))else .need (U3/\True) (.callP 217 [⟨.box,(l.getD i.toNat Ty.box.dflt)⟩] [.int] fun(x:Int)=>.stop (hd f208 0) (mkS 41 [(2,i64 (w64 (n-x))),(6,.ptr 0 0),(7,.ptr 1 0),(12,.d (.sl .box l)),(13,i64 (l.length:Int)),(14,i64 (w64 (i+1)))] [(0,.box [i64 0,i64 0,i64 0,i64 0]),(1,.box [i64 k,i64 0,i64 0,i64 0])] 2))))else .need U5 (.ret (Part.mk k (0:Int) (0:Int) (0:Int)))):=by kernel_rfl
theorem Oy (p:Plate)(i:Int):@Eq _ (xL prog codes sigs f219 [.bool] 200 0 (Qf p i)) (bif decide (i<(p.start.length:Int))then .need (((0:Int)<=i/\i<(p.start.length:Int))/\True) (bif decide (p.start.getD i.toNat Ty.int.dflt<0)then .need U2 (.ret false)else .need (((0:Int)<=i/\i<(p.start.length:Int))/\True) (bif decide (p.start.getD i.toNat Ty.int.dflt>p.cap)then .need U2 (.ret false)else .stop (hd f219 0) (mkS 54 [(1,.ptr 0 0),(3,i64 (w64 (i+1)))] [(0,.box [i64 p.rows,i64 p.cols,.d (.f p.x),.d (.f p.pitch),.d (.f p.reach),i64 p.cap,.d (.sl .int p.start)])] 1)))else .need U2 (.ret true)):=by kernel_rfl
theorem t89a (d:Deck)(w t i:Int):@Eq _ (xL prog codes sigs f153 [.int] 200 0 (L89 d w t i)) (bif decide (i<(d.plates.length:Int))then .need (((0:Int)<=i/\i<(d.plates.length:Int))/\True) (.need (U8/\True) (.callP 219 [⟨.plate,(d.plates.getD i.toNat Ty.plate.dflt)⟩] [.bool] fun(x:Bool)=>bif !x then .need U2 (.ret (81:Int))else .need (((0:Int)<=i/\i<(d.plates.length:Int))/\True) (.need (((0:Int)<=i/\i<(d.plates.length:Int))/\True) (.stop (hd f153 0) (mkS 103 [(1,.ptr 0 0),(4,i64 (w64 (w+w64 ((d.plates.getD i.toNat Ty.plate.dflt).rows*(d.plates.getD i.toNat Ty.plate.dflt).cols)))),(5,i64 t),(6,i64 (w64 (i+1)))] [(0,.box (dC d))] 1)))))else .stop (hd f153 1) (mkS 103 [(1,.ptr 0 0),(4,i64 w),(5,i64 t),(7,i64 0)] [(0,.box (dC d))] 1)):=by kernel_rfl
theorem Ox (k u r c:Int)(out:List Part)(i:Int):@Eq _ (xL prog codes sigs f154 [.sl .part] 200 0 (Kx k u r c out i)) (bif decide (i<r)then .stop (hd f154 1) (mkS 31 [(0,i64 k),(1,i64 u),(2,i64 r),(3,i64 c),(9,.own 0 .part),(10,i64 i),(11,i64 0)] [(0,.row 179 .part out)] 1)else .need U2 (.ret out)):=by kernel_rfl
theorem t90a (d:Deck)(out:List Part)(i:Int):@Eq _ (xL prog codes sigs f88 [.sl .part] 200 0 (L90 d out i)) (bif decide (i<(d.plates.length:Int))then .need (((0:Int)<=i/\i<(d.plates.length:Int))/\True) (.need (((0:Int)<=i/\i<(d.plates.length:Int))/\True) (.need (U2/\U2/\U2/\U2/\True) (.callP 154 [⟨.int,(1:Int)⟩,⟨.int,i⟩,Sigma.mk .int (d.plates.getD i.toNat Ty.plate.dflt).rows,Sigma.mk .int (d.plates.getD i.toNat Ty.plate.dflt).cols] [.sl .part] fun(x:List Part)=>.need ((out.length+x.length)*33<=35184372088832/\True) (.stop (hd f88 0) (mkS 71 [(1,.ptr 0 0),(3,.own 1 .part),(4,i64 (w64 (i+1)))] [(0,.box (dC d)),(1,.row 179 .part (out++x))] 2)))))else .stop (hd f88 1) (mkS 71 [(1,.ptr 0 0),(3,.own 1 .part),(5,i64 0)] [(0,.box (dC d)),(1,.row 179 .part out)] 2)):=by kernel_rfl
theorem t37a (d:Deck)(i:Int):@Eq _ (xL prog codes sigs f25 [.bool] 200 0 (L37 d i)) (bif decide (i<(d.plates.length:Int))then .need (((0:Int)<=i/\i<(d.plates.length:Int))/\True) (bif decide ((↑(d.plates.getD i.toNat Ty.plate.dflt).start.length:Int)>500)then .need U2 (.ret true)else .stop (hd f25 0) (mkS 35 [(1,.ptr 0 0),(3,i64 (w64 (i+1)))] [(0,.box (dC d))] 1))else .need U2 (.ret false)):=by kernel_rfl
end Go.Proofs.Zn

namespace Go.Proofs.Wn
open Go.Proofs.Tryz
open Go Go.VL
abbrev cw:=Zn.cw
def OF:List AV:=[i64 0,i64 0,i64 0,i64 0,.d (.v (.slice none 0 0))]
def L60 (a b:List Change)(i:Int):AS:=mkS 26 [(0,.d (.sl .change a)),(1,.d (.sl .change b)),(5,i64 i)] [] 0
def L66 (d:Deck)(l:List Int)(i:Int):AS:=mkS 41 [(2,.ptr 0 0),(4,.ptr 1 0),(27,.d (.sl .int l)),(28,i64 l.length),(29,i64 i)] [(0,.box (cw d)),(1,.box OF)] 2
def Ey (kvs:List (Int×Int))(l:List Int)(i:Int):AS:=mkS 28 [(3,.mp 0),(9,.d (.sl .int l)),(10,i64 l.length),(11,i64 i)] [(0,.mp .int .int kvs)] 1
theorem t60a (a b:List Change)(i:Int):@Eq _ (xL prog codes sigs f60 [.bool] 200 0 (L60 a b i)) (bif decide (i<(a.length:Int))then .need (((0:Int)<=i/\i<(a.length:Int))/\True) (.need (((0:Int)<=i/\i<(b.length:Int))/\True) (bif ! ((a.getD i.toNat Ty.change.dflt).ver==(b.getD i.toNat Ty.change.dflt).ver&&((a.getD i.toNat Ty.change.dflt).by'==(b.getD i.toNat Ty.change.dflt).by'&&((a.getD i.toNat Ty.change.dflt).n==(b.getD i.toNat Ty.change.dflt).n&&true)))then .need U2 (.ret false)else .stop (hd f60 0) (mkS 26 [(0,.d (.sl .change a)),(1,.d (.sl .change b)),(5,i64 (w64 (i+1)))] [] 0)))else .need U2 (.ret true)):=by kernel_rfl
theorem t66a (d:Deck)(l:List Int)(i:Int):@Eq _ (xL prog codes sigs f66 [.resp] 200 0 (L66 d l i)) (bif decide (i<(l.length:Int))then .need (((0:Int)<=i/\i<(l.length:Int))/\True) (.need (U5/\U2/\True) (.callP 68 [⟨.deck,d⟩,⟨.int,(l.getD i.toNat Ty.int.dflt)⟩] [.int] fun(x:Int)=>bif x==0 then .need (U2/\U2/\True) (.callP 69 [⟨.int,(3:Int)⟩,⟨.int,(l.getD i.toNat Ty.int.dflt)⟩] [.resp] fun(x:Resp)=>.need U6 (.ret x))else .stop (hd f66 0) (mkS 41 [(2,.ptr 0 0),(4,.ptr 1 0),(27,.d (.sl .int l)),(28,i64 (l.length:Int)),(29,i64 (w64 (i+1)))] [(0,.box (dC d)),(1,.box [i64 0,i64 0,i64 0,i64 0,nS])] 2)))else .need U6 (.ret (Resp.mk (0:Int) (0:Int) (0:Int) (0:Int) []))):=by kernel_rfl
theorem Ff (kvs:List (Int×Int))(l:List Int)(i:Int):@Eq _ (xL prog codes sigs f128 [.int] 200 0 (Ey kvs l i)) (bif decide (i<(l.length:Int))then .need (((0:Int)<=i/\i<(l.length:Int))/\True) (bif Option.isSome (lx (l.getD i.toNat Ty.int.dflt) kvs)then .need U2 (.ret i)else .need U2 (.stop (hd f128 0) (mkS 28 [(3,.mp 0),(9,.d (.sl .int l)),(10,i64 (l.length:Int)),(11,i64 (w64 (i+1)))] [(0,.mp .int .int (nl (l.getD i.toNat Ty.int.dflt) i kvs))] 1)))else .need U2 (.ret (-1:Int))):=by kernel_rfl
end Go.Proofs.Wn

set_option exponentiation.threshold 4096
namespace Go.Proofs.Wn
open Go.Proofs.Tryz
open Go Go.VL Go.Proofs.Zn
abbrev T2':True/\True:=⟨tv,tv⟩
theorem dR {α:Type}{P:Program}{A:List Item->AS->Prop}{R0:α->Prop}{b:Bool}{S T:Out α}(h:b=true)(h1:Sat P A R0 S):Sat P A R0 (bif b then S else T):=by rw[h];exact h1
theorem bK {α:Type}{P:Program}{A:List Item->AS->Prop}{R0:α->Prop}{b:Bool}{S T:Out α}(h:b=false)(h1:Sat P A R0 T):Sat P A R0 (bif b then S else T):=by rw[h];exact h1
theorem AL {vs:Array Value}(hs:vs.size=1):∃ v,vs=#[v]:=by
 refine⟨vs[0]'(by omega),?_⟩
 apply Array.ext
 ·exact hs
 ·intro i hi hi2
  have:i=0:=by omega
  subst this;rfl
theorem x58 (n:Int):Ir prog 58 [.d (.v (.int .u64 n))] (.d (.f (some n.toNat))):=fun w K m H vs hs hr=>by
 obtain⟨v,rfl⟩:=AL hs
 have e:v=.int .u64 n:=cj (hr 0 _ v rfl rfl)
 subst e
 exact⟨.float .f64 n.toNat,run_callFunc_extern (e:=Extern.MathFloatBits.float64frombits) func58 (by kernel_rfl) (by kernel_rfl) (by kernel_rfl) (by kernel_rfl) #[.int .u64 n] w,.d _ _ (.f _ _ rfl)⟩
theorem Nr (b:Nat):Ir prog 199 [.d (.f (some b))] (.d (.v (.int .u64 (b:Int)))):=fun w K m H vs hs hr=>by
 obtain⟨v,rfl⟩:=AL hs
 have e:v=.float .f64 b:=by
  have:=hr 0 _ v rfl rfl
  cases this with
  | d _ _ h => cases h with
    | f _ c h=>have h:c=b:=h;rw[h]
 subst e
 exact⟨.int .u64 b,run_callFunc_extern (e:=Extern.MathFloatBits.float64bits) func199 (by kernel_rfl) (by kernel_rfl) (by kernel_rfl) (by kernel_rfl) #[.float .f64 b] w,.d _ _ (.v _)⟩
theorem Ps {n k m:Nat}(hn:n=2^k*(2*m+1))(h:n<18446744073709551616):Pure prog 200 [⟨.u64,(n:Int)⟩] [.int] (k:Int):=
 ofT func200 (t200 n) (by kernel_rfl) (by kernel_rfl) fun _=>by
  have hk:=FN hn h
  have hp:0<2^k:=de (by decide)
  have hpos:0<n:=by rw[hn];exact kx hp (by omega)
  have e64:(2^64:Nat)=18446744073709551616:=by decide
  have hkl:2^k<18446744073709551616:=by
   have:2^k<=2^63:=aY (by decide) (by omega)
   have e63:(2^63:Nat)=9223372036854775808:=by decide
   omega
  have e1:=Gg hpos h
  have e2:(BitVec.ofInt (IntKind.bits .u64) (n:Int) &&& BitVec.ofInt (IntKind.bits .u64) (((2^64-n:Nat)):Int)).toNat=2^k:=by
   rw[Af h (by omega)];exact Kt hn (by omega)
  have e3:IntKind.u64.wrap (IntKind.u64.wrap ((2^k:Nat):Int)*285870213051353865)=((2^k*285870213051353865%2^64:Nat):Int):=by
   rw[tR hkl,kN,e64];rfl
  have e4:(2:Int)^min 58 (IntKind.bits .u64)=((2^58:Nat):Int):=by decide
  obtain⟨t1,t2⟩:=KY ⟨k,hk⟩
  simp only at t1 t2
  rw[e1,e2,e3,e4,mJ]
  generalize 2^k*285870213051353865%2^64/2^58=x at t1 t2
  refine bK (by simp;omega) ⟨by decide,⟨by omega,by show(x:Int)<(64:Int);omega⟩,T2',?_⟩
  show w64 (Kz.getD (x:Int).toNat 0)=(k:Int)
  rw[aq,t2,ax (by omega) (by omega)]
theorem Pq {p:Nat}(hp:p<18446744073709551616):Pure prog 201 [⟨.flt,some p⟩] [.bool] (pz p):=
 ofT func201 (t201 p) (by kernel_rfl) (by kernel_rfl) fun _=>⟨Nr p,T2',by
  show decide (w64 (p:Int)<0)=decide (9223372036854775808<=p)
  refine cg.2 ?_
  unfold w64 IntKind.wrap
  have e:(2^IntKind.i64.bits:Int)=18446744073709551616:=rfl
  have e2:(2^(IntKind.i64.bits-1):Int)=9223372036854775808:=rfl
  have e3:IntKind.i64.signed=true:=rfl
  simp only[e,e2,e3,cm]
  rw[kA (by omega) (by omega)]
  by_cases h:9223372036854775808<=p
  ·rw[aE (by simp;omega)];omega
  ·rw[aH (by simp;omega)];omega⟩
theorem If {b:Nat}(hb:b<18446744073709551616):(bits BinOp.andNot IntKind.u64 (b:Int) 9223372036854775808).toNat=b%9223372036854775808:=by
 have h3:(BitVec.ofInt 64 (b:Int)).toNat=b:=sZ hb
 have h2:(~~~ BitVec.ofInt 64 9223372036854775808).toNat=9223372036854775807:=by decide
 have h4:(BitVec.ofInt 64 (b:Int) &&& ~~~ BitVec.ofInt 64 9223372036854775808).toNat=b%9223372036854775808:=by
  rw[BitVec.toNat_and,h2,h3]
  exact fg b 63
 show(IntKind.u64.wrap ((BitVec.ofInt 64 (b:Int) &&& ~~~ BitVec.ofInt 64 9223372036854775808).toNat:Int)).toNat=_
 rw[h4,tR (by omega),aq]
theorem zP {r:Nat}(hr:r<=9218868437227405312):cI (some r)=(fT r:Int):=by
 have:=wa (b:=r) (by omega) (by rw[cQ (by omega)];exact hr)
 rw[cQ (by omega),dF (by omega)]at this
 exact this
theorem vO {r:Nat}(hr:r<=9218868437227405312):dh (some r)=false:=by
 rw[vN,cQ (by omega)];exact dF (by omega)
theorem ww {r q:Nat}(hr:r<=9218868437227405312)(hq:q<=9218868437227405312):Fl.cmp (some r) (some q)=some (compare (r:Int) (q:Int)):=by
 rw[lA (vO hr) (vO hq),zP hr,zP hq]
 congr 1
 have h1:=vq hr hq
 have h2:=vq hq hr
 rcases Nat.lt_trichotomy r q with c|c|c
 ·have:=h1.2 c
  rw[kB.2 (by omega:(fT r:Int)<(fT q:Int)),kB.2 (by omega:(r:Int)<(q:Int))]
 ·subst c
  rw[kD.2 rfl,kD.2 rfl]
 ·have:=h2.2 c
  rw[kC.2 (by omega:(fT q:Int)<(fT r:Int)),kC.2 (by omega:(q:Int)<(r:Int))]
theorem zY {a b:Int}(o:Ordering):(some (compare a b)==some o)=decide (compare a b=o):=by
 cases compare a b<;>cases o<;>rfl
theorem Hy {a b:Int}:(some (compare a b)==some Ordering.gt)=decide (b<a):=by
 rw[zY];exact cg.2 (by rw[kC])
theorem Hx {a b:Int}:(some (compare a b)==some Ordering.lt)=decide (a<b):=by
 rw[zY];exact cg.2 (by rw[kB])
theorem MJ {a b:Int}:(some (compare a b)==some Ordering.eq)=decide (a=b):=by
 rw[zY];exact cg.2 (by rw[kD])
theorem Km {b:Nat}(hb:b<18446744073709551616):Pure prog 119 [⟨.flt,some b⟩] [.int] (jj (rN b)):=by
 refine Zn.ofT func119 (Og (some b)) (by kernel_rfl) (by kernel_rfl) fun A=>⟨⟨q2,tv⟩,_,Kh b,?_⟩
 rw[yv,vN,If hb]
 unfold jj rN
 refine cS (fun _=>⟨q2,rfl⟩) (fun h=>?_)
 have h:=oF h
 have hr:b%9223372036854775808<=9218868437227405312:=by omega
 rw[ww hr (by decide),ww hr (by decide),ww hr (by decide),Hy,MJ,Hx]
 have g1:decide (((9218868437227405311:Nat):Int)<((b%9223372036854775808:Nat):Int))=decide (b%9223372036854775808=9218868437227405312):=cg.2 (by omega)
 have g2:decide (((b%9223372036854775808:Nat):Int)=((0:Nat):Int))=decide (b%9223372036854775808=0):=cg.2 (by omega)
 have g3:decide (((b%9223372036854775808:Nat):Int)<((4503599627370496:Nat):Int))=decide (b%9223372036854775808<4503599627370496):=cg.2 (by omega)
 rw[g1,g2,g3]
 exact cS (fun _=>⟨q2,rfl⟩) (fun _=>cS (fun _=>⟨q2,rfl⟩) (fun _=>cS (fun _=>⟨q2,rfl⟩) (fun _=>⟨q2,rfl⟩)))
end Go.Proofs.Wn

set_option exponentiation.threshold 4096
namespace Go.Proofs.Wn
open Go.Proofs.Tryz
open Go Go.VL Go.Proofs.Zn
theorem Hz {b:Nat}(h:¬ jj (rN b)<4):0<rN b/\rN b<9218868437227405312/\(jj (rN b)=5↔¬ rN b<4503599627370496):=by
 unfold jj at h ⊢
 generalize rN b=r at h ⊢
 by_cases h1:r>9218868437227405312
 ·rw[dT h1]at h;simp at h
 rw[dF h1,cF]at h ⊢
 by_cases h2:r=9218868437227405312
 ·rw[dT h2]at h;simp at h
 rw[dF h2,cF]at h ⊢
 by_cases h3:r=0
 ·rw[dT h3]at h;simp at h
 rw[dF h3,cF]at h ⊢
 refine⟨by omega,by omega,?_⟩
 by_cases h4:r<4503599627370496
 ·rw[dT h4];simp;omega
 ·rw[dF h4];simp;omega
theorem MX (b:Nat):b%4503599627370496=rN b%4503599627370496:=by unfold rN;omega
theorem MY {b:Nat}(hb:b<18446744073709551616):b/4503599627370496%2048=rN b/4503599627370496:=by unfold rN;omega
theorem qQ {k:Nat}(h:k<64):(2:Int)^min (Int.toNat (k:Int)) (IntKind.bits .u64)=((2^k:Nat):Int):=by
 have:min (Int.toNat (k:Int)) (IntKind.bits .u64)=k:=by
  have e:IntKind.bits .u64=64:=rfl
  rw[e,aq];omega
 rw[this];simp
theorem xt {k:Nat}(h:k<64):(2:Int)^min (Int.toNat (k:Int)) (IntKind.bits .i64)=((2^k:Nat):Int):=qQ h
theorem Kl {b:Nat}(hb:b<18446744073709551616):Pure prog 120 [⟨.flt,some b⟩] [.int,.int] (pw b):=
 ofT func120 (LU b) (by kernel_rfl) (by kernel_rfl) fun _=>by
  refine⟨⟨T2',tv⟩,_,Km hb,?_⟩
  show Sat _ _ _ (bif decide (jj (rN b)<4)then _ else _)
  unfold pw
  by_cases hc:jj (rN b)<4
  ·rw[dT hc]
   exact⟨⟨T2',T2'⟩,rfl⟩
  rw[dF hc]
  obtain⟨h0,hi,h5⟩:=Hz hc
  obtain⟨m,o1,o2,o3⟩:=oE h0
  have hM:=Ck (rN b)
  have hol:=@odd_lt (rN b)
  have e1:(BitVec.ofInt (IntKind.bits .u64) (b:Int) &&& BitVec.ofInt (IntKind.bits .u64) 4503599627370495).toNat=rN b%4503599627370496:=by
   have:=Af (c:=4503599627370495) hb (by decide)
   rw[PI,MX]at this;exact this
  have e2:IntKind.u64.wrap ((rN b%4503599627370496:Nat):Int)=((rN b%4503599627370496:Nat):Int):=tR (by omega)
  have eo:dM (rN b)=M0 (rN b)/2^tzN (M0 (rN b)):=rfl
  have ep:eK (rN b)=E0 (rN b)+(tzN (M0 (rN b)):Int):=rfl
  refine⟨Nr b,?_⟩
  show Sat _ _ _ (bif jj (rN b)==5 then _ else _)
  rw[e1,e2]
  by_cases hf:rN b<4503599627370496
  ·
   have hn5:(jj (rN b)==5)=false:=by
    rw[bN];exact fun e=>(h5.1 e) hf
   have eM:M0 (rN b)=rN b:=by unfold M0;rw[dT hf];rfl
   have eE:E0 (rN b) = -1074:=by unfold E0;rw[dT hf];rfl
   have e3:rN b%4503599627370496=M0 (rN b):=by rw[eM];exact cQ hf
   rw[hn5,e3]
   refine⟨⟨T2',tv⟩,(tzN (M0 (rN b)):Int),Ps o1 (by omega),by omega,⟨T2',tv⟩,_,Pq hb,?_⟩
   rw[qQ (by omega),mJ,← eo,ax (n:=(dM (rN b):Int)) (by omega) (by omega),ax (n:=0-(dM (rN b):Int)) (by omega) (by omega),ax (n := -1074+(tzN (M0 (rN b)):Int)) (by omega) (by omega),ep,eE]
   cases pz b
   ·exact⟨⟨T2',T2'⟩,rfl⟩
   ·refine⟨⟨T2',T2'⟩,?_⟩
    show(0-(dM (rN b):Int),-1074+(tzN (M0 (rN b)):Int))=(-(dM (rN b):Int),-1074+(tzN (M0 (rN b)):Int))
    rw[Int.zero_sub]
  ·have h55:(jj (rN b)==5)=true:=by rw[bV];exact h5.2 hf
   have eM:M0 (rN b)=rN b%4503599627370496+4503599627370496:=by unfold M0;rw[dF hf];rfl
   have eE:E0 (rN b)=((rN b/4503599627370496:Nat):Int)-1075:=by unfold E0;rw[dF hf];rfl
   have e3:(BitVec.ofInt (IntKind.bits .u64) ((rN b%4503599627370496:Nat):Int) ||| BitVec.ofInt (IntKind.bits .u64) 4503599627370496).toNat=M0 (rN b):=by
    have:=PG (a:=rN b%4503599627370496) (c:=4503599627370496) (by omega) (by decide)
    rw[or52 (by omega),← eM]at this;exact this
   have e4:IntKind.u64.wrap ((M0 (rN b):Nat):Int)=((M0 (rN b):Nat):Int):=tR (by omega)
   have e5:(2:Int)^min 52 (IntKind.bits .u64)=((4503599627370496:Nat):Int):=by decide
   have e6:(BitVec.ofInt (IntKind.bits .u64) ((b/4503599627370496:Nat):Int) &&& BitVec.ofInt (IntKind.bits .u64) 2047).toNat=rN b/4503599627370496:=by
    have:=Af (a:=b/4503599627370496) (c:=2047) (by omega) (by decide)
    rw[PJ,MY hb]at this;exact this
   have e7:IntKind.u64.wrap ((rN b/4503599627370496:Nat):Int)=((rN b/4503599627370496:Nat):Int):=tR (by omega)
   rw[h55,e3,e4,e5,mJ,e6,e7]
   refine⟨by decide,⟨T2',tv⟩,(tzN (M0 (rN b)):Int),Ps o1 (by omega),by omega,⟨T2',tv⟩,_,Pq hb,?_⟩
   rw[qQ (by omega),mJ,← eo,ax (n:=(dM (rN b):Int)) (by omega) (by omega),ax (n:=0-(dM (rN b):Int)) (by omega) (by omega),ax (n:=((rN b/4503599627370496:Nat):Int)) (by omega) (by omega),
    ax (n:=((rN b/4503599627370496:Nat):Int)-1) (by omega) (by omega),ax (n := -1074+(((rN b/4503599627370496:Nat):Int)-1)) (by omega) (by omega),ax (n := -1074+(((rN b/4503599627370496:Nat):Int)-1)+(tzN (M0 (rN b)):Int)) (by omega) (by omega),ep,eE]
   have e8 : -1074+(((rN b/4503599627370496:Nat):Int)-1)+(tzN (M0 (rN b)):Int)=((rN b/4503599627370496:Nat):Int)-1075+(tzN (M0 (rN b)):Int):=by omega
   rw[e8]
   cases pz b
   ·exact⟨⟨T2',T2'⟩,rfl⟩
   ·refine⟨⟨T2',T2'⟩,?_⟩
    show(0-(dM (rN b):Int),((rN b/4503599627370496:Nat):Int)-1075+(tzN (M0 (rN b)):Int))=(-(dM (rN b):Int),_)
    rw[Int.zero_sub]
end Go.Proofs.Wn

set_option exponentiation.threshold 4096
namespace Go.Proofs.Wn
open Go.Proofs.Tryz
open Go Go.VL Go.Proofs.Zn
theorem p64 {s:Nat}(h1:1<=s)(h:s<=64):2^s=2*2^(s-1)/\2^s*2^(64-s)=18446744073709551616/\2^(s-1)*2^(64-s)=9223372036854775808/\0<2^(64-s):=by
 refine⟨?_,?_,?_,de (by decide)⟩
 ·rw[bW,← hU];congr 1;omega
 ·rw[← dZ,show s+(64-s)=64 by omega]
 ·rw[← dZ,show s-1+(64-s)=63 by omega]
theorem JU {n s:Nat}(h1:1<=s)(h:s<=64):n*2^(64-s)%18446744073709551616=n%2^s*2^(64-s):=by
 obtain⟨_,e,_,_⟩:=p64 h1 h
 rw[← e,Nat.mul_mod_mul_right]
theorem Kk {n s:Nat}(hn:n<9223372036854775808)(h1:1<=s)(hs:s<=2000):Pure prog 121 [⟨.int,(n:Int)⟩,⟨.int,-(s:Int)⟩] [.int] (qz n s:Int):=
 ofT func121 (LT n _) (by kernel_rfl) (by kernel_rfl) fun _=>by
  by_cases hb:63<s
  ·refine dR (dT (by omega)) ⟨T2',?_⟩
   have:2^64<=2^s:=aY (by decide) hb
   have e:(2^64:Nat)=18446744073709551616:=by decide
   rw[Fq (by omega)];rfl
  obtain⟨p1,p2,p3,p4⟩:=p64 h1 (by omega)
  have e1:w64 (0 - -(s:Int))=(s:Int):=by rw[ax (by omega) (by omega)];omega
  have e2:w64 (64 + -(s:Int))=((64-s:Nat):Int):=by rw[ax (by omega) (by omega)];omega
  have hct:=JU (n:=n) h1 (by omega)
  have e3:IntKind.u64.wrap (IntKind.u64.wrap (n:Int)*((2^(64-s):Nat):Int))=((n%2^s*2^(64-s):Nat):Int):=by
   rw[tR (by omega),kN,← hct];rfl
  have hq:n/2^s*2<=n:=aZ (cd _ (by have:0<2^(s-1):=(de (by decide));omega)) (Nat.div_mul_le_self n (2^s))
  have e6':∀ q:Nat,q*2<=n->w64 ((q:Int)+1)=((q+1:Nat):Int):=fun q h=>by rw[ax (by omega) (by omega)];rfl
  have e6:=e6' _ hq
  have g1:decide (((n%2^s*2^(64-s):Nat):Int)>9223372036854775808)=decide (2^s<2*(n%2^s)):=by
   refine cg.2 ?_
   have:(9223372036854775808<n%2^s*2^(64-s))↔2^(s-1)<n%2^s:=by
    rw[← p3];exact⟨fun h=>Nat.lt_of_mul_lt_mul_right h,fun h=>fG h p4⟩
   omega
  have g2:(((n%2^s*2^(64-s):Nat):Int)==9223372036854775808)=(2^s==2*(n%2^s)):=by
   rw[fy,bV,bV]
   have:(9223372036854775808=n%2^s*2^(64-s))↔2^(s-1)=n%2^s:=by
    rw[← p3];exact⟨fun h=>Nat.eq_of_mul_eq_mul_right p4 h,fun h=>by rw[h]⟩
   omega
  have e4:Int.fdiv (n:Int) ((2^s:Nat):Int)=((n/2^s:Nat):Int):=mJ _ _
  have e5:(Int.tmod ((n/2^s:Nat):Int) 2==1)=(n/2^s%2==1):=by
   have:=EO (n/2^s) 2
   rw[show Int.tmod ((n/2^s:Nat):Int) 2=((n/2^s%2:Nat):Int) from this,fy,bV,bV];omega
  refine bK (dF (by omega)) ?_
  rw[e1,e2,qQ (by omega),xt (by omega),e3,g1,g2,e4,e5]
  unfold qz
  refine⟨by omega,ak (fun h63=>⟨by omega,?_⟩) (fun _=>⟨by omega,?_⟩)⟩
  ·have h63:s=63:=by have : -(s:Int) = -63:=(by simpa using h63);omega
   have q0:n/2^s=0:=by
    subst h63
    exact iC (by have:(2^63:Nat)=9223372036854775808:=(by decide);omega)
   rw[q0]
   refine ak (fun h=>⟨T2',?_⟩) (fun h=>ak (fun h2=>⟨by decide,T2',?_⟩) (fun h2=>⟨T2',?_⟩))
   ·rw[h];rfl
   ·rw[h,h2];rfl
   ·rw[h,h2];rfl
  ·rw[e6]
   refine ak (fun h=>⟨T2',?_⟩) (fun h=>ak (fun h2=>⟨by decide,ak (fun h3=>⟨T2',?_⟩) (fun h3=>⟨T2',?_⟩)⟩) (fun h2=>⟨T2',?_⟩))
   ·rw[h];rfl
   ·rw[h,h2,h3];rfl
   ·rw[h,h2,h3];rfl
   ·rw[h,h2];rfl
end Go.Proofs.Wn

set_option exponentiation.threshold 4096
namespace Go.Proofs.Wn
open Go.Proofs.Tryz
open Go Go.VL Go.Proofs.Zn
theorem Em (r:Nat):((jj r==1)=decide (r>9218868437227405312))/\(r<=9218868437227405312->(jj r==2)=decide (r=9218868437227405312))/\(r<9218868437227405312->(jj r==3)=decide (r=0))/\(r<9218868437227405312->decide (jj r<4)=decide (r=0)):=by
 unfold jj
 by_cases h1:r>9218868437227405312
 ·rw[dT h1]
  exact⟨rfl,fun h=>by omega,fun h=>by omega,fun h=>by omega⟩
 rw[dF h1,cF]
 by_cases h2:r=9218868437227405312
 ·rw[dT h2]
  exact⟨rfl,fun h=>rfl,fun h=>by omega,fun h=>by omega⟩
 rw[dF h2,cF]
 by_cases h3:r=0
 ·rw[dT h3]
  exact⟨rfl,fun h=>rfl,fun h=>rfl,fun h=>rfl⟩
 rw[dF h3,cF]
 cases decide (r<4503599627370496)
 ·exact⟨rfl,fun h=>rfl,fun h=>rfl,fun h=>rfl⟩
 ·exact⟨rfl,fun h=>rfl,fun h=>rfl,fun h=>rfl⟩
theorem FI {b:Nat}:dh (some b)=decide (rN b>9218868437227405312):=vN b
theorem MZ {b:Nat}(hb:b<18446744073709551616)(hr:rN b<=9218868437227405312):(Fl.cmp (some b) (some 0)==some Ordering.lt)=(pz b&&decide (0<rN b)):=by
 have h0:dh (some 0)=false:=vO (by decide)
 rw[lA (by rw[FI];exact dF (by omega)) h0,sB,Hx,wa hb hr]
 show decide ((bif pz b then -(fT (rN b):Int)else(fT (rN b):Int))<0)=_
 rw[fy]
 by_cases hz:rN b=0
 ·rw[hz,EF];cases pz b<;>simp
 ·have:=Iw (r:=rN b) (by omega)
  cases pz b<;>simp<;>omega
theorem PM {b:Nat}(hb:b<18446744073709551616)(hr:rN b<=9218868437227405312):(Fl.cmp (some b) (some 4787326403894837248)==some Ordering.gt)=(!pz b&&decide (4787326403894837248<rN b)):=by
 rw[lA (by rw[FI];exact dF (by omega)) (vO (by decide)),Hy,wa hb hr,zP (by decide)]
 show decide (_<(bif pz b then -(fT (rN b):Int)else(fT (rN b):Int)))=_
 have h:=vq (r:=4787326403894837248) (q:=rN b) (by decide) hr
 rw[fy]
 cases pz b
 ·simp;try omega
 ·simp;try omega
theorem Iu {r:Nat}(h:eK r<0):tp r=qz (dM r*1000) (-eK r).toNat:=by unfold tp;rw[dT h];rfl
theorem It {r:Nat}(h:¬ eK r<0):tp r=dM r*1000*2^(eK r).toNat:=by unfold tp;rw[dF h];rfl
theorem c57 {b:Nat}(hb:b<18446744073709551616):Pure prog 57 [⟨.flt,some b⟩] [.int,.int] (ofS b):=
 ofT func57 (t57 (some b)) (by kernel_rfl) (by kernel_rfl) fun _=>by
  obtain⟨f1,f2,f3,f4⟩:=Em (rN b)
  refine⟨⟨T2',tv⟩,_,Km hb,?_⟩
  show Sat _ _ _ (bif jj (rN b)==1 then _ else bif jj (rN b)==2 then _ else _)
  unfold ofS
  refine cS (fun _=>⟨⟨T2',T2'⟩,rfl⟩) (fun h1=>cS (fun _=>⟨⟨T2',T2'⟩,rfl⟩) (fun h2=>?_))
  rw[f1]at h1
  have h1:=oF h1
  rw[f2 (by omega)]at h2
  have h2:=oF h2
  have hi:rN b<9218868437227405312:=by omega
  rw[MZ hb (by omega),PM hb (by omega),f3 hi]
  by_cases hz:rN b=0
  ·rw[dT hz,hz]
   refine bK (by simp) (bK (by simp) ⟨⟨T2',tv⟩,_,Kl hb,?_⟩)
   have e:pw b=(0,0):=by unfold pw;rw[hz];rfl
   rw[e]
   exact bK rfl ⟨by decide,bK (by decide) ⟨⟨T2',T2'⟩,rfl⟩⟩
  rw[dF hz,cF]
  have hd:decide (0<rN b)=true:=dT (by omega)
  rw[hd,Bool.and_true]
  refine cS (fun _=>⟨⟨T2',T2'⟩,rfl⟩) (fun hn=>?_)
  rw[hn,jU,cm]
  by_cases hC:4787326403894837248<rN b
  ·rw[dT hC,dT (DY hC hi)]
   exact⟨⟨T2',T2'⟩,rfl⟩
  rw[dF hC]
  have hol:=@odd_lt (rN b)
  have hlo:=@pow_lo (rN b)
  have e:pw b=((dM (rN b):Int),eK (rN b)):=by unfold pw;rw[f4 hi,dF hz,hn];rfl
  refine bK rfl ⟨⟨T2',tv⟩,_,(Kl hb).eq e,?_⟩
  have e1:w64 ((dM (rN b):Int)*1000)=((dM (rN b)*1000:Nat):Int):=by rw[ax (by omega) (by omega)];rfl
  show Sat _ _ _ (bif decide (eK (rN b)<0)then _ else _)
  by_cases hp:eK (rN b)<0
  ·rw[dT hp,e1,Iu hp]
   have es:eK (rN b) = -(((-eK (rN b)).toNat:Nat):Int):=by omega
   have c:=Kk (n:=dM (rN b)*1000) (s:=(-eK (rN b)).toNat) (by omega) (by omega) (by omega)
   rw[← es]at c
   refine⟨⟨T2',T2',tv⟩,((qz (dM (rN b)*1000) (-eK (rN b)).toNat:Nat):Int),c,?_⟩
   have g:decide (((qz (dM (rN b)*1000) (-eK (rN b)).toNat:Nat):Int)>1099511627776)=decide (qz (dM (rN b)*1000) (-eK (rN b)).toNat>1099511627776):=cg.2 (by omega)
   show Sat _ _ _ (bif decide (((qz (dM (rN b)*1000) (-eK (rN b)).toNat:Nat):Int)>1099511627776)then _ else _)
   rw[g]
   exact cS (fun _=>⟨⟨T2',T2'⟩,rfl⟩) (fun _=>⟨⟨T2',T2'⟩,rfl⟩)
  ·rw[dF hp,e1,It hp]
   have hs:=CQ (r:=rN b) (by omega) (by omega) (by omega)
   have ho:=Jp (r:=rN b) (by omega)
   have hp41:(eK (rN b)).toNat<64:=by
    rcases ay (eK (rN b)).toNat 64 with g|g
    ·exact g
    ·have g1:2^64<=2^(eK (rN b)).toNat:=aY (by decide) g
     have g2:1*2^(eK (rN b)).toNat<=dM (rN b)*2^(eK (rN b)).toNat:=aC _ ho
     have e64:(2^64:Nat)=18446744073709551616:=by decide
     omega
   have e2:(2:Int)^min (eK (rN b)).toNat (IntKind.bits .i64)=((2^(eK (rN b)).toNat:Nat):Int):=by
    have:=xt hp41
    rw[aq]at this
    exact this
   have e3:dM (rN b)*1000*2^(eK (rN b)).toNat=1000*(dM (rN b)*2^(eK (rN b)).toNat):=by rw[bW (dM (rN b)) 1000,eT]
   have e4:w64 (((dM (rN b)*1000:Nat):Int)*((2^(eK (rN b)).toNat:Nat):Int))=((dM (rN b)*1000*2^(eK (rN b)).toNat:Nat):Int):=by
    rw[← je]
    exact ax (by omega) (by omega)
   rw[e2,e4]
   have g:decide (((dM (rN b)*1000*2^(eK (rN b)).toNat:Nat):Int)>1099511627776)=decide (dM (rN b)*1000*2^(eK (rN b)).toNat>1099511627776):=cg.2 (by omega)
   rw[g]
   refine⟨by omega,?_⟩
   exact cS (fun _=>⟨⟨T2',T2'⟩,rfl⟩) (fun _=>⟨⟨T2',T2'⟩,rfl⟩)
def cB (r:Req):Int×Int:=bif (ofS r.vol.toNat).2==0&&(ofS r.vol.toNat).1==0 then(0,1)else ofS r.vol.toNat
theorem c15 {r:Req}(h0:0<=r.vol)(h:r.vol<18446744073709551616):Pure prog 15 [⟨.req,r⟩] [.int,.int] (cB r):=
 ofT func15 (t15 r) (by kernel_rfl) (by kernel_rfl) fun _=>by
  refine⟨x58 r.vol,⟨T2',tv⟩,_,c57 (by omega),?_⟩
  unfold cB
  generalize ofS r.vol.toNat=x
  obtain⟨a,b⟩:=x
  show Sat _ _ _ (bif b==0 then(bif a==0 then _ else _)else _)
  refine ak (fun h1=>ak (fun h2=>⟨⟨T2',T2'⟩,?_⟩) (fun h2=>⟨⟨T2',T2'⟩,?_⟩)) (fun h1=>⟨⟨T2',T2'⟩,?_⟩)
  ·simp only[h1,h2];rfl
  ·simp only[h1,h2];rfl
  ·simp only[h1];rfl
end Go.Proofs.Wn

namespace Go.Proofs.Zn
open Go.Proofs.Tryz
open Go Go.VL
def cN (b:Go.VL.Box):Bool:=bif decide (b.rows>=1)then bif decide (b.rows<=32)then bif decide (b.cols>=1)then decide (b.cols<=48)else false else false else false
theorem gP {b:Go.VL.Box}:cN b=true↔1<=b.rows/\b.rows<=32/\1<=b.cols/\b.cols<=48:=by
 unfold cN
 by_cases h1:b.rows>=1
 ·rw[dT h1,cT]
  by_cases h2:b.rows<=32
  ·rw[dT h2,cT]
   by_cases h3:b.cols>=1
   ·rw[dT h3,cT,bx];omega
   ·rw[dF h3,cF];simp;omega
  ·rw[dF h2,cF];simp;omega
 ·rw[dF h1,cF];simp;omega
theorem dU {b:Go.VL.Box}(h:cN b=true):1<=b.rows*b.cols/\b.rows*b.cols<=1536:=by
 obtain⟨h1,h2,h3,h4⟩:=gP.1 h
 constructor
 ·have:=Int.mul_le_mul h1 h3 (by omega) (by omega);omega
 ·have:=Int.mul_le_mul h2 h4 (by omega) (by omega);omega
def kf (c:Int):List Int->Bool
 | []=>true
 | n::l=>bif decide (n<0)then false else bif decide (n>c)then false else kf c l
def lw (p:Plate):Bool:=bif decide (p.cap<1)then false else bif decide (p.cap>1099511627776)then false else bif decide ((p.start.length:Int)>p.rows*p.cols)then false else kf p.cap p.start
def eL (p:Plate):Go.VL.Box:=⟨p.rows,p.cols⟩
def gU (r:Rack):Go.VL.Box:=⟨r.rows,r.cols⟩
def dt (p:Plate):Bool:=bif cN (eL p)then lw p else false
def aL (d:Deck):List Go.VL.Box:=d.plates.map eL
def aR (d:Deck):List Go.VL.Box:=d.racks.map gU
def bp:List Go.VL.Box->Int
 | []=>0
 | b::l=>b.rows*b.cols+bp l
theorem qL:∀ {l:List Go.VL.Box},(∀ b∈l,cN b=true)->0<=bp l/\bp l<=1536*(l.length:Int)
 | [],_=>by simp[bp]
 | b :: l, h => by
   have h1:=dU (h b (by simp))
   have h2:=qL (l:=l) fun c hc=>h c (by simp[hc])
   simp only[bp,ag];omega
def dE (d:Deck):Int:=
 bif db d.borders != 0 then db d.borders else bif decide (d.arms<1)then 80 else bif decide (d.arms>8)then 80 else
 bif decide ((d.plates.length:Int)>4)then 2 else bif decide ((d.racks.length:Int)>4)then 2 else
 bif !d.plates.all dt then 81 else bif !(aR d).all cN then 82 else
 bif decide (bp (aL d)>384)then 2 else bif decide (bp (aR d)>384)then 2 else 0
structure DeckOk (d:Deck):Prop where
 borders:db d.borders=0
 arms:1<=d.arms/\d.arms<=8
 plates:d.plates.length<=4
 racks:d.racks.length<=4
 plate:∀ p∈d.plates,dt p=true
 boxP:∀ b∈aL d,cN b=true
 boxR:∀ b∈aR d,cN b=true
 wells:0<=bp (aL d)/\bp (aL d)<=384
 tips:0<=bp (aR d)/\bp (aR d)<=384
 lanes:2<=d.borders.length/\d.borders.length<=25
theorem fm {d:Deck}(h:dE d=0):DeckOk d:=by
 unfold dE at h
 cases h1:db d.borders != 0
 ·rw[h1,cF]at h
  have hb:db d.borders=0:=by simpa using h1
  by_cases h2:d.arms<1
  ·rw[dT h2]at h;cases h
  rw[dF h2,cF]at h
  by_cases h3:d.arms>8
  ·rw[dT h3]at h;cases h
  rw[dF h3,cF]at h
  by_cases h4:(d.plates.length:Int)>4
  ·rw[dT h4]at h;cases h
  rw[dF h4,cF]at h
  by_cases h5:(d.racks.length:Int)>4
  ·rw[dT h5]at h;cases h
  rw[dF h5,cF]at h
  cases h6:d.plates.all dt
  ·rw[h6]at h;cases h
  rw[h6,bc,cF]at h
  cases h7:(aR d).all cN
  ·rw[h7]at h;cases h
  rw[h7,bc,cF]at h
  by_cases h8:bp (aL d)>384
  ·rw[dT h8]at h;cases h
  rw[dF h8,cF]at h
  by_cases h9:bp (aR d)>384
  ·rw[dT h9]at h;cases h
  have hp:∀ p∈d.plates,dt p=true:=bM.1 h6
  have hbp:∀ b∈aL d,cN b=true:=fun b hb=>by
   obtain⟨p,hp',rfl⟩:=aT.1 hb
   have:=hp p hp'
   unfold dt at this
   cases hq:cN (eL p)
   ·rw[hq]at this;cases this
   ·rfl
  have hbr:∀ b∈aR d,cN b=true:=bM.1 h7
  exact⟨hb,⟨by omega,by omega⟩,by omega,by omega,hp,hbp,hbr,⟨(qL hbp).1,by omega⟩,⟨(qL hbr).1,by omega⟩,jp hb⟩
 ·rw[h1,cT]at h
  rw[h]at h1;cases h1
def cV (k u r c:Int):List Part:=(List.range (r*c).toNat).map fun n:Nat=>⟨k,u,(n:Int)/c,(n:Int)%c⟩
def dg (k:Int):Int->List Go.VL.Box->List Part
 | _,[]=>[]
 | u,b::l=>cV k u b.rows b.cols++dg k (u+1) l
def fe (n:Nat):List Part:=(List.range n).map fun i:Nat=>⟨3,(i:Int),0,0⟩
def dz (d:Deck):List Part:=dg 1 0 (aL d)++(dg 2 0 (aR d)++fe (d.borders.length-1))
def cO (d:Deck):List Part:=bif dE d != 0 then[]else dz d
def gV (k:Int):Int->List Go.VL.Box->Int->Part
 | _,[],_=>⟨k,0,0,0⟩
 | u,b::l,n=>bif decide (n<b.rows*b.cols)then⟨k,u,n/b.cols,n%b.cols⟩else gV k (u+1) l (n-b.rows*b.cols)
theorem gB (k u r c:Int):(cV k u r c).length=(r*c).toNat:=by simp[cV]
theorem il (k:Int):∀ (l:List Go.VL.Box) (u:Int),(∀ b∈l,cN b=true)->((dg k u l).length:Int)=bp l
 | [],_,_=>rfl
 | b :: l, u, h => by
   have h1:=dU (h b (by simp))
   have h2:=il k l (u+1) fun c hc=>h c (by simp[hc])
   simp only[dg,al,gB,bp];omega
theorem pu (k:Int):∀ (l:List Go.VL.Box) (u n:Int),(∀ b∈l,cN b=true)->0<=n->n<bp l->(dg k u l)[n.toNat]?=some (gV k u l n)
 | [],_,n,_,h0,h1=>by simp only[bp]at h1;omega
 | b :: l, u, n, h, h0, h1 => by
   have h3:=dU (h b (by simp))
   simp only[dg,gV]
   by_cases hn:n<b.rows*b.cols
   ·rw[dT hn,cT,bC (by rw[gB];omega)]
    simp only[cV]
    rw[aO,jh (by omega)]
    simp only[bo,bH h0]
   ·rw[dF hn,cF,bL (by rw[gB];omega),gB]
    have e:n.toNat-(b.rows*b.cols).toNat=(n-b.rows*b.cols).toNat:=by omega
    rw[e]
    exact pu k l (u+1) _ (fun c hc=>h c (by simp[hc])) (by omega) (by simp only[bp]at h1;omega)
theorem mW {d:Deck}(h:DeckOk d):((dz d).length:Int)=bp (aL d)+bp (aR d)+((d.borders.length:Int)-1):=by
 have h1:=il 1 (aL d) 0 h.boxP
 have h2:=il 2 (aR d) 0 h.boxR
 have h3:=h.lanes
 simp only[dz,al,fe,bB,ky];omega
def kU (d:Deck)(i:Int):Part×Int:=
 bif dE d != 0 then(⟨0,0,0,0⟩,dE d)else bif decide (i<0)then(⟨0,0,0,0⟩,3)else bif decide (i>=((dz d).length:Int))then(⟨0,0,0,0⟩,3)else
 ((dz d).getD i.toNat ⟨0,0,0,0⟩,0)
theorem ui {d:Deck}(h:DeckOk d){i:Int}(h0:0<=i)(h1:i<((dz d).length:Int)) :
  (dz d)[i.toNat]?=some (bif decide (i<bp (aL d))then gV 1 0 (aL d) i else bif decide (i<bp (aL d)+bp (aR d))then gV 2 0 (aR d) (i-bp (aL d))else⟨3,i-bp (aL d)-bp (aR d),0,0⟩):=by
 have hl:=mW h
 have l1:=il 1 (aL d) 0 h.boxP
 have l2:=il 2 (aR d) 0 h.boxR
 have hw:=h.wells
 have ht:=h.tips
 have hb:=h.lanes
 unfold dz
 by_cases c1:i<bp (aL d)
 ·rw[dT c1,cT,bC (by omega)]
  exact pu 1 _ 0 i h.boxP h0 c1
 ·rw[dF c1,cF,bL (by omega)]
  have e1:i.toNat-(dg 1 0 (aL d)).length=(i-bp (aL d)).toNat:=by omega
  rw[e1]
  by_cases c2:i<bp (aL d)+bp (aR d)
  ·rw[dT c2,cT,bC (by omega)]
   exact pu 2 _ 0 _ h.boxR (by omega) (by omega)
  ·rw[dF c2,cF,bL (by omega)]
   have e2:(i-bp (aL d)).toNat-(dg 2 0 (aR d)).length=(i-bp (aL d)-bp (aR d)).toNat:=by omega
   rw[e2,fe,aO,jh (by omega)]
   simp only[bo]
   rw[bH (by omega)]
def jb (d:Deck)(p:Part):Prop:=
 (p.kind=1/\0<=p.unit/\p.unit<(d.plates.length:Int))\/(p.kind=2/\0<=p.unit/\p.unit<(d.racks.length:Int))\/(p.kind=3/\0<=p.unit/\p.unit<(d.borders.length:Int)-1)
theorem fU {k:Int}:∀ {l:List Go.VL.Box} {u:Int} {p:Part},p∈dg k u l->p.kind=k/\u<=p.unit/\p.unit<u+(l.length:Int)
 | [],_,_,h=>by simp[dg]at h
 | b :: l, u, p, h => by
   simp only[dg,aA]at h
   rcases h with h|h
   ·obtain⟨n,_,rfl⟩:=aT.1 h
    refine⟨rfl,?_,?_⟩<;>simp
    omega
   ·obtain⟨h1,h2,h3⟩:=fU h
    simp only[ag]
    exact⟨h1,by omega,by omega⟩
theorem me {d:Deck}{p:Part}(h:p∈dz d):jb d p:=by
 simp only[dz,aA]at h
 rcases h with h|h|h
 ·obtain⟨h1,h2,h3⟩:=fU h
  simp only[aL,bB]at h3
  exact .inl ⟨h1,h2,by omega⟩
 ·obtain⟨h1,h2,h3⟩:=fU h
  simp only[aR,bB]at h3
  exact .inr (.inl ⟨h1,h2,by omega⟩)
 ·obtain⟨n,hn,rfl⟩:=aT.1 h
  have:=cz.1 hn
  exact .inr (.inr ⟨rfl,by simp,by simp;omega⟩)
def xd (d:Deck)(p:Part):Row:=bif p.kind==2 then⟨(d.racks.getD p.unit.toNat Ty.rack.dflt).x,(d.racks.getD p.unit.toNat Ty.rack.dflt).pitch,(d.racks.getD p.unit.toNat Ty.rack.dflt).reach⟩
 else⟨(d.plates.getD p.unit.toNat Ty.plate.dflt).x,(d.plates.getD p.unit.toNat Ty.plate.dflt).pitch,(d.plates.getD p.unit.toNat Ty.plate.dflt).reach⟩
def Mq (r:Row)(c:Int):Fl:=Fl.arith BinOp.add r.x (Fl.arith BinOp.mul (some (FloatKind.nearest FloatKind.f64 c)) r.pitch)
def iz (d:Deck)(p:Part):Span×Int:=bif p.kind==3 then(⟨p.unit,p.unit⟩,0)else kH d.borders (Mq (xd d p) p.col) (xd d p).reach
theorem Fz {l:List Fl}{x r:Fl}(h:(kH l x r).2=0):0<=(kH l x r).1.lo/\(kH l x r).1.lo<=(kH l x r).1.hi/\(kH l x r).1.hi<(l.length:Int)-1:=by
 unfold kH at h ⊢
 cases h1:db l != 0
 ·have hc:db l=0:=by simpa using h1
  rw[h1,cF]at h;rw[cF]
  cases h2:dh x
  ·rw[h2,cF]at h;rw[cF]
   cases h3:dh r
   ·rw[h3,cF]at h;rw[cF]
    cases h4:ltF r (some 0)
    ·rw[h4,cF]at h;rw[cF]
     cases h5:dh (loF x r)
     ·rw[h5,cF]at h;rw[cF]
      cases h6:dh (hiF x r)
      ·rw[h6,cF]at h;rw[cF]
       have hk:0<=cI r:=by
        rw[lr h3 (by decide +kernel),sB]at h4
        have:=oF h4;omega
       have hle:=KQ h2 h3 hk h5 h6
       obtain⟨hn,hp⟩:=sU hc
       obtain⟨g1,g2⟩:=jp hc
       unfold inS at h ⊢
       cases h7:ltF (hiF x r) (l.getD 0 (some 0))
       ·rw[h7,cF]at h;rw[cF]
        cases h8:gtF (loF x r) (l.getD (l.length-1) (some 0))
        ·rw[cF]
         have hn0:dh (l.getD 0 (some 0))=false:=hn _ (by rw[cJ (by omega)];exact aQ _)
         rw[lr h6 hn0]at h7
         have h7:=oF h7
         have b1:=(jN h6 hn hp 0 (by omega)).1 (by omega)
         have b2:=nh l (hiF x r)
         have b3:bZ l (loF x r)<=bZ l (hiF x r):=by
          rcases ay (bZ l (hiF x r)) (bZ l (loF x r))with hlt|hge
          ·exfalso
           have b4:=nh l (loF x r)
           have c1:=(jN h5 hn hp (bZ l (hiF x r)) (by omega)).2 hlt
           have c2:=(jN h6 hn hp (bZ l (hiF x r)) (by omega)).1 (by omega)
           omega
          ·exact hge
         simp only
         omega
        ·rw[h8]at h;cases h
       ·rw[h7]at h;cases h
      ·rw[h6]at h;cases h
     ·rw[h5]at h;cases h
    ·rw[h4]at h;cases h
   ·rw[h3]at h;cases h
  ·rw[h2]at h;cases h
 ·rw[h1,cT]at h
  rw[show db l=0 from h]at h1;cases h1
theorem Hv {d:Deck}{p:Part}(hv:jb d p)(h:(iz d p).2=0):0<=(iz d p).1.lo/\(iz d p).1.lo<=(iz d p).1.hi/\(iz d p).1.hi<(d.borders.length:Int)-1:=by
 unfold iz at h ⊢
 cases hk:p.kind==3
 ·rw[hk,cF]at h;rw[cF]
  exact Fz h
 ·rw[cT]
  have hk:p.kind=3:=by simpa using hk
  rcases hv with⟨a,_⟩|⟨a,_⟩|⟨_,a,b⟩
  ·omega
  ·omega
  ·simp only;omega
end Go.Proofs.Zn
