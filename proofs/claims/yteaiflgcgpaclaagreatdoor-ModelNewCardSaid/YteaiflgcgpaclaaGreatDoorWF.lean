/- Own work: part WF of the proof. -/
import Derived.Test.YteaiflgcgpaclaaGreatDoorWE
set_option linter.unusedVariables false
set_option linter.unusedSimpArgs false
namespace Go.Proofs.Zn
open Go.Proofs.Tryz
open Go Go.VL
theorem Ky (x:Fl):@Eq _ (xS prog codes sigs f119 [.int] 200 [⟨.flt,x⟩]) (.need (U2∧True) (.callP 198 [⟨.flt,x⟩] [.flt] fun (x_1:Option Nat)=>bif Fl.cmp x x != some Ordering.eq then .need U2 (.ret (1:Int)) else bif Fl.cmp x_1 (some 9218868437227405311)==some Ordering.gt then .need U2 (.ret (2:Int)) else bif Fl.cmp x_1 (some 0)==some Ordering.eq then .need U2 (.ret (3:Int)) else bif Fl.cmp x_1 (some 4503599627370496)==some Ordering.lt then .need U2 (.ret (4:Int)) else .need U2 (.ret (5:Int)))):=by kernel_rfl
theorem HY (x:Int):@Eq _ (xS prog codes sigs f122 [.int] 200 [⟨.u64,x⟩]) (.need ((0:Int)≤52) (.need ((2048:Int)≠(0:Int)) (.need ((4503599627370496:Int)≠(0:Int)) (bif Int.tmod (Int.fdiv x ((2:Int) ^ min 52 (IntKind.bits .u64))) (2048:Int)==2047 then bif Int.tmod x (4503599627370496:Int) != 0 then .need U2 (.ret (1:Int)) else bif Int.tmod (Int.fdiv x ((2:Int) ^ min 52 (IntKind.bits .u64))) (2048:Int)==2047 then .need U2 (.ret (2:Int)) else bif Int.tmod (Int.fdiv x ((2:Int) ^ min 52 (IntKind.bits .u64))) (2048:Int)==0 then bif Int.tmod x (4503599627370496:Int)==0 then .need U2 (.ret (3:Int)) else bif Int.tmod (Int.fdiv x ((2:Int) ^ min 52 (IntKind.bits .u64))) (2048:Int)==0 then .need U2 (.ret (4:Int)) else .need U2 (.ret (5:Int)) else bif Int.tmod (Int.fdiv x ((2:Int) ^ min 52 (IntKind.bits .u64))) (2048:Int)==0 then .need U2 (.ret (4:Int)) else .need U2 (.ret (5:Int)) else bif Int.tmod (Int.fdiv x ((2:Int) ^ min 52 (IntKind.bits .u64))) (2048:Int)==2047 then .need U2 (.ret (2:Int)) else bif Int.tmod (Int.fdiv x ((2:Int) ^ min 52 (IntKind.bits .u64))) (2048:Int)==0 then bif Int.tmod x (4503599627370496:Int)==0 then .need U2 (.ret (3:Int)) else bif Int.tmod (Int.fdiv x ((2:Int) ^ min 52 (IntKind.bits .u64))) (2048:Int)==0 then .need U2 (.ret (4:Int)) else .need U2 (.ret (5:Int)) else bif Int.tmod (Int.fdiv x ((2:Int) ^ min 52 (IntKind.bits .u64))) (2048:Int)==0 then .need U2 (.ret (4:Int)) else .need U2 (.ret (5:Int)))))):=by kernel_rfl
theorem t142 (x:Fl):@Eq _ (xS prog codes sigs f251 [.bool] 200 [⟨.flt,x⟩]) (.need (U2∧True) (.callP 119 [⟨.flt,x⟩] [.int] fun (x:Int)=>.need U2 (.ret (x==1)))):=by kernel_rfl
theorem Iq (x:Fl):@Eq _ (xS prog codes sigs f264 [.bool] 200 [⟨.flt,x⟩]) (.need (U2∧True) (.callP 296 [⟨.flt,x⟩] [.u64] fun (x:Int)=>.need (U2∧True) (.callP 122 [⟨.u64,x⟩] [.int] fun (x:Int)=>.need U2 (.ret (x==1))))):=by kernel_rfl
theorem t143 (l:List Fl):@Eq _ (xS prog codes sigs f252 [.int] 200 [⟨.sl .flt,l⟩]) (.need U2 (.ret (w64 ((l.length:Int) - (1:Int))))):=by kernel_rfl
theorem It (l:List Fl) (x:Fl):@Eq _ (xS prog codes sigs f253 [.int] 200 [⟨.sl .flt,l⟩,⟨.flt,x⟩]) (.need (U2∧True) (.callP 252 [⟨.sl .flt,l⟩] [.int] fun (x_1:Int)=>.need (((0:Int)≤0∧(0:Int)≤x_1∧x_1≤(l.length:Int))∧True) (.stop (hd f253 0) (mkS 25 [(1,.d (.f x)),(5,i64 0),(11,.d (.sl .flt (List.drop 0 (List.take x_1.toNat l)))),(12,i64 (↑(List.drop 0 (List.take x_1.toNat l)).length:Int)),(13,i64 0)] [] 0)))):=by kernel_rfl
theorem t125 (l:List Fl):@Eq _ (xS prog codes sigs f202 [.int] 200 [⟨.sl .flt,l⟩]) (bif decide ((l.length:Int) < 2) then .need U2 (.ret (1:Int)) else bif decide ((l.length:Int) > 25) then .need U2 (.ret (2:Int)) else .stop (hd f202 0) (mkS 35 [(0,.d (.sl .flt l)),(13,.d (.sl .flt l)),(14,i64 (l.length:Int)),(15,i64 0)] [] 0)):=by kernel_rfl
theorem Iv (l:List Fl):@Eq _ (xS prog codes sigs f218 [.int] 200 [⟨.sl .flt,l⟩]) (bif decide ((l.length:Int) < 2) then .need U2 (.ret (1:Int)) else bif decide ((l.length:Int) > 25) then .need U2 (.ret (2:Int)) else .stop (hd f218 0) (mkS 35 [(0,.d (.sl .flt l)),(3,i64 0)] [] 0)):=by kernel_rfl
theorem t119 (l:List Fl) (x r:Fl):@Eq _ (xS prog codes sigs f206 [.span,.int] 200 [⟨.sl .flt,l⟩,⟨.flt,x⟩,⟨.flt,r⟩]) (.need (U2∧True) (.callP 202 [⟨.sl .flt,l⟩] [.int] fun (x_1:Int)=>bif x_1 != 0 then .need (U3∧U2) (.ret (Span.mk (0:Int) (0:Int),x_1)) else .need (U2∧True) (.callP 251 [⟨.flt,x⟩] [.bool] fun (x_2:Bool)=>bif x_2 then .need (U3∧U2) (.ret (Span.mk (0:Int) (0:Int),(20:Int))) else .need (U2∧True) (.callP 251 [⟨.flt,r⟩] [.bool] fun (x_3:Bool)=>bif x_3 then .need (U3∧U2) (.ret (Span.mk (0:Int) (0:Int),(20:Int))) else bif Fl.cmp r (some 0)==some Ordering.lt then .need (U3∧U2) (.ret (Span.mk (0:Int) (0:Int),(22:Int))) else .need (U2∧True) (.callP 251 [⟨.flt,(Fl.arith BinOp.sub x r)⟩] [.bool] fun (x_4:Bool)=>bif x_4 then .need (U3∧U2) (.ret (Span.mk (0:Int) (0:Int),(20:Int))) else .need (U2∧True) (.callP 251 [⟨.flt,(Fl.arith BinOp.add x r)⟩] [.bool] fun (x_5:Bool)=>bif x_5 then .need (U3∧U2) (.ret (Span.mk (0:Int) (0:Int),(20:Int))) else .need (((0:Int)≤0∧(0:Int) < (l.length:Int))∧True) (bif Fl.cmp (Fl.arith BinOp.add x r) (l.getD 0 Ty.flt.dflt)==some Ordering.lt then .need (U3∧U2) (.ret (Span.mk (0:Int) (0:Int),(71:Int))) else .need (U2∧True) (.callP 252 [⟨.sl .flt,l⟩] [.int] fun (x_6:Int)=>.need (((0:Int)≤x_6∧x_6 < (l.length:Int))∧True) (bif Fl.cmp (Fl.arith BinOp.sub x r) (l.getD x_6.toNat Ty.flt.dflt)==some Ordering.gt then .need (U3∧U2) (.ret (Span.mk (0:Int) (0:Int),(71:Int))) else .need (U2∧U2∧True) (.callP 253 [⟨.sl .flt,l⟩,⟨.flt,(Fl.arith BinOp.sub x r)⟩] [.int] fun (x_7:Int)=>.need (U2∧U2∧True) (.callP 253 [⟨.sl .flt,l⟩,⟨.flt,(Fl.arith BinOp.add x r)⟩] [.int] fun (x:Int)=>.need (U3∧U2) (.ret (Span.mk (w64 ((if (1:Int) > x_7 then (1:Int) else x_7) - (1:Int))) (w64 (x - (1:Int))),(0:Int)))))))))))))):=by kernel_rfl
theorem Iw (l:List Fl) (x r:Fl):@Eq _ (xS prog codes sigs f255 [.span,.int] 200 [⟨.sl .flt,l⟩,⟨.flt,x⟩,⟨.flt,r⟩]) (.need (U2∧True) (.callP 218 [⟨.sl .flt,l⟩] [.int] fun (x_1:Int)=>bif x_1 != 0 then .need (U3∧U2) (.ret (Span.mk (0:Int) (0:Int),x_1)) else .need (U2∧True) (.callP 264 [⟨.flt,x⟩] [.bool] fun (x_2:Bool)=>bif x_2 then .need (U3∧U2) (.ret (Span.mk (0:Int) (0:Int),(20:Int))) else .need (U2∧True) (.callP 264 [⟨.flt,r⟩] [.bool] fun (x_3:Bool)=>bif x_3 then .need (U3∧U2) (.ret (Span.mk (0:Int) (0:Int),(20:Int))) else bif Fl.cmp r (some 0)==some Ordering.lt then .need (U3∧U2) (.ret (Span.mk (0:Int) (0:Int),(22:Int))) else .need (U2∧True) (.callP 264 [⟨.flt,(Fl.arith BinOp.sub x r)⟩] [.bool] fun (x_4:Bool)=>bif x_4 then .need (U3∧U2) (.ret (Span.mk (0:Int) (0:Int),(20:Int))) else .need (U2∧True) (.callP 264 [⟨.flt,(Fl.arith BinOp.add x r)⟩] [.bool] fun (x_5:Bool)=>bif x_5 then .need (U3∧U2) (.ret (Span.mk (0:Int) (0:Int),(20:Int))) else .stop (hd f255 0) (mkS 72 [(0,.d (.sl .flt l)),(6,.ptr 0 0),(9,.d (.f (Fl.arith BinOp.sub x r))),(10,.d (.f (Fl.arith BinOp.add x r))),(11,nS),(12,i64 0)] [(0,.box [i64 0,i64 0])] 1))))))):=by kernel_rfl
theorem In (l:List Fl) (k:Int) (a b:Fl):@Eq _ (xS prog codes sigs f288 [.bool] 200 [⟨.sl .flt,l⟩,⟨.int,k⟩,⟨.flt,a⟩,⟨.flt,b⟩]) (bif w64 (k+2)==(l.length:Int) then .need (((0:Int)≤w64 (k+1)∧w64 (k+1) < (l.length:Int))∧True) (bif Fl.cmp a (l.getD (w64 (k+1)).toNat Ty.flt.dflt)==some Ordering.lt || Fl.cmp a (l.getD (w64 (k+1)).toNat Ty.flt.dflt)==some Ordering.eq then .need (((0:Int)≤k∧k < (l.length:Int))∧True) (.need U2 (.ret (Fl.cmp b (l.getD k.toNat Ty.flt.dflt)==some Ordering.gt || Fl.cmp b (l.getD k.toNat Ty.flt.dflt)==some Ordering.eq))) else .need U2 (.ret false)) else .need (((0:Int)≤w64 (k+1)∧w64 (k+1) < (l.length:Int))∧True) (bif Fl.cmp a (l.getD (w64 (k+1)).toNat Ty.flt.dflt)==some Ordering.lt then .need (((0:Int)≤k∧k < (l.length:Int))∧True) (.need U2 (.ret (Fl.cmp b (l.getD k.toNat Ty.flt.dflt)==some Ordering.gt || Fl.cmp b (l.getD k.toNat Ty.flt.dflt)==some Ordering.eq))) else .need U2 (.ret false))):=by kernel_rfl
theorem t141 (b:Go.VL.Box):@Eq _ (xS prog codes sigs f217 [.int] 200 [⟨.box,b⟩]) (.need U2 (.ret (w64 (Box.rows b * Box.cols b)))):=by kernel_rfl
theorem t126 (b:Go.VL.Box):@Eq _ (xS prog codes sigs f203 [.bool] 200 [⟨.box,b⟩]) (bif decide (Box.rows b≥1) then bif decide (Box.rows b≤32) then bif decide (Box.cols b≥1) then .need U2 (.ret (decide (Box.cols b≤48))) else .need U2 (.ret false) else .need U2 (.ret false) else .need U2 (.ret false)):=by kernel_rfl
theorem t127 (p:Plate):@Eq _ (xS prog codes sigs f204 [.bool] 200 [⟨.plate,p⟩]) (bif decide (p.cap < 1) then .need U2 (.ret false) else bif decide (p.cap > 1099511627776) then .need U2 (.ret false) else bif decide ((p.start.length:Int) > w64 (p.rows * p.cols)) then .need U2 (.ret false) else .stop (hd f204 0) (mkS 40 [(1,.ptr 0 0),(25,.d (.sl .int p.start)),(26,i64 (p.start.length:Int)),(27,i64 0)] [(0,.box [i64 p.rows,i64 p.cols,.d (.f p.x),.d (.f p.pitch),.d (.f p.reach),i64 p.cap,.d (.sl .int p.start)])] 1)):=by kernel_rfl
theorem Iu (l:List Go.VL.Box):@Eq _ (xS prog codes sigs f141 [.int] 200 [⟨.sl .box,l⟩]) (.stop (hd f141 0) (mkS 18 [(3,i64 0),(6,.d (.sl .box l)),(7,i64 (l.length:Int)),(8,i64 0)] [] 0)):=by kernel_rfl
theorem t117 (d:Deck):@Eq _ (xS prog codes sigs f142 [.sl .box] 200 [⟨.deck,d⟩]) (.stop (hd f142 0) (mkS 23 [(3,nS),(7,.d (.sl .plate d.plates)),(8,i64 (d.plates.length:Int)),(9,i64 0)] [] 0)):=by kernel_rfl
theorem t118 (d:Deck):@Eq _ (xS prog codes sigs f143 [.sl .box] 200 [⟨.deck,d⟩]) (.stop (hd f143 0) (mkS 23 [(3,nS),(7,.d (.sl .rack d.racks)),(8,i64 (d.racks.length:Int)),(9,i64 0)] [] 0)):=by kernel_rfl
theorem t92 (d:Deck):@Eq _ (xS prog codes sigs f125 [.int] 300 [⟨.deck,d⟩]) (.need (U2∧True) (.callP 202 [⟨.sl .flt,d.borders⟩] [.int] fun (x:Int)=>bif x != 0 then .need U2 (.ret x) else bif decide (d.arms < 1) then .need U2 (.ret (80:Int)) else bif decide (d.arms > 8) then .need U2 (.ret (80:Int)) else bif decide ((d.plates.length:Int) > 4) then .need U2 (.ret (2:Int)) else bif decide ((d.racks.length:Int) > 4) then .need U2 (.ret (2:Int)) else .need (U5∧True) (.callP 142 [⟨.deck,d⟩] [.sl .box] fun (x:List Box)=>.need (U5∧True) (.callP 143 [⟨.deck,d⟩] [.sl .box] fun (x_1:List Box)=>.stop (hd f125 0) (mkS 78 [(1,.ptr 0 0),(4,.d (.sl .box x)),(5,.d (.sl .box x_1)),(40,.d (.sl .box x)),(41,i64 (x.length:Int)),(42,i64 0)] [(0,.box (dC d))] 1))))):=by kernel_rfl
theorem t115 (d:Deck):@Eq _ (xS prog codes sigs f84 [.int,.int,.int] 200 [⟨.deck,d⟩]) (.need (U5∧True) (.callP 125 [⟨.deck,d⟩] [.int] fun (x:Int)=>bif x != 0 then .need (U2∧U2∧U2) (.ret ((0:Int),(0:Int),(0:Int))) else .need (U5∧True) (.callP 142 [⟨.deck,d⟩] [.sl .box] fun (x:List Box)=>.need (U2∧True) (.callP 141 [⟨.sl .box,x⟩] [.int] fun (x:Int)=>.need (U5∧True) (.callP 143 [⟨.deck,d⟩] [.sl .box] fun (x_1:List Box)=>.need (U2∧True) (.callP 141 [⟨.sl .box,x_1⟩] [.int] fun (x_2:Int)=>.need (U2∧U2∧U2) (.ret (x,x_2,w64 ((d.borders.length:Int) - (1:Int)))))))))):=by kernel_rfl
theorem t116 (l:List Go.VL.Box) (k n:Int):@Eq _ (xS prog codes sigs f208 [.part] 200 [⟨.sl .box,l⟩,⟨.int,k⟩,⟨.int,n⟩]) (.stop (hd f208 0) (mkS 41 [(2,i64 n),(6,.ptr 0 0),(7,.ptr 1 0),(12,.d (.sl .box l)),(13,i64 (l.length:Int)),(14,i64 0)] [(0,.box [i64 0,i64 0,i64 0,i64 0]),(1,.box [i64 k,i64 0,i64 0,i64 0])] 2)):=by kernel_rfl
theorem t84 (d:Deck) (i:Int):@Eq _ (xS prog codes sigs f130 [.part,.int] 200 [⟨.deck,d⟩,⟨.int,i⟩]) (.need (U5∧True) (.callP 125 [⟨.deck,d⟩] [.int] fun (x:Int)=>bif x != 0 then .need (U5∧U2) (.ret (Part.mk (0:Int) (0:Int) (0:Int) (0:Int),x)) else .need (U5∧True) (.callP 84 [⟨.deck,d⟩] [.int,.int,.int] fun (x:Int×Int×Int)=>bif decide (i < 0) then .need (U5∧U2) (.ret (Part.mk (0:Int) (0:Int) (0:Int) (0:Int),(3:Int))) else bif decide (i≥w64 (w64 (x.1+x.2.1)+x.2.2)) then .need (U5∧U2) (.ret (Part.mk (0:Int) (0:Int) (0:Int) (0:Int),(3:Int))) else bif decide (i < x.1) then .need (U5∧True) (.callP 142 [⟨.deck,d⟩] [.sl .box] fun (x:List Box)=>.need (U2∧U2∧U2∧True) (.callP 208 [⟨.sl .box,x⟩,⟨.int,(1:Int)⟩,⟨.int,i⟩] [.part] fun (x:Part)=>.need (U5∧U2) (.ret (x,(0:Int))))) else bif decide (i < w64 (x.1+x.2.1)) then .need (U5∧True) (.callP 143 [⟨.deck,d⟩] [.sl .box] fun (x_1:List Box)=>.need (U2∧U2∧U2∧True) (.callP 208 [⟨.sl .box,x_1⟩,⟨.int,(2:Int)⟩,⟨.int,(w64 (i - x.1))⟩] [.part] fun (x:Part)=>.need (U5∧U2) (.ret (x,(0:Int))))) else .need (U5∧U2) (.ret (Part.mk (3:Int) (w64 (w64 (i - x.1) - x.2.1)) (0:Int) (0:Int),(0:Int)))))):=by kernel_rfl
theorem t123 (r c:Int):@Eq _ (xS prog codes sigs f220 [.bool] 200 [⟨.int,r⟩,⟨.int,c⟩]) (bif decide (r≥1) then bif decide (r≤32) then bif decide (c≥1) then .need U2 (.ret (decide (c≤48))) else .need U2 (.ret false) else .need U2 (.ret false) else .need U2 (.ret false)):=by kernel_rfl
theorem t122 (p:Plate):@Eq _ (xS prog codes sigs f219 [.bool] 200 [⟨.plate,p⟩]) (.need (U2∧U2∧True) (.callP 220 [⟨.int,p.rows⟩,⟨.int,p.cols⟩] [.bool] fun (x:Bool)=>bif !x then .need U2 (.ret false) else bif decide (p.cap < 1) then .need U2 (.ret false) else bif decide (p.cap > 1099511627776) then .need U2 (.ret false) else bif decide ((p.start.length:Int) > w64 (p.rows * p.cols)) then .need U2 (.ret false) else .stop (hd f219 0) (mkS 54 [(1,.ptr 0 0),(3,i64 0)] [(0,.box [i64 p.rows,i64 p.cols,.d (.f p.x),.d (.f p.pitch),.d (.f p.reach),i64 p.cap,.d (.sl .int p.start)])] 1))):=by kernel_rfl
theorem t89 (d:Deck):@Eq _ (xS prog codes sigs f153 [.int] 300 [⟨.deck,d⟩]) (.need (U2∧True) (.callP 218 [⟨.sl .flt,d.borders⟩] [.int] fun (x:Int)=>bif x != 0 then .need U2 (.ret x) else bif decide (d.arms < 1) then .need U2 (.ret (80:Int)) else bif decide (d.arms > 8) then .need U2 (.ret (80:Int)) else bif decide ((d.plates.length:Int) > 4) then .need U2 (.ret (2:Int)) else bif decide ((d.racks.length:Int) > 4) then .need U2 (.ret (2:Int)) else .stop (hd f153 0) (mkS 103 [(1,.ptr 0 0),(4,i64 0),(5,i64 0),(6,i64 0)] [(0,.box (dC d))] 1))):=by kernel_rfl
theorem t124 (k u r c:Int):@Eq _ (xS prog codes sigs f154 [.sl .part] 200 [⟨.int,k⟩,⟨.int,u⟩,⟨.int,r⟩,⟨.int,c⟩]) (.stop (hd f154 0) (mkS 31 [(0,i64 k),(1,i64 u),(2,i64 r),(3,i64 c),(9,nS),(10,i64 0)] [] 0)):=by kernel_rfl
theorem t90 (d:Deck):@Eq _ (xS prog codes sigs f88 [.sl .part] 200 [⟨.deck,d⟩]) (.need (U5∧True) (.callP 153 [⟨.deck,d⟩] [.int] fun (x:Int)=>bif x != 0 then .need U2 (.ret []) else .stop (hd f88 0) (mkS 71 [(1,.ptr 0 0),(3,nS),(4,i64 0)] [(0,.box (dC d))] 1))):=by kernel_rfl
theorem Ih (d:Deck):@Eq _ (xS prog codes sigs f152 [.int,.int,.int] 200 [⟨.deck,d⟩]) (.need (U5∧True) (.callP 88 [⟨.deck,d⟩] [.sl .part] fun (x:List Part)=>.stop (hd f152 0) (mkS 31 [(5,.ptr 0 0),(6,.d (.sl .part x)),(7,i64 0)] [(0,.box [i64 0,i64 0,i64 0,i64 0])] 1))):=by kernel_rfl
theorem t87 (d:Deck) (p:Part):@Eq _ (xS prog codes sigs f205 [.row] 200 [⟨.deck,d⟩,⟨.part,p⟩]) (bif p.kind==2 then .need (((0:Int)≤p.unit∧p.unit < (d.racks.length:Int))∧True) (.need U4 (.ret (Row.mk (d.racks.getD p.unit.toNat Ty.rack.dflt).x (d.racks.getD p.unit.toNat Ty.rack.dflt).pitch (d.racks.getD p.unit.toNat Ty.rack.dflt).reach))) else .need (((0:Int)≤p.unit∧p.unit < (d.plates.length:Int))∧True) (.need U4 (.ret (Row.mk (d.plates.getD p.unit.toNat Ty.plate.dflt).x (d.plates.getD p.unit.toNat Ty.plate.dflt).pitch (d.plates.getD p.unit.toNat Ty.plate.dflt).reach)))):=by kernel_rfl
theorem t88 (r:Row) (c:Int):@Eq _ (xS prog codes sigs f207 [.flt] 200 [⟨.row,r⟩,⟨.int,c⟩]) (.need U2 (.ret (Fl.arith BinOp.add (Row.x r) (Fl.arith BinOp.mul (some (FloatKind.nearest FloatKind.f64 c)) (Row.pitch r))))):=by kernel_rfl
theorem t85 (d:Deck) (p:Part):@Eq _ (xS prog codes sigs f127 [.span,.int] 200 [⟨.deck,d⟩,⟨.part,p⟩]) (bif p.kind==3 then .need (U3∧U2) (.ret (Span.mk p.unit p.unit,(0:Int))) else .need (U5∧U5∧True) (.callP 205 [⟨.deck,d⟩,⟨.part,p⟩] [.row] fun (x:Row)=>.need (U4∧U2∧True) (.callP 207 [⟨.row,x⟩,⟨.int,p.col⟩] [.flt] fun (x_1:Option Nat)=>.need (U2∧U2∧U2∧True) (.callP 206 [⟨.sl .flt,d.borders⟩,⟨.flt,x_1⟩,⟨.flt,(Row.reach x)⟩] [.span,.int] fun (x:Span×Int)=>.need (U3∧U2) (.ret (x.1,x.2)))))):=by kernel_rfl
theorem t44 (d:Deck) (p:Part):@Eq _ (xS prog codes sigs f254 [.flt,.flt] 200 [⟨.deck,d⟩,⟨.part,p⟩]) (bif p.kind==1 then .need (((0:Int)≤p.unit∧p.unit < (d.plates.length:Int))∧True) (.need (U2∧U2) (.ret (Fl.arith BinOp.add (d.plates.getD p.unit.toNat Ty.plate.dflt).x (Fl.arith BinOp.mul (some (FloatKind.nearest FloatKind.f64 p.col)) (d.plates.getD p.unit.toNat Ty.plate.dflt).pitch),(d.plates.getD p.unit.toNat Ty.plate.dflt).reach))) else .need (((0:Int)≤p.unit∧p.unit < (d.racks.length:Int))∧True) (.need (U2∧U2) (.ret (Fl.arith BinOp.add (d.racks.getD p.unit.toNat Ty.rack.dflt).x (Fl.arith BinOp.mul (some (FloatKind.nearest FloatKind.f64 p.col)) (d.racks.getD p.unit.toNat Ty.rack.dflt).pitch),(d.racks.getD p.unit.toNat Ty.rack.dflt).reach)))):=by kernel_rfl
theorem t86 (d:Deck) (p:Part):@Eq _ (xS prog codes sigs f209 [.span,.int] 200 [⟨.deck,d⟩,⟨.part,p⟩]) (bif p.kind==3 then .need (U3∧U2) (.ret (Span.mk p.unit p.unit,(0:Int))) else .need (U5∧U5∧True) (.callP 254 [⟨.deck,d⟩,⟨.part,p⟩] [.flt,.flt] fun (x:Option Nat×Option Nat)=>.need (U2∧U2∧U2∧True) (.callP 255 [⟨.sl .flt,d.borders⟩,⟨.flt,x.1⟩,⟨.flt,x.2⟩] [.span,.int] fun (x:Span×Int)=>.need (U3∧U2) (.ret (x.1,x.2))))):=by kernel_rfl
theorem t37 (d:Deck):@Eq _ (xS prog codes sigs f25 [.bool] 200 [⟨.deck,d⟩]) (bif decide ((d.borders.length:Int) > 60) then .need U2 (.ret true) else bif decide ((d.plates.length:Int) > 8) then .need U2 (.ret true) else bif decide ((d.racks.length:Int) > 8) then .need U2 (.ret true) else .stop (hd f25 0) (mkS 35 [(1,.ptr 0 0),(3,i64 0)] [(0,.box (dC d))] 1)):=by kernel_rfl
end Go.Proofs.Zn

/- No-numbers. (Own work.) -/
namespace Go.Proofs.Zn
open Go.Proofs.Tryz
open Go Go.VL
def da:Fl→Bool
 | none=>true
 | some b=>(FloatKind.f64.format.read b).isNaN
theorem wG (d:Ieee.Datum):(d.order d != some .eq)=d.isNaN:=by
 cases d with
 | nan s t=>rfl
 | infinity s=>cases s <;> rfl
 | number s m i =>
   have:(Ieee.Datum.number s m i).order (Ieee.Datum.number s m i)=some .eq:=by
    simp only [Ieee.Datum.order]
    congr 1
    exact Std.ReflCmp.compare_self
   rw [this];rfl
theorem vR (x:Fl):(Fl.cmp x x != some .eq)=da x:=by
 cases x with
 | none=>rfl
 | some b=>exact wG (FloatKind.f64.format.read b)
theorem vn (b:Nat):(FloatKind.f64.format.read b).isNaN=decide (b / 4503599627370496 % 2048=2047∧b % 4503599627370496≠0):=by
 have e1:FloatKind.f64.format.signWeight=9223372036854775808:=by decide
 have e2:FloatKind.f64.format.binade=4503599627370496:=by decide
 have e3:FloatKind.f64.format.infRung=9218868437227405312:=by decide
 simp only [Ieee.Format.read,e1,e2,e3]
 by_cases h1:b % 9223372036854775808 < 4503599627370496
 ·rw [aF h1,dF (by omega)];rfl
 ·rw [aJ h1]
  by_cases h2:b % 9223372036854775808 < 9218868437227405312
  ·rw [aF h2,dF (by omega)];rfl
  ·rw [aJ h2]
   by_cases h3:b % 9223372036854775808=9218868437227405312
   ·rw [aF h3,dF (by omega)];rfl
   ·rw [aJ h3,dT (by omega)];rfl
def cls5 (p q r s:Bool):Int:=bif p && q then 1 else bif p then 2 else bif r && s then 3 else bif r then 4 else 5
theorem Jl (n:Nat):∃ r:Int,Pure prog 122 [⟨.u64,(n:Int)⟩] [.int] r∧(r==1)=da (some n):=by
 refine ⟨cls5 (Int.tmod (Int.fdiv (n:Int) (2 ^ min 52 (IntKind.bits IntKind.u64))) 2048==2047) (Int.tmod (n:Int) 4503599627370496 != 0) (Int.tmod (Int.fdiv (n:Int) (2 ^ min 52 (IntKind.bits IntKind.u64))) 2048==0) (Int.tmod (n:Int) 4503599627370496==0),?_,?_⟩
 ·refine ofT func122 (HY n) (by kernel_rfl) (by kernel_rfl) fun A=>?_
  generalize (Int.tmod (Int.fdiv (n:Int) (2 ^ min 52 (IntKind.bits IntKind.u64))) 2048==2047)=p
  generalize (Int.tmod (n:Int) 4503599627370496 != 0)=q
  generalize (Int.tmod (Int.fdiv (n:Int) (2 ^ min 52 (IntKind.bits IntKind.u64))) 2048==0)=r
  generalize (Int.tmod (n:Int) 4503599627370496==0)=s
  refine ⟨by decide,by decide,by decide,?_⟩
  cases p <;> cases q <;> cases r <;> cases s <;> exact ⟨q2,rfl⟩
 ·have e1:(2:Int) ^ min 52 (IntKind.bits IntKind.u64)=4503599627370496:=by decide
  have e2:Int.tmod (Int.fdiv (n:Int) 4503599627370496) 2048=((n / 4503599627370496 % 2048:Nat):Int):=by
   rw [fh _ (by decide),dS (by omega)];omega
  have e3:Int.tmod (n:Int) 4503599627370496=((n % 4503599627370496:Nat):Int):=by
   rw [dS (by omega)];omega
  rw [e1,e2,e3]
  show _=(FloatKind.f64.format.read n).isNaN
  rw [vn]
  generalize n / 4503599627370496 % 2048=a
  generalize n % 4503599627370496=c
  by_cases ha:a=2047
  ·subst ha
   by_cases hc:c=0
   ·subst hc;rfl
   ·have h1:((c:Int) != 0)=true:=by simpa using hc
    have h2:((c:Int)==0)=false:=by simpa using hc
    rw [h1,h2,dT ⟨rfl,hc⟩];rfl
  ·have h1:((a:Int)==2047)=false:=by simp;omega
   rw [h1,dF (fun h=>ha h.1)]
   generalize ((c:Int) != 0)=x
   generalize ((a:Int)==0)=y
   generalize ((c:Int)==0)=z
   cases x <;> cases y <;> cases z <;> rfl
theorem xp (x:Fl):Pure prog 264 [⟨.flt,x⟩] [.bool] (da x):=by
 have key:∀ b:Nat,Pure prog 264 [⟨.flt,some b⟩] [.bool] (da (some b)):=fun b=>by
  obtain ⟨r,h1,h2⟩:=Jl b
  exact ofT func264 (Iq (some b)) (by kernel_rfl) (by kernel_rfl) fun _=>⟨⟨q2,trivial⟩,_,c43 b,⟨q2,trivial⟩,_,h1,q2,h2⟩
 cases x with
 | some b=>exact key b
 | none=>exact Pure.nan fun b hb=>(key b).eq hb
theorem c154 (x:Fl):∃ r:Int,Pure prog 119 [⟨.flt,x⟩] [.int] r∧(r==1)=da x:=by
 have key:∀ b:Nat,∃ r:Int,Pure prog 119 [⟨.flt,some b⟩] [.int] r∧(r==1)=da (some b)∧(da (some b)=true→r=1):=fun b=>by
  generalize hy:(some (bits BinOp.andNot IntKind.u64 (b:Int) 9223372036854775808).toNat:Fl)=y
  have c:=GM b
  rw [hy] at c
  refine ⟨bif da (some b) then 1 else bif Fl.cmp y (some 9218868437227405311)==some Ordering.gt then 2 else bif Fl.cmp y (some 0)==some Ordering.eq then 3 else bif Fl.cmp y (some 4503599627370496)==some Ordering.lt then 4 else 5,?_,?_,fun h=>by rw [h];rfl⟩
  ·refine ofT func119 (Ky (some b)) (by kernel_rfl) (by kernel_rfl) fun A=>⟨⟨q2,trivial⟩,_,c,?_⟩
   rw [vR]
   exact cK (fun _=>⟨q2,rfl⟩) (fun _=>cK (fun _=>⟨q2,rfl⟩) (fun _=>cK (fun _=>⟨q2,rfl⟩) (fun _=>cK (fun _=>⟨q2,rfl⟩) (fun _=>⟨q2,rfl⟩))))
  ·cases da (some b)
   ·cases Fl.cmp y (some 9218868437227405311)==some Ordering.gt <;> cases Fl.cmp y (some 0)==some Ordering.eq <;> cases Fl.cmp y (some 4503599627370496)==some Ordering.lt <;> rfl
   ·rfl
 cases x with
 | some b=>obtain ⟨r,h1,h2,_⟩:=key b;exact ⟨r,h1,h2⟩
 | none=>exact ⟨1,Pure.nan fun b hb=>by
  obtain ⟨r,h1,_,h3⟩:=key b
  exact h1.eq (h3 hb),rfl⟩
theorem Ew (x:Fl):Pure prog 251 [⟨.flt,x⟩] [.bool] (da x):=by
 obtain ⟨r,h1,h2⟩:=c154 x
 exact ofT func251 (t142 x) (by kernel_rfl) (by kernel_rfl) fun _=>⟨⟨q2,trivial⟩,_,h1,q2,h2⟩
def ki (l:List Fl):Int:=(l.length:Int) - 1
theorem LO {l:List Fl} (h:l.length≤1000000):Pure prog 252 [⟨.sl .flt,l⟩] [.int] (ki l):=
 ofT func252 (t143 l) (by kernel_rfl) (by kernel_rfl) fun _=>⟨q2,aA (by omega) (by omega)⟩
end Go.Proofs.Zn

namespace Go.Proofs.Zn
open Go.Proofs.Tryz
open Go Go.VL
def My (l:List Fl) (x:Fl) (n i:Int):AS:=mkS 25 [(1,.d (.f x)),(5,i64 n),(11,.d (.sl .flt l)),(12,i64 l.length),(13,i64 i)] [] 0
def MA (l:List Fl) (i:Int):AS:=mkS 35 [(0,.d (.sl .flt l)),(13,.d (.sl .flt l)),(14,i64 l.length),(15,i64 i)] [] 0
def MC (l:List Fl) (i:Int):AS:=mkS 35 [(0,.d (.sl .flt l)),(3,i64 i)] [] 0
def Jz (l:List Fl) (a b:Fl) (out:List Int) (i:Int):AS:=mkS 72 [(0,.d (.sl .flt l)),(6,.ptr 0 0),(9,.d (.f a)),(10,.d (.f b)),(11,.own 1 .int),(12,i64 i)] [(0,.box [i64 0,i64 0]),(1,.row 3 .int out)] 2
theorem KA (l:List Fl) (x:Fl) (n i:Int):@Eq _ (xL prog codes sigs f253 [.int] 200 0 (My l x n i)) (bif decide (i < (l.length:Int)) then .need (((0:Int)≤i∧i < (l.length:Int))∧True) (bif ! (Fl.cmp (l.getD i.toNat Ty.flt.dflt) x==some Ordering.lt || Fl.cmp (l.getD i.toNat Ty.flt.dflt) x==some Ordering.eq) then .need U2 (.ret n) else .stop (hd f253 0) (mkS 25 [(1,.d (.f x)),(5,i64 (w64 (n+1))),(11,.d (.sl .flt l)),(12,i64 (l.length:Int)),(13,i64 (w64 (i+1)))] [] 0)) else .need U2 (.ret n)):=by kernel_rfl
theorem KL (l:List Fl) (i:Int):@Eq _ (xL prog codes sigs f202 [.int] 200 0 (MA l i)) (bif decide (i < (l.length:Int)) then .need (((0:Int)≤i∧i < (l.length:Int))∧True) (.need (U2∧True) (.callP 251 [⟨.flt,(l.getD i.toNat Ty.flt.dflt)⟩] [.bool] fun (x:Bool)=>bif x then .need U2 (.ret (20:Int)) else bif decide (i > 0) then .need (((0:Int)≤w64 (i - (1:Int))∧w64 (i - (1:Int)) < (l.length:Int))∧True) (bif !Fl.cmp (l.getD (w64 (i - (1:Int))).toNat Ty.flt.dflt) (l.getD i.toNat Ty.flt.dflt)==some Ordering.lt then .need U2 (.ret (70:Int)) else .stop (hd f202 0) (mkS 35 [(0,.d (.sl .flt l)),(13,.d (.sl .flt l)),(14,i64 (l.length:Int)),(15,i64 (w64 (i+1)))] [] 0)) else .stop (hd f202 0) (mkS 35 [(0,.d (.sl .flt l)),(13,.d (.sl .flt l)),(14,i64 (l.length:Int)),(15,i64 (w64 (i+1)))] [] 0))) else .need U2 (.ret (0:Int))):=by kernel_rfl
theorem KP (l:List Fl) (i:Int):@Eq _ (xL prog codes sigs f218 [.int] 200 0 (MC l i)) (bif decide (i < (l.length:Int)) then .need (((0:Int)≤i∧i < (l.length:Int))∧True) (.need (U2∧True) (.callP 264 [⟨.flt,(l.getD i.toNat Ty.flt.dflt)⟩] [.bool] fun (x:Bool)=>bif x then .need U2 (.ret (20:Int)) else bif decide (i > 0) then .need (((0:Int)≤i∧i < (l.length:Int))∧True) (.need (((0:Int)≤w64 (i - (1:Int))∧w64 (i - (1:Int)) < (l.length:Int))∧True) (bif Fl.cmp (l.getD i.toNat Ty.flt.dflt) (l.getD (w64 (i - (1:Int))).toNat Ty.flt.dflt)==some Ordering.lt || Fl.cmp (l.getD i.toNat Ty.flt.dflt) (l.getD (w64 (i - (1:Int))).toNat Ty.flt.dflt)==some Ordering.eq then .need U2 (.ret (70:Int)) else .stop (hd f218 0) (mkS 35 [(0,.d (.sl .flt l)),(3,i64 (w64 (i+1)))] [] 0))) else .stop (hd f218 0) (mkS 35 [(0,.d (.sl .flt l)),(3,i64 (w64 (i+1)))] [] 0))) else .need U2 (.ret (0:Int))):=by kernel_rfl
theorem KQ (l:List Fl) (a b:Fl) (out:List Int) (i:Int):@Eq _ (xL prog codes sigs f255 [.span,.int] 200 0 (Jz l a b out i)) (bif decide (w64 (i+1) < (l.length:Int)) then .need (U2∧U2∧U2∧U2∧True) (.callP 288 [⟨.sl .flt,l⟩,⟨.int,i⟩,⟨.flt,a⟩,⟨.flt,b⟩] [.bool] fun (x:Bool)=>bif x then .need (U2∧True) (.need ((out.length+List.length [i]) * 9≤35184372088832∧True) (.stop (hd f255 0) (mkS 72 [(0,.d (.sl .flt l)),(6,.ptr 0 0),(9,.d (.f a)),(10,.d (.f b)),(11,.own 1 .int),(12,i64 (w64 (i+1)))] [(0,.box [i64 0,i64 0]),(1,.row 3 .int (out++[i]))] 2))) else .stop (hd f255 0) (mkS 72 [(0,.d (.sl .flt l)),(6,.ptr 0 0),(9,.d (.f a)),(10,.d (.f b)),(11,.own 1 .int),(12,i64 (w64 (i+1)))] [(0,.box [i64 0,i64 0]),(1,.row 3 .int out)] 2)) else bif (out.length:Int)==0 then .need (U3∧U2) (.ret (Span.mk (0:Int) (0:Int),(71:Int))) else .need ((0:Int)≤0∧(0:Int) < (out.length:Int)) (.need (0 < out.length) (.need ((0:Int)≤w64 ((out.length:Int) - (1:Int))∧w64 ((out.length:Int) - (1:Int)) < (out.length:Int)) (.need ((w64 ((out.length:Int) - (1:Int))).toNat < out.length) (.need (U3∧U2) (.ret (Span.mk (out.getD 0 Ty.int.dflt) (out.getD (w64 ((out.length:Int) - (1:Int))).toNat Ty.int.dflt),(0:Int)))))))):=by kernel_rfl
end Go.Proofs.Zn

/- How floats stand to each other. (Own work.) -/
set_option exponentiation.threshold 4096
namespace Go.Proofs.Zn
open Go.Proofs.Tryz
open Go Go.VL
def big:Nat:=2 ^ 2999
theorem qS:2 ^ 53 * 2 ^ 2046≤big:=by
 rw [← dL];exact aX (by decide) (by decide)
attribute [irreducible] big
def dE:Int:=FloatKind.f64.format.leastPlace
def lV:Ieee.Datum→Int
 | .number s m i=>Ieee.signed s m (i - dE).toNat
 | .infinity s=>bif s then -(big:Int) else big
 | .nan _ _=>0
def Hb:Ieee.Datum→Prop
 | .number _ m i=>m < 2 ^ 53∧dE≤i∧i≤dE+2046
 | _=>True
theorem rU (b:Nat):Hb (FloatKind.f64.format.read b):=by
 have e1:FloatKind.f64.format.signWeight=9223372036854775808:=by decide
 have e2:FloatKind.f64.format.binade=4503599627370496:=by decide
 have e3:FloatKind.f64.format.infRung=9218868437227405312:=by decide
 simp only [Ieee.Format.read,e1,e2,e3]
 by_cases h1:b % 9223372036854775808 < 4503599627370496
 ·rw [aF h1];exact ⟨by omega,jw _,(by show dE≤dE+2046;omega)⟩
 ·rw [aJ h1]
  by_cases h2:b % 9223372036854775808 < 9218868437227405312
  ·rw [aF h2]
   refine ⟨by omega,?_,?_⟩
   ·show dE≤dE+_;omega
   ·show dE+_≤dE+2046;omega
  ·rw [aJ h2]
   by_cases h3:b % 9223372036854775808=9218868437227405312
   ·rw [aF h3];trivial
   ·rw [aJ h3];trivial
theorem fq (s:Bool) (m k:Nat):Ieee.signed s m k=(bif s then -1 else 1) * ((m * 2 ^ k:Nat):Int):=by
 simp only [Ieee.signed,jU]
 cases s <;> simp
theorem GD {a b p:Int} (hp:0 < p):compare (a * p) (b * p)=compare a b:=by
 simp only [compare,compareOfLessAndEq]
 have h1:a * p < b * p↔a < b:=⟨fun h=>Int.lt_of_mul_lt_mul_right h (Int.le_of_lt hp),fun h=>Int.mul_lt_mul_of_pos_right h hp⟩
 have h2:a * p=b * p↔a=b:=⟨fun h=>Int.eq_of_mul_eq_mul_right (Int.ne_of_gt hp) h,fun h=>by rw [h]⟩
 simp only [h1,h2]
theorem mR (s:Bool) (m k d:Nat):Ieee.signed s m (k+d)=Ieee.signed s m k * 2 ^ d:=by
 rw [fq,fq,Int.mul_assoc]
 congr 1
 rw [dL,← eD]
 simp
theorem sQ {s:Bool} {m:Nat} {i:Int} (h:Hb (.number s m i)) : -(big:Int) < lV (.number s m i)∧lV (.number s m i) < (big:Int):=by
 obtain ⟨h1,h2,h3⟩:=h
 have hk:(i - dE).toNat≤2046:=by omega
 show -(big:Int) < Ieee.signed s m (i - dE).toNat∧Ieee.signed s m (i - dE).toNat < (big:Int)
 generalize (i - dE).toNat=k at *
 have hb:m * 2 ^ k < big:=by
  have g1:2 ^ k≤2 ^ 2046:=aX (by decide) hk
  have g2:m * 2 ^ k≤m * 2 ^ 2046:=ca _ g1
  have g3:m * 2 ^ 2046 < 2 ^ 53 * 2 ^ 2046:=eZ h1 (cX (by decide))
  exact Nat.lt_of_le_of_lt g2 (cm g3 qS)
 rw [fq]
 generalize m * 2 ^ k=z at *
 cases s
 ·rw [cF];omega
 ·rw [cT];omega
theorem Ah {d e:Ieee.Datum} (hd:Hb d) (he:Hb e) (h1:d.isNaN=false) (h2:e.isNaN=false):d.order e=some (compare (lV d) (lV e)):=by
 have lt:∀ {a b:Int},a < b→compare a b=.lt:=fun {a b} h=>by simp only [compare,compareOfLessAndEq];rw [aF h]
 have gt:∀ {a b:Int},b < a→compare a b=.gt:=fun {a b} h=>by simp only [compare,compareOfLessAndEq];rw [aJ (by omega),aJ (by omega)]
 have eq:∀ {a:Int},compare a a=.eq:=fun {a}=>Std.ReflCmp.compare_self
 have hbig:(0:Int) < (big:Int):=by
  have:=qS
  have h0:0 < 2 ^ 53 * 2 ^ 2046:=jt (cX (by decide)) (cX (by decide))
  exact Int.ofNat_lt.2 (cm h0 this)
 cases d with
 | nan s t=>cases h1
 | infinity s =>
   cases e with
   | nan s t=>cases h2
   | infinity t =>
     show some _=some (compare (bif s then -(big:Int) else big) (bif t then -(big:Int) else big))
     cases s <;> cases t
     ·rw [cF,eq];rfl
     ·rw [cF,cT,gt (by omega)];rfl
     ·rw [cF,cT,lt (by omega)];rfl
     ·rw [cT,eq];rfl
   | number t n j =>
     obtain ⟨k1,k2⟩:=sQ he
     show some _=some (compare (bif s then -(big:Int) else big) (lV (.number t n j)))
     cases s
     ·rw [cF,gt k2];rfl
     ·rw [cT,lt k1];rfl
 | number s m i =>
   cases e with
   | nan s t=>cases h2
   | infinity t =>
     obtain ⟨k1,k2⟩:=sQ hd
     show some _=some (compare (lV (.number s m i)) (bif t then -(big:Int) else big))
     cases t
     ·rw [cF,lt k2];rfl
     ·rw [cT,gt k1];rfl
   | number t n j =>
     obtain ⟨_,a2,_⟩:=hd
     obtain ⟨_,b2,_⟩:=he
     show some (compare (Ieee.signed s m (i - min i j).toNat) (Ieee.signed t n (j - min i j).toNat))=some (compare (Ieee.signed s m (i - dE).toNat) (Ieee.signed t n (j - dE).toNat))
     have e1:(i - dE).toNat=(i - min i j).toNat+(min i j - dE).toNat:=by omega
     have e2:(j - dE).toNat=(j - min i j).toNat+(min i j - dE).toNat:=by omega
     rw [e1,e2,mR,mR,GD (Int.pow_pos (by decide))]
def cz:Fl→Int
 | none=>0
 | some b=>lV (FloatKind.f64.format.read b)
theorem kt {x y:Fl} (hx:da x=false) (hy:da y=false):Fl.cmp x y=some (compare (cz x) (cz y)):=by
 cases x with
 | none=>cases hx
 | some a => cases y with
   | none=>cases hy
   | some b=>exact Ah (rU a) (rU b) hx hy
end Go.Proofs.Zn

/- Borders. (Own work.) -/
namespace Go.Proofs.Zn
open Go.Proofs.Tryz
open Go Go.VL
def ltF (x y:Fl):Bool:=Fl.cmp x y==some Ordering.lt
def leF (x y:Fl):Bool:=Fl.cmp x y==some Ordering.lt || Fl.cmp x y==some Ordering.eq
theorem kg {x y:Fl} (hx:da x=false) (hy:da y=false):ltF x y=decide (cz x < cz y):=by
 rw [ltF,kt hx hy]
 simp only [compare,compareOfLessAndEq]
 by_cases h:cz x < cz y
 ·rw [aF h,dT h];rfl
 ·rw [aJ h,dF h]
  by_cases h2:cz x=cz y
  ·rw [aF h2];rfl
  ·rw [aJ h2];rfl
theorem pu {x y:Fl} (hx:da x=false) (hy:da y=false):leF x y=decide (cz x≤cz y):=by
 rw [leF,kt hx hy]
 simp only [compare,compareOfLessAndEq]
 by_cases h:cz x < cz y
 ·rw [aF h,dT (by omega)];rfl
 ·rw [aJ h]
  by_cases h2:cz x=cz y
  ·rw [aF h2,dT (by omega)];rfl
  ·rw [aJ h2,dF (by omega)];rfl
def jR:Option Fl→List Fl→Int
 | _,[]=>0
 | p, x :: r => bif da x then 20 else match p with
   | none=>jR (some x) r
   | some q=>bif ltF q x then jR (some x) r else 70
def chkN (p:Option Fl) (x:Fl) (k:Int):Int:=match p with
 | none=>k
 | some q=>bif ltF q x then k else 70
theorem nH (p:Option Fl) (x:Fl) (r:List Fl):jR p (x::r)=bif da x then 20 else chkN p x (jR (some x) r):=by
 cases p <;> rfl
def kQ (l:List Fl) (i:Nat):Option Fl:=match i with | 0=>none | i+1=>l[i]?
def cV (l:List Fl):Int:=bif decide ((l.length:Int) < 2) then 1 else bif decide ((l.length:Int) > 25) then 2 else jR none l
theorem tU {l:List Fl} (hl:l.length≤25) {r:Int} {A:Pr} (hA:CL codes sigs f202 [.int] r A)
  (i:Nat) (hi:i≤l.length) (h:jR (kQ l i) (l.drop i)=r):A (hd f202 0) (MA l i):=by
 refine hA.go (KL l i) (ah (fun h1=>?_) (fun h1=>?_))
 ·have h1:=oT h1
  have hil:i < l.length:=by omega
  rw [bb hil]
  rw [dG hil,nH] at h
  refine ⟨⟨⟨by omega,by omega⟩,trivial⟩,⟨⟨trivial,trivial⟩,trivial⟩,_,Ew _,ah (fun h2=>⟨⟨trivial,trivial⟩,?_⟩) (fun h2=>?_)⟩
  ·rw [h2] at h;exact h
  ·rw [h2,cF] at h
   rw [au (by omega)]
   cases i with
   | zero =>
     refine ah (fun h3=>by cases h3) (fun _=>?_)
     exact tU hl hA 1 (by omega) (by rw [show kQ l 1=some l[0] from aj hil];exact h)
   | succ j =>
     have hj:j < l.length:=by omega
     have ep:kQ l (j+1)=some l[j]:=aj hj
     have en:kQ l (j+1+1)=some l[j+1]:=aj hil
     rw [ep] at h
     have ew:w64 (((j+1:Nat):Int) - 1)=(j:Int):=by rw [aA (by omega) (by omega)];omega
     refine ah (fun _=>?_) (fun h3=>absurd (oF h3) (by omega))
     rw [ew,bb hj]
     refine ⟨⟨⟨by omega,by omega⟩,trivial⟩,ah (fun h4=>⟨⟨trivial,trivial⟩,?_⟩) (fun h4=>?_)⟩
     ·have h4:ltF l[j] l[j+1]=false:=nt h4
      have h:(bif ltF l[j] l[j+1] then jR (some l[j+1]) (l.drop (j+1+1)) else 70)=r:=h
      rw [h4] at h;exact h
     ·have h4:ltF l[j] l[j+1]=true:=nf h4
      have h:(bif ltF l[j] l[j+1] then jR (some l[j+1]) (l.drop (j+1+1)) else 70)=r:=h
      rw [h4,cT] at h
      exact tU hl hA (j+1+1) (by omega) (by rw [en];exact h)
 ·have h1:=oF h1
  refine ⟨⟨trivial,trivial⟩,?_⟩
  rw [dN (by omega)] at h
  generalize kQ l i=p at h
  cases p <;> exact h
termination_by l.length - i
theorem LS (l:List Fl):Pure prog 202 [⟨.sl .flt,l⟩] [.int] (cV l):=
 Pure.of_closed (C:=codes) (S:=sigs) mixed func202 (by kernel_rfl) (ac (by kernel_rfl)) fun A hA=>hA.go (t125 l) (by
  refine ah (fun h=>⟨q2,?_⟩) (fun h=>ah (fun h2=>⟨q2,?_⟩) (fun h2=>?_))
  ·rw [cV,h];rfl
  ·rw [cV,h,h2];rfl
  ·have:=oF h2
   exact tU (by omega) hA 0 (by omega) (by rw [cV,h,h2];rfl))
theorem tV {l:List Fl} (hl:l.length≤25) {r:Int} {A:Pr} (hA:CL codes sigs f218 [.int] r A)
  (i:Nat) (hi:i≤l.length) (hp:∀ q,kQ l i=some q→da q=false) (h:jR (kQ l i) (l.drop i)=r):A (hd f218 0) (MC l i):=by
 refine hA.go (KP l i) (ah (fun h1=>?_) (fun h1=>?_))
 ·have h1:=oT h1
  have hil:i < l.length:=by omega
  rw [bb hil]
  rw [dG hil,nH] at h
  refine ⟨⟨⟨by omega,by omega⟩,trivial⟩,⟨⟨trivial,trivial⟩,trivial⟩,_,xp _,ah (fun h2=>⟨⟨trivial,trivial⟩,?_⟩) (fun h2=>?_)⟩
  ·rw [h2] at h;exact h
  ·rw [h2,cF] at h
   rw [au (by omega)]
   cases i with
   | zero =>
     have e0:kQ l 1=some l[0]:=aj hil
     refine ah (fun h3=>by cases h3) (fun _=>?_)
     exact tV hl hA 1 (by omega) (fun q hq=>by rw [e0] at hq;cases hq;exact h2) (by rw [e0];exact h)
   | succ j =>
     have hj:j < l.length:=by omega
     have ep:kQ l (j+1)=some l[j]:=aj hj
     have en:kQ l (j+1+1)=some l[j+1]:=aj hil
     have hq:=hp _ ep
     rw [ep] at h
     have ew:w64 (((j+1:Nat):Int) - 1)=(j:Int):=by rw [aA (by omega) (by omega)];omega
     refine ah (fun _=>?_) (fun h3=>absurd (oF h3) (by omega))
     rw [ew,bb hj]
     have h:(bif ltF l[j] l[j+1] then jR (some l[j+1]) (l.drop (j+1+1)) else 70)=r:=h
     rw [kg hq h2] at h
     refine ⟨⟨⟨by omega,by omega⟩,trivial⟩,⟨⟨by omega,by omega⟩,trivial⟩,ah (fun h4=>⟨⟨trivial,trivial⟩,?_⟩) (fun h4=>?_)⟩
     ·have h4:leF l[j+1] l[j]=true:=h4
      rw [pu h2 hq] at h4
      have h4:=oT h4
      rw [dF (by omega)] at h;exact h
     ·have h4:leF l[j+1] l[j]=false:=h4
      rw [pu h2 hq] at h4
      have h4:=oF h4
      rw [dT (by omega),cT] at h
      exact tV hl hA (j+1+1) (by omega) (fun q hq=>by rw [en] at hq;cases hq;exact h2) (by rw [en];exact h)
 ·have h1:=oF h1
  refine ⟨⟨trivial,trivial⟩,?_⟩
  rw [dN (by omega)] at h
  generalize kQ l i=p at h
  cases p <;> exact h
termination_by l.length - i
theorem GP (l:List Fl):Pure prog 218 [⟨.sl .flt,l⟩] [.int] (cV l):=
 Pure.of_closed (C:=codes) (S:=sigs) mixed func218 (by kernel_rfl) (ac (by kernel_rfl)) fun A hA=>hA.go (Iv l) (by
  refine ah (fun h=>⟨q2,?_⟩) (fun h=>ah (fun h2=>⟨q2,?_⟩) (fun h2=>?_))
  ·rw [cV,h];rfl
  ·rw [cV,h,h2];rfl
  ·have:=oF h2
   exact tV (by omega) hA 0 (by omega) (fun q hq=>by cases hq) (by rw [cV,h,h2];rfl))
end Go.Proofs.Zn

/- Lanes that are reached. (Own work.) -/
namespace Go.Proofs.Zn
open Go.Proofs.Tryz
open Go Go.VL
def rL (m:List Fl) (x:Fl):Nat:=(m.takeWhile fun b=>leF b x).length
def bX (l:List Fl) (x:Fl):Nat:=rL (l.take (l.length - 1)) x
theorem uj (m:List Fl) (x:Fl):rL m x≤m.length:=(List.takeWhile_sublist _).length_le
theorem yz {m:List Fl} {x:Fl} (hl:m.length≤1000) {r:Int} {A:Pr} (hA:CL codes sigs f253 [.int] r A)
  (i:Nat) (hi:i≤m.length) (h:((i+rL (m.drop i) x:Nat):Int)=r):A (hd f253 0) (My m x i i):=by
 refine hA.go (KA m x i i) (ah (fun h1=>?_) (fun h1=>?_))
 ·have h1:=oT h1
  have hil:i < m.length:=by omega
  rw [bb hil]
  rw [dG hil,rL,List.takeWhile_cons] at h
  refine ⟨⟨⟨by omega,by omega⟩,trivial⟩,ah (fun h2=>⟨⟨trivial,trivial⟩,?_⟩) (fun h2=>?_)⟩
  ·have h2:leF m[i] x=false:=nt h2
   rw [h2] at h
   exact h
  ·have h2:leF m[i] x=true:=nf h2
   rw [h2] at h
   rw [au (by omega)]
   exact yz hl hA (i+1) (by omega) (by rw [← h];simp [rL];omega)
 ·have h1:=oF h1
  refine ⟨⟨trivial,trivial⟩,?_⟩
  rw [dN (by omega)] at h
  exact h
termination_by m.length - i
theorem GO {l:List Fl} {x:Fl} (h1:1≤l.length) (h2:l.length≤1000):Pure prog 253 [⟨.sl .flt,l⟩,⟨.flt,x⟩] [.int] ((bX l x:Nat):Int):=
 Pure.of_closed (C:=codes) (S:=sigs) mixed func253 (by kernel_rfl) (ac (by kernel_rfl)) fun A hA=>hA.go (It l x) (by
  refine ⟨⟨q2,trivial⟩,_,LO (by omega),⟨⟨by omega,by unfold ki;omega,by unfold ki;omega⟩,trivial⟩,?_⟩
  have e:(List.take (ki l).toNat l).drop 0=l.take (l.length - 1):=by
   rw [bL];congr 1;unfold ki;omega
  rw [e]
  exact yz (x:=x) (by rw [aE];omega) hA 0 (by omega) (by rw [bL,ct];rfl))
def gtF (x y:Fl):Bool:=Fl.cmp x y==some Ordering.gt
theorem Gu {x y:Fl} (hx:da x=false) (hy:da y=false):gtF x y=decide (cz y < cz x):=by
 rw [gtF,kt hx hy]
 simp only [compare,compareOfLessAndEq]
 by_cases h:cz x < cz y
 ·rw [aF h,dF (by omega)];rfl
 ·rw [aJ h]
  by_cases h2:cz x=cz y
  ·rw [aF h2,dF (by omega)];rfl
  ·rw [aJ h2,dT (by omega)];rfl
abbrev no (e:Int):Span×Int:=(⟨0,0⟩,e)
abbrev loF (x r:Fl):Fl:=Fl.arith BinOp.sub x r
abbrev hiF (x r:Fl):Fl:=Fl.arith BinOp.add x r
def inS (l:List Fl) (a b:Fl):Span×Int:=
 bif ltF b (l.getD 0 (some 0)) then no 71 else bif gtF a (l.getD (l.length - 1) (some 0)) then no 71 else (⟨((max (bX l a) 1:Nat):Int) - 1,((bX l b:Nat):Int) - 1⟩,0)
def jF (l:List Fl) (x r:Fl):Span×Int:=
 bif cV l != 0 then no (cV l) else bif da x then no 20 else bif da r then no 20 else bif ltF r (some 0) then no 22 else bif da (loF x r) then no 20 else bif da (hiF x r) then no 20 else inS l (loF x r) (hiF x r)
theorem iE {l:List Fl} (h:cV l=0):2≤l.length∧l.length≤25:=by
 unfold cV at h
 by_cases h1:(l.length:Int) < 2
 ·rw [dT h1,cT] at h;cases h
 ·rw [dF h1,cF] at h
  by_cases h2:(l.length:Int) > 25
  ·rw [dT h2,cT] at h;cases h
  ·omega
theorem GR (l:List Fl) (x r:Fl):Pure prog 206 [⟨.sl .flt,l⟩,⟨.flt,x⟩,⟨.flt,r⟩] [.span,.int] (jF l x r):=
 ofT func206 (t119 l x r) (by kernel_rfl) (by kernel_rfl) fun A=>by
  have N1:U2∧True:=⟨q2,trivial⟩
  have N2:U2∧U2∧True:=⟨q2,q2,trivial⟩
  have N3:U3∧U2:=⟨q3,trivial,trivial⟩
  refine ⟨N1,_,LS l,cK (fun _=>⟨N3,rfl⟩) (fun hc=>⟨N1,_,Ew x,cK (fun _=>⟨N3,rfl⟩) (fun _=>⟨N1,_,Ew r,cK (fun _=>⟨N3,rfl⟩) (fun _=>cK (fun _=>⟨N3,rfl⟩) (fun _=>⟨N1,_,Ew _,cK (fun _=>⟨N3,rfl⟩) (fun _=>⟨N1,_,Ew _,cK (fun _=>⟨N3,rfl⟩) (fun _=>?_)⟩)⟩))⟩)⟩)⟩
  have hc:cV l=0:=by simpa using hc
  obtain ⟨l2,l25⟩:=iE hc
  refine ⟨⟨⟨by omega,by omega⟩,trivial⟩,cK (fun _=>⟨N3,rfl⟩) (fun _=>⟨N1,_,LO (by omega),⟨⟨by unfold ki;omega,by unfold ki;omega⟩,trivial⟩,?_⟩)⟩
  have e:(ki l).toNat=l.length - 1:=by unfold ki;omega
  rw [e]
  refine cK (fun _=>⟨N3,rfl⟩) (fun _=>⟨N2,_,GO (by omega) (by omega),N2,_,GO (by omega) (by omega),N3,?_⟩)
  have b1:=uj (l.take (l.length - 1)) (loF x r)
  have b2:=uj (l.take (l.length - 1)) (hiF x r)
  rw [aE] at b1 b2
  have e1:w64 ((if (1:Int) > ((bX l (loF x r):Nat):Int) then 1 else ((bX l (loF x r):Nat):Int)) - 1)=((max (bX l (loF x r)) 1:Nat):Int) - 1:=by
   unfold bX
   split
   ·rw [aA (by omega) (by omega)];omega
   ·rw [aA (by omega) (by omega)];omega
  have e2:w64 (((bX l (hiF x r):Nat):Int) - 1)=((bX l (hiF x r):Nat):Int) - 1:=by
   unfold bX
   exact aA (by omega) (by omega)
  show ((⟨w64 ((if (1:Int) > ((bX l (loF x r):Nat):Int) then 1 else ((bX l (loF x r):Nat):Int)) - 1),w64 (((bX l (hiF x r):Nat):Int) - 1)⟩:Span),(0:Int))=_
  rw [e1,e2]
end Go.Proofs.Zn

/- Lanes that are touched: the reference. (Own work.) -/
namespace Go.Proofs.Zn
open Go.Proofs.Tryz
open Go Go.VL
def geF (x y:Fl):Bool:=Fl.cmp x y==some Ordering.gt || Fl.cmp x y==some Ordering.eq
def mj (l:List Fl) (k:Nat) (a b:Fl):Bool:=
 bif (k+2==l.length) then (bif leF a (l.getD (k+1) (some 0)) then geF b (l.getD k (some 0)) else false) else (bif ltF a (l.getD (k+1) (some 0)) then geF b (l.getD k (some 0)) else false)
theorem Jm {l:List Fl} {k:Nat} {a b:Fl} (hk:k+1 < l.length) (hl:l.length≤25):Pure prog 288 [⟨.sl .flt,l⟩,⟨.int,(k:Int)⟩,⟨.flt,a⟩,⟨.flt,b⟩] [.bool] (mj l k a b):=
 ofT func288 (In l k a b) (by kernel_rfl) (by kernel_rfl) fun A=>by
  have w1:w64 ((k:Int)+1)=((k+1:Nat):Int):=au (by omega)
  have w2:w64 ((k:Int)+2)=((k+2:Nat):Int):=by rw [aA (by omega) (by omega)];rfl
  have e:(((k+2:Nat):Int)==(l.length:Int))=(k+2==l.length):=by
   by_cases h:k+2=l.length
   ·rw [h];simp
   ·have h1:(k+2==l.length)=false:=by simpa using h
    rw [h1];simp;omega
  rw [w1,w2,e,aq,aq]
  have I1:((0:Int)≤((k+1:Nat):Int)∧((k+1:Nat):Int) < (l.length:Int))∧True:=⟨⟨by omega,by omega⟩,trivial⟩
  have I0:((0:Int)≤(k:Int)∧(k:Int) < (l.length:Int))∧True:=⟨⟨by omega,by omega⟩,trivial⟩
  exact cK (fun _=>⟨I1,cK (fun _=>⟨I0,q2,rfl⟩) (fun _=>⟨q2,rfl⟩)⟩) (fun _=>⟨I1,cK (fun _=>⟨I0,q2,rfl⟩) (fun _=>⟨q2,rfl⟩)⟩)
def mN (l:List Fl) (a b:Fl):Nat→List Int
 | 0=>[]
 | k+1=>bif mj l k a b then mN l a b k++[(k:Int)] else mN l a b k
theorem xF (l:List Fl) (a b:Fl):∀ k,(mN l a b k).length≤k
 | 0=>aH _
 | k + 1 => by
   have:=xF l a b k
   rw [mN]
   cases mj l k a b
   ·rw [cF];omega
   ·rw [cT,ak];simp;omega
def vi (out:List Int):Span×Int:=bif (out.length:Int)==0 then no 71 else (⟨out.getD 0 0,out.getD (out.length - 1) 0⟩,0)
theorem tW {l:List Fl} (h2:2≤l.length) (hl:l.length≤25) (a b:Fl) {r:Span×Int} (hr:r=vi (mN l a b (l.length - 1))) {A:Pr} (hA:CL codes sigs f255 [.span,.int] r A)
  (i:Nat) (hi:i≤l.length - 1):A (hd f255 0) (Jz l a b (mN l a b i) i):=by
 refine hA.go (KQ l a b _ i) ?_
 rw [au (by omega)]
 have ht:=xF l a b i
 refine ah (fun h1=>?_) (fun h1=>?_)
 ·have h1:=oT h1
  refine ⟨⟨⟨trivial,trivial⟩,⟨trivial,trivial⟩,⟨trivial,trivial⟩,⟨trivial,trivial⟩,trivial⟩,_,Jm (by omega) hl,ah (fun h3=>⟨⟨⟨trivial,trivial⟩,trivial⟩,⟨by simp only [ag,al];omega,trivial⟩,?_⟩) (fun h3=>?_)⟩
  ·have:=tW h2 hl a b hr hA (i+1) (by omega)
   rw [mN,h3] at this
   exact this
  ·have:=tW h2 hl a b hr hA (i+1) (by omega)
   rw [mN,h3] at this
   exact this
 ·have h1:=oF h1
  have e:i=l.length - 1:=by omega
  rw [← e] at hr
  generalize mN l a b i=out at *
  have N3:(True∧True∧True)∧True∧True:=⟨⟨trivial,trivial,trivial⟩,trivial,trivial⟩
  subst hr
  refine ah (fun h=>⟨N3,?_⟩) (fun h=>?_)
  ·show no 71=_
   rw [vi,h];rfl
  ·have hpos:0 < out.length:=by
    rcases fZ out.length with h0 | h0
    ·rw [h0] at h;cases h
    ·exact h0
   have ew:w64 ((out.length:Int) - 1)=((out.length - 1:Nat):Int):=by rw [aA (by omega) (by omega)];omega
   rw [ew,aq]
   refine ⟨⟨by omega,by omega⟩,hpos,⟨by omega,by omega⟩,by omega,N3,?_⟩
   show ((⟨out.getD 0 0,out.getD (out.length - 1) 0⟩:Span),(0:Int))=_
   rw [vi,h];rfl
termination_by l.length - i
def eX (l:List Fl) (x r:Fl):Span×Int:=
 bif cV l != 0 then no (cV l) else bif da x then no 20 else bif da r then no 20 else bif ltF r (some 0) then no 22 else bif da (loF x r) then no 20 else bif da (hiF x r) then no 20 else vi (mN l (loF x r) (hiF x r) (l.length - 1))
theorem GQ (l:List Fl) (x r:Fl):Pure prog 255 [⟨.sl .flt,l⟩,⟨.flt,x⟩,⟨.flt,r⟩] [.span,.int] (eX l x r):=
 Pure.of_closed (C:=codes) (S:=sigs) mixed func255 (by kernel_rfl) (ac (by kernel_rfl)) fun A hA=>hA.go (Iw l x r) (by
  have N1:U2∧True:=⟨q2,trivial⟩
  have N3:U3∧U2:=⟨q3,trivial,trivial⟩
  refine ⟨N1,_,GP l,ah (fun h1=>⟨N3,?_⟩) (fun h1=>⟨N1,_,xp x,ah (fun h2=>⟨N3,?_⟩) (fun h2=>⟨N1,_,xp r,ah (fun h3=>⟨N3,?_⟩) (fun h3=>ah (fun h4=>⟨N3,?_⟩) (fun h4=>⟨N1,_,xp _,ah (fun h5=>⟨N3,?_⟩) (fun h5=>⟨N1,_,xp _,ah (fun h6=>⟨N3,?_⟩) (fun h6=>?_)⟩)⟩))⟩)⟩)⟩
  ·rw [eX,h1];rfl
  ·rw [eX,h1,h2];rfl
  ·rw [eX,h1,h2,h3];rfl
  ·have h4:ltF r (some 0)=true:=h4
   rw [eX,h1,h2,h3,h4];rfl
  ·have h4:ltF r (some 0)=false:=h4
   rw [eX,h1,h2,h3,h4,h5];rfl
  ·have h4:ltF r (some 0)=false:=h4
   rw [eX,h1,h2,h3,h4,h5,h6];rfl
  ·have h4:ltF r (some 0)=false:=h4
   have hc:cV l=0:=by simpa using h1
   obtain ⟨l2,l25⟩:=iE hc
   refine hA.row 11 3 .int (by kernel_rfl) (s':=Jz l (loF x r) (hiF x r) [] 0) (by kernel_rfl) ?_
   exact tW l2 l25 (loF x r) (hiF x r) (by rw [eX,h1,h2,h3,h4,h5,h6];rfl) hA 0 (by omega))
end Go.Proofs.Zn

/- Lanes that are reached, by count and by definition: the same. (Own work.) -/
namespace Go.Proofs.Zn
open Go.Proofs.Tryz
open Go Go.VL
theorem vS:∀ (l:List Fl) (q:Fl),da q=false→jR (some q) l=0→(∀ x∈q::l,da x=false)∧List.Pairwise (fun x y=>cz x < cz y) (q::l)
 | [],q,hq,_=>⟨fun x hx=>by simp at hx;subst hx;exact hq,gi _ _⟩
 | x :: r, q, hq, h => by
   rw [nH] at h
   cases hx:da x with
   | true=>rw [hx] at h;cases h
   | false =>
     rw [hx,cF] at h
     have h:(bif ltF q x then jR (some x) r else 70)=0:=h
     cases hl:ltF q x with
     | false=>rw [hl] at h;cases h
     | true =>
       rw [hl,cT] at h
       obtain ⟨i1,i2⟩:=vS r x hx h
       rw [kg hq hx] at hl
       have hl:=oT hl
       refine ⟨fun y hy=>?_,aN.2 ⟨fun y hy=>?_,i2⟩⟩
       ·rcases aL.1 hy with rfl | hy
        ·exact hq
        ·exact i1 y hy
       ·rcases aL.1 hy with rfl | hy
        ·exact hl
        ·have:=(aN.1 i2).1 y hy;omega
theorem qP {l:List Fl} (h:cV l=0):(∀ x∈l,da x=false)∧List.Pairwise (fun x y=>cz x < cz y) l:=by
 obtain ⟨h2,h25⟩:=iE h
 have h:jR none l=0:=by
  unfold cV at h
  rw [dF (by omega),cF,dF (by omega),cF] at h
  exact h
 cases l with
 | nil=>simp at h2
 | cons x r =>
   rw [nH] at h
   cases hx:da x with
   | true=>rw [hx] at h;cases h
   | false=>rw [hx,cF] at h;exact vS r x hx h
theorem yU {x:Fl} (hx:da x=false):∀ (m:List Fl),(∀ y∈m,da y=false)→List.Pairwise (fun x y=>cz x < cz y) m→∀ (k:Nat) (h:k < m.length),cz m[k]≤cz x↔k < rL m x
 | [],_,_,k,h=>by simp at h
 | c :: m, hn, hp, k, h => by
   have hc:=hn c (.head _)
   have e:rL (c::m) x=if leF c x then rL m x+1 else 0:=by
    rw [rL,List.takeWhile_cons]
    cases leF c x <;> simp [rL]
   rw [e,pu hc hx]
   have ih:=yU hx m (fun y hy=>hn y (.tail _ hy)) (aN.1 hp).2
   by_cases hle:cz c≤cz x
   ·rw [dT hle,aF rfl]
    cases k with
    | zero=>exact ⟨fun _=>by omega,fun _=>hle⟩
    | succ k =>
      have hk:k < m.length:=by simpa using h
      have:=ih k hk
      show cz m[k]≤cz x↔_
      omega
   ·rw [dF hle,aJ (by decide)]
    refine ⟨fun h'=>?_,fun h'=>absurd h' (by omega)⟩
    cases k with
    | zero=>exact absurd h' hle
    | succ k =>
      have hk:k < m.length:=by simpa using h
      have h3:=(aN.1 hp).1 m[k] (aO _)
      have h':cz m[k]≤cz x:=h'
      omega
theorem iW {l:List Fl} {x:Fl} (hx:da x=false) (hn:∀ y∈l,da y=false) (hp:List.Pairwise (fun x y=>cz x < cz y) l) (k:Nat) (h:k < l.length - 1):cz (l.getD k (some 0))≤cz x↔k < bX l x:=by
 have:=yU hx (l.take (l.length - 1)) (fun y hy=>hn y (ie hy)) (hp.sublist (List.take_sublist _ _)) k (by rw [aE];omega)
 rw [jv] at this
 rw [cJ (by omega)]
 exact this
theorem lP (l:List Fl) (x:Fl):bX l x≤l.length - 1:=by
 have:=uj (l.take (l.length - 1)) x
 rw [aE] at this
 unfold bX;omega
theorem xO {l:List Fl} (hp:List.Pairwise (fun x y=>cz x < cz y) l) {i j:Nat} (hij:i < j) (hj:j < l.length):cz (l.getD i (some 0)) < cz (l.getD j (some 0)):=by
 rw [cJ (by omega),cJ hj]
 exact List.pairwise_iff_getElem.1 hp i j (by omega) hj hij
theorem Gv {x y:Fl} (hx:da x=false) (hy:da y=false):geF x y=decide (cz y≤cz x):=by
 rw [geF,kt hx hy]
 simp only [compare,compareOfLessAndEq]
 by_cases h:cz x < cz y
 ·rw [aF h,dF (by omega)];rfl
 ·rw [aJ h]
  by_cases h2:cz x=cz y
  ·rw [aF h2,dT (by omega)];rfl
  ·rw [aJ h2,dT (by omega)];rfl
theorem lE {l:List Fl} {a b:Fl} {lo hi:Nat}:∀ m:Nat,(∀ k,k < m→(mj l k a b=true↔lo≤k∧k < hi))→mN l a b m=(List.range' lo (min hi m - lo)).map fun n:Nat=>Int.ofNat n
 | 0,_=>by simp [mN]
 | m + 1, h => by
   have ih:=lE m (fun k hk=>h k (by omega))
   rw [mN,ih]
   have hm:=h m (by omega)
   cases ht:mj l m a b with
   | true =>
     obtain ⟨h1,h2⟩:=hm.1 ht
     have e:min hi (m+1) - lo=min hi m - lo+1:=by omega
     rw [e,List.range'_concat,cT,bH]
     have e2:lo+1 * (min hi m - lo)=m:=by omega
     rw [e2];rfl
   | false =>
     have:¬ (lo≤m∧m < hi):=fun h'=>by rw [hm.2 h'] at ht;cases ht
     have e:min hi (m+1) - lo=min hi m - lo:=by omega
     rw [e,cF]
theorem IT {l:List Fl} {a b:Fl} (hc:cV l=0) (ha:da a=false) (hb:da b=false) (hab:cz a≤cz b):inS l a b=vi (mN l a b (l.length - 1)):=by
 obtain ⟨h2,h25⟩:=iE hc
 obtain ⟨hn,hp⟩:=qP hc
 have nn:∀ k,k < l.length→da (l.getD k (some 0))=false:=fun k hk=>by rw [cJ hk];exact hn _ (aO _)
 have tk:∀ k,k < l.length - 1→(mj l k a b=true↔((k+2=l.length∧cz a≤cz (l.getD (k+1) (some 0))∨k+2≠l.length∧cz a < cz (l.getD (k+1) (some 0)))∧cz (l.getD k (some 0))≤cz b)):=by
  intro k hk
  unfold mj
  rw [pu ha (nn _ (by omega)),kg ha (nn _ (by omega)),Gv hb (nn _ (by omega))]
  generalize cz (l.getD (k+1) (some 0))=u
  generalize cz (l.getD k (some 0))=v
  by_cases e:k+2=l.length
  ·rw [show (k+2==l.length)=true by simpa using e,cT]
   by_cases e2:cz a≤u
   ·rw [dT e2,cT,bP]
    exact ⟨fun h=>⟨.inl ⟨e,e2⟩,h⟩,fun h=>h.2⟩
   ·rw [dF e2,cF]
    exact ⟨fun h=>(by cases h),fun h=>absurd h (by omega)⟩
  ·rw [show (k+2==l.length)=false by simpa using e,cF]
   by_cases e2:cz a < u
   ·rw [dT e2,cT,bP]
    exact ⟨fun h=>⟨.inr ⟨e,e2⟩,h⟩,fun h=>h.2⟩
   ·rw [dF e2,cF]
    exact ⟨fun h=>(by cases h),fun h=>absurd h (by omega)⟩
 rw [inS,kg hb (nn _ (by omega)),Gu ha (nn _ (by omega))]
 by_cases g1:cz b < cz (l.getD 0 (some 0))
 ·rw [dT g1,cT,lE (lo:=0) (hi:=0) _ (fun k hk=>by
   rw [tk k hk]
   refine ⟨fun h=>?_,fun h=>absurd h.2 (by omega)⟩
   rcases fZ k with h0 | h0
   ·subst h0;omega
   ·have:=xO hp h0 (show k < l.length by omega);omega)]
  simp [vi]
 ·rw [dF g1,cF]
  by_cases g2:cz (l.getD (l.length - 1) (some 0)) < cz a
  ·rw [dT g2,cT,lE (lo:=0) (hi:=0) _ (fun k hk=>by
    rw [tk k hk]
    refine ⟨fun h=>?_,fun h=>absurd h.2 (by omega)⟩
    rcases aw (k+1) (l.length - 1) with h0 | h0
    ·have:=xO hp h0 (show l.length - 1 < l.length by omega);omega
    ·have e:k+1=l.length - 1:=by omega
     rw [e] at h;omega)]
   simp [vi]
  ·rw [dF g2,cF]
   have A:=fun k h=>iW ha hn hp k h
   have B:=fun k h=>iW hb hn hp k h
   have la:=lP l a
   have lb:=lP l b
   have b1:0 < bX l b:=(B 0 (by omega)).1 (by omega)
   have ab:bX l a≤bX l b:=by
    rcases aw (bX l b) (bX l a) with h | h
    ·have h1:=(A (bX l b) (by omega)).2 h
     have h3:=(B (bX l b) (by omega)).1 (by omega)
     omega
    ·exact h
   have hr:=lE (l:=l) (a:=a) (b:=b) (lo:=max (bX l a) 1 - 1) (hi:=bX l b) (l.length - 1) (fun k hk=>by
    rw [tk k hk,B k hk]
    by_cases e:k+2=l.length
    ·have e3:k+1=l.length - 1:=by omega
     rw [e3]
     omega
    ·have h4:=A (k+1) (by omega)
     omega)
   rw [hr]
   have e5:min (bX l b) (l.length - 1)=bX l b:=by omega
   rw [e5]
   generalize bX l a=p at *
   generalize bX l b=q at *
   have e6:((List.range' (max p 1 - 1) (q - (max p 1 - 1))).map fun n:Nat=>Int.ofNat n).length=q - (max p 1 - 1):=by simp
   rw [vi,e6]
   have hpos:0 < q - (max p 1 - 1):=by omega
   have e7:(((q - (max p 1 - 1):Nat):Int)==0)=false:=by simp;omega
   rw [e7,cF]
   rw [cJ (by rw [e6];exact hpos),cJ (by rw [e6];omega)]
   simp only [List.getElem_map,List.getElem_range']
   congr 1
   congr 1
   ·show ((max p 1:Nat):Int) - 1=((max p 1 - 1+1 * 0:Nat):Int)
    omega
   ·show ((q:Nat):Int) - 1=((max p 1 - 1+1 * (q - (max p 1 - 1) - 1):Nat):Int)
    omega
end Go.Proofs.Zn

/- Rounding keeps order: whole numbers. (Own work.) -/
namespace Go.Proofs.Zn
open Go.Proofs.Tryz
def rne (n g:Nat):Nat:=n / g+(decide (g < 2 * (n % g)) || (g==2 * (n % g) && n / g % 2==1)).toNat
theorem IY (neg:Bool) (n d:Nat):Ieee.Toward.even.cut neg n d=rne n (2 ^ d):=by
 have key:∀ k,Ieee.Toward.even.cut neg n d=rne n (1 <<< min d (n.log2+2))∧(k=0→True):=fun k=>⟨rfl,fun _=>trivial⟩
 rw [(key 0).1,jU,dM]
 by_cases h:d≤n.log2+2
 ·rw [Nat.min_eq_left h]
 ·rw [Nat.min_eq_right (by omega)]
  have h1:n < 2 ^ (n.log2+1):=jV
  have e2:2 ^ (n.log2+2)=2 * 2 ^ (n.log2+1):=by rw [gx,bS]
  have h2:2 * n < 2 ^ (n.log2+2):=by omega
  have h3:2 ^ (n.log2+2)≤2 ^ d:=aX (by decide) (by omega)
  have z:∀ g,2 * n < g→rne n g=0:=by
   intro g hg
   have e1:n / g=0:=gW (by omega)
   have e2:n % g=n:=cH (by omega)
   unfold rne
   rw [e1,e2,dF (by omega)]
   simp
  rw [z _ h2,z _ (by omega)]
theorem uP {n n' g:Nat} (hg:0 < g) (h:n≤n'):rne n g≤rne n' g:=by
 have hq:n / g≤n' / g:=Nat.div_le_div_right h
 have b1:∀ b:Bool,b.toNat≤1:=fun b=>by cases b <;> decide
 unfold rne
 rcases aw (n / g) (n' / g) with hl | hge
 ·have:=b1 (decide (g < 2 * (n % g)) || (g==2 * (n % g) && n / g % 2==1))
  omega
 ·have e:n / g=n' / g:=by omega
  have m1:=kH n g
  have m2:=kH n' g
  rw [e] at m1 ⊢
  have hm:n % g≤n' % g:=by omega
  have hb:(decide (g < 2 * (n % g)) || (g==2 * (n % g) && n' / g % 2==1)).toNat≤(decide (g < 2 * (n' % g)) || (g==2 * (n' % g) && n' / g % 2==1)).toNat:=by
   by_cases h1:g < 2 * (n' % g)
   ·rw [dT h1,Bool.true_or]
    exact b1 _
   ·by_cases h2:n % g=n' % g
    ·rw [h2];exact aH _
    ·have h3:¬ g < 2 * (n % g):=by omega
     have h4:(g==2 * (n % g))=false:=by simp;omega
     rw [dF h3,h4]
     exact be _
  omega
theorem IA {n g k:Nat} (hg:0 < g) (h:n≤k * g):rne n g≤k:=by
 have:=uP hg h
 have e:rne (k * g) g=k:=by
  unfold rne
  rw [Nat.mul_div_cancel _ hg,Nat.mul_mod_left,dF (by omega)]
  have:(g==2 * 0)=false:=by simp;omega
  rw [this];rfl
 omega
theorem IP {n g k:Nat} (hg:0 < g) (h:k * g≤n):k≤rne n g:=by
 have:k≤n / g:=(Nat.le_div_iff_mul_le hg).2 h
 unfold rne
 omega
end Go.Proofs.Zn

/- Rounding keeps order: the rung. (Own work.) -/
namespace Go.Proofs.Zn
open Go.Proofs.Tryz
open Go
def sN (base:Int) (mag:Nat):Int:=max (base+mag.log2 - 52) dE
def DE (base L:Int) (mag:Nat):Nat:=rne (mag * 2 ^ (base - L).toNat) (2 ^ (L - base).toNat)
def kC (base:Int) (mag:Nat):Nat:=if mag=0 then 0 else min ((sN base mag - dE).toNat * 4503599627370496+DE base (sN base mag) mag) 9218868437227405312
theorem wJ (neg:Bool) (mag:Nat) (base:Int):FloatKind.f64.format.nearest neg mag base=FloatKind.f64.format.word neg (kC base mag):=by
 have e2:FloatKind.f64.format.binade=4503599627370496:=by decide
 have e3:FloatKind.f64.format.infRung=9218868437227405312:=by decide
 have e4:FloatKind.f64.format.fractionBits=52:=by decide
 unfold Ieee.Format.nearest kC
 rw [e2,e3,e4]
 by_cases h:mag=0
 ·rw [aF h,aF h]
 ·rw [aJ h,aJ h]
  simp only [IY,jU]
  rfl
theorem kR (k:Nat):0 < 2 ^ k:=cX (by decide)
theorem Gn {base:Int} {mag:Nat} (h0:mag≠0) {L:Int} (hL:L=base+mag.log2 - 52):4503599627370496≤DE base L mag:=by
 have h1:2 ^ mag.log2≤mag:=Nat.log2_self_le h0
 have e:(4503599627370496:Nat)=2 ^ 52:=by decide
 rw [e]
 refine IP (kR _) ?_
 by_cases h:52≤mag.log2
 ·have a1:(base - L).toNat=0:=by omega
  have a2:(L - base).toNat=mag.log2 - 52:=by omega
  rw [a1,a2,kB,ib,← dL,Nat.add_sub_cancel' h]
  exact h1
 ·have a1:(base - L).toNat=52 - mag.log2:=by omega
  have a2:(L - base).toNat=0:=by omega
  rw [a1,a2,kB,ib]
  have:2 ^ 52=2 ^ mag.log2 * 2 ^ (52 - mag.log2):=by rw [← dL];congr 1;omega
  rw [this]
  exact aD _ h1
theorem Gp {base:Int} {mag:Nat} {L:Int} (hL:base+mag.log2 - 52≤L):DE base L mag≤9007199254740992:=by
 have h1:mag < 2 ^ (mag.log2+1):=jV
 have e:(9007199254740992:Nat)=2 ^ 53:=by decide
 rw [e]
 refine IA (kR _) ?_
 by_cases h:base≤L
 ·have a1:(base - L).toNat=0:=by omega
  rw [a1,kB,ib,← dL]
  have:2 ^ (mag.log2+1)≤2 ^ (53+(L - base).toNat):=aX (by decide) (by omega)
  omega
 ·have a2:(L - base).toNat=0:=by omega
  rw [a2,kB,ib]
  have g1:mag * 2 ^ (base - L).toNat≤2 ^ (mag.log2+1) * 2 ^ (base - L).toNat:=aD _ (Nat.le_of_lt h1)
  rw [← dL] at g1
  have g2:2 ^ (mag.log2+1+(base - L).toNat)≤2 ^ 53:=aX (by decide) (by omega)
  omega
theorem AM {m n:Nat} (h0:m≠0) (h:m≤n):m.log2≤n.log2:=by
 have h1:2 ^ m.log2≤m:=Nat.log2_self_le h0
 have h2:n < 2 ^ (n.log2+1):=jV
 have h3:2 ^ m.log2 < 2 ^ (n.log2+1):=by omega
 have:=(Nat.pow_lt_pow_iff_right (a:=2) (by decide)).1 h3
 omega
theorem CP {a b c:Nat} (h:a≤b):min a c≤min b c:=by omega
theorem AR {base L:Int} {m n:Nat} (h:m≤n):DE base L m≤DE base L n:=uP (kR _) (aD _ h)
theorem zM {x y a b:Nat} (h:x+1≤y) (ha:a≤9007199254740992) (hb:4503599627370496≤b):x * 4503599627370496+a≤y * 4503599627370496+b:=by omega
theorem rX {base:Int} {m n:Nat} (h:m≤n):kC base m≤kC base n:=by
 unfold kC
 by_cases h0:m=0
 ·rw [aF h0];exact be _
 ·rw [aJ h0,aJ (show n≠0 by omega)]
  refine CP ?_
  have hl:=AM h0 h
  have d1:sN base m=max (base+m.log2 - 52) dE:=rfl
  have d2:sN base n=max (base+n.log2 - 52) dE:=rfl
  generalize sN base m=L at *
  generalize sN base n=L' at *
  generalize dE=z at *
  by_cases hlt:L < L'
  ·exact zM (by omega) (Gp (by omega)) (Gn (by omega) (by omega))
  ·have e:L'=L:=by omega
   rw [e]
   exact iw (AR h) _
end Go.Proofs.Zn

/- Rounding keeps order: the key of a rung. (Own work.) -/
namespace Go.Proofs.Zn
open Go.Proofs.Tryz
open Go
def fm (k:Nat):Nat:=if k < 4503599627370496 then k else if k < 9218868437227405312 then (4503599627370496+k % 4503599627370496) * 2 ^ (k / 4503599627370496 - 1) else big
theorem qA (s:Bool) {k:Nat} (h:k≤9218868437227405312):lV (FloatKind.f64.format.read (FloatKind.f64.format.word s k))=bif s then -(fm k:Int) else (fm k:Int):=by
 have e1:FloatKind.f64.format.signWeight=9223372036854775808:=by decide
 have e2:FloatKind.f64.format.binade=4503599627370496:=by decide
 have e3:FloatKind.f64.format.infRung=9218868437227405312:=by decide
 have w1:FloatKind.f64.format.word s k % 9223372036854775808=k:=by
  unfold Ieee.Format.word;rw [e1];cases s
  ·rw [aJ (by decide)];omega
  ·rw [aF rfl];omega
 have w2:(FloatKind.f64.format.word s k / 9223372036854775808 % 2==1)=s:=by
  unfold Ieee.Format.word;rw [e1];cases s
  ·rw [aJ (by decide)];simp;omega
  ·rw [aF rfl];simp;omega
 simp only [Ieee.Format.read,e1,e2,e3,w1,w2]
 unfold fm
 by_cases h1:k < 4503599627370496
 ·rw [aF h1,aF h1]
  show Ieee.signed s k (dE - dE).toNat=_
  rw [Int.sub_self,fq]
  cases s <;> simp
 ·rw [aJ h1,aJ h1]
  by_cases h2:k < 9218868437227405312
  ·rw [aF h2,aF h2]
   show Ieee.signed s _ (dE+((k / 4503599627370496 - 1:Nat):Int) - dE).toNat=_
   have e:(dE+((k / 4503599627370496 - 1:Nat):Int) - dE).toNat=k / 4503599627370496 - 1:=by
    generalize dE=z;omega
   rw [e,fq]
   cases s <;> simp
  ·rw [aJ h2,aJ h2,aF (by omega)]
   rfl
end Go.Proofs.Zn

/- Rounding keeps order: rungs. (Own work.) -/
set_option exponentiation.threshold 4096
namespace Go.Proofs.Zn
open Go.Proofs.Tryz
open Go
theorem jL {k j:Nat} (h:k≤j):fm k≤fm j:=by
 unfold fm
 have hb:∀ q r,q≤2046→r < 4503599627370496→(4503599627370496+r) * 2 ^ (q - 1)≤big:=by
  intro q r hq hr
  have g1:2 ^ (q - 1)≤2 ^ 2046:=aX (by decide) (by omega)
  have g2:4503599627370496+r≤2 ^ 53:=by
   have:(2:Nat) ^ 53=9007199254740992:=by decide
   omega
  exact bj (ja g2 g1) qS
 by_cases k1:k < 4503599627370496
 ·rw [aF k1]
  by_cases j1:j < 4503599627370496
  ·rw [aF j1];exact h
  ·rw [aJ j1]
   by_cases j2:j < 9218868437227405312
   ·rw [aF j2]
    have:=ja (show 4503599627370496≤4503599627370496+j % 4503599627370496 by omega) (kR (j / 4503599627370496 - 1))
    omega
   ·rw [aJ j2]
    have:=hb 0 0 (by decide) (by decide)
    simp at this;omega
 ·rw [aJ k1,aJ (show ¬ j < 4503599627370496 by omega)]
  by_cases j2:j < 9218868437227405312
  ·rw [aF (show k < 9218868437227405312 by omega),aF j2]
   have q:k / 4503599627370496≤j / 4503599627370496:=Nat.div_le_div_right h
   have q1:1≤k / 4503599627370496:=by omega
   by_cases e:k / 4503599627370496=j / 4503599627370496
   ·rw [e];exact aD _ (by omega)
   ·have r1:4503599627370496+k % 4503599627370496≤4503599627370496 * 2:=by omega
    have r2:2 * 2 ^ (k / 4503599627370496 - 1)≤2 ^ (j / 4503599627370496 - 1):=by
     rw [bS,← gx];exact aX (by decide) (by omega)
    have r3:=aD (2 ^ (k / 4503599627370496 - 1)) r1
    have r4:=ja (show 4503599627370496≤4503599627370496+j % 4503599627370496 by omega) r2
    rw [eD] at r3
    exact bj r3 r4
  ·rw [aJ j2]
   by_cases k2:k < 9218868437227405312
   ·rw [aF k2];exact hb _ _ (by omega) (jb _ (by decide))
   ·rw [aJ k2];exact aH _
end Go.Proofs.Zn

/- Rounding keeps order: what is taken off and what is added. (Own work.) -/
namespace Go.Proofs.Zn
open Go.Proofs.Tryz
open Go Go.VL
def vm (base T:Int):Int:=bif decide (T < 0) then -(fm (kC base T.natAbs):Int) else (fm (kC base T.natAbs):Int)
theorem Fv (base:Int) (m:Nat):kC base m≤9218868437227405312:=by
 unfold kC
 by_cases h:m=0
 ·rw [aF h];exact be _
 ·rw [aJ h];exact Nat.min_le_right _ _
theorem wK {base T S:Int} (h:T≤S):vm base T≤vm base S:=by
 unfold vm
 by_cases t:T < 0
 ·rw [dT t,cT]
  by_cases s:S < 0
  ·rw [dT s,cT]
   have:=jL (rX (base:=base) (show S.natAbs≤T.natAbs by omega))
   omega
  ·rw [dF s,cF];omega
 ·rw [dF t,cF,dF (by omega),cF]
  have:=jL (rX (base:=base) (show T.natAbs≤S.natAbs by omega))
  omega
theorem zP (base:Int):fm (kC base 0)=0:=by
 unfold kC fm
 rw [aF rfl,aF (by decide)]
theorem vE {base T:Int} {g:Bool} (hg:T≠0→g=decide (T < 0)):lV (FloatKind.f64.format.read (FloatKind.f64.format.nearest g T.natAbs base))=vm base T:=by
 rw [wJ,qA _ (Fv _ _),vm]
 by_cases h:T=0
 ·subst h
  have:fm (kC base (0:Int).natAbs)=0:=zP base
  rw [this]
  cases g <;> rfl
 ·rw [hg h]
end Go.Proofs.Zn

/- Rounding keeps order: the ends of a reach. (Own work.) -/
namespace Go.Proofs.Zn
open Go.Proofs.Tryz
open Go Go.VL
theorem wx (t:Bool) (n k:Nat):Ieee.signed (!t) n k = -Ieee.signed t n k:=by
 rw [fq,fq];cases t <;> simp
theorem rk {t:Bool} {n k k':Nat} (h:0≤Ieee.signed t n k):0≤Ieee.signed t n k':=by
 rw [fq] at *
 cases t
 ·simp;exact Int.mul_nonneg (Int.natCast_nonneg _) (Int.pow_nonneg (by decide))
 ·have hp:=kR k
  have hn:n=0:=by
   rcases fZ n with h0 | h0
   ·exact h0
   ·have:=jt h0 hp
    rw [cT] at h;omega
  subst hn;simp
theorem AN {s t:Bool} {m n:Nat} {i j:Int} (h:0≤Ieee.signed t n (j - dE).toNat) :
  lV (FloatKind.f64.format.read (FloatKind.f64.format.write (.number (if Ieee.signed s m (i - min i j).toNat+Ieee.signed (!t) n (j - min i j).toNat=0 then s && !t else Ieee.signed s m (i - min i j).toNat+Ieee.signed (!t) n (j - min i j).toNat < 0) (Ieee.signed s m (i - min i j).toNat+Ieee.signed (!t) n (j - min i j).toNat).natAbs (min i j)))) ≤
  lV (FloatKind.f64.format.read (FloatKind.f64.format.write (.number (if Ieee.signed s m (i - min i j).toNat+Ieee.signed t n (j - min i j).toNat=0 then s && t else Ieee.signed s m (i - min i j).toNat+Ieee.signed t n (j - min i j).toNat < 0) (Ieee.signed s m (i - min i j).toNat+Ieee.signed t n (j - min i j).toNat).natAbs (min i j)))):=by
 have h0:=rk (k':=(j - min i j).toNat) h
 rw [wx]
 generalize Ieee.signed s m (i - min i j).toNat=X at *
 generalize Ieee.signed t n (j - min i j).toNat=R at *
 unfold Ieee.Format.write
 rw [vE (T:=X + -R) (fun h=>by simp [h]),vE (T:=X+R) (fun h=>by simp [h])]
 exact wK (by omega)
end Go.Proofs.Zn

/- The lanes that are reached: by count and by definition the same. (Own work.) -/
set_option exponentiation.threshold 4096
namespace Go.Proofs.Zn
open Go.Proofs.Tryz
open Go Go.VL
theorem qz:cz (some 0)=0:=by
 have h:FloatKind.f64.format.read 0=.number false 0 FloatKind.f64.format.leastPlace:=by decide
 show lV (FloatKind.f64.format.read 0)=0
 rw [h]
 show Ieee.signed false 0 _=0
 rw [fq];simp
theorem yI (s:Bool):lV (FloatKind.f64.format.read (FloatKind.f64.format.write (.infinity s)))=bif s then -(big:Int) else big:=by
 have e3:FloatKind.f64.format.infRung=9218868437227405312:=by decide
 unfold Ieee.Format.write
 rw [e3,qA s (aH _)]
 rfl
theorem Ht {x r:Fl} (hx:da x=false) (hr:da r=false) (h0:0≤cz r) (hl:da (loF x r)=false) (hh:da (hiF x r)=false):cz (loF x r)≤cz (hiF x r):=by
 cases x with
 | none=>cases hx
 | some a => cases r with
   | none=>cases hr
   | some b =>
     have el:loF (some a) (some b)=((FloatKind.f64.format.read a).sum (FloatKind.f64.format.read b).opposite).map FloatKind.f64.format.write:=rfl
     have eh:hiF (some a) (some b)=((FloatKind.f64.format.read a).sum (FloatKind.f64.format.read b)).map FloatKind.f64.format.write:=rfl
     rw [el] at hl ⊢
     rw [eh] at hh ⊢
     have hx:(FloatKind.f64.format.read a).isNaN=false:=hx
     have hr:(FloatKind.f64.format.read b).isNaN=false:=hr
     have h0:0≤lV (FloatKind.f64.format.read b):=h0
     have hbig:(0:Int) < (big:Int):=by
      have:=qS
      have h0:0 < 2 ^ 53 * 2 ^ 2046:=jt (cX (by decide)) (cX (by decide))
      exact Int.ofNat_lt.2 (cm h0 this)
     generalize FloatKind.f64.format.read a=d at *
     generalize FloatKind.f64.format.read b=e at *
     cases d with
     | nan s t=>cases hx
     | infinity s =>
       cases e with
       | nan s t=>cases hr
       | infinity t=>cases s <;> cases t <;> first | (cases hl;done) | (cases hh;done)
       | number t n j=>exact jw _
     | number s m i =>
       cases e with
       | nan s t=>cases hr
       | infinity t =>
         cases t
         ·show lV (FloatKind.f64.format.read (FloatKind.f64.format.write (.infinity true)))≤lV (FloatKind.f64.format.read (FloatKind.f64.format.write (.infinity false)))
          rw [yI,yI,cT,cF];omega
         ·have h0:0 ≤ -(big:Int):=h0
          omega
       | number t n j=>exact AN h0
theorem Cj (l:List Fl) (x r:Fl):jF l x r=eX l x r:=by
 unfold jF eX
 cases h1:(cV l != 0)
 ·cases h2:da x
  ·cases h3:da r
   ·cases h4:ltF r (some 0)
    ·cases h5:da (loF x r)
     ·cases h6:da (hiF x r)
      ·simp only [cF]
       have hc:cV l=0:=by simpa using h1
       refine IT hc h5 h6 (Ht h2 h3 ?_ h5 h6)
       have z:da (some 0)=false:=by decide
       rw [kg h3 z,qz] at h4
       have:=oF h4
       omega
      ·rfl
     ·rfl
    ·rfl
   ·rfl
  ·rfl
 ·rfl
end Go.Proofs.Zn

/- Volumes out of floats: the arithmetic. (Own work.) -/
set_option exponentiation.threshold 4096
namespace Go.Proofs.Wn
open Go.Proofs.Tryz
open Go Go.VL Go.Proofs.Zn
theorem GY {n k m:Nat} (hn:n=2 ^ k * (2 * m+1)) (h:n < 2 ^ 64):n &&& (2 ^ 64 - n)=2 ^ k:=by
 have hk:0 < 2 ^ k:=cX (by decide)
 have hpos:0 < n:=by rw [hn];exact jt hk (by omega)
 have e:2 ^ 64 - n=2 ^ 64 - ((n - 1)+1):=by rw [Nat.sub_add_cancel hpos]
 have e1:n - 1=2 ^ k * (2 * m)+(2 ^ k - 1):=by
  rw [hn,Nat.mul_add,ib];omega
 rw [e]
 refine Nat.eq_of_testBit_eq fun i=>?_
 rw [Nat.testBit_and,Nat.testBit_two_pow_sub_succ (by omega),e1,Nat.testBit_two_pow_mul_add _ (by omega),hn,Nat.testBit_two_pow_mul,Nat.testBit_two_pow]
 by_cases h1:i < k
 ·have:¬ i≥k:=by omega
  simp [this];omega
 ·rw [aJ h1]
  have hki:k < 64:=by
   rcases aw k 64 with h | h
   ·exact h
   ·have:2 ^ 64≤2 ^ k:=aX (by decide) h
    have:2 ^ k * 1≤2 ^ k * (2 * m+1):=ca _ (by omega)
    omega
  by_cases h2:i=k
  ·subst h2
   simp [hki]
  ·have h3:i - k=(i - k - 1)+1:=by omega
   have t1:(2 * m+1).testBit (i - k)=m.testBit (i - k - 1):=by
    rw [h3,Nat.testBit_succ];congr 1;omega
   have t2:(2 * m).testBit (i - k)=m.testBit (i - k - 1):=by
    rw [h3,Nat.testBit_succ];congr 1;omega
   rw [t1,t2]
   have:¬ k=i:=fun e=>h2 e.symm
   cases m.testBit (i - k - 1) <;> simp [this]
def He:List Int:=[0,1,56,2,57,49,28,3,61,58,42,50,38,29,17,4,62,47,59,36,45,43,51,22,53,39,33,30,24,18,12,5,63,55,48,27,60,41,37,16,46,35,44,21,52,32,23,11,54,26,40,15,34,20,31,10,25,14,19,9,13,8,7,6]
theorem HB:∀ k:Fin 64,(2 ^ k.1 * 285870213051353865 % 2 ^ 64) / 2 ^ 58 < 64∧He.getD ((2 ^ k.1 * 285870213051353865 % 2 ^ 64) / 2 ^ 58) 0=(k.1:Int):=by decide +kernel
theorem vl:∀ n:Nat,0 < n→∃ k m,n=2 ^ k * (2 * m+1)
 | n, h => by
   by_cases h2:n % 2=1
   ·exact ⟨0,n / 2,by omega⟩
   ·obtain ⟨k,m,e⟩:=vl (n / 2) (by omega)
    exact ⟨k+1,m,by rw [gx,Nat.mul_right_comm,← e];omega⟩
termination_by n=>n
def pa (n s:Nat):Nat:=n / 2 ^ s+(bif decide (2 ^ s < 2 * (n % 2 ^ s)) || (2 ^ s==2 * (n % 2 ^ s) && n / 2 ^ s % 2==1) then 1 else 0)
theorem IB (n s:Nat):n / 2 ^ s≤pa n s:=by unfold pa;omega
theorem Ca {n s:Nat} (h:2 * n < 2 ^ s):pa n s=0:=by
 unfold pa
 rw [gW (by omega),cH (by omega),dF (by omega)]
 have:(2 ^ s==2 * n)=false:=by simp;omega
 rw [this];rfl
def iA (r:Nat):Int:=bif decide (r > 9218868437227405312) then 1 else bif decide (r=9218868437227405312) then 2 else bif decide (r=0) then 3 else bif decide (r < 4503599627370496) then 4 else 5
theorem tN (b:Nat):da (some b)=decide (b % 9223372036854775808 > 9218868437227405312):=by
 show (FloatKind.f64.format.read b).isNaN=_
 rw [vn]
 by_cases h:b % 9223372036854775808 > 9218868437227405312
 ·rw [dT h,dT (by omega)]
 ·rw [dF h,dF (by omega)]
theorem EW {b:Nat} (hb:b < 18446744073709551616):FloatKind.f64.format.word (decide (9223372036854775808≤b)) (b % 9223372036854775808)=b:=by
 have e1:FloatKind.f64.format.signWeight=9223372036854775808:=by decide
 unfold Ieee.Format.word
 rw [e1]
 by_cases h:9223372036854775808≤b
 ·rw [dT h];simp;omega
 ·rw [dF h];simp;omega
theorem tY {b:Nat} (hb:b < 18446744073709551616) (h:b % 9223372036854775808≤9218868437227405312):cz (some b)=bif decide (9223372036854775808≤b) then -(fm (b % 9223372036854775808):Int) else (fm (b % 9223372036854775808):Int):=by
 have:=qA (decide (9223372036854775808≤b)) h
 rw [EW hb] at this
 exact this
theorem jK {r:Nat} (h:r < 4503599627370496):fm r=r:=by unfold fm;rw [aF h]
theorem EZ {r:Nat} (h:0 < r):0 < fm r:=by
 have:=jL (k:=1) (j:=r) h
 rw [jK (by decide:1 < 4503599627370496)] at this;omega
theorem Bw:fm 0=0:=jK (by decide)
theorem Bx {r:Nat} (h:r < 9218868437227405312):fm r < fm (r+1):=by
 by_cases h1:r+1 < 4503599627370496
 ·rw [jK (by omega),jK h1];omega
 ·by_cases h0:r < 4503599627370496
  ·have:r=4503599627370495:=by omega
   subst this
   rw [jK h0]
   decide +kernel
  ·by_cases h2:r+1 < 9218868437227405312
   ·unfold fm
    rw [aJ h0,aF h,aJ h1,aF h2]
    by_cases h3:r % 4503599627370496+1 < 4503599627370496
    ·have e1:(r+1) / 4503599627370496=r / 4503599627370496:=by omega
     have e2:(r+1) % 4503599627370496=r % 4503599627370496+1:=by omega
     rw [e1,e2]
     exact eZ (by omega) (cX (by decide))
    ·have e1:(r+1) / 4503599627370496=r / 4503599627370496+1:=by omega
     have e2:(r+1) % 4503599627370496=0:=by omega
     have e3:r / 4503599627370496+1 - 1=(r / 4503599627370496 - 1)+1:=by omega
     rw [e1,e2,e3,gx]
     have hp:0 < 2 ^ (r / 4503599627370496 - 1):=cX (by decide)
     generalize 2 ^ (r / 4503599627370496 - 1)=P at hp
     have e4:r % 4503599627370496=4503599627370495:=by omega
     rw [e4]
     omega
   ·have e:r=9218868437227405311:=by omega
    subst e
    have hb:=qS
    unfold fm
    rw [aJ (by decide),aF (by decide),aJ (by decide),aJ (by decide)]
    have:(4503599627370496+9218868437227405311 % 4503599627370496) * 2 ^ (9218868437227405311 / 4503599627370496 - 1) < 2 ^ 53 * 2 ^ 2046:=by decide +kernel
    omega
theorem HA {r q:Nat} (h:r < q) (hq:q≤9218868437227405312):fm r < fm q:=cm (Bx (by omega)) (jL h)
theorem tp {r q:Nat} (hr:r≤9218868437227405312) (hq:q≤9218868437227405312):fm r < fm q↔r < q:=
 ⟨fun h=>by
  rcases aw r q with g | g
  ·exact g
  ·have:=jL g;omega,fun h=>HA h hq⟩
end Go.Proofs.Wn

/- Volumes out of floats: the model; what the program and the definition make of it. (Own work.) -/
set_option exponentiation.threshold 4096
namespace Go.Proofs.Wn
open Go.Proofs.Tryz
open Go Go.VL Go.Proofs.Zn
theorem qR {a:Nat} (h:a < 18446744073709551616):(BitVec.ofInt (IntKind.bits .u64) (a:Int)).toNat=a:=by
 show (BitVec.ofInt 64 (a:Int)).toNat=a
 rw [BitVec.toNat_ofInt];omega
theorem xr {a c:Nat} (ha:a < 18446744073709551616) (hc:c < 18446744073709551616):(BitVec.ofInt (IntKind.bits .u64) (a:Int) &&& BitVec.ofInt (IntKind.bits .u64) (c:Int)).toNat=a &&& c:=by
 rw [BitVec.toNat_and,qR ha,qR hc]
theorem LW {a c:Nat} (ha:a < 18446744073709551616) (hc:c < 18446744073709551616):(BitVec.ofInt (IntKind.bits .u64) (a:Int) ||| BitVec.ofInt (IntKind.bits .u64) (c:Int)).toNat=a ||| c:=by
 rw [BitVec.toNat_or,qR ha,qR hc]
theorem rP {a:Nat} (h:a < 18446744073709551616):IntKind.u64.wrap (a:Int)=(a:Int):=by
 rw [jJ];omega
theorem LY (a:Nat):a &&& 4503599627370495=a % 4503599627370496:=eP a 52
theorem LZ (a:Nat):a &&& 2047=a % 2048:=eP a 11
theorem or52 {a:Nat} (h:a < 4503599627370496):a ||| 4503599627370496=a+4503599627370496:=by
 have:=Nat.two_pow_add_eq_or_of_lt (i:=52) (b:=a) h 1
 rw [Nat.or_comm]
 have e:2 ^ 52 * 1=4503599627370496:=by decide
 rw [e] at this
 omega
theorem lx (a c:Nat):Int.fdiv (a:Int) (c:Int)=((a / c:Nat):Int):=by
 rw [fh _ (by omega)];rfl
theorem BF (a c:Nat):Int.tmod (a:Int) (c:Int)=((a % c:Nat):Int):=by
 rw [dS (by omega)];rfl
theorem CN {n:Nat} (h0:0 < n) (h:n < 18446744073709551616):IntKind.u64.wrap (0 - (n:Int))=((2 ^ 64 - n:Nat):Int):=by
 rw [jJ]
 have:(2 ^ 64:Nat)=18446744073709551616:=by decide
 omega
def tzF:Nat→Nat→Nat
 | 0,_=>0
 | f+1,n=>bif n % 2==1 then 0 else tzF f (n / 2)+1
def tzN (n:Nat):Nat:=tzF 64 n
theorem uB:∀ (f k m:Nat),k < f→tzF f (2 ^ k * (2 * m+1))=k
 | 0,_,_,h=>by omega
 | f + 1, 0, m, _ => by
   have:((2 ^ 0 * (2 * m+1)) % 2==1)=true:=by simp
   rw [tzF,this];rfl
 | f + 1, k + 1, m, h => by
   have e:2 ^ (k+1) * (2 * m+1)=2 * (2 ^ k * (2 * m+1)):=by rw [gx,bS (2 ^ k) 2,eD]
   have:(2 * (2 ^ k * (2 * m+1)) % 2==1)=false:=by
    have:2 * (2 ^ k * (2 * m+1)) % 2=0:=Nat.mul_mod_right 2 _
    rw [this];rfl
   rw [e,tzF,this,cF,Nat.mul_div_cancel_left _ (by decide),uB f k m (by omega)]
theorem Cx {k n m:Nat} (hn:n=2 ^ k * (2 * m+1)) (h:n < 18446744073709551616):k < 64:=by
 rcases aw k 64 with g | g
 ·exact g
 ·have h1:2 ^ 64≤2 ^ k:=aX (by decide) g
  have h2:2 ^ k * 1≤2 ^ k * (2 * m+1):=ca _ (by omega)
  have:(2 ^ 64:Nat)=18446744073709551616:=by decide
  omega
def M0 (r:Nat):Nat:=bif decide (r < 4503599627370496) then r else r % 4503599627370496+4503599627370496
def E0 (r:Nat):Int:=bif decide (r < 4503599627370496) then -1074 else ((r / 4503599627370496:Nat):Int) - 1075
theorem zi (r:Nat):M0 r < 9007199254740992:=by
 unfold M0
 by_cases h:r < 4503599627370496
 ·rw [dT h,cT];omega
 ·rw [dF h,cF];omega
theorem Ju {r:Nat} (h:0 < r):0 < M0 r:=by
 unfold M0
 by_cases h:r < 4503599627370496
 ·rw [dT h,cT];omega
 ·rw [dF h,cF];omega
def dv (r:Nat):Nat:=M0 r / 2 ^ tzN (M0 r)
def ej (r:Nat):Int:=E0 r+(tzN (M0 r):Int)
def nX (b:Nat):Bool:=decide (9223372036854775808≤b)
def rN (b:Nat):Nat:=b % 9223372036854775808
def nT (b:Nat):Int×Int:=bif decide (iA (rN b) < 4) then (0,0) else (bif nX b then -(dv (rN b):Int) else (dv (rN b):Int),ej (rN b))
def rh (r:Nat):Nat:=bif decide (ej r < 0) then pa (dv r * 1000) (-ej r).toNat else dv r * 1000 * 2 ^ (ej r).toNat
def ofS (b:Nat):Int×Int:=bif iA (rN b)==1 then (0,20) else bif iA (rN b)==2 then (0,21) else bif iA (rN b)==3 then (0,0) else bif nX b then (0,22) else
 bif decide (rh (rN b) > 1099511627776) then (0,4) else ((rh (rN b):Int),0)
theorem mX {r:Nat} (h:0 < r):∃ m,M0 r=2 ^ tzN (M0 r) * (2 * m+1)∧dv r=2 * m+1∧tzN (M0 r) < 53:=by
 obtain ⟨k,m,e⟩:=vl (M0 r) (Ju h)
 have hl:=zi r
 have hk:=Cx e (by omega)
 have ht:tzN (M0 r)=k:=by rw [e];exact uB 64 k m hk
 have hk2:k < 53:=by
  rcases aw k 53 with g | g
  ·exact g
  ·have h1:2 ^ 53≤2 ^ k:=aX (by decide) g
   have h2:2 ^ k * 1≤2 ^ k * (2 * m+1):=ca _ (by omega)
   have:(2 ^ 53:Nat)=9007199254740992:=by decide
   omega
 refine ⟨m,by rw [ht];exact e,?_,by omega⟩
 unfold dv
 rw [ht,e,Nat.mul_div_cancel_left _ (cX (by decide))]
theorem odd_lt {r:Nat}:dv r < 9007199254740992:=Nat.lt_of_le_of_lt (Nat.div_le_self _ _) (zi r)
theorem FT {r:Nat} (h:0 < r):0 < dv r:=by obtain ⟨m,_,e,_⟩:=mX h;omega
theorem pow_lo {r:Nat} : -1074≤ej r:=by
 unfold ej E0
 by_cases h:r < 4503599627370496
 ·rw [dT h,cT];omega
 ·rw [dF h,cF];omega
theorem zO {r:Nat} (h0:0 < r) (h:r≤4787326403894837248) (hp:0≤ej r):dv r * 2 ^ (ej r).toNat≤1099511627776:=by
 obtain ⟨m,e1,e2,e3⟩:=mX h0
 have hM:=zi r
 unfold ej at hp ⊢
 have hr:¬ r < 4503599627370496:=fun hr=>by unfold E0 at hp;rw [dT hr,cT] at hp;omega
 have hE:E0 r=((r / 4503599627370496:Nat):Int) - 1075:=by unfold E0;rw [dF hr,cF]
 rw [← e2] at e1
 have hE2:r / 4503599627370496≤1063:=by omega
 obtain ⟨q,hq⟩:∃ q:Nat,E0 r = -(q:Int):=⟨(-E0 r).toNat,by omega⟩
 have hs:tzN (M0 r)=(E0 r+(tzN (M0 r):Int)).toNat+q:=by omega
 have e4:M0 r=dv r * 2 ^ (E0 r+(tzN (M0 r):Int)).toNat * 2 ^ q:=by
  rw [eD,← dL,← hs,bS];exact e1
 generalize dv r * 2 ^ (E0 r+(tzN (M0 r):Int)).toNat=Z at e4
 have hq12:12≤q:=by omega
 by_cases h13:q=12
 ·subst h13
  have:M0 r=4503599627370496:=by
   unfold M0;rw [dF hr,cF];omega
  have e5:(2 ^ 12:Nat)=4096:=by decide
  rw [e5] at e4;omega
 ·have:(2 ^ 13:Nat)≤2 ^ q:=aX (by decide) (by omega)
  have h5:Z * 2 ^ 13≤Z * 2 ^ q:=ca _ this
  have e5:(2 ^ 13:Nat)=8192:=by decide
  rw [e5] at h5;omega
theorem AP {r:Nat} (h:r > 4787326403894837248) (hi:r < 9218868437227405312):rh r > 1099511627776:=by
 have h0:0 < r:=by omega
 obtain ⟨m,e1,e2,e3⟩:=mX h0
 rw [← e2] at e1
 have hr:¬ r < 4503599627370496:=by omega
 have hE:E0 r=((r / 4503599627370496:Nat):Int) - 1075:=by unfold E0;rw [dF hr,cF]
 have hM:M0 r=r % 4503599627370496+4503599627370496:=by unfold M0;rw [dF hr,cF]
 have hE2:1063≤r / 4503599627370496:=by omega
 unfold rh
 by_cases hp:ej r < 0
 ·rw [dT hp,cT]
  have hge:=IB (dv r * 1000) (-ej r).toNat
  have key:1099511627776 * 2 ^ (-ej r).toNat < dv r:=by
   unfold ej at hp ⊢
   obtain ⟨q,hq⟩:∃ q:Nat,E0 r = -(q:Int):=⟨(-E0 r).toNat,by omega⟩
   have hs:q=tzN (M0 r)+(-(E0 r+(tzN (M0 r):Int))).toNat:=by omega
   have hq12:q≤12:=by omega
   have h5:1099511627776 * 2 ^ q < M0 r:=by
    by_cases h12:q=12
    ·subst h12
     have e5:(2 ^ 12:Nat)=4096:=by decide
     rw [e5];omega
    ·have:(2 ^ q:Nat)≤2 ^ 11:=aX (by decide) (by omega)
     have e5:(2 ^ 11:Nat)=2048:=by decide
     rw [e5] at this;omega
   rw [hs,dL] at h5
   have e6:M0 r=dv r * 2 ^ tzN (M0 r):=by rw [bS];exact e1
   have h6:(1099511627776 * 2 ^ (-(E0 r+(tzN (M0 r):Int))).toNat) * 2 ^ tzN (M0 r) < dv r * 2 ^ tzN (M0 r):=by
    rw [← e6,eD,bS (2 ^ (-(E0 r+(tzN (M0 r):Int))).toNat)];exact h5
   exact Nat.lt_of_mul_lt_mul_right h6
  have hp2:0 < 2 ^ (-ej r).toNat:=cX (by decide)
  have:1099511627776 * 1000≤dv r * 1000 / 2 ^ (-ej r).toNat:=by
   rw [Nat.le_div_iff_mul_le hp2,Nat.mul_right_comm]
   exact aD _ (Nat.le_of_lt key)
  omega
 ·rw [dF hp,cF]
  unfold ej at hp ⊢
  have key:1099511627776 * 1≤dv r * 2 ^ (E0 r+(tzN (M0 r):Int)).toNat:=by
   rcases Int.lt_or_le (E0 r) 0 with hn | hn
   ·obtain ⟨q,hq⟩:∃ q:Nat,E0 r = -(q:Int):=⟨(-E0 r).toNat,by omega⟩
    have hs:tzN (M0 r)=(E0 r+(tzN (M0 r):Int)).toNat+q:=by omega
    have e4:M0 r=dv r * 2 ^ (E0 r+(tzN (M0 r):Int)).toNat * 2 ^ q:=by
     rw [eD,← dL,← hs,bS];exact e1
    generalize dv r * 2 ^ (E0 r+(tzN (M0 r):Int)).toNat=Z at e4
    have:(2 ^ q:Nat)≤2 ^ 12:=aX (by decide) (by omega)
    have h5:Z * 2 ^ q≤Z * 2 ^ 12:=ca _ this
    have e5:(2 ^ 12:Nat)=4096:=by decide
    rw [e5] at h5;omega
   ·have h1:2 ^ tzN (M0 r)≤2 ^ (E0 r+(tzN (M0 r):Int)).toNat:=aX (by decide) (by omega)
    have h2:dv r * 2 ^ tzN (M0 r)≤dv r * 2 ^ (E0 r+(tzN (M0 r):Int)).toNat:=ca _ h1
    have e6:M0 r=dv r * 2 ^ tzN (M0 r):=by rw [bS];exact e1
    omega
  have:dv r * 1000 * 2 ^ (E0 r+(tzN (M0 r):Int)).toNat=1000 * (dv r * 2 ^ (E0 r+(tzN (M0 r):Int)).toNat):=by
   rw [bS (dv r) 1000,eD]
  omega
end Go.Proofs.Wn

namespace Go.Proofs.Wn
open Go.Proofs.Tryz
open Go Go.VL
theorem t63 (k:Int):@Eq _ (xS prog codes sigs f63 [.flds] 300 [⟨.int,k⟩]) (bif k==1 then bif k==1 then .need U6 (.ret (Flds.mk true false false false false)) else bif k==4 then .need U6 (.ret (Flds.mk false true true false true)) else bif k==5 then bif k==5 then .need U6 (.ret (Flds.mk false true false false true)) else bif k==7 then bif k==7 then .need U6 (.ret (Flds.mk false true false false false)) else bif k==10 then .need U6 (.ret (Flds.mk false true false true false)) else .need U6 (.ret (Flds.mk false false false false false)) else bif k==9 then .need U6 (.ret (Flds.mk false true false false false)) else bif k==10 then .need U6 (.ret (Flds.mk false true false true false)) else .need U6 (.ret (Flds.mk false false false false false)) else bif k==6 then .need U6 (.ret (Flds.mk false true false false true)) else bif k==7 then bif k==7 then .need U6 (.ret (Flds.mk false true false false false)) else bif k==10 then .need U6 (.ret (Flds.mk false true false true false)) else .need U6 (.ret (Flds.mk false false false false false)) else bif k==9 then .need U6 (.ret (Flds.mk false true false false false)) else bif k==10 then .need U6 (.ret (Flds.mk false true false true false)) else .need U6 (.ret (Flds.mk false false false false false)) else bif k==2 then .need U6 (.ret (Flds.mk true false false false false)) else bif k==4 then .need U6 (.ret (Flds.mk false true true false true)) else bif k==5 then bif k==5 then .need U6 (.ret (Flds.mk false true false false true)) else bif k==7 then bif k==7 then .need U6 (.ret (Flds.mk false true false false false)) else bif k==10 then .need U6 (.ret (Flds.mk false true false true false)) else .need U6 (.ret (Flds.mk false false false false false)) else bif k==9 then .need U6 (.ret (Flds.mk false true false false false)) else bif k==10 then .need U6 (.ret (Flds.mk false true false true false)) else .need U6 (.ret (Flds.mk false false false false false)) else bif k==6 then .need U6 (.ret (Flds.mk false true false false true)) else bif k==7 then bif k==7 then .need U6 (.ret (Flds.mk false true false false false)) else bif k==10 then .need U6 (.ret (Flds.mk false true false true false)) else .need U6 (.ret (Flds.mk false false false false false)) else bif k==9 then .need U6 (.ret (Flds.mk false true false false false)) else bif k==10 then .need U6 (.ret (Flds.mk false true false true false)) else .need U6 (.ret (Flds.mk false false false false false))):=by kernel_rfl
theorem t64 (r:Req):@Eq _ (xS prog codes sigs f64 [.flds] 300 [⟨.req,r⟩]) (.need U6 (.ret (Flds.mk (decide ((r.ids.length:Int) > 0)) (r.a != 0) (r.b != 0) (r.ver != 0) (r.vol != 0)))):=by kernel_rfl
theorem t65 (f g:Flds):@Eq _ (xS prog codes sigs f65 [.bool] 300 [⟨.flds,f⟩,⟨.flds,g⟩]) (bif Flds.ids f then bif Flds.a f then bif Flds.b f then bif Flds.ver f then bif Flds.vol f then .need U2 (.ret (Flds.ids g==Flds.ids f && (Flds.a g==Flds.a f && (Flds.b g==Flds.b f && (Flds.ver g==Flds.ver f && (Flds.vol g==Flds.vol f && true)))))) else .need U2 (.ret (Flds.ids g==Flds.ids f && (Flds.a g==Flds.a f && (Flds.b g==Flds.b f && (Flds.ver g==Flds.ver f && (false==Flds.vol f && true)))))) else bif Flds.vol f then .need U2 (.ret (Flds.ids g==Flds.ids f && (Flds.a g==Flds.a f && (Flds.b g==Flds.b f && (false==Flds.ver f && (Flds.vol g==Flds.vol f && true)))))) else .need U2 (.ret (Flds.ids g==Flds.ids f && (Flds.a g==Flds.a f && (Flds.b g==Flds.b f && (false==Flds.ver f && (false==Flds.vol f && true)))))) else bif Flds.ver f then bif Flds.vol f then .need U2 (.ret (Flds.ids g==Flds.ids f && (Flds.a g==Flds.a f && (false==Flds.b f && (Flds.ver g==Flds.ver f && (Flds.vol g==Flds.vol f && true)))))) else .need U2 (.ret (Flds.ids g==Flds.ids f && (Flds.a g==Flds.a f && (false==Flds.b f && (Flds.ver g==Flds.ver f && (false==Flds.vol f && true)))))) else bif Flds.vol f then .need U2 (.ret (Flds.ids g==Flds.ids f && (Flds.a g==Flds.a f && (false==Flds.b f && (false==Flds.ver f && (Flds.vol g==Flds.vol f && true)))))) else .need U2 (.ret (Flds.ids g==Flds.ids f && (Flds.a g==Flds.a f && (false==Flds.b f && (false==Flds.ver f && (false==Flds.vol f && true)))))) else bif Flds.b f then bif Flds.ver f then bif Flds.vol f then .need U2 (.ret (Flds.ids g==Flds.ids f && (false==Flds.a f && (Flds.b g==Flds.b f && (Flds.ver g==Flds.ver f && (Flds.vol g==Flds.vol f && true)))))) else .need U2 (.ret (Flds.ids g==Flds.ids f && (false==Flds.a f && (Flds.b g==Flds.b f && (Flds.ver g==Flds.ver f && (false==Flds.vol f && true)))))) else bif Flds.vol f then .need U2 (.ret (Flds.ids g==Flds.ids f && (false==Flds.a f && (Flds.b g==Flds.b f && (false==Flds.ver f && (Flds.vol g==Flds.vol f && true)))))) else .need U2 (.ret (Flds.ids g==Flds.ids f && (false==Flds.a f && (Flds.b g==Flds.b f && (false==Flds.ver f && (false==Flds.vol f && true)))))) else bif Flds.ver f then bif Flds.vol f then .need U2 (.ret (Flds.ids g==Flds.ids f && (false==Flds.a f && (false==Flds.b f && (Flds.ver g==Flds.ver f && (Flds.vol g==Flds.vol f && true)))))) else .need U2 (.ret (Flds.ids g==Flds.ids f && (false==Flds.a f && (false==Flds.b f && (Flds.ver g==Flds.ver f && (false==Flds.vol f && true)))))) else bif Flds.vol f then .need U2 (.ret (Flds.ids g==Flds.ids f && (false==Flds.a f && (false==Flds.b f && (false==Flds.ver f && (Flds.vol g==Flds.vol f && true)))))) else .need U2 (.ret (Flds.ids g==Flds.ids f && (false==Flds.a f && (false==Flds.b f && (false==Flds.ver f && (false==Flds.vol f && true)))))) else bif Flds.a f then bif Flds.b f then bif Flds.ver f then bif Flds.vol f then .need U2 (.ret (false==Flds.ids f && (Flds.a g==Flds.a f && (Flds.b g==Flds.b f && (Flds.ver g==Flds.ver f && (Flds.vol g==Flds.vol f && true)))))) else .need U2 (.ret (false==Flds.ids f && (Flds.a g==Flds.a f && (Flds.b g==Flds.b f && (Flds.ver g==Flds.ver f && (false==Flds.vol f && true)))))) else bif Flds.vol f then .need U2 (.ret (false==Flds.ids f && (Flds.a g==Flds.a f && (Flds.b g==Flds.b f && (false==Flds.ver f && (Flds.vol g==Flds.vol f && true)))))) else .need U2 (.ret (false==Flds.ids f && (Flds.a g==Flds.a f && (Flds.b g==Flds.b f && (false==Flds.ver f && (false==Flds.vol f && true)))))) else bif Flds.ver f then bif Flds.vol f then .need U2 (.ret (false==Flds.ids f && (Flds.a g==Flds.a f && (false==Flds.b f && (Flds.ver g==Flds.ver f && (Flds.vol g==Flds.vol f && true)))))) else .need U2 (.ret (false==Flds.ids f && (Flds.a g==Flds.a f && (false==Flds.b f && (Flds.ver g==Flds.ver f && (false==Flds.vol f && true)))))) else bif Flds.vol f then .need U2 (.ret (false==Flds.ids f && (Flds.a g==Flds.a f && (false==Flds.b f && (false==Flds.ver f && (Flds.vol g==Flds.vol f && true)))))) else .need U2 (.ret (false==Flds.ids f && (Flds.a g==Flds.a f && (false==Flds.b f && (false==Flds.ver f && (false==Flds.vol f && true)))))) else bif Flds.b f then bif Flds.ver f then bif Flds.vol f then .need U2 (.ret (false==Flds.ids f && (false==Flds.a f && (Flds.b g==Flds.b f && (Flds.ver g==Flds.ver f && (Flds.vol g==Flds.vol f && true)))))) else .need U2 (.ret (false==Flds.ids f && (false==Flds.a f && (Flds.b g==Flds.b f && (Flds.ver g==Flds.ver f && (false==Flds.vol f && true)))))) else bif Flds.vol f then .need U2 (.ret (false==Flds.ids f && (false==Flds.a f && (Flds.b g==Flds.b f && (false==Flds.ver f && (Flds.vol g==Flds.vol f && true)))))) else .need U2 (.ret (false==Flds.ids f && (false==Flds.a f && (Flds.b g==Flds.b f && (false==Flds.ver f && (false==Flds.vol f && true)))))) else bif Flds.ver f then bif Flds.vol f then .need U2 (.ret (false==Flds.ids f && (false==Flds.a f && (false==Flds.b f && (Flds.ver g==Flds.ver f && (Flds.vol g==Flds.vol f && true)))))) else .need U2 (.ret (false==Flds.ids f && (false==Flds.a f && (false==Flds.b f && (Flds.ver g==Flds.ver f && (false==Flds.vol f && true)))))) else bif Flds.vol f then .need U2 (.ret (false==Flds.ids f && (false==Flds.a f && (false==Flds.b f && (false==Flds.ver f && (Flds.vol g==Flds.vol f && true)))))) else .need U2 (.ret (false==Flds.ids f && (false==Flds.a f && (false==Flds.b f && (false==Flds.ver f && (false==Flds.vol f && true))))))):=by kernel_rfl
theorem t62 (e:Int):@Eq _ (xS prog codes sigs f62 [.resp] 300 [⟨.int,e⟩]) (.need U6 (.ret (Resp.mk e (0:Int) (0:Int) (0:Int) []))):=by kernel_rfl
theorem t69 (e i:Int):@Eq _ (xS prog codes sigs f69 [.resp] 300 [⟨.int,e⟩,⟨.int,i⟩]) (.need U6 (.ret (Resp.mk e i (0:Int) (0:Int) []))):=by kernel_rfl
theorem t68 (d:Deck) (i:Int):@Eq _ (xS prog codes sigs f68 [.int] 300 [⟨.deck,d⟩,⟨.int,i⟩]) (.need (U5∧U2∧True) (.callP 130 [⟨.deck,d⟩,⟨.int,i⟩] [.part,.int] fun (x:Part×Int)=>.need U2 (.ret x.1.kind))):=by kernel_rfl
theorem t15 (r:Req):@Eq _ (xS prog codes sigs f15 [.int,.int] 300 [⟨.req,r⟩]) (Out.callX 58 [.d (.v (.int .u64 r.vol))] (.d (.f (some r.vol.toNat))) (.need (U2∧True) (.callP 57 [⟨.flt,(some r.vol.toNat)⟩] [.int,.int] fun (x:Int×Int)=>bif x.2==0 then bif x.1==0 then .need (U2∧U2) (.ret ((0:Int),(1:Int))) else .need (U2∧U2) (.ret (x.1,x.2)) else .need (U2∧U2) (.ret (x.1,x.2))))):=by kernel_rfl
theorem t75 (d:Deck) (r:Req):@Eq _ (xS prog codes sigs f75 [.bool] 300 [⟨.deck,d⟩,⟨.req,r⟩]) (.need (U5∧U7∧True) (.callP 18 [⟨.deck,d⟩,⟨.req,r⟩] [.resp] fun (x:Resp)=>.need U2 (.ret (x.err==0)))):=by kernel_rfl
theorem t60 (a b:List Change):@Eq _ (xS prog codes sigs f60 [.bool] 300 [⟨.sl .change,a⟩,⟨.sl .change,b⟩]) (bif (a.length:Int) != (b.length:Int) then .need U2 (.ret false) else .stop (hd f60 0) (mkS 26 [(0,.d (.sl .change a)),(1,.d (.sl .change b)),(5,i64 0)] [] 0)):=by kernel_rfl
theorem t66 (d:Deck) (l:List Int):@Eq _ (xS prog codes sigs f66 [.resp] 300 [⟨.deck,d⟩,⟨.sl .int,l⟩]) (bif (l.length:Int)==0 then .need (U2∧True) (.callP 62 [⟨.int,(1:Int)⟩] [.resp] fun (x:Resp)=>.need U6 (.ret x)) else bif decide ((l.length:Int) > 16) then .need (U2∧True) (.callP 62 [⟨.int,(2:Int)⟩] [.resp] fun (x:Resp)=>.need U6 (.ret x)) else .need (U2∧True) (.callP 128 [⟨.sl .int,l⟩] [.int] fun (x:Int)=>bif decide (x≥0) then .need (((0:Int)≤x∧x < (l.length:Int))∧True) (.need (U2∧U2∧True) (.callP 69 [⟨.int,(152:Int)⟩,⟨.int,(l.getD x.toNat Ty.int.dflt)⟩] [.resp] fun (x:Resp)=>.need U6 (.ret x))) else .stop (hd f66 0) (mkS 41 [(2,.ptr 0 0),(4,.ptr 1 0),(27,.d (.sl .int l)),(28,i64 (l.length:Int)),(29,i64 0)] [(0,.box (dC d)),(1,.box [i64 0,i64 0,i64 0,i64 0,nS])] 2))):=by kernel_rfl
theorem Iu (l:List Int):@Eq _ (xS prog codes sigs f128 [.int] 300 [⟨.sl .int,l⟩]) (.stop (hd f128 0) (mkS 28 [(3,.mp 0),(9,.d (.sl .int l)),(10,i64 (l.length:Int)),(11,i64 0)] [(0,.mp .int .int [])] 1)):=by kernel_rfl
theorem t77 (l:List Int):@Eq _ (xS prog codes sigs f77 [.sl .int] 300 [⟨.sl .int,l⟩]) (.stop (hd f77 0) (mkS 18 [(0,.d (.sl .int l)),(3,nS),(4,i64 0)] [] 0)):=by kernel_rfl
theorem t76 (d:Deck) (r:Req):@Eq _ (xS prog codes sigs f76 [.sl .int] 300 [⟨.deck,d⟩,⟨.req,r⟩]) (bif r.kind==2 then .need (U2∧True) (.callP 81 [⟨.sl .int,r.ids⟩] [.sl .int] fun (x:List Int)=>.need U2 (.ret x)) else bif r.kind==4 then .need (U5∧U2∧U2∧True) (.callP 133 [⟨.deck,d⟩,⟨.int,r.a⟩,⟨.int,r.b⟩] [.sl .int,.int] fun (x:List Int×Int)=>.need (U2∧U2∧True) (.need (U2∧True) (.callP 81 [Sigma.mk (.sl .int) [r.a,r.b]] [.sl .int] fun (x_1:List Int)=>.need (U2∧U2∧True) (.callP 134 [⟨.sl .int,x.1⟩,⟨.sl .int,x_1⟩] [.sl .int] fun (x:List Int)=>.need U2 (.ret x))))) else bif r.kind==5 then bif r.kind==5 then .need (U2∧True) (.need (U5∧U2∧True) (.callP 135 [⟨.deck,d⟩,Sigma.mk (.sl .int) [r.a]] [.sl .int,.int] fun (x:List Int×Int)=>.need (U2∧True) (.need (U2∧U2∧True) (.callP 134 [⟨.sl .int,x.1⟩,Sigma.mk (.sl .int) [r.a]] [.sl .int] fun (x:List Int)=>.need U2 (.ret x))))) else .need U2 (.ret []) else bif r.kind==6 then bif r.kind==6 then .need (U2∧True) (.need (U5∧U2∧True) (.callP 135 [⟨.deck,d⟩,Sigma.mk (.sl .int) [r.a]] [.sl .int,.int] fun (x:List Int×Int)=>.need (U2∧True) (.need (U2∧U2∧True) (.callP 134 [⟨.sl .int,x.1⟩,Sigma.mk (.sl .int) [r.a]] [.sl .int] fun (x:List Int)=>.need U2 (.ret x))))) else .need U2 (.ret []) else bif r.kind==7 then .need (U2∧True) (.need (U5∧U2∧True) (.callP 135 [⟨.deck,d⟩,Sigma.mk (.sl .int) [r.a]] [.sl .int,.int] fun (x:List Int×Int)=>.need (U2∧True) (.need (U2∧U2∧True) (.callP 134 [⟨.sl .int,x.1⟩,Sigma.mk (.sl .int) [r.a]] [.sl .int] fun (x:List Int)=>.need U2 (.ret x))))) else .need U2 (.ret [])):=by kernel_rfl
theorem t21 (d:Deck) (r:Req):@Eq _ (xS prog codes sigs f21 [.sl .int] 300 [⟨.deck,d⟩,⟨.req,r⟩]) (.need (U5∧U7∧True) (.callP 75 [⟨.deck,d⟩,⟨.req,r⟩] [.bool] fun (x:Bool)=>bif !x then .need U2 (.ret []) else .need (U5∧U7∧True) (.callP 76 [⟨.deck,d⟩,⟨.req,r⟩] [.sl .int] fun (x:List Int)=>.need U2 (.ret x)))):=by kernel_rfl
theorem t22 (d:Deck) (r:Req):@Eq _ (xS prog codes sigs f22 [.sl .int] 300 [⟨.deck,d⟩,⟨.req,r⟩]) (.need (U5∧U7∧True) (.callP 19 [⟨.deck,d⟩,⟨.req,r⟩] [.resp] fun (x:Resp)=>bif x.err != 0 then .need U2 (.ret []) else bif r.kind==2 then .need (U2∧True) (.callP 77 [⟨.sl .int,r.ids⟩] [.sl .int] fun (x:List Int)=>.need U2 (.ret x)) else bif r.kind==4 then .need (U5∧U2∧U2∧True) (.callP 78 [⟨.deck,d⟩,⟨.int,r.a⟩,⟨.int,r.b⟩] [.sl .int,.int] fun (x:List Int×Int)=>.need (U2∧U2∧True) (.callP 79 [⟨.sl .int,x.1⟩,⟨.int,r.a⟩] [.sl .int] fun (x:List Int)=>.need (U2∧U2∧True) (.callP 79 [⟨.sl .int,x⟩,⟨.int,r.b⟩] [.sl .int] fun (x:List Int)=>.need U2 (.ret x)))) else bif r.kind==5 then bif r.kind==5 then .need (U2∧True) (.need (U5∧U2∧True) (.callP 80 [⟨.deck,d⟩,Sigma.mk (.sl .int) [r.a]] [.sl .int,.int] fun (x:List Int×Int)=>.need (U2∧U2∧True) (.callP 79 [⟨.sl .int,x.1⟩,⟨.int,r.a⟩] [.sl .int] fun (x:List Int)=>.need U2 (.ret x)))) else .need U2 (.ret []) else bif r.kind==6 then bif r.kind==6 then .need (U2∧True) (.need (U5∧U2∧True) (.callP 80 [⟨.deck,d⟩,Sigma.mk (.sl .int) [r.a]] [.sl .int,.int] fun (x:List Int×Int)=>.need (U2∧U2∧True) (.callP 79 [⟨.sl .int,x.1⟩,⟨.int,r.a⟩] [.sl .int] fun (x:List Int)=>.need U2 (.ret x)))) else .need U2 (.ret []) else bif r.kind==7 then .need (U2∧True) (.need (U5∧U2∧True) (.callP 80 [⟨.deck,d⟩,Sigma.mk (.sl .int) [r.a]] [.sl .int,.int] fun (x:List Int×Int)=>.need (U2∧U2∧True) (.callP 79 [⟨.sl .int,x.1⟩,⟨.int,r.a⟩] [.sl .int] fun (x:List Int)=>.need U2 (.ret x)))) else .need U2 (.ret []))):=by kernel_rfl
theorem Iv (m e:Int):@Eq _ (xS prog codes sigs f121 [.int] 300 [⟨.int,m⟩,⟨.int,e⟩]) (bif decide (e < (-63:Int)) then .need U2 (.ret (0:Int)) else .need ((0:Int)≤w64 ((0:Int) - e)) (bif e==(-63:Int) then .need ((0:Int)≤w64 ((64:Int)+e)) (bif decide (IntKind.wrap .u64 (IntKind.wrap .u64 m * (2:Int) ^ min (w64 ((64:Int)+e)).toNat (IntKind.bits .u64)) > 9223372036854775808) then .need U2 (.ret (w64 ((0:Int)+1))) else bif IntKind.wrap .u64 (IntKind.wrap .u64 m * (2:Int) ^ min (w64 ((64:Int)+e)).toNat (IntKind.bits .u64))==9223372036854775808 then .need ((2:Int)≠(0:Int)) (.need U2 (.ret (0:Int))) else .need U2 (.ret (0:Int))) else .need ((0:Int)≤w64 ((64:Int)+e)) (bif decide (IntKind.wrap .u64 (IntKind.wrap .u64 m * (2:Int) ^ min (w64 ((64:Int)+e)).toNat (IntKind.bits .u64)) > 9223372036854775808) then .need U2 (.ret (w64 (Int.fdiv m ((2:Int) ^ min (w64 ((0:Int) - e)).toNat (IntKind.bits .i64))+1))) else bif IntKind.wrap .u64 (IntKind.wrap .u64 m * (2:Int) ^ min (w64 ((64:Int)+e)).toNat (IntKind.bits .u64))==9223372036854775808 then .need ((2:Int)≠(0:Int)) (bif Int.tmod (Int.fdiv m ((2:Int) ^ min (w64 ((0:Int) - e)).toNat (IntKind.bits .i64))) (2:Int)==1 then .need U2 (.ret (w64 (Int.fdiv m ((2:Int) ^ min (w64 ((0:Int) - e)).toNat (IntKind.bits .i64))+1))) else .need U2 (.ret (Int.fdiv m ((2:Int) ^ min (w64 ((0:Int) - e)).toNat (IntKind.bits .i64))))) else .need U2 (.ret (Int.fdiv m ((2:Int) ^ min (w64 ((0:Int) - e)).toNat (IntKind.bits .i64))))))):=by kernel_rfl
theorem t56:@Eq _ (xS prog codes sigs f56 [.deck] 300 []) (.need (U2∧U2∧U2∧True) (.need (U2∧True) (.need (U8∧True) (.need (U6∧True) (.need U5 (.ret (Deck.mk [some 0,some 4621256167635550208,some 4625759767262920704] [Plate.mk (1:Int) (2:Int) (some 4621256167635550208) (some 4620693217682128896) (some 4602678819172646912) (100:Int) [(40:Int)]] [Rack.mk (1:Int) (1:Int) (some 4611686018427387904) (some 0) (some 0)] (2:Int)))))))):=by kernel_rfl
theorem t3 (d:Deck) (r:Req):@Eq _ (xS prog codes sigs f3 [.bool] 300 [⟨.deck,d⟩,⟨.req,r⟩]) (.need (U5∧U7∧True) (.callP 13 [⟨.deck,d⟩,⟨.req,r⟩] [.bool] fun (x:Bool)=>bif x then .need True (.callP 14 [] [.bool] fun (x:Bool)=>.need U2 (.ret x)) else .need (U7∧True) (.callP 15 [⟨.req,r⟩] [.int,.int] fun (x:Int×Int)=>.need (U7∧True) (.callP 16 [⟨.req,r⟩] [.int,.int] fun (x_1:Int×Int)=>.need True (.callP 14 [] [.bool] fun (x_2:Bool)=>bif x_2 then .need (U5∧U7∧True) (.callP 18 [⟨.deck,d⟩,⟨.req,r⟩] [.resp] fun (x_3:Resp)=>.need (U5∧U7∧True) (.callP 19 [⟨.deck,d⟩,⟨.req,r⟩] [.resp] fun (x_4:Resp)=>.need (U6∧U6∧True) (.callP 17 [⟨.resp,x_3⟩,⟨.resp,x_4⟩] [.bool] fun (x_5:Bool)=>bif x_5 then bif x.1==x_1.1 then .need U2 (.ret (x.2==x_1.2)) else .need U2 (.ret false) else .need U2 (.ret false)))) else .need U2 (.ret false)))))):=by kernel_rfl
theorem t4 (d:Deck) (r:Req) (o:List Int) (h:Int):@Eq _ (xS prog codes sigs f4 [.bool] 300 [⟨.deck,d⟩,⟨.req,r⟩,⟨.sl .int,o⟩,⟨.int,h⟩]) (.need (U5∧U7∧True) (.callP 13 [⟨.deck,d⟩,⟨.req,r⟩] [.bool] fun (x:Bool)=>bif x then .need True (.callP 14 [] [.bool] fun (x:Bool)=>.need U2 (.ret x)) else bif decide ((o.length:Int) > 1000) then .need True (.callP 14 [] [.bool] fun (x:Bool)=>.need U2 (.ret x)) else .need True (.callP 14 [] [.bool] fun (x:Bool)=>bif x then .need (U5∧U7∧True) (.callP 21 [⟨.deck,d⟩,⟨.req,r⟩] [.sl .int] fun (x:List Int)=>.need (U5∧U7∧True) (.callP 22 [⟨.deck,d⟩,⟨.req,r⟩] [.sl .int] fun (x_1:List Int)=>.need (U2∧U2∧True) (.callP 20 [⟨.sl .int,x⟩,⟨.sl .int,x_1⟩] [.bool] fun (x:Bool)=>bif x then .need (U5∧U7∧U2∧U2∧True) (.callP 23 [⟨.deck,d⟩,⟨.req,r⟩,⟨.sl .int,o⟩,⟨.int,h⟩] [.sl .int] fun (x:List Int)=>.need (U5∧U7∧U2∧U2∧True) (.callP 24 [⟨.deck,d⟩,⟨.req,r⟩,⟨.sl .int,o⟩,⟨.int,h⟩] [.sl .int] fun (x_2:List Int)=>.need (U2∧U2∧True) (.callP 20 [⟨.sl .int,x⟩,⟨.sl .int,x_2⟩] [.bool] fun (x:Bool)=>.need U2 (.ret x)))) else .need U2 (.ret false)))) else .need U2 (.ret false)))):=by kernel_rfl
theorem t200 (n:Int):@Eq _ (xS prog codes sigs f200 [.int] 300 [⟨.u64,n⟩]) (bif n==0 then .need U2 (.ret (64:Int)) else .need ((0:Int)≤58) (.need ((0:Int)≤Int.fdiv (IntKind.wrap .u64 (IntKind.wrap .u64 (↑(BitVec.toNat (BitVec.ofInt (IntKind.bits .u64) n &&& BitVec.ofInt (IntKind.bits .u64) (IntKind.wrap .u64 ((0:Int) - n)))):Int) * (285870213051353865:Int))) ((2:Int) ^ min 58 (IntKind.bits .u64))∧Int.fdiv (IntKind.wrap .u64 (IntKind.wrap .u64 (↑(BitVec.toNat (BitVec.ofInt (IntKind.bits .u64) n &&& BitVec.ofInt (IntKind.bits .u64) (IntKind.wrap .u64 ((0:Int) - n)))):Int) * (285870213051353865:Int))) ((2:Int) ^ min 58 (IntKind.bits .u64)) < (↑64:Int)) (.need U2 (.ret (w64 (List.getD [(↑0:Int),(↑1:Int),(↑56:Int),(↑2:Int),(↑57:Int),(↑49:Int),(↑28:Int),(↑3:Int),(↑61:Int),(↑58:Int),(↑42:Int),(↑50:Int),(↑38:Int),(↑29:Int),(↑17:Int),(↑4:Int),(↑62:Int),(↑47:Int),(↑59:Int),(↑36:Int),(↑45:Int),(↑43:Int),(↑51:Int),(↑22:Int),(↑53:Int),(↑39:Int),(↑33:Int),(↑30:Int),(↑24:Int),(↑18:Int),(↑12:Int),(↑5:Int),(↑63:Int),(↑55:Int),(↑48:Int),(↑27:Int),(↑60:Int),(↑41:Int),(↑37:Int),(↑16:Int),(↑46:Int),(↑35:Int),(↑44:Int),(↑21:Int),(↑52:Int),(↑32:Int),(↑23:Int),(↑11:Int),(↑54:Int),(↑26:Int),(↑40:Int),(↑15:Int),(↑34:Int),(↑20:Int),(↑31:Int),(↑10:Int),(↑25:Int),(↑14:Int),(↑19:Int),(↑9:Int),(↑13:Int),(↑8:Int),(↑7:Int),(↑6:Int)] (Int.fdiv (IntKind.wrap .u64 (IntKind.wrap .u64 (↑(BitVec.toNat (BitVec.ofInt (IntKind.bits .u64) n &&& BitVec.ofInt (IntKind.bits .u64) (IntKind.wrap .u64 ((0:Int) - n)))):Int) * (285870213051353865:Int))) ((2:Int) ^ min 58 (IntKind.bits .u64))).toNat (0:Int))))))):=by kernel_rfl
theorem t201 (p:Nat):@Eq _ (xS prog codes sigs f201 [.bool] 300 [⟨.flt,some p⟩]) (Out.callX 199 [.d (.f (some p))] (.d (.v (.int .u64 (↑p:Int)))) (.need U2 (.ret (decide (w64 (↑p:Int) < 0))))):=by kernel_rfl
theorem Iw (p:Nat):@Eq _ (xS prog codes sigs f120 [.int,.int] 300 [⟨.flt,some p⟩]) (.need (U2∧True) (.callP 119 [⟨.flt,(some p)⟩] [.int] fun (x:Int)=>bif decide (x < 4) then .need (U2∧U2) (.ret ((0:Int),(0:Int))) else Out.callX 199 [.d (.f (some p))] (.d (.v (.int .u64 (↑p:Int)))) (bif x==5 then .need ((0:Int)≤52) (.need (U2∧True) (.callP 200 [Sigma.mk .u64 (IntKind.wrap .u64 (↑(BitVec.toNat (BitVec.ofInt (IntKind.bits .u64) (IntKind.wrap .u64 (↑(BitVec.toNat (BitVec.ofInt (IntKind.bits .u64) (↑p:Int) &&& BitVec.ofInt (IntKind.bits .u64) (4503599627370495:Int))):Int)) ||| BitVec.ofInt (IntKind.bits .u64) (4503599627370496:Int))):Int))] [.int] fun (x:Int)=>.need ((0:Int)≤x) (.need (U2∧True) (.callP 201 [⟨.flt,(some p)⟩] [.bool] fun (x_1:Bool)=>bif x_1 then .need (U2∧U2) (.ret (w64 ((0:Int) - w64 (Int.fdiv (IntKind.wrap .u64 (↑(BitVec.toNat (BitVec.ofInt (IntKind.bits .u64) (IntKind.wrap .u64 (↑(BitVec.toNat (BitVec.ofInt (IntKind.bits .u64) (↑p:Int) &&& BitVec.ofInt (IntKind.bits .u64) (4503599627370495:Int))):Int)) ||| BitVec.ofInt (IntKind.bits .u64) (4503599627370496:Int))):Int)) ((2:Int) ^ min x.toNat (IntKind.bits .u64)))),w64 (w64 ((-1074:Int)+w64 (w64 (IntKind.wrap .u64 (↑(BitVec.toNat (BitVec.ofInt (IntKind.bits .u64) (Int.fdiv (↑p:Int) ((2:Int) ^ min 52 (IntKind.bits .u64))) &&& BitVec.ofInt (IntKind.bits .u64) (2047:Int))):Int)) - (1:Int)))+x))) else .need (U2∧U2) (.ret (w64 (Int.fdiv (IntKind.wrap .u64 (↑(BitVec.toNat (BitVec.ofInt (IntKind.bits .u64) (IntKind.wrap .u64 (↑(BitVec.toNat (BitVec.ofInt (IntKind.bits .u64) (↑p:Int) &&& BitVec.ofInt (IntKind.bits .u64) (4503599627370495:Int))):Int)) ||| BitVec.ofInt (IntKind.bits .u64) (4503599627370496:Int))):Int)) ((2:Int) ^ min x.toNat (IntKind.bits .u64))),w64 (w64 ((-1074:Int)+w64 (w64 (IntKind.wrap .u64 (↑(BitVec.toNat (BitVec.ofInt (IntKind.bits .u64) (Int.fdiv (↑p:Int) ((2:Int) ^ min 52 (IntKind.bits .u64))) &&& BitVec.ofInt (IntKind.bits .u64) (2047:Int))):Int)) - (1:Int)))+x))))))) else .need (U2∧True) (.callP 200 [Sigma.mk .u64 (IntKind.wrap .u64 (↑(BitVec.toNat (BitVec.ofInt (IntKind.bits .u64) (↑p:Int) &&& BitVec.ofInt (IntKind.bits .u64) (4503599627370495:Int))):Int))] [.int] fun (x:Int)=>.need ((0:Int)≤x) (.need (U2∧True) (.callP 201 [⟨.flt,(some p)⟩] [.bool] fun (x_1:Bool)=>bif x_1 then .need (U2∧U2) (.ret (w64 ((0:Int) - w64 (Int.fdiv (IntKind.wrap .u64 (↑(BitVec.toNat (BitVec.ofInt (IntKind.bits .u64) (↑p:Int) &&& BitVec.ofInt (IntKind.bits .u64) (4503599627370495:Int))):Int)) ((2:Int) ^ min x.toNat (IntKind.bits .u64)))),w64 ((-1074:Int)+x))) else .need (U2∧U2) (.ret (w64 (Int.fdiv (IntKind.wrap .u64 (↑(BitVec.toNat (BitVec.ofInt (IntKind.bits .u64) (↑p:Int) &&& BitVec.ofInt (IntKind.bits .u64) (4503599627370495:Int))):Int)) ((2:Int) ^ min x.toNat (IntKind.bits .u64))),w64 ((-1074:Int)+x))))))))):=by kernel_rfl
theorem t57 (x:Fl):@Eq _ (xS prog codes sigs f57 [.int,.int] 300 [⟨.flt,x⟩]) (.need (U2∧True) (.callP 119 [⟨.flt,x⟩] [.int] fun (x_1:Int)=>bif x_1==1 then .need (U2∧U2) (.ret ((0:Int),(20:Int))) else bif x_1==2 then .need (U2∧U2) (.ret ((0:Int),(21:Int))) else bif Fl.cmp x (some 0)==some Ordering.lt then .need (U2∧U2) (.ret ((0:Int),(22:Int))) else bif Fl.cmp x (some 4787326403894837248)==some Ordering.gt then .need (U2∧U2) (.ret ((0:Int),(4:Int))) else .need (U2∧True) (.callP 120 [⟨.flt,x⟩] [.int,.int] fun (x:Int×Int)=>bif decide (x.2 < 0) then .need (U2∧U2∧True) (.callP 121 [⟨.int,(w64 (x.1 * (1000:Int)))⟩,⟨.int,x.2⟩] [.int] fun (x:Int)=>bif decide (x > 1099511627776) then .need (U2∧U2) (.ret ((0:Int),(4:Int))) else .need (U2∧U2) (.ret (x,(0:Int)))) else .need ((0:Int)≤x.2) (bif decide (w64 (w64 (x.1 * (1000:Int)) * (2:Int) ^ min x.2.toNat (IntKind.bits .i64)) > 1099511627776) then .need (U2∧U2) (.ret ((0:Int),(4:Int))) else .need (U2∧U2) (.ret (w64 (w64 (x.1 * (1000:Int)) * (2:Int) ^ min x.2.toNat (IntKind.bits .i64)),(0:Int))))))):=by kernel_rfl
theorem t70 (d:Deck):@Eq _ (xS prog codes sigs f70 [.int] 300 [⟨.deck,d⟩]) (.need (U5∧True) (.callP 131 [⟨.deck,d⟩] [.sl .span,.int] fun (x:List Span×Int)=>.need U2 (.ret x.2))):=by kernel_rfl
end Go.Proofs.Wn

namespace Go.Proofs.Zn
open Go.Proofs.Tryz
open Go Go.VL
def CA (p:Plate):List AV:=[i64 p.rows,i64 p.cols,.d (.f p.x),.d (.f p.pitch),.d (.f p.reach),i64 p.cap,.d (.sl .int p.start)]
def cp (d:Deck):List AV:=[.d (.sl .flt d.borders),.d (.sl .plate d.plates),.d (.sl .rack d.racks),i64 d.arms]
def Mz (p:Plate) (i:Int):AS:=mkS 40 [(1,.ptr 0 0),(25,.d (.sl .int p.start)),(26,i64 p.start.length),(27,i64 i)] [(0,.box (CA p))] 1
def Bq (l:List Go.VL.Box) (n i:Int):AS:=mkS 18 [(3,i64 n),(6,.d (.sl .box l)),(7,i64 l.length),(8,i64 i)] [] 0
def JB (d:Deck) (out:List Go.VL.Box) (i:Int):AS:=mkS 23 [(3,.own 0 .box),(7,.d (.sl .plate d.plates)),(8,i64 d.plates.length),(9,i64 i)] [(0,.row 244 .box out)] 1
def JA (d:Deck) (out:List Go.VL.Box) (i:Int):AS:=mkS 23 [(3,.own 0 .box),(7,.d (.sl .rack d.racks)),(8,i64 d.racks.length),(9,i64 i)] [(0,.row 244 .box out)] 1
def L92 (d:Deck) (x y:List Go.VL.Box) (i:Int):AS:=mkS 78 [(1,.ptr 0 0),(4,.d (.sl .box x)),(5,.d (.sl .box y)),(40,.d (.sl .box x)),(41,i64 x.length),(42,i64 i)] [(0,.box (cp d))] 1
def JC (l:List Go.VL.Box) (k n i:Int):AS:=mkS 41 [(2,i64 n),(6,.ptr 0 0),(7,.ptr 1 0),(12,.d (.sl .box l)),(13,i64 l.length),(14,i64 i)] [(0,.box [i64 0,i64 0,i64 0,i64 0]),(1,.box [i64 k,i64 0,i64 0,i64 0])] 2
def MB (p:Plate) (i:Int):AS:=mkS 54 [(1,.ptr 0 0),(3,i64 i)] [(0,.box (CA p))] 1
def L89 (d:Deck) (w t i:Int):AS:=mkS 103 [(1,.ptr 0 0),(4,i64 w),(5,i64 t),(6,i64 i)] [(0,.box (cp d))] 1
def Hc (k u r c:Int) (out:List Part) (i:Int):AS:=mkS 31 [(0,i64 k),(1,i64 u),(2,i64 r),(3,i64 c),(9,.own 0 .part),(10,i64 i)] [(0,.row 179 .part out)] 1
def L90 (d:Deck) (out:List Part) (i:Int):AS:=mkS 71 [(1,.ptr 0 0),(3,.own 1 .part),(4,i64 i)] [(0,.box (cp d)),(1,.row 179 .part out)] 2
def L37 (d:Deck) (i:Int):AS:=mkS 35 [(1,.ptr 0 0),(3,i64 i)] [(0,.box (cp d))] 1
theorem KK (p:Plate) (i:Int):@Eq _ (xL prog codes sigs f204 [.bool] 200 0 (Mz p i)) (bif decide (i < (p.start.length:Int)) then .need (((0:Int)≤i∧i < (p.start.length:Int))∧True) (bif decide (p.start.getD i.toNat Ty.int.dflt < 0) then .need U2 (.ret false) else bif decide (p.start.getD i.toNat Ty.int.dflt > p.cap) then .need U2 (.ret false) else .stop (hd f204 0) (mkS 40 [(1,.ptr 0 0),(25,.d (.sl .int p.start)),(26,i64 (p.start.length:Int)),(27,i64 (w64 (i+1)))] [(0,.box [i64 p.rows,i64 p.cols,.d (.f p.x),.d (.f p.pitch),.d (.f p.reach),i64 p.cap,.d (.sl .int p.start)])] 1)) else .need U2 (.ret true)):=by kernel_rfl
theorem BT (l:List Go.VL.Box) (n i:Int):@Eq _ (xL prog codes sigs f141 [.int] 200 0 (Bq l n i)) (bif decide (i < (l.length:Int)) then .need (((0:Int)≤i∧i < (l.length:Int))∧True) (.need (U3∧True) (.callP 217 [⟨.box,(l.getD i.toNat Ty.box.dflt)⟩] [.int] fun (x:Int)=>.stop (hd f141 0) (mkS 18 [(3,i64 (w64 (n+x))),(6,.d (.sl .box l)),(7,i64 (l.length:Int)),(8,i64 (w64 (i+1)))] [] 0))) else .need U2 (.ret n)):=by kernel_rfl
theorem KS (d:Deck) (out:List Go.VL.Box) (i:Int):@Eq _ (xL prog codes sigs f142 [.sl .box] 200 0 (JB d out i)) (bif decide (i < (d.plates.length:Int)) then .need (((0:Int)≤i∧i < (d.plates.length:Int))∧True) (.need (U3∧True) (.need ((out.length+List.length [Box.mk (d.plates.getD i.toNat Ty.plate.dflt).rows (d.plates.getD i.toNat Ty.plate.dflt).cols]) * 17≤35184372088832∧True) (.stop (hd f142 0) (mkS 23 [(3,.own 0 .box),(7,.d (.sl .plate d.plates)),(8,i64 (d.plates.length:Int)),(9,i64 (w64 (i+1)))] [(0,.row 244 .box (out++[Box.mk (d.plates.getD i.toNat Ty.plate.dflt).rows (d.plates.getD i.toNat Ty.plate.dflt).cols]))] 1)))) else .need U2 (.ret out)):=by kernel_rfl
theorem KR (d:Deck) (out:List Go.VL.Box) (i:Int):@Eq _ (xL prog codes sigs f143 [.sl .box] 200 0 (JA d out i)) (bif decide (i < (d.racks.length:Int)) then .need (((0:Int)≤i∧i < (d.racks.length:Int))∧True) (.need (U3∧True) (.need ((out.length+List.length [Box.mk (d.racks.getD i.toNat Ty.rack.dflt).rows (d.racks.getD i.toNat Ty.rack.dflt).cols]) * 17≤35184372088832∧True) (.stop (hd f143 0) (mkS 23 [(3,.own 0 .box),(7,.d (.sl .rack d.racks)),(8,i64 (d.racks.length:Int)),(9,i64 (w64 (i+1)))] [(0,.row 244 .box (out++[Box.mk (d.racks.getD i.toNat Ty.rack.dflt).rows (d.racks.getD i.toNat Ty.rack.dflt).cols]))] 1)))) else .need U2 (.ret out)):=by kernel_rfl
theorem t92a (d:Deck) (x y:List Go.VL.Box) (i:Int):@Eq _ (xL prog codes sigs f125 [.int] 200 0 (L92 d x y i)) (bif decide (i < (x.length:Int)) then .need (((0:Int)≤i∧i < (x.length:Int))∧True) (.need (U3∧True) (.callP 203 [⟨.box,(x.getD i.toNat Ty.box.dflt)⟩] [.bool] fun (x_1:Bool)=>bif !x_1 then .need U2 (.ret (81:Int)) else .need (((0:Int)≤i∧i < (d.plates.length:Int))∧True) (.need (U8∧True) (.callP 204 [⟨.plate,(d.plates.getD i.toNat Ty.plate.dflt)⟩] [.bool] fun (x_2:Bool)=>bif !x_2 then .need U2 (.ret (81:Int)) else .stop (hd f125 0) (mkS 78 [(1,.ptr 0 0),(4,.d (.sl .box x)),(5,.d (.sl .box y)),(40,.d (.sl .box x)),(41,i64 (x.length:Int)),(42,i64 (w64 (i+1)))] [(0,.box (dC d))] 1))))) else .stop (hd f125 1) (mkS 78 [(4,.d (.sl .box x)),(5,.d (.sl .box y)),(60,.d (.sl .box y)),(61,i64 (y.length:Int)),(62,i64 0)] [] 0)):=by kernel_rfl
theorem KT (l:List Go.VL.Box) (k n i:Int):@Eq _ (xL prog codes sigs f208 [.part] 200 0 (JC l k n i)) (bif decide (i < (l.length:Int)) then .need (((0:Int)≤i∧i < (l.length:Int))∧True) (.need (U3∧True) (.callP 217 [⟨.box,(l.getD i.toNat Ty.box.dflt)⟩] [.int] fun (x:Int)=>bif decide (n < x) then .need (Box.cols (l.getD i.toNat Ty.box.dflt)≠(0:Int)) (.need (Box.cols (l.getD i.toNat Ty.box.dflt)≠(0:Int)) (.need U5 (.ret (Part.mk k i (w64 (Int.tdiv n (Box.cols (l.getD i.toNat Ty.box.dflt)))) (Int.tmod n (Box.cols (l.getD i.toNat Ty.box.dflt))))))) else .need (U3∧True) (.callP 217 [⟨.box,(l.getD i.toNat Ty.box.dflt)⟩] [.int] fun (x:Int)=>.stop (hd f208 0) (mkS 41 [(2,i64 (w64 (n - x))),(6,.ptr 0 0),(7,.ptr 1 0),(12,.d (.sl .box l)),(13,i64 (l.length:Int)),(14,i64 (w64 (i+1)))] [(0,.box [i64 0,i64 0,i64 0,i64 0]),(1,.box [i64 k,i64 0,i64 0,i64 0])] 2)))) else .need U5 (.ret (Part.mk k (0:Int) (0:Int) (0:Int)))):=by kernel_rfl
theorem KO (p:Plate) (i:Int):@Eq _ (xL prog codes sigs f219 [.bool] 200 0 (MB p i)) (bif decide (i < (p.start.length:Int)) then .need (((0:Int)≤i∧i < (p.start.length:Int))∧True) (bif decide (p.start.getD i.toNat Ty.int.dflt < 0) then .need U2 (.ret false) else .need (((0:Int)≤i∧i < (p.start.length:Int))∧True) (bif decide (p.start.getD i.toNat Ty.int.dflt > p.cap) then .need U2 (.ret false) else .stop (hd f219 0) (mkS 54 [(1,.ptr 0 0),(3,i64 (w64 (i+1)))] [(0,.box [i64 p.rows,i64 p.cols,.d (.f p.x),.d (.f p.pitch),.d (.f p.reach),i64 p.cap,.d (.sl .int p.start)])] 1))) else .need U2 (.ret true)):=by kernel_rfl
theorem t89a (d:Deck) (w t i:Int):@Eq _ (xL prog codes sigs f153 [.int] 200 0 (L89 d w t i)) (bif decide (i < (d.plates.length:Int)) then .need (((0:Int)≤i∧i < (d.plates.length:Int))∧True) (.need (U8∧True) (.callP 219 [⟨.plate,(d.plates.getD i.toNat Ty.plate.dflt)⟩] [.bool] fun (x:Bool)=>bif !x then .need U2 (.ret (81:Int)) else .need (((0:Int)≤i∧i < (d.plates.length:Int))∧True) (.need (((0:Int)≤i∧i < (d.plates.length:Int))∧True) (.stop (hd f153 0) (mkS 103 [(1,.ptr 0 0),(4,i64 (w64 (w+w64 ((d.plates.getD i.toNat Ty.plate.dflt).rows * (d.plates.getD i.toNat Ty.plate.dflt).cols)))),(5,i64 t),(6,i64 (w64 (i+1)))] [(0,.box (dC d))] 1))))) else .stop (hd f153 1) (mkS 103 [(1,.ptr 0 0),(4,i64 w),(5,i64 t),(7,i64 0)] [(0,.box (dC d))] 1)):=by kernel_rfl
theorem KN (k u r c:Int) (out:List Part) (i:Int):@Eq _ (xL prog codes sigs f154 [.sl .part] 200 0 (Hc k u r c out i)) (bif decide (i < r) then .stop (hd f154 1) (mkS 31 [(0,i64 k),(1,i64 u),(2,i64 r),(3,i64 c),(9,.own 0 .part),(10,i64 i),(11,i64 0)] [(0,.row 179 .part out)] 1) else .need U2 (.ret out)):=by kernel_rfl
theorem t90a (d:Deck) (out:List Part) (i:Int):@Eq _ (xL prog codes sigs f88 [.sl .part] 200 0 (L90 d out i)) (bif decide (i < (d.plates.length:Int)) then .need (((0:Int)≤i∧i < (d.plates.length:Int))∧True) (.need (((0:Int)≤i∧i < (d.plates.length:Int))∧True) (.need (U2∧U2∧U2∧U2∧True) (.callP 154 [⟨.int,(1:Int)⟩,⟨.int,i⟩,Sigma.mk .int (d.plates.getD i.toNat Ty.plate.dflt).rows,Sigma.mk .int (d.plates.getD i.toNat Ty.plate.dflt).cols] [.sl .part] fun (x:List Part)=>.need ((out.length+x.length) * 33≤35184372088832∧True) (.stop (hd f88 0) (mkS 71 [(1,.ptr 0 0),(3,.own 1 .part),(4,i64 (w64 (i+1)))] [(0,.box (dC d)),(1,.row 179 .part (out++x))] 2))))) else .stop (hd f88 1) (mkS 71 [(1,.ptr 0 0),(3,.own 1 .part),(5,i64 0)] [(0,.box (dC d)),(1,.row 179 .part out)] 2)):=by kernel_rfl
theorem t37a (d:Deck) (i:Int):@Eq _ (xL prog codes sigs f25 [.bool] 200 0 (L37 d i)) (bif decide (i < (d.plates.length:Int)) then .need (((0:Int)≤i∧i < (d.plates.length:Int))∧True) (bif decide ((↑(d.plates.getD i.toNat Ty.plate.dflt).start.length:Int) > 500) then .need U2 (.ret true) else .stop (hd f25 0) (mkS 35 [(1,.ptr 0 0),(3,i64 (w64 (i+1)))] [(0,.box (dC d))] 1)) else .need U2 (.ret false)):=by kernel_rfl
end Go.Proofs.Zn

namespace Go.Proofs.Wn
open Go.Proofs.Tryz
open Go Go.VL
abbrev cp:=Zn.cp
def KV:List AV:=[i64 0,i64 0,i64 0,i64 0,.d (.v (.slice none 0 0))]
def L60 (a b:List Change) (i:Int):AS:=mkS 26 [(0,.d (.sl .change a)),(1,.d (.sl .change b)),(5,i64 i)] [] 0
def L66 (d:Deck) (l:List Int) (i:Int):AS:=mkS 41 [(2,.ptr 0 0),(4,.ptr 1 0),(27,.d (.sl .int l)),(28,i64 l.length),(29,i64 i)] [(0,.box (cp d)),(1,.box KV)] 2
def Bq (kvs:List (Int×Int)) (l:List Int) (i:Int):AS:=mkS 28 [(3,.mp 0),(9,.d (.sl .int l)),(10,i64 l.length),(11,i64 i)] [(0,.mp .int .int kvs)] 1
theorem t60a (a b:List Change) (i:Int):@Eq _ (xL prog codes sigs f60 [.bool] 200 0 (L60 a b i)) (bif decide (i < (a.length:Int)) then .need (((0:Int)≤i∧i < (a.length:Int))∧True) (.need (((0:Int)≤i∧i < (b.length:Int))∧True) (bif ! ((a.getD i.toNat Ty.change.dflt).ver==(b.getD i.toNat Ty.change.dflt).ver && ((a.getD i.toNat Ty.change.dflt).by'==(b.getD i.toNat Ty.change.dflt).by' && ((a.getD i.toNat Ty.change.dflt).n==(b.getD i.toNat Ty.change.dflt).n && true))) then .need U2 (.ret false) else .stop (hd f60 0) (mkS 26 [(0,.d (.sl .change a)),(1,.d (.sl .change b)),(5,i64 (w64 (i+1)))] [] 0))) else .need U2 (.ret true)):=by kernel_rfl
theorem t66a (d:Deck) (l:List Int) (i:Int):@Eq _ (xL prog codes sigs f66 [.resp] 200 0 (L66 d l i)) (bif decide (i < (l.length:Int)) then .need (((0:Int)≤i∧i < (l.length:Int))∧True) (.need (U5∧U2∧True) (.callP 68 [⟨.deck,d⟩,⟨.int,(l.getD i.toNat Ty.int.dflt)⟩] [.int] fun (x:Int)=>bif x==0 then .need (U2∧U2∧True) (.callP 69 [⟨.int,(3:Int)⟩,⟨.int,(l.getD i.toNat Ty.int.dflt)⟩] [.resp] fun (x:Resp)=>.need U6 (.ret x)) else .stop (hd f66 0) (mkS 41 [(2,.ptr 0 0),(4,.ptr 1 0),(27,.d (.sl .int l)),(28,i64 (l.length:Int)),(29,i64 (w64 (i+1)))] [(0,.box (dC d)),(1,.box [i64 0,i64 0,i64 0,i64 0,nS])] 2))) else .need U6 (.ret (Resp.mk (0:Int) (0:Int) (0:Int) (0:Int) []))):=by kernel_rfl
theorem BT (kvs:List (Int×Int)) (l:List Int) (i:Int):@Eq _ (xL prog codes sigs f128 [.int] 200 0 (Bq kvs l i)) (bif decide (i < (l.length:Int)) then .need (((0:Int)≤i∧i < (l.length:Int))∧True) (bif Option.isSome (ko (l.getD i.toNat Ty.int.dflt) kvs) then .need U2 (.ret i) else .need U2 (.stop (hd f128 0) (mkS 28 [(3,.mp 0),(9,.d (.sl .int l)),(10,i64 (l.length:Int)),(11,i64 (w64 (i+1)))] [(0,.mp .int .int (lT (l.getD i.toNat Ty.int.dflt) i kvs))] 1))) else .need U2 (.ret (-1:Int))):=by kernel_rfl
end Go.Proofs.Wn

/- Floats taken apart; volumes: contracts. (Own work.) -/
set_option exponentiation.threshold 4096
namespace Go.Proofs.Wn
open Go.Proofs.Tryz
open Go Go.VL Go.Proofs.Zn
abbrev T2':True∧True:=⟨trivial,trivial⟩
theorem dD {α:Type} {P:Program} {A:List Item→AS→Prop} {R0:α→Prop} {b:Bool} {S T:Out α} (h:b=true) (h1:Sat P A R0 S):Sat P A R0 (bif b then S else T):=by rw [h];exact h1
theorem bD {α:Type} {P:Program} {A:List Item→AS→Prop} {R0:α→Prop} {b:Bool} {S T:Out α} (h:b=false) (h1:Sat P A R0 T):Sat P A R0 (bif b then S else T):=by rw [h];exact h1
theorem xW {vs:Array Value} (hs:vs.size=1):∃ v,vs=#[v]:=by
 refine ⟨vs[0]'(by omega),?_⟩
 apply Array.ext
 ·exact hs
 ·intro i hi hi2
  have:i=0:=by omega
  subst this;rfl
theorem x58 (n:Int):EV prog 58 [.d (.v (.int .u64 n))] (.d (.f (some n.toNat))):=fun w K m H vs hs hr=>by
 obtain ⟨v,rfl⟩:=xW hs
 have e:v=.int .u64 n:=cg (hr 0 _ v rfl rfl)
 subst e
 exact ⟨.float .f64 n.toNat,run_callFunc_extern (e:=Extern.MathFloatBits.float64frombits) func58 (by kernel_rfl) (by kernel_rfl) (by kernel_rfl) (by kernel_rfl) #[.int .u64 n] w,.d _ _ (.f _ _ rfl)⟩
theorem JH (b:Nat):EV prog 199 [.d (.f (some b))] (.d (.v (.int .u64 (b:Int)))):=fun w K m H vs hs hr=>by
 obtain ⟨v,rfl⟩:=xW hs
 have e:v=.float .f64 b:=by
  have:=hr 0 _ v rfl rfl
  cases this with
  | d _ _ h => cases h with
    | f _ c h=>have h:c=b:=h;rw [h]
 subst e
 exact ⟨.int .u64 b,run_callFunc_extern (e:=Extern.MathFloatBits.float64bits) func199 (by kernel_rfl) (by kernel_rfl) (by kernel_rfl) (by kernel_rfl) #[.float .f64 b] w,.d _ _ (.v _)⟩
theorem LI {n k m:Nat} (hn:n=2 ^ k * (2 * m+1)) (h:n < 18446744073709551616):Pure prog 200 [⟨.u64,(n:Int)⟩] [.int] (k:Int):=
 ofT func200 (t200 n) (by kernel_rfl) (by kernel_rfl) fun _=>by
  have hk:=Cx hn h
  have hp:0 < 2 ^ k:=cX (by decide)
  have hpos:0 < n:=by rw [hn];exact jt hp (by omega)
  have e64:(2 ^ 64:Nat)=18446744073709551616:=by decide
  have hkl:2 ^ k < 18446744073709551616:=by
   have:2 ^ k≤2 ^ 63:=aX (by decide) (by omega)
   have e63:(2 ^ 63:Nat)=9223372036854775808:=by decide
   omega
  have e1:=CN hpos h
  have e2:(BitVec.ofInt (IntKind.bits .u64) (n:Int) &&& BitVec.ofInt (IntKind.bits .u64) (((2 ^ 64 - n:Nat)):Int)).toNat=2 ^ k:=by
   rw [xr h (by omega)];exact GY hn (by omega)
  have e3:IntKind.u64.wrap (IntKind.u64.wrap ((2 ^ k:Nat):Int) * 285870213051353865)=((2 ^ k * 285870213051353865 % 2 ^ 64:Nat):Int):=by
   rw [rP hkl,jJ,e64];rfl
  have e4:(2:Int) ^ min 58 (IntKind.bits .u64)=((2 ^ 58:Nat):Int):=by decide
  obtain ⟨t1,t2⟩:=HB ⟨k,hk⟩
  simp only at t1 t2
  rw [e1,e2,e3,e4,lx]
  generalize 2 ^ k * 285870213051353865 % 2 ^ 64 / 2 ^ 58=x at t1 t2
  refine bD (by simp;omega) ⟨by decide,⟨by omega,by show (x:Int) < (64:Int);omega⟩,T2',?_⟩
  show w64 (He.getD (x:Int).toNat 0)=(k:Int)
  rw [aq,t2,aA (by omega) (by omega)]
theorem LH {p:Nat} (hp:p < 18446744073709551616):Pure prog 201 [⟨.flt,some p⟩] [.bool] (nX p):=
 ofT func201 (t201 p) (by kernel_rfl) (by kernel_rfl) fun _=>⟨JH p,T2',by
  show decide (w64 (p:Int) < 0)=decide (9223372036854775808≤p)
  refine cd.2 ?_
  unfold w64 IntKind.wrap
  have e:(2 ^ IntKind.i64.bits:Int)=18446744073709551616:=rfl
  have e2:(2 ^ (IntKind.i64.bits - 1):Int)=9223372036854775808:=rfl
  have e3:IntKind.i64.signed=true:=rfl
  simp only [e,e2,e3,cR]
  rw [jz (by omega) (by omega)]
  by_cases h:9223372036854775808≤p
  ·rw [aF (by simp;omega)];omega
  ·rw [aJ (by simp;omega)];omega⟩
theorem EJ {b:Nat} (hb:b < 18446744073709551616):(bits BinOp.andNot IntKind.u64 (b:Int) 9223372036854775808).toNat=b % 9223372036854775808:=by
 have h3:(BitVec.ofInt 64 (b:Int)).toNat=b:=qR hb
 have h2:(~~~ BitVec.ofInt 64 9223372036854775808).toNat=9223372036854775807:=by decide
 have h4:(BitVec.ofInt 64 (b:Int) &&& ~~~ BitVec.ofInt 64 9223372036854775808).toNat=b % 9223372036854775808:=by
  rw [BitVec.toNat_and,h2,h3]
  exact eP b 63
 show (IntKind.u64.wrap ((BitVec.ofInt 64 (b:Int) &&& ~~~ BitVec.ofInt 64 9223372036854775808).toNat:Int)).toNat=_
 rw [h4,rP (by omega),aq]
theorem wZ {r:Nat} (hr:r≤9218868437227405312):cz (some r)=(fm r:Int):=by
 have:=tY (b:=r) (by omega) (by rw [cH (by omega)];exact hr)
 rw [cH (by omega),dF (by omega)] at this
 exact this
theorem tO {r:Nat} (hr:r≤9218868437227405312):da (some r)=false:=by
 rw [tN,cH (by omega)];exact dF (by omega)
theorem uk {r q:Nat} (hr:r≤9218868437227405312) (hq:q≤9218868437227405312):Fl.cmp (some r) (some q)=some (compare (r:Int) (q:Int)):=by
 rw [kt (tO hr) (tO hq),wZ hr,wZ hq]
 congr 1
 have h1:=tp hr hq
 have h2:=tp hq hr
 rcases Nat.lt_trichotomy r q with c | c | c
 ·have:=h1.2 c
  rw [jA.2 (by omega:(fm r:Int) < (fm q:Int)),jA.2 (by omega:(r:Int) < (q:Int))]
 ·subst c
  rw [jC.2 rfl,jC.2 rfl]
 ·have:=h2.2 c
  rw [jB.2 (by omega:(fm q:Int) < (fm r:Int)),jB.2 (by omega:(q:Int) < (r:Int))]
theorem xk {a b:Int} (o:Ordering):(some (compare a b)==some o)=decide (compare a b=o):=by
 cases compare a b <;> cases o <;> rfl
theorem Ed {a b:Int}:(some (compare a b)==some Ordering.gt)=decide (b < a):=by
 rw [xk];exact cd.2 (by rw [jB])
theorem Ec {a b:Int}:(some (compare a b)==some Ordering.lt)=decide (a < b):=by
 rw [xk];exact cd.2 (by rw [jA])
theorem Jb {a b:Int}:(some (compare a b)==some Ordering.eq)=decide (a=b):=by
 rw [xk];exact cd.2 (by rw [jC])
theorem GR {b:Nat} (hb:b < 18446744073709551616):Pure prog 119 [⟨.flt,some b⟩] [.int] (iA (rN b)):=by
 refine Zn.ofT func119 (Ky (some b)) (by kernel_rfl) (by kernel_rfl) fun A=>⟨⟨q2,trivial⟩,_,GM b,?_⟩
 rw [vR,tN,EJ hb]
 unfold iA rN
 refine cK (fun _=>⟨q2,rfl⟩) (fun h=>?_)
 have h:=oF h
 have hr:b % 9223372036854775808≤9218868437227405312:=by omega
 rw [uk hr (by decide),uk hr (by decide),uk hr (by decide),Ed,Jb,Ec]
 have g1:decide (((9218868437227405311:Nat):Int) < ((b % 9223372036854775808:Nat):Int))=decide (b % 9223372036854775808=9218868437227405312):=cd.2 (by omega)
 have g2:decide (((b % 9223372036854775808:Nat):Int)=((0:Nat):Int))=decide (b % 9223372036854775808=0):=cd.2 (by omega)
 have g3:decide (((b % 9223372036854775808:Nat):Int) < ((4503599627370496:Nat):Int))=decide (b % 9223372036854775808 < 4503599627370496):=cd.2 (by omega)
 rw [g1,g2,g3]
 exact cK (fun _=>⟨q2,rfl⟩) (fun _=>cK (fun _=>⟨q2,rfl⟩) (fun _=>cK (fun _=>⟨q2,rfl⟩) (fun _=>⟨q2,rfl⟩)))
end Go.Proofs.Wn

/- Floats taken apart, rounded: contracts. (Own work.) -/
set_option exponentiation.threshold 4096
namespace Go.Proofs.Wn
open Go.Proofs.Tryz
open Go Go.VL Go.Proofs.Zn
theorem Ee {b:Nat} (h:¬ iA (rN b) < 4):0 < rN b∧rN b < 9218868437227405312∧(iA (rN b)=5↔¬ rN b < 4503599627370496):=by
 unfold iA at h ⊢
 generalize rN b=r at h ⊢
 by_cases h1:r > 9218868437227405312
 ·rw [dT h1] at h;simp at h
 rw [dF h1,cF] at h ⊢
 by_cases h2:r=9218868437227405312
 ·rw [dT h2] at h;simp at h
 rw [dF h2,cF] at h ⊢
 by_cases h3:r=0
 ·rw [dT h3] at h;simp at h
 rw [dF h3,cF] at h ⊢
 refine ⟨by omega,by omega,?_⟩
 by_cases h4:r < 4503599627370496
 ·rw [dT h4];simp;omega
 ·rw [dF h4];simp;omega
theorem Jq (b:Nat):b % 4503599627370496=rN b % 4503599627370496:=by unfold rN;omega
theorem Jr {b:Nat} (hb:b < 18446744073709551616):b / 4503599627370496 % 2048=rN b / 4503599627370496:=by unfold rN;omega
theorem pm {k:Nat} (h:k < 64):(2:Int) ^ min (Int.toNat (k:Int)) (IntKind.bits .u64)=((2 ^ k:Nat):Int):=by
 have:min (Int.toNat (k:Int)) (IntKind.bits .u64)=k:=by
  have e:IntKind.bits .u64=64:=rfl
  rw [e,aq];omega
 rw [this];simp
theorem vb {k:Nat} (h:k < 64):(2:Int) ^ min (Int.toNat (k:Int)) (IntKind.bits .i64)=((2 ^ k:Nat):Int):=pm h
theorem GQ {b:Nat} (hb:b < 18446744073709551616):Pure prog 120 [⟨.flt,some b⟩] [.int,.int] (nT b):=
 ofT func120 (Iw b) (by kernel_rfl) (by kernel_rfl) fun _=>by
  refine ⟨⟨T2',trivial⟩,_,GR hb,?_⟩
  show Sat _ _ _ (bif decide (iA (rN b) < 4) then _ else _)
  unfold nT
  by_cases hc:iA (rN b) < 4
  ·rw [dT hc]
   exact ⟨⟨T2',T2'⟩,rfl⟩
  rw [dF hc]
  obtain ⟨h0,hi,h5⟩:=Ee hc
  obtain ⟨m,o1,o2,o3⟩:=mX h0
  have hM:=zi (rN b)
  have hol:=@odd_lt (rN b)
  have e1:(BitVec.ofInt (IntKind.bits .u64) (b:Int) &&& BitVec.ofInt (IntKind.bits .u64) 4503599627370495).toNat=rN b % 4503599627370496:=by
   have:=xr (c:=4503599627370495) hb (by decide)
   rw [LY,Jq] at this;exact this
  have e2:IntKind.u64.wrap ((rN b % 4503599627370496:Nat):Int)=((rN b % 4503599627370496:Nat):Int):=rP (by omega)
  have eo:dv (rN b)=M0 (rN b) / 2 ^ tzN (M0 (rN b)):=rfl
  have ep:ej (rN b)=E0 (rN b)+(tzN (M0 (rN b)):Int):=rfl
  refine ⟨JH b,?_⟩
  show Sat _ _ _ (bif iA (rN b)==5 then _ else _)
  rw [e1,e2]
  by_cases hf:rN b < 4503599627370496
  ·
   have hn5:(iA (rN b)==5)=false:=by
    rw [bN];exact fun e=>(h5.1 e) hf
   have eM:M0 (rN b)=rN b:=by unfold M0;rw [dT hf];rfl
   have eE:E0 (rN b) = -1074:=by unfold E0;rw [dT hf];rfl
   have e3:rN b % 4503599627370496=M0 (rN b):=by rw [eM];exact cH hf
   rw [hn5,e3]
   refine ⟨⟨T2',trivial⟩,(tzN (M0 (rN b)):Int),LI o1 (by omega),by omega,⟨T2',trivial⟩,_,LH hb,?_⟩
   rw [pm (by omega),lx,← eo,aA (n:=(dv (rN b):Int)) (by omega) (by omega),aA (n:=0 - (dv (rN b):Int)) (by omega) (by omega),aA (n := -1074+(tzN (M0 (rN b)):Int)) (by omega) (by omega),ep,eE]
   cases nX b
   ·exact ⟨⟨T2',T2'⟩,rfl⟩
   ·refine ⟨⟨T2',T2'⟩,?_⟩
    show (0 - (dv (rN b):Int),-1074+(tzN (M0 (rN b)):Int))=(-(dv (rN b):Int),-1074+(tzN (M0 (rN b)):Int))
    rw [Int.zero_sub]
  ·have h55:(iA (rN b)==5)=true:=by rw [bW];exact h5.2 hf
   have eM:M0 (rN b)=rN b % 4503599627370496+4503599627370496:=by unfold M0;rw [dF hf];rfl
   have eE:E0 (rN b)=((rN b / 4503599627370496:Nat):Int) - 1075:=by unfold E0;rw [dF hf];rfl
   have e3:(BitVec.ofInt (IntKind.bits .u64) ((rN b % 4503599627370496:Nat):Int) ||| BitVec.ofInt (IntKind.bits .u64) 4503599627370496).toNat=M0 (rN b):=by
    have:=LW (a:=rN b % 4503599627370496) (c:=4503599627370496) (by omega) (by decide)
    rw [or52 (by omega),← eM] at this;exact this
   have e4:IntKind.u64.wrap ((M0 (rN b):Nat):Int)=((M0 (rN b):Nat):Int):=rP (by omega)
   have e5:(2:Int) ^ min 52 (IntKind.bits .u64)=((4503599627370496:Nat):Int):=by decide
   have e6:(BitVec.ofInt (IntKind.bits .u64) ((b / 4503599627370496:Nat):Int) &&& BitVec.ofInt (IntKind.bits .u64) 2047).toNat=rN b / 4503599627370496:=by
    have:=xr (a:=b / 4503599627370496) (c:=2047) (by omega) (by decide)
    rw [LZ,Jr hb] at this;exact this
   have e7:IntKind.u64.wrap ((rN b / 4503599627370496:Nat):Int)=((rN b / 4503599627370496:Nat):Int):=rP (by omega)
   rw [h55,e3,e4,e5,lx,e6,e7]
   refine ⟨by decide,⟨T2',trivial⟩,(tzN (M0 (rN b)):Int),LI o1 (by omega),by omega,⟨T2',trivial⟩,_,LH hb,?_⟩
   rw [pm (by omega),lx,← eo,aA (n:=(dv (rN b):Int)) (by omega) (by omega),aA (n:=0 - (dv (rN b):Int)) (by omega) (by omega),aA (n:=((rN b / 4503599627370496:Nat):Int)) (by omega) (by omega),
    aA (n:=((rN b / 4503599627370496:Nat):Int) - 1) (by omega) (by omega),aA (n := -1074+(((rN b / 4503599627370496:Nat):Int) - 1)) (by omega) (by omega),aA (n := -1074+(((rN b / 4503599627370496:Nat):Int) - 1)+(tzN (M0 (rN b)):Int)) (by omega) (by omega),ep,eE]
   have e8 : -1074+(((rN b / 4503599627370496:Nat):Int) - 1)+(tzN (M0 (rN b)):Int)=((rN b / 4503599627370496:Nat):Int) - 1075+(tzN (M0 (rN b)):Int):=by omega
   rw [e8]
   cases nX b
   ·exact ⟨⟨T2',T2'⟩,rfl⟩
   ·refine ⟨⟨T2',T2'⟩,?_⟩
    show (0 - (dv (rN b):Int),((rN b / 4503599627370496:Nat):Int) - 1075+(tzN (M0 (rN b)):Int))=(-(dv (rN b):Int),_)
    rw [Int.zero_sub]
end Go.Proofs.Wn

/- Rounding; volumes: contracts. (Own work.) -/
set_option exponentiation.threshold 4096
namespace Go.Proofs.Wn
open Go.Proofs.Tryz
open Go Go.VL Go.Proofs.Zn
theorem p64 {s:Nat} (h1:1≤s) (h:s≤64):2 ^ s=2 * 2 ^ (s - 1)∧2 ^ s * 2 ^ (64 - s)=18446744073709551616∧2 ^ (s - 1) * 2 ^ (64 - s)=9223372036854775808∧0 < 2 ^ (64 - s):=by
 refine ⟨?_,?_,?_,cX (by decide)⟩
 ·rw [bS,← gx];congr 1;omega
 ·rw [← dL,show s+(64 - s)=64 by omega]
 ·rw [← dL,show s - 1+(64 - s)=63 by omega]
theorem GB {n s:Nat} (h1:1≤s) (h:s≤64):n * 2 ^ (64 - s) % 18446744073709551616=n % 2 ^ s * 2 ^ (64 - s):=by
 obtain ⟨_,e,_,_⟩:=p64 h1 h
 rw [← e,Nat.mul_mod_mul_right]
theorem GP {n s:Nat} (hn:n < 9223372036854775808) (h1:1≤s) (hs:s≤2000):Pure prog 121 [⟨.int,(n:Int)⟩,⟨.int,-(s:Int)⟩] [.int] (pa n s:Int):=
 ofT func121 (Iv n _) (by kernel_rfl) (by kernel_rfl) fun _=>by
  by_cases hb:63 < s
  ·refine dD (dT (by omega)) ⟨T2',?_⟩
   have:2 ^ 64≤2 ^ s:=aX (by decide) hb
   have e:(2 ^ 64:Nat)=18446744073709551616:=by decide
   rw [Ca (by omega)];rfl
  obtain ⟨p1,p2,p3,p4⟩:=p64 h1 (by omega)
  have e1:w64 (0 - -(s:Int))=(s:Int):=by rw [aA (by omega) (by omega)];omega
  have e2:w64 (64 + -(s:Int))=((64 - s:Nat):Int):=by rw [aA (by omega) (by omega)];omega
  have hct:=GB (n:=n) h1 (by omega)
  have e3:IntKind.u64.wrap (IntKind.u64.wrap (n:Int) * ((2 ^ (64 - s):Nat):Int))=((n % 2 ^ s * 2 ^ (64 - s):Nat):Int):=by
   rw [rP (by omega),jJ,← hct];rfl
  have hq:n / 2 ^ s * 2≤n:=bj (ca _ (by have:0 < 2 ^ (s - 1):=(cX (by decide));omega)) (Nat.div_mul_le_self n (2 ^ s))
  have e6':∀ q:Nat,q * 2≤n→w64 ((q:Int)+1)=((q+1:Nat):Int):=fun q h=>by rw [aA (by omega) (by omega)];rfl
  have e6:=e6' _ hq
  have g1:decide (((n % 2 ^ s * 2 ^ (64 - s):Nat):Int) > 9223372036854775808)=decide (2 ^ s < 2 * (n % 2 ^ s)):=by
   refine cd.2 ?_
   have:(9223372036854775808 < n % 2 ^ s * 2 ^ (64 - s))↔2 ^ (s - 1) < n % 2 ^ s:=by
    rw [← p3];exact ⟨fun h=>Nat.lt_of_mul_lt_mul_right h,fun h=>eZ h p4⟩
   omega
  have g2:(((n % 2 ^ s * 2 ^ (64 - s):Nat):Int)==9223372036854775808)=(2 ^ s==2 * (n % 2 ^ s)):=by
   rw [eV,bW,bW]
   have:(9223372036854775808=n % 2 ^ s * 2 ^ (64 - s))↔2 ^ (s - 1)=n % 2 ^ s:=by
    rw [← p3];exact ⟨fun h=>Nat.eq_of_mul_eq_mul_right p4 h,fun h=>by rw [h]⟩
   omega
  have e4:Int.fdiv (n:Int) ((2 ^ s:Nat):Int)=((n / 2 ^ s:Nat):Int):=lx _ _
  have e5:(Int.tmod ((n / 2 ^ s:Nat):Int) 2==1)=(n / 2 ^ s % 2==1):=by
   have:=BF (n / 2 ^ s) 2
   rw [show Int.tmod ((n / 2 ^ s:Nat):Int) 2=((n / 2 ^ s % 2:Nat):Int) from this,eV,bW,bW];omega
  refine bD (dF (by omega)) ?_
  rw [e1,e2,pm (by omega),vb (by omega),e3,g1,g2,e4,e5]
  unfold pa
  refine ⟨by omega,ah (fun h63=>⟨by omega,?_⟩) (fun _=>⟨by omega,?_⟩)⟩
  ·have h63:s=63:=by have : -(s:Int) = -63:=(by simpa using h63);omega
   have q0:n / 2 ^ s=0:=by
    subst h63
    exact gW (by have:(2 ^ 63:Nat)=9223372036854775808:=(by decide);omega)
   rw [q0]
   refine ah (fun h=>⟨T2',?_⟩) (fun h=>ah (fun h2=>⟨by decide,T2',?_⟩) (fun h2=>⟨T2',?_⟩))
   ·rw [h];rfl
   ·rw [h,h2];rfl
   ·rw [h,h2];rfl
  ·rw [e6]
   refine ah (fun h=>⟨T2',?_⟩) (fun h=>ah (fun h2=>⟨by decide,ah (fun h3=>⟨T2',?_⟩) (fun h3=>⟨T2',?_⟩)⟩) (fun h2=>⟨T2',?_⟩))
   ·rw [h];rfl
   ·rw [h,h2,h3];rfl
   ·rw [h,h2,h3];rfl
   ·rw [h,h2];rfl
end Go.Proofs.Wn

/- Volumes: contracts. (Own work.) -/
set_option exponentiation.threshold 4096
namespace Go.Proofs.Wn
open Go.Proofs.Tryz
open Go Go.VL Go.Proofs.Zn
theorem Be (r:Nat):((iA r==1)=decide (r > 9218868437227405312))∧(r≤9218868437227405312→(iA r==2)=decide (r=9218868437227405312))∧(r < 9218868437227405312→(iA r==3)=decide (r=0))∧(r < 9218868437227405312→decide (iA r < 4)=decide (r=0)):=by
 unfold iA
 by_cases h1:r > 9218868437227405312
 ·rw [dT h1]
  exact ⟨rfl,fun h=>by omega,fun h=>by omega,fun h=>by omega⟩
 rw [dF h1,cF]
 by_cases h2:r=9218868437227405312
 ·rw [dT h2]
  exact ⟨rfl,fun h=>rfl,fun h=>by omega,fun h=>by omega⟩
 rw [dF h2,cF]
 by_cases h3:r=0
 ·rw [dT h3]
  exact ⟨rfl,fun h=>rfl,fun h=>rfl,fun h=>rfl⟩
 rw [dF h3,cF]
 cases decide (r < 4503599627370496)
 ·exact ⟨rfl,fun h=>rfl,fun h=>rfl,fun h=>rfl⟩
 ·exact ⟨rfl,fun h=>rfl,fun h=>rfl,fun h=>rfl⟩
theorem Cs {b:Nat}:da (some b)=decide (rN b > 9218868437227405312):=tN b
theorem Js {b:Nat} (hb:b < 18446744073709551616) (hr:rN b≤9218868437227405312):(Fl.cmp (some b) (some 0)==some Ordering.lt)=(nX b && decide (0 < rN b)):=by
 have h0:da (some 0)=false:=tO (by decide)
 rw [kt (by rw [Cs];exact dF (by omega)) h0,qz,Ec,tY hb hr]
 show decide ((bif nX b then -(fm (rN b):Int) else (fm (rN b):Int)) < 0)=_
 rw [eV]
 by_cases hz:rN b=0
 ·rw [hz,Bw];cases nX b <;> simp
 ·have:=EZ (r:=rN b) (by omega)
  cases nX b <;> simp <;> omega
theorem Mf {b:Nat} (hb:b < 18446744073709551616) (hr:rN b≤9218868437227405312):(Fl.cmp (some b) (some 4787326403894837248)==some Ordering.gt)=(!nX b && decide (4787326403894837248 < rN b)):=by
 rw [kt (by rw [Cs];exact dF (by omega)) (tO (by decide)),Ed,tY hb hr,wZ (by decide)]
 show decide (_ < (bif nX b then -(fm (rN b):Int) else (fm (rN b):Int)))=_
 have h:=tp (r:=4787326403894837248) (q:=rN b) (by decide) hr
 rw [eV]
 cases nX b
 ·simp;try omega
 ·simp;try omega
theorem EY {r:Nat} (h:ej r < 0):rh r=pa (dv r * 1000) (-ej r).toNat:=by unfold rh;rw [dT h];rfl
theorem EX {r:Nat} (h:¬ ej r < 0):rh r=dv r * 1000 * 2 ^ (ej r).toNat:=by unfold rh;rw [dF h];rfl
theorem c57 {b:Nat} (hb:b < 18446744073709551616):Pure prog 57 [⟨.flt,some b⟩] [.int,.int] (ofS b):=
 ofT func57 (t57 (some b)) (by kernel_rfl) (by kernel_rfl) fun _=>by
  obtain ⟨f1,f2,f3,f4⟩:=Be (rN b)
  refine ⟨⟨T2',trivial⟩,_,GR hb,?_⟩
  show Sat _ _ _ (bif iA (rN b)==1 then _ else bif iA (rN b)==2 then _ else _)
  unfold ofS
  refine cK (fun _=>⟨⟨T2',T2'⟩,rfl⟩) (fun h1=>cK (fun _=>⟨⟨T2',T2'⟩,rfl⟩) (fun h2=>?_))
  rw [f1] at h1
  have h1:=oF h1
  rw [f2 (by omega)] at h2
  have h2:=oF h2
  have hi:rN b < 9218868437227405312:=by omega
  rw [Js hb (by omega),Mf hb (by omega),f3 hi]
  by_cases hz:rN b=0
  ·rw [dT hz,hz]
   refine bD (by simp) (bD (by simp) ⟨⟨T2',trivial⟩,_,GQ hb,?_⟩)
   have e:nT b=(0,0):=by unfold nT;rw [hz];rfl
   rw [e]
   exact bD rfl ⟨by decide,bD (by decide) ⟨⟨T2',T2'⟩,rfl⟩⟩
  rw [dF hz,cF]
  have hd:decide (0 < rN b)=true:=dT (by omega)
  rw [hd,Bool.and_true]
  refine cK (fun _=>⟨⟨T2',T2'⟩,rfl⟩) (fun hn=>?_)
  rw [hn,Bool.not_false,cR]
  by_cases hC:4787326403894837248 < rN b
  ·rw [dT hC,dT (AP hC hi)]
   exact ⟨⟨T2',T2'⟩,rfl⟩
  rw [dF hC]
  have hol:=@odd_lt (rN b)
  have hlo:=@pow_lo (rN b)
  have e:nT b=((dv (rN b):Int),ej (rN b)):=by unfold nT;rw [f4 hi,dF hz,hn];rfl
  refine bD rfl ⟨⟨T2',trivial⟩,_,(GQ hb).eq e,?_⟩
  have e1:w64 ((dv (rN b):Int) * 1000)=((dv (rN b) * 1000:Nat):Int):=by rw [aA (by omega) (by omega)];rfl
  show Sat _ _ _ (bif decide (ej (rN b) < 0) then _ else _)
  by_cases hp:ej (rN b) < 0
  ·rw [dT hp,e1,EY hp]
   have es:ej (rN b) = -(((-ej (rN b)).toNat:Nat):Int):=by omega
   have c:=GP (n:=dv (rN b) * 1000) (s:=(-ej (rN b)).toNat) (by omega) (by omega) (by omega)
   rw [← es] at c
   refine ⟨⟨T2',T2',trivial⟩,((pa (dv (rN b) * 1000) (-ej (rN b)).toNat:Nat):Int),c,?_⟩
   have g:decide (((pa (dv (rN b) * 1000) (-ej (rN b)).toNat:Nat):Int) > 1099511627776)=decide (pa (dv (rN b) * 1000) (-ej (rN b)).toNat > 1099511627776):=cd.2 (by omega)
   show Sat _ _ _ (bif decide (((pa (dv (rN b) * 1000) (-ej (rN b)).toNat:Nat):Int) > 1099511627776) then _ else _)
   rw [g]
   exact cK (fun _=>⟨⟨T2',T2'⟩,rfl⟩) (fun _=>⟨⟨T2',T2'⟩,rfl⟩)
  ·rw [dF hp,e1,EX hp]
   have hs:=zO (r:=rN b) (by omega) (by omega) (by omega)
   have ho:=FT (r:=rN b) (by omega)
   have hp41:(ej (rN b)).toNat < 64:=by
    rcases aw (ej (rN b)).toNat 64 with g | g
    ·exact g
    ·have g1:2 ^ 64≤2 ^ (ej (rN b)).toNat:=aX (by decide) g
     have g2:1 * 2 ^ (ej (rN b)).toNat≤dv (rN b) * 2 ^ (ej (rN b)).toNat:=aD _ ho
     have e64:(2 ^ 64:Nat)=18446744073709551616:=by decide
     omega
   have e2:(2:Int) ^ min (ej (rN b)).toNat (IntKind.bits .i64)=((2 ^ (ej (rN b)).toNat:Nat):Int):=by
    have:=vb hp41
    rw [aq] at this
    exact this
   have e3:dv (rN b) * 1000 * 2 ^ (ej (rN b)).toNat=1000 * (dv (rN b) * 2 ^ (ej (rN b)).toNat):=by rw [bS (dv (rN b)) 1000,eD]
   have e4:w64 (((dv (rN b) * 1000:Nat):Int) * ((2 ^ (ej (rN b)).toNat:Nat):Int))=((dv (rN b) * 1000 * 2 ^ (ej (rN b)).toNat:Nat):Int):=by
    rw [← ir]
    exact aA (by omega) (by omega)
   rw [e2,e4]
   have g:decide (((dv (rN b) * 1000 * 2 ^ (ej (rN b)).toNat:Nat):Int) > 1099511627776)=decide (dv (rN b) * 1000 * 2 ^ (ej (rN b)).toNat > 1099511627776):=cd.2 (by omega)
   rw [g]
   refine ⟨by omega,?_⟩
   exact cK (fun _=>⟨⟨T2',T2'⟩,rfl⟩) (fun _=>⟨⟨T2',T2'⟩,rfl⟩)
def eI (r:Req):Int×Int:=bif (ofS r.vol.toNat).2==0 && (ofS r.vol.toNat).1==0 then (0,1) else ofS r.vol.toNat
theorem c15 {r:Req} (h0:0≤r.vol) (h:r.vol < 18446744073709551616):Pure prog 15 [⟨.req,r⟩] [.int,.int] (eI r):=
 ofT func15 (t15 r) (by kernel_rfl) (by kernel_rfl) fun _=>by
  refine ⟨x58 r.vol,⟨T2',trivial⟩,_,c57 (by omega),?_⟩
  unfold eI
  generalize ofS r.vol.toNat=x
  obtain ⟨a,b⟩:=x
  show Sat _ _ _ (bif b==0 then (bif a==0 then _ else _) else _)
  refine ah (fun h1=>ah (fun h2=>⟨⟨T2',T2'⟩,?_⟩) (fun h2=>⟨⟨T2',T2'⟩,?_⟩)) (fun h1=>⟨⟨T2',T2'⟩,?_⟩)
  ·simp only [h1,h2];rfl
  ·simp only [h1,h2];rfl
  ·simp only [h1];rfl
end Go.Proofs.Wn
