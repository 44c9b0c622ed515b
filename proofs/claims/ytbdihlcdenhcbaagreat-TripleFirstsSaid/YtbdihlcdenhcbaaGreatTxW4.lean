/- Part 4. -/
import Derived.Test.YtbdihlcdenhcbaaGreatTxW3
open Go.IntKind (i64 u8 u64)
open List (length getD take drop replicate set map isEmpty)
noncomputable section
namespace Go.Pf.Vc
open Go Go.Pf
set_option maxRecDepth 100000
def TD (a0:gI) (a1:wB) (a2:Fb) (a3:kQ) (b c:Ls) (d e f g h:Int) (K:Ls→Ls→Int→Int→Int→Prop):Prop:=
 (a0 b c (fun i=>(aB (i !=0) (K ([]:Ls) ([]:Ls) 0 0 i) (a1 b c d (fun j=>(aB (!j) (K ([]:Ls) ([]:Ls) 0 0 2) (a2 b c d e f g h (fun k l m=>(aB (m !=0) (K ([]:Ls) ([]:Ls) 0 0 m) (aB (decide ((((length c):Nat):Int)≥2000)) (K ([]:Ls) ([]:Ls) 0 0 4) (aA (decide (0≤(i64.wrap ((((length c):Nat):Int)+1)))) (aA (decide ((((i64.wrap ((((length c):Nat):Int)+1)).toNat)+64)*(64+1)≤room)) (a3 b (fun o=>(aA (hO 8 c) (aA (decide ((length (replicate ((i64.wrap ((((length c):Nat):Int)+1)).toNat) ((.agg [(ic (0)),(.int .u8 (0)),(ic (0)),(ic (0)),(ic (0)),(ic (0)),(ic (0)),(ic (0))]):PV)))=((i64.wrap ((((length c):Nat):Int)+1)).toNat))) (aA (decide (0≤((i64.wrap ((((length c):Nat):Int)+1)).toNat))) (aB (isEmpty c) (aA (decide ((length (replicate ((i64.wrap ((((length c):Nat):Int)+1)).toNat) ((.agg [(ic (0)),(.int .u8 (0)),(ic (0)),(ic (0)),(ic (0)),(ic (0)),(ic (0)),(ic (0))]):PV)))=((i64.wrap ((((length c):Nat):Int)+1)).toNat))) (aA (decide (0≤((i64.wrap ((((length c):Nat):Int)+1)).toNat))) (aA (decide (1≤((i64.wrap ((((length c):Nat):Int)+1)).toNat))) (aA (decide ((length (([(.agg [(ic d),(.int .u8 1),(ic e),(ic f),(ic g),(ic h),(ic k),(ic l)])]:Ls)++(drop 1 (replicate ((i64.wrap ((((length c):Nat):Int)+1)).toNat) ((.agg [(ic (0)),(.int .u8 (0)),(ic (0)),(ic (0)),(ic (0)),(ic (0)),(ic (0)),(ic (0))]):PV)))))=((i64.wrap ((((length c):Nat):Int)+1)).toNat))) (aA (decide (1≤((i64.wrap ((((length c):Nat):Int)+1)).toNat))) (K o (take 1 (([(.agg [(ic d),(.int .u8 1),(ic e),(ic f),(ic g),(ic h),(ic k),(ic l)])]:Ls)++(drop 1 (replicate ((i64.wrap ((((length c):Nat):Int)+1)).toNat) ((.agg [(ic (0)),(.int .u8 (0)),(ic (0)),(ic (0)),(ic (0)),(ic (0)),(ic (0)),(ic (0))]):PV))))) k l 0)))))) (aA (decide ((0+(length c))≤((i64.wrap ((((length c):Nat):Int)+1)).toNat))) (aA (decide ((length (c++(drop (0+(length c)) (replicate ((i64.wrap ((((length c):Nat):Int)+1)).toNat) ((.agg [(ic (0)),(.int .u8 (0)),(ic (0)),(ic (0)),(ic (0)),(ic (0)),(ic (0)),(ic (0))]):PV)))))=((i64.wrap ((((length c):Nat):Int)+1)).toNat))) (aA (decide ((0+(0+(length c)))≤((i64.wrap ((((length c):Nat):Int)+1)).toNat))) (aA (decide (((0+(length c))+1)≤((i64.wrap ((((length c):Nat):Int)+1)).toNat))) (aA (decide ((length ((take (0+(0+(length c))) (c++(drop (0+(length c)) (replicate ((i64.wrap ((((length c):Nat):Int)+1)).toNat) ((.agg [(ic (0)),(.int .u8 (0)),(ic (0)),(ic (0)),(ic (0)),(ic (0)),(ic (0)),(ic (0))]):PV)))))++(([(.agg [(ic d),(.int .u8 1),(ic e),(ic f),(ic g),(ic h),(ic k),(ic l)])]:Ls)++(drop ((0+(0+(length c)))+1) (c++(drop (0+(length c)) (replicate ((i64.wrap ((((length c):Nat):Int)+1)).toNat) ((.agg [(ic (0)),(.int .u8 (0)),(ic (0)),(ic (0)),(ic (0)),(ic (0)),(ic (0)),(ic (0))]):PV))))))))=((i64.wrap ((((length c):Nat):Int)+1)).toNat))) (aA (decide ((0+((0+(length c))+1))≤((i64.wrap ((((length c):Nat):Int)+1)).toNat))) (K o (take ((0+(length c))+1) ((take (0+(0+(length c))) (c++(drop (0+(length c)) (replicate ((i64.wrap ((((length c):Nat):Int)+1)).toNat) ((.agg [(ic (0)),(.int .u8 (0)),(ic (0)),(ic (0)),(ic (0)),(ic (0)),(ic (0)),(ic (0))]):PV)))))++(([(.agg [(ic d),(.int .u8 1),(ic e),(ic f),(ic g),(ic h),(ic k),(ic l)])]:Ls)++(drop ((0+(0+(length c)))+1) (c++(drop (0+(length c)) (replicate ((i64.wrap ((((length c):Nat):Int)+1)).toNat) ((.agg [(ic (0)),(.int .u8 (0)),(ic (0)),(ic (0)),(ic (0)),(ic (0)),(ic (0)),(ic (0))]):PV)))))))) k l 0)))))))))))))))))))))))))
def yaL:kR:=TD ydB EY TB BX
def yDc (e:Es) (a0:gI) (a1:wB) (a2:Fb) (a3:kQ):SE:=⟨(E e),yhr [(Bz,mX.pw a0),(El,Ax.pw a1),(KM,Fd.pw a2),(Hl,qK.pw a3)],yhs [(Pe,PK)],bX,fun _=>none⟩
theorem yDd (e:Es) (a0 a1 a2 a3):bN (yDc e a0 a1 a2 a3) 6 D7 oY (TD a0 a1 a2 a3):=fun _ _=>by kernel_rfl
theorem TE (e:Es) (he:EG e):bL (E e) (oY.pw yaL) Hn:=bQ he (yDd e _ _ _ _) (bK (aK.uni _) ⟨(HS e he),(Tr e he),(yrK e he),(Tw e he),trivial⟩ ⟨⟨by kernel_rfl,by kernel_rfl,rfl,fun az=>vO (by kernel_rfl) az,he.num _ (by kernel_rfl),by kernel_rfl,(bC (by kernel_rfl))⟩,trivial⟩ he.ok) aY.flat (bC (by kernel_rfl))
set_option linter.unusedVariables false
theorem yA7 (p0 p1:Ls) (r0:Int) (h:∀ K:Int→Prop,K r0→ydB p0 p1 K) (K:Int→Prop):ydB p0 p1 K=K r0:=
 Aab ⟨fun k=>cI (HS [] dQ) (az:=[(.agg [(.data p0),(.data p1)])]) (x:=(ic r0)) (fun K' k'=>h (fun r0=>K' (ic r0)) k') (K:=fun x=>match x with | (ic r0)=>K r0 | _=>False) k,h K⟩
theorem yz4 (p0 r0:Ls) (h:∀ K:Ls→Prop,K r0→BX p0 K) (K:Ls→Prop):BX p0 K=K r0:=
 Aab ⟨fun k=>cI (Tw [] dQ) (az:=[(.data p0)]) (x:=(.data r0)) (fun K' k'=>h (fun r0=>K' (.data r0)) k') (K:=fun x=>match x with | (.data r0)=>K r0 | _=>False) k,h K⟩
theorem yDe (p0 p1:Ls) (p2 p3 p4 p5 p6:Int) (r0 r1:Ls) (r2 r3 r4:Int) (h:∀ K:Ls→Ls→Int→Int→Int→Prop,K r0 r1 r2 r3 r4→ybY p0 p1 p2 p3 p4 p5 p6 K) (K:Ls→Ls→Int→Int→Int→Prop):ybY p0 p1 p2 p3 p4 p5 p6 K=K r0 r1 r2 r3 r4:=
 Aab ⟨fun k=>cI (Tz [] dQ) (az:=[(.agg [(.data p0),(.data p1)]),(ic p2),(.agg [(ic p3),(ic p4)]),(.agg [(ic p5),(ic p6)])]) (x:=(.tup [(.agg [(.data r0),(.data r1)]),(.agg [(ic r2),(ic r3)]),(ic r4)])) (fun K' k'=>h (fun r0 r1 r2 r3 r4=>K' (.tup [(.agg [(.data r0),(.data r1)]),(.agg [(ic r2),(ic r3)]),(ic r4)])) k') (K:=fun x=>match x with | (.tup [(.agg [(.data r0),(.data r1)]),(.agg [(ic r2),(ic r3)]),(ic r4)])=>K r0 r1 r2 r3 r4 | _=>False) k,h K⟩
theorem yA8 (p0 p1:Ls) (p2 p3 p4 p5 p6:Int) (r0 r1:Ls) (r2 r3 r4:Int) (h:∀ K:Ls→Ls→Int→Int→Int→Prop,K r0 r1 r2 r3 r4→yaL p0 p1 p2 p3 p4 p5 p6 K) (K:Ls→Ls→Int→Int→Int→Prop):yaL p0 p1 p2 p3 p4 p5 p6 K=K r0 r1 r2 r3 r4:=
 Aab ⟨fun k=>cI (TE [] dQ) (az:=[(.agg [(.data p0),(.data p1)]),(ic p2),(.agg [(ic p3),(ic p4)]),(.agg [(ic p5),(ic p6)])]) (x:=(.tup [(.agg [(.data r0),(.data r1)]),(.agg [(ic r2),(ic r3)]),(ic r4)])) (fun K' k'=>h (fun r0 r1 r2 r3 r4=>K' (.tup [(.agg [(.data r0),(.data r1)]),(.agg [(ic r2),(ic r3)]),(ic r4)])) k') (K:=fun x=>match x with | (.tup [(.agg [(.data r0),(.data r1)]),(.agg [(ic r2),(ic r3)]),(ic r4)])=>K r0 r1 r2 r3 r4 | _=>False) k,h K⟩
def O8 (b:Int) (K:Int→Int→Prop):Prop:=
 (K b 1)
def fK:cC:=O8
def yJt (e:Es):SE:=sE (E e) [] bX
theorem yJu (e:Es):bN (yJt e) 6 D9 lZ O8:=fun _ _=>by kernel_rfl
theorem LG (e:Es) (he:EG e):bL (E e) (lZ.pw fK) tM:=bQ he (yJu e) (bK (aK.uni _) trivial trivial he.ok) aY.flat (bC (by kernel_rfl))
def TF (b:Int) (K:Int→Prop):Prop:=
 (aB (decide (b<0)) (K (u64.wrap ((u64.wrap (i64.wrap (0-(i64.wrap (b+1)))))+1))) (K (u64.wrap b)))
def BY:gH:=TF
def yHg (e:Es):SE:=sE (E e) [] bX
theorem yHh (e:Es):bN (yHg e) 6 E0 rV TF:=fun _ _=>by kernel_rfl
theorem LH (e:Es) (he:EG e):bL (E e) (rV.pw BY) BJ:=bQ he (yHh e) (bK (aK.uni _) trivial trivial he.ok) aY.flat (bC (by kernel_rfl))
def HV (x0:Int→Int→Bool→Prop):Nat→Int→Int→Prop
 | 0,_,_=>False
 | n+1,b,c=>
 (aB (c !=0) (aA (!(decide (c=0))) (HV x0 n c (Int.tmod b c))) (x0 b c false))
def TG (b c:Int) (K:Int→Prop):Prop:=
 (∃ n:Nat,HV (fun d e f=>(K d)) n b c)
def tT:dL:=TG
def yA9 (Q:Qx):Int→Int→Bool→Prop:=(fun b c d=>Q (.exit 0) [(0,.v (.int .u64 b)),(1,.v (.int .u64 c)),(6,.v (.bool d))] [])
def O9 (Q:Qx):List St:=[⟨I9,HV (yA9 Q)⟩]
def P0:LP:=gL [(16774900,O9)]
def TH (e:Es):SE:=sE (E e) [] (P0)
theorem P1 (e:Es) (he:EG e):SEOk (Uni (E e)) (TH e):=bK (aK.uni _) trivial trivial he.ok
theorem yz6 (e:Es):fY (TH e) 5 a Qe false (O9):=fun _=>⟨fun _=>by kernel_rfl,fun _ _=>by kernel_rfl,trivial⟩
theorem yz7 (e:Es) (he:EG e):dF (Uni (E e)) (P0) [] 16774900 (.loop 16774900 Qe):=fun _ _ _=>cA.st (aK.uni _) (cU (P1 e he) 5) (cH.no _ _) (bC (by kernel_rfl)) (yz6 e _)
theorem yHi (e:Es):bN (TH e) 6 Qd vZ TG:=fun _ _=>by kernel_rfl
theorem LI (e:Es) (he:EG e):bL (E e) (vZ.pw tT) Et:=bQ he (yHi e) (P1 e he) aY.flat (dT (l:=[(16774900,.loop 16774900 Qe)]) ⟨yz7 e he,trivial⟩ (by kernel_rfl))
def TI (a0:gH) (a1:dL) (b c:Int) (K:Int→Prop):Prop:=
 (aB (decide (c<1)) (K 8) (aB (decide (c>1000000000000000000)) (K 8) (aB (decide (b<(-1000000000000000000))) (K 8) (aB (decide (b>1000000000000000000)) (K 8) (a0 b (fun d=>(a1 d (u64.wrap c) (fun e=>(aB (e !=1) (K 8) (K 0))))))))))
def xU:dL:=TI BY tT
def yDf (e:Es) (a0:gH) (a1:dL):SE:=sE (E e) [(BJ,rV.pw a0),(Et,vZ.pw a1)] bX
theorem yDg (e:Es) (a0 a1):bN (yDf e a0 a1) 6 E1 tP (TI a0 a1):=fun _ _=>by kernel_rfl
theorem TJ (e:Es) (he:EG e):bL (E e) (tP.pw xU) Eu:=bQ he (yDg e _ _) (bK (aK.uni _) ⟨(LH e he),(LI e he),trivial⟩ trivial he.ok) aY.flat (bC (by kernel_rfl))
def TK (a0:dL) (b c d e:Int) (K:Int→Prop):Prop:=
 (a0 b c (fun f=>(aB (f !=0) (a0 b c K) (a0 d e K))))
def BZ:lA:=TK xU
def yFw (e:Es) (a0:dL):SE:=sE (E e) [(Eu,tP.pw a0)] bX
theorem yFx (e:Es) (a0):bN (yFw e a0) 6 E2 qH (TK a0):=fun _ _=>by kernel_rfl
theorem LJ (e:Es) (he:EG e):bL (E e) (qH.pw BZ) BK:=bQ he (yFx e _) (bK (aK.uni _) ⟨(TJ e he),trivial⟩ trivial he.ok) aY.flat (bC (by kernel_rfl))
def TL (b c:Int) (K:Int→Int→Prop):Prop:=
 (K (u64.wrap ((u64.wrap ((u64.wrap ((Int.fdiv b 4294967296)*(Int.fdiv c 4294967296)))+(Int.fdiv (u64.wrap ((Int.fdiv b 4294967296)*(u64.wrap (BitVec.ofInt u64.bits c&&&BitVec.ofInt u64.bits 4294967295).toNat))) 4294967296)))+(Int.fdiv (u64.wrap ((u64.wrap ((u64.wrap (BitVec.ofInt u64.bits (u64.wrap ((Int.fdiv b 4294967296)*(u64.wrap (BitVec.ofInt u64.bits c&&&BitVec.ofInt u64.bits 4294967295).toNat)))&&&BitVec.ofInt u64.bits 4294967295).toNat)+(u64.wrap ((u64.wrap (BitVec.ofInt u64.bits b&&&BitVec.ofInt u64.bits 4294967295).toNat)*(Int.fdiv c 4294967296)))))+(Int.fdiv (u64.wrap ((u64.wrap (BitVec.ofInt u64.bits b&&&BitVec.ofInt u64.bits 4294967295).toNat)*(u64.wrap (BitVec.ofInt u64.bits c&&&BitVec.ofInt u64.bits 4294967295).toNat))) 4294967296))) 4294967296))) (u64.wrap (BitVec.ofInt u64.bits (u64.wrap ((u64.wrap ((u64.wrap ((u64.wrap (BitVec.ofInt u64.bits (u64.wrap ((Int.fdiv b 4294967296)*(u64.wrap (BitVec.ofInt u64.bits c&&&BitVec.ofInt u64.bits 4294967295).toNat)))&&&BitVec.ofInt u64.bits 4294967295).toNat)+(u64.wrap ((u64.wrap (BitVec.ofInt u64.bits b&&&BitVec.ofInt u64.bits 4294967295).toNat)*(Int.fdiv c 4294967296)))))+(Int.fdiv (u64.wrap ((u64.wrap (BitVec.ofInt u64.bits b&&&BitVec.ofInt u64.bits 4294967295).toNat)*(u64.wrap (BitVec.ofInt u64.bits c&&&BitVec.ofInt u64.bits 4294967295).toNat))) 4294967296)))*4294967296))|||BitVec.ofInt u64.bits (u64.wrap (BitVec.ofInt u64.bits (u64.wrap ((u64.wrap (BitVec.ofInt u64.bits b&&&BitVec.ofInt u64.bits 4294967295).toNat)*(u64.wrap (BitVec.ofInt u64.bits c&&&BitVec.ofInt u64.bits 4294967295).toNat)))&&&BitVec.ofInt u64.bits 4294967295).toNat)).toNat))
def Ay:mW:=TL
def HW:Sg:=⟨qE,Int→Int→Prop,fun K=>(fun r0 r1=>K (.agg [(.int .u64 r0),(.int .u64 r1)]))⟩
def yDi (e:Es):SE:=sE (E e) [] bX
theorem yDj (e:Es):bN (yDi e) 6 E3 HW TL:=fun _ _=>by kernel_rfl
theorem TM (e:Es) (he:EG e):bL (E e) (HW.pw Ay) Ev:=bQ he (yDj e) (bK (aK.uni _) trivial trivial he.ok) aY.flat (bC (by kernel_rfl))
abbrev HX:Type:=Bool→J4 ((Int→Int→Int→Prop)→Prop)
def TN (b:Bool) (c d e f:Int) (K:Int→Int→Int→Prop):Prop:=
 (aB (decide (c>0)) (K 0 0 16) (aB (decide (e>0)) (K 0 0 16) (aB (decide (d>1000000000000000000)) (K 0 0 16) (aB (decide (f>1000000000000000000)) (K 0 0 16) (aB b (K (i64.wrap (0-(i64.wrap d))) (i64.wrap f) 0) (K (i64.wrap d) (i64.wrap f) 0))))))
def Ff:HX:=TN
def Ca:jP:=lC (vA qE) (lC (vA qE) lN)
def LK:Sg:=⟨(lC vB Ca),Int→Int→Int→Prop,fun K=>(fun r0 r1 r2=>K (.tup [(.agg [(ic r0),(ic r1)]),(ic r2)]))⟩
def yFz (e:Es):SE:=sE (E e) [] bX
theorem yFA (e:Es):bN (yFz e) 6 E4 LK TN:=fun _ _=>by kernel_rfl
theorem P2 (e:Es) (he:EG e):bL (E e) (LK.pw Ff) Hs:=bQ he (yFA e) (bK (aK.uni _) trivial trivial he.ok) aY.flat (bC (by kernel_rfl))
def TO (a0:lA) (a1:gH) (a2:dL) (a3:mW) (a4:HX) (b c d e:Int) (K:Int→Int→Int→Prop):Prop:=
 (a0 b c d e (fun f=>(aB (f !=0) (a0 b c d e (fun g=>(K 0 0 g))) (a1 b (fun g=>(a2 g (u64.wrap e) (fun h=>(a1 d (fun i=>(a2 i (u64.wrap c) (fun j=>(aB ((decide (b<0)) !=(decide (d<0))) (aB (b !=0) (a1 b (fun k=>(aA (!(decide (h=0))) (a1 d (fun l=>(aA (!(decide (j=0))) (a3 (u64.wrap (Int.tdiv k h)) (u64.wrap (Int.tdiv l j)) (fun m o=>(aA (!(decide (j=0))) (aA (!(decide (h=0))) (a3 (u64.wrap (Int.tdiv (u64.wrap c) j)) (u64.wrap (Int.tdiv (u64.wrap e) h)) (fun p q=>(a4 (d !=0) m o p q K))))))))))))) (a1 b (fun k=>(aA (!(decide (h=0))) (a1 d (fun l=>(aA (!(decide (j=0))) (a3 (u64.wrap (Int.tdiv k h)) (u64.wrap (Int.tdiv l j)) (fun m o=>(aA (!(decide (j=0))) (aA (!(decide (h=0))) (a3 (u64.wrap (Int.tdiv (u64.wrap c) j)) (u64.wrap (Int.tdiv (u64.wrap e) h)) (fun p q=>(a4 false m o p q K)))))))))))))) (a1 b (fun k=>(aA (!(decide (h=0))) (a1 d (fun l=>(aA (!(decide (j=0))) (a3 (u64.wrap (Int.tdiv k h)) (u64.wrap (Int.tdiv l j)) (fun m o=>(aA (!(decide (j=0))) (aA (!(decide (h=0))) (a3 (u64.wrap (Int.tdiv (u64.wrap c) j)) (u64.wrap (Int.tdiv (u64.wrap e) h)) (fun p q=>(a4 false m o p q K)))))))))))))))))))))))))
def ygs:cQ:=TO BZ BY tT Ay Ff
def yHj (e:Es) (a0:lA) (a1:gH) (a2:dL) (a3:mW) (a4:HX):SE:=sE (E e) [(BK,qH.pw a0),(BJ,rV.pw a1),(Et,vZ.pw a2),(Ev,HW.pw a3),(Hs,LK.pw a4)] bX
theorem yHk (e:Es) (a0 a1 a2 a3 a4):bN (yHj e a0 a1 a2 a3 a4) 6 E5 yeb (TO a0 a1 a2 a3 a4):=fun _ _=>by kernel_rfl
theorem TP (e:Es) (he:EG e):bL (E e) (yeb.pw ygs) Ew:=bQ he (yHk e _ _ _ _ _) (bK (aK.uni _) ⟨(LJ e he),(LH e he),(LI e he),(TM e he),(P2 e he),trivial⟩ trivial he.ok) aY.flat (bC (by kernel_rfl))
def TQ (b c d e:Int) (K:Bool→Prop):Prop:=
 (aB (decide (b<d)) (K true) (aB (b==d) (K (decide (c<e))) (K false)))
def HY:bZ:=TQ
def LM:Sg:=⟨Ca,Bool→Prop,fun K=>(fun r0=>K (.bool r0))⟩
def yFC (e:Es):SE:=sE (E e) [] bX
theorem yFD (e:Es):bN (yFC e) 6 E8 LM TQ:=fun _ _=>by kernel_rfl
theorem P4 (e:Es) (he:EG e):bL (E e) (LM.pw HY) Ht:=bQ he (yFD e) (bK (aK.uni _) trivial trivial he.ok) aY.flat (bC (by kernel_rfl))
def TR (a0:gH) (a1:mW) (a2:bZ) (b c d e:Int) (K:Bool→Prop):Prop:=
 (aB ((decide (b<0)) !=(decide (d<0))) (K (decide (b<0))) (a0 b (fun f=>(a1 f (u64.wrap e) (fun g h=>(a0 d (fun i=>(a1 i (u64.wrap c) (fun j k=>(aB (decide (b<0)) (a2 j k g h K) (a2 g h j k K)))))))))))
def yaC:bZ:=TR BY Ay HY
def yFE (e:Es) (a0:gH) (a1:mW) (a2:bZ):SE:=sE (E e) [(BJ,rV.pw a0),(Ev,HW.pw a1),(Ht,LM.pw a2)] bX
theorem yFF (e:Es) (a0 a1 a2):bN (yFE e a0 a1 a2) 6 E9 nJ (TR a0 a1 a2):=fun _ _=>by kernel_rfl
theorem Az (e:Es) (he:EG e):bL (E e) (nJ.pw yaC) rS:=bQ he (yFF e _ _ _) (bK (aK.uni _) ⟨(LH e he),(TM e he),(P4 e he),trivial⟩ trivial he.ok) aY.flat (bC (by kernel_rfl))
def TS (b c:Int) (K:Int→Int→Prop):Prop:=
 (K (i64.wrap (0-b)) c)
def LN:mW:=TS
def TT:Sg:=⟨HJ,Int→Int→Prop,fun K=>(fun r0 r1=>K (.agg [(ic r0),(ic r1)]))⟩
def yHm (e:Es):SE:=sE (E e) [] bX
theorem yHn (e:Es):bN (yHm e) 6 F7 TT TS:=fun _ _=>by kernel_rfl
theorem yHo (e:Es) (he:EG e):bL (E e) (TT.pw LN) KQ:=bQ he (yHn e) (bK (aK.uni _) trivial trivial he.ok) aY.flat (bC (by kernel_rfl))
def TU (b c d e:Int) (K:Int→Int→Prop):Prop:=
 (aB (decide ((u64.wrap (c+e))<c)) (K (u64.wrap ((u64.wrap (b+d))+1)) (u64.wrap (c+e))) (K (u64.wrap (b+d)) (u64.wrap (c+e))))
def wC:iY:=TU
def Cb:Sg:=⟨Ca,Int→Int→Prop,fun K=>(fun r0 r1=>K (.agg [(.int .u64 r0),(.int .u64 r1)]))⟩
def yFG (e:Es):SE:=sE (E e) [] bX
theorem yFH (e:Es):bN (yFG e) 6 F8 Cb TU:=fun _ _=>by kernel_rfl
theorem P5 (e:Es) (he:EG e):bL (E e) (Cb.pw wC) Hw:=bQ he (yFH e) (bK (aK.uni _) trivial trivial he.ok) aY.flat (bC (by kernel_rfl))
def LO (b c d e:Int) (K:Int→Int→Prop):Prop:=
 (aB (decide (c<e)) (K (u64.wrap ((u64.wrap (b-d))-1)) (u64.wrap (c-e))) (K (u64.wrap (b-d)) (u64.wrap (c-e))))
def Fg:iY:=LO
def yDk (e:Es):SE:=sE (E e) [] bX
theorem yDl (e:Es):bN (yDk e) 6 F9 Cb LO:=fun _ _=>by kernel_rfl
theorem yDm (e:Es) (he:EG e):bL (E e) (Cb.pw Fg) KR:=bQ he (yDl e) (bK (aK.uni _) trivial trivial he.ok) aY.flat (bC (by kernel_rfl))
abbrev TV:Type:=Int→Int→Int→(Int→Int→Int→Prop)→Prop
def tU (a0:iY) (x0:J4 (J4 (Int→Bool→Prop))):Nat→J4 (J4 (Int→Prop))
 | 0,_,_,_,_,_,_,_,_,_=>False
 | n+1,b,c,d,e,f,g,h,i,j=>
 (aB (decide (j≥0)) (aA (!(decide ((i64.wrap (BitVec.ofInt i64.bits j&&&BitVec.ofInt i64.bits 63).toNat)<0))) (aB (decide (j≥64)) (aA (!(decide ((i64.wrap (BitVec.ofInt i64.bits j&&&BitVec.ofInt i64.bits 63).toNat)<0))) (a0 g h g h (fun k l=>(aB (decide ((u64.wrap (BitVec.ofInt u64.bits (u64.wrap (i*2))|||BitVec.ofInt u64.bits (u64.wrap (BitVec.ofInt u64.bits (Int.fdiv c (2 ^ (min (i64.wrap (BitVec.ofInt i64.bits j&&&BitVec.ofInt i64.bits 63).toNat).toNat u64.bits)))&&&BitVec.ofInt u64.bits 1).toNat)).toNat)≥b)) (tU a0 x0 n b c d e f k (u64.wrap (BitVec.ofInt u64.bits l|||BitVec.ofInt u64.bits 1).toNat) (u64.wrap ((u64.wrap (BitVec.ofInt u64.bits (u64.wrap (i*2))|||BitVec.ofInt u64.bits (u64.wrap (BitVec.ofInt u64.bits (Int.fdiv c (2 ^ (min (i64.wrap (BitVec.ofInt i64.bits j&&&BitVec.ofInt i64.bits 63).toNat).toNat u64.bits)))&&&BitVec.ofInt u64.bits 1).toNat)).toNat)-b)) (i64.wrap (j-1))) (tU a0 x0 n b c d e f k l (u64.wrap (BitVec.ofInt u64.bits (u64.wrap (i*2))|||BitVec.ofInt u64.bits (u64.wrap (BitVec.ofInt u64.bits (Int.fdiv c (2 ^ (min (i64.wrap (BitVec.ofInt i64.bits j&&&BitVec.ofInt i64.bits 63).toNat).toNat u64.bits)))&&&BitVec.ofInt u64.bits 1).toNat)).toNat) (i64.wrap (j-1))))))) (a0 g h g h (fun k l=>(aB (decide ((u64.wrap (BitVec.ofInt u64.bits (u64.wrap (i*2))|||BitVec.ofInt u64.bits (u64.wrap (BitVec.ofInt u64.bits (Int.fdiv d (2 ^ (min (i64.wrap (BitVec.ofInt i64.bits j&&&BitVec.ofInt i64.bits 63).toNat).toNat u64.bits)))&&&BitVec.ofInt u64.bits 1).toNat)).toNat)≥b)) (tU a0 x0 n b c d e f k (u64.wrap (BitVec.ofInt u64.bits l|||BitVec.ofInt u64.bits 1).toNat) (u64.wrap ((u64.wrap (BitVec.ofInt u64.bits (u64.wrap (i*2))|||BitVec.ofInt u64.bits (u64.wrap (BitVec.ofInt u64.bits (Int.fdiv d (2 ^ (min (i64.wrap (BitVec.ofInt i64.bits j&&&BitVec.ofInt i64.bits 63).toNat).toNat u64.bits)))&&&BitVec.ofInt u64.bits 1).toNat)).toNat)-b)) (i64.wrap (j-1))) (tU a0 x0 n b c d e f k l (u64.wrap (BitVec.ofInt u64.bits (u64.wrap (i*2))|||BitVec.ofInt u64.bits (u64.wrap (BitVec.ofInt u64.bits (Int.fdiv d (2 ^ (min (i64.wrap (BitVec.ofInt i64.bits j&&&BitVec.ofInt i64.bits 63).toNat).toNat u64.bits)))&&&BitVec.ofInt u64.bits 1).toNat)).toNat) (i64.wrap (j-1)))))))) (x0 b c d e f g h i j false))
def TW (a0:iY) (b c d:Int) (K:Int→Int→Int→Prop):Prop:=
 (∃ n:Nat,tU a0 (fun e f g h i j k l m o=>(K j k l)) n d b c 0 0 0 0 0 127)
def xV:TV:=TW wC
def TX:Sg:=⟨(lC (vA qE) Ln),Int→Int→Int→Prop,fun K=>(fun r0 r1 r2=>K (.tup [(.agg [(.int .u64 r0),(.int .u64 r1)]),(.int .u64 r2)]))⟩
def yx1 (Q:Qx):J4 (J4 (Int→Bool→Prop )):=(fun b c d e f g h i j k=>Q (.exit 0) [(1,.v (.int .u64 b)),(2,.box (.agg [(.int .u64 c),(.int .u64 d)])),(4,.box (.agg [(.int .u64 e),(.int .u64 f)])),(6,.box (.agg [(.int .u64 g),(.int .u64 h)])),(7,.v (.int .u64 i)),(8,.v (ic j)),(11,.v (.bool k))] [])
def P6 (a0:iY) (Q:Qx):List St:=[⟨(pS hN (fV 1 pt2 (fX 2 (vA qE) (fX 4 (vA qE) (fX 6 (vA qE) (fV 7 pt2 (fV 8 cB fN)))))) fN),tU a0 (yx1 Q)⟩]
def P7 (a0:iY):LP:=gL [(22549700,P6 a0)]
def TY (e:Es) (a0:iY):SE:=sE (E e) [(Hw,Cb.pw a0)] (P7 a0)
theorem P8 (e:Es) (he:EG e):SEOk (Uni (E e)) (TY e wC):=bK (aK.uni _) ⟨(P5 e he),trivial⟩ trivial he.ok
theorem ywA (e:Es) (a0):fY (TY e a0) 5 a Qg false (P6 a0):=fun _=>⟨fun _=>by kernel_rfl,fun _ _=>by kernel_rfl,trivial⟩
theorem ywB (e:Es) (he:EG e):dF (Uni (E e)) (P7 wC) [] 22549700 (.loop 22549700 Qg):=fun _ _ _=>cA.st (aK.uni _) (cU (P8 e he) 5) (cH.no _ _) (bC (by kernel_rfl)) (ywA e _ _)
theorem yDo (e:Es) (a0):bN (TY e a0) 6 Qf TX (TW a0):=fun _ _=>by kernel_rfl
theorem P9 (e:Es) (he:EG e):bL (E e) (TX.pw xV) KS:=bQ he (yDo e _) (P8 e he) aY.flat (dT (l:=[(22549700,.loop 22549700 Qg)]) ⟨ywB e he,trivial⟩ (by kernel_rfl))
def TZ (a0:lA) (a1:dL) (a2:gH) (a3:mW) (a4 a5:iY) (a6:bZ) (a7:TV) (a8:HX) (b c d e:Int) (K:Int→Int→Int→Prop):Prop:=
 (a0 b c d e (fun f=>(aB (f !=0) (a0 b c d e (fun g=>(K 0 0 g))) (a1 (u64.wrap c) (u64.wrap e) (fun g=>(a2 b (fun h=>(aA (!(decide (g=0))) (a3 h (u64.wrap (Int.tdiv (u64.wrap e) g)) (fun i j=>(a2 d (fun k=>(aA (!(decide (g=0))) (a3 k (u64.wrap (Int.tdiv (u64.wrap c) g)) (fun l m=>(a4 i j l m (fun o p=>(aB ((decide (b<0)) !=(decide (d<0))) (a5 i j l m (fun q r=>(a6 i j l m (fun s=>(aB s (a5 l m i j (fun t u=>(aB ((t==0)&&((u==0)&&true)) (K 0 1 0) (a7 t u g (fun v w z=>(a1 z g (fun A=>(a7 t u A (fun B C D=>(aA (!(decide (g=0))) (aA (!(decide (A=0))) (a3 (u64.wrap (Int.tdiv (u64.wrap c) g)) (u64.wrap (Int.tdiv (u64.wrap e) A)) (fun E F=>(a8 (decide (d<0)) B C E F K)))))))))))))) (aB ((q==0)&&((r==0)&&true)) (K 0 1 0) (a7 q r g (fun t u v=>(a1 v g (fun w=>(a7 q r w (fun z A B=>(aA (!(decide (g=0))) (aA (!(decide (w=0))) (a3 (u64.wrap (Int.tdiv (u64.wrap c) g)) (u64.wrap (Int.tdiv (u64.wrap e) w)) (fun C D=>(a8 (decide (b<0)) z A C D K))))))))))))))))) (aB ((o==0)&&((p==0)&&true)) (K 0 1 0) (a7 o p g (fun q r s=>(a1 s g (fun t=>(a7 o p t (fun u v w=>(aA (!(decide (g=0))) (aA (!(decide (t=0))) (a3 (u64.wrap (Int.tdiv (u64.wrap c) g)) (u64.wrap (Int.tdiv (u64.wrap e) t)) (fun z A=>(a8 (decide (b<0)) u v z A K))))))))))))))))))))))))))))))
def sF:cQ:=TZ BZ tT BY Ay wC Fg HY xV Ff
def yHp (e:Es) (a0:lA) (a1:dL) (a2:gH) (a3:mW) (a4 a5:iY) (a6:bZ) (a7:TV) (a8:HX):SE:=sE (E e) [(BK,qH.pw a0),(Et,vZ.pw a1),(BJ,rV.pw a2),(Ev,HW.pw a3),(Hw,Cb.pw a4),(KR,Cb.pw a5),(Ht,LM.pw a6),(KS,TX.pw a7),(Hs,LK.pw a8)] bX
theorem yHq (e:Es) (a0 a1 a2 a3 a4 a5 a6 a7 a8):bN (yHp e a0 a1 a2 a3 a4 a5 a6 a7 a8) 6 G4 yeb (TZ a0 a1 a2 a3 a4 a5 a6 a7 a8):=fun _ _=>by kernel_rfl
theorem Ua (e:Es) (he:EG e):bL (E e) (yeb.pw sF) Ez:=bQ he (yHq e _ _ _ _ _ _ _ _ _) (bK (aK.uni _) ⟨(LJ e he),(LI e he),(LH e he),(TM e he),(P5 e he),(yDm e he),(P4 e he),(P9 e he),(P2 e he),trivial⟩ trivial he.ok) aY.flat (bC (by kernel_rfl))
def Ub (a0:lA) (a1:mW) (a2:cQ) (b c d e:Int) (K:Int→Int→Int→Prop):Prop:=
 (a0 b c d e (fun f=>(aB (f !=0) (a0 b c d e (fun g=>(K 0 0 g))) (a1 d e (fun g h=>(a2 b c g h K))))))
def wD:cQ:=Ub BZ LN sF
def yHr (e:Es) (a0:lA) (a1:mW) (a2:cQ):SE:=sE (E e) [(BK,qH.pw a0),(KQ,TT.pw a1),(Ez,yeb.pw a2)] bX
theorem yHs (e:Es) (a0 a1 a2):bN (yHr e a0 a1 a2) 6 G5 yeb (Ub a0 a1 a2):=fun _ _=>by kernel_rfl
theorem Uc (e:Es) (he:EG e):bL (E e) (yeb.pw wD) EA:=bQ he (yHs e _ _ _) (bK (aK.uni _) ⟨(LJ e he),(yHo e he),(Ua e he),trivial⟩ trivial he.ok) aY.flat (bC (by kernel_rfl))
def Ud (a0:lA) (a1:cQ) (b c d e:Int) (K:Int→Int→Int→Prop):Prop:=
 (a0 b c d e (fun f=>(aB (f !=0) (a0 b c d e (fun g=>(K 0 0 g))) (aB (d==0) (K 0 0 18) (aB (decide (d<0)) (a1 b c (i64.wrap (0-e)) (i64.wrap (0-d)) K) (a1 b c e d K))))))
def Cc:cQ:=Ud BZ ygs
def yHt (e:Es) (a0:lA) (a1:cQ):SE:=sE (E e) [(BK,qH.pw a0),(Ew,yeb.pw a1)] bX
theorem yHu (e:Es) (a0 a1):bN (yHt e a0 a1) 6 G7 yeb (Ud a0 a1):=fun _ _=>by kernel_rfl
theorem yHv (e:Es) (he:EG e):bL (E e) (yeb.pw Cc) KU:=bQ he (yHu e _ _) (bK (aK.uni _) ⟨(LJ e he),(TP e he),trivial⟩ trivial he.ok) aY.flat (bC (by kernel_rfl))
set_option linter.unusedVariables false
theorem yFI (p0 p1 r0:Int) (h:∀ K:Int→Prop,K r0→tT p0 p1 K) (K:Int→Prop):tT p0 p1 K=K r0:=
 Aab ⟨fun k=>cI (LI [] dQ) (az:=[(.int .u64 p0),(.int .u64 p1)]) (x:=(.int .u64 r0)) (fun K' k'=>h (fun r0=>K' (.int .u64 r0)) k') (K:=fun x=>match x with | (.int .u64 r0)=>K r0 | _=>False) k,h K⟩
theorem yBa (p0 p1 p2 r0 r1 r2:Int) (h:∀ K:Int→Int→Int→Prop,K r0 r1 r2→xV p0 p1 p2 K) (K:Int→Int→Int→Prop):xV p0 p1 p2 K=K r0 r1 r2:=
 Aab ⟨fun k=>cI (P9 [] dQ) (az:=[(.agg [(.int .u64 p0),(.int .u64 p1)]),(.int .u64 p2)]) (x:=(.tup [(.agg [(.int .u64 r0),(.int .u64 r1)]),(.int .u64 r2)])) (fun K' k'=>h (fun r0 r1 r2=>K' (.tup [(.agg [(.int .u64 r0),(.int .u64 r1)]),(.int .u64 r2)])) k') (K:=fun x=>match x with | (.tup [(.agg [(.int .u64 r0),(.int .u64 r1)]),(.int .u64 r2)])=>K r0 r1 r2 | _=>False) k,h K⟩
abbrev Fh:Type:=Int→Ls→Ls→(Bool→Prop)→Prop
def Ue (b:Int) (c d:Ls) (K:Bool→Prop):Prop:=
 (aB (decide ((((length c):Nat):Int)>60)) (K true) (K (decide ((((length d):Nat):Int)>60))))
def Cd:Fh:=Ue
def Uf:Sg:=⟨tS,Bool→Prop,fun K=>(fun r0=>K (.bool r0))⟩
def yDq (e:Es):SE:=sE (E e) [] bX
theorem yDr (e:Es):bN (yDq e) 6 ZW Uf Ue:=fun _ _=>by kernel_rfl
theorem yDs (e:Es) (he:EG e):bL (E e) (Uf.pw Cd) Kt:=bQ he (yDr e) (bK (aK.uni _) trivial trivial he.ok) aY.flat (bC (by kernel_rfl))
abbrev Ce:Type:=Int→Ls→Ls→(Int→Ls→Ls→Prop)→Prop
def Ug (b:Int) (c d:Ls) (K:Int→Ls→Ls→Prop):Prop:=
 (aA (hO 1 c) (aB (isEmpty c) (aA (hO 1 d) (aB (isEmpty d) (K b ([]:Ls) ([]:Ls)) (aA (decide (((length d)+64)*(8+1)≤room)) (aA (decide ((length d)=(length d))) (aA (decide ((0+(length d))≤(length d))) (K b ([]:Ls) (take (length d) d))))))) (aA (decide (((length c)+64)*(8+1)≤room)) (aA (hO 1 d) (aB (isEmpty d) (aA (decide ((length c)=(length c))) (aA (decide ((0+(length c))≤(length c))) (K b (take (length c) c) ([]:Ls)))) (aA (decide (((length d)+64)*(8+1)≤room)) (aA (decide ((length c)=(length c))) (aA (decide ((0+(length c))≤(length c))) (aA (decide ((length d)=(length d))) (aA (decide ((0+(length d))≤(length d))) (K b (take (length c) c) (take (length d) d))))))))))))
def Cf:Ce:=Ug
def Uh:Sg:=⟨tS,Int→Ls→Ls→Prop,fun K=>(fun r0 r1 r2=>K (.agg [(ic r0),(.data r1),(.data r2)]))⟩
def yFK (e:Es):SE:=sE (E e) [] bX
theorem yFL (e:Es):bN (yFK e) 6 ZY Uh Ug:=fun _ _=>by kernel_rfl
theorem yFM (e:Es) (he:EG e):bL (E e) (Uh.pw Cf) Kv:=bQ he (yFL e) (bK (aK.uni _) trivial trivial he.ok) aY.flat (bC (by kernel_rfl))
def Cg (x0:Int→Prop) (x1:Int→Ls→Ls→Bool→Int→Bool→Prop):Nat→Int→Ls→Ls→Bool→Int→Prop
 | 0,_,_,_,_,_=>False
 | n+1,b,c,d,e,f=>
 (aB (decide (f<(((length d):Nat):Int))) (aA (decide (0≤(i64.wrap (f+1)))) (aA (decide ((i64.wrap (f+1))<(((length c):Nat):Int))) (aA (aI zI (getD c ((i64.wrap (f+1)).toNat) .nils)) (aA (decide (0≤f)) (aA (decide (f<(((length c):Nat):Int))) (aA (aI zI (getD c (f.toNat) .nils)) (aB (decide ((aJ (getD c ((i64.wrap (f+1)).toNat) .nils))≤(aJ (getD c (f.toNat) .nils)))) (x0 8) (aA (decide (0≤f)) (aA (decide (f<(((length d):Nat):Int))) (aA (aI zI (getD d (f.toNat) .nils)) (aB (decide ((aJ (getD d (f.toNat) .nils))<0)) (x0 8) (aA (decide (0≤f)) (aA (decide (f<(((length d):Nat):Int))) (aA (aI zI (getD d (f.toNat) .nils)) (aB (decide ((aJ (getD d (f.toNat) .nils))>12)) (x0 8) (aB e (Cg x0 x1 n b c d true (i64.wrap (f+1))) (aA (decide (0≤f)) (aA (decide (f<(((length d):Nat):Int))) (aA (aI zI (getD d (f.toNat) .nils)) (Cg x0 x1 n b c d (decide ((aJ (getD d (f.toNat) .nils))>0)) (i64.wrap (f+1)))))))))))))))))))))) (x1 b c d e f false))
def Ui (b:Int) (c d:Ls) (K:Int→Prop):Prop:=
 (aB (decide (b>1000)) (K 4) (aB (decide ((((length c):Nat):Int)>40)) (K 4) (aB (decide (b<1)) (K 8) (aB (decide ((((length c):Nat):Int)<2)) (K 8) (aB ((((length d):Nat):Int) !=(i64.wrap ((((length c):Nat):Int)-1))) (K 8) (aA (decide (0<(((length c):Nat):Int))) (aA (aI zI (getD c 0 .nils)) (aB ((aJ (getD c 0 .nils)) !=0) (K 8) (aA (decide (0≤(i64.wrap ((((length c):Nat):Int)-1)))) (aA (decide ((i64.wrap ((((length c):Nat):Int)-1))<(((length c):Nat):Int))) (aA (aI zI (getD c ((i64.wrap ((((length c):Nat):Int)-1)).toNat) .nils)) (aB ((aJ (getD c ((i64.wrap ((((length c):Nat):Int)-1)).toNat) .nils)) !=b) (K 8) (∃ n:Nat,Cg K (fun e f g h i j=>(aB (!h) (K 8) (K 0))) n b c d false 0)))))))))))))
def lB:bY:=Ui
def yx2 (Q:Qx):Int→Prop:=(fun b=>Q .ret [(2,.v (ic b))] [])
def yx3 (Q:Qx):Int→Ls→Ls→Bool→Int→Bool→Prop:=(fun b c d e f g=>Q (.exit 0) [(1,.box (.agg [(ic b),(.data c),(.data d)])),(3,.v (.bool e)),(4,.v (ic f)),(57,.v (.bool g))] [])
def Q0 (Q:Qx):List St:=[⟨(pS hN (fX 1 gA (fV 3 vB qI)) fN),Cg (yx2 Q) (yx3 Q)⟩]
def Q1:LP:=gL [(94526800,Q0)]
def Uj (e:Es):SE:=sE (E e) [] (Q1)
theorem Q2 (e:Es) (he:EG e):SEOk (Uni (E e)) (Uj e):=bK (aK.uni _) trivial trivial he.ok
theorem ywC (e:Es):fY (Uj e) 5 a PY false (Q0):=fun _=>⟨fun _=>by kernel_rfl,fun _ _=>by kernel_rfl,trivial⟩
theorem ywD (e:Es) (he:EG e):dF (Uni (E e)) (Q1) [] 94526800 (.loop 94526800 PY):=fun _ _ _=>cA.st (aK.uni _) (cU (Q2 e he) 5) (cH.no _ _) (bC (by kernel_rfl)) (ywC e _)
theorem yDt (e:Es):bN (Uj e) 6 PX oD Ui:=fun _ _=>by kernel_rfl
theorem LQ (e:Es) (he:EG e):bL (E e) (oD.pw lB) Ep:=bQ he (yDt e) (Q2 e he) aY.flat (dT (l:=[(94526800,.loop 94526800 PY)]) ⟨ywD e he,trivial⟩ (by kernel_rfl))
def Fi (x0:Int→Ls→Ls→Int→Int→Bool→Prop):Nat→Int→Ls→Ls→Int→Int→Prop
 | 0,_,_,_,_,_=>False
 | n+1,b,c,d,e,f=>
 (aB (decide (f<(((length d):Nat):Int))) (aA (decide (0≤f)) (aA (decide (f<(((length d):Nat):Int))) (aA (aI zI (getD d (f.toNat) .nils)) (aA (decide (0≤(i64.wrap (f+1)))) (aA (decide ((i64.wrap (f+1))<(((length c):Nat):Int))) (aA (aI zI (getD c ((i64.wrap (f+1)).toNat) .nils)) (aA (decide (0≤f)) (aA (decide (f<(((length c):Nat):Int))) (aA (aI zI (getD c (f.toNat) .nils)) (Fi x0 n b c d (i64.wrap (e+(i64.wrap ((aJ (getD d (f.toNat) .nils))*(i64.wrap ((aJ (getD c ((i64.wrap (f+1)).toNat) .nils))-(aJ (getD c (f.toNat) .nils)))))))) (i64.wrap (f+1)))))))))))) (x0 b c d e f false))
def Uk (b:Int) (c d:Ls) (K:Int→Prop):Prop:=
 (∃ n:Nat,Fi (fun e f g h i j=>(K h)) n b c d 0 0)
def yaM:bY:=Uk
def yx4 (Q:Qx):Int→Ls→Ls→Int→Int→Bool→Prop:=(fun b c d e f g=>Q (.exit 0) [(1,.box (.agg [(ic b),(.data c),(.data d)])),(3,.v (ic e)),(4,.v (ic f)),(9,.v (.bool g))] [])
def Q3 (Q:Qx):List St:=[⟨(pS hN (fX 1 gA (fV 3 cB qI)) fN),Fi (yx4 Q)⟩]
def Q4:LP:=gL [(21661800,Q3)]
def Ul (e:Es):SE:=sE (E e) [] (Q4)
theorem Q5 (e:Es) (he:EG e):SEOk (Uni (E e)) (Ul e):=bK (aK.uni _) trivial trivial he.ok
theorem ywE (e:Es):fY (Ul e) 5 a Qc false (Q3):=fun _=>⟨fun _=>by kernel_rfl,fun _ _=>by kernel_rfl,trivial⟩
theorem ywF (e:Es) (he:EG e):dF (Uni (E e)) (Q4) [] 21661800 (.loop 21661800 Qc):=fun _ _ _=>cA.st (aK.uni _) (cU (Q5 e he) 5) (cH.no _ _) (bC (by kernel_rfl)) (ywE e _)
theorem yDu (e:Es):bN (Ul e) 6 Qb oD Uk:=fun _ _=>by kernel_rfl
theorem Q6 (e:Es) (he:EG e):bL (E e) (oD.pw yaM) Er:=bQ he (yDu e) (Q5 e he) aY.flat (dT (l:=[(21661800,.loop 21661800 Qc)]) ⟨ywF e he,trivial⟩ (by kernel_rfl))
abbrev tV:Type:=Int→Int→Int→(Bool→Prop)→Prop
def Um (a0:dL) (a1:cC) (a2:bZ) (b c d:Int) (K:Bool→Prop):Prop:=
 (a0 c d (fun e=>(aB (e==0) (aB (decide (c≥0)) (a1 b (fun f g=>(a2 f g c d (fun h=>(K (!h)))))) (K false)) (K false))))
def tW:tV:=Um xU fK yaC
def LR:Sg:=⟨(lC cB HJ),Bool→Prop,fun K=>(fun r0=>K (.bool r0))⟩
def yDw (e:Es) (a0:dL) (a1:cC) (a2:bZ):SE:=sE (E e) [(Eu,tP.pw a0),(tM,lZ.pw a1),(rS,nJ.pw a2)] bX
theorem yDx (e:Es) (a0 a1 a2):bN (yDw e a0 a1 a2) 6 F4 LR (Um a0 a1 a2):=fun _ _=>by kernel_rfl
theorem Q7 (e:Es) (he:EG e):bL (E e) (LR.pw tW) Hu:=bQ he (yDx e _ _ _) (bK (aK.uni _) ⟨(TJ e he),(LG e he),(Az e he),trivial⟩ trivial he.ok) aY.flat (bC (by kernel_rfl))
def Un (a0:bZ) (b c d e:Int) (K:Int→Int→Prop):Prop:=
 (a0 b c d e (fun f=>(aB f (K d e) (K b c))))
def AA:iY:=Un yaC
def Ch:Sg:=⟨mV,Int→Int→Prop,fun K=>(fun r0 r1=>K (.agg [(ic r0),(ic r1)]))⟩
def yDy (e:Es) (a0:bZ):SE:=sE (E e) [(rS,nJ.pw a0)] bX
theorem yDz (e:Es) (a0):bN (yDy e a0) 6 F5 Ch (Un a0):=fun _ _=>by kernel_rfl
theorem Q8 (e:Es) (he:EG e):bL (E e) (Ch.pw AA) Hv:=bQ he (yDz e _) (bK (aK.uni _) ⟨(Az e he),trivial⟩ trivial he.ok) aY.flat (bC (by kernel_rfl))
def Uo (a0:bZ) (b c d e:Int) (K:Int→Int→Prop):Prop:=
 (a0 b c d e (fun f=>(aB f (K b c) (K d e))))
def LS:iY:=Uo yaC
def yBb (e:Es) (a0:bZ):SE:=sE (E e) [(rS,nJ.pw a0)] bX
theorem yBc (e:Es) (a0):bN (yBb e a0) 6 F6 Ch (Uo a0):=fun _ _=>by kernel_rfl
theorem yBd (e:Es) (he:EG e):bL (E e) (Ch.pw LS) KP:=bQ he (yBc e _) (bK (aK.uni _) ⟨(Az e he),trivial⟩ trivial he.ok) aY.flat (bC (by kernel_rfl))
abbrev tX:Type:=Int→Ls→Ls→J4 (Int→(Int→Int→Int→Prop)→Prop)
def Up (a0:cC) (a1 a2:iY) (a3:bZ) (a4 a5:cQ) (b:Int) (c d:Ls) (e f g h i:Int) (K:Int→Int→Int→Prop):Prop:=
 (aA (decide (0≤e)) (aA (decide (e<(((length c):Nat):Int))) (aA (aI zI (getD c (e.toNat) .nils)) (a0 (aJ (getD c (e.toNat) .nils)) (fun j k=>(a1 f g j k (fun l m=>(aA (decide (0≤(i64.wrap (e+1)))) (aA (decide ((i64.wrap (e+1))<(((length c):Nat):Int))) (aA (aI zI (getD c ((i64.wrap (e+1)).toNat) .nils)) (a0 (aJ (getD c ((i64.wrap (e+1)).toNat) .nils)) (fun o p=>(a2 h i o p (fun q r=>(a3 l m q r (fun s=>(aB (!s) (K 0 1 0) (aA (decide (0≤e)) (aA (decide (e<(((length d):Nat):Int))) (aA (aI zI (getD d (e.toNat) .nils)) (aB ((aJ (getD d (e.toNat) .nils))==0) (K 0 1 0) (a4 q r l m (fun t u v=>(aB (v !=0) (K 0 0 v) (aA (decide (0≤e)) (aA (decide (e<(((length d):Nat):Int))) (aA (aI zI (getD d (e.toNat) .nils)) (a0 (aJ (getD d (e.toNat) .nils)) (fun w z=>(a5 t u w z K))))))))))))))))))))))))))))))
def tY:tX:=Up fK AA LS yaC wD ygs
def LT:Sg:=⟨(lC gA (lC cB mV)),Int→Int→Int→Prop,fun K=>(fun r0 r1 r2=>K (.tup [(.agg [(ic r0),(ic r1)]),(ic r2)]))⟩
def yDB (e:Es) (a0:cC) (a1 a2:iY) (a3:bZ) (a4 a5:cQ):SE:=sE (E e) [(tM,lZ.pw a0),(Hv,Ch.pw a1),(KP,Ch.pw a2),(rS,nJ.pw a3),(EA,yeb.pw a4),(Ew,yeb.pw a5)] bX
theorem yDC (e:Es) (a0 a1 a2 a3 a4 a5):bN (yDB e a0 a1 a2 a3 a4 a5) 6 G6 LT (Up a0 a1 a2 a3 a4 a5):=fun _ _=>by kernel_rfl
theorem Q9 (e:Es) (he:EG e):bL (E e) (LT.pw tY) Hx:=bQ he (yDC e _ _ _ _ _ _) (bK (aK.uni _) ⟨(LG e he),(Q8 e he),(yBd e he),(Az e he),(Uc e he),(TP e he),trivial⟩ trivial he.ok) aY.flat (bC (by kernel_rfl))
def Fj (a0:bY) (a1:tV) (a2:bZ) (a3:tX) (a4:cQ) (x0:Int→Int→Int→Prop) (x1:Int→Ls→Ls→J4 (J4 (Int→Bool→Prop))):Nat→Int→Ls→Ls→J4 (J4 (Int→Prop))
 | 0,_,_,_,_,_,_,_,_,_,_,_,_=>False
 | n+1,b,c,d,e,f,g,h,i,j,k,l,m=>
 (aB (decide (m<(((length d):Nat):Int))) (a3 b c d m e f g h (fun o p q=>(aB (q !=0) (x0 0 0 q) (a4 k l o p (fun r s t=>(aB (t !=0) (x0 0 0 t) (Fj a0 a1 a2 a3 a4 x0 x1 n b c d e f g h i j r s (i64.wrap (m+1))))))))) (x1 b c d e f g h i j k l m false))
def Uq (a0:bY) (a1:tV) (a2:bZ) (a3:tX) (a4:cQ) (b:Int) (c d:Ls) (e f g h:Int) (K:Int→Int→Int→Prop):Prop:=
 (a0 b c d (fun i=>(aB (i !=0) (a0 b c d (fun j=>(K 0 0 j))) (a1 b e f (fun j=>(aB (!j) (K 0 0 2) (a1 b g h (fun k=>(aB (!k) (K 0 0 2) (a2 g h e f (fun l=>(aB l (K 0 0 2) (∃ n:Nat,Fj a0 a1 a2 a3 a4 K (fun m o p q r s t u v w z A B=>(K w z 0)) n b c d e f g h 0 0 0 1 0)))))))))))))
def Fk:wA:=Uq lB tW yaC tY sF
def yx5 (Q:Qx):Int→Int→Int→Prop:=(fun b c d=>Q .ret [(6,.box (.agg [(ic b),(ic c)])),(7,.v (ic d))] [])
def yx6 (Q:Qx):Int→Ls→Ls→J4 (J4 (Int→Bool→Prop )):=(fun b c d e f g h i j k l m o=>Q (.exit 0) [(3,.box (.agg [(ic b),(.data c),(.data d)])),(4,.box (.agg [(ic e),(ic f)])),(5,.box (.agg [(ic g),(ic h)])),(6,.box (.agg [(ic i),(ic j)])),(8,.box (.agg [(ic k),(ic l)])),(9,.v (ic m)),(41,.v (.bool o))] [])
def HZ:Pat pZ:=pS hN (fX 3 gA (fX 4 nH (fX 5 nH (fX 6 nH (fX 8 nH (fV 9 cB fN)))))) fN
def R0 (a0:bY) (a1:tV) (a2:bZ) (a3:tX) (a4:cQ) (Q:Qx):List St:=[⟨HZ,Fj a0 a1 a2 a3 a4 (yx5 Q) (yx6 Q)⟩]
def R1 (a0:bY) (a1:tV) (a2:bZ) (a3:tX) (a4:cQ):LP:=gL [(92446900,R0 a0 a1 a2 a3 a4)]
def Ur (e:Es) (a0:bY) (a1:tV) (a2:bZ) (a3:tX) (a4:cQ):SE:=sE (E e) [(Ep,oD.pw a0),(Hu,LR.pw a1),(rS,nJ.pw a2),(Hx,LT.pw a3),(Ez,yeb.pw a4)] (R1 a0 a1 a2 a3 a4)
theorem R3 (e:Es) (he:EG e):SEOk (Uni (E e)) (Ur e lB tW yaC tY sF):=bK (aK.uni _) ⟨(LQ e he),(Q7 e he),(Az e he),(Q9 e he),(Ua e he),trivial⟩ trivial he.ok
theorem ywG (e:Es) (a0 a1 a2 a3 a4):fY (Ur e a0 a1 a2 a3 a4) 5 a Qi false (R0 a0 a1 a2 a3 a4):=fun _=>⟨fun _=>by kernel_rfl,fun _ _=>by kernel_rfl,trivial⟩
theorem ywH (e:Es) (he:EG e):dF (Uni (E e)) (R1 lB tW yaC tY sF) [] 92446900 (.loop 92446900 Qi):=fun _ _ _=>cA.st (aK.uni _) (cU (R3 e he) 5) (cH.no _ _) (bC (by kernel_rfl)) (ywG e _ _ _ _ _ _)
theorem yDD (e:Es) (a0 a1 a2 a3 a4):bN (Ur e a0 a1 a2 a3 a4) 6 Qh sD (Uq a0 a1 a2 a3 a4):=fun _ _=>by kernel_rfl
theorem R4 (e:Es) (he:EG e):bL (E e) (sD.pw Fk) KT:=bQ he (yDD e _ _ _ _ _) (R3 e he) aY.flat (dT (l:=[(92446900,.loop 92446900 Qi)]) ⟨ywH e he,trivial⟩ (by kernel_rfl))
def xW (a0:bY) (a1:tV) (a2:dL) (a3:cC) (a4:bZ) (a5:iY) (a6:tX) (a7 a8 a9:cQ) (x0:Int→Int→Int→Prop) (x1:Int→Ls→Ls→J4 (J4 (Int→Bool→Prop))):Nat→Int→Ls→Ls→J4 (J4 (Int→Prop))
 | 0,_,_,_,_,_,_,_,_,_,_,_,_=>False
 | n+1,b,c,d,e,f,g,h,i,j,k,l,m=>
 (aB (decide (m<(((length d):Nat):Int))) (aB (decide (g>0)) (aA (decide (0≤(i64.wrap (m+1)))) (aA (decide ((i64.wrap (m+1))<(((length c):Nat):Int))) (aA (aI zI (getD c ((i64.wrap (m+1)).toNat) .nils)) (a3 (aJ (getD c ((i64.wrap (m+1)).toNat) .nils)) (fun o p=>(a4 k l o p (fun q=>(aB (!q) (a5 k l o p (fun r s=>(xW a0 a1 a2 a3 a4 a5 a6 a7 a8 a9 x0 x1 n b c d e f g h i j r s (i64.wrap (m+1))))) (aA (decide (0≤m)) (aA (decide (m<(((length d):Nat):Int))) (aA (aI zI (getD d (m.toNat) .nils)) (aB ((aJ (getD d (m.toNat) .nils))==0) (a5 k l o p (fun r s=>(xW a0 a1 a2 a3 a4 a5 a6 a7 a8 a9 x0 x1 n b c d e f g h i j r s (i64.wrap (m+1))))) (a6 b c d m k l o p (fun r s t=>(aB (t !=0) (x0 0 0 t) (a4 r s g h (fun u=>(aB (!u) (aA (decide (0≤m)) (aA (decide (m<(((length d):Nat):Int))) (aA (aI zI (getD d (m.toNat) .nils)) (a3 (aJ (getD d (m.toNat) .nils)) (fun v w=>(a7 g h v w (fun z A B=>(aB (B !=0) (x0 0 0 B) (a8 k l z A x0))))))))) (a9 g h r s (fun v w z=>(aB (z !=0) (x0 0 0 z) (xW a0 a1 a2 a3 a4 a5 a6 a7 a8 a9 x0 x1 n b c d e f v w i j o p (i64.wrap (m+1)))))))))))))))))))))))) (x1 b c d e f g h i j k l m false)) (x1 b c d e f g h i j k l m false))
def Us (a0:bY) (a1:tV) (a2:dL) (a3:cC) (a4:bZ) (a5:iY) (a6:tX) (a7 a8 a9:cQ) (b:Int) (c d:Ls) (e f g h:Int) (K:Int→Int→Int→Prop):Prop:=
 (a0 b c d (fun i=>(aB (i !=0) (a0 b c d (fun j=>(K 0 0 j))) (a1 b e f (fun j=>(aB (!j) (K 0 0 2) (a2 g h (fun k=>(aB (k !=0) (K 0 0 2) (aB (decide (g<0)) (K 0 0 2) (∃ n:Nat,xW a0 a1 a2 a3 a4 a5 a6 a7 a8 a9 K (fun l m o p q r s t u v w z A=>(aB (decide (r>0)) (K 0 0 6) (K p q 0))) n b c d e f g h 0 0 e f 0)))))))))))
def Fl:wA:=Us lB tW xU fK yaC AA tY Cc sF wD
def yz8 (Q:Qx):Int→Int→Int→Prop:=(fun b c d=>Q .ret [(6,.box (.agg [(ic b),(ic c)])),(7,.v (ic d))] [])
def yz9 (Q:Qx):Int→Ls→Ls→J4 (J4 (Int→Bool→Prop )):=(fun b c d e f g h i j k l m o=>Q (.exit 0) [(3,.box (.agg [(ic b),(.data c),(.data d)])),(4,.box (.agg [(ic e),(ic f)])),(5,.box (.agg [(ic g),(ic h)])),(6,.box (.agg [(ic i),(ic j)])),(8,.box (.agg [(ic k),(ic l)])),(9,.v (ic m)),(47,.v (.bool o))] [])
def R5 (a0:bY) (a1:tV) (a2:dL) (a3:cC) (a4:bZ) (a5:iY) (a6:tX) (a7 a8 a9:cQ) (Q:Qx):List St:=[⟨HZ,xW a0 a1 a2 a3 a4 a5 a6 a7 a8 a9 (yz8 Q) (yz9 Q)⟩]
def R6 (a0:bY) (a1:tV) (a2:dL) (a3:cC) (a4:bZ) (a5:iY) (a6:tX) (a7 a8 a9:cQ):LP:=gL [(63725400,R5 a0 a1 a2 a3 a4 a5 a6 a7 a8 a9)]
def Ut (e:Es) (a0:bY) (a1:tV) (a2:dL) (a3:cC) (a4:bZ) (a5:iY) (a6:tX) (a7 a8 a9:cQ):SE:=sE (E e) [(Ep,oD.pw a0),(Hu,LR.pw a1),(Eu,tP.pw a2),(tM,lZ.pw a3),(rS,nJ.pw a4),(Hv,Ch.pw a5),(Hx,LT.pw a6),(KU,yeb.pw a7),(Ez,yeb.pw a8),(EA,yeb.pw a9)] (R6 a0 a1 a2 a3 a4 a5 a6 a7 a8 a9)
theorem R7 (e:Es) (he:EG e):SEOk (Uni (E e)) (Ut e lB tW xU fK yaC AA tY Cc sF wD):=bK (aK.uni _) ⟨(LQ e he),(Q7 e he),(TJ e he),(LG e he),(Az e he),(Q8 e he),(Q9 e he),(yHv e he),(Ua e he),(Uc e he),trivial⟩ trivial he.ok
theorem yx7 (e:Es) (a0 a1 a2 a3 a4 a5 a6 a7 a8 a9):fY (Ut e a0 a1 a2 a3 a4 a5 a6 a7 a8 a9) 5 a Qk false (R5 a0 a1 a2 a3 a4 a5 a6 a7 a8 a9):=fun _=>⟨fun _=>by kernel_rfl,fun _ _=>by kernel_rfl,trivial⟩
theorem yx8 (e:Es) (he:EG e):dF (Uni (E e)) (R6 lB tW xU fK yaC AA tY Cc sF wD) [] 63725400 (.loop 63725400 Qk):=fun _ _ _=>cA.st (aK.uni _) (cU (R7 e he) 5) (cH.no _ _) (bC (by kernel_rfl)) (yx7 e _ _ _ _ _ _ _ _ _ _ _)
theorem yFN (e:Es) (a0 a1 a2 a3 a4 a5 a6 a7 a8 a9):bN (Ut e a0 a1 a2 a3 a4 a5 a6 a7 a8 a9) 6 Qj sD (Us a0 a1 a2 a3 a4 a5 a6 a7 a8 a9):=fun _ _=>by kernel_rfl
theorem R8 (e:Es) (he:EG e):bL (E e) (sD.pw Fl) KV:=bQ he (yFN e _ _ _ _ _ _ _ _ _ _) (R7 e he) aY.flat (dT (l:=[(63725400,.loop 63725400 Qk)]) ⟨yx8 e he,trivial⟩ (by kernel_rfl))
abbrev Fm:Type:=Int→Ls→Ls→Int→Ls→Ls→(Bool→Prop)→Prop
def Fo (x0:Bool→Prop) (x1:Int→Ls→Ls→Int→Ls→Ls→Int→Bool→Prop):Nat→Int→Ls→Ls→Int→Ls→Ls→Int→Prop
 | 0,_,_,_,_,_,_,_=>False
 | n+1,b,c,d,e,f,g,h=>
 (aB (decide (h<(((length c):Nat):Int))) (aA (decide (0≤h)) (aA (decide (h<(((length c):Nat):Int))) (aA (aI zI (getD c (h.toNat) .nils)) (aA (decide (0≤h)) (aA (decide (h<(((length f):Nat):Int))) (aA (aI zI (getD f (h.toNat) .nils)) (aB ((aJ (getD c (h.toNat) .nils)) !=(aJ (getD f (h.toNat) .nils))) (x0 false) (Fo x0 x1 n b c d e f g (i64.wrap (h+1)))))))))) (x1 b c d e f g h false))
def Fp (x0:Bool→Prop) (x1:Int→Ls→Ls→Int→Ls→Ls→Int→Bool→Prop):Nat→Int→Ls→Ls→Int→Ls→Ls→Int→Prop
 | 0,_,_,_,_,_,_,_=>False
 | n+1,b,c,d,e,f,g,h=>
 (aB (decide (h<(((length d):Nat):Int))) (aA (decide (0≤h)) (aA (decide (h<(((length d):Nat):Int))) (aA (aI zI (getD d (h.toNat) .nils)) (aA (decide (0≤h)) (aA (decide (h<(((length g):Nat):Int))) (aA (aI zI (getD g (h.toNat) .nils)) (aB ((aJ (getD d (h.toNat) .nils)) !=(aJ (getD g (h.toNat) .nils))) (x0 false) (Fp x0 x1 n b c d e f g (i64.wrap (h+1)))))))))) (x1 b c d e f g h false))
def Uu (b:Int) (c d:Ls) (e:Int) (f g:Ls) (K:Bool→Prop):Prop:=
 (aB (b !=e) (K false) (aB ((((length c):Nat):Int) !=(((length f):Nat):Int)) (K false) (aB ((((length d):Nat):Int) !=(((length g):Nat):Int)) (K false) (∃ m0:Nat,Fo K (fun h i j k l m o p=>(∃ m1:Nat,Fp K (fun q r s t u v w z=>(K true)) m1 h i j k l m 0)) m0 b c d e f g 0))))
def xX:Fm:=Uu
def Uv:Sg:=⟨(lC gA tS),Bool→Prop,fun K=>(fun r0=>K (.bool r0))⟩
def yAa (Q:Qx):Bool→Prop:=(fun b=>Q .ret [(4,.v (.bool b))] [])
def yAb (Q:Qx):Int→Ls→Ls→Int→Ls→Ls→Int→Bool→Prop:=(fun b c d e f g h i=>Q (.exit 0) [(2,.box (.agg [(ic b),(.data c),(.data d)])),(3,.box (.agg [(ic e),(.data f),(.data g)])),(5,.v (ic h)),(34,.v (.bool i))] [])
def yAc (Q:Qx):Bool→Prop:=(fun b=>Q .ret [(4,.v (.bool b))] [])
def yAd (Q:Qx):Int→Ls→Ls→Int→Ls→Ls→Int→Bool→Prop:=(fun b c d e f g h i=>Q (.exit 2) [(2,.box (.agg [(ic b),(.data c),(.data d)])),(3,.box (.agg [(ic e),(.data f),(.data g)])),(6,.v (ic h)),(52,.v (.bool i))] [])
def R9 (Q:Qx):List St:=[⟨(pS hN (fX 2 gA (fX 3 gA (fV 5 cB fN))) fN),Fo (yAa Q) (yAb Q)⟩]
def xY:Pat aD:=fV 6 cB fN
def S0 (Q:Qx):List St:=[⟨(pS hN (fX 2 gA (fX 3 gA xY)) fN),Fp (yAc Q) (yAd Q)⟩]
def Uw:LP:=gL [(12537700,R9),(12537701,S0)]
def LU (e:Es):SE:=sE (E e) [] (Uw)
theorem Ux (e:Es) (he:EG e):SEOk (Uni (E e)) (LU e):=bK (aK.uni _) trivial trivial he.ok
theorem yx9 (e:Es):fY (LU e) 5 a RU false (R9):=fun _=>⟨fun _=>by kernel_rfl,fun _ _=>by kernel_rfl,trivial⟩
theorem yya (e:Es) (he:EG e):dF (Uni (E e)) (Uw) [] 12537700 (.loop 12537700 RU):=fun _ _ _=>cA.st (aK.uni _) (cU (Ux e he) 5) (cH.no _ _) (bC (by kernel_rfl)) (yx9 e _)
theorem yyb (e:Es):fY (LU e) 5 a RW false (S0):=fun _=>⟨fun _=>by kernel_rfl,fun _ _=>by kernel_rfl,trivial⟩
theorem yyc (e:Es) (he:EG e):dF (Uni (E e)) (Uw) [] 12537701 (.loop 12537701 RW):=fun _ _ _=>cA.st (aK.uni _) (cU (Ux e he) 5) (cH.no _ _) (bC (by kernel_rfl)) (yyb e _)
theorem yFP (e:Es):bN (LU e) 6 Ll Uv Uu:=fun _ _=>by kernel_rfl
theorem S2 (e:Es) (he:EG e):bL (E e) (Uv.pw xX) La:=bQ he (yFP e) (Ux e he) aY.flat (dT (l:=[(12537700,.loop 12537700 RU),(12537701,.loop 12537701 RW)]) ⟨yya e he,yyc e he,trivial⟩ (by kernel_rfl))
set_option linter.unusedVariables false
theorem yBe (p0:Int) (p1 p2:Ls) (r0:Int) (h:∀ K:Int→Prop,K r0→lB p0 p1 p2 K) (K:Int→Prop):lB p0 p1 p2 K=K r0:=
 Aab ⟨fun k=>cI (LQ [] dQ) (az:=[(.agg [(ic p0),(.data p1),(.data p2)])]) (x:=(ic r0)) (fun K' k'=>h (fun r0=>K' (ic r0)) k') (K:=fun x=>match x with | (ic r0)=>K r0 | _=>False) k,h K⟩
theorem yBf (p0:Int) (p1 p2:Ls) (r0:Int) (h:∀ K:Int→Prop,K r0→yaM p0 p1 p2 K) (K:Int→Prop):yaM p0 p1 p2 K=K r0:=
 Aab ⟨fun k=>cI (Q6 [] dQ) (az:=[(.agg [(ic p0),(.data p1),(.data p2)])]) (x:=(ic r0)) (fun K' k'=>h (fun r0=>K' (ic r0)) k') (K:=fun x=>match x with | (ic r0)=>K r0 | _=>False) k,h K⟩
theorem yBg (p0:Int) (p1 p2:Ls) (p3 p4 p5 p6 r0 r1 r2:Int) (h:∀ K:Int→Int→Int→Prop,K r0 r1 r2→Fk p0 p1 p2 p3 p4 p5 p6 K) (K:Int→Int→Int→Prop):Fk p0 p1 p2 p3 p4 p5 p6 K=K r0 r1 r2:=
 Aab ⟨fun k=>cI (R4 [] dQ) (az:=[(.agg [(ic p0),(.data p1),(.data p2)]),(.agg [(ic p3),(ic p4)]),(.agg [(ic p5),(ic p6)])]) (x:=(.tup [(.agg [(ic r0),(ic r1)]),(ic r2)])) (fun K' k'=>h (fun r0 r1 r2=>K' (.tup [(.agg [(ic r0),(ic r1)]),(ic r2)])) k') (K:=fun x=>match x with | (.tup [(.agg [(ic r0),(ic r1)]),(ic r2)])=>K r0 r1 r2 | _=>False) k,h K⟩
theorem yDE (p0:Int) (p1 p2:Ls) (p3 p4 p5 p6 r0 r1 r2:Int) (h:∀ K:Int→Int→Int→Prop,K r0 r1 r2→Fl p0 p1 p2 p3 p4 p5 p6 K) (K:Int→Int→Int→Prop):Fl p0 p1 p2 p3 p4 p5 p6 K=K r0 r1 r2:=
 Aab ⟨fun k=>cI (R8 [] dQ) (az:=[(.agg [(ic p0),(.data p1),(.data p2)]),(.agg [(ic p3),(ic p4)]),(.agg [(ic p5),(ic p6)])]) (x:=(.tup [(.agg [(ic r0),(ic r1)]),(ic r2)])) (fun K' k'=>h (fun r0 r1 r2=>K' (.tup [(.agg [(ic r0),(ic r1)]),(ic r2)])) k') (K:=fun x=>match x with | (.tup [(.agg [(ic r0),(ic r1)]),(ic r2)])=>K r0 r1 r2 | _=>False) k,h K⟩
theorem yDF (p0:Int) (p1 p2:Ls) (p3:Int) (p4 p5:Ls) (r0:Bool) (h:∀ K:Bool→Prop,K r0→xX p0 p1 p2 p3 p4 p5 K) (K:Bool→Prop):xX p0 p1 p2 p3 p4 p5 K=K r0:=
 Aab ⟨fun k=>cI (S2 [] dQ) (az:=[(.agg [(ic p0),(.data p1),(.data p2)]),(.agg [(ic p3),(.data p4),(.data p5)])]) (x:=(.bool r0)) (fun K' k'=>h (fun r0=>K' (.bool r0)) k') (K:=fun x=>match x with | (.bool r0)=>K r0 | _=>False) k,h K⟩
abbrev Uy:Type:=Ls→(Bool→Prop)→Prop
def Fq (a0:Fh) (x0:Bool→Prop) (x1:Ls→Int→Bool→Prop):Nat→Ls→Int→Prop
 | 0,_,_=>False
 | n+1,b,c=>
 (aB (decide (c<(((length b):Nat):Int))) (aA (decide (0≤c)) (aA (decide (c<(((length b):Nat):Int))) (aA (aI zK (getD b (c.toNat) .nils)) (a0 (aJ (aQ (getD b (c.toNat) .nils) 0)) (eK (aQ (getD b (c.toNat) .nils) 1)) (eK (aQ (getD b (c.toNat) .nils) 2)) (fun d=>(aB d (x0 true) (Fq a0 x0 x1 n b (i64.wrap (c+1))))))))) (x1 b c false))
def Uz (a0:Fh) (b:Ls) (K:Bool→Prop):Prop:=
 (∃ n:Nat,Fq a0 K (fun c d e=>(K (decide ((((length c):Nat):Int)>10)))) n b 0)
def Fr:Uy:=Uz Cd
def UA:Sg:=⟨Lp,Bool→Prop,fun K=>(fun r0=>K (.bool r0))⟩
def yqN (Q:Qx):Bool→Prop:=(fun b=>Q .ret [(2,.v (.bool b))] [])
def yqO (Q:Qx):Ls→Int→Bool→Prop:=(fun b c d=>Q (.exit 0) [(0,.v (.data b)),(3,.v (ic c)),(7,.v (.bool d))] [])
def S4 (a0:Fh) (Q:Qx):List St:=[⟨(pS hN (fV 0 vD (fV 3 cB fN)) fN),Fq a0 (yqN Q) (yqO Q)⟩]
def S5 (a0:Fh):LP:=gL [(4277600,S4 a0)]
def UB (e:Es) (a0:Fh):SE:=sE (E e) [(Kt,Uf.pw a0)] (S5 a0)
theorem S6 (e:Es) (he:EG e):SEOk (Uni (E e)) (UB e Cd):=bK (aK.uni _) ⟨(yDs e he),trivial⟩ trivial he.ok
theorem ypL (e:Es) (a0):fY (UB e a0) 5 a Pj false (S4 a0):=fun _=>⟨fun _=>by kernel_rfl,fun _ _=>by kernel_rfl,trivial⟩
theorem ypM (e:Es) (he:EG e):dF (Uni (E e)) (S5 Cd) [] 4277600 (.loop 4277600 Pj):=fun _ _ _=>cA.st (aK.uni _) (cU (S6 e he) 5) (cH.no _ _) (bC (by kernel_rfl)) (ypL e _ _)
theorem yvt (e:Es) (a0):bN (UB e a0) 6 Pi UA (Uz a0):=fun _ _=>by kernel_rfl
theorem S7 (e:Es) (he:EG e):bL (E e) (UA.pw Fr) Ku:=bQ he (yvt e _) (S6 e he) aY.flat (dT (l:=[(4277600,.loop 4277600 Pj)]) ⟨ypM e he,trivial⟩ (by kernel_rfl))
abbrev AB:Type:=Ls→Ls→(Bool→Prop)→Prop
def UC (a0:Uy) (b c:Ls) (K:Bool→Prop):Prop:=
 (a0 b (fun d=>(aB d (K true) (aB (decide ((((length c):Nat):Int)>40)) (aB (decide ((((length c):Nat):Int)<1999)) (K true) (K (decide ((((length c):Nat):Int)>2010)))) (K (decide ((((length c):Nat):Int)>2010)))))))
def yeg:AB:=UC Fr
def Ci:Sg:=⟨xS,Bool→Prop,fun K=>(fun r0=>K (.bool r0))⟩
def yDG (e:Es) (a0:Uy):SE:=sE (E e) [(Ku,UA.pw a0)] bX
theorem yDH (e:Es) (a0):bN (yDG e a0) 6 ZX Ci (UC a0):=fun _ _=>by kernel_rfl
theorem S8 (e:Es) (he:EG e):bL (E e) (Ci.pw yeg) Ha:=bQ he (yDH e _) (bK (aK.uni _) ⟨(S7 e he),trivial⟩ trivial he.ok) aY.flat (bC (by kernel_rfl))
mutual
def LW (a0:Ce) (x0:Ls→Ls→Int→Bool→Prop) (x1:Ls→Int→Bool→Prop):Nat→Ls→Int→Prop
 | 0,_,_=>False
 | n+1,b,c=>
 (aB (decide (c<(((length b):Nat):Int))) (aA (decide (0≤c)) (aA (decide (c<(((length b):Nat):Int))) (aA (aI zK (getD b (c.toNat) .nils)) (a0 (aJ (aQ (getD b (c.toNat) .nils) 0)) (eK (aQ (getD b (c.toNat) .nils) 1)) (eK (aQ (getD b (c.toNat) .nils) 2)) (fun d e f=>(aA (decide (1=length ([(.agg [(ic d),(.data e),(.data f)])]:Ls))&&decide (1=length ([(.agg [(ic d),(.data e),(.data f)])]:Ls))) (Fs a0 x0 x1 n ([(.agg [(ic d),(.data e),(.data f)])]:Ls) b (i64.wrap (c+1))))))))) (x1 b c false))
def Fs (a0:Ce) (x0:Ls→Ls→Int→Bool→Prop) (x1:Ls→Int→Bool→Prop):Nat→Ls→Ls→Int→Prop
 | 0,_,_,_=>False
 | n+1,b,c,d=>
 (aB (decide (d<(((length c):Nat):Int))) (aA (decide (0≤d)) (aA (decide (d<(((length c):Nat):Int))) (aA (aI zK (getD c (d.toNat) .nils)) (a0 (aJ (aQ (getD c (d.toNat) .nils) 0)) (eK (aQ (getD c (d.toNat) .nils) 1)) (eK (aQ (getD c (d.toNat) .nils) 2)) (fun e f g=>(aA (decide ((length b)=(length b))) (aA (decide ((0+(length b))≤(length b))) (aA (!(decide (((0+(length b))+1)≤(length b)))) (aA (decide ((length b)=(length b))) (aA (decide ((((length b)+1)+64)*(56+1)≤room)) (aA (decide ((length (b++([(.agg [(ic e),(.data f),(.data g)])]:Ls)))=length (b++([(.agg [(ic e),(.data f),(.data g)])]:Ls)))&&decide ((length (b++([(.agg [(ic e),(.data f),(.data g)])]:Ls)))=length (b++([(.agg [(ic e),(.data f),(.data g)])]:Ls)))) (Fs a0 x0 x1 n (b++([(.agg [(ic e),(.data f),(.data g)])]:Ls)) c (i64.wrap (d+1)))))))))))))) (x0 b c d false))
end
def UD (a0:Ce) (b:Ls) (K:Ls→Prop):Prop:=
 (∃ n:Nat,LW a0 (fun c d e f=>(aA (decide ((length c)=(length c))) (aA (decide ((0+(length c))≤(length c))) (K (take (length c) c))))) (fun c d e=>(K ([]:Ls))) n b 0)
def uA:kQ:=UD Cf
def S9 (Q:Qx):Ls→Ls→Int→Bool→Prop:=(fun b c d e=>Q (.exit 0) [(0,.v (.data c)),(3,.v (.own 0 0 (length b) (length b) none)),(4,.v (ic d)),(8,.v (.bool e))] [⟨false,true,3,b⟩])
def T0 (Q:Qx):Ls→Int→Bool→Prop:=(fun b c d=>Q (.exit 0) [(0,.v (.data b)),(3,.v .nils),(4,.v (ic c)),(8,.v (.bool d))] [])
def T3 (a0:Ce) (Q:Qx):List St:=[⟨(pS hN (fV 0 vD (fV 3 GS qI)) fN),LW a0 (S9 Q) (T0 Q)⟩,⟨(pS (hB false true 3 rA hN) (fV 0 vD (fV 3 HU qI)) fN),Fs a0 (S9 Q) (T0 Q)⟩]
def T4 (a0:Ce):LP:=gL [(44560800,T3 a0)]
def UE (e:Es) (a0:Ce):SE:=sE (E e) [(Kv,Uh.pw a0)] (T4 a0)
theorem T5 (e:Es) (he:EG e):SEOk (Uni (E e)) (UE e Cf):=bK (aK.uni _) ⟨(yFM e he),trivial⟩ trivial he.ok
theorem ywI (e:Es) (a0):fY (UE e a0) 5 a Pl false (T3 a0):=fun _=>⟨fun _=>by kernel_rfl,fun _ _=>by kernel_rfl,fun _=>by kernel_rfl,fun _ _=>by kernel_rfl,trivial⟩
theorem ywJ (e:Es) (he:EG e):dF (Uni (E e)) (T4 Cf) [] 44560800 (.loop 44560800 Pl):=fun _ _ _=>cA.st (aK.uni _) (cU (T5 e he) 5) (cH.no _ _) (bC (by kernel_rfl)) (ywI e _ _)
theorem yDI (e:Es) (a0):bN (UE e a0) 6 Pk qK (UD a0):=fun _ _=>by kernel_rfl
theorem LX (e:Es) (he:EG e):bL (E e) (qK.pw uA) Ek:=bQ he (yDI e _) (T5 e he) aY.flat (dT (l:=[(44560800,.loop 44560800 Pl)]) ⟨ywJ e he,trivial⟩ (by kernel_rfl))
def Ft (a0:bY) (x0:Int→Prop) (x1:Ls→Ls→Int→Bool→Prop):Nat→Ls→Ls→Int→Prop
 | 0,_,_,_=>False
 | n+1,b,c,d=>
 (aB (decide (d<(((length b):Nat):Int))) (aA (decide (0≤d)) (aA (decide (d<(((length b):Nat):Int))) (aA (aI zK (getD b (d.toNat) .nils)) (a0 (aJ (aQ (getD b (d.toNat) .nils) 0)) (eK (aQ (getD b (d.toNat) .nils) 1)) (eK (aQ (getD b (d.toNat) .nils) 2)) (fun e=>(aB (e !=0) (aA (decide (0≤d)) (aA (decide (d<(((length b):Nat):Int))) (aA (aI zK (getD b (d.toNat) .nils)) (a0 (aJ (aQ (getD b (d.toNat) .nils) 0)) (eK (aQ (getD b (d.toNat) .nils) 1)) (eK (aQ (getD b (d.toNat) .nils) 2)) x0)))) (Ft a0 x0 x1 n b c (i64.wrap (d+1))))))))) (x1 b c d false))
def Cj (a0:bY) (x0:Int→Prop) (x1:Ls→Ls→Int→Bool→Prop):Nat→Ls→Ls→Int→Prop
 | 0,_,_,_=>False
 | n+1,b,c,d=>
 (aB (decide (d<(((length b):Nat):Int))) (aA (decide (0≤d)) (aA (decide (d<(((length b):Nat):Int))) (aA (aI zK (getD b (d.toNat) .nils)) (aA (decide (0<(((length b):Nat):Int))) (aA (aI zK (getD b 0 .nils)) (aB ((aJ (aQ (getD b (d.toNat) .nils) 0)) !=(aJ (aQ (getD b 0 .nils) 0))) (x0 8) (Cj a0 x0 x1 n b c (i64.wrap (d+1))))))))) (x1 b c d false))
def UF (a0:bY) (b c:Ls) (K:Int→Prop):Prop:=
 (aB (decide ((((length b):Nat):Int)>6)) (K 4) (aB (decide ((((length c):Nat):Int)>2000)) (K 4) (aB ((((length b):Nat):Int)==0) (K 8) (∃ m0:Nat,Ft a0 K (fun d e f g=>(∃ m1:Nat,Cj a0 K (fun h i j k=>(K 0)) m1 d e 0)) m0 b c 0))))
def yeV:gI:=UF lB
def yyd (Q:Qx):Int→Prop:=(fun b=>Q .ret [(2,.v (ic b))] [])
def yye (Q:Qx):Ls→Ls→Int→Bool→Prop:=(fun b c d e=>Q (.exit 0) [(1,.box (.agg [(.data b),(.data c)])),(3,.v (ic d)),(23,.v (.bool e))] [])
def yyf (Q:Qx):Int→Prop:=(fun b=>Q .ret [(2,.v (ic b))] [])
def yyg (Q:Qx):Ls→Ls→Int→Bool→Prop:=(fun b c d e=>Q (.exit 2) [(1,.box (.agg [(.data b),(.data c)])),(4,.v (ic d)),(43,.v (.bool e))] [])
def T6 (a0:bY) (Q:Qx):List St:=[⟨(pS hN (fX 1 iU (fV 3 cB fN)) fN),Ft a0 (yyd Q) (yye Q)⟩]
def T7 (a0:bY) (Q:Qx):List St:=[⟨(pS hN (fX 1 iU qI) fN),Cj a0 (yyf Q) (yyg Q)⟩]
def UG (a0:bY):LP:=gL [(6981300,T6 a0),(6981301,T7 a0)]
def LY (e:Es) (a0:bY):SE:=sE (E e) [(Ep,oD.pw a0)] (UG a0)
theorem UH (e:Es) (he:EG e):SEOk (Uni (E e)) (LY e lB):=bK (aK.uni _) ⟨(LQ e he),trivial⟩ trivial he.ok
theorem ywK (e:Es) (a0):fY (LY e a0) 5 a PZ false (T6 a0):=fun _=>⟨fun _=>by kernel_rfl,fun _ _=>by kernel_rfl,trivial⟩
theorem ywL (e:Es) (he:EG e):dF (Uni (E e)) (UG lB) [] 6981300 (.loop 6981300 PZ):=fun _ _ _=>cA.st (aK.uni _) (cU (UH e he) 5) (cH.no _ _) (bC (by kernel_rfl)) (ywK e _ _)
theorem ywM (e:Es) (a0):fY (LY e a0) 5 a Qa false (T7 a0):=fun _=>⟨fun _=>by kernel_rfl,fun _ _=>by kernel_rfl,trivial⟩
theorem ywN (e:Es) (he:EG e):dF (Uni (E e)) (UG lB) [] 6981301 (.loop 6981301 Qa):=fun _ _ _=>cA.st (aK.uni _) (cU (UH e he) 5) (cH.no _ _) (bC (by kernel_rfl)) (ywM e _ _)
theorem yDJ (e:Es) (a0):bN (LY e a0) 6 Lj mX (UF a0):=fun _ _=>by kernel_rfl
theorem UI (e:Es) (he:EG e):bL (E e) (mX.pw yeV) Hr:=bQ he (yDJ e _) (UH e he) aY.flat (dT (l:=[(6981300,.loop 6981300 PZ),(6981301,.loop 6981301 Qa)]) ⟨ywL e he,ywN e he,trivial⟩ (by kernel_rfl))
def UJ (b c:Ls) (d:Int) (K:Bool→Prop):Prop:=
 (aB (decide (d≥0)) (K (decide (d<(((length b):Nat):Int)))) (K false))
def LZ:wB:=UJ
def yDK (e:Es):SE:=sE (E e) [] bX
theorem yDL (e:Es):bN (yDK e) 6 E7 Ax UJ:=fun _ _=>by kernel_rfl
theorem yDM (e:Es) (he:EG e):bL (E e) (Ax.pw LZ) KO:=bQ he (yDL e) (bK (aK.uni _) trivial trivial he.ok) aY.flat (bC (by kernel_rfl))
abbrev UK:Type:=Ls→J4 (J4 ((Int→Int→Int→Prop)→Prop))
def UL (a0 a1:wA) (b:Ls) (c d e f g h i j:Int) (K:Int→Int→Int→Prop):Prop:=
 (aB (d==1) (aA (decide (0≤c)) (aA (decide (c<(((length b):Nat):Int))) (aA (aI zK (getD b (c.toNat) .nils)) (a0 (aJ (aQ (getD b (c.toNat) .nils) 0)) (eK (aQ (getD b (c.toNat) .nils) 1)) (eK (aQ (getD b (c.toNat) .nils) 2)) e f g h K)))) (aA (decide (0≤c)) (aA (decide (c<(((length b):Nat):Int))) (aA (aI zK (getD b (c.toNat) .nils)) (a1 (aJ (aQ (getD b (c.toNat) .nils) 0)) (eK (aQ (getD b (c.toNat) .nils) 1)) (eK (aQ (getD b (c.toNat) .nils) 2)) e f g h K)))))
def Ma:UK:=UL Fk Fl
def Cl:jP:=lC cB (lC cB (lC cB (lC cB Sj)))
def Ia:jP:=lC (vA (lC cB (lC (vI u8) Cl))) lN
def UM:Sg:=⟨(lC vD Ia),Int→Int→Int→Prop,fun K=>(fun r0 r1 r2=>K (.tup [(.agg [(ic r0),(ic r1)]),(ic r2)]))⟩
def yBi (e:Es) (a0 a1:wA):SE:=sE (E e) [(KT,sD.pw a0),(KV,sD.pw a1)] bX
theorem yBj (e:Es) (a0 a1):bN (yBi e a0 a1) 6 G8 UM (UL a0 a1):=fun _ _=>by kernel_rfl
theorem yBk (e:Es) (he:EG e):bL (E e) (UM.pw Ma) KW:=bQ he (yBj e _ _) (bK (aK.uni _) ⟨(R4 e he),(R8 e he),trivial⟩ trivial he.ok) aY.flat (bC (by kernel_rfl))
abbrev Ib:Type:=Ls→Ls→J4 (J4 ((Ls→Ls→Int→Int→Int→Prop)→Prop))
def UN (a0:gI) (a1:wB) (a2:UK) (a3:kQ) (b c:Ls) (d e f g h i j k:Int) (K:Ls→Ls→Int→Int→Int→Prop):Prop:=
 (a0 b c (fun l=>(aB (l !=0) (a0 b c (fun m=>(K ([]:Ls) ([]:Ls) 0 0 m))) (a1 b c d (fun m=>(aB (!m) (K ([]:Ls) ([]:Ls) 0 0 2) (a2 b d e f g h i j k (fun o p q=>(aB (q !=0) (K ([]:Ls) ([]:Ls) 0 0 q) (aB ((((length c):Nat):Int)==2000) (K ([]:Ls) ([]:Ls) 0 0 4) (a3 b (fun r=>(aA (hO 8 c) (aB (isEmpty c) (K r ([(.agg [(ic d),(.int .u8 e),(ic f),(ic g),(ic h),(ic i),(ic o),(ic p)])]:Ls) o p 0) (aA (decide (((length c)+64)*(64+1)≤room)) (aA (decide ((length c)=(length c))) (aA (decide ((0+(length c))≤(length c))) (aA (!(decide (((0+(length c))+1)≤(length c)))) (aA (decide ((length c)=(length c))) (aA (decide ((((length c)+1)+64)*(64+1)≤room)) (aA (decide ((length (c++([(.agg [(ic d),(.int .u8 e),(ic f),(ic g),(ic h),(ic i),(ic o),(ic p)])]:Ls)))=(length (c++([(.agg [(ic d),(.int .u8 e),(ic f),(ic g),(ic h),(ic i),(ic o),(ic p)])]:Ls))))) (aA (decide ((0+(length (c++([(.agg [(ic d),(.int .u8 e),(ic f),(ic g),(ic h),(ic i),(ic o),(ic p)])]:Ls))))≤(length (c++([(.agg [(ic d),(.int .u8 e),(ic f),(ic g),(ic h),(ic i),(ic o),(ic p)])]:Ls))))) (K r (take (length (c++([(.agg [(ic d),(.int .u8 e),(ic f),(ic g),(ic h),(ic i),(ic o),(ic p)])]:Ls))) (c++([(.agg [(ic d),(.int .u8 e),(ic f),(ic g),(ic h),(ic i),(ic o),(ic p)])]:Ls))) o p 0)))))))))))))))))))))))
def Cm:Ib:=UN yeV LZ Ma uA
def Mb:Sg:=⟨(lC iU Ia),Ls→Ls→Int→Int→Int→Prop,fun K=>(fun r0 r1 r2 r3 r4=>K (.tup [(.agg [(.data r0),(.data r1)]),(.agg [(ic r2),(ic r3)]),(ic r4)]))⟩
def yDO (e:Es) (a0:gI) (a1:wB) (a2:UK) (a3:kQ):SE:=sE (E e) [(Hr,mX.pw a0),(KO,Ax.pw a1),(KW,UM.pw a2),(Ek,qK.pw a3)] bX
theorem yDP (e:Es) (a0 a1 a2 a3):bN (yDO e a0 a1 a2 a3) 6 G9 Mb (UN a0 a1 a2 a3):=fun _ _=>by kernel_rfl
theorem UO (e:Es) (he:EG e):bL (E e) (Mb.pw Cm) Hy:=bQ he (yDP e _ _ _ _) (bK (aK.uni _) ⟨(UI e he),(yDM e he),(yBk e he),(LX e he),trivial⟩ trivial he.ok) aY.flat (bC (by kernel_rfl))
def UP (a0:Ib) (b c:Ls) (d e f g h:Int) (K:Ls→Ls→Int→Int→Int→Prop):Prop:=
 (a0 b c d 2 e f g h 0 0 K)
def Fu:kR:=UP Cm
def yFQ (e:Es) (a0:Ib):SE:=sE (E e) [(Hy,Mb.pw a0)] bX
theorem yFR (e:Es) (a0):bN (yFQ e a0) 6 H8 oY (UP a0):=fun _ _=>by kernel_rfl
theorem yFS (e:Es) (he:EG e):bL (E e) (oY.pw Fu) KX:=bQ he (yFR e _) (bK (aK.uni _) ⟨(UO e he),trivial⟩ trivial he.ok) aY.flat (bC (by kernel_rfl))
def UQ (a0:Ib) (b c:Ls) (d e f g h:Int) (K:Ls→Ls→Int→Int→Int→Prop):Prop:=
 (a0 b c d 1 e f g h 0 0 K)
def Cn:kR:=UQ Cm
def yDQ (e:Es) (a0:Ib):SE:=sE (E e) [(Hy,Mb.pw a0)] bX
theorem yDR (e:Es) (a0):bN (yDQ e a0) 6 I0 oY (UQ a0):=fun _ _=>by kernel_rfl
theorem yDS (e:Es) (he:EG e):bL (E e) (oY.pw Cn) KY:=bQ he (yDR e _) (bK (aK.uni _) ⟨(UO e he),trivial⟩ trivial he.ok) aY.flat (bC (by kernel_rfl))
def Fv (a0:Fm) (x0:Bool→Prop) (x1:Ls→Ls→Int→Bool→Prop):Nat→Ls→Ls→Int→Prop
 | 0,_,_,_=>False
 | n+1,b,c,d=>
 (aB (decide (d<(((length b):Nat):Int))) (aA (decide (0≤d)) (aA (decide (d<(((length b):Nat):Int))) (aA (aI zK (getD b (d.toNat) .nils)) (aA (decide (0≤d)) (aA (decide (d<(((length c):Nat):Int))) (aA (aI zK (getD c (d.toNat) .nils)) (a0 (aJ (aQ (getD b (d.toNat) .nils) 0)) (eK (aQ (getD b (d.toNat) .nils) 1)) (eK (aQ (getD b (d.toNat) .nils) 2)) (aJ (aQ (getD c (d.toNat) .nils) 0)) (eK (aQ (getD c (d.toNat) .nils) 1)) (eK (aQ (getD c (d.toNat) .nils) 2)) (fun e=>(aB (!e) (x0 false) (Fv a0 x0 x1 n b c (i64.wrap (d+1)))))))))))) (x1 b c d false))
def UR (a0:Fm) (b c:Ls) (K:Bool→Prop):Prop:=
 (aB ((((length b):Nat):Int) !=(((length c):Nat):Int)) (K false) (∃ n:Nat,Fv a0 K (fun d e f g=>(K true)) n b c 0))
def Fw:AB:=UR xX
def Fx:Sg:=⟨xR,Bool→Prop,fun K=>(fun r0=>K (.bool r0))⟩
def yrL (Q:Qx):Bool→Prop:=(fun b=>Q .ret [(4,.v (.bool b))] [])
def yrM (Q:Qx):Ls→Ls→Int→Bool→Prop:=(fun b c d e=>Q (.exit 0) [(0,.v (.data b)),(1,.v (.data c)),(5,.v (ic d)),(14,.v (.bool e))] [])
def Ic:Pat pZ:=pS hN (fV 0 vD (fV 1 vD (fV 5 cB fN))) fN
def T8 (a0:Fm) (Q:Qx):List St:=[⟨Ic,Fv a0 (yrL Q) (yrM Q)⟩]
def T9 (a0:Fm):LP:=gL [(41322700,T8 a0)]
def US (e:Es) (a0:Fm):SE:=sE (E e) [(La,Uv.pw a0)] (T9 a0)
theorem U2 (e:Es) (he:EG e):SEOk (Uni (E e)) (US e xX):=bK (aK.uni _) ⟨(S2 e he),trivial⟩ trivial he.ok
theorem yqT (e:Es) (a0):fY (US e a0) 5 a RY false (T8 a0):=fun _=>⟨fun _=>by kernel_rfl,fun _ _=>by kernel_rfl,trivial⟩
theorem yqU (e:Es) (he:EG e):dF (Uni (E e)) (T9 xX) [] 41322700 (.loop 41322700 RY):=fun _ _ _=>cA.st (aK.uni _) (cU (U2 e he) 5) (cH.no _ _) (bC (by kernel_rfl)) (yqT e _ _)
theorem ywO (e:Es) (a0):bN (US e a0) 6 RX Fx (UR a0):=fun _ _=>by kernel_rfl
theorem U3 (e:Es) (he:EG e):bL (E e) (Fx.pw Fw) Lb:=bQ he (ywO e _) (U2 e he) aY.flat (dT (l:=[(41322700,.loop 41322700 RY)]) ⟨yqU e he,trivial⟩ (by kernel_rfl))
def Co (x0:Bool→Prop) (x1:Ls→Ls→Int→Bool→Prop):Nat→Ls→Ls→Int→Prop
 | 0,_,_,_=>False
 | n+1,b,c,d=>
 (aB (decide (d<(((length b):Nat):Int))) (aA (decide (0≤d)) (aA (decide (d<(((length b):Nat):Int))) (aA (aI (.agg [.i .i64,.i .u8,.i .i64,.i .i64,.i .i64,.i .i64,.i .i64,.i .i64]) (getD b (d.toNat) .nils)) (aA (decide (0≤d)) (aA (decide (d<(((length c):Nat):Int))) (aA (aI (.agg [.i .i64,.i .u8,.i .i64,.i .i64,.i .i64,.i .i64,.i .i64,.i .i64]) (getD c (d.toNat) .nils)) (aB (!(((aJ (aQ (getD b (d.toNat) .nils) 0)) ==(aJ (aQ (getD c (d.toNat) .nils) 0)))&&(((aJ (aQ (getD b (d.toNat) .nils) 1)) ==(aJ (aQ (getD c (d.toNat) .nils) 1)))&&(((aJ (aQ (getD b (d.toNat) .nils) 2)) ==(aJ (aQ (getD c (d.toNat) .nils) 2)))&&(((aJ (aQ (getD b (d.toNat) .nils) 3)) ==(aJ (aQ (getD c (d.toNat) .nils) 3)))&&(((aJ (aQ (getD b (d.toNat) .nils) 4)) ==(aJ (aQ (getD c (d.toNat) .nils) 4)))&&(((aJ (aQ (getD b (d.toNat) .nils) 5)) ==(aJ (aQ (getD c (d.toNat) .nils) 5)))&&(((aJ (aQ (getD b (d.toNat) .nils) 6)) ==(aJ (aQ (getD c (d.toNat) .nils) 6)))&&(((aJ (aQ (getD b (d.toNat) .nils) 7)) ==(aJ (aQ (getD c (d.toNat) .nils) 7)))&&true))))))))) (x0 false) (Co x0 x1 n b c (i64.wrap (d+1)))))))))) (x1 b c d false))
def UT (b c:Ls) (K:Bool→Prop):Prop:=
 (aB ((((length b):Nat):Int) !=(((length c):Nat):Int)) (K false) (∃ n:Nat,Co K (fun d e f g=>(K true)) n b c 0))
def Fy:AB:=UT
def yt1 (Q:Qx):Bool→Prop:=(fun b=>Q .ret [(4,.v (.bool b))] [])
def yt2 (Q:Qx):Ls→Ls→Int→Bool→Prop:=(fun b c d e=>Q (.exit 0) [(0,.v (.data b)),(1,.v (.data c)),(5,.v (ic d)),(14,.v (.bool e))] [])
def U4 (Q:Qx):List St:=[⟨Ic,Co (yt1 Q) (yt2 Q)⟩]
def U5:LP:=gL [(11728400,U4)]
def UU (e:Es):SE:=sE (E e) [] (U5)
theorem U6 (e:Es) (he:EG e):SEOk (Uni (E e)) (UU e):=bK (aK.uni _) trivial trivial he.ok
theorem yrN (e:Es):fY (UU e) 5 a Sa false (U4):=fun _=>⟨fun _=>by kernel_rfl,fun _ _=>by kernel_rfl,trivial⟩
theorem yrO (e:Es) (he:EG e):dF (Uni (E e)) (U5) [] 11728400 (.loop 11728400 Sa):=fun _ _ _=>cA.st (aK.uni _) (cU (U6 e he) 5) (cH.no _ _) (bC (by kernel_rfl)) (yrN e _)
theorem yyh (e:Es):bN (UU e) 6 RZ Fx UT:=fun _ _=>by kernel_rfl
theorem U7 (e:Es) (he:EG e):bL (E e) (Fx.pw Fy) Lc:=bQ he (yyh e) (U6 e he) aY.flat (dT (l:=[(11728400,.loop 11728400 Sa)]) ⟨yrO e he,trivial⟩ (by kernel_rfl))
abbrev Mc:Type:=Ls→Ls→Ls→Ls→(Bool→Prop)→Prop
def UV (a0 a1:AB) (b c d e:Ls) (K:Bool→Prop):Prop:=
 (a0 b d (fun f=>(aB f (a1 c e K) (K false))))
def uB:Mc:=UV Fw Fy
def Md:Sg:=⟨(lC iU xS),Bool→Prop,fun K=>(fun r0=>K (.bool r0))⟩
def yFU (e:Es) (a0 a1:AB):SE:=sE (E e) [(Lb,Fx.pw a0),(Lc,Fx.pw a1)] bX
theorem yFV (e:Es) (a0 a1):bN (yFU e a0 a1) 6 I5 Md (UV a0 a1):=fun _ _=>by kernel_rfl
theorem U8 (e:Es) (he:EG e):bL (E e) (Md.pw uB) HC:=bQ he (yFV e _ _) (bK (aK.uni _) ⟨(U3 e he),(U7 e he),trivial⟩ trivial he.ok) aY.flat (bC (by kernel_rfl))
set_option linter.unusedVariables false
theorem yt3 (p0:Ls) (r0:Bool) (h:∀ K:Bool→Prop,K r0→Fr p0 K) (K:Bool→Prop):Fr p0 K=K r0:=
 Aab ⟨fun k=>cI (S7 [] dQ) (az:=[(.data p0)]) (x:=(.bool r0)) (fun K' k'=>h (fun r0=>K' (.bool r0)) k') (K:=fun x=>match x with | (.bool r0)=>K r0 | _=>False) k,h K⟩
theorem yBl (p0 r0:Ls) (h:∀ K:Ls→Prop,K r0→uA p0 K) (K:Ls→Prop):uA p0 K=K r0:=
 Aab ⟨fun k=>cI (LX [] dQ) (az:=[(.data p0)]) (x:=(.data r0)) (fun K' k'=>h (fun r0=>K' (.data r0)) k') (K:=fun x=>match x with | (.data r0)=>K r0 | _=>False) k,h K⟩
theorem yBm (p0 p1:Ls) (r0:Int) (h:∀ K:Int→Prop,K r0→yeV p0 p1 K) (K:Int→Prop):yeV p0 p1 K=K r0:=
 Aab ⟨fun k=>cI (UI [] dQ) (az:=[(.agg [(.data p0),(.data p1)])]) (x:=(ic r0)) (fun K' k'=>h (fun r0=>K' (ic r0)) k') (K:=fun x=>match x with | (ic r0)=>K r0 | _=>False) k,h K⟩
theorem yBn (p0 p1:Ls) (p2 p3 p4 p5 p6 p7 p8 p9:Int) (r0 r1:Ls) (r2 r3 r4:Int) (h:∀ K:Ls→Ls→Int→Int→Int→Prop,K r0 r1 r2 r3 r4→Cm p0 p1 p2 p3 p4 p5 p6 p7 p8 p9 K) (K:Ls→Ls→Int→Int→Int→Prop):Cm p0 p1 p2 p3 p4 p5 p6 p7 p8 p9 K=K r0 r1 r2 r3 r4:=
 Aab ⟨fun k=>cI (UO [] dQ) (az:=[(.agg [(.data p0),(.data p1)]),(.agg [(ic p2),(.int .u8 p3),(ic p4),(ic p5),(ic p6),(ic p7),(ic p8),(ic p9)])]) (x:=(.tup [(.agg [(.data r0),(.data r1)]),(.agg [(ic r2),(ic r3)]),(ic r4)])) (fun K' k'=>h (fun r0 r1 r2 r3 r4=>K' (.tup [(.agg [(.data r0),(.data r1)]),(.agg [(ic r2),(ic r3)]),(ic r4)])) k') (K:=fun x=>match x with | (.tup [(.agg [(.data r0),(.data r1)]),(.agg [(ic r2),(ic r3)]),(ic r4)])=>K r0 r1 r2 r3 r4 | _=>False) k,h K⟩
theorem yvw (p0 p1:Ls) (r0:Bool) (h:∀ K:Bool→Prop,K r0→Fw p0 p1 K) (K:Bool→Prop):Fw p0 p1 K=K r0:=
 Aab ⟨fun k=>cI (U3 [] dQ) (az:=[(.data p0),(.data p1)]) (x:=(.bool r0)) (fun K' k'=>h (fun r0=>K' (.bool r0)) k') (K:=fun x=>match x with | (.bool r0)=>K r0 | _=>False) k,h K⟩
theorem ywP (p0 p1:Ls) (r0:Bool) (h:∀ K:Bool→Prop,K r0→Fy p0 p1 K) (K:Bool→Prop):Fy p0 p1 K=K r0:=
 Aab ⟨fun k=>cI (U7 [] dQ) (az:=[(.data p0),(.data p1)]) (x:=(.bool r0)) (fun K' k'=>h (fun r0=>K' (.bool r0)) k') (K:=fun x=>match x with | (.bool r0)=>K r0 | _=>False) k,h K⟩
set_option maxHeartbeats 0
def UW (a0:gI) (b c:Ls) (K:Int→Prop):Prop:=
 (a0 b c (fun d=>(aB (d !=0) (K d) (aB ((((length b):Nat):Int) !=3) (K 2) (K 0)))))
def xZ:gI:=UW ydB
def ywQ (e:Es) (a0:gI):SE:=sE (E e) [(Bz,mX.pw a0)] bX
theorem ywR (e:Es) (a0):bN (ywQ e a0) 6 ZZ mX (UW a0):=fun _ _=>by kernel_rfl
theorem U9 (e:Es) (he:EG e):bL (E e) (mX.pw xZ) Hb:=bQ he (ywR e _) (bK (aK.uni _) ⟨(HS e he),trivial⟩ trivial he.ok) aY.flat (bC (by kernel_rfl))
def V0 (b:Int) (K:Int→Int→Prop):Prop:=
 (K b 1)
def yaI:cC:=V0
def yyi (e:Es):SE:=sE (E e) [] bX
theorem yyj (e:Es):bN (yyi e) 6 A0 lZ V0:=fun _ _=>by kernel_rfl
theorem Me (e:Es) (he:EG e):bL (E e) (lZ.pw yaI) BA:=bQ he (yyj e) (bK (aK.uni _) trivial trivial he.ok) aY.flat (bC (by kernel_rfl))
def V1 (b c:Int) (K:Int→Prop):Prop:=
 (aB (c !=0) False (K b))
def Mf:dL:=V1
def yt4 (e:Es):SE:=sE (E e) [] bX
theorem yt5 (e:Es):bN (yt4 e) 6 A6 BS V1:=fun _ _=>by kernel_rfl
theorem V2 (e:Es) (he:EG e):bL (E e) (BS.pw Mf) Hc:=bQ he (yt5 e) (bK (aK.uni _) trivial trivial he.ok) aY.flat (bC (by kernel_rfl))
abbrev uD:Type:=Ls→Ls→Int→(Int→Int→Ls→Ls→Prop)→Prop
def UX (a0:Fa) (a1:dL) (a2:cC) (b c:Ls) (d:Int) (K:Int→Int→Ls→Ls→Prop):Prop:=
 (a0 b c d (fun e f=>(a1 e f (fun g=>(a2 g (fun h i=>(K h i b c)))))))
def yay:uD:=UX yed Mf yaI
def Mg (w:uD) (az:Ls) (b:HB) (K:PV→Ls→Prop):Prop:=
 match az,b with
 | [(.ptr 0 1 0 0),(ic p2)],⟨false,true,2,[(.agg [(.data p0),(.data p1)])]⟩=>w p0 p1 p2 (fun r0 r1 r2 r3=>K (.agg [(ic r0),(ic r1)]) [(.agg [(.data r2),(.data r3)])])
 | _,_=>False
def V3 (az:Ls) (b:HB) (K:PV→Ls→Prop):Prop:=Mg yay az b K
def V4 (e:Es) (a0:Fa) (a1:dL) (a2:cC):SE:=sE (E e) [(Ah,yC9.pw a0),(Hc,BS.pw a1),(BA,lZ.pw a2)] bX
theorem yoU (e:Es) (he:EG e):SEOk (Uni (E e)) (V4 e yed Mf yaI):=bK (aK.uni _) ⟨(O2 e he),(V2 e he),(Me e he),trivial⟩ trivial he.ok
theorem ypN (e:Es) (a0 a1 a2 p0 p1 p2 K):tD (V4 e a0 a1 a2) 6 Pw [(.ptr 0 1 0 0),(ic p2)] ⟨false,true,2,[(.agg [(.data p0),(.data p1)])]⟩ K=UX a0 a1 a2 p0 p1 p2 (fun b c d e=>K (.agg [(ic b),(ic c)]) [(.agg [(.data d),(.data e)])]):=by kernel_rfl
theorem V5 (e:Es) (he:EG e):xJ (E e) V3 BB:=by
 intro az b K h;unfold V3 Mg at h;split at h
 ·exact xH (yoU e he) aY.flat (bC (by kernel_rfl)) (by kernel_rfl) (he.num _ (by kernel_rfl)) ((ypN ..).mpr h)
 ·exact h.elim
def V6 (b c d:Int) (K:Int→Int→Prop):Prop:=
 (aB (d !=0) False (K b c))
def yab:kP:=V6
def Cp:Sg:=⟨(lC nH pt1),Int→Int→Prop,fun K=>(fun r0 r1=>K (.agg [(ic r0),(ic r1)]))⟩
def ymF (e:Es):SE:=sE (E e) [] bX
theorem ymG (e:Es):bN (ymF e) 6 Le Cp V6:=fun _ _=>by kernel_rfl
theorem Ie (e:Es) (he:EG e):bL (E e) (Cp.pw yab) vR:=bQ he (ymG e) (bK (aK.uni _) trivial trivial he.ok) aY.flat (bC (by kernel_rfl))
abbrev qL:Type:=Ls→Ls→J4 (Int→(Int→Int→Ls→Ls→Prop)→Prop)
def UY (a0:kR) (a1:kP) (b c:Ls) (d e f g h:Int) (K:Int→Int→Ls→Ls→Prop):Prop:=
 (a0 b c d e f g h (fun i j k l m=>(a1 k l m (fun o p=>(K k l i j)))))
def yat:qL:=UY ybY yab
def Ig (w:qL) (az:Ls) (b:HB) (K:PV→Ls→Prop):Prop:=
 match az,b with
 | [(.ptr 0 1 0 0),(ic p2),(.agg [(ic p3),(ic p4)]),(.agg [(ic p5),(ic p6)])],⟨false,true,2,[(.agg [(.data p0),(.data p1)])]⟩=>w p0 p1 p2 p3 p4 p5 p6 (fun r0 r1 r2 r3=>K (.agg [(ic r0),(ic r1)]) [(.agg [(.data r2),(.data r3)])])
 | _,_=>False
def V7 (az:Ls) (b:HB) (K:PV→Ls→Prop):Prop:=Ig yat az b K
def V8 (e:Es) (a0:kR) (a1:kP):SE:=sE (E e) [(Hm,oY.pw a0),(vR,Cp.pw a1)] bX
theorem ypO (e:Es) (he:EG e):SEOk (Uni (E e)) (V8 e ybY yab):=bK (aK.uni _) ⟨(Tz e he),(Ie e he),trivial⟩ trivial he.ok
theorem yqW (e:Es) (a0 a1 p0 p1 p2 p3 p4 p5 p6 K):tD (V8 e a0 a1) 6 HD [(.ptr 0 1 0 0),(ic p2),(.agg [(ic p3),(ic p4)]),(.agg [(ic p5),(ic p6)])] ⟨false,true,2,[(.agg [(.data p0),(.data p1)])]⟩ K=UY a0 a1 p0 p1 p2 p3 p4 p5 p6 (fun b c d e=>K (.agg [(ic b),(ic c)]) [(.agg [(.data d),(.data e)])]):=by kernel_rfl
theorem UZ (e:Es) (he:EG e):xJ (E e) V7 vT:=by
 intro az b K h;unfold V7 Ig at h;split at h
 ·exact xH (ypO e he) aY.flat (bC (by kernel_rfl)) (by kernel_rfl) (he.num _ (by kernel_rfl)) ((yqW ..).mpr h)
 ·exact h.elim
abbrev uE:Type:=Ls→Ls→J4 (Int→(J4 (Ls→Ls→Prop))→Prop)
def Va (a0:cQ) (a1:kP) (a2:qL) (b c:Ls) (d e f g h:Int) (K:J4 (Ls→Ls→Prop)):Prop:=
 (a0 g h 1 3 (fun i j k=>(a1 i j k (fun l m=>(a2 b c d e f l m (fun o p q r=>(a0 g h 2 3 (fun s t u=>(a1 s t u (fun v w=>(a2 q r d e f v w (K o p))))))))))))
def yax:uE:=Va ya7 yab yat
def Mh (w:uE) (az:Ls) (b:HB) (K:PV→Ls→Prop):Prop:=
 match az,b with
 | [(.ptr 0 1 0 0),(ic p2),(.agg [(ic p3),(ic p4)]),(.agg [(ic p5),(ic p6)])],⟨false,true,2,[(.agg [(.data p0),(.data p1)])]⟩=>w p0 p1 p2 p3 p4 p5 p6 (fun r0 r1 r2 r3 r4 r5=>K (.tup [(.agg [(ic r0),(ic r1)]),(.agg [(ic r2),(ic r3)])]) [(.agg [(.data r4),(.data r5)])])
 | _,_=>False
def V9 (az:Ls) (b:HB) (K:PV→Ls→Prop):Prop:=Mh yax az b K
def W0 (e:Es) (a0:cQ) (a1:kP) (a2:qL):SE:=⟨(E e),yhr [(rQ,yeb.pw a0),(vR,Cp.pw a1)],yhs [],bX,yp7 [(vT,Ig a2)]⟩
theorem ynh (e:Es) (he:EG e):SEOk (Uni (E e)) (W0 e ya7 yab yat):=Ec (aK.uni _) ⟨(BR e he),(Ie e he),trivial⟩ trivial he.ok ⟨(UZ e he),trivial⟩
theorem yoV (e:Es) (a0 a1 a2 p0 p1 p2 p3 p4 p5 p6 K):tD (W0 e a0 a1 a2) 6 Lg [(.ptr 0 1 0 0),(ic p2),(.agg [(ic p3),(ic p4)]),(.agg [(ic p5),(ic p6)])] ⟨false,true,2,[(.agg [(.data p0),(.data p1)])]⟩ K=Va a0 a1 a2 p0 p1 p2 p3 p4 p5 p6 (fun b c d e f g=>K (.tup [(.agg [(ic b),(ic c)]),(.agg [(ic d),(ic e)])]) [(.agg [(.data f),(.data g)])]):=by kernel_rfl
theorem W5 (e:Es) (he:EG e):xJ (E e) V9 Ak:=by
 intro az b K h;unfold V9 Mh at h;split at h
 ·exact xH (ynh e he) aY.flat (bC (by kernel_rfl)) (by kernel_rfl) (he.num _ (by kernel_rfl)) ((yoV ..).mpr h)
 ·exact h.elim
def Fz (a0:iY) (x0:Ls→Int→Ls→Int→Int→Bool→Prop):Nat→Ls→Int→Ls→Int→Int→Prop
 | 0,_,_,_,_,_=>False
 | n+1,b,c,d,e,f=>
 (aB (decide (f<e)) (jn (fun (a:Int→Prop)=>(aA (decide (0≤f)) (aA (decide (f<(((length d):Nat):Int))) (lt (getD d (f.toNat) .nils) (fun g=>(aA (aI zI g) (aA (decide (0≤(aJ g))) (aA (decide ((aJ g)<(((length b):Nat):Int))) (lt (getD b ((aJ g).toNat) .nils) (fun h=>(aA (aI z2 h) (aA (decide (0≤c)) (aA (decide (c<(((length b):Nat):Int))) (lt (getD b (c.toNat) .nils) (fun i=>(aA (aI z2 i) (a0 (aJ (aQ h 0)) (aJ (aQ h 1)) (aJ (aQ i 0)) (aJ (aQ i 1)) (fun j k=>(aB (decide (j>0)) (a (aJ g)) (a c)))))))))))))))))))) (fun g=>(lt (i64.wrap (f+1)) (Fz a0 x0 n b g d e)))) (x0 b c d e f false))
def Vb (a0:iY) (b c:Ls) (K:Int→Prop):Prop:=
 (aA (decide (0<(((length c):Nat):Int))) (lt (getD c 0 .nils) (fun d=>(aA (aI zI d) (∃ n:Nat,Fz a0 (fun e f g h i j=>(K f)) n b (aJ d) c (((length c):Nat):Int) 0)))))
def yaE:gI:=Vb tQ
def Mi:Sg:=⟨xR,Int→Prop,fun K=>(fun r0=>K (ic r0))⟩
def yvx (Q:Qx):Ls→Int→Ls→Int→Int→Bool→Prop:=(fun b c d e f g=>Q (.exit 0) [(0,.v (.data b)),(5,.v (ic c)),(13,.v (.data d)),(14,.v (ic e)),(15,.v (ic f)),(16,.v (.bool g))] [])
def Cq:Pat aD:=fV 13 vD (fV 14 cB (fV 15 cB fN))
def W6 (a0:iY) (Q:Qx):List St:=[⟨(pS hN (fV 0 vD (fV 5 cB Cq)) fN),Fz a0 (yvx Q)⟩]
def W7 (a0:iY):LP:=gL [(12610200,W6 a0)]
def Vd (e:Es) (a0:iY):SE:=sE (E e) [(He,Lv.pw a0)] (W7 a0)
theorem W8 (e:Es) (he:EG e):SEOk (Uni (E e)) (Vd e tQ):=bK (aK.uni _) ⟨(SH e he),trivial⟩ trivial he.ok
theorem yt6 (e:Es) (a0):fY (Vd e a0) 5 a PQ false (W6 a0):=fun _=>⟨fun _=>by kernel_rfl,fun _ _=>by kernel_rfl,trivial⟩
theorem yt7 (e:Es) (he:EG e):dF (Uni (E e)) (W7 tQ) [] 12610200 (.loop 12610200 PQ):=fun _ _ _=>cA.st (aK.uni _) (cU (W8 e he) 5) (cH.no _ _) (bC (by kernel_rfl)) (yt6 e _ _)
theorem yAf (e:Es) (a0):bN (Vd e a0) 6 PP Mi (Vb a0):=fun _ _=>by kernel_rfl
theorem Ve (e:Es) (he:EG e):bL (E e) (Mi.pw yaE) Ho:=bQ he (yAf e _) (W8 e he) aY.flat (dT (l:=[(12610200,.loop 12610200 PQ)]) ⟨yt7 e he,trivial⟩ (by kernel_rfl))
def Vf (x0:Ls→Int→Ls→Int→Int→Bool→Prop) (x1:Ls→Int→Bool→Prop):Nat→Ls→Int→Ls→Int→Int→Prop
 | 0,_,_,_,_,_=>False
 | n+1,b,c,d,e,f=>
 (aB (decide (f<e)) (aA (decide (0≤f)) (aA (decide (f<(((length d):Nat):Int))) (lt (getD d (f.toNat) .nils) (fun g=>(aA (aI zI g) (aB ((aJ g)==c) (x1 b c true) (lt (i64.wrap (f+1)) (Vf x0 x1 n b c d e)))))))) (x0 b c d e f false))
def Vg (x0:Ls→Ls→Int→Ls→Int→Int→Bool→Prop) (x1:Ls→Ls→Int→Bool→Prop):Nat→Ls→Ls→Int→Ls→Int→Int→Prop
 | 0,_,_,_,_,_,_=>False
 | n+1,b,c,d,e,f,g=>
 (aB (decide (g<f)) (aA (decide (0≤g)) (aA (decide (g<(((length e):Nat):Int))) (lt (getD e (g.toNat) .nils) (fun h=>(aA (aI zI h) (aB ((aJ h)==d) (x1 b c d true) (lt (i64.wrap (g+1)) (Vg x0 x1 n b c d e f)))))))) (x0 b c d e f g false))
def Mj (x0:Ls→Ls→Nat→Nat→Int→Bool→Prop):Nat→Ls→Ls→Nat→Nat→Int→Prop
 | 0,_,_,_,_,_=>False
 | n+1,b,c,d,e,f=>
 (aB (decide (f<3)) (jn (fun (a:Ls→Ls→Int→Bool→Prop)=>(∃ m0:Nat,Vg (fun g h i j k l m=>(a g h i false)) a m0 b c f c (((length c):Nat):Int) 0)) (fun g h i j=>(aB (!j) (aA (decide ((length g)=e)) (aA (decide ((0+d)≤e)) (aA (!(decide (((0+d)+1)≤e))) (aA (decide (d=e)) (aA (decide (((e+1)+64)*(8+1)≤room)) (lt (i64.wrap (f+1)) (fun k=>(Mj x0 n (g++([(ic i)]:Ls)) h (length (g++([(ic i)]:Ls))) (length (g++([(ic i)]:Ls))) k)))))))) (lt (i64.wrap (f+1)) (Mj x0 n g h d e))))) (x0 b c d e f false))
def Vh (x0:Ls→Int→Bool→Prop) (x1:Ls→Ls→Nat→Nat→Int→Bool→Prop):Nat→Ls→Int→Prop
 | 0,_,_=>False
 | n+1,b,c=>
 (aB (decide (c<3)) (jn (fun (a:Ls→Int→Bool→Prop)=>(∃ m0:Nat,Vf (fun d e f g h i=>(a d e false)) a m0 b c b (((length b):Nat):Int) 0)) (fun d e f=>(aB (!f) (lt (i64.wrap (c+1)) (fun g=>(Mj x1 n ([(ic e)]:Ls) d 1 1 g))) (lt (i64.wrap (c+1)) (Vh x0 x1 n d))))) (x0 b c false))
def W9 (b:Ls) (K:Ls→Prop):Prop:=
 (∃ m0:Nat,Vh (fun c d e=>(K ([]:Ls))) (fun c d e f g h=>(aA (decide ((length c)=f)) (aA (decide ((0+e)≤f)) (K (take e c))))) m0 b 0)
def yaz:kQ:=W9
def yrP (Q:Qx):Ls→Int→Ls→Int→Int→Bool→Prop:=(fun b c d e f g=>Q (.exit 0) [(1,.v (.ptr 1 1 0 0)),(5,.v (.data d)),(6,.v (ic e)),(7,.v (ic f)),(8,.v (.bool g))] [⟨false,true,1,([(.data b)]:Ls)⟩,⟨false,true,1,([(ic c)]:Ls)⟩])
def yrQ (Q:Qx):Ls→Int→Bool→Prop:=(fun b c d=>Q .ret [(2,.v (.bool d))] [⟨false,true,1,([(.data b)]:Ls)⟩,⟨false,true,1,([(ic c)]:Ls)⟩])
def yrR (Q:Qx):Ls→Ls→Int→Ls→Int→Int→Bool→Prop:=(fun b c d e f g h=>Q (.exit 0) [(1,.v (.ptr 3 1 0 0)),(5,.v (.data e)),(6,.v (ic f)),(7,.v (ic g)),(8,.v (.bool h))] [⟨false,true,1,([(.data c)]:Ls)⟩,⟨false,true,1,([]:Ls)⟩,⟨false,true,1,b⟩,⟨false,true,1,([(ic d)]:Ls)⟩])
def yrS (Q:Qx):Ls→Ls→Int→Bool→Prop:=(fun b c d e=>Q .ret [(2,.v (.bool e))] [⟨false,true,1,([(.data c)]:Ls)⟩,⟨false,true,1,([]:Ls)⟩,⟨false,true,1,b⟩,⟨false,true,1,([(ic d)]:Ls)⟩])
def yrT (Q:Qx):Ls→Int→Bool→Prop:=(fun b c d=>Q (.exit 0) [(1,.v (.ptr 0 1 0 0)),(3,.v .nils),(6,.v (ic c)),(7,.v (.bool d))] [⟨false,true,1,([(.data b)]:Ls)⟩])
def X2 (Q:Qx):Ls→Ls→Nat→Nat→Int→Bool→Prop:=(fun b c d e f g=>Q (.exit 0) [(1,.v (.ptr 0 1 0 0)),(3,.v (.own 2 0 d e none)),(6,.v (ic f)),(7,.v (.bool g))] [⟨false,true,1,([(.data c)]:Ls)⟩,⟨false,true,1,([]:Ls)⟩,⟨false,true,1,b⟩])
def Ih:Pat aD:=fV 5 vD (fV 6 cB (fV 7 cB fN))
def X3 (Q:Qx):List St:=[⟨(pS (hB false true 1 (rC vD rN) BV) (fV 1 (vP 1 0 (nK 1) (nK 0)) Ih) fN),Vf (yrP Q) (yrQ Q)⟩,⟨(pS (hB false true 1 (rC vD rN) (hB false true 1 rN (hB false true 1 rA BV))) (fV 1 (vP 3 0 (nK 1) (nK 0)) Ih) fN),fun n b c d e f g=>Vg (yrR Q) (yrS Q) n c b d e f g⟩]
def X4 (Q:Qx):List St:=[⟨(pS (hB false true 1 (rC vD rN) hN) (fV 1 gV (fV 3 GS xY)) fN),Vh (yrT Q) (X2 Q)⟩,⟨(pS (hB false true 1 (rC vD rN) (hB false true 1 rN (hB false true 1 rA hN))) (fV 1 gV (fV 3 (vW 2 (nK 0) nV nV) xY)) fN),fun n b c d e f=>Mj (X2 Q) n c b d e f⟩]
def Mk:LP:=gL [(86939300,X3),(63461800,X4)]
def X5 (e:Es):SE:=sE (E e) [] (Mk)
def Vi (e:Es):SE:=⟨(E e),yhr [],yhs [(ZV,PR)],Mk,fun _=>none⟩
theorem yvy (e:Es) (he:EG e):SEOk (Uni (E e)) (X5 e):=bK (aK.uni _) trivial trivial he.ok
theorem yqY (e:Es):fY (X5 e) 5 a PS false (X3):=fun _=>⟨fun _=>by kernel_rfl,fun _ _=>by kernel_rfl,fun _=>by kernel_rfl,fun _ _=>by kernel_rfl,trivial⟩
theorem yqZ (e:Es) (he:EG e):dF (Uni (E e)) (Mk) [] 86939300 (.loop 86939300 PS):=fun _ _ _=>cA.st (aK.uni _) (cU (yvy e he) 5) (cH.no _ _) (bC (by kernel_rfl)) (yqY e _)
theorem X6 (e:Es) (he:EG e):SEOk (Uni (E e)) (Vi e):=bK (aK.uni _) trivial ⟨⟨by kernel_rfl,by kernel_rfl,rfl,fun az=>vO (by kernel_rfl) az,he.num _ (by kernel_rfl),by kernel_rfl,(dT (l:=[(86939300,.loop 86939300 PS)]) ⟨yqZ e he,trivial⟩ (by kernel_rfl))⟩,trivial⟩ he.ok
theorem yq0 (e:Es):fY (Vi e) 5 a PW true (X4):=fun _=>⟨fun _=>by kernel_rfl,fun _ _=>by kernel_rfl,fun _=>by kernel_rfl,fun _ _=>by kernel_rfl,trivial⟩
theorem yq1 (e:Es) (he:EG e):dF (Uni (E e)) (Mk) [] 63461800 (.lG 63461800 PW):=fun _ _ _=>cA.stG (aK.uni _) (cU (X6 e he) 5) (cH.no _ _) (bC (by kernel_rfl)) (yq0 e _)
theorem ywS (e:Es):bN (Vi e) 6 PU qK W9:=fun _ _=>by kernel_rfl
theorem Vj (e:Es) (he:EG e):bL (E e) (qK.pw yaz) Hq:=bQ he (ywS e) (X6 e he) aY.flat (dT (l:=[(63461800,.lG 63461800 PW)]) ⟨yq1 e he,trivial⟩ (by kernel_rfl))
abbrev Ml:Type:=Ls→Ls→(bF (J4 (Ls→Ls→Prop)))→Prop
def AD (a0:cC) (a1:uD) (a2:uE) (a3:kR) (a4:kP) (a5:cQ) (a6:gI) (a7:kQ) (a8:qL) (x1:Ls→Ls→Ls→bF (J4 (Int→Ls→Int→Int→Bool→Prop))):Nat→Ls→Ls→Ls→bF (J4 (Int→Ls→Int→Int→Prop))
 | 0,_,_,_,_,_,_,_,_,_,_,_,_,_,_,_,_,_,_,_,_,_,_,_,_,_,_,_=>False
 | n+1,b,c,d,e,f,g,h,i,j,k,l,m,o,p,q,r,s,t,u,v,w,z,A,B,C,D,E=>
 (aB (decide (E<D)) (aA (decide (0≤E)) (aA (decide (E<(((length C):Nat):Int))) (lt (getD C (E.toNat) .nils) (fun F=>(aA (aI z4 F) (a3 c d B (aJ (aQ F 0)) (aJ (aQ F 1)) (aJ (aQ F 2)) (aJ (aQ F 3)) (fun G H I J L=>(a4 I J L (fun M N=>(aA (decide ((length b)=(length b))) (aA (decide ((0+(length b))≤(length b))) (aA (!(decide (((0+(length b))+1)≤(length b)))) (aA (decide ((length b)=(length b))) (aA (decide ((((length b)+1)+64)*(16+1)≤room)) (lt (i64.wrap (E+1)) (fun O=>(aA (decide ((length (b++([(.agg [(ic M),(ic N)])]:Ls)))=length (b++([(.agg [(ic M),(ic N)])]:Ls)))&&decide ((length (b++([(.agg [(ic M),(ic N)])]:Ls)))=length (b++([(.agg [(ic M),(ic N)])]:Ls)))) (AD a0 a1 a2 a3 a4 a5 a6 a7 a8 x1 n (b++([(.agg [(ic M),(ic N)])]:Ls)) G H e f g h i j k l m o p q r s t u v w z A B C D O)))))))))))))))))) (x1 b c d e f g h i j k l m o p q r s t u v w z A B C D E false))
def ycN (a0:cC) (a1:uD) (a2:uE) (a3:kR) (a4:kP) (a5:cQ) (a6:gI) (a7:kQ) (a8:qL) (x0:Ls→Ls→bF (J4 (Int→Ls→Int→Int→Bool→Prop))) (x1:Ls→Ls→Ls→bF (J4 (Int→Ls→Int→Int→Bool→Prop))):Nat→Ls→Ls→bF (J4 (Int→Ls→Int→Int→Prop))
 | 0,_,_,_,_,_,_,_,_,_,_,_,_,_,_,_,_,_,_,_,_,_,_,_,_,_,_=>False
 | n+1,b,c,d,e,f,g,h,i,j,k,l,m,o,p,q,r,s,t,u,v,w,z,A,B,C,D=>
 (aB (decide (D<C)) (aA (decide (0≤D)) (aA (decide (D<(((length B):Nat):Int))) (lt (getD B (D.toNat) .nils) (fun E=>(aA (aI z4 E) (a3 b c A (aJ (aQ E 0)) (aJ (aQ E 1)) (aJ (aQ E 2)) (aJ (aQ E 3)) (fun F G H I J=>(a4 H I J (fun L M=>(lt (i64.wrap (D+1)) (fun N=>(aA (decide (1=length ([(.agg [(ic L),(ic M)])]:Ls))&&decide (1=length ([(.agg [(ic L),(ic M)])]:Ls))) (AD a0 a1 a2 a3 a4 a5 a6 a7 a8 x1 n ([(.agg [(ic L),(ic M)])]:Ls) F G d e f g h i j k l m o p q r s t u v w z A B C N))))))))))))) (x0 b c d e f g h i j k l m o p q r s t u v w z A B C D false))
def uF (a0:cC) (a1:uD) (a2:uE) (a3:kR) (a4:kP) (a5:cQ) (a6:gI) (a7:kQ) (a8:qL) (x3:Ls→Ls→Ls→Ls→bF (J4 (Int→Int→Int→Bool→Prop))):Nat→Ls→Ls→Ls→Ls→bF (J4 (Int→Int→Int→Prop))
 | 0,_,_,_,_,_,_,_,_,_,_,_,_,_,_,_,_,_,_,_,_,_,_,_,_,_,_,_=>False
 | n+1,b,c,d,e,f,g,h,i,j,k,l,m,o,p,q,r,s,t,u,v,w,z,A,B,C,D,E=>
 (aB (decide (E<D)) (jn (fun (a:Int→Int→Int→Int→Prop)=>(aB (decide (E=0)) (a f g h i) (aB (decide (E=1)) (a j k l m) (aB (decide (E=2)) (a o p q r) False)))) (fun F G H I=>(a3 d e C F G H I (fun J L M N O=>(a4 M N O (fun P R=>(aA (decide ((length c)=(length c))) (aA (decide ((0+(length c))≤(length c))) (aA (!(decide (((0+(length c))+1)≤(length c)))) (aA (decide ((length c)=(length c))) (aA (decide ((((length c)+1)+64)*(16+1)≤room)) (lt (i64.wrap (E+1)) (fun S=>(aA (decide ((length (c++([(.agg [(ic P),(ic R)])]:Ls)))=length (c++([(.agg [(ic P),(ic R)])]:Ls)))&&decide ((length (c++([(.agg [(ic P),(ic R)])]:Ls)))=length (c++([(.agg [(ic P),(ic R)])]:Ls)))) (uF a0 a1 a2 a3 a4 a5 a6 a7 a8 x3 n b (c++([(.agg [(ic P),(ic R)])]:Ls)) J L f g h i j k l m o p q r s t u v w z A B C D S))))))))))))))) (x3 b c d e f g h i j k l m o p q r s t u v w z A B C D E false))
def ycd (a0:cC) (a1:uD) (a2:uE) (a3:kR) (a4:kP) (a5:cQ) (a6:gI) (a7:kQ) (a8:qL) (x2:Ls→Ls→Ls→bF (J4 (Int→Int→Int→Bool→Prop))) (x3:Ls→Ls→Ls→Ls→bF (J4 (Int→Int→Int→Bool→Prop))):Nat→Ls→Ls→Ls→bF (J4 (Int→Int→Int→Prop))
 | 0,_,_,_,_,_,_,_,_,_,_,_,_,_,_,_,_,_,_,_,_,_,_,_,_,_,_=>False
 | n+1,b,c,d,e,f,g,h,i,j,k,l,m,o,p,q,r,s,t,u,v,w,z,A,B,C,D=>
 (aB (decide (D<C)) (jn (fun (a:Int→Int→Int→Int→Prop)=>(aB (decide (D=0)) (a e f g h) (aB (decide (D=1)) (a i j k l) (aB (decide (D=2)) (a m o p q) False)))) (fun E F G H=>(a3 c d B E F G H (fun I J L M N=>(a4 L M N (fun O P=>(lt (i64.wrap (D+1)) (fun R=>(aA (decide (1=length ([(.agg [(ic O),(ic P)])]:Ls))&&decide (1=length ([(.agg [(ic O),(ic P)])]:Ls))) (uF a0 a1 a2 a3 a4 a5 a6 a7 a8 x3 n b ([(.agg [(ic O),(ic P)])]:Ls) I J e f g h i j k l m o p q r s t u v w z A B C R)))))))))) (x2 b c d e f g h i j k l m o p q r s t u v w z A B C D false))
def Vk (a0:cC) (a1:uD) (a2:uE) (a3:kR) (a4:kP) (a5:cQ) (a6:gI) (a7:kQ) (a8:qL) (b c:Ls) (K:bF (J4 (Ls→Ls→Prop))):Prop:=
 (a0 0 (fun d e=>(aA (decide (0<(((length b):Nat):Int))) (lt (getD b 0 .nils) (fun f=>(aA (aI zK f) (a0 (aJ (aQ f 0)) (fun g h=>(a1 b c 0 (fun i j k l=>(a2 k l 0 d e i j (fun m o p q r s=>(∃ n:Nat,ycN a0 a1 a2 a3 a4 a5 a6 a7 a8 (fun t u v w z A B C D E F G H I J L M N O P R S T U V W X=>(a1 t u 1 (fun Y Z y0 y1=>False))) (fun t u v w z A B C D E F G H I J L M N O P R S T U V W X Y=>(a1 u v 1 (fun Z y0 y1 y2=>(aA (decide (0<(((length t):Nat):Int))) (aA (decide ((length t)=(length t))) (aA (decide (0<(length t))) (lt (getD t 0 .nils) (fun y3=>(aA (aI z2 y3) (a5 Z y0 (aJ (aQ y3 0)) (aJ (aQ y3 1)) (fun y4 y5 y6=>(a4 y4 y5 y6 (fun y7 y8=>(aA (decide (1<(((length t):Nat):Int))) (aA (decide ((length t)=(length t))) (aA (decide (1<(length t))) (lt (getD t 1 .nils) (fun y9=>(aA (aI z2 y9) (a5 y7 y8 (aJ (aQ y9 0)) (aJ (aQ y9 1)) (fun y10 y11 y12=>(a4 y10 y11 y12 (fun y13 y14=>(aA (decide ((length t)=(length t))) (aA (decide ((0+(length t))≤(length t))) (aA (!(decide (((0+(length t))+1)≤(length t)))) (aA (decide ((length t)=(length t))) (aA (decide ((((length t)+1)+64)*(16+1)≤room)) (aA (decide ((length (t++([(.agg [(ic y13),(ic y14)])]:Ls)))=(length (t++([(.agg [(ic y13),(ic y14)])]:Ls))))) (aA (decide ((0+(length (t++([(.agg [(ic y13),(ic y14)])]:Ls))))≤(length (t++([(.agg [(ic y13),(ic y14)])]:Ls))))) (a6 (take (length (t++([(.agg [(ic y13),(ic y14)])]:Ls))) (t++([(.agg [(ic y13),(ic y14)])]:Ls))) ([(ic 0),(ic 1),(ic 2)]:Ls) (fun y15=>(a7 ([(ic y15)]:Ls) (fun y16=>(aA (decide ((length (t++([(.agg [(ic y13),(ic y14)])]:Ls)))=(length (t++([(.agg [(ic y13),(ic y14)])]:Ls))))) (aA (decide ((0+(length (t++([(.agg [(ic y13),(ic y14)])]:Ls))))≤(length (t++([(.agg [(ic y13),(ic y14)])]:Ls))))) (a6 (take (length (t++([(.agg [(ic y13),(ic y14)])]:Ls))) (t++([(.agg [(ic y13),(ic y14)])]:Ls))) y16 (fun y17=>(jn (fun (x:Ls→Ls→Ls→Int→Int→Int→Int→Int→Int→Int→Int→Int→Int→Prop)=>(aA (decide (0≤y15)) (aA (decide (y15<(((length (t++([(.agg [(ic y13),(ic y14)])]:Ls))):Nat):Int))) (aA (decide ((length (t++([(.agg [(ic y13),(ic y14)])]:Ls)))=(length (t++([(.agg [(ic y13),(ic y14)])]:Ls))))) (aA (decide ((0+(y15.toNat))<(length (t++([(.agg [(ic y13),(ic y14)])]:Ls))))) (lt (getD (t++([(.agg [(ic y13),(ic y14)])]:Ls)) (0+(y15.toNat)) .nils) (fun y18=>(aA (aI z2 y18) (aA (decide (0≤y17)) (aA (decide (y17<(((length (t++([(.agg [(ic y13),(ic y14)])]:Ls))):Nat):Int))) (aA (decide ((length (t++([(.agg [(ic y13),(ic y14)])]:Ls)))=(length (t++([(.agg [(ic y13),(ic y14)])]:Ls))))) (aA (decide ((0+(y17.toNat))<(length (t++([(.agg [(ic y13),(ic y14)])]:Ls))))) (lt (getD (t++([(.agg [(ic y13),(ic y14)])]:Ls)) (0+(y17.toNat)) .nils) (fun y19=>(aA (aI z2 y19) (aB (!(((aJ (aQ y18 0)) ==(aJ (aQ y19 0)))&&(((aJ (aQ y18 1)) ==(aJ (aQ y19 1)))&&true))) (aA (decide (0≤y15)) (aA (decide (y15<(((length (t++([(.agg [(ic y13),(ic y14)])]:Ls))):Nat):Int))) (aA (decide ((length (t++([(.agg [(ic y13),(ic y14)])]:Ls)))=(length (t++([(.agg [(ic y13),(ic y14)])]:Ls))))) (aA (decide ((0+(y15.toNat))<(length (t++([(.agg [(ic y13),(ic y14)])]:Ls))))) (lt (getD (t++([(.agg [(ic y13),(ic y14)])]:Ls)) (0+(y15.toNat)) .nils) (fun y20=>(aA (aI z2 y20) (aA (decide (0≤y17)) (aA (decide (y17<(((length (t++([(.agg [(ic y13),(ic y14)])]:Ls))):Nat):Int))) (aA (decide ((length (t++([(.agg [(ic y13),(ic y14)])]:Ls)))=(length (t++([(.agg [(ic y13),(ic y14)])]:Ls))))) (aA (decide ((0+(y17.toNat))<(length (t++([(.agg [(ic y13),(ic y14)])]:Ls))))) (lt (getD (t++([(.agg [(ic y13),(ic y14)])]:Ls)) (0+(y17.toNat)) .nils) (fun y21=>(aA (aI z2 y21) (a5 (aJ (aQ y20 0)) (aJ (aQ y20 1)) (aJ (aQ y21 0)) (aJ (aQ y21 1)) (fun y22 y23 y24=>(a4 y22 y23 y24 (fun y25 y26=>(jn (fun (a:Ls→Ls→Int→Int→Int→Int→Prop)=>(aB (decide (y15=0)) (aB (decide (y15=0)) (a8 y1 y2 1 w z y25 y26 (fun y27 y28 y29 y30=>(a y29 y30 w z y27 y28))) (aB (decide (y15=1)) (a8 y1 y2 1 C D y25 y26 (fun y27 y28 y29 y30=>(a y29 y30 w z y27 y28))) (aB (decide (y15=2)) (a8 y1 y2 1 G H y25 y26 (fun y27 y28 y29 y30=>(a y29 y30 w z y27 y28))) False))) (aB (decide (y15=1)) (aB (decide (y15=0)) (a8 y1 y2 1 w z y25 y26 (fun y27 y28 y29 y30=>(a y29 y30 C D y27 y28))) (aB (decide (y15=1)) (a8 y1 y2 1 C D y25 y26 (fun y27 y28 y29 y30=>(a y29 y30 C D y27 y28))) (aB (decide (y15=2)) (a8 y1 y2 1 G H y25 y26 (fun y27 y28 y29 y30=>(a y29 y30 C D y27 y28))) False))) (aB (decide (y15=2)) (aB (decide (y15=0)) (a8 y1 y2 1 w z y25 y26 (fun y27 y28 y29 y30=>(a y29 y30 G H y27 y28))) (aB (decide (y15=1)) (a8 y1 y2 1 C D y25 y26 (fun y27 y28 y29 y30=>(a y29 y30 G H y27 y28))) (aB (decide (y15=2)) (a8 y1 y2 1 G H y25 y26 (fun y27 y28 y29 y30=>(a y29 y30 G H y27 y28))) False))) False)))) (fun y27 y28 y29 y30 y31 y32=>(aA (decide (0≤y17)) (aA (decide (y17<(((length (t++([(.agg [(ic y13),(ic y14)])]:Ls))):Nat):Int))) (aA (decide ((length (t++([(.agg [(ic y13),(ic y14)])]:Ls)))=(length (t++([(.agg [(ic y13),(ic y14)])]:Ls))))) (aA (decide ((0+(y17.toNat))<(length (t++([(.agg [(ic y13),(ic y14)])]:Ls))))) (lt (getD (t++([(.agg [(ic y13),(ic y14)])]:Ls)) (0+(y17.toNat)) .nils) (fun y33=>(aA (aI z2 y33) (aB (decide (y15=0)) (aA (decide (0≤y15)) (aA (decide (y15<(((length (t++([(.agg [(ic y13),(ic y14)])]:Ls))):Nat):Int))) (aA (decide ((length (t++([(.agg [(ic y13),(ic y14)])]:Ls)))=(length (t++([(.agg [(ic y13),(ic y14)])]:Ls))))) (aA (decide ((0+(y15.toNat))<(length (t++([(.agg [(ic y13),(ic y14)])]:Ls))))) (lt (getD (t++([(.agg [(ic y13),(ic y14)])]:Ls)) (0+(y15.toNat)) .nils) (fun y34=>(aA (aI z2 y34) (x (set (t++([(.agg [(ic y13),(ic y14)])]:Ls)) (0+(y15.toNat)) (.agg [(ic (aJ (aQ y33 0))),(ic (aJ (aQ y33 1)))])) y27 y28 y31 y32 C D G H y29 y30 y31 y32)))))))) (aB (decide (y15=1)) (aA (decide (0≤y15)) (aA (decide (y15<(((length (t++([(.agg [(ic y13),(ic y14)])]:Ls))):Nat):Int))) (aA (decide ((length (t++([(.agg [(ic y13),(ic y14)])]:Ls)))=(length (t++([(.agg [(ic y13),(ic y14)])]:Ls))))) (aA (decide ((0+(y15.toNat))<(length (t++([(.agg [(ic y13),(ic y14)])]:Ls))))) (lt (getD (t++([(.agg [(ic y13),(ic y14)])]:Ls)) (0+(y15.toNat)) .nils) (fun y34=>(aA (aI z2 y34) (x (set (t++([(.agg [(ic y13),(ic y14)])]:Ls)) (0+(y15.toNat)) (.agg [(ic (aJ (aQ y33 0))),(ic (aJ (aQ y33 1)))])) y27 y28 w z y31 y32 G H y29 y30 y31 y32)))))))) (aB (decide (y15=2)) (aA (decide (0≤y15)) (aA (decide (y15<(((length (t++([(.agg [(ic y13),(ic y14)])]:Ls))):Nat):Int))) (aA (decide ((length (t++([(.agg [(ic y13),(ic y14)])]:Ls)))=(length (t++([(.agg [(ic y13),(ic y14)])]:Ls))))) (aA (decide ((0+(y15.toNat))<(length (t++([(.agg [(ic y13),(ic y14)])]:Ls))))) (lt (getD (t++([(.agg [(ic y13),(ic y14)])]:Ls)) (0+(y15.toNat)) .nils) (fun y34=>(aA (aI z2 y34) (x (set (t++([(.agg [(ic y13),(ic y14)])]:Ls)) (0+(y15.toNat)) (.agg [(ic (aJ (aQ y33 0))),(ic (aJ (aQ y33 1)))])) y27 y28 w z C D y31 y32 y29 y30 y31 y32)))))))) False)))))))))))))))))))))))))))))) (∃ n:Nat,ycd a0 a1 a2 a3 a4 a5 a6 a7 a8 (fun y20 y21 y22 y23 y24 y25 y26 y27 y28 y29 y30 y31 y32 y33 y34 y35 y36 y37 y38 y39 y40 y41 y42 y43 y44 y45 y46=>(a6 ([]:Ls) ([(ic 0),(ic 1),(ic 2)]:Ls) (fun y47=>(a7 ([(ic y47)]:Ls) (fun y48=>(aA (decide ((length y20)=(length (t++([(.agg [(ic y13),(ic y14)])]:Ls))))) (aA (decide ((0+(length (t++([(.agg [(ic y13),(ic y14)])]:Ls))))≤(length (t++([(.agg [(ic y13),(ic y14)])]:Ls))))) (a6 (take (length (t++([(.agg [(ic y13),(ic y14)])]:Ls))) y20) y48 (fun y49=>(jn (fun (y:Int→Prop)=>(jn (fun (Q:Bool→Prop)=>(aB (decide (y35≥0)) (Q (y35 !=y47)) (Q false))) (fun y50=>(aB y50 (y y35) (y y49))))) (fun y50=>(a7 ([(ic y50),(ic y47)]:Ls) (fun y51=>(aA (decide (0<(((length y51):Nat):Int))) (lt (getD y51 0 .nils) (fun y52=>(aA (aI zI y52) (K y23 y24 y25 y26 y27 y28 y29 y30 y31 y32 y33 y34 y35 y36 y37 y38 y39 (aJ y52) y50 y47 y21 y22)))))))))))))))))) (fun y20 y21 y22 y23 y24 y25 y26 y27 y28 y29 y30 y31 y32 y33 y34 y35 y36 y37 y38 y39 y40 y41 y42 y43 y44 y45 y46 y47=>(aA (decide ((length y21)=(length y21))) (aA (decide ((0+(length y21))≤(length y21))) (a6 (take (length y21) y21) ([(ic 0),(ic 1),(ic 2)]:Ls) (fun y48=>(a7 ([(ic y48)]:Ls) (fun y49=>(aA (decide ((length y20)=(length (t++([(.agg [(ic y13),(ic y14)])]:Ls))))) (aA (decide ((0+(length (t++([(.agg [(ic y13),(ic y14)])]:Ls))))≤(length (t++([(.agg [(ic y13),(ic y14)])]:Ls))))) (a6 (take (length (t++([(.agg [(ic y13),(ic y14)])]:Ls))) y20) y49 (fun y50=>(jn (fun (va:Int→Prop)=>(jn (fun (vb:Bool→Prop)=>(aB (decide (y36≥0)) (vb (y36 !=y48)) (vb false))) (fun y51=>(aB y51 (va y36) (va y50))))) (fun y51=>(a7 ([(ic y51),(ic y48)]:Ls) (fun y52=>(aA (decide (0<(((length y52):Nat):Int))) (lt (getD y52 0 .nils) (fun y53=>(aA (aI zI y53) (K y24 y25 y26 y27 y28 y29 y30 y31 y32 y33 y34 y35 y36 y37 y38 y39 y40 (aJ y53) y51 y48 y22 y23)))))))))))))))))))) n (t++([(.agg [(ic y13),(ic y14)])]:Ls)) y1 y2 w z A B C D E F G H I J L M N O P R S T 2 3 0))))))))))))))))) (fun y18 y19 y20 y21 y22 y23 y24 y25 y26 y27 y28 y29 y30=>(∃ n:Nat,ycd a0 a1 a2 a3 a4 a5 a6 a7 a8 (fun y31 y32 y33 y34 y35 y36 y37 y38 y39 y40 y41 y42 y43 y44 y45 y46 y47 y48 y49 y50 y51 y52 y53 y54 y55 y56 y57=>(a6 ([]:Ls) ([(ic 0),(ic 1),(ic 2)]:Ls) (fun y58=>(a7 ([(ic y58)]:Ls) (fun y59=>(aA (decide ((length y31)=(length (t++([(.agg [(ic y13),(ic y14)])]:Ls))))) (aA (decide ((0+(length (t++([(.agg [(ic y13),(ic y14)])]:Ls))))≤(length (t++([(.agg [(ic y13),(ic y14)])]:Ls))))) (a6 (take (length (t++([(.agg [(ic y13),(ic y14)])]:Ls))) y31) y59 (fun y60=>(jn (fun (vc:Int→Prop)=>(jn (fun (vd:Bool→Prop)=>(aB (decide (y46≥0)) (vd (y46 !=y58)) (vd false))) (fun y61=>(aB y61 (vc y46) (vc y60))))) (fun y61=>(a7 ([(ic y61),(ic y58)]:Ls) (fun y62=>(aA (decide (0<(((length y62):Nat):Int))) (lt (getD y62 0 .nils) (fun y63=>(aA (aI zI y63) (K y34 y35 y36 y37 y38 y39 y40 y41 y42 y43 y44 y45 y46 y47 y48 y49 y50 (aJ y63) y61 y58 y32 y33)))))))))))))))))) (fun y31 y32 y33 y34 y35 y36 y37 y38 y39 y40 y41 y42 y43 y44 y45 y46 y47 y48 y49 y50 y51 y52 y53 y54 y55 y56 y57 y58=>(aA (decide ((length y32)=(length y32))) (aA (decide ((0+(length y32))≤(length y32))) (a6 (take (length y32) y32) ([(ic 0),(ic 1),(ic 2)]:Ls) (fun y59=>(a7 ([(ic y59)]:Ls) (fun y60=>(aA (decide ((length y31)=(length (t++([(.agg [(ic y13),(ic y14)])]:Ls))))) (aA (decide ((0+(length (t++([(.agg [(ic y13),(ic y14)])]:Ls))))≤(length (t++([(.agg [(ic y13),(ic y14)])]:Ls))))) (a6 (take (length (t++([(.agg [(ic y13),(ic y14)])]:Ls))) y31) y60 (fun y61=>(jn (fun (ve:Int→Prop)=>(jn (fun (vf:Bool→Prop)=>(aB (decide (y47≥0)) (vf (y47 !=y59)) (vf false))) (fun y62=>(aB y62 (ve y47) (ve y61))))) (fun y62=>(a7 ([(ic y62),(ic y59)]:Ls) (fun y63=>(aA (decide (0<(((length y63):Nat):Int))) (lt (getD y63 0 .nils) (fun y64=>(aA (aI zI y64) (K y35 y36 y37 y38 y39 y40 y41 y42 y43 y44 y45 y46 y47 y48 y49 y50 y51 (aJ y64) y62 y59 y33 y34)))))))))))))))))))) n y18 y19 y20 y21 y22 A B y23 y24 E F y25 y26 I J y15 y27 y28 y29 y30 R S T 2 3 0))))))))))))))))))))))))))))))))))))))))) n r s d e m o m o p q p q g h (-1) 0 0 0 0 0 0 0 1 ([(.agg [(ic d),(ic e),(ic m),(ic o)]),(.agg [(ic m),(ic o),(ic p),(ic q)])]:Ls) 2 0)))))))))))))
def yc1:Ml:=Vk yaI yay yax yaL yab yaF yaE yaz yat
def Vl (w:Ml) (az:Ls) (b:HB) (K:PV→Ls→Prop):Prop:=
 match az,b with
 | [(.ptr 0 1 0 0)],⟨false,true,2,[(.agg [(.data p0),(.data p1)])]⟩=>w p0 p1 (fun r0 r1 r2 r3 r4 r5 r6 r7 r8 r9 r10 r11 r12 r13 r14 r15 r16 r17 r18 r19 r20 r21=>K (.agg [(ic r0),(ic r1),(ic r2),(ic r3),(ic r4),(ic r5),(ic r6),(ic r7),(ic r8),(ic r9),(ic r10),(ic r11),(ic r12),(ic r13),(ic r14),(ic r15),(ic r16),(ic r17),(ic r18),(ic r19)]) [(.agg [(.data r20),(.data r21)])])
 | _,_=>False
def X7 (az:Ls) (b:HB) (K:PV→Ls→Prop):Prop:=Vl yc1 az b K
def ymH (Q:Qx):Ls→Ls→bF (J4 (Int→Ls→Int→Int→Bool→Prop )):=(fun b c d e f g h i j k l m o p q r s t u v w z A B C D E=>Q (.exit 0) [(0,.v (.ptr 0 1 0 0)),(1,.v (ic A)),(7,.v .nils),(13,.v (.data B)),(14,.v (ic C)),(15,.v (ic D)),(16,.v (.bool E))] [⟨false,true,2,([(.agg [(.data b),(.data c)])]:Ls)⟩,⟨false,true,20,([(ga [d,e,f,g,h,i,j,k,l,m,o,p,q,r,s,t,u,v,w,z])]:Ls)⟩])
def X8 (Q:Qx):Ls→Ls→Ls→bF (J4 (Int→Ls→Int→Int→Bool→Prop )):=(fun b c d e f g h i j k l m o p q r s t u v w z A B C D E F=>Q (.exit 0) [(0,.v (.ptr 0 1 0 0)),(1,.v (ic B)),(7,.v (.own 2 0 (length b) (length b) none)),(13,.v (.data C)),(14,.v (ic D)),(15,.v (ic E)),(16,.v (.bool F))] [⟨false,true,2,([(.agg [(.data c),(.data d)])]:Ls)⟩,⟨false,true,20,([(ga [e,f,g,h,i,j,k,l,m,o,p,q,r,s,t,u,v,w,z,A])]:Ls)⟩,⟨false,true,2,b⟩])
def ymI (Q:Qx):Ls→Ls→Ls→bF (J4 (Int→Int→Int→Bool→Prop )):=(fun b c d e f g h i j k l m o p q r s t u v w z A B C D E=>Q (.exit 0) [(0,.v (.ptr 0 1 0 0)),(1,.v (ic B)),(7,.v .nils),(13,.v (.sub 1 1 0 0 3 4)),(14,.v (ic C)),(15,.v (ic D)),(16,.v (.bool E))] [⟨false,true,2,([(.agg [(.data c),(.data d)])]:Ls)⟩,⟨false,true,20,([(ga [e,f,g,h,i,j,k,l,m,o,p,q,r,s,t,u,v,w,z,A])]:Ls)⟩,⟨false,true,2,b⟩])
def X9 (Q:Qx):Ls→Ls→Ls→Ls→bF (J4 (Int→Int→Int→Bool→Prop )):=(fun b c d e f g h i j k l m o p q r s t u v w z A B C D E F=>Q (.exit 0) [(0,.v (.ptr 0 1 0 0)),(1,.v (ic C)),(7,.v (.own 3 0 (length c) (length c) none)),(13,.v (.sub 1 1 0 0 3 4)),(14,.v (ic D)),(15,.v (ic E)),(16,.v (.bool F))] [⟨false,true,2,([(.agg [(.data d),(.data e)])]:Ls)⟩,⟨false,true,20,([(ga [f,g,h,i,j,k,l,m,o,p,q,r,s,t,u,v,w,z,A,B])]:Ls)⟩,⟨false,true,2,b⟩,⟨false,true,2,c⟩])
def cY:iS:=vA (lC cB (lC cB (lC cB (lC cB (lC cB (lC cB (lC cB (lC cB (lC cB (lC cB (lC cB (lC cB (lC cB (lC cB Cl))))))))))))))
def Ii:HPt:=hB false true 2 (rC iU rN) (hB false true 20 (rC cY rN) (hB false true 2 rA hN))
def Ij:Pat aD:=fV 13 (OT 1 0 3 4 (nK 1) (nK 0)) (fV 14 cB (fV 15 cB fN))
def Y3 (a0:cC) (a1:uD) (a2:uE) (a3:kR) (a4:kP) (a5:cQ) (a6:gI) (a7:kQ) (a8:qL) (Q:Qx):List St:=[⟨(pS (hB false true 2 (rC iU rN) (hB false true 20 (rC cY rN) hN)) (fV 0 gV (fV 1 cB (fV 7 GS Cq))) fN),ycN a0 a1 a2 a3 a4 a5 a6 a7 a8 (ymH Q) (X8 Q)⟩,⟨(pS Ii (fV 0 gV (fV 1 cB (fV 7 (vW 2 (nK 0) (nT 2) (nT 2)) Cq))) fN),fun n b c d e f g h i j k l m o p q r s t u v w z A B C D E=>AD a0 a1 a2 a3 a4 a5 a6 a7 a8 (X8 Q) n A b c d e f g h i j k l m o p q r s t u v w z B C D E⟩,⟨(pS Ii (fV 0 gV (fV 1 cB (fV 7 GS Ij))) fN),fun n b c d e f g h i j k l m o p q r s t u v w z A B C D=>ycd a0 a1 a2 a3 a4 a5 a6 a7 a8 (ymI Q) (X9 Q) n A b c d e f g h i j k l m o p q r s t u v w z B C D⟩,⟨(pS (hB false true 2 (rC iU rN) (hB false true 20 (rC cY rN) (hB false true 2 rA (hB false true 2 rA hN)))) (fV 0 gV (fV 1 cB (fV 7 (vW 3 (nK 0) (nT 3) (nT 3)) Ij))) fN),fun n b c d e f g h i j k l m o p q r s t u v w z A B C D E=>uF a0 a1 a2 a3 a4 a5 a6 a7 a8 (X9 Q) n A B b c d e f g h i j k l m o p q r s t u v w z C D E⟩]
def Vm (a0:cC) (a1:uD) (a2:uE) (a3:kR) (a4:kP) (a5:cQ) (a6:gI) (a7:kQ) (a8:qL):LP:=gL [(38310000,Y3 a0 a1 a2 a3 a4 a5 a6 a7 a8)]
def Y4 (e:Es) (a0:cC) (a1:uD) (a2:uE) (a3:kR) (a4:kP) (a5:cQ) (a6:gI) (a7:kQ) (a8:qL):SE:=⟨(E e),yhr [(BA,lZ.pw a0),(Hn,oY.pw a3),(vR,Cp.pw a4),(Aj,yeb.pw a5),(Ho,Mi.pw a6),(Hq,qK.pw a7)],yhs [],Vm a0 a1 a2 a3 a4 a5 a6 a7 a8,yp7 [(BB,Mg a1),(Ak,Mh a2),(vT,Ig a8)]⟩
def Y5 (e:Es) (a0:cC) (a1:uD) (a2:uE) (a3:kR) (a4:kP) (a5:cQ) (a6:gI) (a7:kQ) (a8:qL):SE:=⟨(E e),yhr [(BA,lZ.pw a0),(Hn,oY.pw a3),(vR,Cp.pw a4),(Aj,yeb.pw a5),(Ho,Mi.pw a6),(Hq,qK.pw a7)],yhs [(ZU,PN)],Vm a0 a1 a2 a3 a4 a5 a6 a7 a8,yp7 [(BB,Mg a1),(Ak,Mh a2),(vT,Ig a8)]⟩
theorem yoW (e:Es) (he:EG e):SEOk (Uni (E e)) (Y4 e yaI yay yax yaL yab yaF yaE yaz yat):=Ec (aK.uni _) ⟨(Me e he),(TE e he),(Ie e he),(EL e he),(Ve e he),(Vj e he),trivial⟩ trivial he.ok ⟨(V5 e he),(W5 e he),(UZ e he),trivial⟩
theorem ylt (e:Es) (a0 a1 a2 a3 a4 a5 a6 a7 a8):fY (Y4 e a0 a1 a2 a3 a4 a5 a6 a7 a8) 5 a PO false (Y3 a0 a1 a2 a3 a4 a5 a6 a7 a8):=fun _=>⟨fun _=>by kernel_rfl,fun _ _=>by kernel_rfl,fun _=>by kernel_rfl,fun _ _=>by kernel_rfl,fun _=>by kernel_rfl,fun _ _=>by kernel_rfl,fun _=>by kernel_rfl,fun _ _=>by kernel_rfl,trivial⟩
theorem ylu (e:Es) (he:EG e):dF (Uni (E e)) (Vm yaI yay yax yaL yab yaF yaE yaz yat) [] 38310000 (.loop 38310000 PO):=fun _ _ _=>cA.st (aK.uni _) (cU (yoW e he) 5) (cH.no _ _) (bC (by kernel_rfl)) (ylt e _ _ _ _ _ _ _ _ _ _)
theorem yoX (e:Es) (he:EG e):SEOk (Uni (E e)) (Y5 e yaI yay yax yaL yab yaF yaE yaz yat):=Ec (aK.uni _) ⟨(Me e he),(TE e he),(Ie e he),(EL e he),(Ve e he),(Vj e he),trivial⟩ ⟨⟨by kernel_rfl,by kernel_rfl,rfl,fun az=>vO (by kernel_rfl) az,he.num _ (by kernel_rfl),by kernel_rfl,(dT (l:=[(38310000,.loop 38310000 PO)]) ⟨ylu e he,trivial⟩ (by kernel_rfl))⟩,trivial⟩ he.ok ⟨(V5 e he),(W5 e he),(UZ e he),trivial⟩
theorem ypP (e:Es) (a0 a1 a2 a3 a4 a5 a6 a7 a8 p0 p1 K):tD (Y5 e a0 a1 a2 a3 a4 a5 a6 a7 a8) 6 Lh [(.ptr 0 1 0 0)] ⟨false,true,2,[(.agg [(.data p0),(.data p1)])]⟩ K=Vk a0 a1 a2 a3 a4 a5 a6 a7 a8 p0 p1 (fun b c d e f g h i j k l m o p q r s t u v w z=>K (ga [b,c,d,e,f,g,h,i,j,k,l,m,o,p,q,r,s,t,u,v]) [(.agg [(.data w),(.data z)])]):=by kernel_rfl
theorem ypQ (e:Es) (he:EG e):xJ (E e) X7 yaW:=by
 intro az b K h;unfold X7 Vl at h;split at h
 ·exact xH (yoX e he) aY.flat (bC (by kernel_rfl)) (by kernel_rfl) (he.num _ (by kernel_rfl)) ((ypP ..).mpr h)
 ·exact h.elim
abbrev Cr:Type:=Ls→Ls→(Ls→Ls→bF (J4 (Int→Prop)))→Prop
def Mm (a0:gI) (a1:Ml) (b c:Ls) (K:Ls→Ls→bF (J4 (Int→Prop))):Prop:=
 (a0 b c (fun d=>(aB (d !=0) (K ([]:Ls) ([]:Ls) 0 0 0 0 0 0 0 0 0 0 0 0 0 0 0 0 0 0 0 0 d) (a1 b c (fun e f g h i j k l m o p q r s t u v w z A B C=>(K B C e f g h i j k l m o p q r s t u v w z A 0))))))
def FA:Cr:=Mm xZ yc1
def ypD:Sg:=⟨xS,Ls→Ls→Int→Int→Int→Int→Int→Int→Int→Int→Int→Int→Int→Int→Int→Int→Int→Int→Int→Int→Int→Int→Int→Prop,fun K=>(fun r0 r1 r2 r3 r4 r5 r6 r7 r8 r9 r10 r11 r12 r13 r14 r15 r16 r17 r18 r19 r20 r21 r22=>K (.tup [(.agg [(.data r0),(.data r1)]),(.agg [(ic r2),(ic r3),(ic r4),(ic r5),(ic r6),(ic r7),(ic r8),(ic r9),(ic r10),(ic r11),(ic r12),(ic r13),(ic r14),(ic r15),(ic r16),(ic r17),(ic r18),(ic r19),(ic r20),(ic r21)]),(ic r22)]))⟩
def yyk (e:Es) (a0:gI) (a1:Ml):SE:=⟨(E e),yhr [(Hb,mX.pw a0)],yhs [(mU,HE)],bX,yp7 [(yaW,Vl a1)]⟩
theorem yyl (e:Es) (a0 a1):bN (yyk e a0 a1) 6 Li ypD (Mm a0 a1):=fun _ _=>by kernel_rfl
theorem yym (e:Es) (he:EG e):bL (E e) (ypD.pw FA) rR:=bQ he (yyl e _ _) (Ec (aK.uni _) ⟨(U9 e he),trivial⟩ ⟨⟨by kernel_rfl,by kernel_rfl,rfl,fun az=>vO (by kernel_rfl) az,he.num _ (by kernel_rfl),by kernel_rfl,(bC (by kernel_rfl))⟩,trivial⟩ he.ok ⟨(ypQ e he),trivial⟩) aY.flat (bC (by kernel_rfl))
abbrev Mn:Type:=(Int→Prop)→Prop
def Y6 (K:Int→Prop):Prop:=
 (K 16)
def Ct:Mn:=Y6
def Mo:Sg:=⟨lN,Int→Prop,fun K=>(fun r0=>K (ic r0))⟩
def yyo (e:Es):SE:=sE (E e) [] bX
theorem yyp (e:Es):bN (yyo e) 6 I4 Mo Y6:=fun _ _=>by kernel_rfl
theorem Y7 (e:Es) (he:EG e):bL (E e) (Mo.pw Ct) HA:=bQ he (yyp e) (bK (aK.uni _) trivial trivial he.ok) aY.flat (bC (by kernel_rfl))
set_option linter.unusedVariables false
theorem yyq (p0 p1:Ls) (r0:Int) (h:∀ K:Int→Prop,K r0→yaE p0 p1 K) (K:Int→Prop):yaE p0 p1 K=K r0:=
 Aab ⟨fun k=>cI (Ve [] dQ) (az:=[(.data p0),(.data p1)]) (x:=(ic r0)) (fun K' k'=>h (fun r0=>K' (ic r0)) k') (K:=fun x=>match x with | (ic r0)=>K r0 | _=>False) k,h K⟩
theorem yA (p0 r0:Ls) (h:∀ K:Ls→Prop,K r0→yaz p0 K) (K:Ls→Prop):yaz p0 K=K r0:=
 Aab ⟨fun k=>cI (Vj [] dQ) (az:=[(.data p0)]) (x:=(.data r0)) (fun K' k'=>h (fun r0=>K' (.data r0)) k') (K:=fun x=>match x with | (.data r0)=>K r0 | _=>False) k,h K⟩
set_option maxHeartbeats 0
def Vn (a0:gI) (b c:Ls) (K:Int→Prop):Prop:=
 (a0 b c (fun d=>(aB (d !=0) (K d) (aB ((((length b):Nat):Int) !=3) (K 2) (K 0)))))
def Mp:gI:=Vn yeV
def yDT (e:Es) (a0:gI):SE:=sE (E e) [(Hr,mX.pw a0)] bX
theorem yDU (e:Es) (a0):bN (yDT e a0) 6 D8 mX (Vn a0):=fun _ _=>by kernel_rfl
theorem yDV (e:Es) (he:EG e):bL (E e) (mX.pw Mp) KN:=bQ he (yDU e _) (bK (aK.uni _) ⟨(UI e he),trivial⟩ trivial he.ok) aY.flat (bC (by kernel_rfl))
abbrev fL:Type:=Ls→Ls→J4 ((Int→Int→Ls→Ls→Int→Prop)→Prop)
def Ik (a0:cQ) (b c:Ls) (d e f g:Int) (K:Int→Int→Ls→Ls→Int→Prop):Prop:=
 (aB (d !=0) (K 0 1 b c d) (a0 e f g 3 (fun h i j=>(K h i b c j))))
def fB:fL:=Ik ygs
def Vo (w:fL) (az:Ls) (b:HB) (K:PV→Ls→Prop):Prop:=
 match az,b with
 | [(.ptr 0 1 0 0),(.agg [(ic p3),(ic p4)]),(ic p5)],⟨false,true,3,[(.agg [(.data p0),(.data p1),(ic p2)])]⟩=>w p0 p1 p2 p3 p4 p5 (fun r0 r1 r2 r3 r4=>K (.agg [(ic r0),(ic r1)]) [(.agg [(.data r2),(.data r3),(ic r4)])])
 | _,_=>False
def Y8 (az:Ls) (b:HB) (K:PV→Ls→Prop):Prop:=Vo fB az b K
def Y9 (e:Es) (a0:cQ):SE:=sE (E e) [(Ew,yeb.pw a0)] bX
theorem yrU (e:Es) (he:EG e):SEOk (Uni (E e)) (Y9 e ygs):=bK (aK.uni _) ⟨(TP e he),trivial⟩ trivial he.ok
theorem yt8 (e:Es) (a0 p0 p1 p2 p3 p4 p5 K):tD (Y9 e a0) 6 E6 [(.ptr 0 1 0 0),(.agg [(ic p3),(ic p4)]),(ic p5)] ⟨false,true,3,[(.agg [(.data p0),(.data p1),(ic p2)])]⟩ K=Ik a0 p0 p1 p2 p3 p4 p5 (fun b c d e f=>K (.agg [(ic b),(ic c)]) [(.agg [(.data d),(.data e),(ic f)])]):=by kernel_rfl
theorem yt9 (e:Es) (he:EG e):xJ (E e) Y8 Ey:=by
 intro az b K h;unfold Y8 Vo at h;split at h
 ·exact xH (yrU e he) aY.flat (bC (by kernel_rfl)) (by kernel_rfl) (he.num _ (by kernel_rfl)) ((yt8 ..).mpr h)
 ·exact h.elim
abbrev fC:Type:=Ls→Ls→J4 (Int→Int→(Int→Int→Ls→Ls→Int→Prop)→Prop)
def Il (a0:kR) (b c:Ls) (d e f g h i:Int) (K:Int→Int→Ls→Ls→Int→Prop):Prop:=
 (aB (d !=0) (K 0 1 b c d) (a0 b c e f g h i (fun j k l m o=>(K l m j k o))))
def yaj:fC:=Il Fu
def Vp (w:fC) (az:Ls) (b:HB) (K:PV→Ls→Prop):Prop:=
 match az,b with
 | [(.ptr 0 1 0 0),(ic p3),(.agg [(ic p4),(ic p5)]),(.agg [(ic p6),(ic p7)])],⟨false,true,3,[(.agg [(.data p0),(.data p1),(ic p2)])]⟩=>w p0 p1 p2 p3 p4 p5 p6 p7 (fun r0 r1 r2 r3 r4=>K (.agg [(ic r0),(ic r1)]) [(.agg [(.data r2),(.data r3),(ic r4)])])
 | _,_=>False
def Z0 (az:Ls) (b:HB) (K:PV→Ls→Prop):Prop:=Vp yaj az b K
def Z1 (e:Es) (a0:kR):SE:=sE (E e) [(KX,oY.pw a0)] bX
theorem yrV (e:Es) (he:EG e):SEOk (Uni (E e)) (Z1 e Fu):=bK (aK.uni _) ⟨(yFS e he),trivial⟩ trivial he.ok
theorem yua (e:Es) (a0 p0 p1 p2 p3 p4 p5 p6 p7 K):tD (Z1 e a0) 6 H9 [(.ptr 0 1 0 0),(ic p3),(.agg [(ic p4),(ic p5)]),(.agg [(ic p6),(ic p7)])] ⟨false,true,3,[(.agg [(.data p0),(.data p1),(ic p2)])]⟩ K=Il a0 p0 p1 p2 p3 p4 p5 p6 p7 (fun b c d e f=>K (.agg [(ic b),(ic c)]) [(.agg [(.data d),(.data e),(ic f)])]):=by kernel_rfl
theorem yub (e:Es) (he:EG e):xJ (E e) Z0 BL:=by
 intro az b K h;unfold Z0 Vp at h;split at h
 ·exact xH (yrV e he) aY.flat (bC (by kernel_rfl)) (by kernel_rfl) (he.num _ (by kernel_rfl)) ((yua ..).mpr h)
 ·exact h.elim
def Mq (a0:kR) (b c:Ls) (d e f g h i:Int) (K:Int→Int→Ls→Ls→Int→Prop):Prop:=
 (aB (d !=0) (K 0 1 b c d) (a0 b c e f g h i (fun j k l m o=>(K l m j k o))))
def yai:fC:=Mq Cn
def Vq (w:fC) (az:Ls) (b:HB) (K:PV→Ls→Prop):Prop:=
 match az,b with
 | [(.ptr 0 1 0 0),(ic p3),(.agg [(ic p4),(ic p5),(ic p6),(ic p7)])],⟨false,true,3,[(.agg [(.data p0),(.data p1),(ic p2)])]⟩=>w p0 p1 p2 p3 p4 p5 p6 p7 (fun r0 r1 r2 r3 r4=>K (.agg [(ic r0),(ic r1)]) [(.agg [(.data r2),(.data r3),(ic r4)])])
 | _,_=>False
def Z2 (az:Ls) (b:HB) (K:PV→Ls→Prop):Prop:=Vq yai az b K
def Z3 (e:Es) (a0:kR):SE:=sE (E e) [(KY,oY.pw a0)] bX
theorem yq2 (e:Es) (he:EG e):SEOk (Uni (E e)) (Z3 e Cn):=bK (aK.uni _) ⟨(yDS e he),trivial⟩ trivial he.ok
theorem yrW (e:Es) (a0 p0 p1 p2 p3 p4 p5 p6 p7 K):tD (Z3 e a0) 6 I1 [(.ptr 0 1 0 0),(ic p3),(ga [p4,p5,p6,p7])] ⟨false,true,3,[(.agg [(.data p0),(.data p1),(ic p2)])]⟩ K=Mq a0 p0 p1 p2 p3 p4 p5 p6 p7 (fun b c d e f=>K (.agg [(ic b),(ic c)]) [(.agg [(.data d),(.data e),(ic f)])]):=by kernel_rfl
theorem yrX (e:Es) (he:EG e):xJ (E e) Z2 xL:=by
 intro az b K h;unfold Z2 Vq at h;split at h
 ·exact xH (yq2 e he) aY.flat (bC (by kernel_rfl)) (by kernel_rfl) (he.num _ (by kernel_rfl)) ((yrW ..).mpr h)
 ·exact h.elim
abbrev fM:Type:=Ls→Ls→J4 (Int→(Int→Int→Ls→Ls→Int→Prop)→Prop)
def Mr (a0:cQ) (b c:Ls) (d e f g h:Int) (K:Int→Int→Ls→Ls→Int→Prop):Prop:=
 (aB (d !=0) (K 0 1 b c d) (a0 e f g h (fun i j k=>(K i j b c k))))
def yap:fM:=Mr wD
def Vr (w:fM) (az:Ls) (b:HB) (K:PV→Ls→Prop):Prop:=
 match az,b with
 | [(.ptr 0 1 0 0),(.agg [(ic p3),(ic p4)]),(.agg [(ic p5),(ic p6)])],⟨false,true,3,[(.agg [(.data p0),(.data p1),(ic p2)])]⟩=>w p0 p1 p2 p3 p4 p5 p6 (fun r0 r1 r2 r3 r4=>K (.agg [(ic r0),(ic r1)]) [(.agg [(.data r2),(.data r3),(ic r4)])])
 | _,_=>False
def Z4 (az:Ls) (b:HB) (K:PV→Ls→Prop):Prop:=Vr yap az b K
def Z5 (e:Es) (a0:cQ):SE:=sE (E e) [(EA,yeb.pw a0)] bX
theorem yrY (e:Es) (he:EG e):SEOk (Uni (E e)) (Z5 e wD):=bK (aK.uni _) ⟨(Uc e he),trivial⟩ trivial he.ok
theorem yuc (e:Es) (a0 p0 p1 p2 p3 p4 p5 p6 K):tD (Z5 e a0) 6 I2 [(.ptr 0 1 0 0),(.agg [(ic p3),(ic p4)]),(.agg [(ic p5),(ic p6)])] ⟨false,true,3,[(.agg [(.data p0),(.data p1),(ic p2)])]⟩ K=Mr a0 p0 p1 p2 p3 p4 p5 p6 (fun b c d e f=>K (.agg [(ic b),(ic c)]) [(.agg [(.data d),(.data e),(ic f)])]):=by kernel_rfl
theorem yud (e:Es) (he:EG e):xJ (E e) Z4 BM:=by
 intro az b K h;unfold Z4 Vr at h;split at h
 ·exact xH (yrY e he) aY.flat (bC (by kernel_rfl)) (by kernel_rfl) (he.num _ (by kernel_rfl)) ((yuc ..).mpr h)
 ·exact h.elim
abbrev fS:Type:=J4 (Int→Int→Bool→Bool→Bool→(Int→Prop)→Prop)
def mC (a0:bZ) (x0:J4 (Int→Int→Bool→Bool→Bool→Int→Int→Bool→Prop)):Nat→J4 (Int→Int→Bool→Bool→Bool→Int→Int→Prop)
 | 0,_,_,_,_,_,_,_,_,_,_,_=>False
 | n+1,b,c,d,e,f,g,h,i,j,k,l=>
 (aB (decide (l<3)) (jn (fun (o:Int→Prop)=>(jn (fun (a:Bool→Prop)=>(aB (decide (l=0)) (aB (!h) (aB (decide (k<0)) (a true) (aB (decide (k=0)) (aB (decide (l=0)) (a0 b c b c a) (aB (decide (l=1)) (a0 b c d e a) (aB (decide (l=2)) (a0 b c f g a) False))) (aB (decide (k=1)) (aB (decide (l=0)) (a0 d e b c a) (aB (decide (l=1)) (a0 d e d e a) (aB (decide (l=2)) (a0 d e f g a) False))) (aB (decide (k=2)) (aB (decide (l=0)) (a0 f g b c a) (aB (decide (l=1)) (a0 f g d e a) (aB (decide (l=2)) (a0 f g f g a) False))) False)))) (a false)) (aB (decide (l=1)) (aB (!i) (aB (decide (k<0)) (a true) (aB (decide (k=0)) (aB (decide (l=0)) (a0 b c b c a) (aB (decide (l=1)) (a0 b c d e a) (aB (decide (l=2)) (a0 b c f g a) False))) (aB (decide (k=1)) (aB (decide (l=0)) (a0 d e b c a) (aB (decide (l=1)) (a0 d e d e a) (aB (decide (l=2)) (a0 d e f g a) False))) (aB (decide (k=2)) (aB (decide (l=0)) (a0 f g b c a) (aB (decide (l=1)) (a0 f g d e a) (aB (decide (l=2)) (a0 f g f g a) False))) False)))) (a false)) (aB (decide (l=2)) (aB (!j) (aB (decide (k<0)) (a true) (aB (decide (k=0)) (aB (decide (l=0)) (a0 b c b c a) (aB (decide (l=1)) (a0 b c d e a) (aB (decide (l=2)) (a0 b c f g a) False))) (aB (decide (k=1)) (aB (decide (l=0)) (a0 d e b c a) (aB (decide (l=1)) (a0 d e d e a) (aB (decide (l=2)) (a0 d e f g a) False))) (aB (decide (k=2)) (aB (decide (l=0)) (a0 f g b c a) (aB (decide (l=1)) (a0 f g d e a) (aB (decide (l=2)) (a0 f g f g a) False))) False)))) (a false)) False)))) (fun m=>(aB m (o l) (o k))))) (fun m=>(lt (i64.wrap (l+1)) (mC a0 x0 n b c d e f g h i j m)))) (x0 b c d e f g h i j k l false))
def FC (a0:bZ) (b c d e f g:Int) (h i j:Bool) (K:Int→Prop):Prop:=
 (∃ n:Nat,mC a0 (fun k l m o p q r s t u v w=>(K u)) n b c d e f g h i j (-1) 0)
def yaA:fS:=FC yaC
def kS:iS:=vA Cl
def lS:iS:=vA (lC vB (lC vB (lC vB lN)))
def Vs:Sg:=⟨(lC kS (lC lS lN)),Int→Prop,fun K=>(fun r0=>K (ic r0))⟩
def yAg (Q:Qx):J4 (Int→Int→Bool→Bool→Bool→Int→Int→Bool→Prop ):=(fun b c d e f g h i j k l m=>Q (.exit 0) [(2,.box (ga [b,c,d,e,f,g])),(3,.box (.agg [(.bool h),(.bool i),(.bool j)])),(5,.v (ic k)),(6,.v (ic l)),(8,.v (.bool m))] [])
def Z6 (a0:bZ) (Q:Qx):List St:=[⟨(pS hN (fX 2 kS (fX 3 lS (fV 5 cB xY))) fN),mC a0 (yAg Q)⟩]
def Z7 (a0:bZ):LP:=gL [(68799000,Z6 a0)]
def Vt (e:Es) (a0:bZ):SE:=sE (E e) [(rS,nJ.pw a0)] (Z7 a0)
theorem Z8 (e:Es) (he:EG e):SEOk (Uni (E e)) (Vt e yaC):=bK (aK.uni _) ⟨(Az e he),trivial⟩ trivial he.ok
theorem yyr (e:Es) (a0):fY (Vt e a0) 5 a Qm false (Z6 a0):=fun _=>⟨fun _=>by kernel_rfl,fun _ _=>by kernel_rfl,trivial⟩
theorem yys (e:Es) (he:EG e):dF (Uni (E e)) (Z7 yaC) [] 68799000 (.loop 68799000 Qm):=fun _ _ _=>cA.st (aK.uni _) (cU (Z8 e he) 5) (cH.no _ _) (bC (by kernel_rfl)) (yyr e _ _)
theorem yFX (e:Es) (a0):bN (Vt e a0) 6 Ql Vs (FC a0):=fun _ _=>by kernel_rfl
theorem Z9 (e:Es) (he:EG e):bL (E e) (Vs.pw yaA) Al:=bQ he (yFX e _) (Z8 e he) aY.flat (dT (l:=[(68799000,.loop 68799000 Qm)]) ⟨yys e he,trivial⟩ (by kernel_rfl))
abbrev Ms:Type:=Ls→Ls→Int→(bF (J4 (Ls→Ls→Int→Prop)))→Prop
def Im (a0:cC) (a1:bY) (a2:fL) (a3 a4:fC) (a5:fM) (a6:fS) (a7:bZ) (x0:Ls→Ls→bF (bF (J4 (J4 (J4 (Int→Int→Int→Bool→Bool→Bool→Prop)))))):Nat→Ls→Ls→bF (bF (bF (Bool→Bool→Bool→Int→Prop)))
 | _,b,c,d,e,f,g,h,i,j,k,l,m,o,p,q,r,s,t,u,v,w,z,A,B,C,D,E,F,G,H,I,J,L,M,N,O,P,R,S,T,U,V,W,X,Y,Z,y0,y1,y2,y3,y4,y5,y6,y7=>
 (aB (decide (y7=0)) (aB (decide (y3=0)) (x0 b c d e f g h i j k l m o p q r s t u v w z A B C D E F G H I J L M N O P R S T U V W X Y Z y0 y1 y2 y4 y5 y6) (aB (decide (y3=1)) (x0 b c d e f g h i j k l m o p q r s t u v w z A B C D E F G H I J L M N O P R S T U V W X Y X Y y1 y2 y4 y5 y6) (aB (decide (y3=2)) (x0 b c d e f g h i j k l m o p q r s t u v w z A B C D E F G H I J L M N O P R S T U V W X Y Z y0 X Y y4 y5 y6) False))) (aB (decide (y7=1)) (aB (decide (y3=0)) (x0 b c d e f g h i j k l m o p q r s t u v w z A B C D E F G H I J L M N O P R S T U V W Z y0 Z y0 y1 y2 y4 y5 y6) (aB (decide (y3=1)) (x0 b c d e f g h i j k l m o p q r s t u v w z A B C D E F G H I J L M N O P R S T U V W X Y Z y0 y1 y2 y4 y5 y6) (aB (decide (y3=2)) (x0 b c d e f g h i j k l m o p q r s t u v w z A B C D E F G H I J L M N O P R S T U V W X Y Z y0 Z y0 y4 y5 y6) False))) (aB (decide (y7=2)) (aB (decide (y3=0)) (x0 b c d e f g h i j k l m o p q r s t u v w z A B C D E F G H I J L M N O P R S T U V W y1 y2 Z y0 y1 y2 y4 y5 y6) (aB (decide (y3=1)) (x0 b c d e f g h i j k l m o p q r s t u v w z A B C D E F G H I J L M N O P R S T U V W X Y y1 y2 y1 y2 y4 y5 y6) (aB (decide (y3=2)) (x0 b c d e f g h i j k l m o p q r s t u v w z A B C D E F G H I J L M N O P R S T U V W X Y Z y0 y1 y2 y4 y5 y6) False))) False)))
def Cu (a0:cC) (a1:bY) (a2:fL) (a3 a4:fC) (a5:fM) (a6:fS) (a7:bZ) (x0:Ls→Ls→bF (bF (J4 (J4 (Int→Prop))))) (x1:Ls→Ls→bF (bF (J4 (J4 (Int→Bool→Prop))))):Nat→Ls→Ls→bF (bF (J4 (J4 (Int→Bool→Prop))))
 | _,b,c,d,e,f,g,h,i,j,k,l,m,o,p,q,r,s,t,u,v,w,z,A,B,C,D,E,F,G,H,I,J,L,M,N,O,P,R,S,T,U,V,W,X=>
 (aB X (x0 b c d e f g h i j k l m o p q r s t u v w z A B C D E F G H I J L M N O P R S T U O W) (x1 b c d e f g h i j k l m o p q r s t u v w z A B C D E F G H I J L M N O P R S T U V W false))
def Cv (a0:cC) (a1:bY) (a2:fL) (a3 a4:fC) (a5:fM) (a6:fS) (a7:bZ) (x0:Ls→Ls→bF (J4 (Int→Prop))):Nat→Ls→Ls→bF (bF (J4 (J4 (Int→Prop))))
 | _,b,c,d,e,f,g,h,i,j,k,l,m,o,p,q,r,s,t,u,v,w,z,A,B,C,D,E,F,G,H,I,J,L,M,N,O,P,R,S,T,U,V,W=>
 (lt (i64.wrap (3-V)) (fun X=>(lt (i64.wrap (X-W)) (fun Y=>(x0 b c d B C D E F G H I J L M N O P R S T Y V W)))))
def Cw (a0:cC) (a1:bY) (a2:fL) (a3 a4:fC) (a5:fM) (a6:fS) (a7:bZ) (x0:Ls→Ls→bF (J4 (Int→Prop))):Nat→Ls→Ls→bF (bF (J4 (J4 (Int→Bool→Prop))))
 | _,b,c,d,e,f,g,h,i,j,k,l,m,o,p,q,r,s,t,u,v,w,z,A,B,C,D,E,F,G,H,I,J,L,M,N,O,P,R,S,T,U,V,W,X=>
 (lt (i64.wrap (3-V)) (fun Y=>(lt (i64.wrap (Y-W)) (fun Z=>(x0 b c d B C D E F G H I J L M N O P R S T Z V W)))))
def Io (a0:cC) (a1:bY) (a2:fL) (a3 a4:fC) (a5:fM) (a6:fS) (a7:bZ) (x0:Ls→Ls→bF (bF (J4 (J4 (J4 (Int→Int→Int→Bool→Bool→Bool→Prop)))))):Nat→Ls→Ls→bF (bF (bF (Bool→Bool→Bool→Int→Int→Int→Prop)))
 | _,b,c,d,e,f,g,h,i,j,k,l,m,o,p,q,r,s,t,u,v,w,z,A,B,C,D,E,F,G,H,I,J,L,M,N,O,P,R,S,T,U,V,W,X,Y,Z,y0,y1,y2,y3,y4,y5,y6,y7,y8,y9=>
 (aB (decide (y3=0)) (∃ m0:Nat,Im a0 a1 a2 a3 a4 a5 a6 a7 x0 m0 b c d e f g h i j k l m o p q r s t u v w z A y8 y9 D E F G H I J L M N O P R S T U V W X Y Z y0 y1 y2 y3 y4 y5 y6 y7) (aB (decide (y3=1)) (∃ m0:Nat,Im a0 a1 a2 a3 a4 a5 a6 a7 x0 m0 b c d e f g h i j k l m o p q r s t u v w z A B C D E y8 y9 H I J L M N O P R S T U V W X Y Z y0 y1 y2 y3 y4 y5 y6 y7) (aB (decide (y3=2)) (∃ m0:Nat,Im a0 a1 a2 a3 a4 a5 a6 a7 x0 m0 b c d e f g h i j k l m o p q r s t u v w z A B C D E F G H I y8 y9 M N O P R S T U V W X Y Z y0 y1 y2 y3 y4 y5 y6 y7) False)))
def Mt (a0:cC) (a1:bY) (a2:fL) (a3 a4:fC) (a5:fM) (a6:fS) (a7:bZ) (x0:Ls→Ls→bF (J4 (Int→Prop))):Nat→Ls→Ls→bF (bF (J4 (J4 (Int→Bool→Bool→Bool→Prop))))
 | _,b,c,d,e,f,g,h,i,j,k,l,m,o,p,q,r,s,t,u,v,w,z,A,B,C,D,E,F,G,H,I,J,L,M,N,O,P,R,S,T,U,V,W,X,Y,Z=>
 (aB (decide (O≥0)) (aB (decide (O=0)) (∃ m0:Nat,Cu a0 a1 a2 a3 a4 a5 a6 a7 (fun y0 y1 y2 y3 y4 y5 y6 y7 y8 y9 y10 y11 y12 y13 y14 y15 y16 y17 y18 y19 y20 y21 y22 y23 y24 y25 y26 y27 y28 y29 y30 y31 y32 y33 y34 y35 y36 y37 y38 y39 y40 y41 y42=>(∃ m1:Nat,Cv a0 a1 a2 a3 a4 a5 a6 a7 x0 m1 y0 y1 y2 y3 y4 y5 y6 y7 y8 y9 y10 y11 y12 y13 y14 y15 y16 y17 y18 y19 y20 y21 y22 y23 y24 y25 y26 y27 y28 y29 y30 y31 y32 y33 y34 y35 y36 y37 y38 y39 y40 y41 y42)) (fun y0 y1 y2 y3 y4 y5 y6 y7 y8 y9 y10 y11 y12 y13 y14 y15 y16 y17 y18 y19 y20 y21 y22 y23 y24 y25 y26 y27 y28 y29 y30 y31 y32 y33 y34 y35 y36 y37 y38 y39 y40 y41 y42 y43=>(∃ m1:Nat,Cw a0 a1 a2 a3 a4 a5 a6 a7 x0 m1 y0 y1 y2 y3 y4 y5 y6 y7 y8 y9 y10 y11 y12 y13 y14 y15 y16 y17 y18 y19 y20 y21 y22 y23 y24 y25 y26 y27 y28 y29 y30 y31 y32 y33 y34 y35 y36 y37 y38 y39 y40 y41 y42 y43)) m0 b c d e f g h i j k l m o p q r s t u v w z A B C D E F G H I J L M N O P R S T U V W (!X)) (aB (decide (O=1)) (∃ m0:Nat,Cu a0 a1 a2 a3 a4 a5 a6 a7 (fun y0 y1 y2 y3 y4 y5 y6 y7 y8 y9 y10 y11 y12 y13 y14 y15 y16 y17 y18 y19 y20 y21 y22 y23 y24 y25 y26 y27 y28 y29 y30 y31 y32 y33 y34 y35 y36 y37 y38 y39 y40 y41 y42=>(∃ m1:Nat,Cv a0 a1 a2 a3 a4 a5 a6 a7 x0 m1 y0 y1 y2 y3 y4 y5 y6 y7 y8 y9 y10 y11 y12 y13 y14 y15 y16 y17 y18 y19 y20 y21 y22 y23 y24 y25 y26 y27 y28 y29 y30 y31 y32 y33 y34 y35 y36 y37 y38 y39 y40 y41 y42)) (fun y0 y1 y2 y3 y4 y5 y6 y7 y8 y9 y10 y11 y12 y13 y14 y15 y16 y17 y18 y19 y20 y21 y22 y23 y24 y25 y26 y27 y28 y29 y30 y31 y32 y33 y34 y35 y36 y37 y38 y39 y40 y41 y42 y43=>(∃ m1:Nat,Cw a0 a1 a2 a3 a4 a5 a6 a7 x0 m1 y0 y1 y2 y3 y4 y5 y6 y7 y8 y9 y10 y11 y12 y13 y14 y15 y16 y17 y18 y19 y20 y21 y22 y23 y24 y25 y26 y27 y28 y29 y30 y31 y32 y33 y34 y35 y36 y37 y38 y39 y40 y41 y42 y43)) m0 b c d e f g h i j k l m o p q r s t u v w z A B C D E F G H I J L M N O P R S T U V W (!Y)) (aB (decide (O=2)) (∃ m0:Nat,Cu a0 a1 a2 a3 a4 a5 a6 a7 (fun y0 y1 y2 y3 y4 y5 y6 y7 y8 y9 y10 y11 y12 y13 y14 y15 y16 y17 y18 y19 y20 y21 y22 y23 y24 y25 y26 y27 y28 y29 y30 y31 y32 y33 y34 y35 y36 y37 y38 y39 y40 y41 y42=>(∃ m1:Nat,Cv a0 a1 a2 a3 a4 a5 a6 a7 x0 m1 y0 y1 y2 y3 y4 y5 y6 y7 y8 y9 y10 y11 y12 y13 y14 y15 y16 y17 y18 y19 y20 y21 y22 y23 y24 y25 y26 y27 y28 y29 y30 y31 y32 y33 y34 y35 y36 y37 y38 y39 y40 y41 y42)) (fun y0 y1 y2 y3 y4 y5 y6 y7 y8 y9 y10 y11 y12 y13 y14 y15 y16 y17 y18 y19 y20 y21 y22 y23 y24 y25 y26 y27 y28 y29 y30 y31 y32 y33 y34 y35 y36 y37 y38 y39 y40 y41 y42 y43=>(∃ m1:Nat,Cw a0 a1 a2 a3 a4 a5 a6 a7 x0 m1 y0 y1 y2 y3 y4 y5 y6 y7 y8 y9 y10 y11 y12 y13 y14 y15 y16 y17 y18 y19 y20 y21 y22 y23 y24 y25 y26 y27 y28 y29 y30 y31 y32 y33 y34 y35 y36 y37 y38 y39 y40 y41 y42 y43)) m0 b c d e f g h i j k l m o p q r s t u v w z A B C D E F G H I J L M N O P R S T U V W (!Z)) False))) (∃ m0:Nat,Cu a0 a1 a2 a3 a4 a5 a6 a7 (fun y0 y1 y2 y3 y4 y5 y6 y7 y8 y9 y10 y11 y12 y13 y14 y15 y16 y17 y18 y19 y20 y21 y22 y23 y24 y25 y26 y27 y28 y29 y30 y31 y32 y33 y34 y35 y36 y37 y38 y39 y40 y41 y42=>(∃ m1:Nat,Cv a0 a1 a2 a3 a4 a5 a6 a7 x0 m1 y0 y1 y2 y3 y4 y5 y6 y7 y8 y9 y10 y11 y12 y13 y14 y15 y16 y17 y18 y19 y20 y21 y22 y23 y24 y25 y26 y27 y28 y29 y30 y31 y32 y33 y34 y35 y36 y37 y38 y39 y40 y41 y42)) (fun y0 y1 y2 y3 y4 y5 y6 y7 y8 y9 y10 y11 y12 y13 y14 y15 y16 y17 y18 y19 y20 y21 y22 y23 y24 y25 y26 y27 y28 y29 y30 y31 y32 y33 y34 y35 y36 y37 y38 y39 y40 y41 y42 y43=>(∃ m1:Nat,Cw a0 a1 a2 a3 a4 a5 a6 a7 x0 m1 y0 y1 y2 y3 y4 y5 y6 y7 y8 y9 y10 y11 y12 y13 y14 y15 y16 y17 y18 y19 y20 y21 y22 y23 y24 y25 y26 y27 y28 y29 y30 y31 y32 y33 y34 y35 y36 y37 y38 y39 y40 y41 y42 y43)) m0 b c d e f g h i j k l m o p q r s t u v w z A B C D E F G H I J L M N O P R S T U V W false))
def gW (a0:cC) (a1:bY) (a2:fL) (a3 a4:fC) (a5:fM) (a6:fS) (a7:bZ) (x0:Ls→Ls→bF (bF (J4 (J4 (J4 (Int→Int→Int→Bool→Bool→Bool→Prop)))))):Nat→Ls→Ls→bF (bF (bF (Bool→Bool→Bool→Int→Int→Int→Prop)))
 | _,b,c,d,e,f,g,h,i,j,k,l,m,o,p,q,r,s,t,u,v,w,z,A,B,C,D,E,F,G,H,I,J,L,M,N,O,P,R,S,T,U,V,W,X,Y,Z,y0,y1,y2,y3,y4,y5,y6,y7,y8,y9=>
 (aB (decide (y3=0)) (∃ m0:Nat,Io a0 a1 a2 a3 a4 a5 a6 a7 x0 m0 b c d e f g h i j k l m o p q r s t u v w z A B C D E F G H I J L M N y3 B C y8 y9 U V W X Y Z y0 y1 y2 y3 y4 y5 y6 y7 y8 y9) (aB (decide (y3=1)) (∃ m0:Nat,Io a0 a1 a2 a3 a4 a5 a6 a7 x0 m0 b c d e f g h i j k l m o p q r s t u v w z A B C D E F G H I J L M N y3 F G y8 y9 U V W X Y Z y0 y1 y2 y3 y4 y5 y6 y7 y8 y9) (aB (decide (y3=2)) (∃ m0:Nat,Io a0 a1 a2 a3 a4 a5 a6 a7 x0 m0 b c d e f g h i j k l m o p q r s t u v w z A B C D E F G H I J L M N y3 J L y8 y9 U V W X Y Z y0 y1 y2 y3 y4 y5 y6 y7 y8 y9) False)))
def FD (a0:cC) (a1:bY) (a2:fL) (a3 a4:fC) (a5:fM) (a6:fS) (a7:bZ) (x0:Ls→Ls→bF (J4 (Int→Prop))):Nat→Ls→Ls→bF (bF (J4 (J4 (J4 (Int→Int→Int→Bool→Bool→Bool→Prop)))))
 | _,b,c,d,e,f,g,h,i,j,k,l,m,o,p,q,r,s,t,u,v,w,z,A,B,C,D,E,F,G,H,I,J,L,M,N,O,P,R,S,T,U,V,W,X,Y,Z,y0,y1,y2,y3,y4,y5=>
 (a6 X Y Z y0 y1 y2 y3 y4 y5 (fun y6=>(∃ m0:Nat,Mt a0 a1 a2 a3 a4 a5 a6 a7 x0 m0 b c d e f g h i j k l m o p q r s t u v w z A B C D E F G H I J L M N O P R S T U y6 W y3 y4 y5)))
def sG (a0:cC) (a1:bY) (a2:fL) (a3 a4:fC) (a5:fM) (a6:fS) (a7:bZ) (x0:Ls→Ls→bF (bF (J4 (J4 (J4 (Int→Int→Int→Bool→Bool→Bool→Prop)))))) (x1:Ls→Ls→bF (bF (bF (Bool→Bool→Bool→Int→Bool→Prop)))):Nat→Ls→Ls→bF (bF (bF (Bool→Bool→Bool→Int→Bool→Prop)))
 | _,b,c,d,e,f,g,h,i,j,k,l,m,o,p,q,r,s,t,u,v,w,z,A,B,C,D,E,F,G,H,I,J,L,M,N,O,P,R,S,T,U,V,W,X,Y,Z,y0,y1,y2,y3,y4,y5,y6,y7,y8=>
 (aB y8 (aB (decide (y3=0)) (aB (decide (y3=0)) (aB (decide (y7=0)) (a5 b c d X Y X Y (fun y9 y10 y11 y12 y13=>(a3 y11 y12 y13 1 B C y9 y10 (fun y14 y15 y16 y17 y18=>(∃ m0:Nat,gW a0 a1 a2 a3 a4 a5 a6 a7 x0 m0 y16 y17 y18 e f g h i j k l m o p q r s t u v w z A B C D E F G H I J L M N O P R S T U V W X Y Z y0 y1 y2 y3 y4 y5 y6 y7 y14 y15))))) (aB (decide (y7=1)) (a5 b c d X Y Z y0 (fun y9 y10 y11 y12 y13=>(a3 y11 y12 y13 1 B C y9 y10 (fun y14 y15 y16 y17 y18=>(∃ m0:Nat,gW a0 a1 a2 a3 a4 a5 a6 a7 x0 m0 y16 y17 y18 e f g h i j k l m o p q r s t u v w z A B C D E F G H I J L M N O P R S T U V W X Y Z y0 y1 y2 y3 y4 y5 y6 y7 y14 y15))))) (aB (decide (y7=2)) (a5 b c d X Y y1 y2 (fun y9 y10 y11 y12 y13=>(a3 y11 y12 y13 1 B C y9 y10 (fun y14 y15 y16 y17 y18=>(∃ m0:Nat,gW a0 a1 a2 a3 a4 a5 a6 a7 x0 m0 y16 y17 y18 e f g h i j k l m o p q r s t u v w z A B C D E F G H I J L M N O P R S T U V W X Y Z y0 y1 y2 y3 y4 y5 y6 y7 y14 y15))))) False))) (aB (decide (y3=1)) (aB (decide (y7=0)) (a5 b c d Z y0 X Y (fun y9 y10 y11 y12 y13=>(a3 y11 y12 y13 1 B C y9 y10 (fun y14 y15 y16 y17 y18=>(∃ m0:Nat,gW a0 a1 a2 a3 a4 a5 a6 a7 x0 m0 y16 y17 y18 e f g h i j k l m o p q r s t u v w z A B C D E F G H I J L M N O P R S T U V W X Y Z y0 y1 y2 y3 y4 y5 y6 y7 y14 y15))))) (aB (decide (y7=1)) (a5 b c d Z y0 Z y0 (fun y9 y10 y11 y12 y13=>(a3 y11 y12 y13 1 B C y9 y10 (fun y14 y15 y16 y17 y18=>(∃ m0:Nat,gW a0 a1 a2 a3 a4 a5 a6 a7 x0 m0 y16 y17 y18 e f g h i j k l m o p q r s t u v w z A B C D E F G H I J L M N O P R S T U V W X Y Z y0 y1 y2 y3 y4 y5 y6 y7 y14 y15))))) (aB (decide (y7=2)) (a5 b c d Z y0 y1 y2 (fun y9 y10 y11 y12 y13=>(a3 y11 y12 y13 1 B C y9 y10 (fun y14 y15 y16 y17 y18=>(∃ m0:Nat,gW a0 a1 a2 a3 a4 a5 a6 a7 x0 m0 y16 y17 y18 e f g h i j k l m o p q r s t u v w z A B C D E F G H I J L M N O P R S T U V W X Y Z y0 y1 y2 y3 y4 y5 y6 y7 y14 y15))))) False))) (aB (decide (y3=2)) (aB (decide (y7=0)) (a5 b c d y1 y2 X Y (fun y9 y10 y11 y12 y13=>(a3 y11 y12 y13 1 B C y9 y10 (fun y14 y15 y16 y17 y18=>(∃ m0:Nat,gW a0 a1 a2 a3 a4 a5 a6 a7 x0 m0 y16 y17 y18 e f g h i j k l m o p q r s t u v w z A B C D E F G H I J L M N O P R S T U V W X Y Z y0 y1 y2 y3 y4 y5 y6 y7 y14 y15))))) (aB (decide (y7=1)) (a5 b c d y1 y2 Z y0 (fun y9 y10 y11 y12 y13=>(a3 y11 y12 y13 1 B C y9 y10 (fun y14 y15 y16 y17 y18=>(∃ m0:Nat,gW a0 a1 a2 a3 a4 a5 a6 a7 x0 m0 y16 y17 y18 e f g h i j k l m o p q r s t u v w z A B C D E F G H I J L M N O P R S T U V W X Y Z y0 y1 y2 y3 y4 y5 y6 y7 y14 y15))))) (aB (decide (y7=2)) (a5 b c d y1 y2 y1 y2 (fun y9 y10 y11 y12 y13=>(a3 y11 y12 y13 1 B C y9 y10 (fun y14 y15 y16 y17 y18=>(∃ m0:Nat,gW a0 a1 a2 a3 a4 a5 a6 a7 x0 m0 y16 y17 y18 e f g h i j k l m o p q r s t u v w z A B C D E F G H I J L M N O P R S T U V W X Y Z y0 y1 y2 y3 y4 y5 y6 y7 y14 y15))))) False))) False))) (aB (decide (y3=1)) (aB (decide (y3=0)) (aB (decide (y7=0)) (a5 b c d X Y X Y (fun y9 y10 y11 y12 y13=>(a3 y11 y12 y13 1 F G y9 y10 (fun y14 y15 y16 y17 y18=>(∃ m0:Nat,gW a0 a1 a2 a3 a4 a5 a6 a7 x0 m0 y16 y17 y18 e f g h i j k l m o p q r s t u v w z A B C D E F G H I J L M N O P R S T U V W X Y Z y0 y1 y2 y3 y4 y5 y6 y7 y14 y15))))) (aB (decide (y7=1)) (a5 b c d X Y Z y0 (fun y9 y10 y11 y12 y13=>(a3 y11 y12 y13 1 F G y9 y10 (fun y14 y15 y16 y17 y18=>(∃ m0:Nat,gW a0 a1 a2 a3 a4 a5 a6 a7 x0 m0 y16 y17 y18 e f g h i j k l m o p q r s t u v w z A B C D E F G H I J L M N O P R S T U V W X Y Z y0 y1 y2 y3 y4 y5 y6 y7 y14 y15))))) (aB (decide (y7=2)) (a5 b c d X Y y1 y2 (fun y9 y10 y11 y12 y13=>(a3 y11 y12 y13 1 F G y9 y10 (fun y14 y15 y16 y17 y18=>(∃ m0:Nat,gW a0 a1 a2 a3 a4 a5 a6 a7 x0 m0 y16 y17 y18 e f g h i j k l m o p q r s t u v w z A B C D E F G H I J L M N O P R S T U V W X Y Z y0 y1 y2 y3 y4 y5 y6 y7 y14 y15))))) False))) (aB (decide (y3=1)) (aB (decide (y7=0)) (a5 b c d Z y0 X Y (fun y9 y10 y11 y12 y13=>(a3 y11 y12 y13 1 F G y9 y10 (fun y14 y15 y16 y17 y18=>(∃ m0:Nat,gW a0 a1 a2 a3 a4 a5 a6 a7 x0 m0 y16 y17 y18 e f g h i j k l m o p q r s t u v w z A B C D E F G H I J L M N O P R S T U V W X Y Z y0 y1 y2 y3 y4 y5 y6 y7 y14 y15))))) (aB (decide (y7=1)) (a5 b c d Z y0 Z y0 (fun y9 y10 y11 y12 y13=>(a3 y11 y12 y13 1 F G y9 y10 (fun y14 y15 y16 y17 y18=>(∃ m0:Nat,gW a0 a1 a2 a3 a4 a5 a6 a7 x0 m0 y16 y17 y18 e f g h i j k l m o p q r s t u v w z A B C D E F G H I J L M N O P R S T U V W X Y Z y0 y1 y2 y3 y4 y5 y6 y7 y14 y15))))) (aB (decide (y7=2)) (a5 b c d Z y0 y1 y2 (fun y9 y10 y11 y12 y13=>(a3 y11 y12 y13 1 F G y9 y10 (fun y14 y15 y16 y17 y18=>(∃ m0:Nat,gW a0 a1 a2 a3 a4 a5 a6 a7 x0 m0 y16 y17 y18 e f g h i j k l m o p q r s t u v w z A B C D E F G H I J L M N O P R S T U V W X Y Z y0 y1 y2 y3 y4 y5 y6 y7 y14 y15))))) False))) (aB (decide (y3=2)) (aB (decide (y7=0)) (a5 b c d y1 y2 X Y (fun y9 y10 y11 y12 y13=>(a3 y11 y12 y13 1 F G y9 y10 (fun y14 y15 y16 y17 y18=>(∃ m0:Nat,gW a0 a1 a2 a3 a4 a5 a6 a7 x0 m0 y16 y17 y18 e f g h i j k l m o p q r s t u v w z A B C D E F G H I J L M N O P R S T U V W X Y Z y0 y1 y2 y3 y4 y5 y6 y7 y14 y15))))) (aB (decide (y7=1)) (a5 b c d y1 y2 Z y0 (fun y9 y10 y11 y12 y13=>(a3 y11 y12 y13 1 F G y9 y10 (fun y14 y15 y16 y17 y18=>(∃ m0:Nat,gW a0 a1 a2 a3 a4 a5 a6 a7 x0 m0 y16 y17 y18 e f g h i j k l m o p q r s t u v w z A B C D E F G H I J L M N O P R S T U V W X Y Z y0 y1 y2 y3 y4 y5 y6 y7 y14 y15))))) (aB (decide (y7=2)) (a5 b c d y1 y2 y1 y2 (fun y9 y10 y11 y12 y13=>(a3 y11 y12 y13 1 F G y9 y10 (fun y14 y15 y16 y17 y18=>(∃ m0:Nat,gW a0 a1 a2 a3 a4 a5 a6 a7 x0 m0 y16 y17 y18 e f g h i j k l m o p q r s t u v w z A B C D E F G H I J L M N O P R S T U V W X Y Z y0 y1 y2 y3 y4 y5 y6 y7 y14 y15))))) False))) False))) (aB (decide (y3=2)) (aB (decide (y3=0)) (aB (decide (y7=0)) (a5 b c d X Y X Y (fun y9 y10 y11 y12 y13=>(a3 y11 y12 y13 1 J L y9 y10 (fun y14 y15 y16 y17 y18=>(∃ m0:Nat,gW a0 a1 a2 a3 a4 a5 a6 a7 x0 m0 y16 y17 y18 e f g h i j k l m o p q r s t u v w z A B C D E F G H I J L M N O P R S T U V W X Y Z y0 y1 y2 y3 y4 y5 y6 y7 y14 y15))))) (aB (decide (y7=1)) (a5 b c d X Y Z y0 (fun y9 y10 y11 y12 y13=>(a3 y11 y12 y13 1 J L y9 y10 (fun y14 y15 y16 y17 y18=>(∃ m0:Nat,gW a0 a1 a2 a3 a4 a5 a6 a7 x0 m0 y16 y17 y18 e f g h i j k l m o p q r s t u v w z A B C D E F G H I J L M N O P R S T U V W X Y Z y0 y1 y2 y3 y4 y5 y6 y7 y14 y15))))) (aB (decide (y7=2)) (a5 b c d X Y y1 y2 (fun y9 y10 y11 y12 y13=>(a3 y11 y12 y13 1 J L y9 y10 (fun y14 y15 y16 y17 y18=>(∃ m0:Nat,gW a0 a1 a2 a3 a4 a5 a6 a7 x0 m0 y16 y17 y18 e f g h i j k l m o p q r s t u v w z A B C D E F G H I J L M N O P R S T U V W X Y Z y0 y1 y2 y3 y4 y5 y6 y7 y14 y15))))) False))) (aB (decide (y3=1)) (aB (decide (y7=0)) (a5 b c d Z y0 X Y (fun y9 y10 y11 y12 y13=>(a3 y11 y12 y13 1 J L y9 y10 (fun y14 y15 y16 y17 y18=>(∃ m0:Nat,gW a0 a1 a2 a3 a4 a5 a6 a7 x0 m0 y16 y17 y18 e f g h i j k l m o p q r s t u v w z A B C D E F G H I J L M N O P R S T U V W X Y Z y0 y1 y2 y3 y4 y5 y6 y7 y14 y15))))) (aB (decide (y7=1)) (a5 b c d Z y0 Z y0 (fun y9 y10 y11 y12 y13=>(a3 y11 y12 y13 1 J L y9 y10 (fun y14 y15 y16 y17 y18=>(∃ m0:Nat,gW a0 a1 a2 a3 a4 a5 a6 a7 x0 m0 y16 y17 y18 e f g h i j k l m o p q r s t u v w z A B C D E F G H I J L M N O P R S T U V W X Y Z y0 y1 y2 y3 y4 y5 y6 y7 y14 y15))))) (aB (decide (y7=2)) (a5 b c d Z y0 y1 y2 (fun y9 y10 y11 y12 y13=>(a3 y11 y12 y13 1 J L y9 y10 (fun y14 y15 y16 y17 y18=>(∃ m0:Nat,gW a0 a1 a2 a3 a4 a5 a6 a7 x0 m0 y16 y17 y18 e f g h i j k l m o p q r s t u v w z A B C D E F G H I J L M N O P R S T U V W X Y Z y0 y1 y2 y3 y4 y5 y6 y7 y14 y15))))) False))) (aB (decide (y3=2)) (aB (decide (y7=0)) (a5 b c d y1 y2 X Y (fun y9 y10 y11 y12 y13=>(a3 y11 y12 y13 1 J L y9 y10 (fun y14 y15 y16 y17 y18=>(∃ m0:Nat,gW a0 a1 a2 a3 a4 a5 a6 a7 x0 m0 y16 y17 y18 e f g h i j k l m o p q r s t u v w z A B C D E F G H I J L M N O P R S T U V W X Y Z y0 y1 y2 y3 y4 y5 y6 y7 y14 y15))))) (aB (decide (y7=1)) (a5 b c d y1 y2 Z y0 (fun y9 y10 y11 y12 y13=>(a3 y11 y12 y13 1 J L y9 y10 (fun y14 y15 y16 y17 y18=>(∃ m0:Nat,gW a0 a1 a2 a3 a4 a5 a6 a7 x0 m0 y16 y17 y18 e f g h i j k l m o p q r s t u v w z A B C D E F G H I J L M N O P R S T U V W X Y Z y0 y1 y2 y3 y4 y5 y6 y7 y14 y15))))) (aB (decide (y7=2)) (a5 b c d y1 y2 y1 y2 (fun y9 y10 y11 y12 y13=>(a3 y11 y12 y13 1 J L y9 y10 (fun y14 y15 y16 y17 y18=>(∃ m0:Nat,gW a0 a1 a2 a3 a4 a5 a6 a7 x0 m0 y16 y17 y18 e f g h i j k l m o p q r s t u v w z A B C D E F G H I J L M N O P R S T U V W X Y Z y0 y1 y2 y3 y4 y5 y6 y7 y14 y15))))) False))) False))) False))) (x1 b c d e f g h i j k l m o p q r s t u v w z A B C D E F G H I J L M N O P R S T U V W X Y Z y0 y1 y2 y3 y4 y5 y6 y7 false))
def Mu (a0:cC) (a1:bY) (a2:fL) (a3 a4:fC) (a5:fM) (a6:fS) (a7:bZ) (x0:Ls→Ls→bF (J4 (Int→Prop))):Nat→Ls→Ls→bF (bF (J4 (J4 (J4 (Int→Int→Int→Bool→Bool→Bool→Prop)))))
 | _,b,c,d,e,f,g,h,i,j,k,l,m,o,p,q,r,s,t,u,v,w,z,A,B,C,D,E,F,G,H,I,J,L,M,N,O,P,R,S,T,U,V,W,X,Y,Z,y0,y1,y2,y3,y4,y5=>
 (aB (decide (W=0)) (∃ m0:Nat,FD a0 a1 a2 a3 a4 a5 a6 a7 x0 m0 b c d e f g h i j k l m o p q r s t u v w z A B C D E F G H I J L M N O P R S T U V W X Y Z y0 y1 y2 true false false) (aB (decide (W=1)) (∃ m0:Nat,FD a0 a1 a2 a3 a4 a5 a6 a7 x0 m0 b c d e f g h i j k l m o p q r s t u v w z A B C D E F G H I J L M N O P R S T U V W X Y Z y0 y1 y2 false true false) (aB (decide (W=2)) (∃ m0:Nat,FD a0 a1 a2 a3 a4 a5 a6 a7 x0 m0 b c d e f g h i j k l m o p q r s t u v w z A B C D E F G H I J L M N O P R S T U V W X Y Z y0 y1 y2 false false true) False)))
def Ip (a0:cC) (a1:bY) (a2:fL) (a3 a4:fC) (a5:fM) (a6:fS) (a7:bZ) (x0:Ls→Ls→bF (J4 (Int→Prop))):Nat→Ls→Ls→bF (bF (J4 (J4 (J4 (Int→Int→Int→Bool→Bool→Bool→J4 (Int→Int→Prop))))))
 | _,b,c,d,e,f,g,h,i,j,k,l,m,o,p,q,r,s,t,u,v,w,z,A,B,C,D,E,F,G,H,I,J,L,M,N,O,P,R,S,T,U,V,W,X,Y,Z,y0,y1,y2,y3,y4,y5,y6,y7,y8,y9,y10,y11=>
 (a6 y6 y7 y8 y9 y10 y11 false false false (fun y12=>(∃ m0:Nat,Mu a0 a1 a2 a3 a4 a5 a6 a7 x0 m0 b c d e f g h i j k l m o p q r s t u v w z A B C D E F G H I J L M N O P R S T U V y12 X Y Z y0 y1 y2 y3 y4 y5)))
def qM (a0:cC) (a1:bY) (a2:fL) (a3 a4:fC) (a5:fM) (a6:fS) (a7:bZ) (x0:Ls→Ls→bF (J4 (Int→Prop))):Nat→Ls→Ls→bF (bF (J4 (J4 (J4 (Int→Int→Int→Bool→Bool→Bool→Prop)))))
 | _,b,c,d,e,f,g,h,i,j,k,l,m,o,p,q,r,s,t,u,v,w,z,A,B,C,D,E,F,G,H,I,J,L,M,N,O,P,R,S,T,U,V,W,X,Y,Z,y0,y1,y2,y3,y4,y5=>
 (a4 b c d 2 B C D E (fun y6 y7 y8 y9 y10=>(a4 y8 y9 y10 2 F G H I (fun y11 y12 y13 y14 y15=>(a4 y13 y14 y15 2 J L M N (fun y16 y17 y18 y19 y20=>(∃ m0:Nat,Ip a0 a1 a2 a3 a4 a5 a6 a7 x0 m0 y18 y19 y20 e f g h i j k l m o p q r s t u v w z A B C D E F G H I J L M N O P R S T U V W X Y Z y0 y1 y2 y3 y4 y5 y6 y7 y11 y12 y16 y17)))))))
def qN (a0:cC) (a1:bY) (a2:fL) (a3 a4:fC) (a5:fM) (a6:fS) (a7:bZ) (x0:Ls→Ls→bF (J4 (Int→Prop))):Nat→Ls→Ls→bF (bF (bF (Bool→Bool→Bool→Int→Bool→Prop)))
 | _,b,c,d,e,f,g,h,i,j,k,l,m,o,p,q,r,s,t,u,v,w,z,A,B,C,D,E,F,G,H,I,J,L,M,N,O,P,R,S,T,U,V,W,X,Y,Z,y0,y1,y2,y3,y4,y5,y6,y7,y8=>
 (a4 b c d 2 B C D E (fun y9 y10 y11 y12 y13=>(a4 y11 y12 y13 2 F G H I (fun y14 y15 y16 y17 y18=>(a4 y16 y17 y18 2 J L M N (fun y19 y20 y21 y22 y23=>(∃ m0:Nat,Ip a0 a1 a2 a3 a4 a5 a6 a7 x0 m0 y21 y22 y23 e f g h i j k l m o p q r s t u v w z A B C D E F G H I J L M N O P R S T U V W X Y Z y0 y1 y2 y4 y5 y6 y9 y10 y14 y15 y19 y20)))))))
end Go.Pf.Vc
