/- Part 3. -/
import Derived.Test.YtfclgjlabhkndaaGreatHfW2
noncomputable section
namespace Go.Pf.Vc
open Go Go.Pf
set_option maxRecDepth 100000
abbrev yaF:Type:=Int→Ls→Ls→(Int→Prop)→Prop
def yd3 (a0:yaq) (a1:yaq) (x0:Int→Prop) (x1:Int→Ls→Ls→Int→Int→Bool→Prop):Nat→Int→Ls→Ls→Int→Int→Prop
 | 0,_,_,_,_,_=>False
 | n+1,i0,l1,l2,i3,i4 =>
 (cbr (decide (i4<i3))
 (asr (decide ((0:Int)≤i4))
 (asr (decide (i4<(((List.length l1):Nat):Int)))
 (asr (conf zI (List.getD l1 (i4.toNat) .nils))
 (asr (decide ((0:Int)≤(IntKind.i64.wrap (i4+(1:Int)))))
 (asr (decide ((IntKind.i64.wrap (i4+(1:Int)))<(((List.length l1):Nat):Int)))
 (asr (conf zI (List.getD l1 ((IntKind.i64.wrap (i4+(1:Int))).toNat) .nils))
 (cbr (decide ((yaa (List.getD l1 (i4.toNat) .nils))≥(yaa (List.getD l1 ((IntKind.i64.wrap (i4+(1:Int))).toNat) .nils))))
 (x0 (8:Int))
 (yd3 a0 a1 x0 x1 n i0 l1 l2 i3 (IntKind.i64.wrap (i4+(1:Int)))))))))))
 (x1 i0 l1 l2 i3 i4 false))
def ymq (a0:yaq) (a1:yaq) (p0:Int) (p1 p2:Ls) (K:Int→Prop):Prop :=
 (cbr (decide (p0>(1000:Int)))
 (K (4:Int))
 (cbr (decide ((((List.length p1):Nat):Int)>(40:Int)))
 (K (4:Int))
 (cbr (decide (p0<(1:Int)))
 (K (8:Int))
 (cbr (decide ((((List.length p1):Nat):Int)<(2:Int)))
 (K (8:Int))
 (cbr ((((List.length p2):Nat):Int) !=(IntKind.i64.wrap ((((List.length p1):Nat):Int)-(1:Int))))
 (K (8:Int))
 (asr (decide ((0:Int)<(((List.length p1):Nat):Int)))
 (asr (conf zI (List.getD p1 0 .nils))
 (cbr ((yaa (List.getD p1 0 .nils)) !=(0:Int))
 (K (8:Int))
 (asr (decide ((0:Int)≤(IntKind.i64.wrap ((((List.length p1):Nat):Int)-(1:Int)))))
 (asr (decide ((IntKind.i64.wrap ((((List.length p1):Nat):Int)-(1:Int)))<(((List.length p1):Nat):Int)))
 (asr (conf zI (List.getD p1 ((IntKind.i64.wrap ((((List.length p1):Nat):Int)-(1:Int))).toNat) .nils))
 (cbr ((yaa (List.getD p1 ((IntKind.i64.wrap ((((List.length p1):Nat):Int)-(1:Int))).toNat) .nils)) != p0)
 (K (8:Int))
 (∃ n:Nat,yd3 a0 a1
 (fun b=>(K b))
 (fun _ _ a _ _ _=>(a0 a (fun c =>
 (cbr (decide (c<(0:Int)))
 (K (8:Int))
 (a1 a (fun d =>
 (cbr (decide (d>(12:Int)))
 (K (8:Int))
 (a1 a (fun e =>
 (cbr (e ==(0:Int))
 (K (8:Int))
 (K (0:Int))))))))))))
 n p0 p1 p2 (IntKind.i64.wrap ((((List.length p1):Nat):Int)-(1:Int))) (0:Int))))))))))))))
def yaL:yaF:=ymq yem yen
def pt13:LPt:=lC vD pt7
def pt14:VPt:=vA (lC pt0 pt13)
def pt15:LPt:=lC pt14 lN
def ysb:Sg:=⟨pt15,Int→Prop,fun K=>(fun r0=>K (.int .i64 r0))⟩
def yxc (Q:Qx):Int→Prop:=(fun i0=>Q .ret [(2,.v (.int .i64 i0))] [])
def yxd (Q:Qx):Int→Ls→Ls→Int→Int→Bool→Prop:=(fun i0 l1 l2 i3 i4 b5=>Q (.exit 0) [(1,.box (.agg [(.int .i64 i0),(.data l1),(.data l2)])),(49,.v (.int .i64 i3)),(50,.v (.int .i64 i4)),(51,.v (.bool b5))] [])
def yoX (a0:yaq) (a1:yaq) (Q:Qx):List St:=[⟨(pS hN (fX 1 pt14 (fV 49 pt0 (fV 50 pt0 fN))) fN),yd3 a0 a1 (yxc Q) (yxd Q)⟩]
def ysc (a0:yaq) (a1:yaq):LP:=lpS [(87419700,yoX a0 a1)]
def ymr (e:Es) (a0:yaq) (a1:yaq):SE:=sE (E e) [(yg1,yc6.pw a0),(yg2,yc6.pw a1)] (ysc a0 a1)
theorem ypZ (e:Es) (he:EG e):SEOk (Uni (E e)) (ymr e yem yen):=yaz (Sub.uni _) ⟨(yw9 e he),(yxb e he),trivial⟩ trivial he.ok
theorem yuV (e:Es) (a0 a1):ybV (ymr e a0 a1) 5 a ysJ false (yoX a0 a1):=fun _=>⟨fun _=>by kernel_rfl,fun _ _=>by kernel_rfl,trivial⟩
theorem yuW (e:Es) (he:EG e):LpT (Uni (E e)) (ysc yem yen) [] 87419700 (.loop 87419700 ysJ):=fun _ _ _=>yrX.st (Sub.uni _) (yaK (ypZ e he) 5) (YOk.no _ _) (yak (by kernel_rfl)) (yuV e _ _ _)
theorem yCB (e:Es) (a0 a1):EqW (ymr e a0 a1) 6 yuG ysb (ymq a0 a1):=fun _ _=>by kernel_rfl
theorem yd0 (e:Es) (he:EG e):OkF (E e) (ysb.pw yaL) ydt:=okU he (yCB e _ _) (ypZ e he) ypG.flat (ya1 (l:=[(87419700,.loop 87419700 ysJ)]) ⟨yuW e he,trivial⟩ (by kernel_rfl))
abbrev yaE:Type:=Int→Ls→Ls→(Int→Int→Prop)→Prop
def yd4 (a0:yaF) (x0:Int→Ls→Ls→Int→Ls→Int→Int→Bool→Prop):Nat→Int→Ls→Ls→Int→Ls→Int→Int→Prop
 | 0,_,_,_,_,_,_,_=>False
 | n+1,i0,l1,l2,i3,l4,i5,i6 =>
 (cbr (decide (i6<i5))
 (asr (decide ((0:Int)≤i6))
 (asr (decide (i6<(((List.length l4):Nat):Int)))
 (asr (conf zI (List.getD l4 (i6.toNat) .nils))
 (asr (decide ((0:Int)≤(IntKind.i64.wrap (i6+(1:Int)))))
 (asr (decide ((IntKind.i64.wrap (i6+(1:Int)))<(((List.length l1):Nat):Int)))
 (asr (conf zI (List.getD l1 ((IntKind.i64.wrap (i6+(1:Int))).toNat) .nils))
 (asr (decide ((0:Int)≤i6))
 (asr (decide (i6<(((List.length l1):Nat):Int)))
 (asr (conf zI (List.getD l1 (i6.toNat) .nils))
 (yd4 a0 x0 n i0 l1 l2 (IntKind.i64.wrap (i3+(IntKind.i64.wrap ((yaa (List.getD l4 (i6.toNat) .nils))*(IntKind.i64.wrap ((yaa (List.getD l1 ((IntKind.i64.wrap (i6+(1:Int))).toNat) .nils))-(yaa (List.getD l1 (i6.toNat) .nils)))))))) l4 i5 (IntKind.i64.wrap (i6+(1:Int)))))))))))))
 (x0 i0 l1 l2 i3 l4 i5 i6 false))
def yjc (a0:yaF) (p0:Int) (p1 p2:Ls) (K:Int→Int→Prop):Prop :=
 (a0 p0 p1 p2 (fun a =>
 (cbr (a !=(0:Int))
 (K (0:Int) a)
 (∃ n:Nat,yd4 a0
 (fun _ _ _ b _ _ _ _=>(K b (0:Int)))
 n p0 p1 p2 (0:Int) p2 (((List.length p2):Nat):Int) (0:Int)))))
def yaj:yaE:=yjc yaL
def yCC:Sg:=⟨pt15,Int→Int→Prop,fun K=>(fun r0 r1=>K (.tup [(.int .i64 r0),(.int .i64 r1)]))⟩
def yxe (Q:Qx):Int→Ls→Ls→Int→Ls→Int→Int→Bool→Prop:=(fun i0 l1 l2 i3 l4 i5 i6 b7=>Q (.exit 0) [(1,.box (.agg [(.int .i64 i0),(.data l1),(.data l2)])),(5,.v (.int .i64 i3)),(14,.v (.data l4)),(15,.v (.int .i64 i5)),(16,.v (.int .i64 i6)),(17,.v (.bool b7))] [])
def pt16:Pat Frm:=fV 14 vD (fV 15 pt0 (fV 16 pt0 fN))
def yoY (a0:yaF) (Q:Qx):List St:=[⟨(pS hN (fX 1 pt14 (fV 5 pt0 pt16)) fN),yd4 a0 (yxe Q)⟩]
def ysd (a0:yaF):LP:=lpS [(45203600,yoY a0)]
def yms (e:Es) (a0:yaF):SE:=sE (E e) [(ydt,ysb.pw a0)] (ysd a0)
theorem yp0 (e:Es) (he:EG e):SEOk (Uni (E e)) (yms e yaL):=yaz (Sub.uni _) ⟨(yd0 e he),trivial⟩ trivial he.ok
theorem yuX (e:Es) (a0):ybV (yms e a0) 5 a ysR false (yoY a0):=fun _=>⟨fun _=>by kernel_rfl,fun _ _=>by kernel_rfl,trivial⟩
theorem yuY (e:Es) (he:EG e):LpT (Uni (E e)) (ysd yaL) [] 45203600 (.loop 45203600 ysR):=fun _ _ _=>yrX.st (Sub.uni _) (yaK (yp0 e he) 5) (YOk.no _ _) (yak (by kernel_rfl)) (yuX e _ _)
theorem yCD (e:Es) (a0):EqW (yms e a0) 6 yuK yCC (yjc a0):=fun _ _=>by kernel_rfl
theorem yd1 (e:Es) (he:EG e):OkF (E e) (yCC.pw yaj) ydu:=okU he (yCD e _) (yp0 e he) ypG.flat (ya1 (l:=[(45203600,.loop 45203600 ysR)]) ⟨yuY e he,trivial⟩ (by kernel_rfl))
abbrev yac:Type:=Int→(Int→Int→Prop)→Prop
def yse (p0:Int) (K:Int→Int→Prop):Prop :=
 (K p0 (1:Int))
def ycH:yac:=yse
def yjd:Sg:=⟨pt1,Int→Int→Prop,fun K=>(fun r0 r1=>K (.agg [(.int .i64 r0),(.int .i64 r1)]))⟩
def yCE (e:Es):SE:=sE (E e) [] lp0
theorem yCF (e:Es):EqW (yCE e) 6 yEv yjd yse:=fun _ _=>by kernel_rfl
theorem yje (e:Es) (he:EG e):OkF (E e) (yjd.pw ycH) yfq:=okU he (yCF e) (yaz (Sub.uni _) trivial trivial he.ok) ypG.flat (yak (by kernel_rfl))
abbrev yau:Type:=Int→Int→Int→Int→(Bool→Prop)→Prop
def yoe (a0:yat) (p0 p1 p2 p3:Int) (K:Bool→Prop):Prop :=
 (a0 p0 p1 p2 p3 (fun a _ =>
 (K (decide (a<(0:Int))))))
def ycP:yau:=yoe ya3
def yuZ:Sg:=⟨pt10,Bool→Prop,fun K=>(fun r0=>K (.bool r0))⟩
def yEM (e:Es) (a0:yat):SE:=sE (E e) [(ydc,yEB.pw a0)] lp0
theorem yEN (e:Es) (a0):EqW (yEM e a0) 6 yGc yuZ (yoe a0):=fun _ _=>by kernel_rfl
theorem yj7 (e:Es) (he:EG e):OkF (E e) (yuZ.pw ycP) yf6:=okU he (yEN e _) (yaz (Sub.uni _) ⟨(ydw e he),trivial⟩ trivial he.ok) ypG.flat (yak (by kernel_rfl))
abbrev ycI:Type:=Int→Ls→Ls→Int→Int→(Bool→Prop)→Prop
def ymt (a0:ya2) (a1:yac) (a2:yau) (p0:Int) (_ _:Ls) (p3 p4:Int) (K:Bool→Prop):Prop :=
 (a0 p3 p4 (fun a =>
 (cbr (a ==(0:Int))
 (cbr (decide (p3≥(0:Int)))
 (a1 p0 (fun b c =>
 (a2 b c p3 p4 (fun d =>
 (K (!d))))))
 (K false))
 (K false))))
def ycJ:ycI:=ymt yca ycH ycP
def yCG:Sg:=⟨(lC pt14 (lC pt6 lN)),Bool→Prop,fun K=>(fun r0=>K (.bool r0))⟩
def yCH (e:Es) (a0:ya2) (a1:yac) (a2:yau):SE:=sE (E e) [(yeP,yAL.pw a0),(yfq,yjd.pw a1),(yf6,yuZ.pw a2)] lp0
theorem yCI (e:Es) (a0 a1 a2):EqW (yCH e a0 a1 a2) 6 yEw yCG (ymt a0 a1 a2):=fun _ _=>by kernel_rfl
theorem ymu (e:Es) (he:EG e):OkF (E e) (yCG.pw ycJ) ygp:=okU he (yCI e _ _ _) (yaz (Sub.uni _) ⟨(yga e he),(yje e he),(yj7 e he),trivial⟩ trivial he.ok) ypG.flat (yak (by kernel_rfl))
abbrev ycK:Type:=Int→Ls→Ls→Int→Int→Int→Int→(Int→Int→Int→Prop)→Prop
def ya9 (a0:yaF) (a1:ycI) (a2:yau) (a3:yac) (a4:yai) (a5:yai) (a6:yai) (x0:Int→Int→Int→Prop) (x1:Int→Ls→Ls→Int→Int→Int→Int→Int→Int→Int→Int→Ls→Int→Int→Bool→Prop):Nat→Int→Ls→Ls→Int→Int→Int→Int→Int→Int→Int→Int→Ls→Int→Int→Prop
 | 0,_,_,_,_,_,_,_,_,_,_,_,_,_,_=>False
 | n+1,i0,l1,l2,i3,i4,i5,i6,i7,i8,i9,i10,l11,i12,i13 =>
 (cbr (decide (i13<i12))
 (asr (decide ((0:Int)≤i13))
 (asr (decide (i13<(((List.length l11):Nat):Int)))
 (asr (conf zI (List.getD l11 (i13.toNat) .nils))
 (asr (decide ((0:Int)≤(IntKind.i64.wrap (i13+(1:Int)))))
 (asr (decide ((IntKind.i64.wrap (i13+(1:Int)))<(((List.length l1):Nat):Int)))
 (asr (conf zI (List.getD l1 ((IntKind.i64.wrap (i13+(1:Int))).toNat) .nils))
 (a3 (yaa (List.getD l1 ((IntKind.i64.wrap (i13+(1:Int))).toNat) .nils)) (fun a b =>
 (a2 i3 i4 a b (fun i =>
 (cbr i
 (cbr ((yaa (List.getD l11 (i13.toNat) .nils)) ==(0:Int))
 (a2 i9 i10 i3 i4 (fun j =>
 (cbr j
 (ya9 a0 a1 a2 a3 a4 a5 a6 x0 x1 n i0 l1 l2 i3 i4 i5 i6 i7 i8 i3 i4 l11 i12 (IntKind.i64.wrap (i13+(1:Int))))
 (ya9 a0 a1 a2 a3 a4 a5 a6 x0 x1 n i0 l1 l2 i3 i4 i5 i6 i7 i8 i9 i10 l11 i12 (IntKind.i64.wrap (i13+(1:Int)))))))
 (a2 i9 i10 i3 i4 (fun k =>
 (cbr (!k)
 (a2 i9 i10 i3 i4 (fun l =>
 (cbr l
 (ya9 a0 a1 a2 a3 a4 a5 a6 x0 x1 n i0 l1 l2 i3 i4 i5 i6 i7 i8 i3 i4 l11 i12 (IntKind.i64.wrap (i13+(1:Int))))
 (ya9 a0 a1 a2 a3 a4 a5 a6 x0 x1 n i0 l1 l2 i3 i4 i5 i6 i7 i8 i9 i10 l11 i12 (IntKind.i64.wrap (i13+(1:Int)))))))
 (a4 i3 i4 i9 i10 (fun m o c =>
 (cbr (c !=(0:Int))
 (x0 (0:Int) (0:Int) c)
 (a3 (yaa (List.getD l11 (i13.toNat) .nils)) (fun p q =>
 (a5 m o p q (fun r s d =>
 (cbr (d !=(0:Int))
 (x0 (0:Int) (0:Int) d)
 (a6 i7 i8 r s (fun t u e =>
 (cbr (e !=(0:Int))
 (x0 (0:Int) (0:Int) e)
 (ya9 a0 a1 a2 a3 a4 a5 a6 x0 x1 n i0 l1 l2 i3 i4 i5 i6 t u i3 i4 l11 i12 (IntKind.i64.wrap (i13+(1:Int)))))))))))))))))))
 (cbr ((yaa (List.getD l11 (i13.toNat) .nils)) ==(0:Int))
 (a2 i9 i10 a b (fun v =>
 (cbr v
 (ya9 a0 a1 a2 a3 a4 a5 a6 x0 x1 n i0 l1 l2 i3 i4 i5 i6 i7 i8 a b l11 i12 (IntKind.i64.wrap (i13+(1:Int))))
 (ya9 a0 a1 a2 a3 a4 a5 a6 x0 x1 n i0 l1 l2 i3 i4 i5 i6 i7 i8 i9 i10 l11 i12 (IntKind.i64.wrap (i13+(1:Int)))))))
 (a2 i9 i10 a b (fun w =>
 (cbr (!w)
 (a2 i9 i10 a b (fun x =>
 (cbr x
 (ya9 a0 a1 a2 a3 a4 a5 a6 x0 x1 n i0 l1 l2 i3 i4 i5 i6 i7 i8 a b l11 i12 (IntKind.i64.wrap (i13+(1:Int))))
 (ya9 a0 a1 a2 a3 a4 a5 a6 x0 x1 n i0 l1 l2 i3 i4 i5 i6 i7 i8 i9 i10 l11 i12 (IntKind.i64.wrap (i13+(1:Int)))))))
 (a4 a b i9 i10 (fun y z f =>
 (cbr (f !=(0:Int))
 (x0 (0:Int) (0:Int) f)
 (a3 (yaa (List.getD l11 (i13.toNat) .nils)) (fun A B =>
 (a5 y z A B (fun C D g =>
 (cbr (g !=(0:Int))
 (x0 (0:Int) (0:Int) g)
 (a6 i7 i8 C D (fun E F h =>
 (cbr (h !=(0:Int))
 (x0 (0:Int) (0:Int) h)
 (ya9 a0 a1 a2 a3 a4 a5 a6 x0 x1 n i0 l1 l2 i3 i4 i5 i6 E F a b l11 i12 (IntKind.i64.wrap (i13+(1:Int))))))))))))))))))))))))))))))
 (x1 i0 l1 l2 i3 i4 i5 i6 i7 i8 i9 i10 l11 i12 i13 false))
def ymv (a0:yaF) (a1:ycI) (a2:yau) (a3:yac) (a4:yai) (a5:yai) (a6:yai) (p0:Int) (p1 p2:Ls) (p3 p4 p5 p6:Int) (K:Int→Int→Int→Prop):Prop :=
 (a0 p0 p1 p2 (fun a =>
 (cbr (a !=(0:Int))
 (K (0:Int) (0:Int) a)
 (a1 p0 p1 p2 p3 p4 (fun b =>
 (cbr (!b)
 (K (0:Int) (0:Int) (2:Int))
 (a1 p0 p1 p2 p5 p6 (fun c =>
 (cbr (!c)
 (K (0:Int) (0:Int) (2:Int))
 (a2 p5 p6 p3 p4 (fun d =>
 (cbr d
 (K (0:Int) (0:Int) (2:Int))
 (a3 (0:Int) (fun e f =>
 (∃ n:Nat,ya9 a0 a1 a2 a3 a4 a5 a6
 (fun g h i=>(K g h i))
 (fun _ _ _ _ _ _ _ j k _ _ _ _ _ _=>(K j k (0:Int)))
 n p0 p1 p2 p5 p6 (0:Int) (0:Int) e f p3 p4 p2 (((List.length p2):Nat):Int) (0:Int))))))))))))))))
def ybJ:ycK:=ymv yaL ycJ ycP ycH ycj ybC ya5
def ysf:Sg:=⟨(lC pt14 pt10),Int→Int→Int→Prop,fun K=>(fun r0 r1 r2=>K (.tup [(.agg [(.int .i64 r0),(.int .i64 r1)]),(.int .i64 r2)]))⟩
def yxf (Q:Qx):Int→Int→Int→Prop:=(fun i0 i1 i2=>Q .ret [(6,.box (.agg [(.int .i64 i0),(.int .i64 i1)])),(7,.v (.int .i64 i2))] [])
def yxg (Q:Qx):Int→Ls→Ls→Int→Int→Int→Int→Int→Int→Int→Int→Ls→Int→Int→Bool→Prop:=(fun i0 l1 l2 i3 i4 i5 i6 i7 i8 i9 i10 l11 i12 i13 b14=>Q (.exit 0) [(3,.box (.agg [(.int .i64 i0),(.data l1),(.data l2)])),(5,.box (.agg [(.int .i64 i3),(.int .i64 i4)])),(6,.box (.agg [(.int .i64 i5),(.int .i64 i6)])),(9,.box (.agg [(.int .i64 i7),(.int .i64 i8)])),(10,.box (.agg [(.int .i64 i9),(.int .i64 i10)])),(42,.v (.data l11)),(43,.v (.int .i64 i12)),(44,.v (.int .i64 i13)),(45,.v (.bool b14))] [])
def yoZ (a0:yaF) (a1:ycI) (a2:yau) (a3:yac) (a4:yai) (a5:yai) (a6:yai) (Q:Qx):List St:=[⟨(pS hN (fX 3 pt14 (fX 5 pt6 (fX 6 pt6 (fX 9 pt6 (fX 10 pt6 (fV 42 vD (fV 43 pt0 (fV 44 pt0 fN)))))))) fN),ya9 a0 a1 a2 a3 a4 a5 a6 (yxf Q) (yxg Q)⟩]
def ysg (a0:yaF) (a1:ycI) (a2:yau) (a3:yac) (a4:yai) (a5:yai) (a6:yai):LP:=lpS [(85339800,yoZ a0 a1 a2 a3 a4 a5 a6)]
def ymw (e:Es) (a0:yaF) (a1:ycI) (a2:yau) (a3:yac) (a4:yai) (a5:yai) (a6:yai):SE:=sE (E e) [(ydt,ysb.pw a0),(ygp,yCG.pw a1),(yf6,yuZ.pw a2),(yfq,yjd.pw a3),(yhr,yj5.pw a4),(yfj,yj5.pw a5),(yez,yj5.pw a6)] (ysg a0 a1 a2 a3 a4 a5 a6)
theorem yp1 (e:Es) (he:EG e):SEOk (Uni (E e)) (ymw e yaL ycJ ycP ycH ycj ybC ya5):=yaz (Sub.uni _) ⟨(yd0 e he),(ymu e he),(yj7 e he),(yje e he),(yj6 e he),(ygv e he),(yft e he),trivial⟩ trivial he.ok
theorem yu0 (e:Es) (a0 a1 a2 a3 a4 a5 a6):ybV (ymw e a0 a1 a2 a3 a4 a5 a6) 5 a ysV false (yoZ a0 a1 a2 a3 a4 a5 a6):=fun _=>⟨fun _=>by kernel_rfl,fun _ _=>by kernel_rfl,trivial⟩
theorem yu1 (e:Es) (he:EG e):LpT (Uni (E e)) (ysg yaL ycJ ycP ycH ycj ybC ya5) [] 85339800 (.loop 85339800 ysV):=fun _ _ _=>yrX.st (Sub.uni _) (yaK (yp1 e he) 5) (YOk.no _ _) (yak (by kernel_rfl)) (yu0 e _ _ _ _ _ _ _ _)
theorem yCJ (e:Es) (a0 a1 a2 a3 a4 a5 a6):EqW (ymw e a0 a1 a2 a3 a4 a5 a6) 6 yuL ysf (ymv a0 a1 a2 a3 a4 a5 a6):=fun _ _=>by kernel_rfl
theorem yjf (e:Es) (he:EG e):OkF (E e) (ysf.pw ybJ) ygq:=okU he (yCJ e _ _ _ _ _ _ _) (yp1 e he) ypG.flat (ya1 (l:=[(85339800,.loop 85339800 ysV)]) ⟨yu1 e he,trivial⟩ (by kernel_rfl))
def ybK (a0:yaF) (a1:ycI) (a2:ya2) (a3:yac) (a4:yau) (a5:yai) (a6:yai) (a7:yai) (a8:yai) (x0:Int→Int→Int→Int→Int→Int→Prop) (x1:Int→Int→Int→Int→Int→Int→Ls→Ls→Int→Int→Ls→Int→Int→Bool→Prop):Nat→Int→Int→Int→Int→Int→Int→Ls→Ls→Int→Int→Ls→Int→Int→Prop
 | 0,_,_,_,_,_,_,_,_,_,_,_,_,_=>False
 | n+1,i0,i1,i2,i3,i4,i5,l6,l7,i8,i9,l10,i11,i12 =>
 (cbr (decide (i12<i11))
 (asr (decide ((0:Int)≤i12))
 (asr (decide (i12<(((List.length l10):Nat):Int)))
 (asr (conf zI (List.getD l10 (i12.toNat) .nils))
 (asr (decide ((0:Int)≤(IntKind.i64.wrap (i12+(1:Int)))))
 (asr (decide ((IntKind.i64.wrap (i12+(1:Int)))<(((List.length l6):Nat):Int)))
 (asr (conf zI (List.getD l6 ((IntKind.i64.wrap (i12+(1:Int))).toNat) .nils))
 (a3 (yaa (List.getD l6 ((IntKind.i64.wrap (i12+(1:Int))).toNat) .nils)) (fun a b =>
 (a4 i8 i9 a b (fun r =>
 (cbr (!r)
 (ybK a0 a1 a2 a3 a4 a5 a6 a7 a8 x0 x1 n i0 i1 i2 i3 i4 i5 l6 l7 i8 i9 l10 i11 (IntKind.i64.wrap (i12+(1:Int))))
 (a3 (0:Int) (fun i j =>
 (cbr (decide ((yaa (List.getD l10 (i12.toNat) .nils))>(0:Int)))
 (a5 a b i8 i9 (fun s t k =>
 (cbr (k !=(0:Int))
 (x0 i0 i1 i2 i3 i4 k)
 (a3 (yaa (List.getD l10 (i12.toNat) .nils)) (fun u v =>
 (a6 s t u v (fun l m o =>
 (cbr (o !=(0:Int))
 (x0 i0 i1 i2 i3 i4 o)
 (cbr ((yaa (List.getD l10 (i12.toNat) .nils)) ==(0:Int))
 (ybK a0 a1 a2 a3 a4 a5 a6 a7 a8 x0 x1 n i0 i1 i2 i3 i4 i5 l6 l7 a b l10 i11 (IntKind.i64.wrap (i12+(1:Int))))
 (a4 l m i0 i1 (fun w =>
 (cbr w
 (a5 i0 i1 l m (fun e f c =>
 (cbr (c !=(0:Int))
 (cbr (c !=(0:Int))
 (x0 e f i2 i3 c (0:Int))
 (ybK a0 a1 a2 a3 a4 a5 a6 a7 a8 x0 x1 n e f i2 i3 c i5 l6 l7 a b l10 i11 (IntKind.i64.wrap (i12+(1:Int)))))
 (cbr (c !=(0:Int))
 (x0 e f i2 i3 (6:Int) (0:Int))
 (ybK a0 a1 a2 a3 a4 a5 a6 a7 a8 x0 x1 n e f i2 i3 (6:Int) i5 l6 l7 a b l10 i11 (IntKind.i64.wrap (i12+(1:Int))))))))
 (a3 (yaa (List.getD l10 (i12.toNat) .nils)) (fun x y =>
 (a7 i0 i1 x y (fun z A p =>
 (cbr (p ==(0:Int))
 (a8 i8 i9 z A (fun B C D =>
 (x0 i0 i1 B C D (0:Int))))
 (x0 i0 i1 i2 i3 p (0:Int)))))))))))))))))))
 (cbr ((yaa (List.getD l10 (i12.toNat) .nils)) ==(0:Int))
 (ybK a0 a1 a2 a3 a4 a5 a6 a7 a8 x0 x1 n i0 i1 i2 i3 i4 i5 l6 l7 a b l10 i11 (IntKind.i64.wrap (i12+(1:Int))))
 (a4 i j i0 i1 (fun E =>
 (cbr E
 (a5 i0 i1 i j (fun g h d =>
 (cbr (d !=(0:Int))
 (cbr (d !=(0:Int))
 (x0 g h i2 i3 d (0:Int))
 (ybK a0 a1 a2 a3 a4 a5 a6 a7 a8 x0 x1 n g h i2 i3 d i5 l6 l7 a b l10 i11 (IntKind.i64.wrap (i12+(1:Int)))))
 (cbr (d !=(0:Int))
 (x0 g h i2 i3 (6:Int) (0:Int))
 (ybK a0 a1 a2 a3 a4 a5 a6 a7 a8 x0 x1 n g h i2 i3 (6:Int) i5 l6 l7 a b l10 i11 (IntKind.i64.wrap (i12+(1:Int))))))))
 (a3 (yaa (List.getD l10 (i12.toNat) .nils)) (fun F G =>
 (a7 i0 i1 F G (fun H I q =>
 (cbr (q ==(0:Int))
 (a8 i8 i9 H I (fun J K L =>
 (x0 i0 i1 J K L (0:Int))))
 (x0 i0 i1 i2 i3 q (0:Int)))))))))))))))))))))))))
 (x1 i0 i1 i2 i3 i4 i5 l6 l7 i8 i9 l10 i11 i12 false))
def yof (a0:yaF) (a1:ycI) (a2:ya2) (a3:yac) (a4:yau) (a5:yai) (a6:yai) (a7:yai) (a8:yai) (p0:Int) (p1 p2:Ls) (p3 p4 p5 p6:Int) (K:Int→Int→Int→Prop):Prop :=
 (a0 p0 p1 p2 (fun b =>
 (cbr (b !=(0:Int))
 (K (0:Int) (0:Int) b)
 (a1 p0 p1 p2 p3 p4 (fun g =>
 (cbr (!g)
 (K (0:Int) (0:Int) (2:Int))
 (a2 p5 p6 (fun h =>
 (cbr (h !=(0:Int))
 (K (0:Int) (0:Int) (2:Int))
 (cbr (decide (p5<(0:Int)))
 (K (0:Int) (0:Int) (2:Int))
 (cbr (p5 ==(0:Int))
 (K p3 p4 (0:Int))
 (∃ n:Nat,ybK a0 a1 a2 a3 a4 a5 a6 a7 a8
 (fun _ _ c d e a=>(cbr (a !=(0:Int))
 (cbr (a !=(0:Int))
 (K (0:Int) (0:Int) a)
 (K c d (0:Int)))
 (cbr (e !=(0:Int))
 (K (0:Int) (0:Int) e)
 (K c d (0:Int)))))
 (fun _ _ i j f _ _ _ _ _ _ _ _ _=>(cbr (f !=(0:Int))
 (K (0:Int) (0:Int) f)
 (K i j (0:Int))))
 n p5 p6 (0:Int) (0:Int) (6:Int) p0 p1 p2 p3 p4 p2 (((List.length p2):Nat):Int) (0:Int)))))))))))))
def yht:ycK:=yof yaL ycJ yca ycH ycP ycj ybC yaW ya5
def yyP (Q:Qx):Int→Int→Int→Int→Int→Int→Prop:=(fun i0 i1 i2 i3 i4 i5=>Q .ret [(6,.v (.int .i64 i5))] [⟨false,true,2,([(.agg [(.int .i64 i0),(.int .i64 i1)])]:Ls)⟩,⟨false,true,2,([(.agg [(.int .i64 i2),(.int .i64 i3)])]:Ls)⟩,⟨false,true,1,([(.int .i64 i4)]:Ls)⟩])
def yyQ (Q:Qx):Int→Int→Int→Int→Int→Int→Ls→Ls→Int→Int→Ls→Int→Int→Bool→Prop:=(fun i0 i1 i2 i3 i4 i5 l6 l7 i8 i9 l10 i11 i12 b13=>Q (.exit 0) [(2,.v (.fn (.func ygS) [] [(.ptr 0 1 0 0),(.ptr 2 1 0 0),(.ptr 1 1 0 0)])),(3,.box (.agg [(.int .i64 i5),(.data l6),(.data l7)])),(4,.box (.agg [(.int .i64 i8),(.int .i64 i9)])),(14,.v (.data l10)),(15,.v (.int .i64 i11)),(16,.v (.int .i64 i12)),(17,.v (.bool b13))] [⟨false,true,2,([(.agg [(.int .i64 i0),(.int .i64 i1)])]:Ls)⟩,⟨false,true,2,([(.agg [(.int .i64 i2),(.int .i64 i3)])]:Ls)⟩,⟨false,true,1,([(.int .i64 i4)]:Ls)⟩])
def pt17:VPt:=vP 0 0 (nK 1) (nK 0)
def yp2 (a0:yaF) (a1:ycI) (a2:ya2) (a3:yac) (a4:yau) (a5:yai) (a6:yai) (a7:yai) (a8:yai) (Q:Qx):List St:=[⟨(pS (hB false true 2 (rC pt6 rN) (hB false true 2 (rC pt6 rN) (hB false true 1 (rC pt0 rN) hN))) (fV 2 (vF ygS lN (lC pt17 (lC (vP 2 0 (nK 1) (nK 0)) (lC (vP 1 0 (nK 1) (nK 0)) lN)))) (fX 3 pt14 (fX 4 pt6 pt16))) fN),ybK a0 a1 a2 a3 a4 a5 a6 a7 a8 (yyP Q) (yyQ Q)⟩]
def yog (a0:yaF) (a1:ycI) (a2:ya2) (a3:yac) (a4:yau) (a5:yai) (a6:yai) (a7:yai) (a8:yai):LP:=lpS [(41613500,yp2 a0 a1 a2 a3 a4 a5 a6 a7 a8)]
def yu2 (e:Es) (a0:yaF) (a1:ycI) (a2:ya2) (a3:yac) (a4:yau) (a5:yai) (a6:yai) (a7:yai) (a8:yai):SE:=⟨(E e),yeW [(ydt,ysb.pw a0),(ygp,yCG.pw a1),(yeP,yAL.pw a2),(yfq,yjd.pw a3),(yf6,yuZ.pw a4),(yhr,yj5.pw a5),(yfj,yj5.pw a6),(yeA,yj5.pw a7),(yez,yj5.pw a8)],yeX [(ygS,yrZ)],yog a0 a1 a2 a3 a4 a5 a6 a7 a8,fun _=>none⟩
def yu3 (e:Es) (a0:yaF) (a1:ycI) (a2:ya2) (a3:yac) (a4:yau) (a5:yai) (a6:yai) (a7:yai) (a8:yai):SE:=⟨(E e),yeW [(ydt,ysb.pw a0),(ygp,yCG.pw a1),(yeP,yAL.pw a2),(yfq,yjd.pw a3),(yf6,yuZ.pw a4),(yhr,yj5.pw a5),(yfj,yj5.pw a6),(yeA,yj5.pw a7),(yez,yj5.pw a8)],yeX [(yye,yyi),(ygS,yrZ)],yog a0 a1 a2 a3 a4 a5 a6 a7 a8,fun _=>none⟩
theorem yCK (e:Es) (he:EG e):SEOk (Uni (E e)) (yu2 e yaL ycJ yca ycH ycP ycj ybC yaW ya5):=yaz (Sub.uni _) ⟨(yd0 e he),(ymu e he),(yga e he),(yje e he),(yj7 e he),(yj6 e he),(ygv e he),(yfu e he),(yft e he),trivial⟩ ⟨⟨by kernel_rfl,by kernel_rfl,rfl,fun az=>yaB (by kernel_rfl) az,he.num _ (by kernel_rfl),by kernel_rfl,(yak (by kernel_rfl))⟩,trivial⟩ he.ok
theorem yxh (e:Es) (a0 a1 a2 a3 a4 a5 a6 a7 a8):ybV (yu2 e a0 a1 a2 a3 a4 a5 a6 a7 a8) 5 a ysX false (yp2 a0 a1 a2 a3 a4 a5 a6 a7 a8):=fun _=>⟨fun _=>by kernel_rfl,fun _ _=>by kernel_rfl,trivial⟩
theorem yxi (e:Es) (he:EG e):LpT (Uni (E e)) (yog yaL ycJ yca ycH ycP ycj ybC yaW ya5) [] 41613500 (.loop 41613500 ysX):=fun _ _ _=>yrX.st (Sub.uni _) (yaK (yCK e he) 5) (YOk.no _ _) (yak (by kernel_rfl)) (yxh e _ _ _ _ _ _ _ _ _ _)
theorem yCL (e:Es) (he:EG e):SEOk (Uni (E e)) (yu3 e yaL ycJ yca ycH ycP ycj ybC yaW ya5):=yaz (Sub.uni _) ⟨(yd0 e he),(ymu e he),(yga e he),(yje e he),(yj7 e he),(yj6 e he),(ygv e he),(yfu e he),(yft e he),trivial⟩ ⟨⟨by kernel_rfl,by kernel_rfl,rfl,fun az=>yaB (by kernel_rfl) az,he.num _ (by kernel_rfl),by kernel_rfl,(ya1 (l:=[(41613500,.loop 41613500 ysX)]) ⟨yxi e he,trivial⟩ (by kernel_rfl))⟩,⟨by kernel_rfl,by kernel_rfl,rfl,fun az=>yaB (by kernel_rfl) az,he.num _ (by kernel_rfl),by kernel_rfl,(yak (by kernel_rfl))⟩,trivial⟩ he.ok
theorem yEO (e:Es) (a0 a1 a2 a3 a4 a5 a6 a7 a8):EqW (yu3 e a0 a1 a2 a3 a4 a5 a6 a7 a8) 6 yGi ysf (yof a0 a1 a2 a3 a4 a5 a6 a7 a8):=fun _ _=>by kernel_rfl
theorem yu4 (e:Es) (he:EG e):OkF (E e) (ysf.pw yht) ylE:=okU he (yEO e _ _ _ _ _ _ _ _ _) (yCL e he) ypG.flat (yak (by kernel_rfl))
abbrev yad:Type:=Ls→Ls→(Bool→Prop)→Prop
def ybm (x0:Ls→Ls→Int→Int→Bool→Prop) (x1:Bool→Prop):Nat→Ls→Ls→Int→Int→Prop
 | 0,_,_,_,_=>False
 | n+1,l0,l1,i2,i3 =>
 (cbr (decide (i3<i2))
 (asr (decide ((0:Int)≤i3))
 (asr (decide (i3<(((List.length l0):Nat):Int)))
 (lt (List.getD l0 (i3.toNat) .nils) (fun a =>
 (asr (conf z2 a)
 (asr (decide ((0:Int)≤i3))
 (asr (decide (i3<(((List.length l1):Nat):Int)))
 (lt (List.getD l1 (i3.toNat) .nils) (fun b =>
 (asr (conf z2 b)
 (cbr (!(((yaa (yab a 0)) ==(yaa (yab b 0)))&&(((yaa (yab a 1)) ==(yaa (yab b 1)))&&true)))
 (x1 false)
 (lt (IntKind.i64.wrap (i3+(1:Int))) (fun c =>
 (ybm x0 x1 n l0 l1 i2 c))))))))))))))
 (x0 l0 l1 i2 i3 false))
def ydl (p0 p1:Ls) (K:Bool→Prop):Prop :=
 (cbr ((((List.length p0):Nat):Int) !=(((List.length p1):Nat):Int))
 (K false)
 (∃ n:Nat,ybm
 (fun _ _ _ _ _=>(K true))
 (fun a=>(K a))
 n p0 p1 (((List.length p0):Nat):Int) (0:Int)))
def yaG:yad:=ydl
def ycu:Sg:=⟨pt13,Bool→Prop,fun K=>(fun r0=>K (.bool r0))⟩
def yhz (Q:Qx):Ls→Ls→Int→Int→Bool→Prop:=(fun l0 l1 i2 i3 b4=>Q (.exit 0) [(0,.v (.data l0)),(1,.v (.data l1)),(12,.v (.int .i64 i2)),(13,.v (.int .i64 i3)),(14,.v (.bool b4))] [])
def yhA (Q:Qx):Bool→Prop:=(fun b0=>Q .ret [(4,.v (.bool b0))] [])
def yeH (Q:Qx):List St:=[⟨(pS hN (fV 0 vD (fV 1 vD (fV 12 pt0 (fV 13 pt0 fN)))) fN),ybm (yhz Q) (yhA Q)⟩]
def yfc:LP:=lpS [(11234800,yeH)]
def ydm (e:Es):SE:=sE (E e) [] (yfc)
theorem yeY (e:Es) (he:EG e):SEOk (Uni (E e)) (ydm e):=yaz (Sub.uni _) trivial trivial he.ok
theorem yhe (e:Es):ybV (ydm e) 5 a yte false (yeH):=fun _=>⟨fun _=>by kernel_rfl,fun _ _=>by kernel_rfl,trivial⟩
theorem yhf (e:Es) (he:EG e):LpT (Uni (E e)) (yfc) [] 11234800 (.loop 11234800 yte):=fun _ _ _=>yrX.st (Sub.uni _) (yaK (yeY e he) 5) (YOk.no _ _) (yak (by kernel_rfl)) (yhe e _)
theorem yiI (e:Es):EqW (ydm e) 6 yfk ycu ydl:=fun _ _=>by kernel_rfl
theorem ydn (e:Es) (he:EG e):OkF (E e) (ycu.pw yaG) ybn:=okU he (yiI e) (yeY e he) ypG.flat (ya1 (l:=[(11234800,.loop 11234800 yte)]) ⟨yhf e he,trivial⟩ (by kernel_rfl))
set_option linter.unusedVariables false
theorem yAW (p0:Int) (p1:Ls) (p2:Ls) (r0:Int) (h:∀ K:Int→Prop,K r0→yaL p0 p1 p2 K) (K:Int→Prop):yaL p0 p1 p2 K=K r0 :=
 propext ⟨fun k=>detC (yd0 [] ybq) (az:=[(.agg [(.int .i64 p0),(.data p1),(.data p2)])]) (x:=(.int .i64 r0)) (fun K' k'=>h (fun r0=>K' (.int .i64 r0)) k') (K:=fun x=>match x with | (.int .i64 r0)=>K r0 | _=>False) k,h K⟩
theorem yAX (p0:Int) (p1:Ls) (p2:Ls) (r0:Int) (r1:Int) (h:∀ K:Int→Int→Prop,K r0 r1→yaj p0 p1 p2 K) (K:Int→Int→Prop):yaj p0 p1 p2 K=K r0 r1 :=
 propext ⟨fun k=>detC (yd1 [] ybq) (az:=[(.agg [(.int .i64 p0),(.data p1),(.data p2)])]) (x:=(.tup [(.int .i64 r0),(.int .i64 r1)])) (fun K' k'=>h (fun r0 r1=>K' (.tup [(.int .i64 r0),(.int .i64 r1)])) k') (K:=fun x=>match x with | (.tup [(.int .i64 r0),(.int .i64 r1)])=>K r0 r1 | _=>False) k,h K⟩
theorem yAY (p0:Int) (p1:Ls) (p2:Ls) (p3:Int) (p4:Int) (p5:Int) (p6:Int) (r0:Int) (r1:Int) (r2:Int) (h:∀ K:Int→Int→Int→Prop,K r0 r1 r2→ybJ p0 p1 p2 p3 p4 p5 p6 K) (K:Int→Int→Int→Prop):ybJ p0 p1 p2 p3 p4 p5 p6 K=K r0 r1 r2 :=
 propext ⟨fun k=>detC (yjf [] ybq) (az:=[(.agg [(.int .i64 p0),(.data p1),(.data p2)]),(.agg [(.int .i64 p3),(.int .i64 p4)]),(.agg [(.int .i64 p5),(.int .i64 p6)])]) (x:=(.tup [(.agg [(.int .i64 r0),(.int .i64 r1)]),(.int .i64 r2)])) (fun K' k'=>h (fun r0 r1 r2=>K' (.tup [(.agg [(.int .i64 r0),(.int .i64 r1)]),(.int .i64 r2)])) k') (K:=fun x=>match x with | (.tup [(.agg [(.int .i64 r0),(.int .i64 r1)]),(.int .i64 r2)])=>K r0 r1 r2 | _=>False) k,h K⟩
theorem yCM (p0:Int) (p1:Ls) (p2:Ls) (p3:Int) (p4:Int) (p5:Int) (p6:Int) (r0:Int) (r1:Int) (r2:Int) (h:∀ K:Int→Int→Int→Prop,K r0 r1 r2→yht p0 p1 p2 p3 p4 p5 p6 K) (K:Int→Int→Int→Prop):yht p0 p1 p2 p3 p4 p5 p6 K=K r0 r1 r2 :=
 propext ⟨fun k=>detC (yu4 [] ybq) (az:=[(.agg [(.int .i64 p0),(.data p1),(.data p2)]),(.agg [(.int .i64 p3),(.int .i64 p4)]),(.agg [(.int .i64 p5),(.int .i64 p6)])]) (x:=(.tup [(.agg [(.int .i64 r0),(.int .i64 r1)]),(.int .i64 r2)])) (fun K' k'=>h (fun r0 r1 r2=>K' (.tup [(.agg [(.int .i64 r0),(.int .i64 r1)]),(.int .i64 r2)])) k') (K:=fun x=>match x with | (.tup [(.agg [(.int .i64 r0),(.int .i64 r1)]),(.int .i64 r2)])=>K r0 r1 r2 | _=>False) k,h K⟩
theorem yik (p0:Ls) (p1:Ls) (r0:Bool) (h:∀ K:Bool→Prop,K r0→yaG p0 p1 K) (K:Bool→Prop):yaG p0 p1 K=K r0 :=
 propext ⟨fun k=>detC (ydn [] ybq) (az:=[(.data p0),(.data p1)]) (x:=(.bool r0)) (fun K' k'=>h (fun r0=>K' (.bool r0)) k') (K:=fun x=>match x with | (.bool r0)=>K r0 | _=>False) k,h K⟩
def ykQ (a0:yat) (p0 p1 p2 p3:Int) (K:Bool→Prop):Prop :=
 (a0 p0 p1 p2 p3 (fun a b =>
 (cbr (b ==(0:Int))
 (K (decide (a<(0:Int))))
 (K false))))
def ycX:yau:=ykQ ya3
def pt18:LPt:=lC pt0 (lC pt0 pt5)
def yAZ:Sg:=⟨(lC (vA pt18) lN),Bool→Prop,fun K=>(fun r0=>K (.bool r0))⟩
def yA0 (e:Es) (a0:yat):SE:=sE (E e) [(ydc,yEB.pw a0)] lp0
theorem yA1 (e:Es) (a0):EqW (yA0 e a0) 6 yCj yAZ (ykQ a0):=fun _ _=>by kernel_rfl
theorem yp3 (e:Es) (he:EG e):OkF (E e) (yAZ.pw ycX) yiY:=okU he (yA1 e _) (yaz (Sub.uni _) ⟨(ydw e he),trivial⟩ trivial he.ok) ypG.flat (yak (by kernel_rfl))
def yeo (a0:yau) (x0:Int→Prop) (x1:Ls→Int→Int→Bool→Prop):Nat→Ls→Int→Int→Prop
 | 0,_,_,_=>False
 | n+1,l0,i1,i2 =>
 (cbr (decide (i2<i1))
 (asr (decide ((0:Int)≤i2))
 (asr (decide (i2<(((List.length l0):Nat):Int)))
 (asr (conf z4 (List.getD l0 (i2.toNat) .nils))
 (a0 (yaa (yab (List.getD l0 (i2.toNat) .nils) 0)) (yaa (yab (List.getD l0 (i2.toNat) .nils) 1)) (yaa (yab (List.getD l0 (i2.toNat) .nils) 2)) (yaa (yab (List.getD l0 (i2.toNat) .nils) 3)) (fun a =>
 (cbr (!a)
 (x0 (8:Int))
 (yeo a0 x0 x1 n l0 i1 (IntKind.i64.wrap (i2+(1:Int))))))))))
 (x1 l0 i1 i2 false))
def yoh (a0:yau) (p0:Ls) (K:Int→Prop):Prop :=
 (cbr (decide ((((List.length p0):Nat):Int)>(60:Int)))
 (K (4:Int))
 (∃ n:Nat,yeo a0
 (fun a=>(K a))
 (fun b c d e=>(K (0:Int)))
 n p0 (((List.length p0):Nat):Int) (0:Int)))
def yeI:yaq:=yoh ycX
def yyR (Q:Qx):Int→Prop:=(fun i0=>Q .ret [(2,.v (.int .i64 i0))] [])
def yyS (Q:Qx):Ls→Int→Int→Bool→Prop:=(fun l0 i1 i2 b3=>Q (.exit 0) [(8,.v (.data l0)),(9,.v (.int .i64 i1)),(10,.v (.int .i64 i2)),(11,.v (.bool b3))] [])
def yp4 (a0:yau) (Q:Qx):List St:=[⟨(pS hN (fV 8 vD (fV 9 pt0 (fV 10 pt0 fN))) fN),yeo a0 (yyR Q) (yyS Q)⟩]
def yu5 (a0:yau):LP:=lpS [(56157900,yp4 a0)]
def yoi (e:Es) (a0:yau):SE:=sE (E e) [(yiY,yAZ.pw a0)] (yu5 a0)
theorem ysh (e:Es) (he:EG e):SEOk (Uni (E e)) (yoi e ycX):=yaz (Sub.uni _) ⟨(yp3 e he),trivial⟩ trivial he.ok
theorem yxj (e:Es) (a0):ybV (yoi e a0) 5 a ys5 false (yp4 a0):=fun _=>⟨fun _=>by kernel_rfl,fun _ _=>by kernel_rfl,trivial⟩
theorem yxk (e:Es) (he:EG e):LpT (Uni (E e)) (yu5 ycX) [] 56157900 (.loop 56157900 ys5):=fun _ _ _=>yrX.st (Sub.uni _) (yaK (ysh e he) 5) (YOk.no _ _) (yak (by kernel_rfl)) (yxj e _ _)
theorem yEP (e:Es) (a0):EqW (yoi e a0) 6 yyj yc6 (yoh a0):=fun _ _=>by kernel_rfl
theorem yu6 (e:Es) (he:EG e):OkF (E e) (yc6.pw yeI) ylG:=okU he (yEP e _) (ysh e he) ypG.flat (ya1 (l:=[(56157900,.loop 56157900 ys5)]) ⟨yxk e he,trivial⟩ (by kernel_rfl))
def ykR (a0:yat) (p0 p1 p2 p3:Int) (K:Int→Prop):Prop :=
 (a0 p0 p1 p2 p3 (fun a b =>
 (K a)))
def ybo:yaf:=ykR ya3
def yA2 (e:Es) (a0:yat):SE:=sE (E e) [(ydc,yEB.pw a0)] lp0
theorem yA3 (e:Es) (a0):EqW (yA2 e a0) 6 yCk ykM (ykR a0):=fun _ _=>by kernel_rfl
theorem ykS (e:Es) (he:EG e):OkF (E e) (ykM.pw ybo) yfJ:=okU he (yA3 e _) (yaz (Sub.uni _) ⟨(ydw e he),trivial⟩ trivial he.ok) ypG.flat (yak (by kernel_rfl))
def ycZ (a0:yaq) (a1:yaf) (x0:Int→Prop) (x1:Ls→Int→Bool→Prop):Nat→Ls→Int→Prop
 | 0,_,_=>False
 | n+1,l0,i1 =>
 (cbr (decide (i1<(((List.length l0):Nat):Int)))
 (asr (decide ((0:Int)≤(IntKind.i64.wrap (i1-(1:Int)))))
 (asr (decide ((IntKind.i64.wrap (i1-(1:Int)))<(((List.length l0):Nat):Int)))
 (asr (conf z4 (List.getD l0 ((IntKind.i64.wrap (i1-(1:Int))).toNat) .nils))
 (asr (decide ((0:Int)≤i1))
 (asr (decide (i1<(((List.length l0):Nat):Int)))
 (asr (conf z4 (List.getD l0 (i1.toNat) .nils))
 (a1 (yaa (yab (List.getD l0 ((IntKind.i64.wrap (i1-(1:Int))).toNat) .nils) 2)) (yaa (yab (List.getD l0 ((IntKind.i64.wrap (i1-(1:Int))).toNat) .nils) 3)) (yaa (yab (List.getD l0 (i1.toNat) .nils) 0)) (yaa (yab (List.getD l0 (i1.toNat) .nils) 1)) (fun a =>
 (cbr (decide (a≥(0:Int)))
 (x0 (8:Int))
 (ycZ a0 a1 x0 x1 n l0 (IntKind.i64.wrap (i1+(1:Int)))))))))))))
 (x1 l0 i1 false))
def ykT (a0:yaq) (a1:yaf) (p0:Ls) (K:Int→Prop):Prop :=
 (a0 p0 (fun a =>
 (cbr (a !=(0:Int))
 (K a)
 (∃ n:Nat,ycZ a0 a1
 (fun b=>(K b))
 (fun c d e=>(K (0:Int)))
 n p0 (1:Int)))))
def ya6:yaq:=ykT yeI ybo
def yu7 (Q:Qx):Int→Prop:=(fun i0=>Q .ret [(2,.v (.int .i64 i0))] [])
def yu8 (Q:Qx):Ls→Int→Bool→Prop:=(fun l0 i1 b2=>Q (.exit 0) [(0,.v (.data l0)),(4,.v (.int .i64 i1)),(13,.v (.bool b2))] [])
def ynh (a0:yaq) (a1:yaf) (Q:Qx):List St:=[⟨(pS hN (fV 0 vD pt11) fN),ycZ a0 a1 (yu7 Q) (yu8 Q)⟩]
def yp5 (a0:yaq) (a1:yaf):LP:=lpS [(17365500,ynh a0 a1)]
def ykU (e:Es) (a0:yaq) (a1:yaf):SE:=sE (E e) [(ylG,yc6.pw a0),(yfJ,ykM.pw a1)] (yp5 a0 a1)
theorem yo0 (e:Es) (he:EG e):SEOk (Uni (E e)) (ykU e yeI ybo):=yaz (Sub.uni _) ⟨(yu6 e he),(ykS e he),trivial⟩ trivial he.ok
theorem ytu (e:Es) (a0 a1):ybV (ykU e a0 a1) 5 a ys6 false (ynh a0 a1):=fun _=>⟨fun _=>by kernel_rfl,fun _ _=>by kernel_rfl,trivial⟩
theorem ytv (e:Es) (he:EG e):LpT (Uni (E e)) (yp5 yeI ybo) [] 17365500 (.loop 17365500 ys6):=fun _ _ _=>yrX.st (Sub.uni _) (yaK (yo0 e he) 5) (YOk.no _ _) (yak (by kernel_rfl)) (ytu e _ _ _)
theorem yA4 (e:Es) (a0 a1):EqW (ykU e a0 a1) 6 yr0 yc6 (ykT a0 a1):=fun _ _=>by kernel_rfl
theorem yhU (e:Es) (he:EG e):OkF (E e) (yc6.pw ya6) yfK:=okU he (yA4 e _ _) (yo0 e he) ypG.flat (ya1 (l:=[(17365500,.loop 17365500 ys6)]) ⟨ytv e he,trivial⟩ (by kernel_rfl))
abbrev yCN:Type:=Int→Ls→Ls→Ls→(Int→Int→Int→Prop)→Prop
def ycg (a0:yaF) (a1:yaq) (a2:yaf) (a3:ycK) (a4:yai) (x0:Int→Ls→Ls→Int→Int→Int→Int→Ls→Int→Int→Bool→Prop) (x1:Int→Ls→Ls→Int→Int→Int→Prop):Nat→Int→Ls→Ls→Int→Int→Int→Int→Ls→Int→Int→Prop
 | 0,_,_,_,_,_,_,_,_,_,_=>False
 | n+1,i0,l1,l2,i3,i4,i5,i6,l7,i8,i9 =>
 (cbr (decide (i9<i8))
 (asr (decide ((0:Int)≤i9))
 (asr (decide (i9<(((List.length l7):Nat):Int)))
 (lt (List.getD l7 (i9.toNat) .nils) (fun a =>
 (asr (conf z4 a)
 (a3 i0 l1 l2 (yaa (yab a 0)) (yaa (yab a 1)) (yaa (yab a 2)) (yaa (yab a 3)) (fun d e b =>
 (cbr (b !=(0:Int))
 (x1 i0 l1 l2 (0:Int) (0:Int) b)
 (a4 i5 i6 d e (fun f g c =>
 (cbr (c !=(0:Int))
 (x1 i0 l1 l2 (0:Int) (0:Int) c)
 (lt (IntKind.i64.wrap (i9+(1:Int))) (fun h =>
 (ycg a0 a1 a2 a3 a4 x0 x1 n i0 l1 l2 i3 i4 f g l7 i8 h))))))))))))))
 (x0 i0 l1 l2 i3 i4 i5 i6 l7 i8 i9 false))
def ykV (a0:yaF) (a1:yaq) (a2:yaf) (a3:ycK) (a4:yai) (p0:Int) (p1 p2 p3:Ls) (K:Int→Int→Int→Prop):Prop :=
 (a0 p0 p1 p2 (fun d =>
 (cbr (d !=(0:Int))
 (K (0:Int) (0:Int) d)
 (a1 p3 (fun e =>
 (cbr (e !=(0:Int))
 (K (0:Int) (0:Int) e)
 (jn (fun (a:Bool→Prop) =>
 (cbr (decide ((((List.length p3):Nat):Int)>(0:Int)))
 (asr (decide ((0:Int)<(((List.length p3):Nat):Int)))
 (lt (List.getD p3 0 .nils) (fun f =>
 (asr (conf z4 f)
 (cbr (decide ((yaa (yab f 0))<(0:Int)))
 (a true)
 (lt (IntKind.i64.wrap ((((List.length p3):Nat):Int)-(1:Int))) (fun b =>
 (asr (decide ((0:Int)≤b))
 (asr (decide (b<(((List.length p3):Nat):Int)))
 (lt (List.getD p3 (b.toNat) .nils) (fun c =>
 (asr (conf z4 c)
 (a2 (yaa (yab c 2)) (yaa (yab c 3)) p0 (1:Int) (fun h =>
 (a (decide (h>(0:Int))))))))))))))))))
 (a false)))
 (fun i=>(cbr i
 (K (0:Int) (0:Int) (2:Int))
 (jn (fun (g:Int→Ls→Ls→Int→Int→Int→Prop) =>
 (∃ n:Nat,ycg a0 a1 a2 a3 a4
 (fun j k l y z m o A B C D=>(g j k l m o (0:Int)))
 (fun p q r s t u=>(g p q r s t u))
 n p0 p1 p2 (0:Int) (0:Int) (0:Int) (1:Int) p3 (((List.length p3):Nat):Int) (0:Int)))
 (fun E F G v w x=>(K v w x))))))))))))
def ycb:yCN:=ykV yaL ya6 ybo ybJ ya5
def yA5:Sg:=⟨(lC pt14 pt7),Int→Int→Int→Prop,fun K=>(fun r0 r1 r2=>K (.tup [(.agg [(.int .i64 r0),(.int .i64 r1)]),(.int .i64 r2)]))⟩
def yp6 (az:Ls) (K:PV→Prop):Prop:=yA5.pw ycb az K
def yu9 (Q:Qx):Int→Ls→Ls→Int→Int→Int→Int→Ls→Int→Int→Bool→Prop:=(fun i0 l1 l2 i3 i4 i5 i6 l7 i8 i9 b10=>Q (.exit 0) [(1,.v (.fn (.func yfB) [] [(.ptr 0 1 0 0)])),(4,.box (.agg [(.int .i64 i3),(.int .i64 i4)])),(6,.box (.agg [(.int .i64 i5),(.int .i64 i6)])),(12,.v (.data l7)),(13,.v (.int .i64 i8)),(14,.v (.int .i64 i9)),(15,.v (.bool b10))] [⟨false,true,3,([(.agg [(.int .i64 i0),(.data l1),(.data l2)])]:Ls)⟩])
def yva (Q:Qx):Int→Ls→Ls→Int→Int→Int→Prop:=(fun i0 l1 l2 i3 i4 i5=>Q .ret [(4,.box (.agg [(.int .i64 i3),(.int .i64 i4)])),(5,.v (.int .i64 i5))] [⟨false,true,3,([(.agg [(.int .i64 i0),(.data l1),(.data l2)])]:Ls)⟩])
def pt19:LPt:=lC pt17 lN
def pt20:Pat Frm:=fV 13 pt0 (fV 14 pt0 fN)
def yni (a0:yaF) (a1:yaq) (a2:yaf) (a3:ycK) (a4:yai) (Q:Qx):List St:=[⟨(pS (hB false true 3 (rC pt14 rN) hN) (fV 1 (vF yfB lN pt19) (fX 4 pt6 (fX 6 pt6 (fV 12 vD pt20)))) fN),ycg a0 a1 a2 a3 a4 (yu9 Q) (yva Q)⟩]
def ykW (a0:yaF) (a1:yaq) (a2:yaf) (a3:ycK) (a4:yai):LP:=lpS [(87165700,yni a0 a1 a2 a3 a4)]
def yp7 (e:Es) (a0:yaF) (a1:yaq) (a2:yaf) (a3:ycK) (a4:yai):SE:=⟨(E e),yeW [(ydt,ysb.pw a0),(yfK,yc6.pw a1),(yfJ,ykM.pw a2),(ygq,ysf.pw a3),(yez,yj5.pw a4)],yeX [(yfB,yoV)],ykW a0 a1 a2 a3 a4,fun _=>none⟩
def yp8 (e:Es) (a0:yaF) (a1:yaq) (a2:yaf) (a3:ycK) (a4:yai):SE:=⟨(E e),yeW [(ydt,ysb.pw a0),(yfK,yc6.pw a1),(yfJ,ykM.pw a2),(ygq,ysf.pw a3),(yez,yj5.pw a4)],yeX [(yyf,yyk),(yfB,yoV)],ykW a0 a1 a2 a3 a4,fun _=>none⟩
theorem yyT (e:Es) (he:EG e):SEOk (Uni (E e)) (yp7 e yaL ya6 ybo ybJ ya5):=yaz (Sub.uni _) ⟨(yd0 e he),(yhU e he),(ykS e he),(yjf e he),(yft e he),trivial⟩ ⟨⟨by kernel_rfl,by kernel_rfl,rfl,fun az=>yaB (by kernel_rfl) az,he.num _ (by kernel_rfl),by kernel_rfl,(yak (by kernel_rfl))⟩,trivial⟩ he.ok
theorem ytw (e:Es) (a0 a1 a2 a3 a4):ybV (yp7 e a0 a1 a2 a3 a4) 5 a ys7 false (yni a0 a1 a2 a3 a4):=fun _=>⟨fun _=>by kernel_rfl,fun _ _=>by kernel_rfl,trivial⟩
theorem ytx (e:Es) (he:EG e):LpT (Uni (E e)) (ykW yaL ya6 ybo ybJ ya5) [] 87165700 (.loop 87165700 ys7):=fun _ _ _=>yrX.st (Sub.uni _) (yaK (yyT e he) 5) (YOk.no _ _) (yak (by kernel_rfl)) (ytw e _ _ _ _ _ _)
theorem yyU (e:Es) (he:EG e):SEOk (Uni (E e)) (yp8 e yaL ya6 ybo ybJ ya5):=yaz (Sub.uni _) ⟨(yd0 e he),(yhU e he),(ykS e he),(yjf e he),(yft e he),trivial⟩ ⟨⟨by kernel_rfl,by kernel_rfl,rfl,fun az=>yaB (by kernel_rfl) az,he.num _ (by kernel_rfl),by kernel_rfl,(ya1 (l:=[(87165700,.loop 87165700 ys7)]) ⟨ytx e he,trivial⟩ (by kernel_rfl))⟩,⟨by kernel_rfl,by kernel_rfl,rfl,fun az=>yaB (by kernel_rfl) az,he.num _ (by kernel_rfl),by kernel_rfl,(yak (by kernel_rfl))⟩,trivial⟩ he.ok
theorem yA6 (e:Es) (a0 a1 a2 a3 a4):EqW (yp8 e a0 a1 a2 a3 a4) 6 yCm yA5 (ykV a0 a1 a2 a3 a4):=fun _ _=>by kernel_rfl
theorem yp9 (e:Es) (he:EG e):OkF (E e) (yA5.pw ycb) ycC:=okU he (yA6 e _ _ _ _ _) (yyU e he) ypG.flat (yak (by kernel_rfl))
set_option linter.unusedVariables false
theorem yyV (p0:Int) (p1:Int) (p2:Int) (p3:Int) (r0:Bool) (h:∀ K:Bool→Prop,K r0→ycX p0 p1 p2 p3 K) (K:Bool→Prop):ycX p0 p1 p2 p3 K=K r0 :=
 propext ⟨fun k=>detC (yp3 [] ybq) (az:=[(.agg [(.int .i64 p0),(.int .i64 p1),(.int .i64 p2),(.int .i64 p3)])]) (x:=(.bool r0)) (fun K' k'=>h (fun r0=>K' (.bool r0)) k') (K:=fun x=>match x with | (.bool r0)=>K r0 | _=>False) k,h K⟩
theorem yCO (p0:Ls) (r0:Int) (h:∀ K:Int→Prop,K r0→yeI p0 K) (K:Int→Prop):yeI p0 K=K r0 :=
 propext ⟨fun k=>detC (yu6 [] ybq) (az:=[(.data p0)]) (x:=(.int .i64 r0)) (fun K' k'=>h (fun r0=>K' (.int .i64 r0)) k') (K:=fun x=>match x with | (.int .i64 r0)=>K r0 | _=>False) k,h K⟩
theorem yyW (p0:Ls) (r0:Int) (h:∀ K:Int→Prop,K r0→ya6 p0 K) (K:Int→Prop):ya6 p0 K=K r0 :=
 propext ⟨fun k=>detC (yhU [] ybq) (az:=[(.data p0)]) (x:=(.int .i64 r0)) (fun K' k'=>h (fun r0=>K' (.int .i64 r0)) k') (K:=fun x=>match x with | (.int .i64 r0)=>K r0 | _=>False) k,h K⟩
theorem yyX (p0:Int) (p1:Ls) (p2:Ls) (p3:Ls) (r0:Int) (r1:Int) (r2:Int) (h:∀ K:Int→Int→Int→Prop,K r0 r1 r2→ycb p0 p1 p2 p3 K) (K:Int→Int→Int→Prop):ycb p0 p1 p2 p3 K=K r0 r1 r2 :=
 propext ⟨fun k=>detC (yp9 [] ybq) (az:=[(.agg [(.int .i64 p0),(.data p1),(.data p2)]),(.data p3)]) (x:=(.tup [(.agg [(.int .i64 r0),(.int .i64 r1)]),(.int .i64 r2)])) (fun K' k'=>h (fun r0 r1 r2=>K' (.tup [(.agg [(.int .i64 r0),(.int .i64 r1)]),(.int .i64 r2)])) k') (K:=fun x=>match x with | (.tup [(.agg [(.int .i64 r0),(.int .i64 r1)]),(.int .i64 r2)])=>K r0 r1 r2 | _=>False) k,h K⟩
abbrev yal:Type:=Ls→Ls→(Int→Prop)→Prop
def yep (a0:yaF) (a:Int→Prop) (b:Ls→Ls→Ls→Int→Int→Bool→Prop):Nat→Ls→Ls→Ls→Int→Int→Prop
 | 0,_,_,_,_,_=>False
 | d+1,l0,l1,l2,i3,i4 =>
 (cbr (decide (i4<i3))
 (asr (decide ((0:Int)≤i4))
 (asr (decide (i4<(((List.length l2):Nat):Int)))
 (asr (conf zK (List.getD l2 (i4.toNat) .nils))
 (a0 (yaa (yab (List.getD l2 (i4.toNat) .nils) 0)) (yaI (yab (List.getD l2 (i4.toNat) .nils) 1)) (yaI (yab (List.getD l2 (i4.toNat) .nils) 2)) (fun c =>
 (cbr (c !=(0:Int))
 (a c)
 (yep a0 a b d l0 l1 l2 i3 (IntKind.i64.wrap (i4+(1:Int))))))))))
 (b l0 l1 l2 i3 i4 false))
def ydN (a0:yaF) (a:Int→Prop) (b:Ls→Ls→Ls→Int→Int→Bool→Prop):Nat→Ls→Ls→Ls→Int→Int→Prop
 | 0,_,_,_,_,_=>False
 | c+1,l0,l1,l2,i3,i4 =>
 (cbr (decide (i4<i3))
 (asr (decide ((0:Int)≤i4))
 (asr (decide (i4<(((List.length l2):Nat):Int)))
 (asr (conf zK (List.getD l2 (i4.toNat) .nils))
 (asr (decide ((0:Int)<(((List.length l0):Nat):Int)))
 (asr (conf zK (List.getD l0 0 .nils))
 (cbr ((yaa (yab (List.getD l2 (i4.toNat) .nils) 0)) !=(yaa (yab (List.getD l0 0 .nils) 0)))
 (a (8:Int))
 (ydN a0 a b c l0 l1 l2 i3 (IntKind.i64.wrap (i4+(1:Int))))))))))
 (b l0 l1 l2 i3 i4 false))
def yoj (a0:yaF) (p0 p1:Ls) (K:Int→Prop):Prop :=
 (cbr (decide ((((List.length p0):Nat):Int)>(6:Int)))
 (K (4:Int))
 (cbr (decide ((((List.length p1):Nat):Int)>(2000:Int)))
 (K (4:Int))
 (cbr ((((List.length p0):Nat):Int) ==(0:Int))
 (K (8:Int))
 (∃ b:Nat,yep a0
 (fun c=>(K c))
 (fun a d g h i j=>(∃ e:Nat,ydN a0
 (fun f=>(K f))
 (fun k l m n o p=>(K (0:Int)))
 e a d a (((List.length a):Nat):Int) (0:Int)))
 b p0 p1 p0 (((List.length p0):Nat):Int) (0:Int)))))
def yaS:yal:=yoj yaL
def pt21:VPt:=vA pt13
def yvb:Sg:=⟨(lC pt21 lN),Int→Prop,fun K=>(fun r0=>K (.int .i64 r0))⟩
def yyY (Q:Qx):Int→Prop:=(fun i0=>Q .ret [(2,.v (.int .i64 i0))] [])
def yyZ (Q:Qx):Ls→Ls→Ls→Int→Int→Bool→Prop:=(fun l0 l1 l2 i3 i4 b5=>Q (.exit 0) [(1,.box (.agg [(.data l0),(.data l1)])),(23,.v (.data l2)),(24,.v (.int .i64 i3)),(25,.v (.int .i64 i4)),(26,.v (.bool b5))] [])
def yy0 (Q:Qx):Int→Prop:=(fun i0=>Q .ret [(2,.v (.int .i64 i0))] [])
def yy1 (Q:Qx):Ls→Ls→Ls→Int→Int→Bool→Prop:=(fun l0 l1 l2 i3 i4 b5=>Q (.exit 2) [(1,.box (.agg [(.data l0),(.data l1)])),(36,.v (.data l2)),(37,.v (.int .i64 i3)),(38,.v (.int .i64 i4)),(39,.v (.bool b5))] [])
def yqa (a0:yaF) (Q:Qx):List St:=[⟨(pS hN (fX 1 pt21 (fV 23 vD (fV 24 pt0 (fV 25 pt0 fN)))) fN),yep a0 (yyY Q) (yyZ Q)⟩]
def yqb (a0:yaF) (Q:Qx):List St:=[⟨(pS hN (fX 1 pt21 (fV 36 vD (fV 37 pt0 (fV 38 pt0 fN)))) fN),ydN a0 (yy0 Q) (yy1 Q)⟩]
def yok (a0:yaF):LP:=lpS [(12157600,yqa a0),(12157601,yqb a0)]
def yj9 (e:Es) (a0:yaF):SE:=sE (E e) [(ydt,ysb.pw a0)] (yok a0)
theorem ymx (e:Es) (he:EG e):SEOk (Uni (E e)) (yj9 e yaL):=yaz (Sub.uni _) ⟨(yd0 e he),trivial⟩ trivial he.ok
theorem yxl (e:Es) (a0):ybV (yj9 e a0) 5 a ysK false (yqa a0):=fun _=>⟨fun _=>by kernel_rfl,fun _ _=>by kernel_rfl,trivial⟩
theorem yxm (e:Es) (he:EG e):LpT (Uni (E e)) (yok yaL) [] 12157600 (.loop 12157600 ysK):=fun _ _ _=>yrX.st (Sub.uni _) (yaK (ymx e he) 5) (YOk.no _ _) (yak (by kernel_rfl)) (yxl e _ _)
theorem yxn (e:Es) (a0):ybV (yj9 e a0) 5 a ysL false (yqb a0):=fun _=>⟨fun _=>by kernel_rfl,fun _ _=>by kernel_rfl,trivial⟩
theorem yxo (e:Es) (he:EG e):LpT (Uni (E e)) (yok yaL) [] 12157601 (.loop 12157601 ysL):=fun _ _ _=>yrX.st (Sub.uni _) (yaK (ymx e he) 5) (YOk.no _ _) (yak (by kernel_rfl)) (yxn e _ _)
theorem yEQ (e:Es) (a0):EqW (yj9 e a0) 6 ypJ yvb (yoj a0):=fun _ _=>by kernel_rfl
theorem ydx (e:Es) (he:EG e):OkF (E e) (yvb.pw yaS) ydb:=okU he (yEQ e _) (ymx e he) ypG.flat (ya1 (l:=[(12157600,.loop 12157600 ysK),(12157601,.loop 12157601 ysL)]) ⟨yxm e he,yxo e he,trivial⟩ (by kernel_rfl))
abbrev yfv:Type:=Ls→(Ls→Prop)→Prop
mutual
def ygw (a0:ydF) (x0:Ls→Ls→Int→Int→Bool→Prop) (x1:Ls→Int→Int→Bool→Prop):Nat→Ls→Int→Int→Prop
 | 0,_,_,_=>False
 | n+1,l0,i1,i2 =>
 (cbr (decide (i2<i1))
 (asr (decide ((0:Int)≤i2))
 (asr (decide (i2<(((List.length l0):Nat):Int)))
 (asr (conf zK (List.getD l0 (i2.toNat) .nils))
 (a0 (yaI (yab (List.getD l0 (i2.toNat) .nils) 1)) (fun a =>
 (a0 (yaI (yab (List.getD l0 (i2.toNat) .nils) 2)) (fun b =>
 (asr (decide (1=List.length ([(.agg [(.int .i64 (yaa (yab (List.getD l0 (i2.toNat) .nils) 0))),(.data a),(.data b)])]:Ls))&&decide (1=List.length ([(.agg [(.int .i64 (yaa (yab (List.getD l0 (i2.toNat) .nils) 0))),(.data a),(.data b)])]:Ls)))
 (yd5 a0 x0 x1 n ([(.agg [(.int .i64 (yaa (yab (List.getD l0 (i2.toNat) .nils) 0))),(.data a),(.data b)])]:Ls) l0 i1 (IntKind.i64.wrap (i2+(1:Int))))))))))))
 (x1 l0 i1 i2 false))
def yd5 (a0:ydF) (x0:Ls→Ls→Int→Int→Bool→Prop) (x1:Ls→Int→Int→Bool→Prop):Nat→Ls→Ls→Int→Int→Prop
 | 0,_,_,_,_=>False
 | n+1,l0,l3,i4,i5 =>
 (cbr (decide (i5<i4))
 (asr (decide ((0:Int)≤i5))
 (asr (decide (i5<(((List.length l3):Nat):Int)))
 (asr (conf zK (List.getD l3 (i5.toNat) .nils))
 (a0 (yaI (yab (List.getD l3 (i5.toNat) .nils) 1)) (fun a =>
 (a0 (yaI (yab (List.getD l3 (i5.toNat) .nils) 2)) (fun b =>
 (asr (decide ((List.length l0)=(List.length l0)))
 (asr (decide ((0+(List.length l0))≤(List.length l0)))
 (asr (!(decide (((0+(List.length l0))+1)≤(List.length l0))))
 (asr (decide ((List.length l0)=(List.length l0)))
 (asr (decide ((((List.length l0)+1)+64)*(56+1)≤room))
 (asr (decide ((List.length (l0++([(.agg [(.int .i64 (yaa (yab (List.getD l3 (i5.toNat) .nils) 0))),(.data a),(.data b)])]:Ls)))=List.length (l0++([(.agg [(.int .i64 (yaa (yab (List.getD l3 (i5.toNat) .nils) 0))),(.data a),(.data b)])]:Ls)))&&decide ((List.length (l0++([(.agg [(.int .i64 (yaa (yab (List.getD l3 (i5.toNat) .nils) 0))),(.data a),(.data b)])]:Ls)))=List.length (l0++([(.agg [(.int .i64 (yaa (yab (List.getD l3 (i5.toNat) .nils) 0))),(.data a),(.data b)])]:Ls))))
 (yd5 a0 x0 x1 n (l0++([(.agg [(.int .i64 (yaa (yab (List.getD l3 (i5.toNat) .nils) 0))),(.data a),(.data b)])]:Ls)) l3 i4 (IntKind.i64.wrap (i5+(1:Int)))))))))))))))))
 (x0 l0 l3 i4 i5 false))
end
def ymy (a0:ydF) (p0:Ls) (K:Ls→Prop):Prop :=
 (∃ n:Nat,ygw a0
 (fun a b c d e=>(asr (decide ((List.length a)=(List.length a)))
 (asr (decide ((0+(List.length a))≤(List.length a)))
 (K (List.take (List.length a) a)))))
 (fun f g h i=>(K ([]:Ls)))
 n p0 (((List.length p0):Nat):Int) (0:Int))
def yeJ:yfv:=ymy yeD
def yCP:Sg:=⟨pt7,Ls→Prop,fun K=>(fun r0=>K (.data r0))⟩
def ynj (Q:Qx):Ls→Ls→Int→Int→Bool→Prop:=(fun l0 l3 i4 i5 b6=>Q (.exit 0) [(3,.v (.own 0 0 (List.length l0) (List.length l0) none)),(6,.v (.data l3)),(7,.v (.int .i64 i4)),(8,.v (.int .i64 i5)),(9,.v (.bool b6))] [⟨false,true,3,l0⟩])
def ynk (Q:Qx):Ls→Int→Int→Bool→Prop:=(fun l0 i1 i2 b3=>Q (.exit 0) [(3,.v .nils),(6,.v (.data l0)),(7,.v (.int .i64 i1)),(8,.v (.int .i64 i2)),(9,.v (.bool b3))] [])
def pt22:HPt:=hB false true 3 rA hN
def pt23:VPt:=vW 0 (nK 0) (nT 0) (nT 0)
def yo1 (a0:ydF) (Q:Qx):List St:=[⟨(pS hN (fV 3 vNs (fV 6 vD pt8)) fN),ygw a0 (ynj Q) (ynk Q)⟩,⟨(pS pt22 (fV 3 pt23 (fV 6 vD pt8)) fN),yd5 a0 (ynj Q) (ynk Q)⟩]
def ysi (a0:ydF):LP:=lpS [(94933800,yo1 a0)]
def ymz (e:Es) (a0:ydF):SE:=sE (E e) [(yev,ytg a0)] (ysi a0)
theorem yqc (e:Es) (he:EG e):SEOk (Uni (E e)) (ymz e yeD):=yaz (Sub.uni _) ⟨(yti e he),trivial⟩ trivial he.ok
theorem yvc (e:Es) (a0):ybV (ymz e a0) 5 a ysM false (yo1 a0):=fun _=>⟨fun _=>by kernel_rfl,fun _ _=>by kernel_rfl,fun _=>by kernel_rfl,fun _ _=>by kernel_rfl,trivial⟩
theorem yvd (e:Es) (he:EG e):LpT (Uni (E e)) (ysi yeD) [] 94933800 (.loop 94933800 ysM):=fun _ _ _=>yrX.st (Sub.uni _) (yaK (yqc e he) 5) (YOk.no _ _) (yak (by kernel_rfl)) (yvc e _ _)
theorem yCQ (e:Es) (a0):EqW (ymz e a0) 6 yuH yCP (ymy a0):=fun _ _=>by kernel_rfl
theorem yjg (e:Es) (he:EG e):OkF (E e) (yCP.pw yeJ) ygo:=okU he (yCQ e _) (yqc e he) ypG.flat (ya1 (l:=[(94933800,.loop 94933800 ysM)]) ⟨yvd e he,trivial⟩ (by kernel_rfl))
abbrev yck:Type:=Ls→(Ls→Ls→Int→Prop)→Prop
def yqd (a0:yal) (a1:yfv) (p0:Ls) (K:Ls→Ls→Int→Prop):Prop :=
 (a0 p0 ([]:Ls) (fun a =>
 (cbr (a !=(0:Int))
 (K ([]:Ls) ([]:Ls) a)
 (a1 p0 (fun b =>
 (K b ([]:Ls) (0:Int)))))))
def yhg:yck:=yqd yaS yeJ
def yGm:Sg:=⟨pt7,Ls→Ls→Int→Prop,fun K=>(fun r0 r1 r2=>K (.tup [(.agg [(.data r0),(.data r1)]),(.int .i64 r2)]))⟩
def yGn (e:Es) (a0:yal) (a1:yfv):SE:=sE (E e) [(ydb,yvb.pw a0),(ygo,yCP.pw a1)] lp0
theorem yGo (e:Es) (a0 a1):EqW (yGn e a0 a1) 6 yHC yGm (yqd a0 a1):=fun _ _=>by kernel_rfl
theorem yGp (e:Es) (he:EG e):OkF (E e) (yGm.pw yhg) ynS:=okU he (yGo e _ _) (yaz (Sub.uni _) ⟨(ydx e he),(yjg e he),trivial⟩ trivial he.ok) ypG.flat (yak (by kernel_rfl))
abbrev ybB:Type:=Ls→Ls→Int→(Bool→Prop)→Prop
def yhV (p0 p1:Ls) (p2:Int) (K:Bool→Prop):Prop :=
 (cbr (decide (p2≥(0:Int)))
 (K (decide (p2<(((List.length p0):Nat):Int))))
 (K false))
def ybN:ybB:=yhV
def yve:Sg:=⟨(lC pt21 pt1),Bool→Prop,fun K=>(fun r0=>K (.bool r0))⟩
def yvf (e:Es):SE:=sE (E e) [] lp0
theorem yvg (e:Es):EqW (yvf e) 6 ywU yve yhV:=fun _ _=>by kernel_rfl
theorem yfY (e:Es) (he:EG e):OkF (E e) (yve.pw ybN) ydk:=okU he (yvg e) (yaz (Sub.uni _) trivial trivial he.ok) ypG.flat (yak (by kernel_rfl))
abbrev yqe:Type:=Ls→Ls→Int→(Int→Int→Prop)→Prop
def yol (a0:yal) (a1:ybB) (a2:yaE) (p0 p1:Ls) (p2:Int) (K:Int→Int→Prop):Prop :=
 (a0 p0 p1 (fun b =>
 (cbr (b !=(0:Int))
 (K (0:Int) b)
 (a1 p0 p1 p2 (fun c =>
 (cbr (!c)
 (K (0:Int) (2:Int))
 (asr (decide ((0:Int)≤p2))
 (asr (decide (p2<(((List.length p0):Nat):Int)))
 (lt (List.getD p0 (p2.toNat) .nils) (fun a =>
 (asr (conf zK a)
 (a2 (yaa (yab a 0)) (yaI (yab a 1)) (yaI (yab a 2)) (fun d e =>
 (K d e))))))))))))))
def yjp:yqe:=yol yaS ybN yaj
def yER:Sg:=⟨(lC pt21 pt1),Int→Int→Prop,fun K=>(fun r0 r1=>K (.tup [(.int .i64 r0),(.int .i64 r1)]))⟩
def yES (e:Es) (a0:yal) (a1:ybB) (a2:yaE):SE:=sE (E e) [(ydb,yvb.pw a0),(ydk,yve.pw a1),(ydu,yCC.pw a2)] lp0
theorem yET (e:Es) (a0 a1 a2):EqW (yES e a0 a1 a2) 6 yGb yER (yol a0 a1 a2):=fun _ _=>by kernel_rfl
theorem yEU (e:Es) (he:EG e):OkF (E e) (yER.pw yjp) ylC:=okU he (yET e _ _ _) (yaz (Sub.uni _) ⟨(ydx e he),(yfY e he),(yd1 e he),trivial⟩ trivial he.ok) ypG.flat (yak (by kernel_rfl))
abbrev yaU:Type:=Ls→Ls→Int→Int→Int→Int→Int→(Int→Int→Int→Prop)→Prop
def ye3 (a0:ycK) (p0 p1:Ls) (p2 p3 p4 p5 p6:Int) (K:Int→Int→Int→Prop):Prop :=
 (asr (decide ((0:Int)≤p2))
 (asr (decide (p2<(((List.length p0):Nat):Int)))
 (asr (conf zK (List.getD p0 (p2.toNat) .nils))
 (a0 (yaa (yab (List.getD p0 (p2.toNat) .nils) 0)) (yaI (yab (List.getD p0 (p2.toNat) .nils) 1)) (yaI (yab (List.getD p0 (p2.toNat) .nils) 2)) p3 p4 p5 p6 (fun a b c =>
 (K a b c))))))
def ybU:yaU:=ye3 ybJ
def pt24:LPt:=lC pt21 (lC pt0 pt10)
def yjO:Sg:=⟨pt24,Int→Int→Int→Prop,fun K=>(fun r0 r1 r2=>K (.tup [(.agg [(.int .i64 r0),(.int .i64 r1)]),(.int .i64 r2)]))⟩
def yrw (e:Es) (a0:ycK):SE:=sE (E e) [(ygq,ysf.pw a0)] lp0
theorem yrx (e:Es) (a0):EqW (yrw e a0) 6 ysW yjO (ye3 a0):=fun _ _=>by kernel_rfl
theorem yjP (e:Es) (he:EG e):OkF (E e) (yjO.pw ybU) yea:=okU he (yrx e _) (yaz (Sub.uni _) ⟨(yjf e he),trivial⟩ trivial he.ok) ypG.flat (yak (by kernel_rfl))
abbrev yhu:Type:=Ls→Ls→Int→Int→Int→Int→Int→(Ls→Ls→Int→Int→Int→Prop)→Prop
def yom (a0:yal) (a1:ybB) (a2:yaU) (a3:yfv) (p0 p1:Ls) (p2 p3 p4 p5 p6:Int) (K:Ls→Ls→Int→Int→Int→Prop):Prop :=
 (a0 p0 p1 (fun c =>
 (cbr (c !=(0:Int))
 (K ([]:Ls) ([]:Ls) (0:Int) (0:Int) c)
 (a1 p0 p1 p2 (fun f =>
 (cbr (!f)
 (K ([]:Ls) ([]:Ls) (0:Int) (0:Int) (2:Int))
 (a2 p0 p1 p2 p3 p4 p5 p6 (fun a b d =>
 (cbr (d !=(0:Int))
 (K ([]:Ls) ([]:Ls) (0:Int) (0:Int) d)
 (cbr (decide ((((List.length p1):Nat):Int)≥(2000:Int)))
 (K ([]:Ls) ([]:Ls) (0:Int) (0:Int) (4:Int))
 (asr (decide ((0:Int)≤(IntKind.i64.wrap ((((List.length p1):Nat):Int)+(1:Int)))))
 (asr (decide ((((IntKind.i64.wrap ((((List.length p1):Nat):Int)+(1:Int))).toNat)+64)*(64+1)≤room))
 (a3 p0 (fun e =>
 (asr (yd9 8 p1)
 (asr (decide ((List.length (List.replicate ((IntKind.i64.wrap ((((List.length p1):Nat):Int)+(1:Int))).toNat) ((.agg [(.int .i64 (0)),(.int .u8 (0)),(.int .i64 (0)),(.int .i64 (0)),(.int .i64 (0)),(.int .i64 (0)),(.int .i64 (0)),(.int .i64 (0))]):PV)))=((IntKind.i64.wrap ((((List.length p1):Nat):Int)+(1:Int))).toNat)))
 (asr (decide (0≤((IntKind.i64.wrap ((((List.length p1):Nat):Int)+(1:Int))).toNat)))
 (cbr (List.isEmpty p1)
 (asr (decide ((List.length (List.replicate ((IntKind.i64.wrap ((((List.length p1):Nat):Int)+(1:Int))).toNat) ((.agg [(.int .i64 (0)),(.int .u8 (0)),(.int .i64 (0)),(.int .i64 (0)),(.int .i64 (0)),(.int .i64 (0)),(.int .i64 (0)),(.int .i64 (0))]):PV)))=((IntKind.i64.wrap ((((List.length p1):Nat):Int)+(1:Int))).toNat)))
 (asr (decide (0≤((IntKind.i64.wrap ((((List.length p1):Nat):Int)+(1:Int))).toNat)))
 (asr (decide (1≤((IntKind.i64.wrap ((((List.length p1):Nat):Int)+(1:Int))).toNat)))
 (asr (decide ((List.length (([(.agg [(.int .i64 p2),(.int .u8 (1:Int)),(.int .i64 p3),(.int .i64 p4),(.int .i64 p5),(.int .i64 p6),(.int .i64 a),(.int .i64 b)])]:Ls)++(List.drop 1 (List.replicate ((IntKind.i64.wrap ((((List.length p1):Nat):Int)+(1:Int))).toNat) ((.agg [(.int .i64 (0)),(.int .u8 (0)),(.int .i64 (0)),(.int .i64 (0)),(.int .i64 (0)),(.int .i64 (0)),(.int .i64 (0)),(.int .i64 (0))]):PV)))))=((IntKind.i64.wrap ((((List.length p1):Nat):Int)+(1:Int))).toNat)))
 (asr (decide (1≤((IntKind.i64.wrap ((((List.length p1):Nat):Int)+(1:Int))).toNat)))
 (K e (List.take 1 (([(.agg [(.int .i64 p2),(.int .u8 (1:Int)),(.int .i64 p3),(.int .i64 p4),(.int .i64 p5),(.int .i64 p6),(.int .i64 a),(.int .i64 b)])]:Ls)++(List.drop 1 (List.replicate ((IntKind.i64.wrap ((((List.length p1):Nat):Int)+(1:Int))).toNat) ((.agg [(.int .i64 (0)),(.int .u8 (0)),(.int .i64 (0)),(.int .i64 (0)),(.int .i64 (0)),(.int .i64 (0)),(.int .i64 (0)),(.int .i64 (0))]):PV))))) a b (0:Int)))))))
 (asr (decide ((0+(List.length p1))≤((IntKind.i64.wrap ((((List.length p1):Nat):Int)+(1:Int))).toNat)))
 (asr (decide ((List.length (p1++(List.drop (0+(List.length p1)) (List.replicate ((IntKind.i64.wrap ((((List.length p1):Nat):Int)+(1:Int))).toNat) ((.agg [(.int .i64 (0)),(.int .u8 (0)),(.int .i64 (0)),(.int .i64 (0)),(.int .i64 (0)),(.int .i64 (0)),(.int .i64 (0)),(.int .i64 (0))]):PV)))))=((IntKind.i64.wrap ((((List.length p1):Nat):Int)+(1:Int))).toNat)))
 (asr (decide ((0+(0+(List.length p1)))≤((IntKind.i64.wrap ((((List.length p1):Nat):Int)+(1:Int))).toNat)))
 (asr (decide (((0+(List.length p1))+1)≤((IntKind.i64.wrap ((((List.length p1):Nat):Int)+(1:Int))).toNat)))
 (asr (decide ((List.length ((List.take (0+(0+(List.length p1))) (p1++(List.drop (0+(List.length p1)) (List.replicate ((IntKind.i64.wrap ((((List.length p1):Nat):Int)+(1:Int))).toNat) ((.agg [(.int .i64 (0)),(.int .u8 (0)),(.int .i64 (0)),(.int .i64 (0)),(.int .i64 (0)),(.int .i64 (0)),(.int .i64 (0)),(.int .i64 (0))]):PV)))))++(([(.agg [(.int .i64 p2),(.int .u8 (1:Int)),(.int .i64 p3),(.int .i64 p4),(.int .i64 p5),(.int .i64 p6),(.int .i64 a),(.int .i64 b)])]:Ls)++(List.drop ((0+(0+(List.length p1)))+1) (p1++(List.drop (0+(List.length p1)) (List.replicate ((IntKind.i64.wrap ((((List.length p1):Nat):Int)+(1:Int))).toNat) ((.agg [(.int .i64 (0)),(.int .u8 (0)),(.int .i64 (0)),(.int .i64 (0)),(.int .i64 (0)),(.int .i64 (0)),(.int .i64 (0)),(.int .i64 (0))]):PV))))))))=((IntKind.i64.wrap ((((List.length p1):Nat):Int)+(1:Int))).toNat)))
 (asr (decide ((0+((0+(List.length p1))+1))≤((IntKind.i64.wrap ((((List.length p1):Nat):Int)+(1:Int))).toNat)))
 (K e (List.take ((0+(List.length p1))+1) ((List.take (0+(0+(List.length p1))) (p1++(List.drop (0+(List.length p1)) (List.replicate ((IntKind.i64.wrap ((((List.length p1):Nat):Int)+(1:Int))).toNat) ((.agg [(.int .i64 (0)),(.int .u8 (0)),(.int .i64 (0)),(.int .i64 (0)),(.int .i64 (0)),(.int .i64 (0)),(.int .i64 (0)),(.int .i64 (0))]):PV)))))++(([(.agg [(.int .i64 p2),(.int .u8 (1:Int)),(.int .i64 p3),(.int .i64 p4),(.int .i64 p5),(.int .i64 p6),(.int .i64 a),(.int .i64 b)])]:Ls)++(List.drop ((0+(0+(List.length p1)))+1) (p1++(List.drop (0+(List.length p1)) (List.replicate ((IntKind.i64.wrap ((((List.length p1):Nat):Int)+(1:Int))).toNat) ((.agg [(.int .i64 (0)),(.int .u8 (0)),(.int .i64 (0)),(.int .i64 (0)),(.int .i64 (0)),(.int .i64 (0)),(.int .i64 (0)),(.int .i64 (0))]):PV)))))))) a b (0:Int))))))))))))))))))))))))))
def yeK:yhu:=yom yaS ybN ybU yeJ
def yvh:Sg:=⟨pt24,Ls→Ls→Int→Int→Int→Prop,fun K=>(fun r0 r1 r2 r3 r4=>K (.tup [(.agg [(.data r0),(.data r1)]),(.agg [(.int .i64 r2),(.int .i64 r3)]),(.int .i64 r4)]))⟩
def yEV (e:Es) (a0:yal) (a1:ybB) (a2:yaU) (a3:yfv):SE:=⟨(E e),yeW [(ydb,yvb.pw a0),(ydk,yve.pw a1),(yea,yjO.pw a2),(ygo,yCP.pw a3)],yeX [(yiw,ynb)],lp0,fun _=>none⟩
theorem yEW (e:Es) (a0 a1 a2 a3):EqW (yEV e a0 a1 a2 a3) 6 yGg yvh (yom a0 a1 a2 a3):=fun _ _=>by kernel_rfl
theorem yvi (e:Es) (he:EG e):OkF (E e) (yvh.pw yeK) ylD:=okU he (yEW e _ _ _ _) (yaz (Sub.uni _) ⟨(ydx e he),(yfY e he),(yjP e he),(yjg e he),trivial⟩ ⟨⟨by kernel_rfl,by kernel_rfl,rfl,fun az=>yaB (by kernel_rfl) az,he.num _ (by kernel_rfl),by kernel_rfl,(yak (by kernel_rfl))⟩,trivial⟩ he.ok) ypG.flat (yak (by kernel_rfl))
def yfw (a0:ycK) (p0 p1:Ls) (p2 p3 p4 p5 p6:Int) (K:Int→Int→Int→Prop):Prop :=
 (asr (decide ((0:Int)≤p2))
 (asr (decide (p2<(((List.length p0):Nat):Int)))
 (asr (conf zK (List.getD p0 (p2.toNat) .nils))
 (a0 (yaa (yab (List.getD p0 (p2.toNat) .nils) 0)) (yaI (yab (List.getD p0 (p2.toNat) .nils) 1)) (yaI (yab (List.getD p0 (p2.toNat) .nils) 2)) p3 p4 p5 p6 (fun a b c =>
 (K a b c))))))
def ych:yaU:=yfw yht
def yty (e:Es) (a0:ycK):SE:=sE (E e) [(ylE,ysf.pw a0)] lp0
theorem ytz (e:Es) (a0):EqW (yty e a0) 6 yuM yjO (yfw a0):=fun _ _=>by kernel_rfl
theorem ykX (e:Es) (he:EG e):OkF (E e) (yjO.pw ych) yeB:=okU he (ytz e _) (yaz (Sub.uni _) ⟨(yu4 e he),trivial⟩ trivial he.ok) ypG.flat (yak (by kernel_rfl))
def yqf (a0:yal) (a1:ybB) (a2:yaU) (a3:yfv) (p0 p1:Ls) (p2 p3 p4 p5 p6:Int) (K:Ls→Ls→Int→Int→Int→Prop):Prop :=
 (a0 p0 p1 (fun c =>
 (cbr (c !=(0:Int))
 (K ([]:Ls) ([]:Ls) (0:Int) (0:Int) c)
 (a1 p0 p1 p2 (fun f =>
 (cbr (!f)
 (K ([]:Ls) ([]:Ls) (0:Int) (0:Int) (2:Int))
 (a2 p0 p1 p2 p3 p4 p5 p6 (fun a b d =>
 (cbr (d !=(0:Int))
 (K ([]:Ls) ([]:Ls) (0:Int) (0:Int) d)
 (cbr (decide ((((List.length p1):Nat):Int)≥(2000:Int)))
 (K ([]:Ls) ([]:Ls) (0:Int) (0:Int) (4:Int))
 (asr (decide ((0:Int)≤(IntKind.i64.wrap ((((List.length p1):Nat):Int)+(1:Int)))))
 (asr (decide ((((IntKind.i64.wrap ((((List.length p1):Nat):Int)+(1:Int))).toNat)+64)*(64+1)≤room))
 (a3 p0 (fun e =>
 (asr (yd9 8 p1)
 (asr (decide ((List.length (List.replicate ((IntKind.i64.wrap ((((List.length p1):Nat):Int)+(1:Int))).toNat) ((.agg [(.int .i64 (0)),(.int .u8 (0)),(.int .i64 (0)),(.int .i64 (0)),(.int .i64 (0)),(.int .i64 (0)),(.int .i64 (0)),(.int .i64 (0))]):PV)))=((IntKind.i64.wrap ((((List.length p1):Nat):Int)+(1:Int))).toNat)))
 (asr (decide (0≤((IntKind.i64.wrap ((((List.length p1):Nat):Int)+(1:Int))).toNat)))
 (cbr (List.isEmpty p1)
 (asr (decide ((List.length (List.replicate ((IntKind.i64.wrap ((((List.length p1):Nat):Int)+(1:Int))).toNat) ((.agg [(.int .i64 (0)),(.int .u8 (0)),(.int .i64 (0)),(.int .i64 (0)),(.int .i64 (0)),(.int .i64 (0)),(.int .i64 (0)),(.int .i64 (0))]):PV)))=((IntKind.i64.wrap ((((List.length p1):Nat):Int)+(1:Int))).toNat)))
 (asr (decide (0≤((IntKind.i64.wrap ((((List.length p1):Nat):Int)+(1:Int))).toNat)))
 (asr (decide (1≤((IntKind.i64.wrap ((((List.length p1):Nat):Int)+(1:Int))).toNat)))
 (asr (decide ((List.length (([(.agg [(.int .i64 p2),(.int .u8 (2:Int)),(.int .i64 p3),(.int .i64 p4),(.int .i64 p5),(.int .i64 p6),(.int .i64 a),(.int .i64 b)])]:Ls)++(List.drop 1 (List.replicate ((IntKind.i64.wrap ((((List.length p1):Nat):Int)+(1:Int))).toNat) ((.agg [(.int .i64 (0)),(.int .u8 (0)),(.int .i64 (0)),(.int .i64 (0)),(.int .i64 (0)),(.int .i64 (0)),(.int .i64 (0)),(.int .i64 (0))]):PV)))))=((IntKind.i64.wrap ((((List.length p1):Nat):Int)+(1:Int))).toNat)))
 (asr (decide (1≤((IntKind.i64.wrap ((((List.length p1):Nat):Int)+(1:Int))).toNat)))
 (K e (List.take 1 (([(.agg [(.int .i64 p2),(.int .u8 (2:Int)),(.int .i64 p3),(.int .i64 p4),(.int .i64 p5),(.int .i64 p6),(.int .i64 a),(.int .i64 b)])]:Ls)++(List.drop 1 (List.replicate ((IntKind.i64.wrap ((((List.length p1):Nat):Int)+(1:Int))).toNat) ((.agg [(.int .i64 (0)),(.int .u8 (0)),(.int .i64 (0)),(.int .i64 (0)),(.int .i64 (0)),(.int .i64 (0)),(.int .i64 (0)),(.int .i64 (0))]):PV))))) a b (0:Int)))))))
 (asr (decide ((0+(List.length p1))≤((IntKind.i64.wrap ((((List.length p1):Nat):Int)+(1:Int))).toNat)))
 (asr (decide ((List.length (p1++(List.drop (0+(List.length p1)) (List.replicate ((IntKind.i64.wrap ((((List.length p1):Nat):Int)+(1:Int))).toNat) ((.agg [(.int .i64 (0)),(.int .u8 (0)),(.int .i64 (0)),(.int .i64 (0)),(.int .i64 (0)),(.int .i64 (0)),(.int .i64 (0)),(.int .i64 (0))]):PV)))))=((IntKind.i64.wrap ((((List.length p1):Nat):Int)+(1:Int))).toNat)))
 (asr (decide ((0+(0+(List.length p1)))≤((IntKind.i64.wrap ((((List.length p1):Nat):Int)+(1:Int))).toNat)))
 (asr (decide (((0+(List.length p1))+1)≤((IntKind.i64.wrap ((((List.length p1):Nat):Int)+(1:Int))).toNat)))
 (asr (decide ((List.length ((List.take (0+(0+(List.length p1))) (p1++(List.drop (0+(List.length p1)) (List.replicate ((IntKind.i64.wrap ((((List.length p1):Nat):Int)+(1:Int))).toNat) ((.agg [(.int .i64 (0)),(.int .u8 (0)),(.int .i64 (0)),(.int .i64 (0)),(.int .i64 (0)),(.int .i64 (0)),(.int .i64 (0)),(.int .i64 (0))]):PV)))))++(([(.agg [(.int .i64 p2),(.int .u8 (2:Int)),(.int .i64 p3),(.int .i64 p4),(.int .i64 p5),(.int .i64 p6),(.int .i64 a),(.int .i64 b)])]:Ls)++(List.drop ((0+(0+(List.length p1)))+1) (p1++(List.drop (0+(List.length p1)) (List.replicate ((IntKind.i64.wrap ((((List.length p1):Nat):Int)+(1:Int))).toNat) ((.agg [(.int .i64 (0)),(.int .u8 (0)),(.int .i64 (0)),(.int .i64 (0)),(.int .i64 (0)),(.int .i64 (0)),(.int .i64 (0)),(.int .i64 (0))]):PV))))))))=((IntKind.i64.wrap ((((List.length p1):Nat):Int)+(1:Int))).toNat)))
 (asr (decide ((0+((0+(List.length p1))+1))≤((IntKind.i64.wrap ((((List.length p1):Nat):Int)+(1:Int))).toNat)))
 (K e (List.take ((0+(List.length p1))+1) ((List.take (0+(0+(List.length p1))) (p1++(List.drop (0+(List.length p1)) (List.replicate ((IntKind.i64.wrap ((((List.length p1):Nat):Int)+(1:Int))).toNat) ((.agg [(.int .i64 (0)),(.int .u8 (0)),(.int .i64 (0)),(.int .i64 (0)),(.int .i64 (0)),(.int .i64 (0)),(.int .i64 (0)),(.int .i64 (0))]):PV)))))++(([(.agg [(.int .i64 p2),(.int .u8 (2:Int)),(.int .i64 p3),(.int .i64 p4),(.int .i64 p5),(.int .i64 p6),(.int .i64 a),(.int .i64 b)])]:Ls)++(List.drop ((0+(0+(List.length p1)))+1) (p1++(List.drop (0+(List.length p1)) (List.replicate ((IntKind.i64.wrap ((((List.length p1):Nat):Int)+(1:Int))).toNat) ((.agg [(.int .i64 (0)),(.int .u8 (0)),(.int .i64 (0)),(.int .i64 (0)),(.int .i64 (0)),(.int .i64 (0)),(.int .i64 (0)),(.int .i64 (0))]):PV)))))))) a b (0:Int))))))))))))))))))))))))))
def yeS:yhu:=yqf yaS ybN ych yeJ
def yGq (e:Es) (a0:yal) (a1:ybB) (a2:yaU) (a3:yfv):SE:=⟨(E e),yeW [(ydb,yvb.pw a0),(ydk,yve.pw a1),(yeB,yjO.pw a2),(ygo,yCP.pw a3)],yeX [(yiw,ynb)],lp0,fun _=>none⟩
theorem yGr (e:Es) (a0 a1 a2 a3):EqW (yGq e a0 a1 a2 a3) 6 yHD yvh (yqf a0 a1 a2 a3):=fun _ _=>by kernel_rfl
theorem yyl (e:Es) (he:EG e):OkF (E e) (yvh.pw yeS) ynT:=okU he (yGr e _ _ _ _) (yaz (Sub.uni _) ⟨(ydx e he),(yfY e he),(ykX e he),(yjg e he),trivial⟩ ⟨⟨by kernel_rfl,by kernel_rfl,rfl,fun az=>yaB (by kernel_rfl) az,he.num _ (by kernel_rfl),by kernel_rfl,(yak (by kernel_rfl))⟩,trivial⟩ he.ok) ypG.flat (yak (by kernel_rfl))
abbrev yon:Type:=Ls→Ls→(Int→Int→Prop)→Prop
def yd6 (a0:yal) (a1:ybB) (a2:yaU) (a3:yaU) (x0:Ls→Ls→Ls→Ls→Int→Int→Bool→Prop) (x1:Int→Int→Prop):Nat→Ls→Ls→Ls→Ls→Int→Int→Prop
 | 0,_,_,_,_,_,_=>False
 | n+1,l0,l1,l2,l3,i4,i5 =>
 (cbr (decide (i5<i4))
 (jn (fun d =>
 (asr (decide ((0:Int)≤i5))
 (asr (decide (i5<(((List.length l3):Nat):Int)))
 (lt (List.getD l3 (i5.toNat) .nils) (fun a =>
 (asr (conf (.agg [.i .i64,.i .u8,.i .i64,.i .i64,.i .i64,.i .i64,.i .i64,.i .i64]) a)
 (cbr ((yaa (yab a 1)) ==(2:Int))
 (jn (fun (b:Bool→Prop) =>
 (a1 l1 l2 (yaa (yab a 0)) (fun g =>
 (cbr (!g)
 (b true)
 (cbr (decide ((yaa (yab a 1))<(1:Int)))
 (b true)
 (b (decide ((yaa (yab a 1))>(2:Int)))))))))
 (fun h=>(cbr h
 (x1 i5 (0:Int))
 (a2 l1 l2 (yaa (yab a 0)) (yaa (yab a 2)) (yaa (yab a 3)) (yaa (yab a 4)) (yaa (yab a 5)) (fun j k l =>
 (jn (fun (e:Bool→Prop) =>
 (cbr (l !=(0:Int))
 (e true)
 (e (!((j ==(yaa (yab a 6)))&&((k ==(yaa (yab a 7)))&&true))))))
 (fun m=>(cbr m
 (x1 i5 (0:Int))
 d))))))))
 (jn (fun (c:Bool→Prop) =>
 (a1 l1 l2 (yaa (yab a 0)) (fun o =>
 (cbr (!o)
 (c true)
 (cbr (decide ((yaa (yab a 1))<(1:Int)))
 (c true)
 (c (decide ((yaa (yab a 1))>(2:Int)))))))))
 (fun p=>(cbr p
 (x1 i5 (0:Int))
 (a3 l1 l2 (yaa (yab a 0)) (yaa (yab a 2)) (yaa (yab a 3)) (yaa (yab a 4)) (yaa (yab a 5)) (fun q r s =>
 (jn (fun (f:Bool→Prop) =>
 (cbr (s !=(0:Int))
 (f true)
 (f (!((q ==(yaa (yab a 6)))&&((r ==(yaa (yab a 7)))&&true))))))
 (fun t=>(cbr t
 (x1 i5 (0:Int))
 d)))))))))))))))
 (lt (IntKind.i64.wrap (i5+(1:Int))) (fun u =>
 (yd6 a0 a1 a2 a3 x0 x1 n l0 l1 l2 l3 i4 u))))
 (x0 l0 l1 l2 l3 i4 i5 false))
def ymA (a0:yal) (a1:ybB) (a2:yaU) (a3:yaU) (p0 p1:Ls) (K:Int→Int→Prop):Prop :=
 (a0 p0 p1 (fun a =>
 (cbr (a !=(0:Int))
 (K (0:Int) a)
 (∃ n:Nat,yd6 a0 a1 a2 a3
 (fun b e f g h i j=>(K (((List.length b):Nat):Int) (0:Int)))
 (fun c d=>(K c d))
 n p1 p0 p1 p1 (((List.length p1):Nat):Int) (0:Int)))))
def ygx:yon:=ymA yaS ybN ych ybU
def yCR:Sg:=⟨pt13,Int→Int→Prop,fun K=>(fun r0 r1=>K (.tup [(.int .i64 r0),(.int .i64 r1)]))⟩
def yxp (Q:Qx):Ls→Ls→Ls→Ls→Int→Int→Bool→Prop:=(fun l0 l1 l2 l3 i4 i5 b6=>Q (.exit 0) [(1,.v (.data l0)),(6,.box (.agg [(.data l1),(.data l2)])),(25,.v (.data l3)),(26,.v (.int .i64 i4)),(27,.v (.int .i64 i5)),(28,.v (.bool b6))] [])
def yxq (Q:Qx):Int→Int→Prop:=(fun i0 i1=>Q .ret [(4,.v (.int .i64 i0)),(5,.v (.int .i64 i1))] [])
def pt25:Pat Frm:=fV 25 vD (fV 26 pt0 (fV 27 pt0 fN))
def yo2 (a0:yal) (a1:ybB) (a2:yaU) (a3:yaU) (Q:Qx):List St:=[⟨(pS hN (fV 1 vD (fX 6 pt21 pt25)) fN),yd6 a0 a1 a2 a3 (yxp Q) (yxq Q)⟩]
def ysj (a0:yal) (a1:ybB) (a2:yaU) (a3:yaU):LP:=lpS [(47732200,yo2 a0 a1 a2 a3)]
def ymB (e:Es) (a0:yal) (a1:ybB) (a2:yaU) (a3:yaU):SE:=sE (E e) [(ydb,yvb.pw a0),(ydk,yve.pw a1),(yeB,yjO.pw a2),(yea,yjO.pw a3)] (ysj a0 a1 a2 a3)
theorem yqg (e:Es) (he:EG e):SEOk (Uni (E e)) (ymB e yaS ybN ych ybU):=yaz (Sub.uni _) ⟨(ydx e he),(yfY e he),(ykX e he),(yjP e he),trivial⟩ trivial he.ok
theorem yvj (e:Es) (a0 a1 a2 a3):ybV (ymB e a0 a1 a2 a3) 5 a ys4 false (yo2 a0 a1 a2 a3):=fun _=>⟨fun _=>by kernel_rfl,fun _ _=>by kernel_rfl,trivial⟩
theorem yvk (e:Es) (he:EG e):LpT (Uni (E e)) (ysj yaS ybN ych ybU) [] 47732200 (.loop 47732200 ys4):=fun _ _ _=>yrX.st (Sub.uni _) (yaK (yqg e he) 5) (YOk.no _ _) (yak (by kernel_rfl)) (yvj e _ _ _ _ _)
theorem yCS (e:Es) (a0 a1 a2 a3):EqW (ymB e a0 a1 a2 a3) 6 yuN yCR (ymA a0 a1 a2 a3):=fun _ _=>by kernel_rfl
theorem ysk (e:Es) (he:EG e):OkF (E e) (yCR.pw ygx) yjZ:=okU he (yCS e _ _ _ _) (yqg e he) ypG.flat (ya1 (l:=[(47732200,.loop 47732200 ys4)]) ⟨yvk e he,trivial⟩ (by kernel_rfl))
set_option linter.unusedVariables false
theorem yCT (p0:Ls) (p1:Ls) (r0:Int) (h:∀ K:Int→Prop,K r0→yaS p0 p1 K) (K:Int→Prop):yaS p0 p1 K=K r0 :=
 propext ⟨fun k=>detC (ydx [] ybq) (az:=[(.agg [(.data p0),(.data p1)])]) (x:=(.int .i64 r0)) (fun K' k'=>h (fun r0=>K' (.int .i64 r0)) k') (K:=fun x=>match x with | (.int .i64 r0)=>K r0 | _=>False) k,h K⟩
theorem yA7 (p0:Ls) (r0:Ls) (h:∀ K:Ls→Prop,K r0→yeJ p0 K) (K:Ls→Prop):yeJ p0 K=K r0 :=
 propext ⟨fun k=>detC (yjg [] ybq) (az:=[(.data p0)]) (x:=(.data r0)) (fun K' k'=>h (fun r0=>K' (.data r0)) k') (K:=fun x=>match x with | (.data r0)=>K r0 | _=>False) k,h K⟩
theorem yCU (p0:Ls) (p1:Ls) (p2:Int) (p3:Int) (p4:Int) (p5:Int) (p6:Int) (r0:Ls) (r1:Ls) (r2:Int) (r3:Int) (r4:Int) (h:∀ K:Ls→Ls→Int→Int→Int→Prop,K r0 r1 r2 r3 r4→yeK p0 p1 p2 p3 p4 p5 p6 K) (K:Ls→Ls→Int→Int→Int→Prop):yeK p0 p1 p2 p3 p4 p5 p6 K=K r0 r1 r2 r3 r4 :=
 propext ⟨fun k=>detC (yvi [] ybq) (az:=[(.agg [(.data p0),(.data p1)]),(.int .i64 p2),(.agg [(.int .i64 p3),(.int .i64 p4)]),(.agg [(.int .i64 p5),(.int .i64 p6)])]) (x:=(.tup [(.agg [(.data r0),(.data r1)]),(.agg [(.int .i64 r2),(.int .i64 r3)]),(.int .i64 r4)])) (fun K' k'=>h (fun r0 r1 r2 r3 r4=>K' (.tup [(.agg [(.data r0),(.data r1)]),(.agg [(.int .i64 r2),(.int .i64 r3)]),(.int .i64 r4)])) k') (K:=fun x=>match x with | (.tup [(.agg [(.data r0),(.data r1)]),(.agg [(.int .i64 r2),(.int .i64 r3)]),(.int .i64 r4)])=>K r0 r1 r2 r3 r4 | _=>False) k,h K⟩
theorem yEX (p0:Ls) (p1:Ls) (p2:Int) (p3:Int) (p4:Int) (p5:Int) (p6:Int) (r0:Ls) (r1:Ls) (r2:Int) (r3:Int) (r4:Int) (h:∀ K:Ls→Ls→Int→Int→Int→Prop,K r0 r1 r2 r3 r4→yeS p0 p1 p2 p3 p4 p5 p6 K) (K:Ls→Ls→Int→Int→Int→Prop):yeS p0 p1 p2 p3 p4 p5 p6 K=K r0 r1 r2 r3 r4 :=
 propext ⟨fun k=>detC (yyl [] ybq) (az:=[(.agg [(.data p0),(.data p1)]),(.int .i64 p2),(.agg [(.int .i64 p3),(.int .i64 p4)]),(.agg [(.int .i64 p5),(.int .i64 p6)])]) (x:=(.tup [(.agg [(.data r0),(.data r1)]),(.agg [(.int .i64 r2),(.int .i64 r3)]),(.int .i64 r4)])) (fun K' k'=>h (fun r0 r1 r2 r3 r4=>K' (.tup [(.agg [(.data r0),(.data r1)]),(.agg [(.int .i64 r2),(.int .i64 r3)]),(.int .i64 r4)])) k') (K:=fun x=>match x with | (.tup [(.agg [(.data r0),(.data r1)]),(.agg [(.int .i64 r2),(.int .i64 r3)]),(.int .i64 r4)])=>K r0 r1 r2 r3 r4 | _=>False) k,h K⟩
theorem yA8 (p0:Ls) (p1:Ls) (r0:Int) (r1:Int) (h:∀ K:Int→Int→Prop,K r0 r1→ygx p0 p1 K) (K:Int→Int→Prop):ygx p0 p1 K=K r0 r1 :=
 propext ⟨fun k=>detC (ysk [] ybq) (az:=[(.data p0),(.data p1)]) (x:=(.tup [(.int .i64 r0),(.int .i64 r1)])) (fun K' k'=>h (fun r0 r1=>K' (.tup [(.int .i64 r0),(.int .i64 r1)])) k') (K:=fun x=>match x with | (.tup [(.int .i64 r0),(.int .i64 r1)])=>K r0 r1 | _=>False) k,h K⟩
def yDC (p0:Int) (K:Int→Int→Prop):Prop :=
 (K p0 (1:Int))
def yA9:yac:=yDC
def yJS (e:Es):SE:=sE (E e) [] lp0
theorem yJT (e:Es):EqW (yJS e) 6 yK2 yjd yDC:=fun _ _=>by kernel_rfl
theorem yJU (e:Es) (he:EG e):OkF (E e) (yjd.pw yA9) yuF:=okU he (yJT e) (yaz (Sub.uni _) trivial trivial he.ok) ypG.flat (yak (by kernel_rfl))
abbrev yhv:Type:=Int→Ls→Ls→(Bool→Prop)→Prop
def yoo (p0:Int) (p1 p2:Ls) (K:Bool→Prop):Prop :=
 (cbr (decide ((((List.length p1):Nat):Int)>(60:Int)))
 (K true)
 (K (decide ((((List.length p2):Nat):Int)>(60:Int)))))
def ygd:yhv:=yoo
def yEY:Sg:=⟨pt15,Bool→Prop,fun K=>(fun r0=>K (.bool r0))⟩
def yEZ (e:Es):SE:=sE (E e) [] lp0
theorem yE0 (e:Es):EqW (yEZ e) 6 yF8 yEY yoo:=fun _ _=>by kernel_rfl
theorem yE1 (e:Es) (he:EG e):OkF (E e) (yEY.pw ygd) yly:=okU he (yE0 e) (yaz (Sub.uni _) trivial trivial he.ok) ypG.flat (yak (by kernel_rfl))
def ydO (x0:Int→Prop) (x1:Int→Ls→Ls→Bool→Int→Bool→Prop):Nat→Int→Ls→Ls→Bool→Int→Prop
 | 0,_,_,_,_,_=>False
 | n+1,i0,l1,l2,b3,i4 =>
 (cbr (decide (i4<(((List.length l2):Nat):Int)))
 (asr (decide ((0:Int)≤(IntKind.i64.wrap (i4+(1:Int)))))
 (asr (decide ((IntKind.i64.wrap (i4+(1:Int)))<(((List.length l1):Nat):Int)))
 (asr (conf zI (List.getD l1 ((IntKind.i64.wrap (i4+(1:Int))).toNat) .nils))
 (asr (decide ((0:Int)≤i4))
 (asr (decide (i4<(((List.length l1):Nat):Int)))
 (asr (conf zI (List.getD l1 (i4.toNat) .nils))
 (cbr (decide ((yaa (List.getD l1 ((IntKind.i64.wrap (i4+(1:Int))).toNat) .nils))≤(yaa (List.getD l1 (i4.toNat) .nils))))
 (x0 (8:Int))
 (asr (decide ((0:Int)≤i4))
 (asr (decide (i4<(((List.length l2):Nat):Int)))
 (asr (conf zI (List.getD l2 (i4.toNat) .nils))
 (cbr (decide ((yaa (List.getD l2 (i4.toNat) .nils))<(0:Int)))
 (x0 (8:Int))
 (asr (decide ((0:Int)≤i4))
 (asr (decide (i4<(((List.length l2):Nat):Int)))
 (asr (conf zI (List.getD l2 (i4.toNat) .nils))
 (cbr (decide ((yaa (List.getD l2 (i4.toNat) .nils))>(12:Int)))
 (x0 (8:Int))
 (cbr b3
 (ydO x0 x1 n i0 l1 l2 true (IntKind.i64.wrap (i4+(1:Int))))
 (asr (decide ((0:Int)≤i4))
 (asr (decide (i4<(((List.length l2):Nat):Int)))
 (asr (conf zI (List.getD l2 (i4.toNat) .nils))
 (ydO x0 x1 n i0 l1 l2 (decide ((yaa (List.getD l2 (i4.toNat) .nils))>(0:Int))) (IntKind.i64.wrap (i4+(1:Int)))))))))))))))))))))))
 (x1 i0 l1 l2 b3 i4 false))
def yop (p0:Int) (p1 p2:Ls) (K:Int→Prop):Prop :=
 (cbr (decide (p0>(1000:Int)))
 (K (4:Int))
 (cbr (decide ((((List.length p1):Nat):Int)>(40:Int)))
 (K (4:Int))
 (cbr (decide (p0<(1:Int)))
 (K (8:Int))
 (cbr (decide ((((List.length p1):Nat):Int)<(2:Int)))
 (K (8:Int))
 (cbr ((((List.length p2):Nat):Int) !=(IntKind.i64.wrap ((((List.length p1):Nat):Int)-(1:Int))))
 (K (8:Int))
 (asr (decide ((0:Int)<(((List.length p1):Nat):Int)))
 (asr (conf zI (List.getD p1 0 .nils))
 (cbr ((yaa (List.getD p1 0 .nils)) !=(0:Int))
 (K (8:Int))
 (asr (decide ((0:Int)≤(IntKind.i64.wrap ((((List.length p1):Nat):Int)-(1:Int)))))
 (asr (decide ((IntKind.i64.wrap ((((List.length p1):Nat):Int)-(1:Int)))<(((List.length p1):Nat):Int)))
 (asr (conf zI (List.getD p1 ((IntKind.i64.wrap ((((List.length p1):Nat):Int)-(1:Int))).toNat) .nils))
 (cbr ((yaa (List.getD p1 ((IntKind.i64.wrap ((((List.length p1):Nat):Int)-(1:Int))).toNat) .nils)) != p0)
 (K (8:Int))
 (∃ n:Nat,ydO
 (fun a=>(K a))
 (fun c d e b f g=>(cbr (!b)
 (K (8:Int))
 (K (0:Int))))
 n p0 p1 p2 false (0:Int))))))))))))))
def ydf:yaF:=yop
def yy2 (Q:Qx):Int→Prop:=(fun i0=>Q .ret [(2,.v (.int .i64 i0))] [])
def yy3 (Q:Qx):Int→Ls→Ls→Bool→Int→Bool→Prop:=(fun i0 l1 l2 b3 i4 b5=>Q (.exit 0) [(1,.box (.agg [(.int .i64 i0),(.data l1),(.data l2)])),(3,.v (.bool b3)),(4,.v (.int .i64 i4)),(57,.v (.bool b5))] [])
def yqh (Q:Qx):List St:=[⟨(pS hN (fX 1 pt14 (fV 3 vB pt11)) fN),ydO (yy2 Q) (yy3 Q)⟩]
def yvl:LP:=lpS [(94526800,yqh)]
def yoq (e:Es):SE:=sE (E e) [] (yvl)
theorem ysl (e:Es) (he:EG e):SEOk (Uni (E e)) (yoq e):=yaz (Sub.uni _) trivial trivial he.ok
theorem yxr (e:Es):ybV (yoq e) 5 a ysG false (yqh):=fun _=>⟨fun _=>by kernel_rfl,fun _ _=>by kernel_rfl,trivial⟩
theorem yxs (e:Es) (he:EG e):LpT (Uni (E e)) (yvl) [] 94526800 (.loop 94526800 ysG):=fun _ _ _=>yrX.st (Sub.uni _) (yaK (ysl e he) 5) (YOk.no _ _) (yak (by kernel_rfl)) (yxr e _)
theorem yE2 (e:Es):EqW (yoq e) 6 yyg ysb yop:=fun _ _=>by kernel_rfl
theorem yvm (e:Es) (he:EG e):OkF (E e) (ysb.pw ydf) ylz:=okU he (yE2 e) (ysl e he) ypG.flat (ya1 (l:=[(94526800,.loop 94526800 ysG)]) ⟨yxs e he,trivial⟩ (by kernel_rfl))
set_option linter.unusedVariables false
theorem yCV (p0:Int) (p1:Ls) (p2:Ls) (r0:Int) (h:∀ K:Int→Prop,K r0→ydf p0 p1 p2 K) (K:Int→Prop):ydf p0 p1 p2 K=K r0 :=
 propext ⟨fun k=>detC (yvm [] ybq) (az:=[(.agg [(.int .i64 p0),(.data p1),(.data p2)])]) (x:=(.int .i64 r0)) (fun K' k'=>h (fun r0=>K' (.int .i64 r0)) k') (K:=fun x=>match x with | (.int .i64 r0)=>K r0 | _=>False) k,h K⟩
abbrev ydo:Type:=Ls→(Bool→Prop)→Prop
def ycQ (a0:yhv) (x0:Bool→Prop) (x1:Ls→Int→Bool→Prop):Nat→Ls→Int→Prop
 | 0,_,_=>False
 | n+1,l0,i1 =>
 (cbr (decide (i1<(((List.length l0):Nat):Int)))
 (asr (decide ((0:Int)≤i1))
 (asr (decide (i1<(((List.length l0):Nat):Int)))
 (asr (conf zK (List.getD l0 (i1.toNat) .nils))
 (a0 (yaa (yab (List.getD l0 (i1.toNat) .nils) 0)) (yaI (yab (List.getD l0 (i1.toNat) .nils) 1)) (yaI (yab (List.getD l0 (i1.toNat) .nils) 2)) (fun a =>
 (cbr a
 (x0 true)
 (ycQ a0 x0 x1 n l0 (IntKind.i64.wrap (i1+(1:Int))))))))))
 (x1 l0 i1 false))
def yhW (a0:yhv) (p0:Ls) (K:Bool→Prop):Prop :=
 (∃ n:Nat,ycQ a0
 (fun a=>(K a))
 (fun b c d=>(K (decide ((((List.length b):Nat):Int)>(10:Int)))))
 n p0 (0:Int))
def yd7:ydo:=yhW ygd
def yhX:Sg:=⟨pt7,Bool→Prop,fun K=>(fun r0=>K (.bool r0))⟩
def yqi (Q:Qx):Bool→Prop:=(fun b0=>Q .ret [(2,.v (.bool b0))] [])
def yqj (Q:Qx):Ls→Int→Bool→Prop:=(fun l0 i1 b2=>Q (.exit 0) [(0,.v (.data l0)),(3,.v (.int .i64 i1)),(7,.v (.bool b2))] [])
def yjQ (a0:yhv) (Q:Qx):List St:=[⟨(pS hN (fV 0 vD (fV 3 pt0 fN)) fN),ycQ a0 (yqi Q) (yqj Q)⟩]
def ylL (a0:yhv):LP:=lpS [(4277600,yjQ a0)]
def yhY (e:Es) (a0:yhv):SE:=sE (E e) [(yly,yEY.pw a0)] (ylL a0)
theorem ykY (e:Es) (he:EG e):SEOk (Uni (E e)) (yhY e ygd):=yaz (Sub.uni _) ⟨(yE1 e he),trivial⟩ trivial he.ok
theorem ypl (e:Es) (a0):ybV (yhY e a0) 5 a ywR false (yjQ a0):=fun _=>⟨fun _=>by kernel_rfl,fun _ _=>by kernel_rfl,trivial⟩
theorem ypm (e:Es) (he:EG e):LpT (Uni (E e)) (ylL ygd) [] 4277600 (.loop 4277600 ywR):=fun _ _ _=>yrX.st (Sub.uni _) (yaK (ykY e he) 5) (YOk.no _ _) (yak (by kernel_rfl)) (ypl e _ _)
theorem yvn (e:Es) (a0):EqW (yhY e a0) 6 yna yhX (yhW a0):=fun _ _=>by kernel_rfl
theorem ylM (e:Es) (he:EG e):OkF (E e) (yhX.pw yd7) ygn:=okU he (yvn e _) (ykY e he) ypG.flat (ya1 (l:=[(4277600,.loop 4277600 ywR)]) ⟨ypm e he,trivial⟩ (by kernel_rfl))
def yeq (a0:yaF) (a:Int→Prop) (b:Ls→Ls→Int→Bool→Prop):Nat→Ls→Ls→Int→Prop
 | 0,_,_,_=>False
 | c+1,l0,l1,i2 =>
 (cbr (decide (i2<(((List.length l0):Nat):Int)))
 (asr (decide ((0:Int)≤i2))
 (asr (decide (i2<(((List.length l0):Nat):Int)))
 (asr (conf zK (List.getD l0 (i2.toNat) .nils))
 (a0 (yaa (yab (List.getD l0 (i2.toNat) .nils) 0)) (yaI (yab (List.getD l0 (i2.toNat) .nils) 1)) (yaI (yab (List.getD l0 (i2.toNat) .nils) 2)) (fun d =>
 (cbr (d !=(0:Int))
 (asr (decide ((0:Int)≤i2))
 (asr (decide (i2<(((List.length l0):Nat):Int)))
 (asr (conf zK (List.getD l0 (i2.toNat) .nils))
 (a0 (yaa (yab (List.getD l0 (i2.toNat) .nils) 0)) (yaI (yab (List.getD l0 (i2.toNat) .nils) 1)) (yaI (yab (List.getD l0 (i2.toNat) .nils) 2)) (fun e =>
 (a e))))))
 (yeq a0 a b c l0 l1 (IntKind.i64.wrap (i2+(1:Int))))))))))
 (b l0 l1 i2 false))
def ydP (a0:yaF) (a:Int→Prop) (b:Ls→Ls→Int→Bool→Prop):Nat→Ls→Ls→Int→Prop
 | 0,_,_,_=>False
 | c+1,l0,l1,i2 =>
 (cbr (decide (i2<(((List.length l0):Nat):Int)))
 (asr (decide ((0:Int)≤i2))
 (asr (decide (i2<(((List.length l0):Nat):Int)))
 (asr (conf zK (List.getD l0 (i2.toNat) .nils))
 (asr (decide ((0:Int)<(((List.length l0):Nat):Int)))
 (asr (conf zK (List.getD l0 0 .nils))
 (cbr ((yaa (yab (List.getD l0 (i2.toNat) .nils) 0)) !=(yaa (yab (List.getD l0 0 .nils) 0)))
 (a (8:Int))
 (ydP a0 a b c l0 l1 (IntKind.i64.wrap (i2+(1:Int))))))))))
 (b l0 l1 i2 false))
def yor (a0:yaF) (p0 p1:Ls) (K:Int→Prop):Prop :=
 (cbr (decide ((((List.length p0):Nat):Int)>(6:Int)))
 (K (4:Int))
 (cbr (decide ((((List.length p1):Nat):Int)>(2000:Int)))
 (K (4:Int))
 (cbr ((((List.length p0):Nat):Int) ==(0:Int))
 (K (8:Int))
 (∃ a:Nat,yeq a0
 (fun b=>(K b))
 (fun c d g h=>(∃ e:Nat,ydP a0
 (fun f=>(K f))
 (fun i j k l=>(K (0:Int)))
 e c d (0:Int)))
 a p0 p1 (0:Int)))))
def yge:yal:=yor ydf
def yy4 (Q:Qx):Int→Prop:=(fun i0=>Q .ret [(2,.v (.int .i64 i0))] [])
def yy5 (Q:Qx):Ls→Ls→Int→Bool→Prop:=(fun l0 l1 i2 b3=>Q (.exit 0) [(1,.box (.agg [(.data l0),(.data l1)])),(3,.v (.int .i64 i2)),(23,.v (.bool b3))] [])
def yy6 (Q:Qx):Int→Prop:=(fun i0=>Q .ret [(2,.v (.int .i64 i0))] [])
def yy7 (Q:Qx):Ls→Ls→Int→Bool→Prop:=(fun l0 l1 i2 b3=>Q (.exit 2) [(1,.box (.agg [(.data l0),(.data l1)])),(4,.v (.int .i64 i2)),(43,.v (.bool b3))] [])
def yqk (a0:yaF) (Q:Qx):List St:=[⟨(pS hN (fX 1 pt21 (fV 3 pt0 fN)) fN),yeq a0 (yy4 Q) (yy5 Q)⟩]
def yql (a0:yaF) (Q:Qx):List St:=[⟨(pS hN (fX 1 pt21 pt11) fN),ydP a0 (yy6 Q) (yy7 Q)⟩]
def yos (a0:yaF):LP:=lpS [(6981300,yqk a0),(6981301,yql a0)]
def yka (e:Es) (a0:yaF):SE:=sE (E e) [(ylz,ysb.pw a0)] (yos a0)
theorem ymC (e:Es) (he:EG e):SEOk (Uni (E e)) (yka e ydf):=yaz (Sub.uni _) ⟨(yvm e he),trivial⟩ trivial he.ok
theorem yxt (e:Es) (a0):ybV (yka e a0) 5 a ywS false (yqk a0):=fun _=>⟨fun _=>by kernel_rfl,fun _ _=>by kernel_rfl,trivial⟩
theorem yxu (e:Es) (he:EG e):LpT (Uni (E e)) (yos ydf) [] 6981300 (.loop 6981300 ywS):=fun _ _ _=>yrX.st (Sub.uni _) (yaK (ymC e he) 5) (YOk.no _ _) (yak (by kernel_rfl)) (yxt e _ _)
theorem yxv (e:Es) (a0):ybV (yka e a0) 5 a ywT false (yql a0):=fun _=>⟨fun _=>by kernel_rfl,fun _ _=>by kernel_rfl,trivial⟩
theorem yxw (e:Es) (he:EG e):LpT (Uni (E e)) (yos ydf) [] 6981301 (.loop 6981301 ywT):=fun _ _ _=>yrX.st (Sub.uni _) (yaK (ymC e he) 5) (YOk.no _ _) (yak (by kernel_rfl)) (yxv e _ _)
theorem yE3 (e:Es) (a0):EqW (yka e a0) 6 ypI yvb (yor a0):=fun _ _=>by kernel_rfl
theorem yvo (e:Es) (he:EG e):OkF (E e) (yvb.pw yge) ylA:=okU he (yE3 e _) (ymC e he) ypG.flat (ya1 (l:=[(6981300,.loop 6981300 ywS),(6981301,.loop 6981301 ywT)]) ⟨yxu e he,yxw e he,trivial⟩ (by kernel_rfl))
set_option linter.unusedVariables false
theorem ytA (p0:Ls) (r0:Bool) (h:∀ K:Bool→Prop,K r0→yd7 p0 K) (K:Bool→Prop):yd7 p0 K=K r0 :=
 propext ⟨fun k=>detC (ylM [] ybq) (az:=[(.data p0)]) (x:=(.bool r0)) (fun K' k'=>h (fun r0=>K' (.bool r0)) k') (K:=fun x=>match x with | (.bool r0)=>K r0 | _=>False) k,h K⟩
theorem yCW (p0:Ls) (p1:Ls) (r0:Int) (h:∀ K:Int→Prop,K r0→yge p0 p1 K) (K:Int→Prop):yge p0 p1 K=K r0 :=
 propext ⟨fun k=>detC (yvo [] ybq) (az:=[(.agg [(.data p0),(.data p1)])]) (x:=(.int .i64 r0)) (fun K' k'=>h (fun r0=>K' (.int .i64 r0)) k') (K:=fun x=>match x with | (.int .i64 r0)=>K r0 | _=>False) k,h K⟩
def yfd (x0:Bool→Prop) (x1:Ls→Ls→Int→Bool→Prop):Nat→Ls→Ls→Int→Prop
 | 0,_,_,_=>False
 | n+1,l0,l1,i2 =>
 (cbr (decide (i2<(((List.length l0):Nat):Int)))
 (asr (decide ((0:Int)≤i2))
 (asr (decide (i2<(((List.length l0):Nat):Int)))
 (asr (conf z4 (List.getD l0 (i2.toNat) .nils))
 (asr (decide ((0:Int)≤i2))
 (asr (decide (i2<(((List.length l1):Nat):Int)))
 (asr (conf z4 (List.getD l1 (i2.toNat) .nils))
 (cbr (!(((yaa (yab (List.getD l0 (i2.toNat) .nils) 0)) ==(yaa (yab (List.getD l1 (i2.toNat) .nils) 0)))&&(((yaa (yab (List.getD l0 (i2.toNat) .nils) 1)) ==(yaa (yab (List.getD l1 (i2.toNat) .nils) 1)))&&(((yaa (yab (List.getD l0 (i2.toNat) .nils) 2)) ==(yaa (yab (List.getD l1 (i2.toNat) .nils) 2)))&&(((yaa (yab (List.getD l0 (i2.toNat) .nils) 3)) ==(yaa (yab (List.getD l1 (i2.toNat) .nils) 3)))&&true)))))
 (x0 false)
 (yfd x0 x1 n l0 l1 (IntKind.i64.wrap (i2+(1:Int)))))))))))
 (x1 l0 l1 i2 false))
def yqm (p0 p1:Ls) (K:Bool→Prop):Prop :=
 (cbr ((((List.length p0):Nat):Int) !=(((List.length p1):Nat):Int))
 (K false)
 (∃ n:Nat,yfd
 (fun a=>(K a))
 (fun b c d e=>(K true))
 n p0 p1 (0:Int)))
def yeT:yad:=yqm
def yBa (Q:Qx):Bool→Prop:=(fun b0=>Q .ret [(4,.v (.bool b0))] [])
def yBb (Q:Qx):Ls→Ls→Int→Bool→Prop:=(fun l0 l1 i2 b3=>Q (.exit 0) [(0,.v (.data l0)),(1,.v (.data l1)),(5,.v (.int .i64 i2)),(14,.v (.bool b3))] [])
def pt26:Pat Sta:=pS hN (fV 0 vD (fV 1 vD (fV 5 pt0 fN))) fN
def ysm (Q:Qx):List St:=[⟨pt26,yfd (yBa Q) (yBb Q)⟩]
def yym:LP:=lpS [(27088800,ysm)]
def yqn (e:Es):SE:=sE (E e) [] (yym)
theorem yvp (e:Es) (he:EG e):SEOk (Uni (E e)) (yqn e):=yaz (Sub.uni _) trivial trivial he.ok
theorem yy8 (e:Es):ybV (yqn e) 5 a ys1 false (ysm):=fun _=>⟨fun _=>by kernel_rfl,fun _ _=>by kernel_rfl,trivial⟩
theorem yy9 (e:Es) (he:EG e):LpT (Uni (E e)) (yym) [] 27088800 (.loop 27088800 ys1):=fun _ _ _=>yrX.st (Sub.uni _) (yaK (yvp e he) 5) (YOk.no _ _) (yak (by kernel_rfl)) (yy8 e _)
theorem yGs (e:Es):EqW (yqn e) 6 yAI ycu yqm:=fun _ _=>by kernel_rfl
theorem yyn (e:Es) (he:EG e):OkF (E e) (ycu.pw yeT) ynV:=okU he (yGs e) (yvp e he) ypG.flat (ya1 (l:=[(27088800,.loop 27088800 ys1)]) ⟨yy9 e he,trivial⟩ (by kernel_rfl))
def yfe (a0:yad) (x0:Bool→Prop) (x1:Ls→Ls→Int→Bool→Prop):Nat→Ls→Ls→Int→Prop
 | 0,_,_,_=>False
 | n+1,l0,l1,i2 =>
 (cbr (decide (i2<(((List.length l0):Nat):Int)))
 (asr (decide ((0:Int)≤i2))
 (asr (decide (i2<(((List.length l0):Nat):Int)))
 (asr (conf zD (List.getD l0 (i2.toNat) .nils))
 (asr (decide ((0:Int)≤i2))
 (asr (decide (i2<(((List.length l1):Nat):Int)))
 (asr (conf zD (List.getD l1 (i2.toNat) .nils))
 (a0 (yaI (List.getD l0 (i2.toNat) .nils)) (yaI (List.getD l1 (i2.toNat) .nils)) (fun a =>
 (cbr (!a)
 (x0 false)
 (yfe a0 x0 x1 n l0 l1 (IntKind.i64.wrap (i2+(1:Int)))))))))))))
 (x1 l0 l1 i2 false))
def yqo (a0:yad) (p0 p1:Ls) (K:Bool→Prop):Prop :=
 (cbr ((((List.length p0):Nat):Int) !=(((List.length p1):Nat):Int))
 (K false)
 (∃ n:Nat,yfe a0
 (fun a=>(K a))
 (fun b c d e=>(K true))
 n p0 p1 (0:Int)))
def yhh:yad:=yqo yeT
def yGt:Sg:=⟨(lC (vA pt7) (lC (vA pt7) lN)),Bool→Prop,fun K=>(fun r0=>K (.bool r0))⟩
def yBc (Q:Qx):Bool→Prop:=(fun b0=>Q .ret [(4,.v (.bool b0))] [])
def yBd (Q:Qx):Ls→Ls→Int→Bool→Prop:=(fun l0 l1 i2 b3=>Q (.exit 0) [(2,.box (.agg [(.data l0)])),(3,.box (.agg [(.data l1)])),(5,.v (.int .i64 i2)),(17,.v (.bool b3))] [])
def ysn (a0:yad) (Q:Qx):List St:=[⟨(pS hN (fX 2 (vA pt7) (fX 3 (vA pt7) (fV 5 pt0 fN))) fN),yfe a0 (yBc Q) (yBd Q)⟩]
def yyo (a0:yad):LP:=lpS [(70742100,ysn a0)]
def yqp (e:Es) (a0:yad):SE:=sE (E e) [(ynV,ycu.pw a0)] (yyo a0)
theorem yvq (e:Es) (he:EG e):SEOk (Uni (E e)) (yqp e yeT):=yaz (Sub.uni _) ⟨(yyn e he),trivial⟩ trivial he.ok
theorem yza (e:Es) (a0):ybV (yqp e a0) 5 a ys2 false (ysn a0):=fun _=>⟨fun _=>by kernel_rfl,fun _ _=>by kernel_rfl,trivial⟩
theorem yzb (e:Es) (he:EG e):LpT (Uni (E e)) (yyo yeT) [] 70742100 (.loop 70742100 ys2):=fun _ _ _=>yrX.st (Sub.uni _) (yaK (yvq e he) 5) (YOk.no _ _) (yak (by kernel_rfl)) (yza e _ _)
theorem yGu (e:Es) (a0):EqW (yqp e a0) 6 yAJ yGt (yqo a0):=fun _ _=>by kernel_rfl
theorem yyp (e:Es) (he:EG e):OkF (E e) (yGt.pw yhh) ynW:=okU he (yGu e _) (yvq e he) ypG.flat (ya1 (l:=[(70742100,.loop 70742100 ys2)]) ⟨yzb e he,trivial⟩ (by kernel_rfl))
def yff (x0:Bool→Prop) (x1:Ls→Ls→Int→Bool→Prop):Nat→Ls→Ls→Int→Prop
 | 0,_,_,_=>False
 | n+1,l0,l1,i2 =>
 (cbr (decide (i2<(((List.length l0):Nat):Int)))
 (asr (decide ((0:Int)≤i2))
 (asr (decide (i2<(((List.length l0):Nat):Int)))
 (asr (conf zI (List.getD l0 (i2.toNat) .nils))
 (asr (decide ((0:Int)≤i2))
 (asr (decide (i2<(((List.length l1):Nat):Int)))
 (asr (conf zI (List.getD l1 (i2.toNat) .nils))
 (cbr ((yaa (List.getD l0 (i2.toNat) .nils)) !=(yaa (List.getD l1 (i2.toNat) .nils)))
 (x0 false)
 (yff x0 x1 n l0 l1 (IntKind.i64.wrap (i2+(1:Int)))))))))))
 (x1 l0 l1 i2 false))
def yqq (p0 p1:Ls) (K:Bool→Prop):Prop :=
 (cbr ((((List.length p0):Nat):Int) !=(((List.length p1):Nat):Int))
 (K false)
 (∃ n:Nat,yff
 (fun a=>(K a))
 (fun b c d e=>(K true))
 n p0 p1 (0:Int)))
def yhi:yad:=yqq
def yBe (Q:Qx):Bool→Prop:=(fun b0=>Q .ret [(4,.v (.bool b0))] [])
def yBf (Q:Qx):Ls→Ls→Int→Bool→Prop:=(fun l0 l1 i2 b3=>Q (.exit 0) [(0,.v (.data l0)),(1,.v (.data l1)),(5,.v (.int .i64 i2)),(14,.v (.bool b3))] [])
def yso (Q:Qx):List St:=[⟨pt26,yff (yBe Q) (yBf Q)⟩]
def yyq:LP:=lpS [(14397100,yso)]
def yqr (e:Es):SE:=sE (E e) [] (yyq)
theorem yvr (e:Es) (he:EG e):SEOk (Uni (E e)) (yqr e):=yaz (Sub.uni _) trivial trivial he.ok
theorem yzc (e:Es):ybV (yqr e) 5 a ys3 false (yso):=fun _=>⟨fun _=>by kernel_rfl,fun _ _=>by kernel_rfl,trivial⟩
theorem yzd (e:Es) (he:EG e):LpT (Uni (E e)) (yyq) [] 14397100 (.loop 14397100 ys3):=fun _ _ _=>yrX.st (Sub.uni _) (yaK (yvr e he) 5) (YOk.no _ _) (yak (by kernel_rfl)) (yzc e _)
theorem yGv (e:Es):EqW (yqr e) 6 yAK ycu yqq:=fun _ _=>by kernel_rfl
theorem yyr (e:Es) (he:EG e):OkF (E e) (ycu.pw yhi) ynX:=okU he (yGv e) (yvr e he) ypG.flat (ya1 (l:=[(14397100,.loop 14397100 ys3)]) ⟨yzd e he,trivial⟩ (by kernel_rfl))
set_option linter.unusedVariables false
theorem yE4 (p0:Ls) (p1:Ls) (r0:Bool) (h:∀ K:Bool→Prop,K r0→yeT p0 p1 K) (K:Bool→Prop):yeT p0 p1 K=K r0 :=
 propext ⟨fun k=>detC (yyn [] ybq) (az:=[(.data p0),(.data p1)]) (x:=(.bool r0)) (fun K' k'=>h (fun r0=>K' (.bool r0)) k') (K:=fun x=>match x with | (.bool r0)=>K r0 | _=>False) k,h K⟩
theorem yE5 (p0:Ls) (p1:Ls) (r0:Bool) (h:∀ K:Bool→Prop,K r0→yhh p0 p1 K) (K:Bool→Prop):yhh p0 p1 K=K r0 :=
 propext ⟨fun k=>detC (yyp [] ybq) (az:=[(.agg [(.data p0)]),(.agg [(.data p1)])]) (x:=(.bool r0)) (fun K' k'=>h (fun r0=>K' (.bool r0)) k') (K:=fun x=>match x with | (.bool r0)=>K r0 | _=>False) k,h K⟩
theorem yE6 (p0:Ls) (p1:Ls) (r0:Bool) (h:∀ K:Bool→Prop,K r0→yhi p0 p1 K) (K:Bool→Prop):yhi p0 p1 K=K r0 :=
 propext ⟨fun k=>detC (yyr [] ybq) (az:=[(.data p0),(.data p1)]) (x:=(.bool r0)) (fun K' k'=>h (fun r0=>K' (.bool r0)) k') (K:=fun x=>match x with | (.bool r0)=>K r0 | _=>False) k,h K⟩
def yqs (p0:Int) (K:Int→Int→Prop):Prop :=
 (K p0 (1:Int))
def yaJ:yac:=yqs
def yBg (e:Es):SE:=sE (E e) [] lp0
theorem yBh (e:Es):EqW (yBg e) 11 yCl yjd yqs:=fun _ _=>by kernel_rfl
theorem yee (e:Es) (he:EG e):OkF (E e) (yjd.pw yaJ) ycW:=okU he (yBh e) (yaz (Sub.uni _) trivial trivial he.ok) ypG.flat (yak (by kernel_rfl))
def ymD (a0:yat) (p0 p1 p2 p3:Int) (K:Bool→Prop):Prop :=
 (a0 p0 p1 p2 p3 (fun a b =>
 (K (decide (a<(0:Int))))))
def yan:yau:=ymD ya3
def yCX (e:Es) (a0:yat):SE:=sE (E e) [(ydc,yEB.pw a0)] lp0
theorem yCY (e:Es) (a0):EqW (yCX e a0) 11 yEy yuZ (ymD a0):=fun _ _=>by kernel_rfl
theorem yeU (e:Es) (he:EG e):OkF (E e) (yuZ.pw yan) ydv:=okU he (yCY e _) (yaz (Sub.uni _) ⟨(ydw e he),trivial⟩ trivial he.ok) ypG.flat (yak (by kernel_rfl))
def ydG (a0:yal) (a1:yaq) (a2:yac) (a3:yau) (a:Ls→Ls→Ls→Int→Int→Bool→Prop) (b:Int→Prop):Nat→Ls→Ls→Ls→Int→Int→Prop
 | 0,_,_,_,_,_=>False
 | e+1,l0,l1,l2,i3,i4 =>
 (cbr (decide (i4<i3))
 (asr (decide ((0:Int)≤i4))
 (asr (decide (i4<(((List.length l2):Nat):Int)))
 (lt (List.getD l2 (i4.toNat) .nils) (fun c =>
 (asr (conf zD c)
 (a1 (yaI c) (fun d =>
 (cbr (d !=(0:Int))
 (b d)
 (lt (IntKind.i64.wrap (i4+(1:Int))) (fun f =>
 (ydG a0 a1 a2 a3 a b e l0 l1 l2 i3 f)))))))))))
 (a l0 l1 l2 i3 i4 false))
def yc0 (a0:yal) (a1:yaq) (a2:yac) (a3:yau) (e:Ls→Ls→Int→Int→Bool→Prop) (f:Int→Prop):Nat→Ls→Ls→Int→Int→Prop
 | 0,_,_,_,_=>False
 | i+1,l0,l1,i2,i3 =>
 (cbr (decide (i3<i2))
 (asr (decide ((0:Int)≤i3))
 (asr (decide (i3<(((List.length l1):Nat):Int)))
 (lt (List.getD l1 (i3.toNat) .nils) (fun a =>
 (asr (conf zD a)
 (jn (fun (b:Bool→Prop) =>
 (cbr (decide ((((List.length (yaI a)):Nat):Int)>(0:Int)))
 (asr (decide ((0:Int)<(((List.length (yaI a)):Nat):Int)))
 (lt (List.getD (yaI a) 0 .nils) (fun g =>
 (asr (conf z4 g)
 (cbr (decide ((yaa (yab g 0))<(0:Int)))
 (b true)
 (asr (decide ((0:Int)<(((List.length l0):Nat):Int)))
 (lt (List.getD l0 0 .nils) (fun h =>
 (asr (conf zK h)
 (a2 (yaa (yab h 0)) (fun j k =>
 (lt (IntKind.i64.wrap ((((List.length (yaI a)):Nat):Int)-(1:Int))) (fun c =>
 (asr (decide ((0:Int)≤c))
 (asr (decide (c<(((List.length (yaI a)):Nat):Int)))
 (lt (List.getD (yaI a) (c.toNat) .nils) (fun d =>
 (asr (conf z4 d)
 (a3 j k (yaa (yab d 2)) (yaa (yab d 3)) (fun l =>
 (b l)))))))))))))))))))))
 (b false)))
 (fun m=>(cbr m
 (f (2:Int))
 (lt (IntKind.i64.wrap (i3+(1:Int))) (fun n =>
 (yc0 a0 a1 a2 a3 e f i l0 l1 i2 n)))))))))))
 (e l0 l1 i2 i3 false))
def ykZ (a0:yal) (a1:yaq) (a2:yac) (a3:yau) (p0 p1:Ls) (K:Int→Prop):Prop :=
 (a0 p0 ([]:Ls) (fun a =>
 (cbr (a !=(0:Int))
 (K a)
 (cbr ((((List.length p1):Nat):Int) !=(((List.length p0):Nat):Int))
 (K (2:Int))
 (∃ c:Nat,ydG a0 a1 a2 a3
 (fun d b h i j k=>(∃ e:Nat,yc0 a0 a1 a2 a3
 (fun l m n o p=>(K (0:Int)))
 (fun f=>(K f))
 e d b (((List.length b):Nat):Int) (0:Int)))
 (fun g=>(K g))
 c p0 p1 p1 (((List.length p1):Nat):Int) (0:Int))))))
def ydy:yal:=ykZ yaS ya6 yaJ yan
def pt27:LPt:=lC vD (lC (vA pt7) lN)
def yBi:Sg:=⟨pt27,Int→Prop,fun K=>(fun r0=>K (.int .i64 r0))⟩
def yqt (az:Ls) (K:PV→Prop):Prop:=yBi.pw ydy az K
def yvs (Q:Qx):Ls→Ls→Ls→Int→Int→Bool→Prop:=(fun l0 l1 l2 i3 i4 b5=>Q (.exit 0) [(0,.v (.data l0)),(3,.box (.agg [(.data l1)])),(25,.v (.data l2)),(26,.v (.int .i64 i3)),(27,.v (.int .i64 i4)),(28,.v (.bool b5))] [])
def yvt (Q:Qx):Int→Prop:=(fun i0=>Q .ret [(4,.v (.int .i64 i0))] [])
def yvu (Q:Qx):Ls→Ls→Int→Int→Bool→Prop:=(fun l0 l1 i2 i3 b4=>Q (.exit 2) [(0,.v (.data l0)),(38,.v (.data l1)),(39,.v (.int .i64 i2)),(40,.v (.int .i64 i3)),(41,.v (.bool b4))] [])
def yvv (Q:Qx):Int→Prop:=(fun i0=>Q .ret [(4,.v (.int .i64 i0))] [])
def ynl (a0:yal) (a1:yaq) (a2:yac) (a3:yau) (Q:Qx):List St:=[⟨(pS hN (fV 0 vD (fX 3 (vA pt7) pt25)) fN),ydG a0 a1 a2 a3 (yvs Q) (yvt Q)⟩]
def ynm (a0:yal) (a1:yaq) (a2:yac) (a3:yau) (Q:Qx):List St:=[⟨(pS hN (fV 0 vD (fV 38 vD (fV 39 pt0 (fV 40 pt0 fN)))) fN),yc0 a0 a1 a2 a3 (yvu Q) (yvv Q)⟩]
def yk1 (a0:yal) (a1:yaq) (a2:yac) (a3:yau):LP:=lpS [(8206000,ynl a0 a1 a2 a3),(8206001,ynm a0 a1 a2 a3)]
def yhZ (e:Es) (a0:yal) (a1:yaq) (a2:yac) (a3:yau):SE:=sE (E e) [(ydb,yvb.pw a0),(yfK,yc6.pw a1),(ycW,yjd.pw a2),(ydv,yuZ.pw a3)] (yk1 a0 a1 a2 a3)
theorem yjH (e:Es) (he:EG e):SEOk (Uni (E e)) (yhZ e yaS ya6 yaJ yan):=yaz (Sub.uni _) ⟨(ydx e he),(yhU e he),(yee e he),(yeU e he),trivial⟩ trivial he.ok
theorem ytB (e:Es) (a0 a1 a2 a3):ybV (yhZ e a0 a1 a2 a3) 10 a ywW false (ynl a0 a1 a2 a3):=fun _=>⟨fun _=>by kernel_rfl,fun _ _=>by kernel_rfl,trivial⟩
theorem ytC (e:Es) (he:EG e):LpT (Uni (E e)) (yk1 yaS ya6 yaJ yan) [] 8206000 (.loop 8206000 ywW):=fun _ _ _=>yrX.st (Sub.uni _) (yaK (yjH e he) 10) (YOk.no _ _) (yak (by kernel_rfl)) (ytB e _ _ _ _ _)
theorem ytD (e:Es) (a0 a1 a2 a3):ybV (yhZ e a0 a1 a2 a3) 10 a ywX false (ynm a0 a1 a2 a3):=fun _=>⟨fun _=>by kernel_rfl,fun _ _=>by kernel_rfl,trivial⟩
theorem ytE (e:Es) (he:EG e):LpT (Uni (E e)) (yk1 yaS ya6 yaJ yan) [] 8206001 (.loop 8206001 ywX):=fun _ _ _=>yrX.st (Sub.uni _) (yaK (yjH e he) 10) (YOk.no _ _) (yak (by kernel_rfl)) (ytD e _ _ _ _ _)
theorem yBj (e:Es) (a0 a1 a2 a3):EqW (yhZ e a0 a1 a2 a3) 11 yml yBi (ykZ a0 a1 a2 a3):=fun _ _=>by kernel_rfl
theorem yqu (e:Es) (he:EG e):OkF (E e) (yBi.pw ydy) yeR:=okU he (yBj e _ _ _ _) (yjH e he) ypG.flat (ya1 (l:=[(8206000,.loop 8206000 ywW),(8206001,.loop 8206001 ywX)]) ⟨ytC e he,ytE e he,trivial⟩ (by kernel_rfl))
abbrev yaY:Type:=Ls→Ls→(Ls→Int→Prop)→Prop
def yaR (p0 p1:Ls) (K:Ls→Int→Prop):Prop :=
 ∃ r0 r1,K r0 r1∧∀ e:Es,EG e→Ans (E e) ybr [(.data p0),(.agg [(.data p1)])] (.tup [(.data r0),(.int .i64 r1)])
def yK5:Sg:=⟨pt27,Ls→Int→Prop,fun K=>(fun r0 r1=>K (.tup [(.data r0),(.int .i64 r1)]))⟩
theorem ygf (e:Es) (he:EG e):OkF (E e) (yK5.pw yaR) ybr:=fun az K h=>by
 obtain ⟨a,e1,r0,r1,hk,ha⟩:=Sg.inv h
 subst e1
 exact ⟨_,hk,ha e he⟩
abbrev ydQ:Type:=Int→Int→Int→Int→Ls→(Bool→Prop)→Prop
def yc9 (a0:yau) (x0:Int→Int→Int→Int→Ls→Int→Int→Bool→Prop) (x1:Int→Int→Int→Int→Int→Prop):Nat→Int→Int→Int→Int→Ls→Int→Int→Prop
 | 0,_,_,_,_,_,_,_=>False
 | n+1,i0,i1,i2,i3,l4,i5,i6 =>
 (cbr (decide (i6<i5))
 (asr (decide ((0:Int)≤i6))
 (asr (decide (i6<(((List.length l4):Nat):Int)))
 (lt (List.getD l4 (i6.toNat) .nils) (fun a =>
 (asr (conf z4 a)
 (jn (fun (b:Bool→Prop) =>
 (a0 i0 i1 (yaa (yab a 2)) (yaa (yab a 3)) (fun c =>
 (cbr c
 (a0 (yaa (yab a 0)) (yaa (yab a 1)) i2 i3 (fun d =>
 (b d)))
 (b false)))))
 (fun e=>(cbr e
 (x1 i0 i1 i2 i3 i6)
 (lt (IntKind.i64.wrap (i6+(1:Int))) (fun f =>
 (yc9 a0 x0 x1 n i0 i1 i2 i3 l4 i5 f)))))))))))
 (x0 i0 i1 i2 i3 l4 i5 i6 false))
def yiJ (a0:yau) (p0 p1 p2 p3:Int) (p4:Ls) (K:Bool→Prop):Prop :=
 (jn (fun (a:Int→Int→Int→Int→Int→Prop) =>
 (∃ n:Nat,yc9 a0
 (fun b c d e l m o p=>(a b c d e (-1:Int)))
 (fun f g h i j=>(a f g h i j))
 n p0 p1 p2 p3 p4 (((List.length p4):Nat):Int) (0:Int)))
 (fun q r s t k=>(K (decide (k≥(0:Int))))))
def ycm:ydQ:=yiJ yan
def yxx:Sg:=⟨(lC (vA pt18) (lC (vX 0 vD) lN)),Bool→Prop,fun K=>(fun r0=>K (.bool r0))⟩
def yry (Q:Qx):Int→Int→Int→Int→Ls→Int→Int→Bool→Prop:=(fun i0 i1 i2 i3 l4 i5 i6 b7=>Q (.exit 0) [(0,.v (.data l4)),(1,.v (.fn (.func yeC) [] [(.ptr 0 1 0 0)])),(7,.v (.int .i64 i5)),(8,.v (.int .i64 i6)),(9,.v (.bool b7))] [⟨false,false,4,([(.agg [(.int .i64 i0),(.int .i64 i1),(.int .i64 i2),(.int .i64 i3)])]:Ls)⟩])
def yrz (Q:Qx):Int→Int→Int→Int→Int→Prop:=(fun i0 i1 i2 i3 i4=>Q .ret [(4,.v (.int .i64 i4))] [⟨false,false,4,([(.agg [(.int .i64 i0),(.int .i64 i1),(.int .i64 i2),(.int .i64 i3)])]:Ls)⟩])
def yk2 (a0:yau) (Q:Qx):List St:=[⟨(pS (hB false false 4 (rC (vA pt18) rN) hN) (fV 0 vD (fV 1 (vF yeC lN pt19) pt8)) fN),yc9 a0 (yry Q) (yrz Q)⟩]
def yiK (a0:yau):LP:=lpS [(68674300,yk2 a0)]
def ynn (e:Es) (a0:yau):SE:=⟨(E e),yeW [(ydv,yuZ.pw a0)],yeX [(ybx,ybT),(yeC,ylH)],yiK a0,fun _=>none⟩
def yno (e:Es) (a0:yau):SE:=⟨(E e),yeW [(ydv,yuZ.pw a0)],yeX [(ybx,ybT),(ydg,ydh),(yeC,ylH)],yiK a0,fun _=>none⟩
theorem yvw (e:Es) (he:EG e):SEOk (Uni (E e)) (ynn e yan):=yaz (Sub.uni _) ⟨(yeU e he),trivial⟩ ⟨⟨by kernel_rfl,by kernel_rfl,rfl,fun az=>yaB (by kernel_rfl) az,he.num _ (by kernel_rfl),by kernel_rfl,(yak (by kernel_rfl))⟩,⟨by kernel_rfl,by kernel_rfl,rfl,fun az=>yaB (by kernel_rfl) az,he.num _ (by kernel_rfl),by kernel_rfl,(yak (by kernel_rfl))⟩,trivial⟩ he.ok
theorem yqv (e:Es) (a0):ybV (ynn e a0) 10 a yiz false (yk2 a0):=fun _=>⟨fun _=>by kernel_rfl,fun _ _=>by kernel_rfl,trivial⟩
theorem yqw (e:Es) (he:EG e):LpT (Uni (E e)) (yiK yan) [] 68674300 (.loop 68674300 yiz):=fun _ _ _=>yrX.st (Sub.uni _) (yaK (yvw e he) 10) (YOk.no _ _) (yak (by kernel_rfl)) (yqv e _ _)
theorem yvx (e:Es) (he:EG e):SEOk (Uni (E e)) (yno e yan):=yaz (Sub.uni _) ⟨(yeU e he),trivial⟩ ⟨⟨by kernel_rfl,by kernel_rfl,rfl,fun az=>yaB (by kernel_rfl) az,he.num _ (by kernel_rfl),by kernel_rfl,(yak (by kernel_rfl))⟩,⟨by kernel_rfl,by kernel_rfl,rfl,fun az=>yaB (by kernel_rfl) az,he.num _ (by kernel_rfl),by kernel_rfl,(ya1 (l:=[(68674300,.loop 68674300 yiz)]) ⟨yqw e he,trivial⟩ (by kernel_rfl))⟩,⟨by kernel_rfl,by kernel_rfl,rfl,fun az=>yaB (by kernel_rfl) az,he.num _ (by kernel_rfl),by kernel_rfl,(yak (by kernel_rfl))⟩,trivial⟩ he.ok
theorem yxy (e:Es) (a0):EqW (yno e a0) 11 yyF yxx (yiJ a0):=fun _ _=>by kernel_rfl
theorem yiL (e:Es) (he:EG e):OkF (E e) (yxx.pw ycm) ydd:=okU he (yxy e _) (yvx e he) ypG.flat (yak (by kernel_rfl))
def ydH (a0:ydQ) (x0:Ls→Ls→Int→Int→Bool→Prop) (x1:Ls→Int→Prop):Nat→Ls→Ls→Int→Int→Prop
 | 0,_,_,_,_=>False
 | n+1,l0,l1,i2,i3 =>
 (cbr (decide (i3<i2))
 (asr (decide ((0:Int)≤i3))
 (asr (decide (i3<(((List.length l1):Nat):Int)))
 (lt (List.getD l1 (i3.toNat) .nils) (fun a =>
 (asr (conf z4 a)
 (a0 (yaa (yab a 0)) (yaa (yab a 1)) (yaa (yab a 2)) (yaa (yab a 3)) l0 (fun b =>
 (cbr b
 (x1 l0 i3)
 (lt (IntKind.i64.wrap (i3+(1:Int))) (fun c =>
 (ydH a0 x0 x1 n l0 l1 i2 c)))))))))))
 (x0 l0 l1 i2 i3 false))
def yk3 (a0:ydQ) (p0 p1:Ls) (K:Bool→Prop):Prop :=
 (jn (fun (a:Ls→Int→Prop) =>
 (∃ n:Nat,ydH a0
 (fun b f g h i=>(a b (-1:Int)))
 (fun c d=>(a c d))
 n p1 p0 (((List.length p0):Nat):Int) (0:Int)))
 (fun j e=>(K (decide (e≥(0:Int))))))
def yav:yad:=yk3 ycm
def yvy (Q:Qx):Ls→Ls→Int→Int→Bool→Prop:=(fun l0 l1 i2 i3 b4=>Q (.exit 0) [(0,.v (.data l1)),(1,.v (.fn (.func ydd) [] [(.ptr 0 1 0 0)])),(7,.v (.int .i64 i2)),(8,.v (.int .i64 i3)),(9,.v (.bool b4))] [⟨false,false,1,([(.data l0)]:Ls)⟩])
def yvz (Q:Qx):Ls→Int→Prop:=(fun l0 i1=>Q .ret [(4,.v (.int .i64 i1))] [⟨false,false,1,([(.data l0)]:Ls)⟩])
def ynp (a0:ydQ) (Q:Qx):List St:=[⟨(pS (hB false false 1 (rC vD rN) hN) (fV 0 vD (fV 1 (vF ydd lN pt19) pt8)) fN),ydH a0 (yvy Q) (yvz Q)⟩]
def yk4 (a0:ydQ):LP:=lpS [(68674300,ynp a0)]
def yqx (e:Es) (a0:ydQ):SE:=⟨(E e),yeW [(ydd,yxx.pw a0)],yeX [(ybx,ybT)],yk4 a0,fun _=>none⟩
def yqy (e:Es) (a0:ydQ):SE:=⟨(E e),yeW [(ydd,yxx.pw a0)],yeX [(ybx,ybT),(ydg,ydh)],yk4 a0,fun _=>none⟩
theorem yze (e:Es) (he:EG e):SEOk (Uni (E e)) (yqx e ycm):=yaz (Sub.uni _) ⟨(yiL e he),trivial⟩ ⟨⟨by kernel_rfl,by kernel_rfl,rfl,fun az=>yaB (by kernel_rfl) az,he.num _ (by kernel_rfl),by kernel_rfl,(yak (by kernel_rfl))⟩,trivial⟩ he.ok
theorem ytF (e:Es) (a0):ybV (yqx e a0) 10 a yiz false (ynp a0):=fun _=>⟨fun _=>by kernel_rfl,fun _ _=>by kernel_rfl,trivial⟩
theorem ytG (e:Es) (he:EG e):LpT (Uni (E e)) (yk4 ycm) [] 68674300 (.loop 68674300 yiz):=fun _ _ _=>yrX.st (Sub.uni _) (yaK (yze e he) 10) (YOk.no _ _) (yak (by kernel_rfl)) (ytF e _ _)
theorem yzf (e:Es) (he:EG e):SEOk (Uni (E e)) (yqy e ycm):=yaz (Sub.uni _) ⟨(yiL e he),trivial⟩ ⟨⟨by kernel_rfl,by kernel_rfl,rfl,fun az=>yaB (by kernel_rfl) az,he.num _ (by kernel_rfl),by kernel_rfl,(yak (by kernel_rfl))⟩,⟨by kernel_rfl,by kernel_rfl,rfl,fun az=>yaB (by kernel_rfl) az,he.num _ (by kernel_rfl),by kernel_rfl,(ya1 (l:=[(68674300,.loop 68674300 yiz)]) ⟨ytG e he,trivial⟩ (by kernel_rfl))⟩,trivial⟩ he.ok
theorem yBk (e:Es) (a0):EqW (yqy e a0) 11 yCn ycu (yk3 a0):=fun _ _=>by kernel_rfl
theorem yk5 (e:Es) (he:EG e):OkF (E e) (ycu.pw yav) ygV:=okU he (yBk e _) (yzf e he) ypG.flat (yak (by kernel_rfl))
abbrev yrA:Type:=Int→Int→Int→Int→Int→Int→Int→Int→(Int→Prop)→Prop
def ygg (a0:yat) (p0 p1 p2 p3 p4 p5 p6 p7:Int) (K:Int→Prop):Prop :=
 (a0 p0 p1 p4 p5 (fun a b =>
 (K a)))
def ygL:yrA:=ygg ya3
def yqz:Sg:=⟨(lC (vA pt18) (lC (vA pt18) lN)),Int→Prop,fun K=>(fun r0=>K (.int .i64 r0))⟩
def yqA (e:Es) (a0:yat):SE:=sE (E e) [(ydc,yEB.pw a0)] lp0
theorem yqB (e:Es) (a0):EqW (yqA e a0) 11 yrk yqz (ygg a0):=fun _ _=>by kernel_rfl
theorem yqC (e:Es) (he:EG e):OkF (E e) (yqz.pw ygL) yc5:=okU he (yqB e _) (yaz (Sub.uni _) ⟨(ydw e he),trivial⟩ trivial he.ok) ypG.flat (yak (by kernel_rfl))
abbrev yaV:Type:=Ls→Ls→Ls→Ls→(Bool→Prop)→Prop
def ycx (a0:yac) (a1:yau) (a:Ls→Int→Ls→Int→Int→Bool→Prop):Nat→Ls→Int→Ls→Int→Int→Prop
 | 0,_,_,_,_,_=>False
 | d+1,l0,i1,l2,i3,i4 =>
 (cbr (decide (i4<i3))
 (asr (decide ((0:Int)≤i4))
 (asr (decide (i4<(((List.length l2):Nat):Int)))
 (lt (List.getD l2 (i4.toNat) .nils) (fun b =>
 (asr (conf zD b)
 (lt (IntKind.i64.wrap (i1+(((List.length (yaI b)):Nat):Int))) (fun c =>
 (cbr (decide (c<(0:Int)))
 False
 (lt (IntKind.i64.wrap (i4+(1:Int))) (fun e =>
 (ycx a0 a1 a d l0 c l2 i3 e)))))))))))
 (a l0 i1 l2 i3 i4 false))
def ybA (a0:yac) (a1:yau) (b:Ls→Nat→Ls→Int→Int→Bool→Prop):Nat→Ls→Nat→Ls→Int→Int→Prop
 | 0,_,_,_,_,_=>False
 | c+1,l0,n1,l3,i4,i5 =>
 (cbr (decide (i5<i4))
 (asr (decide ((0:Int)≤i5))
 (asr (decide (i5<(((List.length l3):Nat):Int)))
 (lt (List.getD l3 (i5.toNat) .nils) (fun a =>
 (asr (conf zD a)
 (asr (yd9 4 (yaI a))
 (asr (decide ((List.length l0)=(List.length l0)))
 (asr (decide ((0+n1)≤(List.length l0)))
 (cbr (List.isEmpty (yaI a))
 (lt (IntKind.i64.wrap (i5+(1:Int))) (fun d =>
 (asr (decide ((List.length l0)=List.length l0))
 (ybA a0 a1 b c l0 n1 l3 i4 d))))
 (asr (decide (((0+n1)+(List.length (yaI a)))≤(List.length l0)))
 (lt (IntKind.i64.wrap (i5+(1:Int))) (fun e =>
 (asr (decide ((List.length l0)=List.length ((List.take (0+n1) l0)++((yaI a)++(List.drop ((0+n1)+(List.length (yaI a))) l0)))))
 (ybA a0 a1 b c ((List.take (0+n1) l0)++((yaI a)++(List.drop ((0+n1)+(List.length (yaI a))) l0))) (n1+(List.length (yaI a))) l3 i4 e))))))))))))))
 (b l0 n1 l3 i4 i5 false))
def ycy (a0:yac) (a1:yau) (b:Ls→Int→Int→Bool→Prop) (c:Ls→Nat→Ls→Int→Int→Bool→Prop):Nat→Ls→Int→Int→Prop
 | 0,_,_,_=>False
 | d+1,l0,i1,i2 =>
 (cbr (decide (i2<i1))
 (asr (decide ((0:Int)≤i2))
 (asr (decide (i2<(((List.length l0):Nat):Int)))
 (lt (List.getD l0 (i2.toNat) .nils) (fun a =>
 (asr (conf zD a)
 (asr (yd9 4 (yaI a))
 (cbr (List.isEmpty (yaI a))
 (lt (IntKind.i64.wrap (i2+(1:Int))) (fun e =>
 (ycy a0 a1 b c d l0 i1 e)))
 (asr (decide (((List.length (yaI a))+64)*(32+1)≤room))
 (lt (IntKind.i64.wrap (i2+(1:Int))) (fun f =>
 (asr (decide ((List.length (yaI a))=List.length (yaI a)))
 (ybA a0 a1 c d (yaI a) (List.length (yaI a)) l0 i1 f))))))))))))
 (b l0 i1 i2 false))
def ycz (a0:yac) (a1:yau) (b:Ls→Ls→Ls→Ls→Ls→Int→Int→Nat→Int→Int→Bool→Prop) (c:Ls→Bool→Prop):Nat→Ls→Ls→Ls→Ls→Ls→Int→Int→Nat→Int→Int→Prop
 | 0,_,_,_,_,_,_,_,_,_,_=>False
 | e+1,l0,l1,l2,l3,l4,i5,i6,n7,i9,i10 =>
 (cbr (decide (i10<i9))
 (jn (fun (d:Int→Int→Prop) =>
 (asr (decide ((0:Int)≤i10))
 (asr (decide (i10<((n7:Nat):Int)))
 (asr (decide ((List.length l0)=(List.length l0)))
 (asr (decide ((0+(i10.toNat))<(List.length l0)))
 (lt (List.getD l0 (0+(i10.toNat)) .nils) (fun a =>
 (asr (conf z4 a)
 (a1 i5 i6 (yaa (yab a 0)) (yaa (yab a 1)) (fun f =>
 (cbr f
 (c l0 true)
 (a1 i5 i6 (yaa (yab a 2)) (yaa (yab a 3)) (fun g =>
 (cbr g
 (d (yaa (yab a 2)) (yaa (yab a 3)))
 (d i5 i6)))))))))))))))
 (fun h i=>(lt (IntKind.i64.wrap (i10+(1:Int))) (fun j =>
 (asr (decide ((List.length l0)=List.length l0))
 (ycz a0 a1 b c e l0 l1 l2 l3 l4 h i n7 i9 j))))))
 (b l0 l1 l2 l3 l4 i5 i6 n7 i9 i10 false))
def yfR (a0:yac) (a1:yau) (a:Ls→Ls→Ls→Ls→Int→Int→Int→Int→Bool→Prop):Nat→Ls→Ls→Ls→Ls→Int→Int→Int→Int→Prop
 | 0,_,_,_,_,_,_,_,_=>False
 | b+1,l0,l1,l2,l3,i4,i5,i6,i7 =>
 (cbr (decide (i7<i6))
 False
 (a l0 l1 l2 l3 i4 i5 i6 i7 false))
def yhj (a0:yac) (a1:yau) (p0 p1 p2 p3:Ls) (K:Bool→Prop):Prop :=
 (jn (fun (g:Ls→Nat→Prop) =>
 (∃ n:Nat,ycx a0 a1
 (fun d h I J L M=>(cbr (decide (h<(0:Int)))
 False
 (jn (fun i =>
 (lt (IntKind.i64.wrap (h-(0:Int))) (fun a =>
 (cbr (decide (a>(0:Int)))
 (asr (decide ((0:Int)≤a))
 (cbr (decide ((a.toNat)=0))
 i
 (asr (decide (((List.length (List.replicate (a.toNat) ((.agg [(.int .i64 (0)),(.int .i64 (0)),(.int .i64 (0)),(.int .i64 (0))]):PV)))+64)*(32+1)≤room))
 (asr ((decide ((0:Int)≤(((List.length (List.replicate (a.toNat) ((.agg [(.int .i64 (0)),(.int .i64 (0)),(.int .i64 (0)),(.int .i64 (0))]):PV))):Nat):Int)))||(decide ((0:Int)≤(((List.length (List.replicate (a.toNat) ((.agg [(.int .i64 (0)),(.int .i64 (0)),(.int .i64 (0)),(.int .i64 (0))]):PV))):Nat):Int))))
 (asr (decide ((List.length (List.replicate (a.toNat) ((.agg [(.int .i64 (0)),(.int .i64 (0)),(.int .i64 (0)),(.int .i64 (0))]):PV)))=List.length (List.replicate (a.toNat) ((.agg [(.int .i64 (0)),(.int .i64 (0)),(.int .i64 (0)),(.int .i64 (0))]):PV))))
 (∃ e:Nat,ybA a0 a1
 (fun o p N O Q R=>(g o p))
 e (List.replicate (a.toNat) ((.agg [(.int .i64 (0)),(.int .i64 (0)),(.int .i64 (0)),(.int .i64 (0))]):PV)) 0 d (((List.length d):Nat):Int) (0:Int)))))))
 i))))
 (∃ e:Nat,ycy a0 a1
 (fun S T U V=>(a0 (0:Int) (fun q r =>
 (∃ f:Nat,yfR a0 a1
 (fun j W X Y t u Z va vb=>(asr (decide ((0:Int)<(((List.length j):Nat):Int)))
 (lt (List.getD j 0 .nils) (fun k =>
 (asr (conf zK k)
 (a0 (yaa (yab k 0)) (fun v w =>
 (a1 t u v w (fun x =>
 (K x))))))))))
 f p0 p1 p2 p3 q r (0:Int) (0:Int)))))
 (fun y z vc vd ve vf=>(g y z))
 e d (((List.length d):Nat):Int) (0:Int)))))
 n p1 (0:Int) p1 (((List.length p1):Nat):Int) (0:Int)))
 (fun b c=>(asr (Srt.cond ypg.s b 0 c (List.length b) 4 false)
 (a0 (0:Int) (fun A B =>
 (asr (decide ((List.length b)=List.length (List.take 0 b++(Srt.sorted ypg.s ypg.srt (List.take c (List.drop 0 b))++List.drop (0+c) b))))
 (∃ f:Nat,ycz a0 a1
 (fun vg l vh vi vj C D vk vl vm vn=>(asr (decide ((0:Int)<(((List.length l):Nat):Int)))
 (lt (List.getD l 0 .nils) (fun m =>
 (asr (conf zK m)
 (a0 (yaa (yab m 0)) (fun E F =>
 (a1 C D E F (fun G =>
 (K G))))))))))
 (fun vo H=>(K H))
 f (List.take 0 b++(Srt.sorted ypg.s ypg.srt (List.take c (List.drop 0 b))++List.drop (0+c) b)) p0 p1 p2 p3 A B c ((c:Nat):Int) (0:Int))))))))
def yag:yaV:=yhj yaJ yan
def pt28:VPt:=vX 0 (vA (lC vD (lC vD pt13)))
def ytH:Sg:=⟨(lC pt28 lN),Bool→Prop,fun K=>(fun r0=>K (.bool r0))⟩
def ypn (Q:Qx):Ls→Int→Ls→Int→Int→Bool→Prop:=(fun l0 i1 l2 i3 i4 b5=>Q (.exit 0) [(0,.v (.data l0)),(3,.v (.int .i64 i1)),(9,.v (.data l2)),(10,.v (.int .i64 i3)),(11,.v (.int .i64 i4)),(12,.v (.bool b5))] [])
def ypo (Q:Qx):Ls→Int→Int→Bool→Prop:=(fun l0 i1 i2 b3=>Q (.exit 2) [(6,.v .nils),(25,.v (.data l0)),(26,.v (.int .i64 i1)),(27,.v (.int .i64 i2)),(28,.v (.bool b3))] [])
def yim (Q:Qx):Ls→Nat→Ls→Int→Int→Bool→Prop:=(fun l0 n1 l3 i4 i5 b6=>Q (.exit 2) [(6,.v (.own 0 0 n1 (List.length l0) none)),(25,.v (.data l3)),(26,.v (.int .i64 i4)),(27,.v (.int .i64 i5)),(28,.v (.bool b6))] [⟨false,true,4,l0⟩])
def ypp (Q:Qx):Ls→Ls→Ls→Ls→Ls→Int→Int→Nat→Int→Int→Bool→Prop:=(fun l0 l1 l2 l3 l4 i5 i6 n7 i9 i10 b11=>Q (.exit 0) [(0,.v (.eptr [(.agg [(.data l1),(.data l2),(.data l3),(.data l4)])] 0 0)),(4,.box (.agg [(.int .i64 i5),(.int .i64 i6)])),(15,.v (.own 0 0 n7 (List.length l0) none)),(16,.v (.int .i64 i9)),(17,.v (.int .i64 i10)),(18,.v (.bool b11))] [⟨false,true,4,l0⟩])
def ypq (Q:Qx):Ls→Bool→Prop:=(fun l0 b1=>Q .ret [(2,.v (.bool b1))] [⟨false,true,4,l0⟩])
def ypr (Q:Qx):Ls→Ls→Ls→Ls→Int→Int→Int→Int→Bool→Prop:=(fun l0 l1 l2 l3 i4 i5 i6 i7 b8=>Q (.exit 0) [(0,.v (.eptr [(.agg [(.data l0),(.data l1),(.data l2),(.data l3)])] 0 0)),(4,.box (.agg [(.int .i64 i4),(.int .i64 i5)])),(15,.v .nils),(16,.v (.int .i64 i6)),(17,.v (.int .i64 i7)),(18,.v (.bool b8))] [])
def yjq (a0:yac) (a1:yau) (Q:Qx):List St:=[⟨(pS hN (fV 0 vD (fV 3 pt0 (fV 9 vD (fV 10 pt0 (fV 11 pt0 fN))))) fN),ycx a0 a1 (ypn Q)⟩]
def yjr (a0:yac) (a1:yau) (Q:Qx):List St:=[⟨(pS hN (fV 6 vNs pt25) fN),ycy a0 a1 (ypo Q) (yim Q)⟩,⟨(pS (hB false true 4 rA hN) (fV 6 (vW 0 (nK 0) nV (nT 0)) pt25) fN),ybA a0 a1 (yim Q)⟩]
def pt29:Pat Frm:=fV 16 pt0 (fV 17 pt0 fN)
def yjs (a0:yac) (a1:yau) (Q:Qx):List St:=[⟨(pS (hB false true 4 rA hN) (fV 0 pt28 (fX 4 pt6 (fV 15 (vW 0 (nK 0) nV (nT 0)) pt29))) fN),ycz a0 a1 (ypp Q) (ypq Q)⟩,⟨(pS hN (fV 0 pt28 (fX 4 pt6 (fV 15 vNs pt29))) fN),yfR a0 a1 (ypr Q)⟩]
def yef (a0:yac) (a1:yau):LP:=lpS [(14451100,yjq a0 a1),(14451101,yjr a0 a1),(93107500,yjs a0 a1)]
def yfx (a0:yac) (a1:yau):SE:=⟨(E ef0),yeW [(ycW,yjd.pw a0),(ydv,yuZ.pw a1)],yeX [(yec,yf9)],yef a0 a1,fun _=>none⟩
def yk6 (a0:yac) (a1:yau):SE:=⟨(E ef0),yeW [(ycW,yjd.pw a0),(ydv,yuZ.pw a1)],yeX [(yfC,ydM),(yec,yf9)],yef a0 a1,fun _=>none⟩
theorem ygM:SEOk (Uni (E ef0)) (yfx yaJ yan):=yaz (Sub.uni _) ⟨(yee ef0 ycV),(yeU ef0 ycV),trivial⟩ ⟨⟨by kernel_rfl,by kernel_rfl,rfl,fun az=>yaB (by kernel_rfl) az,ycV.num _ (by kernel_rfl),by kernel_rfl,(yak (by kernel_rfl))⟩,trivial⟩ ycV.ok
theorem yot (a0 a1):ybV (yfx a0 a1) 10 a yta false (yjq a0 a1):=fun _=>⟨fun _=>by kernel_rfl,fun _ _=>by kernel_rfl,trivial⟩
theorem you:LpT (Uni (E ef0)) (yef yaJ yan) [] 14451100 (.loop 14451100 yta):=fun _ _ _=>yrX.st (Sub.uni _) (yaK (ygM) 10) (YOk.no _ _) (yak (by kernel_rfl)) (yot _ _ _)
theorem yov (a0 a1):ybV (yfx a0 a1) 10 a ytb false (yjr a0 a1):=fun _=>⟨fun _=>by kernel_rfl,fun _ _=>by kernel_rfl,fun _=>by kernel_rfl,fun _ _=>by kernel_rfl,trivial⟩
theorem yow:LpT (Uni (E ef0)) (yef yaJ yan) [] 14451101 (.loop 14451101 ytb):=fun _ _ _=>yrX.st (Sub.uni _) (yaK (ygM) 10) (YOk.no _ _) (yak (by kernel_rfl)) (yov _ _ _)
theorem yox (a0 a1):ybV (yfx a0 a1) 10 a ytc false (yjs a0 a1):=fun _=>⟨fun _=>by kernel_rfl,fun _ _=>by kernel_rfl,fun _=>by kernel_rfl,fun _ _=>by kernel_rfl,trivial⟩
theorem yoy:LpT (Uni (E ef0)) (yef yaJ yan) [] 93107500 (.loop 93107500 ytc):=fun _ _ _=>yrX.st (Sub.uni _) (yaK (ygM) 10) (YOk.no _ _) (yak (by kernel_rfl)) (yox _ _ _)
theorem yrB:SEOk (Uni (E ef0)) (yk6 yaJ yan):=yaz (Sub.uni _) ⟨(yee ef0 ycV),(yeU ef0 ycV),trivial⟩ ⟨⟨by kernel_rfl,by kernel_rfl,rfl,fun az=>yaB (by kernel_rfl) az,ycV.num _ (by kernel_rfl),by kernel_rfl,(ya1 (l:=[(14451100,.loop 14451100 yta),(14451101,.loop 14451101 ytb)]) ⟨you,yow,trivial⟩ (by kernel_rfl))⟩,⟨by kernel_rfl,by kernel_rfl,rfl,fun az=>yaB (by kernel_rfl) az,ycV.num _ (by kernel_rfl),by kernel_rfl,(yak (by kernel_rfl))⟩,trivial⟩ ycV.ok
theorem ytI (a0 a1):EqW (yk6 a0 a1) 11 ylI ytH (yhj a0 a1):=fun _ _=>by kernel_rfl
theorem yhk:OkF (E ef0) (ytH.pw yag) ydE:=okU ycV (ytI _ _) (yrB) ypG.flat (ya1 (l:=[(93107500,.loop 93107500 ytc)]) ⟨yoy,trivial⟩ (by kernel_rfl))
abbrev yaC:Type:=Ls→Ls→Ls→Ls→Int→(Int→Int→Bool→Prop)→Prop
def yba (a0:yad) (a1:yaV) (a2:yaE) (a3:yam) (a4:yau) (a:Ls→Ls→Ls→Ls→Ls→Ls→Ls→Ls→Int→Int→Int→Int→Int→Bool→Prop) (b:Ls→Ls→Ls→Ls→Int→Int→Bool→Prop):Nat→Ls→Ls→Ls→Ls→Ls→Ls→Ls→Ls→Int→Int→Int→Int→Int→Prop
 | 0,_,_,_,_,_,_,_,_,_,_,_,_,_=>False
 | f+1,l0,l1,l2,l3,l4,l5,l6,l7,i8,i9,i10,i11,i12 =>
 (cbr (decide (i12<i11))
 (jn (fun (c:Bool→Prop) =>
 (cbr (decide (i8<i12))
 (asr (decide ((0:Int)≤i8))
 (asr (decide (i8<(((List.length l1):Nat):Int)))
 (lt (List.getD l1 (i8.toNat) .nils) (fun d =>
 (asr (conf zD d)
 (asr (decide ((0:Int)≤i12))
 (asr (decide (i12<(((List.length l1):Nat):Int)))
 (lt (List.getD l1 (i12.toNat) .nils) (fun e =>
 (asr (conf zD e)
 (a0 (yaI d) (yaI e) (fun g =>
 (c g)))))))))))))
 (c false)))
 (fun h=>(cbr h
 (b l0 l1 l2 l3 i8 i12 true)
 (lt (IntKind.i64.wrap (i12+(1:Int))) (fun i =>
 (yba a0 a1 a2 a3 a4 a b f l0 l1 l2 l3 l4 l5 l6 l7 i8 i9 i10 i11 i))))))
 (a l0 l1 l2 l3 l4 l5 l6 l7 i8 i9 i10 i11 i12 false))
def ybb (a0:yad) (a1:yaV) (a2:yaE) (a3:yam) (a4:yau) (d:Ls→Ls→Ls→Ls→Int→Int→Bool→Prop) (e:Ls→Ls→Ls→Ls→Ls→Ls→Ls→Ls→Int→Int→Int→Int→Int→Bool→Prop):Nat→Ls→Ls→Ls→Ls→Ls→Ls→Ls→Ls→Int→Int→Int→Int→Int→Prop
 | 0,_,_,_,_,_,_,_,_,_,_,_,_,_=>False
 | g+1,l0,l1,l2,l3,l4,l5,l6,l7,i8,i9,i10,i11,i12 =>
 (cbr (decide (i12<i11))
 (asr (decide ((0:Int)≤i8))
 (asr (decide (i8<(((List.length l0):Nat):Int)))
 (lt (List.getD l0 (i8.toNat) .nils) (fun a =>
 (asr (conf zK a)
 (a2 (yaa (yab a 0)) (yaI (yab a 1)) (yaI (yab a 2)) (fun h n =>
 (a3 h (((List.length l0):Nat):Int) (fun i j o =>
 (jn (fun (f:Bool→Prop) =>
 (cbr (i8 == i12)
 (asr (decide ((0:Int)≤i8))
 (asr (decide (i8<(((List.length l2):Nat):Int)))
 (lt (List.getD l2 (i8.toNat) .nils) (fun b =>
 (asr (conf zD b)
 (asr (decide ((0:Int)≤i8))
 (asr (decide (i8<(((List.length (yaI b)):Nat):Int)))
 (lt (List.getD (yaI b) (i8.toNat) .nils) (fun c =>
 (asr (conf z2 c)
 (a4 (yaa (yab c 0)) (yaa (yab c 1)) i j (fun k =>
 (f k)))))))))))))
 (f false)))
 (fun l=>(cbr l
 (d l0 l1 l2 l3 i8 i12 true)
 (lt (IntKind.i64.wrap (i12+(1:Int))) (fun m =>
 (ybb a0 a1 a2 a3 a4 d e g l0 l1 l2 l3 l4 l5 l6 l7 i8 i9 i10 i11 m)))))))))))))))
 (e l0 l1 l2 l3 l4 l5 l6 l7 i8 i9 i10 i11 i12 false))
def ybc (a0:yad) (a1:yaV) (a2:yaE) (a3:yam) (a4:yau) (e:Ls→Ls→Ls→Ls→Int→Int→Bool→Prop) (f:Ls→Ls→Ls→Ls→Ls→Ls→Ls→Ls→Int→Int→Int→Int→Int→Bool→Prop):Nat→Ls→Ls→Ls→Ls→Ls→Ls→Ls→Ls→Int→Int→Int→Int→Int→Prop
 | 0,_,_,_,_,_,_,_,_,_,_,_,_,_=>False
 | g+1,l0,l1,l2,l3,l4,l5,l6,l7,i8,i9,i10,i11,i12 =>
 (cbr (decide (i12<i11))
 (asr (decide ((0:Int)≤i8))
 (asr (decide (i8<(((List.length l2):Nat):Int)))
 (lt (List.getD l2 (i8.toNat) .nils) (fun a =>
 (asr (conf zD a)
 (asr (decide ((0:Int)≤i8))
 (asr (decide (i8<(((List.length (yaI a)):Nat):Int)))
 (lt (List.getD (yaI a) (i8.toNat) .nils) (fun b =>
 (asr (conf z2 b)
 (asr (decide ((0:Int)≤i8))
 (asr (decide (i8<(((List.length l2):Nat):Int)))
 (lt (List.getD l2 (i8.toNat) .nils) (fun c =>
 (asr (conf zD c)
 (asr (decide ((0:Int)≤i12))
 (asr (decide (i12<(((List.length (yaI c)):Nat):Int)))
 (lt (List.getD (yaI c) (i12.toNat) .nils) (fun d =>
 (asr (conf z2 d)
 (a4 (yaa (yab b 0)) (yaa (yab b 1)) (yaa (yab d 0)) (yaa (yab d 1)) (fun h =>
 (cbr h
 (e l0 l1 l2 l3 i8 i12 true)
 (lt (IntKind.i64.wrap (i12+(1:Int))) (fun i =>
 (ybc a0 a1 a2 a3 a4 e f g l0 l1 l2 l3 l4 l5 l6 l7 i8 i9 i10 i11 i))))))))))))))))))))))))))
 (f l0 l1 l2 l3 l4 l5 l6 l7 i8 i9 i10 i11 i12 false))
def ybd (a0:yad) (a1:yaV) (a2:yaE) (a3:yam) (a4:yau) (c:Ls→Ls→Ls→Ls→Int→Int→Bool→Prop) (d:Ls→Ls→Ls→Ls→Ls→Ls→Ls→Ls→Int→Int→Int→Int→Int→Bool→Prop):Nat→Ls→Ls→Ls→Ls→Ls→Ls→Ls→Ls→Int→Int→Int→Int→Int→Prop
 | 0,_,_,_,_,_,_,_,_,_,_,_,_,_=>False
 | f+1,l0,l1,l2,l3,l4,l5,l6,l7,i8,i9,i10,i11,i12 =>
 (cbr (decide (i12<i11))
 (jn (fun (e:Bool→Prop) =>
 (cbr (i12 ==(0:Int))
 (asr (decide ((0:Int)≤i8))
 (asr (decide (i8<(((List.length l3):Nat):Int)))
 (lt (List.getD l3 (i8.toNat) .nils) (fun a =>
 (asr (conf z2 a)
 (asr (decide ((0:Int)<(((List.length l3):Nat):Int)))
 (lt (List.getD l3 0 .nils) (fun b =>
 (asr (conf z2 b)
 (e (!(((yaa (yab a 0)) ==(yaa (yab b 0)))&&(((yaa (yab a 1)) ==(yaa (yab b 1)))&&true)))))))))))))
 (e false)))
 (fun g=>(cbr g
 (c l0 l1 l2 l3 i8 i12 true)
 (lt (IntKind.i64.wrap (i12+(1:Int))) (fun h =>
 (ybd a0 a1 a2 a3 a4 c d f l0 l1 l2 l3 l4 l5 l6 l7 i8 i9 i10 i11 h))))))
 (d l0 l1 l2 l3 l4 l5 l6 l7 i8 i9 i10 i11 i12 false))
def ybe (a0:yad) (a1:yaV) (a2:yaE) (a3:yam) (a4:yau) (a:Ls→Ls→Ls→Ls→Int→Int→Bool→Prop) (b:Ls→Ls→Ls→Ls→Ls→Ls→Ls→Ls→Int→Int→Int→Int→Int→Bool→Prop):Nat→Ls→Ls→Ls→Ls→Ls→Ls→Ls→Ls→Int→Int→Int→Int→Int→Prop
 | 0,_,_,_,_,_,_,_,_,_,_,_,_,_=>False
 | e+1,l0,l1,l2,l3,l4,l5,l6,l7,i8,i9,i10,i11,i12 =>
 (cbr (decide (i12<i11))
 (jn (fun (c:Bool→Prop) =>
 (cbr (i8 == i12)
 (asr (decide ((0:Int)≤i8))
 (asr (decide (i8<(((List.length l1):Nat):Int)))
 (lt (List.getD l1 (i8.toNat) .nils) (fun d =>
 (asr (conf zD d)
 (c ((((List.length (yaI d)):Nat):Int) !=(1:Int))))))))
 (c false)))
 (fun f=>(cbr f
 (a l0 l1 l2 l3 i8 i12 true)
 (lt (IntKind.i64.wrap (i12+(1:Int))) (fun g =>
 (ybe a0 a1 a2 a3 a4 a b e l0 l1 l2 l3 l4 l5 l6 l7 i8 i9 i10 i11 g))))))
 (b l0 l1 l2 l3 l4 l5 l6 l7 i8 i9 i10 i11 i12 false))
def ybf (a0:yad) (a1:yaV) (a2:yaE) (a3:yam) (a4:yau) (a:Ls→Ls→Ls→Ls→Ls→Ls→Ls→Ls→Int→Int→Bool→Prop) (b:Ls→Ls→Ls→Ls→Int→Int→Bool→Prop):Nat→Ls→Ls→Ls→Ls→Ls→Ls→Ls→Ls→Int→Int→Prop
 | 0,_,_,_,_,_,_,_,_,_,_=>False
 | c+1,l0,l1,l2,l3,l4,l5,l6,l7,i8,i9 =>
 (cbr (decide (i9<i8))
 (∃ d:Nat,yba a0 a1 a2 a3 a4
 (fun e f g h i j k l w m n x y z=>(lt (IntKind.i64.wrap (n+(1:Int))) (fun o =>
 (ybf a0 a1 a2 a3 a4 a b c e f g h i j k l m o))))
 (fun p q r s t u v=>(b p q r s t u v))
 d l0 l1 l2 l3 l4 l5 l6 l7 i9 i8 i9 (((List.length l4):Nat):Int) (0:Int))
 (a l0 l1 l2 l3 l4 l5 l6 l7 i8 i9 false))
def ybg (a0:yad) (a1:yaV) (a2:yaE) (a3:yam) (a4:yau) (a:Ls→Ls→Ls→Ls→Int→Int→Bool→Prop) (b:Ls→Ls→Ls→Ls→Ls→Ls→Ls→Ls→Int→Int→Bool→Prop):Nat→Ls→Ls→Ls→Ls→Ls→Ls→Ls→Ls→Int→Int→Prop
 | 0,_,_,_,_,_,_,_,_,_,_=>False
 | c+1,l0,l1,l2,l3,l4,l5,l6,l7,i8,i9 =>
 (cbr (decide (i9<i8))
 (∃ d:Nat,ybb a0 a1 a2 a3 a4
 (fun e f g h i j k=>(a e f g h i j k))
 (fun l m n o p q r s w t u x y z=>(lt (IntKind.i64.wrap (u+(1:Int))) (fun v =>
 (ybg a0 a1 a2 a3 a4 a b c l m n o p q r s t v))))
 d l0 l1 l2 l3 l4 l5 l6 l7 i9 i8 i9 (((List.length l4):Nat):Int) (0:Int))
 (b l0 l1 l2 l3 l4 l5 l6 l7 i8 i9 false))
def ybh (a0:yad) (a1:yaV) (a2:yaE) (a3:yam) (a4:yau) (a:Ls→Ls→Ls→Ls→Int→Int→Bool→Prop) (b:Ls→Ls→Ls→Ls→Ls→Ls→Ls→Ls→Int→Int→Bool→Prop):Nat→Ls→Ls→Ls→Ls→Ls→Ls→Ls→Ls→Int→Int→Prop
 | 0,_,_,_,_,_,_,_,_,_,_=>False
 | c+1,l0,l1,l2,l3,l4,l5,l6,l7,i8,i9 =>
 (cbr (decide (i9<i8))
 (∃ d:Nat,ybc a0 a1 a2 a3 a4
 (fun e f g h i j k=>(a e f g h i j k))
 (fun l m n o p q r s w t u x y z=>(lt (IntKind.i64.wrap (u+(1:Int))) (fun v =>
 (ybh a0 a1 a2 a3 a4 a b c l m n o p q r s t v))))
 d l0 l1 l2 l3 l4 l5 l6 l7 i9 i8 i9 (((List.length l4):Nat):Int) (0:Int))
 (b l0 l1 l2 l3 l4 l5 l6 l7 i8 i9 false))
def ybi (a0:yad) (a1:yaV) (a2:yaE) (a3:yam) (a4:yau) (a:Ls→Ls→Ls→Ls→Int→Int→Bool→Prop) (b:Ls→Ls→Ls→Ls→Ls→Ls→Ls→Ls→Int→Int→Bool→Prop):Nat→Ls→Ls→Ls→Ls→Ls→Ls→Ls→Ls→Int→Int→Prop
 | 0,_,_,_,_,_,_,_,_,_,_=>False
 | c+1,l0,l1,l2,l3,l4,l5,l6,l7,i8,i9 =>
 (cbr (decide (i9<i8))
 (∃ d:Nat,ybd a0 a1 a2 a3 a4
 (fun e f g h i j k=>(a e f g h i j k))
 (fun l m n o p q r s w t u x y z=>(lt (IntKind.i64.wrap (u+(1:Int))) (fun v =>
 (ybi a0 a1 a2 a3 a4 a b c l m n o p q r s t v))))
 d l0 l1 l2 l3 l4 l5 l6 l7 i9 i8 i9 (((List.length l4):Nat):Int) (0:Int))
 (b l0 l1 l2 l3 l4 l5 l6 l7 i8 i9 false))
def ybj (a0:yad) (a1:yaV) (a2:yaE) (a3:yam) (a4:yau) (a:Ls→Ls→Ls→Ls→Int→Int→Bool→Prop) (b:Ls→Ls→Ls→Ls→Ls→Ls→Ls→Ls→Int→Int→Bool→Prop):Nat→Ls→Ls→Ls→Ls→Ls→Ls→Ls→Ls→Int→Int→Prop
 | 0,_,_,_,_,_,_,_,_,_,_=>False
 | c+1,l0,l1,l2,l3,l4,l5,l6,l7,i8,i9 =>
 (cbr (decide (i9<i8))
 (∃ d:Nat,ybe a0 a1 a2 a3 a4
 (fun e f g h i j k=>(a e f g h i j k))
 (fun l m n o p q r s w t u x y z=>(lt (IntKind.i64.wrap (u+(1:Int))) (fun v =>
 (ybj a0 a1 a2 a3 a4 a b c l m n o p q r s t v))))
 d l0 l1 l2 l3 l4 l5 l6 l7 i9 i8 i9 (((List.length l4):Nat):Int) (0:Int))
 (b l0 l1 l2 l3 l4 l5 l6 l7 i8 i9 false))
def yfS (a0:yad) (a1:yaV) (a2:yaE) (a3:yam) (a4:yau) (p0 p1 p2 p3:Ls) (p4:Int) (K:Int→Int→Bool→Prop):Prop :=
 (cbr (p4 ==(1:Int))
 (jn (fun (b:Ls→Ls→Ls→Ls→Int→Int→Bool→Prop) =>
 (∃ a:Nat,ybf a0 a1 a2 a3 a4
 (fun i j k l vH vI vJ vK vL vM vN=>(b i j k l (0:Int) (0:Int) false))
 (fun m n o p q r s=>(b m n o p q r s))
 a p0 p1 p2 p3 p0 p1 p2 p3 (((List.length p0):Nat):Int) (0:Int)))
 (fun t u v w x y c=>(jn (fun (d:Bool→Prop) =>
 (cbr (!c)
 (a1 t u v w (fun z =>
 (d z)))
 (d false)))
 (fun A=>(cbr A
 (K (-1:Int) (-1:Int) true)
 (K x y c))))))
 (cbr (p4 ==(2:Int))
 (jn (fun (e:Ls→Ls→Ls→Ls→Int→Int→Bool→Prop) =>
 (∃ a:Nat,ybg a0 a1 a2 a3 a4
 (fun B C D E F G H=>(e B C D E F G H))
 (fun I J L M vO vP vQ vR vS vT vU=>(e I J L M (0:Int) (0:Int) false))
 a p0 p1 p2 p3 p0 p1 p2 p3 (((List.length p0):Nat):Int) (0:Int)))
 (fun vV vW vX vY N O Q=>(K N O Q)))
 (cbr (p4 ==(4:Int))
 (jn (fun (f:Ls→Ls→Ls→Ls→Int→Int→Bool→Prop) =>
 (∃ a:Nat,ybh a0 a1 a2 a3 a4
 (fun R S T U V W X=>(f R S T U V W X))
 (fun Y Z va vb vZ v0 v1 v2 v3 v4 v5=>(f Y Z va vb (0:Int) (0:Int) false))
 a p0 p1 p2 p3 p0 p1 p2 p3 (((List.length p0):Nat):Int) (0:Int)))
 (fun v6 v7 v8 v9 vc vd ve=>(K vc vd ve)))
 (cbr (p4 ==(8:Int))
 (jn (fun (g:Ls→Ls→Ls→Ls→Int→Int→Bool→Prop) =>
 (∃ a:Nat,ybi a0 a1 a2 a3 a4
 (fun vf vg vh vi vj vk vl=>(g vf vg vh vi vj vk vl))
 (fun vm vn vo vp wa wb wc wd we wf wg=>(g vm vn vo vp (0:Int) (0:Int) false))
 a p0 p1 p2 p3 p0 p1 p2 p3 (((List.length p0):Nat):Int) (0:Int)))
 (fun wh wi wj wk vq vr vs=>(K vq vr vs)))
 (jn (fun (h:Ls→Ls→Ls→Ls→Int→Int→Bool→Prop) =>
 (∃ a:Nat,ybj a0 a1 a2 a3 a4
 (fun vt vu vv vw vx vy vz=>(h vt vu vv vw vx vy vz))
 (fun vA vB vC vD wl wm wn wo wp wq wr=>(h vA vB vC vD (0:Int) (0:Int) false))
 a p0 p1 p2 p3 p0 p1 p2 p3 (((List.length p0):Nat):Int) (0:Int)))
 (fun ws wt wu wv vE vF vG=>(K vE vF vG)))))))
def yaD:yaC:=yfS yav yag yaj yap yan
def yps:Sg:=⟨(lC pt28 (lC (vI IntKind.u8) lN)),Int→Int→Bool→Prop,fun K=>(fun r0 r1 r2=>K (.tup [(.int .i64 r0),(.int .i64 r1),(.bool r2)]))⟩
def ymE (Q:Qx):Ls→Ls→Ls→Ls→Ls→Ls→Ls→Ls→Int→Int→Int→Int→Int→Bool→Prop:=(fun l0 l1 l2 l3 l4 l5 l6 l7 i8 i9 i10 i11 i12 b13=>Q (.exit 2) [(0,.v (.eptr [(.agg [(.data l4),(.data l5),(.data l6),(.data l7)])] 0 0)),(1,.v (.fn (.func yco) [] [(.ptr 0 1 0 0)])),(7,.v (.int .i64 i8)),(13,.v (.int .i64 i9)),(14,.v (.int .i64 i10)),(21,.v (.int .i64 i11)),(22,.v (.int .i64 i12)),(23,.v (.bool b13))] [⟨false,false,1,([(.eptr [(.agg [(.data l0),(.data l1),(.data l2),(.data l3)])] 0 0)]:Ls)⟩])
def ycD (Q:Qx):Ls→Ls→Ls→Ls→Int→Int→Bool→Prop:=(fun l0 l1 l2 l3 i4 i5 b6=>Q .ret [(4,.v (.int .i64 i4)),(5,.v (.int .i64 i5)),(6,.v (.bool b6))] [⟨false,false,1,([(.eptr [(.agg [(.data l0),(.data l1),(.data l2),(.data l3)])] 0 0)]:Ls)⟩])
def ymF (Q:Qx):Ls→Ls→Ls→Ls→Ls→Ls→Ls→Ls→Int→Int→Int→Int→Int→Bool→Prop:=(fun l0 l1 l2 l3 l4 l5 l6 l7 i8 i9 i10 i11 i12 b13=>Q (.exit 2) [(0,.v (.eptr [(.agg [(.data l4),(.data l5),(.data l6),(.data l7)])] 0 0)),(1,.v (.fn (.func ycp) [] [(.ptr 0 1 0 0)])),(7,.v (.int .i64 i8)),(13,.v (.int .i64 i9)),(14,.v (.int .i64 i10)),(21,.v (.int .i64 i11)),(22,.v (.int .i64 i12)),(23,.v (.bool b13))] [⟨false,false,1,([(.eptr [(.agg [(.data l0),(.data l1),(.data l2),(.data l3)])] 0 0)]:Ls)⟩])
def ymG (Q:Qx):Ls→Ls→Ls→Ls→Ls→Ls→Ls→Ls→Int→Int→Int→Int→Int→Bool→Prop:=(fun l0 l1 l2 l3 l4 l5 l6 l7 i8 i9 i10 i11 i12 b13=>Q (.exit 2) [(0,.v (.eptr [(.agg [(.data l4),(.data l5),(.data l6),(.data l7)])] 0 0)),(1,.v (.fn (.func ycq) [] [(.ptr 0 1 0 0)])),(7,.v (.int .i64 i8)),(13,.v (.int .i64 i9)),(14,.v (.int .i64 i10)),(21,.v (.int .i64 i11)),(22,.v (.int .i64 i12)),(23,.v (.bool b13))] [⟨false,false,1,([(.eptr [(.agg [(.data l0),(.data l1),(.data l2),(.data l3)])] 0 0)]:Ls)⟩])
def ymH (Q:Qx):Ls→Ls→Ls→Ls→Ls→Ls→Ls→Ls→Int→Int→Int→Int→Int→Bool→Prop:=(fun l0 l1 l2 l3 l4 l5 l6 l7 i8 i9 i10 i11 i12 b13=>Q (.exit 2) [(0,.v (.eptr [(.agg [(.data l4),(.data l5),(.data l6),(.data l7)])] 0 0)),(1,.v (.fn (.func ycr) [] [(.ptr 0 1 0 0)])),(7,.v (.int .i64 i8)),(13,.v (.int .i64 i9)),(14,.v (.int .i64 i10)),(21,.v (.int .i64 i11)),(22,.v (.int .i64 i12)),(23,.v (.bool b13))] [⟨false,false,1,([(.eptr [(.agg [(.data l0),(.data l1),(.data l2),(.data l3)])] 0 0)]:Ls)⟩])
def ymI (Q:Qx):Ls→Ls→Ls→Ls→Ls→Ls→Ls→Ls→Int→Int→Int→Int→Int→Bool→Prop:=(fun l0 l1 l2 l3 l4 l5 l6 l7 i8 i9 i10 i11 i12 b13=>Q (.exit 2) [(0,.v (.eptr [(.agg [(.data l4),(.data l5),(.data l6),(.data l7)])] 0 0)),(1,.v (.fn (.func ycs) [] [(.ptr 0 1 0 0)])),(7,.v (.int .i64 i8)),(13,.v (.int .i64 i9)),(14,.v (.int .i64 i10)),(21,.v (.int .i64 i11)),(22,.v (.int .i64 i12)),(23,.v (.bool b13))] [⟨false,false,1,([(.eptr [(.agg [(.data l0),(.data l1),(.data l2),(.data l3)])] 0 0)]:Ls)⟩])
def ymJ (Q:Qx):Ls→Ls→Ls→Ls→Ls→Ls→Ls→Ls→Int→Int→Bool→Prop:=(fun l0 l1 l2 l3 l4 l5 l6 l7 i8 i9 b10=>Q (.exit 0) [(0,.v (.eptr [(.agg [(.data l4),(.data l5),(.data l6),(.data l7)])] 0 0)),(1,.v (.fn (.func yco) [] [(.ptr 0 1 0 0)])),(13,.v (.int .i64 i8)),(14,.v (.int .i64 i9)),(15,.v (.bool b10))] [⟨false,false,1,([(.eptr [(.agg [(.data l0),(.data l1),(.data l2),(.data l3)])] 0 0)]:Ls)⟩])
def ycE (Q:Qx):Ls→Ls→Ls→Ls→Int→Int→Bool→Prop:=(fun l0 l1 l2 l3 i4 i5 b6=>Q .ret [(4,.v (.int .i64 i4)),(5,.v (.int .i64 i5)),(6,.v (.bool b6))] [⟨false,false,1,([(.eptr [(.agg [(.data l0),(.data l1),(.data l2),(.data l3)])] 0 0)]:Ls)⟩])
def ymK (Q:Qx):Ls→Ls→Ls→Ls→Ls→Ls→Ls→Ls→Int→Int→Bool→Prop:=(fun l0 l1 l2 l3 l4 l5 l6 l7 i8 i9 b10=>Q (.exit 0) [(0,.v (.eptr [(.agg [(.data l4),(.data l5),(.data l6),(.data l7)])] 0 0)),(1,.v (.fn (.func ycp) [] [(.ptr 0 1 0 0)])),(13,.v (.int .i64 i8)),(14,.v (.int .i64 i9)),(15,.v (.bool b10))] [⟨false,false,1,([(.eptr [(.agg [(.data l0),(.data l1),(.data l2),(.data l3)])] 0 0)]:Ls)⟩])
def ymL (Q:Qx):Ls→Ls→Ls→Ls→Ls→Ls→Ls→Ls→Int→Int→Bool→Prop:=(fun l0 l1 l2 l3 l4 l5 l6 l7 i8 i9 b10=>Q (.exit 0) [(0,.v (.eptr [(.agg [(.data l4),(.data l5),(.data l6),(.data l7)])] 0 0)),(1,.v (.fn (.func ycq) [] [(.ptr 0 1 0 0)])),(13,.v (.int .i64 i8)),(14,.v (.int .i64 i9)),(15,.v (.bool b10))] [⟨false,false,1,([(.eptr [(.agg [(.data l0),(.data l1),(.data l2),(.data l3)])] 0 0)]:Ls)⟩])
def ymM (Q:Qx):Ls→Ls→Ls→Ls→Ls→Ls→Ls→Ls→Int→Int→Bool→Prop:=(fun l0 l1 l2 l3 l4 l5 l6 l7 i8 i9 b10=>Q (.exit 0) [(0,.v (.eptr [(.agg [(.data l4),(.data l5),(.data l6),(.data l7)])] 0 0)),(1,.v (.fn (.func ycr) [] [(.ptr 0 1 0 0)])),(13,.v (.int .i64 i8)),(14,.v (.int .i64 i9)),(15,.v (.bool b10))] [⟨false,false,1,([(.eptr [(.agg [(.data l0),(.data l1),(.data l2),(.data l3)])] 0 0)]:Ls)⟩])
def ymN (Q:Qx):Ls→Ls→Ls→Ls→Ls→Ls→Ls→Ls→Int→Int→Bool→Prop:=(fun l0 l1 l2 l3 l4 l5 l6 l7 i8 i9 b10=>Q (.exit 0) [(0,.v (.eptr [(.agg [(.data l4),(.data l5),(.data l6),(.data l7)])] 0 0)),(1,.v (.fn (.func ycs) [] [(.ptr 0 1 0 0)])),(13,.v (.int .i64 i8)),(14,.v (.int .i64 i9)),(15,.v (.bool b10))] [⟨false,false,1,([(.eptr [(.agg [(.data l0),(.data l1),(.data l2),(.data l3)])] 0 0)]:Ls)⟩])
def pt30:HPt:=hB false false 1 (rC pt28 rN) hN
def pt31:VPt:=vF yco lN pt19
def pt32:Pat Frm:=fV 7 pt0 (fV 13 pt0 (fV 14 pt0 (fV 21 pt0 (fV 22 pt0 fN))))
def pt33:VPt:=vF ycp lN pt19
def pt34:VPt:=vF ycq lN pt19
def pt35:VPt:=vF ycr lN pt19
def pt36:VPt:=vF ycs lN pt19
def yhw (a0:yad) (a1:yaV) (a2:yaE) (a3:yam) (a4:yau) (Q:Qx):List St:=[⟨(pS pt30 (fV 0 pt28 (fV 1 pt31 pt32)) fN),yba a0 a1 a2 a3 a4 (ymE Q) (ycD Q)⟩,⟨(pS pt30 (fV 0 pt28 (fV 1 pt33 pt32)) fN),ybb a0 a1 a2 a3 a4 (ycD Q) (ymF Q)⟩,⟨(pS pt30 (fV 0 pt28 (fV 1 pt34 pt32)) fN),ybc a0 a1 a2 a3 a4 (ycD Q) (ymG Q)⟩,⟨(pS pt30 (fV 0 pt28 (fV 1 pt35 pt32)) fN),ybd a0 a1 a2 a3 a4 (ycD Q) (ymH Q)⟩,⟨(pS pt30 (fV 0 pt28 (fV 1 pt36 pt32)) fN),ybe a0 a1 a2 a3 a4 (ycD Q) (ymI Q)⟩]
def yhx (a0:yad) (a1:yaV) (a2:yaE) (a3:yam) (a4:yau) (Q:Qx):List St:=[⟨(pS pt30 (fV 0 pt28 (fV 1 pt31 pt20)) fN),ybf a0 a1 a2 a3 a4 (ymJ Q) (ycE Q)⟩,⟨(pS pt30 (fV 0 pt28 (fV 1 pt33 pt20)) fN),ybg a0 a1 a2 a3 a4 (ycE Q) (ymK Q)⟩,⟨(pS pt30 (fV 0 pt28 (fV 1 pt34 pt20)) fN),ybh a0 a1 a2 a3 a4 (ycE Q) (ymL Q)⟩,⟨(pS pt30 (fV 0 pt28 (fV 1 pt35 pt20)) fN),ybi a0 a1 a2 a3 a4 (ycE Q) (ymM Q)⟩,⟨(pS pt30 (fV 0 pt28 (fV 1 pt36 pt20)) fN),ybj a0 a1 a2 a3 a4 (ycE Q) (ymN Q)⟩]
def yeh (a0:yad) (a1:yaV) (a2:yaE) (a3:yam) (a4:yau):LP:=lpS [(97930200,yhw a0 a1 a2 a3 a4),(97930201,yhx a0 a1 a2 a3 a4)]
def yfT (a0:yad) (a1:yaV) (a2:yaE) (a3:yam) (a4:yau):SE:=⟨(E ef0),yeW [(ygV,ycu.pw a0),(ydE,ytH.pw a1),(ydu,yCC.pw a2),(yey,yCt.pw a3),(ydv,yuZ.pw a4)],yeX [(yco,yhN),(ycp,yhP),(ycq,yhQ),(ycr,yhR),(ycs,yhS)],yeh a0 a1 a2 a3 a4,fun _=>none⟩
def yin (a0:yad) (a1:yaV) (a2:yaE) (a3:yam) (a4:yau):SE:=⟨(E ef0),yeW [(ygV,ycu.pw a0),(ydE,ytH.pw a1),(ydu,yCC.pw a2),(yey,yCt.pw a3),(ydv,yuZ.pw a4)],yeX [(yjM,ygG),(yco,yhN),(ycp,yhP),(ycq,yhQ),(ycr,yhR),(ycs,yhS)],yeh a0 a1 a2 a3 a4,fun _=>none⟩
theorem yh0:SEOk (Uni (E ef0)) (yfT yav yag yaj yap yan):=yaz (Sub.uni _) ⟨(yk5 ef0 ycV),yhk,(yd1 ef0 ycV),(yfL ef0 ycV),(yeU ef0 ycV),trivial⟩ ⟨⟨by kernel_rfl,by kernel_rfl,rfl,fun az=>yaB (by kernel_rfl) az,ycV.num _ (by kernel_rfl),by kernel_rfl,(yak (by kernel_rfl))⟩,⟨by kernel_rfl,by kernel_rfl,rfl,fun az=>yaB (by kernel_rfl) az,ycV.num _ (by kernel_rfl),by kernel_rfl,(yak (by kernel_rfl))⟩,⟨by kernel_rfl,by kernel_rfl,rfl,fun az=>yaB (by kernel_rfl) az,ycV.num _ (by kernel_rfl),by kernel_rfl,(yak (by kernel_rfl))⟩,⟨by kernel_rfl,by kernel_rfl,rfl,fun az=>yaB (by kernel_rfl) az,ycV.num _ (by kernel_rfl),by kernel_rfl,(yak (by kernel_rfl))⟩,⟨by kernel_rfl,by kernel_rfl,rfl,fun az=>yaB (by kernel_rfl) az,ycV.num _ (by kernel_rfl),by kernel_rfl,(yak (by kernel_rfl))⟩,trivial⟩ ycV.ok
theorem yll (a0 a1 a2 a3 a4):ybV (yfT a0 a1 a2 a3 a4) 10 a yn3 false (yhw a0 a1 a2 a3 a4):=fun _=>⟨fun _=>by kernel_rfl,fun _ _=>by kernel_rfl,fun _=>by kernel_rfl,fun _ _=>by kernel_rfl,fun _=>by kernel_rfl,fun _ _=>by kernel_rfl,fun _=>by kernel_rfl,fun _ _=>by kernel_rfl,fun _=>by kernel_rfl,fun _ _=>by kernel_rfl,trivial⟩
theorem ygB:LpT (Uni (E ef0)) (yeh yav yag yaj yap yan) [] 97930200 (.loop 97930200 yn3):=fun _ _ _=>yrX.st (Sub.uni _) (yaK (yh0) 10) (YOk.no _ _) (yak (by kernel_rfl)) (yll _ _ _ _ _ _)
theorem ylm (a0 a1 a2 a3 a4):ybV (yfT a0 a1 a2 a3 a4) 10 a ys9 false (yhx a0 a1 a2 a3 a4):=fun _=>⟨fun _=>by kernel_rfl,fun _ _=>by kernel_rfl,fun _=>by kernel_rfl,fun _ _=>by kernel_rfl,fun _=>by kernel_rfl,fun _ _=>by kernel_rfl,fun _=>by kernel_rfl,fun _ _=>by kernel_rfl,fun _=>by kernel_rfl,fun _ _=>by kernel_rfl,trivial⟩
theorem yln:LpT (Uni (E ef0)) (yeh yav yag yaj yap yan) [] 97930201 (.loop 97930201 ys9):=fun _ _ _=>yrX.st (Sub.uni _) (yaK (yh0) 10) (YOk.no _ _) (ya1 (l:=[(97930200,.loop 97930200 yn3)]) ⟨ygB,trivial⟩ (by kernel_rfl)) (ylm _ _ _ _ _ _)
theorem yoz:SEOk (Uni (E ef0)) (yin yav yag yaj yap yan):=yaz (Sub.uni _) ⟨(yk5 ef0 ycV),yhk,(yd1 ef0 ycV),(yfL ef0 ycV),(yeU ef0 ycV),trivial⟩ ⟨⟨by kernel_rfl,by kernel_rfl,rfl,fun az=>yaB (by kernel_rfl) az,ycV.num _ (by kernel_rfl),by kernel_rfl,(ya1 (l:=[(97930200,.loop 97930200 yn3),(97930201,.loop 97930201 ys9)]) ⟨ygB,yln,trivial⟩ (by kernel_rfl))⟩,⟨by kernel_rfl,by kernel_rfl,rfl,fun az=>yaB (by kernel_rfl) az,ycV.num _ (by kernel_rfl),by kernel_rfl,(yak (by kernel_rfl))⟩,⟨by kernel_rfl,by kernel_rfl,rfl,fun az=>yaB (by kernel_rfl) az,ycV.num _ (by kernel_rfl),by kernel_rfl,(yak (by kernel_rfl))⟩,⟨by kernel_rfl,by kernel_rfl,rfl,fun az=>yaB (by kernel_rfl) az,ycV.num _ (by kernel_rfl),by kernel_rfl,(yak (by kernel_rfl))⟩,⟨by kernel_rfl,by kernel_rfl,rfl,fun az=>yaB (by kernel_rfl) az,ycV.num _ (by kernel_rfl),by kernel_rfl,(yak (by kernel_rfl))⟩,⟨by kernel_rfl,by kernel_rfl,rfl,fun az=>yaB (by kernel_rfl) az,ycV.num _ (by kernel_rfl),by kernel_rfl,(yak (by kernel_rfl))⟩,trivial⟩ ycV.ok
theorem ypt (a0 a1 a2 a3 a4):EqW (yin a0 a1 a2 a3 a4) 11 ypM yps (yfS a0 a1 a2 a3 a4):=fun _ _=>by kernel_rfl
theorem ydi:OkF (E ef0) (yps.pw yaD) ybS:=okU ycV (ypt _ _ _ _ _) (yoz) ypG.flat (yak (by kernel_rfl))
abbrev yoA:Type:=Ls→Ls→(Int→Ls→Int→Prop)→Prop
def yd8 (a0:yaY) (a1:yaE) (a2:yac) (a3:yai) (a4:yaC) (f:Ls→Ls→Ls→Ls→Int→Int→Bool→Prop) (g:Ls→Ls→Ls→Ls→Int→Prop):Nat→Ls→Ls→Ls→Ls→Int→Int→Prop
 | 0,_,_,_,_,_,_=>False
 | i+1,l0,l1,l2,l3,i6,i7 =>
 (cbr (decide (i7<i6))
 (asr (decide ((0:Int)≤i7))
 (asr (decide (i7<(((List.length l1):Nat):Int)))
 (lt (List.getD l1 (i7.toNat) .nils) (fun c =>
 (asr (conf zK c)
 (a1 (yaa (yab c 0)) (yaI (yab c 1)) (yaI (yab c 2)) (fun j n =>
 (asr (decide ((0:Int)≤i7))
 (asr (decide (i7<(((List.length l3):Nat):Int)))
 (lt (List.getD l3 (i7.toNat) .nils) (fun d =>
 (asr (conf zD d)
 (asr (decide ((0:Int)≤i7))
 (asr (decide (i7<(((List.length (yaI d)):Nat):Int)))
 (lt (List.getD (yaI d) (i7.toNat) .nils) (fun e =>
 (asr (conf z2 e)
 (a2 j (fun k l =>
 (a3 (yaa (yab e 0)) (yaa (yab e 1)) k l (fun a b h =>
 (cbr (h !=(0:Int))
 (g l0 l1 l2 l3 h)
 (asr (decide ((List.length l0)=(List.length l0)))
 (asr (decide ((0+(List.length l0))≤(List.length l0)))
 (asr (!(decide (((0+(List.length l0))+1)≤(List.length l0))))
 (asr (decide ((List.length l0)=(List.length l0)))
 (asr (decide ((((List.length l0)+1)+64)*(16+1)≤room))
 (lt (IntKind.i64.wrap (i7+(1:Int))) (fun m =>
 (asr (decide ((List.length (l0++([(.agg [(.int .i64 a),(.int .i64 b)])]:Ls)))=List.length (l0++([(.agg [(.int .i64 a),(.int .i64 b)])]:Ls)))&&decide ((List.length (l0++([(.agg [(.int .i64 a),(.int .i64 b)])]:Ls)))=List.length (l0++([(.agg [(.int .i64 a),(.int .i64 b)])]:Ls))))
 (yd8 a0 a1 a2 a3 a4 f g i (l0++([(.agg [(.int .i64 a),(.int .i64 b)])]:Ls)) l1 l2 l3 i6 m)))))))))))))))))))))))))))))))
 (f l0 l1 l2 l3 i6 i7 false))
def ygy (a0:yaY) (a1:yaE) (a2:yac) (a3:yai) (a4:yaC) (g:Ls→Ls→Ls→Int→Int→Bool→Prop) (h:Ls→Ls→Ls→Int→Prop) (i:Ls→Ls→Ls→Ls→Int→Int→Bool→Prop) (j:Ls→Ls→Ls→Ls→Int→Prop):Nat→Ls→Ls→Ls→Int→Int→Prop
 | 0,_,_,_,_,_=>False
 | k+1,l0,l1,l2,i3,i4 =>
 (cbr (decide (i4<i3))
 (asr (decide ((0:Int)≤i4))
 (asr (decide (i4<(((List.length l0):Nat):Int)))
 (lt (List.getD l0 (i4.toNat) .nils) (fun a =>
 (asr (conf zK a)
 (a1 (yaa (yab a 0)) (yaI (yab a 1)) (yaI (yab a 2)) (fun l p =>
 (asr (decide ((0:Int)≤i4))
 (asr (decide (i4<(((List.length l2):Nat):Int)))
 (lt (List.getD l2 (i4.toNat) .nils) (fun b =>
 (asr (conf zD b)
 (asr (decide ((0:Int)≤i4))
 (asr (decide (i4<(((List.length (yaI b)):Nat):Int)))
 (lt (List.getD (yaI b) (i4.toNat) .nils) (fun c =>
 (asr (conf z2 c)
 (a2 l (fun m n =>
 (a3 (yaa (yab c 0)) (yaa (yab c 1)) m n (fun d e f =>
 (cbr (f !=(0:Int))
 (h l0 l1 l2 f)
 (lt (IntKind.i64.wrap (i4+(1:Int))) (fun o =>
 (asr (decide (1=List.length ([(.agg [(.int .i64 d),(.int .i64 e)])]:Ls))&&decide (1=List.length ([(.agg [(.int .i64 d),(.int .i64 e)])]:Ls)))
 (yd8 a0 a1 a2 a3 a4 i j k ([(.agg [(.int .i64 d),(.int .i64 e)])]:Ls) l0 l1 l2 i3 o))))))))))))))))))))))))))
 (g l0 l1 l2 i3 i4 false))
def yiM (a0:yaY) (a1:yaE) (a2:yac) (a3:yai) (a4:yaC) (a:Ls→Ls→Ls→Int→Int→Ls→Int→Bool→Prop):Nat→Ls→Ls→Ls→Int→Int→Ls→Int→Prop
 | 0,_,_,_,_,_,_,_=>False
 | c+1,l0,l1,l2,i3,i4,l5,i6 =>
 (cbr (decide (i6<(5:Int)))
 (jn (fun (b:Int→Prop) =>
 (asr (!(decide (i6<(0:Int))))
 (lt (IntKind.u8.wrap ((1:Int)*2 ^ (min i6.toNat IntKind.u8.bits))) (fun d =>
 (a4 l0 l1 l2 ([]:Ls) d (fun j k e =>
 (cbr (!e)
 (asr (!(decide (i6<(0:Int))))
 (lt (IntKind.u8.wrap ((1:Int)*2 ^ (min i6.toNat IntKind.u8.bits))) (fun f =>
 (lt (IntKind.u8.wrap (BitVec.ofInt IntKind.u8.bits i4|||BitVec.ofInt IntKind.u8.bits f).toNat) (fun g =>
 (b g))))))
 (b i4))))))))
 (fun h=>(lt (IntKind.i64.wrap (i6+(1:Int))) (fun i =>
 (yiM a0 a1 a2 a3 a4 a c l0 l1 l2 i3 h l5 i)))))
 (a l0 l1 l2 i3 i4 l5 i6 false))
def ydp (a0:yaY) (a1:yaE) (a2:yac) (a3:yai) (a4:yaC) (a:Ls→Ls→Ls→Ls→Int→Int→Ls→Int→Bool→Prop):Nat→Ls→Ls→Ls→Ls→Int→Int→Ls→Int→Prop
 | 0,_,_,_,_,_,_,_,_=>False
 | c+1,l0,l1,l2,l3,i6,i7,l8,i9 =>
 (cbr (decide (i9<(5:Int)))
 (jn (fun (b:Int→Prop) =>
 (asr (!(decide (i9<(0:Int))))
 (lt (IntKind.u8.wrap ((1:Int)*2 ^ (min i9.toNat IntKind.u8.bits))) (fun d =>
 (asr (decide ((List.length l0)=(List.length l0)))
 (asr (decide ((0+(List.length l0))≤(List.length l0)))
 (a4 l1 l2 l3 (List.take (List.length l0) l0) d (fun j k e =>
 (cbr (!e)
 (asr (!(decide (i9<(0:Int))))
 (lt (IntKind.u8.wrap ((1:Int)*2 ^ (min i9.toNat IntKind.u8.bits))) (fun f =>
 (lt (IntKind.u8.wrap (BitVec.ofInt IntKind.u8.bits i7|||BitVec.ofInt IntKind.u8.bits f).toNat) (fun g =>
 (b g))))))
 (b i7))))))))))
 (fun h=>(lt (IntKind.i64.wrap (i9+(1:Int))) (fun i =>
 (asr (decide ((List.length l0)=List.length l0)&&decide ((List.length l0)=List.length l0))
 (ydp a0 a1 a2 a3 a4 a c l0 l1 l2 l3 i6 h l8 i))))))
 (a l0 l1 l2 l3 i6 i7 l8 i9 false))
def ymO (a0:yaY) (a1:yaE) (a2:yac) (a3:yai) (a4:yaC) (p0 p1:Ls) (K:Int→Ls→Int→Prop):Prop :=
 (a0 p0 p1 (fun j b =>
 (cbr (b !=(0:Int))
 (cbr (b ==(0:Int))
 False
 (cbr (b !=(0:Int))
 (K (0:Int) ([]:Ls) b)
 False))
 (jn (fun (d:Ls→Ls→Ls→Int→Prop) =>
 (jn (fun (e:Ls→Ls→Ls→Ls→Int→Prop) =>
 (∃ k:Nat,ygy a0 a1 a2 a3 a4
 (fun l m n J L M=>(d l m n (0:Int)))
 (fun o p q r=>(d o p q r))
 (fun s t u v N O Q=>(e s t u v (0:Int)))
 (fun w x y z A=>(e w x y z A))
 k p0 p1 j (((List.length p0):Nat):Int) (0:Int)))
 (fun a B C f g=>(cbr (g !=(0:Int))
 (K (0:Int) ([]:Ls) g)
 (asr (decide ((List.length a)=List.length a)&&decide ((List.length a)=List.length a))
 (∃ c:Nat,ydp a0 a1 a2 a3 a4
 (fun R S T U V D E W X=>(K D E (0:Int)))
 c a B C f (0:Int) (0:Int) f (0:Int)))))))
 (fun F G h i=>(cbr (i !=(0:Int))
 (K (0:Int) ([]:Ls) i)
 (∃ c:Nat,yiM a0 a1 a2 a3 a4
 (fun Y Z va vb H I vc vd=>(K H I (0:Int)))
 c F G h (0:Int) (0:Int) h (0:Int))))))))
def yfy:yoA:=ymO yaR yaj yaJ yaW yaD
def yCZ:Sg:=⟨pt27,Int→Ls→Int→Prop,fun K=>(fun r0 r1 r2=>K (.tup [(.agg [(.int .u8 r0),(.data r1)]),(.int .i64 r2)]))⟩
def yxz (Q:Qx):Ls→Ls→Ls→Int→Int→Bool→Prop:=(fun l0 l1 l2 i3 i4 b5=>Q (.exit 0) [(0,.v (.ptr 0 1 0 0)),(12,.v (.int .i64 i3)),(13,.v (.int .i64 i4)),(14,.v (.bool b5))] [⟨false,false,4,([(.agg [(.data l0),(.data l1),(.data l2),.nils])]:Ls)⟩])
def yxA (Q:Qx):Ls→Ls→Ls→Int→Prop:=(fun l0 l1 l2 i3=>Q .ret [(2,.v (.int .i64 i3))] [⟨false,false,4,([(.agg [(.data l0),(.data l1),(.data l2),.nils])]:Ls)⟩])
def ynq (Q:Qx):Ls→Ls→Ls→Ls→Int→Int→Bool→Prop:=(fun l0 l1 l2 l3 i6 i7 b8=>Q (.exit 0) [(0,.v (.ptr 0 1 0 0)),(12,.v (.int .i64 i6)),(13,.v (.int .i64 i7)),(14,.v (.bool b8))] [⟨false,false,4,([(.agg [(.data l1),(.data l2),(.data l3),(.own 1 0 (List.length l0) (List.length l0) none)])]:Ls)⟩,⟨false,true,2,l0⟩])
def ynr (Q:Qx):Ls→Ls→Ls→Ls→Int→Prop:=(fun l0 l1 l2 l3 i6=>Q .ret [(2,.v (.int .i64 i6))] [⟨false,false,4,([(.agg [(.data l1),(.data l2),(.data l3),(.own 1 0 (List.length l0) (List.length l0) none)])]:Ls)⟩,⟨false,true,2,l0⟩])
def yxB (Q:Qx):Ls→Ls→Ls→Int→Int→Ls→Int→Bool→Prop:=(fun l0 l1 l2 i3 i4 l5 i6 b7=>Q (.exit 0) [(4,.box (.agg [(.int .u8 i3),.nils])),(6,.v (.ptr 0 1 0 0)),(8,.box (.agg [(.int .u8 i4),(.data l5)])),(32,.v (.int .i64 i6)),(33,.v (.bool b7))] [⟨false,false,4,([(.agg [(.data l0),(.data l1),(.data l2),.nils])]:Ls)⟩])
def yxC (Q:Qx):Ls→Ls→Ls→Ls→Int→Int→Ls→Int→Bool→Prop:=(fun l0 l1 l2 l3 i6 i7 l8 i9 b10=>Q (.exit 0) [(4,.box (.agg [(.int .u8 i6),.nils])),(6,.v (.ptr 0 1 0 0)),(8,.box (.agg [(.int .u8 i7),(.data l8)])),(32,.v (.int .i64 i9)),(33,.v (.bool b10))] [⟨false,false,4,([(.agg [(.data l1),(.data l2),(.data l3),(.own 1 0 (List.length l0) (List.length l0) none)])]:Ls)⟩,⟨false,true,2,l0⟩])
def pt37:HPt:=hB false false 4 (rC (vA (lC vD (lC vD (lC vD (lC vNs lN))))) rN) hN
def pt38:Pat Frm:=fV 0 pt17 (fV 12 pt0 (fV 13 pt0 fN))
def pt39:VPt:=vW 1 (nK 0) (nT 1) (nT 1)
def pt40:HPt:=hB false false 4 (rC (vA (lC vD (lC vD (lC vD (lC pt39 lN))))) rN) (hB false true 2 rA hN)
def yo3 (a0:yaY) (a1:yaE) (a2:yac) (a3:yai) (a4:yaC) (Q:Qx):List St:=[⟨(pS pt37 pt38 fN),ygy a0 a1 a2 a3 a4 (yxz Q) (yxA Q) (ynq Q) (ynr Q)⟩,⟨(pS pt40 pt38 fN),fun n l1 l2 l3 l0 i6 i7=>yd8 a0 a1 a2 a3 a4 (ynq Q) (ynr Q) n l0 l1 l2 l3 i6 i7⟩]
def pt41:VPt:=vA (lC (vI IntKind.u8) pt7)
def pt42:Pat Frm:=fX 4 (vA (lC (vI IntKind.u8) (lC vNs lN))) (fV 6 pt17 (fX 8 pt41 (fV 32 pt0 fN)))
def yo4 (a0:yaY) (a1:yaE) (a2:yac) (a3:yai) (a4:yaC) (Q:Qx):List St:=[⟨(pS pt37 pt42 fN),yiM a0 a1 a2 a3 a4 (yxB Q)⟩,⟨(pS pt40 pt42 fN),fun n l1 l2 l3 l0 i6 i7 l8 i9=>ydp a0 a1 a2 a3 a4 (yxC Q) n l0 l1 l2 l3 i6 i7 l8 i9⟩]
def yjh (a0:yaY) (a1:yaE) (a2:yac) (a3:yai) (a4:yaC):LP:=lpS [(20643600,yo3 a0 a1 a2 a3 a4),(65264200,yo4 a0 a1 a2 a3 a4)]
def ymP (a0:yaY) (a1:yaE) (a2:yac) (a3:yai) (a4:yaC):SE:=⟨(E ef0),yeW [(ybr,yK5.pw a0),(ydu,yCC.pw a1),(ycW,yjd.pw a2),(yeA,yj5.pw a3),(ybS,yps.pw a4)],yeX [(yfb,ygt)],yjh a0 a1 a2 a3 a4,fun _=>none⟩
def ysp (a0:yaY) (a1:yaE) (a2:yac) (a3:yai) (a4:yaC):SE:=⟨(E ef0),yeW [(ybr,yK5.pw a0),(ydu,yCC.pw a1),(ycW,yjd.pw a2),(yeA,yj5.pw a3),(ybS,yps.pw a4)],yeX [(yfb,ygt),(yha,yhb)],yjh a0 a1 a2 a3 a4,fun _=>none⟩
theorem yqD:SEOk (Uni (E ef0)) (ymP yaR yaj yaJ yaW yaD):=yaz (Sub.uni _) ⟨(ygf ef0 ycV),(yd1 ef0 ycV),(yee ef0 ycV),(yfu ef0 ycV),ydi,trivial⟩ ⟨⟨by kernel_rfl,by kernel_rfl,rfl,fun az=>yaB (by kernel_rfl) az,ycV.num _ (by kernel_rfl),by kernel_rfl,(yak (by kernel_rfl))⟩,trivial⟩ ycV.ok
theorem yvA (a0 a1 a2 a3 a4):ybV (ymP a0 a1 a2 a3 a4) 10 a yiy false (yo3 a0 a1 a2 a3 a4):=fun _=>⟨fun _=>by kernel_rfl,fun _ _=>by kernel_rfl,fun _=>by kernel_rfl,fun _ _=>by kernel_rfl,trivial⟩
theorem yvB:LpT (Uni (E ef0)) (yjh yaR yaj yaJ yaW yaD) [] 20643600 (.loop 20643600 yiy):=fun _ _ _=>yrX.st (Sub.uni _) (yaK (yqD) 10) (YOk.no _ _) (yak (by kernel_rfl)) (yvA _ _ _ _ _ _)
theorem yvC (a0 a1 a2 a3 a4):ybV (ymP a0 a1 a2 a3 a4) 10 a ytd false (yo4 a0 a1 a2 a3 a4):=fun _=>⟨fun _=>by kernel_rfl,fun _ _=>by kernel_rfl,fun _=>by kernel_rfl,fun _ _=>by kernel_rfl,trivial⟩
theorem yvD:LpT (Uni (E ef0)) (yjh yaR yaj yaJ yaW yaD) [] 65264200 (.loop 65264200 ytd):=fun _ _ _=>yrX.st (Sub.uni _) (yaK (yqD) 10) (YOk.no _ _) (yak (by kernel_rfl)) (yvC _ _ _ _ _ _)
theorem yBl:SEOk (Uni (E ef0)) (ysp yaR yaj yaJ yaW yaD):=yaz (Sub.uni _) ⟨(ygf ef0 ycV),(yd1 ef0 ycV),(yee ef0 ycV),(yfu ef0 ycV),ydi,trivial⟩ ⟨⟨by kernel_rfl,by kernel_rfl,rfl,fun az=>yaB (by kernel_rfl) az,ycV.num _ (by kernel_rfl),by kernel_rfl,(yak (by kernel_rfl))⟩,⟨by kernel_rfl,by kernel_rfl,rfl,fun az=>yaB (by kernel_rfl) az,ycV.num _ (by kernel_rfl),by kernel_rfl,(ya1 (l:=[(20643600,.loop 20643600 yiy)]) ⟨yvB,trivial⟩ (by kernel_rfl))⟩,trivial⟩ ycV.ok
theorem yC0 (a0 a1 a2 a3 a4):EqW (ysp a0 a1 a2 a3 a4) 11 yuO yCZ (ymO a0 a1 a2 a3 a4):=fun _ _=>by kernel_rfl
theorem ysq:OkF (E ef0) (yCZ.pw yfy) yj0:=okU ycV (yC0 _ _ _ _ _) (yBl) ypG.flat (ya1 (l:=[(65264200,.loop 65264200 ytd)]) ⟨yvD,trivial⟩ (by kernel_rfl))
abbrev yk7:Type:=Ls→Ls→Int→Ls→(Bool→Int→Prop)→Prop
def ydq (a0:yaY) (a1:yad) (a2:yaE) (a3:yac) (a4:yai) (a5:yaC) (a:Ls→Ls→Ls→Ls→Ls→Int→Int→Bool→Prop) (b:Ls→Ls→Ls→Bool→Prop):Nat→Ls→Ls→Ls→Ls→Ls→Int→Int→Prop
 | 0,_,_,_,_,_,_,_=>False
 | e+1,l0,l1,l2,l3,l4,i5,i6 =>
 (cbr (decide (i6<i5))
 (asr (decide ((0:Int)≤i6))
 (asr (decide (i6<(((List.length l4):Nat):Int)))
 (lt (List.getD l4 (i6.toNat) .nils) (fun c =>
 (asr (conf zD c)
 (asr (decide ((0:Int)≤i6))
 (asr (decide (i6<(((List.length l3):Nat):Int)))
 (lt (List.getD l3 (i6.toNat) .nils) (fun d =>
 (asr (conf zD d)
 (a1 (yaI c) (yaI d) (fun f =>
 (cbr (!f)
 (b l0 l1 l2 false)
 (lt (IntKind.i64.wrap (i6+(1:Int))) (fun g =>
 (ydq a0 a1 a2 a3 a4 a5 a b e l0 l1 l2 l3 l4 i5 g))))))))))))))))
 (a l0 l1 l2 l3 l4 i5 i6 false))
def yhl (a0:yaY) (a1:yad) (a2:yaE) (a3:yac) (a4:yai) (a5:yaC) (f:Ls→Ls→Ls→Ls→Int→Int→Bool→Prop) (g:Ls→Ls→Ls→Ls→Int→Prop):Nat→Ls→Ls→Ls→Ls→Int→Int→Prop
 | 0,_,_,_,_,_,_=>False
 | i+1,l0,l1,l2,l3,i6,i7 =>
 (cbr (decide (i7<i6))
 (asr (decide ((0:Int)≤i7))
 (asr (decide (i7<(((List.length l1):Nat):Int)))
 (lt (List.getD l1 (i7.toNat) .nils) (fun c =>
 (asr (conf zK c)
 (a2 (yaa (yab c 0)) (yaI (yab c 1)) (yaI (yab c 2)) (fun j n =>
 (asr (decide ((0:Int)≤i7))
 (asr (decide (i7<(((List.length l3):Nat):Int)))
 (lt (List.getD l3 (i7.toNat) .nils) (fun d =>
 (asr (conf zD d)
 (asr (decide ((0:Int)≤i7))
 (asr (decide (i7<(((List.length (yaI d)):Nat):Int)))
 (lt (List.getD (yaI d) (i7.toNat) .nils) (fun e =>
 (asr (conf z2 e)
 (a3 j (fun k l =>
 (a4 (yaa (yab e 0)) (yaa (yab e 1)) k l (fun a b h =>
 (cbr (h !=(0:Int))
 (g l0 l1 l2 l3 h)
 (asr (decide ((List.length l0)=(List.length l0)))
 (asr (decide ((0+(List.length l0))≤(List.length l0)))
 (asr (!(decide (((0+(List.length l0))+1)≤(List.length l0))))
 (asr (decide ((List.length l0)=(List.length l0)))
 (asr (decide ((((List.length l0)+1)+64)*(16+1)≤room))
 (lt (IntKind.i64.wrap (i7+(1:Int))) (fun m =>
 (asr (decide ((List.length (l0++([(.agg [(.int .i64 a),(.int .i64 b)])]:Ls)))=List.length (l0++([(.agg [(.int .i64 a),(.int .i64 b)])]:Ls)))&&decide ((List.length (l0++([(.agg [(.int .i64 a),(.int .i64 b)])]:Ls)))=List.length (l0++([(.agg [(.int .i64 a),(.int .i64 b)])]:Ls))))
 (yhl a0 a1 a2 a3 a4 a5 f g i (l0++([(.agg [(.int .i64 a),(.int .i64 b)])]:Ls)) l1 l2 l3 i6 m)))))))))))))))))))))))))))))))
 (f l0 l1 l2 l3 i6 i7 false))
def yk8 (a0:yaY) (a1:yad) (a2:yaE) (a3:yac) (a4:yai) (a5:yaC) (g:Ls→Ls→Ls→Int→Int→Bool→Prop) (h:Ls→Ls→Ls→Int→Prop) (i:Ls→Ls→Ls→Ls→Int→Int→Bool→Prop) (j:Ls→Ls→Ls→Ls→Int→Prop):Nat→Ls→Ls→Ls→Int→Int→Prop
 | 0,_,_,_,_,_=>False
 | k+1,l0,l1,l2,i3,i4 =>
 (cbr (decide (i4<i3))
 (asr (decide ((0:Int)≤i4))
 (asr (decide (i4<(((List.length l0):Nat):Int)))
 (lt (List.getD l0 (i4.toNat) .nils) (fun a =>
 (asr (conf zK a)
 (a2 (yaa (yab a 0)) (yaI (yab a 1)) (yaI (yab a 2)) (fun l p =>
 (asr (decide ((0:Int)≤i4))
 (asr (decide (i4<(((List.length l2):Nat):Int)))
 (lt (List.getD l2 (i4.toNat) .nils) (fun b =>
 (asr (conf zD b)
 (asr (decide ((0:Int)≤i4))
 (asr (decide (i4<(((List.length (yaI b)):Nat):Int)))
 (lt (List.getD (yaI b) (i4.toNat) .nils) (fun c =>
 (asr (conf z2 c)
 (a3 l (fun m n =>
 (a4 (yaa (yab c 0)) (yaa (yab c 1)) m n (fun d e f =>
 (cbr (f !=(0:Int))
 (h l0 l1 l2 f)
 (lt (IntKind.i64.wrap (i4+(1:Int))) (fun o =>
 (asr (decide (1=List.length ([(.agg [(.int .i64 d),(.int .i64 e)])]:Ls))&&decide (1=List.length ([(.agg [(.int .i64 d),(.int .i64 e)])]:Ls)))
 (yhl a0 a1 a2 a3 a4 a5 i j k ([(.agg [(.int .i64 d),(.int .i64 e)])]:Ls) l0 l1 l2 i3 o))))))))))))))))))))))))))
 (g l0 l1 l2 i3 i4 false))
def ycO (a0:yaY) (a1:yad) (a2:yaE) (a3:yac) (a4:yai) (a5:yaC) (a:Ls→Ls→Ls→Int→Ls→Int→Bool→Prop) (b:Ls→Ls→Ls→Bool→Int→Prop):Nat→Ls→Ls→Ls→Int→Ls→Int→Prop
 | 0,_,_,_,_,_,_=>False
 | d+1,l0,l1,l2,i3,l4,i5 =>
 (cbr (decide (i5<(5:Int)))
 (jn (fun c =>
 (asr (!(decide (i5<(0:Int))))
 (lt (Int.fdiv i3 (2 ^ (min i5.toNat IntKind.u8.bits))) (fun e =>
 (lt (IntKind.u8.wrap (BitVec.ofInt IntKind.u8.bits e&&&BitVec.ofInt IntKind.u8.bits (1:Int)).toNat) (fun f =>
 (cbr (f ==(0:Int))
 c
 (asr (!(decide (i5<(0:Int))))
 (lt (IntKind.u8.wrap ((1:Int)*2 ^ (min i5.toNat IntKind.u8.bits))) (fun g =>
 (a5 l0 l1 l2 ([]:Ls) g (fun j k h =>
 (cbr h
 (b l0 l1 l2 false (0:Int))
 c)))))))))))))
 (lt (IntKind.i64.wrap (i5+(1:Int))) (fun i =>
 (ycO a0 a1 a2 a3 a4 a5 a b d l0 l1 l2 i3 l4 i))))
 (a l0 l1 l2 i3 l4 i5 false))
def yhm (a0:yaY) (a1:yad) (a2:yaE) (a3:yac) (a4:yai) (a5:yaC) (a:Ls→Ls→Ls→Ls→Int→Ls→Int→Bool→Prop) (b:Ls→Ls→Ls→Ls→Bool→Int→Prop):Nat→Ls→Ls→Ls→Ls→Int→Ls→Int→Prop
 | 0,_,_,_,_,_,_,_=>False
 | d+1,l0,l1,l2,l3,i6,l7,i8 =>
 (cbr (decide (i8<(5:Int)))
 (jn (fun c =>
 (asr (!(decide (i8<(0:Int))))
 (lt (Int.fdiv i6 (2 ^ (min i8.toNat IntKind.u8.bits))) (fun e =>
 (lt (IntKind.u8.wrap (BitVec.ofInt IntKind.u8.bits e&&&BitVec.ofInt IntKind.u8.bits (1:Int)).toNat) (fun f =>
 (cbr (f ==(0:Int))
 c
 (asr (!(decide (i8<(0:Int))))
 (lt (IntKind.u8.wrap ((1:Int)*2 ^ (min i8.toNat IntKind.u8.bits))) (fun g =>
 (asr (decide ((List.length l0)=(List.length l0)))
 (asr (decide ((0+(List.length l0))≤(List.length l0)))
 (a5 l1 l2 l3 (List.take (List.length l0) l0) g (fun j k h =>
 (cbr h
 (b l0 l1 l2 l3 false (0:Int))
 c)))))))))))))))
 (lt (IntKind.i64.wrap (i8+(1:Int))) (fun i =>
 (asr (decide ((List.length l0)=List.length l0)&&decide ((List.length l0)=List.length l0))
 (yhm a0 a1 a2 a3 a4 a5 a b d l0 l1 l2 l3 i6 l7 i)))))
 (a l0 l1 l2 l3 i6 l7 i8 false))
def yjI (a0:yaY) (a1:yad) (a2:yaE) (a3:yac) (a4:yai) (a5:yaC) (p0 p1:Ls) (p2:Int) (p3:Ls) (K:Bool→Int→Prop):Prop :=
 (a0 p0 p1 (fun a c =>
 (cbr (c !=(0:Int))
 (cbr (c !=(0:Int))
 (K false c)
 (cbr (decide (p2≥(32:Int)))
 (K false (0:Int))
 False))
 (jn (fun (g:Ls→Ls→Ls→Bool→Prop) =>
 (cbr (decide (p2≥(32:Int)))
 (g p0 p1 a true)
 (jn (fun (d:Ls→Ls→Ls→Bool→Prop) =>
 (cbr ((((List.length a):Nat):Int) !=(((List.length p3):Nat):Int))
 (d p0 p1 a false)
 (∃ o:Nat,ydq a0 a1 a2 a3 a4 a5
 (fun p q r vi vj vk vl vm=>(d p q r true))
 (fun s t u v=>(d s t u v))
 o p0 p1 a p3 a (((List.length a):Nat):Int) (0:Int))))
 (fun w x y z=>(g w x y (!z))))))
 (fun e h i A=>(cbr A
 (K false (0:Int))
 (jn (fun (j:Ls→Ls→Ls→Prop) =>
 (lt (IntKind.u8.wrap (BitVec.ofInt IntKind.u8.bits p2&&&BitVec.ofInt IntKind.u8.bits (8:Int)).toNat) (fun B =>
 (cbr (B !=(0:Int))
 (jn (fun (k:Ls→Ls→Ls→Int→Prop) =>
 (jn (fun (l:Ls→Ls→Ls→Ls→Int→Prop) =>
 (∃ C:Nat,yk8 a0 a1 a2 a3 a4 a5
 (fun D E F vn vo vp=>(k D E F (0:Int)))
 (fun G H I J=>(k G H I J))
 (fun L M N O vq vr vs=>(l L M N O (0:Int)))
 (fun Q R S T U=>(l Q R S T U))
 C e h i (((List.length e):Nat):Int) (0:Int)))
 (fun b V W X m=>(cbr (m !=(0:Int))
 (K false m)
 (asr (decide ((List.length b)=List.length b)&&decide ((List.length b)=List.length b))
 (∃ f:Nat,yhm a0 a1 a2 a3 a4 a5
 (fun vt vu vv vw vx vy vz vA=>(K true (0:Int)))
 (fun vB vC vD vE Y Z=>(K Y Z))
 f b V W X p2 p3 (0:Int)))))))
 (fun va vb vc n=>(cbr (n !=(0:Int))
 (K false n)
 (j va vb vc))))
 (j e h i)))))
 (fun vd ve vf=>(∃ f:Nat,ycO a0 a1 a2 a3 a4 a5
 (fun vF vG vH vI vJ vK vL=>(K true (0:Int)))
 (fun vM vN vO vg vh=>(K vg vh))
 f vd ve vf p2 p3 (0:Int))))))))))
def yeg:yk7:=yjI yaR yaG yaj yaJ yaW yaD
def yzg:Sg:=⟨(lC vD (lC (vA pt7) (lC pt41 lN))),Bool→Int→Prop,fun K=>(fun r0 r1=>K (.tup [(.bool r0),(.int .i64 r1)]))⟩
def ytJ (Q:Qx):Ls→Ls→Ls→Ls→Ls→Int→Int→Bool→Prop:=(fun l0 l1 l2 l3 l4 i5 i6 b7=>Q (.exit 0) [(1,.v (.data l3)),(2,.v (.fn (.func ybn) [] [])),(15,.v (.data l4)),(16,.v (.int .i64 i5)),(17,.v (.int .i64 i6)),(18,.v (.bool b7))] [⟨false,false,4,([(.agg [(.data l0),(.data l1),(.data l2),.nils])]:Ls)⟩])
def ytK (Q:Qx):Ls→Ls→Ls→Bool→Prop:=(fun l0 l1 l2 b3=>Q .ret [(6,.v (.bool b3))] [⟨false,false,4,([(.agg [(.data l0),(.data l1),(.data l2),.nils])]:Ls)⟩])
def ytL (Q:Qx):Ls→Ls→Ls→Int→Int→Bool→Prop:=(fun l0 l1 l2 i3 i4 b5=>Q (.exit 0) [(0,.v (.ptr 0 1 0 0)),(12,.v (.int .i64 i3)),(13,.v (.int .i64 i4)),(14,.v (.bool b5))] [⟨false,false,4,([(.agg [(.data l0),(.data l1),(.data l2),.nils])]:Ls)⟩])
def ytM (Q:Qx):Ls→Ls→Ls→Int→Prop:=(fun l0 l1 l2 i3=>Q .ret [(2,.v (.int .i64 i3))] [⟨false,false,4,([(.agg [(.data l0),(.data l1),(.data l2),.nils])]:Ls)⟩])
def yk9 (Q:Qx):Ls→Ls→Ls→Ls→Int→Int→Bool→Prop:=(fun l0 l1 l2 l3 i6 i7 b8=>Q (.exit 0) [(0,.v (.ptr 0 1 0 0)),(12,.v (.int .i64 i6)),(13,.v (.int .i64 i7)),(14,.v (.bool b8))] [⟨false,false,4,([(.agg [(.data l1),(.data l2),(.data l3),(.own 1 0 (List.length l0) (List.length l0) none)])]:Ls)⟩,⟨false,true,2,l0⟩])
def yla (Q:Qx):Ls→Ls→Ls→Ls→Int→Prop:=(fun l0 l1 l2 l3 i6=>Q .ret [(2,.v (.int .i64 i6))] [⟨false,false,4,([(.agg [(.data l1),(.data l2),(.data l3),(.own 1 0 (List.length l0) (List.length l0) none)])]:Ls)⟩,⟨false,true,2,l0⟩])
def ytN (Q:Qx):Ls→Ls→Ls→Int→Ls→Int→Bool→Prop:=(fun l0 l1 l2 i3 l4 i5 b6=>Q (.exit 0) [(5,.box (.agg [(.int .u8 i3),(.data l4)])),(8,.v (.ptr 0 1 0 0)),(46,.v (.int .i64 i5)),(47,.v (.bool b6))] [⟨false,false,4,([(.agg [(.data l0),(.data l1),(.data l2),.nils])]:Ls)⟩])
def ytO (Q:Qx):Ls→Ls→Ls→Bool→Int→Prop:=(fun l0 l1 l2 b3 i4=>Q .ret [(6,.v (.bool b3)),(7,.v (.int .i64 i4))] [⟨false,false,4,([(.agg [(.data l0),(.data l1),(.data l2),.nils])]:Ls)⟩])
def ytP (Q:Qx):Ls→Ls→Ls→Ls→Int→Ls→Int→Bool→Prop:=(fun l0 l1 l2 l3 i6 l7 i8 b9=>Q (.exit 0) [(5,.box (.agg [(.int .u8 i6),(.data l7)])),(8,.v (.ptr 0 1 0 0)),(46,.v (.int .i64 i8)),(47,.v (.bool b9))] [⟨false,false,4,([(.agg [(.data l1),(.data l2),(.data l3),(.own 1 0 (List.length l0) (List.length l0) none)])]:Ls)⟩,⟨false,true,2,l0⟩])
def ytQ (Q:Qx):Ls→Ls→Ls→Ls→Bool→Int→Prop:=(fun l0 l1 l2 l3 b6 i7=>Q .ret [(6,.v (.bool b6)),(7,.v (.int .i64 i7))] [⟨false,false,4,([(.agg [(.data l1),(.data l2),(.data l3),(.own 1 0 (List.length l0) (List.length l0) none)])]:Ls)⟩,⟨false,true,2,l0⟩])
def ylN (a0:yaY) (a1:yad) (a2:yaE) (a3:yac) (a4:yai) (a5:yaC) (Q:Qx):List St:=[⟨(pS pt37 (fV 1 vD (fV 2 (vF ybn lN lN) (fV 15 vD pt29))) fN),ydq a0 a1 a2 a3 a4 a5 (ytJ Q) (ytK Q)⟩]
def ylO (a0:yaY) (a1:yad) (a2:yaE) (a3:yac) (a4:yai) (a5:yaC) (Q:Qx):List St:=[⟨(pS pt37 pt38 fN),yk8 a0 a1 a2 a3 a4 a5 (ytL Q) (ytM Q) (yk9 Q) (yla Q)⟩,⟨(pS pt40 pt38 fN),fun n l1 l2 l3 l0 i6 i7=>yhl a0 a1 a2 a3 a4 a5 (yk9 Q) (yla Q) n l0 l1 l2 l3 i6 i7⟩]
def pt43:Pat Frm:=fX 5 pt41 (fV 8 pt17 (fV 46 pt0 fN))
def ylP (a0:yaY) (a1:yad) (a2:yaE) (a3:yac) (a4:yai) (a5:yaC) (Q:Qx):List St:=[⟨(pS pt37 pt43 fN),ycO a0 a1 a2 a3 a4 a5 (ytN Q) (ytO Q)⟩,⟨(pS pt40 pt43 fN),fun n l1 l2 l3 l0 i6 l7 i8=>yhm a0 a1 a2 a3 a4 a5 (ytP Q) (ytQ Q) n l0 l1 l2 l3 i6 l7 i8⟩]
def yfE (a0:yaY) (a1:yad) (a2:yaE) (a3:yac) (a4:yai) (a5:yaC):LP:=lpS [(8009400,ylN a0 a1 a2 a3 a4 a5),(20643600,ylO a0 a1 a2 a3 a4 a5),(47320500,ylP a0 a1 a2 a3 a4 a5)]
def yg4 (a0:yaY) (a1:yad) (a2:yaE) (a3:yac) (a4:yai) (a5:yaC):SE:=⟨(E ef0),yeW [(ybr,yK5.pw a0),(ybn,ycu.pw a1),(ydu,yCC.pw a2),(ycW,yjd.pw a3),(yeA,yj5.pw a4),(ybS,yps.pw a5)],yeX [(yfb,ygt)],yfE a0 a1 a2 a3 a4 a5,fun _=>none⟩
def yo5 (a0:yaY) (a1:yad) (a2:yaE) (a3:yac) (a4:yai) (a5:yaC):SE:=⟨(E ef0),yeW [(ybr,yK5.pw a0),(ybn,ycu.pw a1),(ydu,yCC.pw a2),(ycW,yjd.pw a3),(yeA,yj5.pw a4),(ybS,yps.pw a5)],yeX [(yfb,ygt),(ycc,ycd),(yha,yhb)],yfE a0 a1 a2 a3 a4 a5,fun _=>none⟩
theorem yiN:SEOk (Uni (E ef0)) (yg4 yaR yaG yaj yaJ yaW yaD):=yaz (Sub.uni _) ⟨(ygf ef0 ycV),(ydn ef0 ycV),(yd1 ef0 ycV),(yee ef0 ycV),(yfu ef0 ycV),ydi,trivial⟩ ⟨⟨by kernel_rfl,by kernel_rfl,rfl,fun az=>yaB (by kernel_rfl) az,ycV.num _ (by kernel_rfl),by kernel_rfl,(yak (by kernel_rfl))⟩,trivial⟩ ycV.ok
theorem yrC (a0 a1 a2 a3 a4 a5):ybV (yg4 a0 a1 a2 a3 a4 a5) 10 a ywZ false (ylN a0 a1 a2 a3 a4 a5):=fun _=>⟨fun _=>by kernel_rfl,fun _ _=>by kernel_rfl,trivial⟩
theorem yrD:LpT (Uni (E ef0)) (yfE yaR yaG yaj yaJ yaW yaD) [] 8009400 (.loop 8009400 ywZ):=fun _ _ _=>yrX.st (Sub.uni _) (yaK (yiN) 10) (YOk.no _ _) (yak (by kernel_rfl)) (yrC _ _ _ _ _ _ _)
theorem yrE (a0 a1 a2 a3 a4 a5):ybV (yg4 a0 a1 a2 a3 a4 a5) 10 a yiy false (ylO a0 a1 a2 a3 a4 a5):=fun _=>⟨fun _=>by kernel_rfl,fun _ _=>by kernel_rfl,fun _=>by kernel_rfl,fun _ _=>by kernel_rfl,trivial⟩
theorem yrF:LpT (Uni (E ef0)) (yfE yaR yaG yaj yaJ yaW yaD) [] 20643600 (.loop 20643600 yiy):=fun _ _ _=>yrX.st (Sub.uni _) (yaK (yiN) 10) (YOk.no _ _) (yak (by kernel_rfl)) (yrE _ _ _ _ _ _ _)
theorem yrG (a0 a1 a2 a3 a4 a5):ybV (yg4 a0 a1 a2 a3 a4 a5) 10 a ytf false (ylP a0 a1 a2 a3 a4 a5):=fun _=>⟨fun _=>by kernel_rfl,fun _ _=>by kernel_rfl,fun _=>by kernel_rfl,fun _ _=>by kernel_rfl,trivial⟩
theorem yrH:LpT (Uni (E ef0)) (yfE yaR yaG yaj yaJ yaW yaD) [] 47320500 (.loop 47320500 ytf):=fun _ _ _=>yrX.st (Sub.uni _) (yaK (yiN) 10) (YOk.no _ _) (yak (by kernel_rfl)) (yrG _ _ _ _ _ _ _)
theorem yxD:SEOk (Uni (E ef0)) (yo5 yaR yaG yaj yaJ yaW yaD):=yaz (Sub.uni _) ⟨(ygf ef0 ycV),(ydn ef0 ycV),(yd1 ef0 ycV),(yee ef0 ycV),(yfu ef0 ycV),ydi,trivial⟩ ⟨⟨by kernel_rfl,by kernel_rfl,rfl,fun az=>yaB (by kernel_rfl) az,ycV.num _ (by kernel_rfl),by kernel_rfl,(yak (by kernel_rfl))⟩,⟨by kernel_rfl,by kernel_rfl,rfl,fun az=>yaB (by kernel_rfl) az,ycV.num _ (by kernel_rfl),by kernel_rfl,(ya1 (l:=[(8009400,.loop 8009400 ywZ)]) ⟨yrD,trivial⟩ (by kernel_rfl))⟩,⟨by kernel_rfl,by kernel_rfl,rfl,fun az=>yaB (by kernel_rfl) az,ycV.num _ (by kernel_rfl),by kernel_rfl,(ya1 (l:=[(20643600,.loop 20643600 yiy)]) ⟨yrF,trivial⟩ (by kernel_rfl))⟩,trivial⟩ ycV.ok
theorem yzh (a0 a1 a2 a3 a4 a5):EqW (yo5 a0 a1 a2 a3 a4 a5) 11 ypN yzg (yjI a0 a1 a2 a3 a4 a5):=fun _ _=>by kernel_rfl
theorem yo6:OkF (E ef0) (yzg.pw yeg) yhM:=okU ycV (yzh _ _ _ _ _ _) (yxD) ypG.flat (ya1 (l:=[(47320500,.loop 47320500 ytf)]) ⟨yrH,trivial⟩ (by kernel_rfl))
set_option linter.unusedVariables false
theorem yzi (p0:Ls) (p1:Ls) (r0:Int) (h:∀ K:Int→Prop,K r0→ydy p0 p1 K) (K:Int→Prop):ydy p0 p1 K=K r0 :=
 propext ⟨fun k=>detC (yqu [] ybq) (az:=[(.data p0),(.agg [(.data p1)])]) (x:=(.int .i64 r0)) (fun K' k'=>h (fun r0=>K' (.int .i64 r0)) k') (K:=fun x=>match x with | (.int .i64 r0)=>K r0 | _=>False) k,h K⟩
theorem yzj (p0:Ls) (p1:Ls) (r0:Ls) (r1:Int) (h:∀ K:Ls→Int→Prop,K r0 r1→yaR p0 p1 K) (K:Ls→Int→Prop):yaR p0 p1 K=K r0 r1 :=
 propext ⟨fun k=>detC (ygf [] ybq) (az:=[(.data p0),(.agg [(.data p1)])]) (x:=(.tup [(.data r0),(.int .i64 r1)])) (fun K' k'=>h (fun r0 r1=>K' (.tup [(.data r0),(.int .i64 r1)])) k') (K:=fun x=>match x with | (.tup [(.data r0),(.int .i64 r1)])=>K r0 r1 | _=>False) k,h K⟩
theorem yvE (p0:Int) (p1:Int) (p2:Int) (p3:Int) (p4:Ls) (r0:Bool) (h:∀ K:Bool→Prop,K r0→ycm p0 p1 p2 p3 p4 K) (K:Bool→Prop):ycm p0 p1 p2 p3 p4 K=K r0 :=
 propext ⟨fun k=>detC (yiL [] ybq) (az:=[(.agg [(.int .i64 p0),(.int .i64 p1),(.int .i64 p2),(.int .i64 p3)]),(.eptr [(.data p4)] 0 0)]) (x:=(.bool r0)) (fun K' k'=>h (fun r0=>K' (.bool r0)) k') (K:=fun x=>match x with | (.bool r0)=>K r0 | _=>False) k,h K⟩
theorem yzk (p0:Ls) (p1:Ls) (r0:Bool) (h:∀ K:Bool→Prop,K r0→yav p0 p1 K) (K:Bool→Prop):yav p0 p1 K=K r0 :=
 propext ⟨fun k=>detC (yk5 [] ybq) (az:=[(.data p0),(.data p1)]) (x:=(.bool r0)) (fun K' k'=>h (fun r0=>K' (.bool r0)) k') (K:=fun x=>match x with | (.bool r0)=>K r0 | _=>False) k,h K⟩
theorem yrI (p0:Ls) (p1:Ls) (p2:Ls) (p3:Ls) (r0:Bool) (h:∀ K:Bool→Prop,K r0→yag p0 p1 p2 p3 K) (K:Bool→Prop):yag p0 p1 p2 p3 K=K r0 :=
 propext ⟨fun k=>detC yhk (az:=[(.eptr [(.agg [(.data p0),(.data p1),(.data p2),(.data p3)])] 0 0)]) (x:=(.bool r0)) (fun K' k'=>h (fun r0=>K' (.bool r0)) k') (K:=fun x=>match x with | (.bool r0)=>K r0 | _=>False) k,h K⟩
theorem yoB (p0:Ls) (p1:Ls) (p2:Ls) (p3:Ls) (p4:Int) (r0:Int) (r1:Int) (r2:Bool) (h:∀ K:Int→Int→Bool→Prop,K r0 r1 r2→yaD p0 p1 p2 p3 p4 K) (K:Int→Int→Bool→Prop):yaD p0 p1 p2 p3 p4 K=K r0 r1 r2 :=
 propext ⟨fun k=>detC ydi (az:=[(.eptr [(.agg [(.data p0),(.data p1),(.data p2),(.data p3)])] 0 0),(.int .u8 p4)]) (x:=(.tup [(.int .i64 r0),(.int .i64 r1),(.bool r2)])) (fun K' k'=>h (fun r0 r1 r2=>K' (.tup [(.int .i64 r0),(.int .i64 r1),(.bool r2)])) k') (K:=fun x=>match x with | (.tup [(.int .i64 r0),(.int .i64 r1),(.bool r2)])=>K r0 r1 r2 | _=>False) k,h K⟩
theorem yBm (p0:Ls) (p1:Ls) (r0:Int) (r1:Ls) (r2:Int) (h:∀ K:Int→Ls→Int→Prop,K r0 r1 r2→yfy p0 p1 K) (K:Int→Ls→Int→Prop):yfy p0 p1 K=K r0 r1 r2 :=
 propext ⟨fun k=>detC ysq (az:=[(.data p0),(.agg [(.data p1)])]) (x:=(.tup [(.agg [(.int .u8 r0),(.data r1)]),(.int .i64 r2)])) (fun K' k'=>h (fun r0 r1 r2=>K' (.tup [(.agg [(.int .u8 r0),(.data r1)]),(.int .i64 r2)])) k') (K:=fun x=>match x with | (.tup [(.agg [(.int .u8 r0),(.data r1)]),(.int .i64 r2)])=>K r0 r1 r2 | _=>False) k,h K⟩
theorem yxE (p0:Ls) (p1:Ls) (p2:Int) (p3:Ls) (r0:Bool) (r1:Int) (h:∀ K:Bool→Int→Prop,K r0 r1→yeg p0 p1 p2 p3 K) (K:Bool→Int→Prop):yeg p0 p1 p2 p3 K=K r0 r1 :=
 propext ⟨fun k=>detC yo6 (az:=[(.data p0),(.agg [(.data p1)]),(.agg [(.int .u8 p2),(.data p3)])]) (x:=(.tup [(.bool r0),(.int .i64 r1)])) (fun K' k'=>h (fun r0 r1=>K' (.tup [(.bool r0),(.int .i64 r1)])) k') (K:=fun x=>match x with | (.tup [(.bool r0),(.int .i64 r1)])=>K r0 r1 | _=>False) k,h K⟩
def yqE (p0:Int) (K:Int→Int→Prop):Prop :=
 (K p0 (1:Int))
def ya4:yac:=yqE
def yBn (e:Es):SE:=sE (E e) [] lp0
theorem yBo (e:Es):EqW (yBn e) 6 yCd yjd yqE:=fun _ _=>by kernel_rfl
theorem ygh (e:Es) (he:EG e):OkF (E e) (yjd.pw ya4) ydV:=okU he (yBo e) (yaz (Sub.uni _) trivial trivial he.ok) ypG.flat (yak (by kernel_rfl))
def yh1 (a0:yat) (p0 p1 p2 p3:Int) (K:Int→Prop):Prop :=
 (a0 p0 p1 p2 p3 (fun a b =>
 (K a)))
def ybk:yaf:=yh1 ya3
def yBp (e:Es) (a0:yat):SE:=sE (E e) [(ydc,yEB.pw a0)] lp0
theorem yBq (e:Es) (a0):EqW (yBp e a0) 6 yCg ykM (yh1 a0):=fun _ _=>by kernel_rfl
theorem yh2 (e:Es) (he:EG e):OkF (E e) (ykM.pw ybk) yeQ:=okU he (yBq e _) (yaz (Sub.uni _) ⟨(ydw e he),trivial⟩ trivial he.ok) ypG.flat (yak (by kernel_rfl))
abbrev yax:Type:=Ls→Ls→Int→Int→Int→Int→Int→Int→Int→(Ls→Ls→Int→Int→Int→Prop)→Prop
def ymQ (a0:yqe) (a1:yac) (a2:yhu) (a3:yai) (a4:yhu) (p0 p1:Ls) (p2 p3 p4 p5 p6 p7 p8:Int) (K:Ls→Ls→Int→Int→Int→Prop):Prop :=
 (a0 p0 p1 p2 (fun l b =>
 (a1 l (fun m n =>
 (jn (fun (c:Ls→Ls→Int→Int→Int→Prop) =>
 (jn (fun (a:Bool→Prop) =>
 (cbr (b ==(0:Int))
 (cbr (decide (p3>(0:Int)))
 (a true)
 (asr (decide ((0:Int)<(((List.length p0):Nat):Int)))
 (lt (List.getD p0 0 .nils) (fun d =>
 (asr (conf zK d)
 (a1 (yaa (yab d 0)) (fun o p =>
 (a (!((p5 == o)&&((p6 == p)&&true)))))))))))
 (a false)))
 (fun q=>(cbr q
 (a2 p0 p1 p2 p3 p4 p5 p6 (fun r s t u v =>
 (c r s v t u)))
 (c p0 p1 b m n)))))
 (fun e f g h i=>(jn (fun (j:Int→Int→Int→Prop) =>
 (cbr (g ==(0:Int))
 (a3 h i p7 p8 (fun w x y =>
 (j y w x)))
 (j g h i)))
 (fun k z A=>(cbr (k !=(0:Int))
 (K e f (0:Int) (0:Int) k)
 (a4 e f p2 p3 p4 z A (fun B C D E F =>
 (K B C D E F))))))))))))
def yaP:yax:=ymQ yjp ya4 yeK ybC yeS
def yC1:Sg:=⟨(lC pt21 (lC pt0 (lC pt6 pt10))),Ls→Ls→Int→Int→Int→Prop,fun K=>(fun r0 r1 r2 r3 r4=>K (.tup [(.agg [(.data r0),(.data r1)]),(.agg [(.int .i64 r2),(.int .i64 r3)]),(.int .i64 r4)]))⟩
def yC2 (e:Es) (a0:yqe) (a1:yac) (a2:yhu) (a3:yai) (a4:yhu):SE:=sE (E e) [(ylC,yER.pw a0),(ydV,yjd.pw a1),(ylD,yvh.pw a2),(yfj,yj5.pw a3),(ynT,yvh.pw a4)] lp0
theorem yC3 (e:Es) (a0 a1 a2 a3 a4):EqW (yC2 e a0 a1 a2 a3 a4) 6 yEx yC1 (ymQ a0 a1 a2 a3 a4):=fun _ _=>by kernel_rfl
theorem ymR (e:Es) (he:EG e):OkF (E e) (yC1.pw yaP) ygr:=okU he (yC3 e _ _ _ _ _) (yaz (Sub.uni _) ⟨(yEU e he),(ygh e he),(yvi e he),(ygv e he),(yyl e he),trivial⟩ trivial he.ok) ypG.flat (yak (by kernel_rfl))
abbrev yao:Type:=Int→Int→Int→Int→Int→Int→(Int→Prop)→Prop
def yiO (a0:yaf) (p0 p1 p2 p3 p4 p5:Int) (K:Int→Prop):Prop :=
 (a0 p1 p2 p4 p5 (fun a =>
 (K a)))
def yaH:yao:=yiO ybk
def yxF:Sg:=⟨(lC (vA (lC pt0 pt5)) (lC (vA (lC pt0 pt5)) lN)),Int→Prop,fun K=>(fun r0=>K (.int .i64 r0))⟩
def yxG (e:Es) (a0:yaf):SE:=sE (E e) [(yeQ,ykM.pw a0)] lp0
theorem yxH (e:Es) (a0):EqW (yxG e a0) 6 yyD yxF (yiO a0):=fun _ _=>by kernel_rfl
theorem yiP (e:Es) (he:EG e):OkF (E e) (yxF.pw yaH) ybp:=okU he (yxH e _) (yaz (Sub.uni _) ⟨(yh2 e he),trivial⟩ trivial he.ok) ypG.flat (yak (by kernel_rfl))
abbrev ybQ:Type:=Ls→Ls→Ls→Int→Int→Int→Int→(Ls→Ls→Int→Int→Ls→Ls→Int→Prop)→Prop
def ybR (a0:yal) (a1:yat) (a2:yac) (a3:yaf) (a4:yam) (a5:yax) (a6:yah) (a7:yao) (a8:yar) (b:Ls→Ls→Ls→Int→Int→Int→Int→Int→Int→Bool→Int→Bool→Prop):Nat→Ls→Ls→Ls→Int→Int→Int→Int→Int→Int→Bool→Int→Prop
 | 0,_,_,_,_,_,_,_,_,_,_,_=>False
 | f+1,l0,l1,l2,i3,i4,i5,i6,i7,i8,b9,i10 =>
 (cbr (decide (i10<(((List.length l0):Nat):Int)))
 (jn (fun (c:Bool→Prop) =>
 (cbr b9
 (lt (IntKind.i64.wrap (i10-(1:Int))) (fun a =>
 (asr (decide ((0:Int)≤a))
 (asr (decide (a<(((List.length l0):Nat):Int)))
 (lt (List.getD l0 (a.toNat) .nils) (fun d =>
 (asr (conf zI d)
 (asr (decide ((0:Int)≤i10))
 (asr (decide (i10<(((List.length l0):Nat):Int)))
 (lt (List.getD l0 (i10.toNat) .nils) (fun e =>
 (asr (conf zI e)
 (c (decide ((yaa d)<(yaa e))))))))))))))))
 (c false)))
 (fun g=>(lt (IntKind.i64.wrap (i10+(1:Int))) (fun h =>
 (ybR a0 a1 a2 a3 a4 a5 a6 a7 a8 b f l0 l1 l2 i3 i4 i5 i6 i7 i8 g h)))))
 (b l0 l1 l2 i3 i4 i5 i6 i7 i8 b9 i10 false))
def ybs (a0:yal) (a1:yat) (a2:yac) (a3:yaf) (a4:yam) (a5:yax) (a6:yah) (a7:yao) (a8:yar) (d:Ls→Ls→Ls→Int→Int→Int→Int→Int→Int→Int→Int→Int→Ls→Int→Int→Bool→Prop) (e:Ls→Int→Int→Int→Prop):Nat→Ls→Ls→Ls→Int→Int→Int→Int→Int→Int→Int→Int→Int→Ls→Int→Int→Prop
 | 0,_,_,_,_,_,_,_,_,_,_,_,_,_,_,_=>False
 | g+1,l0,l1,l2,i3,i4,i5,i6,i7,i8,i9,i10,i11,l14,i15,i16 =>
 (cbr (decide (i16<i15))
 (asr (decide ((0:Int)≤i16))
 (asr (decide (i16<(((List.length l14):Nat):Int)))
 (lt (List.getD l14 (i16.toNat) .nils) (fun a =>
 (asr (conf zI a)
 (a5 l1 l2 (yaa a) i3 i4 i5 i6 i10 i11 (fun h i b c f =>
 (cbr (f !=(0:Int))
 (e l0 (0:Int) (0:Int) f)
 (asr (decide ((List.length l0)=(List.length l0)))
 (asr (decide ((0+(List.length l0))≤(List.length l0)))
 (asr (!(decide (((0+(List.length l0))+1)≤(List.length l0))))
 (asr (decide ((List.length l0)=(List.length l0)))
 (asr (decide ((((List.length l0)+1)+64)*(24+1)≤room))
 (lt (IntKind.i64.wrap (i16+(1:Int))) (fun j =>
 (asr (decide ((List.length (l0++([(.agg [(.int .i64 (yaa a)),(.int .i64 b),(.int .i64 c)])]:Ls)))=List.length (l0++([(.agg [(.int .i64 (yaa a)),(.int .i64 b),(.int .i64 c)])]:Ls)))&&decide ((List.length (l0++([(.agg [(.int .i64 (yaa a)),(.int .i64 b),(.int .i64 c)])]:Ls)))=List.length (l0++([(.agg [(.int .i64 (yaa a)),(.int .i64 b),(.int .i64 c)])]:Ls))))
 (ybs a0 a1 a2 a3 a4 a5 a6 a7 a8 d e g (l0++([(.agg [(.int .i64 (yaa a)),(.int .i64 b),(.int .i64 c)])]:Ls)) h i i3 i4 i5 i6 i7 i8 i9 i10 i11 l14 i15 j)))))))))))))))))
 (d l0 l1 l2 i3 i4 i5 i6 i7 i8 i9 i10 i11 l14 i15 i16 false))
def yeL (a0:yal) (a1:yat) (a2:yac) (a3:yaf) (a4:yam) (a5:yax) (a6:yah) (a7:yao) (a8:yar) (e:Ls→Ls→Int→Int→Int→Int→Int→Int→Int→Int→Int→Ls→Int→Int→Bool→Prop) (f:Int→Int→Int→Prop) (g:Ls→Ls→Ls→Int→Int→Int→Int→Int→Int→Int→Int→Int→Ls→Int→Int→Bool→Prop) (h:Ls→Int→Int→Int→Prop):Nat→Ls→Ls→Int→Int→Int→Int→Int→Int→Int→Int→Int→Ls→Int→Int→Prop
 | 0,_,_,_,_,_,_,_,_,_,_,_,_,_,_=>False
 | i+1,l0,l1,i2,i3,i4,i5,i6,i7,i8,i9,i10,l11,i12,i13 =>
 (cbr (decide (i13<i12))
 (asr (decide ((0:Int)≤i13))
 (asr (decide (i13<(((List.length l11):Nat):Int)))
 (lt (List.getD l11 (i13.toNat) .nils) (fun a =>
 (asr (conf zI a)
 (a5 l0 l1 (yaa a) i2 i3 i4 i5 i9 i10 (fun j k b c d =>
 (cbr (d !=(0:Int))
 (f (0:Int) (0:Int) d)
 (lt (IntKind.i64.wrap (i13+(1:Int))) (fun l =>
 (asr (decide (1=List.length ([(.agg [(.int .i64 (yaa a)),(.int .i64 b),(.int .i64 c)])]:Ls))&&decide (1=List.length ([(.agg [(.int .i64 (yaa a)),(.int .i64 b),(.int .i64 c)])]:Ls)))
 (ybs a0 a1 a2 a3 a4 a5 a6 a7 a8 g h i ([(.agg [(.int .i64 (yaa a)),(.int .i64 b),(.int .i64 c)])]:Ls) j k i2 i3 i4 i5 i6 i7 i8 i9 i10 l11 i12 l))))))))))))
 (e l0 l1 i2 i3 i4 i5 i6 i7 i8 i9 i10 l11 i12 i13 false))
def ylQ (a0:yal) (a1:yat) (a2:yac) (a3:yaf) (a4:yam) (a5:yax) (a6:yah) (a7:yao) (a8:yar) (a:Int→Int→Int→Int→Bool→Prop):Nat→Int→Int→Int→Int→Prop
 | 0,_,_,_,_=>False
 | b+1,i0,i1,i2,i3 =>
 (cbr (decide (i3≤i0))
 False
 (a i0 i1 i2 i3 false))
def yfZ (a0:yal) (a1:yat) (a2:yac) (a3:yaf) (a4:yam) (a5:yax) (a6:yah) (a7:yao) (a8:yar) (a:Ls→Int→Int→Int→Int→Bool→Prop):Nat→Ls→Int→Int→Int→Int→Prop
 | 0,_,_,_,_,_=>False
 | b+1,l0,i3,i4,i5,i6 =>
 (cbr (decide (i6≤i3))
 False
 (a l0 i3 i4 i5 i6 false))
def ylR (a0:yal) (a1:yat) (a2:yac) (a3:yaf) (a4:yam) (a5:yax) (a6:yah) (a7:yao) (a8:yar) (a:Int→Int→Int→Int→Bool→Prop):Nat→Int→Int→Int→Int→Prop
 | 0,_,_,_,_=>False
 | b+1,i0,i1,i2,i3 =>
 (cbr (decide (i3>i0))
 False
 (a i0 i1 i2 i3 false))
def ybD (a0:yal) (a1:yat) (a2:yac) (a3:yaf) (a4:yam) (a5:yax) (a6:yah) (a7:yao) (a8:yar) (h:Ls→Int→Int→Int→Int→Bool→Prop):Nat→Ls→Int→Int→Int→Int→Prop
 | 0,_,_,_,_,_=>False
 | k+1,l0,i3,i4,i5,i6 =>
 (jn (fun (j:Bool→Prop) =>
 (cbr (decide (i6>i3))
 (asr (decide ((0:Int)≤i6))
 (asr (decide (i6<(((List.length l0):Nat):Int)))
 (asr (decide ((List.length l0)=(List.length l0)))
 (asr (decide ((0+(i6.toNat))<(List.length l0)))
 (lt (List.getD l0 (0+(i6.toNat)) .nils) (fun d =>
 (asr (conf (.agg [.i .i64,.i .i64,.i .i64]) d)
 (lt (IntKind.i64.wrap (i6-(1:Int))) (fun e =>
 (asr (decide ((0:Int)≤e))
 (asr (decide (e<(((List.length l0):Nat):Int)))
 (asr (decide ((List.length l0)=(List.length l0)))
 (asr (decide ((0+(e.toNat))<(List.length l0)))
 (lt (List.getD l0 (0+(e.toNat)) .nils) (fun f =>
 (asr (conf (.agg [.i .i64,.i .i64,.i .i64]) f)
 (a7 (yaa (yab d 0)) (yaa (yab d 1)) (yaa (yab d 2)) (yaa (yab f 0)) (yaa (yab f 1)) (yaa (yab f 2)) (fun l =>
 (j (decide (l<(0:Int))))))))))))))))))))))
 (j false)))
 (fun m=>(cbr m
 (lt (IntKind.i64.wrap (i6-(1:Int))) (fun c =>
 (lt (IntKind.i64.wrap (i6-(1:Int))) (fun g =>
 (asr (decide ((0:Int)≤g))
 (asr (decide (g<(((List.length l0):Nat):Int)))
 (asr (decide ((List.length l0)=(List.length l0)))
 (asr (decide ((0+(g.toNat))<(List.length l0)))
 (lt (List.getD l0 (0+(g.toNat)) .nils) (fun a =>
 (asr (conf (.agg [.i .i64,.i .i64,.i .i64]) a)
 (asr (decide ((0:Int)≤i6))
 (asr (decide (i6<(((List.length l0):Nat):Int)))
 (asr (decide ((List.length l0)=(List.length l0)))
 (asr (decide ((0+(i6.toNat))<(List.length l0)))
 (lt (List.getD l0 (0+(i6.toNat)) .nils) (fun b =>
 (asr (conf (.agg [.i .i64,.i .i64,.i .i64]) b)
 (asr (decide ((0:Int)≤i6))
 (asr (decide (i6<(((List.length l0):Nat):Int)))
 (asr (decide ((List.length l0)=(List.length l0)))
 (asr (decide ((0+(i6.toNat))<(List.length l0)))
 (lt (List.getD l0 (0+(i6.toNat)) .nils) (fun n =>
 (asr (conf (.agg [.i .i64,.i .i64,.i .i64]) n)
 (asr (decide ((0:Int)≤c))
 (asr (decide (c<(((List.length l0):Nat):Int)))
 (asr (decide ((List.length (List.set l0 (0+(i6.toNat)) (.agg [(.int .i64 (yaa (yab a 0))),(.int .i64 (yaa (yab a 1))),(.int .i64 (yaa (yab a 2)))])))=(List.length l0)))
 (asr (decide ((0+(c.toNat))<(List.length (List.set l0 (0+(i6.toNat)) (.agg [(.int .i64 (yaa (yab a 0))),(.int .i64 (yaa (yab a 1))),(.int .i64 (yaa (yab a 2)))])))))
 (lt (List.getD (List.set l0 (0+(i6.toNat)) (.agg [(.int .i64 (yaa (yab a 0))),(.int .i64 (yaa (yab a 1))),(.int .i64 (yaa (yab a 2)))])) (0+(c.toNat)) .nils) (fun o =>
 (asr (conf (.agg [.i .i64,.i .i64,.i .i64]) o)
 (lt (IntKind.i64.wrap (i6-(1:Int))) (fun p =>
 (asr (decide ((List.length l0)=List.length (List.set (List.set l0 (0+(i6.toNat)) (.agg [(.int .i64 (yaa (yab a 0))),(.int .i64 (yaa (yab a 1))),(.int .i64 (yaa (yab a 2)))])) (0+(c.toNat)) (.agg [(.int .i64 (yaa (yab b 0))),(.int .i64 (yaa (yab b 1))),(.int .i64 (yaa (yab b 2)))])))&&decide ((List.length l0)=List.length (List.set (List.set l0 (0+(i6.toNat)) (.agg [(.int .i64 (yaa (yab a 0))),(.int .i64 (yaa (yab a 1))),(.int .i64 (yaa (yab a 2)))])) (0+(c.toNat)) (.agg [(.int .i64 (yaa (yab b 0))),(.int .i64 (yaa (yab b 1))),(.int .i64 (yaa (yab b 2)))]))))
 (ybD a0 a1 a2 a3 a4 a5 a6 a7 a8 h k (List.set (List.set l0 (0+(i6.toNat)) (.agg [(.int .i64 (yaa (yab a 0))),(.int .i64 (yaa (yab a 1))),(.int .i64 (yaa (yab a 2)))])) (0+(c.toNat)) (.agg [(.int .i64 (yaa (yab b 0))),(.int .i64 (yaa (yab b 1))),(.int .i64 (yaa (yab b 2)))])) i3 i4 i5 p))))))))))))))))))))))))))))))))))))
 (h l0 i3 i4 i5 i6 false))))
def ylS (a0:yal) (a1:yat) (a2:yac) (a3:yaf) (a4:yam) (a5:yax) (a6:yah) (a7:yao) (a8:yar) (a:Int→Int→Bool→Prop):Nat→Int→Int→Prop
 | 0,_,_=>False
 | b+1,i0,i1 =>
 (cbr (decide (i1<i0))
 False
 (a i0 i1 false))
def yf0 (a0:yal) (a1:yat) (a2:yac) (a3:yaf) (a4:yam) (a5:yax) (a6:yah) (a7:yao) (a8:yar) (a:Ls→Nat→Nat→Int→Int→Bool→Prop):Nat→Ls→Nat→Nat→Int→Int→Prop
 | 0,_,_,_,_,_=>False
 | b+1,l0,n1,n2,i3,i4 =>
 (cbr (decide (i4<i3))
 False
 (a l0 n1 n2 i3 i4 false))
def ylT (a0:yal) (a1:yat) (a2:yac) (a3:yaf) (a4:yam) (a5:yax) (a6:yah) (a7:yao) (a8:yar) (a:Ls→Ls→Int→Int→Int→Int→Int→Bool→Prop):Nat→Ls→Ls→Int→Int→Int→Int→Int→Prop
 | 0,_,_,_,_,_,_,_=>False
 | b+1,l0,l1,i2,i3,i4,i5,i6 =>
 (cbr (decide (i6<i5))
 False
 (a l0 l1 i2 i3 i4 i5 i6 false))
def ybt (a0:yal) (a1:yat) (a2:yac) (a3:yaf) (a4:yam) (a5:yax) (a6:yah) (a7:yao) (a8:yar) (d:Ls→Ls→Ls→Ls→Ls→Int→Int→Int→Nat→Nat→Nat→Nat→Int→Int→Bool→Prop):Nat→Ls→Ls→Ls→Ls→Ls→Int→Int→Int→Nat→Nat→Nat→Nat→Int→Int→Prop
 | 0,_,_,_,_,_,_,_,_,_,_,_,_,_,_=>False
 | f+1,l0,l1,l2,l3,l4,i5,i6,i11,n12,n13,n14,n15,i16,i17 =>
 (cbr (decide (i17<i16))
 (jn (fun (e:Ls→Ls→Prop) =>
 (asr (decide ((0:Int)≤i17))
 (asr (decide (i17<((n14:Nat):Int)))
 (asr (decide ((List.length l0)=n15))
 (asr (decide ((0+(i17.toNat))<(List.length l0)))
 (lt (List.getD l0 (0+(i17.toNat)) .nils) (fun c =>
 (asr (conf (.agg [.i .i64,.i .i64,.i .i64]) c)
 (cbr (decide (i17<i11))
 (asr (decide ((List.length l1)=(List.length l1)))
 (asr (decide ((0+(List.length l1))≤(List.length l1)))
 (asr (!(decide (((0+(List.length l1))+1)≤(List.length l1))))
 (asr (decide ((List.length l1)=(List.length l1)))
 (asr (decide ((((List.length l1)+1)+64)*(8+1)≤room))
 (e (l1++([(.int .i64 (yaa (yab c 0)))]:Ls)) l2))))))
 (asr (decide ((List.length l2)=(List.length l2)))
 (asr (decide ((0+(List.length l2))≤(List.length l2)))
 (asr (!(decide (((0+(List.length l2))+1)≤(List.length l2))))
 (asr (decide ((List.length l2)=(List.length l2)))
 (asr (decide ((((List.length l2)+1)+64)*(8+1)≤room))
 (e l1 (l2++([(.int .i64 (yaa (yab c 0)))]:Ls)))))))))))))))))
 (fun a b=>(lt (IntKind.i64.wrap (i17+(1:Int))) (fun g =>
 (asr (decide ((List.length a)=List.length a)&&decide ((List.length a)=List.length a)&&decide ((List.length b)=List.length b)&&decide ((List.length b)=List.length b))
 (ybt a0 a1 a2 a3 a4 a5 a6 a7 a8 d f l0 a b l3 l4 i5 i6 i11 n12 n13 n14 n15 i16 g))))))
 (d l0 l1 l2 l3 l4 i5 i6 i11 n12 n13 n14 n15 i16 i17 false))
def ybu (a0:yal) (a1:yat) (a2:yac) (a3:yaf) (a4:yam) (a5:yax) (a6:yah) (a7:yao) (a8:yar) (b:Ls→Ls→Ls→Ls→Int→Int→Int→Nat→Nat→Nat→Nat→Int→Int→Bool→Prop) (c:Ls→Ls→Ls→Ls→Ls→Int→Int→Int→Nat→Nat→Nat→Nat→Int→Int→Bool→Prop):Nat→Ls→Ls→Ls→Ls→Int→Int→Int→Nat→Nat→Nat→Nat→Int→Int→Prop
 | 0,_,_,_,_,_,_,_,_,_,_,_,_,_=>False
 | d+1,l0,l1,l2,l3,i4,i5,i8,n9,n10,n11,n12,i13,i14 =>
 (cbr (decide (i14<i13))
 (asr (decide ((0:Int)≤i14))
 (asr (decide (i14<((n11:Nat):Int)))
 (asr (decide ((List.length l0)=n12))
 (asr (decide ((0+(i14.toNat))<(List.length l0)))
 (lt (List.getD l0 (0+(i14.toNat)) .nils) (fun a =>
 (asr (conf (.agg [.i .i64,.i .i64,.i .i64]) a)
 (cbr (decide (i14<i8))
 (asr (decide ((List.length l1)=(List.length l1)))
 (asr (decide ((0+(List.length l1))≤(List.length l1)))
 (asr (!(decide (((0+(List.length l1))+1)≤(List.length l1))))
 (asr (decide ((List.length l1)=(List.length l1)))
 (asr (decide ((((List.length l1)+1)+64)*(8+1)≤room))
 (lt (IntKind.i64.wrap (i14+(1:Int))) (fun e =>
 (asr (decide ((List.length (l1++([(.int .i64 (yaa (yab a 0)))]:Ls)))=List.length (l1++([(.int .i64 (yaa (yab a 0)))]:Ls)))&&decide ((List.length (l1++([(.int .i64 (yaa (yab a 0)))]:Ls)))=List.length (l1++([(.int .i64 (yaa (yab a 0)))]:Ls))))
 (ybu a0 a1 a2 a3 a4 a5 a6 a7 a8 b c d l0 (l1++([(.int .i64 (yaa (yab a 0)))]:Ls)) l2 l3 i4 i5 i8 n9 n10 n11 n12 i13 e)))))))))
 (lt (IntKind.i64.wrap (i14+(1:Int))) (fun f =>
 (asr (decide ((List.length l1)=List.length l1)&&decide ((List.length l1)=List.length l1)&&decide (1=List.length ([(.int .i64 (yaa (yab a 0)))]:Ls))&&decide (1=List.length ([(.int .i64 (yaa (yab a 0)))]:Ls)))
 (ybt a0 a1 a2 a3 a4 a5 a6 a7 a8 c d l0 l1 ([(.int .i64 (yaa (yab a 0)))]:Ls) l2 l3 i4 i5 i8 n9 n10 n11 n12 i13 f))))))))))))
 (b l0 l1 l2 l3 i4 i5 i8 n9 n10 n11 n12 i13 i14 false))
def yh3 (a0:yal) (a1:yat) (a2:yac) (a3:yaf) (a4:yam) (a5:yax) (a6:yah) (a7:yao) (a8:yar) (d:Ls→Ls→Ls→Ls→Ls→Int→Int→Int→Nat→Nat→Nat→Nat→Int→Int→Bool→Prop):Nat→Ls→Ls→Ls→Ls→Ls→Int→Int→Int→Nat→Nat→Nat→Nat→Int→Int→Prop
 | 0,_,_,_,_,_,_,_,_,_,_,_,_,_,_=>False
 | f+1,l0,l1,l2,l3,l4,i5,i6,i11,n12,n13,n14,n15,i16,i17 =>
 (cbr (decide (i17<i16))
 (jn (fun (e:Ls→Ls→Prop) =>
 (asr (decide ((0:Int)≤i17))
 (asr (decide (i17<((n14:Nat):Int)))
 (asr (decide ((List.length l0)=n15))
 (asr (decide ((0+(i17.toNat))<(List.length l0)))
 (lt (List.getD l0 (0+(i17.toNat)) .nils) (fun c =>
 (asr (conf (.agg [.i .i64,.i .i64,.i .i64]) c)
 (cbr (decide (i17<i11))
 (asr (decide ((List.length l2)=(List.length l2)))
 (asr (decide ((0+(List.length l2))≤(List.length l2)))
 (asr (!(decide (((0+(List.length l2))+1)≤(List.length l2))))
 (asr (decide ((List.length l2)=(List.length l2)))
 (asr (decide ((((List.length l2)+1)+64)*(8+1)≤room))
 (e l1 (l2++([(.int .i64 (yaa (yab c 0)))]:Ls))))))))
 (asr (decide ((List.length l1)=(List.length l1)))
 (asr (decide ((0+(List.length l1))≤(List.length l1)))
 (asr (!(decide (((0+(List.length l1))+1)≤(List.length l1))))
 (asr (decide ((List.length l1)=(List.length l1)))
 (asr (decide ((((List.length l1)+1)+64)*(8+1)≤room))
 (e (l1++([(.int .i64 (yaa (yab c 0)))]:Ls)) l2)))))))))))))))
 (fun a b=>(lt (IntKind.i64.wrap (i17+(1:Int))) (fun g =>
 (asr (decide ((List.length b)=List.length b)&&decide ((List.length b)=List.length b)&&decide ((List.length a)=List.length a)&&decide ((List.length a)=List.length a))
 (yh3 a0 a1 a2 a3 a4 a5 a6 a7 a8 d f l0 a b l3 l4 i5 i6 i11 n12 n13 n14 n15 i16 g))))))
 (d l0 l1 l2 l3 l4 i5 i6 i11 n12 n13 n14 n15 i16 i17 false))
def yh4 (a0:yal) (a1:yat) (a2:yac) (a3:yaf) (a4:yam) (a5:yax) (a6:yah) (a7:yao) (a8:yar) (b:Ls→Ls→Ls→Ls→Int→Int→Int→Nat→Nat→Nat→Nat→Int→Int→Bool→Prop) (c:Ls→Ls→Ls→Ls→Ls→Int→Int→Int→Nat→Nat→Nat→Nat→Int→Int→Bool→Prop):Nat→Ls→Ls→Ls→Ls→Int→Int→Int→Nat→Nat→Nat→Nat→Int→Int→Prop
 | 0,_,_,_,_,_,_,_,_,_,_,_,_,_=>False
 | d+1,l0,l1,l2,l3,i4,i5,i8,n9,n10,n11,n12,i13,i14 =>
 (cbr (decide (i14<i13))
 (asr (decide ((0:Int)≤i14))
 (asr (decide (i14<((n11:Nat):Int)))
 (asr (decide ((List.length l0)=n12))
 (asr (decide ((0+(i14.toNat))<(List.length l0)))
 (lt (List.getD l0 (0+(i14.toNat)) .nils) (fun a =>
 (asr (conf (.agg [.i .i64,.i .i64,.i .i64]) a)
 (cbr (decide (i14<i8))
 (lt (IntKind.i64.wrap (i14+(1:Int))) (fun e =>
 (asr (decide (1=List.length ([(.int .i64 (yaa (yab a 0)))]:Ls))&&decide (1=List.length ([(.int .i64 (yaa (yab a 0)))]:Ls))&&decide ((List.length l1)=List.length l1)&&decide ((List.length l1)=List.length l1))
 (yh3 a0 a1 a2 a3 a4 a5 a6 a7 a8 c d l0 l1 ([(.int .i64 (yaa (yab a 0)))]:Ls) l2 l3 i4 i5 i8 n9 n10 n11 n12 i13 e))))
 (asr (decide ((List.length l1)=(List.length l1)))
 (asr (decide ((0+(List.length l1))≤(List.length l1)))
 (asr (!(decide (((0+(List.length l1))+1)≤(List.length l1))))
 (asr (decide ((List.length l1)=(List.length l1)))
 (asr (decide ((((List.length l1)+1)+64)*(8+1)≤room))
 (lt (IntKind.i64.wrap (i14+(1:Int))) (fun f =>
 (asr (decide ((List.length (l1++([(.int .i64 (yaa (yab a 0)))]:Ls)))=List.length (l1++([(.int .i64 (yaa (yab a 0)))]:Ls)))&&decide ((List.length (l1++([(.int .i64 (yaa (yab a 0)))]:Ls)))=List.length (l1++([(.int .i64 (yaa (yab a 0)))]:Ls))))
 (yh4 a0 a1 a2 a3 a4 a5 a6 a7 a8 b c d l0 (l1++([(.int .i64 (yaa (yab a 0)))]:Ls)) l2 l3 i4 i5 i8 n9 n10 n11 n12 i13 f)))))))))))))))))
 (b l0 l1 l2 l3 i4 i5 i8 n9 n10 n11 n12 i13 i14 false))
def yeM (a0:yal) (a1:yat) (a2:yac) (a3:yaf) (a4:yam) (a5:yax) (a6:yah) (a7:yao) (a8:yar) (c:Ls→Ls→Ls→Int→Int→Int→Nat→Nat→Nat→Nat→Int→Int→Bool→Prop) (d:Ls→Ls→Ls→Ls→Int→Int→Int→Nat→Nat→Nat→Nat→Int→Int→Bool→Prop) (e:Ls→Ls→Ls→Ls→Ls→Int→Int→Int→Nat→Nat→Nat→Nat→Int→Int→Bool→Prop) (f:Ls→Ls→Ls→Ls→Int→Int→Int→Nat→Nat→Nat→Nat→Int→Int→Bool→Prop) (g:Ls→Ls→Ls→Ls→Ls→Int→Int→Int→Nat→Nat→Nat→Nat→Int→Int→Bool→Prop):Nat→Ls→Ls→Ls→Int→Int→Int→Nat→Nat→Nat→Nat→Int→Int→Prop
 | 0,_,_,_,_,_,_,_,_,_,_,_,_=>False
 | b+1,l0,l1,l2,i3,i4,i5,n6,n7,n8,n9,i10,i11 =>
 (cbr (decide (i11<i10))
 (asr (decide ((0:Int)≤i11))
 (asr (decide (i11<((n8:Nat):Int)))
 (asr (decide ((List.length l0)=n9))
 (asr (decide ((0+(i11.toNat))<(List.length l0)))
 (lt (List.getD l0 (0+(i11.toNat)) .nils) (fun a =>
 (asr (conf (.agg [.i .i64,.i .i64,.i .i64]) a)
 (cbr (decide (i11<i5))
 (lt (IntKind.i64.wrap (i11+(1:Int))) (fun h =>
 (asr (decide (1=List.length ([(.int .i64 (yaa (yab a 0)))]:Ls))&&decide (1=List.length ([(.int .i64 (yaa (yab a 0)))]:Ls)))
 (ybu a0 a1 a2 a3 a4 a5 a6 a7 a8 d e b l0 ([(.int .i64 (yaa (yab a 0)))]:Ls) l1 l2 i3 i4 i5 n6 n7 n8 n9 i10 h))))
 (lt (IntKind.i64.wrap (i11+(1:Int))) (fun j =>
 (asr (decide (1=List.length ([(.int .i64 (yaa (yab a 0)))]:Ls))&&decide (1=List.length ([(.int .i64 (yaa (yab a 0)))]:Ls)))
 (yh4 a0 a1 a2 a3 a4 a5 a6 a7 a8 f g b l0 ([(.int .i64 (yaa (yab a 0)))]:Ls) l1 l2 i3 i4 i5 n6 n7 n8 n9 i10 j))))))))))))
 (c l0 l1 l2 i3 i4 i5 n6 n7 n8 n9 i10 i11 false))
def ylU (a0:yal) (a1:yat) (a2:yac) (a3:yaf) (a4:yam) (a5:yax) (a6:yah) (a7:yao) (a8:yar) (a:Int→Int→Int→Int→Bool→Prop):Nat→Int→Int→Int→Int→Prop
 | 0,_,_,_,_=>False
 | b+1,i0,i1,i2,i3 =>
 (cbr (decide (i3>i0))
 False
 (a i0 i1 i2 i3 false))
def ylV (a0:yal) (a1:yat) (a2:yac) (a3:yaf) (a4:yam) (a5:yax) (a6:yah) (a7:yao) (a8:yar) (a:Ls→Int→Int→Int→Int→Bool→Prop):Nat→Ls→Int→Int→Int→Int→Prop
 | 0,_,_,_,_,_=>False
 | b+1,l0,i1,i2,i3,i4 =>
 (cbr (decide (i4>i1))
 False
 (a l0 i1 i2 i3 i4 false))
def yh5 (a0:yal) (a1:yat) (a2:yac) (a3:yaf) (a4:yam) (a5:yax) (a6:yah) (a7:yao) (a8:yar) (e:Ls→Ls→Nat→Nat→Int→Int→Int→Int→Bool→Prop):Nat→Ls→Ls→Nat→Nat→Int→Int→Int→Int→Prop
 | 0,_,_,_,_,_,_,_,_=>False
 | j+1,l0,l1,n2,n3,i4,i5,i6,i7 =>
 (jn (fun (f:Bool→Prop) =>
 (cbr (decide (i7>i4))
 (asr (decide ((0:Int)≤i7))
 (asr (decide (i7<((n2:Nat):Int)))
 (asr (decide ((List.length l1)=n3))
 (asr (decide ((0+(i7.toNat))<(List.length l1)))
 (lt (List.getD l1 (0+(i7.toNat)) .nils) (fun g =>
 (asr (conf zI g)
 (lt (IntKind.i64.wrap (i7-(1:Int))) (fun c =>
 (asr (decide ((0:Int)≤c))
 (asr (decide (c<((n2:Nat):Int)))
 (asr (decide ((List.length l1)=n3))
 (asr (decide ((0+(c.toNat))<(List.length l1)))
 (lt (List.getD l1 (0+(c.toNat)) .nils) (fun h =>
 (asr (conf zI h)
 (a8 (yaa g) (yaa h) (fun k =>
 (f k)))))))))))))))))))
 (f false)))
 (fun l=>(cbr l
 (lt (IntKind.i64.wrap (i7-(1:Int))) (fun a =>
 (lt (IntKind.i64.wrap (i7-(1:Int))) (fun d =>
 (asr (decide ((0:Int)≤d))
 (asr (decide (d<((n2:Nat):Int)))
 (asr (decide ((List.length l1)=n3))
 (asr (decide ((0+(d.toNat))<(List.length l1)))
 (lt (List.getD l1 (0+(d.toNat)) .nils) (fun b =>
 (asr (conf zI b)
 (asr (decide ((0:Int)≤i7))
 (asr (decide (i7<((n2:Nat):Int)))
 (asr (decide ((List.length l1)=n3))
 (asr (decide ((0+(i7.toNat))<(List.length l1)))
 (lt (List.getD l1 (0+(i7.toNat)) .nils) (fun i =>
 (asr (conf zI i)
 (asr (decide ((0:Int)≤i7))
 (asr (decide (i7<((n2:Nat):Int)))
 (asr (decide ((List.length l1)=n3))
 (asr (decide ((0+(i7.toNat))<(List.length l1)))
 (lt (List.getD l1 (0+(i7.toNat)) .nils) (fun m =>
 (asr (conf zI m)
 (asr (decide ((0:Int)≤a))
 (asr (decide (a<((n2:Nat):Int)))
 (asr (decide ((List.length (List.set l1 (0+(i7.toNat)) (.int .i64 (yaa b))))=n3))
 (asr (decide ((0+(a.toNat))<(List.length (List.set l1 (0+(i7.toNat)) (.int .i64 (yaa b))))))
 (lt (List.getD (List.set l1 (0+(i7.toNat)) (.int .i64 (yaa b))) (0+(a.toNat)) .nils) (fun n =>
 (asr (conf zI n)
 (lt (IntKind.i64.wrap (i7-(1:Int))) (fun o =>
 (yh5 a0 a1 a2 a3 a4 a5 a6 a7 a8 e j l0 (List.set (List.set l1 (0+(i7.toNat)) (.int .i64 (yaa b))) (0+(a.toNat)) (.int .i64 (yaa i))) n2 n3 i4 i5 i6 o)))))))))))))))))))))))))))))))))))
 (e l0 l1 n2 n3 i4 i5 i6 i7 false))))
def ylW (a0:yal) (a1:yat) (a2:yac) (a3:yaf) (a4:yam) (a5:yax) (a6:yah) (a7:yao) (a8:yar) (a:Ls→Ls→Int→Int→Int→Int→Bool→Prop):Nat→Ls→Ls→Int→Int→Int→Int→Prop
 | 0,_,_,_,_,_,_=>False
 | b+1,l0,l1,i2,i3,i4,i5 =>
 (cbr (decide (i5>i2))
 False
 (a l0 l1 i2 i3 i4 i5 false))
def ybE (a0:yal) (a1:yat) (a2:yac) (a3:yaf) (a4:yam) (a5:yax) (a6:yah) (a7:yao) (a8:yar) (e:Ls→Ls→Ls→Nat→Nat→Int→Int→Int→Int→Bool→Prop):Nat→Ls→Ls→Ls→Nat→Nat→Int→Int→Int→Int→Prop
 | 0,_,_,_,_,_,_,_,_,_=>False
 | j+1,l0,l1,l2,n3,n4,i5,i6,i7,i8 =>
 (jn (fun (f:Bool→Prop) =>
 (cbr (decide (i8>i5))
 (asr (decide ((0:Int)≤i8))
 (asr (decide (i8<((n3:Nat):Int)))
 (asr (decide ((List.length l1)=n4))
 (asr (decide ((0+(i8.toNat))<(List.length l1)))
 (lt (List.getD l1 (0+(i8.toNat)) .nils) (fun g =>
 (asr (conf zI g)
 (lt (IntKind.i64.wrap (i8-(1:Int))) (fun c =>
 (asr (decide ((0:Int)≤c))
 (asr (decide (c<((n3:Nat):Int)))
 (asr (decide ((List.length l1)=n4))
 (asr (decide ((0+(c.toNat))<(List.length l1)))
 (lt (List.getD l1 (0+(c.toNat)) .nils) (fun h =>
 (asr (conf zI h)
 (a8 (yaa g) (yaa h) (fun k =>
 (f k)))))))))))))))))))
 (f false)))
 (fun l=>(cbr l
 (lt (IntKind.i64.wrap (i8-(1:Int))) (fun a =>
 (lt (IntKind.i64.wrap (i8-(1:Int))) (fun d =>
 (asr (decide ((0:Int)≤d))
 (asr (decide (d<((n3:Nat):Int)))
 (asr (decide ((List.length l1)=n4))
 (asr (decide ((0+(d.toNat))<(List.length l1)))
 (lt (List.getD l1 (0+(d.toNat)) .nils) (fun b =>
 (asr (conf zI b)
 (asr (decide ((0:Int)≤i8))
 (asr (decide (i8<((n3:Nat):Int)))
 (asr (decide ((List.length l1)=n4))
 (asr (decide ((0+(i8.toNat))<(List.length l1)))
 (lt (List.getD l1 (0+(i8.toNat)) .nils) (fun i =>
 (asr (conf zI i)
 (asr (decide ((0:Int)≤i8))
 (asr (decide (i8<((n3:Nat):Int)))
 (asr (decide ((List.length l1)=n4))
 (asr (decide ((0+(i8.toNat))<(List.length l1)))
 (lt (List.getD l1 (0+(i8.toNat)) .nils) (fun m =>
 (asr (conf zI m)
 (asr (decide ((0:Int)≤a))
 (asr (decide (a<((n3:Nat):Int)))
 (asr (decide ((List.length (List.set l1 (0+(i8.toNat)) (.int .i64 (yaa b))))=n4))
 (asr (decide ((0+(a.toNat))<(List.length (List.set l1 (0+(i8.toNat)) (.int .i64 (yaa b))))))
 (lt (List.getD (List.set l1 (0+(i8.toNat)) (.int .i64 (yaa b))) (0+(a.toNat)) .nils) (fun n =>
 (asr (conf zI n)
 (lt (IntKind.i64.wrap (i8-(1:Int))) (fun o =>
 (ybE a0 a1 a2 a3 a4 a5 a6 a7 a8 e j l0 (List.set (List.set l1 (0+(i8.toNat)) (.int .i64 (yaa b))) (0+(a.toNat)) (.int .i64 (yaa i))) l2 n3 n4 i5 i6 i7 o)))))))))))))))))))))))))))))))))))
 (e l0 l1 l2 n3 n4 i5 i6 i7 i8 false))))
def ybF (a0:yal) (a1:yat) (a2:yac) (a3:yaf) (a4:yam) (a5:yax) (a6:yah) (a7:yao) (a8:yar) (e:Ls→Ls→Ls→Nat→Nat→Int→Int→Int→Int→Bool→Prop):Nat→Ls→Ls→Ls→Nat→Nat→Int→Int→Int→Int→Prop
 | 0,_,_,_,_,_,_,_,_,_=>False
 | j+1,l0,l1,l2,n3,n4,i5,i6,i7,i8 =>
 (jn (fun (f:Bool→Prop) =>
 (cbr (decide (i8>i5))
 (asr (decide ((0:Int)≤i8))
 (asr (decide (i8<((n3:Nat):Int)))
 (asr (decide ((List.length l2)=n4))
 (asr (decide ((0+(i8.toNat))<(List.length l2)))
 (lt (List.getD l2 (0+(i8.toNat)) .nils) (fun g =>
 (asr (conf zI g)
 (lt (IntKind.i64.wrap (i8-(1:Int))) (fun c =>
 (asr (decide ((0:Int)≤c))
 (asr (decide (c<((n3:Nat):Int)))
 (asr (decide ((List.length l2)=n4))
 (asr (decide ((0+(c.toNat))<(List.length l2)))
 (lt (List.getD l2 (0+(c.toNat)) .nils) (fun h =>
 (asr (conf zI h)
 (a8 (yaa g) (yaa h) (fun k =>
 (f k)))))))))))))))))))
 (f false)))
 (fun l=>(cbr l
 (lt (IntKind.i64.wrap (i8-(1:Int))) (fun a =>
 (lt (IntKind.i64.wrap (i8-(1:Int))) (fun d =>
 (asr (decide ((0:Int)≤d))
 (asr (decide (d<((n3:Nat):Int)))
 (asr (decide ((List.length l2)=n4))
 (asr (decide ((0+(d.toNat))<(List.length l2)))
 (lt (List.getD l2 (0+(d.toNat)) .nils) (fun b =>
 (asr (conf zI b)
 (asr (decide ((0:Int)≤i8))
 (asr (decide (i8<((n3:Nat):Int)))
 (asr (decide ((List.length l2)=n4))
 (asr (decide ((0+(i8.toNat))<(List.length l2)))
 (lt (List.getD l2 (0+(i8.toNat)) .nils) (fun i =>
 (asr (conf zI i)
 (asr (decide ((0:Int)≤i8))
 (asr (decide (i8<((n3:Nat):Int)))
 (asr (decide ((List.length l2)=n4))
 (asr (decide ((0+(i8.toNat))<(List.length l2)))
 (lt (List.getD l2 (0+(i8.toNat)) .nils) (fun m =>
 (asr (conf zI m)
 (asr (decide ((0:Int)≤a))
 (asr (decide (a<((n3:Nat):Int)))
 (asr (decide ((List.length (List.set l2 (0+(i8.toNat)) (.int .i64 (yaa b))))=n4))
 (asr (decide ((0+(a.toNat))<(List.length (List.set l2 (0+(i8.toNat)) (.int .i64 (yaa b))))))
 (lt (List.getD (List.set l2 (0+(i8.toNat)) (.int .i64 (yaa b))) (0+(a.toNat)) .nils) (fun n =>
 (asr (conf zI n)
 (lt (IntKind.i64.wrap (i8-(1:Int))) (fun o =>
 (ybF a0 a1 a2 a3 a4 a5 a6 a7 a8 e j l0 l1 (List.set (List.set l2 (0+(i8.toNat)) (.int .i64 (yaa b))) (0+(a.toNat)) (.int .i64 (yaa i))) n3 n4 i5 i6 i7 o)))))))))))))))))))))))))))))))))))
 (e l0 l1 l2 n3 n4 i5 i6 i7 i8 false))))
def yh6 (a0:yal) (a1:yat) (a2:yac) (a3:yaf) (a4:yam) (a5:yax) (a6:yah) (a7:yao) (a8:yar) (a:Int→Int→Int→Bool→Prop):Nat→Int→Int→Int→Prop
 | 0,_,_,_=>False
 | b+1,i0,i1,i2 =>
 (cbr (decide (i2<i1))
 (∃ c:Nat,ylR a0 a1 a2 a3 a4 a5 a6 a7 a8
 (fun d e f h i=>(lt (IntKind.i64.wrap (f+(1:Int))) (fun g =>
 (yh6 a0 a1 a2 a3 a4 a5 a6 a7 a8 a b d e g))))
 c i0 i1 i2 i2)
 (a i0 i1 i2 false))
def ybv (a0:yal) (a1:yat) (a2:yac) (a3:yaf) (a4:yam) (a5:yax) (a6:yah) (a7:yao) (a8:yar) (b:Ls→Int→Int→Int→Bool→Prop):Nat→Ls→Int→Int→Int→Prop
 | 0,_,_,_,_=>False
 | c+1,l0,i3,i4,i5 =>
 (cbr (decide (i5<i4))
 (asr (decide ((List.length l0)=List.length l0)&&decide ((List.length l0)=List.length l0))
 (∃ d:Nat,ybD a0 a1 a2 a3 a4 a5 a6 a7 a8
 (fun a e f g i j=>(lt (IntKind.i64.wrap (g+(1:Int))) (fun h =>
 (asr (decide ((List.length a)=List.length a)&&decide ((List.length a)=List.length a))
 (ybv a0 a1 a2 a3 a4 a5 a6 a7 a8 b c a e f h)))))
 d l0 i3 i4 i5 i5))
 (b l0 i3 i4 i5 false))
def yh7 (a0:yal) (a1:yat) (a2:yac) (a3:yaf) (a4:yam) (a5:yax) (a6:yah) (a7:yao) (a8:yar) (a:Int→Int→Int→Bool→Prop):Nat→Int→Int→Int→Prop
 | 0,_,_,_=>False
 | b+1,i0,i1,i2 =>
 (cbr (decide (i2<i1))
 (∃ c:Nat,ylU a0 a1 a2 a3 a4 a5 a6 a7 a8
 (fun d e f h i=>(lt (IntKind.i64.wrap (f+(1:Int))) (fun g =>
 (yh7 a0 a1 a2 a3 a4 a5 a6 a7 a8 a b d e g))))
 c i0 i1 i2 i2)
 (a i0 i1 i2 false))
def yh8 (a0:yal) (a1:yat) (a2:yac) (a3:yaf) (a4:yam) (a5:yax) (a6:yah) (a7:yao) (a8:yar) (a:Ls→Int→Int→Int→Bool→Prop):Nat→Ls→Int→Int→Int→Prop
 | 0,_,_,_,_=>False
 | b+1,l0,i1,i2,i3 =>
 (cbr (decide (i3<i2))
 (∃ c:Nat,ylV a0 a1 a2 a3 a4 a5 a6 a7 a8
 (fun d e f g i j=>(lt (IntKind.i64.wrap (g+(1:Int))) (fun h =>
 (yh8 a0 a1 a2 a3 a4 a5 a6 a7 a8 a b d e f h))))
 c l0 i1 i2 i3 i3)
 (a l0 i1 i2 i3 false))
def yh9 (a0:yal) (a1:yat) (a2:yac) (a3:yaf) (a4:yam) (a5:yax) (a6:yah) (a7:yao) (a8:yar) (a:Ls→Ls→Nat→Nat→Int→Int→Int→Bool→Prop):Nat→Ls→Ls→Nat→Nat→Int→Int→Int→Prop
 | 0,_,_,_,_,_,_,_=>False
 | b+1,l0,l1,n2,n3,i4,i5,i6 =>
 (cbr (decide (i6<i5))
 (∃ c:Nat,yh5 a0 a1 a2 a3 a4 a5 a6 a7 a8
 (fun d e f g h i j l m=>(lt (IntKind.i64.wrap (j+(1:Int))) (fun k =>
 (yh9 a0 a1 a2 a3 a4 a5 a6 a7 a8 a b d e f g h i k))))
 c l0 l1 n2 n3 i4 i5 i6 i6)
 (a l0 l1 n2 n3 i4 i5 i6 false))
def yia (a0:yal) (a1:yat) (a2:yac) (a3:yaf) (a4:yam) (a5:yax) (a6:yah) (a7:yao) (a8:yar) (a:Ls→Ls→Int→Int→Int→Bool→Prop):Nat→Ls→Ls→Int→Int→Int→Prop
 | 0,_,_,_,_,_=>False
 | b+1,l0,l1,i2,i3,i4 =>
 (cbr (decide (i4<i3))
 (∃ c:Nat,ylW a0 a1 a2 a3 a4 a5 a6 a7 a8
 (fun d e f g h j k=>(lt (IntKind.i64.wrap (h+(1:Int))) (fun i =>
 (yia a0 a1 a2 a3 a4 a5 a6 a7 a8 a b d e f g i))))
 c l0 l1 i2 i3 i4 i4)
 (a l0 l1 i2 i3 i4 false))
def ybG (a0:yal) (a1:yat) (a2:yac) (a3:yaf) (a4:yam) (a5:yax) (a6:yah) (a7:yao) (a8:yar) (a:Ls→Ls→Ls→Nat→Nat→Int→Int→Int→Bool→Prop):Nat→Ls→Ls→Ls→Nat→Nat→Int→Int→Int→Prop
 | 0,_,_,_,_,_,_,_,_=>False
 | b+1,l0,l1,l2,n3,n4,i5,i6,i7 =>
 (cbr (decide (i7<i6))
 (∃ c:Nat,ybE a0 a1 a2 a3 a4 a5 a6 a7 a8
 (fun d e f g h i j k m n=>(lt (IntKind.i64.wrap (k+(1:Int))) (fun l =>
 (ybG a0 a1 a2 a3 a4 a5 a6 a7 a8 a b d e f g h i j l))))
 c l0 l1 l2 n3 n4 i5 i6 i7 i7)
 (a l0 l1 l2 n3 n4 i5 i6 i7 false))
def ybH (a0:yal) (a1:yat) (a2:yac) (a3:yaf) (a4:yam) (a5:yax) (a6:yah) (a7:yao) (a8:yar) (a:Ls→Ls→Ls→Nat→Nat→Int→Int→Int→Bool→Prop):Nat→Ls→Ls→Ls→Nat→Nat→Int→Int→Int→Prop
 | 0,_,_,_,_,_,_,_,_=>False
 | b+1,l0,l1,l2,n3,n4,i5,i6,i7 =>
 (cbr (decide (i7<i6))
 (∃ c:Nat,ybF a0 a1 a2 a3 a4 a5 a6 a7 a8
 (fun d e f g h i j k m n=>(lt (IntKind.i64.wrap (k+(1:Int))) (fun l =>
 (ybH a0 a1 a2 a3 a4 a5 a6 a7 a8 a b d e f g h i j l))))
 c l0 l1 l2 n3 n4 i5 i6 i7 i7)
 (a l0 l1 l2 n3 n4 i5 i6 i7 false))
def yib (a0:yal) (a1:yat) (a2:yac) (a3:yaf) (a4:yam) (a5:yax) (a6:yah) (a7:yao) (a8:yar) (a:Prop):Nat→Int→Int→Int→Bool→Bool→Prop
 | 0,_,_,_,_,_=>False
 | e+1,i0,i1,i2,b3,b4 =>
 (lt (IntKind.i64.wrap (i1-i0)) (fun b =>
 (cbr (decide (b≤(12:Int)))
 (lt (IntKind.i64.wrap (i0+(1:Int))) (fun c =>
 (∃ d:Nat,yh7 a0 a1 a2 a3 a4 a5 a6 a7 a8
 (fun f g h i=>a)
 d i0 i1 c)))
 False)))
def yic (a0:yal) (a1:yat) (a2:yac) (a3:yaf) (a4:yam) (a5:yax) (a6:yah) (a7:yao) (a8:yar) (a:Ls→Prop):Nat→Ls→Int→Int→Int→Bool→Bool→Prop
 | 0,_,_,_,_,_,_=>False
 | f+1,l0,i1,i2,i3,b4,b5 =>
 (lt (IntKind.i64.wrap (i2-i1)) (fun b =>
 (cbr (decide (b≤(12:Int)))
 (lt (IntKind.i64.wrap (i1+(1:Int))) (fun c =>
 (∃ d:Nat,yh8 a0 a1 a2 a3 a4 a5 a6 a7 a8
 (fun e g h i j=>(a e))
 d l0 i1 i2 c)))
 False)))
def yid (a0:yal) (a1:yat) (a2:yac) (a3:yaf) (a4:yam) (a5:yax) (a6:yah) (a7:yao) (a8:yar) (a:Ls→Ls→Prop):Nat→Ls→Ls→Nat→Nat→Int→Int→Int→Bool→Bool→Prop
 | 0,_,_,_,_,_,_,_,_,_=>False
 | g+1,l0,l1,n2,n3,i4,i5,i6,b7,b8 =>
 (lt (IntKind.i64.wrap (i5-i4)) (fun b =>
 (cbr (decide (b≤(12:Int)))
 (lt (IntKind.i64.wrap (i4+(1:Int))) (fun c =>
 (∃ d:Nat,yh9 a0 a1 a2 a3 a4 a5 a6 a7 a8
 (fun e f h i j k l m=>(a e f))
 d l0 l1 n2 n3 i4 i5 c)))
 False)))
def yie (a0:yal) (a1:yat) (a2:yac) (a3:yaf) (a4:yam) (a5:yax) (a6:yah) (a7:yao) (a8:yar) (a:Ls→Ls→Prop):Nat→Ls→Ls→Int→Int→Int→Bool→Bool→Prop
 | 0,_,_,_,_,_,_,_=>False
 | g+1,l0,l1,i2,i3,i4,b5,b6 =>
 (lt (IntKind.i64.wrap (i3-i2)) (fun b =>
 (cbr (decide (b≤(12:Int)))
 (lt (IntKind.i64.wrap (i2+(1:Int))) (fun c =>
 (∃ d:Nat,yia a0 a1 a2 a3 a4 a5 a6 a7 a8
 (fun e f h i j k=>(a e f))
 d l0 l1 i2 i3 c)))
 False)))
def yc1 (a0:yal) (a1:yat) (a2:yac) (a3:yaf) (a4:yam) (a5:yax) (a6:yah) (a7:yao) (a8:yar) (a:Ls→Ls→Ls→Prop):Nat→Ls→Ls→Ls→Nat→Nat→Int→Int→Int→Bool→Bool→Prop
 | 0,_,_,_,_,_,_,_,_,_,_=>False
 | h+1,l0,l1,l2,n3,n4,i5,i6,i7,b8,b9 =>
 (lt (IntKind.i64.wrap (i6-i5)) (fun b =>
 (cbr (decide (b≤(12:Int)))
 (lt (IntKind.i64.wrap (i5+(1:Int))) (fun c =>
 (∃ d:Nat,ybG a0 a1 a2 a3 a4 a5 a6 a7 a8
 (fun e f g i j k l m n=>(a e f g))
 d l0 l1 l2 n3 n4 i5 i6 c)))
 False)))
def yc2 (a0:yal) (a1:yat) (a2:yac) (a3:yaf) (a4:yam) (a5:yax) (a6:yah) (a7:yao) (a8:yar) (a:Ls→Ls→Ls→Prop):Nat→Ls→Ls→Ls→Nat→Nat→Int→Int→Int→Bool→Bool→Prop
 | 0,_,_,_,_,_,_,_,_,_,_=>False
 | h+1,l0,l1,l2,n3,n4,i5,i6,i7,b8,b9 =>
 (lt (IntKind.i64.wrap (i6-i5)) (fun b =>
 (cbr (decide (b≤(12:Int)))
 (lt (IntKind.i64.wrap (i5+(1:Int))) (fun c =>
 (∃ d:Nat,ybH a0 a1 a2 a3 a4 a5 a6 a7 a8
 (fun e f g i j k l m n=>(a e f g))
 d l0 l1 l2 n3 n4 i5 i6 c)))
 False)))
end Go.Pf.Vc
