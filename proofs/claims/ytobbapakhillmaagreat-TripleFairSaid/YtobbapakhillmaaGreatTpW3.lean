/- Part 3. -/
import Derived.Test.YtobbapakhillmaaGreatTpW2
noncomputable section
namespace Go.Pf.Vc
open Go Go.Pf
set_option maxRecDepth 100000
theorem ym2 (e:Es) (he:EG e):SEOk (Uni (E e)) (yjP e):=yaE (Sub.uni _) trivial trivial he.ok
theorem yrr (e:Es):ycr (yjP e) 5 a yuo false (ylL):=fun _=>⟨fun _=>by kernel_rfl,fun _ _=>by kernel_rfl,trivial⟩
theorem yrs (e:Es) (he:EG e):LpT (Uni (E e)) (yov) [] 10434000 (.loop 10434000 yuo):=fun _ _ _=>yp8.st (Sub.uni _) (yaW (ym2 e he) 5) (YOk.no _ _) (yar (by kernel_rfl)) (yrr e _)
theorem yyi (e:Es):EqW (yjP e) 6 yqd yda yjO:=fun _ _=>by kernel_rfl
theorem yyj (e:Es) (he:EG e):OkF (E e) (yda.pw yeG) yhQ:=okU he (yyi e) (ym2 e he) yp9.flat (ybg (l:=[(10434000,.loop 10434000 yuo)]) ⟨yrs e he,trivial⟩ (by kernel_rfl))
def ydc (x0:Ls→Int→Int→Bool→Prop):Nat→Ls→Int→Int→Prop
 | 0,_,_,_=>False
 | n+1,l0,i1,i2 =>
 (cbr (decide (i2<(((List.length l0):Nat):Int)))
 (asr (decide ((0:Int)≤i2))
 (asr (decide (i2<(((List.length l0):Nat):Int)))
 (asr (conf zI (List.getD l0 (i2.toNat) .nils))
 (ydc x0 n l0 (if (yaa (List.getD l0 (i2.toNat) .nils))>i1 then (yaa (List.getD l0 (i2.toNat) .nils)) else i1) (IntKind.i64.wrap (i2+(1:Int)))))))
 (x0 l0 i1 i2 false))
def yjQ (p0:Ls) (K:Int→Prop):Prop :=
 (cbr (decide ((((List.length p0):Nat):Int)<(1:Int)))
 False
 (asr (decide ((0:Int)<(((List.length p0):Nat):Int)))
 (asr (conf zI (List.getD p0 0 .nils))
 (∃ n:Nat,ydc
 (fun _ a _ _=>(K a))
 n p0 (yaa (List.getD p0 0 .nils)) (1:Int)))))
def yeH:yas:=yjQ
def ys6 (Q:Qx):Ls→Int→Int→Bool→Prop:=(fun l0 i1 i2 b3=>Q (.exit 0) [(0,.v (.data l0)),(3,.v (.int .i64 i1)),(4,.v (.int .i64 i2)),(15,.v (.bool b3))] [])
def ylM (Q:Qx):List St:=[⟨pt12,ydc (ys6 Q)⟩]
def yow:LP:=lpS [(64079100,ylM)]
def yjR (e:Es):SE:=sE (E e) [] (yow)
theorem ym3 (e:Es) (he:EG e):SEOk (Uni (E e)) (yjR e):=yaE (Sub.uni _) trivial trivial he.ok
theorem yrt (e:Es):ycr (yjR e) 5 a yup false (ylM):=fun _=>⟨fun _=>by kernel_rfl,fun _ _=>by kernel_rfl,trivial⟩
theorem yru (e:Es) (he:EG e):LpT (Uni (E e)) (yow) [] 64079100 (.loop 64079100 yup):=fun _ _ _=>yp8.st (Sub.uni _) (yaW (ym3 e he) 5) (YOk.no _ _) (yar (by kernel_rfl)) (yrt e _)
theorem yyk (e:Es):EqW (yjR e) 6 yqe yda yjQ:=fun _ _=>by kernel_rfl
theorem yyl (e:Es) (he:EG e):OkF (E e) (yda.pw yeH) yhR:=okU he (yyk e) (ym3 e he) yp9.flat (ybg (l:=[(64079100,.loop 64079100 yup)]) ⟨yru e he,trivial⟩ (by kernel_rfl))
abbrev yaK:Type:=Int→Ls→Ls→(Int→Prop)→Prop
def yel (a0:yas) (a1:yas) (x0:Int→Prop) (x1:Int→Ls→Ls→Int→Int→Bool→Prop):Nat→Int→Ls→Ls→Int→Int→Prop
 | 0,_,_,_,_,_=>False
 | n+1,i0,l1,l2,i3,i4 =>
 (cbr (decide (i4<i3))
 (asr (decide ((0:Int)≤i4))
 (asr (decide (i4<(((List.length l1):Nat):Int)))
 (asr (conf zI (List.getD l1 (i4.toNat) .nils))
 (asr (decide ((0:Int)≤(IntKind.i64.wrap (i4+(1:Int)))))
 (asr (decide ((IntKind.i64.wrap (i4+(1:Int)))<(((List.length l1):Nat):Int)))
 (asr (conf zI (List.getD l1 ((IntKind.i64.wrap (i4+(1:Int))).toNat) .nils))
 (cbr (decide ((yaa (List.getD l1 (i4.toNat) .nils))≥(yaa (List.getD l1 ((IntKind.i64.wrap (i4+(1:Int))).toNat) .nils))))
 (x0 (8:Int))
 (yel a0 a1 x0 x1 n i0 l1 l2 i3 (IntKind.i64.wrap (i4+(1:Int)))))))))))
 (x1 i0 l1 l2 i3 i4 false))
def ynv (a0:yas) (a1:yas) (p0:Int) (p1 p2:Ls) (K:Int→Prop):Prop :=
 (cbr (decide (p0>(1000:Int)))
 (K (4:Int))
 (cbr (decide ((((List.length p1):Nat):Int)>(40:Int)))
 (K (4:Int))
 (cbr (decide (p0<(1:Int)))
 (K (8:Int))
 (cbr (decide ((((List.length p1):Nat):Int)<(2:Int)))
 (K (8:Int))
 (cbr ((((List.length p2):Nat):Int) !=(IntKind.i64.wrap ((((List.length p1):Nat):Int)-(1:Int))))
 (K (8:Int))
 (asr (decide ((0:Int)<(((List.length p1):Nat):Int)))
 (asr (conf zI (List.getD p1 0 .nils))
 (cbr ((yaa (List.getD p1 0 .nils)) !=(0:Int))
 (K (8:Int))
 (asr (decide ((0:Int)≤(IntKind.i64.wrap ((((List.length p1):Nat):Int)-(1:Int)))))
 (asr (decide ((IntKind.i64.wrap ((((List.length p1):Nat):Int)-(1:Int)))<(((List.length p1):Nat):Int)))
 (asr (conf zI (List.getD p1 ((IntKind.i64.wrap ((((List.length p1):Nat):Int)-(1:Int))).toNat) .nils))
 (cbr ((yaa (List.getD p1 ((IntKind.i64.wrap ((((List.length p1):Nat):Int)-(1:Int))).toNat) .nils)) != p0)
 (K (8:Int))
 (∃ n:Nat,yel a0 a1
 (fun b=>(K b))
 (fun _ _ a _ _ _=>(a0 a (fun c =>
 (cbr (decide (c<(0:Int)))
 (K (8:Int))
 (a1 a (fun d =>
 (cbr (decide (d>(12:Int)))
 (K (8:Int))
 (a1 a (fun e =>
 (cbr (e ==(0:Int))
 (K (8:Int))
 (K (0:Int))))))))))))
 n p0 p1 p2 (IntKind.i64.wrap ((((List.length p1):Nat):Int)-(1:Int))) (0:Int))))))))))))))
def yaU:yaK:=ynv yeG yeH
def pt13:LPt:=lC vD pt7
def pt14:VPt:=vA (lC pt0 pt13)
def pt15:LPt:=lC pt14 lN
def ytN:Sg:=⟨pt15,Int→Prop,fun K=>(fun r0=>K (.int .i64 r0))⟩
def yym (Q:Qx):Int→Prop:=(fun i0=>Q .ret [(2,.v (.int .i64 i0))] [])
def yyn (Q:Qx):Int→Ls→Ls→Int→Int→Bool→Prop:=(fun i0 l1 l2 i3 i4 b5=>Q (.exit 0) [(1,.box (.agg [(.int .i64 i0),(.data l1),(.data l2)])),(49,.v (.int .i64 i3)),(50,.v (.int .i64 i4)),(51,.v (.bool b5))] [])
def yqi (a0:yas) (a1:yas) (Q:Qx):List St:=[⟨(pS hN (fX 1 pt14 (fV 49 pt0 (fV 50 pt0 fN))) fN),yel a0 a1 (yym Q) (yyn Q)⟩]
def ytO (a0:yas) (a1:yas):LP:=lpS [(87419700,yqi a0 a1)]
def ynw (e:Es) (a0:yas) (a1:yas):SE:=sE (E e) [(yhQ,yda.pw a0),(yhR,yda.pw a1)] (ytO a0 a1)
theorem yrv (e:Es) (he:EG e):SEOk (Uni (E e)) (ynw e yeG yeH):=yaE (Sub.uni _) ⟨(yyj e he),(yyl e he),trivial⟩ trivial he.ok
theorem ywu (e:Es) (a0 a1):ycr (ynw e a0 a1) 5 a yuq false (yqi a0 a1):=fun _=>⟨fun _=>by kernel_rfl,fun _ _=>by kernel_rfl,trivial⟩
theorem ywv (e:Es) (he:EG e):LpT (Uni (E e)) (ytO yeG yeH) [] 87419700 (.loop 87419700 yuq):=fun _ _ _=>yp8.st (Sub.uni _) (yaW (yrv e he) 5) (YOk.no _ _) (yar (by kernel_rfl)) (ywu e _ _ _)
theorem yDG (e:Es) (a0 a1):EqW (ynw e a0 a1) 6 ywf ytN (ynv a0 a1):=fun _ _=>by kernel_rfl
theorem yeg (e:Es) (he:EG e):OkF (E e) (ytN.pw yaU) ydA:=okU he (yDG e _ _) (yrv e he) yp9.flat (ybg (l:=[(87419700,.loop 87419700 yuq)]) ⟨ywv e he,trivial⟩ (by kernel_rfl))
abbrev yaJ:Type:=Int→Ls→Ls→(Int→Int→Prop)→Prop
def yem (a0:yaK) (x0:Int→Ls→Ls→Int→Ls→Int→Int→Bool→Prop):Nat→Int→Ls→Ls→Int→Ls→Int→Int→Prop
 | 0,_,_,_,_,_,_,_=>False
 | n+1,i0,l1,l2,i3,l4,i5,i6 =>
 (cbr (decide (i6<i5))
 (asr (decide ((0:Int)≤i6))
 (asr (decide (i6<(((List.length l4):Nat):Int)))
 (asr (conf zI (List.getD l4 (i6.toNat) .nils))
 (asr (decide ((0:Int)≤(IntKind.i64.wrap (i6+(1:Int)))))
 (asr (decide ((IntKind.i64.wrap (i6+(1:Int)))<(((List.length l1):Nat):Int)))
 (asr (conf zI (List.getD l1 ((IntKind.i64.wrap (i6+(1:Int))).toNat) .nils))
 (asr (decide ((0:Int)≤i6))
 (asr (decide (i6<(((List.length l1):Nat):Int)))
 (asr (conf zI (List.getD l1 (i6.toNat) .nils))
 (yem a0 x0 n i0 l1 l2 (IntKind.i64.wrap (i3+(IntKind.i64.wrap ((yaa (List.getD l4 (i6.toNat) .nils))*(IntKind.i64.wrap ((yaa (List.getD l1 ((IntKind.i64.wrap (i6+(1:Int))).toNat) .nils))-(yaa (List.getD l1 (i6.toNat) .nils)))))))) l4 i5 (IntKind.i64.wrap (i6+(1:Int)))))))))))))
 (x0 i0 l1 l2 i3 l4 i5 i6 false))
def ykf (a0:yaK) (p0:Int) (p1 p2:Ls) (K:Int→Int→Prop):Prop :=
 (a0 p0 p1 p2 (fun a =>
 (cbr (a !=(0:Int))
 (K (0:Int) a)
 (∃ n:Nat,yem a0
 (fun _ _ _ b _ _ _ _=>(K b (0:Int)))
 n p0 p1 p2 (0:Int) p2 (((List.length p2):Nat):Int) (0:Int)))))
def yan:yaJ:=ykf yaU
def yDH:Sg:=⟨pt15,Int→Int→Prop,fun K=>(fun r0 r1=>K (.tup [(.int .i64 r0),(.int .i64 r1)]))⟩
def yyo (Q:Qx):Int→Ls→Ls→Int→Ls→Int→Int→Bool→Prop:=(fun i0 l1 l2 i3 l4 i5 i6 b7=>Q (.exit 0) [(1,.box (.agg [(.int .i64 i0),(.data l1),(.data l2)])),(5,.v (.int .i64 i3)),(14,.v (.data l4)),(15,.v (.int .i64 i5)),(16,.v (.int .i64 i6)),(17,.v (.bool b7))] [])
def pt16:Pat Frm:=fV 14 vD (fV 15 pt0 (fV 16 pt0 fN))
def yqj (a0:yaK) (Q:Qx):List St:=[⟨(pS hN (fX 1 pt14 (fV 5 pt0 pt16)) fN),yem a0 (yyo Q)⟩]
def ytP (a0:yaK):LP:=lpS [(45203600,yqj a0)]
def ynx (e:Es) (a0:yaK):SE:=sE (E e) [(ydA,ytN.pw a0)] (ytP a0)
theorem yrw (e:Es) (he:EG e):SEOk (Uni (E e)) (ynx e yaU):=yaE (Sub.uni _) ⟨(yeg e he),trivial⟩ trivial he.ok
theorem yww (e:Es) (a0):ycr (ynx e a0) 5 a yut false (yqj a0):=fun _=>⟨fun _=>by kernel_rfl,fun _ _=>by kernel_rfl,trivial⟩
theorem ywx (e:Es) (he:EG e):LpT (Uni (E e)) (ytP yaU) [] 45203600 (.loop 45203600 yut):=fun _ _ _=>yp8.st (Sub.uni _) (yaW (yrw e he) 5) (YOk.no _ _) (yar (by kernel_rfl)) (yww e _ _)
theorem yDI (e:Es) (a0):EqW (ynx e a0) 6 ywg yDH (ykf a0):=fun _ _=>by kernel_rfl
theorem yeh (e:Es) (he:EG e):OkF (E e) (yDH.pw yan) ydB:=okU he (yDI e _) (yrw e he) yp9.flat (ybg (l:=[(45203600,.loop 45203600 yut)]) ⟨ywx e he,trivial⟩ (by kernel_rfl))
abbrev yam:Type:=Int→(Int→Int→Prop)→Prop
def ytQ (p0:Int) (K:Int→Int→Prop):Prop :=
 (K p0 (1:Int))
def ycQ:yam:=ytQ
def yhI:Sg:=⟨pt1,Int→Int→Prop,fun K=>(fun r0 r1=>K (.agg [(.int .i64 r0),(.int .i64 r1)]))⟩
def yDJ (e:Es):SE:=sE (E e) [] lp0
theorem yDK (e:Es):EqW (yDJ e) 6 yFM yhI ytQ:=fun _ _=>by kernel_rfl
theorem ykg (e:Es) (he:EG e):OkF (E e) (yhI.pw ycQ) yfO:=okU he (yDK e) (yaE (Sub.uni _) trivial trivial he.ok) yp9.flat (yar (by kernel_rfl))
abbrev yax:Type:=Int→Int→Int→Int→(Bool→Prop)→Prop
def yps (a0:yck) (p0 p1 p2 p3:Int) (K:Bool→Prop):Prop :=
 (a0 p0 p1 p2 p3 (fun a _ =>
 (K (decide (a<(0:Int))))))
def ycW:yax:=yps ycs
def ywy:Sg:=⟨pt10,Bool→Prop,fun K=>(fun r0=>K (.bool r0))⟩
def yF5 (e:Es) (a0:yck):SE:=sE (E e) [(yeR,yFW.pw a0)] lp0
theorem yF6 (e:Es) (a0):EqW (yF5 e a0) 6 yHC ywy (yps a0):=fun _ _=>by kernel_rfl
theorem ylc (e:Es) (he:EG e):OkF (E e) (ywy.pw ycW) ygC:=okU he (yF6 e _) (yaE (Sub.uni _) ⟨(yfS e he),trivial⟩ trivial he.ok) yp9.flat (yar (by kernel_rfl))
abbrev ycR:Type:=Int→Ls→Ls→Int→Int→(Bool→Prop)→Prop
def yny (a0:ya4) (a1:yam) (a2:yax) (p0:Int) (_ _:Ls) (p3 p4:Int) (K:Bool→Prop):Prop :=
 (a0 p3 p4 (fun a =>
 (cbr (a ==(0:Int))
 (cbr (decide (p3≥(0:Int)))
 (a1 p0 (fun b c =>
 (a2 b c p3 p4 (fun d =>
 (K (!d))))))
 (K false))
 (K false))))
def ycS:ycR:=yny ycc ycQ ycW
def yDL:Sg:=⟨(lC pt14 (lC pt6 lN)),Bool→Prop,fun K=>(fun r0=>K (.bool r0))⟩
def yDM (e:Es) (a0:ya4) (a1:yam) (a2:yax):SE:=sE (E e) [(ye5,yBU.pw a0),(yfO,yhI.pw a1),(ygC,ywy.pw a2)] lp0
theorem yDN (e:Es) (a0 a1 a2):EqW (yDM e a0 a1 a2) 6 yFN yDL (yny a0 a1 a2):=fun _ _=>by kernel_rfl
theorem ynz (e:Es) (he:EG e):OkF (E e) (yDL.pw ycS) yg3:=okU he (yDN e _ _ _) (yaE (Sub.uni _) ⟨(ygJ e he),(ykg e he),(ylc e he),trivial⟩ trivial he.ok) yp9.flat (yar (by kernel_rfl))
abbrev ydi:Type:=Int→Ls→Ls→Int→Int→Int→Int→(Int→Int→Int→Prop)→Prop
def ybQ (a0:yaK) (a1:ycR) (a2:ya4) (a3:yam) (a4:yax) (a5:yal) (a6:yal) (a7:yal) (a8:yal) (x0:Int→Int→Int→Int→Int→Int→Prop) (x1:Int→Int→Int→Int→Int→Int→Ls→Ls→Int→Int→Ls→Int→Int→Bool→Prop):Nat→Int→Int→Int→Int→Int→Int→Ls→Ls→Int→Int→Ls→Int→Int→Prop
 | 0,_,_,_,_,_,_,_,_,_,_,_,_,_=>False
 | n+1,i0,i1,i2,i3,i4,i5,l6,l7,i8,i9,l10,i11,i12 =>
 (cbr (decide (i12<i11))
 (asr (decide ((0:Int)≤i12))
 (asr (decide (i12<(((List.length l10):Nat):Int)))
 (asr (conf zI (List.getD l10 (i12.toNat) .nils))
 (asr (decide ((0:Int)≤(IntKind.i64.wrap (i12+(1:Int)))))
 (asr (decide ((IntKind.i64.wrap (i12+(1:Int)))<(((List.length l6):Nat):Int)))
 (asr (conf zI (List.getD l6 ((IntKind.i64.wrap (i12+(1:Int))).toNat) .nils))
 (a3 (yaa (List.getD l6 ((IntKind.i64.wrap (i12+(1:Int))).toNat) .nils)) (fun a b =>
 (a4 i8 i9 a b (fun r =>
 (cbr (!r)
 (ybQ a0 a1 a2 a3 a4 a5 a6 a7 a8 x0 x1 n i0 i1 i2 i3 i4 i5 l6 l7 i8 i9 l10 i11 (IntKind.i64.wrap (i12+(1:Int))))
 (a3 (0:Int) (fun i j =>
 (cbr (decide ((yaa (List.getD l10 (i12.toNat) .nils))>(0:Int)))
 (a5 a b i8 i9 (fun s t k =>
 (cbr (k !=(0:Int))
 (x0 i0 i1 i2 i3 i4 k)
 (a3 (yaa (List.getD l10 (i12.toNat) .nils)) (fun u v =>
 (a6 s t u v (fun l m o =>
 (cbr (o !=(0:Int))
 (x0 i0 i1 i2 i3 i4 o)
 (cbr ((yaa (List.getD l10 (i12.toNat) .nils)) ==(0:Int))
 (ybQ a0 a1 a2 a3 a4 a5 a6 a7 a8 x0 x1 n i0 i1 i2 i3 i4 i5 l6 l7 a b l10 i11 (IntKind.i64.wrap (i12+(1:Int))))
 (a4 l m i0 i1 (fun w =>
 (cbr w
 (a5 i0 i1 l m (fun e f c =>
 (cbr (c !=(0:Int))
 (cbr (c !=(0:Int))
 (x0 e f i2 i3 c (0:Int))
 (ybQ a0 a1 a2 a3 a4 a5 a6 a7 a8 x0 x1 n e f i2 i3 c i5 l6 l7 a b l10 i11 (IntKind.i64.wrap (i12+(1:Int)))))
 (cbr (c !=(0:Int))
 (x0 e f i2 i3 (6:Int) (0:Int))
 (ybQ a0 a1 a2 a3 a4 a5 a6 a7 a8 x0 x1 n e f i2 i3 (6:Int) i5 l6 l7 a b l10 i11 (IntKind.i64.wrap (i12+(1:Int))))))))
 (a3 (yaa (List.getD l10 (i12.toNat) .nils)) (fun x y =>
 (a7 i0 i1 x y (fun z A p =>
 (cbr (p ==(0:Int))
 (a8 i8 i9 z A (fun B C D =>
 (x0 i0 i1 B C D (0:Int))))
 (x0 i0 i1 i2 i3 p (0:Int)))))))))))))))))))
 (cbr ((yaa (List.getD l10 (i12.toNat) .nils)) ==(0:Int))
 (ybQ a0 a1 a2 a3 a4 a5 a6 a7 a8 x0 x1 n i0 i1 i2 i3 i4 i5 l6 l7 a b l10 i11 (IntKind.i64.wrap (i12+(1:Int))))
 (a4 i j i0 i1 (fun E =>
 (cbr E
 (a5 i0 i1 i j (fun g h d =>
 (cbr (d !=(0:Int))
 (cbr (d !=(0:Int))
 (x0 g h i2 i3 d (0:Int))
 (ybQ a0 a1 a2 a3 a4 a5 a6 a7 a8 x0 x1 n g h i2 i3 d i5 l6 l7 a b l10 i11 (IntKind.i64.wrap (i12+(1:Int)))))
 (cbr (d !=(0:Int))
 (x0 g h i2 i3 (6:Int) (0:Int))
 (ybQ a0 a1 a2 a3 a4 a5 a6 a7 a8 x0 x1 n g h i2 i3 (6:Int) i5 l6 l7 a b l10 i11 (IntKind.i64.wrap (i12+(1:Int))))))))
 (a3 (yaa (List.getD l10 (i12.toNat) .nils)) (fun F G =>
 (a7 i0 i1 F G (fun H I q =>
 (cbr (q ==(0:Int))
 (a8 i8 i9 H I (fun J K L =>
 (x0 i0 i1 J K L (0:Int))))
 (x0 i0 i1 i2 i3 q (0:Int)))))))))))))))))))))))))
 (x1 i0 i1 i2 i3 i4 i5 l6 l7 i8 i9 l10 i11 i12 false))
def ypt (a0:yaK) (a1:ycR) (a2:ya4) (a3:yam) (a4:yax) (a5:yal) (a6:yal) (a7:yal) (a8:yal) (p0:Int) (p1 p2:Ls) (p3 p4 p5 p6:Int) (K:Int→Int→Int→Prop):Prop :=
 (a0 p0 p1 p2 (fun b =>
 (cbr (b !=(0:Int))
 (K (0:Int) (0:Int) b)
 (a1 p0 p1 p2 p3 p4 (fun g =>
 (cbr (!g)
 (K (0:Int) (0:Int) (2:Int))
 (a2 p5 p6 (fun h =>
 (cbr (h !=(0:Int))
 (K (0:Int) (0:Int) (2:Int))
 (cbr (decide (p5<(0:Int)))
 (K (0:Int) (0:Int) (2:Int))
 (cbr (p5 ==(0:Int))
 (K p3 p4 (0:Int))
 (∃ n:Nat,ybQ a0 a1 a2 a3 a4 a5 a6 a7 a8
 (fun _ _ c d e a=>(cbr (a !=(0:Int))
 (cbr (a !=(0:Int))
 (K (0:Int) (0:Int) a)
 (K c d (0:Int)))
 (cbr (e !=(0:Int))
 (K (0:Int) (0:Int) e)
 (K c d (0:Int)))))
 (fun _ _ i j f _ _ _ _ _ _ _ _ _=>(cbr (f !=(0:Int))
 (K (0:Int) (0:Int) f)
 (K i j (0:Int))))
 n p5 p6 (0:Int) (0:Int) (6:Int) p0 p1 p2 p3 p4 p2 (((List.length p2):Nat):Int) (0:Int)))))))))))))
def yie:ydi:=ypt yaU ycS ycc ycQ ycW yaQ ybJ ya8 ybh
def ywz:Sg:=⟨(lC pt14 pt10),Int→Int→Int→Prop,fun K=>(fun r0 r1 r2=>K (.tup [(.agg [(.int .i64 r0),(.int .i64 r1)]),(.int .i64 r2)]))⟩
def yzZ (Q:Qx):Int→Int→Int→Int→Int→Int→Prop:=(fun i0 i1 i2 i3 i4 i5=>Q .ret [(6,.v (.int .i64 i5))] [⟨false,true,2,([(.agg [(.int .i64 i0),(.int .i64 i1)])]:Ls)⟩,⟨false,true,2,([(.agg [(.int .i64 i2),(.int .i64 i3)])]:Ls)⟩,⟨false,true,1,([(.int .i64 i4)]:Ls)⟩])
def yz0 (Q:Qx):Int→Int→Int→Int→Int→Int→Ls→Ls→Int→Int→Ls→Int→Int→Bool→Prop:=(fun i0 i1 i2 i3 i4 i5 l6 l7 i8 i9 l10 i11 i12 b13=>Q (.exit 0) [(2,.v (.fn (.func yhF) [] [(.ptr 0 1 0 0),(.ptr 2 1 0 0),(.ptr 1 1 0 0)])),(3,.box (.agg [(.int .i64 i5),(.data l6),(.data l7)])),(4,.box (.agg [(.int .i64 i8),(.int .i64 i9)])),(14,.v (.data l10)),(15,.v (.int .i64 i11)),(16,.v (.int .i64 i12)),(17,.v (.bool b13))] [⟨false,true,2,([(.agg [(.int .i64 i0),(.int .i64 i1)])]:Ls)⟩,⟨false,true,2,([(.agg [(.int .i64 i2),(.int .i64 i3)])]:Ls)⟩,⟨false,true,1,([(.int .i64 i4)]:Ls)⟩])
def pt17:RPt:=rC pt0 rN
def pt18:HPt:=hB false true 1 pt17 hN
def pt19:VPt:=vP 0 0 (nK 1) (nK 0)
def pt20:VPt:=vP 1 0 (nK 1) (nK 0)
def yrx (a0:yaK) (a1:ycR) (a2:ya4) (a3:yam) (a4:yax) (a5:yal) (a6:yal) (a7:yal) (a8:yal) (Q:Qx):List St:=[⟨(pS (hB false true 2 (rC pt6 rN) (hB false true 2 (rC pt6 rN) pt18)) (fV 2 (vF yhF lN (lC pt19 (lC (vP 2 0 (nK 1) (nK 0)) (lC pt20 lN)))) (fX 3 pt14 (fX 4 pt6 pt16))) fN),ybQ a0 a1 a2 a3 a4 a5 a6 a7 a8 (yzZ Q) (yz0 Q)⟩]
def ypu (a0:yaK) (a1:ycR) (a2:ya4) (a3:yam) (a4:yax) (a5:yal) (a6:yal) (a7:yal) (a8:yal):LP:=lpS [(41613500,yrx a0 a1 a2 a3 a4 a5 a6 a7 a8)]
def ywA (e:Es) (a0:yaK) (a1:ycR) (a2:ya4) (a3:yam) (a4:yax) (a5:yal) (a6:yal) (a7:yal) (a8:yal):SE:=⟨(E e),ydO [(ydA,ytN.pw a0),(yg3,yDL.pw a1),(ye5,yBU.pw a2),(yfO,yhI.pw a3),(ygC,ywy.pw a4),(yfG,yla.pw a5),(yfF,yla.pw a6),(yeT,yla.pw a7),(yeS,yla.pw a8)],ydP [(yhF,ytE)],ypu a0 a1 a2 a3 a4 a5 a6 a7 a8,fun _=>none⟩
def ywB (e:Es) (a0:yaK) (a1:ycR) (a2:ya4) (a3:yam) (a4:yax) (a5:yal) (a6:yal) (a7:yal) (a8:yal):SE:=⟨(E e),ydO [(ydA,ytN.pw a0),(yg3,yDL.pw a1),(ye5,yBU.pw a2),(yfO,yhI.pw a3),(ygC,ywy.pw a4),(yfG,yla.pw a5),(yfF,yla.pw a6),(yeT,yla.pw a7),(yeS,yla.pw a8)],ydP [(yzr,yzv),(yhF,ytE)],ypu a0 a1 a2 a3 a4 a5 a6 a7 a8,fun _=>none⟩
theorem yDO (e:Es) (he:EG e):SEOk (Uni (E e)) (ywA e yaU ycS ycc ycQ ycW yaQ ybJ ya8 ybh):=yaE (Sub.uni _) ⟨(yeg e he),(ynz e he),(ygJ e he),(ykg e he),(ylc e he),(yg8 e he),(yg7 e he),(yfU e he),(yfT e he),trivial⟩ ⟨⟨by kernel_rfl,by kernel_rfl,rfl,fun az=>yaN (by kernel_rfl) az,he.num _ (by kernel_rfl),by kernel_rfl,(yar (by kernel_rfl))⟩,trivial⟩ he.ok
theorem yyp (e:Es) (a0 a1 a2 a3 a4 a5 a6 a7 a8):ycr (ywA e a0 a1 a2 a3 a4 a5 a6 a7 a8) 5 a yuB false (yrx a0 a1 a2 a3 a4 a5 a6 a7 a8):=fun _=>⟨fun _=>by kernel_rfl,fun _ _=>by kernel_rfl,trivial⟩
theorem yyq (e:Es) (he:EG e):LpT (Uni (E e)) (ypu yaU ycS ycc ycQ ycW yaQ ybJ ya8 ybh) [] 41613500 (.loop 41613500 yuB):=fun _ _ _=>yp8.st (Sub.uni _) (yaW (yDO e he) 5) (YOk.no _ _) (yar (by kernel_rfl)) (yyp e _ _ _ _ _ _ _ _ _ _)
theorem yDP (e:Es) (he:EG e):SEOk (Uni (E e)) (ywB e yaU ycS ycc ycQ ycW yaQ ybJ ya8 ybh):=yaE (Sub.uni _) ⟨(yeg e he),(ynz e he),(ygJ e he),(ykg e he),(ylc e he),(yg8 e he),(yg7 e he),(yfU e he),(yfT e he),trivial⟩ ⟨⟨by kernel_rfl,by kernel_rfl,rfl,fun az=>yaN (by kernel_rfl) az,he.num _ (by kernel_rfl),by kernel_rfl,(ybg (l:=[(41613500,.loop 41613500 yuB)]) ⟨yyq e he,trivial⟩ (by kernel_rfl))⟩,⟨by kernel_rfl,by kernel_rfl,rfl,fun az=>yaN (by kernel_rfl) az,he.num _ (by kernel_rfl),by kernel_rfl,(yar (by kernel_rfl))⟩,trivial⟩ he.ok
theorem yF7 (e:Es) (a0 a1 a2 a3 a4 a5 a6 a7 a8):EqW (ywB e a0 a1 a2 a3 a4 a5 a6 a7 a8) 6 yHG ywz (ypt a0 a1 a2 a3 a4 a5 a6 a7 a8):=fun _ _=>by kernel_rfl
theorem ywC (e:Es) (he:EG e):OkF (E e) (ywz.pw yie) ymW:=okU he (yF7 e _ _ _ _ _ _ _ _ _) (yDP e he) yp9.flat (yar (by kernel_rfl))
def ybk (a0:yaK) (a1:ycR) (a2:yax) (a3:yam) (a4:yal) (a5:yal) (a6:yal) (x0:Int→Int→Int→Prop) (x1:Int→Ls→Ls→Int→Int→Int→Int→Int→Int→Int→Int→Ls→Int→Int→Bool→Prop):Nat→Int→Ls→Ls→Int→Int→Int→Int→Int→Int→Int→Int→Ls→Int→Int→Prop
 | 0,_,_,_,_,_,_,_,_,_,_,_,_,_,_=>False
 | n+1,i0,l1,l2,i3,i4,i5,i6,i7,i8,i9,i10,l11,i12,i13 =>
 (cbr (decide (i13<i12))
 (asr (decide ((0:Int)≤i13))
 (asr (decide (i13<(((List.length l11):Nat):Int)))
 (asr (conf zI (List.getD l11 (i13.toNat) .nils))
 (asr (decide ((0:Int)≤(IntKind.i64.wrap (i13+(1:Int)))))
 (asr (decide ((IntKind.i64.wrap (i13+(1:Int)))<(((List.length l1):Nat):Int)))
 (asr (conf zI (List.getD l1 ((IntKind.i64.wrap (i13+(1:Int))).toNat) .nils))
 (a3 (yaa (List.getD l1 ((IntKind.i64.wrap (i13+(1:Int))).toNat) .nils)) (fun a b =>
 (a2 i3 i4 a b (fun i =>
 (cbr i
 (cbr ((yaa (List.getD l11 (i13.toNat) .nils)) ==(0:Int))
 (a2 i9 i10 i3 i4 (fun j =>
 (cbr j
 (ybk a0 a1 a2 a3 a4 a5 a6 x0 x1 n i0 l1 l2 i3 i4 i5 i6 i7 i8 i3 i4 l11 i12 (IntKind.i64.wrap (i13+(1:Int))))
 (ybk a0 a1 a2 a3 a4 a5 a6 x0 x1 n i0 l1 l2 i3 i4 i5 i6 i7 i8 i9 i10 l11 i12 (IntKind.i64.wrap (i13+(1:Int)))))))
 (a2 i9 i10 i3 i4 (fun k =>
 (cbr (!k)
 (a2 i9 i10 i3 i4 (fun l =>
 (cbr l
 (ybk a0 a1 a2 a3 a4 a5 a6 x0 x1 n i0 l1 l2 i3 i4 i5 i6 i7 i8 i3 i4 l11 i12 (IntKind.i64.wrap (i13+(1:Int))))
 (ybk a0 a1 a2 a3 a4 a5 a6 x0 x1 n i0 l1 l2 i3 i4 i5 i6 i7 i8 i9 i10 l11 i12 (IntKind.i64.wrap (i13+(1:Int)))))))
 (a4 i3 i4 i9 i10 (fun m o c =>
 (cbr (c !=(0:Int))
 (x0 (0:Int) (0:Int) c)
 (a3 (yaa (List.getD l11 (i13.toNat) .nils)) (fun p q =>
 (a5 m o p q (fun r s d =>
 (cbr (d !=(0:Int))
 (x0 (0:Int) (0:Int) d)
 (a6 i7 i8 r s (fun t u e =>
 (cbr (e !=(0:Int))
 (x0 (0:Int) (0:Int) e)
 (ybk a0 a1 a2 a3 a4 a5 a6 x0 x1 n i0 l1 l2 i3 i4 i5 i6 t u i3 i4 l11 i12 (IntKind.i64.wrap (i13+(1:Int)))))))))))))))))))
 (cbr ((yaa (List.getD l11 (i13.toNat) .nils)) ==(0:Int))
 (a2 i9 i10 a b (fun v =>
 (cbr v
 (ybk a0 a1 a2 a3 a4 a5 a6 x0 x1 n i0 l1 l2 i3 i4 i5 i6 i7 i8 a b l11 i12 (IntKind.i64.wrap (i13+(1:Int))))
 (ybk a0 a1 a2 a3 a4 a5 a6 x0 x1 n i0 l1 l2 i3 i4 i5 i6 i7 i8 i9 i10 l11 i12 (IntKind.i64.wrap (i13+(1:Int)))))))
 (a2 i9 i10 a b (fun w =>
 (cbr (!w)
 (a2 i9 i10 a b (fun x =>
 (cbr x
 (ybk a0 a1 a2 a3 a4 a5 a6 x0 x1 n i0 l1 l2 i3 i4 i5 i6 i7 i8 a b l11 i12 (IntKind.i64.wrap (i13+(1:Int))))
 (ybk a0 a1 a2 a3 a4 a5 a6 x0 x1 n i0 l1 l2 i3 i4 i5 i6 i7 i8 i9 i10 l11 i12 (IntKind.i64.wrap (i13+(1:Int)))))))
 (a4 a b i9 i10 (fun y z f =>
 (cbr (f !=(0:Int))
 (x0 (0:Int) (0:Int) f)
 (a3 (yaa (List.getD l11 (i13.toNat) .nils)) (fun A B =>
 (a5 y z A B (fun C D g =>
 (cbr (g !=(0:Int))
 (x0 (0:Int) (0:Int) g)
 (a6 i7 i8 C D (fun E F h =>
 (cbr (h !=(0:Int))
 (x0 (0:Int) (0:Int) h)
 (ybk a0 a1 a2 a3 a4 a5 a6 x0 x1 n i0 l1 l2 i3 i4 i5 i6 E F a b l11 i12 (IntKind.i64.wrap (i13+(1:Int))))))))))))))))))))))))))))))
 (x1 i0 l1 l2 i3 i4 i5 i6 i7 i8 i9 i10 l11 i12 i13 false))
def ynA (a0:yaK) (a1:ycR) (a2:yax) (a3:yam) (a4:yal) (a5:yal) (a6:yal) (p0:Int) (p1 p2:Ls) (p3 p4 p5 p6:Int) (K:Int→Int→Int→Prop):Prop :=
 (a0 p0 p1 p2 (fun a =>
 (cbr (a !=(0:Int))
 (K (0:Int) (0:Int) a)
 (a1 p0 p1 p2 p3 p4 (fun b =>
 (cbr (!b)
 (K (0:Int) (0:Int) (2:Int))
 (a1 p0 p1 p2 p5 p6 (fun c =>
 (cbr (!c)
 (K (0:Int) (0:Int) (2:Int))
 (a2 p5 p6 p3 p4 (fun d =>
 (cbr d
 (K (0:Int) (0:Int) (2:Int))
 (a3 (0:Int) (fun e f =>
 (∃ n:Nat,ybk a0 a1 a2 a3 a4 a5 a6
 (fun g h i=>(K g h i))
 (fun _ _ _ _ _ _ _ j k _ _ _ _ _ _=>(K j k (0:Int)))
 n p0 p1 p2 p5 p6 (0:Int) (0:Int) e f p3 p4 p2 (((List.length p2):Nat):Int) (0:Int))))))))))))))))
def ybO:ydi:=ynA yaU ycS ycW ycQ yaQ ybJ ybh
def yyr (Q:Qx):Int→Int→Int→Prop:=(fun i0 i1 i2=>Q .ret [(6,.box (.agg [(.int .i64 i0),(.int .i64 i1)])),(7,.v (.int .i64 i2))] [])
def yys (Q:Qx):Int→Ls→Ls→Int→Int→Int→Int→Int→Int→Int→Int→Ls→Int→Int→Bool→Prop:=(fun i0 l1 l2 i3 i4 i5 i6 i7 i8 i9 i10 l11 i12 i13 b14=>Q (.exit 0) [(3,.box (.agg [(.int .i64 i0),(.data l1),(.data l2)])),(5,.box (.agg [(.int .i64 i3),(.int .i64 i4)])),(6,.box (.agg [(.int .i64 i5),(.int .i64 i6)])),(9,.box (.agg [(.int .i64 i7),(.int .i64 i8)])),(10,.box (.agg [(.int .i64 i9),(.int .i64 i10)])),(42,.v (.data l11)),(43,.v (.int .i64 i12)),(44,.v (.int .i64 i13)),(45,.v (.bool b14))] [])
def yqk (a0:yaK) (a1:ycR) (a2:yax) (a3:yam) (a4:yal) (a5:yal) (a6:yal) (Q:Qx):List St:=[⟨(pS hN (fX 3 pt14 (fX 5 pt6 (fX 6 pt6 (fX 9 pt6 (fX 10 pt6 (fV 42 vD (fV 43 pt0 (fV 44 pt0 fN)))))))) fN),ybk a0 a1 a2 a3 a4 a5 a6 (yyr Q) (yys Q)⟩]
def ytR (a0:yaK) (a1:ycR) (a2:yax) (a3:yam) (a4:yal) (a5:yal) (a6:yal):LP:=lpS [(85339800,yqk a0 a1 a2 a3 a4 a5 a6)]
def ynB (e:Es) (a0:yaK) (a1:ycR) (a2:yax) (a3:yam) (a4:yal) (a5:yal) (a6:yal):SE:=sE (E e) [(ydA,ytN.pw a0),(yg3,yDL.pw a1),(ygC,ywy.pw a2),(yfO,yhI.pw a3),(yfG,yla.pw a4),(yfF,yla.pw a5),(yeS,yla.pw a6)] (ytR a0 a1 a2 a3 a4 a5 a6)
theorem yry (e:Es) (he:EG e):SEOk (Uni (E e)) (ynB e yaU ycS ycW ycQ yaQ ybJ ybh):=yaE (Sub.uni _) ⟨(yeg e he),(ynz e he),(ylc e he),(ykg e he),(yg8 e he),(yg7 e he),(yfT e he),trivial⟩ trivial he.ok
theorem ywD (e:Es) (a0 a1 a2 a3 a4 a5 a6):ycr (ynB e a0 a1 a2 a3 a4 a5 a6) 5 a yuD false (yqk a0 a1 a2 a3 a4 a5 a6):=fun _=>⟨fun _=>by kernel_rfl,fun _ _=>by kernel_rfl,trivial⟩
theorem ywE (e:Es) (he:EG e):LpT (Uni (E e)) (ytR yaU ycS ycW ycQ yaQ ybJ ybh) [] 85339800 (.loop 85339800 yuD):=fun _ _ _=>yp8.st (Sub.uni _) (yaW (yry e he) 5) (YOk.no _ _) (yar (by kernel_rfl)) (ywD e _ _ _ _ _ _ _ _)
theorem yDQ (e:Es) (a0 a1 a2 a3 a4 a5 a6):EqW (ynB e a0 a1 a2 a3 a4 a5 a6) 6 ywm ywz (ynA a0 a1 a2 a3 a4 a5 a6):=fun _ _=>by kernel_rfl
theorem ykh (e:Es) (he:EG e):OkF (E e) (ywz.pw ybO) yg4:=okU he (yDQ e _ _ _ _ _ _ _) (yry e he) yp9.flat (ybg (l:=[(85339800,.loop 85339800 yuD)]) ⟨ywE e he,trivial⟩ (by kernel_rfl))
abbrev yad:Type:=Ls→Ls→(Bool→Prop)→Prop
def ybw (x0:Ls→Ls→Int→Int→Bool→Prop) (x1:Bool→Prop):Nat→Ls→Ls→Int→Int→Prop
 | 0,_,_,_,_=>False
 | n+1,l0,l1,i2,i3 =>
 (cbr (decide (i3<i2))
 (asr (decide ((0:Int)≤i3))
 (asr (decide (i3<(((List.length l0):Nat):Int)))
 (lt (List.getD l0 (i3.toNat) .nils) (fun a =>
 (asr (conf z2 a)
 (asr (decide ((0:Int)≤i3))
 (asr (decide (i3<(((List.length l1):Nat):Int)))
 (lt (List.getD l1 (i3.toNat) .nils) (fun b =>
 (asr (conf z2 b)
 (cbr (!(((yaa (yab a 0)) ==(yaa (yab b 0)))&&(((yaa (yab a 1)) ==(yaa (yab b 1)))&&true)))
 (x1 false)
 (lt (IntKind.i64.wrap (i3+(1:Int))) (fun c =>
 (ybw x0 x1 n l0 l1 i2 c))))))))))))))
 (x0 l0 l1 i2 i3 false))
def ydt (p0 p1:Ls) (K:Bool→Prop):Prop :=
 (cbr ((((List.length p0):Nat):Int) !=(((List.length p1):Nat):Int))
 (K false)
 (∃ n:Nat,ybw
 (fun _ _ _ _ _=>(K true))
 (fun a=>(K a))
 n p0 p1 (((List.length p0):Nat):Int) (0:Int)))
def yaM:yad:=ydt
def ydu:Sg:=⟨pt13,Bool→Prop,fun K=>(fun r0=>K (.bool r0))⟩
def yin (Q:Qx):Ls→Ls→Int→Int→Bool→Prop:=(fun l0 l1 i2 i3 b4=>Q (.exit 0) [(0,.v (.data l0)),(1,.v (.data l1)),(12,.v (.int .i64 i2)),(13,.v (.int .i64 i3)),(14,.v (.bool b4))] [])
def yio (Q:Qx):Bool→Prop:=(fun b0=>Q .ret [(4,.v (.bool b0))] [])
def pt21:Pat Frm:=fV 12 pt0 (fV 13 pt0 fN)
def ye0 (Q:Qx):List St:=[⟨(pS hN (fV 0 vD (fV 1 vD pt21)) fN),ybw (yin Q) (yio Q)⟩]
def yfs:LP:=lpS [(11234800,ye0)]
def ydv (e:Es):SE:=sE (E e) [] (yfs)
theorem yfb (e:Es) (he:EG e):SEOk (Uni (E e)) (ydv e):=yaE (Sub.uni _) trivial trivial he.ok
theorem yhZ (e:Es):ycr (ydv e) 5 a yuW false (ye0):=fun _=>⟨fun _=>by kernel_rfl,fun _ _=>by kernel_rfl,trivial⟩
theorem yh0 (e:Es) (he:EG e):LpT (Uni (E e)) (yfs) [] 11234800 (.loop 11234800 yuW):=fun _ _ _=>yp8.st (Sub.uni _) (yaW (yfb e he) 5) (YOk.no _ _) (yar (by kernel_rfl)) (yhZ e _)
theorem yjS (e:Es):EqW (ydv e) 6 yfH ydu ydt:=fun _ _=>by kernel_rfl
theorem ydw (e:Es) (he:EG e):OkF (E e) (ydu.pw yaM) ybx:=okU he (yjS e) (yfb e he) yp9.flat (ybg (l:=[(11234800,.loop 11234800 yuW)]) ⟨yh0 e he,trivial⟩ (by kernel_rfl))
set_option linter.unusedVariables false
theorem yB6 (p0:Int) (p1:Ls) (p2:Ls) (r0:Int) (h:∀ K:Int→Prop,K r0→yaU p0 p1 p2 K) (K:Int→Prop):yaU p0 p1 p2 K=K r0 :=
 propext ⟨fun k=>detC (yeg [] ybB) (az:=[(.agg [(.int .i64 p0),(.data p1),(.data p2)])]) (x:=(.int .i64 r0)) (fun K' k'=>h (fun r0=>K' (.int .i64 r0)) k') (K:=fun x=>match x with | (.int .i64 r0)=>K r0 | _=>False) k,h K⟩
theorem yB7 (p0:Int) (p1:Ls) (p2:Ls) (r0:Int) (r1:Int) (h:∀ K:Int→Int→Prop,K r0 r1→yan p0 p1 p2 K) (K:Int→Int→Prop):yan p0 p1 p2 K=K r0 r1 :=
 propext ⟨fun k=>detC (yeh [] ybB) (az:=[(.agg [(.int .i64 p0),(.data p1),(.data p2)])]) (x:=(.tup [(.int .i64 r0),(.int .i64 r1)])) (fun K' k'=>h (fun r0 r1=>K' (.tup [(.int .i64 r0),(.int .i64 r1)])) k') (K:=fun x=>match x with | (.tup [(.int .i64 r0),(.int .i64 r1)])=>K r0 r1 | _=>False) k,h K⟩
theorem yDR (p0:Int) (p1:Ls) (p2:Ls) (p3:Int) (p4:Int) (p5:Int) (p6:Int) (r0:Int) (r1:Int) (r2:Int) (h:∀ K:Int→Int→Int→Prop,K r0 r1 r2→yie p0 p1 p2 p3 p4 p5 p6 K) (K:Int→Int→Int→Prop):yie p0 p1 p2 p3 p4 p5 p6 K=K r0 r1 r2 :=
 propext ⟨fun k=>detC (ywC [] ybB) (az:=[(.agg [(.int .i64 p0),(.data p1),(.data p2)]),(.agg [(.int .i64 p3),(.int .i64 p4)]),(.agg [(.int .i64 p5),(.int .i64 p6)])]) (x:=(.tup [(.agg [(.int .i64 r0),(.int .i64 r1)]),(.int .i64 r2)])) (fun K' k'=>h (fun r0 r1 r2=>K' (.tup [(.agg [(.int .i64 r0),(.int .i64 r1)]),(.int .i64 r2)])) k') (K:=fun x=>match x with | (.tup [(.agg [(.int .i64 r0),(.int .i64 r1)]),(.int .i64 r2)])=>K r0 r1 r2 | _=>False) k,h K⟩
theorem yB8 (p0:Int) (p1:Ls) (p2:Ls) (p3:Int) (p4:Int) (p5:Int) (p6:Int) (r0:Int) (r1:Int) (r2:Int) (h:∀ K:Int→Int→Int→Prop,K r0 r1 r2→ybO p0 p1 p2 p3 p4 p5 p6 K) (K:Int→Int→Int→Prop):ybO p0 p1 p2 p3 p4 p5 p6 K=K r0 r1 r2 :=
 propext ⟨fun k=>detC (ykh [] ybB) (az:=[(.agg [(.int .i64 p0),(.data p1),(.data p2)]),(.agg [(.int .i64 p3),(.int .i64 p4)]),(.agg [(.int .i64 p5),(.int .i64 p6)])]) (x:=(.tup [(.agg [(.int .i64 r0),(.int .i64 r1)]),(.int .i64 r2)])) (fun K' k'=>h (fun r0 r1 r2=>K' (.tup [(.agg [(.int .i64 r0),(.int .i64 r1)]),(.int .i64 r2)])) k') (K:=fun x=>match x with | (.tup [(.agg [(.int .i64 r0),(.int .i64 r1)]),(.int .i64 r2)])=>K r0 r1 r2 | _=>False) k,h K⟩
theorem yjk (p0:Ls) (p1:Ls) (r0:Bool) (h:∀ K:Bool→Prop,K r0→yaM p0 p1 K) (K:Bool→Prop):yaM p0 p1 K=K r0 :=
 propext ⟨fun k=>detC (ydw [] ybB) (az:=[(.data p0),(.data p1)]) (x:=(.bool r0)) (fun K' k'=>h (fun r0=>K' (.bool r0)) k') (K:=fun x=>match x with | (.bool r0)=>K r0 | _=>False) k,h K⟩
def ylN (a0:yck) (p0 p1 p2 p3:Int) (K:Bool→Prop):Prop :=
 (a0 p0 p1 p2 p3 (fun a b =>
 (cbr (b ==(0:Int))
 (K (decide (a<(0:Int))))
 (K false))))
def yc1:yax:=ylN ycs
def pt22:VPt:=vA (lC pt0 (lC pt0 pt5))
def yB9:Sg:=⟨(lC pt22 lN),Bool→Prop,fun K=>(fun r0=>K (.bool r0))⟩
def yCa (e:Es) (a0:yck):SE:=sE (E e) [(yeR,yFW.pw a0)] lp0
theorem yCb (e:Es) (a0):EqW (yCa e a0) 6 yDo yB9 (ylN a0):=fun _ _=>by kernel_rfl
theorem yrz (e:Es) (he:EG e):OkF (E e) (yB9.pw yc1) ykc:=okU he (yCb e _) (yaE (Sub.uni _) ⟨(yfS e he),trivial⟩ trivial he.ok) yp9.flat (yar (by kernel_rfl))
def yeI (a0:yax) (x0:Int→Prop) (x1:Ls→Int→Int→Bool→Prop):Nat→Ls→Int→Int→Prop
 | 0,_,_,_=>False
 | n+1,l0,i1,i2 =>
 (cbr (decide (i2<i1))
 (asr (decide ((0:Int)≤i2))
 (asr (decide (i2<(((List.length l0):Nat):Int)))
 (asr (conf z4 (List.getD l0 (i2.toNat) .nils))
 (a0 (yaa (yab (List.getD l0 (i2.toNat) .nils) 0)) (yaa (yab (List.getD l0 (i2.toNat) .nils) 1)) (yaa (yab (List.getD l0 (i2.toNat) .nils) 2)) (yaa (yab (List.getD l0 (i2.toNat) .nils) 3)) (fun a =>
 (cbr (!a)
 (x0 (8:Int))
 (yeI a0 x0 x1 n l0 i1 (IntKind.i64.wrap (i2+(1:Int))))))))))
 (x1 l0 i1 i2 false))
def ypv (a0:yax) (p0:Ls) (K:Int→Prop):Prop :=
 (cbr (decide ((((List.length p0):Nat):Int)>(60:Int)))
 (K (4:Int))
 (∃ n:Nat,yeI a0
 (fun a=>(K a))
 (fun b c d e=>(K (0:Int)))
 n p0 (((List.length p0):Nat):Int) (0:Int)))
def yei:yas:=ypv yc1
def yz1 (Q:Qx):Int→Prop:=(fun i0=>Q .ret [(2,.v (.int .i64 i0))] [])
def yz2 (Q:Qx):Ls→Int→Int→Bool→Prop:=(fun l0 i1 i2 b3=>Q (.exit 0) [(8,.v (.data l0)),(9,.v (.int .i64 i1)),(10,.v (.int .i64 i2)),(11,.v (.bool b3))] [])
def yrA (a0:yax) (Q:Qx):List St:=[⟨(pS hN (fV 8 vD (fV 9 pt0 (fV 10 pt0 fN))) fN),yeI a0 (yz1 Q) (yz2 Q)⟩]
def ywF (a0:yax):LP:=lpS [(56157900,yrA a0)]
def ypw (e:Es) (a0:yax):SE:=sE (E e) [(ykc,yB9.pw a0)] (ywF a0)
theorem ytS (e:Es) (he:EG e):SEOk (Uni (E e)) (ypw e yc1):=yaE (Sub.uni _) ⟨(yrz e he),trivial⟩ trivial he.ok
theorem yyt (e:Es) (a0):ycr (ypw e a0) 5 a yuI false (yrA a0):=fun _=>⟨fun _=>by kernel_rfl,fun _ _=>by kernel_rfl,trivial⟩
theorem yyu (e:Es) (he:EG e):LpT (Uni (E e)) (ywF yc1) [] 56157900 (.loop 56157900 yuI):=fun _ _ _=>yp8.st (Sub.uni _) (yaW (ytS e he) 5) (YOk.no _ _) (yar (by kernel_rfl)) (yyt e _ _)
theorem yF8 (e:Es) (a0):EqW (ypw e a0) 6 yzw yda (ypv a0):=fun _ _=>by kernel_rfl
theorem ypx (e:Es) (he:EG e):OkF (E e) (yda.pw yei) ykr:=okU he (yF8 e _) (ytS e he) yp9.flat (ybg (l:=[(56157900,.loop 56157900 yuI)]) ⟨yyu e he,trivial⟩ (by kernel_rfl))
def ylO (a0:yck) (p0 p1 p2 p3:Int) (K:Int→Prop):Prop :=
 (a0 p0 p1 p2 p3 (fun a b =>
 (K a)))
def ya6:yaO:=ylO ycs
def yCc (e:Es) (a0:yck):SE:=sE (E e) [(yeR,yFW.pw a0)] lp0
theorem yCd (e:Es) (a0):EqW (yCc e a0) 6 yDp yrl (ylO a0):=fun _ _=>by kernel_rfl
theorem ygM (e:Es) (he:EG e):OkF (E e) (yrl.pw ya6) yec:=okU he (yCd e _) (yaE (Sub.uni _) ⟨(yfS e he),trivial⟩ trivial he.ok) yp9.flat (yar (by kernel_rfl))
abbrev yox:Type:=Int→Int→Int→Int→Int→Int→Int→Int→(Int→Prop)→Prop
def yiN (a0:yaO) (p0 p1 p2 p3 p4 p5 p6 p7:Int) (K:Int→Prop):Prop :=
 (a0 p0 p1 p4 p5 (fun a =>
 (K a)))
def yjT:yox:=yiN ya6
def ym4:Sg:=⟨(lC pt22 (lC pt22 lN)),Int→Prop,fun K=>(fun r0=>K (.int .i64 r0))⟩
def ywG (e:Es) (a0:yaO):SE:=sE (E e) [(yec,yrl.pw a0)] lp0
theorem ywH (e:Es) (a0):EqW (ywG e a0) 6 yx9 ym4 (yiN a0):=fun _ _=>by kernel_rfl
theorem ywI (e:Es) (he:EG e):OkF (E e) (ym4.pw yjT) yej:=okU he (ywH e _) (yaE (Sub.uni _) ⟨(ygM e he),trivial⟩ trivial he.ok) yp9.flat (yar (by kernel_rfl))
abbrev yaL:Type:=Ls→(Ls→Prop)→Prop
mutual
def ylP (a0:yaO) (x0:Int→Int→Bool→Prop) (x1:Ls→Int→Int→Bool→Prop) (x2:Ls→Ls→Int→Int→Bool→Prop):Nat→Int→Int→Prop
 | 0,_,_=>False
 | n+1,i0,i1 =>
 (cbr (decide (i1<i0))
 False
 (x0 i0 i1 false))
def yh1 (a0:yaO) (x0:Int→Int→Bool→Prop) (x1:Ls→Int→Int→Bool→Prop) (x2:Ls→Ls→Int→Int→Bool→Prop):Nat→Ls→Int→Int→Prop
 | 0,_,_,_=>False
 | n+1,l0,i3,i4 =>
 (cbr (decide (i4<i3))
 (asr (decide ((0:Int)≤i4))
 (asr (decide (i4<(((List.length l0):Nat):Int)))
 (asr (decide ((List.length l0)=(List.length l0)))
 (asr (decide ((0+(i4.toNat))<(List.length l0)))
 (lt (List.getD l0 (0+(i4.toNat)) .nils) (fun a =>
 (asr (conf z4 a)
 (lt (IntKind.i64.wrap (i4+(1:Int))) (fun b =>
 (asr (decide (1=List.length ([(.agg [(.int .i64 (yaa (yab a 0))),(.int .i64 (yaa (yab a 1))),(.int .i64 (yaa (yab a 2))),(.int .i64 (yaa (yab a 3)))])]:Ls))&&decide (1=List.length ([(.agg [(.int .i64 (yaa (yab a 0))),(.int .i64 (yaa (yab a 1))),(.int .i64 (yaa (yab a 2))),(.int .i64 (yaa (yab a 3)))])]:Ls))&&decide ((List.length l0)=List.length l0)&&decide ((List.length l0)=List.length l0))
 (ycU a0 x0 x1 x2 n l0 ([(.agg [(.int .i64 (yaa (yab a 0))),(.int .i64 (yaa (yab a 1))),(.int .i64 (yaa (yab a 2))),(.int .i64 (yaa (yab a 3)))])]:Ls) i3 b)))))))))))
 (x1 l0 i3 i4 false))
def ycU (a0:yaO) (x0:Int→Int→Bool→Prop) (x1:Ls→Int→Int→Bool→Prop) (x2:Ls→Ls→Int→Int→Bool→Prop):Nat→Ls→Ls→Int→Int→Prop
 | 0,_,_,_,_=>False
 | n+1,l0,l1,i6,i7 =>
 (cbr (decide (i7<i6))
 (jn (fun (i:Ls→Prop) =>
 (asr (decide ((0:Int)≤i7))
 (asr (decide (i7<(((List.length l0):Nat):Int)))
 (asr (decide ((List.length l0)=(List.length l0)))
 (asr (decide ((0+(i7.toNat))<(List.length l0)))
 (lt (List.getD l0 (0+(i7.toNat)) .nils) (fun a =>
 (asr (conf z4 a)
 (jn (fun (j:Bool→Prop) =>
 (cbr (decide ((((List.length l1):Nat):Int)>(0:Int)))
 (lt (IntKind.i64.wrap ((((List.length l1):Nat):Int)-(1:Int))) (fun e =>
 (asr (decide ((0:Int)≤e))
 (asr (decide (e<(((List.length l1):Nat):Int)))
 (asr (decide ((List.length l1)=(List.length l1)))
 (asr (decide ((0+(e.toNat))<(List.length l1)))
 (lt (List.getD l1 (0+(e.toNat)) .nils) (fun g =>
 (asr (conf z4 g)
 (a0 (yaa (yab a 0)) (yaa (yab a 1)) (yaa (yab g 2)) (yaa (yab g 3)) (fun k =>
 (j (decide (k≤(0:Int)))))))))))))))
 (j false)))
 (fun l=>(cbr l
 (lt (IntKind.i64.wrap ((((List.length l1):Nat):Int)-(1:Int))) (fun f =>
 (asr (decide ((0:Int)≤f))
 (asr (decide (f<(((List.length l1):Nat):Int)))
 (asr (decide ((List.length l1)=(List.length l1)))
 (asr (decide ((0+(f.toNat))<(List.length l1)))
 (lt (List.getD l1 (0+(f.toNat)) .nils) (fun h =>
 (asr (conf z4 h)
 (a0 (yaa (yab a 2)) (yaa (yab a 3)) (yaa (yab h 2)) (yaa (yab h 3)) (fun m =>
 (cbr (decide (m>(0:Int)))
 (lt (IntKind.i64.wrap ((((List.length l1):Nat):Int)-(1:Int))) (fun b =>
 (asr (decide ((0:Int)≤b))
 (asr (decide (b<(((List.length l1):Nat):Int)))
 (asr (decide ((List.length l1)=(List.length l1)))
 (asr (decide ((0+(b.toNat))<(List.length l1)))
 (lt (List.getD l1 (0+(b.toNat)) .nils) (fun c =>
 (asr (conf z4 c)
 (lt (IntKind.i64.wrap (i7+(1:Int))) (fun o =>
 (asr (decide ((List.length l1)=List.length (List.set l1 (0+(b.toNat)) (.agg [(.int .i64 (yaa (yab c 0))),(.int .i64 (yaa (yab c 1))),(.int .i64 (yaa (yab a 2))),(.int .i64 (yaa (yab a 3)))])))&&decide ((List.length l1)=List.length (List.set l1 (0+(b.toNat)) (.agg [(.int .i64 (yaa (yab c 0))),(.int .i64 (yaa (yab c 1))),(.int .i64 (yaa (yab a 2))),(.int .i64 (yaa (yab a 3)))])))&&decide ((List.length l0)=List.length l0)&&decide ((List.length l0)=List.length l0))
 (ycU a0 x0 x1 x2 n l0 (List.set l1 (0+(b.toNat)) (.agg [(.int .i64 (yaa (yab c 0))),(.int .i64 (yaa (yab c 1))),(.int .i64 (yaa (yab a 2))),(.int .i64 (yaa (yab a 3)))])) i6 o)))))))))))))
 (i l1)))))))))))))
 (asr (decide ((List.length l1)=(List.length l1)))
 (asr (decide ((0+(List.length l1))≤(List.length l1)))
 (asr (!(decide (((0+(List.length l1))+1)≤(List.length l1))))
 (asr (decide ((List.length l1)=(List.length l1)))
 (asr (decide ((((List.length l1)+1)+64)*(32+1)≤room))
 (i (l1++([(.agg [(.int .i64 (yaa (yab a 0))),(.int .i64 (yaa (yab a 1))),(.int .i64 (yaa (yab a 2))),(.int .i64 (yaa (yab a 3)))])]:Ls)))))))))))))))))))
 (fun d=>(lt (IntKind.i64.wrap (i7+(1:Int))) (fun p =>
 (asr (decide ((List.length d)=List.length d)&&decide ((List.length d)=List.length d)&&decide ((List.length l0)=List.length l0)&&decide ((List.length l0)=List.length l0))
 (ycU a0 x0 x1 x2 n l0 d i6 p))))))
 (x2 l0 l1 i6 i7 false))
end
def ykJ (a0:yaO) (p0:Ls) (K:Ls→Prop):Prop :=
 (asr (yfM 4 32 p0)
 (cbr (List.isEmpty p0)
 (∃ n:Nat,ylP a0
 (fun c d e=>(K ([]:Ls)))
 (fun f g h i=>(K ([]:Ls)))
 (fun j a k l m=>(asr (decide ((List.length a)=(List.length a)))
 (asr (decide ((0+(List.length a))≤(List.length a)))
 (K (List.take (List.length a) a)))))
 n (0:Int) (0:Int))
 (asr (Srt.cond yuZ.s p0 0 (List.length p0) (List.length p0) 4 false)
 (asr (decide ((List.length p0)=List.length (List.take 0 p0++(Srt.sorted yuZ.s yuZ.srt (List.take (List.length p0) (List.drop 0 p0))++List.drop (0+(List.length p0)) p0)))&&decide ((List.length p0)=List.length (List.take 0 p0++(Srt.sorted yuZ.s yuZ.srt (List.take (List.length p0) (List.drop 0 p0))++List.drop (0+(List.length p0)) p0))))
 (∃ n:Nat,yh1 a0
 (fun o p q=>(K ([]:Ls)))
 (fun r t u v=>(K ([]:Ls)))
 (fun w b x y z=>(asr (decide ((List.length b)=(List.length b)))
 (asr (decide ((0+(List.length b))≤(List.length b)))
 (K (List.take (List.length b) b)))))
 n (List.take 0 p0++(Srt.sorted yuZ.s yuZ.srt (List.take (List.length p0) (List.drop 0 p0))++List.drop (0+(List.length p0)) p0)) (((List.length p0):Nat):Int) (0:Int))))))
def yft:yaL:=ykJ ya6
def ykK:Sg:=⟨pt7,Ls→Prop,fun K=>(fun r0=>K (.data r0))⟩
def yh2 (Q:Qx):Int→Int→Bool→Prop:=(fun i0 i1 b2=>Q (.exit 0) [(3,.v .nils),(11,.v .emp),(12,.v (.int .i64 i0)),(13,.v (.int .i64 i1)),(14,.v (.bool b2))] [])
def yh3 (Q:Qx):Ls→Int→Int→Bool→Prop:=(fun l0 i3 i4 b5=>Q (.exit 0) [(3,.v .nils),(11,.v (.own 0 0 (List.length l0) (List.length l0) none)),(12,.v (.int .i64 i3)),(13,.v (.int .i64 i4)),(14,.v (.bool b5))] [⟨false,true,4,l0⟩])
def yh4 (Q:Qx):Ls→Ls→Int→Int→Bool→Prop:=(fun l0 l1 i6 i7 b8=>Q (.exit 0) [(3,.v (.own 1 0 (List.length l1) (List.length l1) none)),(11,.v (.own 0 0 (List.length l0) (List.length l0) none)),(12,.v (.int .i64 i6)),(13,.v (.int .i64 i7)),(14,.v (.bool b8))] [⟨false,true,4,l0⟩,⟨false,true,4,l1⟩])
def pt23:HPt:=hB false true 4 rA hN
def pt24:VPt:=vW 0 (nK 0) (nT 0) (nT 0)
def pt25:VPt:=vW 1 (nK 0) (nT 1) (nT 1)
def ym5 (a0:yaO) (Q:Qx):List St:=[⟨(pS hN (fV 3 vNs (fV 11 vE pt21)) fN),ylP a0 (yh2 Q) (yh3 Q) (yh4 Q)⟩,⟨(pS pt23 (fV 3 vNs (fV 11 pt24 pt21)) fN),yh1 a0 (yh2 Q) (yh3 Q) (yh4 Q)⟩,⟨(pS (hB false true 4 rA pt23) (fV 3 pt25 (fV 11 pt24 pt21)) fN),ycU a0 (yh2 Q) (yh3 Q) (yh4 Q)⟩]
def yql (a0:yaO):LP:=lpS [(63960300,ym5 a0)]
def ykL (a0:yaO):SE:=sE (E ef0) [(yec,yrl.pw a0)] (yql a0)
theorem yoy:SEOk (Uni (E ef0)) (ykL ya6):=yaE (Sub.uni _) ⟨(ygM ef0 ybR),trivial⟩ trivial ybR.ok
theorem ys7 (a0):ycr (ykL a0) 5 a yuJ false (ym5 a0):=fun _=>⟨fun _=>by kernel_rfl,fun _ _=>by kernel_rfl,fun _=>by kernel_rfl,fun _ _=>by kernel_rfl,fun _=>by kernel_rfl,fun _ _=>by kernel_rfl,trivial⟩
theorem ys8:LpT (Uni (E ef0)) (yql ya6) [] 63960300 (.loop 63960300 yuJ):=fun _ _ _=>yp8.st (Sub.uni _) (yaW (yoy) 5) (YOk.no _ _) (yar (by kernel_rfl)) (ys7 _ _)
theorem yz3 (a0):EqW (ykL a0) 6 yrh ykK (ykJ a0):=fun _ _=>by kernel_rfl
theorem yqm:OkF (E ef0) (ykK.pw yft) yiA:=okU ybR (yz3 _) (yoy) yp9.flat (ybg (l:=[(63960300,.loop 63960300 yuJ)]) ⟨ys8,trivial⟩ (by kernel_rfl))
abbrev ybP:Type:=Ls→(Ls→Int→Prop)→Prop
def ynC (a0:yas) (a1:yaL) (p0:Ls) (K:Ls→Int→Prop):Prop :=
 (a0 p0 (fun a =>
 (cbr (a !=(0:Int))
 (K ([]:Ls) a)
 (a1 p0 (fun b =>
 (K b (0:Int)))))))
def yao:ybP:=ynC yei yft
def yDS:Sg:=⟨pt7,Ls→Int→Prop,fun K=>(fun r0 r1=>K (.tup [(.data r0),(.int .i64 r1)]))⟩
def yDT (a0:yas) (a1:yaL):SE:=sE (E ef0) [(ykr,yda.pw a0),(yiA,ykK.pw a1)] lp0
theorem yDU (a0 a1):EqW (yDT a0 a1) 6 yFO yDS (ynC a0 a1):=fun _ _=>by kernel_rfl
theorem ytT:OkF (E ef0) (yDS.pw yao) yiB:=okU ybR (yDU _ _) (yaE (Sub.uni _) ⟨(ypx ef0 ybR),yqm,trivial⟩ trivial ybR.ok) yp9.flat (yar (by kernel_rfl))
def yc4 (a0:yas) (a1:yaO) (x0:Int→Prop) (x1:Ls→Int→Bool→Prop):Nat→Ls→Int→Prop
 | 0,_,_=>False
 | n+1,l0,i1 =>
 (cbr (decide (i1<(((List.length l0):Nat):Int)))
 (asr (decide ((0:Int)≤(IntKind.i64.wrap (i1-(1:Int)))))
 (asr (decide ((IntKind.i64.wrap (i1-(1:Int)))<(((List.length l0):Nat):Int)))
 (asr (conf z4 (List.getD l0 ((IntKind.i64.wrap (i1-(1:Int))).toNat) .nils))
 (asr (decide ((0:Int)≤i1))
 (asr (decide (i1<(((List.length l0):Nat):Int)))
 (asr (conf z4 (List.getD l0 (i1.toNat) .nils))
 (a1 (yaa (yab (List.getD l0 ((IntKind.i64.wrap (i1-(1:Int))).toNat) .nils) 2)) (yaa (yab (List.getD l0 ((IntKind.i64.wrap (i1-(1:Int))).toNat) .nils) 3)) (yaa (yab (List.getD l0 (i1.toNat) .nils) 0)) (yaa (yab (List.getD l0 (i1.toNat) .nils) 1)) (fun a =>
 (cbr (decide (a≥(0:Int)))
 (x0 (8:Int))
 (yc4 a0 a1 x0 x1 n l0 (IntKind.i64.wrap (i1+(1:Int)))))))))))))
 (x1 l0 i1 false))
def ylQ (a0:yas) (a1:yaO) (p0:Ls) (K:Int→Prop):Prop :=
 (a0 p0 (fun a =>
 (cbr (a !=(0:Int))
 (K a)
 (∃ n:Nat,yc4 a0 a1
 (fun b=>(K b))
 (fun c d e=>(K (0:Int)))
 n p0 (1:Int)))))
def ybj:yas:=ylQ yei ya6
def ywJ (Q:Qx):Int→Prop:=(fun i0=>Q .ret [(2,.v (.int .i64 i0))] [])
def ywK (Q:Qx):Ls→Int→Bool→Prop:=(fun l0 i1 b2=>Q (.exit 0) [(0,.v (.data l0)),(4,.v (.int .i64 i1)),(13,.v (.bool b2))] [])
def yoz (a0:yas) (a1:yaO) (Q:Qx):List St:=[⟨(pS hN (fV 0 vD pt11) fN),yc4 a0 a1 (ywJ Q) (ywK Q)⟩]
def yrB (a0:yas) (a1:yaO):LP:=lpS [(17365500,yoz a0 a1)]
def ylR (e:Es) (a0:yas) (a1:yaO):SE:=sE (E e) [(ykr,yda.pw a0),(yec,yrl.pw a1)] (yrB a0 a1)
theorem yqn (e:Es) (he:EG e):SEOk (Uni (E e)) (ylR e yei ya6):=yaE (Sub.uni _) ⟨(ypx e he),(ygM e he),trivial⟩ trivial he.ok
theorem yvd (e:Es) (a0 a1):ycr (ylR e a0 a1) 5 a yuO false (yoz a0 a1):=fun _=>⟨fun _=>by kernel_rfl,fun _ _=>by kernel_rfl,trivial⟩
theorem yve (e:Es) (he:EG e):LpT (Uni (E e)) (yrB yei ya6) [] 17365500 (.loop 17365500 yuO):=fun _ _ _=>yp8.st (Sub.uni _) (yaW (yqn e he) 5) (YOk.no _ _) (yar (by kernel_rfl)) (yvd e _ _ _)
theorem yCe (e:Es) (a0 a1):EqW (ylR e a0 a1) 6 ytG yda (ylQ a0 a1):=fun _ _=>by kernel_rfl
theorem yiO (e:Es) (he:EG e):OkF (E e) (yda.pw ybj) ygd:=okU he (yCe e _ _) (yqn e he) yp9.flat (ybg (l:=[(17365500,.loop 17365500 yuO)]) ⟨yve e he,trivial⟩ (by kernel_rfl))
abbrev yDV:Type:=Int→Ls→Ls→Ls→(Int→Int→Int→Prop)→Prop
def ycm (a0:yaK) (a1:yas) (a2:yaO) (a3:ydi) (a4:yal) (x0:Int→Ls→Ls→Int→Int→Int→Int→Ls→Int→Int→Bool→Prop) (x1:Int→Ls→Ls→Int→Int→Int→Prop):Nat→Int→Ls→Ls→Int→Int→Int→Int→Ls→Int→Int→Prop
 | 0,_,_,_,_,_,_,_,_,_,_=>False
 | n+1,i0,l1,l2,i3,i4,i5,i6,l7,i8,i9 =>
 (cbr (decide (i9<i8))
 (asr (decide ((0:Int)≤i9))
 (asr (decide (i9<(((List.length l7):Nat):Int)))
 (lt (List.getD l7 (i9.toNat) .nils) (fun a =>
 (asr (conf z4 a)
 (a3 i0 l1 l2 (yaa (yab a 0)) (yaa (yab a 1)) (yaa (yab a 2)) (yaa (yab a 3)) (fun d e b =>
 (cbr (b !=(0:Int))
 (x1 i0 l1 l2 (0:Int) (0:Int) b)
 (a4 i5 i6 d e (fun f g c =>
 (cbr (c !=(0:Int))
 (x1 i0 l1 l2 (0:Int) (0:Int) c)
 (lt (IntKind.i64.wrap (i9+(1:Int))) (fun h =>
 (ycm a0 a1 a2 a3 a4 x0 x1 n i0 l1 l2 i3 i4 f g l7 i8 h))))))))))))))
 (x0 i0 l1 l2 i3 i4 i5 i6 l7 i8 i9 false))
def ylS (a0:yaK) (a1:yas) (a2:yaO) (a3:ydi) (a4:yal) (p0:Int) (p1 p2 p3:Ls) (K:Int→Int→Int→Prop):Prop :=
 (a0 p0 p1 p2 (fun d =>
 (cbr (d !=(0:Int))
 (K (0:Int) (0:Int) d)
 (a1 p3 (fun e =>
 (cbr (e !=(0:Int))
 (K (0:Int) (0:Int) e)
 (jn (fun (a:Bool→Prop) =>
 (cbr (decide ((((List.length p3):Nat):Int)>(0:Int)))
 (asr (decide ((0:Int)<(((List.length p3):Nat):Int)))
 (lt (List.getD p3 0 .nils) (fun f =>
 (asr (conf z4 f)
 (cbr (decide ((yaa (yab f 0))<(0:Int)))
 (a true)
 (lt (IntKind.i64.wrap ((((List.length p3):Nat):Int)-(1:Int))) (fun b =>
 (asr (decide ((0:Int)≤b))
 (asr (decide (b<(((List.length p3):Nat):Int)))
 (lt (List.getD p3 (b.toNat) .nils) (fun c =>
 (asr (conf z4 c)
 (a2 (yaa (yab c 2)) (yaa (yab c 3)) p0 (1:Int) (fun h =>
 (a (decide (h>(0:Int))))))))))))))))))
 (a false)))
 (fun i=>(cbr i
 (K (0:Int) (0:Int) (2:Int))
 (jn (fun (g:Int→Ls→Ls→Int→Int→Int→Prop) =>
 (∃ n:Nat,ycm a0 a1 a2 a3 a4
 (fun j k l y z m o A B C D=>(g j k l m o (0:Int)))
 (fun p q r s t u=>(g p q r s t u))
 n p0 p1 p2 (0:Int) (0:Int) (0:Int) (1:Int) p3 (((List.length p3):Nat):Int) (0:Int)))
 (fun E F G v w x=>(K v w x))))))))))))
def ycd:yDV:=ylS yaU ybj ya6 ybO ybh
def yCf:Sg:=⟨(lC pt14 pt7),Int→Int→Int→Prop,fun K=>(fun r0 r1 r2=>K (.tup [(.agg [(.int .i64 r0),(.int .i64 r1)]),(.int .i64 r2)]))⟩
def yrC (az:Ls) (K:PV→Prop):Prop:=yCf.pw ycd az K
def ywL (Q:Qx):Int→Ls→Ls→Int→Int→Int→Int→Ls→Int→Int→Bool→Prop:=(fun i0 l1 l2 i3 i4 i5 i6 l7 i8 i9 b10=>Q (.exit 0) [(1,.v (.fn (.func yf6) [] [(.ptr 0 1 0 0)])),(4,.box (.agg [(.int .i64 i3),(.int .i64 i4)])),(6,.box (.agg [(.int .i64 i5),(.int .i64 i6)])),(12,.v (.data l7)),(13,.v (.int .i64 i8)),(14,.v (.int .i64 i9)),(15,.v (.bool b10))] [⟨false,true,3,([(.agg [(.int .i64 i0),(.data l1),(.data l2)])]:Ls)⟩])
def ywM (Q:Qx):Int→Ls→Ls→Int→Int→Int→Prop:=(fun i0 l1 l2 i3 i4 i5=>Q .ret [(4,.box (.agg [(.int .i64 i3),(.int .i64 i4)])),(5,.v (.int .i64 i5))] [⟨false,true,3,([(.agg [(.int .i64 i0),(.data l1),(.data l2)])]:Ls)⟩])
def pt26:LPt:=lC pt19 lN
def pt27:Pat Frm:=fV 13 pt0 (fV 14 pt0 fN)
def yoA (a0:yaK) (a1:yas) (a2:yaO) (a3:ydi) (a4:yal) (Q:Qx):List St:=[⟨(pS (hB false true 3 (rC pt14 rN) hN) (fV 1 (vF yf6 lN pt26) (fX 4 pt6 (fX 6 pt6 (fV 12 vD pt27)))) fN),ycm a0 a1 a2 a3 a4 (ywL Q) (ywM Q)⟩]
def ylT (a0:yaK) (a1:yas) (a2:yaO) (a3:ydi) (a4:yal):LP:=lpS [(87165700,yoA a0 a1 a2 a3 a4)]
def yrD (e:Es) (a0:yaK) (a1:yas) (a2:yaO) (a3:ydi) (a4:yal):SE:=⟨(E e),ydO [(ydA,ytN.pw a0),(ygd,yda.pw a1),(yec,yrl.pw a2),(yg4,ywz.pw a3),(yeS,yla.pw a4)],ydP [(yf6,yqg)],ylT a0 a1 a2 a3 a4,fun _=>none⟩
def yrE (e:Es) (a0:yaK) (a1:yas) (a2:yaO) (a3:ydi) (a4:yal):SE:=⟨(E e),ydO [(ydA,ytN.pw a0),(ygd,yda.pw a1),(yec,yrl.pw a2),(yg4,ywz.pw a3),(yeS,yla.pw a4)],ydP [(yzs,yzx),(yf6,yqg)],ylT a0 a1 a2 a3 a4,fun _=>none⟩
theorem yz4 (e:Es) (he:EG e):SEOk (Uni (E e)) (yrD e yaU ybj ya6 ybO ybh):=yaE (Sub.uni _) ⟨(yeg e he),(yiO e he),(ygM e he),(ykh e he),(yfT e he),trivial⟩ ⟨⟨by kernel_rfl,by kernel_rfl,rfl,fun az=>yaN (by kernel_rfl) az,he.num _ (by kernel_rfl),by kernel_rfl,(yar (by kernel_rfl))⟩,trivial⟩ he.ok
theorem yvf (e:Es) (a0 a1 a2 a3 a4):ycr (yrD e a0 a1 a2 a3 a4) 5 a yuP false (yoA a0 a1 a2 a3 a4):=fun _=>⟨fun _=>by kernel_rfl,fun _ _=>by kernel_rfl,trivial⟩
theorem yvg (e:Es) (he:EG e):LpT (Uni (E e)) (ylT yaU ybj ya6 ybO ybh) [] 87165700 (.loop 87165700 yuP):=fun _ _ _=>yp8.st (Sub.uni _) (yaW (yz4 e he) 5) (YOk.no _ _) (yar (by kernel_rfl)) (yvf e _ _ _ _ _ _)
theorem yz5 (e:Es) (he:EG e):SEOk (Uni (E e)) (yrE e yaU ybj ya6 ybO ybh):=yaE (Sub.uni _) ⟨(yeg e he),(yiO e he),(ygM e he),(ykh e he),(yfT e he),trivial⟩ ⟨⟨by kernel_rfl,by kernel_rfl,rfl,fun az=>yaN (by kernel_rfl) az,he.num _ (by kernel_rfl),by kernel_rfl,(ybg (l:=[(87165700,.loop 87165700 yuP)]) ⟨yvg e he,trivial⟩ (by kernel_rfl))⟩,⟨by kernel_rfl,by kernel_rfl,rfl,fun az=>yaN (by kernel_rfl) az,he.num _ (by kernel_rfl),by kernel_rfl,(yar (by kernel_rfl))⟩,trivial⟩ he.ok
theorem yCg (e:Es) (a0 a1 a2 a3 a4):EqW (yrE e a0 a1 a2 a3 a4) 6 yDr yCf (ylS a0 a1 a2 a3 a4):=fun _ _=>by kernel_rfl
theorem yrF (e:Es) (he:EG e):OkF (E e) (yCf.pw ycd) ycL:=okU he (yCg e _ _ _ _ _) (yz5 e he) yp9.flat (yar (by kernel_rfl))
set_option linter.unusedVariables false
theorem yz6 (p0:Int) (p1:Int) (p2:Int) (p3:Int) (r0:Bool) (h:∀ K:Bool→Prop,K r0→yc1 p0 p1 p2 p3 K) (K:Bool→Prop):yc1 p0 p1 p2 p3 K=K r0 :=
 propext ⟨fun k=>detC (yrz [] ybB) (az:=[(.agg [(.int .i64 p0),(.int .i64 p1),(.int .i64 p2),(.int .i64 p3)])]) (x:=(.bool r0)) (fun K' k'=>h (fun r0=>K' (.bool r0)) k') (K:=fun x=>match x with | (.bool r0)=>K r0 | _=>False) k,h K⟩
theorem yDW (p0:Ls) (r0:Int) (h:∀ K:Int→Prop,K r0→yei p0 K) (K:Int→Prop):yei p0 K=K r0 :=
 propext ⟨fun k=>detC (ypx [] ybB) (az:=[(.data p0)]) (x:=(.int .i64 r0)) (fun K' k'=>h (fun r0=>K' (.int .i64 r0)) k') (K:=fun x=>match x with | (.int .i64 r0)=>K r0 | _=>False) k,h K⟩
theorem yyv (p0:Ls) (r0:Ls) (h:∀ K:Ls→Prop,K r0→yft p0 K) (K:Ls→Prop):yft p0 K=K r0 :=
 propext ⟨fun k=>detC yqm (az:=[(.data p0)]) (x:=(.data r0)) (fun K' k'=>h (fun r0=>K' (.data r0)) k') (K:=fun x=>match x with | (.data r0)=>K r0 | _=>False) k,h K⟩
theorem yz7 (p0:Ls) (r0:Int) (h:∀ K:Int→Prop,K r0→ybj p0 K) (K:Int→Prop):ybj p0 K=K r0 :=
 propext ⟨fun k=>detC (yiO [] ybB) (az:=[(.data p0)]) (x:=(.int .i64 r0)) (fun K' k'=>h (fun r0=>K' (.int .i64 r0)) k') (K:=fun x=>match x with | (.int .i64 r0)=>K r0 | _=>False) k,h K⟩
theorem yz8 (p0:Int) (p1:Ls) (p2:Ls) (p3:Ls) (r0:Int) (r1:Int) (r2:Int) (h:∀ K:Int→Int→Int→Prop,K r0 r1 r2→ycd p0 p1 p2 p3 K) (K:Int→Int→Int→Prop):ycd p0 p1 p2 p3 K=K r0 r1 r2 :=
 propext ⟨fun k=>detC (yrF [] ybB) (az:=[(.agg [(.int .i64 p0),(.data p1),(.data p2)]),(.data p3)]) (x:=(.tup [(.agg [(.int .i64 r0),(.int .i64 r1)]),(.int .i64 r2)])) (fun K' k'=>h (fun r0 r1 r2=>K' (.tup [(.agg [(.int .i64 r0),(.int .i64 r1)]),(.int .i64 r2)])) k') (K:=fun x=>match x with | (.tup [(.agg [(.int .i64 r0),(.int .i64 r1)]),(.int .i64 r2)])=>K r0 r1 r2 | _=>False) k,h K⟩
abbrev yav:Type:=Ls→Ls→(Int→Prop)→Prop
def yeJ (a0:yaK) (a:Int→Prop) (b:Ls→Ls→Ls→Int→Int→Bool→Prop):Nat→Ls→Ls→Ls→Int→Int→Prop
 | 0,_,_,_,_,_=>False
 | d+1,l0,l1,l2,i3,i4 =>
 (cbr (decide (i4<i3))
 (asr (decide ((0:Int)≤i4))
 (asr (decide (i4<(((List.length l2):Nat):Int)))
 (asr (conf zK (List.getD l2 (i4.toNat) .nils))
 (a0 (yaa (yab (List.getD l2 (i4.toNat) .nils) 0)) (yaY (yab (List.getD l2 (i4.toNat) .nils) 1)) (yaY (yab (List.getD l2 (i4.toNat) .nils) 2)) (fun c =>
 (cbr (c !=(0:Int))
 (a c)
 (yeJ a0 a b d l0 l1 l2 i3 (IntKind.i64.wrap (i4+(1:Int))))))))))
 (b l0 l1 l2 i3 i4 false))
def yd0 (a0:yaK) (a:Int→Prop) (b:Ls→Ls→Ls→Int→Int→Bool→Prop):Nat→Ls→Ls→Ls→Int→Int→Prop
 | 0,_,_,_,_,_=>False
 | c+1,l0,l1,l2,i3,i4 =>
 (cbr (decide (i4<i3))
 (asr (decide ((0:Int)≤i4))
 (asr (decide (i4<(((List.length l2):Nat):Int)))
 (asr (conf zK (List.getD l2 (i4.toNat) .nils))
 (asr (decide ((0:Int)<(((List.length l0):Nat):Int)))
 (asr (conf zK (List.getD l0 0 .nils))
 (cbr ((yaa (yab (List.getD l2 (i4.toNat) .nils) 0)) !=(yaa (yab (List.getD l0 0 .nils) 0)))
 (a (8:Int))
 (yd0 a0 a b c l0 l1 l2 i3 (IntKind.i64.wrap (i4+(1:Int))))))))))
 (b l0 l1 l2 i3 i4 false))
def ypy (a0:yaK) (p0 p1:Ls) (K:Int→Prop):Prop :=
 (cbr (decide ((((List.length p0):Nat):Int)>(6:Int)))
 (K (4:Int))
 (cbr (decide ((((List.length p1):Nat):Int)>(2000:Int)))
 (K (4:Int))
 (cbr ((((List.length p0):Nat):Int) ==(0:Int))
 (K (8:Int))
 (∃ b:Nat,yeJ a0
 (fun c=>(K c))
 (fun a d g h i j=>(∃ e:Nat,yd0 a0
 (fun f=>(K f))
 (fun k l m n o p=>(K (0:Int)))
 e a d a (((List.length a):Nat):Int) (0:Int)))
 b p0 p1 p0 (((List.length p0):Nat):Int) (0:Int)))))
def ybU:yav:=ypy yaU
def pt28:VPt:=vA pt13
def ypz:Sg:=⟨(lC pt28 lN),Int→Prop,fun K=>(fun r0=>K (.int .i64 r0))⟩
def yz9 (Q:Qx):Int→Prop:=(fun i0=>Q .ret [(2,.v (.int .i64 i0))] [])
def yAa (Q:Qx):Ls→Ls→Ls→Int→Int→Bool→Prop:=(fun l0 l1 l2 i3 i4 b5=>Q (.exit 0) [(1,.box (.agg [(.data l0),(.data l1)])),(23,.v (.data l2)),(24,.v (.int .i64 i3)),(25,.v (.int .i64 i4)),(26,.v (.bool b5))] [])
def yAb (Q:Qx):Int→Prop:=(fun i0=>Q .ret [(2,.v (.int .i64 i0))] [])
def yAc (Q:Qx):Ls→Ls→Ls→Int→Int→Bool→Prop:=(fun l0 l1 l2 i3 i4 b5=>Q (.exit 2) [(1,.box (.agg [(.data l0),(.data l1)])),(36,.v (.data l2)),(37,.v (.int .i64 i3)),(38,.v (.int .i64 i4)),(39,.v (.bool b5))] [])
def yrG (a0:yaK) (Q:Qx):List St:=[⟨(pS hN (fX 1 pt28 (fV 23 vD (fV 24 pt0 (fV 25 pt0 fN)))) fN),yeJ a0 (yz9 Q) (yAa Q)⟩]
def yrH (a0:yaK) (Q:Qx):List St:=[⟨(pS hN (fX 1 pt28 (fV 36 vD (fV 37 pt0 (fV 38 pt0 fN)))) fN),yd0 a0 (yAb Q) (yAc Q)⟩]
def ypA (a0:yaK):LP:=lpS [(12157600,yrG a0),(12157601,yrH a0)]
def yld (e:Es) (a0:yaK):SE:=sE (E e) [(ydA,ytN.pw a0)] (ypA a0)
theorem ynD (e:Es) (he:EG e):SEOk (Uni (E e)) (yld e yaU):=yaE (Sub.uni _) ⟨(yeg e he),trivial⟩ trivial he.ok
theorem yyw (e:Es) (a0):ycr (yld e a0) 5 a yur false (yrG a0):=fun _=>⟨fun _=>by kernel_rfl,fun _ _=>by kernel_rfl,trivial⟩
theorem yyx (e:Es) (he:EG e):LpT (Uni (E e)) (ypA yaU) [] 12157600 (.loop 12157600 yur):=fun _ _ _=>yp8.st (Sub.uni _) (yaW (ynD e he) 5) (YOk.no _ _) (yar (by kernel_rfl)) (yyw e _ _)
theorem yyy (e:Es) (a0):ycr (yld e a0) 5 a yus false (yrH a0):=fun _=>⟨fun _=>by kernel_rfl,fun _ _=>by kernel_rfl,trivial⟩
theorem yyz (e:Es) (he:EG e):LpT (Uni (E e)) (ypA yaU) [] 12157601 (.loop 12157601 yus):=fun _ _ _=>yp8.st (Sub.uni _) (yaW (ynD e he) 5) (YOk.no _ _) (yar (by kernel_rfl)) (yyy e _ _)
theorem yF9 (e:Es) (a0):EqW (yld e a0) 6 yrd ypz (ypy a0):=fun _ _=>by kernel_rfl
theorem yfV (e:Es) (he:EG e):OkF (E e) (ypz.pw ybU) yeO:=okU he (yF9 e _) (ynD e he) yp9.flat (ybg (l:=[(12157600,.loop 12157600 yur),(12157601,.loop 12157601 yus)]) ⟨yyx e he,yyz e he,trivial⟩ (by kernel_rfl))
abbrev ybK:Type:=Ls→Ls→Int→(Bool→Prop)→Prop
def yiP (p0 p1:Ls) (p2:Int) (K:Bool→Prop):Prop :=
 (cbr (decide (p2≥(0:Int)))
 (K (decide (p2<(((List.length p0):Nat):Int))))
 (K false))
def ybS:ybK:=yiP
def ywN:Sg:=⟨(lC pt28 pt1),Bool→Prop,fun K=>(fun r0=>K (.bool r0))⟩
def ywO (e:Es):SE:=sE (E e) [] lp0
theorem ywP (e:Es):EqW (ywO e) 6 yx6 ywN yiP:=fun _ _=>by kernel_rfl
theorem ygw (e:Es) (he:EG e):OkF (E e) (ywN.pw ybS) yds:=okU he (ywP e) (yaE (Sub.uni _) trivial trivial he.ok) yp9.flat (yar (by kernel_rfl))
abbrev yrI:Type:=Ls→Ls→Int→(Int→Int→Prop)→Prop
def ypB (a0:yav) (a1:ybK) (a2:yaJ) (p0 p1:Ls) (p2:Int) (K:Int→Int→Prop):Prop :=
 (a0 p0 p1 (fun b =>
 (cbr (b !=(0:Int))
 (K (0:Int) b)
 (a1 p0 p1 p2 (fun c =>
 (cbr (!c)
 (K (0:Int) (2:Int))
 (asr (decide ((0:Int)≤p2))
 (asr (decide (p2<(((List.length p0):Nat):Int)))
 (lt (List.getD p0 (p2.toNat) .nils) (fun a =>
 (asr (conf zK a)
 (a2 (yaa (yab a 0)) (yaY (yab a 1)) (yaY (yab a 2)) (fun d e =>
 (K d e))))))))))))))
def ym6:yrI:=ypB ybU ybS yan
def yGa:Sg:=⟨(lC pt28 pt1),Int→Int→Prop,fun K=>(fun r0 r1=>K (.tup [(.int .i64 r0),(.int .i64 r1)]))⟩
def yGb (e:Es) (a0:yav) (a1:ybK) (a2:yaJ):SE:=sE (E e) [(yeO,ypz.pw a0),(yds,ywN.pw a1),(ydB,yDH.pw a2)] lp0
theorem yGc (e:Es) (a0 a1 a2):EqW (yGb e a0 a1 a2) 6 yHz yGa (ypB a0 a1 a2):=fun _ _=>by kernel_rfl
theorem yGd (e:Es) (he:EG e):OkF (E e) (yGa.pw ym6) ymV:=okU he (yGc e _ _ _) (yaE (Sub.uni _) ⟨(yfV e he),(ygw e he),(yeh e he),trivial⟩ trivial he.ok) yp9.flat (yar (by kernel_rfl))
abbrev yba:Type:=Ls→Ls→Int→Int→Int→Int→Int→(Int→Int→Int→Prop)→Prop
def yfW (a0:ydi) (p0 p1:Ls) (p2 p3 p4 p5 p6:Int) (K:Int→Int→Int→Prop):Prop :=
 (asr (decide ((0:Int)≤p2))
 (asr (decide (p2<(((List.length p0):Nat):Int)))
 (asr (conf zK (List.getD p0 (p2.toNat) .nils))
 (a0 (yaa (yab (List.getD p0 (p2.toNat) .nils) 0)) (yaY (yab (List.getD p0 (p2.toNat) .nils) 1)) (yaY (yab (List.getD p0 (p2.toNat) .nils) 2)) p3 p4 p5 p6 (fun a b c =>
 (K a b c))))))
def ycn:yba:=yfW yie
def pt29:LPt:=lC pt28 (lC pt0 pt10)
def ylU:Sg:=⟨pt29,Int→Int→Int→Prop,fun K=>(fun r0 r1 r2=>K (.tup [(.agg [(.int .i64 r0),(.int .i64 r1)]),(.int .i64 r2)]))⟩
def yvh (e:Es) (a0:ydi):SE:=sE (E e) [(ymW,ywz.pw a0)] lp0
theorem yvi (e:Es) (a0):EqW (yvh e a0) 6 ywk ylU (yfW a0):=fun _ _=>by kernel_rfl
theorem ylV (e:Es) (he:EG e):OkF (E e) (ylU.pw ycn) yeU:=okU he (yvi e _) (yaE (Sub.uni _) ⟨(ywC e he),trivial⟩ trivial he.ok) yp9.flat (yar (by kernel_rfl))
mutual
def yg9 (a0:ydR) (x0:Ls→Ls→Int→Int→Bool→Prop) (x1:Ls→Int→Int→Bool→Prop):Nat→Ls→Int→Int→Prop
 | 0,_,_,_=>False
 | n+1,l0,i1,i2 =>
 (cbr (decide (i2<i1))
 (asr (decide ((0:Int)≤i2))
 (asr (decide (i2<(((List.length l0):Nat):Int)))
 (asr (conf zK (List.getD l0 (i2.toNat) .nils))
 (a0 (yaY (yab (List.getD l0 (i2.toNat) .nils) 1)) (fun a =>
 (a0 (yaY (yab (List.getD l0 (i2.toNat) .nils) 2)) (fun b =>
 (asr (decide (1=List.length ([(.agg [(.int .i64 (yaa (yab (List.getD l0 (i2.toNat) .nils) 0))),(.data a),(.data b)])]:Ls))&&decide (1=List.length ([(.agg [(.int .i64 (yaa (yab (List.getD l0 (i2.toNat) .nils) 0))),(.data a),(.data b)])]:Ls)))
 (yen a0 x0 x1 n ([(.agg [(.int .i64 (yaa (yab (List.getD l0 (i2.toNat) .nils) 0))),(.data a),(.data b)])]:Ls) l0 i1 (IntKind.i64.wrap (i2+(1:Int))))))))))))
 (x1 l0 i1 i2 false))
def yen (a0:ydR) (x0:Ls→Ls→Int→Int→Bool→Prop) (x1:Ls→Int→Int→Bool→Prop):Nat→Ls→Ls→Int→Int→Prop
 | 0,_,_,_,_=>False
 | n+1,l0,l3,i4,i5 =>
 (cbr (decide (i5<i4))
 (asr (decide ((0:Int)≤i5))
 (asr (decide (i5<(((List.length l3):Nat):Int)))
 (asr (conf zK (List.getD l3 (i5.toNat) .nils))
 (a0 (yaY (yab (List.getD l3 (i5.toNat) .nils) 1)) (fun a =>
 (a0 (yaY (yab (List.getD l3 (i5.toNat) .nils) 2)) (fun b =>
 (asr (decide ((List.length l0)=(List.length l0)))
 (asr (decide ((0+(List.length l0))≤(List.length l0)))
 (asr (!(decide (((0+(List.length l0))+1)≤(List.length l0))))
 (asr (decide ((List.length l0)=(List.length l0)))
 (asr (decide ((((List.length l0)+1)+64)*(56+1)≤room))
 (asr (decide ((List.length (l0++([(.agg [(.int .i64 (yaa (yab (List.getD l3 (i5.toNat) .nils) 0))),(.data a),(.data b)])]:Ls)))=List.length (l0++([(.agg [(.int .i64 (yaa (yab (List.getD l3 (i5.toNat) .nils) 0))),(.data a),(.data b)])]:Ls)))&&decide ((List.length (l0++([(.agg [(.int .i64 (yaa (yab (List.getD l3 (i5.toNat) .nils) 0))),(.data a),(.data b)])]:Ls)))=List.length (l0++([(.agg [(.int .i64 (yaa (yab (List.getD l3 (i5.toNat) .nils) 0))),(.data a),(.data b)])]:Ls))))
 (yen a0 x0 x1 n (l0++([(.agg [(.int .i64 (yaa (yab (List.getD l3 (i5.toNat) .nils) 0))),(.data a),(.data b)])]:Ls)) l3 i4 (IntKind.i64.wrap (i5+(1:Int)))))))))))))))))
 (x0 l0 l3 i4 i5 false))
end
def ynE (a0:ydR) (p0:Ls) (K:Ls→Prop):Prop :=
 (∃ n:Nat,yg9 a0
 (fun a b c d e=>(asr (decide ((List.length a)=(List.length a)))
 (asr (decide ((0+(List.length a))≤(List.length a)))
 (K (List.take (List.length a) a)))))
 (fun f g h i=>(K ([]:Ls)))
 n p0 (((List.length p0):Nat):Int) (0:Int))
def yfX:yaL:=ynE yeX
def yoB (Q:Qx):Ls→Ls→Int→Int→Bool→Prop:=(fun l0 l3 i4 i5 b6=>Q (.exit 0) [(3,.v (.own 0 0 (List.length l0) (List.length l0) none)),(6,.v (.data l3)),(7,.v (.int .i64 i4)),(8,.v (.int .i64 i5)),(9,.v (.bool b6))] [⟨false,true,3,l0⟩])
def yoC (Q:Qx):Ls→Int→Int→Bool→Prop:=(fun l0 i1 i2 b3=>Q (.exit 0) [(3,.v .nils),(6,.v (.data l0)),(7,.v (.int .i64 i1)),(8,.v (.int .i64 i2)),(9,.v (.bool b3))] [])
def yqo (a0:ydR) (Q:Qx):List St:=[⟨(pS hN (fV 3 vNs (fV 6 vD pt8)) fN),yg9 a0 (yoB Q) (yoC Q)⟩,⟨(pS (hB false true 3 rA hN) (fV 3 pt24 (fV 6 vD pt8)) fN),yen a0 (yoB Q) (yoC Q)⟩]
def ytU (a0:ydR):LP:=lpS [(94933800,yqo a0)]
def ynF (e:Es) (a0:ydR):SE:=sE (E e) [(yeV,yu0 a0)] (ytU a0)
theorem yrJ (e:Es) (he:EG e):SEOk (Uni (E e)) (ynF e yeX):=yaE (Sub.uni _) ⟨(yu2 e he),trivial⟩ trivial he.ok
theorem ywQ (e:Es) (a0):ycr (ynF e a0) 5 a yuC false (yqo a0):=fun _=>⟨fun _=>by kernel_rfl,fun _ _=>by kernel_rfl,fun _=>by kernel_rfl,fun _ _=>by kernel_rfl,trivial⟩
theorem ywR (e:Es) (he:EG e):LpT (Uni (E e)) (ytU yeX) [] 94933800 (.loop 94933800 yuC):=fun _ _ _=>yp8.st (Sub.uni _) (yaW (yrJ e he) 5) (YOk.no _ _) (yar (by kernel_rfl)) (ywQ e _ _)
theorem yDX (e:Es) (a0):EqW (ynF e a0) 6 ywl ykK (ynE a0):=fun _ _=>by kernel_rfl
theorem ynG (e:Es) (he:EG e):OkF (E e) (ykK.pw yfX) yiy:=okU he (yDX e _) (yrJ e he) yp9.flat (ybg (l:=[(94933800,.loop 94933800 yuC)]) ⟨ywR e he,trivial⟩ (by kernel_rfl))
abbrev yby:Type:=Ls→Ls→Int→Int→Int→Int→Int→(Ls→Ls→Int→Int→Int→Prop)→Prop
def yrK (a0:yav) (a1:ybK) (a2:yba) (a3:yaL) (p0 p1:Ls) (p2 p3 p4 p5 p6:Int) (K:Ls→Ls→Int→Int→Int→Prop):Prop :=
 (a0 p0 p1 (fun c =>
 (cbr (c !=(0:Int))
 (K ([]:Ls) ([]:Ls) (0:Int) (0:Int) c)
 (a1 p0 p1 p2 (fun f =>
 (cbr (!f)
 (K ([]:Ls) ([]:Ls) (0:Int) (0:Int) (2:Int))
 (a2 p0 p1 p2 p3 p4 p5 p6 (fun a b d =>
 (cbr (d !=(0:Int))
 (K ([]:Ls) ([]:Ls) (0:Int) (0:Int) d)
 (cbr (decide ((((List.length p1):Nat):Int)≥(2000:Int)))
 (K ([]:Ls) ([]:Ls) (0:Int) (0:Int) (4:Int))
 (asr (decide ((0:Int)≤(IntKind.i64.wrap ((((List.length p1):Nat):Int)+(1:Int)))))
 (asr (decide ((((IntKind.i64.wrap ((((List.length p1):Nat):Int)+(1:Int))).toNat)+64)*(64+1)≤room))
 (a3 p0 (fun e =>
 (asr (yd6 8 p1)
 (asr (decide ((List.length (List.replicate ((IntKind.i64.wrap ((((List.length p1):Nat):Int)+(1:Int))).toNat) ((.agg [(.int .i64 (0)),(.int .u8 (0)),(.int .i64 (0)),(.int .i64 (0)),(.int .i64 (0)),(.int .i64 (0)),(.int .i64 (0)),(.int .i64 (0))]):PV)))=((IntKind.i64.wrap ((((List.length p1):Nat):Int)+(1:Int))).toNat)))
 (asr (decide (0≤((IntKind.i64.wrap ((((List.length p1):Nat):Int)+(1:Int))).toNat)))
 (cbr (List.isEmpty p1)
 (asr (decide ((List.length (List.replicate ((IntKind.i64.wrap ((((List.length p1):Nat):Int)+(1:Int))).toNat) ((.agg [(.int .i64 (0)),(.int .u8 (0)),(.int .i64 (0)),(.int .i64 (0)),(.int .i64 (0)),(.int .i64 (0)),(.int .i64 (0)),(.int .i64 (0))]):PV)))=((IntKind.i64.wrap ((((List.length p1):Nat):Int)+(1:Int))).toNat)))
 (asr (decide (0≤((IntKind.i64.wrap ((((List.length p1):Nat):Int)+(1:Int))).toNat)))
 (asr (decide (1≤((IntKind.i64.wrap ((((List.length p1):Nat):Int)+(1:Int))).toNat)))
 (asr (decide ((List.length (([(.agg [(.int .i64 p2),(.int .u8 (2:Int)),(.int .i64 p3),(.int .i64 p4),(.int .i64 p5),(.int .i64 p6),(.int .i64 a),(.int .i64 b)])]:Ls)++(List.drop 1 (List.replicate ((IntKind.i64.wrap ((((List.length p1):Nat):Int)+(1:Int))).toNat) ((.agg [(.int .i64 (0)),(.int .u8 (0)),(.int .i64 (0)),(.int .i64 (0)),(.int .i64 (0)),(.int .i64 (0)),(.int .i64 (0)),(.int .i64 (0))]):PV)))))=((IntKind.i64.wrap ((((List.length p1):Nat):Int)+(1:Int))).toNat)))
 (asr (decide (1≤((IntKind.i64.wrap ((((List.length p1):Nat):Int)+(1:Int))).toNat)))
 (K e (List.take 1 (([(.agg [(.int .i64 p2),(.int .u8 (2:Int)),(.int .i64 p3),(.int .i64 p4),(.int .i64 p5),(.int .i64 p6),(.int .i64 a),(.int .i64 b)])]:Ls)++(List.drop 1 (List.replicate ((IntKind.i64.wrap ((((List.length p1):Nat):Int)+(1:Int))).toNat) ((.agg [(.int .i64 (0)),(.int .u8 (0)),(.int .i64 (0)),(.int .i64 (0)),(.int .i64 (0)),(.int .i64 (0)),(.int .i64 (0)),(.int .i64 (0))]):PV))))) a b (0:Int)))))))
 (asr (decide ((0+(List.length p1))≤((IntKind.i64.wrap ((((List.length p1):Nat):Int)+(1:Int))).toNat)))
 (asr (decide ((List.length (p1++(List.drop (0+(List.length p1)) (List.replicate ((IntKind.i64.wrap ((((List.length p1):Nat):Int)+(1:Int))).toNat) ((.agg [(.int .i64 (0)),(.int .u8 (0)),(.int .i64 (0)),(.int .i64 (0)),(.int .i64 (0)),(.int .i64 (0)),(.int .i64 (0)),(.int .i64 (0))]):PV)))))=((IntKind.i64.wrap ((((List.length p1):Nat):Int)+(1:Int))).toNat)))
 (asr (decide ((0+(0+(List.length p1)))≤((IntKind.i64.wrap ((((List.length p1):Nat):Int)+(1:Int))).toNat)))
 (asr (decide (((0+(List.length p1))+1)≤((IntKind.i64.wrap ((((List.length p1):Nat):Int)+(1:Int))).toNat)))
 (asr (decide ((List.length ((List.take (0+(0+(List.length p1))) (p1++(List.drop (0+(List.length p1)) (List.replicate ((IntKind.i64.wrap ((((List.length p1):Nat):Int)+(1:Int))).toNat) ((.agg [(.int .i64 (0)),(.int .u8 (0)),(.int .i64 (0)),(.int .i64 (0)),(.int .i64 (0)),(.int .i64 (0)),(.int .i64 (0)),(.int .i64 (0))]):PV)))))++(([(.agg [(.int .i64 p2),(.int .u8 (2:Int)),(.int .i64 p3),(.int .i64 p4),(.int .i64 p5),(.int .i64 p6),(.int .i64 a),(.int .i64 b)])]:Ls)++(List.drop ((0+(0+(List.length p1)))+1) (p1++(List.drop (0+(List.length p1)) (List.replicate ((IntKind.i64.wrap ((((List.length p1):Nat):Int)+(1:Int))).toNat) ((.agg [(.int .i64 (0)),(.int .u8 (0)),(.int .i64 (0)),(.int .i64 (0)),(.int .i64 (0)),(.int .i64 (0)),(.int .i64 (0)),(.int .i64 (0))]):PV))))))))=((IntKind.i64.wrap ((((List.length p1):Nat):Int)+(1:Int))).toNat)))
 (asr (decide ((0+((0+(List.length p1))+1))≤((IntKind.i64.wrap ((((List.length p1):Nat):Int)+(1:Int))).toNat)))
 (K e (List.take ((0+(List.length p1))+1) ((List.take (0+(0+(List.length p1))) (p1++(List.drop (0+(List.length p1)) (List.replicate ((IntKind.i64.wrap ((((List.length p1):Nat):Int)+(1:Int))).toNat) ((.agg [(.int .i64 (0)),(.int .u8 (0)),(.int .i64 (0)),(.int .i64 (0)),(.int .i64 (0)),(.int .i64 (0)),(.int .i64 (0)),(.int .i64 (0))]):PV)))))++(([(.agg [(.int .i64 p2),(.int .u8 (2:Int)),(.int .i64 p3),(.int .i64 p4),(.int .i64 p5),(.int .i64 p6),(.int .i64 a),(.int .i64 b)])]:Ls)++(List.drop ((0+(0+(List.length p1)))+1) (p1++(List.drop (0+(List.length p1)) (List.replicate ((IntKind.i64.wrap ((((List.length p1):Nat):Int)+(1:Int))).toNat) ((.agg [(.int .i64 (0)),(.int .u8 (0)),(.int .i64 (0)),(.int .i64 (0)),(.int .i64 (0)),(.int .i64 (0)),(.int .i64 (0)),(.int .i64 (0))]):PV)))))))) a b (0:Int))))))))))))))))))))))))))
def ygN:yby:=yrK ybU ybS ycn yfX
def yzy:Sg:=⟨pt29,Ls→Ls→Int→Int→Int→Prop,fun K=>(fun r0 r1 r2 r3 r4=>K (.tup [(.agg [(.data r0),(.data r1)]),(.agg [(.int .i64 r2),(.int .i64 r3)]),(.int .i64 r4)]))⟩
def yHJ (e:Es) (a0:yav) (a1:ybK) (a2:yba) (a3:yaL):SE:=⟨(E e),ydO [(yeO,ypz.pw a0),(yds,ywN.pw a1),(yeU,ylU.pw a2),(yiy,ykK.pw a3)],ydP [(yjH,yor)],lp0,fun _=>none⟩
theorem yHK (e:Es) (a0 a1 a2 a3):EqW (yHJ e a0 a1 a2 a3) 6 yIR yzy (yrK a0 a1 a2 a3):=fun _ _=>by kernel_rfl
theorem yzz (e:Es) (he:EG e):OkF (E e) (yzy.pw ygN) ypc:=okU he (yHK e _ _ _ _) (yaE (Sub.uni _) ⟨(yfV e he),(ygw e he),(ylV e he),(ynG e he),trivial⟩ ⟨⟨by kernel_rfl,by kernel_rfl,rfl,fun az=>yaN (by kernel_rfl) az,he.num _ (by kernel_rfl),by kernel_rfl,(yar (by kernel_rfl))⟩,trivial⟩ he.ok) yp9.flat (yar (by kernel_rfl))
def yfi (a0:ydi) (p0 p1:Ls) (p2 p3 p4 p5 p6:Int) (K:Int→Int→Int→Prop):Prop :=
 (asr (decide ((0:Int)≤p2))
 (asr (decide (p2<(((List.length p0):Nat):Int)))
 (asr (conf zK (List.getD p0 (p2.toNat) .nils))
 (a0 (yaa (yab (List.getD p0 (p2.toNat) .nils) 0)) (yaY (yab (List.getD p0 (p2.toNat) .nils) 1)) (yaY (yab (List.getD p0 (p2.toNat) .nils) 2)) p3 p4 p5 p6 (fun a b c =>
 (K a b c))))))
def ybY:yba:=yfi ybO
def ys9 (e:Es) (a0:ydi):SE:=sE (E e) [(yg4,ywz.pw a0)] lp0
theorem yta (e:Es) (a0):EqW (ys9 e a0) 6 yuE ylU (yfi a0):=fun _ _=>by kernel_rfl
theorem ykV (e:Es) (he:EG e):OkF (E e) (ylU.pw ybY) yer:=okU he (yta e _) (yaE (Sub.uni _) ⟨(ykh e he),trivial⟩ trivial he.ok) yp9.flat (yar (by kernel_rfl))
def ypC (a0:yav) (a1:ybK) (a2:yba) (a3:yaL) (p0 p1:Ls) (p2 p3 p4 p5 p6:Int) (K:Ls→Ls→Int→Int→Int→Prop):Prop :=
 (a0 p0 p1 (fun c =>
 (cbr (c !=(0:Int))
 (K ([]:Ls) ([]:Ls) (0:Int) (0:Int) c)
 (a1 p0 p1 p2 (fun f =>
 (cbr (!f)
 (K ([]:Ls) ([]:Ls) (0:Int) (0:Int) (2:Int))
 (a2 p0 p1 p2 p3 p4 p5 p6 (fun a b d =>
 (cbr (d !=(0:Int))
 (K ([]:Ls) ([]:Ls) (0:Int) (0:Int) d)
 (cbr (decide ((((List.length p1):Nat):Int)≥(2000:Int)))
 (K ([]:Ls) ([]:Ls) (0:Int) (0:Int) (4:Int))
 (asr (decide ((0:Int)≤(IntKind.i64.wrap ((((List.length p1):Nat):Int)+(1:Int)))))
 (asr (decide ((((IntKind.i64.wrap ((((List.length p1):Nat):Int)+(1:Int))).toNat)+64)*(64+1)≤room))
 (a3 p0 (fun e =>
 (asr (yd6 8 p1)
 (asr (decide ((List.length (List.replicate ((IntKind.i64.wrap ((((List.length p1):Nat):Int)+(1:Int))).toNat) ((.agg [(.int .i64 (0)),(.int .u8 (0)),(.int .i64 (0)),(.int .i64 (0)),(.int .i64 (0)),(.int .i64 (0)),(.int .i64 (0)),(.int .i64 (0))]):PV)))=((IntKind.i64.wrap ((((List.length p1):Nat):Int)+(1:Int))).toNat)))
 (asr (decide (0≤((IntKind.i64.wrap ((((List.length p1):Nat):Int)+(1:Int))).toNat)))
 (cbr (List.isEmpty p1)
 (asr (decide ((List.length (List.replicate ((IntKind.i64.wrap ((((List.length p1):Nat):Int)+(1:Int))).toNat) ((.agg [(.int .i64 (0)),(.int .u8 (0)),(.int .i64 (0)),(.int .i64 (0)),(.int .i64 (0)),(.int .i64 (0)),(.int .i64 (0)),(.int .i64 (0))]):PV)))=((IntKind.i64.wrap ((((List.length p1):Nat):Int)+(1:Int))).toNat)))
 (asr (decide (0≤((IntKind.i64.wrap ((((List.length p1):Nat):Int)+(1:Int))).toNat)))
 (asr (decide (1≤((IntKind.i64.wrap ((((List.length p1):Nat):Int)+(1:Int))).toNat)))
 (asr (decide ((List.length (([(.agg [(.int .i64 p2),(.int .u8 (1:Int)),(.int .i64 p3),(.int .i64 p4),(.int .i64 p5),(.int .i64 p6),(.int .i64 a),(.int .i64 b)])]:Ls)++(List.drop 1 (List.replicate ((IntKind.i64.wrap ((((List.length p1):Nat):Int)+(1:Int))).toNat) ((.agg [(.int .i64 (0)),(.int .u8 (0)),(.int .i64 (0)),(.int .i64 (0)),(.int .i64 (0)),(.int .i64 (0)),(.int .i64 (0)),(.int .i64 (0))]):PV)))))=((IntKind.i64.wrap ((((List.length p1):Nat):Int)+(1:Int))).toNat)))
 (asr (decide (1≤((IntKind.i64.wrap ((((List.length p1):Nat):Int)+(1:Int))).toNat)))
 (K e (List.take 1 (([(.agg [(.int .i64 p2),(.int .u8 (1:Int)),(.int .i64 p3),(.int .i64 p4),(.int .i64 p5),(.int .i64 p6),(.int .i64 a),(.int .i64 b)])]:Ls)++(List.drop 1 (List.replicate ((IntKind.i64.wrap ((((List.length p1):Nat):Int)+(1:Int))).toNat) ((.agg [(.int .i64 (0)),(.int .u8 (0)),(.int .i64 (0)),(.int .i64 (0)),(.int .i64 (0)),(.int .i64 (0)),(.int .i64 (0)),(.int .i64 (0))]):PV))))) a b (0:Int)))))))
 (asr (decide ((0+(List.length p1))≤((IntKind.i64.wrap ((((List.length p1):Nat):Int)+(1:Int))).toNat)))
 (asr (decide ((List.length (p1++(List.drop (0+(List.length p1)) (List.replicate ((IntKind.i64.wrap ((((List.length p1):Nat):Int)+(1:Int))).toNat) ((.agg [(.int .i64 (0)),(.int .u8 (0)),(.int .i64 (0)),(.int .i64 (0)),(.int .i64 (0)),(.int .i64 (0)),(.int .i64 (0)),(.int .i64 (0))]):PV)))))=((IntKind.i64.wrap ((((List.length p1):Nat):Int)+(1:Int))).toNat)))
 (asr (decide ((0+(0+(List.length p1)))≤((IntKind.i64.wrap ((((List.length p1):Nat):Int)+(1:Int))).toNat)))
 (asr (decide (((0+(List.length p1))+1)≤((IntKind.i64.wrap ((((List.length p1):Nat):Int)+(1:Int))).toNat)))
 (asr (decide ((List.length ((List.take (0+(0+(List.length p1))) (p1++(List.drop (0+(List.length p1)) (List.replicate ((IntKind.i64.wrap ((((List.length p1):Nat):Int)+(1:Int))).toNat) ((.agg [(.int .i64 (0)),(.int .u8 (0)),(.int .i64 (0)),(.int .i64 (0)),(.int .i64 (0)),(.int .i64 (0)),(.int .i64 (0)),(.int .i64 (0))]):PV)))))++(([(.agg [(.int .i64 p2),(.int .u8 (1:Int)),(.int .i64 p3),(.int .i64 p4),(.int .i64 p5),(.int .i64 p6),(.int .i64 a),(.int .i64 b)])]:Ls)++(List.drop ((0+(0+(List.length p1)))+1) (p1++(List.drop (0+(List.length p1)) (List.replicate ((IntKind.i64.wrap ((((List.length p1):Nat):Int)+(1:Int))).toNat) ((.agg [(.int .i64 (0)),(.int .u8 (0)),(.int .i64 (0)),(.int .i64 (0)),(.int .i64 (0)),(.int .i64 (0)),(.int .i64 (0)),(.int .i64 (0))]):PV))))))))=((IntKind.i64.wrap ((((List.length p1):Nat):Int)+(1:Int))).toNat)))
 (asr (decide ((0+((0+(List.length p1))+1))≤((IntKind.i64.wrap ((((List.length p1):Nat):Int)+(1:Int))).toNat)))
 (K e (List.take ((0+(List.length p1))+1) ((List.take (0+(0+(List.length p1))) (p1++(List.drop (0+(List.length p1)) (List.replicate ((IntKind.i64.wrap ((((List.length p1):Nat):Int)+(1:Int))).toNat) ((.agg [(.int .i64 (0)),(.int .u8 (0)),(.int .i64 (0)),(.int .i64 (0)),(.int .i64 (0)),(.int .i64 (0)),(.int .i64 (0)),(.int .i64 (0))]):PV)))))++(([(.agg [(.int .i64 p2),(.int .u8 (1:Int)),(.int .i64 p3),(.int .i64 p4),(.int .i64 p5),(.int .i64 p6),(.int .i64 a),(.int .i64 b)])]:Ls)++(List.drop ((0+(0+(List.length p1)))+1) (p1++(List.drop (0+(List.length p1)) (List.replicate ((IntKind.i64.wrap ((((List.length p1):Nat):Int)+(1:Int))).toNat) ((.agg [(.int .i64 (0)),(.int .u8 (0)),(.int .i64 (0)),(.int .i64 (0)),(.int .i64 (0)),(.int .i64 (0)),(.int .i64 (0)),(.int .i64 (0))]):PV)))))))) a b (0:Int))))))))))))))))))))))))))
def yat:yby:=ypC ybU ybS ybY yfX
def yGe (e:Es) (a0:yav) (a1:ybK) (a2:yba) (a3:yaL):SE:=⟨(E e),ydO [(yeO,ypz.pw a0),(yds,ywN.pw a1),(yer,ylU.pw a2),(yiy,ykK.pw a3)],ydP [(yjH,yor)],lp0,fun _=>none⟩
theorem yGf (e:Es) (a0 a1 a2 a3):EqW (yGe e a0 a1 a2 a3) 6 yHH yzy (ypC a0 a1 a2 a3):=fun _ _=>by kernel_rfl
theorem yiQ (e:Es) (he:EG e):OkF (E e) (yzy.pw yat) ygD:=okU he (yGf e _ _ _ _) (yaE (Sub.uni _) ⟨(yfV e he),(ygw e he),(ykV e he),(ynG e he),trivial⟩ ⟨⟨by kernel_rfl,by kernel_rfl,rfl,fun az=>yaN (by kernel_rfl) az,he.num _ (by kernel_rfl),by kernel_rfl,(yar (by kernel_rfl))⟩,trivial⟩ he.ok) yp9.flat (yar (by kernel_rfl))
abbrev yha:Type:=Ls→Ls→(Int→Int→Prop)→Prop
def yeo (a0:yav) (a1:ybK) (a2:yba) (a3:yba) (x0:Ls→Ls→Ls→Ls→Int→Int→Bool→Prop) (x1:Int→Int→Prop):Nat→Ls→Ls→Ls→Ls→Int→Int→Prop
 | 0,_,_,_,_,_,_=>False
 | n+1,l0,l1,l2,l3,i4,i5 =>
 (cbr (decide (i5<i4))
 (jn (fun d =>
 (asr (decide ((0:Int)≤i5))
 (asr (decide (i5<(((List.length l3):Nat):Int)))
 (lt (List.getD l3 (i5.toNat) .nils) (fun a =>
 (asr (conf (.agg [.i .i64,.i .u8,.i .i64,.i .i64,.i .i64,.i .i64,.i .i64,.i .i64]) a)
 (cbr ((yaa (yab a 1)) ==(2:Int))
 (jn (fun (b:Bool→Prop) =>
 (a1 l1 l2 (yaa (yab a 0)) (fun g =>
 (cbr (!g)
 (b true)
 (cbr (decide ((yaa (yab a 1))<(1:Int)))
 (b true)
 (b (decide ((yaa (yab a 1))>(2:Int)))))))))
 (fun h=>(cbr h
 (x1 i5 (0:Int))
 (a2 l1 l2 (yaa (yab a 0)) (yaa (yab a 2)) (yaa (yab a 3)) (yaa (yab a 4)) (yaa (yab a 5)) (fun j k l =>
 (jn (fun (e:Bool→Prop) =>
 (cbr (l !=(0:Int))
 (e true)
 (e (!((j ==(yaa (yab a 6)))&&((k ==(yaa (yab a 7)))&&true))))))
 (fun m=>(cbr m
 (x1 i5 (0:Int))
 d))))))))
 (jn (fun (c:Bool→Prop) =>
 (a1 l1 l2 (yaa (yab a 0)) (fun o =>
 (cbr (!o)
 (c true)
 (cbr (decide ((yaa (yab a 1))<(1:Int)))
 (c true)
 (c (decide ((yaa (yab a 1))>(2:Int)))))))))
 (fun p=>(cbr p
 (x1 i5 (0:Int))
 (a3 l1 l2 (yaa (yab a 0)) (yaa (yab a 2)) (yaa (yab a 3)) (yaa (yab a 4)) (yaa (yab a 5)) (fun q r s =>
 (jn (fun (f:Bool→Prop) =>
 (cbr (s !=(0:Int))
 (f true)
 (f (!((q ==(yaa (yab a 6)))&&((r ==(yaa (yab a 7)))&&true))))))
 (fun t=>(cbr t
 (x1 i5 (0:Int))
 d)))))))))))))))
 (lt (IntKind.i64.wrap (i5+(1:Int))) (fun u =>
 (yeo a0 a1 a2 a3 x0 x1 n l0 l1 l2 l3 i4 u))))
 (x0 l0 l1 l2 l3 i4 i5 false))
def ynH (a0:yav) (a1:ybK) (a2:yba) (a3:yba) (p0 p1:Ls) (K:Int→Int→Prop):Prop :=
 (a0 p0 p1 (fun a =>
 (cbr (a !=(0:Int))
 (K (0:Int) a)
 (∃ n:Nat,yeo a0 a1 a2 a3
 (fun b e f g h i j=>(K (((List.length b):Nat):Int) (0:Int)))
 (fun c d=>(K c d))
 n p1 p0 p1 p1 (((List.length p1):Nat):Int) (0:Int)))))
def ye1:yha:=ynH ybU ybS ycn ybY
def yDY:Sg:=⟨pt13,Int→Int→Prop,fun K=>(fun r0 r1=>K (.tup [(.int .i64 r0),(.int .i64 r1)]))⟩
def yyA (Q:Qx):Ls→Ls→Ls→Ls→Int→Int→Bool→Prop:=(fun l0 l1 l2 l3 i4 i5 b6=>Q (.exit 0) [(1,.v (.data l0)),(6,.box (.agg [(.data l1),(.data l2)])),(25,.v (.data l3)),(26,.v (.int .i64 i4)),(27,.v (.int .i64 i5)),(28,.v (.bool b6))] [])
def yyB (Q:Qx):Int→Int→Prop:=(fun i0 i1=>Q .ret [(4,.v (.int .i64 i0)),(5,.v (.int .i64 i1))] [])
def pt30:Pat Frm:=fV 25 vD (fV 26 pt0 (fV 27 pt0 fN))
def yqp (a0:yav) (a1:ybK) (a2:yba) (a3:yba) (Q:Qx):List St:=[⟨(pS hN (fV 1 vD (fX 6 pt28 pt30)) fN),yeo a0 a1 a2 a3 (yyA Q) (yyB Q)⟩]
def ytV (a0:yav) (a1:ybK) (a2:yba) (a3:yba):LP:=lpS [(47732200,yqp a0 a1 a2 a3)]
def ynI (e:Es) (a0:yav) (a1:ybK) (a2:yba) (a3:yba):SE:=sE (E e) [(yeO,ypz.pw a0),(yds,ywN.pw a1),(yeU,ylU.pw a2),(yer,ylU.pw a3)] (ytV a0 a1 a2 a3)
theorem yrL (e:Es) (he:EG e):SEOk (Uni (E e)) (ynI e ybU ybS ycn ybY):=yaE (Sub.uni _) ⟨(yfV e he),(ygw e he),(ylV e he),(ykV e he),trivial⟩ trivial he.ok
theorem ywS (e:Es) (a0 a1 a2 a3):ycr (ynI e a0 a1 a2 a3) 5 a yuN false (yqp a0 a1 a2 a3):=fun _=>⟨fun _=>by kernel_rfl,fun _ _=>by kernel_rfl,trivial⟩
theorem ywT (e:Es) (he:EG e):LpT (Uni (E e)) (ytV ybU ybS ycn ybY) [] 47732200 (.loop 47732200 yuN):=fun _ _ _=>yp8.st (Sub.uni _) (yaW (yrL e he) 5) (YOk.no _ _) (yar (by kernel_rfl)) (ywS e _ _ _ _ _)
theorem yDZ (e:Es) (a0 a1 a2 a3):EqW (ynI e a0 a1 a2 a3) 6 ywn yDY (ynH a0 a1 a2 a3):=fun _ _=>by kernel_rfl
theorem ytW (e:Es) (he:EG e):OkF (E e) (yDY.pw ye1) yk7:=okU he (yDZ e _ _ _ _) (yrL e he) yp9.flat (ybg (l:=[(47732200,.loop 47732200 yuN)]) ⟨ywT e he,trivial⟩ (by kernel_rfl))
set_option linter.unusedVariables false
theorem yD0 (p0:Ls) (p1:Ls) (r0:Int) (h:∀ K:Int→Prop,K r0→ybU p0 p1 K) (K:Int→Prop):ybU p0 p1 K=K r0 :=
 propext ⟨fun k=>detC (yfV [] ybB) (az:=[(.agg [(.data p0),(.data p1)])]) (x:=(.int .i64 r0)) (fun K' k'=>h (fun r0=>K' (.int .i64 r0)) k') (K:=fun x=>match x with | (.int .i64 r0)=>K r0 | _=>False) k,h K⟩
theorem yCh (p0:Ls) (r0:Ls) (h:∀ K:Ls→Prop,K r0→yfX p0 K) (K:Ls→Prop):yfX p0 K=K r0 :=
 propext ⟨fun k=>detC (ynG [] ybB) (az:=[(.data p0)]) (x:=(.data r0)) (fun K' k'=>h (fun r0=>K' (.data r0)) k') (K:=fun x=>match x with | (.data r0)=>K r0 | _=>False) k,h K⟩
theorem yGg (p0:Ls) (p1:Ls) (p2:Int) (p3:Int) (p4:Int) (p5:Int) (p6:Int) (r0:Ls) (r1:Ls) (r2:Int) (r3:Int) (r4:Int) (h:∀ K:Ls→Ls→Int→Int→Int→Prop,K r0 r1 r2 r3 r4→ygN p0 p1 p2 p3 p4 p5 p6 K) (K:Ls→Ls→Int→Int→Int→Prop):ygN p0 p1 p2 p3 p4 p5 p6 K=K r0 r1 r2 r3 r4 :=
 propext ⟨fun k=>detC (yzz [] ybB) (az:=[(.agg [(.data p0),(.data p1)]),(.int .i64 p2),(.agg [(.int .i64 p3),(.int .i64 p4)]),(.agg [(.int .i64 p5),(.int .i64 p6)])]) (x:=(.tup [(.agg [(.data r0),(.data r1)]),(.agg [(.int .i64 r2),(.int .i64 r3)]),(.int .i64 r4)])) (fun K' k'=>h (fun r0 r1 r2 r3 r4=>K' (.tup [(.agg [(.data r0),(.data r1)]),(.agg [(.int .i64 r2),(.int .i64 r3)]),(.int .i64 r4)])) k') (K:=fun x=>match x with | (.tup [(.agg [(.data r0),(.data r1)]),(.agg [(.int .i64 r2),(.int .i64 r3)]),(.int .i64 r4)])=>K r0 r1 r2 r3 r4 | _=>False) k,h K⟩
theorem yD1 (p0:Ls) (p1:Ls) (p2:Int) (p3:Int) (p4:Int) (p5:Int) (p6:Int) (r0:Ls) (r1:Ls) (r2:Int) (r3:Int) (r4:Int) (h:∀ K:Ls→Ls→Int→Int→Int→Prop,K r0 r1 r2 r3 r4→yat p0 p1 p2 p3 p4 p5 p6 K) (K:Ls→Ls→Int→Int→Int→Prop):yat p0 p1 p2 p3 p4 p5 p6 K=K r0 r1 r2 r3 r4 :=
 propext ⟨fun k=>detC (yiQ [] ybB) (az:=[(.agg [(.data p0),(.data p1)]),(.int .i64 p2),(.agg [(.int .i64 p3),(.int .i64 p4)]),(.agg [(.int .i64 p5),(.int .i64 p6)])]) (x:=(.tup [(.agg [(.data r0),(.data r1)]),(.agg [(.int .i64 r2),(.int .i64 r3)]),(.int .i64 r4)])) (fun K' k'=>h (fun r0 r1 r2 r3 r4=>K' (.tup [(.agg [(.data r0),(.data r1)]),(.agg [(.int .i64 r2),(.int .i64 r3)]),(.int .i64 r4)])) k') (K:=fun x=>match x with | (.tup [(.agg [(.data r0),(.data r1)]),(.agg [(.int .i64 r2),(.int .i64 r3)]),(.int .i64 r4)])=>K r0 r1 r2 r3 r4 | _=>False) k,h K⟩
theorem yCi (p0:Ls) (p1:Ls) (r0:Int) (r1:Int) (h:∀ K:Int→Int→Prop,K r0 r1→ye1 p0 p1 K) (K:Int→Int→Prop):ye1 p0 p1 K=K r0 r1 :=
 propext ⟨fun k=>detC (ytW [] ybB) (az:=[(.data p0),(.data p1)]) (x:=(.tup [(.int .i64 r0),(.int .i64 r1)])) (fun K' k'=>h (fun r0 r1=>K' (.tup [(.int .i64 r0),(.int .i64 r1)])) k') (K:=fun x=>match x with | (.tup [(.int .i64 r0),(.int .i64 r1)])=>K r0 r1 | _=>False) k,h K⟩
def yEI (p0:Int) (K:Int→Int→Prop):Prop :=
 (K p0 (1:Int))
def yHL:yam:=yEI
def yLf (e:Es):SE:=sE (E e) [] lp0
theorem yLg (e:Es):EqW (yLf e) 6 yMt yhI yEI:=fun _ _=>by kernel_rfl
theorem yLh (e:Es) (he:EG e):OkF (E e) (yhI.pw yHL) ywd:=okU he (yLg e) (yaE (Sub.uni _) trivial trivial he.ok) yp9.flat (yar (by kernel_rfl))
abbrev yif:Type:=Int→Ls→Ls→(Bool→Prop)→Prop
def ypD (p0:Int) (p1 p2:Ls) (K:Bool→Prop):Prop :=
 (cbr (decide ((((List.length p1):Nat):Int)>(60:Int)))
 (K true)
 (K (decide ((((List.length p2):Nat):Int)>(60:Int)))))
def ygO:yif:=ypD
def yGh:Sg:=⟨pt15,Bool→Prop,fun K=>(fun r0=>K (.bool r0))⟩
def yGi (e:Es):SE:=sE (E e) [] lp0
theorem yGj (e:Es):EqW (yGi e) 6 yHx yGh ypD:=fun _ _=>by kernel_rfl
theorem yGk (e:Es) (he:EG e):OkF (E e) (yGh.pw ygO) ymR:=okU he (yGj e) (yaE (Sub.uni _) trivial trivial he.ok) yp9.flat (yar (by kernel_rfl))
def yd1 (x0:Int→Prop) (x1:Int→Ls→Ls→Bool→Int→Bool→Prop):Nat→Int→Ls→Ls→Bool→Int→Prop
 | 0,_,_,_,_,_=>False
 | n+1,i0,l1,l2,b3,i4 =>
 (cbr (decide (i4<(((List.length l2):Nat):Int)))
 (asr (decide ((0:Int)≤(IntKind.i64.wrap (i4+(1:Int)))))
 (asr (decide ((IntKind.i64.wrap (i4+(1:Int)))<(((List.length l1):Nat):Int)))
 (asr (conf zI (List.getD l1 ((IntKind.i64.wrap (i4+(1:Int))).toNat) .nils))
 (asr (decide ((0:Int)≤i4))
 (asr (decide (i4<(((List.length l1):Nat):Int)))
 (asr (conf zI (List.getD l1 (i4.toNat) .nils))
 (cbr (decide ((yaa (List.getD l1 ((IntKind.i64.wrap (i4+(1:Int))).toNat) .nils))≤(yaa (List.getD l1 (i4.toNat) .nils))))
 (x0 (8:Int))
 (asr (decide ((0:Int)≤i4))
 (asr (decide (i4<(((List.length l2):Nat):Int)))
 (asr (conf zI (List.getD l2 (i4.toNat) .nils))
 (cbr (decide ((yaa (List.getD l2 (i4.toNat) .nils))<(0:Int)))
 (x0 (8:Int))
 (asr (decide ((0:Int)≤i4))
 (asr (decide (i4<(((List.length l2):Nat):Int)))
 (asr (conf zI (List.getD l2 (i4.toNat) .nils))
 (cbr (decide ((yaa (List.getD l2 (i4.toNat) .nils))>(12:Int)))
 (x0 (8:Int))
 (cbr b3
 (yd1 x0 x1 n i0 l1 l2 true (IntKind.i64.wrap (i4+(1:Int))))
 (asr (decide ((0:Int)≤i4))
 (asr (decide (i4<(((List.length l2):Nat):Int)))
 (asr (conf zI (List.getD l2 (i4.toNat) .nils))
 (yd1 x0 x1 n i0 l1 l2 (decide ((yaa (List.getD l2 (i4.toNat) .nils))>(0:Int))) (IntKind.i64.wrap (i4+(1:Int)))))))))))))))))))))))
 (x1 i0 l1 l2 b3 i4 false))
def ypE (p0:Int) (p1 p2:Ls) (K:Int→Prop):Prop :=
 (cbr (decide (p0>(1000:Int)))
 (K (4:Int))
 (cbr (decide ((((List.length p1):Nat):Int)>(40:Int)))
 (K (4:Int))
 (cbr (decide (p0<(1:Int)))
 (K (8:Int))
 (cbr (decide ((((List.length p1):Nat):Int)<(2:Int)))
 (K (8:Int))
 (cbr ((((List.length p2):Nat):Int) !=(IntKind.i64.wrap ((((List.length p1):Nat):Int)-(1:Int))))
 (K (8:Int))
 (asr (decide ((0:Int)<(((List.length p1):Nat):Int)))
 (asr (conf zI (List.getD p1 0 .nils))
 (cbr ((yaa (List.getD p1 0 .nils)) !=(0:Int))
 (K (8:Int))
 (asr (decide ((0:Int)≤(IntKind.i64.wrap ((((List.length p1):Nat):Int)-(1:Int)))))
 (asr (decide ((IntKind.i64.wrap ((((List.length p1):Nat):Int)-(1:Int)))<(((List.length p1):Nat):Int)))
 (asr (conf zI (List.getD p1 ((IntKind.i64.wrap ((((List.length p1):Nat):Int)-(1:Int))).toNat) .nils))
 (cbr ((yaa (List.getD p1 ((IntKind.i64.wrap ((((List.length p1):Nat):Int)-(1:Int))).toNat) .nils)) != p0)
 (K (8:Int))
 (∃ n:Nat,yd1
 (fun a=>(K a))
 (fun c d e b f g=>(cbr (!b)
 (K (8:Int))
 (K (0:Int))))
 n p0 p1 p2 false (0:Int))))))))))))))
def ydj:yaK:=ypE
def yAd (Q:Qx):Int→Prop:=(fun i0=>Q .ret [(2,.v (.int .i64 i0))] [])
def yAe (Q:Qx):Int→Ls→Ls→Bool→Int→Bool→Prop:=(fun i0 l1 l2 b3 i4 b5=>Q (.exit 0) [(1,.box (.agg [(.int .i64 i0),(.data l1),(.data l2)])),(3,.v (.bool b3)),(4,.v (.int .i64 i4)),(57,.v (.bool b5))] [])
def yrM (Q:Qx):List St:=[⟨(pS hN (fX 1 pt14 (fV 3 vB pt11)) fN),yd1 (yAd Q) (yAe Q)⟩]
def ywU:LP:=lpS [(94526800,yrM)]
def ypF (e:Es):SE:=sE (E e) [] (ywU)
theorem ytX (e:Es) (he:EG e):SEOk (Uni (E e)) (ypF e):=yaE (Sub.uni _) trivial trivial he.ok
theorem yyC (e:Es):ycr (ypF e) 5 a yun false (yrM):=fun _=>⟨fun _=>by kernel_rfl,fun _ _=>by kernel_rfl,trivial⟩
theorem yyD (e:Es) (he:EG e):LpT (Uni (E e)) (ywU) [] 94526800 (.loop 94526800 yun):=fun _ _ _=>yp8.st (Sub.uni _) (yaW (ytX e he) 5) (YOk.no _ _) (yar (by kernel_rfl)) (yyC e _)
theorem yGl (e:Es):EqW (ypF e) 6 yzt ytN ypE:=fun _ _=>by kernel_rfl
theorem ywV (e:Es) (he:EG e):OkF (E e) (ytN.pw ydj) ymS:=okU he (yGl e) (ytX e he) yp9.flat (ybg (l:=[(94526800,.loop 94526800 yun)]) ⟨yyD e he,trivial⟩ (by kernel_rfl))
set_option linter.unusedVariables false
theorem yD2 (p0:Int) (p1:Ls) (p2:Ls) (r0:Int) (h:∀ K:Int→Prop,K r0→ydj p0 p1 p2 K) (K:Int→Prop):ydj p0 p1 p2 K=K r0 :=
 propext ⟨fun k=>detC (ywV [] ybB) (az:=[(.agg [(.int .i64 p0),(.data p1),(.data p2)])]) (x:=(.int .i64 r0)) (fun K' k'=>h (fun r0=>K' (.int .i64 r0)) k') (K:=fun x=>match x with | (.int .i64 r0)=>K r0 | _=>False) k,h K⟩
abbrev yce:Type:=Ls→(Bool→Prop)→Prop
def ycX (a0:yif) (x0:Bool→Prop) (x1:Ls→Int→Bool→Prop):Nat→Ls→Int→Prop
 | 0,_,_=>False
 | n+1,l0,i1 =>
 (cbr (decide (i1<(((List.length l0):Nat):Int)))
 (asr (decide ((0:Int)≤i1))
 (asr (decide (i1<(((List.length l0):Nat):Int)))
 (asr (conf zK (List.getD l0 (i1.toNat) .nils))
 (a0 (yaa (yab (List.getD l0 (i1.toNat) .nils) 0)) (yaY (yab (List.getD l0 (i1.toNat) .nils) 1)) (yaY (yab (List.getD l0 (i1.toNat) .nils) 2)) (fun a =>
 (cbr a
 (x0 true)
 (ycX a0 x0 x1 n l0 (IntKind.i64.wrap (i1+(1:Int))))))))))
 (x1 l0 i1 false))
def yiR (a0:yif) (p0:Ls) (K:Bool→Prop):Prop :=
 (∃ n:Nat,ycX a0
 (fun a=>(K a))
 (fun b c d=>(K (decide ((((List.length b):Nat):Int)>(10:Int)))))
 n p0 (0:Int))
def yep:yce:=yiR ygO
def yiS:Sg:=⟨pt7,Bool→Prop,fun K=>(fun r0=>K (.bool r0))⟩
def yrN (Q:Qx):Bool→Prop:=(fun b0=>Q .ret [(2,.v (.bool b0))] [])
def yrO (Q:Qx):Ls→Int→Bool→Prop:=(fun l0 i1 b2=>Q (.exit 0) [(0,.v (.data l0)),(3,.v (.int .i64 i1)),(7,.v (.bool b2))] [])
def ykW (a0:yif) (Q:Qx):List St:=[⟨(pS hN (fV 0 vD (fV 3 pt0 fN)) fN),ycX a0 (yrN Q) (yrO Q)⟩]
def ym7 (a0:yif):LP:=lpS [(4277600,ykW a0)]
def yiT (e:Es) (a0:yif):SE:=sE (E e) [(ymR,yGh.pw a0)] (ym7 a0)
theorem ylW (e:Es) (he:EG e):SEOk (Uni (E e)) (yiT e ygO):=yaE (Sub.uni _) ⟨(yGk e he),trivial⟩ trivial he.ok
theorem yqK (e:Es) (a0):ycr (yiT e a0) 5 a yx3 false (ykW a0):=fun _=>⟨fun _=>by kernel_rfl,fun _ _=>by kernel_rfl,trivial⟩
theorem yqL (e:Es) (he:EG e):LpT (Uni (E e)) (ym7 ygO) [] 4277600 (.loop 4277600 yx3):=fun _ _ _=>yp8.st (Sub.uni _) (yaW (ylW e he) 5) (YOk.no _ _) (yar (by kernel_rfl)) (yqK e _ _)
theorem ywW (e:Es) (a0):EqW (yiT e a0) 6 yop yiS (yiR a0):=fun _ _=>by kernel_rfl
theorem ym8 (e:Es) (he:EG e):OkF (E e) (yiS.pw yep) yg2:=okU he (ywW e _) (ylW e he) yp9.flat (ybg (l:=[(4277600,.loop 4277600 yx3)]) ⟨yqL e he,trivial⟩ (by kernel_rfl))
def yeK (a0:yaK) (a:Int→Prop) (b:Ls→Ls→Int→Bool→Prop):Nat→Ls→Ls→Int→Prop
 | 0,_,_,_=>False
 | c+1,l0,l1,i2 =>
 (cbr (decide (i2<(((List.length l0):Nat):Int)))
 (asr (decide ((0:Int)≤i2))
 (asr (decide (i2<(((List.length l0):Nat):Int)))
 (asr (conf zK (List.getD l0 (i2.toNat) .nils))
 (a0 (yaa (yab (List.getD l0 (i2.toNat) .nils) 0)) (yaY (yab (List.getD l0 (i2.toNat) .nils) 1)) (yaY (yab (List.getD l0 (i2.toNat) .nils) 2)) (fun d =>
 (cbr (d !=(0:Int))
 (asr (decide ((0:Int)≤i2))
 (asr (decide (i2<(((List.length l0):Nat):Int)))
 (asr (conf zK (List.getD l0 (i2.toNat) .nils))
 (a0 (yaa (yab (List.getD l0 (i2.toNat) .nils) 0)) (yaY (yab (List.getD l0 (i2.toNat) .nils) 1)) (yaY (yab (List.getD l0 (i2.toNat) .nils) 2)) (fun e =>
 (a e))))))
 (yeK a0 a b c l0 l1 (IntKind.i64.wrap (i2+(1:Int))))))))))
 (b l0 l1 i2 false))
def yd2 (a0:yaK) (a:Int→Prop) (b:Ls→Ls→Int→Bool→Prop):Nat→Ls→Ls→Int→Prop
 | 0,_,_,_=>False
 | c+1,l0,l1,i2 =>
 (cbr (decide (i2<(((List.length l0):Nat):Int)))
 (asr (decide ((0:Int)≤i2))
 (asr (decide (i2<(((List.length l0):Nat):Int)))
 (asr (conf zK (List.getD l0 (i2.toNat) .nils))
 (asr (decide ((0:Int)<(((List.length l0):Nat):Int)))
 (asr (conf zK (List.getD l0 0 .nils))
 (cbr ((yaa (yab (List.getD l0 (i2.toNat) .nils) 0)) !=(yaa (yab (List.getD l0 0 .nils) 0)))
 (a (8:Int))
 (yd2 a0 a b c l0 l1 (IntKind.i64.wrap (i2+(1:Int))))))))))
 (b l0 l1 i2 false))
def ypG (a0:yaK) (p0 p1:Ls) (K:Int→Prop):Prop :=
 (cbr (decide ((((List.length p0):Nat):Int)>(6:Int)))
 (K (4:Int))
 (cbr (decide ((((List.length p1):Nat):Int)>(2000:Int)))
 (K (4:Int))
 (cbr ((((List.length p0):Nat):Int) ==(0:Int))
 (K (8:Int))
 (∃ a:Nat,yeK a0
 (fun b=>(K b))
 (fun c d g h=>(∃ e:Nat,yd2 a0
 (fun f=>(K f))
 (fun i j k l=>(K (0:Int)))
 e c d (0:Int)))
 a p0 p1 (0:Int)))))
def ygP:yav:=ypG ydj
def yAf (Q:Qx):Int→Prop:=(fun i0=>Q .ret [(2,.v (.int .i64 i0))] [])
def yAg (Q:Qx):Ls→Ls→Int→Bool→Prop:=(fun l0 l1 i2 b3=>Q (.exit 0) [(1,.box (.agg [(.data l0),(.data l1)])),(3,.v (.int .i64 i2)),(23,.v (.bool b3))] [])
def yAh (Q:Qx):Int→Prop:=(fun i0=>Q .ret [(2,.v (.int .i64 i0))] [])
def yAi (Q:Qx):Ls→Ls→Int→Bool→Prop:=(fun l0 l1 i2 b3=>Q (.exit 2) [(1,.box (.agg [(.data l0),(.data l1)])),(4,.v (.int .i64 i2)),(43,.v (.bool b3))] [])
def yrP (a0:yaK) (Q:Qx):List St:=[⟨(pS hN (fX 1 pt28 (fV 3 pt0 fN)) fN),yeK a0 (yAf Q) (yAg Q)⟩]
def yrQ (a0:yaK) (Q:Qx):List St:=[⟨(pS hN (fX 1 pt28 pt11) fN),yd2 a0 (yAh Q) (yAi Q)⟩]
def ypH (a0:yaK):LP:=lpS [(6981300,yrP a0),(6981301,yrQ a0)]
def yle (e:Es) (a0:yaK):SE:=sE (E e) [(ymS,ytN.pw a0)] (ypH a0)
theorem ynJ (e:Es) (he:EG e):SEOk (Uni (E e)) (yle e ydj):=yaE (Sub.uni _) ⟨(ywV e he),trivial⟩ trivial he.ok
theorem yyE (e:Es) (a0):ycr (yle e a0) 5 a yx4 false (yrP a0):=fun _=>⟨fun _=>by kernel_rfl,fun _ _=>by kernel_rfl,trivial⟩
theorem yyF (e:Es) (he:EG e):LpT (Uni (E e)) (ypH ydj) [] 6981300 (.loop 6981300 yx4):=fun _ _ _=>yp8.st (Sub.uni _) (yaW (ynJ e he) 5) (YOk.no _ _) (yar (by kernel_rfl)) (yyE e _ _)
theorem yyG (e:Es) (a0):ycr (yle e a0) 5 a yx5 false (yrQ a0):=fun _=>⟨fun _=>by kernel_rfl,fun _ _=>by kernel_rfl,trivial⟩
theorem yyH (e:Es) (he:EG e):LpT (Uni (E e)) (ypH ydj) [] 6981301 (.loop 6981301 yx5):=fun _ _ _=>yp8.st (Sub.uni _) (yaW (ynJ e he) 5) (YOk.no _ _) (yar (by kernel_rfl)) (yyG e _ _)
theorem yGm (e:Es) (a0):EqW (yle e a0) 6 yrc ypz (ypG a0):=fun _ _=>by kernel_rfl
theorem ywX (e:Es) (he:EG e):OkF (E e) (ypz.pw ygP) ymT:=okU he (yGm e _) (ynJ e he) yp9.flat (ybg (l:=[(6981300,.loop 6981300 yx4),(6981301,.loop 6981301 yx5)]) ⟨yyF e he,yyH e he,trivial⟩ (by kernel_rfl))
set_option linter.unusedVariables false
theorem yvj (p0:Ls) (r0:Bool) (h:∀ K:Bool→Prop,K r0→yep p0 K) (K:Bool→Prop):yep p0 K=K r0 :=
 propext ⟨fun k=>detC (ym8 [] ybB) (az:=[(.data p0)]) (x:=(.bool r0)) (fun K' k'=>h (fun r0=>K' (.bool r0)) k') (K:=fun x=>match x with | (.bool r0)=>K r0 | _=>False) k,h K⟩
theorem yD3 (p0:Ls) (p1:Ls) (r0:Int) (h:∀ K:Int→Prop,K r0→ygP p0 p1 K) (K:Int→Prop):ygP p0 p1 K=K r0 :=
 propext ⟨fun k=>detC (ywX [] ybB) (az:=[(.agg [(.data p0),(.data p1)])]) (x:=(.int .i64 r0)) (fun K' k'=>h (fun r0=>K' (.int .i64 r0)) k') (K:=fun x=>match x with | (.int .i64 r0)=>K r0 | _=>False) k,h K⟩
def yfu (x0:Bool→Prop) (x1:Ls→Ls→Int→Bool→Prop):Nat→Ls→Ls→Int→Prop
 | 0,_,_,_=>False
 | n+1,l0,l1,i2 =>
 (cbr (decide (i2<(((List.length l0):Nat):Int)))
 (asr (decide ((0:Int)≤i2))
 (asr (decide (i2<(((List.length l0):Nat):Int)))
 (asr (conf z4 (List.getD l0 (i2.toNat) .nils))
 (asr (decide ((0:Int)≤i2))
 (asr (decide (i2<(((List.length l1):Nat):Int)))
 (asr (conf z4 (List.getD l1 (i2.toNat) .nils))
 (cbr (!(((yaa (yab (List.getD l0 (i2.toNat) .nils) 0)) ==(yaa (yab (List.getD l1 (i2.toNat) .nils) 0)))&&(((yaa (yab (List.getD l0 (i2.toNat) .nils) 1)) ==(yaa (yab (List.getD l1 (i2.toNat) .nils) 1)))&&(((yaa (yab (List.getD l0 (i2.toNat) .nils) 2)) ==(yaa (yab (List.getD l1 (i2.toNat) .nils) 2)))&&(((yaa (yab (List.getD l0 (i2.toNat) .nils) 3)) ==(yaa (yab (List.getD l1 (i2.toNat) .nils) 3)))&&true)))))
 (x0 false)
 (yfu x0 x1 n l0 l1 (IntKind.i64.wrap (i2+(1:Int)))))))))))
 (x1 l0 l1 i2 false))
def yrR (p0 p1:Ls) (K:Bool→Prop):Prop :=
 (cbr ((((List.length p0):Nat):Int) !=(((List.length p1):Nat):Int))
 (K false)
 (∃ n:Nat,yfu
 (fun a=>(K a))
 (fun b c d e=>(K true))
 n p0 p1 (0:Int)))
def ye8:yad:=yrR
def yCj (Q:Qx):Bool→Prop:=(fun b0=>Q .ret [(4,.v (.bool b0))] [])
def yCk (Q:Qx):Ls→Ls→Int→Bool→Prop:=(fun l0 l1 i2 b3=>Q (.exit 0) [(0,.v (.data l0)),(1,.v (.data l1)),(5,.v (.int .i64 i2)),(14,.v (.bool b3))] [])
def ytY (Q:Qx):List St:=[⟨(pS hN (fV 0 vD (fV 1 vD (fV 5 pt0 fN))) fN),yfu (yCj Q) (yCk Q)⟩]
def yzA:LP:=lpS [(27088800,ytY)]
def yrS (e:Es):SE:=sE (E e) [] (yzA)
theorem ywY (e:Es) (he:EG e):SEOk (Uni (E e)) (yrS e):=yaE (Sub.uni _) trivial trivial he.ok
theorem yAj (e:Es):ycr (yrS e) 5 a yuL false (ytY):=fun _=>⟨fun _=>by kernel_rfl,fun _ _=>by kernel_rfl,trivial⟩
theorem yAk (e:Es) (he:EG e):LpT (Uni (E e)) (yzA) [] 27088800 (.loop 27088800 yuL):=fun _ _ _=>yp8.st (Sub.uni _) (yaW (ywY e he) 5) (YOk.no _ _) (yar (by kernel_rfl)) (yAj e _)
theorem yHM (e:Es):EqW (yrS e) 6 yBR ydu yrR:=fun _ _=>by kernel_rfl
theorem yzB (e:Es) (he:EG e):OkF (E e) (ydu.pw ye8) ypd:=okU he (yHM e) (ywY e he) yp9.flat (ybg (l:=[(27088800,.loop 27088800 yuL)]) ⟨yAk e he,trivial⟩ (by kernel_rfl))
def yfv (a0:yad) (x0:Bool→Prop) (x1:Ls→Ls→Int→Bool→Prop):Nat→Ls→Ls→Int→Prop
 | 0,_,_,_=>False
 | n+1,l0,l1,i2 =>
 (cbr (decide (i2<(((List.length l0):Nat):Int)))
 (asr (decide ((0:Int)≤i2))
 (asr (decide (i2<(((List.length l0):Nat):Int)))
 (asr (conf zD (List.getD l0 (i2.toNat) .nils))
 (asr (decide ((0:Int)≤i2))
 (asr (decide (i2<(((List.length l1):Nat):Int)))
 (asr (conf zD (List.getD l1 (i2.toNat) .nils))
 (a0 (yaY (List.getD l0 (i2.toNat) .nils)) (yaY (List.getD l1 (i2.toNat) .nils)) (fun a =>
 (cbr (!a)
 (x0 false)
 (yfv a0 x0 x1 n l0 l1 (IntKind.i64.wrap (i2+(1:Int)))))))))))))
 (x1 l0 l1 i2 false))
def yrT (a0:yad) (p0 p1:Ls) (K:Bool→Prop):Prop :=
 (cbr ((((List.length p0):Nat):Int) !=(((List.length p1):Nat):Int))
 (K false)
 (∃ n:Nat,yfv a0
 (fun a=>(K a))
 (fun b c d e=>(K true))
 n p0 p1 (0:Int)))
def yh5:yad:=yrT ye8
def pt31:VPt:=vA pt7
def yHN:Sg:=⟨(lC pt31 (lC pt31 lN)),Bool→Prop,fun K=>(fun r0=>K (.bool r0))⟩
def yCl (Q:Qx):Bool→Prop:=(fun b0=>Q .ret [(4,.v (.bool b0))] [])
def yCm (Q:Qx):Ls→Ls→Int→Bool→Prop:=(fun l0 l1 i2 b3=>Q (.exit 0) [(2,.box (.agg [(.data l0)])),(3,.box (.agg [(.data l1)])),(5,.v (.int .i64 i2)),(17,.v (.bool b3))] [])
def ytZ (a0:yad) (Q:Qx):List St:=[⟨(pS hN (fX 2 pt31 (fX 3 pt31 (fV 5 pt0 fN))) fN),yfv a0 (yCl Q) (yCm Q)⟩]
def yzC (a0:yad):LP:=lpS [(70742100,ytZ a0)]
def yrU (e:Es) (a0:yad):SE:=sE (E e) [(ypd,ydu.pw a0)] (yzC a0)
theorem ywZ (e:Es) (he:EG e):SEOk (Uni (E e)) (yrU e ye8):=yaE (Sub.uni _) ⟨(yzB e he),trivial⟩ trivial he.ok
theorem yAl (e:Es) (a0):ycr (yrU e a0) 5 a yuM false (ytZ a0):=fun _=>⟨fun _=>by kernel_rfl,fun _ _=>by kernel_rfl,trivial⟩
theorem yAm (e:Es) (he:EG e):LpT (Uni (E e)) (yzC ye8) [] 70742100 (.loop 70742100 yuM):=fun _ _ _=>yp8.st (Sub.uni _) (yaW (ywZ e he) 5) (YOk.no _ _) (yar (by kernel_rfl)) (yAl e _ _)
theorem yHO (e:Es) (a0):EqW (yrU e a0) 6 yBS yHN (yrT a0):=fun _ _=>by kernel_rfl
theorem yzD (e:Es) (he:EG e):OkF (E e) (yHN.pw yh5) ype:=okU he (yHO e _) (ywZ e he) yp9.flat (ybg (l:=[(70742100,.loop 70742100 yuM)]) ⟨yAm e he,trivial⟩ (by kernel_rfl))
set_option linter.unusedVariables false
theorem yGn (p0:Ls) (p1:Ls) (r0:Bool) (h:∀ K:Bool→Prop,K r0→ye8 p0 p1 K) (K:Bool→Prop):ye8 p0 p1 K=K r0 :=
 propext ⟨fun k=>detC (yzB [] ybB) (az:=[(.data p0),(.data p1)]) (x:=(.bool r0)) (fun K' k'=>h (fun r0=>K' (.bool r0)) k') (K:=fun x=>match x with | (.bool r0)=>K r0 | _=>False) k,h K⟩
theorem yGo (p0:Ls) (p1:Ls) (r0:Bool) (h:∀ K:Bool→Prop,K r0→yh5 p0 p1 K) (K:Bool→Prop):yh5 p0 p1 K=K r0 :=
 propext ⟨fun k=>detC (yzD [] ybB) (az:=[(.agg [(.data p0)]),(.agg [(.data p1)])]) (x:=(.bool r0)) (fun K' k'=>h (fun r0=>K' (.bool r0)) k') (K:=fun x=>match x with | (.bool r0)=>K r0 | _=>False) k,h K⟩
def yrV (p0:Int) (K:Int→Int→Prop):Prop :=
 (K p0 (1:Int))
def yaP:yam:=yrV
def yCn (e:Es):SE:=sE (E e) [] lp0
theorem yCo (e:Es):EqW (yCn e) 11 yDq yhI yrV:=fun _ _=>by kernel_rfl
theorem yev (e:Es) (he:EG e):OkF (E e) (yhI.pw yaP) yc0:=okU he (yCo e) (yaE (Sub.uni _) trivial trivial he.ok) yp9.flat (yar (by kernel_rfl))
def ynK (a0:yck) (p0 p1 p2 p3:Int) (K:Bool→Prop):Prop :=
 (a0 p0 p1 p2 p3 (fun a b =>
 (K (decide (a<(0:Int))))))
def yap:yax:=ynK ycs
def yD4 (e:Es) (a0:yck):SE:=sE (E e) [(yeR,yFW.pw a0)] lp0
theorem yD5 (e:Es) (a0):EqW (yD4 e a0) 11 yFQ ywy (ynK a0):=fun _ _=>by kernel_rfl
theorem ye9 (e:Es) (he:EG e):OkF (E e) (ywy.pw yap) ydC:=okU he (yD5 e _) (yaE (Sub.uni _) ⟨(yfS e he),trivial⟩ trivial he.ok) yp9.flat (yar (by kernel_rfl))
def ydT (a0:yav) (a1:yas) (a2:yam) (a3:yax) (a:Ls→Ls→Ls→Int→Int→Bool→Prop) (b:Int→Prop):Nat→Ls→Ls→Ls→Int→Int→Prop
 | 0,_,_,_,_,_=>False
 | e+1,l0,l1,l2,i3,i4 =>
 (cbr (decide (i4<i3))
 (asr (decide ((0:Int)≤i4))
 (asr (decide (i4<(((List.length l2):Nat):Int)))
 (lt (List.getD l2 (i4.toNat) .nils) (fun c =>
 (asr (conf zD c)
 (a1 (yaY c) (fun d =>
 (cbr (d !=(0:Int))
 (b d)
 (lt (IntKind.i64.wrap (i4+(1:Int))) (fun f =>
 (ydT a0 a1 a2 a3 a b e l0 l1 l2 i3 f)))))))))))
 (a l0 l1 l2 i3 i4 false))
def yc5 (a0:yav) (a1:yas) (a2:yam) (a3:yax) (e:Ls→Ls→Int→Int→Bool→Prop) (f:Int→Prop):Nat→Ls→Ls→Int→Int→Prop
 | 0,_,_,_,_=>False
 | i+1,l0,l1,i2,i3 =>
 (cbr (decide (i3<i2))
 (asr (decide ((0:Int)≤i3))
 (asr (decide (i3<(((List.length l1):Nat):Int)))
 (lt (List.getD l1 (i3.toNat) .nils) (fun a =>
 (asr (conf zD a)
 (jn (fun (b:Bool→Prop) =>
 (cbr (decide ((((List.length (yaY a)):Nat):Int)>(0:Int)))
 (asr (decide ((0:Int)<(((List.length (yaY a)):Nat):Int)))
 (lt (List.getD (yaY a) 0 .nils) (fun g =>
 (asr (conf z4 g)
 (cbr (decide ((yaa (yab g 0))<(0:Int)))
 (b true)
 (asr (decide ((0:Int)<(((List.length l0):Nat):Int)))
 (lt (List.getD l0 0 .nils) (fun h =>
 (asr (conf zK h)
 (a2 (yaa (yab h 0)) (fun j k =>
 (lt (IntKind.i64.wrap ((((List.length (yaY a)):Nat):Int)-(1:Int))) (fun c =>
 (asr (decide ((0:Int)≤c))
 (asr (decide (c<(((List.length (yaY a)):Nat):Int)))
 (lt (List.getD (yaY a) (c.toNat) .nils) (fun d =>
 (asr (conf z4 d)
 (a3 j k (yaa (yab d 2)) (yaa (yab d 3)) (fun l =>
 (b l)))))))))))))))))))))
 (b false)))
 (fun m=>(cbr m
 (f (2:Int))
 (lt (IntKind.i64.wrap (i3+(1:Int))) (fun n =>
 (yc5 a0 a1 a2 a3 e f i l0 l1 i2 n)))))))))))
 (e l0 l1 i2 i3 false))
def ylX (a0:yav) (a1:yas) (a2:yam) (a3:yax) (p0 p1:Ls) (K:Int→Prop):Prop :=
 (a0 p0 ([]:Ls) (fun a =>
 (cbr (a !=(0:Int))
 (K a)
 (cbr ((((List.length p1):Nat):Int) !=(((List.length p0):Nat):Int))
 (K (2:Int))
 (∃ c:Nat,ydT a0 a1 a2 a3
 (fun d b h i j k=>(∃ e:Nat,yc5 a0 a1 a2 a3
 (fun l m n o p=>(K (0:Int)))
 (fun f=>(K f))
 e d b (((List.length b):Nat):Int) (0:Int)))
 (fun g=>(K g))
 c p0 p1 p1 (((List.length p1):Nat):Int) (0:Int))))))
def ydD:yav:=ylX ybU ybj yaP yap
def pt32:LPt:=lC vD (lC pt31 lN)
def yCp:Sg:=⟨pt32,Int→Prop,fun K=>(fun r0=>K (.int .i64 r0))⟩
def yrW (az:Ls) (K:PV→Prop):Prop:=yCp.pw ydD az K
def yw0 (Q:Qx):Ls→Ls→Ls→Int→Int→Bool→Prop:=(fun l0 l1 l2 i3 i4 b5=>Q (.exit 0) [(0,.v (.data l0)),(3,.box (.agg [(.data l1)])),(25,.v (.data l2)),(26,.v (.int .i64 i3)),(27,.v (.int .i64 i4)),(28,.v (.bool b5))] [])
def yw1 (Q:Qx):Int→Prop:=(fun i0=>Q .ret [(4,.v (.int .i64 i0))] [])
def yw2 (Q:Qx):Ls→Ls→Int→Int→Bool→Prop:=(fun l0 l1 i2 i3 b4=>Q (.exit 2) [(0,.v (.data l0)),(38,.v (.data l1)),(39,.v (.int .i64 i2)),(40,.v (.int .i64 i3)),(41,.v (.bool b4))] [])
def yw3 (Q:Qx):Int→Prop:=(fun i0=>Q .ret [(4,.v (.int .i64 i0))] [])
def yoD (a0:yav) (a1:yas) (a2:yam) (a3:yax) (Q:Qx):List St:=[⟨(pS hN (fV 0 vD (fX 3 pt31 pt30)) fN),ydT a0 a1 a2 a3 (yw0 Q) (yw1 Q)⟩]
def yoE (a0:yav) (a1:yas) (a2:yam) (a3:yax) (Q:Qx):List St:=[⟨(pS hN (fV 0 vD (fV 38 vD (fV 39 pt0 (fV 40 pt0 fN)))) fN),yc5 a0 a1 a2 a3 (yw2 Q) (yw3 Q)⟩]
def ylY (a0:yav) (a1:yas) (a2:yam) (a3:yax):LP:=lpS [(8206000,yoD a0 a1 a2 a3),(8206001,yoE a0 a1 a2 a3)]
def yiU (e:Es) (a0:yav) (a1:yas) (a2:yam) (a3:yax):SE:=sE (E e) [(yeO,ypz.pw a0),(ygd,yda.pw a1),(yc0,yhI.pw a2),(ydC,ywy.pw a3)] (ylY a0 a1 a2 a3)
theorem ykM (e:Es) (he:EG e):SEOk (Uni (E e)) (yiU e ybU ybj yaP yap):=yaE (Sub.uni _) ⟨(yfV e he),(yiO e he),(yev e he),(ye9 e he),trivial⟩ trivial he.ok
theorem yvk (e:Es) (a0 a1 a2 a3):ycr (yiU e a0 a1 a2 a3) 10 a yya false (yoD a0 a1 a2 a3):=fun _=>⟨fun _=>by kernel_rfl,fun _ _=>by kernel_rfl,trivial⟩
theorem yvl (e:Es) (he:EG e):LpT (Uni (E e)) (ylY ybU ybj yaP yap) [] 8206000 (.loop 8206000 yya):=fun _ _ _=>yp8.st (Sub.uni _) (yaW (ykM e he) 10) (YOk.no _ _) (yar (by kernel_rfl)) (yvk e _ _ _ _ _)
theorem yvm (e:Es) (a0 a1 a2 a3):ycr (yiU e a0 a1 a2 a3) 10 a yyb false (yoE a0 a1 a2 a3):=fun _=>⟨fun _=>by kernel_rfl,fun _ _=>by kernel_rfl,trivial⟩
theorem yvn (e:Es) (he:EG e):LpT (Uni (E e)) (ylY ybU ybj yaP yap) [] 8206001 (.loop 8206001 yyb):=fun _ _ _=>yp8.st (Sub.uni _) (yaW (ykM e he) 10) (YOk.no _ _) (yar (by kernel_rfl)) (yvm e _ _ _ _ _)
theorem yCq (e:Es) (a0 a1 a2 a3):EqW (yiU e a0 a1 a2 a3) 11 ynp yCp (ylX a0 a1 a2 a3):=fun _ _=>by kernel_rfl
theorem yrX (e:Es) (he:EG e):OkF (E e) (yCp.pw ydD) ye7:=okU he (yCq e _ _ _ _) (ykM e he) yp9.flat (ybg (l:=[(8206000,.loop 8206000 yya),(8206001,.loop 8206001 yyb)]) ⟨yvl e he,yvn e he,trivial⟩ (by kernel_rfl))
abbrev ybb:Type:=Ls→Ls→(Ls→Int→Prop)→Prop
def ya3 (p0 p1:Ls) (K:Ls→Int→Prop):Prop :=
 ∃ r0 r1,K r0 r1∧∀ e:Es,EG e→Ans (E e) ybE [(.data p0),(.agg [(.data p1)])] (.tup [(.data r0),(.int .i64 r1)])
def yMv:Sg:=⟨pt32,Ls→Int→Prop,fun K=>(fun r0 r1=>K (.tup [(.data r0),(.int .i64 r1)]))⟩
theorem ygQ (e:Es) (he:EG e):OkF (E e) (yMv.pw ya3) ybE:=fun az K h=>by
 obtain ⟨a,e1,r0,r1,hk,ha⟩:=Sg.inv h
 subst e1
 exact ⟨_,hk,ha e he⟩
abbrev yd3:Type:=Int→Int→Int→Int→Ls→(Bool→Prop)→Prop
def ydd (a0:yax) (x0:Int→Int→Int→Int→Ls→Int→Int→Bool→Prop) (x1:Int→Int→Int→Int→Int→Prop):Nat→Int→Int→Int→Int→Ls→Int→Int→Prop
 | 0,_,_,_,_,_,_,_=>False
 | n+1,i0,i1,i2,i3,l4,i5,i6 =>
 (cbr (decide (i6<i5))
 (asr (decide ((0:Int)≤i6))
 (asr (decide (i6<(((List.length l4):Nat):Int)))
 (lt (List.getD l4 (i6.toNat) .nils) (fun a =>
 (asr (conf z4 a)
 (jn (fun (b:Bool→Prop) =>
 (a0 i0 i1 (yaa (yab a 2)) (yaa (yab a 3)) (fun c =>
 (cbr c
 (a0 (yaa (yab a 0)) (yaa (yab a 1)) i2 i3 (fun d =>
 (b d)))
 (b false)))))
 (fun e=>(cbr e
 (x1 i0 i1 i2 i3 i6)
 (lt (IntKind.i64.wrap (i6+(1:Int))) (fun f =>
 (ydd a0 x0 x1 n i0 i1 i2 i3 l4 i5 f)))))))))))
 (x0 i0 i1 i2 i3 l4 i5 i6 false))
def yjU (a0:yax) (p0 p1 p2 p3:Int) (p4:Ls) (K:Bool→Prop):Prop :=
 (jn (fun (a:Int→Int→Int→Int→Int→Prop) =>
 (∃ n:Nat,ydd a0
 (fun b c d e l m o p=>(a b c d e (-1:Int)))
 (fun f g h i j=>(a f g h i j))
 n p0 p1 p2 p3 p4 (((List.length p4):Nat):Int) (0:Int)))
 (fun q r s t k=>(K (decide (k≥(0:Int))))))
def ycv:yd3:=yjU yap
def yyI:Sg:=⟨(lC pt22 (lC (vX 0 vD) lN)),Bool→Prop,fun K=>(fun r0=>K (.bool r0))⟩
def ytb (Q:Qx):Int→Int→Int→Int→Ls→Int→Int→Bool→Prop:=(fun i0 i1 i2 i3 l4 i5 i6 b7=>Q (.exit 0) [(0,.v (.data l4)),(1,.v (.fn (.func yeW) [] [(.ptr 0 1 0 0)])),(7,.v (.int .i64 i5)),(8,.v (.int .i64 i6)),(9,.v (.bool b7))] [⟨false,false,4,([(.agg [(.int .i64 i0),(.int .i64 i1),(.int .i64 i2),(.int .i64 i3)])]:Ls)⟩])
def ytc (Q:Qx):Int→Int→Int→Int→Int→Prop:=(fun i0 i1 i2 i3 i4=>Q .ret [(4,.v (.int .i64 i4))] [⟨false,false,4,([(.agg [(.int .i64 i0),(.int .i64 i1),(.int .i64 i2),(.int .i64 i3)])]:Ls)⟩])
def ylZ (a0:yax) (Q:Qx):List St:=[⟨(pS (hB false false 4 (rC pt22 rN) hN) (fV 0 vD (fV 1 (vF yeW lN pt26) pt8)) fN),ydd a0 (ytb Q) (ytc Q)⟩]
def yjV (a0:yax):LP:=lpS [(68674300,ylZ a0)]
def yoF (e:Es) (a0:yax):SE:=⟨(E e),ydO [(ydC,ywy.pw a0)],ydP [(ybH,ybX),(yeW,ym0)],yjV a0,fun _=>none⟩
def yoG (e:Es) (a0:yax):SE:=⟨(E e),ydO [(ydC,ywy.pw a0)],ydP [(ybH,ybX),(ydk,ydl),(yeW,ym0)],yjV a0,fun _=>none⟩
theorem yw4 (e:Es) (he:EG e):SEOk (Uni (E e)) (yoF e yap):=yaE (Sub.uni _) ⟨(ye9 e he),trivial⟩ ⟨⟨by kernel_rfl,by kernel_rfl,rfl,fun az=>yaN (by kernel_rfl) az,he.num _ (by kernel_rfl),by kernel_rfl,(yar (by kernel_rfl))⟩,⟨by kernel_rfl,by kernel_rfl,rfl,fun az=>yaN (by kernel_rfl) az,he.num _ (by kernel_rfl),by kernel_rfl,(yar (by kernel_rfl))⟩,trivial⟩ he.ok
theorem yrY (e:Es) (a0):ycr (yoF e a0) 10 a yjL false (ylZ a0):=fun _=>⟨fun _=>by kernel_rfl,fun _ _=>by kernel_rfl,trivial⟩
theorem yrZ (e:Es) (he:EG e):LpT (Uni (E e)) (yjV yap) [] 68674300 (.loop 68674300 yjL):=fun _ _ _=>yp8.st (Sub.uni _) (yaW (yw4 e he) 10) (YOk.no _ _) (yar (by kernel_rfl)) (yrY e _ _)
theorem yw5 (e:Es) (he:EG e):SEOk (Uni (E e)) (yoG e yap):=yaE (Sub.uni _) ⟨(ye9 e he),trivial⟩ ⟨⟨by kernel_rfl,by kernel_rfl,rfl,fun az=>yaN (by kernel_rfl) az,he.num _ (by kernel_rfl),by kernel_rfl,(yar (by kernel_rfl))⟩,⟨by kernel_rfl,by kernel_rfl,rfl,fun az=>yaN (by kernel_rfl) az,he.num _ (by kernel_rfl),by kernel_rfl,(ybg (l:=[(68674300,.loop 68674300 yjL)]) ⟨yrZ e he,trivial⟩ (by kernel_rfl))⟩,⟨by kernel_rfl,by kernel_rfl,rfl,fun az=>yaN (by kernel_rfl) az,he.num _ (by kernel_rfl),by kernel_rfl,(yar (by kernel_rfl))⟩,trivial⟩ he.ok
theorem yyJ (e:Es) (a0):EqW (yoG e a0) 11 yzT yyI (yjU a0):=fun _ _=>by kernel_rfl
theorem yjW (e:Es) (he:EG e):OkF (E e) (yyI.pw ycv) ydg:=okU he (yyJ e _) (yw5 e he) yp9.flat (yar (by kernel_rfl))
def ydU (a0:yd3) (x0:Ls→Ls→Int→Int→Bool→Prop) (x1:Ls→Int→Prop):Nat→Ls→Ls→Int→Int→Prop
 | 0,_,_,_,_=>False
 | n+1,l0,l1,i2,i3 =>
 (cbr (decide (i3<i2))
 (asr (decide ((0:Int)≤i3))
 (asr (decide (i3<(((List.length l1):Nat):Int)))
 (lt (List.getD l1 (i3.toNat) .nils) (fun a =>
 (asr (conf z4 a)
 (a0 (yaa (yab a 0)) (yaa (yab a 1)) (yaa (yab a 2)) (yaa (yab a 3)) l0 (fun b =>
 (cbr b
 (x1 l0 i3)
 (lt (IntKind.i64.wrap (i3+(1:Int))) (fun c =>
 (ydU a0 x0 x1 n l0 l1 i2 c)))))))))))
 (x0 l0 l1 i2 i3 false))
def yl7 (a0:yd3) (p0 p1:Ls) (K:Bool→Prop):Prop :=
 (jn (fun (a:Ls→Int→Prop) =>
 (∃ n:Nat,ydU a0
 (fun b f g h i=>(a b (-1:Int)))
 (fun c d=>(a c d))
 n p1 p0 (((List.length p0):Nat):Int) (0:Int)))
 (fun j e=>(K (decide (e≥(0:Int))))))
def yay:yad:=yl7 ycv
def yw6 (Q:Qx):Ls→Ls→Int→Int→Bool→Prop:=(fun l0 l1 i2 i3 b4=>Q (.exit 0) [(0,.v (.data l1)),(1,.v (.fn (.func ydg) [] [(.ptr 0 1 0 0)])),(7,.v (.int .i64 i2)),(8,.v (.int .i64 i3)),(9,.v (.bool b4))] [⟨false,false,1,([(.data l0)]:Ls)⟩])
def yw7 (Q:Qx):Ls→Int→Prop:=(fun l0 i1=>Q .ret [(4,.v (.int .i64 i1))] [⟨false,false,1,([(.data l0)]:Ls)⟩])
def pt33:RPt:=rC vD rN
def yoH (a0:yd3) (Q:Qx):List St:=[⟨(pS (hB false false 1 pt33 hN) (fV 0 vD (fV 1 (vF ydg lN pt26) pt8)) fN),ydU a0 (yw6 Q) (yw7 Q)⟩]
def yma (a0:yd3):LP:=lpS [(68674300,yoH a0)]
def yr0 (e:Es) (a0:yd3):SE:=⟨(E e),ydO [(ydg,yyI.pw a0)],ydP [(ybH,ybX)],yma a0,fun _=>none⟩
def yr2 (e:Es) (a0:yd3):SE:=⟨(E e),ydO [(ydg,yyI.pw a0)],ydP [(ybH,ybX),(ydk,ydl)],yma a0,fun _=>none⟩
theorem yAn (e:Es) (he:EG e):SEOk (Uni (E e)) (yr0 e ycv):=yaE (Sub.uni _) ⟨(yjW e he),trivial⟩ ⟨⟨by kernel_rfl,by kernel_rfl,rfl,fun az=>yaN (by kernel_rfl) az,he.num _ (by kernel_rfl),by kernel_rfl,(yar (by kernel_rfl))⟩,trivial⟩ he.ok
theorem yvo (e:Es) (a0):ycr (yr0 e a0) 10 a yjL false (yoH a0):=fun _=>⟨fun _=>by kernel_rfl,fun _ _=>by kernel_rfl,trivial⟩
theorem yvp (e:Es) (he:EG e):LpT (Uni (E e)) (yma ycv) [] 68674300 (.loop 68674300 yjL):=fun _ _ _=>yp8.st (Sub.uni _) (yaW (yAn e he) 10) (YOk.no _ _) (yar (by kernel_rfl)) (yvo e _ _)
theorem yAo (e:Es) (he:EG e):SEOk (Uni (E e)) (yr2 e ycv):=yaE (Sub.uni _) ⟨(yjW e he),trivial⟩ ⟨⟨by kernel_rfl,by kernel_rfl,rfl,fun az=>yaN (by kernel_rfl) az,he.num _ (by kernel_rfl),by kernel_rfl,(yar (by kernel_rfl))⟩,⟨by kernel_rfl,by kernel_rfl,rfl,fun az=>yaN (by kernel_rfl) az,he.num _ (by kernel_rfl),by kernel_rfl,(ybg (l:=[(68674300,.loop 68674300 yjL)]) ⟨yvp e he,trivial⟩ (by kernel_rfl))⟩,trivial⟩ he.ok
theorem yCr (e:Es) (a0):EqW (yr2 e a0) 11 yDs ydu (yl7 a0):=fun _ _=>by kernel_rfl
theorem ymb (e:Es) (he:EG e):OkF (E e) (ydu.pw yay) yhG:=okU he (yCr e _) (yAo e he) yp9.flat (yar (by kernel_rfl))
def ygR (a0:yck) (p0 p1 p2 p3 p4 p5 p6 p7:Int) (K:Int→Prop):Prop :=
 (a0 p0 p1 p4 p5 (fun a b =>
 (K a)))
def yhv:yox:=ygR ycs
def yr4 (e:Es) (a0:yck):SE:=sE (E e) [(yeR,yFW.pw a0)] lp0
theorem yr8 (e:Es) (a0):EqW (yr4 e a0) 11 ysV ym4 (ygR a0):=fun _ _=>by kernel_rfl
theorem ysa (e:Es) (he:EG e):OkF (E e) (ym4.pw yhv) yc9:=okU he (yr8 e _) (yaE (Sub.uni _) ⟨(yfS e he),trivial⟩ trivial he.ok) yp9.flat (yar (by kernel_rfl))
abbrev ya5:Type:=Ls→Ls→Ls→Ls→(Bool→Prop)→Prop
def ycH (a0:yam) (a1:yax) (a:Ls→Int→Ls→Int→Int→Bool→Prop):Nat→Ls→Int→Ls→Int→Int→Prop
 | 0,_,_,_,_,_=>False
 | d+1,l0,i1,l2,i3,i4 =>
 (cbr (decide (i4<i3))
 (asr (decide ((0:Int)≤i4))
 (asr (decide (i4<(((List.length l2):Nat):Int)))
 (lt (List.getD l2 (i4.toNat) .nils) (fun b =>
 (asr (conf zD b)
 (lt (IntKind.i64.wrap (i1+(((List.length (yaY b)):Nat):Int))) (fun c =>
 (cbr (decide (c<(0:Int)))
 False
 (lt (IntKind.i64.wrap (i4+(1:Int))) (fun e =>
 (ycH a0 a1 a d l0 c l2 i3 e)))))))))))
 (a l0 i1 l2 i3 i4 false))
def ybI (a0:yam) (a1:yax) (b:Ls→Nat→Ls→Int→Int→Bool→Prop):Nat→Ls→Nat→Ls→Int→Int→Prop
 | 0,_,_,_,_,_=>False
 | c+1,l0,n1,l3,i4,i5 =>
 (cbr (decide (i5<i4))
 (asr (decide ((0:Int)≤i5))
 (asr (decide (i5<(((List.length l3):Nat):Int)))
 (lt (List.getD l3 (i5.toNat) .nils) (fun a =>
 (asr (conf zD a)
 (asr (yd6 4 (yaY a))
 (asr (decide ((List.length l0)=(List.length l0)))
 (asr (decide ((0+n1)≤(List.length l0)))
 (cbr (List.isEmpty (yaY a))
 (lt (IntKind.i64.wrap (i5+(1:Int))) (fun d =>
 (asr (decide ((List.length l0)=List.length l0))
 (ybI a0 a1 b c l0 n1 l3 i4 d))))
 (asr (decide (((0+n1)+(List.length (yaY a)))≤(List.length l0)))
 (lt (IntKind.i64.wrap (i5+(1:Int))) (fun e =>
 (asr (decide ((List.length l0)=List.length ((List.take (0+n1) l0)++((yaY a)++(List.drop ((0+n1)+(List.length (yaY a))) l0)))))
 (ybI a0 a1 b c ((List.take (0+n1) l0)++((yaY a)++(List.drop ((0+n1)+(List.length (yaY a))) l0))) (n1+(List.length (yaY a))) l3 i4 e))))))))))))))
 (b l0 n1 l3 i4 i5 false))
def ycI (a0:yam) (a1:yax) (b:Ls→Int→Int→Bool→Prop) (c:Ls→Nat→Ls→Int→Int→Bool→Prop):Nat→Ls→Int→Int→Prop
 | 0,_,_,_=>False
 | d+1,l0,i1,i2 =>
 (cbr (decide (i2<i1))
 (asr (decide ((0:Int)≤i2))
 (asr (decide (i2<(((List.length l0):Nat):Int)))
 (lt (List.getD l0 (i2.toNat) .nils) (fun a =>
 (asr (conf zD a)
 (asr (yd6 4 (yaY a))
 (cbr (List.isEmpty (yaY a))
 (lt (IntKind.i64.wrap (i2+(1:Int))) (fun e =>
 (ycI a0 a1 b c d l0 i1 e)))
 (asr (decide (((List.length (yaY a))+64)*(32+1)≤room))
 (lt (IntKind.i64.wrap (i2+(1:Int))) (fun f =>
 (asr (decide ((List.length (yaY a))=List.length (yaY a)))
 (ybI a0 a1 c d (yaY a) (List.length (yaY a)) l0 i1 f))))))))))))
 (b l0 i1 i2 false))
def ycJ (a0:yam) (a1:yax) (b:Ls→Ls→Ls→Ls→Ls→Int→Int→Nat→Int→Int→Bool→Prop) (c:Ls→Bool→Prop):Nat→Ls→Ls→Ls→Ls→Ls→Int→Int→Nat→Int→Int→Prop
 | 0,_,_,_,_,_,_,_,_,_,_=>False
 | e+1,l0,l1,l2,l3,l4,i5,i6,n7,i9,i10 =>
 (cbr (decide (i10<i9))
 (jn (fun (d:Int→Int→Prop) =>
 (asr (decide ((0:Int)≤i10))
 (asr (decide (i10<((n7:Nat):Int)))
 (asr (decide ((List.length l0)=(List.length l0)))
 (asr (decide ((0+(i10.toNat))<(List.length l0)))
 (lt (List.getD l0 (0+(i10.toNat)) .nils) (fun a =>
 (asr (conf z4 a)
 (a1 i5 i6 (yaa (yab a 0)) (yaa (yab a 1)) (fun f =>
 (cbr f
 (c l0 true)
 (a1 i5 i6 (yaa (yab a 2)) (yaa (yab a 3)) (fun g =>
 (cbr g
 (d (yaa (yab a 2)) (yaa (yab a 3)))
 (d i5 i6)))))))))))))))
 (fun h i=>(lt (IntKind.i64.wrap (i10+(1:Int))) (fun j =>
 (asr (decide ((List.length l0)=List.length l0))
 (ycJ a0 a1 b c e l0 l1 l2 l3 l4 h i n7 i9 j))))))
 (b l0 l1 l2 l3 l4 i5 i6 n7 i9 i10 false))
def ygk (a0:yam) (a1:yax) (a:Ls→Ls→Ls→Ls→Int→Int→Int→Int→Bool→Prop):Nat→Ls→Ls→Ls→Ls→Int→Int→Int→Int→Prop
 | 0,_,_,_,_,_,_,_,_=>False
 | b+1,l0,l1,l2,l3,i4,i5,i6,i7 =>
 (cbr (decide (i7<i6))
 False
 (a l0 l1 l2 l3 i4 i5 i6 i7 false))
def yh6 (a0:yam) (a1:yax) (p0 p1 p2 p3:Ls) (K:Bool→Prop):Prop :=
 (jn (fun (g:Ls→Nat→Prop) =>
 (∃ n:Nat,ycH a0 a1
 (fun d h I J L M=>(cbr (decide (h<(0:Int)))
 False
 (jn (fun i =>
 (lt (IntKind.i64.wrap (h-(0:Int))) (fun a =>
 (cbr (decide (a>(0:Int)))
 (asr (decide ((0:Int)≤a))
 (cbr (decide ((a.toNat)=0))
 i
 (asr (decide (((List.length (List.replicate (a.toNat) ((.agg [(.int .i64 (0)),(.int .i64 (0)),(.int .i64 (0)),(.int .i64 (0))]):PV)))+64)*(32+1)≤room))
 (asr ((decide ((0:Int)≤(((List.length (List.replicate (a.toNat) ((.agg [(.int .i64 (0)),(.int .i64 (0)),(.int .i64 (0)),(.int .i64 (0))]):PV))):Nat):Int)))||(decide ((0:Int)≤(((List.length (List.replicate (a.toNat) ((.agg [(.int .i64 (0)),(.int .i64 (0)),(.int .i64 (0)),(.int .i64 (0))]):PV))):Nat):Int))))
 (asr (decide ((List.length (List.replicate (a.toNat) ((.agg [(.int .i64 (0)),(.int .i64 (0)),(.int .i64 (0)),(.int .i64 (0))]):PV)))=List.length (List.replicate (a.toNat) ((.agg [(.int .i64 (0)),(.int .i64 (0)),(.int .i64 (0)),(.int .i64 (0))]):PV))))
 (∃ e:Nat,ybI a0 a1
 (fun o p N O Q R=>(g o p))
 e (List.replicate (a.toNat) ((.agg [(.int .i64 (0)),(.int .i64 (0)),(.int .i64 (0)),(.int .i64 (0))]):PV)) 0 d (((List.length d):Nat):Int) (0:Int)))))))
 i))))
 (∃ e:Nat,ycI a0 a1
 (fun S T U V=>(a0 (0:Int) (fun q r =>
 (∃ f:Nat,ygk a0 a1
 (fun j W X Y t u Z va vb=>(asr (decide ((0:Int)<(((List.length j):Nat):Int)))
 (lt (List.getD j 0 .nils) (fun k =>
 (asr (conf zK k)
 (a0 (yaa (yab k 0)) (fun v w =>
 (a1 t u v w (fun x =>
 (K x))))))))))
 f p0 p1 p2 p3 q r (0:Int) (0:Int)))))
 (fun y z vc vd ve vf=>(g y z))
 e d (((List.length d):Nat):Int) (0:Int)))))
 n p1 (0:Int) p1 (((List.length p1):Nat):Int) (0:Int)))
 (fun b c=>(asr (Srt.cond yqF.s b 0 c (List.length b) 4 false)
 (a0 (0:Int) (fun A B =>
 (asr (decide ((List.length b)=List.length (List.take 0 b++(Srt.sorted yqF.s yqF.srt (List.take c (List.drop 0 b))++List.drop (0+c) b))))
 (∃ f:Nat,ycJ a0 a1
 (fun vg l vh vi vj C D vk vl vm vn=>(asr (decide ((0:Int)<(((List.length l):Nat):Int)))
 (lt (List.getD l 0 .nils) (fun m =>
 (asr (conf zK m)
 (a0 (yaa (yab m 0)) (fun E F =>
 (a1 C D E F (fun G =>
 (K G))))))))))
 (fun vo H=>(K H))
 f (List.take 0 b++(Srt.sorted yqF.s yqF.srt (List.take c (List.drop 0 b))++List.drop (0+c) b)) p0 p1 p2 p3 A B c ((c:Nat):Int) (0:Int))))))))
def yaj:ya5:=yh6 yaP yap
def pt34:VPt:=vX 0 (vA (lC vD (lC vD pt13)))
def yvq:Sg:=⟨(lC pt34 lN),Bool→Prop,fun K=>(fun r0=>K (.bool r0))⟩
def yqM (Q:Qx):Ls→Int→Ls→Int→Int→Bool→Prop:=(fun l0 i1 l2 i3 i4 b5=>Q (.exit 0) [(0,.v (.data l0)),(3,.v (.int .i64 i1)),(9,.v (.data l2)),(10,.v (.int .i64 i3)),(11,.v (.int .i64 i4)),(12,.v (.bool b5))] [])
def yqN (Q:Qx):Ls→Int→Int→Bool→Prop:=(fun l0 i1 i2 b3=>Q (.exit 2) [(6,.v .nils),(25,.v (.data l0)),(26,.v (.int .i64 i1)),(27,.v (.int .i64 i2)),(28,.v (.bool b3))] [])
def yjm (Q:Qx):Ls→Nat→Ls→Int→Int→Bool→Prop:=(fun l0 n1 l3 i4 i5 b6=>Q (.exit 2) [(6,.v (.own 0 0 n1 (List.length l0) none)),(25,.v (.data l3)),(26,.v (.int .i64 i4)),(27,.v (.int .i64 i5)),(28,.v (.bool b6))] [⟨false,true,4,l0⟩])
def yqO (Q:Qx):Ls→Ls→Ls→Ls→Ls→Int→Int→Nat→Int→Int→Bool→Prop:=(fun l0 l1 l2 l3 l4 i5 i6 n7 i9 i10 b11=>Q (.exit 0) [(0,.v (.eptr [(.agg [(.data l1),(.data l2),(.data l3),(.data l4)])] 0 0)),(4,.box (.agg [(.int .i64 i5),(.int .i64 i6)])),(15,.v (.own 0 0 n7 (List.length l0) none)),(16,.v (.int .i64 i9)),(17,.v (.int .i64 i10)),(18,.v (.bool b11))] [⟨false,true,4,l0⟩])
def yqP (Q:Qx):Ls→Bool→Prop:=(fun l0 b1=>Q .ret [(2,.v (.bool b1))] [⟨false,true,4,l0⟩])
def yqQ (Q:Qx):Ls→Ls→Ls→Ls→Int→Int→Int→Int→Bool→Prop:=(fun l0 l1 l2 l3 i4 i5 i6 i7 b8=>Q (.exit 0) [(0,.v (.eptr [(.agg [(.data l0),(.data l1),(.data l2),(.data l3)])] 0 0)),(4,.box (.agg [(.int .i64 i4),(.int .i64 i5)])),(15,.v .nils),(16,.v (.int .i64 i6)),(17,.v (.int .i64 i7)),(18,.v (.bool b8))] [])
def yku (a0:yam) (a1:yax) (Q:Qx):List St:=[⟨(pS hN (fV 0 vD (fV 3 pt0 (fV 9 vD (fV 10 pt0 (fV 11 pt0 fN))))) fN),ycH a0 a1 (yqM Q)⟩]
def ykv (a0:yam) (a1:yax) (Q:Qx):List St:=[⟨(pS hN (fV 6 vNs pt30) fN),ycI a0 a1 (yqN Q) (yjm Q)⟩,⟨(pS pt23 (fV 6 (vW 0 (nK 0) nV (nT 0)) pt30) fN),ybI a0 a1 (yjm Q)⟩]
def pt35:Pat Frm:=fV 16 pt0 (fV 17 pt0 fN)
def ykw (a0:yam) (a1:yax) (Q:Qx):List St:=[⟨(pS pt23 (fV 0 pt34 (fX 4 pt6 (fV 15 (vW 0 (nK 0) nV (nT 0)) pt35))) fN),ycJ a0 a1 (yqO Q) (yqP Q)⟩,⟨(pS hN (fV 0 pt34 (fX 4 pt6 (fV 15 vNs pt35))) fN),ygk a0 a1 (yqQ Q)⟩]
def yew (a0:yam) (a1:yax):LP:=lpS [(14451100,yku a0 a1),(14451101,ykv a0 a1),(93107500,ykw a0 a1)]
def yfY (a0:yam) (a1:yax):SE:=⟨(E ef0),ydO [(yc0,yhI.pw a0),(ydC,ywy.pw a1)],ydP [(yet,ygI)],yew a0 a1,fun _=>none⟩
def ymc (a0:yam) (a1:yax):SE:=⟨(E ef0),ydO [(yc0,yhI.pw a0),(ydC,ywy.pw a1)],ydP [(yf7,ydZ),(yet,ygI)],yew a0 a1,fun _=>none⟩
theorem yhw:SEOk (Uni (E ef0)) (yfY yaP yap):=yaE (Sub.uni _) ⟨(yev ef0 ybR),(ye9 ef0 ybR),trivial⟩ ⟨⟨by kernel_rfl,by kernel_rfl,rfl,fun az=>yaN (by kernel_rfl) az,ybR.num _ (by kernel_rfl),by kernel_rfl,(yar (by kernel_rfl))⟩,trivial⟩ ybR.ok
theorem ypI (a0 a1):ycr (yfY a0 a1) 10 a yuS false (yku a0 a1):=fun _=>⟨fun _=>by kernel_rfl,fun _ _=>by kernel_rfl,trivial⟩
theorem ypJ:LpT (Uni (E ef0)) (yew yaP yap) [] 14451100 (.loop 14451100 yuS):=fun _ _ _=>yp8.st (Sub.uni _) (yaW (yhw) 10) (YOk.no _ _) (yar (by kernel_rfl)) (ypI _ _ _)
theorem ypK (a0 a1):ycr (yfY a0 a1) 10 a yuT false (ykv a0 a1):=fun _=>⟨fun _=>by kernel_rfl,fun _ _=>by kernel_rfl,fun _=>by kernel_rfl,fun _ _=>by kernel_rfl,trivial⟩
theorem ypL:LpT (Uni (E ef0)) (yew yaP yap) [] 14451101 (.loop 14451101 yuT):=fun _ _ _=>yp8.st (Sub.uni _) (yaW (yhw) 10) (YOk.no _ _) (yar (by kernel_rfl)) (ypK _ _ _)
theorem ypM (a0 a1):ycr (yfY a0 a1) 10 a yuU false (ykw a0 a1):=fun _=>⟨fun _=>by kernel_rfl,fun _ _=>by kernel_rfl,fun _=>by kernel_rfl,fun _ _=>by kernel_rfl,trivial⟩
theorem ypN:LpT (Uni (E ef0)) (yew yaP yap) [] 93107500 (.loop 93107500 yuU):=fun _ _ _=>yp8.st (Sub.uni _) (yaW (yhw) 10) (YOk.no _ _) (yar (by kernel_rfl)) (ypM _ _ _)
theorem ytd:SEOk (Uni (E ef0)) (ymc yaP yap):=yaE (Sub.uni _) ⟨(yev ef0 ybR),(ye9 ef0 ybR),trivial⟩ ⟨⟨by kernel_rfl,by kernel_rfl,rfl,fun az=>yaN (by kernel_rfl) az,ybR.num _ (by kernel_rfl),by kernel_rfl,(ybg (l:=[(14451100,.loop 14451100 yuS),(14451101,.loop 14451101 yuT)]) ⟨ypJ,ypL,trivial⟩ (by kernel_rfl))⟩,⟨by kernel_rfl,by kernel_rfl,rfl,fun az=>yaN (by kernel_rfl) az,ybR.num _ (by kernel_rfl),by kernel_rfl,(yar (by kernel_rfl))⟩,trivial⟩ ybR.ok
theorem yvr (a0 a1):EqW (ymc a0 a1) 11 ym1 yvq (yh6 a0 a1):=fun _ _=>by kernel_rfl
theorem yh7:OkF (E ef0) (yvq.pw yaj) ydQ:=okU ybR (yvr _ _) (ytd) yp9.flat (ybg (l:=[(93107500,.loop 93107500 yuU)]) ⟨ypN,trivial⟩ (by kernel_rfl))
abbrev yaH:Type:=Ls→Ls→Ls→Ls→Int→(Int→Int→Bool→Prop)→Prop
def ybl (a0:yad) (a1:ya5) (a2:yaJ) (a3:ybM) (a4:yax) (a:Ls→Ls→Ls→Ls→Ls→Ls→Ls→Ls→Int→Int→Int→Int→Int→Bool→Prop) (b:Ls→Ls→Ls→Ls→Int→Int→Bool→Prop):Nat→Ls→Ls→Ls→Ls→Ls→Ls→Ls→Ls→Int→Int→Int→Int→Int→Prop
 | 0,_,_,_,_,_,_,_,_,_,_,_,_,_=>False
 | f+1,l0,l1,l2,l3,l4,l5,l6,l7,i8,i9,i10,i11,i12 =>
 (cbr (decide (i12<i11))
 (jn (fun (c:Bool→Prop) =>
 (cbr (decide (i8<i12))
 (asr (decide ((0:Int)≤i8))
 (asr (decide (i8<(((List.length l1):Nat):Int)))
 (lt (List.getD l1 (i8.toNat) .nils) (fun d =>
 (asr (conf zD d)
 (asr (decide ((0:Int)≤i12))
 (asr (decide (i12<(((List.length l1):Nat):Int)))
 (lt (List.getD l1 (i12.toNat) .nils) (fun e =>
 (asr (conf zD e)
 (a0 (yaY d) (yaY e) (fun g =>
 (c g)))))))))))))
 (c false)))
 (fun h=>(cbr h
 (b l0 l1 l2 l3 i8 i12 true)
 (lt (IntKind.i64.wrap (i12+(1:Int))) (fun i =>
 (ybl a0 a1 a2 a3 a4 a b f l0 l1 l2 l3 l4 l5 l6 l7 i8 i9 i10 i11 i))))))
 (a l0 l1 l2 l3 l4 l5 l6 l7 i8 i9 i10 i11 i12 false))
def ybm (a0:yad) (a1:ya5) (a2:yaJ) (a3:ybM) (a4:yax) (d:Ls→Ls→Ls→Ls→Int→Int→Bool→Prop) (e:Ls→Ls→Ls→Ls→Ls→Ls→Ls→Ls→Int→Int→Int→Int→Int→Bool→Prop):Nat→Ls→Ls→Ls→Ls→Ls→Ls→Ls→Ls→Int→Int→Int→Int→Int→Prop
 | 0,_,_,_,_,_,_,_,_,_,_,_,_,_=>False
 | g+1,l0,l1,l2,l3,l4,l5,l6,l7,i8,i9,i10,i11,i12 =>
 (cbr (decide (i12<i11))
 (asr (decide ((0:Int)≤i8))
 (asr (decide (i8<(((List.length l0):Nat):Int)))
 (lt (List.getD l0 (i8.toNat) .nils) (fun a =>
 (asr (conf zK a)
 (a2 (yaa (yab a 0)) (yaY (yab a 1)) (yaY (yab a 2)) (fun h n =>
 (a3 h (((List.length l0):Nat):Int) (fun i j o =>
 (jn (fun (f:Bool→Prop) =>
 (cbr (i8 == i12)
 (asr (decide ((0:Int)≤i8))
 (asr (decide (i8<(((List.length l2):Nat):Int)))
 (lt (List.getD l2 (i8.toNat) .nils) (fun b =>
 (asr (conf zD b)
 (asr (decide ((0:Int)≤i8))
 (asr (decide (i8<(((List.length (yaY b)):Nat):Int)))
 (lt (List.getD (yaY b) (i8.toNat) .nils) (fun c =>
 (asr (conf z2 c)
 (a4 (yaa (yab c 0)) (yaa (yab c 1)) i j (fun k =>
 (f k)))))))))))))
 (f false)))
 (fun l=>(cbr l
 (d l0 l1 l2 l3 i8 i12 true)
 (lt (IntKind.i64.wrap (i12+(1:Int))) (fun m =>
 (ybm a0 a1 a2 a3 a4 d e g l0 l1 l2 l3 l4 l5 l6 l7 i8 i9 i10 i11 m)))))))))))))))
 (e l0 l1 l2 l3 l4 l5 l6 l7 i8 i9 i10 i11 i12 false))
def ybn (a0:yad) (a1:ya5) (a2:yaJ) (a3:ybM) (a4:yax) (e:Ls→Ls→Ls→Ls→Int→Int→Bool→Prop) (f:Ls→Ls→Ls→Ls→Ls→Ls→Ls→Ls→Int→Int→Int→Int→Int→Bool→Prop):Nat→Ls→Ls→Ls→Ls→Ls→Ls→Ls→Ls→Int→Int→Int→Int→Int→Prop
 | 0,_,_,_,_,_,_,_,_,_,_,_,_,_=>False
 | g+1,l0,l1,l2,l3,l4,l5,l6,l7,i8,i9,i10,i11,i12 =>
 (cbr (decide (i12<i11))
 (asr (decide ((0:Int)≤i8))
 (asr (decide (i8<(((List.length l2):Nat):Int)))
 (lt (List.getD l2 (i8.toNat) .nils) (fun a =>
 (asr (conf zD a)
 (asr (decide ((0:Int)≤i8))
 (asr (decide (i8<(((List.length (yaY a)):Nat):Int)))
 (lt (List.getD (yaY a) (i8.toNat) .nils) (fun b =>
 (asr (conf z2 b)
 (asr (decide ((0:Int)≤i8))
 (asr (decide (i8<(((List.length l2):Nat):Int)))
 (lt (List.getD l2 (i8.toNat) .nils) (fun c =>
 (asr (conf zD c)
 (asr (decide ((0:Int)≤i12))
 (asr (decide (i12<(((List.length (yaY c)):Nat):Int)))
 (lt (List.getD (yaY c) (i12.toNat) .nils) (fun d =>
 (asr (conf z2 d)
 (a4 (yaa (yab b 0)) (yaa (yab b 1)) (yaa (yab d 0)) (yaa (yab d 1)) (fun h =>
 (cbr h
 (e l0 l1 l2 l3 i8 i12 true)
 (lt (IntKind.i64.wrap (i12+(1:Int))) (fun i =>
 (ybn a0 a1 a2 a3 a4 e f g l0 l1 l2 l3 l4 l5 l6 l7 i8 i9 i10 i11 i))))))))))))))))))))))))))
 (f l0 l1 l2 l3 l4 l5 l6 l7 i8 i9 i10 i11 i12 false))
def ybo (a0:yad) (a1:ya5) (a2:yaJ) (a3:ybM) (a4:yax) (c:Ls→Ls→Ls→Ls→Int→Int→Bool→Prop) (d:Ls→Ls→Ls→Ls→Ls→Ls→Ls→Ls→Int→Int→Int→Int→Int→Bool→Prop):Nat→Ls→Ls→Ls→Ls→Ls→Ls→Ls→Ls→Int→Int→Int→Int→Int→Prop
 | 0,_,_,_,_,_,_,_,_,_,_,_,_,_=>False
 | f+1,l0,l1,l2,l3,l4,l5,l6,l7,i8,i9,i10,i11,i12 =>
 (cbr (decide (i12<i11))
 (jn (fun (e:Bool→Prop) =>
 (cbr (i12 ==(0:Int))
 (asr (decide ((0:Int)≤i8))
 (asr (decide (i8<(((List.length l3):Nat):Int)))
 (lt (List.getD l3 (i8.toNat) .nils) (fun a =>
 (asr (conf z2 a)
 (asr (decide ((0:Int)<(((List.length l3):Nat):Int)))
 (lt (List.getD l3 0 .nils) (fun b =>
 (asr (conf z2 b)
 (e (!(((yaa (yab a 0)) ==(yaa (yab b 0)))&&(((yaa (yab a 1)) ==(yaa (yab b 1)))&&true)))))))))))))
 (e false)))
 (fun g=>(cbr g
 (c l0 l1 l2 l3 i8 i12 true)
 (lt (IntKind.i64.wrap (i12+(1:Int))) (fun h =>
 (ybo a0 a1 a2 a3 a4 c d f l0 l1 l2 l3 l4 l5 l6 l7 i8 i9 i10 i11 h))))))
 (d l0 l1 l2 l3 l4 l5 l6 l7 i8 i9 i10 i11 i12 false))
def ybp (a0:yad) (a1:ya5) (a2:yaJ) (a3:ybM) (a4:yax) (a:Ls→Ls→Ls→Ls→Int→Int→Bool→Prop) (b:Ls→Ls→Ls→Ls→Ls→Ls→Ls→Ls→Int→Int→Int→Int→Int→Bool→Prop):Nat→Ls→Ls→Ls→Ls→Ls→Ls→Ls→Ls→Int→Int→Int→Int→Int→Prop
 | 0,_,_,_,_,_,_,_,_,_,_,_,_,_=>False
 | e+1,l0,l1,l2,l3,l4,l5,l6,l7,i8,i9,i10,i11,i12 =>
 (cbr (decide (i12<i11))
 (jn (fun (c:Bool→Prop) =>
 (cbr (i8 == i12)
 (asr (decide ((0:Int)≤i8))
 (asr (decide (i8<(((List.length l1):Nat):Int)))
 (lt (List.getD l1 (i8.toNat) .nils) (fun d =>
 (asr (conf zD d)
 (c ((((List.length (yaY d)):Nat):Int) !=(1:Int))))))))
 (c false)))
 (fun f=>(cbr f
 (a l0 l1 l2 l3 i8 i12 true)
 (lt (IntKind.i64.wrap (i12+(1:Int))) (fun g =>
 (ybp a0 a1 a2 a3 a4 a b e l0 l1 l2 l3 l4 l5 l6 l7 i8 i9 i10 i11 g))))))
 (b l0 l1 l2 l3 l4 l5 l6 l7 i8 i9 i10 i11 i12 false))
def ybq (a0:yad) (a1:ya5) (a2:yaJ) (a3:ybM) (a4:yax) (a:Ls→Ls→Ls→Ls→Ls→Ls→Ls→Ls→Int→Int→Bool→Prop) (b:Ls→Ls→Ls→Ls→Int→Int→Bool→Prop):Nat→Ls→Ls→Ls→Ls→Ls→Ls→Ls→Ls→Int→Int→Prop
 | 0,_,_,_,_,_,_,_,_,_,_=>False
 | c+1,l0,l1,l2,l3,l4,l5,l6,l7,i8,i9 =>
 (cbr (decide (i9<i8))
 (∃ d:Nat,ybl a0 a1 a2 a3 a4
 (fun e f g h i j k l w m n x y z=>(lt (IntKind.i64.wrap (n+(1:Int))) (fun o =>
 (ybq a0 a1 a2 a3 a4 a b c e f g h i j k l m o))))
 (fun p q r s t u v=>(b p q r s t u v))
 d l0 l1 l2 l3 l4 l5 l6 l7 i9 i8 i9 (((List.length l4):Nat):Int) (0:Int))
 (a l0 l1 l2 l3 l4 l5 l6 l7 i8 i9 false))
def ybr (a0:yad) (a1:ya5) (a2:yaJ) (a3:ybM) (a4:yax) (a:Ls→Ls→Ls→Ls→Int→Int→Bool→Prop) (b:Ls→Ls→Ls→Ls→Ls→Ls→Ls→Ls→Int→Int→Bool→Prop):Nat→Ls→Ls→Ls→Ls→Ls→Ls→Ls→Ls→Int→Int→Prop
 | 0,_,_,_,_,_,_,_,_,_,_=>False
 | c+1,l0,l1,l2,l3,l4,l5,l6,l7,i8,i9 =>
 (cbr (decide (i9<i8))
 (∃ d:Nat,ybm a0 a1 a2 a3 a4
 (fun e f g h i j k=>(a e f g h i j k))
 (fun l m n o p q r s w t u x y z=>(lt (IntKind.i64.wrap (u+(1:Int))) (fun v =>
 (ybr a0 a1 a2 a3 a4 a b c l m n o p q r s t v))))
 d l0 l1 l2 l3 l4 l5 l6 l7 i9 i8 i9 (((List.length l4):Nat):Int) (0:Int))
 (b l0 l1 l2 l3 l4 l5 l6 l7 i8 i9 false))
def ybs (a0:yad) (a1:ya5) (a2:yaJ) (a3:ybM) (a4:yax) (a:Ls→Ls→Ls→Ls→Int→Int→Bool→Prop) (b:Ls→Ls→Ls→Ls→Ls→Ls→Ls→Ls→Int→Int→Bool→Prop):Nat→Ls→Ls→Ls→Ls→Ls→Ls→Ls→Ls→Int→Int→Prop
 | 0,_,_,_,_,_,_,_,_,_,_=>False
 | c+1,l0,l1,l2,l3,l4,l5,l6,l7,i8,i9 =>
 (cbr (decide (i9<i8))
 (∃ d:Nat,ybn a0 a1 a2 a3 a4
 (fun e f g h i j k=>(a e f g h i j k))
 (fun l m n o p q r s w t u x y z=>(lt (IntKind.i64.wrap (u+(1:Int))) (fun v =>
 (ybs a0 a1 a2 a3 a4 a b c l m n o p q r s t v))))
 d l0 l1 l2 l3 l4 l5 l6 l7 i9 i8 i9 (((List.length l4):Nat):Int) (0:Int))
 (b l0 l1 l2 l3 l4 l5 l6 l7 i8 i9 false))
def ybt (a0:yad) (a1:ya5) (a2:yaJ) (a3:ybM) (a4:yax) (a:Ls→Ls→Ls→Ls→Int→Int→Bool→Prop) (b:Ls→Ls→Ls→Ls→Ls→Ls→Ls→Ls→Int→Int→Bool→Prop):Nat→Ls→Ls→Ls→Ls→Ls→Ls→Ls→Ls→Int→Int→Prop
 | 0,_,_,_,_,_,_,_,_,_,_=>False
 | c+1,l0,l1,l2,l3,l4,l5,l6,l7,i8,i9 =>
 (cbr (decide (i9<i8))
 (∃ d:Nat,ybo a0 a1 a2 a3 a4
 (fun e f g h i j k=>(a e f g h i j k))
 (fun l m n o p q r s w t u x y z=>(lt (IntKind.i64.wrap (u+(1:Int))) (fun v =>
 (ybt a0 a1 a2 a3 a4 a b c l m n o p q r s t v))))
 d l0 l1 l2 l3 l4 l5 l6 l7 i9 i8 i9 (((List.length l4):Nat):Int) (0:Int))
 (b l0 l1 l2 l3 l4 l5 l6 l7 i8 i9 false))
def ybu (a0:yad) (a1:ya5) (a2:yaJ) (a3:ybM) (a4:yax) (a:Ls→Ls→Ls→Ls→Int→Int→Bool→Prop) (b:Ls→Ls→Ls→Ls→Ls→Ls→Ls→Ls→Int→Int→Bool→Prop):Nat→Ls→Ls→Ls→Ls→Ls→Ls→Ls→Ls→Int→Int→Prop
 | 0,_,_,_,_,_,_,_,_,_,_=>False
 | c+1,l0,l1,l2,l3,l4,l5,l6,l7,i8,i9 =>
 (cbr (decide (i9<i8))
 (∃ d:Nat,ybp a0 a1 a2 a3 a4
 (fun e f g h i j k=>(a e f g h i j k))
 (fun l m n o p q r s w t u x y z=>(lt (IntKind.i64.wrap (u+(1:Int))) (fun v =>
 (ybu a0 a1 a2 a3 a4 a b c l m n o p q r s t v))))
 d l0 l1 l2 l3 l4 l5 l6 l7 i9 i8 i9 (((List.length l4):Nat):Int) (0:Int))
 (b l0 l1 l2 l3 l4 l5 l6 l7 i8 i9 false))
def ygl (a0:yad) (a1:ya5) (a2:yaJ) (a3:ybM) (a4:yax) (p0 p1 p2 p3:Ls) (p4:Int) (K:Int→Int→Bool→Prop):Prop :=
 (cbr (p4 ==(1:Int))
 (jn (fun (b:Ls→Ls→Ls→Ls→Int→Int→Bool→Prop) =>
 (∃ a:Nat,ybq a0 a1 a2 a3 a4
 (fun i j k l vH vI vJ vK vL vM vN=>(b i j k l (0:Int) (0:Int) false))
 (fun m n o p q r s=>(b m n o p q r s))
 a p0 p1 p2 p3 p0 p1 p2 p3 (((List.length p0):Nat):Int) (0:Int)))
 (fun t u v w x y c=>(jn (fun (d:Bool→Prop) =>
 (cbr (!c)
 (a1 t u v w (fun z =>
 (d z)))
 (d false)))
 (fun A=>(cbr A
 (K (-1:Int) (-1:Int) true)
 (K x y c))))))
 (cbr (p4 ==(2:Int))
 (jn (fun (e:Ls→Ls→Ls→Ls→Int→Int→Bool→Prop) =>
 (∃ a:Nat,ybr a0 a1 a2 a3 a4
 (fun B C D E F G H=>(e B C D E F G H))
 (fun I J L M vO vP vQ vR vS vT vU=>(e I J L M (0:Int) (0:Int) false))
 a p0 p1 p2 p3 p0 p1 p2 p3 (((List.length p0):Nat):Int) (0:Int)))
 (fun vV vW vX vY N O Q=>(K N O Q)))
 (cbr (p4 ==(4:Int))
 (jn (fun (f:Ls→Ls→Ls→Ls→Int→Int→Bool→Prop) =>
 (∃ a:Nat,ybs a0 a1 a2 a3 a4
 (fun R S T U V W X=>(f R S T U V W X))
 (fun Y Z va vb vZ v0 v1 v2 v3 v4 v5=>(f Y Z va vb (0:Int) (0:Int) false))
 a p0 p1 p2 p3 p0 p1 p2 p3 (((List.length p0):Nat):Int) (0:Int)))
 (fun v6 v7 v8 v9 vc vd ve=>(K vc vd ve)))
 (cbr (p4 ==(8:Int))
 (jn (fun (g:Ls→Ls→Ls→Ls→Int→Int→Bool→Prop) =>
 (∃ a:Nat,ybt a0 a1 a2 a3 a4
 (fun vf vg vh vi vj vk vl=>(g vf vg vh vi vj vk vl))
 (fun vm vn vo vp wa wb wc wd we wf wg=>(g vm vn vo vp (0:Int) (0:Int) false))
 a p0 p1 p2 p3 p0 p1 p2 p3 (((List.length p0):Nat):Int) (0:Int)))
 (fun wh wi wj wk vq vr vs=>(K vq vr vs)))
 (jn (fun (h:Ls→Ls→Ls→Ls→Int→Int→Bool→Prop) =>
 (∃ a:Nat,ybu a0 a1 a2 a3 a4
 (fun vt vu vv vw vx vy vz=>(h vt vu vv vw vx vy vz))
 (fun vA vB vC vD wl wm wn wo wp wq wr=>(h vA vB vC vD (0:Int) (0:Int) false))
 a p0 p1 p2 p3 p0 p1 p2 p3 (((List.length p0):Nat):Int) (0:Int)))
 (fun ws wt wu wv vE vF vG=>(K vE vF vG)))))))
def yaI:yaH:=ygl yay yaj yan yaA yap
def yqR:Sg:=⟨(lC pt34 (lC (vI IntKind.u8) lN)),Int→Int→Bool→Prop,fun K=>(fun r0 r1 r2=>K (.tup [(.int .i64 r0),(.int .i64 r1),(.bool r2)]))⟩
def ynL (Q:Qx):Ls→Ls→Ls→Ls→Ls→Ls→Ls→Ls→Int→Int→Int→Int→Int→Bool→Prop:=(fun l0 l1 l2 l3 l4 l5 l6 l7 i8 i9 i10 i11 i12 b13=>Q (.exit 2) [(0,.v (.eptr [(.agg [(.data l4),(.data l5),(.data l6),(.data l7)])] 0 0)),(1,.v (.fn (.func ycw) [] [(.ptr 0 1 0 0)])),(7,.v (.int .i64 i8)),(13,.v (.int .i64 i9)),(14,.v (.int .i64 i10)),(21,.v (.int .i64 i11)),(22,.v (.int .i64 i12)),(23,.v (.bool b13))] [⟨false,false,1,([(.eptr [(.agg [(.data l0),(.data l1),(.data l2),(.data l3)])] 0 0)]:Ls)⟩])
def ycM (Q:Qx):Ls→Ls→Ls→Ls→Int→Int→Bool→Prop:=(fun l0 l1 l2 l3 i4 i5 b6=>Q .ret [(4,.v (.int .i64 i4)),(5,.v (.int .i64 i5)),(6,.v (.bool b6))] [⟨false,false,1,([(.eptr [(.agg [(.data l0),(.data l1),(.data l2),(.data l3)])] 0 0)]:Ls)⟩])
def ynM (Q:Qx):Ls→Ls→Ls→Ls→Ls→Ls→Ls→Ls→Int→Int→Int→Int→Int→Bool→Prop:=(fun l0 l1 l2 l3 l4 l5 l6 l7 i8 i9 i10 i11 i12 b13=>Q (.exit 2) [(0,.v (.eptr [(.agg [(.data l4),(.data l5),(.data l6),(.data l7)])] 0 0)),(1,.v (.fn (.func ycx) [] [(.ptr 0 1 0 0)])),(7,.v (.int .i64 i8)),(13,.v (.int .i64 i9)),(14,.v (.int .i64 i10)),(21,.v (.int .i64 i11)),(22,.v (.int .i64 i12)),(23,.v (.bool b13))] [⟨false,false,1,([(.eptr [(.agg [(.data l0),(.data l1),(.data l2),(.data l3)])] 0 0)]:Ls)⟩])
def ynN (Q:Qx):Ls→Ls→Ls→Ls→Ls→Ls→Ls→Ls→Int→Int→Int→Int→Int→Bool→Prop:=(fun l0 l1 l2 l3 l4 l5 l6 l7 i8 i9 i10 i11 i12 b13=>Q (.exit 2) [(0,.v (.eptr [(.agg [(.data l4),(.data l5),(.data l6),(.data l7)])] 0 0)),(1,.v (.fn (.func ycy) [] [(.ptr 0 1 0 0)])),(7,.v (.int .i64 i8)),(13,.v (.int .i64 i9)),(14,.v (.int .i64 i10)),(21,.v (.int .i64 i11)),(22,.v (.int .i64 i12)),(23,.v (.bool b13))] [⟨false,false,1,([(.eptr [(.agg [(.data l0),(.data l1),(.data l2),(.data l3)])] 0 0)]:Ls)⟩])
def ynO (Q:Qx):Ls→Ls→Ls→Ls→Ls→Ls→Ls→Ls→Int→Int→Int→Int→Int→Bool→Prop:=(fun l0 l1 l2 l3 l4 l5 l6 l7 i8 i9 i10 i11 i12 b13=>Q (.exit 2) [(0,.v (.eptr [(.agg [(.data l4),(.data l5),(.data l6),(.data l7)])] 0 0)),(1,.v (.fn (.func ycz) [] [(.ptr 0 1 0 0)])),(7,.v (.int .i64 i8)),(13,.v (.int .i64 i9)),(14,.v (.int .i64 i10)),(21,.v (.int .i64 i11)),(22,.v (.int .i64 i12)),(23,.v (.bool b13))] [⟨false,false,1,([(.eptr [(.agg [(.data l0),(.data l1),(.data l2),(.data l3)])] 0 0)]:Ls)⟩])
def ynP (Q:Qx):Ls→Ls→Ls→Ls→Ls→Ls→Ls→Ls→Int→Int→Int→Int→Int→Bool→Prop:=(fun l0 l1 l2 l3 l4 l5 l6 l7 i8 i9 i10 i11 i12 b13=>Q (.exit 2) [(0,.v (.eptr [(.agg [(.data l4),(.data l5),(.data l6),(.data l7)])] 0 0)),(1,.v (.fn (.func ycA) [] [(.ptr 0 1 0 0)])),(7,.v (.int .i64 i8)),(13,.v (.int .i64 i9)),(14,.v (.int .i64 i10)),(21,.v (.int .i64 i11)),(22,.v (.int .i64 i12)),(23,.v (.bool b13))] [⟨false,false,1,([(.eptr [(.agg [(.data l0),(.data l1),(.data l2),(.data l3)])] 0 0)]:Ls)⟩])
def ynQ (Q:Qx):Ls→Ls→Ls→Ls→Ls→Ls→Ls→Ls→Int→Int→Bool→Prop:=(fun l0 l1 l2 l3 l4 l5 l6 l7 i8 i9 b10=>Q (.exit 0) [(0,.v (.eptr [(.agg [(.data l4),(.data l5),(.data l6),(.data l7)])] 0 0)),(1,.v (.fn (.func ycw) [] [(.ptr 0 1 0 0)])),(13,.v (.int .i64 i8)),(14,.v (.int .i64 i9)),(15,.v (.bool b10))] [⟨false,false,1,([(.eptr [(.agg [(.data l0),(.data l1),(.data l2),(.data l3)])] 0 0)]:Ls)⟩])
def ycN (Q:Qx):Ls→Ls→Ls→Ls→Int→Int→Bool→Prop:=(fun l0 l1 l2 l3 i4 i5 b6=>Q .ret [(4,.v (.int .i64 i4)),(5,.v (.int .i64 i5)),(6,.v (.bool b6))] [⟨false,false,1,([(.eptr [(.agg [(.data l0),(.data l1),(.data l2),(.data l3)])] 0 0)]:Ls)⟩])
def ynR (Q:Qx):Ls→Ls→Ls→Ls→Ls→Ls→Ls→Ls→Int→Int→Bool→Prop:=(fun l0 l1 l2 l3 l4 l5 l6 l7 i8 i9 b10=>Q (.exit 0) [(0,.v (.eptr [(.agg [(.data l4),(.data l5),(.data l6),(.data l7)])] 0 0)),(1,.v (.fn (.func ycx) [] [(.ptr 0 1 0 0)])),(13,.v (.int .i64 i8)),(14,.v (.int .i64 i9)),(15,.v (.bool b10))] [⟨false,false,1,([(.eptr [(.agg [(.data l0),(.data l1),(.data l2),(.data l3)])] 0 0)]:Ls)⟩])
def ynS (Q:Qx):Ls→Ls→Ls→Ls→Ls→Ls→Ls→Ls→Int→Int→Bool→Prop:=(fun l0 l1 l2 l3 l4 l5 l6 l7 i8 i9 b10=>Q (.exit 0) [(0,.v (.eptr [(.agg [(.data l4),(.data l5),(.data l6),(.data l7)])] 0 0)),(1,.v (.fn (.func ycy) [] [(.ptr 0 1 0 0)])),(13,.v (.int .i64 i8)),(14,.v (.int .i64 i9)),(15,.v (.bool b10))] [⟨false,false,1,([(.eptr [(.agg [(.data l0),(.data l1),(.data l2),(.data l3)])] 0 0)]:Ls)⟩])
def ynT (Q:Qx):Ls→Ls→Ls→Ls→Ls→Ls→Ls→Ls→Int→Int→Bool→Prop:=(fun l0 l1 l2 l3 l4 l5 l6 l7 i8 i9 b10=>Q (.exit 0) [(0,.v (.eptr [(.agg [(.data l4),(.data l5),(.data l6),(.data l7)])] 0 0)),(1,.v (.fn (.func ycz) [] [(.ptr 0 1 0 0)])),(13,.v (.int .i64 i8)),(14,.v (.int .i64 i9)),(15,.v (.bool b10))] [⟨false,false,1,([(.eptr [(.agg [(.data l0),(.data l1),(.data l2),(.data l3)])] 0 0)]:Ls)⟩])
def ynU (Q:Qx):Ls→Ls→Ls→Ls→Ls→Ls→Ls→Ls→Int→Int→Bool→Prop:=(fun l0 l1 l2 l3 l4 l5 l6 l7 i8 i9 b10=>Q (.exit 0) [(0,.v (.eptr [(.agg [(.data l4),(.data l5),(.data l6),(.data l7)])] 0 0)),(1,.v (.fn (.func ycA) [] [(.ptr 0 1 0 0)])),(13,.v (.int .i64 i8)),(14,.v (.int .i64 i9)),(15,.v (.bool b10))] [⟨false,false,1,([(.eptr [(.agg [(.data l0),(.data l1),(.data l2),(.data l3)])] 0 0)]:Ls)⟩])
def pt36:HPt:=hB false false 1 (rC pt34 rN) hN
def pt37:VPt:=vF ycw lN pt26
def pt38:Pat Frm:=fV 7 pt0 (fV 13 pt0 (fV 14 pt0 (fV 21 pt0 (fV 22 pt0 fN))))
def pt39:VPt:=vF ycx lN pt26
def pt40:VPt:=vF ycy lN pt26
def pt41:VPt:=vF ycz lN pt26
def pt42:VPt:=vF ycA lN pt26
def yig (a0:yad) (a1:ya5) (a2:yaJ) (a3:ybM) (a4:yax) (Q:Qx):List St:=[⟨(pS pt36 (fV 0 pt34 (fV 1 pt37 pt38)) fN),ybl a0 a1 a2 a3 a4 (ynL Q) (ycM Q)⟩,⟨(pS pt36 (fV 0 pt34 (fV 1 pt39 pt38)) fN),ybm a0 a1 a2 a3 a4 (ycM Q) (ynM Q)⟩,⟨(pS pt36 (fV 0 pt34 (fV 1 pt40 pt38)) fN),ybn a0 a1 a2 a3 a4 (ycM Q) (ynN Q)⟩,⟨(pS pt36 (fV 0 pt34 (fV 1 pt41 pt38)) fN),ybo a0 a1 a2 a3 a4 (ycM Q) (ynO Q)⟩,⟨(pS pt36 (fV 0 pt34 (fV 1 pt42 pt38)) fN),ybp a0 a1 a2 a3 a4 (ycM Q) (ynP Q)⟩]
def yih (a0:yad) (a1:ya5) (a2:yaJ) (a3:ybM) (a4:yax) (Q:Qx):List St:=[⟨(pS pt36 (fV 0 pt34 (fV 1 pt37 pt27)) fN),ybq a0 a1 a2 a3 a4 (ynQ Q) (ycN Q)⟩,⟨(pS pt36 (fV 0 pt34 (fV 1 pt39 pt27)) fN),ybr a0 a1 a2 a3 a4 (ycN Q) (ynR Q)⟩,⟨(pS pt36 (fV 0 pt34 (fV 1 pt40 pt27)) fN),ybs a0 a1 a2 a3 a4 (ycN Q) (ynS Q)⟩,⟨(pS pt36 (fV 0 pt34 (fV 1 pt41 pt27)) fN),ybt a0 a1 a2 a3 a4 (ycN Q) (ynT Q)⟩,⟨(pS pt36 (fV 0 pt34 (fV 1 pt42 pt27)) fN),ybu a0 a1 a2 a3 a4 (ycN Q) (ynU Q)⟩]
def yey (a0:yad) (a1:ya5) (a2:yaJ) (a3:ybM) (a4:yax):LP:=lpS [(97930200,yig a0 a1 a2 a3 a4),(97930201,yih a0 a1 a2 a3 a4)]
def ygm (a0:yad) (a1:ya5) (a2:yaJ) (a3:ybM) (a4:yax):SE:=⟨(E ef0),ydO [(yhG,ydu.pw a0),(ydQ,yvq.pw a1),(ydB,yDH.pw a2),(yiD,yDy.pw a3),(ydC,ywy.pw a4)],ydP [(ycw,yiH),(ycx,yiI),(ycy,yiJ),(ycz,yiK),(ycA,yiL)],yey a0 a1 a2 a3 a4,fun _=>none⟩
def yjn (a0:yad) (a1:ya5) (a2:yaJ) (a3:ybM) (a4:yax):SE:=⟨(E ef0),ydO [(yhG,ydu.pw a0),(ydQ,yvq.pw a1),(ydB,yDH.pw a2),(yiD,yDy.pw a3),(ydC,ywy.pw a4)],ydP [(ykT,yhq),(ycw,yiH),(ycx,yiI),(ycy,yiJ),(ycz,yiK),(ycA,yiL)],yey a0 a1 a2 a3 a4,fun _=>none⟩
theorem yiV:SEOk (Uni (E ef0)) (ygm yay yaj yan yaA yap):=yaE (Sub.uni _) ⟨(ymb ef0 ybR),yh7,(yeh ef0 ybR),(ynu ef0 ybR),(ye9 ef0 ybR),trivial⟩ ⟨⟨by kernel_rfl,by kernel_rfl,rfl,fun az=>yaN (by kernel_rfl) az,ybR.num _ (by kernel_rfl),by kernel_rfl,(yar (by kernel_rfl))⟩,⟨by kernel_rfl,by kernel_rfl,rfl,fun az=>yaN (by kernel_rfl) az,ybR.num _ (by kernel_rfl),by kernel_rfl,(yar (by kernel_rfl))⟩,⟨by kernel_rfl,by kernel_rfl,rfl,fun az=>yaN (by kernel_rfl) az,ybR.num _ (by kernel_rfl),by kernel_rfl,(yar (by kernel_rfl))⟩,⟨by kernel_rfl,by kernel_rfl,rfl,fun az=>yaN (by kernel_rfl) az,ybR.num _ (by kernel_rfl),by kernel_rfl,(yar (by kernel_rfl))⟩,⟨by kernel_rfl,by kernel_rfl,rfl,fun az=>yaN (by kernel_rfl) az,ybR.num _ (by kernel_rfl),by kernel_rfl,(yar (by kernel_rfl))⟩,trivial⟩ ybR.ok
theorem ymy (a0 a1 a2 a3 a4):ycr (ygm a0 a1 a2 a3 a4) 10 a yph false (yig a0 a1 a2 a3 a4):=fun _=>⟨fun _=>by kernel_rfl,fun _ _=>by kernel_rfl,fun _=>by kernel_rfl,fun _ _=>by kernel_rfl,fun _=>by kernel_rfl,fun _ _=>by kernel_rfl,fun _=>by kernel_rfl,fun _ _=>by kernel_rfl,fun _=>by kernel_rfl,fun _ _=>by kernel_rfl,trivial⟩
theorem yhh:LpT (Uni (E ef0)) (yey yay yaj yan yaA yap) [] 97930200 (.loop 97930200 yph):=fun _ _ _=>yp8.st (Sub.uni _) (yaW (yiV) 10) (YOk.no _ _) (yar (by kernel_rfl)) (ymy _ _ _ _ _ _)
theorem ymz (a0 a1 a2 a3 a4):ycr (ygm a0 a1 a2 a3 a4) 10 a yuR false (yih a0 a1 a2 a3 a4):=fun _=>⟨fun _=>by kernel_rfl,fun _ _=>by kernel_rfl,fun _=>by kernel_rfl,fun _ _=>by kernel_rfl,fun _=>by kernel_rfl,fun _ _=>by kernel_rfl,fun _=>by kernel_rfl,fun _ _=>by kernel_rfl,fun _=>by kernel_rfl,fun _ _=>by kernel_rfl,trivial⟩
theorem ymA:LpT (Uni (E ef0)) (yey yay yaj yan yaA yap) [] 97930201 (.loop 97930201 yuR):=fun _ _ _=>yp8.st (Sub.uni _) (yaW (yiV) 10) (YOk.no _ _) (ybg (l:=[(97930200,.loop 97930200 yph)]) ⟨yhh,trivial⟩ (by kernel_rfl)) (ymz _ _ _ _ _ _)
theorem ypO:SEOk (Uni (E ef0)) (yjn yay yaj yan yaA yap):=yaE (Sub.uni _) ⟨(ymb ef0 ybR),yh7,(yeh ef0 ybR),(ynu ef0 ybR),(ye9 ef0 ybR),trivial⟩ ⟨⟨by kernel_rfl,by kernel_rfl,rfl,fun az=>yaN (by kernel_rfl) az,ybR.num _ (by kernel_rfl),by kernel_rfl,(ybg (l:=[(97930200,.loop 97930200 yph),(97930201,.loop 97930201 yuR)]) ⟨yhh,ymA,trivial⟩ (by kernel_rfl))⟩,⟨by kernel_rfl,by kernel_rfl,rfl,fun az=>yaN (by kernel_rfl) az,ybR.num _ (by kernel_rfl),by kernel_rfl,(yar (by kernel_rfl))⟩,⟨by kernel_rfl,by kernel_rfl,rfl,fun az=>yaN (by kernel_rfl) az,ybR.num _ (by kernel_rfl),by kernel_rfl,(yar (by kernel_rfl))⟩,⟨by kernel_rfl,by kernel_rfl,rfl,fun az=>yaN (by kernel_rfl) az,ybR.num _ (by kernel_rfl),by kernel_rfl,(yar (by kernel_rfl))⟩,⟨by kernel_rfl,by kernel_rfl,rfl,fun az=>yaN (by kernel_rfl) az,ybR.num _ (by kernel_rfl),by kernel_rfl,(yar (by kernel_rfl))⟩,⟨by kernel_rfl,by kernel_rfl,rfl,fun az=>yaN (by kernel_rfl) az,ybR.num _ (by kernel_rfl),by kernel_rfl,(yar (by kernel_rfl))⟩,trivial⟩ ybR.ok
theorem yqS (a0 a1 a2 a3 a4):EqW (yjn a0 a1 a2 a3 a4) 11 yri yqR (ygl a0 a1 a2 a3 a4):=fun _ _=>by kernel_rfl
theorem ydq:OkF (E ef0) (yqR.pw yaI) ybT:=okU ybR (yqS _ _ _ _ _) (ypO) yp9.flat (yar (by kernel_rfl))
abbrev yhb:Type:=Ls→Ls→(Int→Ls→Int→Prop)→Prop
def yeq (a0:ybb) (a1:yaJ) (a2:yam) (a3:yal) (a4:yaH) (f:Ls→Ls→Ls→Ls→Int→Int→Bool→Prop) (g:Ls→Ls→Ls→Ls→Int→Prop):Nat→Ls→Ls→Ls→Ls→Int→Int→Prop
 | 0,_,_,_,_,_,_=>False
 | i+1,l0,l1,l2,l3,i6,i7 =>
 (cbr (decide (i7<i6))
 (asr (decide ((0:Int)≤i7))
 (asr (decide (i7<(((List.length l1):Nat):Int)))
 (lt (List.getD l1 (i7.toNat) .nils) (fun c =>
 (asr (conf zK c)
 (a1 (yaa (yab c 0)) (yaY (yab c 1)) (yaY (yab c 2)) (fun j n =>
 (asr (decide ((0:Int)≤i7))
 (asr (decide (i7<(((List.length l3):Nat):Int)))
 (lt (List.getD l3 (i7.toNat) .nils) (fun d =>
 (asr (conf zD d)
 (asr (decide ((0:Int)≤i7))
 (asr (decide (i7<(((List.length (yaY d)):Nat):Int)))
 (lt (List.getD (yaY d) (i7.toNat) .nils) (fun e =>
 (asr (conf z2 e)
 (a2 j (fun k l =>
 (a3 (yaa (yab e 0)) (yaa (yab e 1)) k l (fun a b h =>
 (cbr (h !=(0:Int))
 (g l0 l1 l2 l3 h)
 (asr (decide ((List.length l0)=(List.length l0)))
 (asr (decide ((0+(List.length l0))≤(List.length l0)))
 (asr (!(decide (((0+(List.length l0))+1)≤(List.length l0))))
 (asr (decide ((List.length l0)=(List.length l0)))
 (asr (decide ((((List.length l0)+1)+64)*(16+1)≤room))
 (lt (IntKind.i64.wrap (i7+(1:Int))) (fun m =>
 (asr (decide ((List.length (l0++([(.agg [(.int .i64 a),(.int .i64 b)])]:Ls)))=List.length (l0++([(.agg [(.int .i64 a),(.int .i64 b)])]:Ls)))&&decide ((List.length (l0++([(.agg [(.int .i64 a),(.int .i64 b)])]:Ls)))=List.length (l0++([(.agg [(.int .i64 a),(.int .i64 b)])]:Ls))))
 (yeq a0 a1 a2 a3 a4 f g i (l0++([(.agg [(.int .i64 a),(.int .i64 b)])]:Ls)) l1 l2 l3 i6 m)))))))))))))))))))))))))))))))
 (f l0 l1 l2 l3 i6 i7 false))
def yhc (a0:ybb) (a1:yaJ) (a2:yam) (a3:yal) (a4:yaH) (g:Ls→Ls→Ls→Int→Int→Bool→Prop) (h:Ls→Ls→Ls→Int→Prop) (i:Ls→Ls→Ls→Ls→Int→Int→Bool→Prop) (j:Ls→Ls→Ls→Ls→Int→Prop):Nat→Ls→Ls→Ls→Int→Int→Prop
 | 0,_,_,_,_,_=>False
 | k+1,l0,l1,l2,i3,i4 =>
 (cbr (decide (i4<i3))
 (asr (decide ((0:Int)≤i4))
 (asr (decide (i4<(((List.length l0):Nat):Int)))
 (lt (List.getD l0 (i4.toNat) .nils) (fun a =>
 (asr (conf zK a)
 (a1 (yaa (yab a 0)) (yaY (yab a 1)) (yaY (yab a 2)) (fun l p =>
 (asr (decide ((0:Int)≤i4))
 (asr (decide (i4<(((List.length l2):Nat):Int)))
 (lt (List.getD l2 (i4.toNat) .nils) (fun b =>
 (asr (conf zD b)
 (asr (decide ((0:Int)≤i4))
 (asr (decide (i4<(((List.length (yaY b)):Nat):Int)))
 (lt (List.getD (yaY b) (i4.toNat) .nils) (fun c =>
 (asr (conf z2 c)
 (a2 l (fun m n =>
 (a3 (yaa (yab c 0)) (yaa (yab c 1)) m n (fun d e f =>
 (cbr (f !=(0:Int))
 (h l0 l1 l2 f)
 (lt (IntKind.i64.wrap (i4+(1:Int))) (fun o =>
 (asr (decide (1=List.length ([(.agg [(.int .i64 d),(.int .i64 e)])]:Ls))&&decide (1=List.length ([(.agg [(.int .i64 d),(.int .i64 e)])]:Ls)))
 (yeq a0 a1 a2 a3 a4 i j k ([(.agg [(.int .i64 d),(.int .i64 e)])]:Ls) l0 l1 l2 i3 o))))))))))))))))))))))))))
 (g l0 l1 l2 i3 i4 false))
def yjX (a0:ybb) (a1:yaJ) (a2:yam) (a3:yal) (a4:yaH) (a:Ls→Ls→Ls→Int→Int→Ls→Int→Bool→Prop):Nat→Ls→Ls→Ls→Int→Int→Ls→Int→Prop
 | 0,_,_,_,_,_,_,_=>False
 | c+1,l0,l1,l2,i3,i4,l5,i6 =>
 (cbr (decide (i6<(5:Int)))
 (jn (fun (b:Int→Prop) =>
 (asr (!(decide (i6<(0:Int))))
 (lt (IntKind.u8.wrap ((1:Int)*2 ^ (min i6.toNat IntKind.u8.bits))) (fun d =>
 (a4 l0 l1 l2 ([]:Ls) d (fun j k e =>
 (cbr (!e)
 (asr (!(decide (i6<(0:Int))))
 (lt (IntKind.u8.wrap ((1:Int)*2 ^ (min i6.toNat IntKind.u8.bits))) (fun f =>
 (lt (IntKind.u8.wrap (BitVec.ofInt IntKind.u8.bits i4|||BitVec.ofInt IntKind.u8.bits f).toNat) (fun g =>
 (b g))))))
 (b i4))))))))
 (fun h=>(lt (IntKind.i64.wrap (i6+(1:Int))) (fun i =>
 (yjX a0 a1 a2 a3 a4 a c l0 l1 l2 i3 h l5 i)))))
 (a l0 l1 l2 i3 i4 l5 i6 false))
def ydx (a0:ybb) (a1:yaJ) (a2:yam) (a3:yal) (a4:yaH) (a:Ls→Ls→Ls→Ls→Int→Int→Ls→Int→Bool→Prop):Nat→Ls→Ls→Ls→Ls→Int→Int→Ls→Int→Prop
 | 0,_,_,_,_,_,_,_,_=>False
 | c+1,l0,l1,l2,l3,i6,i7,l8,i9 =>
 (cbr (decide (i9<(5:Int)))
 (jn (fun (b:Int→Prop) =>
 (asr (!(decide (i9<(0:Int))))
 (lt (IntKind.u8.wrap ((1:Int)*2 ^ (min i9.toNat IntKind.u8.bits))) (fun d =>
 (asr (decide ((List.length l0)=(List.length l0)))
 (asr (decide ((0+(List.length l0))≤(List.length l0)))
 (a4 l1 l2 l3 (List.take (List.length l0) l0) d (fun j k e =>
 (cbr (!e)
 (asr (!(decide (i9<(0:Int))))
 (lt (IntKind.u8.wrap ((1:Int)*2 ^ (min i9.toNat IntKind.u8.bits))) (fun f =>
 (lt (IntKind.u8.wrap (BitVec.ofInt IntKind.u8.bits i7|||BitVec.ofInt IntKind.u8.bits f).toNat) (fun g =>
 (b g))))))
 (b i7))))))))))
 (fun h=>(lt (IntKind.i64.wrap (i9+(1:Int))) (fun i =>
 (asr (decide ((List.length l0)=List.length l0)&&decide ((List.length l0)=List.length l0))
 (ydx a0 a1 a2 a3 a4 a c l0 l1 l2 l3 i6 h l8 i))))))
 (a l0 l1 l2 l3 i6 i7 l8 i9 false))
def ynV (a0:ybb) (a1:yaJ) (a2:yam) (a3:yal) (a4:yaH) (p0 p1:Ls) (K:Int→Ls→Int→Prop):Prop :=
 (a0 p0 p1 (fun j b =>
 (cbr (b !=(0:Int))
 (cbr (b ==(0:Int))
 False
 (cbr (b !=(0:Int))
 (K (0:Int) ([]:Ls) b)
 False))
 (jn (fun (d:Ls→Ls→Ls→Int→Prop) =>
 (jn (fun (e:Ls→Ls→Ls→Ls→Int→Prop) =>
 (∃ k:Nat,yhc a0 a1 a2 a3 a4
 (fun l m n J L M=>(d l m n (0:Int)))
 (fun o p q r=>(d o p q r))
 (fun s t u v N O Q=>(e s t u v (0:Int)))
 (fun w x y z A=>(e w x y z A))
 k p0 p1 j (((List.length p0):Nat):Int) (0:Int)))
 (fun a B C f g=>(cbr (g !=(0:Int))
 (K (0:Int) ([]:Ls) g)
 (asr (decide ((List.length a)=List.length a)&&decide ((List.length a)=List.length a))
 (∃ c:Nat,ydx a0 a1 a2 a3 a4
 (fun R S T U V D E W X=>(K D E (0:Int)))
 c a B C f (0:Int) (0:Int) f (0:Int)))))))
 (fun F G h i=>(cbr (i !=(0:Int))
 (K (0:Int) ([]:Ls) i)
 (∃ c:Nat,yjX a0 a1 a2 a3 a4
 (fun Y Z va vb H I vc vd=>(K H I (0:Int)))
 c F G h (0:Int) (0:Int) h (0:Int))))))))
def yd7:yhb:=ynV ya3 yan yaP ya8 yaI
def yD6:Sg:=⟨pt32,Int→Ls→Int→Prop,fun K=>(fun r0 r1 r2=>K (.tup [(.agg [(.int .u8 r0),(.data r1)]),(.int .i64 r2)]))⟩
def yyK (Q:Qx):Ls→Ls→Ls→Int→Int→Bool→Prop:=(fun l0 l1 l2 i3 i4 b5=>Q (.exit 0) [(0,.v (.ptr 0 1 0 0)),(12,.v (.int .i64 i3)),(13,.v (.int .i64 i4)),(14,.v (.bool b5))] [⟨false,false,4,([(.agg [(.data l0),(.data l1),(.data l2),.nils])]:Ls)⟩])
def yyL (Q:Qx):Ls→Ls→Ls→Int→Prop:=(fun l0 l1 l2 i3=>Q .ret [(2,.v (.int .i64 i3))] [⟨false,false,4,([(.agg [(.data l0),(.data l1),(.data l2),.nils])]:Ls)⟩])
def yoI (Q:Qx):Ls→Ls→Ls→Ls→Int→Int→Bool→Prop:=(fun l0 l1 l2 l3 i6 i7 b8=>Q (.exit 0) [(0,.v (.ptr 0 1 0 0)),(12,.v (.int .i64 i6)),(13,.v (.int .i64 i7)),(14,.v (.bool b8))] [⟨false,false,4,([(.agg [(.data l1),(.data l2),(.data l3),(.own 1 0 (List.length l0) (List.length l0) none)])]:Ls)⟩,⟨false,true,2,l0⟩])
def yoJ (Q:Qx):Ls→Ls→Ls→Ls→Int→Prop:=(fun l0 l1 l2 l3 i6=>Q .ret [(2,.v (.int .i64 i6))] [⟨false,false,4,([(.agg [(.data l1),(.data l2),(.data l3),(.own 1 0 (List.length l0) (List.length l0) none)])]:Ls)⟩,⟨false,true,2,l0⟩])
def yyM (Q:Qx):Ls→Ls→Ls→Int→Int→Ls→Int→Bool→Prop:=(fun l0 l1 l2 i3 i4 l5 i6 b7=>Q (.exit 0) [(4,.box (.agg [(.int .u8 i3),.nils])),(6,.v (.ptr 0 1 0 0)),(8,.box (.agg [(.int .u8 i4),(.data l5)])),(32,.v (.int .i64 i6)),(33,.v (.bool b7))] [⟨false,false,4,([(.agg [(.data l0),(.data l1),(.data l2),.nils])]:Ls)⟩])
def yyN (Q:Qx):Ls→Ls→Ls→Ls→Int→Int→Ls→Int→Bool→Prop:=(fun l0 l1 l2 l3 i6 i7 l8 i9 b10=>Q (.exit 0) [(4,.box (.agg [(.int .u8 i6),.nils])),(6,.v (.ptr 0 1 0 0)),(8,.box (.agg [(.int .u8 i7),(.data l8)])),(32,.v (.int .i64 i9)),(33,.v (.bool b10))] [⟨false,false,4,([(.agg [(.data l1),(.data l2),(.data l3),(.own 1 0 (List.length l0) (List.length l0) none)])]:Ls)⟩,⟨false,true,2,l0⟩])
def pt43:HPt:=hB false false 4 (rC (vA (lC vD (lC vD (lC vD (lC vNs lN))))) rN) hN
def pt44:Pat Sta:=pS pt43 (fV 0 pt19 pt21) fN
def pt45:HPt:=hB false true 2 rA hN
def pt46:HPt:=hB false false 4 (rC (vA (lC vD (lC vD (lC vD (lC pt25 lN))))) rN) pt45
def pt47:Pat Sta:=pS pt46 (fV 0 pt19 pt21) fN
def yqq (a0:ybb) (a1:yaJ) (a2:yam) (a3:yal) (a4:yaH) (Q:Qx):List St:=[⟨pt44,yhc a0 a1 a2 a3 a4 (yyK Q) (yyL Q) (yoI Q) (yoJ Q)⟩,⟨pt47,fun n l1 l2 l3 l0 i6 i7=>yeq a0 a1 a2 a3 a4 (yoI Q) (yoJ Q) n l0 l1 l2 l3 i6 i7⟩]
def pt48:VPt:=vA (lC (vI IntKind.u8) pt7)
def pt49:Pat Frm:=fX 4 (vA (lC (vI IntKind.u8) (lC vNs lN))) (fV 6 pt19 (fX 8 pt48 (fV 32 pt0 fN)))
def yqr (a0:ybb) (a1:yaJ) (a2:yam) (a3:yal) (a4:yaH) (Q:Qx):List St:=[⟨(pS pt43 pt49 fN),yjX a0 a1 a2 a3 a4 (yyM Q)⟩,⟨(pS pt46 pt49 fN),fun n l1 l2 l3 l0 i6 i7 l8 i9=>ydx a0 a1 a2 a3 a4 (yyN Q) n l0 l1 l2 l3 i6 i7 l8 i9⟩]
def yki (a0:ybb) (a1:yaJ) (a2:yam) (a3:yal) (a4:yaH):LP:=lpS [(20643600,yqq a0 a1 a2 a3 a4),(65264200,yqr a0 a1 a2 a3 a4)]
def ynW (a0:ybb) (a1:yaJ) (a2:yam) (a3:yal) (a4:yaH):SE:=⟨(E ef0),ydO [(ybE,yMv.pw a0),(ydB,yDH.pw a1),(yc0,yhI.pw a2),(yeT,yla.pw a3),(ybT,yqR.pw a4)],ydP [(yfr,yg5)],yki a0 a1 a2 a3 a4,fun _=>none⟩
def yt0 (a0:ybb) (a1:yaJ) (a2:yam) (a3:yal) (a4:yaH):SE:=⟨(E ef0),ydO [(ybE,yMv.pw a0),(ydB,yDH.pw a1),(yc0,yhI.pw a2),(yeT,yla.pw a3),(ybT,yqR.pw a4)],ydP [(yfr,yg5),(yhV,yhW)],yki a0 a1 a2 a3 a4,fun _=>none⟩
theorem ysb:SEOk (Uni (E ef0)) (ynW ya3 yan yaP ya8 yaI):=yaE (Sub.uni _) ⟨(ygQ ef0 ybR),(yeh ef0 ybR),(yev ef0 ybR),(yfU ef0 ybR),ydq,trivial⟩ ⟨⟨by kernel_rfl,by kernel_rfl,rfl,fun az=>yaN (by kernel_rfl) az,ybR.num _ (by kernel_rfl),by kernel_rfl,(yar (by kernel_rfl))⟩,trivial⟩ ybR.ok
theorem yw8 (a0 a1 a2 a3 a4):ycr (ynW a0 a1 a2 a3 a4) 10 a yjK false (yqq a0 a1 a2 a3 a4):=fun _=>⟨fun _=>by kernel_rfl,fun _ _=>by kernel_rfl,fun _=>by kernel_rfl,fun _ _=>by kernel_rfl,trivial⟩
theorem yw9:LpT (Uni (E ef0)) (yki ya3 yan yaP ya8 yaI) [] 20643600 (.loop 20643600 yjK):=fun _ _ _=>yp8.st (Sub.uni _) (yaW (ysb) 10) (YOk.no _ _) (yar (by kernel_rfl)) (yw8 _ _ _ _ _ _)
theorem yxa (a0 a1 a2 a3 a4):ycr (ynW a0 a1 a2 a3 a4) 10 a yuV false (yqr a0 a1 a2 a3 a4):=fun _=>⟨fun _=>by kernel_rfl,fun _ _=>by kernel_rfl,fun _=>by kernel_rfl,fun _ _=>by kernel_rfl,trivial⟩
theorem yxb:LpT (Uni (E ef0)) (yki ya3 yan yaP ya8 yaI) [] 65264200 (.loop 65264200 yuV):=fun _ _ _=>yp8.st (Sub.uni _) (yaW (ysb) 10) (YOk.no _ _) (yar (by kernel_rfl)) (yxa _ _ _ _ _ _)
theorem yCs:SEOk (Uni (E ef0)) (yt0 ya3 yan yaP ya8 yaI):=yaE (Sub.uni _) ⟨(ygQ ef0 ybR),(yeh ef0 ybR),(yev ef0 ybR),(yfU ef0 ybR),ydq,trivial⟩ ⟨⟨by kernel_rfl,by kernel_rfl,rfl,fun az=>yaN (by kernel_rfl) az,ybR.num _ (by kernel_rfl),by kernel_rfl,(yar (by kernel_rfl))⟩,⟨by kernel_rfl,by kernel_rfl,rfl,fun az=>yaN (by kernel_rfl) az,ybR.num _ (by kernel_rfl),by kernel_rfl,(ybg (l:=[(20643600,.loop 20643600 yjK)]) ⟨yw9,trivial⟩ (by kernel_rfl))⟩,trivial⟩ ybR.ok
theorem yD7 (a0 a1 a2 a3 a4):EqW (yt0 a0 a1 a2 a3 a4) 11 ywo yD6 (ynV a0 a1 a2 a3 a4):=fun _ _=>by kernel_rfl
theorem yt1:OkF (E ef0) (yD6.pw yd7) yk8:=okU ybR (yD7 _ _ _ _ _) (yCs) yp9.flat (ybg (l:=[(65264200,.loop 65264200 yuV)]) ⟨yxb,trivial⟩ (by kernel_rfl))
abbrev yfw:Type:=Ls→Ls→Int→Ls→(Bool→Int→Prop)→Prop
def ydy (a0:ybb) (a1:yad) (a2:yaJ) (a3:yam) (a4:yal) (a5:yaH) (a:Ls→Ls→Ls→Ls→Ls→Int→Int→Bool→Prop) (b:Ls→Ls→Ls→Bool→Prop):Nat→Ls→Ls→Ls→Ls→Ls→Int→Int→Prop
 | 0,_,_,_,_,_,_,_=>False
 | e+1,l0,l1,l2,l3,l4,i5,i6 =>
 (cbr (decide (i6<i5))
 (asr (decide ((0:Int)≤i6))
 (asr (decide (i6<(((List.length l4):Nat):Int)))
 (lt (List.getD l4 (i6.toNat) .nils) (fun c =>
 (asr (conf zD c)
 (asr (decide ((0:Int)≤i6))
 (asr (decide (i6<(((List.length l3):Nat):Int)))
 (lt (List.getD l3 (i6.toNat) .nils) (fun d =>
 (asr (conf zD d)
 (a1 (yaY c) (yaY d) (fun f =>
 (cbr (!f)
 (b l0 l1 l2 false)
 (lt (IntKind.i64.wrap (i6+(1:Int))) (fun g =>
 (ydy a0 a1 a2 a3 a4 a5 a b e l0 l1 l2 l3 l4 i5 g))))))))))))))))
 (a l0 l1 l2 l3 l4 i5 i6 false))
def yh8 (a0:ybb) (a1:yad) (a2:yaJ) (a3:yam) (a4:yal) (a5:yaH) (f:Ls→Ls→Ls→Ls→Int→Int→Bool→Prop) (g:Ls→Ls→Ls→Ls→Int→Prop):Nat→Ls→Ls→Ls→Ls→Int→Int→Prop
 | 0,_,_,_,_,_,_=>False
 | i+1,l0,l1,l2,l3,i6,i7 =>
 (cbr (decide (i7<i6))
 (asr (decide ((0:Int)≤i7))
 (asr (decide (i7<(((List.length l1):Nat):Int)))
 (lt (List.getD l1 (i7.toNat) .nils) (fun c =>
 (asr (conf zK c)
 (a2 (yaa (yab c 0)) (yaY (yab c 1)) (yaY (yab c 2)) (fun j n =>
 (asr (decide ((0:Int)≤i7))
 (asr (decide (i7<(((List.length l3):Nat):Int)))
 (lt (List.getD l3 (i7.toNat) .nils) (fun d =>
 (asr (conf zD d)
 (asr (decide ((0:Int)≤i7))
 (asr (decide (i7<(((List.length (yaY d)):Nat):Int)))
 (lt (List.getD (yaY d) (i7.toNat) .nils) (fun e =>
 (asr (conf z2 e)
 (a3 j (fun k l =>
 (a4 (yaa (yab e 0)) (yaa (yab e 1)) k l (fun a b h =>
 (cbr (h !=(0:Int))
 (g l0 l1 l2 l3 h)
 (asr (decide ((List.length l0)=(List.length l0)))
 (asr (decide ((0+(List.length l0))≤(List.length l0)))
 (asr (!(decide (((0+(List.length l0))+1)≤(List.length l0))))
 (asr (decide ((List.length l0)=(List.length l0)))
 (asr (decide ((((List.length l0)+1)+64)*(16+1)≤room))
 (lt (IntKind.i64.wrap (i7+(1:Int))) (fun m =>
 (asr (decide ((List.length (l0++([(.agg [(.int .i64 a),(.int .i64 b)])]:Ls)))=List.length (l0++([(.agg [(.int .i64 a),(.int .i64 b)])]:Ls)))&&decide ((List.length (l0++([(.agg [(.int .i64 a),(.int .i64 b)])]:Ls)))=List.length (l0++([(.agg [(.int .i64 a),(.int .i64 b)])]:Ls))))
 (yh8 a0 a1 a2 a3 a4 a5 f g i (l0++([(.agg [(.int .i64 a),(.int .i64 b)])]:Ls)) l1 l2 l3 i6 m)))))))))))))))))))))))))))))))
 (f l0 l1 l2 l3 i6 i7 false))
def ymd (a0:ybb) (a1:yad) (a2:yaJ) (a3:yam) (a4:yal) (a5:yaH) (g:Ls→Ls→Ls→Int→Int→Bool→Prop) (h:Ls→Ls→Ls→Int→Prop) (i:Ls→Ls→Ls→Ls→Int→Int→Bool→Prop) (j:Ls→Ls→Ls→Ls→Int→Prop):Nat→Ls→Ls→Ls→Int→Int→Prop
 | 0,_,_,_,_,_=>False
 | k+1,l0,l1,l2,i3,i4 =>
 (cbr (decide (i4<i3))
 (asr (decide ((0:Int)≤i4))
 (asr (decide (i4<(((List.length l0):Nat):Int)))
 (lt (List.getD l0 (i4.toNat) .nils) (fun a =>
 (asr (conf zK a)
 (a2 (yaa (yab a 0)) (yaY (yab a 1)) (yaY (yab a 2)) (fun l p =>
 (asr (decide ((0:Int)≤i4))
 (asr (decide (i4<(((List.length l2):Nat):Int)))
 (lt (List.getD l2 (i4.toNat) .nils) (fun b =>
 (asr (conf zD b)
 (asr (decide ((0:Int)≤i4))
 (asr (decide (i4<(((List.length (yaY b)):Nat):Int)))
 (lt (List.getD (yaY b) (i4.toNat) .nils) (fun c =>
 (asr (conf z2 c)
 (a3 l (fun m n =>
 (a4 (yaa (yab c 0)) (yaa (yab c 1)) m n (fun d e f =>
 (cbr (f !=(0:Int))
 (h l0 l1 l2 f)
 (lt (IntKind.i64.wrap (i4+(1:Int))) (fun o =>
 (asr (decide (1=List.length ([(.agg [(.int .i64 d),(.int .i64 e)])]:Ls))&&decide (1=List.length ([(.agg [(.int .i64 d),(.int .i64 e)])]:Ls)))
 (yh8 a0 a1 a2 a3 a4 a5 i j k ([(.agg [(.int .i64 d),(.int .i64 e)])]:Ls) l0 l1 l2 i3 o))))))))))))))))))))))))))
 (g l0 l1 l2 i3 i4 false))
def ycV (a0:ybb) (a1:yad) (a2:yaJ) (a3:yam) (a4:yal) (a5:yaH) (a:Ls→Ls→Ls→Int→Ls→Int→Bool→Prop) (b:Ls→Ls→Ls→Bool→Int→Prop):Nat→Ls→Ls→Ls→Int→Ls→Int→Prop
 | 0,_,_,_,_,_,_=>False
 | d+1,l0,l1,l2,i3,l4,i5 =>
 (cbr (decide (i5<(5:Int)))
 (jn (fun c =>
 (asr (!(decide (i5<(0:Int))))
 (lt (Int.fdiv i3 (2 ^ (min i5.toNat IntKind.u8.bits))) (fun e =>
 (lt (IntKind.u8.wrap (BitVec.ofInt IntKind.u8.bits e&&&BitVec.ofInt IntKind.u8.bits (1:Int)).toNat) (fun f =>
 (cbr (f ==(0:Int))
 c
 (asr (!(decide (i5<(0:Int))))
 (lt (IntKind.u8.wrap ((1:Int)*2 ^ (min i5.toNat IntKind.u8.bits))) (fun g =>
 (a5 l0 l1 l2 ([]:Ls) g (fun j k h =>
 (cbr h
 (b l0 l1 l2 false (0:Int))
 c)))))))))))))
 (lt (IntKind.i64.wrap (i5+(1:Int))) (fun i =>
 (ycV a0 a1 a2 a3 a4 a5 a b d l0 l1 l2 i3 l4 i))))
 (a l0 l1 l2 i3 l4 i5 false))
def yh9 (a0:ybb) (a1:yad) (a2:yaJ) (a3:yam) (a4:yal) (a5:yaH) (a:Ls→Ls→Ls→Ls→Int→Ls→Int→Bool→Prop) (b:Ls→Ls→Ls→Ls→Bool→Int→Prop):Nat→Ls→Ls→Ls→Ls→Int→Ls→Int→Prop
 | 0,_,_,_,_,_,_,_=>False
 | d+1,l0,l1,l2,l3,i6,l7,i8 =>
 (cbr (decide (i8<(5:Int)))
 (jn (fun c =>
 (asr (!(decide (i8<(0:Int))))
 (lt (Int.fdiv i6 (2 ^ (min i8.toNat IntKind.u8.bits))) (fun e =>
 (lt (IntKind.u8.wrap (BitVec.ofInt IntKind.u8.bits e&&&BitVec.ofInt IntKind.u8.bits (1:Int)).toNat) (fun f =>
 (cbr (f ==(0:Int))
 c
 (asr (!(decide (i8<(0:Int))))
 (lt (IntKind.u8.wrap ((1:Int)*2 ^ (min i8.toNat IntKind.u8.bits))) (fun g =>
 (asr (decide ((List.length l0)=(List.length l0)))
 (asr (decide ((0+(List.length l0))≤(List.length l0)))
 (a5 l1 l2 l3 (List.take (List.length l0) l0) g (fun j k h =>
 (cbr h
 (b l0 l1 l2 l3 false (0:Int))
 c)))))))))))))))
 (lt (IntKind.i64.wrap (i8+(1:Int))) (fun i =>
 (asr (decide ((List.length l0)=List.length l0)&&decide ((List.length l0)=List.length l0))
 (yh9 a0 a1 a2 a3 a4 a5 a b d l0 l1 l2 l3 i6 l7 i)))))
 (a l0 l1 l2 l3 i6 l7 i8 false))
def ykN (a0:ybb) (a1:yad) (a2:yaJ) (a3:yam) (a4:yal) (a5:yaH) (p0 p1:Ls) (p2:Int) (p3:Ls) (K:Bool→Int→Prop):Prop :=
 (a0 p0 p1 (fun a c =>
 (cbr (c !=(0:Int))
 (cbr (c !=(0:Int))
 (K false c)
 (cbr (decide (p2≥(32:Int)))
 (K false (0:Int))
 False))
 (jn (fun (g:Ls→Ls→Ls→Bool→Prop) =>
 (cbr (decide (p2≥(32:Int)))
 (g p0 p1 a true)
 (jn (fun (d:Ls→Ls→Ls→Bool→Prop) =>
 (cbr ((((List.length a):Nat):Int) !=(((List.length p3):Nat):Int))
 (d p0 p1 a false)
 (∃ o:Nat,ydy a0 a1 a2 a3 a4 a5
 (fun p q r vi vj vk vl vm=>(d p q r true))
 (fun s t u v=>(d s t u v))
 o p0 p1 a p3 a (((List.length a):Nat):Int) (0:Int))))
 (fun w x y z=>(g w x y (!z))))))
 (fun e h i A=>(cbr A
 (K false (0:Int))
 (jn (fun (j:Ls→Ls→Ls→Prop) =>
 (lt (IntKind.u8.wrap (BitVec.ofInt IntKind.u8.bits p2&&&BitVec.ofInt IntKind.u8.bits (8:Int)).toNat) (fun B =>
 (cbr (B !=(0:Int))
 (jn (fun (k:Ls→Ls→Ls→Int→Prop) =>
 (jn (fun (l:Ls→Ls→Ls→Ls→Int→Prop) =>
 (∃ C:Nat,ymd a0 a1 a2 a3 a4 a5
 (fun D E F vn vo vp=>(k D E F (0:Int)))
 (fun G H I J=>(k G H I J))
 (fun L M N O vq vr vs=>(l L M N O (0:Int)))
 (fun Q R S T U=>(l Q R S T U))
 C e h i (((List.length e):Nat):Int) (0:Int)))
 (fun b V W X m=>(cbr (m !=(0:Int))
 (K false m)
 (asr (decide ((List.length b)=List.length b)&&decide ((List.length b)=List.length b))
 (∃ f:Nat,yh9 a0 a1 a2 a3 a4 a5
 (fun vt vu vv vw vx vy vz vA=>(K true (0:Int)))
 (fun vB vC vD vE Y Z=>(K Y Z))
 f b V W X p2 p3 (0:Int)))))))
 (fun va vb vc n=>(cbr (n !=(0:Int))
 (K false n)
 (j va vb vc))))
 (j e h i)))))
 (fun vd ve vf=>(∃ f:Nat,ycV a0 a1 a2 a3 a4 a5
 (fun vF vG vH vI vJ vK vL=>(K true (0:Int)))
 (fun vM vN vO vg vh=>(K vg vh))
 f vd ve vf p2 p3 (0:Int))))))))))
def yc6:yfw:=ykN ya3 yaM yan yaP ya8 yaI
def yAp:Sg:=⟨(lC vD (lC pt31 (lC pt48 lN))),Bool→Int→Prop,fun K=>(fun r0 r1=>K (.tup [(.bool r0),(.int .i64 r1)]))⟩
def yvs (Q:Qx):Ls→Ls→Ls→Ls→Ls→Int→Int→Bool→Prop:=(fun l0 l1 l2 l3 l4 i5 i6 b7=>Q (.exit 0) [(1,.v (.data l3)),(2,.v (.fn (.func ybx) [] [])),(15,.v (.data l4)),(16,.v (.int .i64 i5)),(17,.v (.int .i64 i6)),(18,.v (.bool b7))] [⟨false,false,4,([(.agg [(.data l0),(.data l1),(.data l2),.nils])]:Ls)⟩])
def yvt (Q:Qx):Ls→Ls→Ls→Bool→Prop:=(fun l0 l1 l2 b3=>Q .ret [(6,.v (.bool b3))] [⟨false,false,4,([(.agg [(.data l0),(.data l1),(.data l2),.nils])]:Ls)⟩])
def yvu (Q:Qx):Ls→Ls→Ls→Int→Int→Bool→Prop:=(fun l0 l1 l2 i3 i4 b5=>Q (.exit 0) [(0,.v (.ptr 0 1 0 0)),(12,.v (.int .i64 i3)),(13,.v (.int .i64 i4)),(14,.v (.bool b5))] [⟨false,false,4,([(.agg [(.data l0),(.data l1),(.data l2),.nils])]:Ls)⟩])
def yvv (Q:Qx):Ls→Ls→Ls→Int→Prop:=(fun l0 l1 l2 i3=>Q .ret [(2,.v (.int .i64 i3))] [⟨false,false,4,([(.agg [(.data l0),(.data l1),(.data l2),.nils])]:Ls)⟩])
def yme (Q:Qx):Ls→Ls→Ls→Ls→Int→Int→Bool→Prop:=(fun l0 l1 l2 l3 i6 i7 b8=>Q (.exit 0) [(0,.v (.ptr 0 1 0 0)),(12,.v (.int .i64 i6)),(13,.v (.int .i64 i7)),(14,.v (.bool b8))] [⟨false,false,4,([(.agg [(.data l1),(.data l2),(.data l3),(.own 1 0 (List.length l0) (List.length l0) none)])]:Ls)⟩,⟨false,true,2,l0⟩])
def ymf (Q:Qx):Ls→Ls→Ls→Ls→Int→Prop:=(fun l0 l1 l2 l3 i6=>Q .ret [(2,.v (.int .i64 i6))] [⟨false,false,4,([(.agg [(.data l1),(.data l2),(.data l3),(.own 1 0 (List.length l0) (List.length l0) none)])]:Ls)⟩,⟨false,true,2,l0⟩])
def yvw (Q:Qx):Ls→Ls→Ls→Int→Ls→Int→Bool→Prop:=(fun l0 l1 l2 i3 l4 i5 b6=>Q (.exit 0) [(5,.box (.agg [(.int .u8 i3),(.data l4)])),(8,.v (.ptr 0 1 0 0)),(46,.v (.int .i64 i5)),(47,.v (.bool b6))] [⟨false,false,4,([(.agg [(.data l0),(.data l1),(.data l2),.nils])]:Ls)⟩])
def yvx (Q:Qx):Ls→Ls→Ls→Bool→Int→Prop:=(fun l0 l1 l2 b3 i4=>Q .ret [(6,.v (.bool b3)),(7,.v (.int .i64 i4))] [⟨false,false,4,([(.agg [(.data l0),(.data l1),(.data l2),.nils])]:Ls)⟩])
def yvy (Q:Qx):Ls→Ls→Ls→Ls→Int→Ls→Int→Bool→Prop:=(fun l0 l1 l2 l3 i6 l7 i8 b9=>Q (.exit 0) [(5,.box (.agg [(.int .u8 i6),(.data l7)])),(8,.v (.ptr 0 1 0 0)),(46,.v (.int .i64 i8)),(47,.v (.bool b9))] [⟨false,false,4,([(.agg [(.data l1),(.data l2),(.data l3),(.own 1 0 (List.length l0) (List.length l0) none)])]:Ls)⟩,⟨false,true,2,l0⟩])
def yvz (Q:Qx):Ls→Ls→Ls→Ls→Bool→Int→Prop:=(fun l0 l1 l2 l3 b6 i7=>Q .ret [(6,.v (.bool b6)),(7,.v (.int .i64 i7))] [⟨false,false,4,([(.agg [(.data l1),(.data l2),(.data l3),(.own 1 0 (List.length l0) (List.length l0) none)])]:Ls)⟩,⟨false,true,2,l0⟩])
def ym9 (a0:ybb) (a1:yad) (a2:yaJ) (a3:yam) (a4:yal) (a5:yaH) (Q:Qx):List St:=[⟨(pS pt43 (fV 1 vD (fV 2 (vF ybx lN lN) (fV 15 vD pt35))) fN),ydy a0 a1 a2 a3 a4 a5 (yvs Q) (yvt Q)⟩]
def yna (a0:ybb) (a1:yad) (a2:yaJ) (a3:yam) (a4:yal) (a5:yaH) (Q:Qx):List St:=[⟨pt44,ymd a0 a1 a2 a3 a4 a5 (yvu Q) (yvv Q) (yme Q) (ymf Q)⟩,⟨pt47,fun n l1 l2 l3 l0 i6 i7=>yh8 a0 a1 a2 a3 a4 a5 (yme Q) (ymf Q) n l0 l1 l2 l3 i6 i7⟩]
def pt50:Pat Frm:=fX 5 pt48 (fV 8 pt19 (fV 46 pt0 fN))
def ynb (a0:ybb) (a1:yad) (a2:yaJ) (a3:yam) (a4:yal) (a5:yaH) (Q:Qx):List St:=[⟨(pS pt43 pt50 fN),ycV a0 a1 a2 a3 a4 a5 (yvw Q) (yvx Q)⟩,⟨(pS pt46 pt50 fN),fun n l1 l2 l3 l0 i6 l7 i8=>yh9 a0 a1 a2 a3 a4 a5 (yvy Q) (yvz Q) n l0 l1 l2 l3 i6 l7 i8⟩]
def yf9 (a0:ybb) (a1:yad) (a2:yaJ) (a3:yam) (a4:yal) (a5:yaH):LP:=lpS [(8009400,ym9 a0 a1 a2 a3 a4 a5),(20643600,yna a0 a1 a2 a3 a4 a5),(47320500,ynb a0 a1 a2 a3 a4 a5)]
def yhS (a0:ybb) (a1:yad) (a2:yaJ) (a3:yam) (a4:yal) (a5:yaH):SE:=⟨(E ef0),ydO [(ybE,yMv.pw a0),(ybx,ydu.pw a1),(ydB,yDH.pw a2),(yc0,yhI.pw a3),(yeT,yla.pw a4),(ybT,yqR.pw a5)],ydP [(yfr,yg5)],yf9 a0 a1 a2 a3 a4 a5,fun _=>none⟩
def yqs (a0:ybb) (a1:yad) (a2:yaJ) (a3:yam) (a4:yal) (a5:yaH):SE:=⟨(E ef0),ydO [(ybE,yMv.pw a0),(ybx,ydu.pw a1),(ydB,yDH.pw a2),(yc0,yhI.pw a3),(yeT,yla.pw a4),(ybT,yqR.pw a5)],ydP [(yfr,yg5),(ych,ycj),(yhV,yhW)],yf9 a0 a1 a2 a3 a4 a5,fun _=>none⟩
theorem yjY:SEOk (Uni (E ef0)) (yhS ya3 yaM yan yaP ya8 yaI):=yaE (Sub.uni _) ⟨(ygQ ef0 ybR),(ydw ef0 ybR),(yeh ef0 ybR),(yev ef0 ybR),(yfU ef0 ybR),ydq,trivial⟩ ⟨⟨by kernel_rfl,by kernel_rfl,rfl,fun az=>yaN (by kernel_rfl) az,ybR.num _ (by kernel_rfl),by kernel_rfl,(yar (by kernel_rfl))⟩,trivial⟩ ybR.ok
theorem yte (a0 a1 a2 a3 a4 a5):ycr (yhS a0 a1 a2 a3 a4 a5) 10 a yyc false (ym9 a0 a1 a2 a3 a4 a5):=fun _=>⟨fun _=>by kernel_rfl,fun _ _=>by kernel_rfl,trivial⟩
theorem ytf:LpT (Uni (E ef0)) (yf9 ya3 yaM yan yaP ya8 yaI) [] 8009400 (.loop 8009400 yyc):=fun _ _ _=>yp8.st (Sub.uni _) (yaW (yjY) 10) (YOk.no _ _) (yar (by kernel_rfl)) (yte _ _ _ _ _ _ _)
theorem ytg (a0 a1 a2 a3 a4 a5):ycr (yhS a0 a1 a2 a3 a4 a5) 10 a yjK false (yna a0 a1 a2 a3 a4 a5):=fun _=>⟨fun _=>by kernel_rfl,fun _ _=>by kernel_rfl,fun _=>by kernel_rfl,fun _ _=>by kernel_rfl,trivial⟩
theorem yth:LpT (Uni (E ef0)) (yf9 ya3 yaM yan yaP ya8 yaI) [] 20643600 (.loop 20643600 yjK):=fun _ _ _=>yp8.st (Sub.uni _) (yaW (yjY) 10) (YOk.no _ _) (yar (by kernel_rfl)) (ytg _ _ _ _ _ _ _)
theorem yti (a0 a1 a2 a3 a4 a5):ycr (yhS a0 a1 a2 a3 a4 a5) 10 a yuX false (ynb a0 a1 a2 a3 a4 a5):=fun _=>⟨fun _=>by kernel_rfl,fun _ _=>by kernel_rfl,fun _=>by kernel_rfl,fun _ _=>by kernel_rfl,trivial⟩
theorem ytj:LpT (Uni (E ef0)) (yf9 ya3 yaM yan yaP ya8 yaI) [] 47320500 (.loop 47320500 yuX):=fun _ _ _=>yp8.st (Sub.uni _) (yaW (yjY) 10) (YOk.no _ _) (yar (by kernel_rfl)) (yti _ _ _ _ _ _ _)
theorem yyO:SEOk (Uni (E ef0)) (yqs ya3 yaM yan yaP ya8 yaI):=yaE (Sub.uni _) ⟨(ygQ ef0 ybR),(ydw ef0 ybR),(yeh ef0 ybR),(yev ef0 ybR),(yfU ef0 ybR),ydq,trivial⟩ ⟨⟨by kernel_rfl,by kernel_rfl,rfl,fun az=>yaN (by kernel_rfl) az,ybR.num _ (by kernel_rfl),by kernel_rfl,(yar (by kernel_rfl))⟩,⟨by kernel_rfl,by kernel_rfl,rfl,fun az=>yaN (by kernel_rfl) az,ybR.num _ (by kernel_rfl),by kernel_rfl,(ybg (l:=[(8009400,.loop 8009400 yyc)]) ⟨ytf,trivial⟩ (by kernel_rfl))⟩,⟨by kernel_rfl,by kernel_rfl,rfl,fun az=>yaN (by kernel_rfl) az,ybR.num _ (by kernel_rfl),by kernel_rfl,(ybg (l:=[(20643600,.loop 20643600 yjK)]) ⟨yth,trivial⟩ (by kernel_rfl))⟩,trivial⟩ ybR.ok
theorem yAq (a0 a1 a2 a3 a4 a5):EqW (yqs a0 a1 a2 a3 a4 a5) 11 yrj yAp (ykN a0 a1 a2 a3 a4 a5):=fun _ _=>by kernel_rfl
theorem yqt:OkF (E ef0) (yAp.pw yc6) yiF:=okU ybR (yAq _ _ _ _ _ _) (yyO) yp9.flat (ybg (l:=[(47320500,.loop 47320500 yuX)]) ⟨ytj,trivial⟩ (by kernel_rfl))
set_option linter.unusedVariables false
theorem yAr (p0:Ls) (p1:Ls) (r0:Int) (h:∀ K:Int→Prop,K r0→ydD p0 p1 K) (K:Int→Prop):ydD p0 p1 K=K r0 :=
 propext ⟨fun k=>detC (yrX [] ybB) (az:=[(.data p0),(.agg [(.data p1)])]) (x:=(.int .i64 r0)) (fun K' k'=>h (fun r0=>K' (.int .i64 r0)) k') (K:=fun x=>match x with | (.int .i64 r0)=>K r0 | _=>False) k,h K⟩
theorem yAs (p0:Ls) (p1:Ls) (r0:Ls) (r1:Int) (h:∀ K:Ls→Int→Prop,K r0 r1→ya3 p0 p1 K) (K:Ls→Int→Prop):ya3 p0 p1 K=K r0 r1 :=
 propext ⟨fun k=>detC (ygQ [] ybB) (az:=[(.data p0),(.agg [(.data p1)])]) (x:=(.tup [(.data r0),(.int .i64 r1)])) (fun K' k'=>h (fun r0 r1=>K' (.tup [(.data r0),(.int .i64 r1)])) k') (K:=fun x=>match x with | (.tup [(.data r0),(.int .i64 r1)])=>K r0 r1 | _=>False) k,h K⟩
theorem yxc (p0:Int) (p1:Int) (p2:Int) (p3:Int) (p4:Ls) (r0:Bool) (h:∀ K:Bool→Prop,K r0→ycv p0 p1 p2 p3 p4 K) (K:Bool→Prop):ycv p0 p1 p2 p3 p4 K=K r0 :=
 propext ⟨fun k=>detC (yjW [] ybB) (az:=[(.agg [(.int .i64 p0),(.int .i64 p1),(.int .i64 p2),(.int .i64 p3)]),(.eptr [(.data p4)] 0 0)]) (x:=(.bool r0)) (fun K' k'=>h (fun r0=>K' (.bool r0)) k') (K:=fun x=>match x with | (.bool r0)=>K r0 | _=>False) k,h K⟩
theorem yAt (p0:Ls) (p1:Ls) (r0:Bool) (h:∀ K:Bool→Prop,K r0→yay p0 p1 K) (K:Bool→Prop):yay p0 p1 K=K r0 :=
 propext ⟨fun k=>detC (ymb [] ybB) (az:=[(.data p0),(.data p1)]) (x:=(.bool r0)) (fun K' k'=>h (fun r0=>K' (.bool r0)) k') (K:=fun x=>match x with | (.bool r0)=>K r0 | _=>False) k,h K⟩
theorem ytk (p0:Ls) (p1:Ls) (p2:Ls) (p3:Ls) (r0:Bool) (h:∀ K:Bool→Prop,K r0→yaj p0 p1 p2 p3 K) (K:Bool→Prop):yaj p0 p1 p2 p3 K=K r0 :=
 propext ⟨fun k=>detC yh7 (az:=[(.eptr [(.agg [(.data p0),(.data p1),(.data p2),(.data p3)])] 0 0)]) (x:=(.bool r0)) (fun K' k'=>h (fun r0=>K' (.bool r0)) k') (K:=fun x=>match x with | (.bool r0)=>K r0 | _=>False) k,h K⟩
theorem ypP (p0:Ls) (p1:Ls) (p2:Ls) (p3:Ls) (p4:Int) (r0:Int) (r1:Int) (r2:Bool) (h:∀ K:Int→Int→Bool→Prop,K r0 r1 r2→yaI p0 p1 p2 p3 p4 K) (K:Int→Int→Bool→Prop):yaI p0 p1 p2 p3 p4 K=K r0 r1 r2 :=
 propext ⟨fun k=>detC ydq (az:=[(.eptr [(.agg [(.data p0),(.data p1),(.data p2),(.data p3)])] 0 0),(.int .u8 p4)]) (x:=(.tup [(.int .i64 r0),(.int .i64 r1),(.bool r2)])) (fun K' k'=>h (fun r0 r1 r2=>K' (.tup [(.int .i64 r0),(.int .i64 r1),(.bool r2)])) k') (K:=fun x=>match x with | (.tup [(.int .i64 r0),(.int .i64 r1),(.bool r2)])=>K r0 r1 r2 | _=>False) k,h K⟩
theorem yCt (p0:Ls) (p1:Ls) (r0:Int) (r1:Ls) (r2:Int) (h:∀ K:Int→Ls→Int→Prop,K r0 r1 r2→yd7 p0 p1 K) (K:Int→Ls→Int→Prop):yd7 p0 p1 K=K r0 r1 r2 :=
 propext ⟨fun k=>detC yt1 (az:=[(.data p0),(.agg [(.data p1)])]) (x:=(.tup [(.agg [(.int .u8 r0),(.data r1)]),(.int .i64 r2)])) (fun K' k'=>h (fun r0 r1 r2=>K' (.tup [(.agg [(.int .u8 r0),(.data r1)]),(.int .i64 r2)])) k') (K:=fun x=>match x with | (.tup [(.agg [(.int .u8 r0),(.data r1)]),(.int .i64 r2)])=>K r0 r1 r2 | _=>False) k,h K⟩
theorem yyP (p0:Ls) (p1:Ls) (p2:Int) (p3:Ls) (r0:Bool) (r1:Int) (h:∀ K:Bool→Int→Prop,K r0 r1→yc6 p0 p1 p2 p3 K) (K:Bool→Int→Prop):yc6 p0 p1 p2 p3 K=K r0 r1 :=
 propext ⟨fun k=>detC yqt (az:=[(.data p0),(.agg [(.data p1)]),(.agg [(.int .u8 p2),(.data p3)])]) (x:=(.tup [(.bool r0),(.int .i64 r1)])) (fun K' k'=>h (fun r0 r1=>K' (.tup [(.bool r0),(.int .i64 r1)])) k') (K:=fun x=>match x with | (.tup [(.bool r0),(.int .i64 r1)])=>K r0 r1 | _=>False) k,h K⟩
set_option maxHeartbeats 0
def yjZ (a0:yav) (p0 p1:Ls) (K:Int→Prop):Prop :=
 (a0 p0 p1 (fun a =>
 (cbr (a !=(0:Int))
 (K a)
 (cbr ((((List.length p0):Nat):Int) !=(3:Int))
 (K (2:Int))
 (K (0:Int))))))
def yaw:yav:=yjZ ybU
def yyQ (e:Es) (a0:yav):SE:=sE (E e) [(yeO,ypz.pw a0)] lp0
theorem yyR (e:Es) (a0):EqW (yyQ e a0) 6 yzS ypz (yjZ a0):=fun _ _=>by kernel_rfl
theorem yoK (e:Es) (he:EG e):OkF (E e) (ypz.pw yaw) yf5:=okU he (yyR e _) (yaE (Sub.uni _) ⟨(yfV e he),trivial⟩ trivial he.ok) yp9.flat (yar (by kernel_rfl))
def yqu (p0:Int) (K:Int→Int→Prop):Prop :=
 (K p0 (1:Int))
def yaZ:yam:=yqu
def yAu (e:Es):SE:=sE (E e) [] lp0
theorem yAv (e:Es):EqW (yAu e) 6 yBP yhI yqu:=fun _ _=>by kernel_rfl
theorem ykO (e:Es) (he:EG e):OkF (E e) (yhI.pw yaZ) yfp:=okU he (yAv e) (yaE (Sub.uni _) trivial trivial he.ok) yp9.flat (yar (by kernel_rfl))
def ymg (p0 p1:Int) (K:Int→Prop):Prop :=
 (cbr (p1 !=(0:Int))
 False
 (K p0))
def yiW:ya4:=ymg
def yvA (e:Es):SE:=sE (E e) [] lp0
theorem yvB (e:Es):EqW (yvA e) 6 ywh ykt ymg:=fun _ _=>by kernel_rfl
theorem yvC (e:Es) (he:EG e):OkF (E e) (ykt.pw yiW) ygu:=okU he (yvB e) (yaE (Sub.uni _) trivial trivial he.ok) yp9.flat (yar (by kernel_rfl))
abbrev ybz:Type:=Ls→Ls→Int→(Int→Int→Ls→Ls→Prop)→Prop
def ygn (a0:yrI) (a1:ya4) (a2:yam) (p0 p1:Ls) (p2:Int) (K:Int→Int→Ls→Ls→Prop):Prop :=
 (a0 p0 p1 p2 (fun a b =>
 (a1 a b (fun c =>
 (a2 c (fun d e =>
 (K d e p0 p1)))))))
def yaC:ybz:=ygn ym6 yiW yaZ
def yez (w:ybz) (az:Ls) (b:HB) (K:PV→Ls→Prop):Prop :=
 match az,b with
 | [(.ptr 0 1 0 0),(.int .i64 p2)],⟨false,true,2,[(.agg [(.data p0),(.data p1)])]⟩=>w p0 p1 p2 (fun r0 r1 r2 r3=>K (.agg [(.int .i64 r0),(.int .i64 r1)]) [(.agg [(.data r2),(.data r3)])])
 | _,_=>False
def yjo (az:Ls) (b:HB) (K:PV→Ls→Prop):Prop:=yez yaC az b K
def yjp (e:Es) (a0:yrI) (a1:ya4) (a2:yam):SE:=sE (E e) [(ymV,yGa.pw a0),(ygu,ykt.pw a1),(yfp,yhI.pw a2)] lp0
theorem ypQ (e:Es) (he:EG e):SEOk (Uni (E e)) (yjp e ym6 yiW yaZ):=yaE (Sub.uni _) ⟨(yGd e he),(yvC e he),(ykO e he),trivial⟩ trivial he.ok
theorem yqT (e:Es) (a0 a1 a2 p0 p1 p2 K):WPL (yjp e a0 a1 a2) 6 yre [(.ptr 0 1 0 0),(.int .i64 p2)] ⟨false,true,2,[(.agg [(.data p0),(.data p1)])]⟩ K=ygn a0 a1 a2 p0 p1 p2 (fun r0 r1 r2 r3=>K (.agg [(.int .i64 r0),(.int .i64 r1)]) [(.agg [(.data r2),(.data r3)])]):=by kernel_rfl
theorem yjq (e:Es) (he:EG e):OkL (E e) yjo ydH:=by
 intro az b K h
 unfold yjo yez at h
 split at h
 ·exact yBH (ypQ e he) yp9.flat (yar (by kernel_rfl)) (by kernel_rfl) (he.num _ (by kernel_rfl)) ((yqT ..).mpr h)
 ·exact h.elim
def yhJ (p0 p1 p2:Int) (K:Int→Int→Prop):Prop :=
 (cbr (p2 !=(0:Int))
 False
 (K p0 p1))
def yac:ybi:=yhJ
def ynX:Sg:=⟨(lC pt6 pt1),Int→Int→Prop,fun K=>(fun r0 r1=>K (.agg [(.int .i64 r0),(.int .i64 r1)]))⟩
def ynY (e:Es):SE:=sE (E e) [] lp0
theorem ynZ (e:Es):EqW (ynY e) 6 yoq ynX yhJ:=fun _ _=>by kernel_rfl
theorem ycf (e:Es) (he:EG e):OkF (E e) (ynX.pw yac) ybA:=okU he (ynZ e) (yaE (Sub.uni _) trivial trivial he.ok) yp9.flat (yar (by kernel_rfl))
abbrev ybf:Type:=Ls→Ls→Int→Int→Int→Int→Int→(Int→Int→Ls→Ls→Prop)→Prop
def ygS (a0:yby) (a1:ybi) (p0 p1:Ls) (p2 p3 p4 p5 p6:Int) (K:Int→Int→Ls→Ls→Prop):Prop :=
 (a0 p0 p1 p2 p3 p4 p5 p6 (fun c d a b e =>
 (a1 a b e (fun f g =>
 (K a b c d)))))
def yaz:ybf:=ygS ygN yac
def ydK (w:ybf) (az:Ls) (b:HB) (K:PV→Ls→Prop):Prop :=
 match az,b with
 | [(.ptr 0 1 0 0),(.int .i64 p2),(.agg [(.int .i64 p3),(.int .i64 p4)]),(.agg [(.int .i64 p5),(.int .i64 p6)])],⟨false,true,2,[(.agg [(.data p0),(.data p1)])]⟩=>w p0 p1 p2 p3 p4 p5 p6 (fun r0 r1 r2 r3=>K (.agg [(.int .i64 r0),(.int .i64 r1)]) [(.agg [(.data r2),(.data r3)])])
 | _,_=>False
def ykx (az:Ls) (b:HB) (K:PV→Ls→Prop):Prop:=ydK yaz az b K
def yky (e:Es) (a0:yby) (a1:ybi):SE:=sE (E e) [(ypc,yzy.pw a0),(ybA,ynX.pw a1)] lp0
theorem yqU (e:Es) (he:EG e):SEOk (Uni (E e)) (yky e ygN yac):=yaE (Sub.uni _) ⟨(yzz e he),(ycf e he),trivial⟩ trivial he.ok
theorem ysc (e:Es) (a0 a1 p0 p1 p2 p3 p4 p5 p6 K):WPL (yky e a0 a1) 6 ysU [(.ptr 0 1 0 0),(.int .i64 p2),(.agg [(.int .i64 p3),(.int .i64 p4)]),(.agg [(.int .i64 p5),(.int .i64 p6)])] ⟨false,true,2,[(.agg [(.data p0),(.data p1)])]⟩ K=ygS a0 a1 p0 p1 p2 p3 p4 p5 p6 (fun r0 r1 r2 r3=>K (.agg [(.int .i64 r0),(.int .i64 r1)]) [(.agg [(.data r2),(.data r3)])]):=by kernel_rfl
theorem ygT (e:Es) (he:EG e):OkL (E e) ykx yc8:=by
 intro az b K h
 unfold ykx ydK at h
 split at h
 ·exact yBH (yqU e he) yp9.flat (yar (by kernel_rfl)) (by kernel_rfl) (he.num _ (by kernel_rfl)) ((ysc ..).mpr h)
 ·exact h.elim
abbrev yaD:Type:=Ls→Ls→Int→Int→Int→Int→Int→(Int→Int→Int→Int→Ls→Ls→Prop)→Prop
def yfZ (a0:yal) (a1:ybi) (a2:ybf) (p0 p1:Ls) (p2 p3 p4 p5 p6:Int) (K:Int→Int→Int→Int→Ls→Ls→Prop):Prop :=
 (a0 p5 p6 (1:Int) (3:Int) (fun a b c =>
 (a1 a b c (fun d e =>
 (a2 p0 p1 p2 p3 p4 d e (fun f g h i =>
 (a0 p5 p6 (2:Int) (3:Int) (fun j k l =>
 (a1 j k l (fun m n =>
 (a2 h i p2 p3 p4 m n (fun o p q r =>
 (K f g o p q r)))))))))))))
def yae:yaD:=yfZ ybJ yac yaz
def ycC (w:yaD) (az:Ls) (b:HB) (K:PV→Ls→Prop):Prop :=
 match az,b with
 | [(.ptr 0 1 0 0),(.int .i64 p2),(.agg [(.int .i64 p3),(.int .i64 p4)]),(.agg [(.int .i64 p5),(.int .i64 p6)])],⟨false,true,2,[(.agg [(.data p0),(.data p1)])]⟩=>w p0 p1 p2 p3 p4 p5 p6 (fun r0 r1 r2 r3 r4 r5=>K (.tup [(.agg [(.int .i64 r0),(.int .i64 r1)]),(.agg [(.int .i64 r2),(.int .i64 r3)])]) [(.agg [(.data r4),(.data r5)])])
 | _,_=>False
def yiX (az:Ls) (b:HB) (K:PV→Ls→Prop):Prop:=ycC yae az b K
def yiY (e:Es) (a0:yal) (a1:ybi) (a2:ybf):SE:=⟨(E e),ydO [(yfF,yla.pw a0),(ybA,ynX.pw a1)],ydP [],lp0,yqa [(yc8,ydK a2)]⟩
theorem yoL (e:Es) (he:EG e):SEOk (Uni (E e)) (yiY e ybJ yac yaz):=ylE (Sub.uni _) ⟨(yg7 e he),(ycf e he),trivial⟩ trivial he.ok ⟨(ygT e he),trivial⟩
theorem ypR (e:Es) (a0 a1 a2 p0 p1 p2 p3 p4 p5 p6 K):WPL (yiY e a0 a1 a2) 6 yqD [(.ptr 0 1 0 0),(.int .i64 p2),(.agg [(.int .i64 p3),(.int .i64 p4)]),(.agg [(.int .i64 p5),(.int .i64 p6)])] ⟨false,true,2,[(.agg [(.data p0),(.data p1)])]⟩ K=yfZ a0 a1 a2 p0 p1 p2 p3 p4 p5 p6 (fun r0 r1 r2 r3 r4 r5=>K (.tup [(.agg [(.int .i64 r0),(.int .i64 r1)]),(.agg [(.int .i64 r2),(.int .i64 r3)])]) [(.agg [(.data r4),(.data r5)])]):=by kernel_rfl
theorem yd8 (e:Es) (he:EG e):OkL (E e) yiX ycl:=by
 intro az b K h
 unfold yiX ycC at h
 split at h
 ·exact yBH (yoL e he) yp9.flat (yar (by kernel_rfl)) (by kernel_rfl) (he.num _ (by kernel_rfl)) ((ypR ..).mpr h)
 ·exact h.elim
def ydV (a0:yck) (x0:Ls→Int→Ls→Int→Int→Bool→Prop):Nat→Ls→Int→Ls→Int→Int→Prop
 | 0,_,_,_,_,_=>False
 | n+1,l0,i1,l2,i3,i4 =>
 (cbr (decide (i4<i3))
 (jn (fun (d:Int→Prop) =>
 (asr (decide ((0:Int)≤i4))
 (asr (decide (i4<(((List.length l2):Nat):Int)))
 (lt (List.getD l2 (i4.toNat) .nils) (fun a =>
 (asr (conf zI a)
 (asr (decide ((0:Int)≤(yaa a)))
 (asr (decide ((yaa a)<(((List.length l0):Nat):Int)))
 (lt (List.getD l0 ((yaa a).toNat) .nils) (fun b =>
 (asr (conf z2 b)
 (asr (decide ((0:Int)≤i1))
 (asr (decide (i1<(((List.length l0):Nat):Int)))
 (lt (List.getD l0 (i1.toNat) .nils) (fun c =>
 (asr (conf z2 c)
 (a0 (yaa (yab b 0)) (yaa (yab b 1)) (yaa (yab c 0)) (yaa (yab c 1)) (fun e h =>
 (cbr (decide (e>(0:Int)))
 (d (yaa a))
 (d i1))))))))))))))))))))
 (fun f=>(lt (IntKind.i64.wrap (i4+(1:Int))) (fun g =>
 (ydV a0 x0 n l0 f l2 i3 g)))))
 (x0 l0 i1 l2 i3 i4 false))
def ymh (a0:yck) (p0 p1:Ls) (K:Int→Prop):Prop :=
 (asr (decide ((0:Int)<(((List.length p1):Nat):Int)))
 (lt (List.getD p1 0 .nils) (fun a =>
 (asr (conf zI a)
 (∃ n:Nat,ydV a0
 (fun c b d e f g=>(K b))
 n p0 (yaa a) p1 (((List.length p1):Nat):Int) (0:Int))))))
def yaq:yav:=ymh ycs
def yCu:Sg:=⟨pt13,Int→Prop,fun K=>(fun r0=>K (.int .i64 r0))⟩
def yxd (Q:Qx):Ls→Int→Ls→Int→Int→Bool→Prop:=(fun l0 i1 l2 i3 i4 b5=>Q (.exit 0) [(0,.v (.data l0)),(5,.v (.int .i64 i1)),(13,.v (.data l2)),(14,.v (.int .i64 i3)),(15,.v (.int .i64 i4)),(16,.v (.bool b5))] [])
def pt51:Pat Frm:=fV 14 pt0 (fV 15 pt0 fN)
def pt52:Pat Frm:=fV 13 vD pt51
def yoM (a0:yck) (Q:Qx):List St:=[⟨(pS hN (fV 0 vD (fV 5 pt0 pt52)) fN),ydV a0 (yxd Q)⟩]
def ysd (a0:yck):LP:=lpS [(12610200,yoM a0)]
def ymi (e:Es) (a0:yck):SE:=sE (E e) [(yeR,yFW.pw a0)] (ysd a0)
theorem yqv (e:Es) (he:EG e):SEOk (Uni (E e)) (ymi e ycs):=yaE (Sub.uni _) ⟨(yfS e he),trivial⟩ trivial he.ok
theorem yvD (e:Es) (a0):ycr (ymi e a0) 5 a yuF false (yoM a0):=fun _=>⟨fun _=>by kernel_rfl,fun _ _=>by kernel_rfl,trivial⟩
theorem yvE (e:Es) (he:EG e):LpT (Uni (E e)) (ysd ycs) [] 12610200 (.loop 12610200 yuF):=fun _ _ _=>yp8.st (Sub.uni _) (yaW (yqv e he) 5) (YOk.no _ _) (yar (by kernel_rfl)) (yvD e _ _)
theorem yCv (e:Es) (a0):EqW (ymi e a0) 6 ytF yCu (ymh a0):=fun _ _=>by kernel_rfl
theorem ygU (e:Es) (he:EG e):OkF (E e) (yCu.pw yaq) ye6:=okU he (yCv e _) (yqv e he) yp9.flat (ybg (l:=[(12610200,.loop 12610200 yuF)]) ⟨yvE e he,trivial⟩ (by kernel_rfl))
def yhx (a:Ls→Int→Ls→Int→Int→Bool→Prop) (b:Ls→Int→Bool→Prop):Nat→Ls→Int→Ls→Int→Int→Prop
 | 0,_,_,_,_,_=>False
 | d+1,l0,i1,l2,i3,i4 =>
 (cbr (decide (i4<i3))
 (asr (decide ((0:Int)≤i4))
 (asr (decide (i4<(((List.length l2):Nat):Int)))
 (lt (List.getD l2 (i4.toNat) .nils) (fun c =>
 (asr (conf zI c)
 (cbr ((yaa c) == i1)
 (b l0 i1 true)
 (lt (IntKind.i64.wrap (i4+(1:Int))) (fun e =>
 (yhx a b d l0 i1 l2 i3 e)))))))))
 (a l0 i1 l2 i3 i4 false))
def yhy (a:Ls→Ls→Int→Ls→Int→Int→Bool→Prop) (b:Ls→Ls→Int→Bool→Prop):Nat→Ls→Ls→Int→Ls→Int→Int→Prop
 | 0,_,_,_,_,_,_=>False
 | d+1,l0,l1,i2,l3,i4,i5 =>
 (cbr (decide (i5<i4))
 (asr (decide ((0:Int)≤i5))
 (asr (decide (i5<(((List.length l3):Nat):Int)))
 (lt (List.getD l3 (i5.toNat) .nils) (fun c =>
 (asr (conf zI c)
 (cbr ((yaa c) == i2)
 (b l0 l1 i2 true)
 (lt (IntKind.i64.wrap (i5+(1:Int))) (fun e =>
 (yhy a b d l0 l1 i2 l3 i4 e)))))))))
 (a l0 l1 i2 l3 i4 i5 false))
def yfj (b:Ls→Ls→Nat→Nat→Int→Bool→Prop):Nat→Ls→Ls→Nat→Nat→Int→Prop
 | 0,_,_,_,_,_=>False
 | d+1,l0,l1,n2,n3,i4 =>
 (cbr (decide (i4<(3:Int)))
 (jn (fun (e:Ls→Ls→Int→Bool→Prop) =>
 (∃ g:Nat,yhy
 (fun h i j r s t u=>(e h i j false))
 (fun k l m n=>(e k l m n))
 g l0 l1 i4 l1 (((List.length l1):Nat):Int) (0:Int)))
 (fun a f c o=>(cbr (!o)
 (asr (decide ((List.length a)=n3))
 (asr (decide ((0+n2)≤n3))
 (asr (!(decide (((0+n2)+1)≤n3)))
 (asr (decide (n2=n3))
 (asr (decide (((n3+1)+64)*(8+1)≤room))
 (lt (IntKind.i64.wrap (i4+(1:Int))) (fun p =>
 (yfj b d (a++([(.int .i64 c)]:Ls)) f (List.length (a++([(.int .i64 c)]:Ls))) (List.length (a++([(.int .i64 c)]:Ls))) p))))))))
 (lt (IntKind.i64.wrap (i4+(1:Int))) (fun q =>
 (yfj b d a f n2 n3 q))))))
 (b l0 l1 n2 n3 i4 false))
def yhz (a:Ls→Int→Bool→Prop) (b:Ls→Ls→Nat→Nat→Int→Bool→Prop):Nat→Ls→Int→Prop
 | 0,_,_=>False
 | c+1,l0,i1 =>
 (cbr (decide (i1<(3:Int)))
 (jn (fun (d:Ls→Int→Bool→Prop) =>
 (∃ f:Nat,yhx
 (fun g h p q r s=>(d g h false))
 (fun i j k=>(d i j k))
 f l0 i1 l0 (((List.length l0):Nat):Int) (0:Int)))
 (fun e l m=>(cbr (!m)
 (lt (IntKind.i64.wrap (i1+(1:Int))) (fun n =>
 (yfj b c ([(.int .i64 l)]:Ls) e 1 1 n)))
 (lt (IntKind.i64.wrap (i1+(1:Int))) (fun o =>
 (yhz a b c e o))))))
 (a l0 i1 false))
def yoN (p0:Ls) (K:Ls→Prop):Prop :=
 (∃ d:Nat,yhz
 (fun e f g=>(K ([]:Ls)))
 (fun a h b c i j=>(asr (decide ((List.length a)=c))
 (asr (decide ((0+b)≤c))
 (K (List.take b a)))))
 d p0 (0:Int))
def yai:yaL:=yoN
def ytl (Q:Qx):Ls→Int→Ls→Int→Int→Bool→Prop:=(fun l0 i1 l2 i3 i4 b5=>Q (.exit 0) [(1,.v (.ptr 1 1 0 0)),(5,.v (.data l2)),(6,.v (.int .i64 i3)),(7,.v (.int .i64 i4)),(8,.v (.bool b5))] [⟨false,true,1,([(.data l0)]:Ls)⟩,⟨false,true,1,([(.int .i64 i1)]:Ls)⟩])
def ytm (Q:Qx):Ls→Int→Bool→Prop:=(fun l0 i1 b2=>Q .ret [(2,.v (.bool b2))] [⟨false,true,1,([(.data l0)]:Ls)⟩,⟨false,true,1,([(.int .i64 i1)]:Ls)⟩])
def ytn (Q:Qx):Ls→Ls→Int→Ls→Int→Int→Bool→Prop:=(fun l0 l1 i2 l3 i4 i5 b6=>Q (.exit 0) [(1,.v (.ptr 3 1 0 0)),(5,.v (.data l3)),(6,.v (.int .i64 i4)),(7,.v (.int .i64 i5)),(8,.v (.bool b6))] [⟨false,true,1,([(.data l1)]:Ls)⟩,⟨false,true,1,([]:Ls)⟩,⟨false,true,1,l0⟩,⟨false,true,1,([(.int .i64 i2)]:Ls)⟩])
def yto (Q:Qx):Ls→Ls→Int→Bool→Prop:=(fun l0 l1 i2 b3=>Q .ret [(2,.v (.bool b3))] [⟨false,true,1,([(.data l1)]:Ls)⟩,⟨false,true,1,([]:Ls)⟩,⟨false,true,1,l0⟩,⟨false,true,1,([(.int .i64 i2)]:Ls)⟩])
def ytp (Q:Qx):Ls→Int→Bool→Prop:=(fun l0 i1 b2=>Q (.exit 0) [(1,.v (.ptr 0 1 0 0)),(3,.v .nils),(6,.v (.int .i64 i1)),(7,.v (.bool b2))] [⟨false,true,1,([(.data l0)]:Ls)⟩])
def ykX (Q:Qx):Ls→Ls→Nat→Nat→Int→Bool→Prop:=(fun l0 l1 n2 n3 i4 b5=>Q (.exit 0) [(1,.v (.ptr 0 1 0 0)),(3,.v (.own 2 0 n2 n3 none)),(6,.v (.int .i64 i4)),(7,.v (.bool b5))] [⟨false,true,1,([(.data l1)]:Ls)⟩,⟨false,true,1,([]:Ls)⟩,⟨false,true,1,l0⟩])
def pt53:Pat Frm:=fV 5 vD (fV 6 pt0 (fV 7 pt0 fN))
def ymj (Q:Qx):List St:=[⟨(pS (hB false true 1 pt33 pt18) (fV 1 pt20 pt53) fN),yhx (ytl Q) (ytm Q)⟩,⟨(pS (hB false true 1 pt33 (hB false true 1 rN (hB false true 1 rA pt18))) (fV 1 (vP 3 0 (nK 1) (nK 0)) pt53) fN),fun n l1 l0 i2 l3 i4 i5=>yhy (ytn Q) (yto Q) n l0 l1 i2 l3 i4 i5⟩]
def pt54:HPt:=hB false true 1 rA hN
def ymk (Q:Qx):List St:=[⟨(pS (hB false true 1 pt33 hN) (fV 1 pt19 (fV 3 vNs (fV 6 pt0 fN))) fN),yhz (ytp Q) (ykX Q)⟩,⟨(pS (hB false true 1 pt33 (hB false true 1 rN pt54)) (fV 1 pt19 (fV 3 (vW 2 (nK 0) nV nV) (fV 6 pt0 fN))) fN),fun n l1 l0 n2 n3 i4=>yfj (ykX Q) n l0 l1 n2 n3 i4⟩]
def yhd:LP:=lpS [(86939300,ymj),(63461800,ymk)]
def yoO (e:Es):SE:=sE (E e) [] (yhd)
def yj0 (e:Es):SE:=⟨(E e),ydO [],ydP [(ymX,ymZ)],yhd,fun _=>none⟩
theorem yxe (e:Es) (he:EG e):SEOk (Uni (E e)) (yoO e):=yaE (Sub.uni _) trivial trivial he.ok
theorem yse (e:Es):ycr (yoO e) 5 a yuG false (ymj):=fun _=>⟨fun _=>by kernel_rfl,fun _ _=>by kernel_rfl,fun _=>by kernel_rfl,fun _ _=>by kernel_rfl,trivial⟩
theorem ysf (e:Es) (he:EG e):LpT (Uni (E e)) (yhd) [] 86939300 (.loop 86939300 yuG):=fun _ _ _=>yp8.st (Sub.uni _) (yaW (yxe e he) 5) (YOk.no _ _) (yar (by kernel_rfl)) (yse e _)
theorem ync (e:Es) (he:EG e):SEOk (Uni (E e)) (yj0 e):=yaE (Sub.uni _) trivial ⟨⟨by kernel_rfl,by kernel_rfl,rfl,fun az=>yaN (by kernel_rfl) az,he.num _ (by kernel_rfl),by kernel_rfl,(ybg (l:=[(86939300,.loop 86939300 yuG)]) ⟨ysf e he,trivial⟩ (by kernel_rfl))⟩,trivial⟩ he.ok
theorem ysg (e:Es):ycr (yj0 e) 5 a yuH true (ymk):=fun _=>⟨fun _=>by kernel_rfl,fun _ _=>by kernel_rfl,fun _=>by kernel_rfl,fun _ _=>by kernel_rfl,trivial⟩
theorem ysh (e:Es) (he:EG e):LpT (Uni (E e)) (yhd) [] 63461800 (.lG 63461800 yuH):=fun _ _ _=>yp8.stG (Sub.uni _) (yaW (ync e he) 5) (YOk.no _ _) (yar (by kernel_rfl)) (ysg e _)
theorem yyS (e:Es):EqW (yj0 e) 6 yqf ykK yoN:=fun _ _=>by kernel_rfl
theorem yfx (e:Es) (he:EG e):OkF (E e) (ykK.pw yai) ydY:=okU he (yyS e) (ync e he) yp9.flat (ybg (l:=[(63461800,.lG 63461800 yuH)]) ⟨ysh e he,trivial⟩ (by kernel_rfl))
abbrev yaX:Type:=Ls→Ls→(Int→Int→Int→Int→Int→Int→Int→Int→Int→Int→Int→Int→Int→Int→Int→Int→Int→Int→Int→Int→Ls→Ls→Prop)→Prop
def ybF (a0:yam) (a1:ybz) (a2:yaD) (a3:yby) (a4:ybi) (a5:yal) (a6:yav) (a7:yaL) (a8:ybf) (x1:Ls→Ls→Ls→Int→Int→Int→Int→Int→Int→Int→Int→Int→Int→Int→Int→Int→Int→Int→Int→Int→Int→Int→Int→Int→Ls→Int→Int→Bool→Prop):Nat→Ls→Ls→Ls→Int→Int→Int→Int→Int→Int→Int→Int→Int→Int→Int→Int→Int→Int→Int→Int→Int→Int→Int→Int→Int→Ls→Int→Int→Prop
 | 0,_,_,_,_,_,_,_,_,_,_,_,_,_,_,_,_,_,_,_,_,_,_,_,_,_,_,_=>False
 | n+1,l0,l1,l2,i3,i4,i5,i6,i7,i8,i9,i10,i11,i12,i13,i14,i15,i16,i17,i18,i19,i20,i21,i22,i23,l26,i27,i28 =>
 (cbr (decide (i28<i27))
 (asr (decide ((0:Int)≤i28))
 (asr (decide (i28<(((List.length l26):Nat):Int)))
 (lt (List.getD l26 (i28.toNat) .nils) (fun a =>
 (asr (conf z4 a)
 (a3 l1 l2 i23 (yaa (yab a 0)) (yaa (yab a 1)) (yaa (yab a 2)) (yaa (yab a 3)) (fun d e f g h =>
 (a4 f g h (fun b c =>
 (asr (decide ((List.length l0)=(List.length l0)))
 (asr (decide ((0+(List.length l0))≤(List.length l0)))
 (asr (!(decide (((0+(List.length l0))+1)≤(List.length l0))))
 (asr (decide ((List.length l0)=(List.length l0)))
 (asr (decide ((((List.length l0)+1)+64)*(16+1)≤room))
 (lt (IntKind.i64.wrap (i28+(1:Int))) (fun i =>
 (asr (decide ((List.length (l0++([(.agg [(.int .i64 b),(.int .i64 c)])]:Ls)))=List.length (l0++([(.agg [(.int .i64 b),(.int .i64 c)])]:Ls)))&&decide ((List.length (l0++([(.agg [(.int .i64 b),(.int .i64 c)])]:Ls)))=List.length (l0++([(.agg [(.int .i64 b),(.int .i64 c)])]:Ls))))
 (ybF a0 a1 a2 a3 a4 a5 a6 a7 a8 x1 n (l0++([(.agg [(.int .i64 b),(.int .i64 c)])]:Ls)) d e i3 i4 i5 i6 i7 i8 i9 i10 i11 i12 i13 i14 i15 i16 i17 i18 i19 i20 i21 i22 i23 l26 i27 i))))))))))))))))))
 (x1 l0 l1 l2 i3 i4 i5 i6 i7 i8 i9 i10 i11 i12 i13 i14 i15 i16 i17 i18 i19 i20 i21 i22 i23 l26 i27 i28 false))
def ydE (a0:yam) (a1:ybz) (a2:yaD) (a3:yby) (a4:ybi) (a5:yal) (a6:yav) (a7:yaL) (a8:ybf) (x0:Ls→Ls→Int→Int→Int→Int→Int→Int→Int→Int→Int→Int→Int→Int→Int→Int→Int→Int→Int→Int→Int→Int→Int→Ls→Int→Int→Bool→Prop) (x1:Ls→Ls→Ls→Int→Int→Int→Int→Int→Int→Int→Int→Int→Int→Int→Int→Int→Int→Int→Int→Int→Int→Int→Int→Int→Ls→Int→Int→Bool→Prop):Nat→Ls→Ls→Int→Int→Int→Int→Int→Int→Int→Int→Int→Int→Int→Int→Int→Int→Int→Int→Int→Int→Int→Int→Int→Ls→Int→Int→Prop
 | 0,_,_,_,_,_,_,_,_,_,_,_,_,_,_,_,_,_,_,_,_,_,_,_,_,_,_=>False
 | n+1,l0,l1,i2,i3,i4,i5,i6,i7,i8,i9,i10,i11,i12,i13,i14,i15,i16,i17,i18,i19,i20,i21,i22,l23,i24,i25 =>
 (cbr (decide (i25<i24))
 (asr (decide ((0:Int)≤i25))
 (asr (decide (i25<(((List.length l23):Nat):Int)))
 (lt (List.getD l23 (i25.toNat) .nils) (fun a =>
 (asr (conf z4 a)
 (a3 l0 l1 i22 (yaa (yab a 0)) (yaa (yab a 1)) (yaa (yab a 2)) (yaa (yab a 3)) (fun d e f g h =>
 (a4 f g h (fun b c =>
 (lt (IntKind.i64.wrap (i25+(1:Int))) (fun i =>
 (asr (decide (1=List.length ([(.agg [(.int .i64 b),(.int .i64 c)])]:Ls))&&decide (1=List.length ([(.agg [(.int .i64 b),(.int .i64 c)])]:Ls)))
 (ybF a0 a1 a2 a3 a4 a5 a6 a7 a8 x1 n ([(.agg [(.int .i64 b),(.int .i64 c)])]:Ls) d e i2 i3 i4 i5 i6 i7 i8 i9 i10 i11 i12 i13 i14 i15 i16 i17 i18 i19 i20 i21 i22 l23 i24 i)))))))))))))
 (x0 l0 l1 i2 i3 i4 i5 i6 i7 i8 i9 i10 i11 i12 i13 i14 i15 i16 i17 i18 i19 i20 i21 i22 l23 i24 i25 false))
def ya7 (a0:yam) (a1:ybz) (a2:yaD) (a3:yby) (a4:ybi) (a5:yal) (a6:yav) (a7:yaL) (a8:ybf) (x3:Ls→Ls→Ls→Ls→Int→Int→Int→Int→Int→Int→Int→Int→Int→Int→Int→Int→Int→Int→Int→Int→Int→Int→Int→Int→Int→Int→Int→Bool→Prop):Nat→Ls→Ls→Ls→Ls→Int→Int→Int→Int→Int→Int→Int→Int→Int→Int→Int→Int→Int→Int→Int→Int→Int→Int→Int→Int→Int→Int→Int→Prop
 | 0,_,_,_,_,_,_,_,_,_,_,_,_,_,_,_,_,_,_,_,_,_,_,_,_,_,_,_=>False
 | n+1,l0,l1,l2,l3,i4,i5,i6,i7,i8,i9,i10,i11,i12,i13,i14,i15,i16,i17,i18,i19,i20,i21,i22,i23,i24,i27,i28 =>
 (cbr (decide (i28<i27))
 (jn (fun (c:Int→Int→Int→Int→Prop) =>
 (cbr (decide (i28=(0:Int)))
 (c i4 i5 i6 i7)
 (cbr (decide (i28=(1:Int)))
 (c i8 i9 i10 i11)
 (cbr (decide (i28=(2:Int)))
 (c i12 i13 i14 i15)
 False))))
 (fun d e f g=>(a3 l2 l3 i24 d e f g (fun h i j k l =>
 (a4 j k l (fun a b =>
 (asr (decide ((List.length l1)=(List.length l1)))
 (asr (decide ((0+(List.length l1))≤(List.length l1)))
 (asr (!(decide (((0+(List.length l1))+1)≤(List.length l1))))
 (asr (decide ((List.length l1)=(List.length l1)))
 (asr (decide ((((List.length l1)+1)+64)*(16+1)≤room))
 (lt (IntKind.i64.wrap (i28+(1:Int))) (fun m =>
 (asr (decide ((List.length (l1++([(.agg [(.int .i64 a),(.int .i64 b)])]:Ls)))=List.length (l1++([(.agg [(.int .i64 a),(.int .i64 b)])]:Ls)))&&decide ((List.length (l1++([(.agg [(.int .i64 a),(.int .i64 b)])]:Ls)))=List.length (l1++([(.agg [(.int .i64 a),(.int .i64 b)])]:Ls))))
 (ya7 a0 a1 a2 a3 a4 a5 a6 a7 a8 x3 n l0 (l1++([(.agg [(.int .i64 a),(.int .i64 b)])]:Ls)) h i i4 i5 i6 i7 i8 i9 i10 i11 i12 i13 i14 i15 i16 i17 i18 i19 i20 i21 i22 i23 i24 i27 m)))))))))))))))
 (x3 l0 l1 l2 l3 i4 i5 i6 i7 i8 i9 i10 i11 i12 i13 i14 i15 i16 i17 i18 i19 i20 i21 i22 i23 i24 i27 i28 false))
def ycO (a0:yam) (a1:ybz) (a2:yaD) (a3:yby) (a4:ybi) (a5:yal) (a6:yav) (a7:yaL) (a8:ybf) (x2:Ls→Ls→Ls→Int→Int→Int→Int→Int→Int→Int→Int→Int→Int→Int→Int→Int→Int→Int→Int→Int→Int→Int→Int→Int→Int→Int→Bool→Prop) (x3:Ls→Ls→Ls→Ls→Int→Int→Int→Int→Int→Int→Int→Int→Int→Int→Int→Int→Int→Int→Int→Int→Int→Int→Int→Int→Int→Int→Int→Bool→Prop):Nat→Ls→Ls→Ls→Int→Int→Int→Int→Int→Int→Int→Int→Int→Int→Int→Int→Int→Int→Int→Int→Int→Int→Int→Int→Int→Int→Int→Prop
 | 0,_,_,_,_,_,_,_,_,_,_,_,_,_,_,_,_,_,_,_,_,_,_,_,_,_,_=>False
 | n+1,l0,l1,l2,i3,i4,i5,i6,i7,i8,i9,i10,i11,i12,i13,i14,i15,i16,i17,i18,i19,i20,i21,i22,i23,i24,i25 =>
 (cbr (decide (i25<i24))
 (jn (fun (a:Int→Int→Int→Int→Prop) =>
 (cbr (decide (i25=(0:Int)))
 (a i3 i4 i5 i6)
 (cbr (decide (i25=(1:Int)))
 (a i7 i8 i9 i10)
 (cbr (decide (i25=(2:Int)))
 (a i11 i12 i13 i14)
 False))))
 (fun d e f g=>(a3 l1 l2 i23 d e f g (fun h i j k l =>
 (a4 j k l (fun b c =>
 (lt (IntKind.i64.wrap (i25+(1:Int))) (fun m =>
 (asr (decide (1=List.length ([(.agg [(.int .i64 b),(.int .i64 c)])]:Ls))&&decide (1=List.length ([(.agg [(.int .i64 b),(.int .i64 c)])]:Ls)))
 (ya7 a0 a1 a2 a3 a4 a5 a6 a7 a8 x3 n l0 ([(.agg [(.int .i64 b),(.int .i64 c)])]:Ls) h i i3 i4 i5 i6 i7 i8 i9 i10 i11 i12 i13 i14 i15 i16 i17 i18 i19 i20 i21 i22 i23 i24 m))))))))))
 (x2 l0 l1 l2 i3 i4 i5 i6 i7 i8 i9 i10 i11 i12 i13 i14 i15 i16 i17 i18 i19 i20 i21 i22 i23 i24 i25 false))
end Go.Pf.Vc
