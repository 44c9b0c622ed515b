/- Part 3. -/
import Derived.Test.YtobbapakhillmaaGreatThW2
noncomputable section
namespace Go.Pf.Vc
open Go Go.Pf
set_option maxRecDepth 100000
theorem yoB (e:Es) (he:EG e):SEOk (Uni (E e)) (ykU e ydl ydm):=yaz (Sub.uni _) ⟨(yuB e he),(yuD e he),trivial⟩ trivial he.ok
theorem ys9 (e:Es) (a0 a1):yct (ykU e a0 a1) 5 a yrm false (ynz a0 a1):=fun _=>⟨fun _=>by kernel_rfl,fun _ _=>by kernel_rfl,trivial⟩
theorem yta (e:Es) (he:EG e):LpT (Uni (E e)) (yqM ydl ydm) [] 87419700 (.loop 87419700 yrm):=fun _ _ _=>yof.st (Sub.uni _) (ya3 (yoB e he) 5) (YOk.no _ _) (yaq (by kernel_rfl)) (ys9 e _ _ _)
theorem yy7 (e:Es) (a0 a1):EqW (ykU e a0 a1) 6 ysV ykT (ykS a0 a1):=fun _ _=>by kernel_rfl
theorem yey (e:Es) (he:EG e):OkF (E e) (ykT.pw yaZ) ydv:=okU he (yy7 e _ _) (yoB e he) ynq.flat (ybq (l:=[(87419700,.loop 87419700 yrm)]) ⟨yta e he,trivial⟩ (by kernel_rfl))
abbrev ymz:Type:=Int→Ls→Ls→(Int→Int→Prop)→Prop
def yda (a0:yav) (x0:Int→Ls→Ls→Int→Ls→Int→Int→Bool→Prop):Nat→Int→Ls→Ls→Int→Ls→Int→Int→Prop
 | 0,_,_,_,_,_,_,_=>False
 | n+1,i0,l1,l2,i3,l4,i5,i6 =>
 (cbr (decide (i6<i5))
 (asr (decide ((0:Int)≤i6))
 (asr (decide (i6<(((List.length l4):Nat):Int)))
 (asr (conf zI (List.getD l4 (i6.toNat) .nils))
 (asr (decide ((0:Int)≤(IntKind.i64.wrap (i6+(1:Int)))))
 (asr (decide ((IntKind.i64.wrap (i6+(1:Int)))<(((List.length l1):Nat):Int)))
 (asr (conf zI (List.getD l1 ((IntKind.i64.wrap (i6+(1:Int))).toNat) .nils))
 (asr (decide ((0:Int)≤i6))
 (asr (decide (i6<(((List.length l1):Nat):Int)))
 (asr (conf zI (List.getD l1 (i6.toNat) .nils))
 (yda a0 x0 n i0 l1 l2 (IntKind.i64.wrap (i3+(IntKind.i64.wrap ((yaa (List.getD l4 (i6.toNat) .nils))*(IntKind.i64.wrap ((yaa (List.getD l1 ((IntKind.i64.wrap (i6+(1:Int))).toNat) .nils))-(yaa (List.getD l1 (i6.toNat) .nils)))))))) l4 i5 (IntKind.i64.wrap (i6+(1:Int)))))))))))))
 (x0 i0 l1 l2 i3 l4 i5 i6 false))
def yh5 (a0:yav) (p0:Int) (p1 p2:Ls) (K:Int→Int→Prop):Prop :=
 (a0 p0 p1 p2 (fun a =>
 (cbr (a !=(0:Int))
 (K (0:Int) a)
 (∃ n:Nat,yda a0
 (fun _ _ _ b _ _ _ _=>(K b (0:Int)))
 n p0 p1 p2 (0:Int) p2 (((List.length p2):Nat):Int) (0:Int)))))
def yek:ymz:=yh5 yaZ
def yy8:Sg:=⟨pt14,Int→Int→Prop,fun K=>(fun r0 r1=>K (.tup [(.int .i64 r0),(.int .i64 r1)]))⟩
def yuG (Q:Qx):Int→Ls→Ls→Int→Ls→Int→Int→Bool→Prop:=(fun i0 l1 l2 i3 l4 i5 i6 b7=>Q (.exit 0) [(1,.box (.agg [(.int .i64 i0),(.data l1),(.data l2)])),(5,.v (.int .i64 i3)),(14,.v (.data l4)),(15,.v (.int .i64 i5)),(16,.v (.int .i64 i6)),(17,.v (.bool b7))] [])
def pt15:Pat Frm:=fV 14 vD (fV 15 pt0 (fV 16 pt0 fN))
def ynA (a0:yav) (Q:Qx):List St:=[⟨(pS hN (fX 1 pt13 (fV 5 pt0 pt15)) fN),yda a0 (yuG Q)⟩]
def yqN (a0:yav):LP:=lpS [(45203600,ynA a0)]
def ykV (e:Es) (a0:yav):SE:=sE (E e) [(ydv,ykT.pw a0)] (yqN a0)
theorem yoC (e:Es) (he:EG e):SEOk (Uni (E e)) (ykV e yaZ):=yaz (Sub.uni _) ⟨(yey e he),trivial⟩ trivial he.ok
theorem ytb (e:Es) (a0):yct (ykV e a0) 5 a yrp false (ynA a0):=fun _=>⟨fun _=>by kernel_rfl,fun _ _=>by kernel_rfl,trivial⟩
theorem ytc (e:Es) (he:EG e):LpT (Uni (E e)) (yqN yaZ) [] 45203600 (.loop 45203600 yrp):=fun _ _ _=>yof.st (Sub.uni _) (ya3 (yoC e he) 5) (YOk.no _ _) (yaq (by kernel_rfl)) (ytb e _ _)
theorem yy9 (e:Es) (a0):EqW (ykV e a0) 6 ysW yy8 (yh5 a0):=fun _ _=>by kernel_rfl
theorem yqO (e:Es) (he:EG e):OkF (E e) (yy8.pw yek) yiN:=okU he (yy9 e _) (yoC e he) ynq.flat (ybq (l:=[(45203600,.loop 45203600 yrp)]) ⟨ytc e he,trivial⟩ (by kernel_rfl))
abbrev yax:Type:=Int→(Int→Int→Prop)→Prop
def yqP (p0:Int) (K:Int→Int→Prop):Prop :=
 (K p0 (1:Int))
def ybP:yax:=yqP
def yh6:Sg:=⟨pt1,Int→Int→Prop,fun K=>(fun r0 r1=>K (.agg [(.int .i64 r0),(.int .i64 r1)]))⟩
def yza (e:Es):SE:=sE (E e) [] lp0
theorem yzb (e:Es):EqW (yza e) 6 yA6 yh6 yqP:=fun _ _=>by kernel_rfl
theorem yh7 (e:Es) (he:EG e):OkF (E e) (yh6.pw ybP) yed:=okU he (yzb e) (yaz (Sub.uni _) trivial trivial he.ok) ynq.flat (yaq (by kernel_rfl))
abbrev yap:Type:=Int→Int→Int→Int→(Bool→Prop)→Prop
def ymA (a0:yaV) (p0 p1 p2 p3:Int) (K:Bool→Prop):Prop :=
 (a0 p0 p1 p2 p3 (fun a _ =>
 (K (decide (a<(0:Int))))))
def ybX:yap:=ymA ybW
def ytd:Sg:=⟨pt11,Bool→Prop,fun K=>(fun r0=>K (.bool r0))⟩
def yBn (e:Es) (a0:yaV):SE:=sE (E e) [(yeZ,yBe.pw a0)] lp0
theorem yBo (e:Es) (a0):EqW (yBn e a0) 6 yDq ytd (ymA a0):=fun _ _=>by kernel_rfl
theorem yiT (e:Es) (he:EG e):OkF (E e) (ytd.pw ybX) ye0:=okU he (yBo e _) (yaz (Sub.uni _) ⟨(yg3 e he),trivial⟩ trivial he.ok) ynq.flat (yaq (by kernel_rfl))
abbrev ybQ:Type:=Int→Ls→Ls→Int→Int→(Bool→Prop)→Prop
def ykW (a0:yay) (a1:yax) (a2:yap) (p0:Int) (_ _:Ls) (p3 p4:Int) (K:Bool→Prop):Prop :=
 (a0 p3 p4 (fun a =>
 (cbr (a ==(0:Int))
 (cbr (decide (p3≥(0:Int)))
 (a1 p0 (fun b c =>
 (a2 b c p3 p4 (fun d =>
 (K (!d))))))
 (K false))
 (K false))))
def ybR:ybQ:=ykW ybu ybP ybX
def yzc:Sg:=⟨(lC pt13 pt8),Bool→Prop,fun K=>(fun r0=>K (.bool r0))⟩
def yzd (e:Es) (a0:yay) (a1:yax) (a2:yap):SE:=sE (E e) [(ydD,yor.pw a0),(yed,yh6.pw a1),(ye0,ytd.pw a2)] lp0
theorem yze (e:Es) (a0 a1 a2):EqW (yzd e a0 a1 a2) 6 yA7 yzc (ykW a0 a1 a2):=fun _ _=>by kernel_rfl
theorem ykX (e:Es) (he:EG e):OkF (E e) (yzc.pw ybR) yfs:=okU he (yze e _ _ _) (yaz (Sub.uni _) ⟨(ye7 e he),(yh7 e he),(yiT e he),trivial⟩ trivial he.ok) ynq.flat (yaq (by kernel_rfl))
abbrev yby:Type:=Int→Ls→Ls→Int→Int→Int→Int→(Int→Int→Int→Prop)→Prop
def ybo (a0:yav) (a1:ybQ) (a2:yay) (a3:yax) (a4:yap) (a5:yal) (a6:yal) (a7:yal) (a8:yal) (x0:Int→Int→Int→Int→Int→Int→Prop) (x1:Int→Int→Int→Int→Int→Int→Ls→Ls→Int→Int→Ls→Int→Int→Bool→Prop):Nat→Int→Int→Int→Int→Int→Int→Ls→Ls→Int→Int→Ls→Int→Int→Prop
 | 0,_,_,_,_,_,_,_,_,_,_,_,_,_=>False
 | n+1,i0,i1,i2,i3,i4,i5,l6,l7,i8,i9,l10,i11,i12 =>
 (cbr (decide (i12<i11))
 (asr (decide ((0:Int)≤i12))
 (asr (decide (i12<(((List.length l10):Nat):Int)))
 (asr (conf zI (List.getD l10 (i12.toNat) .nils))
 (asr (decide ((0:Int)≤(IntKind.i64.wrap (i12+(1:Int)))))
 (asr (decide ((IntKind.i64.wrap (i12+(1:Int)))<(((List.length l6):Nat):Int)))
 (asr (conf zI (List.getD l6 ((IntKind.i64.wrap (i12+(1:Int))).toNat) .nils))
 (a3 (yaa (List.getD l6 ((IntKind.i64.wrap (i12+(1:Int))).toNat) .nils)) (fun a b =>
 (a4 i8 i9 a b (fun r =>
 (cbr (!r)
 (ybo a0 a1 a2 a3 a4 a5 a6 a7 a8 x0 x1 n i0 i1 i2 i3 i4 i5 l6 l7 i8 i9 l10 i11 (IntKind.i64.wrap (i12+(1:Int))))
 (a3 (0:Int) (fun i j =>
 (cbr (decide ((yaa (List.getD l10 (i12.toNat) .nils))>(0:Int)))
 (a5 a b i8 i9 (fun s t k =>
 (cbr (k !=(0:Int))
 (x0 i0 i1 i2 i3 i4 k)
 (a3 (yaa (List.getD l10 (i12.toNat) .nils)) (fun u v =>
 (a6 s t u v (fun l m o =>
 (cbr (o !=(0:Int))
 (x0 i0 i1 i2 i3 i4 o)
 (cbr ((yaa (List.getD l10 (i12.toNat) .nils)) ==(0:Int))
 (ybo a0 a1 a2 a3 a4 a5 a6 a7 a8 x0 x1 n i0 i1 i2 i3 i4 i5 l6 l7 a b l10 i11 (IntKind.i64.wrap (i12+(1:Int))))
 (a4 l m i0 i1 (fun w =>
 (cbr w
 (a5 i0 i1 l m (fun e f c =>
 (cbr (c !=(0:Int))
 (cbr (c !=(0:Int))
 (x0 e f i2 i3 c (0:Int))
 (ybo a0 a1 a2 a3 a4 a5 a6 a7 a8 x0 x1 n e f i2 i3 c i5 l6 l7 a b l10 i11 (IntKind.i64.wrap (i12+(1:Int)))))
 (cbr (c !=(0:Int))
 (x0 e f i2 i3 (6:Int) (0:Int))
 (ybo a0 a1 a2 a3 a4 a5 a6 a7 a8 x0 x1 n e f i2 i3 (6:Int) i5 l6 l7 a b l10 i11 (IntKind.i64.wrap (i12+(1:Int))))))))
 (a3 (yaa (List.getD l10 (i12.toNat) .nils)) (fun x y =>
 (a7 i0 i1 x y (fun z A p =>
 (cbr (p ==(0:Int))
 (a8 i8 i9 z A (fun B C D =>
 (x0 i0 i1 B C D (0:Int))))
 (x0 i0 i1 i2 i3 p (0:Int)))))))))))))))))))
 (cbr ((yaa (List.getD l10 (i12.toNat) .nils)) ==(0:Int))
 (ybo a0 a1 a2 a3 a4 a5 a6 a7 a8 x0 x1 n i0 i1 i2 i3 i4 i5 l6 l7 a b l10 i11 (IntKind.i64.wrap (i12+(1:Int))))
 (a4 i j i0 i1 (fun E =>
 (cbr E
 (a5 i0 i1 i j (fun g h d =>
 (cbr (d !=(0:Int))
 (cbr (d !=(0:Int))
 (x0 g h i2 i3 d (0:Int))
 (ybo a0 a1 a2 a3 a4 a5 a6 a7 a8 x0 x1 n g h i2 i3 d i5 l6 l7 a b l10 i11 (IntKind.i64.wrap (i12+(1:Int)))))
 (cbr (d !=(0:Int))
 (x0 g h i2 i3 (6:Int) (0:Int))
 (ybo a0 a1 a2 a3 a4 a5 a6 a7 a8 x0 x1 n g h i2 i3 (6:Int) i5 l6 l7 a b l10 i11 (IntKind.i64.wrap (i12+(1:Int))))))))
 (a3 (yaa (List.getD l10 (i12.toNat) .nils)) (fun F G =>
 (a7 i0 i1 F G (fun H I q =>
 (cbr (q ==(0:Int))
 (a8 i8 i9 H I (fun J K L =>
 (x0 i0 i1 J K L (0:Int))))
 (x0 i0 i1 i2 i3 q (0:Int)))))))))))))))))))))))))
 (x1 i0 i1 i2 i3 i4 i5 l6 l7 i8 i9 l10 i11 i12 false))
def ymB (a0:yav) (a1:ybQ) (a2:yay) (a3:yax) (a4:yap) (a5:yal) (a6:yal) (a7:yal) (a8:yal) (p0:Int) (p1 p2:Ls) (p3 p4 p5 p6:Int) (K:Int→Int→Int→Prop):Prop :=
 (a0 p0 p1 p2 (fun b =>
 (cbr (b !=(0:Int))
 (K (0:Int) (0:Int) b)
 (a1 p0 p1 p2 p3 p4 (fun g =>
 (cbr (!g)
 (K (0:Int) (0:Int) (2:Int))
 (a2 p5 p6 (fun h =>
 (cbr (h !=(0:Int))
 (K (0:Int) (0:Int) (2:Int))
 (cbr (decide (p5<(0:Int)))
 (K (0:Int) (0:Int) (2:Int))
 (cbr (p5 ==(0:Int))
 (K p3 p4 (0:Int))
 (∃ n:Nat,ybo a0 a1 a2 a3 a4 a5 a6 a7 a8
 (fun _ _ c d e a=>(cbr (a !=(0:Int))
 (cbr (a !=(0:Int))
 (K (0:Int) (0:Int) a)
 (K c d (0:Int)))
 (cbr (e !=(0:Int))
 (K (0:Int) (0:Int) e)
 (K c d (0:Int)))))
 (fun _ _ i j f _ _ _ _ _ _ _ _ _=>(cbr (f !=(0:Int))
 (K (0:Int) (0:Int) f)
 (K i j (0:Int))))
 n p5 p6 (0:Int) (0:Int) (6:Int) p0 p1 p2 p3 p4 p2 (((List.length p2):Nat):Int) (0:Int)))))))))))))
def ygB:yby:=ymB yaZ ybR ybu ybP ybX yaD ybh ycD ybx
def ymC:Sg:=⟨(lC pt13 pt11),Int→Int→Int→Prop,fun K=>(fun r0 r1 r2=>K (.tup [(.agg [(.int .i64 r0),(.int .i64 r1)]),(.int .i64 r2)]))⟩
def yv7 (Q:Qx):Int→Int→Int→Int→Int→Int→Prop:=(fun i0 i1 i2 i3 i4 i5=>Q .ret [(6,.v (.int .i64 i5))] [⟨false,true,2,([(.agg [(.int .i64 i0),(.int .i64 i1)])]:Ls)⟩,⟨false,true,2,([(.agg [(.int .i64 i2),(.int .i64 i3)])]:Ls)⟩,⟨false,true,1,([(.int .i64 i4)]:Ls)⟩])
def yv8 (Q:Qx):Int→Int→Int→Int→Int→Int→Ls→Ls→Int→Int→Ls→Int→Int→Bool→Prop:=(fun i0 i1 i2 i3 i4 i5 l6 l7 i8 i9 l10 i11 i12 b13=>Q (.exit 0) [(2,.v (.fn (.func yfZ) [] [(.ptr 0 1 0 0),(.ptr 2 1 0 0),(.ptr 1 1 0 0)])),(3,.box (.agg [(.int .i64 i5),(.data l6),(.data l7)])),(4,.box (.agg [(.int .i64 i8),(.int .i64 i9)])),(14,.v (.data l10)),(15,.v (.int .i64 i11)),(16,.v (.int .i64 i12)),(17,.v (.bool b13))] [⟨false,true,2,([(.agg [(.int .i64 i0),(.int .i64 i1)])]:Ls)⟩,⟨false,true,2,([(.agg [(.int .i64 i2),(.int .i64 i3)])]:Ls)⟩,⟨false,true,1,([(.int .i64 i4)]:Ls)⟩])
def pt16:RPt:=rC pt0 rN
def pt17:HPt:=hB false true 1 pt16 hN
def pt18:VPt:=vP 0 0 (nK 1) (nK 0)
def pt19:VPt:=vP 1 0 (nK 1) (nK 0)
def yoD (a0:yav) (a1:ybQ) (a2:yay) (a3:yax) (a4:yap) (a5:yal) (a6:yal) (a7:yal) (a8:yal) (Q:Qx):List St:=[⟨(pS (hB false true 2 (rC pt7 rN) (hB false true 2 (rC pt7 rN) pt17)) (fV 2 (vF yfZ lN (lC pt18 (lC (vP 2 0 (nK 1) (nK 0)) (lC pt19 lN)))) (fX 3 pt13 (fX 4 pt7 pt15))) fN),ybo a0 a1 a2 a3 a4 a5 a6 a7 a8 (yv7 Q) (yv8 Q)⟩]
def ymD (a0:yav) (a1:ybQ) (a2:yay) (a3:yax) (a4:yap) (a5:yal) (a6:yal) (a7:yal) (a8:yal):LP:=lpS [(41613500,yoD a0 a1 a2 a3 a4 a5 a6 a7 a8)]
def yte (e:Es) (a0:yav) (a1:ybQ) (a2:yay) (a3:yax) (a4:yap) (a5:yal) (a6:yal) (a7:yal) (a8:yal):SE:=⟨(E e),ygu [(ydv,ykT.pw a0),(yfs,yzc.pw a1),(ydD,yor.pw a2),(yed,yh6.pw a3),(ye0,ytd.pw a4),(yd5,yej.pw a5),(yd4,yej.pw a6),(yif,yej.pw a7),(ye1,yej.pw a8)],ygv [(yfZ,yqD)],ymD a0 a1 a2 a3 a4 a5 a6 a7 a8,fun _=>none⟩
def ytf (e:Es) (a0:yav) (a1:ybQ) (a2:yay) (a3:yax) (a4:yap) (a5:yal) (a6:yal) (a7:yal) (a8:yal):SE:=⟨(E e),ygu [(ydv,ykT.pw a0),(yfs,yzc.pw a1),(ydD,yor.pw a2),(yed,yh6.pw a3),(ye0,ytd.pw a4),(yd5,yej.pw a5),(yd4,yej.pw a6),(yif,yej.pw a7),(ye1,yej.pw a8)],ygv [(yvA,yvD),(yfZ,yqD)],ymD a0 a1 a2 a3 a4 a5 a6 a7 a8,fun _=>none⟩
theorem yzf (e:Es) (he:EG e):SEOk (Uni (E e)) (yte e yaZ ybR ybu ybP ybX yaD ybh ycD ybx):=yaz (Sub.uni _) ⟨(yey e he),(ykX e he),(ye7 e he),(yh7 e he),(yiT e he),(yfw e he),(yfv e he),(ymy e he),(yg4 e he),trivial⟩ ⟨⟨by kernel_rfl,by kernel_rfl,rfl,fun az=>ycp (by kernel_rfl) az,he.num _ (by kernel_rfl),by kernel_rfl,(yaq (by kernel_rfl))⟩,trivial⟩ he.ok
theorem yuH (e:Es) (a0 a1 a2 a3 a4 a5 a6 a7 a8):yct (yte e a0 a1 a2 a3 a4 a5 a6 a7 a8) 5 a yrx false (yoD a0 a1 a2 a3 a4 a5 a6 a7 a8):=fun _=>⟨fun _=>by kernel_rfl,fun _ _=>by kernel_rfl,trivial⟩
theorem yuI (e:Es) (he:EG e):LpT (Uni (E e)) (ymD yaZ ybR ybu ybP ybX yaD ybh ycD ybx) [] 41613500 (.loop 41613500 yrx):=fun _ _ _=>yof.st (Sub.uni _) (ya3 (yzf e he) 5) (YOk.no _ _) (yaq (by kernel_rfl)) (yuH e _ _ _ _ _ _ _ _ _ _)
theorem yzg (e:Es) (he:EG e):SEOk (Uni (E e)) (ytf e yaZ ybR ybu ybP ybX yaD ybh ycD ybx):=yaz (Sub.uni _) ⟨(yey e he),(ykX e he),(ye7 e he),(yh7 e he),(yiT e he),(yfw e he),(yfv e he),(ymy e he),(yg4 e he),trivial⟩ ⟨⟨by kernel_rfl,by kernel_rfl,rfl,fun az=>ycp (by kernel_rfl) az,he.num _ (by kernel_rfl),by kernel_rfl,(ybq (l:=[(41613500,.loop 41613500 yrx)]) ⟨yuI e he,trivial⟩ (by kernel_rfl))⟩,⟨by kernel_rfl,by kernel_rfl,rfl,fun az=>ycp (by kernel_rfl) az,he.num _ (by kernel_rfl),by kernel_rfl,(yaq (by kernel_rfl))⟩,trivial⟩ he.ok
theorem yBp (e:Es) (a0 a1 a2 a3 a4 a5 a6 a7 a8):EqW (ytf e a0 a1 a2 a3 a4 a5 a6 a7 a8) 6 yDu ymC (ymB a0 a1 a2 a3 a4 a5 a6 a7 a8):=fun _ _=>by kernel_rfl
theorem ytg (e:Es) (he:EG e):OkF (E e) (ymC.pw ygB) ykk:=okU he (yBp e _ _ _ _ _ _ _ _ _) (yzg e he) ynq.flat (yaq (by kernel_rfl))
def ya6 (a0:yav) (a1:ybQ) (a2:yap) (a3:yax) (a4:yal) (a5:yal) (a6:yal) (x0:Int→Int→Int→Prop) (x1:Int→Ls→Ls→Int→Int→Int→Int→Int→Int→Int→Int→Ls→Int→Int→Bool→Prop):Nat→Int→Ls→Ls→Int→Int→Int→Int→Int→Int→Int→Int→Ls→Int→Int→Prop
 | 0,_,_,_,_,_,_,_,_,_,_,_,_,_,_=>False
 | n+1,i0,l1,l2,i3,i4,i5,i6,i7,i8,i9,i10,l11,i12,i13 =>
 (cbr (decide (i13<i12))
 (asr (decide ((0:Int)≤i13))
 (asr (decide (i13<(((List.length l11):Nat):Int)))
 (asr (conf zI (List.getD l11 (i13.toNat) .nils))
 (asr (decide ((0:Int)≤(IntKind.i64.wrap (i13+(1:Int)))))
 (asr (decide ((IntKind.i64.wrap (i13+(1:Int)))<(((List.length l1):Nat):Int)))
 (asr (conf zI (List.getD l1 ((IntKind.i64.wrap (i13+(1:Int))).toNat) .nils))
 (a3 (yaa (List.getD l1 ((IntKind.i64.wrap (i13+(1:Int))).toNat) .nils)) (fun a b =>
 (a2 i3 i4 a b (fun i =>
 (cbr i
 (cbr ((yaa (List.getD l11 (i13.toNat) .nils)) ==(0:Int))
 (a2 i9 i10 i3 i4 (fun j =>
 (cbr j
 (ya6 a0 a1 a2 a3 a4 a5 a6 x0 x1 n i0 l1 l2 i3 i4 i5 i6 i7 i8 i3 i4 l11 i12 (IntKind.i64.wrap (i13+(1:Int))))
 (ya6 a0 a1 a2 a3 a4 a5 a6 x0 x1 n i0 l1 l2 i3 i4 i5 i6 i7 i8 i9 i10 l11 i12 (IntKind.i64.wrap (i13+(1:Int)))))))
 (a2 i9 i10 i3 i4 (fun k =>
 (cbr (!k)
 (a2 i9 i10 i3 i4 (fun l =>
 (cbr l
 (ya6 a0 a1 a2 a3 a4 a5 a6 x0 x1 n i0 l1 l2 i3 i4 i5 i6 i7 i8 i3 i4 l11 i12 (IntKind.i64.wrap (i13+(1:Int))))
 (ya6 a0 a1 a2 a3 a4 a5 a6 x0 x1 n i0 l1 l2 i3 i4 i5 i6 i7 i8 i9 i10 l11 i12 (IntKind.i64.wrap (i13+(1:Int)))))))
 (a4 i3 i4 i9 i10 (fun m o c =>
 (cbr (c !=(0:Int))
 (x0 (0:Int) (0:Int) c)
 (a3 (yaa (List.getD l11 (i13.toNat) .nils)) (fun p q =>
 (a5 m o p q (fun r s d =>
 (cbr (d !=(0:Int))
 (x0 (0:Int) (0:Int) d)
 (a6 i7 i8 r s (fun t u e =>
 (cbr (e !=(0:Int))
 (x0 (0:Int) (0:Int) e)
 (ya6 a0 a1 a2 a3 a4 a5 a6 x0 x1 n i0 l1 l2 i3 i4 i5 i6 t u i3 i4 l11 i12 (IntKind.i64.wrap (i13+(1:Int)))))))))))))))))))
 (cbr ((yaa (List.getD l11 (i13.toNat) .nils)) ==(0:Int))
 (a2 i9 i10 a b (fun v =>
 (cbr v
 (ya6 a0 a1 a2 a3 a4 a5 a6 x0 x1 n i0 l1 l2 i3 i4 i5 i6 i7 i8 a b l11 i12 (IntKind.i64.wrap (i13+(1:Int))))
 (ya6 a0 a1 a2 a3 a4 a5 a6 x0 x1 n i0 l1 l2 i3 i4 i5 i6 i7 i8 i9 i10 l11 i12 (IntKind.i64.wrap (i13+(1:Int)))))))
 (a2 i9 i10 a b (fun w =>
 (cbr (!w)
 (a2 i9 i10 a b (fun x =>
 (cbr x
 (ya6 a0 a1 a2 a3 a4 a5 a6 x0 x1 n i0 l1 l2 i3 i4 i5 i6 i7 i8 a b l11 i12 (IntKind.i64.wrap (i13+(1:Int))))
 (ya6 a0 a1 a2 a3 a4 a5 a6 x0 x1 n i0 l1 l2 i3 i4 i5 i6 i7 i8 i9 i10 l11 i12 (IntKind.i64.wrap (i13+(1:Int)))))))
 (a4 a b i9 i10 (fun y z f =>
 (cbr (f !=(0:Int))
 (x0 (0:Int) (0:Int) f)
 (a3 (yaa (List.getD l11 (i13.toNat) .nils)) (fun A B =>
 (a5 y z A B (fun C D g =>
 (cbr (g !=(0:Int))
 (x0 (0:Int) (0:Int) g)
 (a6 i7 i8 C D (fun E F h =>
 (cbr (h !=(0:Int))
 (x0 (0:Int) (0:Int) h)
 (ya6 a0 a1 a2 a3 a4 a5 a6 x0 x1 n i0 l1 l2 i3 i4 i5 i6 E F a b l11 i12 (IntKind.i64.wrap (i13+(1:Int))))))))))))))))))))))))))))))
 (x1 i0 l1 l2 i3 i4 i5 i6 i7 i8 i9 i10 l11 i12 i13 false))
def ykY (a0:yav) (a1:ybQ) (a2:yap) (a3:yax) (a4:yal) (a5:yal) (a6:yal) (p0:Int) (p1 p2:Ls) (p3 p4 p5 p6:Int) (K:Int→Int→Int→Prop):Prop :=
 (a0 p0 p1 p2 (fun a =>
 (cbr (a !=(0:Int))
 (K (0:Int) (0:Int) a)
 (a1 p0 p1 p2 p3 p4 (fun b =>
 (cbr (!b)
 (K (0:Int) (0:Int) (2:Int))
 (a1 p0 p1 p2 p5 p6 (fun c =>
 (cbr (!c)
 (K (0:Int) (0:Int) (2:Int))
 (a2 p5 p6 p3 p4 (fun d =>
 (cbr d
 (K (0:Int) (0:Int) (2:Int))
 (a3 (0:Int) (fun e f =>
 (∃ n:Nat,ya6 a0 a1 a2 a3 a4 a5 a6
 (fun g h i=>(K g h i))
 (fun _ _ _ _ _ _ _ j k _ _ _ _ _ _=>(K j k (0:Int)))
 n p0 p1 p2 p5 p6 (0:Int) (0:Int) e f p3 p4 p2 (((List.length p2):Nat):Int) (0:Int))))))))))))))))
def yfx:yby:=ykY yaZ ybR ybX ybP yaD ybh ybx
def yuJ (Q:Qx):Int→Int→Int→Prop:=(fun i0 i1 i2=>Q .ret [(6,.box (.agg [(.int .i64 i0),(.int .i64 i1)])),(7,.v (.int .i64 i2))] [])
def yuK (Q:Qx):Int→Ls→Ls→Int→Int→Int→Int→Int→Int→Int→Int→Ls→Int→Int→Bool→Prop:=(fun i0 l1 l2 i3 i4 i5 i6 i7 i8 i9 i10 l11 i12 i13 b14=>Q (.exit 0) [(3,.box (.agg [(.int .i64 i0),(.data l1),(.data l2)])),(5,.box (.agg [(.int .i64 i3),(.int .i64 i4)])),(6,.box (.agg [(.int .i64 i5),(.int .i64 i6)])),(9,.box (.agg [(.int .i64 i7),(.int .i64 i8)])),(10,.box (.agg [(.int .i64 i9),(.int .i64 i10)])),(42,.v (.data l11)),(43,.v (.int .i64 i12)),(44,.v (.int .i64 i13)),(45,.v (.bool b14))] [])
def ynB (a0:yav) (a1:ybQ) (a2:yap) (a3:yax) (a4:yal) (a5:yal) (a6:yal) (Q:Qx):List St:=[⟨(pS hN (fX 3 pt13 (fX 5 pt7 (fX 6 pt7 (fX 9 pt7 (fX 10 pt7 (fV 42 vD (fV 43 pt0 (fV 44 pt0 fN)))))))) fN),ya6 a0 a1 a2 a3 a4 a5 a6 (yuJ Q) (yuK Q)⟩]
def yqQ (a0:yav) (a1:ybQ) (a2:yap) (a3:yax) (a4:yal) (a5:yal) (a6:yal):LP:=lpS [(85339800,ynB a0 a1 a2 a3 a4 a5 a6)]
def ykZ (e:Es) (a0:yav) (a1:ybQ) (a2:yap) (a3:yax) (a4:yal) (a5:yal) (a6:yal):SE:=sE (E e) [(ydv,ykT.pw a0),(yfs,yzc.pw a1),(ye0,ytd.pw a2),(yed,yh6.pw a3),(yd5,yej.pw a4),(yd4,yej.pw a5),(ye1,yej.pw a6)] (yqQ a0 a1 a2 a3 a4 a5 a6)
theorem yoE (e:Es) (he:EG e):SEOk (Uni (E e)) (ykZ e yaZ ybR ybX ybP yaD ybh ybx):=yaz (Sub.uni _) ⟨(yey e he),(ykX e he),(yiT e he),(yh7 e he),(yfw e he),(yfv e he),(yg4 e he),trivial⟩ trivial he.ok
theorem yth (e:Es) (a0 a1 a2 a3 a4 a5 a6):yct (ykZ e a0 a1 a2 a3 a4 a5 a6) 5 a yrz false (ynB a0 a1 a2 a3 a4 a5 a6):=fun _=>⟨fun _=>by kernel_rfl,fun _ _=>by kernel_rfl,trivial⟩
theorem yti (e:Es) (he:EG e):LpT (Uni (E e)) (yqQ yaZ ybR ybX ybP yaD ybh ybx) [] 85339800 (.loop 85339800 yrz):=fun _ _ _=>yof.st (Sub.uni _) (ya3 (yoE e he) 5) (YOk.no _ _) (yaq (by kernel_rfl)) (yth e _ _ _ _ _ _ _ _)
theorem yzh (e:Es) (a0 a1 a2 a3 a4 a5 a6):EqW (ykZ e a0 a1 a2 a3 a4 a5 a6) 6 ys2 ymC (ykY a0 a1 a2 a3 a4 a5 a6):=fun _ _=>by kernel_rfl
theorem yqR (e:Es) (he:EG e):OkF (E e) (ymC.pw yfx) yiP:=okU he (yzh e _ _ _ _ _ _ _) (yoE e he) ynq.flat (ybq (l:=[(85339800,.loop 85339800 yrz)]) ⟨yti e he,trivial⟩ (by kernel_rfl))
set_option linter.unusedVariables false
theorem yx4 (p0:Int) (p1:Ls) (p2:Ls) (r0:Int) (h:∀ K:Int→Prop,K r0→yaZ p0 p1 p2 K) (K:Int→Prop):yaZ p0 p1 p2 K=K r0 :=
 propext ⟨fun k=>detC (yey [] ybm) (az:=[(.agg [(.int .i64 p0),(.data p1),(.data p2)])]) (x:=(.int .i64 r0)) (fun K' k'=>h (fun r0=>K' (.int .i64 r0)) k') (K:=fun x=>match x with | (.int .i64 r0)=>K r0 | _=>False) k,h K⟩
theorem yx5 (p0:Int) (p1:Ls) (p2:Ls) (r0:Int) (r1:Int) (h:∀ K:Int→Int→Prop,K r0 r1→yek p0 p1 p2 K) (K:Int→Int→Prop):yek p0 p1 p2 K=K r0 r1 :=
 propext ⟨fun k=>detC (yqO [] ybm) (az:=[(.agg [(.int .i64 p0),(.data p1),(.data p2)])]) (x:=(.tup [(.int .i64 r0),(.int .i64 r1)])) (fun K' k'=>h (fun r0 r1=>K' (.tup [(.int .i64 r0),(.int .i64 r1)])) k') (K:=fun x=>match x with | (.tup [(.int .i64 r0),(.int .i64 r1)])=>K r0 r1 | _=>False) k,h K⟩
theorem yzi (p0:Int) (p1:Ls) (p2:Ls) (p3:Int) (p4:Int) (p5:Int) (p6:Int) (r0:Int) (r1:Int) (r2:Int) (h:∀ K:Int→Int→Int→Prop,K r0 r1 r2→ygB p0 p1 p2 p3 p4 p5 p6 K) (K:Int→Int→Int→Prop):ygB p0 p1 p2 p3 p4 p5 p6 K=K r0 r1 r2 :=
 propext ⟨fun k=>detC (ytg [] ybm) (az:=[(.agg [(.int .i64 p0),(.data p1),(.data p2)]),(.agg [(.int .i64 p3),(.int .i64 p4)]),(.agg [(.int .i64 p5),(.int .i64 p6)])]) (x:=(.tup [(.agg [(.int .i64 r0),(.int .i64 r1)]),(.int .i64 r2)])) (fun K' k'=>h (fun r0 r1 r2=>K' (.tup [(.agg [(.int .i64 r0),(.int .i64 r1)]),(.int .i64 r2)])) k') (K:=fun x=>match x with | (.tup [(.agg [(.int .i64 r0),(.int .i64 r1)]),(.int .i64 r2)])=>K r0 r1 r2 | _=>False) k,h K⟩
theorem yx6 (p0:Int) (p1:Ls) (p2:Ls) (p3:Int) (p4:Int) (p5:Int) (p6:Int) (r0:Int) (r1:Int) (r2:Int) (h:∀ K:Int→Int→Int→Prop,K r0 r1 r2→yfx p0 p1 p2 p3 p4 p5 p6 K) (K:Int→Int→Int→Prop):yfx p0 p1 p2 p3 p4 p5 p6 K=K r0 r1 r2 :=
 propext ⟨fun k=>detC (yqR [] ybm) (az:=[(.agg [(.int .i64 p0),(.data p1),(.data p2)]),(.agg [(.int .i64 p3),(.int .i64 p4)]),(.agg [(.int .i64 p5),(.int .i64 p6)])]) (x:=(.tup [(.agg [(.int .i64 r0),(.int .i64 r1)]),(.int .i64 r2)])) (fun K' k'=>h (fun r0 r1 r2=>K' (.tup [(.agg [(.int .i64 r0),(.int .i64 r1)]),(.int .i64 r2)])) k') (K:=fun x=>match x with | (.tup [(.agg [(.int .i64 r0),(.int .i64 r1)]),(.int .i64 r2)])=>K r0 r1 r2 | _=>False) k,h K⟩
def yjE (a0:yaV) (p0 p1 p2 p3:Int) (K:Bool→Prop):Prop :=
 (a0 p0 p1 p2 p3 (fun a b =>
 (cbr (b ==(0:Int))
 (K (decide (a<(0:Int))))
 (K false))))
def ycb:yap:=yjE ybW
def pt20:LPt:=lC (vA (lC pt0 (lC pt0 pt6))) lN
def yoF:Sg:=⟨pt20,Bool→Prop,fun K=>(fun r0=>K (.bool r0))⟩
def yx7 (e:Es) (a0:yaV):SE:=sE (E e) [(yeZ,yBe.pw a0)] lp0
theorem yx8 (e:Es) (a0):EqW (yx7 e a0) 6 yyW yoF (yjE a0):=fun _ _=>by kernel_rfl
theorem yoG (e:Es) (he:EG e):OkF (E e) (yoF.pw ycb) yh2:=okU he (yx8 e _) (yaz (Sub.uni _) ⟨(yg3 e he),trivial⟩ trivial he.ok) ynq.flat (yaq (by kernel_rfl))
def ydn (a0:yap) (x0:Int→Prop) (x1:Ls→Int→Int→Bool→Prop):Nat→Ls→Int→Int→Prop
 | 0,_,_,_=>False
 | n+1,l0,i1,i2 =>
 (cbr (decide (i2<i1))
 (asr (decide ((0:Int)≤i2))
 (asr (decide (i2<(((List.length l0):Nat):Int)))
 (asr (conf z4 (List.getD l0 (i2.toNat) .nils))
 (a0 (yaa (yab (List.getD l0 (i2.toNat) .nils) 0)) (yaa (yab (List.getD l0 (i2.toNat) .nils) 1)) (yaa (yab (List.getD l0 (i2.toNat) .nils) 2)) (yaa (yab (List.getD l0 (i2.toNat) .nils) 3)) (fun a =>
 (cbr (!a)
 (x0 (8:Int))
 (ydn a0 x0 x1 n l0 i1 (IntKind.i64.wrap (i2+(1:Int))))))))))
 (x1 l0 i1 i2 false))
def ymE (a0:yap) (p0:Ls) (K:Int→Prop):Prop :=
 (cbr (decide ((((List.length p0):Nat):Int)>(60:Int)))
 (K (4:Int))
 (∃ n:Nat,ydn a0
 (fun a=>(K a))
 (fun b c d e=>(K (0:Int)))
 n p0 (((List.length p0):Nat):Int) (0:Int)))
def ygC:yaF:=ymE ycb
def yv9 (Q:Qx):Int→Prop:=(fun i0=>Q .ret [(2,.v (.int .i64 i0))] [])
def ywa (Q:Qx):Ls→Int→Int→Bool→Prop:=(fun l0 i1 i2 b3=>Q (.exit 0) [(8,.v (.data l0)),(9,.v (.int .i64 i1)),(10,.v (.int .i64 i2)),(11,.v (.bool b3))] [])
def yoH (a0:yap) (Q:Qx):List St:=[⟨(pS hN (fV 8 vD (fV 9 pt0 (fV 10 pt0 fN))) fN),ydn a0 (yv9 Q) (ywa Q)⟩]
def ytj (a0:yap):LP:=lpS [(56157900,yoH a0)]
def ymF (e:Es) (a0:yap):SE:=sE (E e) [(yh2,yoF.pw a0)] (ytj a0)
theorem yqS (e:Es) (he:EG e):SEOk (Uni (E e)) (ymF e ycb):=yaz (Sub.uni _) ⟨(yoG e he),trivial⟩ trivial he.ok
theorem yuL (e:Es) (a0):yct (ymF e a0) 5 a yrE false (yoH a0):=fun _=>⟨fun _=>by kernel_rfl,fun _ _=>by kernel_rfl,trivial⟩
theorem yuM (e:Es) (he:EG e):LpT (Uni (E e)) (ytj ycb) [] 56157900 (.loop 56157900 yrE):=fun _ _ _=>yof.st (Sub.uni _) (ya3 (yqS e he) 5) (YOk.no _ _) (yaq (by kernel_rfl)) (yuL e _ _)
theorem yBq (e:Es) (a0):EqW (ymF e a0) 6 yvE ycV (ymE a0):=fun _ _=>by kernel_rfl
theorem ytk (e:Es) (he:EG e):OkF (E e) (ycV.pw ygC) ykm:=okU he (yBq e _) (yqS e he) ynq.flat (ybq (l:=[(56157900,.loop 56157900 yrE)]) ⟨yuM e he,trivial⟩ (by kernel_rfl))
def yjF (a0:yaV) (p0 p1 p2 p3:Int) (K:Int→Prop):Prop :=
 (a0 p0 p1 p2 p3 (fun a b =>
 (K a)))
def ycu:yaI:=yjF ybW
def yx9 (e:Es) (a0:yaV):SE:=sE (E e) [(yeZ,yBe.pw a0)] lp0
theorem yya (e:Es) (a0):EqW (yx9 e a0) 6 yyX yjB (yjF a0):=fun _ _=>by kernel_rfl
theorem yoI (e:Es) (he:EG e):OkF (E e) (yjB.pw ycu) yf0:=okU he (yya e _) (yaz (Sub.uni _) ⟨(yg3 e he),trivial⟩ trivial he.ok) ynq.flat (yaq (by kernel_rfl))
abbrev yuN:Type:=Int→Int→Int→Int→Int→Int→Int→Int→(Int→Prop)→Prop
def yg5 (a0:yaI) (p0 p1 p2 p3 p4 p5 p6 p7:Int) (K:Int→Prop):Prop :=
 (a0 p0 p1 p4 p5 (fun a =>
 (K a)))
def yhR:yuN:=yg5 ycu
def ytl:Sg:=⟨(lC (vA (lC pt0 (lC pt0 pt6))) pt20),Int→Prop,fun K=>(fun r0=>K (.int .i64 r0))⟩
def ytm (e:Es) (a0:yaI):SE:=sE (E e) [(yf0,yjB.pw a0)] lp0
theorem ytn (e:Es) (a0):EqW (ytm e a0) 6 yut ytl (yg5 a0):=fun _ _=>by kernel_rfl
theorem yto (e:Es) (he:EG e):OkF (E e) (ytl.pw yhR) yc7:=okU he (ytn e _) (yaz (Sub.uni _) ⟨(yoI e he),trivial⟩ trivial he.ok) ynq.flat (yaq (by kernel_rfl))
abbrev yaC:Type:=Ls→(Ls→Prop)→Prop
mutual
def yjG (a0:yaI) (x0:Int→Int→Bool→Prop) (x1:Ls→Int→Int→Bool→Prop) (x2:Ls→Ls→Int→Int→Bool→Prop):Nat→Int→Int→Prop
 | 0,_,_=>False
 | n+1,i0,i1 =>
 (cbr (decide (i1<i0))
 False
 (x0 i0 i1 false))
def ygg (a0:yaI) (x0:Int→Int→Bool→Prop) (x1:Ls→Int→Int→Bool→Prop) (x2:Ls→Ls→Int→Int→Bool→Prop):Nat→Ls→Int→Int→Prop
 | 0,_,_,_=>False
 | n+1,l0,i3,i4 =>
 (cbr (decide (i4<i3))
 (asr (decide ((0:Int)≤i4))
 (asr (decide (i4<(((List.length l0):Nat):Int)))
 (asr (decide ((List.length l0)=(List.length l0)))
 (asr (decide ((0+(i4.toNat))<(List.length l0)))
 (lt (List.getD l0 (0+(i4.toNat)) .nils) (fun a =>
 (asr (conf z4 a)
 (lt (IntKind.i64.wrap (i4+(1:Int))) (fun b =>
 (asr (decide (1=List.length ([(.agg [(.int .i64 (yaa (yab a 0))),(.int .i64 (yaa (yab a 1))),(.int .i64 (yaa (yab a 2))),(.int .i64 (yaa (yab a 3)))])]:Ls))&&decide (1=List.length ([(.agg [(.int .i64 (yaa (yab a 0))),(.int .i64 (yaa (yab a 1))),(.int .i64 (yaa (yab a 2))),(.int .i64 (yaa (yab a 3)))])]:Ls))&&decide ((List.length l0)=List.length l0)&&decide ((List.length l0)=List.length l0))
 (ybT a0 x0 x1 x2 n l0 ([(.agg [(.int .i64 (yaa (yab a 0))),(.int .i64 (yaa (yab a 1))),(.int .i64 (yaa (yab a 2))),(.int .i64 (yaa (yab a 3)))])]:Ls) i3 b)))))))))))
 (x1 l0 i3 i4 false))
def ybT (a0:yaI) (x0:Int→Int→Bool→Prop) (x1:Ls→Int→Int→Bool→Prop) (x2:Ls→Ls→Int→Int→Bool→Prop):Nat→Ls→Ls→Int→Int→Prop
 | 0,_,_,_,_=>False
 | n+1,l0,l1,i6,i7 =>
 (cbr (decide (i7<i6))
 (jn (fun (i:Ls→Prop) =>
 (asr (decide ((0:Int)≤i7))
 (asr (decide (i7<(((List.length l0):Nat):Int)))
 (asr (decide ((List.length l0)=(List.length l0)))
 (asr (decide ((0+(i7.toNat))<(List.length l0)))
 (lt (List.getD l0 (0+(i7.toNat)) .nils) (fun a =>
 (asr (conf z4 a)
 (jn (fun (j:Bool→Prop) =>
 (cbr (decide ((((List.length l1):Nat):Int)>(0:Int)))
 (lt (IntKind.i64.wrap ((((List.length l1):Nat):Int)-(1:Int))) (fun e =>
 (asr (decide ((0:Int)≤e))
 (asr (decide (e<(((List.length l1):Nat):Int)))
 (asr (decide ((List.length l1)=(List.length l1)))
 (asr (decide ((0+(e.toNat))<(List.length l1)))
 (lt (List.getD l1 (0+(e.toNat)) .nils) (fun g =>
 (asr (conf z4 g)
 (a0 (yaa (yab a 0)) (yaa (yab a 1)) (yaa (yab g 2)) (yaa (yab g 3)) (fun k =>
 (j (decide (k≤(0:Int)))))))))))))))
 (j false)))
 (fun l=>(cbr l
 (lt (IntKind.i64.wrap ((((List.length l1):Nat):Int)-(1:Int))) (fun f =>
 (asr (decide ((0:Int)≤f))
 (asr (decide (f<(((List.length l1):Nat):Int)))
 (asr (decide ((List.length l1)=(List.length l1)))
 (asr (decide ((0+(f.toNat))<(List.length l1)))
 (lt (List.getD l1 (0+(f.toNat)) .nils) (fun h =>
 (asr (conf z4 h)
 (a0 (yaa (yab a 2)) (yaa (yab a 3)) (yaa (yab h 2)) (yaa (yab h 3)) (fun m =>
 (cbr (decide (m>(0:Int)))
 (lt (IntKind.i64.wrap ((((List.length l1):Nat):Int)-(1:Int))) (fun b =>
 (asr (decide ((0:Int)≤b))
 (asr (decide (b<(((List.length l1):Nat):Int)))
 (asr (decide ((List.length l1)=(List.length l1)))
 (asr (decide ((0+(b.toNat))<(List.length l1)))
 (lt (List.getD l1 (0+(b.toNat)) .nils) (fun c =>
 (asr (conf z4 c)
 (lt (IntKind.i64.wrap (i7+(1:Int))) (fun o =>
 (asr (decide ((List.length l1)=List.length (List.set l1 (0+(b.toNat)) (.agg [(.int .i64 (yaa (yab c 0))),(.int .i64 (yaa (yab c 1))),(.int .i64 (yaa (yab a 2))),(.int .i64 (yaa (yab a 3)))])))&&decide ((List.length l1)=List.length (List.set l1 (0+(b.toNat)) (.agg [(.int .i64 (yaa (yab c 0))),(.int .i64 (yaa (yab c 1))),(.int .i64 (yaa (yab a 2))),(.int .i64 (yaa (yab a 3)))])))&&decide ((List.length l0)=List.length l0)&&decide ((List.length l0)=List.length l0))
 (ybT a0 x0 x1 x2 n l0 (List.set l1 (0+(b.toNat)) (.agg [(.int .i64 (yaa (yab c 0))),(.int .i64 (yaa (yab c 1))),(.int .i64 (yaa (yab a 2))),(.int .i64 (yaa (yab a 3)))])) i6 o)))))))))))))
 (i l1)))))))))))))
 (asr (decide ((List.length l1)=(List.length l1)))
 (asr (decide ((0+(List.length l1))≤(List.length l1)))
 (asr (!(decide (((0+(List.length l1))+1)≤(List.length l1))))
 (asr (decide ((List.length l1)=(List.length l1)))
 (asr (decide ((((List.length l1)+1)+64)*(32+1)≤room))
 (i (l1++([(.agg [(.int .i64 (yaa (yab a 0))),(.int .i64 (yaa (yab a 1))),(.int .i64 (yaa (yab a 2))),(.int .i64 (yaa (yab a 3)))])]:Ls)))))))))))))))))))
 (fun d=>(lt (IntKind.i64.wrap (i7+(1:Int))) (fun p =>
 (asr (decide ((List.length d)=List.length d)&&decide ((List.length d)=List.length d)&&decide ((List.length l0)=List.length l0)&&decide ((List.length l0)=List.length l0))
 (ybT a0 x0 x1 x2 n l0 d i6 p))))))
 (x2 l0 l1 i6 i7 false))
end
def yis (a0:yaI) (p0:Ls) (K:Ls→Prop):Prop :=
 (asr (yea 4 32 p0)
 (cbr (List.isEmpty p0)
 (∃ n:Nat,yjG a0
 (fun c d e=>(K ([]:Ls)))
 (fun f g h i=>(K ([]:Ls)))
 (fun j a k l m=>(asr (decide ((List.length a)=(List.length a)))
 (asr (decide ((0+(List.length a))≤(List.length a)))
 (K (List.take (List.length a) a)))))
 n (0:Int) (0:Int))
 (asr (Srt.cond yrQ.s p0 0 (List.length p0) (List.length p0) 4 false)
 (asr (decide ((List.length p0)=List.length (List.take 0 p0++(Srt.sorted yrQ.s yrQ.srt (List.take (List.length p0) (List.drop 0 p0))++List.drop (0+(List.length p0)) p0)))&&decide ((List.length p0)=List.length (List.take 0 p0++(Srt.sorted yrQ.s yrQ.srt (List.take (List.length p0) (List.drop 0 p0))++List.drop (0+(List.length p0)) p0))))
 (∃ n:Nat,ygg a0
 (fun o p q=>(K ([]:Ls)))
 (fun r t u v=>(K ([]:Ls)))
 (fun w b x y z=>(asr (decide ((List.length b)=(List.length b)))
 (asr (decide ((0+(List.length b))≤(List.length b)))
 (K (List.take (List.length b) b)))))
 n (List.take 0 p0++(Srt.sorted yrQ.s yrQ.srt (List.take (List.length p0) (List.drop 0 p0))++List.drop (0+(List.length p0)) p0)) (((List.length p0):Nat):Int) (0:Int))))))
def ydU:yaC:=yis ycu
def yit:Sg:=⟨pt9,Ls→Prop,fun K=>(fun r0=>K (.data r0))⟩
def ygh (Q:Qx):Int→Int→Bool→Prop:=(fun i0 i1 b2=>Q (.exit 0) [(3,.v .nils),(11,.v .emp),(12,.v (.int .i64 i0)),(13,.v (.int .i64 i1)),(14,.v (.bool b2))] [])
def ygi (Q:Qx):Ls→Int→Int→Bool→Prop:=(fun l0 i3 i4 b5=>Q (.exit 0) [(3,.v .nils),(11,.v (.own 0 0 (List.length l0) (List.length l0) none)),(12,.v (.int .i64 i3)),(13,.v (.int .i64 i4)),(14,.v (.bool b5))] [⟨false,true,4,l0⟩])
def ygj (Q:Qx):Ls→Ls→Int→Int→Bool→Prop:=(fun l0 l1 i6 i7 b8=>Q (.exit 0) [(3,.v (.own 1 0 (List.length l1) (List.length l1) none)),(11,.v (.own 0 0 (List.length l0) (List.length l0) none)),(12,.v (.int .i64 i6)),(13,.v (.int .i64 i7)),(14,.v (.bool b8))] [⟨false,true,4,l0⟩,⟨false,true,4,l1⟩])
def pt21:HPt:=hB false true 4 rA hN
def pt22:VPt:=vW 0 (nK 0) (nT 0) (nT 0)
def pt23:Pat Frm:=fV 11 pt22 (fV 12 pt0 (fV 13 pt0 fN))
def pt24:VPt:=vW 1 (nK 0) (nT 1) (nT 1)
def ykz (a0:yaI) (Q:Qx):List St:=[⟨(pS hN (fV 3 vNs (fV 11 vE (fV 12 pt0 (fV 13 pt0 fN)))) fN),yjG a0 (ygh Q) (ygi Q) (ygj Q)⟩,⟨(pS pt21 (fV 3 vNs pt23) fN),ygg a0 (ygh Q) (ygi Q) (ygj Q)⟩,⟨(pS (hB false true 4 rA pt21) (fV 3 pt24 pt23) fN),ybT a0 (ygh Q) (ygi Q) (ygj Q)⟩]
def ynC (a0:yaI):LP:=lpS [(63960300,ykz a0)]
def yiu (a0:yaI):SE:=sE (E ef0) [(yf0,yjB.pw a0)] (ynC a0)
theorem ylD:SEOk (Uni (E ef0)) (yiu ycu):=yaz (Sub.uni _) ⟨(yoI ef0 ydT),trivial⟩ trivial ydT.ok
theorem yqe (a0):yct (yiu a0) 5 a yrF false (ykz a0):=fun _=>⟨fun _=>by kernel_rfl,fun _ _=>by kernel_rfl,fun _=>by kernel_rfl,fun _ _=>by kernel_rfl,fun _=>by kernel_rfl,fun _ _=>by kernel_rfl,trivial⟩
theorem yqf:LpT (Uni (E ef0)) (ynC ycu) [] 63960300 (.loop 63960300 yrF):=fun _ _ _=>yof.st (Sub.uni _) (ya3 (ylD) 5) (YOk.no _ _) (yaq (by kernel_rfl)) (yqe _ _)
theorem ywb (a0):EqW (yiu a0) 6 yop yit (yis a0):=fun _ _=>by kernel_rfl
theorem ynD:OkF (E ef0) (yit.pw ydU) ygY:=okU ydT (ywb _) (ylD) ynq.flat (ybq (l:=[(63960300,.loop 63960300 yrF)]) ⟨yqf,trivial⟩ (by kernel_rfl))
abbrev ybn:Type:=Ls→(Ls→Int→Prop)→Prop
def yk1 (a0:yaF) (a1:yaC) (p0:Ls) (K:Ls→Int→Prop):Prop :=
 (a0 p0 (fun a =>
 (cbr (a !=(0:Int))
 (K ([]:Ls) a)
 (a1 p0 (fun b =>
 (K b (0:Int)))))))
def yaj:ybn:=yk1 ygC ydU
def yzj:Sg:=⟨pt9,Ls→Int→Prop,fun K=>(fun r0 r1=>K (.tup [(.data r0),(.int .i64 r1)]))⟩
def yzk (a0:yaF) (a1:yaC):SE:=sE (E ef0) [(ykm,ycV.pw a0),(ygY,yit.pw a1)] lp0
theorem yzl (a0 a1):EqW (yzk a0 a1) 6 yA8 yzj (yk1 a0 a1):=fun _ _=>by kernel_rfl
theorem yqT:OkF (E ef0) (yzj.pw yaj) ygZ:=okU ydT (yzl _ _) (yaz (Sub.uni _) ⟨(ytk ef0 ydT),ynD,trivial⟩ trivial ydT.ok) ynq.flat (yaq (by kernel_rfl))
set_option linter.unusedVariables false
theorem ywc (p0:Int) (p1:Int) (p2:Int) (p3:Int) (r0:Bool) (h:∀ K:Bool→Prop,K r0→ycb p0 p1 p2 p3 K) (K:Bool→Prop):ycb p0 p1 p2 p3 K=K r0 :=
 propext ⟨fun k=>detC (yoG [] ybm) (az:=[(.agg [(.int .i64 p0),(.int .i64 p1),(.int .i64 p2),(.int .i64 p3)])]) (x:=(.bool r0)) (fun K' k'=>h (fun r0=>K' (.bool r0)) k') (K:=fun x=>match x with | (.bool r0)=>K r0 | _=>False) k,h K⟩
theorem yzm (p0:Ls) (r0:Int) (h:∀ K:Int→Prop,K r0→ygC p0 K) (K:Int→Prop):ygC p0 K=K r0 :=
 propext ⟨fun k=>detC (ytk [] ybm) (az:=[(.data p0)]) (x:=(.int .i64 r0)) (fun K' k'=>h (fun r0=>K' (.int .i64 r0)) k') (K:=fun x=>match x with | (.int .i64 r0)=>K r0 | _=>False) k,h K⟩
theorem yuO (p0:Ls) (r0:Ls) (h:∀ K:Ls→Prop,K r0→ydU p0 K) (K:Ls→Prop):ydU p0 K=K r0 :=
 propext ⟨fun k=>detC ynD (az:=[(.data p0)]) (x:=(.data r0)) (fun K' k'=>h (fun r0=>K' (.data r0)) k') (K:=fun x=>match x with | (.data r0)=>K r0 | _=>False) k,h K⟩
abbrev yat:Type:=Ls→Ls→(Int→Prop)→Prop
def ydo (a0:yav) (a:Int→Prop) (b:Ls→Ls→Ls→Int→Int→Bool→Prop):Nat→Ls→Ls→Ls→Int→Int→Prop
 | 0,_,_,_,_,_=>False
 | d+1,l0,l1,l2,i3,i4 =>
 (cbr (decide (i4<i3))
 (asr (decide ((0:Int)≤i4))
 (asr (decide (i4<(((List.length l2):Nat):Int)))
 (asr (conf zK (List.getD l2 (i4.toNat) .nils))
 (a0 (yaa (yab (List.getD l2 (i4.toNat) .nils) 0)) (yaM (yab (List.getD l2 (i4.toNat) .nils) 1)) (yaM (yab (List.getD l2 (i4.toNat) .nils) 2)) (fun c =>
 (cbr (c !=(0:Int))
 (a c)
 (ydo a0 a b d l0 l1 l2 i3 (IntKind.i64.wrap (i4+(1:Int))))))))))
 (b l0 l1 l2 i3 i4 false))
def ycP (a0:yav) (a:Int→Prop) (b:Ls→Ls→Ls→Int→Int→Bool→Prop):Nat→Ls→Ls→Ls→Int→Int→Prop
 | 0,_,_,_,_,_=>False
 | c+1,l0,l1,l2,i3,i4 =>
 (cbr (decide (i4<i3))
 (asr (decide ((0:Int)≤i4))
 (asr (decide (i4<(((List.length l2):Nat):Int)))
 (asr (conf zK (List.getD l2 (i4.toNat) .nils))
 (asr (decide ((0:Int)<(((List.length l0):Nat):Int)))
 (asr (conf zK (List.getD l0 0 .nils))
 (cbr ((yaa (yab (List.getD l2 (i4.toNat) .nils) 0)) !=(yaa (yab (List.getD l0 0 .nils) 0)))
 (a (8:Int))
 (ycP a0 a b c l0 l1 l2 i3 (IntKind.i64.wrap (i4+(1:Int))))))))))
 (b l0 l1 l2 i3 i4 false))
def ymG (a0:yav) (p0 p1:Ls) (K:Int→Prop):Prop :=
 (cbr (decide ((((List.length p0):Nat):Int)>(6:Int)))
 (K (4:Int))
 (cbr (decide ((((List.length p1):Nat):Int)>(2000:Int)))
 (K (4:Int))
 (cbr ((((List.length p0):Nat):Int) ==(0:Int))
 (K (8:Int))
 (∃ b:Nat,ydo a0
 (fun c=>(K c))
 (fun a d g h i j=>(∃ e:Nat,ycP a0
 (fun f=>(K f))
 (fun k l m n o p=>(K (0:Int)))
 e a d a (((List.length a):Nat):Int) (0:Int)))
 b p0 p1 p0 (((List.length p0):Nat):Int) (0:Int)))))
def yc4:yat:=ymG yaZ
def pt25:VPt:=vA (lC vD pt9)
def pt26:LPt:=lC pt25 lN
def ymH:Sg:=⟨pt26,Int→Prop,fun K=>(fun r0=>K (.int .i64 r0))⟩
def ywd (Q:Qx):Int→Prop:=(fun i0=>Q .ret [(2,.v (.int .i64 i0))] [])
def ywe (Q:Qx):Ls→Ls→Ls→Int→Int→Bool→Prop:=(fun l0 l1 l2 i3 i4 b5=>Q (.exit 0) [(1,.box (.agg [(.data l0),(.data l1)])),(23,.v (.data l2)),(24,.v (.int .i64 i3)),(25,.v (.int .i64 i4)),(26,.v (.bool b5))] [])
def ywf (Q:Qx):Int→Prop:=(fun i0=>Q .ret [(2,.v (.int .i64 i0))] [])
def ywg (Q:Qx):Ls→Ls→Ls→Int→Int→Bool→Prop:=(fun l0 l1 l2 i3 i4 b5=>Q (.exit 2) [(1,.box (.agg [(.data l0),(.data l1)])),(36,.v (.data l2)),(37,.v (.int .i64 i3)),(38,.v (.int .i64 i4)),(39,.v (.bool b5))] [])
def yoJ (a0:yav) (Q:Qx):List St:=[⟨(pS hN (fX 1 pt25 (fV 23 vD (fV 24 pt0 (fV 25 pt0 fN)))) fN),ydo a0 (ywd Q) (ywe Q)⟩]
def yoK (a0:yav) (Q:Qx):List St:=[⟨(pS hN (fX 1 pt25 (fV 36 vD (fV 37 pt0 (fV 38 pt0 fN)))) fN),ycP a0 (ywf Q) (ywg Q)⟩]
def ymI (a0:yav):LP:=lpS [(12157600,yoJ a0),(12157601,yoK a0)]
def yiU (e:Es) (a0:yav):SE:=sE (E e) [(ydv,ykT.pw a0)] (ymI a0)
theorem yk2 (e:Es) (he:EG e):SEOk (Uni (E e)) (yiU e yaZ):=yaz (Sub.uni _) ⟨(yey e he),trivial⟩ trivial he.ok
theorem yuP (e:Es) (a0):yct (yiU e a0) 5 a yrn false (yoJ a0):=fun _=>⟨fun _=>by kernel_rfl,fun _ _=>by kernel_rfl,trivial⟩
theorem yuQ (e:Es) (he:EG e):LpT (Uni (E e)) (ymI yaZ) [] 12157600 (.loop 12157600 yrn):=fun _ _ _=>yof.st (Sub.uni _) (ya3 (yk2 e he) 5) (YOk.no _ _) (yaq (by kernel_rfl)) (yuP e _ _)
theorem yuR (e:Es) (a0):yct (yiU e a0) 5 a yro false (yoK a0):=fun _=>⟨fun _=>by kernel_rfl,fun _ _=>by kernel_rfl,trivial⟩
theorem yuS (e:Es) (he:EG e):LpT (Uni (E e)) (ymI yaZ) [] 12157601 (.loop 12157601 yro):=fun _ _ _=>yof.st (Sub.uni _) (ya3 (yk2 e he) 5) (YOk.no _ _) (yaq (by kernel_rfl)) (yuR e _ _)
theorem yBr (e:Es) (a0):EqW (yiU e a0) 6 yol ymH (ymG a0):=fun _ _=>by kernel_rfl
theorem yg6 (e:Es) (he:EG e):OkF (E e) (ymH.pw yc4) yeX:=okU he (yBr e _) (yk2 e he) ynq.flat (ybq (l:=[(12157600,.loop 12157600 yrn),(12157601,.loop 12157601 yro)]) ⟨yuQ e he,yuS e he,trivial⟩ (by kernel_rfl))
abbrev ycq:Type:=Ls→Ls→Int→(Bool→Prop)→Prop
def yg7 (p0 p1:Ls) (p2:Int) (K:Bool→Prop):Prop :=
 (cbr (decide (p2≥(0:Int)))
 (K (decide (p2<(((List.length p0):Nat):Int))))
 (K false))
def ydb:ycq:=yg7
def ytp:Sg:=⟨(lC pt25 pt1),Bool→Prop,fun K=>(fun r0=>K (.bool r0))⟩
def ytq (e:Es):SE:=sE (E e) [] lp0
theorem ytr (e:Es):EqW (ytq e) 6 yuq ytp yg7:=fun _ _=>by kernel_rfl
theorem yg8 (e:Es) (he:EG e):OkF (E e) (ytp.pw ydb) yc6:=okU he (ytr e) (yaz (Sub.uni _) trivial trivial he.ok) ynq.flat (yaq (by kernel_rfl))
abbrev yoL:Type:=Ls→Ls→Int→(Int→Int→Prop)→Prop
def ymJ (a0:yat) (a1:ycq) (a2:ymz) (p0 p1:Ls) (p2:Int) (K:Int→Int→Prop):Prop :=
 (a0 p0 p1 (fun b =>
 (cbr (b !=(0:Int))
 (K (0:Int) b)
 (a1 p0 p1 p2 (fun c =>
 (cbr (!c)
 (K (0:Int) (2:Int))
 (asr (decide ((0:Int)≤p2))
 (asr (decide (p2<(((List.length p0):Nat):Int)))
 (lt (List.getD p0 (p2.toNat) .nils) (fun a =>
 (asr (conf zK a)
 (a2 (yaa (yab a 0)) (yaM (yab a 1)) (yaM (yab a 2)) (fun d e =>
 (K d e))))))))))))))
def ykA:yoL:=ymJ yc4 ydb yek
def yBs:Sg:=⟨(lC pt25 pt1),Int→Int→Prop,fun K=>(fun r0 r1=>K (.tup [(.int .i64 r0),(.int .i64 r1)]))⟩
def yBt (e:Es) (a0:yat) (a1:ycq) (a2:ymz):SE:=sE (E e) [(yeX,ymH.pw a0),(yc6,ytp.pw a1),(yiN,yy8.pw a2)] lp0
theorem yBu (e:Es) (a0 a1 a2):EqW (yBt e a0 a1 a2) 6 yDn yBs (ymJ a0 a1 a2):=fun _ _=>by kernel_rfl
theorem yBv (e:Es) (he:EG e):OkF (E e) (yBs.pw ykA) ykj:=okU he (yBu e _ _ _) (yaz (Sub.uni _) ⟨(yg6 e he),(yg8 e he),(yqO e he),trivial⟩ trivial he.ok) ynq.flat (yaq (by kernel_rfl))
abbrev ycK:Type:=Ls→Ls→Int→Int→Int→Int→Int→(Int→Int→Int→Prop)→Prop
def ygk (a0:yby) (p0 p1:Ls) (p2 p3 p4 p5 p6:Int) (K:Int→Int→Int→Prop):Prop :=
 (asr (decide ((0:Int)≤p2))
 (asr (decide (p2<(((List.length p0):Nat):Int)))
 (asr (conf zK (List.getD p0 (p2.toNat) .nils))
 (a0 (yaa (yab (List.getD p0 (p2.toNat) .nils) 0)) (yaM (yab (List.getD p0 (p2.toNat) .nils) 1)) (yaM (yab (List.getD p0 (p2.toNat) .nils) 2)) p3 p4 p5 p6 (fun a b c =>
 (K a b c))))))
def yg9:ycK:=ygk ygB
def pt27:LPt:=lC pt25 (lC pt0 pt11)
def yjH:Sg:=⟨pt27,Int→Int→Int→Prop,fun K=>(fun r0 r1 r2=>K (.tup [(.agg [(.int .i64 r0),(.int .i64 r1)]),(.int .i64 r2)]))⟩
def yr6 (e:Es) (a0:yby):SE:=sE (E e) [(ykk,ymC.pw a0)] lp0
theorem yr8 (e:Es) (a0):EqW (yr6 e a0) 6 ys0 yjH (ygk a0):=fun _ _=>by kernel_rfl
theorem yr9 (e:Es) (he:EG e):OkF (E e) (yjH.pw yg9) yeO:=okU he (yr8 e _) (yaz (Sub.uni _) ⟨(ytg e he),trivial⟩ trivial he.ok) ynq.flat (yaq (by kernel_rfl))
mutual
def yfy (a0:ycI) (x0:Ls→Ls→Int→Int→Bool→Prop) (x1:Ls→Int→Int→Bool→Prop):Nat→Ls→Int→Int→Prop
 | 0,_,_,_=>False
 | n+1,l0,i1,i2 =>
 (cbr (decide (i2<i1))
 (asr (decide ((0:Int)≤i2))
 (asr (decide (i2<(((List.length l0):Nat):Int)))
 (asr (conf zK (List.getD l0 (i2.toNat) .nils))
 (a0 (yaM (yab (List.getD l0 (i2.toNat) .nils) 1)) (fun a =>
 (a0 (yaM (yab (List.getD l0 (i2.toNat) .nils) 2)) (fun b =>
 (asr (decide (1=List.length ([(.agg [(.int .i64 (yaa (yab (List.getD l0 (i2.toNat) .nils) 0))),(.data a),(.data b)])]:Ls))&&decide (1=List.length ([(.agg [(.int .i64 (yaa (yab (List.getD l0 (i2.toNat) .nils) 0))),(.data a),(.data b)])]:Ls)))
 (ydc a0 x0 x1 n ([(.agg [(.int .i64 (yaa (yab (List.getD l0 (i2.toNat) .nils) 0))),(.data a),(.data b)])]:Ls) l0 i1 (IntKind.i64.wrap (i2+(1:Int))))))))))))
 (x1 l0 i1 i2 false))
def ydc (a0:ycI) (x0:Ls→Ls→Int→Int→Bool→Prop) (x1:Ls→Int→Int→Bool→Prop):Nat→Ls→Ls→Int→Int→Prop
 | 0,_,_,_,_=>False
 | n+1,l0,l3,i4,i5 =>
 (cbr (decide (i5<i4))
 (asr (decide ((0:Int)≤i5))
 (asr (decide (i5<(((List.length l3):Nat):Int)))
 (asr (conf zK (List.getD l3 (i5.toNat) .nils))
 (a0 (yaM (yab (List.getD l3 (i5.toNat) .nils) 1)) (fun a =>
 (a0 (yaM (yab (List.getD l3 (i5.toNat) .nils) 2)) (fun b =>
 (asr (decide ((List.length l0)=(List.length l0)))
 (asr (decide ((0+(List.length l0))≤(List.length l0)))
 (asr (!(decide (((0+(List.length l0))+1)≤(List.length l0))))
 (asr (decide ((List.length l0)=(List.length l0)))
 (asr (decide ((((List.length l0)+1)+64)*(56+1)≤room))
 (asr (decide ((List.length (l0++([(.agg [(.int .i64 (yaa (yab (List.getD l3 (i5.toNat) .nils) 0))),(.data a),(.data b)])]:Ls)))=List.length (l0++([(.agg [(.int .i64 (yaa (yab (List.getD l3 (i5.toNat) .nils) 0))),(.data a),(.data b)])]:Ls)))&&decide ((List.length (l0++([(.agg [(.int .i64 (yaa (yab (List.getD l3 (i5.toNat) .nils) 0))),(.data a),(.data b)])]:Ls)))=List.length (l0++([(.agg [(.int .i64 (yaa (yab (List.getD l3 (i5.toNat) .nils) 0))),(.data a),(.data b)])]:Ls))))
 (ydc a0 x0 x1 n (l0++([(.agg [(.int .i64 (yaa (yab (List.getD l3 (i5.toNat) .nils) 0))),(.data a),(.data b)])]:Ls)) l3 i4 (IntKind.i64.wrap (i5+(1:Int)))))))))))))))))
 (x0 l0 l3 i4 i5 false))
end
def yk3 (a0:ycI) (p0:Ls) (K:Ls→Prop):Prop :=
 (∃ n:Nat,yfy a0
 (fun a b c d e=>(asr (decide ((List.length a)=(List.length a)))
 (asr (decide ((0+(List.length a))≤(List.length a)))
 (K (List.take (List.length a) a)))))
 (fun f g h i=>(K ([]:Ls)))
 n p0 (((List.length p0):Nat):Int) (0:Int))
def yel:yaC:=yk3 ydy
def ylE (Q:Qx):Ls→Ls→Int→Int→Bool→Prop:=(fun l0 l3 i4 i5 b6=>Q (.exit 0) [(3,.v (.own 0 0 (List.length l0) (List.length l0) none)),(6,.v (.data l3)),(7,.v (.int .i64 i4)),(8,.v (.int .i64 i5)),(9,.v (.bool b6))] [⟨false,true,3,l0⟩])
def ylF (Q:Qx):Ls→Int→Int→Bool→Prop:=(fun l0 i1 i2 b3=>Q (.exit 0) [(3,.v .nils),(6,.v (.data l0)),(7,.v (.int .i64 i1)),(8,.v (.int .i64 i2)),(9,.v (.bool b3))] [])
def ynE (a0:ycI) (Q:Qx):List St:=[⟨(pS hN (fV 3 vNs pt10) fN),yfy a0 (ylE Q) (ylF Q)⟩,⟨(pS (hB false true 3 rA hN) (fV 3 pt22 pt10) fN),ydc a0 (ylE Q) (ylF Q)⟩]
def yqU (a0:ycI):LP:=lpS [(94933800,ynE a0)]
def yk4 (e:Es) (a0:ycI):SE:=sE (E e) [(ydx,yrR a0)] (yqU a0)
theorem yoM (e:Es) (he:EG e):SEOk (Uni (E e)) (yk4 e ydy):=yaz (Sub.uni _) ⟨(yrT e he),trivial⟩ trivial he.ok
theorem yts (e:Es) (a0):yct (yk4 e a0) 5 a yry false (ynE a0):=fun _=>⟨fun _=>by kernel_rfl,fun _ _=>by kernel_rfl,fun _=>by kernel_rfl,fun _ _=>by kernel_rfl,trivial⟩
theorem ytt (e:Es) (he:EG e):LpT (Uni (E e)) (yqU ydy) [] 94933800 (.loop 94933800 yry):=fun _ _ _=>yof.st (Sub.uni _) (ya3 (yoM e he) 5) (YOk.no _ _) (yaq (by kernel_rfl)) (yts e _ _)
theorem yzn (e:Es) (a0):EqW (yk4 e a0) 6 ys1 yit (yk3 a0):=fun _ _=>by kernel_rfl
theorem yk5 (e:Es) (he:EG e):OkF (E e) (yit.pw yel) ygW:=okU he (yzn e _) (yoM e he) ynq.flat (ybq (l:=[(94933800,.loop 94933800 yry)]) ⟨ytt e he,trivial⟩ (by kernel_rfl))
abbrev ya8:Type:=Ls→Ls→Int→Int→Int→Int→Int→(Ls→Ls→Int→Int→Int→Prop)→Prop
def yoN (a0:yat) (a1:ycq) (a2:ycK) (a3:yaC) (p0 p1:Ls) (p2 p3 p4 p5 p6:Int) (K:Ls→Ls→Int→Int→Int→Prop):Prop :=
 (a0 p0 p1 (fun c =>
 (cbr (c !=(0:Int))
 (K ([]:Ls) ([]:Ls) (0:Int) (0:Int) c)
 (a1 p0 p1 p2 (fun f =>
 (cbr (!f)
 (K ([]:Ls) ([]:Ls) (0:Int) (0:Int) (2:Int))
 (a2 p0 p1 p2 p3 p4 p5 p6 (fun a b d =>
 (cbr (d !=(0:Int))
 (K ([]:Ls) ([]:Ls) (0:Int) (0:Int) d)
 (cbr (decide ((((List.length p1):Nat):Int)≥(2000:Int)))
 (K ([]:Ls) ([]:Ls) (0:Int) (0:Int) (4:Int))
 (asr (decide ((0:Int)≤(IntKind.i64.wrap ((((List.length p1):Nat):Int)+(1:Int)))))
 (asr (decide ((((IntKind.i64.wrap ((((List.length p1):Nat):Int)+(1:Int))).toNat)+64)*(64+1)≤room))
 (a3 p0 (fun e =>
 (asr (ydC 8 p1)
 (asr (decide ((List.length (List.replicate ((IntKind.i64.wrap ((((List.length p1):Nat):Int)+(1:Int))).toNat) ((.agg [(.int .i64 (0)),(.int .u8 (0)),(.int .i64 (0)),(.int .i64 (0)),(.int .i64 (0)),(.int .i64 (0)),(.int .i64 (0)),(.int .i64 (0))]):PV)))=((IntKind.i64.wrap ((((List.length p1):Nat):Int)+(1:Int))).toNat)))
 (asr (decide (0≤((IntKind.i64.wrap ((((List.length p1):Nat):Int)+(1:Int))).toNat)))
 (cbr (List.isEmpty p1)
 (asr (decide ((List.length (List.replicate ((IntKind.i64.wrap ((((List.length p1):Nat):Int)+(1:Int))).toNat) ((.agg [(.int .i64 (0)),(.int .u8 (0)),(.int .i64 (0)),(.int .i64 (0)),(.int .i64 (0)),(.int .i64 (0)),(.int .i64 (0)),(.int .i64 (0))]):PV)))=((IntKind.i64.wrap ((((List.length p1):Nat):Int)+(1:Int))).toNat)))
 (asr (decide (0≤((IntKind.i64.wrap ((((List.length p1):Nat):Int)+(1:Int))).toNat)))
 (asr (decide (1≤((IntKind.i64.wrap ((((List.length p1):Nat):Int)+(1:Int))).toNat)))
 (asr (decide ((List.length (([(.agg [(.int .i64 p2),(.int .u8 (2:Int)),(.int .i64 p3),(.int .i64 p4),(.int .i64 p5),(.int .i64 p6),(.int .i64 a),(.int .i64 b)])]:Ls)++(List.drop 1 (List.replicate ((IntKind.i64.wrap ((((List.length p1):Nat):Int)+(1:Int))).toNat) ((.agg [(.int .i64 (0)),(.int .u8 (0)),(.int .i64 (0)),(.int .i64 (0)),(.int .i64 (0)),(.int .i64 (0)),(.int .i64 (0)),(.int .i64 (0))]):PV)))))=((IntKind.i64.wrap ((((List.length p1):Nat):Int)+(1:Int))).toNat)))
 (asr (decide (1≤((IntKind.i64.wrap ((((List.length p1):Nat):Int)+(1:Int))).toNat)))
 (K e (List.take 1 (([(.agg [(.int .i64 p2),(.int .u8 (2:Int)),(.int .i64 p3),(.int .i64 p4),(.int .i64 p5),(.int .i64 p6),(.int .i64 a),(.int .i64 b)])]:Ls)++(List.drop 1 (List.replicate ((IntKind.i64.wrap ((((List.length p1):Nat):Int)+(1:Int))).toNat) ((.agg [(.int .i64 (0)),(.int .u8 (0)),(.int .i64 (0)),(.int .i64 (0)),(.int .i64 (0)),(.int .i64 (0)),(.int .i64 (0)),(.int .i64 (0))]):PV))))) a b (0:Int)))))))
 (asr (decide ((0+(List.length p1))≤((IntKind.i64.wrap ((((List.length p1):Nat):Int)+(1:Int))).toNat)))
 (asr (decide ((List.length (p1++(List.drop (0+(List.length p1)) (List.replicate ((IntKind.i64.wrap ((((List.length p1):Nat):Int)+(1:Int))).toNat) ((.agg [(.int .i64 (0)),(.int .u8 (0)),(.int .i64 (0)),(.int .i64 (0)),(.int .i64 (0)),(.int .i64 (0)),(.int .i64 (0)),(.int .i64 (0))]):PV)))))=((IntKind.i64.wrap ((((List.length p1):Nat):Int)+(1:Int))).toNat)))
 (asr (decide ((0+(0+(List.length p1)))≤((IntKind.i64.wrap ((((List.length p1):Nat):Int)+(1:Int))).toNat)))
 (asr (decide (((0+(List.length p1))+1)≤((IntKind.i64.wrap ((((List.length p1):Nat):Int)+(1:Int))).toNat)))
 (asr (decide ((List.length ((List.take (0+(0+(List.length p1))) (p1++(List.drop (0+(List.length p1)) (List.replicate ((IntKind.i64.wrap ((((List.length p1):Nat):Int)+(1:Int))).toNat) ((.agg [(.int .i64 (0)),(.int .u8 (0)),(.int .i64 (0)),(.int .i64 (0)),(.int .i64 (0)),(.int .i64 (0)),(.int .i64 (0)),(.int .i64 (0))]):PV)))))++(([(.agg [(.int .i64 p2),(.int .u8 (2:Int)),(.int .i64 p3),(.int .i64 p4),(.int .i64 p5),(.int .i64 p6),(.int .i64 a),(.int .i64 b)])]:Ls)++(List.drop ((0+(0+(List.length p1)))+1) (p1++(List.drop (0+(List.length p1)) (List.replicate ((IntKind.i64.wrap ((((List.length p1):Nat):Int)+(1:Int))).toNat) ((.agg [(.int .i64 (0)),(.int .u8 (0)),(.int .i64 (0)),(.int .i64 (0)),(.int .i64 (0)),(.int .i64 (0)),(.int .i64 (0)),(.int .i64 (0))]):PV))))))))=((IntKind.i64.wrap ((((List.length p1):Nat):Int)+(1:Int))).toNat)))
 (asr (decide ((0+((0+(List.length p1))+1))≤((IntKind.i64.wrap ((((List.length p1):Nat):Int)+(1:Int))).toNat)))
 (K e (List.take ((0+(List.length p1))+1) ((List.take (0+(0+(List.length p1))) (p1++(List.drop (0+(List.length p1)) (List.replicate ((IntKind.i64.wrap ((((List.length p1):Nat):Int)+(1:Int))).toNat) ((.agg [(.int .i64 (0)),(.int .u8 (0)),(.int .i64 (0)),(.int .i64 (0)),(.int .i64 (0)),(.int .i64 (0)),(.int .i64 (0)),(.int .i64 (0))]):PV)))))++(([(.agg [(.int .i64 p2),(.int .u8 (2:Int)),(.int .i64 p3),(.int .i64 p4),(.int .i64 p5),(.int .i64 p6),(.int .i64 a),(.int .i64 b)])]:Ls)++(List.drop ((0+(0+(List.length p1)))+1) (p1++(List.drop (0+(List.length p1)) (List.replicate ((IntKind.i64.wrap ((((List.length p1):Nat):Int)+(1:Int))).toNat) ((.agg [(.int .i64 (0)),(.int .u8 (0)),(.int .i64 (0)),(.int .i64 (0)),(.int .i64 (0)),(.int .i64 (0)),(.int .i64 (0)),(.int .i64 (0))]):PV)))))))) a b (0:Int))))))))))))))))))))))))))
def yfb:ya8:=yoN yc4 ydb yg9 yel
def yvI:Sg:=⟨pt27,Ls→Ls→Int→Int→Int→Prop,fun K=>(fun r0 r1 r2 r3 r4=>K (.tup [(.agg [(.data r0),(.data r1)]),(.agg [(.int .i64 r2),(.int .i64 r3)]),(.int .i64 r4)]))⟩
def yDE (e:Es) (a0:yat) (a1:ycq) (a2:ycK) (a3:yaC):SE:=⟨(E e),ygu [(yeX,ymH.pw a0),(yc6,ytp.pw a1),(yeO,yjH.pw a2),(ygW,yit.pw a3)],ygv [(yhH,yly)],lp0,fun _=>none⟩
theorem yDF (e:Es) (a0 a1 a2 a3):EqW (yDE e a0 a1 a2 a3) 6 yEU yvI (yoN a0 a1 a2 a3):=fun _ _=>by kernel_rfl
theorem yvJ (e:Es) (he:EG e):OkF (E e) (yvI.pw yfb) ymh:=okU he (yDF e _ _ _ _) (yaz (Sub.uni _) ⟨(yg6 e he),(yg8 e he),(yr9 e he),(yk5 e he),trivial⟩ ⟨⟨by kernel_rfl,by kernel_rfl,rfl,fun az=>ycp (by kernel_rfl) az,he.num _ (by kernel_rfl),by kernel_rfl,(yaq (by kernel_rfl))⟩,trivial⟩ he.ok) ynq.flat (yaq (by kernel_rfl))
def yfQ (a0:yby) (p0 p1:Ls) (p2 p3 p4 p5 p6:Int) (K:Int→Int→Int→Prop):Prop :=
 (asr (decide ((0:Int)≤p2))
 (asr (decide (p2<(((List.length p0):Nat):Int)))
 (asr (conf zK (List.getD p0 (p2.toNat) .nils))
 (a0 (yaa (yab (List.getD p0 (p2.toNat) .nils) 0)) (yaM (yab (List.getD p0 (p2.toNat) .nils) 1)) (yaM (yab (List.getD p0 (p2.toNat) .nils) 2)) p3 p4 p5 p6 (fun a b c =>
 (K a b c))))))
def ygl:ycK:=yfQ yfx
def yqg (e:Es) (a0:yby):SE:=sE (E e) [(yiP,ymC.pw a0)] lp0
theorem yqh (e:Es) (a0):EqW (yqg e a0) 6 yrA yjH (yfQ a0):=fun _ _=>by kernel_rfl
theorem yqi (e:Es) (he:EG e):OkF (E e) (yjH.pw ygl) yeg:=okU he (yqh e _) (yaz (Sub.uni _) ⟨(yqR e he),trivial⟩ trivial he.ok) ynq.flat (yaq (by kernel_rfl))
def ymK (a0:yat) (a1:ycq) (a2:ycK) (a3:yaC) (p0 p1:Ls) (p2 p3 p4 p5 p6:Int) (K:Ls→Ls→Int→Int→Int→Prop):Prop :=
 (a0 p0 p1 (fun c =>
 (cbr (c !=(0:Int))
 (K ([]:Ls) ([]:Ls) (0:Int) (0:Int) c)
 (a1 p0 p1 p2 (fun f =>
 (cbr (!f)
 (K ([]:Ls) ([]:Ls) (0:Int) (0:Int) (2:Int))
 (a2 p0 p1 p2 p3 p4 p5 p6 (fun a b d =>
 (cbr (d !=(0:Int))
 (K ([]:Ls) ([]:Ls) (0:Int) (0:Int) d)
 (cbr (decide ((((List.length p1):Nat):Int)≥(2000:Int)))
 (K ([]:Ls) ([]:Ls) (0:Int) (0:Int) (4:Int))
 (asr (decide ((0:Int)≤(IntKind.i64.wrap ((((List.length p1):Nat):Int)+(1:Int)))))
 (asr (decide ((((IntKind.i64.wrap ((((List.length p1):Nat):Int)+(1:Int))).toNat)+64)*(64+1)≤room))
 (a3 p0 (fun e =>
 (asr (ydC 8 p1)
 (asr (decide ((List.length (List.replicate ((IntKind.i64.wrap ((((List.length p1):Nat):Int)+(1:Int))).toNat) ((.agg [(.int .i64 (0)),(.int .u8 (0)),(.int .i64 (0)),(.int .i64 (0)),(.int .i64 (0)),(.int .i64 (0)),(.int .i64 (0)),(.int .i64 (0))]):PV)))=((IntKind.i64.wrap ((((List.length p1):Nat):Int)+(1:Int))).toNat)))
 (asr (decide (0≤((IntKind.i64.wrap ((((List.length p1):Nat):Int)+(1:Int))).toNat)))
 (cbr (List.isEmpty p1)
 (asr (decide ((List.length (List.replicate ((IntKind.i64.wrap ((((List.length p1):Nat):Int)+(1:Int))).toNat) ((.agg [(.int .i64 (0)),(.int .u8 (0)),(.int .i64 (0)),(.int .i64 (0)),(.int .i64 (0)),(.int .i64 (0)),(.int .i64 (0)),(.int .i64 (0))]):PV)))=((IntKind.i64.wrap ((((List.length p1):Nat):Int)+(1:Int))).toNat)))
 (asr (decide (0≤((IntKind.i64.wrap ((((List.length p1):Nat):Int)+(1:Int))).toNat)))
 (asr (decide (1≤((IntKind.i64.wrap ((((List.length p1):Nat):Int)+(1:Int))).toNat)))
 (asr (decide ((List.length (([(.agg [(.int .i64 p2),(.int .u8 (1:Int)),(.int .i64 p3),(.int .i64 p4),(.int .i64 p5),(.int .i64 p6),(.int .i64 a),(.int .i64 b)])]:Ls)++(List.drop 1 (List.replicate ((IntKind.i64.wrap ((((List.length p1):Nat):Int)+(1:Int))).toNat) ((.agg [(.int .i64 (0)),(.int .u8 (0)),(.int .i64 (0)),(.int .i64 (0)),(.int .i64 (0)),(.int .i64 (0)),(.int .i64 (0)),(.int .i64 (0))]):PV)))))=((IntKind.i64.wrap ((((List.length p1):Nat):Int)+(1:Int))).toNat)))
 (asr (decide (1≤((IntKind.i64.wrap ((((List.length p1):Nat):Int)+(1:Int))).toNat)))
 (K e (List.take 1 (([(.agg [(.int .i64 p2),(.int .u8 (1:Int)),(.int .i64 p3),(.int .i64 p4),(.int .i64 p5),(.int .i64 p6),(.int .i64 a),(.int .i64 b)])]:Ls)++(List.drop 1 (List.replicate ((IntKind.i64.wrap ((((List.length p1):Nat):Int)+(1:Int))).toNat) ((.agg [(.int .i64 (0)),(.int .u8 (0)),(.int .i64 (0)),(.int .i64 (0)),(.int .i64 (0)),(.int .i64 (0)),(.int .i64 (0)),(.int .i64 (0))]):PV))))) a b (0:Int)))))))
 (asr (decide ((0+(List.length p1))≤((IntKind.i64.wrap ((((List.length p1):Nat):Int)+(1:Int))).toNat)))
 (asr (decide ((List.length (p1++(List.drop (0+(List.length p1)) (List.replicate ((IntKind.i64.wrap ((((List.length p1):Nat):Int)+(1:Int))).toNat) ((.agg [(.int .i64 (0)),(.int .u8 (0)),(.int .i64 (0)),(.int .i64 (0)),(.int .i64 (0)),(.int .i64 (0)),(.int .i64 (0)),(.int .i64 (0))]):PV)))))=((IntKind.i64.wrap ((((List.length p1):Nat):Int)+(1:Int))).toNat)))
 (asr (decide ((0+(0+(List.length p1)))≤((IntKind.i64.wrap ((((List.length p1):Nat):Int)+(1:Int))).toNat)))
 (asr (decide (((0+(List.length p1))+1)≤((IntKind.i64.wrap ((((List.length p1):Nat):Int)+(1:Int))).toNat)))
 (asr (decide ((List.length ((List.take (0+(0+(List.length p1))) (p1++(List.drop (0+(List.length p1)) (List.replicate ((IntKind.i64.wrap ((((List.length p1):Nat):Int)+(1:Int))).toNat) ((.agg [(.int .i64 (0)),(.int .u8 (0)),(.int .i64 (0)),(.int .i64 (0)),(.int .i64 (0)),(.int .i64 (0)),(.int .i64 (0)),(.int .i64 (0))]):PV)))))++(([(.agg [(.int .i64 p2),(.int .u8 (1:Int)),(.int .i64 p3),(.int .i64 p4),(.int .i64 p5),(.int .i64 p6),(.int .i64 a),(.int .i64 b)])]:Ls)++(List.drop ((0+(0+(List.length p1)))+1) (p1++(List.drop (0+(List.length p1)) (List.replicate ((IntKind.i64.wrap ((((List.length p1):Nat):Int)+(1:Int))).toNat) ((.agg [(.int .i64 (0)),(.int .u8 (0)),(.int .i64 (0)),(.int .i64 (0)),(.int .i64 (0)),(.int .i64 (0)),(.int .i64 (0)),(.int .i64 (0))]):PV))))))))=((IntKind.i64.wrap ((((List.length p1):Nat):Int)+(1:Int))).toNat)))
 (asr (decide ((0+((0+(List.length p1))+1))≤((IntKind.i64.wrap ((((List.length p1):Nat):Int)+(1:Int))).toNat)))
 (K e (List.take ((0+(List.length p1))+1) ((List.take (0+(0+(List.length p1))) (p1++(List.drop (0+(List.length p1)) (List.replicate ((IntKind.i64.wrap ((((List.length p1):Nat):Int)+(1:Int))).toNat) ((.agg [(.int .i64 (0)),(.int .u8 (0)),(.int .i64 (0)),(.int .i64 (0)),(.int .i64 (0)),(.int .i64 (0)),(.int .i64 (0)),(.int .i64 (0))]):PV)))))++(([(.agg [(.int .i64 p2),(.int .u8 (1:Int)),(.int .i64 p3),(.int .i64 p4),(.int .i64 p5),(.int .i64 p6),(.int .i64 a),(.int .i64 b)])]:Ls)++(List.drop ((0+(0+(List.length p1)))+1) (p1++(List.drop (0+(List.length p1)) (List.replicate ((IntKind.i64.wrap ((((List.length p1):Nat):Int)+(1:Int))).toNat) ((.agg [(.int .i64 (0)),(.int .u8 (0)),(.int .i64 (0)),(.int .i64 (0)),(.int .i64 (0)),(.int .i64 (0)),(.int .i64 (0)),(.int .i64 (0))]):PV)))))))) a b (0:Int))))))))))))))))))))))))))
def yan:ya8:=ymK yc4 ydb ygl yel
def yBw (e:Es) (a0:yat) (a1:ycq) (a2:ycK) (a3:yaC):SE:=⟨(E e),ygu [(yeX,ymH.pw a0),(yc6,ytp.pw a1),(yeg,yjH.pw a2),(ygW,yit.pw a3)],ygv [(yhH,yly)],lp0,fun _=>none⟩
theorem yBx (e:Es) (a0 a1 a2 a3):EqW (yBw e a0 a1 a2 a3) 6 yDv yvI (ymK a0 a1 a2 a3):=fun _ _=>by kernel_rfl
theorem yha (e:Es) (he:EG e):OkF (E e) (yvI.pw yan) ye2:=okU he (yBx e _ _ _ _) (yaz (Sub.uni _) ⟨(yg6 e he),(yg8 e he),(yqi e he),(yk5 e he),trivial⟩ ⟨⟨by kernel_rfl,by kernel_rfl,rfl,fun az=>ycp (by kernel_rfl) az,he.num _ (by kernel_rfl),by kernel_rfl,(yaq (by kernel_rfl))⟩,trivial⟩ he.ok) ynq.flat (yaq (by kernel_rfl))
set_option linter.unusedVariables false
theorem yzo (p0:Ls) (p1:Ls) (r0:Int) (h:∀ K:Int→Prop,K r0→yc4 p0 p1 K) (K:Int→Prop):yc4 p0 p1 K=K r0 :=
 propext ⟨fun k=>detC (yg6 [] ybm) (az:=[(.agg [(.data p0),(.data p1)])]) (x:=(.int .i64 r0)) (fun K' k'=>h (fun r0=>K' (.int .i64 r0)) k') (K:=fun x=>match x with | (.int .i64 r0)=>K r0 | _=>False) k,h K⟩
theorem yyb (p0:Ls) (r0:Ls) (h:∀ K:Ls→Prop,K r0→yel p0 K) (K:Ls→Prop):yel p0 K=K r0 :=
 propext ⟨fun k=>detC (yk5 [] ybm) (az:=[(.data p0)]) (x:=(.data r0)) (fun K' k'=>h (fun r0=>K' (.data r0)) k') (K:=fun x=>match x with | (.data r0)=>K r0 | _=>False) k,h K⟩
theorem yBy (p0:Ls) (p1:Ls) (p2:Int) (p3:Int) (p4:Int) (p5:Int) (p6:Int) (r0:Ls) (r1:Ls) (r2:Int) (r3:Int) (r4:Int) (h:∀ K:Ls→Ls→Int→Int→Int→Prop,K r0 r1 r2 r3 r4→yfb p0 p1 p2 p3 p4 p5 p6 K) (K:Ls→Ls→Int→Int→Int→Prop):yfb p0 p1 p2 p3 p4 p5 p6 K=K r0 r1 r2 r3 r4 :=
 propext ⟨fun k=>detC (yvJ [] ybm) (az:=[(.agg [(.data p0),(.data p1)]),(.int .i64 p2),(.agg [(.int .i64 p3),(.int .i64 p4)]),(.agg [(.int .i64 p5),(.int .i64 p6)])]) (x:=(.tup [(.agg [(.data r0),(.data r1)]),(.agg [(.int .i64 r2),(.int .i64 r3)]),(.int .i64 r4)])) (fun K' k'=>h (fun r0 r1 r2 r3 r4=>K' (.tup [(.agg [(.data r0),(.data r1)]),(.agg [(.int .i64 r2),(.int .i64 r3)]),(.int .i64 r4)])) k') (K:=fun x=>match x with | (.tup [(.agg [(.data r0),(.data r1)]),(.agg [(.int .i64 r2),(.int .i64 r3)]),(.int .i64 r4)])=>K r0 r1 r2 r3 r4 | _=>False) k,h K⟩
theorem yzp (p0:Ls) (p1:Ls) (p2:Int) (p3:Int) (p4:Int) (p5:Int) (p6:Int) (r0:Ls) (r1:Ls) (r2:Int) (r3:Int) (r4:Int) (h:∀ K:Ls→Ls→Int→Int→Int→Prop,K r0 r1 r2 r3 r4→yan p0 p1 p2 p3 p4 p5 p6 K) (K:Ls→Ls→Int→Int→Int→Prop):yan p0 p1 p2 p3 p4 p5 p6 K=K r0 r1 r2 r3 r4 :=
 propext ⟨fun k=>detC (yha [] ybm) (az:=[(.agg [(.data p0),(.data p1)]),(.int .i64 p2),(.agg [(.int .i64 p3),(.int .i64 p4)]),(.agg [(.int .i64 p5),(.int .i64 p6)])]) (x:=(.tup [(.agg [(.data r0),(.data r1)]),(.agg [(.int .i64 r2),(.int .i64 r3)]),(.int .i64 r4)])) (fun K' k'=>h (fun r0 r1 r2 r3 r4=>K' (.tup [(.agg [(.data r0),(.data r1)]),(.agg [(.int .i64 r2),(.int .i64 r3)]),(.int .i64 r4)])) k') (K:=fun x=>match x with | (.tup [(.agg [(.data r0),(.data r1)]),(.agg [(.int .i64 r2),(.int .i64 r3)]),(.int .i64 r4)])=>K r0 r1 r2 r3 r4 | _=>False) k,h K⟩
def yAb (p0:Int) (K:Int→Int→Prop):Prop :=
 (K p0 (1:Int))
def yoO:yax:=yAb
def yHz (e:Es):SE:=sE (E e) [] lp0
theorem yHA (e:Es):EqW (yHz e) 6 yIL yh6 yAb:=fun _ _=>by kernel_rfl
theorem yuT (e:Es) (he:EG e):OkF (E e) (yh6.pw yoO) ylt:=okU he (yHA e) (yaz (Sub.uni _) trivial trivial he.ok) ynq.flat (yaq (by kernel_rfl))
def ysa (p0:Int) (K:Int→Prop):Prop :=
 (cbr (decide (p0<(0:Int)))
 (K (IntKind.u64.wrap ((IntKind.u64.wrap (IntKind.i64.wrap ((0:Int)-(IntKind.i64.wrap (p0+(1:Int))))))+(1:Int))))
 (K (IntKind.u64.wrap p0)))
def ygD:yaJ:=ysa
def yFf (e:Es):SE:=sE (E e) [] lp0
theorem yFg (e:Es):EqW (yFf e) 6 yHu yqF ysa:=fun _ _=>by kernel_rfl
theorem yjI (e:Es) (he:EG e):OkF (E e) (yqF.pw ygD) ygx:=okU he (yFg e) (yaz (Sub.uni _) trivial trivial he.ok) ynq.flat (yaq (by kernel_rfl))
def yf1 (x0:Int→Int→Bool→Prop):Nat→Int→Int→Prop
 | 0,_,_=>False
 | n+1,i0,i1 =>
 (cbr (i1 !=(0:Int))
 (asr (!(decide (i1=(0:Int))))
 (yf1 x0 n i1 (Int.tmod i0 i1)))
 (x0 i0 i1 false))
def ysb (p0 p1:Int) (K:Int→Prop):Prop :=
 (∃ n:Nat,yf1
 (fun a b c=>(K a))
 n p0 p1)
def ydp:yay:=ysb
def yzq (Q:Qx):Int→Int→Bool→Prop:=(fun i0 i1 b2=>Q (.exit 0) [(0,.v (.int .u64 i0)),(1,.v (.int .u64 i1)),(6,.v (.bool b2))] [])
def ytu (Q:Qx):List St:=[⟨pt5,yf1 (yzq Q)⟩]
def yyc:LP:=lpS [(16774900,ytu)]
def ysc (e:Es):SE:=sE (E e) [] (yyc)
theorem yvK (e:Es) (he:EG e):SEOk (Uni (E e)) (ysc e):=yaz (Sub.uni _) trivial trivial he.ok
theorem yyd (e:Es):yct (ysc e) 5 a yrJ false (ytu):=fun _=>⟨fun _=>by kernel_rfl,fun _ _=>by kernel_rfl,trivial⟩
theorem yye (e:Es) (he:EG e):LpT (Uni (E e)) (yyc) [] 16774900 (.loop 16774900 yrJ):=fun _ _ _=>yof.st (Sub.uni _) (ya3 (yvK e he) 5) (YOk.no _ _) (yaq (by kernel_rfl)) (yyd e _)
theorem yFh (e:Es):EqW (ysc e) 6 yz8 ys3 ysb:=fun _ _=>by kernel_rfl
theorem yjJ (e:Es) (he:EG e):OkF (E e) (ys3.pw ydp) yhI:=okU he (yFh e) (yvK e he) ynq.flat (ybq (l:=[(16774900,.loop 16774900 yrJ)]) ⟨yye e he,trivial⟩ (by kernel_rfl))
def ymL (a0:yaJ) (a1:yay) (p0 p1:Int) (K:Int→Prop):Prop :=
 (cbr (decide (p1<(1:Int)))
 (K (8:Int))
 (cbr (decide (p1>(1000000000000000000:Int)))
 (K (8:Int))
 (cbr (decide (p0<(-1000000000000000000:Int)))
 (K (8:Int))
 (cbr (decide (p0>(1000000000000000000:Int)))
 (K (8:Int))
 (a0 p0 (fun a =>
 (a1 a (IntKind.u64.wrap p1) (fun b =>
 (cbr (b !=(1:Int))
 (K (8:Int))
 (K (0:Int)))))))))))
def yaX:yay:=ymL ygD ydp
def yBz (e:Es) (a0:yaJ) (a1:yay):SE:=sE (E e) [(ygx,yqF.pw a0),(yhI,ys3.pw a1)] lp0
theorem yBA (e:Es) (a0 a1):EqW (yBz e a0 a1) 6 yDx yor (ymL a0 a1):=fun _ _=>by kernel_rfl
theorem ymM (e:Es) (he:EG e):OkF (E e) (yor.pw yaX) ygy:=okU he (yBA e _ _) (yaz (Sub.uni _) ⟨(yjI e he),(yjJ e he),trivial⟩ trivial he.ok) ynq.flat (yaq (by kernel_rfl))
def yoP (a0:yay) (p0 p1 p2 p3:Int) (K:Int→Prop):Prop :=
 (a0 p0 p1 (fun a =>
 (cbr (a !=(0:Int))
 (a0 p0 p1 (fun b =>
 (K b)))
 (a0 p2 p3 (fun c =>
 (K c))))))
def ygm:yaI:=yoP yaX
def yDG (e:Es) (a0:yay):SE:=sE (E e) [(ygy,yor.pw a0)] lp0
theorem yDH (e:Es) (a0):EqW (yDG e a0) 6 yEV yjB (yoP a0):=fun _ _=>by kernel_rfl
theorem ykB (e:Es) (he:EG e):OkF (E e) (yjB.pw ygm) ygd:=okU he (yDH e _) (yaz (Sub.uni _) ⟨(ymM e he),trivial⟩ trivial he.ok) ynq.flat (yaq (by kernel_rfl))
def ymN (p0 p1:Int) (K:Int→Int→Prop):Prop :=
 (K (IntKind.u64.wrap ((IntKind.u64.wrap ((IntKind.u64.wrap ((Int.fdiv p0 4294967296)*(Int.fdiv p1 4294967296)))+(Int.fdiv (IntKind.u64.wrap ((Int.fdiv p0 4294967296)*(IntKind.u64.wrap (BitVec.ofInt IntKind.u64.bits p1&&&BitVec.ofInt IntKind.u64.bits (4294967295:Int)).toNat))) 4294967296)))+(Int.fdiv (IntKind.u64.wrap ((IntKind.u64.wrap ((IntKind.u64.wrap (BitVec.ofInt IntKind.u64.bits (IntKind.u64.wrap ((Int.fdiv p0 4294967296)*(IntKind.u64.wrap (BitVec.ofInt IntKind.u64.bits p1&&&BitVec.ofInt IntKind.u64.bits (4294967295:Int)).toNat)))&&&BitVec.ofInt IntKind.u64.bits (4294967295:Int)).toNat)+(IntKind.u64.wrap ((IntKind.u64.wrap (BitVec.ofInt IntKind.u64.bits p0&&&BitVec.ofInt IntKind.u64.bits (4294967295:Int)).toNat)*(Int.fdiv p1 4294967296)))))+(Int.fdiv (IntKind.u64.wrap ((IntKind.u64.wrap (BitVec.ofInt IntKind.u64.bits p0&&&BitVec.ofInt IntKind.u64.bits (4294967295:Int)).toNat)*(IntKind.u64.wrap (BitVec.ofInt IntKind.u64.bits p1&&&BitVec.ofInt IntKind.u64.bits (4294967295:Int)).toNat))) 4294967296))) 4294967296))) (IntKind.u64.wrap (BitVec.ofInt IntKind.u64.bits (IntKind.u64.wrap ((IntKind.u64.wrap ((IntKind.u64.wrap ((IntKind.u64.wrap (BitVec.ofInt IntKind.u64.bits (IntKind.u64.wrap ((Int.fdiv p0 4294967296)*(IntKind.u64.wrap (BitVec.ofInt IntKind.u64.bits p1&&&BitVec.ofInt IntKind.u64.bits (4294967295:Int)).toNat)))&&&BitVec.ofInt IntKind.u64.bits (4294967295:Int)).toNat)+(IntKind.u64.wrap ((IntKind.u64.wrap (BitVec.ofInt IntKind.u64.bits p0&&&BitVec.ofInt IntKind.u64.bits (4294967295:Int)).toNat)*(Int.fdiv p1 4294967296)))))+(Int.fdiv (IntKind.u64.wrap ((IntKind.u64.wrap (BitVec.ofInt IntKind.u64.bits p0&&&BitVec.ofInt IntKind.u64.bits (4294967295:Int)).toNat)*(IntKind.u64.wrap (BitVec.ofInt IntKind.u64.bits p1&&&BitVec.ofInt IntKind.u64.bits (4294967295:Int)).toNat))) 4294967296)))*(4294967296:Int)))|||BitVec.ofInt IntKind.u64.bits (IntKind.u64.wrap (BitVec.ofInt IntKind.u64.bits (IntKind.u64.wrap ((IntKind.u64.wrap (BitVec.ofInt IntKind.u64.bits p0&&&BitVec.ofInt IntKind.u64.bits (4294967295:Int)).toNat)*(IntKind.u64.wrap (BitVec.ofInt IntKind.u64.bits p1&&&BitVec.ofInt IntKind.u64.bits (4294967295:Int)).toNat)))&&&BitVec.ofInt IntKind.u64.bits (4294967295:Int)).toNat)).toNat))
def yd6:ybV:=ymN
def yBB:Sg:=⟨pt4,Int→Int→Prop,fun K=>(fun r0 r1=>K (.agg [(.int .u64 r0),(.int .u64 r1)]))⟩
def yBC (e:Es):SE:=sE (E e) [] lp0
theorem yBD (e:Es):EqW (yBC e) 6 yDy yBB ymN:=fun _ _=>by kernel_rfl
theorem ymO (e:Es) (he:EG e):OkF (E e) (yBB.pw yd6) ygz:=okU he (yBD e) (yaz (Sub.uni _) trivial trivial he.ok) ynq.flat (yaq (by kernel_rfl))
def yoQ (p0 p1 p2 p3:Int) (K:Bool→Prop):Prop :=
 (cbr (decide (p0<p2))
 (K true)
 (cbr (p0 == p2)
 (K (decide (p1<p3)))
 (K false)))
def yjK:yap:=yoQ
def pt28:LPt:=lC (vA pt4) (lC (vA pt4) lN)
def yDI:Sg:=⟨pt28,Bool→Prop,fun K=>(fun r0=>K (.bool r0))⟩
def yDJ (e:Es):SE:=sE (E e) [] lp0
theorem yDK (e:Es):EqW (yDJ e) 6 yEW yDI yoQ:=fun _ _=>by kernel_rfl
theorem yvL (e:Es) (he:EG e):OkF (E e) (yDI.pw yjK) yjv:=okU he (yDK e) (yaz (Sub.uni _) trivial trivial he.ok) ynq.flat (yaq (by kernel_rfl))
def yoR (a0:yaJ) (a1:ybV) (a2:yap) (p0 p1 p2 p3:Int) (K:Bool→Prop):Prop :=
 (cbr ((decide (p0<(0:Int))) !=(decide (p2<(0:Int))))
 (K (decide (p0<(0:Int))))
 (a0 p0 (fun e =>
 (a1 e (IntKind.u64.wrap p3) (fun a b =>
 (a0 p2 (fun f =>
 (a1 f (IntKind.u64.wrap p1) (fun c d =>
 (cbr (decide (p0<(0:Int)))
 (a2 c d a b (fun g =>
 (K g)))
 (a2 a b c d (fun h =>
 (K h)))))))))))))
def yaG:yap:=yoR ygD yd6 yjK
def yDL (e:Es) (a0:yaJ) (a1:ybV) (a2:yap):SE:=sE (E e) [(ygx,yqF.pw a0),(ygz,yBB.pw a1),(yjv,yDI.pw a2)] lp0
theorem yDM (e:Es) (a0 a1 a2):EqW (yDL e a0 a1 a2) 6 yEX ytd (yoR a0 a1 a2):=fun _ _=>by kernel_rfl
theorem yfc (e:Es) (he:EG e):OkF (E e) (ytd.pw yaG) ydF:=okU he (yDM e _ _ _) (yaz (Sub.uni _) ⟨(yjI e he),(ymO e he),(yvL e he),trivial⟩ trivial he.ok) ynq.flat (yaq (by kernel_rfl))
abbrev ygn:Type:=Bool→Int→Int→Int→Int→(Int→Int→Int→Prop)→Prop
def yoS (p0:Bool) (p1 p2 p3 p4:Int) (K:Int→Int→Int→Prop):Prop :=
 (cbr (decide (p1>(0:Int)))
 (K (0:Int) (0:Int) (16:Int))
 (cbr (decide (p3>(0:Int)))
 (K (0:Int) (0:Int) (16:Int))
 (cbr (decide (p2>(1000000000000000000:Int)))
 (K (0:Int) (0:Int) (16:Int))
 (cbr (decide (p4>(1000000000000000000:Int)))
 (K (0:Int) (0:Int) (16:Int))
 (cbr p0
 (K (IntKind.i64.wrap ((0:Int)-(IntKind.i64.wrap p2))) (IntKind.i64.wrap p4) (0:Int))
 (K (IntKind.i64.wrap p2) (IntKind.i64.wrap p4) (0:Int)))))))
def ygo:ygn:=yoS
def yDN:Sg:=⟨(lC vB pt28),Int→Int→Int→Prop,fun K=>(fun r0 r1 r2=>K (.tup [(.agg [(.int .i64 r0),(.int .i64 r1)]),(.int .i64 r2)]))⟩
def yDO (e:Es):SE:=sE (E e) [] lp0
theorem yDP (e:Es):EqW (yDO e) 6 yEY yDN yoS:=fun _ _=>by kernel_rfl
theorem yoT (e:Es) (he:EG e):OkF (E e) (yDN.pw ygo) yhJ:=okU he (yDP e) (yaz (Sub.uni _) trivial trivial he.ok) ynq.flat (yaq (by kernel_rfl))
abbrev ydG:Type:=Int→Int→(Int→Int→Int→Prop)→Prop
def yoU (a0:yaJ) (a1:yay) (a2:ygn) (p0 p1:Int) (K:Int→Int→Int→Prop):Prop :=
 (cbr (p1 ==(0:Int))
 (K (0:Int) (0:Int) (18:Int))
 (a0 p0 (fun b =>
 (a0 p1 (fun c =>
 (a1 b c (fun a =>
 (asr (!(decide (a=(0:Int))))
 (asr (!(decide (a=(0:Int))))
 (a2 ((decide (p0<(0:Int))) !=(decide (p1<(0:Int)))) (0:Int) (IntKind.u64.wrap (Int.tdiv b a)) (0:Int) (IntKind.u64.wrap (Int.tdiv c a)) (fun d e f =>
 (K d e f))))))))))))
def ya9:ydG:=yoU ygD ydp ygo
def yDQ:Sg:=⟨pt6,Int→Int→Int→Prop,fun K=>(fun r0 r1 r2=>K (.tup [(.agg [(.int .i64 r0),(.int .i64 r1)]),(.int .i64 r2)]))⟩
def yDR (e:Es) (a0:yaJ) (a1:yay) (a2:ygn):SE:=sE (E e) [(ygx,yqF.pw a0),(yhI,ys3.pw a1),(yhJ,yDN.pw a2)] lp0
theorem yDS (e:Es) (a0 a1 a2):EqW (yDR e a0 a1 a2) 6 yEZ yDQ (yoU a0 a1 a2):=fun _ _=>by kernel_rfl
theorem yDT (e:Es) (he:EG e):OkF (E e) (yDQ.pw ya9) ymk:=okU he (yDS e _ _ _) (yaz (Sub.uni _) ⟨(yjI e he),(yjJ e he),(yoT e he),trivial⟩ trivial he.ok) ynq.flat (yaq (by kernel_rfl))
def ysd (p0 p1:Int) (K:Int→Int→Prop):Prop :=
 (K (IntKind.i64.wrap ((0:Int)-p0)) p1)
def ypS:ybV:=ysd
def yFi:Sg:=⟨pt8,Int→Int→Prop,fun K=>(fun r0 r1=>K (.agg [(.int .i64 r0),(.int .i64 r1)]))⟩
def yFj (e:Es):SE:=sE (E e) [] lp0
theorem yFk (e:Es):EqW (yFj e) 6 yHv yFi ysd:=fun _ _=>by kernel_rfl
theorem yFl (e:Es) (he:EG e):OkF (E e) (yFi.pw ypS) ypO:=okU he (yFk e) (yaz (Sub.uni _) trivial trivial he.ok) ynq.flat (yaq (by kernel_rfl))
def yoV (p0 p1 p2 p3:Int) (K:Int→Int→Prop):Prop :=
 (cbr (decide ((IntKind.u64.wrap (p1+p3))<p1))
 (K (IntKind.u64.wrap ((IntKind.u64.wrap (p0+p2))+(1:Int))) (IntKind.u64.wrap (p1+p3)))
 (K (IntKind.u64.wrap (p0+p2)) (IntKind.u64.wrap (p1+p3))))
def ydH:yaV:=yoV
def yvM:Sg:=⟨pt28,Int→Int→Prop,fun K=>(fun r0 r1=>K (.agg [(.int .u64 r0),(.int .u64 r1)]))⟩
def yDU (e:Es):SE:=sE (E e) [] lp0
theorem yDV (e:Es):EqW (yDU e) 6 yE0 yvM yoV:=fun _ _=>by kernel_rfl
theorem yvN (e:Es) (he:EG e):OkF (E e) (yvM.pw ydH) yjw:=okU he (yDV e) (yaz (Sub.uni _) trivial trivial he.ok) ynq.flat (yaq (by kernel_rfl))
def yiV (p0 p1 p2 p3:Int) (K:Int→Int→Prop):Prop :=
 (cbr (decide (p1<p3))
 (K (IntKind.u64.wrap ((IntKind.u64.wrap (p0-p2))-(1:Int))) (IntKind.u64.wrap (p1-p3)))
 (K (IntKind.u64.wrap (p0-p2)) (IntKind.u64.wrap (p1-p3))))
def ygE:yaV:=yiV
def yBE (e:Es):SE:=sE (E e) [] lp0
theorem yBF (e:Es):EqW (yBE e) 6 yDC yvM yiV:=fun _ _=>by kernel_rfl
theorem yBG (e:Es) (he:EG e):OkF (E e) (yvM.pw ygE) yks:=okU he (yBF e) (yaz (Sub.uni _) trivial trivial he.ok) ynq.flat (yaq (by kernel_rfl))
abbrev yoW:Type:=Int→Int→Int→(Int→Int→Int→Prop)→Prop
def ybs (a0:yaV) (x0:Int→Int→Int→Int→Int→Int→Int→Int→Int→Bool→Prop):Nat→Int→Int→Int→Int→Int→Int→Int→Int→Int→Prop
 | 0,_,_,_,_,_,_,_,_,_=>False
 | n+1,i0,i1,i2,i3,i4,i5,i6,i7,i8 =>
 (cbr (decide (i8≥(0:Int)))
 (asr (!(decide ((IntKind.i64.wrap (BitVec.ofInt IntKind.i64.bits i8&&&BitVec.ofInt IntKind.i64.bits (63:Int)).toNat)<(0:Int))))
 (cbr (decide (i8≥(64:Int)))
 (asr (!(decide ((IntKind.i64.wrap (BitVec.ofInt IntKind.i64.bits i8&&&BitVec.ofInt IntKind.i64.bits (63:Int)).toNat)<(0:Int))))
 (a0 i5 i6 i5 i6 (fun a b =>
 (cbr (decide ((IntKind.u64.wrap (BitVec.ofInt IntKind.u64.bits (IntKind.u64.wrap (i7*(2:Int)))|||BitVec.ofInt IntKind.u64.bits (IntKind.u64.wrap (BitVec.ofInt IntKind.u64.bits (Int.fdiv i1 (2 ^ (min (IntKind.i64.wrap (BitVec.ofInt IntKind.i64.bits i8&&&BitVec.ofInt IntKind.i64.bits (63:Int)).toNat).toNat IntKind.u64.bits)))&&&BitVec.ofInt IntKind.u64.bits (1:Int)).toNat)).toNat)≥i0))
 (ybs a0 x0 n i0 i1 i2 i3 i4 a (IntKind.u64.wrap (BitVec.ofInt IntKind.u64.bits b|||BitVec.ofInt IntKind.u64.bits (1:Int)).toNat) (IntKind.u64.wrap ((IntKind.u64.wrap (BitVec.ofInt IntKind.u64.bits (IntKind.u64.wrap (i7*(2:Int)))|||BitVec.ofInt IntKind.u64.bits (IntKind.u64.wrap (BitVec.ofInt IntKind.u64.bits (Int.fdiv i1 (2 ^ (min (IntKind.i64.wrap (BitVec.ofInt IntKind.i64.bits i8&&&BitVec.ofInt IntKind.i64.bits (63:Int)).toNat).toNat IntKind.u64.bits)))&&&BitVec.ofInt IntKind.u64.bits (1:Int)).toNat)).toNat)-i0)) (IntKind.i64.wrap (i8-(1:Int))))
 (ybs a0 x0 n i0 i1 i2 i3 i4 a b (IntKind.u64.wrap (BitVec.ofInt IntKind.u64.bits (IntKind.u64.wrap (i7*(2:Int)))|||BitVec.ofInt IntKind.u64.bits (IntKind.u64.wrap (BitVec.ofInt IntKind.u64.bits (Int.fdiv i1 (2 ^ (min (IntKind.i64.wrap (BitVec.ofInt IntKind.i64.bits i8&&&BitVec.ofInt IntKind.i64.bits (63:Int)).toNat).toNat IntKind.u64.bits)))&&&BitVec.ofInt IntKind.u64.bits (1:Int)).toNat)).toNat) (IntKind.i64.wrap (i8-(1:Int))))))))
 (a0 i5 i6 i5 i6 (fun c d =>
 (cbr (decide ((IntKind.u64.wrap (BitVec.ofInt IntKind.u64.bits (IntKind.u64.wrap (i7*(2:Int)))|||BitVec.ofInt IntKind.u64.bits (IntKind.u64.wrap (BitVec.ofInt IntKind.u64.bits (Int.fdiv i2 (2 ^ (min (IntKind.i64.wrap (BitVec.ofInt IntKind.i64.bits i8&&&BitVec.ofInt IntKind.i64.bits (63:Int)).toNat).toNat IntKind.u64.bits)))&&&BitVec.ofInt IntKind.u64.bits (1:Int)).toNat)).toNat)≥i0))
 (ybs a0 x0 n i0 i1 i2 i3 i4 c (IntKind.u64.wrap (BitVec.ofInt IntKind.u64.bits d|||BitVec.ofInt IntKind.u64.bits (1:Int)).toNat) (IntKind.u64.wrap ((IntKind.u64.wrap (BitVec.ofInt IntKind.u64.bits (IntKind.u64.wrap (i7*(2:Int)))|||BitVec.ofInt IntKind.u64.bits (IntKind.u64.wrap (BitVec.ofInt IntKind.u64.bits (Int.fdiv i2 (2 ^ (min (IntKind.i64.wrap (BitVec.ofInt IntKind.i64.bits i8&&&BitVec.ofInt IntKind.i64.bits (63:Int)).toNat).toNat IntKind.u64.bits)))&&&BitVec.ofInt IntKind.u64.bits (1:Int)).toNat)).toNat)-i0)) (IntKind.i64.wrap (i8-(1:Int))))
 (ybs a0 x0 n i0 i1 i2 i3 i4 c d (IntKind.u64.wrap (BitVec.ofInt IntKind.u64.bits (IntKind.u64.wrap (i7*(2:Int)))|||BitVec.ofInt IntKind.u64.bits (IntKind.u64.wrap (BitVec.ofInt IntKind.u64.bits (Int.fdiv i2 (2 ^ (min (IntKind.i64.wrap (BitVec.ofInt IntKind.i64.bits i8&&&BitVec.ofInt IntKind.i64.bits (63:Int)).toNat).toNat IntKind.u64.bits)))&&&BitVec.ofInt IntKind.u64.bits (1:Int)).toNat)).toNat) (IntKind.i64.wrap (i8-(1:Int)))))))))
 (x0 i0 i1 i2 i3 i4 i5 i6 i7 i8 false))
def ymP (a0:yaV) (p0 p1 p2:Int) (K:Int→Int→Int→Prop):Prop :=
 (∃ n:Nat,ybs a0
 (fun d e f g h a b c i j=>(K a b c))
 n p2 p0 p1 (0:Int) (0:Int) (0:Int) (0:Int) (0:Int) (127:Int))
def ydA:yoW:=ymP ydH
def yBH:Sg:=⟨(lC (vA pt4) pt3),Int→Int→Int→Prop,fun K=>(fun r0 r1 r2=>K (.tup [(.agg [(.int .u64 r0),(.int .u64 r1)]),(.int .u64 r2)]))⟩
def ywh (Q:Qx):Int→Int→Int→Int→Int→Int→Int→Int→Int→Bool→Prop:=(fun i0 i1 i2 i3 i4 i5 i6 i7 i8 b9=>Q (.exit 0) [(1,.v (.int .u64 i0)),(2,.box (.agg [(.int .u64 i1),(.int .u64 i2)])),(4,.box (.agg [(.int .u64 i3),(.int .u64 i4)])),(6,.box (.agg [(.int .u64 i5),(.int .u64 i6)])),(7,.v (.int .u64 i7)),(8,.v (.int .i64 i8)),(11,.v (.bool b9))] [])
def yoX (a0:yaV) (Q:Qx):List St:=[⟨(pS hN (fV 1 pt2 (fX 2 (vA pt4) (fX 4 (vA pt4) (fX 6 (vA pt4) (fV 7 pt2 (fV 8 pt0 fN)))))) fN),ybs a0 (ywh Q)⟩]
def ytv (a0:yaV):LP:=lpS [(22549700,yoX a0)]
def ymQ (e:Es) (a0:yaV):SE:=sE (E e) [(yjw,yvM.pw a0)] (ytv a0)
theorem yqV (e:Es) (he:EG e):SEOk (Uni (E e)) (ymQ e ydH):=yaz (Sub.uni _) ⟨(yvN e he),trivial⟩ trivial he.ok
theorem yuU (e:Es) (a0):yct (ymQ e a0) 5 a yrL false (yoX a0):=fun _=>⟨fun _=>by kernel_rfl,fun _ _=>by kernel_rfl,trivial⟩
theorem yuV (e:Es) (he:EG e):LpT (Uni (E e)) (ytv ydH) [] 22549700 (.loop 22549700 yrL):=fun _ _ _=>yof.st (Sub.uni _) (ya3 (yqV e he) 5) (YOk.no _ _) (yaq (by kernel_rfl)) (yuU e _ _)
theorem yBI (e:Es) (a0):EqW (ymQ e a0) 6 yvG yBH (ymP a0):=fun _ _=>by kernel_rfl
theorem ytw (e:Es) (he:EG e):OkF (E e) (yBH.pw ydA) ykt:=okU he (yBI e _) (yqV e he) ynq.flat (ybq (l:=[(22549700,.loop 22549700 yrL)]) ⟨yuV e he,trivial⟩ (by kernel_rfl))
def yse (a0:yaI) (a1:yay) (a2:yaJ) (a3:ybV) (a4:yaV) (a5:yaV) (a6:yap) (a7:yoW) (a8:ygn) (p0 p1 p2 p3:Int) (K:Int→Int→Int→Prop):Prop :=
 (a0 p0 p1 p2 p3 (fun o =>
 (cbr (o !=(0:Int))
 (a0 p0 p1 p2 p3 (fun p =>
 (K (0:Int) (0:Int) p)))
 (a1 (IntKind.u64.wrap p1) (IntKind.u64.wrap p3) (fun a =>
 (a2 p0 (fun q =>
 (asr (!(decide (a=(0:Int))))
 (a3 q (IntKind.u64.wrap (Int.tdiv (IntKind.u64.wrap p3) a)) (fun b c =>
 (a2 p2 (fun r =>
 (asr (!(decide (a=(0:Int))))
 (a3 r (IntKind.u64.wrap (Int.tdiv (IntKind.u64.wrap p1) a)) (fun d e =>
 (a4 b c d e (fun f g =>
 (cbr ((decide (p0<(0:Int))) !=(decide (p2<(0:Int))))
 (a5 b c d e (fun h i =>
 (a6 b c d e (fun s =>
 (cbr s
 (a5 d e b c (fun j k =>
 (cbr ((j ==(0:Int))&&((k ==(0:Int))&&true))
 (K (0:Int) (1:Int) (0:Int))
 (a7 j k a (fun T U t =>
 (a1 t a (fun l =>
 (a7 j k l (fun u v V =>
 (asr (!(decide (a=(0:Int))))
 (asr (!(decide (l=(0:Int))))
 (a3 (IntKind.u64.wrap (Int.tdiv (IntKind.u64.wrap p1) a)) (IntKind.u64.wrap (Int.tdiv (IntKind.u64.wrap p3) l)) (fun w x =>
 (a8 (decide (p2<(0:Int))) u v w x (fun y z A =>
 (K y z A))))))))))))))))
 (cbr ((h ==(0:Int))&&((i ==(0:Int))&&true))
 (K (0:Int) (1:Int) (0:Int))
 (a7 h i a (fun W X B =>
 (a1 B a (fun m =>
 (a7 h i m (fun C D Y =>
 (asr (!(decide (a=(0:Int))))
 (asr (!(decide (m=(0:Int))))
 (a3 (IntKind.u64.wrap (Int.tdiv (IntKind.u64.wrap p1) a)) (IntKind.u64.wrap (Int.tdiv (IntKind.u64.wrap p3) m)) (fun E F =>
 (a8 (decide (p0<(0:Int))) C D E F (fun G H I =>
 (K G H I)))))))))))))))))))
 (cbr ((f ==(0:Int))&&((g ==(0:Int))&&true))
 (K (0:Int) (1:Int) (0:Int))
 (a7 f g a (fun Z va J =>
 (a1 J a (fun n =>
 (a7 f g n (fun L M vb =>
 (asr (!(decide (a=(0:Int))))
 (asr (!(decide (n=(0:Int))))
 (a3 (IntKind.u64.wrap (Int.tdiv (IntKind.u64.wrap p1) a)) (IntKind.u64.wrap (Int.tdiv (IntKind.u64.wrap p3) n)) (fun N O =>
 (a8 (decide (p0<(0:Int))) L M N O (fun Q R S =>
 (K Q R S))))))))))))))))))))))))))))))))
def ygF:yal:=yse ygm ydp ygD yd6 ydH ygE yjK ydA ygo
def yFm (e:Es) (a0:yaI) (a1:yay) (a2:yaJ) (a3:ybV) (a4:yaV) (a5:yaV) (a6:yap) (a7:yoW) (a8:ygn):SE:=sE (E e) [(ygd,yjB.pw a0),(yhI,ys3.pw a1),(ygx,yqF.pw a2),(ygz,yBB.pw a3),(yjw,yvM.pw a4),(yks,yvM.pw a5),(yjv,yDI.pw a6),(ykt,yBH.pw a7),(yhJ,yDN.pw a8)] lp0
theorem yFn (e:Es) (a0 a1 a2 a3 a4 a5 a6 a7 a8):EqW (yFm e a0 a1 a2 a3 a4 a5 a6 a7 a8) 6 yHw yej (yse a0 a1 a2 a3 a4 a5 a6 a7 a8):=fun _ _=>by kernel_rfl
theorem yyf (e:Es) (he:EG e):OkF (E e) (yej.pw ygF) ylv:=okU he (yFn e _ _ _ _ _ _ _ _ _) (yaz (Sub.uni _) ⟨(ykB e he),(yjJ e he),(yjI e he),(ymO e he),(yvN e he),(yBG e he),(yvL e he),(ytw e he),(yoT e he),trivial⟩ trivial he.ok) ynq.flat (yaq (by kernel_rfl))
def ysf (a0:yaI) (a1:ybV) (a2:yal) (p0 p1 p2 p3:Int) (K:Int→Int→Int→Prop):Prop :=
 (a0 p0 p1 p2 p3 (fun a =>
 (cbr (a !=(0:Int))
 (a0 p0 p1 p2 p3 (fun b =>
 (K (0:Int) (0:Int) b)))
 (a1 p2 p3 (fun c d =>
 (a2 p0 p1 c d (fun e f g =>
 (K e f g))))))))
def ypT:yal:=ysf ygm ypS ygF
def yFo (e:Es) (a0:yaI) (a1:ybV) (a2:yal):SE:=sE (E e) [(ygd,yjB.pw a0),(ypO,yFi.pw a1),(ylv,yej.pw a2)] lp0
theorem yFp (e:Es) (a0 a1 a2):EqW (yFo e a0 a1 a2) 6 yHx yej (ysf a0 a1 a2):=fun _ _=>by kernel_rfl
theorem yFq (e:Es) (he:EG e):OkF (E e) (yej.pw ypT) ypP:=okU he (yFp e _ _ _) (yaz (Sub.uni _) ⟨(ykB e he),(yFl e he),(yyf e he),trivial⟩ trivial he.ok) ynq.flat (yaq (by kernel_rfl))
def ysg (a0:yaI) (a1:yaJ) (a2:yay) (a3:ybV) (a4:ygn) (p0 p1 p2 p3:Int) (K:Int→Int→Int→Prop):Prop :=
 (a0 p0 p1 p2 p3 (fun c =>
 (cbr (c !=(0:Int))
 (a0 p0 p1 p2 p3 (fun d =>
 (K (0:Int) (0:Int) d)))
 (a1 p0 (fun e =>
 (a2 e (IntKind.u64.wrap p3) (fun a =>
 (a1 p2 (fun f =>
 (a2 f (IntKind.u64.wrap p1) (fun b =>
 (cbr ((decide (p0<(0:Int))) !=(decide (p2<(0:Int))))
 (cbr (p0 !=(0:Int))
 (a1 p0 (fun g =>
 (asr (!(decide (a=(0:Int))))
 (a1 p2 (fun h =>
 (asr (!(decide (b=(0:Int))))
 (a3 (IntKind.u64.wrap (Int.tdiv g a)) (IntKind.u64.wrap (Int.tdiv h b)) (fun i j =>
 (asr (!(decide (b=(0:Int))))
 (asr (!(decide (a=(0:Int))))
 (a3 (IntKind.u64.wrap (Int.tdiv (IntKind.u64.wrap p1) b)) (IntKind.u64.wrap (Int.tdiv (IntKind.u64.wrap p3) a)) (fun k l =>
 (a4 (p2 !=(0:Int)) i j k l (fun m n o =>
 (K m n o)))))))))))))))
 (a1 p0 (fun p =>
 (asr (!(decide (a=(0:Int))))
 (a1 p2 (fun q =>
 (asr (!(decide (b=(0:Int))))
 (a3 (IntKind.u64.wrap (Int.tdiv p a)) (IntKind.u64.wrap (Int.tdiv q b)) (fun r s =>
 (asr (!(decide (b=(0:Int))))
 (asr (!(decide (a=(0:Int))))
 (a3 (IntKind.u64.wrap (Int.tdiv (IntKind.u64.wrap p1) b)) (IntKind.u64.wrap (Int.tdiv (IntKind.u64.wrap p3) a)) (fun t u =>
 (a4 false r s t u (fun v w x =>
 (K v w x))))))))))))))))
 (a1 p0 (fun y =>
 (asr (!(decide (a=(0:Int))))
 (a1 p2 (fun z =>
 (asr (!(decide (b=(0:Int))))
 (a3 (IntKind.u64.wrap (Int.tdiv y a)) (IntKind.u64.wrap (Int.tdiv z b)) (fun A B =>
 (asr (!(decide (b=(0:Int))))
 (asr (!(decide (a=(0:Int))))
 (a3 (IntKind.u64.wrap (Int.tdiv (IntKind.u64.wrap p1) b)) (IntKind.u64.wrap (Int.tdiv (IntKind.u64.wrap p3) a)) (fun C D =>
 (a4 false A B C D (fun E F G =>
 (K E F G)))))))))))))))))))))))))))
def ypU:yal:=ysg ygm ygD ydp yd6 ygo
def yFr (e:Es) (a0:yaI) (a1:yaJ) (a2:yay) (a3:ybV) (a4:ygn):SE:=sE (E e) [(ygd,yjB.pw a0),(ygx,yqF.pw a1),(yhI,ys3.pw a2),(ygz,yBB.pw a3),(yhJ,yDN.pw a4)] lp0
theorem yFs (e:Es) (a0 a1 a2 a3 a4):EqW (yFr e a0 a1 a2 a3 a4) 6 yHy yej (ysg a0 a1 a2 a3 a4):=fun _ _=>by kernel_rfl
theorem yFt (e:Es) (he:EG e):OkF (E e) (yej.pw ypU) ypQ:=okU he (yFs e _ _ _ _ _) (yaz (Sub.uni _) ⟨(ykB e he),(yjI e he),(yjJ e he),(ymO e he),(yoT e he),trivial⟩ trivial he.ok) ynq.flat (yaq (by kernel_rfl))
set_option linter.unusedVariables false
theorem yDW (p0:Int) (p1:Int) (r0:Int) (h:∀ K:Int→Prop,K r0→ydp p0 p1 K) (K:Int→Prop):ydp p0 p1 K=K r0 :=
 propext ⟨fun k=>detC (yjJ [] ybm) (az:=[(.int .u64 p0),(.int .u64 p1)]) (x:=(.int .u64 r0)) (fun K' k'=>h (fun r0=>K' (.int .u64 r0)) k') (K:=fun x=>match x with | (.int .u64 r0)=>K r0 | _=>False) k,h K⟩
theorem yzr (p0:Int) (p1:Int) (p2:Int) (r0:Int) (r1:Int) (r2:Int) (h:∀ K:Int→Int→Int→Prop,K r0 r1 r2→ydA p0 p1 p2 K) (K:Int→Int→Int→Prop):ydA p0 p1 p2 K=K r0 r1 r2 :=
 propext ⟨fun k=>detC (ytw [] ybm) (az:=[(.agg [(.int .u64 p0),(.int .u64 p1)]),(.int .u64 p2)]) (x:=(.tup [(.agg [(.int .u64 r0),(.int .u64 r1)]),(.int .u64 r2)])) (fun K' k'=>h (fun r0 r1 r2=>K' (.tup [(.agg [(.int .u64 r0),(.int .u64 r1)]),(.int .u64 r2)])) k') (K:=fun x=>match x with | (.tup [(.agg [(.int .u64 r0),(.int .u64 r1)]),(.int .u64 r2)])=>K r0 r1 r2 | _=>False) k,h K⟩
abbrev ygG:Type:=Int→Ls→Ls→(Bool→Prop)→Prop
def ymR (p0:Int) (p1 p2:Ls) (K:Bool→Prop):Prop :=
 (cbr (decide ((((List.length p1):Nat):Int)>(60:Int)))
 (K true)
 (K (decide ((((List.length p2):Nat):Int)>(60:Int)))))
def yfd:ygG:=ymR
def yBJ:Sg:=⟨pt14,Bool→Prop,fun K=>(fun r0=>K (.bool r0))⟩
def yBK (e:Es):SE:=sE (E e) [] lp0
theorem yBL (e:Es):EqW (yBK e) 6 yDl yBJ ymR:=fun _ _=>by kernel_rfl
theorem yBM (e:Es) (he:EG e):OkF (E e) (yBJ.pw yfd) ykg:=okU he (yBL e) (yaz (Sub.uni _) trivial trivial he.ok) ynq.flat (yaq (by kernel_rfl))
def ycQ (x0:Int→Prop) (x1:Int→Ls→Ls→Bool→Int→Bool→Prop):Nat→Int→Ls→Ls→Bool→Int→Prop
 | 0,_,_,_,_,_=>False
 | n+1,i0,l1,l2,b3,i4 =>
 (cbr (decide (i4<(((List.length l2):Nat):Int)))
 (asr (decide ((0:Int)≤(IntKind.i64.wrap (i4+(1:Int)))))
 (asr (decide ((IntKind.i64.wrap (i4+(1:Int)))<(((List.length l1):Nat):Int)))
 (asr (conf zI (List.getD l1 ((IntKind.i64.wrap (i4+(1:Int))).toNat) .nils))
 (asr (decide ((0:Int)≤i4))
 (asr (decide (i4<(((List.length l1):Nat):Int)))
 (asr (conf zI (List.getD l1 (i4.toNat) .nils))
 (cbr (decide ((yaa (List.getD l1 ((IntKind.i64.wrap (i4+(1:Int))).toNat) .nils))≤(yaa (List.getD l1 (i4.toNat) .nils))))
 (x0 (8:Int))
 (asr (decide ((0:Int)≤i4))
 (asr (decide (i4<(((List.length l2):Nat):Int)))
 (asr (conf zI (List.getD l2 (i4.toNat) .nils))
 (cbr (decide ((yaa (List.getD l2 (i4.toNat) .nils))<(0:Int)))
 (x0 (8:Int))
 (asr (decide ((0:Int)≤i4))
 (asr (decide (i4<(((List.length l2):Nat):Int)))
 (asr (conf zI (List.getD l2 (i4.toNat) .nils))
 (cbr (decide ((yaa (List.getD l2 (i4.toNat) .nils))>(12:Int)))
 (x0 (8:Int))
 (cbr b3
 (ycQ x0 x1 n i0 l1 l2 true (IntKind.i64.wrap (i4+(1:Int))))
 (asr (decide ((0:Int)≤i4))
 (asr (decide (i4<(((List.length l2):Nat):Int)))
 (asr (conf zI (List.getD l2 (i4.toNat) .nils))
 (ycQ x0 x1 n i0 l1 l2 (decide ((yaa (List.getD l2 (i4.toNat) .nils))>(0:Int))) (IntKind.i64.wrap (i4+(1:Int)))))))))))))))))))))))
 (x1 i0 l1 l2 b3 i4 false))
def ymS (p0:Int) (p1 p2:Ls) (K:Int→Prop):Prop :=
 (cbr (decide (p0>(1000:Int)))
 (K (4:Int))
 (cbr (decide ((((List.length p1):Nat):Int)>(40:Int)))
 (K (4:Int))
 (cbr (decide (p0<(1:Int)))
 (K (8:Int))
 (cbr (decide ((((List.length p1):Nat):Int)<(2:Int)))
 (K (8:Int))
 (cbr ((((List.length p2):Nat):Int) !=(IntKind.i64.wrap ((((List.length p1):Nat):Int)-(1:Int))))
 (K (8:Int))
 (asr (decide ((0:Int)<(((List.length p1):Nat):Int)))
 (asr (conf zI (List.getD p1 0 .nils))
 (cbr ((yaa (List.getD p1 0 .nils)) !=(0:Int))
 (K (8:Int))
 (asr (decide ((0:Int)≤(IntKind.i64.wrap ((((List.length p1):Nat):Int)-(1:Int)))))
 (asr (decide ((IntKind.i64.wrap ((((List.length p1):Nat):Int)-(1:Int)))<(((List.length p1):Nat):Int)))
 (asr (conf zI (List.getD p1 ((IntKind.i64.wrap ((((List.length p1):Nat):Int)-(1:Int))).toNat) .nils))
 (cbr ((yaa (List.getD p1 ((IntKind.i64.wrap ((((List.length p1):Nat):Int)-(1:Int))).toNat) .nils)) != p0)
 (K (8:Int))
 (∃ n:Nat,ycQ
 (fun a=>(K a))
 (fun c d e b f g=>(cbr (!b)
 (K (8:Int))
 (K (0:Int))))
 n p0 p1 p2 false (0:Int))))))))))))))
def ybz:yav:=ymS
def ywi (Q:Qx):Int→Prop:=(fun i0=>Q .ret [(2,.v (.int .i64 i0))] [])
def ywj (Q:Qx):Int→Ls→Ls→Bool→Int→Bool→Prop:=(fun i0 l1 l2 b3 i4 b5=>Q (.exit 0) [(1,.box (.agg [(.int .i64 i0),(.data l1),(.data l2)])),(3,.v (.bool b3)),(4,.v (.int .i64 i4)),(57,.v (.bool b5))] [])
def yoY (Q:Qx):List St:=[⟨(pS hN (fX 1 pt13 (fV 3 vB (fV 4 pt0 fN))) fN),ycQ (ywi Q) (ywj Q)⟩]
def ytx:LP:=lpS [(94526800,yoY)]
def ymT (e:Es):SE:=sE (E e) [] (ytx)
theorem yqW (e:Es) (he:EG e):SEOk (Uni (E e)) (ymT e):=yaz (Sub.uni _) trivial trivial he.ok
theorem yuW (e:Es):yct (ymT e) 5 a yrj false (yoY):=fun _=>⟨fun _=>by kernel_rfl,fun _ _=>by kernel_rfl,trivial⟩
theorem yuX (e:Es) (he:EG e):LpT (Uni (E e)) (ytx) [] 94526800 (.loop 94526800 yrj):=fun _ _ _=>yof.st (Sub.uni _) (ya3 (yqW e he) 5) (YOk.no _ _) (yaq (by kernel_rfl)) (yuW e _)
theorem yBN (e:Es):EqW (ymT e) 6 yvB ykT ymS:=fun _ _=>by kernel_rfl
theorem ymU (e:Es) (he:EG e):OkF (E e) (ykT.pw ybz) yie:=okU he (yBN e) (yqW e he) ynq.flat (ybq (l:=[(94526800,.loop 94526800 yrj)]) ⟨yuX e he,trivial⟩ (by kernel_rfl))
def ydq (x0:Int→Ls→Ls→Int→Int→Bool→Prop):Nat→Int→Ls→Ls→Int→Int→Prop
 | 0,_,_,_,_,_=>False
 | n+1,i0,l1,l2,i3,i4 =>
 (cbr (decide (i4<(((List.length l2):Nat):Int)))
 (asr (decide ((0:Int)≤i4))
 (asr (decide (i4<(((List.length l2):Nat):Int)))
 (asr (conf zI (List.getD l2 (i4.toNat) .nils))
 (asr (decide ((0:Int)≤(IntKind.i64.wrap (i4+(1:Int)))))
 (asr (decide ((IntKind.i64.wrap (i4+(1:Int)))<(((List.length l1):Nat):Int)))
 (asr (conf zI (List.getD l1 ((IntKind.i64.wrap (i4+(1:Int))).toNat) .nils))
 (asr (decide ((0:Int)≤i4))
 (asr (decide (i4<(((List.length l1):Nat):Int)))
 (asr (conf zI (List.getD l1 (i4.toNat) .nils))
 (ydq x0 n i0 l1 l2 (IntKind.i64.wrap (i3+(IntKind.i64.wrap ((yaa (List.getD l2 (i4.toNat) .nils))*(IntKind.i64.wrap ((yaa (List.getD l1 ((IntKind.i64.wrap (i4+(1:Int))).toNat) .nils))-(yaa (List.getD l1 (i4.toNat) .nils)))))))) (IntKind.i64.wrap (i4+(1:Int)))))))))))))
 (x0 i0 l1 l2 i3 i4 false))
def ymV (p0:Int) (p1 p2:Ls) (K:Int→Prop):Prop :=
 (∃ n:Nat,ydq
 (fun b c d a e f=>(K a))
 n p0 p1 p2 (0:Int) (0:Int))
def yaY:yav:=ymV
def ywk (Q:Qx):Int→Ls→Ls→Int→Int→Bool→Prop:=(fun i0 l1 l2 i3 i4 b5=>Q (.exit 0) [(1,.box (.agg [(.int .i64 i0),(.data l1),(.data l2)])),(3,.v (.int .i64 i3)),(4,.v (.int .i64 i4)),(9,.v (.bool b5))] [])
def yoZ (Q:Qx):List St:=[⟨(pS hN (fX 1 pt13 (fV 3 pt0 (fV 4 pt0 fN))) fN),ydq (ywk Q)⟩]
def yty:LP:=lpS [(21661800,yoZ)]
def ymW (e:Es):SE:=sE (E e) [] (yty)
theorem yqX (e:Es) (he:EG e):SEOk (Uni (E e)) (ymW e):=yaz (Sub.uni _) trivial trivial he.ok
theorem yuY (e:Es):yct (ymW e) 5 a yrK false (yoZ):=fun _=>⟨fun _=>by kernel_rfl,fun _ _=>by kernel_rfl,trivial⟩
theorem yuZ (e:Es) (he:EG e):LpT (Uni (E e)) (yty) [] 21661800 (.loop 21661800 yrK):=fun _ _ _=>yof.st (Sub.uni _) (ya3 (yqX e he) 5) (YOk.no _ _) (yaq (by kernel_rfl)) (yuY e _)
theorem yBO (e:Es):EqW (ymW e) 6 yvF ykT ymV:=fun _ _=>by kernel_rfl
theorem ytz (e:Es) (he:EG e):OkF (E e) (ykT.pw yaY) ykp:=okU he (yBO e) (yqX e he) ynq.flat (ybq (l:=[(21661800,.loop 21661800 yrK)]) ⟨yuZ e he,trivial⟩ (by kernel_rfl))
abbrev ygH:Type:=Int→Int→Int→(Bool→Prop)→Prop
def ymX (a0:yay) (a1:yax) (a2:yap) (p0 p1 p2:Int) (K:Bool→Prop):Prop :=
 (a0 p1 p2 (fun a =>
 (cbr (a ==(0:Int))
 (cbr (decide (p1≥(0:Int)))
 (a1 p0 (fun b c =>
 (a2 b c p1 p2 (fun d =>
 (K (!d))))))
 (K false))
 (K false))))
def yfe:ygH:=ymX yaX yoO yaG
def yBP:Sg:=⟨(lC pt0 pt8),Bool→Prop,fun K=>(fun r0=>K (.bool r0))⟩
def yBQ (e:Es) (a0:yay) (a1:yax) (a2:yap):SE:=sE (E e) [(ygy,yor.pw a0),(ylt,yh6.pw a1),(ydF,ytd.pw a2)] lp0
theorem yBR (e:Es) (a0 a1 a2):EqW (yBQ e a0 a1 a2) 6 yDA yBP (ymX a0 a1 a2):=fun _ _=>by kernel_rfl
theorem yBS (e:Es) (he:EG e):OkF (E e) (yBP.pw yfe) ykq:=okU he (yBR e _ _ _) (yaz (Sub.uni _) ⟨(ymM e he),(yuT e he),(yfc e he),trivial⟩ trivial he.ok) ynq.flat (yaq (by kernel_rfl))
def ymY (a0:yap) (p0 p1 p2 p3:Int) (K:Int→Int→Prop):Prop :=
 (a0 p0 p1 p2 p3 (fun a =>
 (cbr a
 (K p2 p3)
 (K p0 p1))))
def ykC:yaV:=ymY yaG
def ytA:Sg:=⟨pt11,Int→Int→Prop,fun K=>(fun r0 r1=>K (.agg [(.int .i64 r0),(.int .i64 r1)]))⟩
def yBT (e:Es) (a0:yap):SE:=sE (E e) [(ydF,ytd.pw a0)] lp0
theorem yBU (e:Es) (a0):EqW (yBT e a0) 6 yDB ytA (ymY a0):=fun _ _=>by kernel_rfl
theorem yBV (e:Es) (he:EG e):OkF (E e) (ytA.pw ykC) ykr:=okU he (yBU e _) (yaz (Sub.uni _) ⟨(yfc e he),trivial⟩ trivial he.ok) ynq.flat (yaq (by kernel_rfl))
def yk6 (a0:yap) (p0 p1 p2 p3:Int) (K:Int→Int→Prop):Prop :=
 (a0 p0 p1 p2 p3 (fun a =>
 (cbr a
 (K p0 p1)
 (K p2 p3))))
def yiW:yaV:=yk6 yaG
def yzs (e:Es) (a0:yap):SE:=sE (E e) [(ydF,ytd.pw a0)] lp0
theorem yzt (e:Es) (a0):EqW (yzs e a0) 6 yBa ytA (yk6 a0):=fun _ _=>by kernel_rfl
theorem yzu (e:Es) (he:EG e):OkF (E e) (ytA.pw yiW) yiR:=okU he (yzt e _) (yaz (Sub.uni _) ⟨(yfc e he),trivial⟩ trivial he.ok) ynq.flat (yaq (by kernel_rfl))
abbrev ygI:Type:=Int→Ls→Ls→Int→Int→Int→Int→Int→(Int→Int→Int→Prop)→Prop
def ymZ (a0:yax) (a1:yaV) (a2:yaV) (a3:yap) (a4:yal) (a5:yal) (p0:Int) (p1 p2:Ls) (p3 p4 p5 p6 p7:Int) (K:Int→Int→Int→Prop):Prop :=
 (asr (decide ((0:Int)≤p3))
 (asr (decide (p3<(((List.length p1):Nat):Int)))
 (asr (conf zI (List.getD p1 (p3.toNat) .nils))
 (a0 (yaa (List.getD p1 (p3.toNat) .nils)) (fun f g =>
 (a1 p4 p5 f g (fun a b =>
 (asr (decide ((0:Int)≤(IntKind.i64.wrap (p3+(1:Int)))))
 (asr (decide ((IntKind.i64.wrap (p3+(1:Int)))<(((List.length p1):Nat):Int)))
 (asr (conf zI (List.getD p1 ((IntKind.i64.wrap (p3+(1:Int))).toNat) .nils))
 (a0 (yaa (List.getD p1 ((IntKind.i64.wrap (p3+(1:Int))).toNat) .nils)) (fun h i =>
 (a2 p6 p7 h i (fun c d =>
 (a3 a b c d (fun j =>
 (cbr (!j)
 (K (0:Int) (1:Int) (0:Int))
 (asr (decide ((0:Int)≤p3))
 (asr (decide (p3<(((List.length p2):Nat):Int)))
 (asr (conf zI (List.getD p2 (p3.toNat) .nils))
 (cbr ((yaa (List.getD p2 (p3.toNat) .nils)) ==(0:Int))
 (K (0:Int) (1:Int) (0:Int))
 (a4 c d a b (fun k l e =>
 (cbr (e !=(0:Int))
 (K (0:Int) (0:Int) e)
 (asr (decide ((0:Int)≤p3))
 (asr (decide (p3<(((List.length p2):Nat):Int)))
 (asr (conf zI (List.getD p2 (p3.toNat) .nils))
 (a0 (yaa (List.getD p2 (p3.toNat) .nils)) (fun m n =>
 (a5 k l m n (fun o p q =>
 (K o p q))))))))))))))))))))))))))))))))
def yff:ygI:=ymZ yoO ykC yiW yaG ypT ypU
def yBW:Sg:=⟨(lC pt13 (lC pt0 pt11)),Int→Int→Int→Prop,fun K=>(fun r0 r1 r2=>K (.tup [(.agg [(.int .i64 r0),(.int .i64 r1)]),(.int .i64 r2)]))⟩
def yBX (e:Es) (a0:yax) (a1:yaV) (a2:yaV) (a3:yap) (a4:yal) (a5:yal):SE:=sE (E e) [(ylt,yh6.pw a0),(ykr,ytA.pw a1),(yiR,ytA.pw a2),(ydF,ytd.pw a3),(ypP,yej.pw a4),(ypQ,yej.pw a5)] lp0
theorem yBY (e:Es) (a0 a1 a2 a3 a4 a5):EqW (yBX e a0 a1 a2 a3 a4 a5) 6 yDD yBW (ymZ a0 a1 a2 a3 a4 a5):=fun _ _=>by kernel_rfl
theorem yBZ (e:Es) (he:EG e):OkF (E e) (yBW.pw yff) yku:=okU he (yBY e _ _ _ _ _ _) (yaz (Sub.uni _) ⟨(yuT e he),(yBV e he),(yzu e he),(yfc e he),(yFq e he),(yFt e he),trivial⟩ trivial he.ok) ynq.flat (yaq (by kernel_rfl))
def ydr (a0:yav) (a1:ygH) (a2:yap) (a3:ygI) (a4:yal) (x0:Int→Int→Int→Prop) (x1:Int→Ls→Ls→Int→Int→Int→Int→Int→Int→Int→Int→Int→Bool→Prop):Nat→Int→Ls→Ls→Int→Int→Int→Int→Int→Int→Int→Int→Int→Prop
 | 0,_,_,_,_,_,_,_,_,_,_,_,_=>False
 | n+1,i0,l1,l2,i3,i4,i5,i6,i7,i8,i9,i10,i11 =>
 (cbr (decide (i11<(((List.length l2):Nat):Int)))
 (a3 i0 l1 l2 i11 i3 i4 i5 i6 (fun c d a =>
 (cbr (a !=(0:Int))
 (x0 (0:Int) (0:Int) a)
 (a4 i9 i10 c d (fun e f b =>
 (cbr (b !=(0:Int))
 (x0 (0:Int) (0:Int) b)
 (ydr a0 a1 a2 a3 a4 x0 x1 n i0 l1 l2 i3 i4 i5 i6 i7 i8 e f (IntKind.i64.wrap (i11+(1:Int))))))))))
 (x1 i0 l1 l2 i3 i4 i5 i6 i7 i8 i9 i10 i11 false))
def ym0 (a0:yav) (a1:ygH) (a2:yap) (a3:ygI) (a4:yal) (p0:Int) (p1 p2:Ls) (p3 p4 p5 p6:Int) (K:Int→Int→Int→Prop):Prop :=
 (a0 p0 p1 p2 (fun a =>
 (cbr (a !=(0:Int))
 (a0 p0 p1 p2 (fun b =>
 (K (0:Int) (0:Int) b)))
 (a1 p0 p3 p4 (fun c =>
 (cbr (!c)
 (K (0:Int) (0:Int) (2:Int))
 (a1 p0 p5 p6 (fun d =>
 (cbr (!d)
 (K (0:Int) (0:Int) (2:Int))
 (a2 p5 p6 p3 p4 (fun e =>
 (cbr e
 (K (0:Int) (0:Int) (2:Int))
 (∃ n:Nat,ydr a0 a1 a2 a3 a4
 (fun f g h=>(K f g h))
 (fun k l m o p q r s t i j u v=>(K i j (0:Int)))
 n p0 p1 p2 p3 p4 p5 p6 (0:Int) (0:Int) (0:Int) (1:Int) (0:Int))))))))))))))
def yaN:yby:=ym0 ybz yfe yaG yff ygF
def ywl (Q:Qx):Int→Int→Int→Prop:=(fun i0 i1 i2=>Q .ret [(6,.box (.agg [(.int .i64 i0),(.int .i64 i1)])),(7,.v (.int .i64 i2))] [])
def ywm (Q:Qx):Int→Ls→Ls→Int→Int→Int→Int→Int→Int→Int→Int→Int→Bool→Prop:=(fun i0 l1 l2 i3 i4 i5 i6 i7 i8 i9 i10 i11 b12=>Q (.exit 0) [(3,.box (.agg [(.int .i64 i0),(.data l1),(.data l2)])),(4,.box (.agg [(.int .i64 i3),(.int .i64 i4)])),(5,.box (.agg [(.int .i64 i5),(.int .i64 i6)])),(6,.box (.agg [(.int .i64 i7),(.int .i64 i8)])),(8,.box (.agg [(.int .i64 i9),(.int .i64 i10)])),(9,.v (.int .i64 i11)),(41,.v (.bool b12))] [])
def yo0 (a0:yav) (a1:ygH) (a2:yap) (a3:ygI) (a4:yal) (Q:Qx):List St:=[⟨(pS hN (fX 3 pt13 (fX 4 pt7 (fX 5 pt7 (fX 6 pt7 (fX 8 pt7 (fV 9 pt0 fN)))))) fN),ydr a0 a1 a2 a3 a4 (ywl Q) (ywm Q)⟩]
def ytB (a0:yav) (a1:ygH) (a2:yap) (a3:ygI) (a4:yal):LP:=lpS [(92446900,yo0 a0 a1 a2 a3 a4)]
def ym1 (e:Es) (a0:yav) (a1:ygH) (a2:yap) (a3:ygI) (a4:yal):SE:=sE (E e) [(yie,ykT.pw a0),(ykq,yBP.pw a1),(ydF,ytd.pw a2),(yku,yBW.pw a3),(ylv,yej.pw a4)] (ytB a0 a1 a2 a3 a4)
theorem yqY (e:Es) (he:EG e):SEOk (Uni (E e)) (ym1 e ybz yfe yaG yff ygF):=yaz (Sub.uni _) ⟨(ymU e he),(yBS e he),(yfc e he),(yBZ e he),(yyf e he),trivial⟩ trivial he.ok
theorem yu0 (e:Es) (a0 a1 a2 a3 a4):yct (ym1 e a0 a1 a2 a3 a4) 5 a yrM false (yo0 a0 a1 a2 a3 a4):=fun _=>⟨fun _=>by kernel_rfl,fun _ _=>by kernel_rfl,trivial⟩
theorem yu1 (e:Es) (he:EG e):LpT (Uni (E e)) (ytB ybz yfe yaG yff ygF) [] 92446900 (.loop 92446900 yrM):=fun _ _ _=>yof.st (Sub.uni _) (ya3 (yqY e he) 5) (YOk.no _ _) (yaq (by kernel_rfl)) (yu0 e _ _ _ _ _ _)
theorem yB0 (e:Es) (a0 a1 a2 a3 a4):EqW (ym1 e a0 a1 a2 a3 a4) 6 yvH ymC (ym0 a0 a1 a2 a3 a4):=fun _ _=>by kernel_rfl
theorem ytC (e:Es) (he:EG e):OkF (E e) (ymC.pw yaN) ykv:=okU he (yB0 e _ _ _ _ _) (yqY e he) ynq.flat (ybq (l:=[(92446900,.loop 92446900 yrM)]) ⟨yu1 e he,trivial⟩ (by kernel_rfl))
set_option linter.unusedVariables false
theorem yzv (p0:Int) (p1:Ls) (p2:Ls) (r0:Int) (h:∀ K:Int→Prop,K r0→ybz p0 p1 p2 K) (K:Int→Prop):ybz p0 p1 p2 K=K r0 :=
 propext ⟨fun k=>detC (ymU [] ybm) (az:=[(.agg [(.int .i64 p0),(.data p1),(.data p2)])]) (x:=(.int .i64 r0)) (fun K' k'=>h (fun r0=>K' (.int .i64 r0)) k') (K:=fun x=>match x with | (.int .i64 r0)=>K r0 | _=>False) k,h K⟩
theorem yzw (p0:Int) (p1:Ls) (p2:Ls) (r0:Int) (h:∀ K:Int→Prop,K r0→yaY p0 p1 p2 K) (K:Int→Prop):yaY p0 p1 p2 K=K r0 :=
 propext ⟨fun k=>detC (ytz [] ybm) (az:=[(.agg [(.int .i64 p0),(.data p1),(.data p2)])]) (x:=(.int .i64 r0)) (fun K' k'=>h (fun r0=>K' (.int .i64 r0)) k') (K:=fun x=>match x with | (.int .i64 r0)=>K r0 | _=>False) k,h K⟩
theorem yzx (p0:Int) (p1:Ls) (p2:Ls) (p3:Int) (p4:Int) (p5:Int) (p6:Int) (r0:Int) (r1:Int) (r2:Int) (h:∀ K:Int→Int→Int→Prop,K r0 r1 r2→yaN p0 p1 p2 p3 p4 p5 p6 K) (K:Int→Int→Int→Prop):yaN p0 p1 p2 p3 p4 p5 p6 K=K r0 r1 r2 :=
 propext ⟨fun k=>detC (ytC [] ybm) (az:=[(.agg [(.int .i64 p0),(.data p1),(.data p2)]),(.agg [(.int .i64 p3),(.int .i64 p4)]),(.agg [(.int .i64 p5),(.int .i64 p6)])]) (x:=(.tup [(.agg [(.int .i64 r0),(.int .i64 r1)]),(.int .i64 r2)])) (fun K' k'=>h (fun r0 r1 r2=>K' (.tup [(.agg [(.int .i64 r0),(.int .i64 r1)]),(.int .i64 r2)])) k') (K:=fun x=>match x with | (.tup [(.agg [(.int .i64 r0),(.int .i64 r1)]),(.int .i64 r2)])=>K r0 r1 r2 | _=>False) k,h K⟩
abbrev ybc:Type:=Ls→(Bool→Prop)→Prop
def ybY (a0:ygG) (x0:Bool→Prop) (x1:Ls→Int→Bool→Prop):Nat→Ls→Int→Prop
 | 0,_,_=>False
 | n+1,l0,i1 =>
 (cbr (decide (i1<(((List.length l0):Nat):Int)))
 (asr (decide ((0:Int)≤i1))
 (asr (decide (i1<(((List.length l0):Nat):Int)))
 (asr (conf zK (List.getD l0 (i1.toNat) .nils))
 (a0 (yaa (yab (List.getD l0 (i1.toNat) .nils) 0)) (yaM (yab (List.getD l0 (i1.toNat) .nils) 1)) (yaM (yab (List.getD l0 (i1.toNat) .nils) 2)) (fun a =>
 (cbr a
 (x0 true)
 (ybY a0 x0 x1 n l0 (IntKind.i64.wrap (i1+(1:Int))))))))))
 (x1 l0 i1 false))
def yhb (a0:ygG) (p0:Ls) (K:Bool→Prop):Prop :=
 (∃ n:Nat,ybY a0
 (fun a=>(K a))
 (fun b c d=>(K (decide ((((List.length b):Nat):Int)>(10:Int)))))
 n p0 (0:Int))
def ydd:ybc:=yhb yfd
def yhc:Sg:=⟨pt9,Bool→Prop,fun K=>(fun r0=>K (.bool r0))⟩
def yo1 (Q:Qx):Bool→Prop:=(fun b0=>Q .ret [(2,.v (.bool b0))] [])
def yo2 (Q:Qx):Ls→Int→Bool→Prop:=(fun l0 i1 b2=>Q (.exit 0) [(0,.v (.data l0)),(3,.v (.int .i64 i1)),(7,.v (.bool b2))] [])
def yiB (a0:ygG) (Q:Qx):List St:=[⟨(pS hN (fV 0 vD (fV 3 pt0 fN)) fN),ybY a0 (yo1 Q) (yo2 Q)⟩]
def ykD (a0:ygG):LP:=lpS [(4277600,yiB a0)]
def yhd (e:Es) (a0:ygG):SE:=sE (E e) [(ykg,yBJ.pw a0)] (ykD a0)
theorem yjL (e:Es) (he:EG e):SEOk (Uni (E e)) (yhd e yfd):=yaz (Sub.uni _) ⟨(yBM e he),trivial⟩ trivial he.ok
theorem ynR (e:Es) (a0):yct (yhd e a0) 5 a yun false (yiB a0):=fun _=>⟨fun _=>by kernel_rfl,fun _ _=>by kernel_rfl,trivial⟩
theorem ynS (e:Es) (he:EG e):LpT (Uni (E e)) (ykD yfd) [] 4277600 (.loop 4277600 yun):=fun _ _ _=>yof.st (Sub.uni _) (ya3 (yjL e he) 5) (YOk.no _ _) (yaq (by kernel_rfl)) (ynR e _ _)
theorem ytD (e:Es) (a0):EqW (yhd e a0) 6 ylw yhc (yhb a0):=fun _ _=>by kernel_rfl
theorem ykE (e:Es) (he:EG e):OkF (E e) (yhc.pw ydd) yfr:=okU he (ytD e _) (yjL e he) ynq.flat (ybq (l:=[(4277600,.loop 4277600 yun)]) ⟨ynS e he,trivial⟩ (by kernel_rfl))
def yds (a0:yav) (a:Int→Prop) (b:Ls→Ls→Int→Bool→Prop):Nat→Ls→Ls→Int→Prop
 | 0,_,_,_=>False
 | c+1,l0,l1,i2 =>
 (cbr (decide (i2<(((List.length l0):Nat):Int)))
 (asr (decide ((0:Int)≤i2))
 (asr (decide (i2<(((List.length l0):Nat):Int)))
 (asr (conf zK (List.getD l0 (i2.toNat) .nils))
 (a0 (yaa (yab (List.getD l0 (i2.toNat) .nils) 0)) (yaM (yab (List.getD l0 (i2.toNat) .nils) 1)) (yaM (yab (List.getD l0 (i2.toNat) .nils) 2)) (fun d =>
 (cbr (d !=(0:Int))
 (asr (decide ((0:Int)≤i2))
 (asr (decide (i2<(((List.length l0):Nat):Int)))
 (asr (conf zK (List.getD l0 (i2.toNat) .nils))
 (a0 (yaa (yab (List.getD l0 (i2.toNat) .nils) 0)) (yaM (yab (List.getD l0 (i2.toNat) .nils) 1)) (yaM (yab (List.getD l0 (i2.toNat) .nils) 2)) (fun e =>
 (a e))))))
 (yds a0 a b c l0 l1 (IntKind.i64.wrap (i2+(1:Int))))))))))
 (b l0 l1 i2 false))
def ycR (a0:yav) (a:Int→Prop) (b:Ls→Ls→Int→Bool→Prop):Nat→Ls→Ls→Int→Prop
 | 0,_,_,_=>False
 | c+1,l0,l1,i2 =>
 (cbr (decide (i2<(((List.length l0):Nat):Int)))
 (asr (decide ((0:Int)≤i2))
 (asr (decide (i2<(((List.length l0):Nat):Int)))
 (asr (conf zK (List.getD l0 (i2.toNat) .nils))
 (asr (decide ((0:Int)<(((List.length l0):Nat):Int)))
 (asr (conf zK (List.getD l0 0 .nils))
 (cbr ((yaa (yab (List.getD l0 (i2.toNat) .nils) 0)) !=(yaa (yab (List.getD l0 0 .nils) 0)))
 (a (8:Int))
 (ycR a0 a b c l0 l1 (IntKind.i64.wrap (i2+(1:Int))))))))))
 (b l0 l1 i2 false))
def ym2 (a0:yav) (p0 p1:Ls) (K:Int→Prop):Prop :=
 (cbr (decide ((((List.length p0):Nat):Int)>(6:Int)))
 (K (4:Int))
 (cbr (decide ((((List.length p1):Nat):Int)>(2000:Int)))
 (K (4:Int))
 (cbr ((((List.length p0):Nat):Int) ==(0:Int))
 (K (8:Int))
 (∃ a:Nat,yds a0
 (fun b=>(K b))
 (fun c d g h=>(∃ e:Nat,ycR a0
 (fun f=>(K f))
 (fun i j k l=>(K (0:Int)))
 e c d (0:Int)))
 a p0 p1 (0:Int)))))
def yfg:yat:=ym2 ybz
def ywn (Q:Qx):Int→Prop:=(fun i0=>Q .ret [(2,.v (.int .i64 i0))] [])
def ywo (Q:Qx):Ls→Ls→Int→Bool→Prop:=(fun l0 l1 i2 b3=>Q (.exit 0) [(1,.box (.agg [(.data l0),(.data l1)])),(3,.v (.int .i64 i2)),(23,.v (.bool b3))] [])
def ywp (Q:Qx):Int→Prop:=(fun i0=>Q .ret [(2,.v (.int .i64 i0))] [])
def ywq (Q:Qx):Ls→Ls→Int→Bool→Prop:=(fun l0 l1 i2 b3=>Q (.exit 2) [(1,.box (.agg [(.data l0),(.data l1)])),(4,.v (.int .i64 i2)),(43,.v (.bool b3))] [])
def yo3 (a0:yav) (Q:Qx):List St:=[⟨(pS hN (fX 1 pt25 (fV 3 pt0 fN)) fN),yds a0 (ywn Q) (ywo Q)⟩]
def yo4 (a0:yav) (Q:Qx):List St:=[⟨(pS hN (fX 1 pt25 (fV 4 pt0 fN)) fN),ycR a0 (ywp Q) (ywq Q)⟩]
def ym3 (a0:yav):LP:=lpS [(6981300,yo3 a0),(6981301,yo4 a0)]
def yiX (e:Es) (a0:yav):SE:=sE (E e) [(yie,ykT.pw a0)] (ym3 a0)
theorem yk7 (e:Es) (he:EG e):SEOk (Uni (E e)) (yiX e ybz):=yaz (Sub.uni _) ⟨(ymU e he),trivial⟩ trivial he.ok
theorem yu2 (e:Es) (a0):yct (yiX e a0) 5 a yuo false (yo3 a0):=fun _=>⟨fun _=>by kernel_rfl,fun _ _=>by kernel_rfl,trivial⟩
theorem yu3 (e:Es) (he:EG e):LpT (Uni (E e)) (ym3 ybz) [] 6981300 (.loop 6981300 yuo):=fun _ _ _=>yof.st (Sub.uni _) (ya3 (yk7 e he) 5) (YOk.no _ _) (yaq (by kernel_rfl)) (yu2 e _ _)
theorem yu4 (e:Es) (a0):yct (yiX e a0) 5 a yup false (yo4 a0):=fun _=>⟨fun _=>by kernel_rfl,fun _ _=>by kernel_rfl,trivial⟩
theorem yu5 (e:Es) (he:EG e):LpT (Uni (E e)) (ym3 ybz) [] 6981301 (.loop 6981301 yup):=fun _ _ _=>yof.st (Sub.uni _) (ya3 (yk7 e he) 5) (YOk.no _ _) (yaq (by kernel_rfl)) (yu4 e _ _)
theorem yB1 (e:Es) (a0):EqW (yiX e a0) 6 yok ymH (ym2 a0):=fun _ _=>by kernel_rfl
theorem ytE (e:Es) (he:EG e):OkF (E e) (ymH.pw yfg) ykh:=okU he (yB1 e _) (yk7 e he) ynq.flat (ybq (l:=[(6981300,.loop 6981300 yuo),(6981301,.loop 6981301 yup)]) ⟨yu3 e he,yu5 e he,trivial⟩ (by kernel_rfl))
set_option linter.unusedVariables false
theorem ysh (p0:Ls) (r0:Bool) (h:∀ K:Bool→Prop,K r0→ydd p0 K) (K:Bool→Prop):ydd p0 K=K r0 :=
 propext ⟨fun k=>detC (ykE [] ybm) (az:=[(.data p0)]) (x:=(.bool r0)) (fun K' k'=>h (fun r0=>K' (.bool r0)) k') (K:=fun x=>match x with | (.bool r0)=>K r0 | _=>False) k,h K⟩
theorem yzy (p0:Ls) (p1:Ls) (r0:Int) (h:∀ K:Int→Prop,K r0→yfg p0 p1 K) (K:Int→Prop):yfg p0 p1 K=K r0 :=
 propext ⟨fun k=>detC (ytE [] ybm) (az:=[(.agg [(.data p0),(.data p1)])]) (x:=(.int .i64 r0)) (fun K' k'=>h (fun r0=>K' (.int .i64 r0)) k') (K:=fun x=>match x with | (.int .i64 r0)=>K r0 | _=>False) k,h K⟩
abbrev yem:Type:=Ls→Ls→(Bool→Prop)→Prop
def ydV (x0:Bool→Prop) (x1:Ls→Ls→Int→Bool→Prop):Nat→Ls→Ls→Int→Prop
 | 0,_,_,_=>False
 | n+1,l0,l1,i2 =>
 (cbr (decide (i2<(((List.length l0):Nat):Int)))
 (asr (decide ((0:Int)≤i2))
 (asr (decide (i2<(((List.length l0):Nat):Int)))
 (asr (conf z4 (List.getD l0 (i2.toNat) .nils))
 (asr (decide ((0:Int)≤i2))
 (asr (decide (i2<(((List.length l1):Nat):Int)))
 (asr (conf z4 (List.getD l1 (i2.toNat) .nils))
 (cbr (!(((yaa (yab (List.getD l0 (i2.toNat) .nils) 0)) ==(yaa (yab (List.getD l1 (i2.toNat) .nils) 0)))&&(((yaa (yab (List.getD l0 (i2.toNat) .nils) 1)) ==(yaa (yab (List.getD l1 (i2.toNat) .nils) 1)))&&(((yaa (yab (List.getD l0 (i2.toNat) .nils) 2)) ==(yaa (yab (List.getD l1 (i2.toNat) .nils) 2)))&&(((yaa (yab (List.getD l0 (i2.toNat) .nils) 3)) ==(yaa (yab (List.getD l1 (i2.toNat) .nils) 3)))&&true)))))
 (x0 false)
 (ydV x0 x1 n l0 l1 (IntKind.i64.wrap (i2+(1:Int)))))))))))
 (x1 l0 l1 i2 false))
def yo5 (p0 p1:Ls) (K:Bool→Prop):Prop :=
 (cbr ((((List.length p0):Nat):Int) !=(((List.length p1):Nat):Int))
 (K false)
 (∃ n:Nat,ydV
 (fun a=>(K a))
 (fun b c d e=>(K true))
 n p0 p1 (0:Int)))
def ydI:yem:=yo5
def yDX:Sg:=⟨(lC vD pt9),Bool→Prop,fun K=>(fun r0=>K (.bool r0))⟩
def yyg (Q:Qx):Bool→Prop:=(fun b0=>Q .ret [(4,.v (.bool b0))] [])
def yyh (Q:Qx):Ls→Ls→Int→Bool→Prop:=(fun l0 l1 i2 b3=>Q (.exit 0) [(0,.v (.data l0)),(1,.v (.data l1)),(5,.v (.int .i64 i2)),(14,.v (.bool b3))] [])
def yqZ (Q:Qx):List St:=[⟨(pS hN (fV 0 vD (fV 1 vD (fV 5 pt0 fN))) fN),ydV (yyg Q) (yyh Q)⟩]
def yvO:LP:=lpS [(27088800,yqZ)]
def yo6 (e:Es):SE:=sE (E e) [] (yvO)
theorem ytF (e:Es) (he:EG e):SEOk (Uni (E e)) (yo6 e):=yaz (Sub.uni _) trivial trivial he.ok
theorem ywr (e:Es):yct (yo6 e) 5 a yrH false (yqZ):=fun _=>⟨fun _=>by kernel_rfl,fun _ _=>by kernel_rfl,trivial⟩
theorem yws (e:Es) (he:EG e):LpT (Uni (E e)) (yvO) [] 27088800 (.loop 27088800 yrH):=fun _ _ _=>yof.st (Sub.uni _) (ya3 (ytF e he) 5) (YOk.no _ _) (yaq (by kernel_rfl)) (ywr e _)
theorem yDY (e:Es):EqW (yo6 e) 6 yxR yDX yo5:=fun _ _=>by kernel_rfl
theorem yvP (e:Es) (he:EG e):OkF (E e) (yDX.pw ydI) ymi:=okU he (yDY e) (ytF e he) ynq.flat (ybq (l:=[(27088800,.loop 27088800 yrH)]) ⟨yws e he,trivial⟩ (by kernel_rfl))
def ydW (a0:yem) (x0:Bool→Prop) (x1:Ls→Ls→Int→Bool→Prop):Nat→Ls→Ls→Int→Prop
 | 0,_,_,_=>False
 | n+1,l0,l1,i2 =>
 (cbr (decide (i2<(((List.length l0):Nat):Int)))
 (asr (decide ((0:Int)≤i2))
 (asr (decide (i2<(((List.length l0):Nat):Int)))
 (asr (conf zD (List.getD l0 (i2.toNat) .nils))
 (asr (decide ((0:Int)≤i2))
 (asr (decide (i2<(((List.length l1):Nat):Int)))
 (asr (conf zD (List.getD l1 (i2.toNat) .nils))
 (a0 (yaM (List.getD l0 (i2.toNat) .nils)) (yaM (List.getD l1 (i2.toNat) .nils)) (fun a =>
 (cbr (!a)
 (x0 false)
 (ydW a0 x0 x1 n l0 l1 (IntKind.i64.wrap (i2+(1:Int)))))))))))))
 (x1 l0 l1 i2 false))
def yo7 (a0:yem) (p0 p1:Ls) (K:Bool→Prop):Prop :=
 (cbr ((((List.length p0):Nat):Int) !=(((List.length p1):Nat):Int))
 (K false)
 (∃ n:Nat,ydW a0
 (fun a=>(K a))
 (fun b c d e=>(K true))
 n p0 p1 (0:Int)))
def ygp:yem:=yo7 ydI
def yDZ:Sg:=⟨(lC (vA pt9) (lC (vA pt9) lN)),Bool→Prop,fun K=>(fun r0=>K (.bool r0))⟩
def yyi (Q:Qx):Bool→Prop:=(fun b0=>Q .ret [(4,.v (.bool b0))] [])
def yyj (Q:Qx):Ls→Ls→Int→Bool→Prop:=(fun l0 l1 i2 b3=>Q (.exit 0) [(2,.box (.agg [(.data l0)])),(3,.box (.agg [(.data l1)])),(5,.v (.int .i64 i2)),(17,.v (.bool b3))] [])
def yq0 (a0:yem) (Q:Qx):List St:=[⟨(pS hN (fX 2 (vA pt9) (fX 3 (vA pt9) (fV 5 pt0 fN))) fN),ydW a0 (yyi Q) (yyj Q)⟩]
def yvQ (a0:yem):LP:=lpS [(70742100,yq0 a0)]
def yo8 (e:Es) (a0:yem):SE:=sE (E e) [(ymi,yDX.pw a0)] (yvQ a0)
theorem ytG (e:Es) (he:EG e):SEOk (Uni (E e)) (yo8 e ydI):=yaz (Sub.uni _) ⟨(yvP e he),trivial⟩ trivial he.ok
theorem ywt (e:Es) (a0):yct (yo8 e a0) 5 a yrI false (yq0 a0):=fun _=>⟨fun _=>by kernel_rfl,fun _ _=>by kernel_rfl,trivial⟩
theorem ywu (e:Es) (he:EG e):LpT (Uni (E e)) (yvQ ydI) [] 70742100 (.loop 70742100 yrI):=fun _ _ _=>yof.st (Sub.uni _) (ya3 (ytG e he) 5) (YOk.no _ _) (yaq (by kernel_rfl)) (ywt e _ _)
theorem yD0 (e:Es) (a0):EqW (yo8 e a0) 6 yxS yDZ (yo7 a0):=fun _ _=>by kernel_rfl
theorem yvR (e:Es) (he:EG e):OkF (E e) (yDZ.pw ygp) ymj:=okU he (yD0 e _) (ytG e he) ynq.flat (ybq (l:=[(70742100,.loop 70742100 yrI)]) ⟨ywu e he,trivial⟩ (by kernel_rfl))
def ym4 (a0:yaI) (a1:yap) (p0 p1 p2 p3:Int) (K:Bool→Prop):Prop :=
 (jn (fun (a:Bool→Prop) =>
 (a0 p0 p1 p2 p3 (fun b =>
 (cbr (b ==(0:Int))
 (a1 p0 p1 p2 p3 (fun c =>
 (a c)))
 (a false)))))
 (fun d=>(K d)))
def yaS:yap:=ym4 ygm yaG
def yB2 (e:Es) (a0:yaI) (a1:yap):SE:=sE (E e) [(ygd,yjB.pw a0),(ydF,ytd.pw a1)] lp0
theorem yB3 (e:Es) (a0 a1):EqW (yB2 e a0 a1) 6 yDz yoF (ym4 a0 a1):=fun _ _=>by kernel_rfl
theorem yB4 (e:Es) (he:EG e):OkF (E e) (yoF.pw yaS) yko:=okU he (yB3 e _ _) (yaz (Sub.uni _) ⟨(ykB e he),(yfc e he),trivial⟩ trivial he.ok) ynq.flat (yaq (by kernel_rfl))
set_option linter.unusedVariables false
theorem yB5 (p0:Ls) (p1:Ls) (r0:Bool) (h:∀ K:Bool→Prop,K r0→ydI p0 p1 K) (K:Bool→Prop):ydI p0 p1 K=K r0 :=
 propext ⟨fun k=>detC (yvP [] ybm) (az:=[(.data p0),(.data p1)]) (x:=(.bool r0)) (fun K' k'=>h (fun r0=>K' (.bool r0)) k') (K:=fun x=>match x with | (.bool r0)=>K r0 | _=>False) k,h K⟩
theorem yB6 (p0:Ls) (p1:Ls) (r0:Bool) (h:∀ K:Bool→Prop,K r0→ygp p0 p1 K) (K:Bool→Prop):ygp p0 p1 K=K r0 :=
 propext ⟨fun k=>detC (yvR [] ybm) (az:=[(.agg [(.data p0)]),(.agg [(.data p1)])]) (x:=(.bool r0)) (fun K' k'=>h (fun r0=>K' (.bool r0)) k') (K:=fun x=>match x with | (.bool r0)=>K r0 | _=>False) k,h K⟩
set_option maxHeartbeats 0
def yhS (a0:yat) (p0 p1:Ls) (K:Int→Prop):Prop :=
 (a0 p0 p1 (fun a =>
 (cbr (a !=(0:Int))
 (K a)
 (cbr ((((List.length p0):Nat):Int) !=(3:Int))
 (K (2:Int))
 (K (0:Int))))))
def yao:yat:=yhS yc4
def yu6 (e:Es) (a0:yat):SE:=sE (E e) [(yeX,ymH.pw a0)] lp0
theorem yu7 (e:Es) (a0):EqW (yu6 e a0) 6 yv1 ymH (yhS a0):=fun _ _=>by kernel_rfl
theorem yhT (e:Es) (he:EG e):OkF (E e) (ymH.pw yao) ydk:=okU he (yu7 e _) (yaz (Sub.uni _) ⟨(yg6 e he),trivial⟩ trivial he.ok) ynq.flat (yaq (by kernel_rfl))
def ynF (p0:Int) (K:Int→Int→Prop):Prop :=
 (K p0 (1:Int))
def yaO:yax:=ynF
def ywv (e:Es):SE:=sE (E e) [] lp0
theorem yww (e:Es):EqW (ywv e) 6 yxP yh6 ynF:=fun _ _=>by kernel_rfl
theorem yiv (e:Es) (he:EG e):OkF (E e) (yh6.pw yaO) ydS:=okU he (yww e) (yaz (Sub.uni _) trivial trivial he.ok) ynq.flat (yaq (by kernel_rfl))
def yjM (p0 p1:Int) (K:Int→Prop):Prop :=
 (cbr (p1 !=(0:Int))
 False
 (K p0))
def yhe:yay:=yjM
def ysi (e:Es):SE:=sE (E e) [] lp0
theorem ysj (e:Es):EqW (ysi e) 6 ysX yih yjM:=fun _ _=>by kernel_rfl
theorem ysk (e:Es) (he:EG e):OkF (E e) (yih.pw yhe) yeM:=okU he (ysj e) (yaz (Sub.uni _) trivial trivial he.ok) ynq.flat (yaq (by kernel_rfl))
abbrev yba:Type:=Ls→Ls→Int→(Int→Int→Ls→Ls→Prop)→Prop
def yeE (a0:yoL) (a1:yay) (a2:yax) (p0 p1:Ls) (p2:Int) (K:Int→Int→Ls→Ls→Prop):Prop :=
 (a0 p0 p1 p2 (fun a b =>
 (a1 a b (fun c =>
 (a2 c (fun d e =>
 (K d e p0 p1)))))))
def yau:yba:=yeE ykA yhe yaO
def ydf (w:yba) (az:Ls) (b:HB) (K:PV→Ls→Prop):Prop :=
 match az,b with
 | [(.ptr 0 1 0 0),(.int .i64 p2)],⟨false,true,2,[(.agg [(.data p0),(.data p1)])]⟩=>w p0 p1 p2 (fun r0 r1 r2 r3=>K (.agg [(.int .i64 r0),(.int .i64 r1)]) [(.agg [(.data r2),(.data r3)])])
 | _,_=>False
def yhq (az:Ls) (b:HB) (K:PV→Ls→Prop):Prop:=ydf yau az b K
def yhr (e:Es) (a0:yoL) (a1:yay) (a2:yax):SE:=sE (E e) [(ykj,yBs.pw a0),(yeM,yih.pw a1),(ydS,yh6.pw a2)] lp0
theorem ym5 (e:Es) (he:EG e):SEOk (Uni (E e)) (yhr e ykA yhe yaO):=yaz (Sub.uni _) ⟨(yBv e he),(ysk e he),(yiv e he),trivial⟩ trivial he.ok
theorem ynT (e:Es) (a0 a1 a2 p0 p1 p2 K):WPL (yhr e a0 a1 a2) 6 yom [(.ptr 0 1 0 0),(.int .i64 p2)] ⟨false,true,2,[(.agg [(.data p0),(.data p1)])]⟩ K=yeE a0 a1 a2 p0 p1 p2 (fun r0 r1 r2 r3=>K (.agg [(.int .i64 r0),(.int .i64 r1)]) [(.agg [(.data r2),(.data r3)])]):=by kernel_rfl
theorem yhs (e:Es) (he:EG e):OkL (E e) yhq ycz:=by
 intro az b K h
 unfold yhq ydf at h
 split at h
 ·exact yxG (ym5 e he) ynq.flat (yaq (by kernel_rfl)) (by kernel_rfl) (he.num _ (by kernel_rfl)) ((ynT ..).mpr h)
 ·exact h.elim
def yf2 (p0 p1 p2:Int) (K:Int→Int→Prop):Prop :=
 (cbr (p2 !=(0:Int))
 False
 (K p0 p1))
def yac:ya5:=yf2
def yk8:Sg:=⟨(lC pt7 pt1),Int→Int→Prop,fun K=>(fun r0 r1=>K (.agg [(.int .i64 r0),(.int .i64 r1)]))⟩
def yk9 (e:Es):SE:=sE (E e) [] lp0
theorem yla (e:Es):EqW (yk9 e) 6 ylx yk8 yf2:=fun _ _=>by kernel_rfl
theorem ybv (e:Es) (he:EG e):OkF (E e) (yk8.pw yac) ybb:=okU he (yla e) (yaz (Sub.uni _) trivial trivial he.ok) ynq.flat (yaq (by kernel_rfl))
abbrev ya4:Type:=Ls→Ls→Int→Int→Int→Int→Int→(Int→Int→Ls→Ls→Prop)→Prop
def yfh (a0:ya8) (a1:ya5) (p0 p1:Ls) (p2 p3 p4 p5 p6:Int) (K:Int→Int→Ls→Ls→Prop):Prop :=
 (a0 p0 p1 p2 p3 p4 p5 p6 (fun c d a b e =>
 (a1 a b e (fun f g =>
 (K a b c d)))))
def yar:ya4:=yfh yfb yac
def ycE (w:ya4) (az:Ls) (b:HB) (K:PV→Ls→Prop):Prop :=
 match az,b with
 | [(.ptr 0 1 0 0),(.int .i64 p2),(.agg [(.int .i64 p3),(.int .i64 p4)]),(.agg [(.int .i64 p5),(.int .i64 p6)])],⟨false,true,2,[(.agg [(.data p0),(.data p1)])]⟩=>w p0 p1 p2 p3 p4 p5 p6 (fun r0 r1 r2 r3=>K (.agg [(.int .i64 r0),(.int .i64 r1)]) [(.agg [(.data r2),(.data r3)])])
 | _,_=>False
def yii (az:Ls) (b:HB) (K:PV→Ls→Prop):Prop:=ycE yar az b K
def yij (e:Es) (a0:ya8) (a1:ya5):SE:=sE (E e) [(ymh,yvI.pw a0),(ybb,yk8.pw a1)] lp0
theorem ynU (e:Es) (he:EG e):SEOk (Uni (E e)) (yij e yfb yac):=yaz (Sub.uni _) ⟨(yvJ e he),(ybv e he),trivial⟩ trivial he.ok
theorem yo9 (e:Es) (a0 a1 p0 p1 p2 p3 p4 p5 p6 K):WPL (yij e a0 a1) 6 yp2 [(.ptr 0 1 0 0),(.int .i64 p2),(.agg [(.int .i64 p3),(.int .i64 p4)]),(.agg [(.int .i64 p5),(.int .i64 p6)])] ⟨false,true,2,[(.agg [(.data p0),(.data p1)])]⟩ K=yfh a0 a1 p0 p1 p2 p3 p4 p5 p6 (fun r0 r1 r2 r3=>K (.agg [(.int .i64 r0),(.int .i64 r1)]) [(.agg [(.data r2),(.data r3)])]):=by kernel_rfl
theorem yfi (e:Es) (he:EG e):OkL (E e) yii yce:=by
 intro az b K h
 unfold yii ycE at h
 split at h
 ·exact yxG (ynU e he) ynq.flat (yaq (by kernel_rfl)) (by kernel_rfl) (he.num _ (by kernel_rfl)) ((yo9 ..).mpr h)
 ·exact h.elim
abbrev yaw:Type:=Ls→Ls→Int→Int→Int→Int→Int→(Int→Int→Int→Int→Ls→Ls→Prop)→Prop
def yen (a0:yal) (a1:ya5) (a2:ya4) (p0 p1:Ls) (p2 p3 p4 p5 p6:Int) (K:Int→Int→Int→Int→Ls→Ls→Prop):Prop :=
 (a0 p5 p6 (1:Int) (3:Int) (fun a b c =>
 (a1 a b c (fun d e =>
 (a2 p0 p1 p2 p3 p4 d e (fun f g h i =>
 (a0 p5 p6 (2:Int) (3:Int) (fun j k l =>
 (a1 j k l (fun m n =>
 (a2 h i p2 p3 p4 m n (fun o p q r =>
 (K f g o p q r)))))))))))))
def yad:yaw:=yen ybh yac yar
def ybI (w:yaw) (az:Ls) (b:HB) (K:PV→Ls→Prop):Prop :=
 match az,b with
 | [(.ptr 0 1 0 0),(.int .i64 p2),(.agg [(.int .i64 p3),(.int .i64 p4)]),(.agg [(.int .i64 p5),(.int .i64 p6)])],⟨false,true,2,[(.agg [(.data p0),(.data p1)])]⟩=>w p0 p1 p2 p3 p4 p5 p6 (fun r0 r1 r2 r3 r4 r5=>K (.tup [(.agg [(.int .i64 r0),(.int .i64 r1)]),(.agg [(.int .i64 r2),(.int .i64 r3)])]) [(.agg [(.data r4),(.data r5)])])
 | _,_=>False
def yhf (az:Ls) (b:HB) (K:PV→Ls→Prop):Prop:=ybI yad az b K
def yhg (e:Es) (a0:yal) (a1:ya5) (a2:ya4):SE:=⟨(E e),ygu [(yd4,yej.pw a0),(ybb,yk8.pw a1)],ygv [],lp0,ylr [(yce,ycE a2)]⟩
theorem ylG (e:Es) (he:EG e):SEOk (Uni (E e)) (yhg e ybh yac yar):=yid (Sub.uni _) ⟨(yfv e he),(ybv e he),trivial⟩ trivial he.ok ⟨(yfi e he),trivial⟩
theorem ym6 (e:Es) (a0 a1 a2 p0 p1 p2 p3 p4 p5 p6 K):WPL (yhg e a0 a1 a2) 6 ynL [(.ptr 0 1 0 0),(.int .i64 p2),(.agg [(.int .i64 p3),(.int .i64 p4)]),(.agg [(.int .i64 p5),(.int .i64 p6)])] ⟨false,true,2,[(.agg [(.data p0),(.data p1)])]⟩ K=yen a0 a1 a2 p0 p1 p2 p3 p4 p5 p6 (fun r0 r1 r2 r3 r4 r5=>K (.tup [(.agg [(.int .i64 r0),(.int .i64 r1)]),(.agg [(.int .i64 r2),(.int .i64 r3)])]) [(.agg [(.data r4),(.data r5)])]):=by kernel_rfl
theorem ycX (e:Es) (he:EG e):OkL (E e) yhf ybA:=by
 intro az b K h
 unfold yhf ybI at h
 split at h
 ·exact yxG (ylG e he) ynq.flat (yaq (by kernel_rfl)) (by kernel_rfl) (he.num _ (by kernel_rfl)) ((ym6 ..).mpr h)
 ·exact h.elim
def ycL (a0:yaV) (x0:Ls→Int→Ls→Int→Int→Bool→Prop):Nat→Ls→Int→Ls→Int→Int→Prop
 | 0,_,_,_,_,_=>False
 | n+1,l0,i1,l2,i3,i4 =>
 (cbr (decide (i4<i3))
 (jn (fun (d:Int→Prop) =>
 (asr (decide ((0:Int)≤i4))
 (asr (decide (i4<(((List.length l2):Nat):Int)))
 (lt (List.getD l2 (i4.toNat) .nils) (fun a =>
 (asr (conf zI a)
 (asr (decide ((0:Int)≤(yaa a)))
 (asr (decide ((yaa a)<(((List.length l0):Nat):Int)))
 (lt (List.getD l0 ((yaa a).toNat) .nils) (fun b =>
 (asr (conf z2 b)
 (asr (decide ((0:Int)≤i1))
 (asr (decide (i1<(((List.length l0):Nat):Int)))
 (lt (List.getD l0 (i1.toNat) .nils) (fun c =>
 (asr (conf z2 c)
 (a0 (yaa (yab b 0)) (yaa (yab b 1)) (yaa (yab c 0)) (yaa (yab c 1)) (fun e h =>
 (cbr (decide (e>(0:Int)))
 (d (yaa a))
 (d i1))))))))))))))))))))
 (fun f=>(lt (IntKind.i64.wrap (i4+(1:Int))) (fun g =>
 (ycL a0 x0 n l0 f l2 i3 g)))))
 (x0 l0 i1 l2 i3 i4 false))
def yjN (a0:yaV) (p0 p1:Ls) (K:Int→Prop):Prop :=
 (asr (decide ((0:Int)<(((List.length p1):Nat):Int)))
 (lt (List.getD p1 0 .nils) (fun a =>
 (asr (conf zI a)
 (∃ n:Nat,ycL a0
 (fun c b d e f g=>(K b))
 n p0 (yaa a) p1 (((List.length p1):Nat):Int) (0:Int))))))
def yak:yat:=yjN ybW
def yyk:Sg:=⟨(lC vD pt9),Int→Prop,fun K=>(fun r0=>K (.int .i64 r0))⟩
def ytH (Q:Qx):Ls→Int→Ls→Int→Int→Bool→Prop:=(fun l0 i1 l2 i3 i4 b5=>Q (.exit 0) [(0,.v (.data l0)),(5,.v (.int .i64 i1)),(13,.v (.data l2)),(14,.v (.int .i64 i3)),(15,.v (.int .i64 i4)),(16,.v (.bool b5))] [])
def pt29:Pat Frm:=fV 14 pt0 (fV 15 pt0 fN)
def pt30:Pat Frm:=fV 13 vD pt29
def ylH (a0:yaV) (Q:Qx):List St:=[⟨(pS hN (fV 0 vD (fV 5 pt0 pt30)) fN),ycL a0 (ytH Q)⟩]
def ypa (a0:yaV):LP:=lpS [(12610200,ylH a0)]
def yjO (e:Es) (a0:yaV):SE:=sE (E e) [(yeZ,yBe.pw a0)] (ypa a0)
theorem ynG (e:Es) (he:EG e):SEOk (Uni (E e)) (yjO e ybW):=yaz (Sub.uni _) ⟨(yg3 e he),trivial⟩ trivial he.ok
theorem ysl (e:Es) (a0):yct (yjO e a0) 5 a yrB false (ylH a0):=fun _=>⟨fun _=>by kernel_rfl,fun _ _=>by kernel_rfl,trivial⟩
theorem ysm (e:Es) (he:EG e):LpT (Uni (E e)) (ypa ybW) [] 12610200 (.loop 12610200 yrB):=fun _ _ _=>yof.st (Sub.uni _) (ya3 (ynG e he) 5) (YOk.no _ _) (yaq (by kernel_rfl)) (ysl e _ _)
theorem yyl (e:Es) (a0):EqW (yjO e a0) 6 yqE yyk (yjN a0):=fun _ _=>by kernel_rfl
theorem yfj (e:Es) (he:EG e):OkF (E e) (yyk.pw yak) ydE:=okU he (yyl e _) (ynG e he) ynq.flat (ybq (l:=[(12610200,.loop 12610200 yrB)]) ⟨ysm e he,trivial⟩ (by kernel_rfl))
def yfR (a:Ls→Int→Ls→Int→Int→Bool→Prop) (b:Ls→Int→Bool→Prop):Nat→Ls→Int→Ls→Int→Int→Prop
 | 0,_,_,_,_,_=>False
 | d+1,l0,i1,l2,i3,i4 =>
 (cbr (decide (i4<i3))
 (asr (decide ((0:Int)≤i4))
 (asr (decide (i4<(((List.length l2):Nat):Int)))
 (lt (List.getD l2 (i4.toNat) .nils) (fun c =>
 (asr (conf zI c)
 (cbr ((yaa c) == i1)
 (b l0 i1 true)
 (lt (IntKind.i64.wrap (i4+(1:Int))) (fun e =>
 (yfR a b d l0 i1 l2 i3 e)))))))))
 (a l0 i1 l2 i3 i4 false))
def yfS (a:Ls→Ls→Int→Ls→Int→Int→Bool→Prop) (b:Ls→Ls→Int→Bool→Prop):Nat→Ls→Ls→Int→Ls→Int→Int→Prop
 | 0,_,_,_,_,_,_=>False
 | d+1,l0,l1,i2,l3,i4,i5 =>
 (cbr (decide (i5<i4))
 (asr (decide ((0:Int)≤i5))
 (asr (decide (i5<(((List.length l3):Nat):Int)))
 (lt (List.getD l3 (i5.toNat) .nils) (fun c =>
 (asr (conf zI c)
 (cbr ((yaa c) == i2)
 (b l0 l1 i2 true)
 (lt (IntKind.i64.wrap (i5+(1:Int))) (fun e =>
 (yfS a b d l0 l1 i2 l3 i4 e)))))))))
 (a l0 l1 i2 l3 i4 i5 false))
def ydN (b:Ls→Ls→Nat→Nat→Int→Bool→Prop):Nat→Ls→Ls→Nat→Nat→Int→Prop
 | 0,_,_,_,_,_=>False
 | d+1,l0,l1,n2,n3,i4 =>
 (cbr (decide (i4<(3:Int)))
 (jn (fun (e:Ls→Ls→Int→Bool→Prop) =>
 (∃ g:Nat,yfS
 (fun h i j r s t u=>(e h i j false))
 (fun k l m n=>(e k l m n))
 g l0 l1 i4 l1 (((List.length l1):Nat):Int) (0:Int)))
 (fun a f c o=>(cbr (!o)
 (asr (decide ((List.length a)=n3))
 (asr (decide ((0+n2)≤n3))
 (asr (!(decide (((0+n2)+1)≤n3)))
 (asr (decide (n2=n3))
 (asr (decide (((n3+1)+64)*(8+1)≤room))
 (lt (IntKind.i64.wrap (i4+(1:Int))) (fun p =>
 (ydN b d (a++([(.int .i64 c)]:Ls)) f (List.length (a++([(.int .i64 c)]:Ls))) (List.length (a++([(.int .i64 c)]:Ls))) p))))))))
 (lt (IntKind.i64.wrap (i4+(1:Int))) (fun q =>
 (ydN b d a f n2 n3 q))))))
 (b l0 l1 n2 n3 i4 false))
def yfT (a:Ls→Int→Bool→Prop) (b:Ls→Ls→Nat→Nat→Int→Bool→Prop):Nat→Ls→Int→Prop
 | 0,_,_=>False
 | c+1,l0,i1 =>
 (cbr (decide (i1<(3:Int)))
 (jn (fun (d:Ls→Int→Bool→Prop) =>
 (∃ f:Nat,yfR
 (fun g h p q r s=>(d g h false))
 (fun i j k=>(d i j k))
 f l0 i1 l0 (((List.length l0):Nat):Int) (0:Int)))
 (fun e l m=>(cbr (!m)
 (lt (IntKind.i64.wrap (i1+(1:Int))) (fun n =>
 (ydN b c ([(.int .i64 l)]:Ls) e 1 1 n)))
 (lt (IntKind.i64.wrap (i1+(1:Int))) (fun o =>
 (yfT a b c e o))))))
 (a l0 i1 false))
def ylI (p0:Ls) (K:Ls→Prop):Prop :=
 (∃ d:Nat,yfT
 (fun e f g=>(K ([]:Ls)))
 (fun a h b c i j=>(asr (decide ((List.length a)=c))
 (asr (decide ((0+b)≤c))
 (K (List.take b a)))))
 d p0 (0:Int))
def yai:yaC:=ylI
def yqj (Q:Qx):Ls→Int→Ls→Int→Int→Bool→Prop:=(fun l0 i1 l2 i3 i4 b5=>Q (.exit 0) [(1,.v (.ptr 1 1 0 0)),(5,.v (.data l2)),(6,.v (.int .i64 i3)),(7,.v (.int .i64 i4)),(8,.v (.bool b5))] [⟨false,true,1,([(.data l0)]:Ls)⟩,⟨false,true,1,([(.int .i64 i1)]:Ls)⟩])
def yqk (Q:Qx):Ls→Int→Bool→Prop:=(fun l0 i1 b2=>Q .ret [(2,.v (.bool b2))] [⟨false,true,1,([(.data l0)]:Ls)⟩,⟨false,true,1,([(.int .i64 i1)]:Ls)⟩])
def yql (Q:Qx):Ls→Ls→Int→Ls→Int→Int→Bool→Prop:=(fun l0 l1 i2 l3 i4 i5 b6=>Q (.exit 0) [(1,.v (.ptr 3 1 0 0)),(5,.v (.data l3)),(6,.v (.int .i64 i4)),(7,.v (.int .i64 i5)),(8,.v (.bool b6))] [⟨false,true,1,([(.data l1)]:Ls)⟩,⟨false,true,1,([]:Ls)⟩,⟨false,true,1,l0⟩,⟨false,true,1,([(.int .i64 i2)]:Ls)⟩])
def yqm (Q:Qx):Ls→Ls→Int→Bool→Prop:=(fun l0 l1 i2 b3=>Q .ret [(2,.v (.bool b3))] [⟨false,true,1,([(.data l1)]:Ls)⟩,⟨false,true,1,([]:Ls)⟩,⟨false,true,1,l0⟩,⟨false,true,1,([(.int .i64 i2)]:Ls)⟩])
def yqn (Q:Qx):Ls→Int→Bool→Prop:=(fun l0 i1 b2=>Q (.exit 0) [(1,.v (.ptr 0 1 0 0)),(3,.v .nils),(6,.v (.int .i64 i1)),(7,.v (.bool b2))] [⟨false,true,1,([(.data l0)]:Ls)⟩])
def yiC (Q:Qx):Ls→Ls→Nat→Nat→Int→Bool→Prop:=(fun l0 l1 n2 n3 i4 b5=>Q (.exit 0) [(1,.v (.ptr 0 1 0 0)),(3,.v (.own 2 0 n2 n3 none)),(6,.v (.int .i64 i4)),(7,.v (.bool b5))] [⟨false,true,1,([(.data l1)]:Ls)⟩,⟨false,true,1,([]:Ls)⟩,⟨false,true,1,l0⟩])
def pt31:Pat Frm:=fV 5 vD (fV 6 pt0 (fV 7 pt0 fN))
def yjP (Q:Qx):List St:=[⟨(pS (hB false true 1 (rC vD rN) pt17) (fV 1 pt19 pt31) fN),yfR (yqj Q) (yqk Q)⟩,⟨(pS (hB false true 1 (rC vD rN) (hB false true 1 rN (hB false true 1 rA pt17))) (fV 1 (vP 3 0 (nK 1) (nK 0)) pt31) fN),fun n l1 l0 i2 l3 i4 i5=>yfS (yql Q) (yqm Q) n l0 l1 i2 l3 i4 i5⟩]
def pt32:HPt:=hB false true 1 rA hN
def yjQ (Q:Qx):List St:=[⟨(pS (hB false true 1 (rC vD rN) hN) (fV 1 pt18 (fV 3 vNs (fV 6 pt0 fN))) fN),yfT (yqn Q) (yiC Q)⟩,⟨(pS (hB false true 1 (rC vD rN) (hB false true 1 rN pt32)) (fV 1 pt18 (fV 3 (vW 2 (nK 0) nV nV) (fV 6 pt0 fN))) fN),fun n l1 l0 n2 n3 i4=>ydN (yiC Q) n l0 l1 n2 n3 i4⟩]
def yfz:LP:=lpS [(86939300,yjP),(63461800,yjQ)]
def ylJ (e:Es):SE:=sE (E e) [] (yfz)
def yhU (e:Es):SE:=⟨(E e),ygu [],ygv [(ykl,ykw)],yfz,fun _=>none⟩
theorem ytI (e:Es) (he:EG e):SEOk (Uni (E e)) (ylJ e):=yaz (Sub.uni _) trivial trivial he.ok
theorem ypb (e:Es):yct (ylJ e) 5 a yrC false (yjP):=fun _=>⟨fun _=>by kernel_rfl,fun _ _=>by kernel_rfl,fun _=>by kernel_rfl,fun _ _=>by kernel_rfl,trivial⟩
theorem ypc (e:Es) (he:EG e):LpT (Uni (E e)) (yfz) [] 86939300 (.loop 86939300 yrC):=fun _ _ _=>yof.st (Sub.uni _) (ya3 (ytI e he) 5) (YOk.no _ _) (yaq (by kernel_rfl)) (ypb e _)
theorem ykF (e:Es) (he:EG e):SEOk (Uni (E e)) (yhU e):=yaz (Sub.uni _) trivial ⟨⟨by kernel_rfl,by kernel_rfl,rfl,fun az=>ycp (by kernel_rfl) az,he.num _ (by kernel_rfl),by kernel_rfl,(ybq (l:=[(86939300,.loop 86939300 yrC)]) ⟨ypc e he,trivial⟩ (by kernel_rfl))⟩,trivial⟩ he.ok
theorem ypd (e:Es):yct (yhU e) 5 a yrD true (yjQ):=fun _=>⟨fun _=>by kernel_rfl,fun _ _=>by kernel_rfl,fun _=>by kernel_rfl,fun _ _=>by kernel_rfl,trivial⟩
theorem ype (e:Es) (he:EG e):LpT (Uni (E e)) (yfz) [] 63461800 (.lG 63461800 yrD):=fun _ _ _=>yof.stG (Sub.uni _) (ya3 (ykF e he) 5) (YOk.no _ _) (yaq (by kernel_rfl)) (ypd e _)
theorem yu8 (e:Es):EqW (yhU e) 6 ynw yit ylI:=fun _ _=>by kernel_rfl
theorem ydX (e:Es) (he:EG e):OkF (E e) (yit.pw yai) ycO:=okU he (yu8 e) (ykF e he) ynq.flat (ybq (l:=[(63461800,.lG 63461800 yrD)]) ⟨ype e he,trivial⟩ (by kernel_rfl))
abbrev yaE:Type:=Ls→Ls→(Int→Int→Int→Int→Int→Int→Int→Int→Int→Int→Int→Int→Int→Int→Int→Int→Int→Int→Int→Int→Ls→Ls→Prop)→Prop
def ybf (a0:yax) (a1:yba) (a2:yaw) (a3:ya8) (a4:ya5) (a5:yal) (a6:yat) (a7:yaC) (a8:ya4) (x1:Ls→Ls→Ls→Int→Int→Int→Int→Int→Int→Int→Int→Int→Int→Int→Int→Int→Int→Int→Int→Int→Int→Int→Int→Int→Ls→Int→Int→Bool→Prop):Nat→Ls→Ls→Ls→Int→Int→Int→Int→Int→Int→Int→Int→Int→Int→Int→Int→Int→Int→Int→Int→Int→Int→Int→Int→Int→Ls→Int→Int→Prop
 | 0,_,_,_,_,_,_,_,_,_,_,_,_,_,_,_,_,_,_,_,_,_,_,_,_,_,_,_=>False
 | n+1,l0,l1,l2,i3,i4,i5,i6,i7,i8,i9,i10,i11,i12,i13,i14,i15,i16,i17,i18,i19,i20,i21,i22,i23,l26,i27,i28 =>
 (cbr (decide (i28<i27))
 (asr (decide ((0:Int)≤i28))
 (asr (decide (i28<(((List.length l26):Nat):Int)))
 (lt (List.getD l26 (i28.toNat) .nils) (fun a =>
 (asr (conf z4 a)
 (a3 l1 l2 i23 (yaa (yab a 0)) (yaa (yab a 1)) (yaa (yab a 2)) (yaa (yab a 3)) (fun d e f g h =>
 (a4 f g h (fun b c =>
 (asr (decide ((List.length l0)=(List.length l0)))
 (asr (decide ((0+(List.length l0))≤(List.length l0)))
 (asr (!(decide (((0+(List.length l0))+1)≤(List.length l0))))
 (asr (decide ((List.length l0)=(List.length l0)))
 (asr (decide ((((List.length l0)+1)+64)*(16+1)≤room))
 (lt (IntKind.i64.wrap (i28+(1:Int))) (fun i =>
 (asr (decide ((List.length (l0++([(.agg [(.int .i64 b),(.int .i64 c)])]:Ls)))=List.length (l0++([(.agg [(.int .i64 b),(.int .i64 c)])]:Ls)))&&decide ((List.length (l0++([(.agg [(.int .i64 b),(.int .i64 c)])]:Ls)))=List.length (l0++([(.agg [(.int .i64 b),(.int .i64 c)])]:Ls))))
 (ybf a0 a1 a2 a3 a4 a5 a6 a7 a8 x1 n (l0++([(.agg [(.int .i64 b),(.int .i64 c)])]:Ls)) d e i3 i4 i5 i6 i7 i8 i9 i10 i11 i12 i13 i14 i15 i16 i17 i18 i19 i20 i21 i22 i23 l26 i27 i))))))))))))))))))
 (x1 l0 l1 l2 i3 i4 i5 i6 i7 i8 i9 i10 i11 i12 i13 i14 i15 i16 i17 i18 i19 i20 i21 i22 i23 l26 i27 i28 false))
def ycv (a0:yax) (a1:yba) (a2:yaw) (a3:ya8) (a4:ya5) (a5:yal) (a6:yat) (a7:yaC) (a8:ya4) (x0:Ls→Ls→Int→Int→Int→Int→Int→Int→Int→Int→Int→Int→Int→Int→Int→Int→Int→Int→Int→Int→Int→Int→Int→Ls→Int→Int→Bool→Prop) (x1:Ls→Ls→Ls→Int→Int→Int→Int→Int→Int→Int→Int→Int→Int→Int→Int→Int→Int→Int→Int→Int→Int→Int→Int→Int→Ls→Int→Int→Bool→Prop):Nat→Ls→Ls→Int→Int→Int→Int→Int→Int→Int→Int→Int→Int→Int→Int→Int→Int→Int→Int→Int→Int→Int→Int→Int→Ls→Int→Int→Prop
 | 0,_,_,_,_,_,_,_,_,_,_,_,_,_,_,_,_,_,_,_,_,_,_,_,_,_,_=>False
 | n+1,l0,l1,i2,i3,i4,i5,i6,i7,i8,i9,i10,i11,i12,i13,i14,i15,i16,i17,i18,i19,i20,i21,i22,l23,i24,i25 =>
 (cbr (decide (i25<i24))
 (asr (decide ((0:Int)≤i25))
 (asr (decide (i25<(((List.length l23):Nat):Int)))
 (lt (List.getD l23 (i25.toNat) .nils) (fun a =>
 (asr (conf z4 a)
 (a3 l0 l1 i22 (yaa (yab a 0)) (yaa (yab a 1)) (yaa (yab a 2)) (yaa (yab a 3)) (fun d e f g h =>
 (a4 f g h (fun b c =>
 (lt (IntKind.i64.wrap (i25+(1:Int))) (fun i =>
 (asr (decide (1=List.length ([(.agg [(.int .i64 b),(.int .i64 c)])]:Ls))&&decide (1=List.length ([(.agg [(.int .i64 b),(.int .i64 c)])]:Ls)))
 (ybf a0 a1 a2 a3 a4 a5 a6 a7 a8 x1 n ([(.agg [(.int .i64 b),(.int .i64 c)])]:Ls) d e i2 i3 i4 i5 i6 i7 i8 i9 i10 i11 i12 i13 i14 i15 i16 i17 i18 i19 i20 i21 i22 l23 i24 i)))))))))))))
 (x0 l0 l1 i2 i3 i4 i5 i6 i7 i8 i9 i10 i11 i12 i13 i14 i15 i16 i17 i18 i19 i20 i21 i22 l23 i24 i25 false))
def yaW (a0:yax) (a1:yba) (a2:yaw) (a3:ya8) (a4:ya5) (a5:yal) (a6:yat) (a7:yaC) (a8:ya4) (x3:Ls→Ls→Ls→Ls→Int→Int→Int→Int→Int→Int→Int→Int→Int→Int→Int→Int→Int→Int→Int→Int→Int→Int→Int→Int→Int→Int→Int→Bool→Prop):Nat→Ls→Ls→Ls→Ls→Int→Int→Int→Int→Int→Int→Int→Int→Int→Int→Int→Int→Int→Int→Int→Int→Int→Int→Int→Int→Int→Int→Int→Prop
 | 0,_,_,_,_,_,_,_,_,_,_,_,_,_,_,_,_,_,_,_,_,_,_,_,_,_,_,_=>False
 | n+1,l0,l1,l2,l3,i4,i5,i6,i7,i8,i9,i10,i11,i12,i13,i14,i15,i16,i17,i18,i19,i20,i21,i22,i23,i24,i27,i28 =>
 (cbr (decide (i28<i27))
 (jn (fun (c:Int→Int→Int→Int→Prop) =>
 (cbr (decide (i28=(0:Int)))
 (c i4 i5 i6 i7)
 (cbr (decide (i28=(1:Int)))
 (c i8 i9 i10 i11)
 (cbr (decide (i28=(2:Int)))
 (c i12 i13 i14 i15)
 False))))
 (fun d e f g=>(a3 l2 l3 i24 d e f g (fun h i j k l =>
 (a4 j k l (fun a b =>
 (asr (decide ((List.length l1)=(List.length l1)))
 (asr (decide ((0+(List.length l1))≤(List.length l1)))
 (asr (!(decide (((0+(List.length l1))+1)≤(List.length l1))))
 (asr (decide ((List.length l1)=(List.length l1)))
 (asr (decide ((((List.length l1)+1)+64)*(16+1)≤room))
 (lt (IntKind.i64.wrap (i28+(1:Int))) (fun m =>
 (asr (decide ((List.length (l1++([(.agg [(.int .i64 a),(.int .i64 b)])]:Ls)))=List.length (l1++([(.agg [(.int .i64 a),(.int .i64 b)])]:Ls)))&&decide ((List.length (l1++([(.agg [(.int .i64 a),(.int .i64 b)])]:Ls)))=List.length (l1++([(.agg [(.int .i64 a),(.int .i64 b)])]:Ls))))
 (yaW a0 a1 a2 a3 a4 a5 a6 a7 a8 x3 n l0 (l1++([(.agg [(.int .i64 a),(.int .i64 b)])]:Ls)) h i i4 i5 i6 i7 i8 i9 i10 i11 i12 i13 i14 i15 i16 i17 i18 i19 i20 i21 i22 i23 i24 i27 m)))))))))))))))
 (x3 l0 l1 l2 l3 i4 i5 i6 i7 i8 i9 i10 i11 i12 i13 i14 i15 i16 i17 i18 i19 i20 i21 i22 i23 i24 i27 i28 false))
def ybN (a0:yax) (a1:yba) (a2:yaw) (a3:ya8) (a4:ya5) (a5:yal) (a6:yat) (a7:yaC) (a8:ya4) (x2:Ls→Ls→Ls→Int→Int→Int→Int→Int→Int→Int→Int→Int→Int→Int→Int→Int→Int→Int→Int→Int→Int→Int→Int→Int→Int→Int→Bool→Prop) (x3:Ls→Ls→Ls→Ls→Int→Int→Int→Int→Int→Int→Int→Int→Int→Int→Int→Int→Int→Int→Int→Int→Int→Int→Int→Int→Int→Int→Int→Bool→Prop):Nat→Ls→Ls→Ls→Int→Int→Int→Int→Int→Int→Int→Int→Int→Int→Int→Int→Int→Int→Int→Int→Int→Int→Int→Int→Int→Int→Int→Prop
 | 0,_,_,_,_,_,_,_,_,_,_,_,_,_,_,_,_,_,_,_,_,_,_,_,_,_,_=>False
 | n+1,l0,l1,l2,i3,i4,i5,i6,i7,i8,i9,i10,i11,i12,i13,i14,i15,i16,i17,i18,i19,i20,i21,i22,i23,i24,i25 =>
 (cbr (decide (i25<i24))
 (jn (fun (a:Int→Int→Int→Int→Prop) =>
 (cbr (decide (i25=(0:Int)))
 (a i3 i4 i5 i6)
 (cbr (decide (i25=(1:Int)))
 (a i7 i8 i9 i10)
 (cbr (decide (i25=(2:Int)))
 (a i11 i12 i13 i14)
 False))))
 (fun d e f g=>(a3 l1 l2 i23 d e f g (fun h i j k l =>
 (a4 j k l (fun b c =>
 (lt (IntKind.i64.wrap (i25+(1:Int))) (fun m =>
 (asr (decide (1=List.length ([(.agg [(.int .i64 b),(.int .i64 c)])]:Ls))&&decide (1=List.length ([(.agg [(.int .i64 b),(.int .i64 c)])]:Ls)))
 (yaW a0 a1 a2 a3 a4 a5 a6 a7 a8 x3 n l0 ([(.agg [(.int .i64 b),(.int .i64 c)])]:Ls) h i i3 i4 i5 i6 i7 i8 i9 i10 i11 i12 i13 i14 i15 i16 i17 i18 i19 i20 i21 i22 i23 i24 m))))))))))
 (x2 l0 l1 l2 i3 i4 i5 i6 i7 i8 i9 i10 i11 i12 i13 i14 i15 i16 i17 i18 i19 i20 i21 i22 i23 i24 i25 false))
def yeF (a0:yax) (a1:yba) (a2:yaw) (a3:ya8) (a4:ya5) (a5:yal) (a6:yat) (a7:yaC) (a8:ya4) (p0 p1:Ls) (K:Int→Int→Int→Int→Int→Int→Int→Int→Int→Int→Int→Int→Int→Int→Int→Int→Int→Int→Int→Int→Ls→Ls→Prop):Prop :=
 (a0 (0:Int) (fun G H =>
 (asr (decide ((0:Int)<(((List.length p0):Nat):Int)))
 (lt (List.getD p0 0 .nils) (fun X =>
 (asr (conf zK X)
 (a0 (yaa (yab X 0)) (fun vF vG =>
 (a1 p0 p1 (0:Int) (fun vH vI vJ vK =>
 (a2 vJ vK (0:Int) G H vH vI (fun w x I J vL vM =>
 (∃ n:Nat,ycv a0 a1 a2 a3 a4 a5 a6 a7 a8
 (fun vN vO vbm vbn vbo vbp vbq vbr vbs vbt vbu vbv vbw vbx vby vbz vbA vbB vbC vbD vbE vbF vbG vbH vbI vbJ vbK=>(a1 vN vO (1:Int) (fun vbL vbM vbN vbO =>
 False)))
 (fun a vP vQ h i Y Z j k va vb l m vc vd vR vS vT vU vV ve vf vg vbP vbQ vbR vbS vbT=>(a1 vP vQ (1:Int) (fun vW vX f g =>
 (asr (decide ((0:Int)<(((List.length a):Nat):Int)))
 (asr (decide ((List.length a)=(List.length a)))
 (asr (decide (0<(List.length a)))
 (lt (List.getD a 0 .nils) (fun L =>
 (asr (conf z2 L)
 (a5 vW vX (yaa (yab L 0)) (yaa (yab L 1)) (fun vY vZ v0 =>
 (a4 vY vZ v0 (fun v1 v2 =>
 (asr (decide ((1:Int)<(((List.length a):Nat):Int)))
 (asr (decide ((List.length a)=(List.length a)))
 (asr (decide (1<(List.length a)))
 (lt (List.getD a 1 .nils) (fun M =>
 (asr (conf z2 M)
 (a5 v1 v2 (yaa (yab M 0)) (yaa (yab M 1)) (fun v3 v4 v5 =>
 (a4 v3 v4 v5 (fun b c =>
 (asr (decide ((List.length a)=(List.length a)))
 (asr (decide ((0+(List.length a))≤(List.length a)))
 (asr (!(decide (((0+(List.length a))+1)≤(List.length a))))
 (asr (decide ((List.length a)=(List.length a)))
 (asr (decide ((((List.length a)+1)+64)*(16+1)≤room))
 (asr (decide ((List.length (a++([(.agg [(.int .i64 b),(.int .i64 c)])]:Ls)))=(List.length (a++([(.agg [(.int .i64 b),(.int .i64 c)])]:Ls)))))
 (asr (decide ((0+(List.length (a++([(.agg [(.int .i64 b),(.int .i64 c)])]:Ls))))≤(List.length (a++([(.agg [(.int .i64 b),(.int .i64 c)])]:Ls)))))
 (a6 (List.take (List.length (a++([(.agg [(.int .i64 b),(.int .i64 c)])]:Ls))) (a++([(.agg [(.int .i64 b),(.int .i64 c)])]:Ls))) ([(.int .i64 (0:Int)),(.int .i64 (1:Int)),(.int .i64 (2:Int))]:Ls) (fun d =>
 (a7 ([(.int .i64 d)]:Ls) (fun v6 =>
 (asr (decide ((List.length (a++([(.agg [(.int .i64 b),(.int .i64 c)])]:Ls)))=(List.length (a++([(.agg [(.int .i64 b),(.int .i64 c)])]:Ls)))))
 (asr (decide ((0+(List.length (a++([(.agg [(.int .i64 b),(.int .i64 c)])]:Ls))))≤(List.length (a++([(.agg [(.int .i64 b),(.int .i64 c)])]:Ls)))))
 (a6 (List.take (List.length (a++([(.agg [(.int .i64 b),(.int .i64 c)])]:Ls))) (a++([(.agg [(.int .i64 b),(.int .i64 c)])]:Ls))) v6 (fun e =>
 (jn (fun (N:Ls→Ls→Ls→Int→Int→Int→Int→Int→Int→Int→Int→Int→Int→Prop) =>
 (asr (decide ((0:Int)≤d))
 (asr (decide (d<(((List.length (a++([(.agg [(.int .i64 b),(.int .i64 c)])]:Ls))):Nat):Int)))
 (asr (decide ((List.length (a++([(.agg [(.int .i64 b),(.int .i64 c)])]:Ls)))=(List.length (a++([(.agg [(.int .i64 b),(.int .i64 c)])]:Ls)))))
 (asr (decide ((0+(d.toNat))<(List.length (a++([(.agg [(.int .i64 b),(.int .i64 c)])]:Ls)))))
 (lt (List.getD (a++([(.agg [(.int .i64 b),(.int .i64 c)])]:Ls)) (0+(d.toNat)) .nils) (fun O =>
 (asr (conf z2 O)
 (asr (decide ((0:Int)≤e))
 (asr (decide (e<(((List.length (a++([(.agg [(.int .i64 b),(.int .i64 c)])]:Ls))):Nat):Int)))
 (asr (decide ((List.length (a++([(.agg [(.int .i64 b),(.int .i64 c)])]:Ls)))=(List.length (a++([(.agg [(.int .i64 b),(.int .i64 c)])]:Ls)))))
 (asr (decide ((0+(e.toNat))<(List.length (a++([(.agg [(.int .i64 b),(.int .i64 c)])]:Ls)))))
 (lt (List.getD (a++([(.agg [(.int .i64 b),(.int .i64 c)])]:Ls)) (0+(e.toNat)) .nils) (fun Q =>
 (asr (conf z2 Q)
 (cbr (!(((yaa (yab O 0)) ==(yaa (yab Q 0)))&&(((yaa (yab O 1)) ==(yaa (yab Q 1)))&&true)))
 (asr (decide ((0:Int)≤d))
 (asr (decide (d<(((List.length (a++([(.agg [(.int .i64 b),(.int .i64 c)])]:Ls))):Nat):Int)))
 (asr (decide ((List.length (a++([(.agg [(.int .i64 b),(.int .i64 c)])]:Ls)))=(List.length (a++([(.agg [(.int .i64 b),(.int .i64 c)])]:Ls)))))
 (asr (decide ((0+(d.toNat))<(List.length (a++([(.agg [(.int .i64 b),(.int .i64 c)])]:Ls)))))
 (lt (List.getD (a++([(.agg [(.int .i64 b),(.int .i64 c)])]:Ls)) (0+(d.toNat)) .nils) (fun R =>
 (asr (conf z2 R)
 (asr (decide ((0:Int)≤e))
 (asr (decide (e<(((List.length (a++([(.agg [(.int .i64 b),(.int .i64 c)])]:Ls))):Nat):Int)))
 (asr (decide ((List.length (a++([(.agg [(.int .i64 b),(.int .i64 c)])]:Ls)))=(List.length (a++([(.agg [(.int .i64 b),(.int .i64 c)])]:Ls)))))
 (asr (decide ((0+(e.toNat))<(List.length (a++([(.agg [(.int .i64 b),(.int .i64 c)])]:Ls)))))
 (lt (List.getD (a++([(.agg [(.int .i64 b),(.int .i64 c)])]:Ls)) (0+(e.toNat)) .nils) (fun S =>
 (asr (conf z2 S)
 (a5 (yaa (yab R 0)) (yaa (yab R 1)) (yaa (yab S 0)) (yaa (yab S 1)) (fun v7 v8 v9 =>
 (a4 v7 v8 v9 (fun o p =>
 (jn (fun (q:Ls→Ls→Int→Int→Int→Int→Prop) =>
 (cbr (decide (d=(0:Int)))
 (cbr (decide (d=(0:Int)))
 (a8 f g (1:Int) h i o p (fun wa wb wc wd =>
 (q wc wd h i wa wb)))
 (cbr (decide (d=(1:Int)))
 (a8 f g (1:Int) j k o p (fun we wf wg wh =>
 (q wg wh h i we wf)))
 (cbr (decide (d=(2:Int)))
 (a8 f g (1:Int) l m o p (fun wi wj wk wl =>
 (q wk wl h i wi wj)))
 False)))
 (cbr (decide (d=(1:Int)))
 (cbr (decide (d=(0:Int)))
 (a8 f g (1:Int) h i o p (fun wm wn wo wp =>
 (q wo wp j k wm wn)))
 (cbr (decide (d=(1:Int)))
 (a8 f g (1:Int) j k o p (fun wq wr ws wt =>
 (q ws wt j k wq wr)))
 (cbr (decide (d=(2:Int)))
 (a8 f g (1:Int) l m o p (fun wu wv ww wx =>
 (q ww wx j k wu wv)))
 False)))
 (cbr (decide (d=(2:Int)))
 (cbr (decide (d=(0:Int)))
 (a8 f g (1:Int) h i o p (fun wy wz wA wB =>
 (q wA wB l m wy wz)))
 (cbr (decide (d=(1:Int)))
 (a8 f g (1:Int) j k o p (fun wC wD wE wF =>
 (q wE wF l m wC wD)))
 (cbr (decide (d=(2:Int)))
 (a8 f g (1:Int) l m o p (fun wG wH wI wJ =>
 (q wI wJ l m wG wH)))
 False)))
 False))))
 (fun T U V W s t=>(asr (decide ((0:Int)≤e))
 (asr (decide (e<(((List.length (a++([(.agg [(.int .i64 b),(.int .i64 c)])]:Ls))):Nat):Int)))
 (asr (decide ((List.length (a++([(.agg [(.int .i64 b),(.int .i64 c)])]:Ls)))=(List.length (a++([(.agg [(.int .i64 b),(.int .i64 c)])]:Ls)))))
 (asr (decide ((0+(e.toNat))<(List.length (a++([(.agg [(.int .i64 b),(.int .i64 c)])]:Ls)))))
 (lt (List.getD (a++([(.agg [(.int .i64 b),(.int .i64 c)])]:Ls)) (0+(e.toNat)) .nils) (fun r =>
 (asr (conf z2 r)
 (cbr (decide (d=(0:Int)))
 (asr (decide ((0:Int)≤d))
 (asr (decide (d<(((List.length (a++([(.agg [(.int .i64 b),(.int .i64 c)])]:Ls))):Nat):Int)))
 (asr (decide ((List.length (a++([(.agg [(.int .i64 b),(.int .i64 c)])]:Ls)))=(List.length (a++([(.agg [(.int .i64 b),(.int .i64 c)])]:Ls)))))
 (asr (decide ((0+(d.toNat))<(List.length (a++([(.agg [(.int .i64 b),(.int .i64 c)])]:Ls)))))
 (lt (List.getD (a++([(.agg [(.int .i64 b),(.int .i64 c)])]:Ls)) (0+(d.toNat)) .nils) (fun wK =>
 (asr (conf z2 wK)
 (N (List.set (a++([(.agg [(.int .i64 b),(.int .i64 c)])]:Ls)) (0+(d.toNat)) (.agg [(.int .i64 (yaa (yab r 0))),(.int .i64 (yaa (yab r 1)))])) T U s t j k l m V W s t))))))))
 (cbr (decide (d=(1:Int)))
 (asr (decide ((0:Int)≤d))
 (asr (decide (d<(((List.length (a++([(.agg [(.int .i64 b),(.int .i64 c)])]:Ls))):Nat):Int)))
 (asr (decide ((List.length (a++([(.agg [(.int .i64 b),(.int .i64 c)])]:Ls)))=(List.length (a++([(.agg [(.int .i64 b),(.int .i64 c)])]:Ls)))))
 (asr (decide ((0+(d.toNat))<(List.length (a++([(.agg [(.int .i64 b),(.int .i64 c)])]:Ls)))))
 (lt (List.getD (a++([(.agg [(.int .i64 b),(.int .i64 c)])]:Ls)) (0+(d.toNat)) .nils) (fun wL =>
 (asr (conf z2 wL)
 (N (List.set (a++([(.agg [(.int .i64 b),(.int .i64 c)])]:Ls)) (0+(d.toNat)) (.agg [(.int .i64 (yaa (yab r 0))),(.int .i64 (yaa (yab r 1)))])) T U h i s t l m V W s t))))))))
 (cbr (decide (d=(2:Int)))
 (asr (decide ((0:Int)≤d))
 (asr (decide (d<(((List.length (a++([(.agg [(.int .i64 b),(.int .i64 c)])]:Ls))):Nat):Int)))
 (asr (decide ((List.length (a++([(.agg [(.int .i64 b),(.int .i64 c)])]:Ls)))=(List.length (a++([(.agg [(.int .i64 b),(.int .i64 c)])]:Ls)))))
 (asr (decide ((0+(d.toNat))<(List.length (a++([(.agg [(.int .i64 b),(.int .i64 c)])]:Ls)))))
 (lt (List.getD (a++([(.agg [(.int .i64 b),(.int .i64 c)])]:Ls)) (0+(d.toNat)) .nils) (fun wM =>
 (asr (conf z2 wM)
 (N (List.set (a++([(.agg [(.int .i64 b),(.int .i64 c)])]:Ls)) (0+(d.toNat)) (.agg [(.int .i64 (yaa (yab r 0))),(.int .i64 (yaa (yab r 1)))])) T U h i j k s t V W s t))))))))
 False))))))))))))))))))))))))))))))
 (∃ n:Nat,ybN a0 a1 a2 a3 a4 a5 a6 a7 a8
 (fun vh wN wO wP wQ wR wS wT wU wV wW wX wY wZ w0 y w1 w2 w3 w4 vbU vbV vbW vbX vbY vbZ vb0=>(a6 ([]:Ls) ([(.int .i64 (0:Int)),(.int .i64 (1:Int)),(.int .i64 (2:Int))]:Ls) (fun z =>
 (a7 ([(.int .i64 z)]:Ls) (fun w5 =>
 (asr (decide ((List.length vh)=(List.length (a++([(.agg [(.int .i64 b),(.int .i64 c)])]:Ls)))))
 (asr (decide ((0+(List.length (a++([(.agg [(.int .i64 b),(.int .i64 c)])]:Ls))))≤(List.length (a++([(.agg [(.int .i64 b),(.int .i64 c)])]:Ls)))))
 (a6 (List.take (List.length (a++([(.agg [(.int .i64 b),(.int .i64 c)])]:Ls))) vh) w5 (fun w6 =>
 (jn (fun (vi:Int→Prop) =>
 (jn (fun (vj:Bool→Prop) =>
 (cbr (decide (y≥(0:Int)))
 (vj (y != z))
 (vj false)))
 (fun w7=>(cbr w7
 (vi y)
 (vi w6)))))
 (fun vk=>(a7 ([(.int .i64 vk),(.int .i64 z)]:Ls) (fun vl =>
 (asr (decide ((0:Int)<(((List.length vl):Nat):Int)))
 (lt (List.getD vl 0 .nils) (fun vm =>
 (asr (conf zI vm)
 (K wP wQ wR wS wT wU wV wW wX wY wZ w0 y w1 w2 w3 w4 (yaa vm) vk z wN wO))))))))))))))))))
 (fun vn u w8 w9 vaa vab vac vad vae vaf vag vah vai vaj vak val A vam van vao vap vb1 vb2 vb3 vb4 vb5 vb6 vb7=>(asr (decide ((List.length u)=(List.length u)))
 (asr (decide ((0+(List.length u))≤(List.length u)))
 (a6 (List.take (List.length u) u) ([(.int .i64 (0:Int)),(.int .i64 (1:Int)),(.int .i64 (2:Int))]:Ls) (fun B =>
 (a7 ([(.int .i64 B)]:Ls) (fun vaq =>
 (asr (decide ((List.length vn)=(List.length (a++([(.agg [(.int .i64 b),(.int .i64 c)])]:Ls)))))
 (asr (decide ((0+(List.length (a++([(.agg [(.int .i64 b),(.int .i64 c)])]:Ls))))≤(List.length (a++([(.agg [(.int .i64 b),(.int .i64 c)])]:Ls)))))
 (a6 (List.take (List.length (a++([(.agg [(.int .i64 b),(.int .i64 c)])]:Ls))) vn) vaq (fun var =>
 (jn (fun (vo:Int→Prop) =>
 (jn (fun (vp:Bool→Prop) =>
 (cbr (decide (A≥(0:Int)))
 (vp (A != B))
 (vp false)))
 (fun vas=>(cbr vas
 (vo A)
 (vo var)))))
 (fun vq=>(a7 ([(.int .i64 vq),(.int .i64 B)]:Ls) (fun vr =>
 (asr (decide ((0:Int)<(((List.length vr):Nat):Int)))
 (lt (List.getD vr 0 .nils) (fun vs =>
 (asr (conf zI vs)
 (K vaa vab vac vad vae vaf vag vah vai vaj vak val A vam van vao vap (yaa vs) vq B w8 w9))))))))))))))))))))
 n (a++([(.agg [(.int .i64 b),(.int .i64 c)])]:Ls)) f g h i Y Z j k va vb l m vc vd vR vS vT vU vV ve vf vg (2:Int) (3:Int) (0:Int))))))))))))))))))
 (fun vat vau vav vaw vax vay vaz vaA vaB vaC vaD vaE vaF=>(∃ n:Nat,ybN a0 a1 a2 a3 a4 a5 a6 a7 a8
 (fun vt vaG vaH vaI vaJ vaK vaL vaM vaN vaO vaP vaQ vaR vaS vaT C vaU vaV vaW vaX vb8 vb9 vca vcb vcc vcd vce=>(a6 ([]:Ls) ([(.int .i64 (0:Int)),(.int .i64 (1:Int)),(.int .i64 (2:Int))]:Ls) (fun D =>
 (a7 ([(.int .i64 D)]:Ls) (fun vaY =>
 (asr (decide ((List.length vt)=(List.length (a++([(.agg [(.int .i64 b),(.int .i64 c)])]:Ls)))))
 (asr (decide ((0+(List.length (a++([(.agg [(.int .i64 b),(.int .i64 c)])]:Ls))))≤(List.length (a++([(.agg [(.int .i64 b),(.int .i64 c)])]:Ls)))))
 (a6 (List.take (List.length (a++([(.agg [(.int .i64 b),(.int .i64 c)])]:Ls))) vt) vaY (fun vaZ =>
 (jn (fun (vu:Int→Prop) =>
 (jn (fun (vv:Bool→Prop) =>
 (cbr (decide (C≥(0:Int)))
 (vv (C != D))
 (vv false)))
 (fun va0=>(cbr va0
 (vu C)
 (vu vaZ)))))
 (fun vw=>(a7 ([(.int .i64 vw),(.int .i64 D)]:Ls) (fun vx =>
 (asr (decide ((0:Int)<(((List.length vx):Nat):Int)))
 (lt (List.getD vx 0 .nils) (fun vy =>
 (asr (conf zI vy)
 (K vaI vaJ vaK vaL vaM vaN vaO vaP vaQ vaR vaS vaT C vaU vaV vaW vaX (yaa vy) vw D vaG vaH))))))))))))))))))
 (fun vz v va1 va2 va3 va4 va5 va6 va7 va8 va9 vba vbb vbc vbd vbe E vbf vbg vbh vbi vcf vcg vch vci vcj vck vcl=>(asr (decide ((List.length v)=(List.length v)))
 (asr (decide ((0+(List.length v))≤(List.length v)))
 (a6 (List.take (List.length v) v) ([(.int .i64 (0:Int)),(.int .i64 (1:Int)),(.int .i64 (2:Int))]:Ls) (fun F =>
 (a7 ([(.int .i64 F)]:Ls) (fun vbj =>
 (asr (decide ((List.length vz)=(List.length (a++([(.agg [(.int .i64 b),(.int .i64 c)])]:Ls)))))
 (asr (decide ((0+(List.length (a++([(.agg [(.int .i64 b),(.int .i64 c)])]:Ls))))≤(List.length (a++([(.agg [(.int .i64 b),(.int .i64 c)])]:Ls)))))
 (a6 (List.take (List.length (a++([(.agg [(.int .i64 b),(.int .i64 c)])]:Ls))) vz) vbj (fun vbk =>
 (jn (fun (vA:Int→Prop) =>
 (jn (fun (vB:Bool→Prop) =>
 (cbr (decide (E≥(0:Int)))
 (vB (E != F))
 (vB false)))
 (fun vbl=>(cbr vbl
 (vA E)
 (vA vbk)))))
 (fun vC=>(a7 ([(.int .i64 vC),(.int .i64 F)]:Ls) (fun vD =>
 (asr (decide ((0:Int)<(((List.length vD):Nat):Int)))
 (lt (List.getD vD 0 .nils) (fun vE =>
 (asr (conf zI vE)
 (K va3 va4 va5 va6 va7 va8 va9 vba vbb vbc vbd vbe E vbf vbg vbh vbi (yaa vE) vC F va1 va2))))))))))))))))))))
 n vat vau vav vaw vax Y Z vay vaz va vb vaA vaB vc vd d vaC vaD vaE vaF ve vf vg (2:Int) (3:Int) (0:Int))))))))))))))))))))))))))))))))))))))))))
 n vL vM G H w x w x I J I J vF vG (-1:Int) (0:Int) (0:Int) (0:Int) (0:Int) (0:Int) (0:Int) (0:Int) (1:Int) ([(.agg [(.int .i64 G),(.int .i64 H),(.int .i64 w),(.int .i64 x)]),(.agg [(.int .i64 w),(.int .i64 x),(.int .i64 I),(.int .i64 J)])]:Ls) (2:Int) (0:Int))))))))))))))
def yag:yaE:=yeF yaO yau yad yan yac yaD yak yai yar
def ycn (w:yaE) (az:Ls) (b:HB) (K:PV→Ls→Prop):Prop :=
 match az,b with
 | [(.ptr 0 1 0 0)],⟨false,true,2,[(.agg [(.data p0),(.data p1)])]⟩=>w p0 p1 (fun r0 r1 r2 r3 r4 r5 r6 r7 r8 r9 r10 r11 r12 r13 r14 r15 r16 r17 r18 r19 r20 r21=>K (.agg [(.int .i64 r0),(.int .i64 r1),(.int .i64 r2),(.int .i64 r3),(.int .i64 r4),(.int .i64 r5),(.int .i64 r6),(.int .i64 r7),(.int .i64 r8),(.int .i64 r9),(.int .i64 r10),(.int .i64 r11),(.int .i64 r12),(.int .i64 r13),(.int .i64 r14),(.int .i64 r15),(.int .i64 r16),(.int .i64 r17),(.int .i64 r18),(.int .i64 r19)]) [(.agg [(.data r20),(.data r21)])])
 | _,_=>False
def yht (az:Ls) (b:HB) (K:PV→Ls→Prop):Prop:=ycn yag az b K
def ylb (Q:Qx):Ls→Ls→Int→Int→Int→Int→Int→Int→Int→Int→Int→Int→Int→Int→Int→Int→Int→Int→Int→Int→Int→Int→Int→Ls→Int→Int→Bool→Prop:=(fun l0 l1 i2 i3 i4 i5 i6 i7 i8 i9 i10 i11 i12 i13 i14 i15 i16 i17 i18 i19 i20 i21 i22 l23 i24 i25 b26=>Q (.exit 0) [(0,.v (.ptr 0 1 0 0)),(1,.v (.int .i64 i22)),(7,.v .nils),(13,.v (.data l23)),(14,.v (.int .i64 i24)),(15,.v (.int .i64 i25)),(16,.v (.bool b26))] [⟨false,true,2,([(.agg [(.data l0),(.data l1)])]:Ls)⟩,⟨false,true,20,([(.agg [(.int .i64 i2),(.int .i64 i3),(.int .i64 i4),(.int .i64 i5),(.int .i64 i6),(.int .i64 i7),(.int .i64 i8),(.int .i64 i9),(.int .i64 i10),(.int .i64 i11),(.int .i64 i12),(.int .i64 i13),(.int .i64 i14),(.int .i64 i15),(.int .i64 i16),(.int .i64 i17),(.int .i64 i18),(.int .i64 i19),(.int .i64 i20),(.int .i64 i21)])]:Ls)⟩])
def yf3 (Q:Qx):Ls→Ls→Ls→Int→Int→Int→Int→Int→Int→Int→Int→Int→Int→Int→Int→Int→Int→Int→Int→Int→Int→Int→Int→Int→Ls→Int→Int→Bool→Prop:=(fun l0 l1 l2 i3 i4 i5 i6 i7 i8 i9 i10 i11 i12 i13 i14 i15 i16 i17 i18 i19 i20 i21 i22 i23 l26 i27 i28 b29=>Q (.exit 0) [(0,.v (.ptr 0 1 0 0)),(1,.v (.int .i64 i23)),(7,.v (.own 2 0 (List.length l0) (List.length l0) none)),(13,.v (.data l26)),(14,.v (.int .i64 i27)),(15,.v (.int .i64 i28)),(16,.v (.bool b29))] [⟨false,true,2,([(.agg [(.data l1),(.data l2)])]:Ls)⟩,⟨false,true,20,([(.agg [(.int .i64 i3),(.int .i64 i4),(.int .i64 i5),(.int .i64 i6),(.int .i64 i7),(.int .i64 i8),(.int .i64 i9),(.int .i64 i10),(.int .i64 i11),(.int .i64 i12),(.int .i64 i13),(.int .i64 i14),(.int .i64 i15),(.int .i64 i16),(.int .i64 i17),(.int .i64 i18),(.int .i64 i19),(.int .i64 i20),(.int .i64 i21),(.int .i64 i22)])]:Ls)⟩,⟨false,true,2,l0⟩])
def ylc (Q:Qx):Ls→Ls→Ls→Int→Int→Int→Int→Int→Int→Int→Int→Int→Int→Int→Int→Int→Int→Int→Int→Int→Int→Int→Int→Int→Int→Int→Bool→Prop:=(fun l0 l1 l2 i3 i4 i5 i6 i7 i8 i9 i10 i11 i12 i13 i14 i15 i16 i17 i18 i19 i20 i21 i22 i23 i24 i25 b26=>Q (.exit 0) [(0,.v (.ptr 0 1 0 0)),(1,.v (.int .i64 i23)),(7,.v .nils),(13,.v (.sub 1 1 0 0 3 4)),(14,.v (.int .i64 i24)),(15,.v (.int .i64 i25)),(16,.v (.bool b26))] [⟨false,true,2,([(.agg [(.data l1),(.data l2)])]:Ls)⟩,⟨false,true,20,([(.agg [(.int .i64 i3),(.int .i64 i4),(.int .i64 i5),(.int .i64 i6),(.int .i64 i7),(.int .i64 i8),(.int .i64 i9),(.int .i64 i10),(.int .i64 i11),(.int .i64 i12),(.int .i64 i13),(.int .i64 i14),(.int .i64 i15),(.int .i64 i16),(.int .i64 i17),(.int .i64 i18),(.int .i64 i19),(.int .i64 i20),(.int .i64 i21),(.int .i64 i22)])]:Ls)⟩,⟨false,true,2,l0⟩])
def yf4 (Q:Qx):Ls→Ls→Ls→Ls→Int→Int→Int→Int→Int→Int→Int→Int→Int→Int→Int→Int→Int→Int→Int→Int→Int→Int→Int→Int→Int→Int→Int→Bool→Prop:=(fun l0 l1 l2 l3 i4 i5 i6 i7 i8 i9 i10 i11 i12 i13 i14 i15 i16 i17 i18 i19 i20 i21 i22 i23 i24 i27 i28 b29=>Q (.exit 0) [(0,.v (.ptr 0 1 0 0)),(1,.v (.int .i64 i24)),(7,.v (.own 3 0 (List.length l1) (List.length l1) none)),(13,.v (.sub 1 1 0 0 3 4)),(14,.v (.int .i64 i27)),(15,.v (.int .i64 i28)),(16,.v (.bool b29))] [⟨false,true,2,([(.agg [(.data l2),(.data l3)])]:Ls)⟩,⟨false,true,20,([(.agg [(.int .i64 i4),(.int .i64 i5),(.int .i64 i6),(.int .i64 i7),(.int .i64 i8),(.int .i64 i9),(.int .i64 i10),(.int .i64 i11),(.int .i64 i12),(.int .i64 i13),(.int .i64 i14),(.int .i64 i15),(.int .i64 i16),(.int .i64 i17),(.int .i64 i18),(.int .i64 i19),(.int .i64 i20),(.int .i64 i21),(.int .i64 i22),(.int .i64 i23)])]:Ls)⟩,⟨false,true,2,l0⟩,⟨false,true,2,l1⟩])
def pt33:RPt:=rC pt25 rN
def pt34:LPt:=lC pt0 (lC pt0 (lC pt0 (lC pt0 (lC pt0 (lC pt0 (lC pt0 (lC pt0 (lC pt0 (lC pt0 pt6)))))))))
def pt35:VPt:=vA (lC pt0 (lC pt0 (lC pt0 (lC pt0 (lC pt0 (lC pt0 (lC pt0 (lC pt0 pt34))))))))
def pt36:RPt:=rC pt35 rN
def pt37:Pat Frm:=fV 0 pt18 (fV 1 pt0 (fV 7 vNs pt30))
def pt38:HPt:=hB false true 2 rA hN
def pt39:HPt:=hB false true 2 pt33 (hB false true 20 pt36 pt38)
def pt40:Pat Frm:=fV 13 (vSub 1 0 3 4 (nK 1) (nK 0)) pt29
def pt41:VPt:=vW 3 (nK 0) (nT 3) (nT 3)
def ygJ (a0:yax) (a1:yba) (a2:yaw) (a3:ya8) (a4:ya5) (a5:yal) (a6:yat) (a7:yaC) (a8:ya4) (Q:Qx):List St:=[⟨(pS (hB false true 2 pt33 (hB false true 20 pt36 hN)) pt37 fN),ycv a0 a1 a2 a3 a4 a5 a6 a7 a8 (ylb Q) (yf3 Q)⟩,⟨(pS pt39 (fV 0 pt18 (fV 1 pt0 (fV 7 (vW 2 (nK 0) (nT 2) (nT 2)) pt30))) fN),fun n l1 l2 i3 i4 i5 i6 i7 i8 i9 i10 i11 i12 i13 i14 i15 i16 i17 i18 i19 i20 i21 i22 l0 i23 l26 i27 i28=>ybf a0 a1 a2 a3 a4 a5 a6 a7 a8 (yf3 Q) n l0 l1 l2 i3 i4 i5 i6 i7 i8 i9 i10 i11 i12 i13 i14 i15 i16 i17 i18 i19 i20 i21 i22 i23 l26 i27 i28⟩,⟨(pS pt39 (fV 0 pt18 (fV 1 pt0 (fV 7 vNs pt40))) fN),fun n l1 l2 i3 i4 i5 i6 i7 i8 i9 i10 i11 i12 i13 i14 i15 i16 i17 i18 i19 i20 i21 i22 l0 i23 i24 i25=>ybN a0 a1 a2 a3 a4 a5 a6 a7 a8 (ylc Q) (yf4 Q) n l0 l1 l2 i3 i4 i5 i6 i7 i8 i9 i10 i11 i12 i13 i14 i15 i16 i17 i18 i19 i20 i21 i22 i23 i24 i25⟩,⟨(pS (hB false true 2 pt33 (hB false true 20 pt36 (hB false true 2 rA pt38))) (fV 0 pt18 (fV 1 pt0 (fV 7 pt41 pt40))) fN),fun n l2 l3 i4 i5 i6 i7 i8 i9 i10 i11 i12 i13 i14 i15 i16 i17 i18 i19 i20 i21 i22 i23 l0 l1 i24 i27 i28=>yaW a0 a1 a2 a3 a4 a5 a6 a7 a8 (yf4 Q) n l0 l1 l2 l3 i4 i5 i6 i7 i8 i9 i10 i11 i12 i13 i14 i15 i16 i17 i18 i19 i20 i21 i22 i23 i24 i27 i28⟩]
def yeG (a0:yax) (a1:yba) (a2:yaw) (a3:ya8) (a4:ya5) (a5:yal) (a6:yat) (a7:yaC) (a8:ya4):LP:=lpS [(38310000,ygJ a0 a1 a2 a3 a4 a5 a6 a7 a8)]
def yhu (e:Es) (a0:yax) (a1:yba) (a2:yaw) (a3:ya8) (a4:ya5) (a5:yal) (a6:yat) (a7:yaC) (a8:ya4):SE:=⟨(E e),ygu [(ydS,yh6.pw a0),(ye2,yvI.pw a3),(ybb,yk8.pw a4),(yd5,yej.pw a5),(ydE,yyk.pw a6),(ycO,yit.pw a7)],ygv [],yeG a0 a1 a2 a3 a4 a5 a6 a7 a8,ylr [(ycz,ydf a1),(ybA,ybI a2),(yce,ycE a8)]⟩
def yhv (e:Es) (a0:yax) (a1:yba) (a2:yaw) (a3:ya8) (a4:ya5) (a5:yal) (a6:yat) (a7:yaC) (a8:ya4):SE:=⟨(E e),ygu [(ydS,yh6.pw a0),(ye2,yvI.pw a3),(ybb,yk8.pw a4),(yd5,yej.pw a5),(ydE,yyk.pw a6),(ycO,yit.pw a7)],ygv [(ye3,ye6)],yeG a0 a1 a2 a3 a4 a5 a6 a7 a8,ylr [(ycz,ydf a1),(ybA,ybI a2),(yce,ycE a8)]⟩
theorem ym7 (e:Es) (he:EG e):SEOk (Uni (E e)) (yhu e yaO yau yad yan yac yaD yak yai yar):=yid (Sub.uni _) ⟨(yiv e he),(yha e he),(ybv e he),(yfw e he),(yfj e he),(ydX e he),trivial⟩ trivial he.ok ⟨(yhs e he),(ycX e he),(yfi e he),trivial⟩
theorem yjX (e:Es) (a0 a1 a2 a3 a4 a5 a6 a7 a8):yct (yhu e a0 a1 a2 a3 a4 a5 a6 a7 a8) 5 a yhL false (ygJ a0 a1 a2 a3 a4 a5 a6 a7 a8):=fun _=>⟨fun _=>by kernel_rfl,fun _ _=>by kernel_rfl,fun _=>by kernel_rfl,fun _ _=>by kernel_rfl,fun _=>by kernel_rfl,fun _ _=>by kernel_rfl,fun _=>by kernel_rfl,fun _ _=>by kernel_rfl,trivial⟩
theorem yjY (e:Es) (he:EG e):LpT (Uni (E e)) (yeG yaO yau yad yan yac yaD yak yai yar) [] 38310000 (.loop 38310000 yhL):=fun _ _ _=>yof.st (Sub.uni _) (ya3 (ym7 e he) 5) (YOk.no _ _) (yaq (by kernel_rfl)) (yjX e _ _ _ _ _ _ _ _ _ _)
theorem ym8 (e:Es) (he:EG e):SEOk (Uni (E e)) (yhv e yaO yau yad yan yac yaD yak yai yar):=yid (Sub.uni _) ⟨(yiv e he),(yha e he),(ybv e he),(yfw e he),(yfj e he),(ydX e he),trivial⟩ ⟨⟨by kernel_rfl,by kernel_rfl,rfl,fun az=>ycp (by kernel_rfl) az,he.num _ (by kernel_rfl),by kernel_rfl,(ybq (l:=[(38310000,.loop 38310000 yhL)]) ⟨yjY e he,trivial⟩ (by kernel_rfl))⟩,trivial⟩ he.ok ⟨(yhs e he),(ycX e he),(yfi e he),trivial⟩
theorem ynV (e:Es) (a0 a1 a2 a3 a4 a5 a6 a7 a8 p0 p1 K):WPL (yhv e a0 a1 a2 a3 a4 a5 a6 a7 a8) 6 yoo [(.ptr 0 1 0 0)] ⟨false,true,2,[(.agg [(.data p0),(.data p1)])]⟩ K=yeF a0 a1 a2 a3 a4 a5 a6 a7 a8 p0 p1 (fun r0 r1 r2 r3 r4 r5 r6 r7 r8 r9 r10 r11 r12 r13 r14 r15 r16 r17 r18 r19 r20 r21=>K (.agg [(.int .i64 r0),(.int .i64 r1),(.int .i64 r2),(.int .i64 r3),(.int .i64 r4),(.int .i64 r5),(.int .i64 r6),(.int .i64 r7),(.int .i64 r8),(.int .i64 r9),(.int .i64 r10),(.int .i64 r11),(.int .i64 r12),(.int .i64 r13),(.int .i64 r14),(.int .i64 r15),(.int .i64 r16),(.int .i64 r17),(.int .i64 r18),(.int .i64 r19)]) [(.agg [(.data r20),(.data r21)])]):=by kernel_rfl
theorem yeH (e:Es) (he:EG e):OkL (E e) yht ybU:=by
 intro az b K h
 unfold yht ycn at h
 split at h
 ·exact yxG (ym8 e he) ynq.flat (yaq (by kernel_rfl)) (by kernel_rfl) (he.num _ (by kernel_rfl)) ((ynV ..).mpr h)
 ·exact h.elim
abbrev yaH:Type:=Ls→Ls→Int→Int→Int→Int→Int→Int→Int→Int→Int→Int→Int→Int→Int→Int→Int→Int→Int→Int→Int→Int→(Int→Int→Int→Int→Int→Int→Int→Int→Int→Int→Int→Int→Ls→Ls→Prop)→Prop
def ybJ (a0:ya8) (a1:ya5) (a2:yaw) (a3:yat) (a4:yaC) (x1:Ls→Ls→Ls→Int→Ls→Int→Int→Bool→Prop):Nat→Ls→Ls→Ls→Int→Ls→Int→Int→Prop
 | 0,_,_,_,_,_,_,_=>False
 | n+1,l0,l1,l2,i3,l6,i7,i8 =>
 (cbr (decide (i8<i7))
 (asr (decide ((0:Int)≤i8))
 (asr (decide (i8<(((List.length l6):Nat):Int)))
 (lt (List.getD l6 (i8.toNat) .nils) (fun a =>
 (asr (conf z4 a)
 (a0 l1 l2 i3 (yaa (yab a 0)) (yaa (yab a 1)) (yaa (yab a 2)) (yaa (yab a 3)) (fun d e f g h =>
 (a1 f g h (fun b c =>
 (asr (decide ((List.length l0)=(List.length l0)))
 (asr (decide ((0+(List.length l0))≤(List.length l0)))
 (asr (!(decide (((0+(List.length l0))+1)≤(List.length l0))))
 (asr (decide ((List.length l0)=(List.length l0)))
 (asr (decide ((((List.length l0)+1)+64)*(16+1)≤room))
 (lt (IntKind.i64.wrap (i8+(1:Int))) (fun i =>
 (asr (decide ((List.length (l0++([(.agg [(.int .i64 b),(.int .i64 c)])]:Ls)))=List.length (l0++([(.agg [(.int .i64 b),(.int .i64 c)])]:Ls)))&&decide ((List.length (l0++([(.agg [(.int .i64 b),(.int .i64 c)])]:Ls)))=List.length (l0++([(.agg [(.int .i64 b),(.int .i64 c)])]:Ls))))
 (ybJ a0 a1 a2 a3 a4 x1 n (l0++([(.agg [(.int .i64 b),(.int .i64 c)])]:Ls)) d e i3 l6 i7 i))))))))))))))))))
 (x1 l0 l1 l2 i3 l6 i7 i8 false))
def ycj (a0:ya8) (a1:ya5) (a2:yaw) (a3:yat) (a4:yaC) (x0:Ls→Ls→Int→Ls→Int→Int→Bool→Prop) (x1:Ls→Ls→Ls→Int→Ls→Int→Int→Bool→Prop):Nat→Ls→Ls→Int→Ls→Int→Int→Prop
 | 0,_,_,_,_,_,_=>False
 | n+1,l0,l1,i2,l3,i4,i5 =>
 (cbr (decide (i5<i4))
 (asr (decide ((0:Int)≤i5))
 (asr (decide (i5<(((List.length l3):Nat):Int)))
 (lt (List.getD l3 (i5.toNat) .nils) (fun a =>
 (asr (conf z4 a)
 (a0 l0 l1 i2 (yaa (yab a 0)) (yaa (yab a 1)) (yaa (yab a 2)) (yaa (yab a 3)) (fun d e f g h =>
 (a1 f g h (fun b c =>
 (lt (IntKind.i64.wrap (i5+(1:Int))) (fun i =>
 (asr (decide (1=List.length ([(.agg [(.int .i64 b),(.int .i64 c)])]:Ls))&&decide (1=List.length ([(.agg [(.int .i64 b),(.int .i64 c)])]:Ls)))
 (ybJ a0 a1 a2 a3 a4 x1 n ([(.agg [(.int .i64 b),(.int .i64 c)])]:Ls) d e i2 l3 i4 i)))))))))))))
 (x0 l0 l1 i2 l3 i4 i5 false))
def yaT (a0:ya8) (a1:ya5) (a2:yaw) (a3:yat) (a4:yaC) (x3:Ls→Ls→Ls→Ls→Ls→Int→Int→Int→Bool→Prop):Nat→Ls→Ls→Ls→Ls→Ls→Int→Int→Int→Prop
 | 0,_,_,_,_,_,_,_,_=>False
 | n+1,l0,l1,l2,l3,l4,i5,i11,i12 =>
 (cbr (decide (i12<i11))
 (asr (decide ((0:Int)≤i12))
 (asr (decide (i12<(((List.length l1):Nat):Int)))
 (asr (decide ((List.length l1)=(List.length l1)))
 (asr (decide ((0+(i12.toNat))<(List.length l1)))
 (lt (List.getD l1 (0+(i12.toNat)) .nils) (fun a =>
 (asr (conf z4 a)
 (a0 l3 l4 i5 (yaa (yab a 0)) (yaa (yab a 1)) (yaa (yab a 2)) (yaa (yab a 3)) (fun d e f g h =>
 (a1 f g h (fun b c =>
 (asr (decide ((List.length l2)=(List.length l2)))
 (asr (decide ((0+(List.length l2))≤(List.length l2)))
 (asr (!(decide (((0+(List.length l2))+1)≤(List.length l2))))
 (asr (decide ((List.length l2)=(List.length l2)))
 (asr (decide ((((List.length l2)+1)+64)*(16+1)≤room))
 (lt (IntKind.i64.wrap (i12+(1:Int))) (fun i =>
 (asr (decide ((List.length (l2++([(.agg [(.int .i64 b),(.int .i64 c)])]:Ls)))=List.length (l2++([(.agg [(.int .i64 b),(.int .i64 c)])]:Ls)))&&decide ((List.length (l2++([(.agg [(.int .i64 b),(.int .i64 c)])]:Ls)))=List.length (l2++([(.agg [(.int .i64 b),(.int .i64 c)])]:Ls)))&&decide ((List.length l1)=List.length l1)&&decide ((List.length l1)=List.length l1)&&decide ((List.length l1)=List.length l1))
 (yaT a0 a1 a2 a3 a4 x3 n l0 l1 (l2++([(.agg [(.int .i64 b),(.int .i64 c)])]:Ls)) d e i5 i11 i))))))))))))))))))))
 (x3 l0 l1 l2 l3 l4 i5 i11 i12 false))
def yck (a0:ya8) (a1:ya5) (a2:yaw) (a3:yat) (a4:yaC) (x2:Ls→Ls→Ls→Ls→Int→Int→Int→Bool→Prop) (x3:Ls→Ls→Ls→Ls→Ls→Int→Int→Int→Bool→Prop):Nat→Ls→Ls→Ls→Ls→Int→Int→Int→Prop
 | 0,_,_,_,_,_,_,_=>False
 | n+1,l0,l1,l2,l3,i4,i8,i9 =>
 (cbr (decide (i9<i8))
 (asr (decide ((0:Int)≤i9))
 (asr (decide (i9<(((List.length l1):Nat):Int)))
 (asr (decide ((List.length l1)=(List.length l1)))
 (asr (decide ((0+(i9.toNat))<(List.length l1)))
 (lt (List.getD l1 (0+(i9.toNat)) .nils) (fun a =>
 (asr (conf z4 a)
 (a0 l2 l3 i4 (yaa (yab a 0)) (yaa (yab a 1)) (yaa (yab a 2)) (yaa (yab a 3)) (fun d e f g h =>
 (a1 f g h (fun b c =>
 (lt (IntKind.i64.wrap (i9+(1:Int))) (fun i =>
 (asr (decide (1=List.length ([(.agg [(.int .i64 b),(.int .i64 c)])]:Ls))&&decide (1=List.length ([(.agg [(.int .i64 b),(.int .i64 c)])]:Ls))&&decide ((List.length l1)=List.length l1)&&decide ((List.length l1)=List.length l1)&&decide ((List.length l1)=List.length l1))
 (yaT a0 a1 a2 a3 a4 x3 n l0 l1 ([(.agg [(.int .i64 b),(.int .i64 c)])]:Ls) d e i4 i8 i)))))))))))))))
 (x2 l0 l1 l2 l3 i4 i8 i9 false))
def ydh (a0:ya8) (a1:ya5) (a2:yaw) (a3:yat) (a4:yaC) (x5:Ls→Ls→Ls→Ls→Ls→Int→Ls→Int→Int→Bool→Prop):Nat→Ls→Ls→Ls→Ls→Ls→Int→Ls→Int→Int→Prop
 | 0,_,_,_,_,_,_,_,_,_=>False
 | n+1,l0,l1,l2,l3,l4,i5,l8,i9,i10 =>
 (cbr (decide (i10<i9))
 (asr (decide ((0:Int)≤i10))
 (asr (decide (i10<(((List.length l8):Nat):Int)))
 (lt (List.getD l8 (i10.toNat) .nils) (fun a =>
 (asr (conf z4 a)
 (a0 l3 l4 i5 (yaa (yab a 0)) (yaa (yab a 1)) (yaa (yab a 2)) (yaa (yab a 3)) (fun d e f g h =>
 (a1 f g h (fun b c =>
 (asr (decide ((List.length l2)=(List.length l2)))
 (asr (decide ((0+(List.length l2))≤(List.length l2)))
 (asr (!(decide (((0+(List.length l2))+1)≤(List.length l2))))
 (asr (decide ((List.length l2)=(List.length l2)))
 (asr (decide ((((List.length l2)+1)+64)*(16+1)≤room))
 (lt (IntKind.i64.wrap (i10+(1:Int))) (fun i =>
 (asr (decide ((List.length (l2++([(.agg [(.int .i64 b),(.int .i64 c)])]:Ls)))=List.length (l2++([(.agg [(.int .i64 b),(.int .i64 c)])]:Ls)))&&decide ((List.length (l2++([(.agg [(.int .i64 b),(.int .i64 c)])]:Ls)))=List.length (l2++([(.agg [(.int .i64 b),(.int .i64 c)])]:Ls))))
 (ydh a0 a1 a2 a3 a4 x5 n l0 l1 (l2++([(.agg [(.int .i64 b),(.int .i64 c)])]:Ls)) d e i5 l8 i9 i))))))))))))))))))
 (x5 l0 l1 l2 l3 l4 i5 l8 i9 i10 false))
def yfE (a0:ya8) (a1:ya5) (a2:yaw) (a3:yat) (a4:yaC) (x4:Ls→Ls→Ls→Ls→Int→Ls→Int→Int→Bool→Prop) (x5:Ls→Ls→Ls→Ls→Ls→Int→Ls→Int→Int→Bool→Prop):Nat→Ls→Ls→Ls→Ls→Int→Ls→Int→Int→Prop
 | 0,_,_,_,_,_,_,_,_=>False
 | n+1,l0,l1,l2,l3,i4,l5,i6,i7 =>
 (cbr (decide (i7<i6))
 (asr (decide ((0:Int)≤i7))
 (asr (decide (i7<(((List.length l5):Nat):Int)))
 (lt (List.getD l5 (i7.toNat) .nils) (fun a =>
 (asr (conf z4 a)
 (a0 l2 l3 i4 (yaa (yab a 0)) (yaa (yab a 1)) (yaa (yab a 2)) (yaa (yab a 3)) (fun d e f g h =>
 (a1 f g h (fun b c =>
 (lt (IntKind.i64.wrap (i7+(1:Int))) (fun i =>
 (asr (decide (1=List.length ([(.agg [(.int .i64 b),(.int .i64 c)])]:Ls))&&decide (1=List.length ([(.agg [(.int .i64 b),(.int .i64 c)])]:Ls)))
 (ydh a0 a1 a2 a3 a4 x5 n l0 l1 ([(.agg [(.int .i64 b),(.int .i64 c)])]:Ls) d e i4 l5 i6 i)))))))))))))
 (x4 l0 l1 l2 l3 i4 l5 i6 i7 false))
def ybd (a0:ya8) (a1:ya5) (a2:yaw) (a3:yat) (a4:yaC) (x7:Ls→Ls→Ls→Ls→Ls→Ls→Int→Ls→Int→Int→Bool→Prop):Nat→Ls→Ls→Ls→Ls→Ls→Ls→Int→Ls→Int→Int→Prop
 | 0,_,_,_,_,_,_,_,_,_,_=>False
 | n+1,l0,l1,l2,l3,l4,l5,i6,l9,i10,i11 =>
 (cbr (decide (i11<i10))
 (asr (decide ((0:Int)≤i11))
 (asr (decide (i11<(((List.length l9):Nat):Int)))
 (lt (List.getD l9 (i11.toNat) .nils) (fun a =>
 (asr (conf z4 a)
 (a0 l4 l5 i6 (yaa (yab a 0)) (yaa (yab a 1)) (yaa (yab a 2)) (yaa (yab a 3)) (fun d e f g h =>
 (a1 f g h (fun b c =>
 (asr (decide ((List.length l3)=(List.length l3)))
 (asr (decide ((0+(List.length l3))≤(List.length l3)))
 (asr (!(decide (((0+(List.length l3))+1)≤(List.length l3))))
 (asr (decide ((List.length l3)=(List.length l3)))
 (asr (decide ((((List.length l3)+1)+64)*(16+1)≤room))
 (lt (IntKind.i64.wrap (i11+(1:Int))) (fun i =>
 (asr (decide ((List.length (l3++([(.agg [(.int .i64 b),(.int .i64 c)])]:Ls)))=List.length (l3++([(.agg [(.int .i64 b),(.int .i64 c)])]:Ls)))&&decide ((List.length (l3++([(.agg [(.int .i64 b),(.int .i64 c)])]:Ls)))=List.length (l3++([(.agg [(.int .i64 b),(.int .i64 c)])]:Ls))))
 (ybd a0 a1 a2 a3 a4 x7 n l0 l1 l2 (l3++([(.agg [(.int .i64 b),(.int .i64 c)])]:Ls)) d e i6 l9 i10 i))))))))))))))))))
 (x7 l0 l1 l2 l3 l4 l5 i6 l9 i10 i11 false))
def ycl (a0:ya8) (a1:ya5) (a2:yaw) (a3:yat) (a4:yaC) (x6:Ls→Ls→Ls→Ls→Ls→Int→Ls→Int→Int→Bool→Prop) (x7:Ls→Ls→Ls→Ls→Ls→Ls→Int→Ls→Int→Int→Bool→Prop):Nat→Ls→Ls→Ls→Ls→Ls→Int→Ls→Int→Int→Prop
 | 0,_,_,_,_,_,_,_,_,_=>False
 | n+1,l0,l1,l2,l3,l4,i5,l6,i7,i8 =>
 (cbr (decide (i8<i7))
 (asr (decide ((0:Int)≤i8))
 (asr (decide (i8<(((List.length l6):Nat):Int)))
 (lt (List.getD l6 (i8.toNat) .nils) (fun a =>
 (asr (conf z4 a)
 (a0 l3 l4 i5 (yaa (yab a 0)) (yaa (yab a 1)) (yaa (yab a 2)) (yaa (yab a 3)) (fun d e f g h =>
 (a1 f g h (fun b c =>
 (lt (IntKind.i64.wrap (i8+(1:Int))) (fun i =>
 (asr (decide (1=List.length ([(.agg [(.int .i64 b),(.int .i64 c)])]:Ls))&&decide (1=List.length ([(.agg [(.int .i64 b),(.int .i64 c)])]:Ls)))
 (ybd a0 a1 a2 a3 a4 x7 n l0 l1 l2 ([(.agg [(.int .i64 b),(.int .i64 c)])]:Ls) d e i5 l6 i7 i)))))))))))))
 (x6 l0 l1 l2 l3 l4 i5 l6 i7 i8 false))
def yeo (a0:ya8) (a1:ya5) (a2:yaw) (a3:yat) (a4:yaC) (p0 p1:Ls) (p2 p3 p4 p5 p6 p7 p8 p9 p10 p11 p12 p13 p14 p15 p16 p17 p18 p19 p20 p21:Int) (K:Int→Int→Int→Int→Int→Int→Int→Int→Int→Int→Int→Int→Ls→Ls→Prop):Prop :=
 (jn (fun (vm:Int→Int→Prop) =>
 (cbr (p21 == p14)
 (vm (2:Int) (1:Int))
 (vm (1:Int) (2:Int))))
 (fun o a=>(∃ n:Nat,ycj a0 a1 a2 a3 a4
 (fun wr ws wt wu wv ww wx=>False)
 (fun I vn vo wy wz wA wB wC=>(asr (decide ((0:Int)<(((List.length I):Nat):Int)))
 (asr (decide ((List.length I)=(List.length I)))
 (asr (decide (0<(List.length I)))
 (lt (List.getD I 0 .nils) (fun vh =>
 (asr (conf z2 vh)
 (a2 vn vo a p15 p16 (yaa (yab vh 0)) (yaa (yab vh 1)) (fun B C D E vp vq =>
 (asr (decide (3=List.length ([(.agg [(.int .i64 p15),(.int .i64 p16),(.int .i64 B),(.int .i64 C)]),(.agg [(.int .i64 B),(.int .i64 C),(.int .i64 D),(.int .i64 E)]),(.agg [(.int .i64 D),(.int .i64 E),(.int .i64 p17),(.int .i64 p18)])]:Ls))&&decide (3=List.length ([(.agg [(.int .i64 p15),(.int .i64 p16),(.int .i64 B),(.int .i64 C)]),(.agg [(.int .i64 B),(.int .i64 C),(.int .i64 D),(.int .i64 E)]),(.agg [(.int .i64 D),(.int .i64 E),(.int .i64 p17),(.int .i64 p18)])]:Ls))&&decide (3=List.length ([(.agg [(.int .i64 p15),(.int .i64 p16),(.int .i64 B),(.int .i64 C)]),(.agg [(.int .i64 B),(.int .i64 C),(.int .i64 D),(.int .i64 E)]),(.agg [(.int .i64 D),(.int .i64 E),(.int .i64 p17),(.int .i64 p18)])]:Ls)))
 (∃ n:Nat,yck a0 a1 a2 a3 a4
 (fun vr F vs vt wD wE wF wG=>(a3 ([]:Ls) ([(.int .i64 (0:Int)),(.int .i64 (1:Int)),(.int .i64 (2:Int))]:Ls) (fun r =>
 (a4 ([(.int .i64 r)]:Ls) (fun p =>
 (asr (decide ((0:Int)<(((List.length p):Nat):Int)))
 (lt (List.getD p 0 .nils) (fun M =>
 (asr (conf zI M)
 (asr (decide ((0:Int)≤(yaa M)))
 (asr (decide ((yaa M)<(3:Int)))
 (asr (decide ((List.length F)=3))
 (asr (decide ((0+((yaa M).toNat))<(List.length F)))
 (lt (List.getD F (0+((yaa M).toNat)) .nils) (fun N =>
 (asr (conf z4 N)
 (asr (decide ((1:Int)<(((List.length p):Nat):Int)))
 (lt (List.getD p 1 .nils) (fun O =>
 (asr (conf zI O)
 (asr (decide ((0:Int)≤(yaa O)))
 (asr (decide ((yaa O)<(3:Int)))
 (asr (decide ((List.length F)=3))
 (asr (decide ((0+((yaa O).toNat))<(List.length F)))
 (lt (List.getD F (0+((yaa O).toNat)) .nils) (fun Q =>
 (asr (conf z4 Q)
 (∃ n:Nat,yfE a0 a1 a2 a3 a4
 (fun wH s vu vv wI wJ wK wL wM=>(a3 ([]:Ls) ([(.int .i64 (0:Int)),(.int .i64 (1:Int))]:Ls) (fun vd =>
 (jn (fun (t:Int→Int→Int→Int→Int→Int→Int→Int→Int→Int→Int→Int→Prop) =>
 (asr (decide ((0:Int)≤r))
 (asr (decide (r<(3:Int)))
 (asr (decide ((List.length s)=3))
 (asr (decide ((0+(r.toNat))<(List.length s)))
 (lt (List.getD s (0+(r.toNat)) .nils) (fun j =>
 (asr (conf z4 j)
 (asr (decide ((0:Int)≤vd))
 (asr (decide (vd<(((List.length p):Nat):Int)))
 (lt (List.getD p (vd.toNat) .nils) (fun R =>
 (asr (conf zI R)
 (asr (decide ((0:Int)≤(yaa R)))
 (asr (decide ((yaa R)<(3:Int)))
 (asr (decide ((List.length s)=3))
 (asr (decide ((0+((yaa R).toNat))<(List.length s)))
 (lt (List.getD s (0+((yaa R).toNat)) .nils) (fun f =>
 (asr (conf z4 f)
 (lt (IntKind.i64.wrap ((1:Int)-vd)) (fun vi =>
 (asr (decide ((0:Int)≤vi))
 (asr (decide (vi<(((List.length p):Nat):Int)))
 (lt (List.getD p (vi.toNat) .nils) (fun S =>
 (asr (conf zI S)
 (asr (decide ((0:Int)≤(yaa S)))
 (asr (decide ((yaa S)<(3:Int)))
 (asr (decide ((List.length s)=3))
 (asr (decide ((0+((yaa S).toNat))<(List.length s)))
 (lt (List.getD s (0+((yaa S).toNat)) .nils) (fun b =>
 (asr (conf z4 b)
 (cbr (decide (o=(0:Int)))
 (cbr (decide (a=(0:Int)))
 (t (yaa (yab b 0)) (yaa (yab b 1)) (yaa (yab b 2)) (yaa (yab b 3)) (0:Int) (0:Int) (0:Int) (0:Int) (0:Int) (0:Int) (0:Int) (0:Int))
 (cbr (decide (a=(1:Int)))
 (t (yaa (yab f 0)) (yaa (yab f 1)) (yaa (yab f 2)) (yaa (yab f 3)) (yaa (yab b 0)) (yaa (yab b 1)) (yaa (yab b 2)) (yaa (yab b 3)) (0:Int) (0:Int) (0:Int) (0:Int))
 (cbr (decide (a=(2:Int)))
 (t (yaa (yab f 0)) (yaa (yab f 1)) (yaa (yab f 2)) (yaa (yab f 3)) (0:Int) (0:Int) (0:Int) (0:Int) (yaa (yab b 0)) (yaa (yab b 1)) (yaa (yab b 2)) (yaa (yab b 3)))
 False)))
 (cbr (decide (o=(1:Int)))
 (cbr (decide (a=(0:Int)))
 (t (yaa (yab b 0)) (yaa (yab b 1)) (yaa (yab b 2)) (yaa (yab b 3)) (yaa (yab j 0)) (yaa (yab j 1)) (yaa (yab j 2)) (yaa (yab j 3)) (0:Int) (0:Int) (0:Int) (0:Int))
 (cbr (decide (a=(1:Int)))
 (t (yaa (yab f 0)) (yaa (yab f 1)) (yaa (yab f 2)) (yaa (yab f 3)) (yaa (yab b 0)) (yaa (yab b 1)) (yaa (yab b 2)) (yaa (yab b 3)) (0:Int) (0:Int) (0:Int) (0:Int))
 (cbr (decide (a=(2:Int)))
 (t (yaa (yab f 0)) (yaa (yab f 1)) (yaa (yab f 2)) (yaa (yab f 3)) (yaa (yab j 0)) (yaa (yab j 1)) (yaa (yab j 2)) (yaa (yab j 3)) (yaa (yab b 0)) (yaa (yab b 1)) (yaa (yab b 2)) (yaa (yab b 3)))
 False)))
 (cbr (decide (o=(2:Int)))
 (cbr (decide (a=(0:Int)))
 (t (yaa (yab b 0)) (yaa (yab b 1)) (yaa (yab b 2)) (yaa (yab b 3)) (0:Int) (0:Int) (0:Int) (0:Int) (yaa (yab j 0)) (yaa (yab j 1)) (yaa (yab j 2)) (yaa (yab j 3)))
 (cbr (decide (a=(1:Int)))
 (t (yaa (yab f 0)) (yaa (yab f 1)) (yaa (yab f 2)) (yaa (yab f 3)) (yaa (yab b 0)) (yaa (yab b 1)) (yaa (yab b 2)) (yaa (yab b 3)) (yaa (yab j 0)) (yaa (yab j 1)) (yaa (yab j 2)) (yaa (yab j 3)))
 (cbr (decide (a=(2:Int)))
 (t (yaa (yab f 0)) (yaa (yab f 1)) (yaa (yab f 2)) (yaa (yab f 3)) (0:Int) (0:Int) (0:Int) (0:Int) (yaa (yab b 0)) (yaa (yab b 1)) (yaa (yab b 2)) (yaa (yab b 3)))
 False)))
 False)))))))))))))))))))))))))))))))))))))
 (fun vw vx vy vz vA vB vC vD vE vF vG vH=>(K vw vx vy vz vA vB vC vD vE vF vG vH vu vv))))))
 (fun wN u J vI vJ wO wP wQ wR wS=>(asr (decide ((List.length J)=(List.length J)))
 (asr (decide ((0+(List.length J))≤(List.length J)))
 (a3 (List.take (List.length J) J) ([(.int .i64 (0:Int)),(.int .i64 (1:Int))]:Ls) (fun ve =>
 (jn (fun (v:Int→Int→Int→Int→Int→Int→Int→Int→Int→Int→Int→Int→Prop) =>
 (asr (decide ((0:Int)≤r))
 (asr (decide (r<(3:Int)))
 (asr (decide ((List.length u)=3))
 (asr (decide ((0+(r.toNat))<(List.length u)))
 (lt (List.getD u (0+(r.toNat)) .nils) (fun k =>
 (asr (conf z4 k)
 (asr (decide ((0:Int)≤ve))
 (asr (decide (ve<(((List.length p):Nat):Int)))
 (lt (List.getD p (ve.toNat) .nils) (fun T =>
 (asr (conf zI T)
 (asr (decide ((0:Int)≤(yaa T)))
 (asr (decide ((yaa T)<(3:Int)))
 (asr (decide ((List.length u)=3))
 (asr (decide ((0+((yaa T).toNat))<(List.length u)))
 (lt (List.getD u (0+((yaa T).toNat)) .nils) (fun g =>
 (asr (conf z4 g)
 (lt (IntKind.i64.wrap ((1:Int)-ve)) (fun vj =>
 (asr (decide ((0:Int)≤vj))
 (asr (decide (vj<(((List.length p):Nat):Int)))
 (lt (List.getD p (vj.toNat) .nils) (fun U =>
 (asr (conf zI U)
 (asr (decide ((0:Int)≤(yaa U)))
 (asr (decide ((yaa U)<(3:Int)))
 (asr (decide ((List.length u)=3))
 (asr (decide ((0+((yaa U).toNat))<(List.length u)))
 (lt (List.getD u (0+((yaa U).toNat)) .nils) (fun c =>
 (asr (conf z4 c)
 (cbr (decide (o=(0:Int)))
 (cbr (decide (a=(0:Int)))
 (v (yaa (yab c 0)) (yaa (yab c 1)) (yaa (yab c 2)) (yaa (yab c 3)) (0:Int) (0:Int) (0:Int) (0:Int) (0:Int) (0:Int) (0:Int) (0:Int))
 (cbr (decide (a=(1:Int)))
 (v (yaa (yab g 0)) (yaa (yab g 1)) (yaa (yab g 2)) (yaa (yab g 3)) (yaa (yab c 0)) (yaa (yab c 1)) (yaa (yab c 2)) (yaa (yab c 3)) (0:Int) (0:Int) (0:Int) (0:Int))
 (cbr (decide (a=(2:Int)))
 (v (yaa (yab g 0)) (yaa (yab g 1)) (yaa (yab g 2)) (yaa (yab g 3)) (0:Int) (0:Int) (0:Int) (0:Int) (yaa (yab c 0)) (yaa (yab c 1)) (yaa (yab c 2)) (yaa (yab c 3)))
 False)))
 (cbr (decide (o=(1:Int)))
 (cbr (decide (a=(0:Int)))
 (v (yaa (yab c 0)) (yaa (yab c 1)) (yaa (yab c 2)) (yaa (yab c 3)) (yaa (yab k 0)) (yaa (yab k 1)) (yaa (yab k 2)) (yaa (yab k 3)) (0:Int) (0:Int) (0:Int) (0:Int))
 (cbr (decide (a=(1:Int)))
 (v (yaa (yab g 0)) (yaa (yab g 1)) (yaa (yab g 2)) (yaa (yab g 3)) (yaa (yab c 0)) (yaa (yab c 1)) (yaa (yab c 2)) (yaa (yab c 3)) (0:Int) (0:Int) (0:Int) (0:Int))
 (cbr (decide (a=(2:Int)))
 (v (yaa (yab g 0)) (yaa (yab g 1)) (yaa (yab g 2)) (yaa (yab g 3)) (yaa (yab k 0)) (yaa (yab k 1)) (yaa (yab k 2)) (yaa (yab k 3)) (yaa (yab c 0)) (yaa (yab c 1)) (yaa (yab c 2)) (yaa (yab c 3)))
 False)))
 (cbr (decide (o=(2:Int)))
 (cbr (decide (a=(0:Int)))
 (v (yaa (yab c 0)) (yaa (yab c 1)) (yaa (yab c 2)) (yaa (yab c 3)) (0:Int) (0:Int) (0:Int) (0:Int) (yaa (yab k 0)) (yaa (yab k 1)) (yaa (yab k 2)) (yaa (yab k 3)))
 (cbr (decide (a=(1:Int)))
 (v (yaa (yab g 0)) (yaa (yab g 1)) (yaa (yab g 2)) (yaa (yab g 3)) (yaa (yab c 0)) (yaa (yab c 1)) (yaa (yab c 2)) (yaa (yab c 3)) (yaa (yab k 0)) (yaa (yab k 1)) (yaa (yab k 2)) (yaa (yab k 3)))
 (cbr (decide (a=(2:Int)))
 (v (yaa (yab g 0)) (yaa (yab g 1)) (yaa (yab g 2)) (yaa (yab g 3)) (0:Int) (0:Int) (0:Int) (0:Int) (yaa (yab c 0)) (yaa (yab c 1)) (yaa (yab c 2)) (yaa (yab c 3)))
 False)))
 False)))))))))))))))))))))))))))))))))))))
 (fun vK vL vM vN vO vP vQ vR vS vT vU vV=>(K vK vL vM vN vO vP vQ vR vS vT vU vV vI vJ))))))))
 n vr F vs vt (0:Int) ([(.agg [(.int .i64 (yaa (yab N 0))),(.int .i64 (yaa (yab N 1))),(.int .i64 (yaa (yab N 2))),(.int .i64 (yaa (yab N 3)))]),(.agg [(.int .i64 (yaa (yab Q 0))),(.int .i64 (yaa (yab Q 1))),(.int .i64 (yaa (yab Q 2))),(.int .i64 (yaa (yab Q 3)))])]:Ls) (2:Int) (0:Int)))))))))))))))))))))))))))))
 (fun vW G H vX vY wT wU wV wW=>(asr (decide ((List.length H)=(List.length H)))
 (asr (decide ((0+(List.length H))≤(List.length H)))
 (a3 (List.take (List.length H) H) ([(.int .i64 (0:Int)),(.int .i64 (1:Int)),(.int .i64 (2:Int))]:Ls) (fun w =>
 (a4 ([(.int .i64 w)]:Ls) (fun q =>
 (asr (decide ((0:Int)<(((List.length q):Nat):Int)))
 (lt (List.getD q 0 .nils) (fun V =>
 (asr (conf zI V)
 (asr (decide ((0:Int)≤(yaa V)))
 (asr (decide ((yaa V)<(3:Int)))
 (asr (decide ((List.length G)=3))
 (asr (decide ((0+((yaa V).toNat))<(List.length G)))
 (lt (List.getD G (0+((yaa V).toNat)) .nils) (fun W =>
 (asr (conf z4 W)
 (asr (decide ((1:Int)<(((List.length q):Nat):Int)))
 (lt (List.getD q 1 .nils) (fun X =>
 (asr (conf zI X)
 (asr (decide ((0:Int)≤(yaa X)))
 (asr (decide ((yaa X)<(3:Int)))
 (asr (decide ((List.length G)=3))
 (asr (decide ((0+((yaa X).toNat))<(List.length G)))
 (lt (List.getD G (0+((yaa X).toNat)) .nils) (fun Y =>
 (asr (conf z4 Y)
 (∃ n:Nat,ycl a0 a1 a2 a3 a4
 (fun wX x wY vZ v0 wZ w0 w1 w2 w3=>(a3 ([]:Ls) ([(.int .i64 (0:Int)),(.int .i64 (1:Int))]:Ls) (fun vf =>
 (jn (fun (y:Int→Int→Int→Int→Int→Int→Int→Int→Int→Int→Int→Int→Prop) =>
 (asr (decide ((0:Int)≤w))
 (asr (decide (w<(3:Int)))
 (asr (decide ((List.length x)=3))
 (asr (decide ((0+(w.toNat))<(List.length x)))
 (lt (List.getD x (0+(w.toNat)) .nils) (fun l =>
 (asr (conf z4 l)
 (asr (decide ((0:Int)≤vf))
 (asr (decide (vf<(((List.length q):Nat):Int)))
 (lt (List.getD q (vf.toNat) .nils) (fun Z =>
 (asr (conf zI Z)
 (asr (decide ((0:Int)≤(yaa Z)))
 (asr (decide ((yaa Z)<(3:Int)))
 (asr (decide ((List.length x)=3))
 (asr (decide ((0+((yaa Z).toNat))<(List.length x)))
 (lt (List.getD x (0+((yaa Z).toNat)) .nils) (fun h =>
 (asr (conf z4 h)
 (lt (IntKind.i64.wrap ((1:Int)-vf)) (fun vk =>
 (asr (decide ((0:Int)≤vk))
 (asr (decide (vk<(((List.length q):Nat):Int)))
 (lt (List.getD q (vk.toNat) .nils) (fun va =>
 (asr (conf zI va)
 (asr (decide ((0:Int)≤(yaa va)))
 (asr (decide ((yaa va)<(3:Int)))
 (asr (decide ((List.length x)=3))
 (asr (decide ((0+((yaa va).toNat))<(List.length x)))
 (lt (List.getD x (0+((yaa va).toNat)) .nils) (fun d =>
 (asr (conf z4 d)
 (cbr (decide (o=(0:Int)))
 (cbr (decide (a=(0:Int)))
 (y (yaa (yab d 0)) (yaa (yab d 1)) (yaa (yab d 2)) (yaa (yab d 3)) (0:Int) (0:Int) (0:Int) (0:Int) (0:Int) (0:Int) (0:Int) (0:Int))
 (cbr (decide (a=(1:Int)))
 (y (yaa (yab h 0)) (yaa (yab h 1)) (yaa (yab h 2)) (yaa (yab h 3)) (yaa (yab d 0)) (yaa (yab d 1)) (yaa (yab d 2)) (yaa (yab d 3)) (0:Int) (0:Int) (0:Int) (0:Int))
 (cbr (decide (a=(2:Int)))
 (y (yaa (yab h 0)) (yaa (yab h 1)) (yaa (yab h 2)) (yaa (yab h 3)) (0:Int) (0:Int) (0:Int) (0:Int) (yaa (yab d 0)) (yaa (yab d 1)) (yaa (yab d 2)) (yaa (yab d 3)))
 False)))
 (cbr (decide (o=(1:Int)))
 (cbr (decide (a=(0:Int)))
 (y (yaa (yab d 0)) (yaa (yab d 1)) (yaa (yab d 2)) (yaa (yab d 3)) (yaa (yab l 0)) (yaa (yab l 1)) (yaa (yab l 2)) (yaa (yab l 3)) (0:Int) (0:Int) (0:Int) (0:Int))
 (cbr (decide (a=(1:Int)))
 (y (yaa (yab h 0)) (yaa (yab h 1)) (yaa (yab h 2)) (yaa (yab h 3)) (yaa (yab d 0)) (yaa (yab d 1)) (yaa (yab d 2)) (yaa (yab d 3)) (0:Int) (0:Int) (0:Int) (0:Int))
 (cbr (decide (a=(2:Int)))
 (y (yaa (yab h 0)) (yaa (yab h 1)) (yaa (yab h 2)) (yaa (yab h 3)) (yaa (yab l 0)) (yaa (yab l 1)) (yaa (yab l 2)) (yaa (yab l 3)) (yaa (yab d 0)) (yaa (yab d 1)) (yaa (yab d 2)) (yaa (yab d 3)))
 False)))
 (cbr (decide (o=(2:Int)))
 (cbr (decide (a=(0:Int)))
 (y (yaa (yab d 0)) (yaa (yab d 1)) (yaa (yab d 2)) (yaa (yab d 3)) (0:Int) (0:Int) (0:Int) (0:Int) (yaa (yab l 0)) (yaa (yab l 1)) (yaa (yab l 2)) (yaa (yab l 3)))
 (cbr (decide (a=(1:Int)))
 (y (yaa (yab h 0)) (yaa (yab h 1)) (yaa (yab h 2)) (yaa (yab h 3)) (yaa (yab d 0)) (yaa (yab d 1)) (yaa (yab d 2)) (yaa (yab d 3)) (yaa (yab l 0)) (yaa (yab l 1)) (yaa (yab l 2)) (yaa (yab l 3)))
 (cbr (decide (a=(2:Int)))
 (y (yaa (yab h 0)) (yaa (yab h 1)) (yaa (yab h 2)) (yaa (yab h 3)) (0:Int) (0:Int) (0:Int) (0:Int) (yaa (yab d 0)) (yaa (yab d 1)) (yaa (yab d 2)) (yaa (yab d 3)))
 False)))
 False)))))))))))))))))))))))))))))))))))))
 (fun v1 v2 v3 v4 v5 v6 v7 v8 v9 wa wb wc=>(K v1 v2 v3 v4 v5 v6 v7 v8 v9 wa wb wc vZ v0))))))
 (fun w4 z w5 L wd we w6 w7 w8 w9 vaa=>(asr (decide ((List.length L)=(List.length L)))
 (asr (decide ((0+(List.length L))≤(List.length L)))
 (a3 (List.take (List.length L) L) ([(.int .i64 (0:Int)),(.int .i64 (1:Int))]:Ls) (fun vg =>
 (jn (fun (A:Int→Int→Int→Int→Int→Int→Int→Int→Int→Int→Int→Int→Prop) =>
 (asr (decide ((0:Int)≤w))
 (asr (decide (w<(3:Int)))
 (asr (decide ((List.length z)=3))
 (asr (decide ((0+(w.toNat))<(List.length z)))
 (lt (List.getD z (0+(w.toNat)) .nils) (fun m =>
 (asr (conf z4 m)
 (asr (decide ((0:Int)≤vg))
 (asr (decide (vg<(((List.length q):Nat):Int)))
 (lt (List.getD q (vg.toNat) .nils) (fun vb =>
 (asr (conf zI vb)
 (asr (decide ((0:Int)≤(yaa vb)))
 (asr (decide ((yaa vb)<(3:Int)))
 (asr (decide ((List.length z)=3))
 (asr (decide ((0+((yaa vb).toNat))<(List.length z)))
 (lt (List.getD z (0+((yaa vb).toNat)) .nils) (fun i =>
 (asr (conf z4 i)
 (lt (IntKind.i64.wrap ((1:Int)-vg)) (fun vl =>
 (asr (decide ((0:Int)≤vl))
 (asr (decide (vl<(((List.length q):Nat):Int)))
 (lt (List.getD q (vl.toNat) .nils) (fun vc =>
 (asr (conf zI vc)
 (asr (decide ((0:Int)≤(yaa vc)))
 (asr (decide ((yaa vc)<(3:Int)))
 (asr (decide ((List.length z)=3))
 (asr (decide ((0+((yaa vc).toNat))<(List.length z)))
 (lt (List.getD z (0+((yaa vc).toNat)) .nils) (fun e =>
 (asr (conf z4 e)
 (cbr (decide (o=(0:Int)))
 (cbr (decide (a=(0:Int)))
 (A (yaa (yab e 0)) (yaa (yab e 1)) (yaa (yab e 2)) (yaa (yab e 3)) (0:Int) (0:Int) (0:Int) (0:Int) (0:Int) (0:Int) (0:Int) (0:Int))
 (cbr (decide (a=(1:Int)))
 (A (yaa (yab i 0)) (yaa (yab i 1)) (yaa (yab i 2)) (yaa (yab i 3)) (yaa (yab e 0)) (yaa (yab e 1)) (yaa (yab e 2)) (yaa (yab e 3)) (0:Int) (0:Int) (0:Int) (0:Int))
 (cbr (decide (a=(2:Int)))
 (A (yaa (yab i 0)) (yaa (yab i 1)) (yaa (yab i 2)) (yaa (yab i 3)) (0:Int) (0:Int) (0:Int) (0:Int) (yaa (yab e 0)) (yaa (yab e 1)) (yaa (yab e 2)) (yaa (yab e 3)))
 False)))
 (cbr (decide (o=(1:Int)))
 (cbr (decide (a=(0:Int)))
 (A (yaa (yab e 0)) (yaa (yab e 1)) (yaa (yab e 2)) (yaa (yab e 3)) (yaa (yab m 0)) (yaa (yab m 1)) (yaa (yab m 2)) (yaa (yab m 3)) (0:Int) (0:Int) (0:Int) (0:Int))
 (cbr (decide (a=(1:Int)))
 (A (yaa (yab i 0)) (yaa (yab i 1)) (yaa (yab i 2)) (yaa (yab i 3)) (yaa (yab e 0)) (yaa (yab e 1)) (yaa (yab e 2)) (yaa (yab e 3)) (0:Int) (0:Int) (0:Int) (0:Int))
 (cbr (decide (a=(2:Int)))
 (A (yaa (yab i 0)) (yaa (yab i 1)) (yaa (yab i 2)) (yaa (yab i 3)) (yaa (yab m 0)) (yaa (yab m 1)) (yaa (yab m 2)) (yaa (yab m 3)) (yaa (yab e 0)) (yaa (yab e 1)) (yaa (yab e 2)) (yaa (yab e 3)))
 False)))
 (cbr (decide (o=(2:Int)))
 (cbr (decide (a=(0:Int)))
 (A (yaa (yab e 0)) (yaa (yab e 1)) (yaa (yab e 2)) (yaa (yab e 3)) (0:Int) (0:Int) (0:Int) (0:Int) (yaa (yab m 0)) (yaa (yab m 1)) (yaa (yab m 2)) (yaa (yab m 3)))
 (cbr (decide (a=(1:Int)))
 (A (yaa (yab i 0)) (yaa (yab i 1)) (yaa (yab i 2)) (yaa (yab i 3)) (yaa (yab e 0)) (yaa (yab e 1)) (yaa (yab e 2)) (yaa (yab e 3)) (yaa (yab m 0)) (yaa (yab m 1)) (yaa (yab m 2)) (yaa (yab m 3)))
 (cbr (decide (a=(2:Int)))
 (A (yaa (yab i 0)) (yaa (yab i 1)) (yaa (yab i 2)) (yaa (yab i 3)) (0:Int) (0:Int) (0:Int) (0:Int) (yaa (yab e 0)) (yaa (yab e 1)) (yaa (yab e 2)) (yaa (yab e 3)))
 False)))
 False)))))))))))))))))))))))))))))))))))))
 (fun wf wg wh wi wj wk wl wm wn wo wp wq=>(K wf wg wh wi wj wk wl wm wn wo wp wq wd we))))))))
 n vW G H vX vY (0:Int) ([(.agg [(.int .i64 (yaa (yab W 0))),(.int .i64 (yaa (yab W 1))),(.int .i64 (yaa (yab W 2))),(.int .i64 (yaa (yab W 3)))]),(.agg [(.int .i64 (yaa (yab Y 0))),(.int .i64 (yaa (yab Y 1))),(.int .i64 (yaa (yab Y 2))),(.int .i64 (yaa (yab Y 3)))])]:Ls) (2:Int) (0:Int)))))))))))))))))))))))))))))))
 n I ([(.agg [(.int .i64 p15),(.int .i64 p16),(.int .i64 B),(.int .i64 C)]),(.agg [(.int .i64 B),(.int .i64 C),(.int .i64 D),(.int .i64 E)]),(.agg [(.int .i64 D),(.int .i64 E),(.int .i64 p17),(.int .i64 p18)])]:Ls) vp vq o (3:Int) (0:Int))))))))))))
 n p0 p1 a ([(.agg [(.int .i64 p15),(.int .i64 p16),(.int .i64 p17),(.int .i64 p18)])]:Ls) (1:Int) (0:Int))))
def yah:yaH:=yeo yan yac yad yak yai
def ycY (w:yaH) (az:Ls) (b:HB) (K:PV→Ls→Prop):Prop :=
 match az,b with
 | [(.ptr 0 1 0 0),(.agg [(.int .i64 p2),(.int .i64 p3),(.int .i64 p4),(.int .i64 p5),(.int .i64 p6),(.int .i64 p7),(.int .i64 p8),(.int .i64 p9),(.int .i64 p10),(.int .i64 p11),(.int .i64 p12),(.int .i64 p13),(.int .i64 p14),(.int .i64 p15),(.int .i64 p16),(.int .i64 p17),(.int .i64 p18),(.int .i64 p19),(.int .i64 p20),(.int .i64 p21)])],⟨false,true,2,[(.agg [(.data p0),(.data p1)])]⟩=>w p0 p1 p2 p3 p4 p5 p6 p7 p8 p9 p10 p11 p12 p13 p14 p15 p16 p17 p18 p19 p20 p21 (fun r0 r1 r2 r3 r4 r5 r6 r7 r8 r9 r10 r11 r12 r13=>K (.agg [(.int .i64 r0),(.int .i64 r1),(.int .i64 r2),(.int .i64 r3),(.int .i64 r4),(.int .i64 r5),(.int .i64 r6),(.int .i64 r7),(.int .i64 r8),(.int .i64 r9),(.int .i64 r10),(.int .i64 r11)]) [(.agg [(.data r12),(.data r13)])])
 | _,_=>False
def yhh (az:Ls) (b:HB) (K:PV→Ls→Prop):Prop:=ycY yah az b K
def yjZ (Q:Qx):Ls→Ls→Int→Ls→Int→Int→Bool→Prop:=(fun l0 l1 i2 l3 i4 i5 b6=>Q (.exit 0) [(0,.v (.ptr 0 1 0 0)),(1,.v (.int .i64 i2)),(7,.v .nils),(13,.v (.data l3)),(14,.v (.int .i64 i4)),(15,.v (.int .i64 i5)),(16,.v (.bool b6))] [⟨false,true,2,([(.agg [(.data l0),(.data l1)])]:Ls)⟩])
def yfF (Q:Qx):Ls→Ls→Ls→Int→Ls→Int→Int→Bool→Prop:=(fun l0 l1 l2 i3 l6 i7 i8 b9=>Q (.exit 0) [(0,.v (.ptr 0 1 0 0)),(1,.v (.int .i64 i3)),(7,.v (.own 1 0 (List.length l0) (List.length l0) none)),(13,.v (.data l6)),(14,.v (.int .i64 i7)),(15,.v (.int .i64 i8)),(16,.v (.bool b9))] [⟨false,true,2,([(.agg [(.data l1),(.data l2)])]:Ls)⟩,⟨false,true,2,l0⟩])
def yj0 (Q:Qx):Ls→Ls→Ls→Ls→Int→Int→Int→Bool→Prop:=(fun l0 l1 l2 l3 i4 i8 i9 b10=>Q (.exit 0) [(0,.v (.ptr 0 1 0 0)),(1,.v (.int .i64 i4)),(7,.v .nils),(13,.v (.own 2 0 (List.length l1) (List.length l1) (some (List.length l1)))),(14,.v (.int .i64 i8)),(15,.v (.int .i64 i9)),(16,.v (.bool b10))] [⟨false,true,2,([(.agg [(.data l2),(.data l3)])]:Ls)⟩,⟨false,true,2,l0⟩,⟨false,true,4,l1⟩])
def yfG (Q:Qx):Ls→Ls→Ls→Ls→Ls→Int→Int→Int→Bool→Prop:=(fun l0 l1 l2 l3 l4 i5 i11 i12 b13=>Q (.exit 0) [(0,.v (.ptr 0 1 0 0)),(1,.v (.int .i64 i5)),(7,.v (.own 3 0 (List.length l2) (List.length l2) none)),(13,.v (.own 2 0 (List.length l1) (List.length l1) (some (List.length l1)))),(14,.v (.int .i64 i11)),(15,.v (.int .i64 i12)),(16,.v (.bool b13))] [⟨false,true,2,([(.agg [(.data l3),(.data l4)])]:Ls)⟩,⟨false,true,2,l0⟩,⟨false,true,4,l1⟩,⟨false,true,2,l2⟩])
def yj1 (Q:Qx):Ls→Ls→Ls→Ls→Int→Ls→Int→Int→Bool→Prop:=(fun l0 l1 l2 l3 i4 l5 i6 i7 b8=>Q (.exit 0) [(0,.v (.ptr 0 1 0 0)),(1,.v (.int .i64 i4)),(7,.v .nils),(13,.v (.data l5)),(14,.v (.int .i64 i6)),(15,.v (.int .i64 i7)),(16,.v (.bool b8))] [⟨false,true,2,([(.agg [(.data l2),(.data l3)])]:Ls)⟩,⟨false,true,2,l0⟩,⟨false,true,4,l1⟩])
def yfH (Q:Qx):Ls→Ls→Ls→Ls→Ls→Int→Ls→Int→Int→Bool→Prop:=(fun l0 l1 l2 l3 l4 i5 l8 i9 i10 b11=>Q (.exit 0) [(0,.v (.ptr 0 1 0 0)),(1,.v (.int .i64 i5)),(7,.v (.own 3 0 (List.length l2) (List.length l2) none)),(13,.v (.data l8)),(14,.v (.int .i64 i9)),(15,.v (.int .i64 i10)),(16,.v (.bool b11))] [⟨false,true,2,([(.agg [(.data l3),(.data l4)])]:Ls)⟩,⟨false,true,2,l0⟩,⟨false,true,4,l1⟩,⟨false,true,2,l2⟩])
def yj4 (Q:Qx):Ls→Ls→Ls→Ls→Ls→Int→Ls→Int→Int→Bool→Prop:=(fun l0 l1 l2 l3 l4 i5 l6 i7 i8 b9=>Q (.exit 0) [(0,.v (.ptr 0 1 0 0)),(1,.v (.int .i64 i5)),(7,.v .nils),(13,.v (.data l6)),(14,.v (.int .i64 i7)),(15,.v (.int .i64 i8)),(16,.v (.bool b9))] [⟨false,true,2,([(.agg [(.data l3),(.data l4)])]:Ls)⟩,⟨false,true,2,l0⟩,⟨false,true,4,l1⟩,⟨false,true,2,l2⟩])
def yfI (Q:Qx):Ls→Ls→Ls→Ls→Ls→Ls→Int→Ls→Int→Int→Bool→Prop:=(fun l0 l1 l2 l3 l4 l5 i6 l9 i10 i11 b12=>Q (.exit 0) [(0,.v (.ptr 0 1 0 0)),(1,.v (.int .i64 i6)),(7,.v (.own 4 0 (List.length l3) (List.length l3) none)),(13,.v (.data l9)),(14,.v (.int .i64 i10)),(15,.v (.int .i64 i11)),(16,.v (.bool b12))] [⟨false,true,2,([(.agg [(.data l4),(.data l5)])]:Ls)⟩,⟨false,true,2,l0⟩,⟨false,true,4,l1⟩,⟨false,true,2,l2⟩,⟨false,true,2,l3⟩])
def pt42:HPt:=hB false true 2 pt33 (hB false true 2 rA pt21)
def pt43:Pat Frm:=fV 13 (vO 2 (nK 0) (nT 2) (nT 2) (nT 2)) pt29
def pt44:HPt:=hB false true 2 pt33 (hB false true 2 rA (hB false true 4 rA pt38))
def pt45:VPt:=vW 4 (nK 0) (nT 4) (nT 4)
def yf5 (a0:ya8) (a1:ya5) (a2:yaw) (a3:yat) (a4:yaC) (Q:Qx):List St:=[⟨(pS (hB false true 2 pt33 hN) pt37 fN),ycj a0 a1 a2 a3 a4 (yjZ Q) (yfF Q)⟩,⟨(pS (hB false true 2 pt33 pt38) (fV 0 pt18 (fV 1 pt0 (fV 7 pt24 pt30))) fN),fun n l1 l2 l0 i3 l6 i7 i8=>ybJ a0 a1 a2 a3 a4 (yfF Q) n l0 l1 l2 i3 l6 i7 i8⟩,⟨(pS pt42 (fV 0 pt18 (fV 1 pt0 (fV 7 vNs pt43))) fN),fun n l2 l3 l0 l1 i4 i8 i9=>yck a0 a1 a2 a3 a4 (yj0 Q) (yfG Q) n l0 l1 l2 l3 i4 i8 i9⟩,⟨(pS pt44 (fV 0 pt18 (fV 1 pt0 (fV 7 pt41 pt43))) fN),fun n l3 l4 l0 l1 l2 i5 i11 i12=>yaT a0 a1 a2 a3 a4 (yfG Q) n l0 l1 l2 l3 l4 i5 i11 i12⟩,⟨(pS pt42 pt37 fN),fun n l2 l3 l0 l1 i4 l5 i6 i7=>yfE a0 a1 a2 a3 a4 (yj1 Q) (yfH Q) n l0 l1 l2 l3 i4 l5 i6 i7⟩,⟨(pS pt44 (fV 0 pt18 (fV 1 pt0 (fV 7 pt41 pt30))) fN),fun n l3 l4 l0 l1 l2 i5 l8 i9 i10=>ydh a0 a1 a2 a3 a4 (yfH Q) n l0 l1 l2 l3 l4 i5 l8 i9 i10⟩,⟨(pS pt44 pt37 fN),fun n l3 l4 l0 l1 l2 i5 l6 i7 i8=>ycl a0 a1 a2 a3 a4 (yj4 Q) (yfI Q) n l0 l1 l2 l3 l4 i5 l6 i7 i8⟩,⟨(pS (hB false true 2 pt33 (hB false true 2 rA (hB false true 4 rA (hB false true 2 rA pt38)))) (fV 0 pt18 (fV 1 pt0 (fV 7 pt45 pt30))) fN),fun n l4 l5 l0 l1 l2 l3 i6 l9 i10 i11=>ybd a0 a1 a2 a3 a4 (yfI Q) n l0 l1 l2 l3 l4 l5 i6 l9 i10 i11⟩]
def yep (a0:ya8) (a1:ya5) (a2:yaw) (a3:yat) (a4:yaC):LP:=lpS [(38310000,yf5 a0 a1 a2 a3 a4)]
def yhi (e:Es) (a0:ya8) (a1:ya5) (a2:yaw) (a3:yat) (a4:yaC):SE:=⟨(E e),ygu [(ye2,yvI.pw a0),(ybb,yk8.pw a1),(ydE,yyk.pw a3),(ycO,yit.pw a4)],ygv [],yep a0 a1 a2 a3 a4,ylr [(ybA,ybI a2)]⟩
def yhj (e:Es) (a0:ya8) (a1:ya5) (a2:yaw) (a3:yat) (a4:yaC):SE:=⟨(E e),ygu [(ye2,yvI.pw a0),(ybb,yk8.pw a1),(ydE,yyk.pw a3),(ycO,yit.pw a4)],ygv [(ye3,ye6)],yep a0 a1 a2 a3 a4,ylr [(ybA,ybI a2)]⟩
theorem ylK (e:Es) (he:EG e):SEOk (Uni (E e)) (yhi e yan yac yad yak yai):=yid (Sub.uni _) ⟨(yha e he),(ybv e he),(yfj e he),(ydX e he),trivial⟩ trivial he.ok ⟨(ycX e he),trivial⟩
theorem yjR (e:Es) (a0 a1 a2 a3 a4):yct (yhi e a0 a1 a2 a3 a4) 5 a yhL false (yf5 a0 a1 a2 a3 a4):=fun _=>⟨fun _=>by kernel_rfl,fun _ _=>by kernel_rfl,fun _=>by kernel_rfl,fun _ _=>by kernel_rfl,fun _=>by kernel_rfl,fun _ _=>by kernel_rfl,fun _=>by kernel_rfl,fun _ _=>by kernel_rfl,fun _=>by kernel_rfl,fun _ _=>by kernel_rfl,fun _=>by kernel_rfl,fun _ _=>by kernel_rfl,fun _=>by kernel_rfl,fun _ _=>by kernel_rfl,fun _=>by kernel_rfl,fun _ _=>by kernel_rfl,trivial⟩
theorem yjS (e:Es) (he:EG e):LpT (Uni (E e)) (yep yan yac yad yak yai) [] 38310000 (.loop 38310000 yhL):=fun _ _ _=>yof.st (Sub.uni _) (ya3 (ylK e he) 5) (YOk.no _ _) (yaq (by kernel_rfl)) (yjR e _ _ _ _ _ _)
theorem ylL (e:Es) (he:EG e):SEOk (Uni (E e)) (yhj e yan yac yad yak yai):=yid (Sub.uni _) ⟨(yha e he),(ybv e he),(yfj e he),(ydX e he),trivial⟩ ⟨⟨by kernel_rfl,by kernel_rfl,rfl,fun az=>ycp (by kernel_rfl) az,he.num _ (by kernel_rfl),by kernel_rfl,(ybq (l:=[(38310000,.loop 38310000 yhL)]) ⟨yjS e he,trivial⟩ (by kernel_rfl))⟩,trivial⟩ he.ok ⟨(ycX e he),trivial⟩
theorem ym9 (e:Es) (a0 a1 a2 a3 a4 p0 p1 p2 p3 p4 p5 p6 p7 p8 p9 p10 p11 p12 p13 p14 p15 p16 p17 p18 p19 p20 p21 K):WPL (yhj e a0 a1 a2 a3 a4) 6 ynM [(.ptr 0 1 0 0),(.agg [(.int .i64 p2),(.int .i64 p3),(.int .i64 p4),(.int .i64 p5),(.int .i64 p6),(.int .i64 p7),(.int .i64 p8),(.int .i64 p9),(.int .i64 p10),(.int .i64 p11),(.int .i64 p12),(.int .i64 p13),(.int .i64 p14),(.int .i64 p15),(.int .i64 p16),(.int .i64 p17),(.int .i64 p18),(.int .i64 p19),(.int .i64 p20),(.int .i64 p21)])] ⟨false,true,2,[(.agg [(.data p0),(.data p1)])]⟩ K=yeo a0 a1 a2 a3 a4 p0 p1 p2 p3 p4 p5 p6 p7 p8 p9 p10 p11 p12 p13 p14 p15 p16 p17 p18 p19 p20 p21 (fun r0 r1 r2 r3 r4 r5 r6 r7 r8 r9 r10 r11 r12 r13=>K (.agg [(.int .i64 r0),(.int .i64 r1),(.int .i64 r2),(.int .i64 r3),(.int .i64 r4),(.int .i64 r5),(.int .i64 r6),(.int .i64 r7),(.int .i64 r8),(.int .i64 r9),(.int .i64 r10),(.int .i64 r11)]) [(.agg [(.data r12),(.data r13)])]):=by kernel_rfl
theorem yhk (e:Es) (he:EG e):OkL (E e) yhh ycm:=by
 intro az b K h
 unfold yhh ycY at h
 split at h
 ·exact yxG (ylL e he) ynq.flat (yaq (by kernel_rfl)) (by kernel_rfl) (he.num _ (by kernel_rfl)) ((ym9 ..).mpr h)
 ·exact h.elim
abbrev yaK:Type:=Ls→Int→(Ls→Prop)→Prop
def ygK (p0:Ls) (p1:Int) (K:Ls→Prop):Prop :=
 (cbr (p1 !=(0:Int))
 False
 (K p0))
def yaf:yaK:=ygK
def ylM:Sg:=⟨(lC vD pt1),Ls→Prop,fun K=>(fun r0=>K (.data r0))⟩
def ylN (e:Es):SE:=sE (E e) [] lp0
theorem ylO (e:Es):EqW (ylN e) 6 yml ylM ygK:=fun _ _=>by kernel_rfl
theorem ygL (e:Es) (he:EG e):OkF (E e) (ylM.pw yaf) ycc:=okU he (ylO e) (yaz (Sub.uni _) trivial trivial he.ok) ynq.flat (yaq (by kernel_rfl))
abbrev yna:Type:=Ls→(Ls→Int→Int→Int→Int→Int→Int→Int→Int→Int→Int→Int→Int→Int→Int→Int→Int→Int→Int→Int→Int→Ls→Int→Prop)→Prop
def yfA (a0:yat) (a1:yaE) (a2:yaH) (a3:ybn) (a4:yaK) (c:Ls→Int→Int→Int→Int→Int→Int→Int→Int→Int→Int→Int→Int→Int→Int→Int→Int→Int→Int→Int→Int→Int→Ls→Ls→Int→Int→Int→Int→Int→Int→Int→Int→Int→Int→Int→Int→Int→Ls→Int→Int→Bool→Prop):Nat→Ls→Int→Int→Int→Int→Int→Int→Int→Int→Int→Int→Int→Int→Int→Int→Int→Int→Int→Int→Int→Int→Int→Ls→Ls→Int→Int→Int→Int→Int→Int→Int→Int→Int→Int→Int→Int→Int→Ls→Int→Int→Prop
 | 0,_,_,_,_,_,_,_,_,_,_,_,_,_,_,_,_,_,_,_,_,_,_,_,_,_,_,_,_,_,_,_,_,_,_,_,_,_,_,_,_=>False
 | e+1,l0,i1,i2,i3,i4,i5,i6,i7,i8,i9,i10,i11,i12,i13,i14,i15,i16,i17,i18,i19,i20,i21,l22,l23,i24,i25,i26,i27,i28,i29,i30,i31,i32,i33,i34,i35,i38,l39,i40,i41 =>
 (cbr (decide (i41<i40))
 (jn (fun (d:Ls→Prop) =>
 (asr (decide ((0:Int)≤i41))
 (asr (decide (i41<(((List.length l39):Nat):Int)))
 (lt (List.getD l39 (i41.toNat) .nils) (fun a =>
 (asr (conf z4 a)
 (cbr (!(((yaa (yab a 0)) ==(yaa (yab a 2)))&&(((yaa (yab a 1)) ==(yaa (yab a 3)))&&true)))
 (asr (decide ((List.length l0)=(List.length l0)))
 (asr (decide ((0+(List.length l0))≤(List.length l0)))
 (asr (!(decide (((0+(List.length l0))+1)≤(List.length l0))))
 (asr (decide ((List.length l0)=(List.length l0)))
 (asr (decide ((((List.length l0)+1)+64)*(32+1)≤room))
 (d (l0++([(.agg [(.int .i64 (yaa (yab a 0))),(.int .i64 (yaa (yab a 1))),(.int .i64 (yaa (yab a 2))),(.int .i64 (yaa (yab a 3)))])]:Ls))))))))
 (d l0))))))))
 (fun b=>(lt (IntKind.i64.wrap (i41+(1:Int))) (fun f =>
 (asr (decide ((List.length b)=List.length b)&&decide ((List.length b)=List.length b))
 (yfA a0 a1 a2 a3 a4 c e b i1 i2 i3 i4 i5 i6 i7 i8 i9 i10 i11 i12 i13 i14 i15 i16 i17 i18 i19 i20 i21 l22 l23 i24 i25 i26 i27 i28 i29 i30 i31 i32 i33 i34 i35 i38 l39 i40 f))))))
 (c l0 i1 i2 i3 i4 i5 i6 i7 i8 i9 i10 i11 i12 i13 i14 i15 i16 i17 i18 i19 i20 i21 l22 l23 i24 i25 i26 i27 i28 i29 i30 i31 i32 i33 i34 i35 i38 l39 i40 i41 false))
def ydY (a0:yat) (a1:yaE) (a2:yaH) (a3:ybn) (a4:yaK) (b:Int→Int→Int→Int→Int→Int→Int→Int→Int→Int→Int→Int→Int→Int→Int→Int→Int→Int→Int→Int→Int→Ls→Ls→Int→Int→Int→Int→Int→Int→Int→Int→Int→Int→Int→Int→Int→Ls→Int→Int→Bool→Prop) (c:Ls→Int→Int→Int→Int→Int→Int→Int→Int→Int→Int→Int→Int→Int→Int→Int→Int→Int→Int→Int→Int→Int→Ls→Ls→Int→Int→Int→Int→Int→Int→Int→Int→Int→Int→Int→Int→Int→Ls→Int→Int→Bool→Prop):Nat→Int→Int→Int→Int→Int→Int→Int→Int→Int→Int→Int→Int→Int→Int→Int→Int→Int→Int→Int→Int→Int→Ls→Ls→Int→Int→Int→Int→Int→Int→Int→Int→Int→Int→Int→Int→Int→Ls→Int→Int→Prop
 | 0,_,_,_,_,_,_,_,_,_,_,_,_,_,_,_,_,_,_,_,_,_,_,_,_,_,_,_,_,_,_,_,_,_,_,_,_,_,_,_=>False
 | d+1,i0,i1,i2,i3,i4,i5,i6,i7,i8,i9,i10,i11,i12,i13,i14,i15,i16,i17,i18,i19,i20,l21,l22,i23,i24,i25,i26,i27,i28,i29,i30,i31,i32,i33,i34,i35,l36,i37,i38 =>
 (cbr (decide (i38<i37))
 (asr (decide ((0:Int)≤i38))
 (asr (decide (i38<(((List.length l36):Nat):Int)))
 (lt (List.getD l36 (i38.toNat) .nils) (fun a =>
 (asr (conf z4 a)
 (cbr (!(((yaa (yab a 0)) ==(yaa (yab a 2)))&&(((yaa (yab a 1)) ==(yaa (yab a 3)))&&true)))
 (lt (IntKind.i64.wrap (i38+(1:Int))) (fun e =>
 (asr (decide (1=List.length ([(.agg [(.int .i64 (yaa (yab a 0))),(.int .i64 (yaa (yab a 1))),(.int .i64 (yaa (yab a 2))),(.int .i64 (yaa (yab a 3)))])]:Ls))&&decide (1=List.length ([(.agg [(.int .i64 (yaa (yab a 0))),(.int .i64 (yaa (yab a 1))),(.int .i64 (yaa (yab a 2))),(.int .i64 (yaa (yab a 3)))])]:Ls)))
 (yfA a0 a1 a2 a3 a4 c d ([(.agg [(.int .i64 (yaa (yab a 0))),(.int .i64 (yaa (yab a 1))),(.int .i64 (yaa (yab a 2))),(.int .i64 (yaa (yab a 3)))])]:Ls) i0 i1 i2 i3 i4 i5 i6 i7 i8 i9 i10 i11 i12 i13 i14 i15 i16 i17 i18 i19 i20 l21 l22 i23 i24 i25 i26 i27 i28 i29 i30 i31 i32 i33 i34 i35 l36 i37 e))))
 (lt (IntKind.i64.wrap (i38+(1:Int))) (fun f =>
 (ydY a0 a1 a2 a3 a4 b c d i0 i1 i2 i3 i4 i5 i6 i7 i8 i9 i10 i11 i12 i13 i14 i15 i16 i17 i18 i19 i20 l21 l22 i23 i24 i25 i26 i27 i28 i29 i30 i31 i32 i33 i34 i35 l36 i37 f)))))))))
 (b i0 i1 i2 i3 i4 i5 i6 i7 i8 i9 i10 i11 i12 i13 i14 i15 i16 i17 i18 i19 i20 l21 l22 i23 i24 i25 i26 i27 i28 i29 i30 i31 i32 i33 i34 i35 l36 i37 i38 false))
def yhV (a0:yat) (a1:yaE) (a2:yaH) (a3:ybn) (a4:yaK) (c:Ls→Ls→Int→Int→Int→Int→Int→Int→Int→Int→Int→Int→Int→Int→Int→Int→Int→Int→Int→Int→Int→Int→Int→Ls→Ls→Int→Int→Int→Int→Int→Int→Int→Int→Int→Int→Int→Int→Int→Ls→Int→Int→Bool→Prop):Nat→Ls→Ls→Int→Int→Int→Int→Int→Int→Int→Int→Int→Int→Int→Int→Int→Int→Int→Int→Int→Int→Int→Int→Int→Ls→Ls→Int→Int→Int→Int→Int→Int→Int→Int→Int→Int→Int→Int→Int→Ls→Int→Int→Prop
 | 0,_,_,_,_,_,_,_,_,_,_,_,_,_,_,_,_,_,_,_,_,_,_,_,_,_,_,_,_,_,_,_,_,_,_,_,_,_,_,_,_,_=>False
 | e+1,l0,l1,i4,i5,i6,i7,i8,i9,i10,i11,i12,i13,i14,i15,i16,i17,i18,i19,i20,i21,i22,i23,i24,l25,l26,i27,i28,i29,i30,i31,i32,i33,i34,i35,i36,i37,i38,i41,l42,i43,i44 =>
 (cbr (decide (i44<i43))
 (jn (fun (d:Ls→Prop) =>
 (asr (decide ((0:Int)≤i44))
 (asr (decide (i44<(((List.length l42):Nat):Int)))
 (lt (List.getD l42 (i44.toNat) .nils) (fun a =>
 (asr (conf z4 a)
 (cbr (!(((yaa (yab a 0)) ==(yaa (yab a 2)))&&(((yaa (yab a 1)) ==(yaa (yab a 3)))&&true)))
 (asr (decide ((List.length l1)=(List.length l1)))
 (asr (decide ((0+(List.length l1))≤(List.length l1)))
 (asr (!(decide (((0+(List.length l1))+1)≤(List.length l1))))
 (asr (decide ((List.length l1)=(List.length l1)))
 (asr (decide ((((List.length l1)+1)+64)*(32+1)≤room))
 (d (l1++([(.agg [(.int .i64 (yaa (yab a 0))),(.int .i64 (yaa (yab a 1))),(.int .i64 (yaa (yab a 2))),(.int .i64 (yaa (yab a 3)))])]:Ls))))))))
 (d l1))))))))
 (fun b=>(lt (IntKind.i64.wrap (i44+(1:Int))) (fun f =>
 (asr (decide ((List.length l0)=List.length l0)&&decide ((List.length l0)=List.length l0)&&decide ((List.length b)=List.length b)&&decide ((List.length b)=List.length b))
 (yhV a0 a1 a2 a3 a4 c e l0 b i4 i5 i6 i7 i8 i9 i10 i11 i12 i13 i14 i15 i16 i17 i18 i19 i20 i21 i22 i23 i24 l25 l26 i27 i28 i29 i30 i31 i32 i33 i34 i35 i36 i37 i38 i41 l42 i43 f))))))
 (c l0 l1 i4 i5 i6 i7 i8 i9 i10 i11 i12 i13 i14 i15 i16 i17 i18 i19 i20 i21 i22 i23 i24 l25 l26 i27 i28 i29 i30 i31 i32 i33 i34 i35 i36 i37 i38 i41 l42 i43 i44 false))
def yhW (a0:yat) (a1:yaE) (a2:yaH) (a3:ybn) (a4:yaK) (b:Ls→Int→Int→Int→Int→Int→Int→Int→Int→Int→Int→Int→Int→Int→Int→Int→Int→Int→Int→Int→Int→Int→Ls→Ls→Int→Int→Int→Int→Int→Int→Int→Int→Int→Int→Int→Int→Int→Ls→Int→Int→Bool→Prop) (c:Ls→Ls→Int→Int→Int→Int→Int→Int→Int→Int→Int→Int→Int→Int→Int→Int→Int→Int→Int→Int→Int→Int→Int→Ls→Ls→Int→Int→Int→Int→Int→Int→Int→Int→Int→Int→Int→Int→Int→Ls→Int→Int→Bool→Prop):Nat→Ls→Int→Int→Int→Int→Int→Int→Int→Int→Int→Int→Int→Int→Int→Int→Int→Int→Int→Int→Int→Int→Int→Ls→Ls→Int→Int→Int→Int→Int→Int→Int→Int→Int→Int→Int→Int→Int→Ls→Int→Int→Prop
 | 0,_,_,_,_,_,_,_,_,_,_,_,_,_,_,_,_,_,_,_,_,_,_,_,_,_,_,_,_,_,_,_,_,_,_,_,_,_,_,_,_=>False
 | d+1,l0,i3,i4,i5,i6,i7,i8,i9,i10,i11,i12,i13,i14,i15,i16,i17,i18,i19,i20,i21,i22,i23,l24,l25,i26,i27,i28,i29,i30,i31,i32,i33,i34,i35,i36,i37,i38,l39,i40,i41 =>
 (cbr (decide (i41<i40))
 (asr (decide ((0:Int)≤i41))
 (asr (decide (i41<(((List.length l39):Nat):Int)))
 (lt (List.getD l39 (i41.toNat) .nils) (fun a =>
 (asr (conf z4 a)
 (cbr (!(((yaa (yab a 0)) ==(yaa (yab a 2)))&&(((yaa (yab a 1)) ==(yaa (yab a 3)))&&true)))
 (lt (IntKind.i64.wrap (i41+(1:Int))) (fun e =>
 (asr (decide ((List.length l0)=List.length l0)&&decide ((List.length l0)=List.length l0)&&decide (1=List.length ([(.agg [(.int .i64 (yaa (yab a 0))),(.int .i64 (yaa (yab a 1))),(.int .i64 (yaa (yab a 2))),(.int .i64 (yaa (yab a 3)))])]:Ls))&&decide (1=List.length ([(.agg [(.int .i64 (yaa (yab a 0))),(.int .i64 (yaa (yab a 1))),(.int .i64 (yaa (yab a 2))),(.int .i64 (yaa (yab a 3)))])]:Ls)))
 (yhV a0 a1 a2 a3 a4 c d l0 ([(.agg [(.int .i64 (yaa (yab a 0))),(.int .i64 (yaa (yab a 1))),(.int .i64 (yaa (yab a 2))),(.int .i64 (yaa (yab a 3)))])]:Ls) i3 i4 i5 i6 i7 i8 i9 i10 i11 i12 i13 i14 i15 i16 i17 i18 i19 i20 i21 i22 i23 l24 l25 i26 i27 i28 i29 i30 i31 i32 i33 i34 i35 i36 i37 i38 l39 i40 e))))
 (lt (IntKind.i64.wrap (i41+(1:Int))) (fun f =>
 (asr (decide ((List.length l0)=List.length l0)&&decide ((List.length l0)=List.length l0))
 (yhW a0 a1 a2 a3 a4 b c d l0 i3 i4 i5 i6 i7 i8 i9 i10 i11 i12 i13 i14 i15 i16 i17 i18 i19 i20 i21 i22 i23 l24 l25 i26 i27 i28 i29 i30 i31 i32 i33 i34 i35 i36 i37 i38 l39 i40 f))))))))))
 (b l0 i3 i4 i5 i6 i7 i8 i9 i10 i11 i12 i13 i14 i15 i16 i17 i18 i19 i20 i21 i22 i23 l24 l25 i26 i27 i28 i29 i30 i31 i32 i33 i34 i35 i36 i37 i38 l39 i40 i41 false))
def ydZ (a0:yat) (a1:yaE) (a2:yaH) (a3:ybn) (a4:yaK) (c:Ls→Ls→Int→Int→Int→Int→Int→Int→Int→Int→Int→Int→Int→Int→Int→Int→Int→Int→Int→Int→Int→Int→Int→Ls→Ls→Int→Int→Int→Int→Int→Int→Int→Int→Int→Int→Int→Int→Int→Ls→Int→Int→Bool→Prop):Nat→Ls→Ls→Int→Int→Int→Int→Int→Int→Int→Int→Int→Int→Int→Int→Int→Int→Int→Int→Int→Int→Int→Int→Int→Ls→Ls→Int→Int→Int→Int→Int→Int→Int→Int→Int→Int→Int→Int→Int→Ls→Int→Int→Prop
 | 0,_,_,_,_,_,_,_,_,_,_,_,_,_,_,_,_,_,_,_,_,_,_,_,_,_,_,_,_,_,_,_,_,_,_,_,_,_,_,_,_,_=>False
 | e+1,l0,l1,i4,i5,i6,i7,i8,i9,i10,i11,i12,i13,i14,i15,i16,i17,i18,i19,i20,i21,i22,i23,i24,l25,l26,i27,i28,i29,i30,i31,i32,i33,i34,i35,i36,i37,i38,i41,l42,i43,i44 =>
 (cbr (decide (i44<i43))
 (jn (fun (d:Ls→Prop) =>
 (asr (decide ((0:Int)≤i44))
 (asr (decide (i44<(((List.length l42):Nat):Int)))
 (lt (List.getD l42 (i44.toNat) .nils) (fun a =>
 (asr (conf z4 a)
 (cbr (!(((yaa (yab a 0)) ==(yaa (yab a 2)))&&(((yaa (yab a 1)) ==(yaa (yab a 3)))&&true)))
 (asr (decide ((List.length l1)=(List.length l1)))
 (asr (decide ((0+(List.length l1))≤(List.length l1)))
 (asr (!(decide (((0+(List.length l1))+1)≤(List.length l1))))
 (asr (decide ((List.length l1)=(List.length l1)))
 (asr (decide ((((List.length l1)+1)+64)*(32+1)≤room))
 (d (l1++([(.agg [(.int .i64 (yaa (yab a 0))),(.int .i64 (yaa (yab a 1))),(.int .i64 (yaa (yab a 2))),(.int .i64 (yaa (yab a 3)))])]:Ls))))))))
 (d l1))))))))
 (fun b=>(lt (IntKind.i64.wrap (i44+(1:Int))) (fun f =>
 (asr (decide ((List.length l0)=List.length l0)&&decide ((List.length l0)=List.length l0)&&decide ((List.length b)=List.length b)&&decide ((List.length b)=List.length b))
 (ydZ a0 a1 a2 a3 a4 c e l0 b i4 i5 i6 i7 i8 i9 i10 i11 i12 i13 i14 i15 i16 i17 i18 i19 i20 i21 i22 i23 i24 l25 l26 i27 i28 i29 i30 i31 i32 i33 i34 i35 i36 i37 i38 i41 l42 i43 f))))))
 (c l0 l1 i4 i5 i6 i7 i8 i9 i10 i11 i12 i13 i14 i15 i16 i17 i18 i19 i20 i21 i22 i23 i24 l25 l26 i27 i28 i29 i30 i31 i32 i33 i34 i35 i36 i37 i38 i41 l42 i43 i44 false))
def ycr (a0:yat) (a1:yaE) (a2:yaH) (a3:ybn) (a4:yaK) (b:Ls→Int→Int→Int→Int→Int→Int→Int→Int→Int→Int→Int→Int→Int→Int→Int→Int→Int→Int→Int→Int→Int→Ls→Ls→Int→Int→Int→Int→Int→Int→Int→Int→Int→Int→Int→Int→Int→Ls→Int→Int→Bool→Prop) (c:Ls→Ls→Int→Int→Int→Int→Int→Int→Int→Int→Int→Int→Int→Int→Int→Int→Int→Int→Int→Int→Int→Int→Int→Ls→Ls→Int→Int→Int→Int→Int→Int→Int→Int→Int→Int→Int→Int→Int→Ls→Int→Int→Bool→Prop):Nat→Ls→Int→Int→Int→Int→Int→Int→Int→Int→Int→Int→Int→Int→Int→Int→Int→Int→Int→Int→Int→Int→Int→Ls→Ls→Int→Int→Int→Int→Int→Int→Int→Int→Int→Int→Int→Int→Int→Ls→Int→Int→Prop
 | 0,_,_,_,_,_,_,_,_,_,_,_,_,_,_,_,_,_,_,_,_,_,_,_,_,_,_,_,_,_,_,_,_,_,_,_,_,_,_,_,_=>False
 | d+1,l0,i3,i4,i5,i6,i7,i8,i9,i10,i11,i12,i13,i14,i15,i16,i17,i18,i19,i20,i21,i22,i23,l24,l25,i26,i27,i28,i29,i30,i31,i32,i33,i34,i35,i36,i37,i38,l39,i40,i41 =>
 (cbr (decide (i41<i40))
 (asr (decide ((0:Int)≤i41))
 (asr (decide (i41<(((List.length l39):Nat):Int)))
 (lt (List.getD l39 (i41.toNat) .nils) (fun a =>
 (asr (conf z4 a)
 (cbr (!(((yaa (yab a 0)) ==(yaa (yab a 2)))&&(((yaa (yab a 1)) ==(yaa (yab a 3)))&&true)))
 (lt (IntKind.i64.wrap (i41+(1:Int))) (fun e =>
 (asr (decide ((List.length l0)=List.length l0)&&decide ((List.length l0)=List.length l0)&&decide (1=List.length ([(.agg [(.int .i64 (yaa (yab a 0))),(.int .i64 (yaa (yab a 1))),(.int .i64 (yaa (yab a 2))),(.int .i64 (yaa (yab a 3)))])]:Ls))&&decide (1=List.length ([(.agg [(.int .i64 (yaa (yab a 0))),(.int .i64 (yaa (yab a 1))),(.int .i64 (yaa (yab a 2))),(.int .i64 (yaa (yab a 3)))])]:Ls)))
 (ydZ a0 a1 a2 a3 a4 c d l0 ([(.agg [(.int .i64 (yaa (yab a 0))),(.int .i64 (yaa (yab a 1))),(.int .i64 (yaa (yab a 2))),(.int .i64 (yaa (yab a 3)))])]:Ls) i3 i4 i5 i6 i7 i8 i9 i10 i11 i12 i13 i14 i15 i16 i17 i18 i19 i20 i21 i22 i23 l24 l25 i26 i27 i28 i29 i30 i31 i32 i33 i34 i35 i36 i37 i38 l39 i40 e))))
 (lt (IntKind.i64.wrap (i41+(1:Int))) (fun f =>
 (asr (decide ((List.length l0)=List.length l0)&&decide ((List.length l0)=List.length l0))
 (ycr a0 a1 a2 a3 a4 b c d l0 i3 i4 i5 i6 i7 i8 i9 i10 i11 i12 i13 i14 i15 i16 i17 i18 i19 i20 i21 i22 i23 l24 l25 i26 i27 i28 i29 i30 i31 i32 i33 i34 i35 i36 i37 i38 l39 i40 f))))))))))
 (b l0 i3 i4 i5 i6 i7 i8 i9 i10 i11 i12 i13 i14 i15 i16 i17 i18 i19 i20 i21 i22 i23 l24 l25 i26 i27 i28 i29 i30 i31 i32 i33 i34 i35 i36 i37 i38 l39 i40 i41 false))
end Go.Pf.Vc
