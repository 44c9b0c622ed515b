/- Part 3. -/
import Derived.Test.YtobbapakhillmaaGreatTkW2
noncomputable section
namespace Go.Pf.Vc
open Go Go.Pf
set_option maxRecDepth 100000
def yc7 (a0:yaG) (x0:Int→Ls→Ls→Int→Ls→Int→Int→Bool→Prop):Nat→Int→Ls→Ls→Int→Ls→Int→Int→Prop
 | 0,_,_,_,_,_,_,_=>False
 | n+1,i0,l1,l2,i3,l4,i5,i6 =>
 (cbr (decide (i6<i5))
 (asr (decide ((0:Int)≤i6))
 (asr (decide (i6<(((List.length l4):Nat):Int)))
 (asr (conf zI (List.getD l4 (i6.toNat) .nils))
 (asr (decide ((0:Int)≤(IntKind.i64.wrap (i6+(1:Int)))))
 (asr (decide ((IntKind.i64.wrap (i6+(1:Int)))<(((List.length l1):Nat):Int)))
 (asr (conf zI (List.getD l1 ((IntKind.i64.wrap (i6+(1:Int))).toNat) .nils))
 (asr (decide ((0:Int)≤i6))
 (asr (decide (i6<(((List.length l1):Nat):Int)))
 (asr (conf zI (List.getD l1 (i6.toNat) .nils))
 (yc7 a0 x0 n i0 l1 l2 (IntKind.i64.wrap (i3+(IntKind.i64.wrap ((yaa (List.getD l4 (i6.toNat) .nils))*(IntKind.i64.wrap ((yaa (List.getD l1 ((IntKind.i64.wrap (i6+(1:Int))).toNat) .nils))-(yaa (List.getD l1 (i6.toNat) .nils)))))))) l4 i5 (IntKind.i64.wrap (i6+(1:Int)))))))))))))
 (x0 i0 l1 l2 i3 l4 i5 i6 false))
def yhX (a0:yaG) (p0:Int) (p1 p2:Ls) (K:Int→Int→Prop):Prop :=
 (a0 p0 p1 p2 (fun a =>
 (cbr (a !=(0:Int))
 (K (0:Int) a)
 (∃ n:Nat,yc7 a0
 (fun _ _ _ b _ _ _ _=>(K b (0:Int)))
 n p0 p1 p2 (0:Int) p2 (((List.length p2):Nat):Int) (0:Int)))))
def yeg:ymy:=yhX yaT
def yzy:Sg:=⟨pt15,Int→Int→Prop,fun K=>(fun r0 r1=>K (.tup [(.int .i64 r0),(.int .i64 r1)]))⟩
def yuN (Q:Qx):Int→Ls→Ls→Int→Ls→Int→Int→Bool→Prop:=(fun i0 l1 l2 i3 l4 i5 i6 b7=>Q (.exit 0) [(1,.box (.agg [(.int .i64 i0),(.data l1),(.data l2)])),(5,.v (.int .i64 i3)),(14,.v (.data l4)),(15,.v (.int .i64 i5)),(16,.v (.int .i64 i6)),(17,.v (.bool b7))] [])
def pt16:Pat Frm:=fV 14 vD (fV 15 pt0 (fV 16 pt0 fN))
def ynt (a0:yaG) (Q:Qx):List St:=[⟨(pS hN (fX 1 pt14 (fV 5 pt0 pt16)) fN),yc7 a0 (yuN Q)⟩]
def yqA (a0:yaG):LP:=lpS [(45203600,ynt a0)]
def ykN (e:Es) (a0:yaG):SE:=sE (E e) [(ydq,yqy.pw a0)] (yqA a0)
theorem you (e:Es) (he:EG e):SEOk (Uni (E e)) (ykN e yaT):=yaz (Sub.uni _) ⟨(yeu e he),trivial⟩ trivial he.ok
theorem ytd (e:Es) (a0):ybS (ykN e a0) 5 a yrh false (ynt a0):=fun _=>⟨fun _=>by kernel_rfl,fun _ _=>by kernel_rfl,trivial⟩
theorem yte (e:Es) (he:EG e):LpT (Uni (E e)) (yqA yaT) [] 45203600 (.loop 45203600 yrh):=fun _ _ _=>yn7.st (Sub.uni _) (yaU (you e he) 5) (YOk.no _ _) (yat (by kernel_rfl)) (ytd e _ _)
theorem yzz (e:Es) (a0):EqW (ykN e a0) 6 ysX yzy (yhX a0):=fun _ _=>by kernel_rfl
theorem yqB (e:Es) (he:EG e):OkF (E e) (yzy.pw yeg) yiJ:=okU he (yzz e _) (you e he) ynj.flat (yba (l:=[(45203600,.loop 45203600 yrh)]) ⟨yte e he,trivial⟩ (by kernel_rfl))
abbrev yaH:Type:=Int→(Int→Int→Prop)→Prop
def yqC (p0:Int) (K:Int→Int→Prop):Prop :=
 (K p0 (1:Int))
def ybD:yaH:=yqC
def yhY:Sg:=⟨pt1,Int→Int→Prop,fun K=>(fun r0 r1=>K (.agg [(.int .i64 r0),(.int .i64 r1)]))⟩
def yzA (e:Es):SE:=sE (E e) [] lp0
theorem yzB (e:Es):EqW (yzA e) 6 yBA yhY yqC:=fun _ _=>by kernel_rfl
theorem yhZ (e:Es) (he:EG e):OkF (E e) (yhY.pw ybD) yea:=okU he (yzB e) (yaz (Sub.uni _) trivial trivial he.ok) ynj.flat (yat (by kernel_rfl))
abbrev yap:Type:=Int→Int→Int→Int→(Bool→Prop)→Prop
def ymz (a0:ycb) (p0 p1 p2 p3:Int) (K:Bool→Prop):Prop :=
 (a0 p0 p1 p2 p3 (fun a _ =>
 (K (decide (a<(0:Int))))))
def ybM:yap:=ymz ybL
def ytf:Sg:=⟨pt11,Bool→Prop,fun K=>(fun r0=>K (.bool r0))⟩
def yBQ (e:Es) (a0:ycb):SE:=sE (E e) [(yeT,yBH.pw a0)] lp0
theorem yBR (e:Es) (a0):EqW (yBQ e a0) 6 yDC ytf (ymz a0):=fun _ _=>by kernel_rfl
theorem yiP (e:Es) (he:EG e):OkF (E e) (ytf.pw ybM) yeU:=okU he (yBR e _) (yaz (Sub.uni _) ⟨(yg0 e he),trivial⟩ trivial he.ok) ynj.flat (yat (by kernel_rfl))
abbrev ybE:Type:=Int→Ls→Ls→Int→Int→(Bool→Prop)→Prop
def ykO (a0:yaK) (a1:yaH) (a2:yap) (p0:Int) (_ _:Ls) (p3 p4:Int) (K:Bool→Prop):Prop :=
 (a0 p3 p4 (fun a =>
 (cbr (a ==(0:Int))
 (cbr (decide (p3≥(0:Int)))
 (a1 p0 (fun b c =>
 (a2 b c p3 p4 (fun d =>
 (K (!d))))))
 (K false))
 (K false))))
def ybF:ybE:=ykO ybk ybD ybM
def yzC:Sg:=⟨(lC pt14 pt8),Bool→Prop,fun K=>(fun r0=>K (.bool r0))⟩
def yzD (e:Es) (a0:yaK) (a1:yaH) (a2:yap):SE:=sE (E e) [(ydx,yoj.pw a0),(yea,yhY.pw a1),(yeU,ytf.pw a2)] lp0
theorem yzE (e:Es) (a0 a1 a2):EqW (yzD e a0 a1 a2) 6 yBB yzC (ykO a0 a1 a2):=fun _ _=>by kernel_rfl
theorem ykP (e:Es) (he:EG e):OkF (E e) (yzC.pw ybF) yfo:=okU he (yzE e _ _ _) (yaz (Sub.uni _) ⟨(ye3 e he),(yhZ e he),(yiP e he),trivial⟩ trivial he.ok) ynj.flat (yat (by kernel_rfl))
abbrev ygs:Type:=Int→Ls→Ls→Int→Int→Int→Int→(Int→Int→Int→Prop)→Prop
def ybf (a0:yaG) (a1:ybE) (a2:yaK) (a3:yaH) (a4:yap) (a5:yaq) (a6:yaq) (a7:yaq) (a8:yaq) (x0:Int→Int→Int→Int→Int→Int→Prop) (x1:Int→Int→Int→Int→Int→Int→Ls→Ls→Int→Int→Ls→Int→Int→Bool→Prop):Nat→Int→Int→Int→Int→Int→Int→Ls→Ls→Int→Int→Ls→Int→Int→Prop
 | 0,_,_,_,_,_,_,_,_,_,_,_,_,_=>False
 | n+1,i0,i1,i2,i3,i4,i5,l6,l7,i8,i9,l10,i11,i12 =>
 (cbr (decide (i12<i11))
 (asr (decide ((0:Int)≤i12))
 (asr (decide (i12<(((List.length l10):Nat):Int)))
 (asr (conf zI (List.getD l10 (i12.toNat) .nils))
 (asr (decide ((0:Int)≤(IntKind.i64.wrap (i12+(1:Int)))))
 (asr (decide ((IntKind.i64.wrap (i12+(1:Int)))<(((List.length l6):Nat):Int)))
 (asr (conf zI (List.getD l6 ((IntKind.i64.wrap (i12+(1:Int))).toNat) .nils))
 (a3 (yaa (List.getD l6 ((IntKind.i64.wrap (i12+(1:Int))).toNat) .nils)) (fun a b =>
 (a4 i8 i9 a b (fun r =>
 (cbr (!r)
 (ybf a0 a1 a2 a3 a4 a5 a6 a7 a8 x0 x1 n i0 i1 i2 i3 i4 i5 l6 l7 i8 i9 l10 i11 (IntKind.i64.wrap (i12+(1:Int))))
 (a3 (0:Int) (fun i j =>
 (cbr (decide ((yaa (List.getD l10 (i12.toNat) .nils))>(0:Int)))
 (a5 a b i8 i9 (fun s t k =>
 (cbr (k !=(0:Int))
 (x0 i0 i1 i2 i3 i4 k)
 (a3 (yaa (List.getD l10 (i12.toNat) .nils)) (fun u v =>
 (a6 s t u v (fun l m o =>
 (cbr (o !=(0:Int))
 (x0 i0 i1 i2 i3 i4 o)
 (cbr ((yaa (List.getD l10 (i12.toNat) .nils)) ==(0:Int))
 (ybf a0 a1 a2 a3 a4 a5 a6 a7 a8 x0 x1 n i0 i1 i2 i3 i4 i5 l6 l7 a b l10 i11 (IntKind.i64.wrap (i12+(1:Int))))
 (a4 l m i0 i1 (fun w =>
 (cbr w
 (a5 i0 i1 l m (fun e f c =>
 (cbr (c !=(0:Int))
 (cbr (c !=(0:Int))
 (x0 e f i2 i3 c (0:Int))
 (ybf a0 a1 a2 a3 a4 a5 a6 a7 a8 x0 x1 n e f i2 i3 c i5 l6 l7 a b l10 i11 (IntKind.i64.wrap (i12+(1:Int)))))
 (cbr (c !=(0:Int))
 (x0 e f i2 i3 (6:Int) (0:Int))
 (ybf a0 a1 a2 a3 a4 a5 a6 a7 a8 x0 x1 n e f i2 i3 (6:Int) i5 l6 l7 a b l10 i11 (IntKind.i64.wrap (i12+(1:Int))))))))
 (a3 (yaa (List.getD l10 (i12.toNat) .nils)) (fun x y =>
 (a7 i0 i1 x y (fun z A p =>
 (cbr (p ==(0:Int))
 (a8 i8 i9 z A (fun B C D =>
 (x0 i0 i1 B C D (0:Int))))
 (x0 i0 i1 i2 i3 p (0:Int)))))))))))))))))))
 (cbr ((yaa (List.getD l10 (i12.toNat) .nils)) ==(0:Int))
 (ybf a0 a1 a2 a3 a4 a5 a6 a7 a8 x0 x1 n i0 i1 i2 i3 i4 i5 l6 l7 a b l10 i11 (IntKind.i64.wrap (i12+(1:Int))))
 (a4 i j i0 i1 (fun E =>
 (cbr E
 (a5 i0 i1 i j (fun g h d =>
 (cbr (d !=(0:Int))
 (cbr (d !=(0:Int))
 (x0 g h i2 i3 d (0:Int))
 (ybf a0 a1 a2 a3 a4 a5 a6 a7 a8 x0 x1 n g h i2 i3 d i5 l6 l7 a b l10 i11 (IntKind.i64.wrap (i12+(1:Int)))))
 (cbr (d !=(0:Int))
 (x0 g h i2 i3 (6:Int) (0:Int))
 (ybf a0 a1 a2 a3 a4 a5 a6 a7 a8 x0 x1 n g h i2 i3 (6:Int) i5 l6 l7 a b l10 i11 (IntKind.i64.wrap (i12+(1:Int))))))))
 (a3 (yaa (List.getD l10 (i12.toNat) .nils)) (fun F G =>
 (a7 i0 i1 F G (fun H I q =>
 (cbr (q ==(0:Int))
 (a8 i8 i9 H I (fun J K L =>
 (x0 i0 i1 J K L (0:Int))))
 (x0 i0 i1 i2 i3 q (0:Int)))))))))))))))))))))))))
 (x1 i0 i1 i2 i3 i4 i5 l6 l7 i8 i9 l10 i11 i12 false))
def ymA (a0:yaG) (a1:ybE) (a2:yaK) (a3:yaH) (a4:yap) (a5:yaq) (a6:yaq) (a7:yaq) (a8:yaq) (p0:Int) (p1 p2:Ls) (p3 p4 p5 p6:Int) (K:Int→Int→Int→Prop):Prop :=
 (a0 p0 p1 p2 (fun b =>
 (cbr (b !=(0:Int))
 (K (0:Int) (0:Int) b)
 (a1 p0 p1 p2 p3 p4 (fun g =>
 (cbr (!g)
 (K (0:Int) (0:Int) (2:Int))
 (a2 p5 p6 (fun h =>
 (cbr (h !=(0:Int))
 (K (0:Int) (0:Int) (2:Int))
 (cbr (decide (p5<(0:Int)))
 (K (0:Int) (0:Int) (2:Int))
 (cbr (p5 ==(0:Int))
 (K p3 p4 (0:Int))
 (∃ n:Nat,ybf a0 a1 a2 a3 a4 a5 a6 a7 a8
 (fun _ _ c d e a=>(cbr (a !=(0:Int))
 (cbr (a !=(0:Int))
 (K (0:Int) (0:Int) a)
 (K c d (0:Int)))
 (cbr (e !=(0:Int))
 (K (0:Int) (0:Int) e)
 (K c d (0:Int)))))
 (fun _ _ i j f _ _ _ _ _ _ _ _ _=>(cbr (f !=(0:Int))
 (K (0:Int) (0:Int) f)
 (K i j (0:Int))))
 n p5 p6 (0:Int) (0:Int) (6:Int) p0 p1 p2 p3 p4 p2 (((List.length p2):Nat):Int) (0:Int)))))))))))))
def ygt:ygs:=ymA yaT ybF ybk ybD ybM yaC ya7 ycw ybo
def ytg:Sg:=⟨(lC pt14 pt11),Int→Int→Int→Prop,fun K=>(fun r0 r1 r2=>K (.tup [(.agg [(.int .i64 r0),(.int .i64 r1)]),(.int .i64 r2)]))⟩
def ywk (Q:Qx):Int→Int→Int→Int→Int→Int→Prop:=(fun i0 i1 i2 i3 i4 i5=>Q .ret [(6,.v (.int .i64 i5))] [⟨false,true,2,([(.agg [(.int .i64 i0),(.int .i64 i1)])]:Ls)⟩,⟨false,true,2,([(.agg [(.int .i64 i2),(.int .i64 i3)])]:Ls)⟩,⟨false,true,1,([(.int .i64 i4)]:Ls)⟩])
def ywl (Q:Qx):Int→Int→Int→Int→Int→Int→Ls→Ls→Int→Int→Ls→Int→Int→Bool→Prop:=(fun i0 i1 i2 i3 i4 i5 l6 l7 i8 i9 l10 i11 i12 b13=>Q (.exit 0) [(2,.v (.fn (.func yfW) [] [(.ptr 0 1 0 0),(.ptr 2 1 0 0),(.ptr 1 1 0 0)])),(3,.box (.agg [(.int .i64 i5),(.data l6),(.data l7)])),(4,.box (.agg [(.int .i64 i8),(.int .i64 i9)])),(14,.v (.data l10)),(15,.v (.int .i64 i11)),(16,.v (.int .i64 i12)),(17,.v (.bool b13))] [⟨false,true,2,([(.agg [(.int .i64 i0),(.int .i64 i1)])]:Ls)⟩,⟨false,true,2,([(.agg [(.int .i64 i2),(.int .i64 i3)])]:Ls)⟩,⟨false,true,1,([(.int .i64 i4)]:Ls)⟩])
def pt17:RPt:=rC pt0 rN
def pt18:HPt:=hB false true 1 pt17 hN
def pt19:VPt:=vP 0 0 (nK 1) (nK 0)
def pt20:VPt:=vP 1 0 (nK 1) (nK 0)
def yov (a0:yaG) (a1:ybE) (a2:yaK) (a3:yaH) (a4:yap) (a5:yaq) (a6:yaq) (a7:yaq) (a8:yaq) (Q:Qx):List St:=[⟨(pS (hB false true 2 (rC pt7 rN) (hB false true 2 (rC pt7 rN) pt18)) (fV 2 (vF yfW lN (lC pt19 (lC (vP 2 0 (nK 1) (nK 0)) (lC pt20 lN)))) (fX 3 pt14 (fX 4 pt7 pt16))) fN),ybf a0 a1 a2 a3 a4 a5 a6 a7 a8 (ywk Q) (ywl Q)⟩]
def ymB (a0:yaG) (a1:ybE) (a2:yaK) (a3:yaH) (a4:yap) (a5:yaq) (a6:yaq) (a7:yaq) (a8:yaq):LP:=lpS [(41613500,yov a0 a1 a2 a3 a4 a5 a6 a7 a8)]
def yth (e:Es) (a0:yaG) (a1:ybE) (a2:yaK) (a3:yaH) (a4:yap) (a5:yaq) (a6:yaq) (a7:yaq) (a8:yaq):SE:=⟨(E e),yfU [(ydq,yqy.pw a0),(yfo,yzC.pw a1),(ydx,yoj.pw a2),(yea,yhY.pw a3),(yeU,ytf.pw a4),(yd1,yiN.pw a5),(yd0,yiN.pw a6),(yh6,yiN.pw a7),(yeV,yiN.pw a8)],yfV [(yfW,yqp)],ymB a0 a1 a2 a3 a4 a5 a6 a7 a8,fun _=>none⟩
def yti (e:Es) (a0:yaG) (a1:ybE) (a2:yaK) (a3:yaH) (a4:yap) (a5:yaq) (a6:yaq) (a7:yaq) (a8:yaq):SE:=⟨(E e),yfU [(ydq,yqy.pw a0),(yfo,yzC.pw a1),(ydx,yoj.pw a2),(yea,yhY.pw a3),(yeU,ytf.pw a4),(yd1,yiN.pw a5),(yd0,yiN.pw a6),(yh6,yiN.pw a7),(yeV,yiN.pw a8)],yfV [(yvL,yvO),(yfW,yqp)],ymB a0 a1 a2 a3 a4 a5 a6 a7 a8,fun _=>none⟩
theorem yzF (e:Es) (he:EG e):SEOk (Uni (E e)) (yth e yaT ybF ybk ybD ybM yaC ya7 ycw ybo):=yaz (Sub.uni _) ⟨(yeu e he),(ykP e he),(ye3 e he),(yhZ e he),(yiP e he),(yfr e he),(yfq e he),(ymx e he),(yg1 e he),trivial⟩ ⟨⟨by kernel_rfl,by kernel_rfl,rfl,fun az=>ybR (by kernel_rfl) az,he.num _ (by kernel_rfl),by kernel_rfl,(yat (by kernel_rfl))⟩,trivial⟩ he.ok
theorem yuO (e:Es) (a0 a1 a2 a3 a4 a5 a6 a7 a8):ybS (yth e a0 a1 a2 a3 a4 a5 a6 a7 a8) 5 a yrp false (yov a0 a1 a2 a3 a4 a5 a6 a7 a8):=fun _=>⟨fun _=>by kernel_rfl,fun _ _=>by kernel_rfl,trivial⟩
theorem yuP (e:Es) (he:EG e):LpT (Uni (E e)) (ymB yaT ybF ybk ybD ybM yaC ya7 ycw ybo) [] 41613500 (.loop 41613500 yrp):=fun _ _ _=>yn7.st (Sub.uni _) (yaU (yzF e he) 5) (YOk.no _ _) (yat (by kernel_rfl)) (yuO e _ _ _ _ _ _ _ _ _ _)
theorem yzG (e:Es) (he:EG e):SEOk (Uni (E e)) (yti e yaT ybF ybk ybD ybM yaC ya7 ycw ybo):=yaz (Sub.uni _) ⟨(yeu e he),(ykP e he),(ye3 e he),(yhZ e he),(yiP e he),(yfr e he),(yfq e he),(ymx e he),(yg1 e he),trivial⟩ ⟨⟨by kernel_rfl,by kernel_rfl,rfl,fun az=>ybR (by kernel_rfl) az,he.num _ (by kernel_rfl),by kernel_rfl,(yba (l:=[(41613500,.loop 41613500 yrp)]) ⟨yuP e he,trivial⟩ (by kernel_rfl))⟩,⟨by kernel_rfl,by kernel_rfl,rfl,fun az=>ybR (by kernel_rfl) az,he.num _ (by kernel_rfl),by kernel_rfl,(yat (by kernel_rfl))⟩,trivial⟩ he.ok
theorem yBS (e:Es) (a0 a1 a2 a3 a4 a5 a6 a7 a8):EqW (yti e a0 a1 a2 a3 a4 a5 a6 a7 a8) 6 yDG ytg (ymA a0 a1 a2 a3 a4 a5 a6 a7 a8):=fun _ _=>by kernel_rfl
theorem ytj (e:Es) (he:EG e):OkF (E e) (ytg.pw ygt) yke:=okU he (yBS e _ _ _ _ _ _ _ _ _) (yzG e he) ynj.flat (yat (by kernel_rfl))
def yaZ (a0:yaG) (a1:ybE) (a2:yap) (a3:yaH) (a4:yaq) (a5:yaq) (a6:yaq) (x0:Int→Int→Int→Prop) (x1:Int→Ls→Ls→Int→Int→Int→Int→Int→Int→Int→Int→Ls→Int→Int→Bool→Prop):Nat→Int→Ls→Ls→Int→Int→Int→Int→Int→Int→Int→Int→Ls→Int→Int→Prop
 | 0,_,_,_,_,_,_,_,_,_,_,_,_,_,_=>False
 | n+1,i0,l1,l2,i3,i4,i5,i6,i7,i8,i9,i10,l11,i12,i13 =>
 (cbr (decide (i13<i12))
 (asr (decide ((0:Int)≤i13))
 (asr (decide (i13<(((List.length l11):Nat):Int)))
 (asr (conf zI (List.getD l11 (i13.toNat) .nils))
 (asr (decide ((0:Int)≤(IntKind.i64.wrap (i13+(1:Int)))))
 (asr (decide ((IntKind.i64.wrap (i13+(1:Int)))<(((List.length l1):Nat):Int)))
 (asr (conf zI (List.getD l1 ((IntKind.i64.wrap (i13+(1:Int))).toNat) .nils))
 (a3 (yaa (List.getD l1 ((IntKind.i64.wrap (i13+(1:Int))).toNat) .nils)) (fun a b =>
 (a2 i3 i4 a b (fun i =>
 (cbr i
 (cbr ((yaa (List.getD l11 (i13.toNat) .nils)) ==(0:Int))
 (a2 i9 i10 i3 i4 (fun j =>
 (cbr j
 (yaZ a0 a1 a2 a3 a4 a5 a6 x0 x1 n i0 l1 l2 i3 i4 i5 i6 i7 i8 i3 i4 l11 i12 (IntKind.i64.wrap (i13+(1:Int))))
 (yaZ a0 a1 a2 a3 a4 a5 a6 x0 x1 n i0 l1 l2 i3 i4 i5 i6 i7 i8 i9 i10 l11 i12 (IntKind.i64.wrap (i13+(1:Int)))))))
 (a2 i9 i10 i3 i4 (fun k =>
 (cbr (!k)
 (a2 i9 i10 i3 i4 (fun l =>
 (cbr l
 (yaZ a0 a1 a2 a3 a4 a5 a6 x0 x1 n i0 l1 l2 i3 i4 i5 i6 i7 i8 i3 i4 l11 i12 (IntKind.i64.wrap (i13+(1:Int))))
 (yaZ a0 a1 a2 a3 a4 a5 a6 x0 x1 n i0 l1 l2 i3 i4 i5 i6 i7 i8 i9 i10 l11 i12 (IntKind.i64.wrap (i13+(1:Int)))))))
 (a4 i3 i4 i9 i10 (fun m o c =>
 (cbr (c !=(0:Int))
 (x0 (0:Int) (0:Int) c)
 (a3 (yaa (List.getD l11 (i13.toNat) .nils)) (fun p q =>
 (a5 m o p q (fun r s d =>
 (cbr (d !=(0:Int))
 (x0 (0:Int) (0:Int) d)
 (a6 i7 i8 r s (fun t u e =>
 (cbr (e !=(0:Int))
 (x0 (0:Int) (0:Int) e)
 (yaZ a0 a1 a2 a3 a4 a5 a6 x0 x1 n i0 l1 l2 i3 i4 i5 i6 t u i3 i4 l11 i12 (IntKind.i64.wrap (i13+(1:Int)))))))))))))))))))
 (cbr ((yaa (List.getD l11 (i13.toNat) .nils)) ==(0:Int))
 (a2 i9 i10 a b (fun v =>
 (cbr v
 (yaZ a0 a1 a2 a3 a4 a5 a6 x0 x1 n i0 l1 l2 i3 i4 i5 i6 i7 i8 a b l11 i12 (IntKind.i64.wrap (i13+(1:Int))))
 (yaZ a0 a1 a2 a3 a4 a5 a6 x0 x1 n i0 l1 l2 i3 i4 i5 i6 i7 i8 i9 i10 l11 i12 (IntKind.i64.wrap (i13+(1:Int)))))))
 (a2 i9 i10 a b (fun w =>
 (cbr (!w)
 (a2 i9 i10 a b (fun x =>
 (cbr x
 (yaZ a0 a1 a2 a3 a4 a5 a6 x0 x1 n i0 l1 l2 i3 i4 i5 i6 i7 i8 a b l11 i12 (IntKind.i64.wrap (i13+(1:Int))))
 (yaZ a0 a1 a2 a3 a4 a5 a6 x0 x1 n i0 l1 l2 i3 i4 i5 i6 i7 i8 i9 i10 l11 i12 (IntKind.i64.wrap (i13+(1:Int)))))))
 (a4 a b i9 i10 (fun y z f =>
 (cbr (f !=(0:Int))
 (x0 (0:Int) (0:Int) f)
 (a3 (yaa (List.getD l11 (i13.toNat) .nils)) (fun A B =>
 (a5 y z A B (fun C D g =>
 (cbr (g !=(0:Int))
 (x0 (0:Int) (0:Int) g)
 (a6 i7 i8 C D (fun E F h =>
 (cbr (h !=(0:Int))
 (x0 (0:Int) (0:Int) h)
 (yaZ a0 a1 a2 a3 a4 a5 a6 x0 x1 n i0 l1 l2 i3 i4 i5 i6 E F a b l11 i12 (IntKind.i64.wrap (i13+(1:Int))))))))))))))))))))))))))))))
 (x1 i0 l1 l2 i3 i4 i5 i6 i7 i8 i9 i10 l11 i12 i13 false))
def ykQ (a0:yaG) (a1:ybE) (a2:yap) (a3:yaH) (a4:yaq) (a5:yaq) (a6:yaq) (p0:Int) (p1 p2:Ls) (p3 p4 p5 p6:Int) (K:Int→Int→Int→Prop):Prop :=
 (a0 p0 p1 p2 (fun a =>
 (cbr (a !=(0:Int))
 (K (0:Int) (0:Int) a)
 (a1 p0 p1 p2 p3 p4 (fun b =>
 (cbr (!b)
 (K (0:Int) (0:Int) (2:Int))
 (a1 p0 p1 p2 p5 p6 (fun c =>
 (cbr (!c)
 (K (0:Int) (0:Int) (2:Int))
 (a2 p5 p6 p3 p4 (fun d =>
 (cbr d
 (K (0:Int) (0:Int) (2:Int))
 (a3 (0:Int) (fun e f =>
 (∃ n:Nat,yaZ a0 a1 a2 a3 a4 a5 a6
 (fun g h i=>(K g h i))
 (fun _ _ _ _ _ _ _ j k _ _ _ _ _ _=>(K j k (0:Int)))
 n p0 p1 p2 p5 p6 (0:Int) (0:Int) e f p3 p4 p2 (((List.length p2):Nat):Int) (0:Int))))))))))))))))
def yfs:ygs:=ykQ yaT ybF ybM ybD yaC ya7 ybo
def yuQ (Q:Qx):Int→Int→Int→Prop:=(fun i0 i1 i2=>Q .ret [(6,.box (.agg [(.int .i64 i0),(.int .i64 i1)])),(7,.v (.int .i64 i2))] [])
def yuR (Q:Qx):Int→Ls→Ls→Int→Int→Int→Int→Int→Int→Int→Int→Ls→Int→Int→Bool→Prop:=(fun i0 l1 l2 i3 i4 i5 i6 i7 i8 i9 i10 l11 i12 i13 b14=>Q (.exit 0) [(3,.box (.agg [(.int .i64 i0),(.data l1),(.data l2)])),(5,.box (.agg [(.int .i64 i3),(.int .i64 i4)])),(6,.box (.agg [(.int .i64 i5),(.int .i64 i6)])),(9,.box (.agg [(.int .i64 i7),(.int .i64 i8)])),(10,.box (.agg [(.int .i64 i9),(.int .i64 i10)])),(42,.v (.data l11)),(43,.v (.int .i64 i12)),(44,.v (.int .i64 i13)),(45,.v (.bool b14))] [])
def ynu (a0:yaG) (a1:ybE) (a2:yap) (a3:yaH) (a4:yaq) (a5:yaq) (a6:yaq) (Q:Qx):List St:=[⟨(pS hN (fX 3 pt14 (fX 5 pt7 (fX 6 pt7 (fX 9 pt7 (fX 10 pt7 (fV 42 vD (fV 43 pt0 (fV 44 pt0 fN)))))))) fN),yaZ a0 a1 a2 a3 a4 a5 a6 (yuQ Q) (yuR Q)⟩]
def yqD (a0:yaG) (a1:ybE) (a2:yap) (a3:yaH) (a4:yaq) (a5:yaq) (a6:yaq):LP:=lpS [(85339800,ynu a0 a1 a2 a3 a4 a5 a6)]
def ykR (e:Es) (a0:yaG) (a1:ybE) (a2:yap) (a3:yaH) (a4:yaq) (a5:yaq) (a6:yaq):SE:=sE (E e) [(ydq,yqy.pw a0),(yfo,yzC.pw a1),(yeU,ytf.pw a2),(yea,yhY.pw a3),(yd1,yiN.pw a4),(yd0,yiN.pw a5),(yeV,yiN.pw a6)] (yqD a0 a1 a2 a3 a4 a5 a6)
theorem yow (e:Es) (he:EG e):SEOk (Uni (E e)) (ykR e yaT ybF ybM ybD yaC ya7 ybo):=yaz (Sub.uni _) ⟨(yeu e he),(ykP e he),(yiP e he),(yhZ e he),(yfr e he),(yfq e he),(yg1 e he),trivial⟩ trivial he.ok
theorem ytk (e:Es) (a0 a1 a2 a3 a4 a5 a6):ybS (ykR e a0 a1 a2 a3 a4 a5 a6) 5 a yrr false (ynu a0 a1 a2 a3 a4 a5 a6):=fun _=>⟨fun _=>by kernel_rfl,fun _ _=>by kernel_rfl,trivial⟩
theorem ytl (e:Es) (he:EG e):LpT (Uni (E e)) (yqD yaT ybF ybM ybD yaC ya7 ybo) [] 85339800 (.loop 85339800 yrr):=fun _ _ _=>yn7.st (Sub.uni _) (yaU (yow e he) 5) (YOk.no _ _) (yat (by kernel_rfl)) (ytk e _ _ _ _ _ _ _ _)
theorem yzH (e:Es) (a0 a1 a2 a3 a4 a5 a6):EqW (ykR e a0 a1 a2 a3 a4 a5 a6) 6 ys3 ytg (ykQ a0 a1 a2 a3 a4 a5 a6):=fun _ _=>by kernel_rfl
theorem yqE (e:Es) (he:EG e):OkF (E e) (ytg.pw yfs) yiL:=okU he (yzH e _ _ _ _ _ _ _) (yow e he) ynj.flat (yba (l:=[(85339800,.loop 85339800 yrr)]) ⟨ytl e he,trivial⟩ (by kernel_rfl))
set_option linter.unusedVariables false
theorem yyp (p0:Int) (p1:Ls) (p2:Ls) (r0:Int) (h:∀ K:Int→Prop,K r0→yaT p0 p1 p2 K) (K:Int→Prop):yaT p0 p1 p2 K=K r0 :=
 propext ⟨fun k=>detC (yeu [] ya8) (az:=[(.agg [(.int .i64 p0),(.data p1),(.data p2)])]) (x:=(.int .i64 r0)) (fun K' k'=>h (fun r0=>K' (.int .i64 r0)) k') (K:=fun x=>match x with | (.int .i64 r0)=>K r0 | _=>False) k,h K⟩
theorem yyq (p0:Int) (p1:Ls) (p2:Ls) (r0:Int) (r1:Int) (h:∀ K:Int→Int→Prop,K r0 r1→yeg p0 p1 p2 K) (K:Int→Int→Prop):yeg p0 p1 p2 K=K r0 r1 :=
 propext ⟨fun k=>detC (yqB [] ya8) (az:=[(.agg [(.int .i64 p0),(.data p1),(.data p2)])]) (x:=(.tup [(.int .i64 r0),(.int .i64 r1)])) (fun K' k'=>h (fun r0 r1=>K' (.tup [(.int .i64 r0),(.int .i64 r1)])) k') (K:=fun x=>match x with | (.tup [(.int .i64 r0),(.int .i64 r1)])=>K r0 r1 | _=>False) k,h K⟩
theorem yzI (p0:Int) (p1:Ls) (p2:Ls) (p3:Int) (p4:Int) (p5:Int) (p6:Int) (r0:Int) (r1:Int) (r2:Int) (h:∀ K:Int→Int→Int→Prop,K r0 r1 r2→ygt p0 p1 p2 p3 p4 p5 p6 K) (K:Int→Int→Int→Prop):ygt p0 p1 p2 p3 p4 p5 p6 K=K r0 r1 r2 :=
 propext ⟨fun k=>detC (ytj [] ya8) (az:=[(.agg [(.int .i64 p0),(.data p1),(.data p2)]),(.agg [(.int .i64 p3),(.int .i64 p4)]),(.agg [(.int .i64 p5),(.int .i64 p6)])]) (x:=(.tup [(.agg [(.int .i64 r0),(.int .i64 r1)]),(.int .i64 r2)])) (fun K' k'=>h (fun r0 r1 r2=>K' (.tup [(.agg [(.int .i64 r0),(.int .i64 r1)]),(.int .i64 r2)])) k') (K:=fun x=>match x with | (.tup [(.agg [(.int .i64 r0),(.int .i64 r1)]),(.int .i64 r2)])=>K r0 r1 r2 | _=>False) k,h K⟩
theorem yyr (p0:Int) (p1:Ls) (p2:Ls) (p3:Int) (p4:Int) (p5:Int) (p6:Int) (r0:Int) (r1:Int) (r2:Int) (h:∀ K:Int→Int→Int→Prop,K r0 r1 r2→yfs p0 p1 p2 p3 p4 p5 p6 K) (K:Int→Int→Int→Prop):yfs p0 p1 p2 p3 p4 p5 p6 K=K r0 r1 r2 :=
 propext ⟨fun k=>detC (yqE [] ya8) (az:=[(.agg [(.int .i64 p0),(.data p1),(.data p2)]),(.agg [(.int .i64 p3),(.int .i64 p4)]),(.agg [(.int .i64 p5),(.int .i64 p6)])]) (x:=(.tup [(.agg [(.int .i64 r0),(.int .i64 r1)]),(.int .i64 r2)])) (fun K' k'=>h (fun r0 r1 r2=>K' (.tup [(.agg [(.int .i64 r0),(.int .i64 r1)]),(.int .i64 r2)])) k') (K:=fun x=>match x with | (.tup [(.agg [(.int .i64 r0),(.int .i64 r1)]),(.int .i64 r2)])=>K r0 r1 r2 | _=>False) k,h K⟩
def yjw (a0:ycb) (p0 p1 p2 p3:Int) (K:Bool→Prop):Prop :=
 (a0 p0 p1 p2 p3 (fun a b =>
 (cbr (b ==(0:Int))
 (K (decide (a<(0:Int))))
 (K false))))
def ybQ:yap:=yjw ybL
def pt21:LPt:=lC (vA (lC pt0 (lC pt0 pt6))) lN
def yox:Sg:=⟨pt21,Bool→Prop,fun K=>(fun r0=>K (.bool r0))⟩
def yys (e:Es) (a0:ycb):SE:=sE (E e) [(yeT,yBH.pw a0)] lp0
theorem yyt (e:Es) (a0):EqW (yys e a0) 6 yzm yox (yjw a0):=fun _ _=>by kernel_rfl
theorem yoy (e:Es) (he:EG e):OkF (E e) (yox.pw ybQ) yhU:=okU he (yyt e _) (yaz (Sub.uni _) ⟨(yg0 e he),trivial⟩ trivial he.ok) ynj.flat (yat (by kernel_rfl))
def ydk (a0:yap) (x0:Int→Prop) (x1:Ls→Int→Int→Bool→Prop):Nat→Ls→Int→Int→Prop
 | 0,_,_,_=>False
 | n+1,l0,i1,i2 =>
 (cbr (decide (i2<i1))
 (asr (decide ((0:Int)≤i2))
 (asr (decide (i2<(((List.length l0):Nat):Int)))
 (asr (conf z4 (List.getD l0 (i2.toNat) .nils))
 (a0 (yaa (yab (List.getD l0 (i2.toNat) .nils) 0)) (yaa (yab (List.getD l0 (i2.toNat) .nils) 1)) (yaa (yab (List.getD l0 (i2.toNat) .nils) 2)) (yaa (yab (List.getD l0 (i2.toNat) .nils) 3)) (fun a =>
 (cbr (!a)
 (x0 (8:Int))
 (ydk a0 x0 x1 n l0 i1 (IntKind.i64.wrap (i2+(1:Int))))))))))
 (x1 l0 i1 i2 false))
def ymC (a0:yap) (p0:Ls) (K:Int→Prop):Prop :=
 (cbr (decide ((((List.length p0):Nat):Int)>(60:Int)))
 (K (4:Int))
 (∃ n:Nat,ydk a0
 (fun a=>(K a))
 (fun b c d e=>(K (0:Int)))
 n p0 (((List.length p0):Nat):Int) (0:Int)))
def ygu:yaA:=ymC ybQ
def ywm (Q:Qx):Int→Prop:=(fun i0=>Q .ret [(2,.v (.int .i64 i0))] [])
def ywn (Q:Qx):Ls→Int→Int→Bool→Prop:=(fun l0 i1 i2 b3=>Q (.exit 0) [(8,.v (.data l0)),(9,.v (.int .i64 i1)),(10,.v (.int .i64 i2)),(11,.v (.bool b3))] [])
def yoz (a0:yap) (Q:Qx):List St:=[⟨(pS hN (fV 8 vD (fV 9 pt0 (fV 10 pt0 fN))) fN),ydk a0 (ywm Q) (ywn Q)⟩]
def ytm (a0:yap):LP:=lpS [(56157900,yoz a0)]
def ymD (e:Es) (a0:yap):SE:=sE (E e) [(yhU,yox.pw a0)] (ytm a0)
theorem yqF (e:Es) (he:EG e):SEOk (Uni (E e)) (ymD e ybQ):=yaz (Sub.uni _) ⟨(yoy e he),trivial⟩ trivial he.ok
theorem yuS (e:Es) (a0):ybS (ymD e a0) 5 a yrw false (yoz a0):=fun _=>⟨fun _=>by kernel_rfl,fun _ _=>by kernel_rfl,trivial⟩
theorem yuT (e:Es) (he:EG e):LpT (Uni (E e)) (ytm ybQ) [] 56157900 (.loop 56157900 yrw):=fun _ _ _=>yn7.st (Sub.uni _) (yaU (yqF e he) 5) (YOk.no _ _) (yat (by kernel_rfl)) (yuS e _ _)
theorem yBT (e:Es) (a0):EqW (ymD e a0) 6 yvP ybX (ymC a0):=fun _ _=>by kernel_rfl
theorem ytn (e:Es) (he:EG e):OkF (E e) (ybX.pw ygu) ykg:=okU he (yBT e _) (yqF e he) ynj.flat (yba (l:=[(56157900,.loop 56157900 yrw)]) ⟨yuT e he,trivial⟩ (by kernel_rfl))
def yjx (a0:ycb) (p0 p1 p2 p3:Int) (K:Int→Prop):Prop :=
 (a0 p0 p1 p2 p3 (fun a b =>
 (K a)))
def yco:yaR:=yjx ybL
def yyu (e:Es) (a0:ycb):SE:=sE (E e) [(yeT,yBH.pw a0)] lp0
theorem yyv (e:Es) (a0):EqW (yyu e a0) 6 yzn yjt (yjx a0):=fun _ _=>by kernel_rfl
theorem yoA (e:Es) (he:EG e):OkF (E e) (yjt.pw yco) yfX:=okU he (yyv e _) (yaz (Sub.uni _) ⟨(yg0 e he),trivial⟩ trivial he.ok) ynj.flat (yat (by kernel_rfl))
abbrev yuU:Type:=Int→Int→Int→Int→Int→Int→Int→Int→(Int→Prop)→Prop
def yg2 (a0:yaR) (p0 p1 p2 p3 p4 p5 p6 p7:Int) (K:Int→Prop):Prop :=
 (a0 p0 p1 p4 p5 (fun a =>
 (K a)))
def yhI:yuU:=yg2 yco
def yto:Sg:=⟨(lC (vA (lC pt0 (lC pt0 pt6))) pt21),Int→Prop,fun K=>(fun r0=>K (.int .i64 r0))⟩
def ytp (e:Es) (a0:yaR):SE:=sE (E e) [(yfX,yjt.pw a0)] lp0
theorem ytq (e:Es) (a0):EqW (ytp e a0) 6 yuz yto (yg2 a0):=fun _ _=>by kernel_rfl
theorem ytr (e:Es) (he:EG e):OkF (E e) (yto.pw yhI) yc4:=okU he (ytq e _) (yaz (Sub.uni _) ⟨(yoA e he),trivial⟩ trivial he.ok) ynj.flat (yat (by kernel_rfl))
abbrev yaB:Type:=Ls→(Ls→Prop)→Prop
mutual
def yjy (a0:yaR) (x0:Int→Int→Bool→Prop) (x1:Ls→Int→Int→Bool→Prop) (x2:Ls→Ls→Int→Int→Bool→Prop):Nat→Int→Int→Prop
 | 0,_,_=>False
 | n+1,i0,i1 =>
 (cbr (decide (i1<i0))
 False
 (x0 i0 i1 false))
def yge (a0:yaR) (x0:Int→Int→Bool→Prop) (x1:Ls→Int→Int→Bool→Prop) (x2:Ls→Ls→Int→Int→Bool→Prop):Nat→Ls→Int→Int→Prop
 | 0,_,_,_=>False
 | n+1,l0,i3,i4 =>
 (cbr (decide (i4<i3))
 (asr (decide ((0:Int)≤i4))
 (asr (decide (i4<(((List.length l0):Nat):Int)))
 (asr (decide ((List.length l0)=(List.length l0)))
 (asr (decide ((0+(i4.toNat))<(List.length l0)))
 (lt (List.getD l0 (0+(i4.toNat)) .nils) (fun a =>
 (asr (conf z4 a)
 (lt (IntKind.i64.wrap (i4+(1:Int))) (fun b =>
 (asr (decide (1=List.length ([(.agg [(.int .i64 (yaa (yab a 0))),(.int .i64 (yaa (yab a 1))),(.int .i64 (yaa (yab a 2))),(.int .i64 (yaa (yab a 3)))])]:Ls))&&decide (1=List.length ([(.agg [(.int .i64 (yaa (yab a 0))),(.int .i64 (yaa (yab a 1))),(.int .i64 (yaa (yab a 2))),(.int .i64 (yaa (yab a 3)))])]:Ls))&&decide ((List.length l0)=List.length l0)&&decide ((List.length l0)=List.length l0))
 (ybH a0 x0 x1 x2 n l0 ([(.agg [(.int .i64 (yaa (yab a 0))),(.int .i64 (yaa (yab a 1))),(.int .i64 (yaa (yab a 2))),(.int .i64 (yaa (yab a 3)))])]:Ls) i3 b)))))))))))
 (x1 l0 i3 i4 false))
def ybH (a0:yaR) (x0:Int→Int→Bool→Prop) (x1:Ls→Int→Int→Bool→Prop) (x2:Ls→Ls→Int→Int→Bool→Prop):Nat→Ls→Ls→Int→Int→Prop
 | 0,_,_,_,_=>False
 | n+1,l0,l1,i6,i7 =>
 (cbr (decide (i7<i6))
 (jn (fun (i:Ls→Prop) =>
 (asr (decide ((0:Int)≤i7))
 (asr (decide (i7<(((List.length l0):Nat):Int)))
 (asr (decide ((List.length l0)=(List.length l0)))
 (asr (decide ((0+(i7.toNat))<(List.length l0)))
 (lt (List.getD l0 (0+(i7.toNat)) .nils) (fun a =>
 (asr (conf z4 a)
 (jn (fun (j:Bool→Prop) =>
 (cbr (decide ((((List.length l1):Nat):Int)>(0:Int)))
 (lt (IntKind.i64.wrap ((((List.length l1):Nat):Int)-(1:Int))) (fun e =>
 (asr (decide ((0:Int)≤e))
 (asr (decide (e<(((List.length l1):Nat):Int)))
 (asr (decide ((List.length l1)=(List.length l1)))
 (asr (decide ((0+(e.toNat))<(List.length l1)))
 (lt (List.getD l1 (0+(e.toNat)) .nils) (fun g =>
 (asr (conf z4 g)
 (a0 (yaa (yab a 0)) (yaa (yab a 1)) (yaa (yab g 2)) (yaa (yab g 3)) (fun k =>
 (j (decide (k≤(0:Int)))))))))))))))
 (j false)))
 (fun l=>(cbr l
 (lt (IntKind.i64.wrap ((((List.length l1):Nat):Int)-(1:Int))) (fun f =>
 (asr (decide ((0:Int)≤f))
 (asr (decide (f<(((List.length l1):Nat):Int)))
 (asr (decide ((List.length l1)=(List.length l1)))
 (asr (decide ((0+(f.toNat))<(List.length l1)))
 (lt (List.getD l1 (0+(f.toNat)) .nils) (fun h =>
 (asr (conf z4 h)
 (a0 (yaa (yab a 2)) (yaa (yab a 3)) (yaa (yab h 2)) (yaa (yab h 3)) (fun m =>
 (cbr (decide (m>(0:Int)))
 (lt (IntKind.i64.wrap ((((List.length l1):Nat):Int)-(1:Int))) (fun b =>
 (asr (decide ((0:Int)≤b))
 (asr (decide (b<(((List.length l1):Nat):Int)))
 (asr (decide ((List.length l1)=(List.length l1)))
 (asr (decide ((0+(b.toNat))<(List.length l1)))
 (lt (List.getD l1 (0+(b.toNat)) .nils) (fun c =>
 (asr (conf z4 c)
 (lt (IntKind.i64.wrap (i7+(1:Int))) (fun o =>
 (asr (decide ((List.length l1)=List.length (List.set l1 (0+(b.toNat)) (.agg [(.int .i64 (yaa (yab c 0))),(.int .i64 (yaa (yab c 1))),(.int .i64 (yaa (yab a 2))),(.int .i64 (yaa (yab a 3)))])))&&decide ((List.length l1)=List.length (List.set l1 (0+(b.toNat)) (.agg [(.int .i64 (yaa (yab c 0))),(.int .i64 (yaa (yab c 1))),(.int .i64 (yaa (yab a 2))),(.int .i64 (yaa (yab a 3)))])))&&decide ((List.length l0)=List.length l0)&&decide ((List.length l0)=List.length l0))
 (ybH a0 x0 x1 x2 n l0 (List.set l1 (0+(b.toNat)) (.agg [(.int .i64 (yaa (yab c 0))),(.int .i64 (yaa (yab c 1))),(.int .i64 (yaa (yab a 2))),(.int .i64 (yaa (yab a 3)))])) i6 o)))))))))))))
 (i l1)))))))))))))
 (asr (decide ((List.length l1)=(List.length l1)))
 (asr (decide ((0+(List.length l1))≤(List.length l1)))
 (asr (!(decide (((0+(List.length l1))+1)≤(List.length l1))))
 (asr (decide ((List.length l1)=(List.length l1)))
 (asr (decide ((((List.length l1)+1)+64)*(32+1)≤room))
 (i (l1++([(.agg [(.int .i64 (yaa (yab a 0))),(.int .i64 (yaa (yab a 1))),(.int .i64 (yaa (yab a 2))),(.int .i64 (yaa (yab a 3)))])]:Ls)))))))))))))))))))
 (fun d=>(lt (IntKind.i64.wrap (i7+(1:Int))) (fun p =>
 (asr (decide ((List.length d)=List.length d)&&decide ((List.length d)=List.length d)&&decide ((List.length l0)=List.length l0)&&decide ((List.length l0)=List.length l0))
 (ybH a0 x0 x1 x2 n l0 d i6 p))))))
 (x2 l0 l1 i6 i7 false))
end
def yio (a0:yaR) (p0:Ls) (K:Ls→Prop):Prop :=
 (asr (yd7 4 32 p0)
 (cbr (List.isEmpty p0)
 (∃ n:Nat,yjy a0
 (fun c d e=>(K ([]:Ls)))
 (fun f g h i=>(K ([]:Ls)))
 (fun j a k l m=>(asr (decide ((List.length a)=(List.length a)))
 (asr (decide ((0+(List.length a))≤(List.length a)))
 (K (List.take (List.length a) a)))))
 n (0:Int) (0:Int))
 (asr (Srt.cond yrL.s p0 0 (List.length p0) (List.length p0) 4 false)
 (asr (decide ((List.length p0)=List.length (List.take 0 p0++(Srt.sorted yrL.s yrL.srt (List.take (List.length p0) (List.drop 0 p0))++List.drop (0+(List.length p0)) p0)))&&decide ((List.length p0)=List.length (List.take 0 p0++(Srt.sorted yrL.s yrL.srt (List.take (List.length p0) (List.drop 0 p0))++List.drop (0+(List.length p0)) p0))))
 (∃ n:Nat,yge a0
 (fun o p q=>(K ([]:Ls)))
 (fun r t u v=>(K ([]:Ls)))
 (fun w b x y z=>(asr (decide ((List.length b)=(List.length b)))
 (asr (decide ((0+(List.length b))≤(List.length b)))
 (K (List.take (List.length b) b)))))
 n (List.take 0 p0++(Srt.sorted yrL.s yrL.srt (List.take (List.length p0) (List.drop 0 p0))++List.drop (0+(List.length p0)) p0)) (((List.length p0):Nat):Int) (0:Int))))))
def ydO:yaB:=yio yco
def yip:Sg:=⟨pt9,Ls→Prop,fun K=>(fun r0=>K (.data r0))⟩
def ygf (Q:Qx):Int→Int→Bool→Prop:=(fun i0 i1 b2=>Q (.exit 0) [(3,.v .nils),(11,.v .emp),(12,.v (.int .i64 i0)),(13,.v (.int .i64 i1)),(14,.v (.bool b2))] [])
def ygg (Q:Qx):Ls→Int→Int→Bool→Prop:=(fun l0 i3 i4 b5=>Q (.exit 0) [(3,.v .nils),(11,.v (.own 0 0 (List.length l0) (List.length l0) none)),(12,.v (.int .i64 i3)),(13,.v (.int .i64 i4)),(14,.v (.bool b5))] [⟨false,true,4,l0⟩])
def ygh (Q:Qx):Ls→Ls→Int→Int→Bool→Prop:=(fun l0 l1 i6 i7 b8=>Q (.exit 0) [(3,.v (.own 1 0 (List.length l1) (List.length l1) none)),(11,.v (.own 0 0 (List.length l0) (List.length l0) none)),(12,.v (.int .i64 i6)),(13,.v (.int .i64 i7)),(14,.v (.bool b8))] [⟨false,true,4,l0⟩,⟨false,true,4,l1⟩])
def pt22:HPt:=hB false true 4 rA hN
def pt23:VPt:=vW 0 (nK 0) (nT 0) (nT 0)
def pt24:Pat Frm:=fV 11 pt23 (fV 12 pt0 (fV 13 pt0 fN))
def pt25:VPt:=vW 1 (nK 0) (nT 1) (nT 1)
def ykq (a0:yaR) (Q:Qx):List St:=[⟨(pS hN (fV 3 vNs (fV 11 vE (fV 12 pt0 (fV 13 pt0 fN)))) fN),yjy a0 (ygf Q) (ygg Q) (ygh Q)⟩,⟨(pS pt22 (fV 3 vNs pt24) fN),yge a0 (ygf Q) (ygg Q) (ygh Q)⟩,⟨(pS (hB false true 4 rA pt22) (fV 3 pt25 pt24) fN),ybH a0 (ygf Q) (ygg Q) (ygh Q)⟩]
def ynv (a0:yaR):LP:=lpS [(63960300,ykq a0)]
def yiq (a0:yaR):SE:=sE (E ef0) [(yfX,yjt.pw a0)] (ynv a0)
theorem yly:SEOk (Uni (E ef0)) (yiq yco):=yaz (Sub.uni _) ⟨(yoA ef0 ye2),trivial⟩ trivial ye2.ok
theorem ypY (a0):ybS (yiq a0) 5 a yrx false (ykq a0):=fun _=>⟨fun _=>by kernel_rfl,fun _ _=>by kernel_rfl,fun _=>by kernel_rfl,fun _ _=>by kernel_rfl,fun _=>by kernel_rfl,fun _ _=>by kernel_rfl,trivial⟩
theorem ypZ:LpT (Uni (E ef0)) (ynv yco) [] 63960300 (.loop 63960300 yrx):=fun _ _ _=>yn7.st (Sub.uni _) (yaU (yly) 5) (YOk.no _ _) (yat (by kernel_rfl)) (ypY _ _)
theorem ywo (a0):EqW (yiq a0) 6 yog yip (yio a0):=fun _ _=>by kernel_rfl
theorem ynw:OkF (E ef0) (yip.pw ydO) ygS:=okU ye2 (ywo _) (yly) ynj.flat (yba (l:=[(63960300,.loop 63960300 yrx)]) ⟨ypZ,trivial⟩ (by kernel_rfl))
abbrev ybe:Type:=Ls→(Ls→Int→Prop)→Prop
def ykS (a0:yaA) (a1:yaB) (p0:Ls) (K:Ls→Int→Prop):Prop :=
 (a0 p0 (fun a =>
 (cbr (a !=(0:Int))
 (K ([]:Ls) a)
 (a1 p0 (fun b =>
 (K b (0:Int)))))))
def yak:ybe:=ykS ygu ydO
def yzJ:Sg:=⟨pt9,Ls→Int→Prop,fun K=>(fun r0 r1=>K (.tup [(.data r0),(.int .i64 r1)]))⟩
def yzK (a0:yaA) (a1:yaB):SE:=sE (E ef0) [(ykg,ybX.pw a0),(ygS,yip.pw a1)] lp0
theorem yzL (a0 a1):EqW (yzK a0 a1) 6 yBC yzJ (ykS a0 a1):=fun _ _=>by kernel_rfl
theorem yqG:OkF (E ef0) (yzJ.pw yak) ygT:=okU ye2 (yzL _ _) (yaz (Sub.uni _) ⟨(ytn ef0 ye2),ynw,trivial⟩ trivial ye2.ok) ynj.flat (yat (by kernel_rfl))
set_option linter.unusedVariables false
theorem ywp (p0:Int) (p1:Int) (p2:Int) (p3:Int) (r0:Bool) (h:∀ K:Bool→Prop,K r0→ybQ p0 p1 p2 p3 K) (K:Bool→Prop):ybQ p0 p1 p2 p3 K=K r0 :=
 propext ⟨fun k=>detC (yoy [] ya8) (az:=[(.agg [(.int .i64 p0),(.int .i64 p1),(.int .i64 p2),(.int .i64 p3)])]) (x:=(.bool r0)) (fun K' k'=>h (fun r0=>K' (.bool r0)) k') (K:=fun x=>match x with | (.bool r0)=>K r0 | _=>False) k,h K⟩
theorem yzM (p0:Ls) (r0:Int) (h:∀ K:Int→Prop,K r0→ygu p0 K) (K:Int→Prop):ygu p0 K=K r0 :=
 propext ⟨fun k=>detC (ytn [] ya8) (az:=[(.data p0)]) (x:=(.int .i64 r0)) (fun K' k'=>h (fun r0=>K' (.int .i64 r0)) k') (K:=fun x=>match x with | (.int .i64 r0)=>K r0 | _=>False) k,h K⟩
theorem yuV (p0:Ls) (r0:Ls) (h:∀ K:Ls→Prop,K r0→ydO p0 K) (K:Ls→Prop):ydO p0 K=K r0 :=
 propext ⟨fun k=>detC ynw (az:=[(.data p0)]) (x:=(.data r0)) (fun K' k'=>h (fun r0=>K' (.data r0)) k') (K:=fun x=>match x with | (.data r0)=>K r0 | _=>False) k,h K⟩
abbrev yau:Type:=Ls→Ls→(Int→Prop)→Prop
def ydl (a0:yaG) (a:Int→Prop) (b:Ls→Ls→Ls→Int→Int→Bool→Prop):Nat→Ls→Ls→Ls→Int→Int→Prop
 | 0,_,_,_,_,_=>False
 | d+1,l0,l1,l2,i3,i4 =>
 (cbr (decide (i4<i3))
 (asr (decide ((0:Int)≤i4))
 (asr (decide (i4<(((List.length l2):Nat):Int)))
 (asr (conf zK (List.getD l2 (i4.toNat) .nils))
 (a0 (yaa (yab (List.getD l2 (i4.toNat) .nils) 0)) (ycL (yab (List.getD l2 (i4.toNat) .nils) 1)) (ycL (yab (List.getD l2 (i4.toNat) .nils) 2)) (fun c =>
 (cbr (c !=(0:Int))
 (a c)
 (ydl a0 a b d l0 l1 l2 i3 (IntKind.i64.wrap (i4+(1:Int))))))))))
 (b l0 l1 l2 i3 i4 false))
def ycN (a0:yaG) (a:Int→Prop) (b:Ls→Ls→Ls→Int→Int→Bool→Prop):Nat→Ls→Ls→Ls→Int→Int→Prop
 | 0,_,_,_,_,_=>False
 | c+1,l0,l1,l2,i3,i4 =>
 (cbr (decide (i4<i3))
 (asr (decide ((0:Int)≤i4))
 (asr (decide (i4<(((List.length l2):Nat):Int)))
 (asr (conf zK (List.getD l2 (i4.toNat) .nils))
 (asr (decide ((0:Int)<(((List.length l0):Nat):Int)))
 (asr (conf zK (List.getD l0 0 .nils))
 (cbr ((yaa (yab (List.getD l2 (i4.toNat) .nils) 0)) !=(yaa (yab (List.getD l0 0 .nils) 0)))
 (a (8:Int))
 (ycN a0 a b c l0 l1 l2 i3 (IntKind.i64.wrap (i4+(1:Int))))))))))
 (b l0 l1 l2 i3 i4 false))
def ymE (a0:yaG) (p0 p1:Ls) (K:Int→Prop):Prop :=
 (cbr (decide ((((List.length p0):Nat):Int)>(6:Int)))
 (K (4:Int))
 (cbr (decide ((((List.length p1):Nat):Int)>(2000:Int)))
 (K (4:Int))
 (cbr ((((List.length p0):Nat):Int) ==(0:Int))
 (K (8:Int))
 (∃ b:Nat,ydl a0
 (fun c=>(K c))
 (fun a d g h i j=>(∃ e:Nat,ycN a0
 (fun f=>(K f))
 (fun k l m n o p=>(K (0:Int)))
 e a d a (((List.length a):Nat):Int) (0:Int)))
 b p0 p1 p0 (((List.length p0):Nat):Int) (0:Int)))))
def yc1:yau:=ymE yaT
def pt26:VPt:=vA pt13
def pt27:LPt:=lC pt26 lN
def ymF:Sg:=⟨pt27,Int→Prop,fun K=>(fun r0=>K (.int .i64 r0))⟩
def ywq (Q:Qx):Int→Prop:=(fun i0=>Q .ret [(2,.v (.int .i64 i0))] [])
def ywr (Q:Qx):Ls→Ls→Ls→Int→Int→Bool→Prop:=(fun l0 l1 l2 i3 i4 b5=>Q (.exit 0) [(1,.box (.agg [(.data l0),(.data l1)])),(23,.v (.data l2)),(24,.v (.int .i64 i3)),(25,.v (.int .i64 i4)),(26,.v (.bool b5))] [])
def yws (Q:Qx):Int→Prop:=(fun i0=>Q .ret [(2,.v (.int .i64 i0))] [])
def ywt (Q:Qx):Ls→Ls→Ls→Int→Int→Bool→Prop:=(fun l0 l1 l2 i3 i4 b5=>Q (.exit 2) [(1,.box (.agg [(.data l0),(.data l1)])),(36,.v (.data l2)),(37,.v (.int .i64 i3)),(38,.v (.int .i64 i4)),(39,.v (.bool b5))] [])
def yoB (a0:yaG) (Q:Qx):List St:=[⟨(pS hN (fX 1 pt26 (fV 23 vD (fV 24 pt0 (fV 25 pt0 fN)))) fN),ydl a0 (ywq Q) (ywr Q)⟩]
def yoC (a0:yaG) (Q:Qx):List St:=[⟨(pS hN (fX 1 pt26 (fV 36 vD (fV 37 pt0 (fV 38 pt0 fN)))) fN),ycN a0 (yws Q) (ywt Q)⟩]
def ymG (a0:yaG):LP:=lpS [(12157600,yoB a0),(12157601,yoC a0)]
def yiQ (e:Es) (a0:yaG):SE:=sE (E e) [(ydq,yqy.pw a0)] (ymG a0)
theorem ykT (e:Es) (he:EG e):SEOk (Uni (E e)) (yiQ e yaT):=yaz (Sub.uni _) ⟨(yeu e he),trivial⟩ trivial he.ok
theorem yuW (e:Es) (a0):ybS (yiQ e a0) 5 a yrf false (yoB a0):=fun _=>⟨fun _=>by kernel_rfl,fun _ _=>by kernel_rfl,trivial⟩
theorem yuX (e:Es) (he:EG e):LpT (Uni (E e)) (ymG yaT) [] 12157600 (.loop 12157600 yrf):=fun _ _ _=>yn7.st (Sub.uni _) (yaU (ykT e he) 5) (YOk.no _ _) (yat (by kernel_rfl)) (yuW e _ _)
theorem yuY (e:Es) (a0):ybS (yiQ e a0) 5 a yrg false (yoC a0):=fun _=>⟨fun _=>by kernel_rfl,fun _ _=>by kernel_rfl,trivial⟩
theorem yuZ (e:Es) (he:EG e):LpT (Uni (E e)) (ymG yaT) [] 12157601 (.loop 12157601 yrg):=fun _ _ _=>yn7.st (Sub.uni _) (yaU (ykT e he) 5) (YOk.no _ _) (yat (by kernel_rfl)) (yuY e _ _)
theorem yBU (e:Es) (a0):EqW (yiQ e a0) 6 yoc ymF (ymE a0):=fun _ _=>by kernel_rfl
theorem yg3 (e:Es) (he:EG e):OkF (E e) (ymF.pw yc1) yeR:=okU he (yBU e _) (ykT e he) ynj.flat (yba (l:=[(12157600,.loop 12157600 yrf),(12157601,.loop 12157601 yrg)]) ⟨yuX e he,yuZ e he,trivial⟩ (by kernel_rfl))
abbrev yck:Type:=Ls→Ls→Int→(Bool→Prop)→Prop
def yg4 (p0 p1:Ls) (p2:Int) (K:Bool→Prop):Prop :=
 (cbr (decide (p2≥(0:Int)))
 (K (decide (p2<(((List.length p0):Nat):Int))))
 (K false))
def yc8:yck:=yg4
def yts:Sg:=⟨(lC pt26 pt1),Bool→Prop,fun K=>(fun r0=>K (.bool r0))⟩
def ytt (e:Es):SE:=sE (E e) [] lp0
theorem ytu (e:Es):EqW (ytt e) 6 yuw yts yg4:=fun _ _=>by kernel_rfl
theorem yg5 (e:Es) (he:EG e):OkF (E e) (yts.pw yc8) yc3:=okU he (ytu e) (yaz (Sub.uni _) trivial trivial he.ok) ynj.flat (yat (by kernel_rfl))
abbrev yoD:Type:=Ls→Ls→Int→(Int→Int→Prop)→Prop
def ymH (a0:yau) (a1:yck) (a2:ymy) (p0 p1:Ls) (p2:Int) (K:Int→Int→Prop):Prop :=
 (a0 p0 p1 (fun b =>
 (cbr (b !=(0:Int))
 (K (0:Int) b)
 (a1 p0 p1 p2 (fun c =>
 (cbr (!c)
 (K (0:Int) (2:Int))
 (asr (decide ((0:Int)≤p2))
 (asr (decide (p2<(((List.length p0):Nat):Int)))
 (lt (List.getD p0 (p2.toNat) .nils) (fun a =>
 (asr (conf zK a)
 (a2 (yaa (yab a 0)) (ycL (yab a 1)) (ycL (yab a 2)) (fun d e =>
 (K d e))))))))))))))
def ykr:yoD:=ymH yc1 yc8 yeg
def yBV:Sg:=⟨(lC pt26 pt1),Int→Int→Prop,fun K=>(fun r0 r1=>K (.tup [(.int .i64 r0),(.int .i64 r1)]))⟩
def yBW (e:Es) (a0:yau) (a1:yck) (a2:ymy):SE:=sE (E e) [(yeR,ymF.pw a0),(yc3,yts.pw a1),(yiJ,yzy.pw a2)] lp0
theorem yBX (e:Es) (a0 a1 a2):EqW (yBW e a0 a1 a2) 6 yDz yBV (ymH a0 a1 a2):=fun _ _=>by kernel_rfl
theorem yBY (e:Es) (he:EG e):OkF (E e) (yBV.pw ykr) ykd:=okU he (yBX e _ _ _) (yaz (Sub.uni _) ⟨(yg3 e he),(yg5 e he),(yqB e he),trivial⟩ trivial he.ok) ynj.flat (yat (by kernel_rfl))
abbrev ycF:Type:=Ls→Ls→Int→Int→Int→Int→Int→(Int→Int→Int→Prop)→Prop
def ygi (a0:ygs) (p0 p1:Ls) (p2 p3 p4 p5 p6:Int) (K:Int→Int→Int→Prop):Prop :=
 (asr (decide ((0:Int)≤p2))
 (asr (decide (p2<(((List.length p0):Nat):Int)))
 (asr (conf zK (List.getD p0 (p2.toNat) .nils))
 (a0 (yaa (yab (List.getD p0 (p2.toNat) .nils) 0)) (ycL (yab (List.getD p0 (p2.toNat) .nils) 1)) (ycL (yab (List.getD p0 (p2.toNat) .nils) 2)) p3 p4 p5 p6 (fun a b c =>
 (K a b c))))))
def yg6:ycF:=ygi ygt
def pt28:LPt:=lC pt26 (lC pt0 pt11)
def yjz:Sg:=⟨pt28,Int→Int→Int→Prop,fun K=>(fun r0 r1 r2=>K (.tup [(.agg [(.int .i64 r0),(.int .i64 r1)]),(.int .i64 r2)]))⟩
def yrZ (e:Es) (a0:ygs):SE:=sE (E e) [(yke,ytg.pw a0)] lp0
theorem yr0 (e:Es) (a0):EqW (yrZ e a0) 6 ys1 yjz (ygi a0):=fun _ _=>by kernel_rfl
theorem yr2 (e:Es) (he:EG e):OkF (E e) (yjz.pw yg6) yeK:=okU he (yr0 e _) (yaz (Sub.uni _) ⟨(ytj e he),trivial⟩ trivial he.ok) ynj.flat (yat (by kernel_rfl))
mutual
def yft (a0:ycD) (x0:Ls→Ls→Int→Int→Bool→Prop) (x1:Ls→Int→Int→Bool→Prop):Nat→Ls→Int→Int→Prop
 | 0,_,_,_=>False
 | n+1,l0,i1,i2 =>
 (cbr (decide (i2<i1))
 (asr (decide ((0:Int)≤i2))
 (asr (decide (i2<(((List.length l0):Nat):Int)))
 (asr (conf zK (List.getD l0 (i2.toNat) .nils))
 (a0 (ycL (yab (List.getD l0 (i2.toNat) .nils) 1)) (fun a =>
 (a0 (ycL (yab (List.getD l0 (i2.toNat) .nils) 2)) (fun b =>
 (asr (decide (1=List.length ([(.agg [(.int .i64 (yaa (yab (List.getD l0 (i2.toNat) .nils) 0))),(.data a),(.data b)])]:Ls))&&decide (1=List.length ([(.agg [(.int .i64 (yaa (yab (List.getD l0 (i2.toNat) .nils) 0))),(.data a),(.data b)])]:Ls)))
 (yc9 a0 x0 x1 n ([(.agg [(.int .i64 (yaa (yab (List.getD l0 (i2.toNat) .nils) 0))),(.data a),(.data b)])]:Ls) l0 i1 (IntKind.i64.wrap (i2+(1:Int))))))))))))
 (x1 l0 i1 i2 false))
def yc9 (a0:ycD) (x0:Ls→Ls→Int→Int→Bool→Prop) (x1:Ls→Int→Int→Bool→Prop):Nat→Ls→Ls→Int→Int→Prop
 | 0,_,_,_,_=>False
 | n+1,l0,l3,i4,i5 =>
 (cbr (decide (i5<i4))
 (asr (decide ((0:Int)≤i5))
 (asr (decide (i5<(((List.length l3):Nat):Int)))
 (asr (conf zK (List.getD l3 (i5.toNat) .nils))
 (a0 (ycL (yab (List.getD l3 (i5.toNat) .nils) 1)) (fun a =>
 (a0 (ycL (yab (List.getD l3 (i5.toNat) .nils) 2)) (fun b =>
 (asr (decide ((List.length l0)=(List.length l0)))
 (asr (decide ((0+(List.length l0))≤(List.length l0)))
 (asr (!(decide (((0+(List.length l0))+1)≤(List.length l0))))
 (asr (decide ((List.length l0)=(List.length l0)))
 (asr (decide ((((List.length l0)+1)+64)*(56+1)≤room))
 (asr (decide ((List.length (l0++([(.agg [(.int .i64 (yaa (yab (List.getD l3 (i5.toNat) .nils) 0))),(.data a),(.data b)])]:Ls)))=List.length (l0++([(.agg [(.int .i64 (yaa (yab (List.getD l3 (i5.toNat) .nils) 0))),(.data a),(.data b)])]:Ls)))&&decide ((List.length (l0++([(.agg [(.int .i64 (yaa (yab (List.getD l3 (i5.toNat) .nils) 0))),(.data a),(.data b)])]:Ls)))=List.length (l0++([(.agg [(.int .i64 (yaa (yab (List.getD l3 (i5.toNat) .nils) 0))),(.data a),(.data b)])]:Ls))))
 (yc9 a0 x0 x1 n (l0++([(.agg [(.int .i64 (yaa (yab (List.getD l3 (i5.toNat) .nils) 0))),(.data a),(.data b)])]:Ls)) l3 i4 (IntKind.i64.wrap (i5+(1:Int)))))))))))))))))
 (x0 l0 l3 i4 i5 false))
end
def ykU (a0:ycD) (p0:Ls) (K:Ls→Prop):Prop :=
 (∃ n:Nat,yft a0
 (fun a b c d e=>(asr (decide ((List.length a)=(List.length a)))
 (asr (decide ((0+(List.length a))≤(List.length a)))
 (K (List.take (List.length a) a)))))
 (fun f g h i=>(K ([]:Ls)))
 n p0 (((List.length p0):Nat):Int) (0:Int))
def yeh:yaB:=ykU ydt
def ylz (Q:Qx):Ls→Ls→Int→Int→Bool→Prop:=(fun l0 l3 i4 i5 b6=>Q (.exit 0) [(3,.v (.own 0 0 (List.length l0) (List.length l0) none)),(6,.v (.data l3)),(7,.v (.int .i64 i4)),(8,.v (.int .i64 i5)),(9,.v (.bool b6))] [⟨false,true,3,l0⟩])
def ylA (Q:Qx):Ls→Int→Int→Bool→Prop:=(fun l0 i1 i2 b3=>Q (.exit 0) [(3,.v .nils),(6,.v (.data l0)),(7,.v (.int .i64 i1)),(8,.v (.int .i64 i2)),(9,.v (.bool b3))] [])
def ynx (a0:ycD) (Q:Qx):List St:=[⟨(pS hN (fV 3 vNs pt10) fN),yft a0 (ylz Q) (ylA Q)⟩,⟨(pS (hB false true 3 rA hN) (fV 3 pt23 pt10) fN),yc9 a0 (ylz Q) (ylA Q)⟩]
def yqH (a0:ycD):LP:=lpS [(94933800,ynx a0)]
def ykV (e:Es) (a0:ycD):SE:=sE (E e) [(yds,yrM a0)] (yqH a0)
theorem yoE (e:Es) (he:EG e):SEOk (Uni (E e)) (ykV e ydt):=yaz (Sub.uni _) ⟨(yrO e he),trivial⟩ trivial he.ok
theorem ytv (e:Es) (a0):ybS (ykV e a0) 5 a yrq false (ynx a0):=fun _=>⟨fun _=>by kernel_rfl,fun _ _=>by kernel_rfl,fun _=>by kernel_rfl,fun _ _=>by kernel_rfl,trivial⟩
theorem ytw (e:Es) (he:EG e):LpT (Uni (E e)) (yqH ydt) [] 94933800 (.loop 94933800 yrq):=fun _ _ _=>yn7.st (Sub.uni _) (yaU (yoE e he) 5) (YOk.no _ _) (yat (by kernel_rfl)) (ytv e _ _)
theorem yzN (e:Es) (a0):EqW (ykV e a0) 6 ys2 yip (ykU a0):=fun _ _=>by kernel_rfl
theorem ykW (e:Es) (he:EG e):OkF (E e) (yip.pw yeh) ygQ:=okU he (yzN e _) (yoE e he) ynj.flat (yba (l:=[(94933800,.loop 94933800 yrq)]) ⟨ytw e he,trivial⟩ (by kernel_rfl))
abbrev ya1:Type:=Ls→Ls→Int→Int→Int→Int→Int→(Ls→Ls→Int→Int→Int→Prop)→Prop
def yoF (a0:yau) (a1:yck) (a2:ycF) (a3:yaB) (p0 p1:Ls) (p2 p3 p4 p5 p6:Int) (K:Ls→Ls→Int→Int→Int→Prop):Prop :=
 (a0 p0 p1 (fun c =>
 (cbr (c !=(0:Int))
 (K ([]:Ls) ([]:Ls) (0:Int) (0:Int) c)
 (a1 p0 p1 p2 (fun f =>
 (cbr (!f)
 (K ([]:Ls) ([]:Ls) (0:Int) (0:Int) (2:Int))
 (a2 p0 p1 p2 p3 p4 p5 p6 (fun a b d =>
 (cbr (d !=(0:Int))
 (K ([]:Ls) ([]:Ls) (0:Int) (0:Int) d)
 (cbr (decide ((((List.length p1):Nat):Int)≥(2000:Int)))
 (K ([]:Ls) ([]:Ls) (0:Int) (0:Int) (4:Int))
 (asr (decide ((0:Int)≤(IntKind.i64.wrap ((((List.length p1):Nat):Int)+(1:Int)))))
 (asr (decide ((((IntKind.i64.wrap ((((List.length p1):Nat):Int)+(1:Int))).toNat)+64)*(64+1)≤room))
 (a3 p0 (fun e =>
 (asr (ydw 8 p1)
 (asr (decide ((List.length (List.replicate ((IntKind.i64.wrap ((((List.length p1):Nat):Int)+(1:Int))).toNat) ((.agg [(.int .i64 (0)),(.int .u8 (0)),(.int .i64 (0)),(.int .i64 (0)),(.int .i64 (0)),(.int .i64 (0)),(.int .i64 (0)),(.int .i64 (0))]):PV)))=((IntKind.i64.wrap ((((List.length p1):Nat):Int)+(1:Int))).toNat)))
 (asr (decide (0≤((IntKind.i64.wrap ((((List.length p1):Nat):Int)+(1:Int))).toNat)))
 (cbr (List.isEmpty p1)
 (asr (decide ((List.length (List.replicate ((IntKind.i64.wrap ((((List.length p1):Nat):Int)+(1:Int))).toNat) ((.agg [(.int .i64 (0)),(.int .u8 (0)),(.int .i64 (0)),(.int .i64 (0)),(.int .i64 (0)),(.int .i64 (0)),(.int .i64 (0)),(.int .i64 (0))]):PV)))=((IntKind.i64.wrap ((((List.length p1):Nat):Int)+(1:Int))).toNat)))
 (asr (decide (0≤((IntKind.i64.wrap ((((List.length p1):Nat):Int)+(1:Int))).toNat)))
 (asr (decide (1≤((IntKind.i64.wrap ((((List.length p1):Nat):Int)+(1:Int))).toNat)))
 (asr (decide ((List.length (([(.agg [(.int .i64 p2),(.int .u8 (2:Int)),(.int .i64 p3),(.int .i64 p4),(.int .i64 p5),(.int .i64 p6),(.int .i64 a),(.int .i64 b)])]:Ls)++(List.drop 1 (List.replicate ((IntKind.i64.wrap ((((List.length p1):Nat):Int)+(1:Int))).toNat) ((.agg [(.int .i64 (0)),(.int .u8 (0)),(.int .i64 (0)),(.int .i64 (0)),(.int .i64 (0)),(.int .i64 (0)),(.int .i64 (0)),(.int .i64 (0))]):PV)))))=((IntKind.i64.wrap ((((List.length p1):Nat):Int)+(1:Int))).toNat)))
 (asr (decide (1≤((IntKind.i64.wrap ((((List.length p1):Nat):Int)+(1:Int))).toNat)))
 (K e (List.take 1 (([(.agg [(.int .i64 p2),(.int .u8 (2:Int)),(.int .i64 p3),(.int .i64 p4),(.int .i64 p5),(.int .i64 p6),(.int .i64 a),(.int .i64 b)])]:Ls)++(List.drop 1 (List.replicate ((IntKind.i64.wrap ((((List.length p1):Nat):Int)+(1:Int))).toNat) ((.agg [(.int .i64 (0)),(.int .u8 (0)),(.int .i64 (0)),(.int .i64 (0)),(.int .i64 (0)),(.int .i64 (0)),(.int .i64 (0)),(.int .i64 (0))]):PV))))) a b (0:Int)))))))
 (asr (decide ((0+(List.length p1))≤((IntKind.i64.wrap ((((List.length p1):Nat):Int)+(1:Int))).toNat)))
 (asr (decide ((List.length (p1++(List.drop (0+(List.length p1)) (List.replicate ((IntKind.i64.wrap ((((List.length p1):Nat):Int)+(1:Int))).toNat) ((.agg [(.int .i64 (0)),(.int .u8 (0)),(.int .i64 (0)),(.int .i64 (0)),(.int .i64 (0)),(.int .i64 (0)),(.int .i64 (0)),(.int .i64 (0))]):PV)))))=((IntKind.i64.wrap ((((List.length p1):Nat):Int)+(1:Int))).toNat)))
 (asr (decide ((0+(0+(List.length p1)))≤((IntKind.i64.wrap ((((List.length p1):Nat):Int)+(1:Int))).toNat)))
 (asr (decide (((0+(List.length p1))+1)≤((IntKind.i64.wrap ((((List.length p1):Nat):Int)+(1:Int))).toNat)))
 (asr (decide ((List.length ((List.take (0+(0+(List.length p1))) (p1++(List.drop (0+(List.length p1)) (List.replicate ((IntKind.i64.wrap ((((List.length p1):Nat):Int)+(1:Int))).toNat) ((.agg [(.int .i64 (0)),(.int .u8 (0)),(.int .i64 (0)),(.int .i64 (0)),(.int .i64 (0)),(.int .i64 (0)),(.int .i64 (0)),(.int .i64 (0))]):PV)))))++(([(.agg [(.int .i64 p2),(.int .u8 (2:Int)),(.int .i64 p3),(.int .i64 p4),(.int .i64 p5),(.int .i64 p6),(.int .i64 a),(.int .i64 b)])]:Ls)++(List.drop ((0+(0+(List.length p1)))+1) (p1++(List.drop (0+(List.length p1)) (List.replicate ((IntKind.i64.wrap ((((List.length p1):Nat):Int)+(1:Int))).toNat) ((.agg [(.int .i64 (0)),(.int .u8 (0)),(.int .i64 (0)),(.int .i64 (0)),(.int .i64 (0)),(.int .i64 (0)),(.int .i64 (0)),(.int .i64 (0))]):PV))))))))=((IntKind.i64.wrap ((((List.length p1):Nat):Int)+(1:Int))).toNat)))
 (asr (decide ((0+((0+(List.length p1))+1))≤((IntKind.i64.wrap ((((List.length p1):Nat):Int)+(1:Int))).toNat)))
 (K e (List.take ((0+(List.length p1))+1) ((List.take (0+(0+(List.length p1))) (p1++(List.drop (0+(List.length p1)) (List.replicate ((IntKind.i64.wrap ((((List.length p1):Nat):Int)+(1:Int))).toNat) ((.agg [(.int .i64 (0)),(.int .u8 (0)),(.int .i64 (0)),(.int .i64 (0)),(.int .i64 (0)),(.int .i64 (0)),(.int .i64 (0)),(.int .i64 (0))]):PV)))))++(([(.agg [(.int .i64 p2),(.int .u8 (2:Int)),(.int .i64 p3),(.int .i64 p4),(.int .i64 p5),(.int .i64 p6),(.int .i64 a),(.int .i64 b)])]:Ls)++(List.drop ((0+(0+(List.length p1)))+1) (p1++(List.drop (0+(List.length p1)) (List.replicate ((IntKind.i64.wrap ((((List.length p1):Nat):Int)+(1:Int))).toNat) ((.agg [(.int .i64 (0)),(.int .u8 (0)),(.int .i64 (0)),(.int .i64 (0)),(.int .i64 (0)),(.int .i64 (0)),(.int .i64 (0)),(.int .i64 (0))]):PV)))))))) a b (0:Int))))))))))))))))))))))))))
def ye7:ya1:=yoF yc1 yc8 yg6 yeh
def yvR:Sg:=⟨pt28,Ls→Ls→Int→Int→Int→Prop,fun K=>(fun r0 r1 r2 r3 r4=>K (.tup [(.agg [(.data r0),(.data r1)]),(.agg [(.int .i64 r2),(.int .i64 r3)]),(.int .i64 r4)]))⟩
def yDO (e:Es) (a0:yau) (a1:yck) (a2:ycF) (a3:yaB):SE:=⟨(E e),yfU [(yeR,ymF.pw a0),(yc3,yts.pw a1),(yeK,yjz.pw a2),(ygQ,yip.pw a3)],yfV [(yhB,ylt)],lp0,fun _=>none⟩
theorem yDP (e:Es) (a0 a1 a2 a3):EqW (yDO e a0 a1 a2 a3) 6 yE9 yvR (yoF a0 a1 a2 a3):=fun _ _=>by kernel_rfl
theorem yvS (e:Es) (he:EG e):OkF (E e) (yvR.pw ye7) ymd:=okU he (yDP e _ _ _ _) (yaz (Sub.uni _) ⟨(yg3 e he),(yg5 e he),(yr2 e he),(ykW e he),trivial⟩ ⟨⟨by kernel_rfl,by kernel_rfl,rfl,fun az=>ybR (by kernel_rfl) az,he.num _ (by kernel_rfl),by kernel_rfl,(yat (by kernel_rfl))⟩,trivial⟩ he.ok) ynj.flat (yat (by kernel_rfl))
def yfM (a0:ygs) (p0 p1:Ls) (p2 p3 p4 p5 p6:Int) (K:Int→Int→Int→Prop):Prop :=
 (asr (decide ((0:Int)≤p2))
 (asr (decide (p2<(((List.length p0):Nat):Int)))
 (asr (conf zK (List.getD p0 (p2.toNat) .nils))
 (a0 (yaa (yab (List.getD p0 (p2.toNat) .nils) 0)) (ycL (yab (List.getD p0 (p2.toNat) .nils) 1)) (ycL (yab (List.getD p0 (p2.toNat) .nils) 2)) p3 p4 p5 p6 (fun a b c =>
 (K a b c))))))
def ygj:ycF:=yfM yfs
def yp0 (e:Es) (a0:ygs):SE:=sE (E e) [(yiL,ytg.pw a0)] lp0
theorem yp1 (e:Es) (a0):EqW (yp0 e a0) 6 yrs yjz (yfM a0):=fun _ _=>by kernel_rfl
theorem yp2 (e:Es) (he:EG e):OkF (E e) (yjz.pw ygj) yed:=okU he (yp1 e _) (yaz (Sub.uni _) ⟨(yqE e he),trivial⟩ trivial he.ok) ynj.flat (yat (by kernel_rfl))
def ymI (a0:yau) (a1:yck) (a2:ycF) (a3:yaB) (p0 p1:Ls) (p2 p3 p4 p5 p6:Int) (K:Ls→Ls→Int→Int→Int→Prop):Prop :=
 (a0 p0 p1 (fun c =>
 (cbr (c !=(0:Int))
 (K ([]:Ls) ([]:Ls) (0:Int) (0:Int) c)
 (a1 p0 p1 p2 (fun f =>
 (cbr (!f)
 (K ([]:Ls) ([]:Ls) (0:Int) (0:Int) (2:Int))
 (a2 p0 p1 p2 p3 p4 p5 p6 (fun a b d =>
 (cbr (d !=(0:Int))
 (K ([]:Ls) ([]:Ls) (0:Int) (0:Int) d)
 (cbr (decide ((((List.length p1):Nat):Int)≥(2000:Int)))
 (K ([]:Ls) ([]:Ls) (0:Int) (0:Int) (4:Int))
 (asr (decide ((0:Int)≤(IntKind.i64.wrap ((((List.length p1):Nat):Int)+(1:Int)))))
 (asr (decide ((((IntKind.i64.wrap ((((List.length p1):Nat):Int)+(1:Int))).toNat)+64)*(64+1)≤room))
 (a3 p0 (fun e =>
 (asr (ydw 8 p1)
 (asr (decide ((List.length (List.replicate ((IntKind.i64.wrap ((((List.length p1):Nat):Int)+(1:Int))).toNat) ((.agg [(.int .i64 (0)),(.int .u8 (0)),(.int .i64 (0)),(.int .i64 (0)),(.int .i64 (0)),(.int .i64 (0)),(.int .i64 (0)),(.int .i64 (0))]):PV)))=((IntKind.i64.wrap ((((List.length p1):Nat):Int)+(1:Int))).toNat)))
 (asr (decide (0≤((IntKind.i64.wrap ((((List.length p1):Nat):Int)+(1:Int))).toNat)))
 (cbr (List.isEmpty p1)
 (asr (decide ((List.length (List.replicate ((IntKind.i64.wrap ((((List.length p1):Nat):Int)+(1:Int))).toNat) ((.agg [(.int .i64 (0)),(.int .u8 (0)),(.int .i64 (0)),(.int .i64 (0)),(.int .i64 (0)),(.int .i64 (0)),(.int .i64 (0)),(.int .i64 (0))]):PV)))=((IntKind.i64.wrap ((((List.length p1):Nat):Int)+(1:Int))).toNat)))
 (asr (decide (0≤((IntKind.i64.wrap ((((List.length p1):Nat):Int)+(1:Int))).toNat)))
 (asr (decide (1≤((IntKind.i64.wrap ((((List.length p1):Nat):Int)+(1:Int))).toNat)))
 (asr (decide ((List.length (([(.agg [(.int .i64 p2),(.int .u8 (1:Int)),(.int .i64 p3),(.int .i64 p4),(.int .i64 p5),(.int .i64 p6),(.int .i64 a),(.int .i64 b)])]:Ls)++(List.drop 1 (List.replicate ((IntKind.i64.wrap ((((List.length p1):Nat):Int)+(1:Int))).toNat) ((.agg [(.int .i64 (0)),(.int .u8 (0)),(.int .i64 (0)),(.int .i64 (0)),(.int .i64 (0)),(.int .i64 (0)),(.int .i64 (0)),(.int .i64 (0))]):PV)))))=((IntKind.i64.wrap ((((List.length p1):Nat):Int)+(1:Int))).toNat)))
 (asr (decide (1≤((IntKind.i64.wrap ((((List.length p1):Nat):Int)+(1:Int))).toNat)))
 (K e (List.take 1 (([(.agg [(.int .i64 p2),(.int .u8 (1:Int)),(.int .i64 p3),(.int .i64 p4),(.int .i64 p5),(.int .i64 p6),(.int .i64 a),(.int .i64 b)])]:Ls)++(List.drop 1 (List.replicate ((IntKind.i64.wrap ((((List.length p1):Nat):Int)+(1:Int))).toNat) ((.agg [(.int .i64 (0)),(.int .u8 (0)),(.int .i64 (0)),(.int .i64 (0)),(.int .i64 (0)),(.int .i64 (0)),(.int .i64 (0)),(.int .i64 (0))]):PV))))) a b (0:Int)))))))
 (asr (decide ((0+(List.length p1))≤((IntKind.i64.wrap ((((List.length p1):Nat):Int)+(1:Int))).toNat)))
 (asr (decide ((List.length (p1++(List.drop (0+(List.length p1)) (List.replicate ((IntKind.i64.wrap ((((List.length p1):Nat):Int)+(1:Int))).toNat) ((.agg [(.int .i64 (0)),(.int .u8 (0)),(.int .i64 (0)),(.int .i64 (0)),(.int .i64 (0)),(.int .i64 (0)),(.int .i64 (0)),(.int .i64 (0))]):PV)))))=((IntKind.i64.wrap ((((List.length p1):Nat):Int)+(1:Int))).toNat)))
 (asr (decide ((0+(0+(List.length p1)))≤((IntKind.i64.wrap ((((List.length p1):Nat):Int)+(1:Int))).toNat)))
 (asr (decide (((0+(List.length p1))+1)≤((IntKind.i64.wrap ((((List.length p1):Nat):Int)+(1:Int))).toNat)))
 (asr (decide ((List.length ((List.take (0+(0+(List.length p1))) (p1++(List.drop (0+(List.length p1)) (List.replicate ((IntKind.i64.wrap ((((List.length p1):Nat):Int)+(1:Int))).toNat) ((.agg [(.int .i64 (0)),(.int .u8 (0)),(.int .i64 (0)),(.int .i64 (0)),(.int .i64 (0)),(.int .i64 (0)),(.int .i64 (0)),(.int .i64 (0))]):PV)))))++(([(.agg [(.int .i64 p2),(.int .u8 (1:Int)),(.int .i64 p3),(.int .i64 p4),(.int .i64 p5),(.int .i64 p6),(.int .i64 a),(.int .i64 b)])]:Ls)++(List.drop ((0+(0+(List.length p1)))+1) (p1++(List.drop (0+(List.length p1)) (List.replicate ((IntKind.i64.wrap ((((List.length p1):Nat):Int)+(1:Int))).toNat) ((.agg [(.int .i64 (0)),(.int .u8 (0)),(.int .i64 (0)),(.int .i64 (0)),(.int .i64 (0)),(.int .i64 (0)),(.int .i64 (0)),(.int .i64 (0))]):PV))))))))=((IntKind.i64.wrap ((((List.length p1):Nat):Int)+(1:Int))).toNat)))
 (asr (decide ((0+((0+(List.length p1))+1))≤((IntKind.i64.wrap ((((List.length p1):Nat):Int)+(1:Int))).toNat)))
 (K e (List.take ((0+(List.length p1))+1) ((List.take (0+(0+(List.length p1))) (p1++(List.drop (0+(List.length p1)) (List.replicate ((IntKind.i64.wrap ((((List.length p1):Nat):Int)+(1:Int))).toNat) ((.agg [(.int .i64 (0)),(.int .u8 (0)),(.int .i64 (0)),(.int .i64 (0)),(.int .i64 (0)),(.int .i64 (0)),(.int .i64 (0)),(.int .i64 (0))]):PV)))))++(([(.agg [(.int .i64 p2),(.int .u8 (1:Int)),(.int .i64 p3),(.int .i64 p4),(.int .i64 p5),(.int .i64 p6),(.int .i64 a),(.int .i64 b)])]:Ls)++(List.drop ((0+(0+(List.length p1)))+1) (p1++(List.drop (0+(List.length p1)) (List.replicate ((IntKind.i64.wrap ((((List.length p1):Nat):Int)+(1:Int))).toNat) ((.agg [(.int .i64 (0)),(.int .u8 (0)),(.int .i64 (0)),(.int .i64 (0)),(.int .i64 (0)),(.int .i64 (0)),(.int .i64 (0)),(.int .i64 (0))]):PV)))))))) a b (0:Int))))))))))))))))))))))))))
def yam:ya1:=ymI yc1 yc8 ygj yeh
def yBZ (e:Es) (a0:yau) (a1:yck) (a2:ycF) (a3:yaB):SE:=⟨(E e),yfU [(yeR,ymF.pw a0),(yc3,yts.pw a1),(yed,yjz.pw a2),(ygQ,yip.pw a3)],yfV [(yhB,ylt)],lp0,fun _=>none⟩
theorem yB0 (e:Es) (a0 a1 a2 a3):EqW (yBZ e a0 a1 a2 a3) 6 yDH yvR (ymI a0 a1 a2 a3):=fun _ _=>by kernel_rfl
theorem yg7 (e:Es) (he:EG e):OkF (E e) (yvR.pw yam) yeW:=okU he (yB0 e _ _ _ _) (yaz (Sub.uni _) ⟨(yg3 e he),(yg5 e he),(yp2 e he),(ykW e he),trivial⟩ ⟨⟨by kernel_rfl,by kernel_rfl,rfl,fun az=>ybR (by kernel_rfl) az,he.num _ (by kernel_rfl),by kernel_rfl,(yat (by kernel_rfl))⟩,trivial⟩ he.ok) ynj.flat (yat (by kernel_rfl))
set_option linter.unusedVariables false
theorem yzO (p0:Ls) (p1:Ls) (r0:Int) (h:∀ K:Int→Prop,K r0→yc1 p0 p1 K) (K:Int→Prop):yc1 p0 p1 K=K r0 :=
 propext ⟨fun k=>detC (yg3 [] ya8) (az:=[(.agg [(.data p0),(.data p1)])]) (x:=(.int .i64 r0)) (fun K' k'=>h (fun r0=>K' (.int .i64 r0)) k') (K:=fun x=>match x with | (.int .i64 r0)=>K r0 | _=>False) k,h K⟩
theorem yyw (p0:Ls) (r0:Ls) (h:∀ K:Ls→Prop,K r0→yeh p0 K) (K:Ls→Prop):yeh p0 K=K r0 :=
 propext ⟨fun k=>detC (ykW [] ya8) (az:=[(.data p0)]) (x:=(.data r0)) (fun K' k'=>h (fun r0=>K' (.data r0)) k') (K:=fun x=>match x with | (.data r0)=>K r0 | _=>False) k,h K⟩
theorem yB1 (p0:Ls) (p1:Ls) (p2:Int) (p3:Int) (p4:Int) (p5:Int) (p6:Int) (r0:Ls) (r1:Ls) (r2:Int) (r3:Int) (r4:Int) (h:∀ K:Ls→Ls→Int→Int→Int→Prop,K r0 r1 r2 r3 r4→ye7 p0 p1 p2 p3 p4 p5 p6 K) (K:Ls→Ls→Int→Int→Int→Prop):ye7 p0 p1 p2 p3 p4 p5 p6 K=K r0 r1 r2 r3 r4 :=
 propext ⟨fun k=>detC (yvS [] ya8) (az:=[(.agg [(.data p0),(.data p1)]),(.int .i64 p2),(.agg [(.int .i64 p3),(.int .i64 p4)]),(.agg [(.int .i64 p5),(.int .i64 p6)])]) (x:=(.tup [(.agg [(.data r0),(.data r1)]),(.agg [(.int .i64 r2),(.int .i64 r3)]),(.int .i64 r4)])) (fun K' k'=>h (fun r0 r1 r2 r3 r4=>K' (.tup [(.agg [(.data r0),(.data r1)]),(.agg [(.int .i64 r2),(.int .i64 r3)]),(.int .i64 r4)])) k') (K:=fun x=>match x with | (.tup [(.agg [(.data r0),(.data r1)]),(.agg [(.int .i64 r2),(.int .i64 r3)]),(.int .i64 r4)])=>K r0 r1 r2 r3 r4 | _=>False) k,h K⟩
theorem yzP (p0:Ls) (p1:Ls) (p2:Int) (p3:Int) (p4:Int) (p5:Int) (p6:Int) (r0:Ls) (r1:Ls) (r2:Int) (r3:Int) (r4:Int) (h:∀ K:Ls→Ls→Int→Int→Int→Prop,K r0 r1 r2 r3 r4→yam p0 p1 p2 p3 p4 p5 p6 K) (K:Ls→Ls→Int→Int→Int→Prop):yam p0 p1 p2 p3 p4 p5 p6 K=K r0 r1 r2 r3 r4 :=
 propext ⟨fun k=>detC (yg7 [] ya8) (az:=[(.agg [(.data p0),(.data p1)]),(.int .i64 p2),(.agg [(.int .i64 p3),(.int .i64 p4)]),(.agg [(.int .i64 p5),(.int .i64 p6)])]) (x:=(.tup [(.agg [(.data r0),(.data r1)]),(.agg [(.int .i64 r2),(.int .i64 r3)]),(.int .i64 r4)])) (fun K' k'=>h (fun r0 r1 r2 r3 r4=>K' (.tup [(.agg [(.data r0),(.data r1)]),(.agg [(.int .i64 r2),(.int .i64 r3)]),(.int .i64 r4)])) k') (K:=fun x=>match x with | (.tup [(.agg [(.data r0),(.data r1)]),(.agg [(.int .i64 r2),(.int .i64 r3)]),(.int .i64 r4)])=>K r0 r1 r2 r3 r4 | _=>False) k,h K⟩
def yAz (p0:Int) (K:Int→Int→Prop):Prop :=
 (K p0 (1:Int))
def yDQ:yaH:=yAz
def yHK (e:Es):SE:=sE (E e) [] lp0
theorem yHL (e:Es):EqW (yHK e) 6 yIZ yhY yAz:=fun _ _=>by kernel_rfl
theorem yHM (e:Es) (he:EG e):OkF (E e) (yhY.pw yDQ) ysT:=okU he (yHL e) (yaz (Sub.uni _) trivial trivial he.ok) ynj.flat (yat (by kernel_rfl))
def yr4 (p0:Int) (K:Int→Prop):Prop :=
 (cbr (decide (p0<(0:Int)))
 (K (IntKind.u64.wrap ((IntKind.u64.wrap (IntKind.i64.wrap ((0:Int)-(IntKind.i64.wrap (p0+(1:Int))))))+(1:Int))))
 (K (IntKind.u64.wrap p0)))
def ylB:yaP:=yr4
def yFs (e:Es):SE:=sE (E e) [] lp0
theorem yFt (e:Es):EqW (yFs e) 6 yHI yqr yr4:=fun _ _=>by kernel_rfl
theorem yyx (e:Es) (he:EG e):OkF (E e) (yqr.pw ylB) ylq:=okU he (yFt e) (yaz (Sub.uni _) trivial trivial he.ok) ynj.flat (yat (by kernel_rfl))
def yfY (x0:Int→Int→Bool→Prop):Nat→Int→Int→Prop
 | 0,_,_=>False
 | n+1,i0,i1 =>
 (cbr (i1 !=(0:Int))
 (asr (!(decide (i1=(0:Int))))
 (yfY x0 n i1 (Int.tmod i0 i1)))
 (x0 i0 i1 false))
def yr5 (p0 p1:Int) (K:Int→Prop):Prop :=
 (∃ n:Nat,yfY
 (fun a b c=>(K a))
 n p0 p1)
def yiY:yaK:=yr5
def yzQ (Q:Qx):Int→Int→Bool→Prop:=(fun i0 i1 b2=>Q (.exit 0) [(0,.v (.int .u64 i0)),(1,.v (.int .u64 i1)),(6,.v (.bool b2))] [])
def ytx (Q:Qx):List St:=[⟨pt5,yfY (yzQ Q)⟩]
def yyy:LP:=lpS [(16774900,ytx)]
def yr6 (e:Es):SE:=sE (E e) [] (yyy)
theorem yvT (e:Es) (he:EG e):SEOk (Uni (E e)) (yr6 e):=yaz (Sub.uni _) trivial trivial he.ok
theorem yyz (e:Es):ybS (yr6 e) 5 a yrC false (ytx):=fun _=>⟨fun _=>by kernel_rfl,fun _ _=>by kernel_rfl,trivial⟩
theorem yyA (e:Es) (he:EG e):LpT (Uni (E e)) (yyy) [] 16774900 (.loop 16774900 yrC):=fun _ _ _=>yn7.st (Sub.uni _) (yaU (yvT e he) 5) (YOk.no _ _) (yat (by kernel_rfl)) (yyz e _)
theorem yFu (e:Es):EqW (yr6 e) 6 yAw ys5 yr5:=fun _ _=>by kernel_rfl
theorem yyB (e:Es) (he:EG e):OkF (E e) (ys5.pw yiY) ypz:=okU he (yFu e) (yvT e he) ynj.flat (yba (l:=[(16774900,.loop 16774900 yrC)]) ⟨yyA e he,trivial⟩ (by kernel_rfl))
def ymJ (a0:yaP) (a1:yaK) (p0 p1:Int) (K:Int→Prop):Prop :=
 (cbr (decide (p1<(1:Int)))
 (K (8:Int))
 (cbr (decide (p1>(1000000000000000000:Int)))
 (K (8:Int))
 (cbr (decide (p0<(-1000000000000000000:Int)))
 (K (8:Int))
 (cbr (decide (p0>(1000000000000000000:Int)))
 (K (8:Int))
 (a0 p0 (fun a =>
 (a1 a (IntKind.u64.wrap p1) (fun b =>
 (cbr (b !=(1:Int))
 (K (8:Int))
 (K (0:Int)))))))))))
def yks:yaK:=ymJ ylB yiY
def yB2 (e:Es) (a0:yaP) (a1:yaK):SE:=sE (E e) [(ylq,yqr.pw a0),(ypz,ys5.pw a1)] lp0
theorem yB3 (e:Es) (a0 a1):EqW (yB2 e a0 a1) 6 yDJ yoj (ymJ a0 a1):=fun _ _=>by kernel_rfl
theorem yB4 (e:Es) (he:EG e):OkF (E e) (yoj.pw yks) yki:=okU he (yB3 e _ _) (yaz (Sub.uni _) ⟨(yyx e he),(yyB e he),trivial⟩ trivial he.ok) ynj.flat (yat (by kernel_rfl))
def yoG (a0:yaK) (p0 p1 p2 p3:Int) (K:Int→Prop):Prop :=
 (a0 p0 p1 (fun a =>
 (cbr (a !=(0:Int))
 (a0 p0 p1 (fun b =>
 (K b)))
 (a0 p2 p3 (fun c =>
 (K c))))))
def ymK:yaR:=yoG yks
def yDR (e:Es) (a0:yaK):SE:=sE (E e) [(yki,yoj.pw a0)] lp0
theorem yDS (e:Es) (a0):EqW (yDR e a0) 6 yFa yjt (yoG a0):=fun _ _=>by kernel_rfl
theorem yDT (e:Es) (he:EG e):OkF (E e) (yjt.pw ymK) ymg:=okU he (yDS e _) (yaz (Sub.uni _) ⟨(yB4 e he),trivial⟩ trivial he.ok) ynj.flat (yat (by kernel_rfl))
def ymL (p0 p1:Int) (K:Int→Int→Prop):Prop :=
 (K (IntKind.u64.wrap ((IntKind.u64.wrap ((IntKind.u64.wrap ((Int.fdiv p0 4294967296)*(Int.fdiv p1 4294967296)))+(Int.fdiv (IntKind.u64.wrap ((Int.fdiv p0 4294967296)*(IntKind.u64.wrap (BitVec.ofInt IntKind.u64.bits p1&&&BitVec.ofInt IntKind.u64.bits (4294967295:Int)).toNat))) 4294967296)))+(Int.fdiv (IntKind.u64.wrap ((IntKind.u64.wrap ((IntKind.u64.wrap (BitVec.ofInt IntKind.u64.bits (IntKind.u64.wrap ((Int.fdiv p0 4294967296)*(IntKind.u64.wrap (BitVec.ofInt IntKind.u64.bits p1&&&BitVec.ofInt IntKind.u64.bits (4294967295:Int)).toNat)))&&&BitVec.ofInt IntKind.u64.bits (4294967295:Int)).toNat)+(IntKind.u64.wrap ((IntKind.u64.wrap (BitVec.ofInt IntKind.u64.bits p0&&&BitVec.ofInt IntKind.u64.bits (4294967295:Int)).toNat)*(Int.fdiv p1 4294967296)))))+(Int.fdiv (IntKind.u64.wrap ((IntKind.u64.wrap (BitVec.ofInt IntKind.u64.bits p0&&&BitVec.ofInt IntKind.u64.bits (4294967295:Int)).toNat)*(IntKind.u64.wrap (BitVec.ofInt IntKind.u64.bits p1&&&BitVec.ofInt IntKind.u64.bits (4294967295:Int)).toNat))) 4294967296))) 4294967296))) (IntKind.u64.wrap (BitVec.ofInt IntKind.u64.bits (IntKind.u64.wrap ((IntKind.u64.wrap ((IntKind.u64.wrap ((IntKind.u64.wrap (BitVec.ofInt IntKind.u64.bits (IntKind.u64.wrap ((Int.fdiv p0 4294967296)*(IntKind.u64.wrap (BitVec.ofInt IntKind.u64.bits p1&&&BitVec.ofInt IntKind.u64.bits (4294967295:Int)).toNat)))&&&BitVec.ofInt IntKind.u64.bits (4294967295:Int)).toNat)+(IntKind.u64.wrap ((IntKind.u64.wrap (BitVec.ofInt IntKind.u64.bits p0&&&BitVec.ofInt IntKind.u64.bits (4294967295:Int)).toNat)*(Int.fdiv p1 4294967296)))))+(Int.fdiv (IntKind.u64.wrap ((IntKind.u64.wrap (BitVec.ofInt IntKind.u64.bits p0&&&BitVec.ofInt IntKind.u64.bits (4294967295:Int)).toNat)*(IntKind.u64.wrap (BitVec.ofInt IntKind.u64.bits p1&&&BitVec.ofInt IntKind.u64.bits (4294967295:Int)).toNat))) 4294967296)))*(4294967296:Int)))|||BitVec.ofInt IntKind.u64.bits (IntKind.u64.wrap (BitVec.ofInt IntKind.u64.bits (IntKind.u64.wrap ((IntKind.u64.wrap (BitVec.ofInt IntKind.u64.bits p0&&&BitVec.ofInt IntKind.u64.bits (4294967295:Int)).toNat)*(IntKind.u64.wrap (BitVec.ofInt IntKind.u64.bits p1&&&BitVec.ofInt IntKind.u64.bits (4294967295:Int)).toNat)))&&&BitVec.ofInt IntKind.u64.bits (4294967295:Int)).toNat)).toNat))
def yia:yer:=ymL
def yB5:Sg:=⟨pt4,Int→Int→Prop,fun K=>(fun r0 r1=>K (.agg [(.int .u64 r0),(.int .u64 r1)]))⟩
def yB6 (e:Es):SE:=sE (E e) [] lp0
theorem yB7 (e:Es):EqW (yB6 e) 6 yDK yB5 ymL:=fun _ _=>by kernel_rfl
theorem yB8 (e:Es) (he:EG e):OkF (E e) (yB5.pw yia) ykj:=okU he (yB7 e) (yaz (Sub.uni _) trivial trivial he.ok) ynj.flat (yat (by kernel_rfl))
def yoH (p0 p1 p2 p3:Int) (K:Bool→Prop):Prop :=
 (cbr (decide (p0<p2))
 (K true)
 (cbr (p0 == p2)
 (K (decide (p1<p3)))
 (K false)))
def ymM:yap:=yoH
def yDU:Sg:=⟨(lC (vA pt4) (lC (vA pt4) lN)),Bool→Prop,fun K=>(fun r0=>K (.bool r0))⟩
def yDV (e:Es):SE:=sE (E e) [] lp0
theorem yDW (e:Es):EqW (yDV e) 6 yFb yDU yoH:=fun _ _=>by kernel_rfl
theorem yDX (e:Es) (he:EG e):OkF (E e) (yDU.pw ymM) ymh:=okU he (yDW e) (yaz (Sub.uni _) trivial trivial he.ok) ynj.flat (yat (by kernel_rfl))
def yoI (a0:yaP) (a1:yer) (a2:yap) (p0 p1 p2 p3:Int) (K:Bool→Prop):Prop :=
 (cbr ((decide (p0<(0:Int))) !=(decide (p2<(0:Int))))
 (K (decide (p0<(0:Int))))
 (a0 p0 (fun e =>
 (a1 e (IntKind.u64.wrap p3) (fun a b =>
 (a0 p2 (fun f =>
 (a1 f (IntKind.u64.wrap p1) (fun c d =>
 (cbr (decide (p0<(0:Int)))
 (a2 c d a b (fun g =>
 (K g)))
 (a2 a b c d (fun h =>
 (K h)))))))))))))
def yaN:yap:=yoI ylB yia ymM
def yDY (e:Es) (a0:yaP) (a1:yer) (a2:yap):SE:=sE (E e) [(ylq,yqr.pw a0),(ykj,yB5.pw a1),(ymh,yDU.pw a2)] lp0
theorem yDZ (e:Es) (a0 a1 a2):EqW (yDY e a0 a1 a2) 6 yFc ytf (yoI a0 a1 a2):=fun _ _=>by kernel_rfl
theorem yib (e:Es) (he:EG e):OkF (E e) (ytf.pw yaN) yeZ:=okU he (yDZ e _ _ _) (yaz (Sub.uni _) ⟨(yyx e he),(yB8 e he),(yDX e he),trivial⟩ trivial he.ok) ynj.flat (yat (by kernel_rfl))
set_option linter.unusedVariables false
theorem yD0 (p0:Int) (p1:Int) (r0:Int) (h:∀ K:Int→Prop,K r0→yiY p0 p1 K) (K:Int→Prop):yiY p0 p1 K=K r0 :=
 propext ⟨fun k=>detC (yyB [] ya8) (az:=[(.int .u64 p0),(.int .u64 p1)]) (x:=(.int .u64 r0)) (fun K' k'=>h (fun r0=>K' (.int .u64 r0)) k') (K:=fun x=>match x with | (.int .u64 r0)=>K r0 | _=>False) k,h K⟩
abbrev ygv:Type:=Int→Ls→Ls→(Bool→Prop)→Prop
def ymN (p0:Int) (p1 p2:Ls) (K:Bool→Prop):Prop :=
 (cbr (decide ((((List.length p1):Nat):Int)>(60:Int)))
 (K true)
 (K (decide ((((List.length p2):Nat):Int)>(60:Int)))))
def ye8:ygv:=ymN
def yB9:Sg:=⟨pt15,Bool→Prop,fun K=>(fun r0=>K (.bool r0))⟩
def yCa (e:Es):SE:=sE (E e) [] lp0
theorem yCb (e:Es):EqW (yCa e) 6 yDx yB9 ymN:=fun _ _=>by kernel_rfl
theorem yCc (e:Es) (he:EG e):OkF (E e) (yB9.pw ye8) yj9:=okU he (yCb e) (yaz (Sub.uni _) trivial trivial he.ok) ynj.flat (yat (by kernel_rfl))
def ycO (x0:Int→Prop) (x1:Int→Ls→Ls→Bool→Int→Bool→Prop):Nat→Int→Ls→Ls→Bool→Int→Prop
 | 0,_,_,_,_,_=>False
 | n+1,i0,l1,l2,b3,i4 =>
 (cbr (decide (i4<(((List.length l2):Nat):Int)))
 (asr (decide ((0:Int)≤(IntKind.i64.wrap (i4+(1:Int)))))
 (asr (decide ((IntKind.i64.wrap (i4+(1:Int)))<(((List.length l1):Nat):Int)))
 (asr (conf zI (List.getD l1 ((IntKind.i64.wrap (i4+(1:Int))).toNat) .nils))
 (asr (decide ((0:Int)≤i4))
 (asr (decide (i4<(((List.length l1):Nat):Int)))
 (asr (conf zI (List.getD l1 (i4.toNat) .nils))
 (cbr (decide ((yaa (List.getD l1 ((IntKind.i64.wrap (i4+(1:Int))).toNat) .nils))≤(yaa (List.getD l1 (i4.toNat) .nils))))
 (x0 (8:Int))
 (asr (decide ((0:Int)≤i4))
 (asr (decide (i4<(((List.length l2):Nat):Int)))
 (asr (conf zI (List.getD l2 (i4.toNat) .nils))
 (cbr (decide ((yaa (List.getD l2 (i4.toNat) .nils))<(0:Int)))
 (x0 (8:Int))
 (asr (decide ((0:Int)≤i4))
 (asr (decide (i4<(((List.length l2):Nat):Int)))
 (asr (conf zI (List.getD l2 (i4.toNat) .nils))
 (cbr (decide ((yaa (List.getD l2 (i4.toNat) .nils))>(12:Int)))
 (x0 (8:Int))
 (cbr b3
 (ycO x0 x1 n i0 l1 l2 true (IntKind.i64.wrap (i4+(1:Int))))
 (asr (decide ((0:Int)≤i4))
 (asr (decide (i4<(((List.length l2):Nat):Int)))
 (asr (conf zI (List.getD l2 (i4.toNat) .nils))
 (ycO x0 x1 n i0 l1 l2 (decide ((yaa (List.getD l2 (i4.toNat) .nils))>(0:Int))) (IntKind.i64.wrap (i4+(1:Int)))))))))))))))))))))))
 (x1 i0 l1 l2 b3 i4 false))
def ymO (p0:Int) (p1 p2:Ls) (K:Int→Prop):Prop :=
 (cbr (decide (p0>(1000:Int)))
 (K (4:Int))
 (cbr (decide ((((List.length p1):Nat):Int)>(40:Int)))
 (K (4:Int))
 (cbr (decide (p0<(1:Int)))
 (K (8:Int))
 (cbr (decide ((((List.length p1):Nat):Int)<(2:Int)))
 (K (8:Int))
 (cbr ((((List.length p2):Nat):Int) !=(IntKind.i64.wrap ((((List.length p1):Nat):Int)-(1:Int))))
 (K (8:Int))
 (asr (decide ((0:Int)<(((List.length p1):Nat):Int)))
 (asr (conf zI (List.getD p1 0 .nils))
 (cbr ((yaa (List.getD p1 0 .nils)) !=(0:Int))
 (K (8:Int))
 (asr (decide ((0:Int)≤(IntKind.i64.wrap ((((List.length p1):Nat):Int)-(1:Int)))))
 (asr (decide ((IntKind.i64.wrap ((((List.length p1):Nat):Int)-(1:Int)))<(((List.length p1):Nat):Int)))
 (asr (conf zI (List.getD p1 ((IntKind.i64.wrap ((((List.length p1):Nat):Int)-(1:Int))).toNat) .nils))
 (cbr ((yaa (List.getD p1 ((IntKind.i64.wrap ((((List.length p1):Nat):Int)-(1:Int))).toNat) .nils)) != p0)
 (K (8:Int))
 (∃ n:Nat,ycO
 (fun a=>(K a))
 (fun c d e b f g=>(cbr (!b)
 (K (8:Int))
 (K (0:Int))))
 n p0 p1 p2 false (0:Int))))))))))))))
def ycc:yaG:=ymO
def ywu (Q:Qx):Int→Prop:=(fun i0=>Q .ret [(2,.v (.int .i64 i0))] [])
def ywv (Q:Qx):Int→Ls→Ls→Bool→Int→Bool→Prop:=(fun i0 l1 l2 b3 i4 b5=>Q (.exit 0) [(1,.box (.agg [(.int .i64 i0),(.data l1),(.data l2)])),(3,.v (.bool b3)),(4,.v (.int .i64 i4)),(57,.v (.bool b5))] [])
def yoJ (Q:Qx):List St:=[⟨(pS hN (fX 1 pt14 (fV 3 vB (fV 4 pt0 fN))) fN),ycO (ywu Q) (ywv Q)⟩]
def yty:LP:=lpS [(94526800,yoJ)]
def ymP (e:Es):SE:=sE (E e) [] (yty)
theorem yqI (e:Es) (he:EG e):SEOk (Uni (E e)) (ymP e):=yaz (Sub.uni _) trivial trivial he.ok
theorem yu0 (e:Es):ybS (ymP e) 5 a yrb false (yoJ):=fun _=>⟨fun _=>by kernel_rfl,fun _ _=>by kernel_rfl,trivial⟩
theorem yu1 (e:Es) (he:EG e):LpT (Uni (E e)) (yty) [] 94526800 (.loop 94526800 yrb):=fun _ _ _=>yn7.st (Sub.uni _) (yaU (yqI e he) 5) (YOk.no _ _) (yat (by kernel_rfl)) (yu0 e _)
theorem yCd (e:Es):EqW (ymP e) 6 yvM yqy ymO:=fun _ _=>by kernel_rfl
theorem ytz (e:Es) (he:EG e):OkF (E e) (yqy.pw ycc) yka:=okU he (yCd e) (yqI e he) ynj.flat (yba (l:=[(94526800,.loop 94526800 yrb)]) ⟨yu1 e he,trivial⟩ (by kernel_rfl))
set_option linter.unusedVariables false
theorem yzR (p0:Int) (p1:Ls) (p2:Ls) (r0:Int) (h:∀ K:Int→Prop,K r0→ycc p0 p1 p2 K) (K:Int→Prop):ycc p0 p1 p2 K=K r0 :=
 propext ⟨fun k=>detC (ytz [] ya8) (az:=[(.agg [(.int .i64 p0),(.data p1),(.data p2)])]) (x:=(.int .i64 r0)) (fun K' k'=>h (fun r0=>K' (.int .i64 r0)) k') (K:=fun x=>match x with | (.int .i64 r0)=>K r0 | _=>False) k,h K⟩
abbrev ybl:Type:=Ls→(Bool→Prop)→Prop
def ybN (a0:ygv) (x0:Bool→Prop) (x1:Ls→Int→Bool→Prop):Nat→Ls→Int→Prop
 | 0,_,_=>False
 | n+1,l0,i1 =>
 (cbr (decide (i1<(((List.length l0):Nat):Int)))
 (asr (decide ((0:Int)≤i1))
 (asr (decide (i1<(((List.length l0):Nat):Int)))
 (asr (conf zK (List.getD l0 (i1.toNat) .nils))
 (a0 (yaa (yab (List.getD l0 (i1.toNat) .nils) 0)) (ycL (yab (List.getD l0 (i1.toNat) .nils) 1)) (ycL (yab (List.getD l0 (i1.toNat) .nils) 2)) (fun a =>
 (cbr a
 (x0 true)
 (ybN a0 x0 x1 n l0 (IntKind.i64.wrap (i1+(1:Int))))))))))
 (x1 l0 i1 false))
def yg8 (a0:ygv) (p0:Ls) (K:Bool→Prop):Prop :=
 (∃ n:Nat,ybN a0
 (fun a=>(K a))
 (fun b c d=>(K (decide ((((List.length b):Nat):Int)>(10:Int)))))
 n p0 (0:Int))
def yda:ybl:=yg8 ye8
def yg9:Sg:=⟨pt9,Bool→Prop,fun K=>(fun r0=>K (.bool r0))⟩
def yoK (Q:Qx):Bool→Prop:=(fun b0=>Q .ret [(2,.v (.bool b0))] [])
def yoL (Q:Qx):Ls→Int→Bool→Prop:=(fun l0 i1 b2=>Q (.exit 0) [(0,.v (.data l0)),(3,.v (.int .i64 i1)),(7,.v (.bool b2))] [])
def pt29:Pat Sta:=pS hN (fV 0 vD (fV 3 pt0 fN)) fN
def yiA (a0:ygv) (Q:Qx):List St:=[⟨pt29,ybN a0 (yoK Q) (yoL Q)⟩]
def ykt (a0:ygv):LP:=lpS [(4277600,yiA a0)]
def yha (e:Es) (a0:ygv):SE:=sE (E e) [(yj9,yB9.pw a0)] (ykt a0)
theorem yjA (e:Es) (he:EG e):SEOk (Uni (E e)) (yha e ye8):=yaz (Sub.uni _) ⟨(yCc e he),trivial⟩ trivial he.ok
theorem ynN (e:Es) (a0):ybS (yha e a0) 5 a yut false (yiA a0):=fun _=>⟨fun _=>by kernel_rfl,fun _ _=>by kernel_rfl,trivial⟩
theorem ynO (e:Es) (he:EG e):LpT (Uni (E e)) (ykt ye8) [] 4277600 (.loop 4277600 yut):=fun _ _ _=>yn7.st (Sub.uni _) (yaU (yjA e he) 5) (YOk.no _ _) (yat (by kernel_rfl)) (ynN e _ _)
theorem ytA (e:Es) (a0):EqW (yha e a0) 6 ylr yg9 (yg8 a0):=fun _ _=>by kernel_rfl
theorem yku (e:Es) (he:EG e):OkF (E e) (yg9.pw yda) yfn:=okU he (ytA e _) (yjA e he) ynj.flat (yba (l:=[(4277600,.loop 4277600 yut)]) ⟨ynO e he,trivial⟩ (by kernel_rfl))
def ydm (a0:yaG) (a:Int→Prop) (b:Ls→Ls→Int→Bool→Prop):Nat→Ls→Ls→Int→Prop
 | 0,_,_,_=>False
 | c+1,l0,l1,i2 =>
 (cbr (decide (i2<(((List.length l0):Nat):Int)))
 (asr (decide ((0:Int)≤i2))
 (asr (decide (i2<(((List.length l0):Nat):Int)))
 (asr (conf zK (List.getD l0 (i2.toNat) .nils))
 (a0 (yaa (yab (List.getD l0 (i2.toNat) .nils) 0)) (ycL (yab (List.getD l0 (i2.toNat) .nils) 1)) (ycL (yab (List.getD l0 (i2.toNat) .nils) 2)) (fun d =>
 (cbr (d !=(0:Int))
 (asr (decide ((0:Int)≤i2))
 (asr (decide (i2<(((List.length l0):Nat):Int)))
 (asr (conf zK (List.getD l0 (i2.toNat) .nils))
 (a0 (yaa (yab (List.getD l0 (i2.toNat) .nils) 0)) (ycL (yab (List.getD l0 (i2.toNat) .nils) 1)) (ycL (yab (List.getD l0 (i2.toNat) .nils) 2)) (fun e =>
 (a e))))))
 (ydm a0 a b c l0 l1 (IntKind.i64.wrap (i2+(1:Int))))))))))
 (b l0 l1 i2 false))
def ycP (a0:yaG) (a:Int→Prop) (b:Ls→Ls→Int→Bool→Prop):Nat→Ls→Ls→Int→Prop
 | 0,_,_,_=>False
 | c+1,l0,l1,i2 =>
 (cbr (decide (i2<(((List.length l0):Nat):Int)))
 (asr (decide ((0:Int)≤i2))
 (asr (decide (i2<(((List.length l0):Nat):Int)))
 (asr (conf zK (List.getD l0 (i2.toNat) .nils))
 (asr (decide ((0:Int)<(((List.length l0):Nat):Int)))
 (asr (conf zK (List.getD l0 0 .nils))
 (cbr ((yaa (yab (List.getD l0 (i2.toNat) .nils) 0)) !=(yaa (yab (List.getD l0 0 .nils) 0)))
 (a (8:Int))
 (ycP a0 a b c l0 l1 (IntKind.i64.wrap (i2+(1:Int))))))))))
 (b l0 l1 i2 false))
def ymQ (a0:yaG) (p0 p1:Ls) (K:Int→Prop):Prop :=
 (cbr (decide ((((List.length p0):Nat):Int)>(6:Int)))
 (K (4:Int))
 (cbr (decide ((((List.length p1):Nat):Int)>(2000:Int)))
 (K (4:Int))
 (cbr ((((List.length p0):Nat):Int) ==(0:Int))
 (K (8:Int))
 (∃ a:Nat,ydm a0
 (fun b=>(K b))
 (fun c d g h=>(∃ e:Nat,ycP a0
 (fun f=>(K f))
 (fun i j k l=>(K (0:Int)))
 e c d (0:Int)))
 a p0 p1 (0:Int)))))
def ye9:yau:=ymQ ycc
def yww (Q:Qx):Int→Prop:=(fun i0=>Q .ret [(2,.v (.int .i64 i0))] [])
def ywx (Q:Qx):Ls→Ls→Int→Bool→Prop:=(fun l0 l1 i2 b3=>Q (.exit 0) [(1,.box (.agg [(.data l0),(.data l1)])),(3,.v (.int .i64 i2)),(23,.v (.bool b3))] [])
def ywy (Q:Qx):Int→Prop:=(fun i0=>Q .ret [(2,.v (.int .i64 i0))] [])
def ywz (Q:Qx):Ls→Ls→Int→Bool→Prop:=(fun l0 l1 i2 b3=>Q (.exit 2) [(1,.box (.agg [(.data l0),(.data l1)])),(4,.v (.int .i64 i2)),(43,.v (.bool b3))] [])
def yoM (a0:yaG) (Q:Qx):List St:=[⟨(pS hN (fX 1 pt26 (fV 3 pt0 fN)) fN),ydm a0 (yww Q) (ywx Q)⟩]
def yoN (a0:yaG) (Q:Qx):List St:=[⟨(pS hN (fX 1 pt26 (fV 4 pt0 fN)) fN),ycP a0 (ywy Q) (ywz Q)⟩]
def ymR (a0:yaG):LP:=lpS [(6981300,yoM a0),(6981301,yoN a0)]
def yiR (e:Es) (a0:yaG):SE:=sE (E e) [(yka,yqy.pw a0)] (ymR a0)
theorem ykX (e:Es) (he:EG e):SEOk (Uni (E e)) (yiR e ycc):=yaz (Sub.uni _) ⟨(ytz e he),trivial⟩ trivial he.ok
theorem yu2 (e:Es) (a0):ybS (yiR e a0) 5 a yuu false (yoM a0):=fun _=>⟨fun _=>by kernel_rfl,fun _ _=>by kernel_rfl,trivial⟩
theorem yu3 (e:Es) (he:EG e):LpT (Uni (E e)) (ymR ycc) [] 6981300 (.loop 6981300 yuu):=fun _ _ _=>yn7.st (Sub.uni _) (yaU (ykX e he) 5) (YOk.no _ _) (yat (by kernel_rfl)) (yu2 e _ _)
theorem yu4 (e:Es) (a0):ybS (yiR e a0) 5 a yuv false (yoN a0):=fun _=>⟨fun _=>by kernel_rfl,fun _ _=>by kernel_rfl,trivial⟩
theorem yu5 (e:Es) (he:EG e):LpT (Uni (E e)) (ymR ycc) [] 6981301 (.loop 6981301 yuv):=fun _ _ _=>yn7.st (Sub.uni _) (yaU (ykX e he) 5) (YOk.no _ _) (yat (by kernel_rfl)) (yu4 e _ _)
theorem yCe (e:Es) (a0):EqW (yiR e a0) 6 yob ymF (ymQ a0):=fun _ _=>by kernel_rfl
theorem ytB (e:Es) (he:EG e):OkF (E e) (ymF.pw ye9) ykb:=okU he (yCe e _) (ykX e he) ynj.flat (yba (l:=[(6981300,.loop 6981300 yuu),(6981301,.loop 6981301 yuv)]) ⟨yu3 e he,yu5 e he,trivial⟩ (by kernel_rfl))
abbrev ya6:Type:=Ls→Ls→(Bool→Prop)→Prop
def ybI (x0:Bool→Prop) (x1:Ls→Ls→Int→Bool→Prop):Nat→Ls→Ls→Int→Prop
 | 0,_,_,_=>False
 | n+1,l0,l1,i2 =>
 (cbr (decide (i2<(((List.length l0):Nat):Int)))
 (asr (decide ((0:Int)≤i2))
 (asr (decide (i2<(((List.length l0):Nat):Int)))
 (asr (conf (.agg [.i .i64,.i .u8,.i .i64,.i .i64,.i .i64,.i .i64,.i .i64,.i .i64]) (List.getD l0 (i2.toNat) .nils))
 (asr (decide ((0:Int)≤i2))
 (asr (decide (i2<(((List.length l1):Nat):Int)))
 (asr (conf (.agg [.i .i64,.i .u8,.i .i64,.i .i64,.i .i64,.i .i64,.i .i64,.i .i64]) (List.getD l1 (i2.toNat) .nils))
 (cbr (!(((yaa (yab (List.getD l0 (i2.toNat) .nils) 0)) ==(yaa (yab (List.getD l1 (i2.toNat) .nils) 0)))&&(((yaa (yab (List.getD l0 (i2.toNat) .nils) 1)) ==(yaa (yab (List.getD l1 (i2.toNat) .nils) 1)))&&(((yaa (yab (List.getD l0 (i2.toNat) .nils) 2)) ==(yaa (yab (List.getD l1 (i2.toNat) .nils) 2)))&&(((yaa (yab (List.getD l0 (i2.toNat) .nils) 3)) ==(yaa (yab (List.getD l1 (i2.toNat) .nils) 3)))&&(((yaa (yab (List.getD l0 (i2.toNat) .nils) 4)) ==(yaa (yab (List.getD l1 (i2.toNat) .nils) 4)))&&(((yaa (yab (List.getD l0 (i2.toNat) .nils) 5)) ==(yaa (yab (List.getD l1 (i2.toNat) .nils) 5)))&&(((yaa (yab (List.getD l0 (i2.toNat) .nils) 6)) ==(yaa (yab (List.getD l1 (i2.toNat) .nils) 6)))&&(((yaa (yab (List.getD l0 (i2.toNat) .nils) 7)) ==(yaa (yab (List.getD l1 (i2.toNat) .nils) 7)))&&true)))))))))
 (x0 false)
 (ybI x0 x1 n l0 l1 (IntKind.i64.wrap (i2+(1:Int)))))))))))
 (x1 l0 l1 i2 false))
def yir (p0 p1:Ls) (K:Bool→Prop):Prop :=
 (cbr ((((List.length p0):Nat):Int) !=(((List.length p1):Nat):Int))
 (K false)
 (∃ n:Nat,ybI
 (fun a=>(K a))
 (fun b c d e=>(K true))
 n p0 p1 (0:Int)))
def ycx:ya6:=yir
def yny:Sg:=⟨pt13,Bool→Prop,fun K=>(fun r0=>K (.bool r0))⟩
def yr8 (Q:Qx):Bool→Prop:=(fun b0=>Q .ret [(4,.v (.bool b0))] [])
def yr9 (Q:Qx):Ls→Ls→Int→Bool→Prop:=(fun l0 l1 i2 b3=>Q (.exit 0) [(0,.v (.data l0)),(1,.v (.data l1)),(5,.v (.int .i64 i2)),(14,.v (.bool b3))] [])
def pt30:Pat Sta:=pS hN (fV 0 vD (fV 1 vD (fV 5 pt0 fN))) fN
def ykv (Q:Qx):List St:=[⟨pt30,ybI (yr8 Q) (yr9 Q)⟩]
def ynz:LP:=lpS [(11728400,ykv)]
def yis (e:Es):SE:=sE (E e) [] (ynz)
theorem ylC (e:Es) (he:EG e):SEOk (Uni (E e)) (yis e):=yaz (Sub.uni _) trivial trivial he.ok
theorem yp3 (e:Es):ybS (yis e) 5 a yrB false (ykv):=fun _=>⟨fun _=>by kernel_rfl,fun _ _=>by kernel_rfl,trivial⟩
theorem yp4 (e:Es) (he:EG e):LpT (Uni (E e)) (ynz) [] 11728400 (.loop 11728400 yrB):=fun _ _ _=>yn7.st (Sub.uni _) (yaU (ylC e he) 5) (YOk.no _ _) (yat (by kernel_rfl)) (yp3 e _)
theorem ywA (e:Es):EqW (yis e) 6 yoh yny yir:=fun _ _=>by kernel_rfl
theorem ynA (e:Es) (he:EG e):OkF (E e) (yny.pw ycx) ygW:=okU he (ywA e) (ylC e he) ynj.flat (yba (l:=[(11728400,.loop 11728400 yrB)]) ⟨yp4 e he,trivial⟩ (by kernel_rfl))
set_option linter.unusedVariables false
theorem ysa (p0:Ls) (r0:Bool) (h:∀ K:Bool→Prop,K r0→yda p0 K) (K:Bool→Prop):yda p0 K=K r0 :=
 propext ⟨fun k=>detC (yku [] ya8) (az:=[(.data p0)]) (x:=(.bool r0)) (fun K' k'=>h (fun r0=>K' (.bool r0)) k') (K:=fun x=>match x with | (.bool r0)=>K r0 | _=>False) k,h K⟩
theorem yzS (p0:Ls) (p1:Ls) (r0:Int) (h:∀ K:Int→Prop,K r0→ye9 p0 p1 K) (K:Int→Prop):ye9 p0 p1 K=K r0 :=
 propext ⟨fun k=>detC (ytB [] ya8) (az:=[(.agg [(.data p0),(.data p1)])]) (x:=(.int .i64 r0)) (fun K' k'=>h (fun r0=>K' (.int .i64 r0)) k') (K:=fun x=>match x with | (.int .i64 r0)=>K r0 | _=>False) k,h K⟩
theorem yu6 (p0:Ls) (p1:Ls) (r0:Bool) (h:∀ K:Bool→Prop,K r0→ycx p0 p1 K) (K:Bool→Prop):ycx p0 p1 K=K r0 :=
 propext ⟨fun k=>detC (ynA [] ya8) (az:=[(.data p0),(.data p1)]) (x:=(.bool r0)) (fun K' k'=>h (fun r0=>K' (.bool r0)) k') (K:=fun x=>match x with | (.bool r0)=>K r0 | _=>False) k,h K⟩
def ydP (x0:Bool→Prop) (x1:Ls→Ls→Int→Bool→Prop):Nat→Ls→Ls→Int→Prop
 | 0,_,_,_=>False
 | n+1,l0,l1,i2 =>
 (cbr (decide (i2<(((List.length l0):Nat):Int)))
 (asr (decide ((0:Int)≤i2))
 (asr (decide (i2<(((List.length l0):Nat):Int)))
 (asr (conf z4 (List.getD l0 (i2.toNat) .nils))
 (asr (decide ((0:Int)≤i2))
 (asr (decide (i2<(((List.length l1):Nat):Int)))
 (asr (conf z4 (List.getD l1 (i2.toNat) .nils))
 (cbr (!(((yaa (yab (List.getD l0 (i2.toNat) .nils) 0)) ==(yaa (yab (List.getD l1 (i2.toNat) .nils) 0)))&&(((yaa (yab (List.getD l0 (i2.toNat) .nils) 1)) ==(yaa (yab (List.getD l1 (i2.toNat) .nils) 1)))&&(((yaa (yab (List.getD l0 (i2.toNat) .nils) 2)) ==(yaa (yab (List.getD l1 (i2.toNat) .nils) 2)))&&(((yaa (yab (List.getD l0 (i2.toNat) .nils) 3)) ==(yaa (yab (List.getD l1 (i2.toNat) .nils) 3)))&&true)))))
 (x0 false)
 (ydP x0 x1 n l0 l1 (IntKind.i64.wrap (i2+(1:Int)))))))))))
 (x1 l0 l1 i2 false))
def yoO (p0 p1:Ls) (K:Bool→Prop):Prop :=
 (cbr ((((List.length p0):Nat):Int) !=(((List.length p1):Nat):Int))
 (K false)
 (∃ n:Nat,ydP
 (fun a=>(K a))
 (fun b c d e=>(K true))
 n p0 p1 (0:Int)))
def ydz:ya6:=yoO
def yyC (Q:Qx):Bool→Prop:=(fun b0=>Q .ret [(4,.v (.bool b0))] [])
def yyD (Q:Qx):Ls→Ls→Int→Bool→Prop:=(fun l0 l1 i2 b3=>Q (.exit 0) [(0,.v (.data l0)),(1,.v (.data l1)),(5,.v (.int .i64 i2)),(14,.v (.bool b3))] [])
def yqJ (Q:Qx):List St:=[⟨pt30,ydP (yyC Q) (yyD Q)⟩]
def yvU:LP:=lpS [(27088800,yqJ)]
def yoP (e:Es):SE:=sE (E e) [] (yvU)
theorem ytC (e:Es) (he:EG e):SEOk (Uni (E e)) (yoP e):=yaz (Sub.uni _) trivial trivial he.ok
theorem ywB (e:Es):ybS (yoP e) 5 a yrz false (yqJ):=fun _=>⟨fun _=>by kernel_rfl,fun _ _=>by kernel_rfl,trivial⟩
theorem ywC (e:Es) (he:EG e):LpT (Uni (E e)) (yvU) [] 27088800 (.loop 27088800 yrz):=fun _ _ _=>yn7.st (Sub.uni _) (yaU (ytC e he) 5) (YOk.no _ _) (yat (by kernel_rfl)) (ywB e _)
theorem yD1 (e:Es):EqW (yoP e) 6 yyb yny yoO:=fun _ _=>by kernel_rfl
theorem yvV (e:Es) (he:EG e):OkF (E e) (yny.pw ydz) yme:=okU he (yD1 e) (ytC e he) ynj.flat (yba (l:=[(27088800,.loop 27088800 yrz)]) ⟨ywC e he,trivial⟩ (by kernel_rfl))
def ydQ (a0:ya6) (x0:Bool→Prop) (x1:Ls→Ls→Int→Bool→Prop):Nat→Ls→Ls→Int→Prop
 | 0,_,_,_=>False
 | n+1,l0,l1,i2 =>
 (cbr (decide (i2<(((List.length l0):Nat):Int)))
 (asr (decide ((0:Int)≤i2))
 (asr (decide (i2<(((List.length l0):Nat):Int)))
 (asr (conf zD (List.getD l0 (i2.toNat) .nils))
 (asr (decide ((0:Int)≤i2))
 (asr (decide (i2<(((List.length l1):Nat):Int)))
 (asr (conf zD (List.getD l1 (i2.toNat) .nils))
 (a0 (ycL (List.getD l0 (i2.toNat) .nils)) (ycL (List.getD l1 (i2.toNat) .nils)) (fun a =>
 (cbr (!a)
 (x0 false)
 (ydQ a0 x0 x1 n l0 l1 (IntKind.i64.wrap (i2+(1:Int)))))))))))))
 (x1 l0 l1 i2 false))
def yoQ (a0:ya6) (p0 p1:Ls) (K:Bool→Prop):Prop :=
 (cbr ((((List.length p0):Nat):Int) !=(((List.length p1):Nat):Int))
 (K false)
 (∃ n:Nat,ydQ a0
 (fun a=>(K a))
 (fun b c d e=>(K true))
 n p0 p1 (0:Int)))
def ygk:ya6:=yoQ ydz
def yD2:Sg:=⟨(lC (vA pt9) (lC (vA pt9) lN)),Bool→Prop,fun K=>(fun r0=>K (.bool r0))⟩
def yyE (Q:Qx):Bool→Prop:=(fun b0=>Q .ret [(4,.v (.bool b0))] [])
def yyF (Q:Qx):Ls→Ls→Int→Bool→Prop:=(fun l0 l1 i2 b3=>Q (.exit 0) [(2,.box (.agg [(.data l0)])),(3,.box (.agg [(.data l1)])),(5,.v (.int .i64 i2)),(17,.v (.bool b3))] [])
def yqK (a0:ya6) (Q:Qx):List St:=[⟨(pS hN (fX 2 (vA pt9) (fX 3 (vA pt9) (fV 5 pt0 fN))) fN),ydQ a0 (yyE Q) (yyF Q)⟩]
def yvW (a0:ya6):LP:=lpS [(70742100,yqK a0)]
def yoR (e:Es) (a0:ya6):SE:=sE (E e) [(yme,yny.pw a0)] (yvW a0)
theorem ytD (e:Es) (he:EG e):SEOk (Uni (E e)) (yoR e ydz):=yaz (Sub.uni _) ⟨(yvV e he),trivial⟩ trivial he.ok
theorem ywD (e:Es) (a0):ybS (yoR e a0) 5 a yrA false (yqK a0):=fun _=>⟨fun _=>by kernel_rfl,fun _ _=>by kernel_rfl,trivial⟩
theorem ywE (e:Es) (he:EG e):LpT (Uni (E e)) (yvW ydz) [] 70742100 (.loop 70742100 yrA):=fun _ _ _=>yn7.st (Sub.uni _) (yaU (ytD e he) 5) (YOk.no _ _) (yat (by kernel_rfl)) (ywD e _ _)
theorem yD3 (e:Es) (a0):EqW (yoR e a0) 6 yyc yD2 (yoQ a0):=fun _ _=>by kernel_rfl
theorem yvX (e:Es) (he:EG e):OkF (E e) (yD2.pw ygk) ymf:=okU he (yD3 e _) (ytD e he) ynj.flat (yba (l:=[(70742100,.loop 70742100 yrA)]) ⟨ywE e he,trivial⟩ (by kernel_rfl))
def ymS (a0:yaR) (a1:yap) (p0 p1 p2 p3:Int) (K:Bool→Prop):Prop :=
 (jn (fun (a:Bool→Prop) =>
 (a0 p0 p1 p2 p3 (fun b =>
 (cbr (b ==(0:Int))
 (a1 p0 p1 p2 p3 (fun c =>
 (a c)))
 (a false)))))
 (fun d=>(K d)))
def ybp:yap:=ymS ymK yaN
def yCf (e:Es) (a0:yaR) (a1:yap):SE:=sE (E e) [(ymg,yjt.pw a0),(yeZ,ytf.pw a1)] lp0
theorem yCg (e:Es) (a0 a1):EqW (yCf e a0 a1) 6 yDL yox (ymS a0 a1):=fun _ _=>by kernel_rfl
theorem ytE (e:Es) (he:EG e):OkF (E e) (yox.pw ybp) yh7:=okU he (yCg e _ _) (yaz (Sub.uni _) ⟨(yDT e he),(yib e he),trivial⟩ trivial he.ok) ynj.flat (yat (by kernel_rfl))
def ydn (a0:yap) (a1:yap) (x0:Ls→Int→Bool→Prop) (x1:Int→Prop):Nat→Ls→Int→Prop
 | 0,_,_=>False
 | n+1,l0,i1 =>
 (cbr (decide (i1<(((List.length l0):Nat):Int)))
 (jn (fun (b:Bool→Prop) =>
 (asr (decide ((0:Int)≤i1))
 (asr (decide (i1<(((List.length l0):Nat):Int)))
 (lt (List.getD l0 (i1.toNat) .nils) (fun a =>
 (asr (conf z4 a)
 (a0 (yaa (yab a 0)) (yaa (yab a 1)) (yaa (yab a 2)) (yaa (yab a 3)) (fun f =>
 (cbr (!f)
 (b true)
 (cbr (decide (i1>(0:Int)))
 (lt (IntKind.i64.wrap (i1-(1:Int))) (fun c =>
 (asr (decide ((0:Int)≤c))
 (asr (decide (c<(((List.length l0):Nat):Int)))
 (lt (List.getD l0 (c.toNat) .nils) (fun d =>
 (asr (conf z4 d)
 (asr (decide ((0:Int)≤i1))
 (asr (decide (i1<(((List.length l0):Nat):Int)))
 (lt (List.getD l0 (i1.toNat) .nils) (fun e =>
 (asr (conf z4 e)
 (a1 (yaa (yab d 2)) (yaa (yab d 3)) (yaa (yab e 0)) (yaa (yab e 1)) (fun g =>
 (b (!g))))))))))))))))
 (b false)))))))))))
 (fun h=>(cbr h
 (x1 (8:Int))
 (lt (IntKind.i64.wrap (i1+(1:Int))) (fun i =>
 (ydn a0 a1 x0 x1 n l0 i))))))
 (x0 l0 i1 false))
def ymT (a0:yap) (a1:yap) (p0:Ls) (K:Int→Prop):Prop :=
 (cbr (decide ((((List.length p0):Nat):Int)>(60:Int)))
 (K (4:Int))
 (∃ n:Nat,ydn a0 a1
 (fun b c d=>(K (0:Int)))
 (fun a=>(K a))
 n p0 (0:Int)))
def ygw:yaA:=ymT ybp yaN
def ywF (Q:Qx):Ls→Int→Bool→Prop:=(fun l0 i1 b2=>Q (.exit 0) [(0,.v (.data l0)),(3,.v (.int .i64 i1)),(10,.v (.bool b2))] [])
def ywG (Q:Qx):Int→Prop:=(fun i0=>Q .ret [(2,.v (.int .i64 i0))] [])
def yoS (a0:yap) (a1:yap) (Q:Qx):List St:=[⟨pt29,ydn a0 a1 (ywF Q) (ywG Q)⟩]
def ytF (a0:yap) (a1:yap):LP:=lpS [(754900,yoS a0 a1)]
def ymU (e:Es) (a0:yap) (a1:yap):SE:=sE (E e) [(yh7,yox.pw a0),(yeZ,ytf.pw a1)] (ytF a0 a1)
theorem yqL (e:Es) (he:EG e):SEOk (Uni (E e)) (ymU e ybp yaN):=yaz (Sub.uni _) ⟨(ytE e he),(yib e he),trivial⟩ trivial he.ok
theorem yu7 (e:Es) (a0 a1):ybS (ymU e a0 a1) 5 a yye false (yoS a0 a1):=fun _=>⟨fun _=>by kernel_rfl,fun _ _=>by kernel_rfl,trivial⟩
theorem yu8 (e:Es) (he:EG e):LpT (Uni (E e)) (ytF ybp yaN) [] 754900 (.loop 754900 yye):=fun _ _ _=>yn7.st (Sub.uni _) (yaU (yqL e he) 5) (YOk.no _ _) (yat (by kernel_rfl)) (yu7 e _ _ _)
theorem yCh (e:Es) (a0 a1):EqW (ymU e a0 a1) 6 yvQ ybX (ymT a0 a1):=fun _ _=>by kernel_rfl
theorem ytG (e:Es) (he:EG e):OkF (E e) (ybX.pw ygw) ykk:=okU he (yCh e _ _) (yqL e he) ynj.flat (yba (l:=[(754900,.loop 754900 yye)]) ⟨yu8 e he,trivial⟩ (by kernel_rfl))
def yoT (a0:yaA) (p0 p1:Ls) (K:Int→Prop):Prop :=
 (a0 p0 (fun a =>
 (cbr (a !=(0:Int))
 (a0 p0 (fun b =>
 (K b)))
 (a0 p1 (fun c =>
 (K c))))))
def ymV:yau:=yoT ygw
def yvY:Sg:=⟨pt13,Int→Prop,fun K=>(fun r0=>K (.int .i64 r0))⟩
def yD4 (e:Es) (a0:yaA):SE:=sE (E e) [(ykk,ybX.pw a0)] lp0
theorem yD5 (e:Es) (a0):EqW (yD4 e a0) 6 yFd yvY (yoT a0):=fun _ _=>by kernel_rfl
theorem yD6 (e:Es) (he:EG e):OkF (E e) (yvY.pw ymV) ymi:=okU he (yD5 e _) (yaz (Sub.uni _) ⟨(ytG e he),trivial⟩ trivial he.ok) ynj.flat (yat (by kernel_rfl))
abbrev ygl:Type:=Ls→Ls→(Ls→Prop)→Prop
mutual
def yfa (a0:yap) (a:Int→Int→Int→Bool→Prop) (b:Ls→Int→Int→Int→Bool→Prop) (c:Ls→Prop):Nat→Int→Int→Int→Prop
 | 0,_,_,_=>False
 | d+1,i0,i1,i2 =>
 (cbr (decide (i2<(0:Int)))
 False
 (a i0 i1 i2 false))
def ybj (a0:yap) (d:Int→Int→Int→Bool→Prop) (b:Ls→Int→Int→Int→Bool→Prop) (c:Ls→Prop):Nat→Ls→Int→Int→Int→Prop
 | 0,_,_,_,_=>False
 | e+1,l0,i3,i4,i5 =>
 (cbr (decide (i5<(((List.length l0):Nat):Int)))
 (asr (decide ((0:Int)≤i5))
 (asr (decide (i5<(((List.length l0):Nat):Int)))
 (asr (decide ((List.length l0)=(List.length l0)))
 (asr (decide ((0+(i5.toNat))<(List.length l0)))
 (lt (List.getD l0 (0+(i5.toNat)) .nils) (fun a =>
 (asr (conf z2 a)
 (cbr (((yaa (yab a 0)) == i3)&&(((yaa (yab a 1)) == i4)&&true))
 (c l0)
 (lt (IntKind.i64.wrap (i5+(1:Int))) (fun f =>
 (asr (decide ((List.length l0)=List.length l0)&&decide ((List.length l0)=List.length l0))
 (ybj a0 d b c e l0 i3 i4 f))))))))))))
 (b l0 i3 i4 i5 false))
end
def yaO (a0:yap) (h:Ls→Int→Bool→Prop):Nat→Ls→Int→Prop
 | 0,_,_=>False
 | j+1,l0,i3 =>
 (jn (fun (i:Bool→Prop) =>
 (cbr (decide (i3>(0:Int)))
 (asr (decide ((0:Int)≤i3))
 (asr (decide (i3<(((List.length l0):Nat):Int)))
 (asr (decide ((List.length l0)=(List.length l0)))
 (asr (decide ((0+(i3.toNat))<(List.length l0)))
 (lt (List.getD l0 (0+(i3.toNat)) .nils) (fun f =>
 (asr (conf z2 f)
 (lt (IntKind.i64.wrap (i3-(1:Int))) (fun d =>
 (asr (decide ((0:Int)≤d))
 (asr (decide (d<(((List.length l0):Nat):Int)))
 (asr (decide ((List.length l0)=(List.length l0)))
 (asr (decide ((0+(d.toNat))<(List.length l0)))
 (lt (List.getD l0 (0+(d.toNat)) .nils) (fun g =>
 (asr (conf z2 g)
 (a0 (yaa (yab f 0)) (yaa (yab f 1)) (yaa (yab g 0)) (yaa (yab g 1)) (fun k =>
 (i k)))))))))))))))))))
 (i false)))
 (fun l=>(cbr l
 (lt (IntKind.i64.wrap (i3-(1:Int))) (fun b =>
 (asr (decide ((0:Int)≤i3))
 (asr (decide (i3<(((List.length l0):Nat):Int)))
 (asr (decide ((List.length l0)=(List.length l0)))
 (asr (decide ((0+(i3.toNat))<(List.length l0)))
 (lt (List.getD l0 (0+(i3.toNat)) .nils) (fun a =>
 (asr (conf z2 a)
 (lt (IntKind.i64.wrap (i3-(1:Int))) (fun e =>
 (asr (decide ((0:Int)≤e))
 (asr (decide (e<(((List.length l0):Nat):Int)))
 (asr (decide ((List.length l0)=(List.length l0)))
 (asr (decide ((0+(e.toNat))<(List.length l0)))
 (lt (List.getD l0 (0+(e.toNat)) .nils) (fun c =>
 (asr (conf z2 c)
 (asr (decide ((0:Int)≤b))
 (asr (decide (b<(((List.length l0):Nat):Int)))
 (asr (decide ((List.length l0)=(List.length l0)))
 (asr (decide ((0+(b.toNat))<(List.length l0)))
 (lt (List.getD l0 (0+(b.toNat)) .nils) (fun m =>
 (asr (conf z2 m)
 (asr (decide ((0:Int)≤i3))
 (asr (decide (i3<(((List.length l0):Nat):Int)))
 (asr (decide ((List.length (List.set l0 (0+(b.toNat)) (.agg [(.int .i64 (yaa (yab a 0))),(.int .i64 (yaa (yab a 1)))])))=(List.length l0)))
 (asr (decide ((0+(i3.toNat))<(List.length (List.set l0 (0+(b.toNat)) (.agg [(.int .i64 (yaa (yab a 0))),(.int .i64 (yaa (yab a 1)))])))))
 (lt (List.getD (List.set l0 (0+(b.toNat)) (.agg [(.int .i64 (yaa (yab a 0))),(.int .i64 (yaa (yab a 1)))])) (0+(i3.toNat)) .nils) (fun n =>
 (asr (conf z2 n)
 (lt (IntKind.i64.wrap (i3-(1:Int))) (fun o =>
 (asr (decide ((List.length l0)=List.length (List.set (List.set l0 (0+(b.toNat)) (.agg [(.int .i64 (yaa (yab a 0))),(.int .i64 (yaa (yab a 1)))])) (0+(i3.toNat)) (.agg [(.int .i64 (yaa (yab c 0))),(.int .i64 (yaa (yab c 1)))])))&&decide ((List.length l0)=List.length (List.set (List.set l0 (0+(b.toNat)) (.agg [(.int .i64 (yaa (yab a 0))),(.int .i64 (yaa (yab a 1)))])) (0+(i3.toNat)) (.agg [(.int .i64 (yaa (yab c 0))),(.int .i64 (yaa (yab c 1)))]))))
 (yaO a0 h j (List.set (List.set l0 (0+(b.toNat)) (.agg [(.int .i64 (yaa (yab a 0))),(.int .i64 (yaa (yab a 1)))])) (0+(i3.toNat)) (.agg [(.int .i64 (yaa (yab c 0))),(.int .i64 (yaa (yab c 1)))])) o))))))))))))))))))))))))))))))))))))
 (h l0 i3 false))))
mutual
def yfb (a0:yap) (s:Ls→Int→Bool→Prop) (t:Ls→Ls→Int→Bool→Prop):Nat→Ls→Int→Prop
 | 0,_,_=>False
 | u+1,l0,i1 =>
 (cbr (decide (i1<(((List.length l0):Nat):Int)))
 (asr (decide ((0:Int)≤i1))
 (asr (decide (i1<(((List.length l0):Nat):Int)))
 (lt (List.getD l0 (i1.toNat) .nils) (fun j =>
 (asr (conf z4 j)
 (jn (fun (k:Ls→Prop) =>
 (∃ l:Nat,yfa a0
 (fun m n E F=>(asr (decide (1=List.length ([(.agg [(.int .i64 m),(.int .i64 n)])]:Ls))&&decide (1=List.length ([(.agg [(.int .i64 m),(.int .i64 n)])]:Ls)))
 (∃ c:Nat,yaO a0
 (fun v G H=>(k v))
 c ([(.agg [(.int .i64 m),(.int .i64 n)])]:Ls) (0:Int))))
 (fun a d e I J=>(asr (decide ((List.length a)=(List.length a)))
 (asr (decide ((0+(List.length a))≤(List.length a)))
 (asr (!(decide (((0+(List.length a))+1)≤(List.length a))))
 (asr (decide ((List.length a)=(List.length a)))
 (asr (decide ((((List.length a)+1)+64)*(16+1)≤room))
 (lt (IntKind.i64.wrap ((((List.length (a++([(.agg [(.int .i64 d),(.int .i64 e)])]:Ls))):Nat):Int)-(1:Int))) (fun w =>
 (asr (decide ((List.length (a++([(.agg [(.int .i64 d),(.int .i64 e)])]:Ls)))=List.length (a++([(.agg [(.int .i64 d),(.int .i64 e)])]:Ls)))&&decide ((List.length (a++([(.agg [(.int .i64 d),(.int .i64 e)])]:Ls)))=List.length (a++([(.agg [(.int .i64 d),(.int .i64 e)])]:Ls))))
 (∃ c:Nat,yaO a0
 (fun x K L=>(k x))
 c (a++([(.agg [(.int .i64 d),(.int .i64 e)])]:Ls)) w))))))))))
 (fun y=>(k y))
 l (yaa (yab j 0)) (yaa (yab j 1)) (0:Int)))
 (fun h=>(asr (decide ((0:Int)≤i1))
 (asr (decide (i1<(((List.length l0):Nat):Int)))
 (lt (List.getD l0 (i1.toNat) .nils) (fun o =>
 (asr (conf z4 o)
 (jn (fun (p:Ls→Prop) =>
 (asr (decide ((List.length h)=List.length h)&&decide ((List.length h)=List.length h))
 (∃ l:Nat,ybj a0
 (fun q r M N=>(asr (decide (1=List.length ([(.agg [(.int .i64 q),(.int .i64 r)])]:Ls))&&decide (1=List.length ([(.agg [(.int .i64 q),(.int .i64 r)])]:Ls)))
 (∃ c:Nat,yaO a0
 (fun z O Q=>(p z))
 c ([(.agg [(.int .i64 q),(.int .i64 r)])]:Ls) (0:Int))))
 (fun b f g R S=>(asr (decide ((List.length b)=(List.length b)))
 (asr (decide ((0+(List.length b))≤(List.length b)))
 (asr (!(decide (((0+(List.length b))+1)≤(List.length b))))
 (asr (decide ((List.length b)=(List.length b)))
 (asr (decide ((((List.length b)+1)+64)*(16+1)≤room))
 (lt (IntKind.i64.wrap ((((List.length (b++([(.agg [(.int .i64 f),(.int .i64 g)])]:Ls))):Nat):Int)-(1:Int))) (fun A =>
 (asr (decide ((List.length (b++([(.agg [(.int .i64 f),(.int .i64 g)])]:Ls)))=List.length (b++([(.agg [(.int .i64 f),(.int .i64 g)])]:Ls)))&&decide ((List.length (b++([(.agg [(.int .i64 f),(.int .i64 g)])]:Ls)))=List.length (b++([(.agg [(.int .i64 f),(.int .i64 g)])]:Ls))))
 (∃ c:Nat,yaO a0
 (fun B T U=>(p B))
 c (b++([(.agg [(.int .i64 f),(.int .i64 g)])]:Ls)) A))))))))))
 (fun C=>(p C))
 l h (yaa (yab o 2)) (yaa (yab o 3)) (0:Int))))
 (fun i=>(lt (IntKind.i64.wrap (i1+(1:Int))) (fun D =>
 (asr (decide ((List.length i)=List.length i)&&decide ((List.length i)=List.length i))
 (ybU a0 s t u i l0 D))))))))))))))))))
 (s l0 i1 false))
def ybU (a0:yap) (t:Ls→Int→Bool→Prop) (s:Ls→Ls→Int→Bool→Prop):Nat→Ls→Ls→Int→Prop
 | 0,_,_,_=>False
 | u+1,l0,l1,i4 =>
 (cbr (decide (i4<(((List.length l1):Nat):Int)))
 (asr (decide ((0:Int)≤i4))
 (asr (decide (i4<(((List.length l1):Nat):Int)))
 (lt (List.getD l1 (i4.toNat) .nils) (fun j =>
 (asr (conf z4 j)
 (jn (fun (k:Ls→Prop) =>
 (asr (decide ((List.length l0)=List.length l0)&&decide ((List.length l0)=List.length l0))
 (∃ l:Nat,ybj a0
 (fun m n E F=>(asr (decide (1=List.length ([(.agg [(.int .i64 m),(.int .i64 n)])]:Ls))&&decide (1=List.length ([(.agg [(.int .i64 m),(.int .i64 n)])]:Ls)))
 (∃ c:Nat,yaO a0
 (fun v G H=>(k v))
 c ([(.agg [(.int .i64 m),(.int .i64 n)])]:Ls) (0:Int))))
 (fun a d e I J=>(asr (decide ((List.length a)=(List.length a)))
 (asr (decide ((0+(List.length a))≤(List.length a)))
 (asr (!(decide (((0+(List.length a))+1)≤(List.length a))))
 (asr (decide ((List.length a)=(List.length a)))
 (asr (decide ((((List.length a)+1)+64)*(16+1)≤room))
 (lt (IntKind.i64.wrap ((((List.length (a++([(.agg [(.int .i64 d),(.int .i64 e)])]:Ls))):Nat):Int)-(1:Int))) (fun w =>
 (asr (decide ((List.length (a++([(.agg [(.int .i64 d),(.int .i64 e)])]:Ls)))=List.length (a++([(.agg [(.int .i64 d),(.int .i64 e)])]:Ls)))&&decide ((List.length (a++([(.agg [(.int .i64 d),(.int .i64 e)])]:Ls)))=List.length (a++([(.agg [(.int .i64 d),(.int .i64 e)])]:Ls))))
 (∃ c:Nat,yaO a0
 (fun x K L=>(k x))
 c (a++([(.agg [(.int .i64 d),(.int .i64 e)])]:Ls)) w))))))))))
 (fun y=>(k y))
 l l0 (yaa (yab j 0)) (yaa (yab j 1)) (0:Int))))
 (fun h=>(asr (decide ((0:Int)≤i4))
 (asr (decide (i4<(((List.length l1):Nat):Int)))
 (lt (List.getD l1 (i4.toNat) .nils) (fun o =>
 (asr (conf z4 o)
 (jn (fun (p:Ls→Prop) =>
 (asr (decide ((List.length h)=List.length h)&&decide ((List.length h)=List.length h))
 (∃ l:Nat,ybj a0
 (fun q r M N=>(asr (decide (1=List.length ([(.agg [(.int .i64 q),(.int .i64 r)])]:Ls))&&decide (1=List.length ([(.agg [(.int .i64 q),(.int .i64 r)])]:Ls)))
 (∃ c:Nat,yaO a0
 (fun z O Q=>(p z))
 c ([(.agg [(.int .i64 q),(.int .i64 r)])]:Ls) (0:Int))))
 (fun b f g R S=>(asr (decide ((List.length b)=(List.length b)))
 (asr (decide ((0+(List.length b))≤(List.length b)))
 (asr (!(decide (((0+(List.length b))+1)≤(List.length b))))
 (asr (decide ((List.length b)=(List.length b)))
 (asr (decide ((((List.length b)+1)+64)*(16+1)≤room))
 (lt (IntKind.i64.wrap ((((List.length (b++([(.agg [(.int .i64 f),(.int .i64 g)])]:Ls))):Nat):Int)-(1:Int))) (fun A =>
 (asr (decide ((List.length (b++([(.agg [(.int .i64 f),(.int .i64 g)])]:Ls)))=List.length (b++([(.agg [(.int .i64 f),(.int .i64 g)])]:Ls)))&&decide ((List.length (b++([(.agg [(.int .i64 f),(.int .i64 g)])]:Ls)))=List.length (b++([(.agg [(.int .i64 f),(.int .i64 g)])]:Ls))))
 (∃ c:Nat,yaO a0
 (fun B T U=>(p B))
 c (b++([(.agg [(.int .i64 f),(.int .i64 g)])]:Ls)) A))))))))))
 (fun C=>(p C))
 l h (yaa (yab o 2)) (yaa (yab o 3)) (0:Int))))
 (fun i=>(lt (IntKind.i64.wrap (i4+(1:Int))) (fun D =>
 (asr (decide ((List.length i)=List.length i)&&decide ((List.length i)=List.length i))
 (ybU a0 t s u i l1 D))))))))))))))))))
 (s l0 l1 i4 false))
end
mutual
def yfc (a0:yap) (s:Ls→Ls→Int→Bool→Prop) (t:Ls→Ls→Ls→Int→Bool→Prop):Nat→Ls→Ls→Int→Prop
 | 0,_,_,_=>False
 | u+1,l0,l1,i2 =>
 (cbr (decide (i2<(((List.length l0):Nat):Int)))
 (asr (decide ((0:Int)≤i2))
 (asr (decide (i2<(((List.length l0):Nat):Int)))
 (lt (List.getD l0 (i2.toNat) .nils) (fun j =>
 (asr (conf z4 j)
 (jn (fun (k:Ls→Prop) =>
 (∃ l:Nat,yfa a0
 (fun m n E F=>(asr (decide (1=List.length ([(.agg [(.int .i64 m),(.int .i64 n)])]:Ls))&&decide (1=List.length ([(.agg [(.int .i64 m),(.int .i64 n)])]:Ls)))
 (∃ c:Nat,yaO a0
 (fun v G H=>(k v))
 c ([(.agg [(.int .i64 m),(.int .i64 n)])]:Ls) (0:Int))))
 (fun a d e I J=>(asr (decide ((List.length a)=(List.length a)))
 (asr (decide ((0+(List.length a))≤(List.length a)))
 (asr (!(decide (((0+(List.length a))+1)≤(List.length a))))
 (asr (decide ((List.length a)=(List.length a)))
 (asr (decide ((((List.length a)+1)+64)*(16+1)≤room))
 (lt (IntKind.i64.wrap ((((List.length (a++([(.agg [(.int .i64 d),(.int .i64 e)])]:Ls))):Nat):Int)-(1:Int))) (fun w =>
 (asr (decide ((List.length (a++([(.agg [(.int .i64 d),(.int .i64 e)])]:Ls)))=List.length (a++([(.agg [(.int .i64 d),(.int .i64 e)])]:Ls)))&&decide ((List.length (a++([(.agg [(.int .i64 d),(.int .i64 e)])]:Ls)))=List.length (a++([(.agg [(.int .i64 d),(.int .i64 e)])]:Ls))))
 (∃ c:Nat,yaO a0
 (fun x K L=>(k x))
 c (a++([(.agg [(.int .i64 d),(.int .i64 e)])]:Ls)) w))))))))))
 (fun y=>(k y))
 l (yaa (yab j 0)) (yaa (yab j 1)) (0:Int)))
 (fun h=>(asr (decide ((0:Int)≤i2))
 (asr (decide (i2<(((List.length l0):Nat):Int)))
 (lt (List.getD l0 (i2.toNat) .nils) (fun o =>
 (asr (conf z4 o)
 (jn (fun (p:Ls→Prop) =>
 (asr (decide ((List.length h)=List.length h)&&decide ((List.length h)=List.length h))
 (∃ l:Nat,ybj a0
 (fun q r M N=>(asr (decide (1=List.length ([(.agg [(.int .i64 q),(.int .i64 r)])]:Ls))&&decide (1=List.length ([(.agg [(.int .i64 q),(.int .i64 r)])]:Ls)))
 (∃ c:Nat,yaO a0
 (fun z O Q=>(p z))
 c ([(.agg [(.int .i64 q),(.int .i64 r)])]:Ls) (0:Int))))
 (fun b f g R S=>(asr (decide ((List.length b)=(List.length b)))
 (asr (decide ((0+(List.length b))≤(List.length b)))
 (asr (!(decide (((0+(List.length b))+1)≤(List.length b))))
 (asr (decide ((List.length b)=(List.length b)))
 (asr (decide ((((List.length b)+1)+64)*(16+1)≤room))
 (lt (IntKind.i64.wrap ((((List.length (b++([(.agg [(.int .i64 f),(.int .i64 g)])]:Ls))):Nat):Int)-(1:Int))) (fun A =>
 (asr (decide ((List.length (b++([(.agg [(.int .i64 f),(.int .i64 g)])]:Ls)))=List.length (b++([(.agg [(.int .i64 f),(.int .i64 g)])]:Ls)))&&decide ((List.length (b++([(.agg [(.int .i64 f),(.int .i64 g)])]:Ls)))=List.length (b++([(.agg [(.int .i64 f),(.int .i64 g)])]:Ls))))
 (∃ c:Nat,yaO a0
 (fun B T U=>(p B))
 c (b++([(.agg [(.int .i64 f),(.int .i64 g)])]:Ls)) A))))))))))
 (fun C=>(p C))
 l h (yaa (yab o 2)) (yaa (yab o 3)) (0:Int))))
 (fun i=>(lt (IntKind.i64.wrap (i2+(1:Int))) (fun D =>
 (asr (decide ((List.length i)=List.length i)&&decide ((List.length i)=List.length i))
 (ycy a0 s t u i l0 l1 D))))))))))))))))))
 (s l0 l1 i2 false))
def ycy (a0:yap) (t:Ls→Ls→Int→Bool→Prop) (s:Ls→Ls→Ls→Int→Bool→Prop):Nat→Ls→Ls→Ls→Int→Prop
 | 0,_,_,_,_=>False
 | u+1,l0,l1,l2,i5 =>
 (cbr (decide (i5<(((List.length l1):Nat):Int)))
 (asr (decide ((0:Int)≤i5))
 (asr (decide (i5<(((List.length l1):Nat):Int)))
 (lt (List.getD l1 (i5.toNat) .nils) (fun j =>
 (asr (conf z4 j)
 (jn (fun (k:Ls→Prop) =>
 (asr (decide ((List.length l0)=List.length l0)&&decide ((List.length l0)=List.length l0))
 (∃ l:Nat,ybj a0
 (fun m n E F=>(asr (decide (1=List.length ([(.agg [(.int .i64 m),(.int .i64 n)])]:Ls))&&decide (1=List.length ([(.agg [(.int .i64 m),(.int .i64 n)])]:Ls)))
 (∃ c:Nat,yaO a0
 (fun v G H=>(k v))
 c ([(.agg [(.int .i64 m),(.int .i64 n)])]:Ls) (0:Int))))
 (fun a d e I J=>(asr (decide ((List.length a)=(List.length a)))
 (asr (decide ((0+(List.length a))≤(List.length a)))
 (asr (!(decide (((0+(List.length a))+1)≤(List.length a))))
 (asr (decide ((List.length a)=(List.length a)))
 (asr (decide ((((List.length a)+1)+64)*(16+1)≤room))
 (lt (IntKind.i64.wrap ((((List.length (a++([(.agg [(.int .i64 d),(.int .i64 e)])]:Ls))):Nat):Int)-(1:Int))) (fun w =>
 (asr (decide ((List.length (a++([(.agg [(.int .i64 d),(.int .i64 e)])]:Ls)))=List.length (a++([(.agg [(.int .i64 d),(.int .i64 e)])]:Ls)))&&decide ((List.length (a++([(.agg [(.int .i64 d),(.int .i64 e)])]:Ls)))=List.length (a++([(.agg [(.int .i64 d),(.int .i64 e)])]:Ls))))
 (∃ c:Nat,yaO a0
 (fun x K L=>(k x))
 c (a++([(.agg [(.int .i64 d),(.int .i64 e)])]:Ls)) w))))))))))
 (fun y=>(k y))
 l l0 (yaa (yab j 0)) (yaa (yab j 1)) (0:Int))))
 (fun h=>(asr (decide ((0:Int)≤i5))
 (asr (decide (i5<(((List.length l1):Nat):Int)))
 (lt (List.getD l1 (i5.toNat) .nils) (fun o =>
 (asr (conf z4 o)
 (jn (fun (p:Ls→Prop) =>
 (asr (decide ((List.length h)=List.length h)&&decide ((List.length h)=List.length h))
 (∃ l:Nat,ybj a0
 (fun q r M N=>(asr (decide (1=List.length ([(.agg [(.int .i64 q),(.int .i64 r)])]:Ls))&&decide (1=List.length ([(.agg [(.int .i64 q),(.int .i64 r)])]:Ls)))
 (∃ c:Nat,yaO a0
 (fun z O Q=>(p z))
 c ([(.agg [(.int .i64 q),(.int .i64 r)])]:Ls) (0:Int))))
 (fun b f g R S=>(asr (decide ((List.length b)=(List.length b)))
 (asr (decide ((0+(List.length b))≤(List.length b)))
 (asr (!(decide (((0+(List.length b))+1)≤(List.length b))))
 (asr (decide ((List.length b)=(List.length b)))
 (asr (decide ((((List.length b)+1)+64)*(16+1)≤room))
 (lt (IntKind.i64.wrap ((((List.length (b++([(.agg [(.int .i64 f),(.int .i64 g)])]:Ls))):Nat):Int)-(1:Int))) (fun A =>
 (asr (decide ((List.length (b++([(.agg [(.int .i64 f),(.int .i64 g)])]:Ls)))=List.length (b++([(.agg [(.int .i64 f),(.int .i64 g)])]:Ls)))&&decide ((List.length (b++([(.agg [(.int .i64 f),(.int .i64 g)])]:Ls)))=List.length (b++([(.agg [(.int .i64 f),(.int .i64 g)])]:Ls))))
 (∃ c:Nat,yaO a0
 (fun B T U=>(p B))
 c (b++([(.agg [(.int .i64 f),(.int .i64 g)])]:Ls)) A))))))))))
 (fun C=>(p C))
 l h (yaa (yab o 2)) (yaa (yab o 3)) (0:Int))))
 (fun i=>(lt (IntKind.i64.wrap (i5+(1:Int))) (fun D =>
 (asr (decide ((List.length i)=List.length i)&&decide ((List.length i)=List.length i))
 (ycy a0 t s u i l1 l2 D))))))))))))))))))
 (s l0 l1 l2 i5 false))
end
def yoU (a0:yap) (p0 p1:Ls) (K:Ls→Prop):Prop :=
 (∃ e:Nat,yfc a0
 (fun h f i j=>(∃ d:Nat,yfb a0
 (fun k l m=>(K ([]:Ls)))
 (fun a n o p=>(asr (decide ((List.length a)=(List.length a)))
 (asr (decide ((0+(List.length a))≤(List.length a)))
 (K (List.take (List.length a) a)))))
 d f (0:Int)))
 (fun c q g r s=>(asr (decide ((List.length c)=List.length c)&&decide ((List.length c)=List.length c))
 (∃ d:Nat,ybU a0
 (fun t u v=>(K ([]:Ls)))
 (fun b w x y=>(asr (decide ((List.length b)=(List.length b)))
 (asr (decide ((0+(List.length b))≤(List.length b)))
 (K (List.take (List.length b) b)))))
 d c g (0:Int))))
 e p0 p1 (0:Int))
def ydA:ygl:=yoU yaN
def yD7:Sg:=⟨pt13,Ls→Prop,fun K=>(fun r0=>K (.data r0))⟩
def yoV (Q:Qx):Int→Int→Int→Bool→Prop:=(fun i0 i1 i2 b3=>Q (.exit 0) [(0,.v .nils),(3,.box (.agg [(.int .i64 i0),(.int .i64 i1)])),(5,.v (.int .i64 i2)),(10,.v (.bool b3))] [])
def yoW (Q:Qx):Ls→Int→Int→Int→Bool→Prop:=(fun l0 i3 i4 i5 b6=>Q (.exit 0) [(0,.v (.own 0 0 (List.length l0) (List.length l0) none)),(3,.box (.agg [(.int .i64 i3),(.int .i64 i4)])),(5,.v (.int .i64 i5)),(10,.v (.bool b6))] [⟨false,true,2,l0⟩])
def yoX (Q:Qx):Ls→Prop:=(fun l0=>Q .ret [(4,.v (.own 0 0 (List.length l0) (List.length l0) none))] [⟨false,true,2,l0⟩])
def yyG (Q:Qx):Ls→Int→Bool→Prop:=(fun l0 i3 b4=>Q (.exit 2) [(0,.v (.own 0 0 (List.length l0) (List.length l0) none)),(6,.v (.int .i64 i3)),(40,.v (.bool b4))] [⟨false,true,2,l0⟩])
def yoY (Q:Qx):Ls→Int→Bool→Prop:=(fun l0 i1 b2=>Q (.exit 2) [(1,.v (.data l0)),(5,.v .nils),(7,.v (.int .i64 i1)),(30,.v (.bool b2))] [])
def yoZ (Q:Qx):Ls→Ls→Int→Bool→Prop:=(fun l0 l1 i4 b5=>Q (.exit 2) [(1,.v (.data l1)),(5,.v (.own 0 0 (List.length l0) (List.length l0) none)),(7,.v (.int .i64 i4)),(30,.v (.bool b5))] [⟨false,true,2,l0⟩])
def yo0 (Q:Qx):Ls→Ls→Int→Bool→Prop:=(fun l0 l1 i2 b3=>Q (.exit 0) [(0,.v (.data l0)),(1,.v (.data l1)),(5,.v .nils),(6,.v (.int .i64 i2)),(11,.v (.bool b3))] [])
def yo1 (Q:Qx):Ls→Ls→Ls→Int→Bool→Prop:=(fun l0 l1 l2 i5 b6=>Q (.exit 0) [(0,.v (.data l1)),(1,.v (.data l2)),(5,.v (.own 0 0 (List.length l0) (List.length l0) none)),(6,.v (.int .i64 i5)),(11,.v (.bool b6))] [⟨false,true,2,l0⟩])
def pt31:Pat Frm:=fX 3 pt7 (fV 5 pt0 fN)
def pt32:HPt:=hB false true 2 rA hN
def yqM (a0:yap) (Q:Qx):List St:=[⟨(pS hN (fV 0 vNs pt31) fN),yfa a0 (yoV Q) (yoW Q) (yoX Q)⟩,⟨(pS pt32 (fV 0 pt23 pt31) fN),ybj a0 (yoV Q) (yoW Q) (yoX Q)⟩]
def pt33:Pat Frm:=fV 6 pt0 fN
def yqN (a0:yap) (Q:Qx):List St:=[⟨(pS pt32 (fV 0 pt23 pt33) fN),yaO a0 (yyG Q)⟩]
def yqO (a0:yap) (Q:Qx):List St:=[⟨(pS hN (fV 1 vD (fV 5 vNs (fV 7 pt0 fN))) fN),yfb a0 (yoY Q) (yoZ Q)⟩,⟨(pS pt32 (fV 1 vD (fV 5 pt23 (fV 7 pt0 fN))) fN),ybU a0 (yoY Q) (yoZ Q)⟩]
def yqP (a0:yap) (Q:Qx):List St:=[⟨(pS hN (fV 0 vD (fV 1 vD (fV 5 vNs pt33))) fN),yfc a0 (yo0 Q) (yo1 Q)⟩,⟨(pS pt32 (fV 0 vD (fV 1 vD (fV 5 pt23 pt33))) fN),ycy a0 (yo0 Q) (yo1 Q)⟩]
def ygx (a0:yap):LP:=lpS [(33442700,yqM a0),(33442701,yqN a0),(95913401,yqO a0),(95913400,yqP a0)]
def yo2 (e:Es) (a0:yap):SE:=sE (E e) [(yeZ,ytf.pw a0)] (ygx a0)
def ykw (e:Es) (a0:yap):SE:=⟨(E e),yfU [(yeZ,ytf.pw a0)],yfV [(yAv,yuB)],ygx a0,fun _=>none⟩
theorem ytH (e:Es) (he:EG e):SEOk (Uni (E e)) (yo2 e yaN):=yaz (Sub.uni _) ⟨(yib e he),trivial⟩ trivial he.ok
theorem ywH (e:Es) (a0):ybS (yo2 e a0) 5 a yrD false (yqM a0):=fun _=>⟨fun _=>by kernel_rfl,fun _ _=>by kernel_rfl,fun _=>by kernel_rfl,fun _ _=>by kernel_rfl,trivial⟩
theorem ywI (e:Es) (he:EG e):LpT (Uni (E e)) (ygx yaN) [] 33442700 (.loop 33442700 yrD):=fun _ _ _=>yn7.st (Sub.uni _) (yaU (ytH e he) 5) (YOk.no _ _) (yat (by kernel_rfl)) (ywH e _ _)
theorem ywJ (e:Es) (a0):ybS (yo2 e a0) 5 a yrE false (yqN a0):=fun _=>⟨fun _=>by kernel_rfl,fun _ _=>by kernel_rfl,trivial⟩
theorem ywK (e:Es) (he:EG e):LpT (Uni (E e)) (ygx yaN) [] 33442701 (.loop 33442701 yrE):=fun _ _ _=>yn7.st (Sub.uni _) (yaU (ytH e he) 5) (YOk.no _ _) (yat (by kernel_rfl)) (ywJ e _ _)
theorem ymW (e:Es) (he:EG e):SEOk (Uni (E e)) (ykw e yaN):=yaz (Sub.uni _) ⟨(yib e he),trivial⟩ ⟨⟨by kernel_rfl,by kernel_rfl,rfl,fun az=>ybR (by kernel_rfl) az,he.num _ (by kernel_rfl),by kernel_rfl,(yba (l:=[(33442700,.loop 33442700 yrD),(33442701,.loop 33442701 yrE)]) ⟨ywI e he,ywK e he,trivial⟩ (by kernel_rfl))⟩,trivial⟩ he.ok
theorem ywL (e:Es) (a0):ybS (ykw e a0) 5 a yrH false (yqO a0):=fun _=>⟨fun _=>by kernel_rfl,fun _ _=>by kernel_rfl,fun _=>by kernel_rfl,fun _ _=>by kernel_rfl,trivial⟩
theorem ywM (e:Es) (he:EG e):LpT (Uni (E e)) (ygx yaN) [] 95913401 (.loop 95913401 yrH):=fun _ _ _=>yn7.st (Sub.uni _) (yaU (ymW e he) 5) (YOk.no _ _) (yat (by kernel_rfl)) (ywL e _ _)
theorem ywN (e:Es) (a0):ybS (ykw e a0) 5 a yrG false (yqP a0):=fun _=>⟨fun _=>by kernel_rfl,fun _ _=>by kernel_rfl,fun _=>by kernel_rfl,fun _ _=>by kernel_rfl,trivial⟩
theorem ywO (e:Es) (he:EG e):LpT (Uni (E e)) (ygx yaN) [] 95913400 (.loop 95913400 yrG):=fun _ _ _=>yn7.st (Sub.uni _) (yaU (ymW e he) 5) (YOk.no _ _) (yat (by kernel_rfl)) (ywN e _ _)
theorem yD8 (e:Es) (a0):EqW (ykw e a0) 6 yrF yD7 (yoU a0):=fun _ _=>by kernel_rfl
theorem yvZ (e:Es) (he:EG e):OkF (E e) (yD7.pw ydA) ymj:=okU he (yD8 e _) (ymW e he) ynj.flat (yba (l:=[(95913400,.loop 95913400 yrG),(95913401,.loop 95913401 yrH)]) ⟨ywO e he,ywM e he,trivial⟩ (by kernel_rfl))
abbrev yjB:Type:=Ls→Int→Int→(Bool→Prop)→Prop
def yfu (a0:yap) (x0:Ls→Int→Int→Int→Bool→Prop) (x1:Bool→Prop):Nat→Ls→Int→Int→Int→Prop
 | 0,_,_,_,_=>False
 | n+1,l0,i1,i2,i3 =>
 (cbr (decide (i3<(((List.length l0):Nat):Int)))
 (jn (fun (c:Bool→Prop) =>
 (asr (decide ((0:Int)≤i3))
 (asr (decide (i3<(((List.length l0):Nat):Int)))
 (lt (List.getD l0 (i3.toNat) .nils) (fun a =>
 (asr (conf z4 a)
 (a0 i1 i2 (yaa (yab a 0)) (yaa (yab a 1)) (fun d =>
 (cbr (!d)
 (asr (decide ((0:Int)≤i3))
 (asr (decide (i3<(((List.length l0):Nat):Int)))
 (lt (List.getD l0 (i3.toNat) .nils) (fun b =>
 (asr (conf z4 b)
 (a0 i1 i2 (yaa (yab b 2)) (yaa (yab b 3)) (fun e =>
 (c e))))))))
 (c false))))))))))
 (fun f=>(cbr f
 (x1 true)
 (lt (IntKind.i64.wrap (i3+(1:Int))) (fun g =>
 (yfu a0 x0 x1 n l0 i1 i2 g))))))
 (x0 l0 i1 i2 i3 false))
def yu9 (a0:yap) (p0:Ls) (p1 p2:Int) (K:Bool→Prop):Prop :=
 (∃ n:Nat,yfu a0
 (fun b c d e f=>(K false))
 (fun a=>(K a))
 n p0 p1 p2 (0:Int))
def yfZ:yjB:=yu9 yaN
def yHN:Sg:=⟨(lC vD pt8),Bool→Prop,fun K=>(fun r0=>K (.bool r0))⟩
def yCi (Q:Qx):Ls→Int→Int→Int→Bool→Prop:=(fun l0 i1 i2 i3 b4=>Q (.exit 0) [(0,.v (.data l0)),(3,.box (.agg [(.int .i64 i1),(.int .i64 i2)])),(5,.v (.int .i64 i3)),(9,.v (.bool b4))] [])
def yCj (Q:Qx):Bool→Prop:=(fun b0=>Q .ret [(4,.v (.bool b0))] [])
def yv0 (a0:yap) (Q:Qx):List St:=[⟨(pS hN (fV 0 vD pt31) fN),yfu a0 (yCi Q) (yCj Q)⟩]
def yAA (a0:yap):LP:=lpS [(81840800,yv0 a0)]
def yva (e:Es) (a0:yap):SE:=sE (E e) [(yeZ,ytf.pw a0)] (yAA a0)
theorem yyH (e:Es) (he:EG e):SEOk (Uni (E e)) (yva e yaN):=yaz (Sub.uni _) ⟨(yib e he),trivial⟩ trivial he.ok
theorem yzT (e:Es) (a0):ybS (yva e a0) 5 a yrI false (yv0 a0):=fun _=>⟨fun _=>by kernel_rfl,fun _ _=>by kernel_rfl,trivial⟩
theorem yzU (e:Es) (he:EG e):LpT (Uni (E e)) (yAA yaN) [] 81840800 (.loop 81840800 yrI):=fun _ _ _=>yn7.st (Sub.uni _) (yaU (yyH e he) 5) (YOk.no _ _) (yat (by kernel_rfl)) (yzT e _ _)
theorem yHO (e:Es) (a0):EqW (yva e a0) 6 yDM yHN (yu9 a0):=fun _ _=>by kernel_rfl
theorem yAB (e:Es) (he:EG e):OkF (E e) (yHN.pw yfZ) ysV:=okU he (yHO e _) (yyH e he) ynj.flat (yba (l:=[(81840800,.loop 81840800 yrI)]) ⟨yzU e he,trivial⟩ (by kernel_rfl))
abbrev ymX:Type:=Ls→Ls→Int→(Ls→Prop)→Prop
mutual
def ycl (a0:ygl) (a1:yjB) (x0:Ls→Ls→Int→Ls→Int→Bool→Prop) (x1:Ls→Ls→Ls→Int→Ls→Int→Bool→Prop):Nat→Ls→Ls→Int→Ls→Int→Prop
 | 0,_,_,_,_,_=>False
 | n+1,l0,l1,i2,l3,i4 =>
 (lt (IntKind.i64.wrap (i4+(1:Int))) (fun k =>
 (cbr (decide (k<(((List.length l3):Nat):Int)))
 (asr (decide ((0:Int)≤i4))
 (asr (decide (i4<(((List.length l3):Nat):Int)))
 (lt (List.getD l3 (i4.toNat) .nils) (fun c =>
 (asr (conf z2 c)
 (a1 l0 (yaa (yab c 0)) (yaa (yab c 1)) (fun d =>
 (asr (decide ((0:Int)≤i4))
 (asr (decide (i4<(((List.length l3):Nat):Int)))
 (lt (List.getD l3 (i4.toNat) .nils) (fun e =>
 (asr (conf z2 e)
 (a1 l1 (yaa (yab e 0)) (yaa (yab e 1)) (fun f =>
 (jn (fun (j:Bool→Prop) =>
 (cbr d
 (j true)
 (j f)))
 (fun l=>(jn (fun (g:Bool→Prop) =>
 (cbr (i2 ==(1:Int))
 (cbr d
 (g f)
 (g false))
 (g l)))
 (fun m=>(jn (fun (h:Bool→Prop) =>
 (cbr (i2 ==(2:Int))
 (cbr d
 (h (!f))
 (h false))
 (h m)))
 (fun o=>(cbr (!o)
 (lt (IntKind.i64.wrap (i4+(1:Int))) (fun p =>
 (ycl a0 a1 x0 x1 n l0 l1 i2 l3 p)))
 (asr (decide ((0:Int)≤i4))
 (asr (decide (i4<(((List.length l3):Nat):Int)))
 (lt (List.getD l3 (i4.toNat) .nils) (fun a =>
 (asr (conf z2 a)
 (lt (IntKind.i64.wrap (i4+(1:Int))) (fun i =>
 (asr (decide ((0:Int)≤i))
 (asr (decide (i<(((List.length l3):Nat):Int)))
 (lt (List.getD l3 (i.toNat) .nils) (fun b =>
 (asr (conf z2 b)
 (lt (IntKind.i64.wrap (i4+(1:Int))) (fun q =>
 (asr (decide (1=List.length ([(.agg [(.int .i64 (yaa (yab a 0))),(.int .i64 (yaa (yab a 1))),(.int .i64 (yaa (yab b 0))),(.int .i64 (yaa (yab b 1)))])]:Ls))&&decide (1=List.length ([(.agg [(.int .i64 (yaa (yab a 0))),(.int .i64 (yaa (yab a 1))),(.int .i64 (yaa (yab b 0))),(.int .i64 (yaa (yab b 1)))])]:Ls)))
 (ycm a0 a1 x0 x1 n ([(.agg [(.int .i64 (yaa (yab a 0))),(.int .i64 (yaa (yab a 1))),(.int .i64 (yaa (yab b 0))),(.int .i64 (yaa (yab b 1)))])]:Ls) l0 l1 i2 l3 q)))))))))))))))))))))))))))))))))))))
 (x0 l0 l1 i2 l3 i4 false))))
def ycm (a0:ygl) (a1:yjB) (x0:Ls→Ls→Int→Ls→Int→Bool→Prop) (x1:Ls→Ls→Ls→Int→Ls→Int→Bool→Prop):Nat→Ls→Ls→Ls→Int→Ls→Int→Prop
 | 0,_,_,_,_,_,_=>False
 | n+1,l0,l1,l2,i3,l4,i7 =>
 (lt (IntKind.i64.wrap (i7+(1:Int))) (fun v =>
 (cbr (decide (v<(((List.length l4):Nat):Int)))
 (jn (fun (s:Ls→Prop) =>
 (asr (decide ((0:Int)≤i7))
 (asr (decide (i7<(((List.length l4):Nat):Int)))
 (lt (List.getD l4 (i7.toNat) .nils) (fun f =>
 (asr (conf z2 f)
 (a1 l1 (yaa (yab f 0)) (yaa (yab f 1)) (fun g =>
 (asr (decide ((0:Int)≤i7))
 (asr (decide (i7<(((List.length l4):Nat):Int)))
 (lt (List.getD l4 (i7.toNat) .nils) (fun h =>
 (asr (conf z2 h)
 (a1 l2 (yaa (yab h 0)) (yaa (yab h 1)) (fun i =>
 (jn (fun (t:Bool→Prop) =>
 (cbr g
 (t true)
 (t i)))
 (fun w=>(jn (fun (j:Bool→Prop) =>
 (cbr (i3 ==(1:Int))
 (cbr g
 (j i)
 (j false))
 (j w)))
 (fun x=>(jn (fun (k:Bool→Prop) =>
 (cbr (i3 ==(2:Int))
 (cbr g
 (k (!i))
 (k false))
 (k x)))
 (fun y=>(cbr (!y)
 (s l0)
 (jn (fun (u:Bool→Prop) =>
 (cbr (decide ((((List.length l0):Nat):Int)>(0:Int)))
 (lt (IntKind.i64.wrap ((((List.length l0):Nat):Int)-(1:Int))) (fun e =>
 (asr (decide ((0:Int)≤e))
 (asr (decide (e<(((List.length l0):Nat):Int)))
 (asr (decide ((List.length l0)=(List.length l0)))
 (asr (decide ((0+(e.toNat))<(List.length l0)))
 (lt (List.getD l0 (0+(e.toNat)) .nils) (fun l =>
 (asr (conf z4 l)
 (asr (decide ((0:Int)≤i7))
 (asr (decide (i7<(((List.length l4):Nat):Int)))
 (lt (List.getD l4 (i7.toNat) .nils) (fun m =>
 (asr (conf z2 m)
 (u (((yaa (yab l 2)) ==(yaa (yab m 0)))&&(((yaa (yab l 3)) ==(yaa (yab m 1)))&&true)))))))))))))))))
 (u false)))
 (fun z=>(cbr z
 (lt (IntKind.i64.wrap ((((List.length l0):Nat):Int)-(1:Int))) (fun a =>
 (lt (IntKind.i64.wrap (i7+(1:Int))) (fun o =>
 (asr (decide ((0:Int)≤o))
 (asr (decide (o<(((List.length l4):Nat):Int)))
 (lt (List.getD l4 (o.toNat) .nils) (fun b =>
 (asr (conf z2 b)
 (asr (decide ((0:Int)≤a))
 (asr (decide (a<(((List.length l0):Nat):Int)))
 (asr (decide ((List.length l0)=(List.length l0)))
 (asr (decide ((0+(a.toNat))<(List.length l0)))
 (lt (List.getD l0 (0+(a.toNat)) .nils) (fun c =>
 (asr (conf z4 c)
 (lt (IntKind.i64.wrap (i7+(1:Int))) (fun A =>
 (asr (decide ((List.length l0)=List.length (List.set l0 (0+(a.toNat)) (.agg [(.int .i64 (yaa (yab c 0))),(.int .i64 (yaa (yab c 1))),(.int .i64 (yaa (yab b 0))),(.int .i64 (yaa (yab b 1)))])))&&decide ((List.length l0)=List.length (List.set l0 (0+(a.toNat)) (.agg [(.int .i64 (yaa (yab c 0))),(.int .i64 (yaa (yab c 1))),(.int .i64 (yaa (yab b 0))),(.int .i64 (yaa (yab b 1)))]))))
 (ycm a0 a1 x0 x1 n (List.set l0 (0+(a.toNat)) (.agg [(.int .i64 (yaa (yab c 0))),(.int .i64 (yaa (yab c 1))),(.int .i64 (yaa (yab b 0))),(.int .i64 (yaa (yab b 1)))])) l1 l2 i3 l4 A))))))))))))))))))))
 (asr (decide ((0:Int)≤i7))
 (asr (decide (i7<(((List.length l4):Nat):Int)))
 (lt (List.getD l4 (i7.toNat) .nils) (fun p =>
 (asr (conf z2 p)
 (lt (IntKind.i64.wrap (i7+(1:Int))) (fun q =>
 (asr (decide ((0:Int)≤q))
 (asr (decide (q<(((List.length l4):Nat):Int)))
 (lt (List.getD l4 (q.toNat) .nils) (fun r =>
 (asr (conf z2 r)
 (asr (decide ((List.length l0)=(List.length l0)))
 (asr (decide ((0+(List.length l0))≤(List.length l0)))
 (asr (!(decide (((0+(List.length l0))+1)≤(List.length l0))))
 (asr (decide ((List.length l0)=(List.length l0)))
 (asr (decide ((((List.length l0)+1)+64)*(32+1)≤room))
 (s (l0++([(.agg [(.int .i64 (yaa (yab p 0))),(.int .i64 (yaa (yab p 1))),(.int .i64 (yaa (yab r 0))),(.int .i64 (yaa (yab r 1)))])]:Ls)))))))))))))))))))))))))))))))))))))))))))))
 (fun d=>(lt (IntKind.i64.wrap (i7+(1:Int))) (fun B =>
 (asr (decide ((List.length d)=List.length d)&&decide ((List.length d)=List.length d))
 (ycm a0 a1 x0 x1 n d l1 l2 i3 l4 B))))))
 (x1 l0 l1 l2 i3 l4 i7 false))))
end
def ykY (a0:ygl) (a1:yjB) (p0 p1:Ls) (p2:Int) (K:Ls→Prop):Prop :=
 (a0 p0 p1 (fun b =>
 (∃ n:Nat,ycl a0 a1
 (fun c d e f g h=>(K ([]:Ls)))
 (fun a i j k l m o=>(asr (decide ((List.length a)=(List.length a)))
 (asr (decide ((0+(List.length a))≤(List.length a)))
 (K (List.take (List.length a) a)))))
 n p0 p1 p2 b (0:Int))))
def yfv:ymX:=ykY ydA yfZ
def yzV:Sg:=⟨(lC vD (lC vD pt1)),Ls→Prop,fun K=>(fun r0=>K (.data r0))⟩
def ylD (Q:Qx):Ls→Ls→Int→Ls→Int→Bool→Prop:=(fun l0 l1 i2 l3 i4 b5=>Q (.exit 0) [(0,.v (.data l0)),(1,.v (.data l1)),(2,.v (.int .i64 i2)),(7,.v (.data l3)),(8,.v .nils),(9,.v (.int .i64 i4)),(20,.v (.bool b5))] [])
def ylE (Q:Qx):Ls→Ls→Ls→Int→Ls→Int→Bool→Prop:=(fun l0 l1 l2 i3 l4 i7 b8=>Q (.exit 0) [(0,.v (.data l1)),(1,.v (.data l2)),(2,.v (.int .i64 i3)),(7,.v (.data l4)),(8,.v (.own 0 0 (List.length l0) (List.length l0) none)),(9,.v (.int .i64 i7)),(20,.v (.bool b8))] [⟨false,true,4,l0⟩])
def ynB (a0:ygl) (a1:yjB) (Q:Qx):List St:=[⟨(pS hN (fV 0 vD (fV 1 vD (fV 2 pt0 (fV 7 vD (fV 8 vNs (fV 9 pt0 fN)))))) fN),ycl a0 a1 (ylD Q) (ylE Q)⟩,⟨(pS pt22 (fV 0 vD (fV 1 vD (fV 2 pt0 (fV 7 vD (fV 8 pt23 (fV 9 pt0 fN)))))) fN),ycm a0 a1 (ylD Q) (ylE Q)⟩]
def yqQ (a0:ygl) (a1:yjB):LP:=lpS [(37905300,ynB a0 a1)]
def ykZ (e:Es) (a0:ygl) (a1:yjB):SE:=sE (E e) [(ymj,yD7.pw a0),(ysV,yHN.pw a1)] (yqQ a0 a1)
theorem yo3 (e:Es) (he:EG e):SEOk (Uni (E e)) (ykZ e ydA yfZ):=yaz (Sub.uni _) ⟨(yvZ e he),(yAB e he),trivial⟩ trivial he.ok
theorem ytI (e:Es) (a0 a1):ybS (ykZ e a0 a1) 5 a yrJ false (ynB a0 a1):=fun _=>⟨fun _=>by kernel_rfl,fun _ _=>by kernel_rfl,fun _=>by kernel_rfl,fun _ _=>by kernel_rfl,trivial⟩
theorem ytJ (e:Es) (he:EG e):LpT (Uni (E e)) (yqQ ydA yfZ) [] 37905300 (.loop 37905300 yrJ):=fun _ _ _=>yn7.st (Sub.uni _) (yaU (yo3 e he) 5) (YOk.no _ _) (yat (by kernel_rfl)) (ytI e _ _ _)
theorem yzW (e:Es) (a0 a1):EqW (ykZ e a0 a1) 6 ys4 yzV (ykY a0 a1):=fun _ _=>by kernel_rfl
theorem yqR (e:Es) (he:EG e):OkF (E e) (yzV.pw yfv) yiM:=okU he (yzW e _ _) (yo3 e he) ynj.flat (yba (l:=[(37905300,.loop 37905300 yrJ)]) ⟨ytJ e he,trivial⟩ (by kernel_rfl))
abbrev yvb:Type:=Ls→Ls→Int→(Ls→Int→Prop)→Prop
def ysb (a0:yau) (a1:ymX) (p0 p1:Ls) (p2:Int) (K:Ls→Int→Prop):Prop :=
 (a0 p0 p1 (fun b =>
 (cbr (b !=(0:Int))
 (a0 p0 p1 (fun c =>
 (K ([]:Ls) c)))
 (a1 p0 p1 p2 (fun a =>
 (cbr (decide ((((List.length a):Nat):Int)>(60:Int)))
 (K ([]:Ls) (4:Int))
 (K a (0:Int))))))))
def ypC:yvb:=ysb ymV yfv
def yFv:Sg:=⟨(lC vD (lC vD pt1)),Ls→Int→Prop,fun K=>(fun r0 r1=>K (.tup [(.data r0),(.int .i64 r1)]))⟩
def yFw (e:Es) (a0:yau) (a1:ymX):SE:=sE (E e) [(ymi,yvY.pw a0),(yiM,yzV.pw a1)] lp0
theorem yFx (e:Es) (a0 a1):EqW (yFw e a0 a1) 6 yHJ yFv (ysb a0 a1):=fun _ _=>by kernel_rfl
theorem yFy (e:Es) (he:EG e):OkF (E e) (yFv.pw ypC) ypA:=okU he (yFx e _ _) (yaz (Sub.uni _) ⟨(yD6 e he),(yqR e he),trivial⟩ trivial he.ok) ynj.flat (yat (by kernel_rfl))
abbrev ygy:Type:=Ls→Ls→(Ls→Int→Prop)→Prop
def ymY (a0:yvb) (p0 p1:Ls) (K:Ls→Int→Prop):Prop :=
 (a0 p0 p1 (2:Int) (fun a b =>
 (K a b)))
def yc2:ygy:=ymY ypC
def yCk:Sg:=⟨pt13,Ls→Int→Prop,fun K=>(fun r0 r1=>K (.tup [(.data r0),(.int .i64 r1)]))⟩
def yCl (e:Es) (a0:yvb):SE:=sE (E e) [(ypA,yFv.pw a0)] lp0
theorem yCm (e:Es) (a0):EqW (yCl e a0) 6 yDN yCk (ymY a0):=fun _ _=>by kernel_rfl
theorem yCn (e:Es) (he:EG e):OkF (E e) (yCk.pw yc2) ykl:=okU he (yCm e _) (yaz (Sub.uni _) ⟨(yFy e he),trivial⟩ trivial he.ok) ynj.flat (yat (by kernel_rfl))
set_option linter.unusedVariables false
theorem yCo (p0:Ls) (p1:Ls) (r0:Bool) (h:∀ K:Bool→Prop,K r0→ydz p0 p1 K) (K:Bool→Prop):ydz p0 p1 K=K r0 :=
 propext ⟨fun k=>detC (yvV [] ya8) (az:=[(.data p0),(.data p1)]) (x:=(.bool r0)) (fun K' k'=>h (fun r0=>K' (.bool r0)) k') (K:=fun x=>match x with | (.bool r0)=>K r0 | _=>False) k,h K⟩
theorem yCp (p0:Ls) (p1:Ls) (r0:Bool) (h:∀ K:Bool→Prop,K r0→ygk p0 p1 K) (K:Bool→Prop):ygk p0 p1 K=K r0 :=
 propext ⟨fun k=>detC (yvX [] ya8) (az:=[(.agg [(.data p0)]),(.agg [(.data p1)])]) (x:=(.bool r0)) (fun K' k'=>h (fun r0=>K' (.bool r0)) k') (K:=fun x=>match x with | (.bool r0)=>K r0 | _=>False) k,h K⟩
theorem yzX (p0:Ls) (r0:Int) (h:∀ K:Int→Prop,K r0→ygw p0 K) (K:Int→Prop):ygw p0 K=K r0 :=
 propext ⟨fun k=>detC (ytG [] ya8) (az:=[(.data p0)]) (x:=(.int .i64 r0)) (fun K' k'=>h (fun r0=>K' (.int .i64 r0)) k') (K:=fun x=>match x with | (.int .i64 r0)=>K r0 | _=>False) k,h K⟩
theorem yCq (p0:Ls) (p1:Ls) (r0:Ls) (h:∀ K:Ls→Prop,K r0→ydA p0 p1 K) (K:Ls→Prop):ydA p0 p1 K=K r0 :=
 propext ⟨fun k=>detC (yvZ [] ya8) (az:=[(.data p0),(.data p1)]) (x:=(.data r0)) (fun K' k'=>h (fun r0=>K' (.data r0)) k') (K:=fun x=>match x with | (.data r0)=>K r0 | _=>False) k,h K⟩
theorem yFz (p0:Ls) (p1:Int) (p2:Int) (r0:Bool) (h:∀ K:Bool→Prop,K r0→yfZ p0 p1 p2 K) (K:Bool→Prop):yfZ p0 p1 p2 K=K r0 :=
 propext ⟨fun k=>detC (yAB [] ya8) (az:=[(.data p0),(.agg [(.int .i64 p1),(.int .i64 p2)])]) (x:=(.bool r0)) (fun K' k'=>h (fun r0=>K' (.bool r0)) k') (K:=fun x=>match x with | (.bool r0)=>K r0 | _=>False) k,h K⟩
theorem yyI (p0:Ls) (p1:Ls) (p2:Int) (r0:Ls) (h:∀ K:Ls→Prop,K r0→yfv p0 p1 p2 K) (K:Ls→Prop):yfv p0 p1 p2 K=K r0 :=
 propext ⟨fun k=>detC (yqR [] ya8) (az:=[(.data p0),(.data p1),(.int .i64 p2)]) (x:=(.data r0)) (fun K' k'=>h (fun r0=>K' (.data r0)) k') (K:=fun x=>match x with | (.data r0)=>K r0 | _=>False) k,h K⟩
set_option maxHeartbeats 0
def yhJ (a0:yau) (p0 p1:Ls) (K:Int→Prop):Prop :=
 (a0 p0 p1 (fun a =>
 (cbr (a !=(0:Int))
 (K a)
 (cbr ((((List.length p0):Nat):Int) !=(3:Int))
 (K (2:Int))
 (K (0:Int))))))
def yao:yau:=yhJ yc1
def yvc (e:Es) (a0:yau):SE:=sE (E e) [(yeR,ymF.pw a0)] lp0
theorem yvd (e:Es) (a0):EqW (yvc e a0) 6 ywe ymF (yhJ a0):=fun _ _=>by kernel_rfl
theorem yhK (e:Es) (he:EG e):OkF (E e) (ymF.pw yao) ydh:=okU he (yvd e _) (yaz (Sub.uni _) ⟨(yg3 e he),trivial⟩ trivial he.ok) ynj.flat (yat (by kernel_rfl))
def ynC (p0:Int) (K:Int→Int→Prop):Prop :=
 (K p0 (1:Int))
def yaI:yaH:=ynC
def ywP (e:Es):SE:=sE (E e) [] lp0
theorem ywQ (e:Es):EqW (ywP e) 6 yx9 yhY ynC:=fun _ _=>by kernel_rfl
theorem yit (e:Es) (he:EG e):OkF (E e) (yhY.pw yaI) ydN:=okU he (ywQ e) (yaz (Sub.uni _) trivial trivial he.ok) ynj.flat (yat (by kernel_rfl))
def yjC (p0 p1:Int) (K:Int→Prop):Prop :=
 (cbr (p1 !=(0:Int))
 False
 (K p0))
def yhb:yaK:=yjC
def ysc (e:Es):SE:=sE (E e) [] lp0
theorem ysd (e:Es):EqW (ysc e) 6 ysY yh9 yjC:=fun _ _=>by kernel_rfl
theorem yse (e:Es) (he:EG e):OkF (E e) (yh9.pw yhb) yeI:=okU he (ysd e) (yaz (Sub.uni _) trivial trivial he.ok) ynj.flat (yat (by kernel_rfl))
abbrev ya2:Type:=Ls→Ls→Int→(Int→Int→Ls→Ls→Prop)→Prop
def yeA (a0:yoD) (a1:yaK) (a2:yaH) (p0 p1:Ls) (p2:Int) (K:Int→Int→Ls→Ls→Prop):Prop :=
 (a0 p0 p1 p2 (fun a b =>
 (a1 a b (fun c =>
 (a2 c (fun d e =>
 (K d e p0 p1)))))))
def yav:ya2:=yeA ykr yhb yaI
def ydc (w:ya2) (az:Ls) (b:HB) (K:PV→Ls→Prop):Prop :=
 match az,b with
 | [(.ptr 0 1 0 0),(.int .i64 p2)],⟨false,true,2,[(.agg [(.data p0),(.data p1)])]⟩=>w p0 p1 p2 (fun r0 r1 r2 r3=>K (.agg [(.int .i64 r0),(.int .i64 r1)]) [(.agg [(.data r2),(.data r3)])])
 | _,_=>False
def yhl (az:Ls) (b:HB) (K:PV→Ls→Prop):Prop:=ydc yav az b K
def yhm (e:Es) (a0:yoD) (a1:yaK) (a2:yaH):SE:=sE (E e) [(ykd,yBV.pw a0),(yeI,yh9.pw a1),(ydN,yhY.pw a2)] lp0
theorem ymZ (e:Es) (he:EG e):SEOk (Uni (E e)) (yhm e ykr yhb yaI):=yaz (Sub.uni _) ⟨(yBY e he),(yse e he),(yit e he),trivial⟩ trivial he.ok
theorem ynP (e:Es) (a0 a1 a2 p0 p1 p2 K):WPL (yhm e a0 a1 a2) 6 yod [(.ptr 0 1 0 0),(.int .i64 p2)] ⟨false,true,2,[(.agg [(.data p0),(.data p1)])]⟩ K=yeA a0 a1 a2 p0 p1 p2 (fun r0 r1 r2 r3=>K (.agg [(.int .i64 r0),(.int .i64 r1)]) [(.agg [(.data r2),(.data r3)])]):=by kernel_rfl
theorem yhn (e:Es) (he:EG e):OkL (E e) yhl ycs:=by
 intro az b K h
 unfold yhl ydc at h
 split at h
 ·exact yx0 (ymZ e he) ynj.flat (yat (by kernel_rfl)) (by kernel_rfl) (he.num _ (by kernel_rfl)) ((ynP ..).mpr h)
 ·exact h.elim
def yf0 (p0 p1 p2:Int) (K:Int→Int→Prop):Prop :=
 (cbr (p2 !=(0:Int))
 False
 (K p0 p1))
def yac:yaY:=yf0
def yk1:Sg:=⟨(lC pt7 pt1),Int→Int→Prop,fun K=>(fun r0 r1=>K (.agg [(.int .i64 r0),(.int .i64 r1)]))⟩
def yk2 (e:Es):SE:=sE (E e) [] lp0
theorem yk3 (e:Es):EqW (yk2 e) 6 yls yk1 yf0:=fun _ _=>by kernel_rfl
theorem ybm (e:Es) (he:EG e):OkF (E e) (yk1.pw yac) ya3:=okU he (yk3 e) (yaz (Sub.uni _) trivial trivial he.ok) ynj.flat (yat (by kernel_rfl))
abbrev yaX:Type:=Ls→Ls→Int→Int→Int→Int→Int→(Int→Int→Ls→Ls→Prop)→Prop
def yfd (a0:ya1) (a1:yaY) (p0 p1:Ls) (p2 p3 p4 p5 p6:Int) (K:Int→Int→Ls→Ls→Prop):Prop :=
 (a0 p0 p1 p2 p3 p4 p5 p6 (fun c d a b e =>
 (a1 a b e (fun f g =>
 (K a b c d)))))
def yar:yaX:=yfd ye7 yac
def ycz (w:yaX) (az:Ls) (b:HB) (K:PV→Ls→Prop):Prop :=
 match az,b with
 | [(.ptr 0 1 0 0),(.int .i64 p2),(.agg [(.int .i64 p3),(.int .i64 p4)]),(.agg [(.int .i64 p5),(.int .i64 p6)])],⟨false,true,2,[(.agg [(.data p0),(.data p1)])]⟩=>w p0 p1 p2 p3 p4 p5 p6 (fun r0 r1 r2 r3=>K (.agg [(.int .i64 r0),(.int .i64 r1)]) [(.agg [(.data r2),(.data r3)])])
 | _,_=>False
def yic (az:Ls) (b:HB) (K:PV→Ls→Prop):Prop:=ycz yar az b K
def yid (e:Es) (a0:ya1) (a1:yaY):SE:=sE (E e) [(ymd,yvR.pw a0),(ya3,yk1.pw a1)] lp0
theorem ynQ (e:Es) (he:EG e):SEOk (Uni (E e)) (yid e ye7 yac):=yaz (Sub.uni _) ⟨(yvS e he),(ybm e he),trivial⟩ trivial he.ok
theorem yo4 (e:Es) (a0 a1 p0 p1 p2 p3 p4 p5 p6 K):WPL (yid e a0 a1) 6 ypM [(.ptr 0 1 0 0),(.int .i64 p2),(.agg [(.int .i64 p3),(.int .i64 p4)]),(.agg [(.int .i64 p5),(.int .i64 p6)])] ⟨false,true,2,[(.agg [(.data p0),(.data p1)])]⟩ K=yfd a0 a1 p0 p1 p2 p3 p4 p5 p6 (fun r0 r1 r2 r3=>K (.agg [(.int .i64 r0),(.int .i64 r1)]) [(.agg [(.data r2),(.data r3)])]):=by kernel_rfl
theorem yfe (e:Es) (he:EG e):OkL (E e) yic ybW:=by
 intro az b K h
 unfold yic ycz at h
 split at h
 ·exact yx0 (ynQ e he) ynj.flat (yat (by kernel_rfl)) (by kernel_rfl) (he.num _ (by kernel_rfl)) ((yo4 ..).mpr h)
 ·exact h.elim
abbrev yaw:Type:=Ls→Ls→Int→Int→Int→Int→Int→(Int→Int→Int→Int→Ls→Ls→Prop)→Prop
def yei (a0:yaq) (a1:yaY) (a2:yaX) (p0 p1:Ls) (p2 p3 p4 p5 p6:Int) (K:Int→Int→Int→Int→Ls→Ls→Prop):Prop :=
 (a0 p5 p6 (1:Int) (3:Int) (fun a b c =>
 (a1 a b c (fun d e =>
 (a2 p0 p1 p2 p3 p4 d e (fun f g h i =>
 (a0 p5 p6 (2:Int) (3:Int) (fun j k l =>
 (a1 j k l (fun m n =>
 (a2 h i p2 p3 p4 m n (fun o p q r =>
 (K f g o p q r)))))))))))))
def yad:yaw:=yei ya7 yac yar
def ybx (w:yaw) (az:Ls) (b:HB) (K:PV→Ls→Prop):Prop :=
 match az,b with
 | [(.ptr 0 1 0 0),(.int .i64 p2),(.agg [(.int .i64 p3),(.int .i64 p4)]),(.agg [(.int .i64 p5),(.int .i64 p6)])],⟨false,true,2,[(.agg [(.data p0),(.data p1)])]⟩=>w p0 p1 p2 p3 p4 p5 p6 (fun r0 r1 r2 r3 r4 r5=>K (.tup [(.agg [(.int .i64 r0),(.int .i64 r1)]),(.agg [(.int .i64 r2),(.int .i64 r3)])]) [(.agg [(.data r4),(.data r5)])])
 | _,_=>False
def yhc (az:Ls) (b:HB) (K:PV→Ls→Prop):Prop:=ybx yad az b K
def yhd (e:Es) (a0:yaq) (a1:yaY) (a2:yaX):SE:=⟨(E e),yfU [(yd0,yiN.pw a0),(ya3,yk1.pw a1)],yfV [],lp0,yln [(ybW,ycz a2)]⟩
theorem ylF (e:Es) (he:EG e):SEOk (Uni (E e)) (yhd e ya7 yac yar):=yh5 (Sub.uni _) ⟨(yfq e he),(ybm e he),trivial⟩ trivial he.ok ⟨(yfe e he),trivial⟩
theorem ym0 (e:Es) (a0 a1 a2 p0 p1 p2 p3 p4 p5 p6 K):WPL (yhd e a0 a1 a2) 6 ynH [(.ptr 0 1 0 0),(.int .i64 p2),(.agg [(.int .i64 p3),(.int .i64 p4)]),(.agg [(.int .i64 p5),(.int .i64 p6)])] ⟨false,true,2,[(.agg [(.data p0),(.data p1)])]⟩ K=yei a0 a1 a2 p0 p1 p2 p3 p4 p5 p6 (fun r0 r1 r2 r3 r4 r5=>K (.tup [(.agg [(.int .i64 r0),(.int .i64 r1)]),(.agg [(.int .i64 r2),(.int .i64 r3)])]) [(.agg [(.data r4),(.data r5)])]):=by kernel_rfl
theorem ycU (e:Es) (he:EG e):OkL (E e) yhc ybq:=by
 intro az b K h
 unfold yhc ybx at h
 split at h
 ·exact yx0 (ylF e he) ynj.flat (yat (by kernel_rfl)) (by kernel_rfl) (he.num _ (by kernel_rfl)) ((ym0 ..).mpr h)
 ·exact h.elim
def ycG (a0:ycb) (x0:Ls→Int→Ls→Int→Int→Bool→Prop):Nat→Ls→Int→Ls→Int→Int→Prop
 | 0,_,_,_,_,_=>False
 | n+1,l0,i1,l2,i3,i4 =>
 (cbr (decide (i4<i3))
 (jn (fun (d:Int→Prop) =>
 (asr (decide ((0:Int)≤i4))
 (asr (decide (i4<(((List.length l2):Nat):Int)))
 (lt (List.getD l2 (i4.toNat) .nils) (fun a =>
 (asr (conf zI a)
 (asr (decide ((0:Int)≤(yaa a)))
 (asr (decide ((yaa a)<(((List.length l0):Nat):Int)))
 (lt (List.getD l0 ((yaa a).toNat) .nils) (fun b =>
 (asr (conf z2 b)
 (asr (decide ((0:Int)≤i1))
 (asr (decide (i1<(((List.length l0):Nat):Int)))
 (lt (List.getD l0 (i1.toNat) .nils) (fun c =>
 (asr (conf z2 c)
 (a0 (yaa (yab b 0)) (yaa (yab b 1)) (yaa (yab c 0)) (yaa (yab c 1)) (fun e h =>
 (cbr (decide (e>(0:Int)))
 (d (yaa a))
 (d i1))))))))))))))))))))
 (fun f=>(lt (IntKind.i64.wrap (i4+(1:Int))) (fun g =>
 (ycG a0 x0 n l0 f l2 i3 g)))))
 (x0 l0 i1 l2 i3 i4 false))
def yjD (a0:ycb) (p0 p1:Ls) (K:Int→Prop):Prop :=
 (asr (decide ((0:Int)<(((List.length p1):Nat):Int)))
 (lt (List.getD p1 0 .nils) (fun a =>
 (asr (conf zI a)
 (∃ n:Nat,ycG a0
 (fun c b d e f g=>(K b))
 n p0 (yaa a) p1 (((List.length p1):Nat):Int) (0:Int))))))
def yal:yau:=yjD ybL
def ytK (Q:Qx):Ls→Int→Ls→Int→Int→Bool→Prop:=(fun l0 i1 l2 i3 i4 b5=>Q (.exit 0) [(0,.v (.data l0)),(5,.v (.int .i64 i1)),(13,.v (.data l2)),(14,.v (.int .i64 i3)),(15,.v (.int .i64 i4)),(16,.v (.bool b5))] [])
def pt34:Pat Frm:=fV 14 pt0 (fV 15 pt0 fN)
def pt35:Pat Frm:=fV 13 vD pt34
def ylG (a0:ycb) (Q:Qx):List St:=[⟨(pS hN (fV 0 vD (fV 5 pt0 pt35)) fN),ycG a0 (ytK Q)⟩]
def yo5 (a0:ycb):LP:=lpS [(12610200,ylG a0)]
def yjE (e:Es) (a0:ycb):SE:=sE (E e) [(yeT,yBH.pw a0)] (yo5 a0)
theorem ynD (e:Es) (he:EG e):SEOk (Uni (E e)) (yjE e ybL):=yaz (Sub.uni _) ⟨(yg0 e he),trivial⟩ trivial he.ok
theorem ysf (e:Es) (a0):ybS (yjE e a0) 5 a yrt false (ylG a0):=fun _=>⟨fun _=>by kernel_rfl,fun _ _=>by kernel_rfl,trivial⟩
theorem ysg (e:Es) (he:EG e):LpT (Uni (E e)) (yo5 ybL) [] 12610200 (.loop 12610200 yrt):=fun _ _ _=>yn7.st (Sub.uni _) (yaU (ynD e he) 5) (YOk.no _ _) (yat (by kernel_rfl)) (ysf e _ _)
theorem yyJ (e:Es) (a0):EqW (yjE e a0) 6 yqq yvY (yjD a0):=fun _ _=>by kernel_rfl
theorem yff (e:Es) (he:EG e):OkF (E e) (yvY.pw yal) ydy:=okU he (yyJ e _) (ynD e he) ynj.flat (yba (l:=[(12610200,.loop 12610200 yrt)]) ⟨ysg e he,trivial⟩ (by kernel_rfl))
def yfN (a:Ls→Int→Ls→Int→Int→Bool→Prop) (b:Ls→Int→Bool→Prop):Nat→Ls→Int→Ls→Int→Int→Prop
 | 0,_,_,_,_,_=>False
 | d+1,l0,i1,l2,i3,i4 =>
 (cbr (decide (i4<i3))
 (asr (decide ((0:Int)≤i4))
 (asr (decide (i4<(((List.length l2):Nat):Int)))
 (lt (List.getD l2 (i4.toNat) .nils) (fun c =>
 (asr (conf zI c)
 (cbr ((yaa c) == i1)
 (b l0 i1 true)
 (lt (IntKind.i64.wrap (i4+(1:Int))) (fun e =>
 (yfN a b d l0 i1 l2 i3 e)))))))))
 (a l0 i1 l2 i3 i4 false))
def yfO (a:Ls→Ls→Int→Ls→Int→Int→Bool→Prop) (b:Ls→Ls→Int→Bool→Prop):Nat→Ls→Ls→Int→Ls→Int→Int→Prop
 | 0,_,_,_,_,_,_=>False
 | d+1,l0,l1,i2,l3,i4,i5 =>
 (cbr (decide (i5<i4))
 (asr (decide ((0:Int)≤i5))
 (asr (decide (i5<(((List.length l3):Nat):Int)))
 (lt (List.getD l3 (i5.toNat) .nils) (fun c =>
 (asr (conf zI c)
 (cbr ((yaa c) == i2)
 (b l0 l1 i2 true)
 (lt (IntKind.i64.wrap (i5+(1:Int))) (fun e =>
 (yfO a b d l0 l1 i2 l3 i4 e)))))))))
 (a l0 l1 i2 l3 i4 i5 false))
def ydH (b:Ls→Ls→Nat→Nat→Int→Bool→Prop):Nat→Ls→Ls→Nat→Nat→Int→Prop
 | 0,_,_,_,_,_=>False
 | d+1,l0,l1,n2,n3,i4 =>
 (cbr (decide (i4<(3:Int)))
 (jn (fun (e:Ls→Ls→Int→Bool→Prop) =>
 (∃ g:Nat,yfO
 (fun h i j r s t u=>(e h i j false))
 (fun k l m n=>(e k l m n))
 g l0 l1 i4 l1 (((List.length l1):Nat):Int) (0:Int)))
 (fun a f c o=>(cbr (!o)
 (asr (decide ((List.length a)=n3))
 (asr (decide ((0+n2)≤n3))
 (asr (!(decide (((0+n2)+1)≤n3)))
 (asr (decide (n2=n3))
 (asr (decide (((n3+1)+64)*(8+1)≤room))
 (lt (IntKind.i64.wrap (i4+(1:Int))) (fun p =>
 (ydH b d (a++([(.int .i64 c)]:Ls)) f (List.length (a++([(.int .i64 c)]:Ls))) (List.length (a++([(.int .i64 c)]:Ls))) p))))))))
 (lt (IntKind.i64.wrap (i4+(1:Int))) (fun q =>
 (ydH b d a f n2 n3 q))))))
 (b l0 l1 n2 n3 i4 false))
def yfP (a:Ls→Int→Bool→Prop) (b:Ls→Ls→Nat→Nat→Int→Bool→Prop):Nat→Ls→Int→Prop
 | 0,_,_=>False
 | c+1,l0,i1 =>
 (cbr (decide (i1<(3:Int)))
 (jn (fun (d:Ls→Int→Bool→Prop) =>
 (∃ f:Nat,yfN
 (fun g h p q r s=>(d g h false))
 (fun i j k=>(d i j k))
 f l0 i1 l0 (((List.length l0):Nat):Int) (0:Int)))
 (fun e l m=>(cbr (!m)
 (lt (IntKind.i64.wrap (i1+(1:Int))) (fun n =>
 (ydH b c ([(.int .i64 l)]:Ls) e 1 1 n)))
 (lt (IntKind.i64.wrap (i1+(1:Int))) (fun o =>
 (yfP a b c e o))))))
 (a l0 i1 false))
def ylH (p0:Ls) (K:Ls→Prop):Prop :=
 (∃ d:Nat,yfP
 (fun e f g=>(K ([]:Ls)))
 (fun a h b c i j=>(asr (decide ((List.length a)=c))
 (asr (decide ((0+b)≤c))
 (K (List.take b a)))))
 d p0 (0:Int))
def yah:yaB:=ylH
def yp5 (Q:Qx):Ls→Int→Ls→Int→Int→Bool→Prop:=(fun l0 i1 l2 i3 i4 b5=>Q (.exit 0) [(1,.v (.ptr 1 1 0 0)),(5,.v (.data l2)),(6,.v (.int .i64 i3)),(7,.v (.int .i64 i4)),(8,.v (.bool b5))] [⟨false,true,1,([(.data l0)]:Ls)⟩,⟨false,true,1,([(.int .i64 i1)]:Ls)⟩])
def yp6 (Q:Qx):Ls→Int→Bool→Prop:=(fun l0 i1 b2=>Q .ret [(2,.v (.bool b2))] [⟨false,true,1,([(.data l0)]:Ls)⟩,⟨false,true,1,([(.int .i64 i1)]:Ls)⟩])
def yp7 (Q:Qx):Ls→Ls→Int→Ls→Int→Int→Bool→Prop:=(fun l0 l1 i2 l3 i4 i5 b6=>Q (.exit 0) [(1,.v (.ptr 3 1 0 0)),(5,.v (.data l3)),(6,.v (.int .i64 i4)),(7,.v (.int .i64 i5)),(8,.v (.bool b6))] [⟨false,true,1,([(.data l1)]:Ls)⟩,⟨false,true,1,([]:Ls)⟩,⟨false,true,1,l0⟩,⟨false,true,1,([(.int .i64 i2)]:Ls)⟩])
def yp8 (Q:Qx):Ls→Ls→Int→Bool→Prop:=(fun l0 l1 i2 b3=>Q .ret [(2,.v (.bool b3))] [⟨false,true,1,([(.data l1)]:Ls)⟩,⟨false,true,1,([]:Ls)⟩,⟨false,true,1,l0⟩,⟨false,true,1,([(.int .i64 i2)]:Ls)⟩])
def yp9 (Q:Qx):Ls→Int→Bool→Prop:=(fun l0 i1 b2=>Q (.exit 0) [(1,.v (.ptr 0 1 0 0)),(3,.v .nils),(6,.v (.int .i64 i1)),(7,.v (.bool b2))] [⟨false,true,1,([(.data l0)]:Ls)⟩])
def yiB (Q:Qx):Ls→Ls→Nat→Nat→Int→Bool→Prop:=(fun l0 l1 n2 n3 i4 b5=>Q (.exit 0) [(1,.v (.ptr 0 1 0 0)),(3,.v (.own 2 0 n2 n3 none)),(6,.v (.int .i64 i4)),(7,.v (.bool b5))] [⟨false,true,1,([(.data l1)]:Ls)⟩,⟨false,true,1,([]:Ls)⟩,⟨false,true,1,l0⟩])
def pt36:Pat Frm:=fV 5 vD (fV 6 pt0 (fV 7 pt0 fN))
def yjF (Q:Qx):List St:=[⟨(pS (hB false true 1 (rC vD rN) pt18) (fV 1 pt20 pt36) fN),yfN (yp5 Q) (yp6 Q)⟩,⟨(pS (hB false true 1 (rC vD rN) (hB false true 1 rN (hB false true 1 rA pt18))) (fV 1 (vP 3 0 (nK 1) (nK 0)) pt36) fN),fun n l1 l0 i2 l3 i4 i5=>yfO (yp7 Q) (yp8 Q) n l0 l1 i2 l3 i4 i5⟩]
def pt37:HPt:=hB false true 1 rA hN
def yjG (Q:Qx):List St:=[⟨(pS (hB false true 1 (rC vD rN) hN) (fV 1 pt19 (fV 3 vNs pt33)) fN),yfP (yp9 Q) (yiB Q)⟩,⟨(pS (hB false true 1 (rC vD rN) (hB false true 1 rN pt37)) (fV 1 pt19 (fV 3 (vW 2 (nK 0) nV nV) pt33)) fN),fun n l1 l0 n2 n3 i4=>ydH (yiB Q) n l0 l1 n2 n3 i4⟩]
def yfw:LP:=lpS [(86939300,yjF),(63461800,yjG)]
def ylI (e:Es):SE:=sE (E e) [] (yfw)
def yhL (e:Es):SE:=⟨(E e),yfU [],yfV [(ykf,ykm)],yfw,fun _=>none⟩
theorem ytL (e:Es) (he:EG e):SEOk (Uni (E e)) (ylI e):=yaz (Sub.uni _) trivial trivial he.ok
theorem yo6 (e:Es):ybS (ylI e) 5 a yru false (yjF):=fun _=>⟨fun _=>by kernel_rfl,fun _ _=>by kernel_rfl,fun _=>by kernel_rfl,fun _ _=>by kernel_rfl,trivial⟩
theorem yo7 (e:Es) (he:EG e):LpT (Uni (E e)) (yfw) [] 86939300 (.loop 86939300 yru):=fun _ _ _=>yn7.st (Sub.uni _) (yaU (ytL e he) 5) (YOk.no _ _) (yat (by kernel_rfl)) (yo6 e _)
theorem ykx (e:Es) (he:EG e):SEOk (Uni (E e)) (yhL e):=yaz (Sub.uni _) trivial ⟨⟨by kernel_rfl,by kernel_rfl,rfl,fun az=>ybR (by kernel_rfl) az,he.num _ (by kernel_rfl),by kernel_rfl,(yba (l:=[(86939300,.loop 86939300 yru)]) ⟨yo7 e he,trivial⟩ (by kernel_rfl))⟩,trivial⟩ he.ok
theorem yo8 (e:Es):ybS (yhL e) 5 a yrv true (yjG):=fun _=>⟨fun _=>by kernel_rfl,fun _ _=>by kernel_rfl,fun _=>by kernel_rfl,fun _ _=>by kernel_rfl,trivial⟩
theorem yo9 (e:Es) (he:EG e):LpT (Uni (E e)) (yfw) [] 63461800 (.lG 63461800 yrv):=fun _ _ _=>yn7.stG (Sub.uni _) (yaU (ykx e he) 5) (YOk.no _ _) (yat (by kernel_rfl)) (yo8 e _)
theorem yve (e:Es):EqW (yhL e) 6 ynp yip ylH:=fun _ _=>by kernel_rfl
theorem ydR (e:Es) (he:EG e):OkF (E e) (yip.pw yah) ycM:=okU he (yve e) (ykx e he) ynj.flat (yba (l:=[(63461800,.lG 63461800 yrv)]) ⟨yo9 e he,trivial⟩ (by kernel_rfl))
abbrev yaD:Type:=Ls→Ls→(Int→Int→Int→Int→Int→Int→Int→Int→Int→Int→Int→Int→Int→Int→Int→Int→Int→Int→Int→Int→Ls→Ls→Prop)→Prop
def ya5 (a0:yaH) (a1:ya2) (a2:yaw) (a3:ya1) (a4:yaY) (a5:yaq) (a6:yau) (a7:yaB) (a8:yaX) (x1:Ls→Ls→Ls→Int→Int→Int→Int→Int→Int→Int→Int→Int→Int→Int→Int→Int→Int→Int→Int→Int→Int→Int→Int→Int→Ls→Int→Int→Bool→Prop):Nat→Ls→Ls→Ls→Int→Int→Int→Int→Int→Int→Int→Int→Int→Int→Int→Int→Int→Int→Int→Int→Int→Int→Int→Int→Int→Ls→Int→Int→Prop
 | 0,_,_,_,_,_,_,_,_,_,_,_,_,_,_,_,_,_,_,_,_,_,_,_,_,_,_,_=>False
 | n+1,l0,l1,l2,i3,i4,i5,i6,i7,i8,i9,i10,i11,i12,i13,i14,i15,i16,i17,i18,i19,i20,i21,i22,i23,l26,i27,i28 =>
 (cbr (decide (i28<i27))
 (asr (decide ((0:Int)≤i28))
 (asr (decide (i28<(((List.length l26):Nat):Int)))
 (lt (List.getD l26 (i28.toNat) .nils) (fun a =>
 (asr (conf z4 a)
 (a3 l1 l2 i23 (yaa (yab a 0)) (yaa (yab a 1)) (yaa (yab a 2)) (yaa (yab a 3)) (fun d e f g h =>
 (a4 f g h (fun b c =>
 (asr (decide ((List.length l0)=(List.length l0)))
 (asr (decide ((0+(List.length l0))≤(List.length l0)))
 (asr (!(decide (((0+(List.length l0))+1)≤(List.length l0))))
 (asr (decide ((List.length l0)=(List.length l0)))
 (asr (decide ((((List.length l0)+1)+64)*(16+1)≤room))
 (lt (IntKind.i64.wrap (i28+(1:Int))) (fun i =>
 (asr (decide ((List.length (l0++([(.agg [(.int .i64 b),(.int .i64 c)])]:Ls)))=List.length (l0++([(.agg [(.int .i64 b),(.int .i64 c)])]:Ls)))&&decide ((List.length (l0++([(.agg [(.int .i64 b),(.int .i64 c)])]:Ls)))=List.length (l0++([(.agg [(.int .i64 b),(.int .i64 c)])]:Ls))))
 (ya5 a0 a1 a2 a3 a4 a5 a6 a7 a8 x1 n (l0++([(.agg [(.int .i64 b),(.int .i64 c)])]:Ls)) d e i3 i4 i5 i6 i7 i8 i9 i10 i11 i12 i13 i14 i15 i16 i17 i18 i19 i20 i21 i22 i23 l26 i27 i))))))))))))))))))
 (x1 l0 l1 l2 i3 i4 i5 i6 i7 i8 i9 i10 i11 i12 i13 i14 i15 i16 i17 i18 i19 i20 i21 i22 i23 l26 i27 i28 false))
def ycp (a0:yaH) (a1:ya2) (a2:yaw) (a3:ya1) (a4:yaY) (a5:yaq) (a6:yau) (a7:yaB) (a8:yaX) (x0:Ls→Ls→Int→Int→Int→Int→Int→Int→Int→Int→Int→Int→Int→Int→Int→Int→Int→Int→Int→Int→Int→Int→Int→Ls→Int→Int→Bool→Prop) (x1:Ls→Ls→Ls→Int→Int→Int→Int→Int→Int→Int→Int→Int→Int→Int→Int→Int→Int→Int→Int→Int→Int→Int→Int→Int→Ls→Int→Int→Bool→Prop):Nat→Ls→Ls→Int→Int→Int→Int→Int→Int→Int→Int→Int→Int→Int→Int→Int→Int→Int→Int→Int→Int→Int→Int→Int→Ls→Int→Int→Prop
 | 0,_,_,_,_,_,_,_,_,_,_,_,_,_,_,_,_,_,_,_,_,_,_,_,_,_,_=>False
 | n+1,l0,l1,i2,i3,i4,i5,i6,i7,i8,i9,i10,i11,i12,i13,i14,i15,i16,i17,i18,i19,i20,i21,i22,l23,i24,i25 =>
 (cbr (decide (i25<i24))
 (asr (decide ((0:Int)≤i25))
 (asr (decide (i25<(((List.length l23):Nat):Int)))
 (lt (List.getD l23 (i25.toNat) .nils) (fun a =>
 (asr (conf z4 a)
 (a3 l0 l1 i22 (yaa (yab a 0)) (yaa (yab a 1)) (yaa (yab a 2)) (yaa (yab a 3)) (fun d e f g h =>
 (a4 f g h (fun b c =>
 (lt (IntKind.i64.wrap (i25+(1:Int))) (fun i =>
 (asr (decide (1=List.length ([(.agg [(.int .i64 b),(.int .i64 c)])]:Ls))&&decide (1=List.length ([(.agg [(.int .i64 b),(.int .i64 c)])]:Ls)))
 (ya5 a0 a1 a2 a3 a4 a5 a6 a7 a8 x1 n ([(.agg [(.int .i64 b),(.int .i64 c)])]:Ls) d e i2 i3 i4 i5 i6 i7 i8 i9 i10 i11 i12 i13 i14 i15 i16 i17 i18 i19 i20 i21 i22 l23 i24 i)))))))))))))
 (x0 l0 l1 i2 i3 i4 i5 i6 i7 i8 i9 i10 i11 i12 i13 i14 i15 i16 i17 i18 i19 i20 i21 i22 l23 i24 i25 false))
def yaS (a0:yaH) (a1:ya2) (a2:yaw) (a3:ya1) (a4:yaY) (a5:yaq) (a6:yau) (a7:yaB) (a8:yaX) (x3:Ls→Ls→Ls→Ls→Int→Int→Int→Int→Int→Int→Int→Int→Int→Int→Int→Int→Int→Int→Int→Int→Int→Int→Int→Int→Int→Int→Int→Bool→Prop):Nat→Ls→Ls→Ls→Ls→Int→Int→Int→Int→Int→Int→Int→Int→Int→Int→Int→Int→Int→Int→Int→Int→Int→Int→Int→Int→Int→Int→Int→Prop
 | 0,_,_,_,_,_,_,_,_,_,_,_,_,_,_,_,_,_,_,_,_,_,_,_,_,_,_,_=>False
 | n+1,l0,l1,l2,l3,i4,i5,i6,i7,i8,i9,i10,i11,i12,i13,i14,i15,i16,i17,i18,i19,i20,i21,i22,i23,i24,i27,i28 =>
 (cbr (decide (i28<i27))
 (jn (fun (c:Int→Int→Int→Int→Prop) =>
 (cbr (decide (i28=(0:Int)))
 (c i4 i5 i6 i7)
 (cbr (decide (i28=(1:Int)))
 (c i8 i9 i10 i11)
 (cbr (decide (i28=(2:Int)))
 (c i12 i13 i14 i15)
 False))))
 (fun d e f g=>(a3 l2 l3 i24 d e f g (fun h i j k l =>
 (a4 j k l (fun a b =>
 (asr (decide ((List.length l1)=(List.length l1)))
 (asr (decide ((0+(List.length l1))≤(List.length l1)))
 (asr (!(decide (((0+(List.length l1))+1)≤(List.length l1))))
 (asr (decide ((List.length l1)=(List.length l1)))
 (asr (decide ((((List.length l1)+1)+64)*(16+1)≤room))
 (lt (IntKind.i64.wrap (i28+(1:Int))) (fun m =>
 (asr (decide ((List.length (l1++([(.agg [(.int .i64 a),(.int .i64 b)])]:Ls)))=List.length (l1++([(.agg [(.int .i64 a),(.int .i64 b)])]:Ls)))&&decide ((List.length (l1++([(.agg [(.int .i64 a),(.int .i64 b)])]:Ls)))=List.length (l1++([(.agg [(.int .i64 a),(.int .i64 b)])]:Ls))))
 (yaS a0 a1 a2 a3 a4 a5 a6 a7 a8 x3 n l0 (l1++([(.agg [(.int .i64 a),(.int .i64 b)])]:Ls)) h i i4 i5 i6 i7 i8 i9 i10 i11 i12 i13 i14 i15 i16 i17 i18 i19 i20 i21 i22 i23 i24 i27 m)))))))))))))))
 (x3 l0 l1 l2 l3 i4 i5 i6 i7 i8 i9 i10 i11 i12 i13 i14 i15 i16 i17 i18 i19 i20 i21 i22 i23 i24 i27 i28 false))
def ybC (a0:yaH) (a1:ya2) (a2:yaw) (a3:ya1) (a4:yaY) (a5:yaq) (a6:yau) (a7:yaB) (a8:yaX) (x2:Ls→Ls→Ls→Int→Int→Int→Int→Int→Int→Int→Int→Int→Int→Int→Int→Int→Int→Int→Int→Int→Int→Int→Int→Int→Int→Int→Bool→Prop) (x3:Ls→Ls→Ls→Ls→Int→Int→Int→Int→Int→Int→Int→Int→Int→Int→Int→Int→Int→Int→Int→Int→Int→Int→Int→Int→Int→Int→Int→Bool→Prop):Nat→Ls→Ls→Ls→Int→Int→Int→Int→Int→Int→Int→Int→Int→Int→Int→Int→Int→Int→Int→Int→Int→Int→Int→Int→Int→Int→Int→Prop
 | 0,_,_,_,_,_,_,_,_,_,_,_,_,_,_,_,_,_,_,_,_,_,_,_,_,_,_=>False
 | n+1,l0,l1,l2,i3,i4,i5,i6,i7,i8,i9,i10,i11,i12,i13,i14,i15,i16,i17,i18,i19,i20,i21,i22,i23,i24,i25 =>
 (cbr (decide (i25<i24))
 (jn (fun (a:Int→Int→Int→Int→Prop) =>
 (cbr (decide (i25=(0:Int)))
 (a i3 i4 i5 i6)
 (cbr (decide (i25=(1:Int)))
 (a i7 i8 i9 i10)
 (cbr (decide (i25=(2:Int)))
 (a i11 i12 i13 i14)
 False))))
 (fun d e f g=>(a3 l1 l2 i23 d e f g (fun h i j k l =>
 (a4 j k l (fun b c =>
 (lt (IntKind.i64.wrap (i25+(1:Int))) (fun m =>
 (asr (decide (1=List.length ([(.agg [(.int .i64 b),(.int .i64 c)])]:Ls))&&decide (1=List.length ([(.agg [(.int .i64 b),(.int .i64 c)])]:Ls)))
 (yaS a0 a1 a2 a3 a4 a5 a6 a7 a8 x3 n l0 ([(.agg [(.int .i64 b),(.int .i64 c)])]:Ls) h i i3 i4 i5 i6 i7 i8 i9 i10 i11 i12 i13 i14 i15 i16 i17 i18 i19 i20 i21 i22 i23 i24 m))))))))))
 (x2 l0 l1 l2 i3 i4 i5 i6 i7 i8 i9 i10 i11 i12 i13 i14 i15 i16 i17 i18 i19 i20 i21 i22 i23 i24 i25 false))
def yeB (a0:yaH) (a1:ya2) (a2:yaw) (a3:ya1) (a4:yaY) (a5:yaq) (a6:yau) (a7:yaB) (a8:yaX) (p0 p1:Ls) (K:Int→Int→Int→Int→Int→Int→Int→Int→Int→Int→Int→Int→Int→Int→Int→Int→Int→Int→Int→Int→Ls→Ls→Prop):Prop :=
 (a0 (0:Int) (fun G H =>
 (asr (decide ((0:Int)<(((List.length p0):Nat):Int)))
 (lt (List.getD p0 0 .nils) (fun X =>
 (asr (conf zK X)
 (a0 (yaa (yab X 0)) (fun vF vG =>
 (a1 p0 p1 (0:Int) (fun vH vI vJ vK =>
 (a2 vJ vK (0:Int) G H vH vI (fun w x I J vL vM =>
 (∃ n:Nat,ycp a0 a1 a2 a3 a4 a5 a6 a7 a8
 (fun vN vO vbm vbn vbo vbp vbq vbr vbs vbt vbu vbv vbw vbx vby vbz vbA vbB vbC vbD vbE vbF vbG vbH vbI vbJ vbK=>(a1 vN vO (1:Int) (fun vbL vbM vbN vbO =>
 False)))
 (fun a vP vQ h i Y Z j k va vb l m vc vd vR vS vT vU vV ve vf vg vbP vbQ vbR vbS vbT=>(a1 vP vQ (1:Int) (fun vW vX f g =>
 (asr (decide ((0:Int)<(((List.length a):Nat):Int)))
 (asr (decide ((List.length a)=(List.length a)))
 (asr (decide (0<(List.length a)))
 (lt (List.getD a 0 .nils) (fun L =>
 (asr (conf z2 L)
 (a5 vW vX (yaa (yab L 0)) (yaa (yab L 1)) (fun vY vZ v0 =>
 (a4 vY vZ v0 (fun v1 v2 =>
 (asr (decide ((1:Int)<(((List.length a):Nat):Int)))
 (asr (decide ((List.length a)=(List.length a)))
 (asr (decide (1<(List.length a)))
 (lt (List.getD a 1 .nils) (fun M =>
 (asr (conf z2 M)
 (a5 v1 v2 (yaa (yab M 0)) (yaa (yab M 1)) (fun v3 v4 v5 =>
 (a4 v3 v4 v5 (fun b c =>
 (asr (decide ((List.length a)=(List.length a)))
 (asr (decide ((0+(List.length a))≤(List.length a)))
 (asr (!(decide (((0+(List.length a))+1)≤(List.length a))))
 (asr (decide ((List.length a)=(List.length a)))
 (asr (decide ((((List.length a)+1)+64)*(16+1)≤room))
 (asr (decide ((List.length (a++([(.agg [(.int .i64 b),(.int .i64 c)])]:Ls)))=(List.length (a++([(.agg [(.int .i64 b),(.int .i64 c)])]:Ls)))))
 (asr (decide ((0+(List.length (a++([(.agg [(.int .i64 b),(.int .i64 c)])]:Ls))))≤(List.length (a++([(.agg [(.int .i64 b),(.int .i64 c)])]:Ls)))))
 (a6 (List.take (List.length (a++([(.agg [(.int .i64 b),(.int .i64 c)])]:Ls))) (a++([(.agg [(.int .i64 b),(.int .i64 c)])]:Ls))) ([(.int .i64 (0:Int)),(.int .i64 (1:Int)),(.int .i64 (2:Int))]:Ls) (fun d =>
 (a7 ([(.int .i64 d)]:Ls) (fun v6 =>
 (asr (decide ((List.length (a++([(.agg [(.int .i64 b),(.int .i64 c)])]:Ls)))=(List.length (a++([(.agg [(.int .i64 b),(.int .i64 c)])]:Ls)))))
 (asr (decide ((0+(List.length (a++([(.agg [(.int .i64 b),(.int .i64 c)])]:Ls))))≤(List.length (a++([(.agg [(.int .i64 b),(.int .i64 c)])]:Ls)))))
 (a6 (List.take (List.length (a++([(.agg [(.int .i64 b),(.int .i64 c)])]:Ls))) (a++([(.agg [(.int .i64 b),(.int .i64 c)])]:Ls))) v6 (fun e =>
 (jn (fun (N:Ls→Ls→Ls→Int→Int→Int→Int→Int→Int→Int→Int→Int→Int→Prop) =>
 (asr (decide ((0:Int)≤d))
 (asr (decide (d<(((List.length (a++([(.agg [(.int .i64 b),(.int .i64 c)])]:Ls))):Nat):Int)))
 (asr (decide ((List.length (a++([(.agg [(.int .i64 b),(.int .i64 c)])]:Ls)))=(List.length (a++([(.agg [(.int .i64 b),(.int .i64 c)])]:Ls)))))
 (asr (decide ((0+(d.toNat))<(List.length (a++([(.agg [(.int .i64 b),(.int .i64 c)])]:Ls)))))
 (lt (List.getD (a++([(.agg [(.int .i64 b),(.int .i64 c)])]:Ls)) (0+(d.toNat)) .nils) (fun O =>
 (asr (conf z2 O)
 (asr (decide ((0:Int)≤e))
 (asr (decide (e<(((List.length (a++([(.agg [(.int .i64 b),(.int .i64 c)])]:Ls))):Nat):Int)))
 (asr (decide ((List.length (a++([(.agg [(.int .i64 b),(.int .i64 c)])]:Ls)))=(List.length (a++([(.agg [(.int .i64 b),(.int .i64 c)])]:Ls)))))
 (asr (decide ((0+(e.toNat))<(List.length (a++([(.agg [(.int .i64 b),(.int .i64 c)])]:Ls)))))
 (lt (List.getD (a++([(.agg [(.int .i64 b),(.int .i64 c)])]:Ls)) (0+(e.toNat)) .nils) (fun Q =>
 (asr (conf z2 Q)
 (cbr (!(((yaa (yab O 0)) ==(yaa (yab Q 0)))&&(((yaa (yab O 1)) ==(yaa (yab Q 1)))&&true)))
 (asr (decide ((0:Int)≤d))
 (asr (decide (d<(((List.length (a++([(.agg [(.int .i64 b),(.int .i64 c)])]:Ls))):Nat):Int)))
 (asr (decide ((List.length (a++([(.agg [(.int .i64 b),(.int .i64 c)])]:Ls)))=(List.length (a++([(.agg [(.int .i64 b),(.int .i64 c)])]:Ls)))))
 (asr (decide ((0+(d.toNat))<(List.length (a++([(.agg [(.int .i64 b),(.int .i64 c)])]:Ls)))))
 (lt (List.getD (a++([(.agg [(.int .i64 b),(.int .i64 c)])]:Ls)) (0+(d.toNat)) .nils) (fun R =>
 (asr (conf z2 R)
 (asr (decide ((0:Int)≤e))
 (asr (decide (e<(((List.length (a++([(.agg [(.int .i64 b),(.int .i64 c)])]:Ls))):Nat):Int)))
 (asr (decide ((List.length (a++([(.agg [(.int .i64 b),(.int .i64 c)])]:Ls)))=(List.length (a++([(.agg [(.int .i64 b),(.int .i64 c)])]:Ls)))))
 (asr (decide ((0+(e.toNat))<(List.length (a++([(.agg [(.int .i64 b),(.int .i64 c)])]:Ls)))))
 (lt (List.getD (a++([(.agg [(.int .i64 b),(.int .i64 c)])]:Ls)) (0+(e.toNat)) .nils) (fun S =>
 (asr (conf z2 S)
 (a5 (yaa (yab R 0)) (yaa (yab R 1)) (yaa (yab S 0)) (yaa (yab S 1)) (fun v7 v8 v9 =>
 (a4 v7 v8 v9 (fun o p =>
 (jn (fun (q:Ls→Ls→Int→Int→Int→Int→Prop) =>
 (cbr (decide (d=(0:Int)))
 (cbr (decide (d=(0:Int)))
 (a8 f g (1:Int) h i o p (fun wa wb wc wd =>
 (q wc wd h i wa wb)))
 (cbr (decide (d=(1:Int)))
 (a8 f g (1:Int) j k o p (fun we wf wg wh =>
 (q wg wh h i we wf)))
 (cbr (decide (d=(2:Int)))
 (a8 f g (1:Int) l m o p (fun wi wj wk wl =>
 (q wk wl h i wi wj)))
 False)))
 (cbr (decide (d=(1:Int)))
 (cbr (decide (d=(0:Int)))
 (a8 f g (1:Int) h i o p (fun wm wn wo wp =>
 (q wo wp j k wm wn)))
 (cbr (decide (d=(1:Int)))
 (a8 f g (1:Int) j k o p (fun wq wr ws wt =>
 (q ws wt j k wq wr)))
 (cbr (decide (d=(2:Int)))
 (a8 f g (1:Int) l m o p (fun wu wv ww wx =>
 (q ww wx j k wu wv)))
 False)))
 (cbr (decide (d=(2:Int)))
 (cbr (decide (d=(0:Int)))
 (a8 f g (1:Int) h i o p (fun wy wz wA wB =>
 (q wA wB l m wy wz)))
 (cbr (decide (d=(1:Int)))
 (a8 f g (1:Int) j k o p (fun wC wD wE wF =>
 (q wE wF l m wC wD)))
 (cbr (decide (d=(2:Int)))
 (a8 f g (1:Int) l m o p (fun wG wH wI wJ =>
 (q wI wJ l m wG wH)))
 False)))
 False))))
 (fun T U V W s t=>(asr (decide ((0:Int)≤e))
 (asr (decide (e<(((List.length (a++([(.agg [(.int .i64 b),(.int .i64 c)])]:Ls))):Nat):Int)))
 (asr (decide ((List.length (a++([(.agg [(.int .i64 b),(.int .i64 c)])]:Ls)))=(List.length (a++([(.agg [(.int .i64 b),(.int .i64 c)])]:Ls)))))
 (asr (decide ((0+(e.toNat))<(List.length (a++([(.agg [(.int .i64 b),(.int .i64 c)])]:Ls)))))
 (lt (List.getD (a++([(.agg [(.int .i64 b),(.int .i64 c)])]:Ls)) (0+(e.toNat)) .nils) (fun r =>
 (asr (conf z2 r)
 (cbr (decide (d=(0:Int)))
 (asr (decide ((0:Int)≤d))
 (asr (decide (d<(((List.length (a++([(.agg [(.int .i64 b),(.int .i64 c)])]:Ls))):Nat):Int)))
 (asr (decide ((List.length (a++([(.agg [(.int .i64 b),(.int .i64 c)])]:Ls)))=(List.length (a++([(.agg [(.int .i64 b),(.int .i64 c)])]:Ls)))))
 (asr (decide ((0+(d.toNat))<(List.length (a++([(.agg [(.int .i64 b),(.int .i64 c)])]:Ls)))))
 (lt (List.getD (a++([(.agg [(.int .i64 b),(.int .i64 c)])]:Ls)) (0+(d.toNat)) .nils) (fun wK =>
 (asr (conf z2 wK)
 (N (List.set (a++([(.agg [(.int .i64 b),(.int .i64 c)])]:Ls)) (0+(d.toNat)) (.agg [(.int .i64 (yaa (yab r 0))),(.int .i64 (yaa (yab r 1)))])) T U s t j k l m V W s t))))))))
 (cbr (decide (d=(1:Int)))
 (asr (decide ((0:Int)≤d))
 (asr (decide (d<(((List.length (a++([(.agg [(.int .i64 b),(.int .i64 c)])]:Ls))):Nat):Int)))
 (asr (decide ((List.length (a++([(.agg [(.int .i64 b),(.int .i64 c)])]:Ls)))=(List.length (a++([(.agg [(.int .i64 b),(.int .i64 c)])]:Ls)))))
 (asr (decide ((0+(d.toNat))<(List.length (a++([(.agg [(.int .i64 b),(.int .i64 c)])]:Ls)))))
 (lt (List.getD (a++([(.agg [(.int .i64 b),(.int .i64 c)])]:Ls)) (0+(d.toNat)) .nils) (fun wL =>
 (asr (conf z2 wL)
 (N (List.set (a++([(.agg [(.int .i64 b),(.int .i64 c)])]:Ls)) (0+(d.toNat)) (.agg [(.int .i64 (yaa (yab r 0))),(.int .i64 (yaa (yab r 1)))])) T U h i s t l m V W s t))))))))
 (cbr (decide (d=(2:Int)))
 (asr (decide ((0:Int)≤d))
 (asr (decide (d<(((List.length (a++([(.agg [(.int .i64 b),(.int .i64 c)])]:Ls))):Nat):Int)))
 (asr (decide ((List.length (a++([(.agg [(.int .i64 b),(.int .i64 c)])]:Ls)))=(List.length (a++([(.agg [(.int .i64 b),(.int .i64 c)])]:Ls)))))
 (asr (decide ((0+(d.toNat))<(List.length (a++([(.agg [(.int .i64 b),(.int .i64 c)])]:Ls)))))
 (lt (List.getD (a++([(.agg [(.int .i64 b),(.int .i64 c)])]:Ls)) (0+(d.toNat)) .nils) (fun wM =>
 (asr (conf z2 wM)
 (N (List.set (a++([(.agg [(.int .i64 b),(.int .i64 c)])]:Ls)) (0+(d.toNat)) (.agg [(.int .i64 (yaa (yab r 0))),(.int .i64 (yaa (yab r 1)))])) T U h i j k s t V W s t))))))))
 False))))))))))))))))))))))))))))))
 (∃ n:Nat,ybC a0 a1 a2 a3 a4 a5 a6 a7 a8
 (fun vh wN wO wP wQ wR wS wT wU wV wW wX wY wZ w0 y w1 w2 w3 w4 vbU vbV vbW vbX vbY vbZ vb0=>(a6 ([]:Ls) ([(.int .i64 (0:Int)),(.int .i64 (1:Int)),(.int .i64 (2:Int))]:Ls) (fun z =>
 (a7 ([(.int .i64 z)]:Ls) (fun w5 =>
 (asr (decide ((List.length vh)=(List.length (a++([(.agg [(.int .i64 b),(.int .i64 c)])]:Ls)))))
 (asr (decide ((0+(List.length (a++([(.agg [(.int .i64 b),(.int .i64 c)])]:Ls))))≤(List.length (a++([(.agg [(.int .i64 b),(.int .i64 c)])]:Ls)))))
 (a6 (List.take (List.length (a++([(.agg [(.int .i64 b),(.int .i64 c)])]:Ls))) vh) w5 (fun w6 =>
 (jn (fun (vi:Int→Prop) =>
 (jn (fun (vj:Bool→Prop) =>
 (cbr (decide (y≥(0:Int)))
 (vj (y != z))
 (vj false)))
 (fun w7=>(cbr w7
 (vi y)
 (vi w6)))))
 (fun vk=>(a7 ([(.int .i64 vk),(.int .i64 z)]:Ls) (fun vl =>
 (asr (decide ((0:Int)<(((List.length vl):Nat):Int)))
 (lt (List.getD vl 0 .nils) (fun vm =>
 (asr (conf zI vm)
 (K wP wQ wR wS wT wU wV wW wX wY wZ w0 y w1 w2 w3 w4 (yaa vm) vk z wN wO))))))))))))))))))
 (fun vn u w8 w9 vaa vab vac vad vae vaf vag vah vai vaj vak val A vam van vao vap vb1 vb2 vb3 vb4 vb5 vb6 vb7=>(asr (decide ((List.length u)=(List.length u)))
 (asr (decide ((0+(List.length u))≤(List.length u)))
 (a6 (List.take (List.length u) u) ([(.int .i64 (0:Int)),(.int .i64 (1:Int)),(.int .i64 (2:Int))]:Ls) (fun B =>
 (a7 ([(.int .i64 B)]:Ls) (fun vaq =>
 (asr (decide ((List.length vn)=(List.length (a++([(.agg [(.int .i64 b),(.int .i64 c)])]:Ls)))))
 (asr (decide ((0+(List.length (a++([(.agg [(.int .i64 b),(.int .i64 c)])]:Ls))))≤(List.length (a++([(.agg [(.int .i64 b),(.int .i64 c)])]:Ls)))))
 (a6 (List.take (List.length (a++([(.agg [(.int .i64 b),(.int .i64 c)])]:Ls))) vn) vaq (fun var =>
 (jn (fun (vo:Int→Prop) =>
 (jn (fun (vp:Bool→Prop) =>
 (cbr (decide (A≥(0:Int)))
 (vp (A != B))
 (vp false)))
 (fun vas=>(cbr vas
 (vo A)
 (vo var)))))
 (fun vq=>(a7 ([(.int .i64 vq),(.int .i64 B)]:Ls) (fun vr =>
 (asr (decide ((0:Int)<(((List.length vr):Nat):Int)))
 (lt (List.getD vr 0 .nils) (fun vs =>
 (asr (conf zI vs)
 (K vaa vab vac vad vae vaf vag vah vai vaj vak val A vam van vao vap (yaa vs) vq B w8 w9))))))))))))))))))))
 n (a++([(.agg [(.int .i64 b),(.int .i64 c)])]:Ls)) f g h i Y Z j k va vb l m vc vd vR vS vT vU vV ve vf vg (2:Int) (3:Int) (0:Int))))))))))))))))))
 (fun vat vau vav vaw vax vay vaz vaA vaB vaC vaD vaE vaF=>(∃ n:Nat,ybC a0 a1 a2 a3 a4 a5 a6 a7 a8
 (fun vt vaG vaH vaI vaJ vaK vaL vaM vaN vaO vaP vaQ vaR vaS vaT C vaU vaV vaW vaX vb8 vb9 vca vcb vcc vcd vce=>(a6 ([]:Ls) ([(.int .i64 (0:Int)),(.int .i64 (1:Int)),(.int .i64 (2:Int))]:Ls) (fun D =>
 (a7 ([(.int .i64 D)]:Ls) (fun vaY =>
 (asr (decide ((List.length vt)=(List.length (a++([(.agg [(.int .i64 b),(.int .i64 c)])]:Ls)))))
 (asr (decide ((0+(List.length (a++([(.agg [(.int .i64 b),(.int .i64 c)])]:Ls))))≤(List.length (a++([(.agg [(.int .i64 b),(.int .i64 c)])]:Ls)))))
 (a6 (List.take (List.length (a++([(.agg [(.int .i64 b),(.int .i64 c)])]:Ls))) vt) vaY (fun vaZ =>
 (jn (fun (vu:Int→Prop) =>
 (jn (fun (vv:Bool→Prop) =>
 (cbr (decide (C≥(0:Int)))
 (vv (C != D))
 (vv false)))
 (fun va0=>(cbr va0
 (vu C)
 (vu vaZ)))))
 (fun vw=>(a7 ([(.int .i64 vw),(.int .i64 D)]:Ls) (fun vx =>
 (asr (decide ((0:Int)<(((List.length vx):Nat):Int)))
 (lt (List.getD vx 0 .nils) (fun vy =>
 (asr (conf zI vy)
 (K vaI vaJ vaK vaL vaM vaN vaO vaP vaQ vaR vaS vaT C vaU vaV vaW vaX (yaa vy) vw D vaG vaH))))))))))))))))))
 (fun vz v va1 va2 va3 va4 va5 va6 va7 va8 va9 vba vbb vbc vbd vbe E vbf vbg vbh vbi vcf vcg vch vci vcj vck vcl=>(asr (decide ((List.length v)=(List.length v)))
 (asr (decide ((0+(List.length v))≤(List.length v)))
 (a6 (List.take (List.length v) v) ([(.int .i64 (0:Int)),(.int .i64 (1:Int)),(.int .i64 (2:Int))]:Ls) (fun F =>
 (a7 ([(.int .i64 F)]:Ls) (fun vbj =>
 (asr (decide ((List.length vz)=(List.length (a++([(.agg [(.int .i64 b),(.int .i64 c)])]:Ls)))))
 (asr (decide ((0+(List.length (a++([(.agg [(.int .i64 b),(.int .i64 c)])]:Ls))))≤(List.length (a++([(.agg [(.int .i64 b),(.int .i64 c)])]:Ls)))))
 (a6 (List.take (List.length (a++([(.agg [(.int .i64 b),(.int .i64 c)])]:Ls))) vz) vbj (fun vbk =>
 (jn (fun (vA:Int→Prop) =>
 (jn (fun (vB:Bool→Prop) =>
 (cbr (decide (E≥(0:Int)))
 (vB (E != F))
 (vB false)))
 (fun vbl=>(cbr vbl
 (vA E)
 (vA vbk)))))
 (fun vC=>(a7 ([(.int .i64 vC),(.int .i64 F)]:Ls) (fun vD =>
 (asr (decide ((0:Int)<(((List.length vD):Nat):Int)))
 (lt (List.getD vD 0 .nils) (fun vE =>
 (asr (conf zI vE)
 (K va3 va4 va5 va6 va7 va8 va9 vba vbb vbc vbd vbe E vbf vbg vbh vbi (yaa vE) vC F va1 va2))))))))))))))))))))
 n vat vau vav vaw vax Y Z vay vaz va vb vaA vaB vc vd d vaC vaD vaE vaF ve vf vg (2:Int) (3:Int) (0:Int))))))))))))))))))))))))))))))))))))))))))
 n vL vM G H w x w x I J I J vF vG (-1:Int) (0:Int) (0:Int) (0:Int) (0:Int) (0:Int) (0:Int) (0:Int) (1:Int) ([(.agg [(.int .i64 G),(.int .i64 H),(.int .i64 w),(.int .i64 x)]),(.agg [(.int .i64 w),(.int .i64 x),(.int .i64 I),(.int .i64 J)])]:Ls) (2:Int) (0:Int))))))))))))))
def yaf:yaD:=yeB yaI yav yad yam yac yaC yal yah yar
def yci (w:yaD) (az:Ls) (b:HB) (K:PV→Ls→Prop):Prop :=
 match az,b with
 | [(.ptr 0 1 0 0)],⟨false,true,2,[(.agg [(.data p0),(.data p1)])]⟩=>w p0 p1 (fun r0 r1 r2 r3 r4 r5 r6 r7 r8 r9 r10 r11 r12 r13 r14 r15 r16 r17 r18 r19 r20 r21=>K (.agg [(.int .i64 r0),(.int .i64 r1),(.int .i64 r2),(.int .i64 r3),(.int .i64 r4),(.int .i64 r5),(.int .i64 r6),(.int .i64 r7),(.int .i64 r8),(.int .i64 r9),(.int .i64 r10),(.int .i64 r11),(.int .i64 r12),(.int .i64 r13),(.int .i64 r14),(.int .i64 r15),(.int .i64 r16),(.int .i64 r17),(.int .i64 r18),(.int .i64 r19)]) [(.agg [(.data r20),(.data r21)])])
 | _,_=>False
def yho (az:Ls) (b:HB) (K:PV→Ls→Prop):Prop:=yci yaf az b K
def yk4 (Q:Qx):Ls→Ls→Int→Int→Int→Int→Int→Int→Int→Int→Int→Int→Int→Int→Int→Int→Int→Int→Int→Int→Int→Int→Int→Ls→Int→Int→Bool→Prop:=(fun l0 l1 i2 i3 i4 i5 i6 i7 i8 i9 i10 i11 i12 i13 i14 i15 i16 i17 i18 i19 i20 i21 i22 l23 i24 i25 b26=>Q (.exit 0) [(0,.v (.ptr 0 1 0 0)),(1,.v (.int .i64 i22)),(7,.v .nils),(13,.v (.data l23)),(14,.v (.int .i64 i24)),(15,.v (.int .i64 i25)),(16,.v (.bool b26))] [⟨false,true,2,([(.agg [(.data l0),(.data l1)])]:Ls)⟩,⟨false,true,20,([(.agg [(.int .i64 i2),(.int .i64 i3),(.int .i64 i4),(.int .i64 i5),(.int .i64 i6),(.int .i64 i7),(.int .i64 i8),(.int .i64 i9),(.int .i64 i10),(.int .i64 i11),(.int .i64 i12),(.int .i64 i13),(.int .i64 i14),(.int .i64 i15),(.int .i64 i16),(.int .i64 i17),(.int .i64 i18),(.int .i64 i19),(.int .i64 i20),(.int .i64 i21)])]:Ls)⟩])
def yf1 (Q:Qx):Ls→Ls→Ls→Int→Int→Int→Int→Int→Int→Int→Int→Int→Int→Int→Int→Int→Int→Int→Int→Int→Int→Int→Int→Int→Ls→Int→Int→Bool→Prop:=(fun l0 l1 l2 i3 i4 i5 i6 i7 i8 i9 i10 i11 i12 i13 i14 i15 i16 i17 i18 i19 i20 i21 i22 i23 l26 i27 i28 b29=>Q (.exit 0) [(0,.v (.ptr 0 1 0 0)),(1,.v (.int .i64 i23)),(7,.v (.own 2 0 (List.length l0) (List.length l0) none)),(13,.v (.data l26)),(14,.v (.int .i64 i27)),(15,.v (.int .i64 i28)),(16,.v (.bool b29))] [⟨false,true,2,([(.agg [(.data l1),(.data l2)])]:Ls)⟩,⟨false,true,20,([(.agg [(.int .i64 i3),(.int .i64 i4),(.int .i64 i5),(.int .i64 i6),(.int .i64 i7),(.int .i64 i8),(.int .i64 i9),(.int .i64 i10),(.int .i64 i11),(.int .i64 i12),(.int .i64 i13),(.int .i64 i14),(.int .i64 i15),(.int .i64 i16),(.int .i64 i17),(.int .i64 i18),(.int .i64 i19),(.int .i64 i20),(.int .i64 i21),(.int .i64 i22)])]:Ls)⟩,⟨false,true,2,l0⟩])
def yk5 (Q:Qx):Ls→Ls→Ls→Int→Int→Int→Int→Int→Int→Int→Int→Int→Int→Int→Int→Int→Int→Int→Int→Int→Int→Int→Int→Int→Int→Int→Bool→Prop:=(fun l0 l1 l2 i3 i4 i5 i6 i7 i8 i9 i10 i11 i12 i13 i14 i15 i16 i17 i18 i19 i20 i21 i22 i23 i24 i25 b26=>Q (.exit 0) [(0,.v (.ptr 0 1 0 0)),(1,.v (.int .i64 i23)),(7,.v .nils),(13,.v (.sub 1 1 0 0 3 4)),(14,.v (.int .i64 i24)),(15,.v (.int .i64 i25)),(16,.v (.bool b26))] [⟨false,true,2,([(.agg [(.data l1),(.data l2)])]:Ls)⟩,⟨false,true,20,([(.agg [(.int .i64 i3),(.int .i64 i4),(.int .i64 i5),(.int .i64 i6),(.int .i64 i7),(.int .i64 i8),(.int .i64 i9),(.int .i64 i10),(.int .i64 i11),(.int .i64 i12),(.int .i64 i13),(.int .i64 i14),(.int .i64 i15),(.int .i64 i16),(.int .i64 i17),(.int .i64 i18),(.int .i64 i19),(.int .i64 i20),(.int .i64 i21),(.int .i64 i22)])]:Ls)⟩,⟨false,true,2,l0⟩])
def yf2 (Q:Qx):Ls→Ls→Ls→Ls→Int→Int→Int→Int→Int→Int→Int→Int→Int→Int→Int→Int→Int→Int→Int→Int→Int→Int→Int→Int→Int→Int→Int→Bool→Prop:=(fun l0 l1 l2 l3 i4 i5 i6 i7 i8 i9 i10 i11 i12 i13 i14 i15 i16 i17 i18 i19 i20 i21 i22 i23 i24 i27 i28 b29=>Q (.exit 0) [(0,.v (.ptr 0 1 0 0)),(1,.v (.int .i64 i24)),(7,.v (.own 3 0 (List.length l1) (List.length l1) none)),(13,.v (.sub 1 1 0 0 3 4)),(14,.v (.int .i64 i27)),(15,.v (.int .i64 i28)),(16,.v (.bool b29))] [⟨false,true,2,([(.agg [(.data l2),(.data l3)])]:Ls)⟩,⟨false,true,20,([(.agg [(.int .i64 i4),(.int .i64 i5),(.int .i64 i6),(.int .i64 i7),(.int .i64 i8),(.int .i64 i9),(.int .i64 i10),(.int .i64 i11),(.int .i64 i12),(.int .i64 i13),(.int .i64 i14),(.int .i64 i15),(.int .i64 i16),(.int .i64 i17),(.int .i64 i18),(.int .i64 i19),(.int .i64 i20),(.int .i64 i21),(.int .i64 i22),(.int .i64 i23)])]:Ls)⟩,⟨false,true,2,l0⟩,⟨false,true,2,l1⟩])
def pt38:RPt:=rC pt26 rN
def pt39:LPt:=lC pt0 (lC pt0 (lC pt0 (lC pt0 (lC pt0 (lC pt0 (lC pt0 (lC pt0 (lC pt0 (lC pt0 pt6)))))))))
def pt40:VPt:=vA (lC pt0 (lC pt0 (lC pt0 (lC pt0 (lC pt0 (lC pt0 (lC pt0 (lC pt0 pt39))))))))
def pt41:RPt:=rC pt40 rN
def pt42:Pat Frm:=fV 0 pt19 (fV 1 pt0 (fV 7 vNs pt35))
def pt43:HPt:=hB false true 2 pt38 (hB false true 20 pt41 pt32)
def pt44:Pat Frm:=fV 13 (vSub 1 0 3 4 (nK 1) (nK 0)) pt34
def pt45:VPt:=vW 3 (nK 0) (nT 3) (nT 3)
def ygz (a0:yaH) (a1:ya2) (a2:yaw) (a3:ya1) (a4:yaY) (a5:yaq) (a6:yau) (a7:yaB) (a8:yaX) (Q:Qx):List St:=[⟨(pS (hB false true 2 pt38 (hB false true 20 pt41 hN)) pt42 fN),ycp a0 a1 a2 a3 a4 a5 a6 a7 a8 (yk4 Q) (yf1 Q)⟩,⟨(pS pt43 (fV 0 pt19 (fV 1 pt0 (fV 7 (vW 2 (nK 0) (nT 2) (nT 2)) pt35))) fN),fun n l1 l2 i3 i4 i5 i6 i7 i8 i9 i10 i11 i12 i13 i14 i15 i16 i17 i18 i19 i20 i21 i22 l0 i23 l26 i27 i28=>ya5 a0 a1 a2 a3 a4 a5 a6 a7 a8 (yf1 Q) n l0 l1 l2 i3 i4 i5 i6 i7 i8 i9 i10 i11 i12 i13 i14 i15 i16 i17 i18 i19 i20 i21 i22 i23 l26 i27 i28⟩,⟨(pS pt43 (fV 0 pt19 (fV 1 pt0 (fV 7 vNs pt44))) fN),fun n l1 l2 i3 i4 i5 i6 i7 i8 i9 i10 i11 i12 i13 i14 i15 i16 i17 i18 i19 i20 i21 i22 l0 i23 i24 i25=>ybC a0 a1 a2 a3 a4 a5 a6 a7 a8 (yk5 Q) (yf2 Q) n l0 l1 l2 i3 i4 i5 i6 i7 i8 i9 i10 i11 i12 i13 i14 i15 i16 i17 i18 i19 i20 i21 i22 i23 i24 i25⟩,⟨(pS (hB false true 2 pt38 (hB false true 20 pt41 (hB false true 2 rA pt32))) (fV 0 pt19 (fV 1 pt0 (fV 7 pt45 pt44))) fN),fun n l2 l3 i4 i5 i6 i7 i8 i9 i10 i11 i12 i13 i14 i15 i16 i17 i18 i19 i20 i21 i22 i23 l0 l1 i24 i27 i28=>yaS a0 a1 a2 a3 a4 a5 a6 a7 a8 (yf2 Q) n l0 l1 l2 l3 i4 i5 i6 i7 i8 i9 i10 i11 i12 i13 i14 i15 i16 i17 i18 i19 i20 i21 i22 i23 i24 i27 i28⟩]
def yeC (a0:yaH) (a1:ya2) (a2:yaw) (a3:ya1) (a4:yaY) (a5:yaq) (a6:yau) (a7:yaB) (a8:yaX):LP:=lpS [(38310000,ygz a0 a1 a2 a3 a4 a5 a6 a7 a8)]
def yhp (e:Es) (a0:yaH) (a1:ya2) (a2:yaw) (a3:ya1) (a4:yaY) (a5:yaq) (a6:yau) (a7:yaB) (a8:yaX):SE:=⟨(E e),yfU [(ydN,yhY.pw a0),(yeW,yvR.pw a3),(ya3,yk1.pw a4),(yd1,yiN.pw a5),(ydy,yvY.pw a6),(ycM,yip.pw a7)],yfV [],yeC a0 a1 a2 a3 a4 a5 a6 a7 a8,yln [(ycs,ydc a1),(ybq,ybx a2),(ybW,ycz a8)]⟩
def yhq (e:Es) (a0:yaH) (a1:ya2) (a2:yaw) (a3:ya1) (a4:yaY) (a5:yaq) (a6:yau) (a7:yaB) (a8:yaX):SE:=⟨(E e),yfU [(ydN,yhY.pw a0),(yeW,yvR.pw a3),(ya3,yk1.pw a4),(yd1,yiN.pw a5),(ydy,yvY.pw a6),(ycM,yip.pw a7)],yfV [(yeX,ye1)],yeC a0 a1 a2 a3 a4 a5 a6 a7 a8,yln [(ycs,ydc a1),(ybq,ybx a2),(ybW,ycz a8)]⟩
theorem ym1 (e:Es) (he:EG e):SEOk (Uni (E e)) (yhp e yaI yav yad yam yac yaC yal yah yar):=yh5 (Sub.uni _) ⟨(yit e he),(yg7 e he),(ybm e he),(yfr e he),(yff e he),(ydR e he),trivial⟩ trivial he.ok ⟨(yhn e he),(ycU e he),(yfe e he),trivial⟩
theorem yjQ (e:Es) (a0 a1 a2 a3 a4 a5 a6 a7 a8):ybS (yhp e a0 a1 a2 a3 a4 a5 a6 a7 a8) 5 a yhC false (ygz a0 a1 a2 a3 a4 a5 a6 a7 a8):=fun _=>⟨fun _=>by kernel_rfl,fun _ _=>by kernel_rfl,fun _=>by kernel_rfl,fun _ _=>by kernel_rfl,fun _=>by kernel_rfl,fun _ _=>by kernel_rfl,fun _=>by kernel_rfl,fun _ _=>by kernel_rfl,trivial⟩
theorem yjR (e:Es) (he:EG e):LpT (Uni (E e)) (yeC yaI yav yad yam yac yaC yal yah yar) [] 38310000 (.loop 38310000 yhC):=fun _ _ _=>yn7.st (Sub.uni _) (yaU (ym1 e he) 5) (YOk.no _ _) (yat (by kernel_rfl)) (yjQ e _ _ _ _ _ _ _ _ _ _)
theorem ym2 (e:Es) (he:EG e):SEOk (Uni (E e)) (yhq e yaI yav yad yam yac yaC yal yah yar):=yh5 (Sub.uni _) ⟨(yit e he),(yg7 e he),(ybm e he),(yfr e he),(yff e he),(ydR e he),trivial⟩ ⟨⟨by kernel_rfl,by kernel_rfl,rfl,fun az=>ybR (by kernel_rfl) az,he.num _ (by kernel_rfl),by kernel_rfl,(yba (l:=[(38310000,.loop 38310000 yhC)]) ⟨yjR e he,trivial⟩ (by kernel_rfl))⟩,trivial⟩ he.ok ⟨(yhn e he),(ycU e he),(yfe e he),trivial⟩
theorem ynR (e:Es) (a0 a1 a2 a3 a4 a5 a6 a7 a8 p0 p1 K):WPL (yhq e a0 a1 a2 a3 a4 a5 a6 a7 a8) 6 yof [(.ptr 0 1 0 0)] ⟨false,true,2,[(.agg [(.data p0),(.data p1)])]⟩ K=yeB a0 a1 a2 a3 a4 a5 a6 a7 a8 p0 p1 (fun r0 r1 r2 r3 r4 r5 r6 r7 r8 r9 r10 r11 r12 r13 r14 r15 r16 r17 r18 r19 r20 r21=>K (.agg [(.int .i64 r0),(.int .i64 r1),(.int .i64 r2),(.int .i64 r3),(.int .i64 r4),(.int .i64 r5),(.int .i64 r6),(.int .i64 r7),(.int .i64 r8),(.int .i64 r9),(.int .i64 r10),(.int .i64 r11),(.int .i64 r12),(.int .i64 r13),(.int .i64 r14),(.int .i64 r15),(.int .i64 r16),(.int .i64 r17),(.int .i64 r18),(.int .i64 r19)]) [(.agg [(.data r20),(.data r21)])]):=by kernel_rfl
theorem yeD (e:Es) (he:EG e):OkL (E e) yho ybJ:=by
 intro az b K h
 unfold yho yci at h
 split at h
 ·exact yx0 (ym2 e he) ynj.flat (yat (by kernel_rfl)) (by kernel_rfl) (he.num _ (by kernel_rfl)) ((ynR ..).mpr h)
 ·exact h.elim
abbrev yaE:Type:=Ls→Ls→Int→Int→Int→Int→Int→Int→Int→Int→Int→Int→Int→Int→Int→Int→Int→Int→Int→Int→Int→Int→(Int→Int→Int→Int→Int→Int→Int→Int→Int→Int→Int→Int→Ls→Ls→Prop)→Prop
def yby (a0:ya1) (a1:yaY) (a2:yaw) (a3:yau) (a4:yaB) (x1:Ls→Ls→Ls→Int→Ls→Int→Int→Bool→Prop):Nat→Ls→Ls→Ls→Int→Ls→Int→Int→Prop
 | 0,_,_,_,_,_,_,_=>False
 | n+1,l0,l1,l2,i3,l6,i7,i8 =>
 (cbr (decide (i8<i7))
 (asr (decide ((0:Int)≤i8))
 (asr (decide (i8<(((List.length l6):Nat):Int)))
 (lt (List.getD l6 (i8.toNat) .nils) (fun a =>
 (asr (conf z4 a)
 (a0 l1 l2 i3 (yaa (yab a 0)) (yaa (yab a 1)) (yaa (yab a 2)) (yaa (yab a 3)) (fun d e f g h =>
 (a1 f g h (fun b c =>
 (asr (decide ((List.length l0)=(List.length l0)))
 (asr (decide ((0+(List.length l0))≤(List.length l0)))
 (asr (!(decide (((0+(List.length l0))+1)≤(List.length l0))))
 (asr (decide ((List.length l0)=(List.length l0)))
 (asr (decide ((((List.length l0)+1)+64)*(16+1)≤room))
 (lt (IntKind.i64.wrap (i8+(1:Int))) (fun i =>
 (asr (decide ((List.length (l0++([(.agg [(.int .i64 b),(.int .i64 c)])]:Ls)))=List.length (l0++([(.agg [(.int .i64 b),(.int .i64 c)])]:Ls)))&&decide ((List.length (l0++([(.agg [(.int .i64 b),(.int .i64 c)])]:Ls)))=List.length (l0++([(.agg [(.int .i64 b),(.int .i64 c)])]:Ls))))
 (yby a0 a1 a2 a3 a4 x1 n (l0++([(.agg [(.int .i64 b),(.int .i64 c)])]:Ls)) d e i3 l6 i7 i))))))))))))))))))
 (x1 l0 l1 l2 i3 l6 i7 i8 false))
def ycd (a0:ya1) (a1:yaY) (a2:yaw) (a3:yau) (a4:yaB) (x0:Ls→Ls→Int→Ls→Int→Int→Bool→Prop) (x1:Ls→Ls→Ls→Int→Ls→Int→Int→Bool→Prop):Nat→Ls→Ls→Int→Ls→Int→Int→Prop
 | 0,_,_,_,_,_,_=>False
 | n+1,l0,l1,i2,l3,i4,i5 =>
 (cbr (decide (i5<i4))
 (asr (decide ((0:Int)≤i5))
 (asr (decide (i5<(((List.length l3):Nat):Int)))
 (lt (List.getD l3 (i5.toNat) .nils) (fun a =>
 (asr (conf z4 a)
 (a0 l0 l1 i2 (yaa (yab a 0)) (yaa (yab a 1)) (yaa (yab a 2)) (yaa (yab a 3)) (fun d e f g h =>
 (a1 f g h (fun b c =>
 (lt (IntKind.i64.wrap (i5+(1:Int))) (fun i =>
 (asr (decide (1=List.length ([(.agg [(.int .i64 b),(.int .i64 c)])]:Ls))&&decide (1=List.length ([(.agg [(.int .i64 b),(.int .i64 c)])]:Ls)))
 (yby a0 a1 a2 a3 a4 x1 n ([(.agg [(.int .i64 b),(.int .i64 c)])]:Ls) d e i2 l3 i4 i)))))))))))))
 (x0 l0 l1 i2 l3 i4 i5 false))
def yaQ (a0:ya1) (a1:yaY) (a2:yaw) (a3:yau) (a4:yaB) (x3:Ls→Ls→Ls→Ls→Ls→Int→Int→Int→Bool→Prop):Nat→Ls→Ls→Ls→Ls→Ls→Int→Int→Int→Prop
 | 0,_,_,_,_,_,_,_,_=>False
 | n+1,l0,l1,l2,l3,l4,i5,i11,i12 =>
 (cbr (decide (i12<i11))
 (asr (decide ((0:Int)≤i12))
 (asr (decide (i12<(((List.length l1):Nat):Int)))
 (asr (decide ((List.length l1)=(List.length l1)))
 (asr (decide ((0+(i12.toNat))<(List.length l1)))
 (lt (List.getD l1 (0+(i12.toNat)) .nils) (fun a =>
 (asr (conf z4 a)
 (a0 l3 l4 i5 (yaa (yab a 0)) (yaa (yab a 1)) (yaa (yab a 2)) (yaa (yab a 3)) (fun d e f g h =>
 (a1 f g h (fun b c =>
 (asr (decide ((List.length l2)=(List.length l2)))
 (asr (decide ((0+(List.length l2))≤(List.length l2)))
 (asr (!(decide (((0+(List.length l2))+1)≤(List.length l2))))
 (asr (decide ((List.length l2)=(List.length l2)))
 (asr (decide ((((List.length l2)+1)+64)*(16+1)≤room))
 (lt (IntKind.i64.wrap (i12+(1:Int))) (fun i =>
 (asr (decide ((List.length (l2++([(.agg [(.int .i64 b),(.int .i64 c)])]:Ls)))=List.length (l2++([(.agg [(.int .i64 b),(.int .i64 c)])]:Ls)))&&decide ((List.length (l2++([(.agg [(.int .i64 b),(.int .i64 c)])]:Ls)))=List.length (l2++([(.agg [(.int .i64 b),(.int .i64 c)])]:Ls)))&&decide ((List.length l1)=List.length l1)&&decide ((List.length l1)=List.length l1)&&decide ((List.length l1)=List.length l1))
 (yaQ a0 a1 a2 a3 a4 x3 n l0 l1 (l2++([(.agg [(.int .i64 b),(.int .i64 c)])]:Ls)) d e i5 i11 i))))))))))))))))))))
 (x3 l0 l1 l2 l3 l4 i5 i11 i12 false))
def yce (a0:ya1) (a1:yaY) (a2:yaw) (a3:yau) (a4:yaB) (x2:Ls→Ls→Ls→Ls→Int→Int→Int→Bool→Prop) (x3:Ls→Ls→Ls→Ls→Ls→Int→Int→Int→Bool→Prop):Nat→Ls→Ls→Ls→Ls→Int→Int→Int→Prop
 | 0,_,_,_,_,_,_,_=>False
 | n+1,l0,l1,l2,l3,i4,i8,i9 =>
 (cbr (decide (i9<i8))
 (asr (decide ((0:Int)≤i9))
 (asr (decide (i9<(((List.length l1):Nat):Int)))
 (asr (decide ((List.length l1)=(List.length l1)))
 (asr (decide ((0+(i9.toNat))<(List.length l1)))
 (lt (List.getD l1 (0+(i9.toNat)) .nils) (fun a =>
 (asr (conf z4 a)
 (a0 l2 l3 i4 (yaa (yab a 0)) (yaa (yab a 1)) (yaa (yab a 2)) (yaa (yab a 3)) (fun d e f g h =>
 (a1 f g h (fun b c =>
 (lt (IntKind.i64.wrap (i9+(1:Int))) (fun i =>
 (asr (decide (1=List.length ([(.agg [(.int .i64 b),(.int .i64 c)])]:Ls))&&decide (1=List.length ([(.agg [(.int .i64 b),(.int .i64 c)])]:Ls))&&decide ((List.length l1)=List.length l1)&&decide ((List.length l1)=List.length l1)&&decide ((List.length l1)=List.length l1))
 (yaQ a0 a1 a2 a3 a4 x3 n l0 l1 ([(.agg [(.int .i64 b),(.int .i64 c)])]:Ls) d e i4 i8 i)))))))))))))))
 (x2 l0 l1 l2 l3 i4 i8 i9 false))
def yde (a0:ya1) (a1:yaY) (a2:yaw) (a3:yau) (a4:yaB) (x5:Ls→Ls→Ls→Ls→Ls→Int→Ls→Int→Int→Bool→Prop):Nat→Ls→Ls→Ls→Ls→Ls→Int→Ls→Int→Int→Prop
 | 0,_,_,_,_,_,_,_,_,_=>False
 | n+1,l0,l1,l2,l3,l4,i5,l8,i9,i10 =>
 (cbr (decide (i10<i9))
 (asr (decide ((0:Int)≤i10))
 (asr (decide (i10<(((List.length l8):Nat):Int)))
 (lt (List.getD l8 (i10.toNat) .nils) (fun a =>
 (asr (conf z4 a)
 (a0 l3 l4 i5 (yaa (yab a 0)) (yaa (yab a 1)) (yaa (yab a 2)) (yaa (yab a 3)) (fun d e f g h =>
 (a1 f g h (fun b c =>
 (asr (decide ((List.length l2)=(List.length l2)))
 (asr (decide ((0+(List.length l2))≤(List.length l2)))
 (asr (!(decide (((0+(List.length l2))+1)≤(List.length l2))))
 (asr (decide ((List.length l2)=(List.length l2)))
 (asr (decide ((((List.length l2)+1)+64)*(16+1)≤room))
 (lt (IntKind.i64.wrap (i10+(1:Int))) (fun i =>
 (asr (decide ((List.length (l2++([(.agg [(.int .i64 b),(.int .i64 c)])]:Ls)))=List.length (l2++([(.agg [(.int .i64 b),(.int .i64 c)])]:Ls)))&&decide ((List.length (l2++([(.agg [(.int .i64 b),(.int .i64 c)])]:Ls)))=List.length (l2++([(.agg [(.int .i64 b),(.int .i64 c)])]:Ls))))
 (yde a0 a1 a2 a3 a4 x5 n l0 l1 (l2++([(.agg [(.int .i64 b),(.int .i64 c)])]:Ls)) d e i5 l8 i9 i))))))))))))))))))
 (x5 l0 l1 l2 l3 l4 i5 l8 i9 i10 false))
def yfA (a0:ya1) (a1:yaY) (a2:yaw) (a3:yau) (a4:yaB) (x4:Ls→Ls→Ls→Ls→Int→Ls→Int→Int→Bool→Prop) (x5:Ls→Ls→Ls→Ls→Ls→Int→Ls→Int→Int→Bool→Prop):Nat→Ls→Ls→Ls→Ls→Int→Ls→Int→Int→Prop
 | 0,_,_,_,_,_,_,_,_=>False
 | n+1,l0,l1,l2,l3,i4,l5,i6,i7 =>
 (cbr (decide (i7<i6))
 (asr (decide ((0:Int)≤i7))
 (asr (decide (i7<(((List.length l5):Nat):Int)))
 (lt (List.getD l5 (i7.toNat) .nils) (fun a =>
 (asr (conf z4 a)
 (a0 l2 l3 i4 (yaa (yab a 0)) (yaa (yab a 1)) (yaa (yab a 2)) (yaa (yab a 3)) (fun d e f g h =>
 (a1 f g h (fun b c =>
 (lt (IntKind.i64.wrap (i7+(1:Int))) (fun i =>
 (asr (decide (1=List.length ([(.agg [(.int .i64 b),(.int .i64 c)])]:Ls))&&decide (1=List.length ([(.agg [(.int .i64 b),(.int .i64 c)])]:Ls)))
 (yde a0 a1 a2 a3 a4 x5 n l0 l1 ([(.agg [(.int .i64 b),(.int .i64 c)])]:Ls) d e i4 l5 i6 i)))))))))))))
 (x4 l0 l1 l2 l3 i4 l5 i6 i7 false))
def ya4 (a0:ya1) (a1:yaY) (a2:yaw) (a3:yau) (a4:yaB) (x7:Ls→Ls→Ls→Ls→Ls→Ls→Int→Ls→Int→Int→Bool→Prop):Nat→Ls→Ls→Ls→Ls→Ls→Ls→Int→Ls→Int→Int→Prop
 | 0,_,_,_,_,_,_,_,_,_,_=>False
 | n+1,l0,l1,l2,l3,l4,l5,i6,l9,i10,i11 =>
 (cbr (decide (i11<i10))
 (asr (decide ((0:Int)≤i11))
 (asr (decide (i11<(((List.length l9):Nat):Int)))
 (lt (List.getD l9 (i11.toNat) .nils) (fun a =>
 (asr (conf z4 a)
 (a0 l4 l5 i6 (yaa (yab a 0)) (yaa (yab a 1)) (yaa (yab a 2)) (yaa (yab a 3)) (fun d e f g h =>
 (a1 f g h (fun b c =>
 (asr (decide ((List.length l3)=(List.length l3)))
 (asr (decide ((0+(List.length l3))≤(List.length l3)))
 (asr (!(decide (((0+(List.length l3))+1)≤(List.length l3))))
 (asr (decide ((List.length l3)=(List.length l3)))
 (asr (decide ((((List.length l3)+1)+64)*(16+1)≤room))
 (lt (IntKind.i64.wrap (i11+(1:Int))) (fun i =>
 (asr (decide ((List.length (l3++([(.agg [(.int .i64 b),(.int .i64 c)])]:Ls)))=List.length (l3++([(.agg [(.int .i64 b),(.int .i64 c)])]:Ls)))&&decide ((List.length (l3++([(.agg [(.int .i64 b),(.int .i64 c)])]:Ls)))=List.length (l3++([(.agg [(.int .i64 b),(.int .i64 c)])]:Ls))))
 (ya4 a0 a1 a2 a3 a4 x7 n l0 l1 l2 (l3++([(.agg [(.int .i64 b),(.int .i64 c)])]:Ls)) d e i6 l9 i10 i))))))))))))))))))
 (x7 l0 l1 l2 l3 l4 l5 i6 l9 i10 i11 false))
def ycf (a0:ya1) (a1:yaY) (a2:yaw) (a3:yau) (a4:yaB) (x6:Ls→Ls→Ls→Ls→Ls→Int→Ls→Int→Int→Bool→Prop) (x7:Ls→Ls→Ls→Ls→Ls→Ls→Int→Ls→Int→Int→Bool→Prop):Nat→Ls→Ls→Ls→Ls→Ls→Int→Ls→Int→Int→Prop
 | 0,_,_,_,_,_,_,_,_,_=>False
 | n+1,l0,l1,l2,l3,l4,i5,l6,i7,i8 =>
 (cbr (decide (i8<i7))
 (asr (decide ((0:Int)≤i8))
 (asr (decide (i8<(((List.length l6):Nat):Int)))
 (lt (List.getD l6 (i8.toNat) .nils) (fun a =>
 (asr (conf z4 a)
 (a0 l3 l4 i5 (yaa (yab a 0)) (yaa (yab a 1)) (yaa (yab a 2)) (yaa (yab a 3)) (fun d e f g h =>
 (a1 f g h (fun b c =>
 (lt (IntKind.i64.wrap (i8+(1:Int))) (fun i =>
 (asr (decide (1=List.length ([(.agg [(.int .i64 b),(.int .i64 c)])]:Ls))&&decide (1=List.length ([(.agg [(.int .i64 b),(.int .i64 c)])]:Ls)))
 (ya4 a0 a1 a2 a3 a4 x7 n l0 l1 l2 ([(.agg [(.int .i64 b),(.int .i64 c)])]:Ls) d e i5 l6 i7 i)))))))))))))
 (x6 l0 l1 l2 l3 l4 i5 l6 i7 i8 false))
def yej (a0:ya1) (a1:yaY) (a2:yaw) (a3:yau) (a4:yaB) (p0 p1:Ls) (p2 p3 p4 p5 p6 p7 p8 p9 p10 p11 p12 p13 p14 p15 p16 p17 p18 p19 p20 p21:Int) (K:Int→Int→Int→Int→Int→Int→Int→Int→Int→Int→Int→Int→Ls→Ls→Prop):Prop :=
 (jn (fun (vm:Int→Int→Prop) =>
 (cbr (p21 == p14)
 (vm (2:Int) (1:Int))
 (vm (1:Int) (2:Int))))
 (fun o a=>(∃ n:Nat,ycd a0 a1 a2 a3 a4
 (fun wr ws wt wu wv ww wx=>False)
 (fun I vn vo wy wz wA wB wC=>(asr (decide ((0:Int)<(((List.length I):Nat):Int)))
 (asr (decide ((List.length I)=(List.length I)))
 (asr (decide (0<(List.length I)))
 (lt (List.getD I 0 .nils) (fun vh =>
 (asr (conf z2 vh)
 (a2 vn vo a p15 p16 (yaa (yab vh 0)) (yaa (yab vh 1)) (fun B C D E vp vq =>
 (asr (decide (3=List.length ([(.agg [(.int .i64 p15),(.int .i64 p16),(.int .i64 B),(.int .i64 C)]),(.agg [(.int .i64 B),(.int .i64 C),(.int .i64 D),(.int .i64 E)]),(.agg [(.int .i64 D),(.int .i64 E),(.int .i64 p17),(.int .i64 p18)])]:Ls))&&decide (3=List.length ([(.agg [(.int .i64 p15),(.int .i64 p16),(.int .i64 B),(.int .i64 C)]),(.agg [(.int .i64 B),(.int .i64 C),(.int .i64 D),(.int .i64 E)]),(.agg [(.int .i64 D),(.int .i64 E),(.int .i64 p17),(.int .i64 p18)])]:Ls))&&decide (3=List.length ([(.agg [(.int .i64 p15),(.int .i64 p16),(.int .i64 B),(.int .i64 C)]),(.agg [(.int .i64 B),(.int .i64 C),(.int .i64 D),(.int .i64 E)]),(.agg [(.int .i64 D),(.int .i64 E),(.int .i64 p17),(.int .i64 p18)])]:Ls)))
 (∃ n:Nat,yce a0 a1 a2 a3 a4
 (fun vr F vs vt wD wE wF wG=>(a3 ([]:Ls) ([(.int .i64 (0:Int)),(.int .i64 (1:Int)),(.int .i64 (2:Int))]:Ls) (fun r =>
 (a4 ([(.int .i64 r)]:Ls) (fun p =>
 (asr (decide ((0:Int)<(((List.length p):Nat):Int)))
 (lt (List.getD p 0 .nils) (fun M =>
 (asr (conf zI M)
 (asr (decide ((0:Int)≤(yaa M)))
 (asr (decide ((yaa M)<(3:Int)))
 (asr (decide ((List.length F)=3))
 (asr (decide ((0+((yaa M).toNat))<(List.length F)))
 (lt (List.getD F (0+((yaa M).toNat)) .nils) (fun N =>
 (asr (conf z4 N)
 (asr (decide ((1:Int)<(((List.length p):Nat):Int)))
 (lt (List.getD p 1 .nils) (fun O =>
 (asr (conf zI O)
 (asr (decide ((0:Int)≤(yaa O)))
 (asr (decide ((yaa O)<(3:Int)))
 (asr (decide ((List.length F)=3))
 (asr (decide ((0+((yaa O).toNat))<(List.length F)))
 (lt (List.getD F (0+((yaa O).toNat)) .nils) (fun Q =>
 (asr (conf z4 Q)
 (∃ n:Nat,yfA a0 a1 a2 a3 a4
 (fun wH s vu vv wI wJ wK wL wM=>(a3 ([]:Ls) ([(.int .i64 (0:Int)),(.int .i64 (1:Int))]:Ls) (fun vd =>
 (jn (fun (t:Int→Int→Int→Int→Int→Int→Int→Int→Int→Int→Int→Int→Prop) =>
 (asr (decide ((0:Int)≤r))
 (asr (decide (r<(3:Int)))
 (asr (decide ((List.length s)=3))
 (asr (decide ((0+(r.toNat))<(List.length s)))
 (lt (List.getD s (0+(r.toNat)) .nils) (fun j =>
 (asr (conf z4 j)
 (asr (decide ((0:Int)≤vd))
 (asr (decide (vd<(((List.length p):Nat):Int)))
 (lt (List.getD p (vd.toNat) .nils) (fun R =>
 (asr (conf zI R)
 (asr (decide ((0:Int)≤(yaa R)))
 (asr (decide ((yaa R)<(3:Int)))
 (asr (decide ((List.length s)=3))
 (asr (decide ((0+((yaa R).toNat))<(List.length s)))
 (lt (List.getD s (0+((yaa R).toNat)) .nils) (fun f =>
 (asr (conf z4 f)
 (lt (IntKind.i64.wrap ((1:Int)-vd)) (fun vi =>
 (asr (decide ((0:Int)≤vi))
 (asr (decide (vi<(((List.length p):Nat):Int)))
 (lt (List.getD p (vi.toNat) .nils) (fun S =>
 (asr (conf zI S)
 (asr (decide ((0:Int)≤(yaa S)))
 (asr (decide ((yaa S)<(3:Int)))
 (asr (decide ((List.length s)=3))
 (asr (decide ((0+((yaa S).toNat))<(List.length s)))
 (lt (List.getD s (0+((yaa S).toNat)) .nils) (fun b =>
 (asr (conf z4 b)
 (cbr (decide (o=(0:Int)))
 (cbr (decide (a=(0:Int)))
 (t (yaa (yab b 0)) (yaa (yab b 1)) (yaa (yab b 2)) (yaa (yab b 3)) (0:Int) (0:Int) (0:Int) (0:Int) (0:Int) (0:Int) (0:Int) (0:Int))
 (cbr (decide (a=(1:Int)))
 (t (yaa (yab f 0)) (yaa (yab f 1)) (yaa (yab f 2)) (yaa (yab f 3)) (yaa (yab b 0)) (yaa (yab b 1)) (yaa (yab b 2)) (yaa (yab b 3)) (0:Int) (0:Int) (0:Int) (0:Int))
 (cbr (decide (a=(2:Int)))
 (t (yaa (yab f 0)) (yaa (yab f 1)) (yaa (yab f 2)) (yaa (yab f 3)) (0:Int) (0:Int) (0:Int) (0:Int) (yaa (yab b 0)) (yaa (yab b 1)) (yaa (yab b 2)) (yaa (yab b 3)))
 False)))
 (cbr (decide (o=(1:Int)))
 (cbr (decide (a=(0:Int)))
 (t (yaa (yab b 0)) (yaa (yab b 1)) (yaa (yab b 2)) (yaa (yab b 3)) (yaa (yab j 0)) (yaa (yab j 1)) (yaa (yab j 2)) (yaa (yab j 3)) (0:Int) (0:Int) (0:Int) (0:Int))
 (cbr (decide (a=(1:Int)))
 (t (yaa (yab f 0)) (yaa (yab f 1)) (yaa (yab f 2)) (yaa (yab f 3)) (yaa (yab b 0)) (yaa (yab b 1)) (yaa (yab b 2)) (yaa (yab b 3)) (0:Int) (0:Int) (0:Int) (0:Int))
 (cbr (decide (a=(2:Int)))
 (t (yaa (yab f 0)) (yaa (yab f 1)) (yaa (yab f 2)) (yaa (yab f 3)) (yaa (yab j 0)) (yaa (yab j 1)) (yaa (yab j 2)) (yaa (yab j 3)) (yaa (yab b 0)) (yaa (yab b 1)) (yaa (yab b 2)) (yaa (yab b 3)))
 False)))
 (cbr (decide (o=(2:Int)))
 (cbr (decide (a=(0:Int)))
 (t (yaa (yab b 0)) (yaa (yab b 1)) (yaa (yab b 2)) (yaa (yab b 3)) (0:Int) (0:Int) (0:Int) (0:Int) (yaa (yab j 0)) (yaa (yab j 1)) (yaa (yab j 2)) (yaa (yab j 3)))
 (cbr (decide (a=(1:Int)))
 (t (yaa (yab f 0)) (yaa (yab f 1)) (yaa (yab f 2)) (yaa (yab f 3)) (yaa (yab b 0)) (yaa (yab b 1)) (yaa (yab b 2)) (yaa (yab b 3)) (yaa (yab j 0)) (yaa (yab j 1)) (yaa (yab j 2)) (yaa (yab j 3)))
 (cbr (decide (a=(2:Int)))
 (t (yaa (yab f 0)) (yaa (yab f 1)) (yaa (yab f 2)) (yaa (yab f 3)) (0:Int) (0:Int) (0:Int) (0:Int) (yaa (yab b 0)) (yaa (yab b 1)) (yaa (yab b 2)) (yaa (yab b 3)))
 False)))
 False)))))))))))))))))))))))))))))))))))))
 (fun vw vx vy vz vA vB vC vD vE vF vG vH=>(K vw vx vy vz vA vB vC vD vE vF vG vH vu vv))))))
 (fun wN u J vI vJ wO wP wQ wR wS=>(asr (decide ((List.length J)=(List.length J)))
 (asr (decide ((0+(List.length J))≤(List.length J)))
 (a3 (List.take (List.length J) J) ([(.int .i64 (0:Int)),(.int .i64 (1:Int))]:Ls) (fun ve =>
 (jn (fun (v:Int→Int→Int→Int→Int→Int→Int→Int→Int→Int→Int→Int→Prop) =>
 (asr (decide ((0:Int)≤r))
 (asr (decide (r<(3:Int)))
 (asr (decide ((List.length u)=3))
 (asr (decide ((0+(r.toNat))<(List.length u)))
 (lt (List.getD u (0+(r.toNat)) .nils) (fun k =>
 (asr (conf z4 k)
 (asr (decide ((0:Int)≤ve))
 (asr (decide (ve<(((List.length p):Nat):Int)))
 (lt (List.getD p (ve.toNat) .nils) (fun T =>
 (asr (conf zI T)
 (asr (decide ((0:Int)≤(yaa T)))
 (asr (decide ((yaa T)<(3:Int)))
 (asr (decide ((List.length u)=3))
 (asr (decide ((0+((yaa T).toNat))<(List.length u)))
 (lt (List.getD u (0+((yaa T).toNat)) .nils) (fun g =>
 (asr (conf z4 g)
 (lt (IntKind.i64.wrap ((1:Int)-ve)) (fun vj =>
 (asr (decide ((0:Int)≤vj))
 (asr (decide (vj<(((List.length p):Nat):Int)))
 (lt (List.getD p (vj.toNat) .nils) (fun U =>
 (asr (conf zI U)
 (asr (decide ((0:Int)≤(yaa U)))
 (asr (decide ((yaa U)<(3:Int)))
 (asr (decide ((List.length u)=3))
 (asr (decide ((0+((yaa U).toNat))<(List.length u)))
 (lt (List.getD u (0+((yaa U).toNat)) .nils) (fun c =>
 (asr (conf z4 c)
 (cbr (decide (o=(0:Int)))
 (cbr (decide (a=(0:Int)))
 (v (yaa (yab c 0)) (yaa (yab c 1)) (yaa (yab c 2)) (yaa (yab c 3)) (0:Int) (0:Int) (0:Int) (0:Int) (0:Int) (0:Int) (0:Int) (0:Int))
 (cbr (decide (a=(1:Int)))
 (v (yaa (yab g 0)) (yaa (yab g 1)) (yaa (yab g 2)) (yaa (yab g 3)) (yaa (yab c 0)) (yaa (yab c 1)) (yaa (yab c 2)) (yaa (yab c 3)) (0:Int) (0:Int) (0:Int) (0:Int))
 (cbr (decide (a=(2:Int)))
 (v (yaa (yab g 0)) (yaa (yab g 1)) (yaa (yab g 2)) (yaa (yab g 3)) (0:Int) (0:Int) (0:Int) (0:Int) (yaa (yab c 0)) (yaa (yab c 1)) (yaa (yab c 2)) (yaa (yab c 3)))
 False)))
 (cbr (decide (o=(1:Int)))
 (cbr (decide (a=(0:Int)))
 (v (yaa (yab c 0)) (yaa (yab c 1)) (yaa (yab c 2)) (yaa (yab c 3)) (yaa (yab k 0)) (yaa (yab k 1)) (yaa (yab k 2)) (yaa (yab k 3)) (0:Int) (0:Int) (0:Int) (0:Int))
 (cbr (decide (a=(1:Int)))
 (v (yaa (yab g 0)) (yaa (yab g 1)) (yaa (yab g 2)) (yaa (yab g 3)) (yaa (yab c 0)) (yaa (yab c 1)) (yaa (yab c 2)) (yaa (yab c 3)) (0:Int) (0:Int) (0:Int) (0:Int))
 (cbr (decide (a=(2:Int)))
 (v (yaa (yab g 0)) (yaa (yab g 1)) (yaa (yab g 2)) (yaa (yab g 3)) (yaa (yab k 0)) (yaa (yab k 1)) (yaa (yab k 2)) (yaa (yab k 3)) (yaa (yab c 0)) (yaa (yab c 1)) (yaa (yab c 2)) (yaa (yab c 3)))
 False)))
 (cbr (decide (o=(2:Int)))
 (cbr (decide (a=(0:Int)))
 (v (yaa (yab c 0)) (yaa (yab c 1)) (yaa (yab c 2)) (yaa (yab c 3)) (0:Int) (0:Int) (0:Int) (0:Int) (yaa (yab k 0)) (yaa (yab k 1)) (yaa (yab k 2)) (yaa (yab k 3)))
 (cbr (decide (a=(1:Int)))
 (v (yaa (yab g 0)) (yaa (yab g 1)) (yaa (yab g 2)) (yaa (yab g 3)) (yaa (yab c 0)) (yaa (yab c 1)) (yaa (yab c 2)) (yaa (yab c 3)) (yaa (yab k 0)) (yaa (yab k 1)) (yaa (yab k 2)) (yaa (yab k 3)))
 (cbr (decide (a=(2:Int)))
 (v (yaa (yab g 0)) (yaa (yab g 1)) (yaa (yab g 2)) (yaa (yab g 3)) (0:Int) (0:Int) (0:Int) (0:Int) (yaa (yab c 0)) (yaa (yab c 1)) (yaa (yab c 2)) (yaa (yab c 3)))
 False)))
 False)))))))))))))))))))))))))))))))))))))
 (fun vK vL vM vN vO vP vQ vR vS vT vU vV=>(K vK vL vM vN vO vP vQ vR vS vT vU vV vI vJ))))))))
 n vr F vs vt (0:Int) ([(.agg [(.int .i64 (yaa (yab N 0))),(.int .i64 (yaa (yab N 1))),(.int .i64 (yaa (yab N 2))),(.int .i64 (yaa (yab N 3)))]),(.agg [(.int .i64 (yaa (yab Q 0))),(.int .i64 (yaa (yab Q 1))),(.int .i64 (yaa (yab Q 2))),(.int .i64 (yaa (yab Q 3)))])]:Ls) (2:Int) (0:Int)))))))))))))))))))))))))))))
 (fun vW G H vX vY wT wU wV wW=>(asr (decide ((List.length H)=(List.length H)))
 (asr (decide ((0+(List.length H))≤(List.length H)))
 (a3 (List.take (List.length H) H) ([(.int .i64 (0:Int)),(.int .i64 (1:Int)),(.int .i64 (2:Int))]:Ls) (fun w =>
 (a4 ([(.int .i64 w)]:Ls) (fun q =>
 (asr (decide ((0:Int)<(((List.length q):Nat):Int)))
 (lt (List.getD q 0 .nils) (fun V =>
 (asr (conf zI V)
 (asr (decide ((0:Int)≤(yaa V)))
 (asr (decide ((yaa V)<(3:Int)))
 (asr (decide ((List.length G)=3))
 (asr (decide ((0+((yaa V).toNat))<(List.length G)))
 (lt (List.getD G (0+((yaa V).toNat)) .nils) (fun W =>
 (asr (conf z4 W)
 (asr (decide ((1:Int)<(((List.length q):Nat):Int)))
 (lt (List.getD q 1 .nils) (fun X =>
 (asr (conf zI X)
 (asr (decide ((0:Int)≤(yaa X)))
 (asr (decide ((yaa X)<(3:Int)))
 (asr (decide ((List.length G)=3))
 (asr (decide ((0+((yaa X).toNat))<(List.length G)))
 (lt (List.getD G (0+((yaa X).toNat)) .nils) (fun Y =>
 (asr (conf z4 Y)
 (∃ n:Nat,ycf a0 a1 a2 a3 a4
 (fun wX x wY vZ v0 wZ w0 w1 w2 w3=>(a3 ([]:Ls) ([(.int .i64 (0:Int)),(.int .i64 (1:Int))]:Ls) (fun vf =>
 (jn (fun (y:Int→Int→Int→Int→Int→Int→Int→Int→Int→Int→Int→Int→Prop) =>
 (asr (decide ((0:Int)≤w))
 (asr (decide (w<(3:Int)))
 (asr (decide ((List.length x)=3))
 (asr (decide ((0+(w.toNat))<(List.length x)))
 (lt (List.getD x (0+(w.toNat)) .nils) (fun l =>
 (asr (conf z4 l)
 (asr (decide ((0:Int)≤vf))
 (asr (decide (vf<(((List.length q):Nat):Int)))
 (lt (List.getD q (vf.toNat) .nils) (fun Z =>
 (asr (conf zI Z)
 (asr (decide ((0:Int)≤(yaa Z)))
 (asr (decide ((yaa Z)<(3:Int)))
 (asr (decide ((List.length x)=3))
 (asr (decide ((0+((yaa Z).toNat))<(List.length x)))
 (lt (List.getD x (0+((yaa Z).toNat)) .nils) (fun h =>
 (asr (conf z4 h)
 (lt (IntKind.i64.wrap ((1:Int)-vf)) (fun vk =>
 (asr (decide ((0:Int)≤vk))
 (asr (decide (vk<(((List.length q):Nat):Int)))
 (lt (List.getD q (vk.toNat) .nils) (fun va =>
 (asr (conf zI va)
 (asr (decide ((0:Int)≤(yaa va)))
 (asr (decide ((yaa va)<(3:Int)))
 (asr (decide ((List.length x)=3))
 (asr (decide ((0+((yaa va).toNat))<(List.length x)))
 (lt (List.getD x (0+((yaa va).toNat)) .nils) (fun d =>
 (asr (conf z4 d)
 (cbr (decide (o=(0:Int)))
 (cbr (decide (a=(0:Int)))
 (y (yaa (yab d 0)) (yaa (yab d 1)) (yaa (yab d 2)) (yaa (yab d 3)) (0:Int) (0:Int) (0:Int) (0:Int) (0:Int) (0:Int) (0:Int) (0:Int))
 (cbr (decide (a=(1:Int)))
 (y (yaa (yab h 0)) (yaa (yab h 1)) (yaa (yab h 2)) (yaa (yab h 3)) (yaa (yab d 0)) (yaa (yab d 1)) (yaa (yab d 2)) (yaa (yab d 3)) (0:Int) (0:Int) (0:Int) (0:Int))
 (cbr (decide (a=(2:Int)))
 (y (yaa (yab h 0)) (yaa (yab h 1)) (yaa (yab h 2)) (yaa (yab h 3)) (0:Int) (0:Int) (0:Int) (0:Int) (yaa (yab d 0)) (yaa (yab d 1)) (yaa (yab d 2)) (yaa (yab d 3)))
 False)))
 (cbr (decide (o=(1:Int)))
 (cbr (decide (a=(0:Int)))
 (y (yaa (yab d 0)) (yaa (yab d 1)) (yaa (yab d 2)) (yaa (yab d 3)) (yaa (yab l 0)) (yaa (yab l 1)) (yaa (yab l 2)) (yaa (yab l 3)) (0:Int) (0:Int) (0:Int) (0:Int))
 (cbr (decide (a=(1:Int)))
 (y (yaa (yab h 0)) (yaa (yab h 1)) (yaa (yab h 2)) (yaa (yab h 3)) (yaa (yab d 0)) (yaa (yab d 1)) (yaa (yab d 2)) (yaa (yab d 3)) (0:Int) (0:Int) (0:Int) (0:Int))
 (cbr (decide (a=(2:Int)))
 (y (yaa (yab h 0)) (yaa (yab h 1)) (yaa (yab h 2)) (yaa (yab h 3)) (yaa (yab l 0)) (yaa (yab l 1)) (yaa (yab l 2)) (yaa (yab l 3)) (yaa (yab d 0)) (yaa (yab d 1)) (yaa (yab d 2)) (yaa (yab d 3)))
 False)))
 (cbr (decide (o=(2:Int)))
 (cbr (decide (a=(0:Int)))
 (y (yaa (yab d 0)) (yaa (yab d 1)) (yaa (yab d 2)) (yaa (yab d 3)) (0:Int) (0:Int) (0:Int) (0:Int) (yaa (yab l 0)) (yaa (yab l 1)) (yaa (yab l 2)) (yaa (yab l 3)))
 (cbr (decide (a=(1:Int)))
 (y (yaa (yab h 0)) (yaa (yab h 1)) (yaa (yab h 2)) (yaa (yab h 3)) (yaa (yab d 0)) (yaa (yab d 1)) (yaa (yab d 2)) (yaa (yab d 3)) (yaa (yab l 0)) (yaa (yab l 1)) (yaa (yab l 2)) (yaa (yab l 3)))
 (cbr (decide (a=(2:Int)))
 (y (yaa (yab h 0)) (yaa (yab h 1)) (yaa (yab h 2)) (yaa (yab h 3)) (0:Int) (0:Int) (0:Int) (0:Int) (yaa (yab d 0)) (yaa (yab d 1)) (yaa (yab d 2)) (yaa (yab d 3)))
 False)))
 False)))))))))))))))))))))))))))))))))))))
 (fun v1 v2 v3 v4 v5 v6 v7 v8 v9 wa wb wc=>(K v1 v2 v3 v4 v5 v6 v7 v8 v9 wa wb wc vZ v0))))))
 (fun w4 z w5 L wd we w6 w7 w8 w9 vaa=>(asr (decide ((List.length L)=(List.length L)))
 (asr (decide ((0+(List.length L))≤(List.length L)))
 (a3 (List.take (List.length L) L) ([(.int .i64 (0:Int)),(.int .i64 (1:Int))]:Ls) (fun vg =>
 (jn (fun (A:Int→Int→Int→Int→Int→Int→Int→Int→Int→Int→Int→Int→Prop) =>
 (asr (decide ((0:Int)≤w))
 (asr (decide (w<(3:Int)))
 (asr (decide ((List.length z)=3))
 (asr (decide ((0+(w.toNat))<(List.length z)))
 (lt (List.getD z (0+(w.toNat)) .nils) (fun m =>
 (asr (conf z4 m)
 (asr (decide ((0:Int)≤vg))
 (asr (decide (vg<(((List.length q):Nat):Int)))
 (lt (List.getD q (vg.toNat) .nils) (fun vb =>
 (asr (conf zI vb)
 (asr (decide ((0:Int)≤(yaa vb)))
 (asr (decide ((yaa vb)<(3:Int)))
 (asr (decide ((List.length z)=3))
 (asr (decide ((0+((yaa vb).toNat))<(List.length z)))
 (lt (List.getD z (0+((yaa vb).toNat)) .nils) (fun i =>
 (asr (conf z4 i)
 (lt (IntKind.i64.wrap ((1:Int)-vg)) (fun vl =>
 (asr (decide ((0:Int)≤vl))
 (asr (decide (vl<(((List.length q):Nat):Int)))
 (lt (List.getD q (vl.toNat) .nils) (fun vc =>
 (asr (conf zI vc)
 (asr (decide ((0:Int)≤(yaa vc)))
 (asr (decide ((yaa vc)<(3:Int)))
 (asr (decide ((List.length z)=3))
 (asr (decide ((0+((yaa vc).toNat))<(List.length z)))
 (lt (List.getD z (0+((yaa vc).toNat)) .nils) (fun e =>
 (asr (conf z4 e)
 (cbr (decide (o=(0:Int)))
 (cbr (decide (a=(0:Int)))
 (A (yaa (yab e 0)) (yaa (yab e 1)) (yaa (yab e 2)) (yaa (yab e 3)) (0:Int) (0:Int) (0:Int) (0:Int) (0:Int) (0:Int) (0:Int) (0:Int))
 (cbr (decide (a=(1:Int)))
 (A (yaa (yab i 0)) (yaa (yab i 1)) (yaa (yab i 2)) (yaa (yab i 3)) (yaa (yab e 0)) (yaa (yab e 1)) (yaa (yab e 2)) (yaa (yab e 3)) (0:Int) (0:Int) (0:Int) (0:Int))
 (cbr (decide (a=(2:Int)))
 (A (yaa (yab i 0)) (yaa (yab i 1)) (yaa (yab i 2)) (yaa (yab i 3)) (0:Int) (0:Int) (0:Int) (0:Int) (yaa (yab e 0)) (yaa (yab e 1)) (yaa (yab e 2)) (yaa (yab e 3)))
 False)))
 (cbr (decide (o=(1:Int)))
 (cbr (decide (a=(0:Int)))
 (A (yaa (yab e 0)) (yaa (yab e 1)) (yaa (yab e 2)) (yaa (yab e 3)) (yaa (yab m 0)) (yaa (yab m 1)) (yaa (yab m 2)) (yaa (yab m 3)) (0:Int) (0:Int) (0:Int) (0:Int))
 (cbr (decide (a=(1:Int)))
 (A (yaa (yab i 0)) (yaa (yab i 1)) (yaa (yab i 2)) (yaa (yab i 3)) (yaa (yab e 0)) (yaa (yab e 1)) (yaa (yab e 2)) (yaa (yab e 3)) (0:Int) (0:Int) (0:Int) (0:Int))
 (cbr (decide (a=(2:Int)))
 (A (yaa (yab i 0)) (yaa (yab i 1)) (yaa (yab i 2)) (yaa (yab i 3)) (yaa (yab m 0)) (yaa (yab m 1)) (yaa (yab m 2)) (yaa (yab m 3)) (yaa (yab e 0)) (yaa (yab e 1)) (yaa (yab e 2)) (yaa (yab e 3)))
 False)))
 (cbr (decide (o=(2:Int)))
 (cbr (decide (a=(0:Int)))
 (A (yaa (yab e 0)) (yaa (yab e 1)) (yaa (yab e 2)) (yaa (yab e 3)) (0:Int) (0:Int) (0:Int) (0:Int) (yaa (yab m 0)) (yaa (yab m 1)) (yaa (yab m 2)) (yaa (yab m 3)))
 (cbr (decide (a=(1:Int)))
 (A (yaa (yab i 0)) (yaa (yab i 1)) (yaa (yab i 2)) (yaa (yab i 3)) (yaa (yab e 0)) (yaa (yab e 1)) (yaa (yab e 2)) (yaa (yab e 3)) (yaa (yab m 0)) (yaa (yab m 1)) (yaa (yab m 2)) (yaa (yab m 3)))
 (cbr (decide (a=(2:Int)))
 (A (yaa (yab i 0)) (yaa (yab i 1)) (yaa (yab i 2)) (yaa (yab i 3)) (0:Int) (0:Int) (0:Int) (0:Int) (yaa (yab e 0)) (yaa (yab e 1)) (yaa (yab e 2)) (yaa (yab e 3)))
 False)))
 False)))))))))))))))))))))))))))))))))))))
 (fun wf wg wh wi wj wk wl wm wn wo wp wq=>(K wf wg wh wi wj wk wl wm wn wo wp wq wd we))))))))
 n vW G H vX vY (0:Int) ([(.agg [(.int .i64 (yaa (yab W 0))),(.int .i64 (yaa (yab W 1))),(.int .i64 (yaa (yab W 2))),(.int .i64 (yaa (yab W 3)))]),(.agg [(.int .i64 (yaa (yab Y 0))),(.int .i64 (yaa (yab Y 1))),(.int .i64 (yaa (yab Y 2))),(.int .i64 (yaa (yab Y 3)))])]:Ls) (2:Int) (0:Int)))))))))))))))))))))))))))))))
 n I ([(.agg [(.int .i64 p15),(.int .i64 p16),(.int .i64 B),(.int .i64 C)]),(.agg [(.int .i64 B),(.int .i64 C),(.int .i64 D),(.int .i64 E)]),(.agg [(.int .i64 D),(.int .i64 E),(.int .i64 p17),(.int .i64 p18)])]:Ls) vp vq o (3:Int) (0:Int))))))))))))
 n p0 p1 a ([(.agg [(.int .i64 p15),(.int .i64 p16),(.int .i64 p17),(.int .i64 p18)])]:Ls) (1:Int) (0:Int))))
def yag:yaE:=yej yam yac yad yal yah
def ycV (w:yaE) (az:Ls) (b:HB) (K:PV→Ls→Prop):Prop :=
 match az,b with
 | [(.ptr 0 1 0 0),(.agg [(.int .i64 p2),(.int .i64 p3),(.int .i64 p4),(.int .i64 p5),(.int .i64 p6),(.int .i64 p7),(.int .i64 p8),(.int .i64 p9),(.int .i64 p10),(.int .i64 p11),(.int .i64 p12),(.int .i64 p13),(.int .i64 p14),(.int .i64 p15),(.int .i64 p16),(.int .i64 p17),(.int .i64 p18),(.int .i64 p19),(.int .i64 p20),(.int .i64 p21)])],⟨false,true,2,[(.agg [(.data p0),(.data p1)])]⟩=>w p0 p1 p2 p3 p4 p5 p6 p7 p8 p9 p10 p11 p12 p13 p14 p15 p16 p17 p18 p19 p20 p21 (fun r0 r1 r2 r3 r4 r5 r6 r7 r8 r9 r10 r11 r12 r13=>K (.agg [(.int .i64 r0),(.int .i64 r1),(.int .i64 r2),(.int .i64 r3),(.int .i64 r4),(.int .i64 r5),(.int .i64 r6),(.int .i64 r7),(.int .i64 r8),(.int .i64 r9),(.int .i64 r10),(.int .i64 r11)]) [(.agg [(.data r12),(.data r13)])])
 | _,_=>False
def yhe (az:Ls) (b:HB) (K:PV→Ls→Prop):Prop:=ycV yag az b K
def yjS (Q:Qx):Ls→Ls→Int→Ls→Int→Int→Bool→Prop:=(fun l0 l1 i2 l3 i4 i5 b6=>Q (.exit 0) [(0,.v (.ptr 0 1 0 0)),(1,.v (.int .i64 i2)),(7,.v .nils),(13,.v (.data l3)),(14,.v (.int .i64 i4)),(15,.v (.int .i64 i5)),(16,.v (.bool b6))] [⟨false,true,2,([(.agg [(.data l0),(.data l1)])]:Ls)⟩])
def yfB (Q:Qx):Ls→Ls→Ls→Int→Ls→Int→Int→Bool→Prop:=(fun l0 l1 l2 i3 l6 i7 i8 b9=>Q (.exit 0) [(0,.v (.ptr 0 1 0 0)),(1,.v (.int .i64 i3)),(7,.v (.own 1 0 (List.length l0) (List.length l0) none)),(13,.v (.data l6)),(14,.v (.int .i64 i7)),(15,.v (.int .i64 i8)),(16,.v (.bool b9))] [⟨false,true,2,([(.agg [(.data l1),(.data l2)])]:Ls)⟩,⟨false,true,2,l0⟩])
def yjT (Q:Qx):Ls→Ls→Ls→Ls→Int→Int→Int→Bool→Prop:=(fun l0 l1 l2 l3 i4 i8 i9 b10=>Q (.exit 0) [(0,.v (.ptr 0 1 0 0)),(1,.v (.int .i64 i4)),(7,.v .nils),(13,.v (.own 2 0 (List.length l1) (List.length l1) (some (List.length l1)))),(14,.v (.int .i64 i8)),(15,.v (.int .i64 i9)),(16,.v (.bool b10))] [⟨false,true,2,([(.agg [(.data l2),(.data l3)])]:Ls)⟩,⟨false,true,2,l0⟩,⟨false,true,4,l1⟩])
def yfC (Q:Qx):Ls→Ls→Ls→Ls→Ls→Int→Int→Int→Bool→Prop:=(fun l0 l1 l2 l3 l4 i5 i11 i12 b13=>Q (.exit 0) [(0,.v (.ptr 0 1 0 0)),(1,.v (.int .i64 i5)),(7,.v (.own 3 0 (List.length l2) (List.length l2) none)),(13,.v (.own 2 0 (List.length l1) (List.length l1) (some (List.length l1)))),(14,.v (.int .i64 i11)),(15,.v (.int .i64 i12)),(16,.v (.bool b13))] [⟨false,true,2,([(.agg [(.data l3),(.data l4)])]:Ls)⟩,⟨false,true,2,l0⟩,⟨false,true,4,l1⟩,⟨false,true,2,l2⟩])
def yjU (Q:Qx):Ls→Ls→Ls→Ls→Int→Ls→Int→Int→Bool→Prop:=(fun l0 l1 l2 l3 i4 l5 i6 i7 b8=>Q (.exit 0) [(0,.v (.ptr 0 1 0 0)),(1,.v (.int .i64 i4)),(7,.v .nils),(13,.v (.data l5)),(14,.v (.int .i64 i6)),(15,.v (.int .i64 i7)),(16,.v (.bool b8))] [⟨false,true,2,([(.agg [(.data l2),(.data l3)])]:Ls)⟩,⟨false,true,2,l0⟩,⟨false,true,4,l1⟩])
def yfD (Q:Qx):Ls→Ls→Ls→Ls→Ls→Int→Ls→Int→Int→Bool→Prop:=(fun l0 l1 l2 l3 l4 i5 l8 i9 i10 b11=>Q (.exit 0) [(0,.v (.ptr 0 1 0 0)),(1,.v (.int .i64 i5)),(7,.v (.own 3 0 (List.length l2) (List.length l2) none)),(13,.v (.data l8)),(14,.v (.int .i64 i9)),(15,.v (.int .i64 i10)),(16,.v (.bool b11))] [⟨false,true,2,([(.agg [(.data l3),(.data l4)])]:Ls)⟩,⟨false,true,2,l0⟩,⟨false,true,4,l1⟩,⟨false,true,2,l2⟩])
def yjV (Q:Qx):Ls→Ls→Ls→Ls→Ls→Int→Ls→Int→Int→Bool→Prop:=(fun l0 l1 l2 l3 l4 i5 l6 i7 i8 b9=>Q (.exit 0) [(0,.v (.ptr 0 1 0 0)),(1,.v (.int .i64 i5)),(7,.v .nils),(13,.v (.data l6)),(14,.v (.int .i64 i7)),(15,.v (.int .i64 i8)),(16,.v (.bool b9))] [⟨false,true,2,([(.agg [(.data l3),(.data l4)])]:Ls)⟩,⟨false,true,2,l0⟩,⟨false,true,4,l1⟩,⟨false,true,2,l2⟩])
def yfE (Q:Qx):Ls→Ls→Ls→Ls→Ls→Ls→Int→Ls→Int→Int→Bool→Prop:=(fun l0 l1 l2 l3 l4 l5 i6 l9 i10 i11 b12=>Q (.exit 0) [(0,.v (.ptr 0 1 0 0)),(1,.v (.int .i64 i6)),(7,.v (.own 4 0 (List.length l3) (List.length l3) none)),(13,.v (.data l9)),(14,.v (.int .i64 i10)),(15,.v (.int .i64 i11)),(16,.v (.bool b12))] [⟨false,true,2,([(.agg [(.data l4),(.data l5)])]:Ls)⟩,⟨false,true,2,l0⟩,⟨false,true,4,l1⟩,⟨false,true,2,l2⟩,⟨false,true,2,l3⟩])
def pt46:HPt:=hB false true 2 pt38 (hB false true 2 rA pt22)
def pt47:Pat Frm:=fV 13 (vO 2 (nK 0) (nT 2) (nT 2) (nT 2)) pt34
def pt48:HPt:=hB false true 2 pt38 (hB false true 2 rA (hB false true 4 rA pt32))
def pt49:VPt:=vW 4 (nK 0) (nT 4) (nT 4)
def yf3 (a0:ya1) (a1:yaY) (a2:yaw) (a3:yau) (a4:yaB) (Q:Qx):List St:=[⟨(pS (hB false true 2 pt38 hN) pt42 fN),ycd a0 a1 a2 a3 a4 (yjS Q) (yfB Q)⟩,⟨(pS (hB false true 2 pt38 pt32) (fV 0 pt19 (fV 1 pt0 (fV 7 pt25 pt35))) fN),fun n l1 l2 l0 i3 l6 i7 i8=>yby a0 a1 a2 a3 a4 (yfB Q) n l0 l1 l2 i3 l6 i7 i8⟩,⟨(pS pt46 (fV 0 pt19 (fV 1 pt0 (fV 7 vNs pt47))) fN),fun n l2 l3 l0 l1 i4 i8 i9=>yce a0 a1 a2 a3 a4 (yjT Q) (yfC Q) n l0 l1 l2 l3 i4 i8 i9⟩,⟨(pS pt48 (fV 0 pt19 (fV 1 pt0 (fV 7 pt45 pt47))) fN),fun n l3 l4 l0 l1 l2 i5 i11 i12=>yaQ a0 a1 a2 a3 a4 (yfC Q) n l0 l1 l2 l3 l4 i5 i11 i12⟩,⟨(pS pt46 pt42 fN),fun n l2 l3 l0 l1 i4 l5 i6 i7=>yfA a0 a1 a2 a3 a4 (yjU Q) (yfD Q) n l0 l1 l2 l3 i4 l5 i6 i7⟩,⟨(pS pt48 (fV 0 pt19 (fV 1 pt0 (fV 7 pt45 pt35))) fN),fun n l3 l4 l0 l1 l2 i5 l8 i9 i10=>yde a0 a1 a2 a3 a4 (yfD Q) n l0 l1 l2 l3 l4 i5 l8 i9 i10⟩,⟨(pS pt48 pt42 fN),fun n l3 l4 l0 l1 l2 i5 l6 i7 i8=>ycf a0 a1 a2 a3 a4 (yjV Q) (yfE Q) n l0 l1 l2 l3 l4 i5 l6 i7 i8⟩,⟨(pS (hB false true 2 pt38 (hB false true 2 rA (hB false true 4 rA (hB false true 2 rA pt32)))) (fV 0 pt19 (fV 1 pt0 (fV 7 pt49 pt35))) fN),fun n l4 l5 l0 l1 l2 l3 i6 l9 i10 i11=>ya4 a0 a1 a2 a3 a4 (yfE Q) n l0 l1 l2 l3 l4 l5 i6 l9 i10 i11⟩]
def yek (a0:ya1) (a1:yaY) (a2:yaw) (a3:yau) (a4:yaB):LP:=lpS [(38310000,yf3 a0 a1 a2 a3 a4)]
def yhf (e:Es) (a0:ya1) (a1:yaY) (a2:yaw) (a3:yau) (a4:yaB):SE:=⟨(E e),yfU [(yeW,yvR.pw a0),(ya3,yk1.pw a1),(ydy,yvY.pw a3),(ycM,yip.pw a4)],yfV [],yek a0 a1 a2 a3 a4,yln [(ybq,ybx a2)]⟩
def yhg (e:Es) (a0:ya1) (a1:yaY) (a2:yaw) (a3:yau) (a4:yaB):SE:=⟨(E e),yfU [(yeW,yvR.pw a0),(ya3,yk1.pw a1),(ydy,yvY.pw a3),(ycM,yip.pw a4)],yfV [(yeX,ye1)],yek a0 a1 a2 a3 a4,yln [(ybq,ybx a2)]⟩
theorem ylJ (e:Es) (he:EG e):SEOk (Uni (E e)) (yhf e yam yac yad yal yah):=yh5 (Sub.uni _) ⟨(yg7 e he),(ybm e he),(yff e he),(ydR e he),trivial⟩ trivial he.ok ⟨(ycU e he),trivial⟩
theorem yjH (e:Es) (a0 a1 a2 a3 a4):ybS (yhf e a0 a1 a2 a3 a4) 5 a yhC false (yf3 a0 a1 a2 a3 a4):=fun _=>⟨fun _=>by kernel_rfl,fun _ _=>by kernel_rfl,fun _=>by kernel_rfl,fun _ _=>by kernel_rfl,fun _=>by kernel_rfl,fun _ _=>by kernel_rfl,fun _=>by kernel_rfl,fun _ _=>by kernel_rfl,fun _=>by kernel_rfl,fun _ _=>by kernel_rfl,fun _=>by kernel_rfl,fun _ _=>by kernel_rfl,fun _=>by kernel_rfl,fun _ _=>by kernel_rfl,fun _=>by kernel_rfl,fun _ _=>by kernel_rfl,trivial⟩
theorem yjI (e:Es) (he:EG e):LpT (Uni (E e)) (yek yam yac yad yal yah) [] 38310000 (.loop 38310000 yhC):=fun _ _ _=>yn7.st (Sub.uni _) (yaU (ylJ e he) 5) (YOk.no _ _) (yat (by kernel_rfl)) (yjH e _ _ _ _ _ _)
theorem ylK (e:Es) (he:EG e):SEOk (Uni (E e)) (yhg e yam yac yad yal yah):=yh5 (Sub.uni _) ⟨(yg7 e he),(ybm e he),(yff e he),(ydR e he),trivial⟩ ⟨⟨by kernel_rfl,by kernel_rfl,rfl,fun az=>ybR (by kernel_rfl) az,he.num _ (by kernel_rfl),by kernel_rfl,(yba (l:=[(38310000,.loop 38310000 yhC)]) ⟨yjI e he,trivial⟩ (by kernel_rfl))⟩,trivial⟩ he.ok ⟨(ycU e he),trivial⟩
theorem ym3 (e:Es) (a0 a1 a2 a3 a4 p0 p1 p2 p3 p4 p5 p6 p7 p8 p9 p10 p11 p12 p13 p14 p15 p16 p17 p18 p19 p20 p21 K):WPL (yhg e a0 a1 a2 a3 a4) 6 ynI [(.ptr 0 1 0 0),(.agg [(.int .i64 p2),(.int .i64 p3),(.int .i64 p4),(.int .i64 p5),(.int .i64 p6),(.int .i64 p7),(.int .i64 p8),(.int .i64 p9),(.int .i64 p10),(.int .i64 p11),(.int .i64 p12),(.int .i64 p13),(.int .i64 p14),(.int .i64 p15),(.int .i64 p16),(.int .i64 p17),(.int .i64 p18),(.int .i64 p19),(.int .i64 p20),(.int .i64 p21)])] ⟨false,true,2,[(.agg [(.data p0),(.data p1)])]⟩ K=yej a0 a1 a2 a3 a4 p0 p1 p2 p3 p4 p5 p6 p7 p8 p9 p10 p11 p12 p13 p14 p15 p16 p17 p18 p19 p20 p21 (fun r0 r1 r2 r3 r4 r5 r6 r7 r8 r9 r10 r11 r12 r13=>K (.agg [(.int .i64 r0),(.int .i64 r1),(.int .i64 r2),(.int .i64 r3),(.int .i64 r4),(.int .i64 r5),(.int .i64 r6),(.int .i64 r7),(.int .i64 r8),(.int .i64 r9),(.int .i64 r10),(.int .i64 r11)]) [(.agg [(.data r12),(.data r13)])]):=by kernel_rfl
theorem yhh (e:Es) (he:EG e):OkL (E e) yhe ych:=by
 intro az b K h
 unfold yhe ycV at h
 split at h
 ·exact yx0 (ylK e he) ynj.flat (yat (by kernel_rfl)) (by kernel_rfl) (he.num _ (by kernel_rfl)) ((ym3 ..).mpr h)
 ·exact h.elim
abbrev yaF:Type:=Ls→Int→(Ls→Prop)→Prop
def ygA (p0:Ls) (p1:Int) (K:Ls→Prop):Prop :=
 (cbr (p1 !=(0:Int))
 False
 (K p0))
def yae:yaF:=ygA
def ylL:Sg:=⟨(lC vD pt1),Ls→Prop,fun K=>(fun r0=>K (.data r0))⟩
def ylM (e:Es):SE:=sE (E e) [] lp0
theorem ylN (e:Es):EqW (ylM e) 6 ymk ylL ygA:=fun _ _=>by kernel_rfl
theorem ygB (e:Es) (he:EG e):OkF (E e) (ylL.pw yae) ybT:=okU he (ylN e) (yaz (Sub.uni _) trivial trivial he.ok) ynj.flat (yat (by kernel_rfl))
abbrev ydv:Type:=Ls→(Ls→Int→Int→Int→Int→Int→Int→Int→Int→Int→Int→Int→Int→Int→Int→Int→Int→Int→Int→Int→Int→Ls→Int→Prop)→Prop
end Go.Pf.Vc
